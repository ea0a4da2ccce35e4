/- Leaves, rules, polygons turned and set; no condition. -/
import Derived.Test.YtgcioclfplafkaaGreatC02
set_option linter.all false
section
namespace Go.Proofs.YtgcioclfplafkaaGreatV
open Go Go.RowKit
abbrev Bx := Int × Int × Int × Int
abbrev Lf := ByteArray × ByteArray × Int × ByteArray × Int × Int × Int × Int × List Bx
abbrev Pl := Int × Int × Int × Int × Int
def lf0 : Lf := (ByteArray.empty, ByteArray.empty, 0, ByteArray.empty, 0, 0, 0, 0, [])
def bx0 : Bx := (0, 0, 0, 0)
def pl0 : Pl := (0, 0, 0, 0, 0)
theorem dfL : dflt (.pair .str (.pair .str (.pair (.int .i64) (.pair .str (.pair (.int .i64) (.pair (.int .i64) (.pair (.int .i64) (.pair (.int .i64) (.sl (.pair (.int .i64) (.pair (.int .i64) (.pair (.int .i64) (.int .i64))))))))))))) = lf0 := rfl
theorem dfB : dflt (.pair (.int .i64) (.pair (.int .i64) (.pair (.int .i64) (.int .i64)))) = bx0 := rfl
theorem dfQ : dflt (.pair (.int .i64) (.pair (.int .i64) (.pair (.int .i64) (.pair (.int .i64) (.int .i64))))) = pl0 := rfl
theorem modify_const {α : Type} (xs : List α) (i : Nat) (c : α) : (xs.modify i fun _ => c) = xs.set i c := modify_set _ _ _ _ (fun _ => rfl)
theorem set_foldA {α : Type} (d : α) (f : Nat → α) : ∀ (n i : Nat) (ys : List α), i + n = ys.length → (∀ j, j < i → ys.getD j d = f j) → (List.range' i n).foldl (fun s i => s.set i (f i)) ys = (List.range ys.length).map f
 | 0, i, ys, hi, hj => by
  simp only [List.range'_zero, List.foldl_nil]
  apply List.ext_getElem (by simp)
  intro q h1 h2
  have := hj q (by omega)
  rw [List.getD_eq_getElem?_getD, List.getElem?_eq_getElem h1, Option.getD_some] at this
  rw [this, List.getElem_map, List.getElem_range]
 | n + 1, i, ys, hi, hj => by
  simp only [List.range'_succ, List.foldl_cons]
  rw [set_foldA d f n (i + 1) _ (by simp; omega) (fun j hji => ?_), List.length_set]
  rw [List.getD_eq_getElem?_getD, List.getElem?_set]
  by_cases e : i = j
  ·subst e
   rw [if_pos rfl, if_pos (by omega)]; rfl
  ·rw [if_neg e, ← List.getD_eq_getElem?_getD]
   exact hj j (by omega)
section
variable {k : Nat}
theorem toBoxS_eq (xs : List Bx) (hl : xs.length ≤ 1048576) (hk : 1048577 < k) : laws_toBoxS k xs = some xs := by
 have h := runF (fun g i s => laws_toBoxS_3 k g (xs, (i : Int), s)) xs.length (fun i s => s.set i (xs.getD i bx0)) id (fun i s => s.length = xs.length) (fun g s hv => by simp only [laws_toBoxS_3, dge (Nat.le_refl _), cond_false]; rfl)
  (fun g i s hi hv => by simp only [laws_toBoxS_3, laws_toBox, dlt hi, d0, hv, cond_true, Option.bind_some, rd_nat, w64_s hi (by omega), Int.toNat_natCast, dfB, modify_const]) (fun i s hi hv => by simpa using hv) xs.length k 0 (List.replicate xs.length bx0) (by omega) (by omega) (by simp)
 rw [set_fold bx0 xs xs.length 0 _ (by simp) (by omega) (fun j hj => by omega)] at h
 unfold laws_toBoxS
 simp only [Int.toNat_natCast]
 rw [decide_eq_true (by omega), decide_eq_true (by omega), decide_eq_true (by omega), dfB]
 simp only [cond_true]
 simp only [z0, id] at h
 rw [h]; rfl
structure SmallL (L : List Lf) : Prop where
 l : L.length ≤ 1048576
 d : ∀ x ∈ L, x.2.2.2.2.2.2.2.2.length ≤ 1048576
theorem toLeafS_eq {L : List Lf} (hs : SmallL L) (hk : 1048577 < k) : laws_toLeafS k L = some L := by
 have h := runF (fun g i s => laws_toLeafS_3 k g (L, (i : Int), s)) L.length (fun i s => s.set i (L.getD i lf0)) id (fun i s => s.length = L.length) (fun g s hv => by simp only [laws_toLeafS_3, dge (Nat.le_refl _), cond_false]; rfl)
  (fun g i s hi hv => by
   simp only [laws_toLeafS_3, laws_toLeaf, laws_toVeneer, dlt hi, d0, hv, cond_true, rd_nat, dfL]
   rw [toBoxS_eq _ (hs.d _ (getD_mem hi)) hk]
   have := hs.l
   simp only [Option.bind_some, w64_s hi (by omega), Int.toNat_natCast]) (fun i s hi hv => by simpa using hv) L.length k 0 (List.replicate L.length lf0) (by omega) (by have := hs.l; omega) (by simp)
 rw [set_fold lf0 L L.length 0 _ (by simp) (by omega) (fun j hj => by omega)] at h
 unfold laws_toLeafS
 have := hs.l
 simp only [Int.toNat_natCast]
 rw [decide_eq_true (by omega), decide_eq_true (by omega), decide_eq_true (by omega), dfL]
 simp only [cond_true]
 simp only [z0, id] at h
 rw [h]; rfl
theorem eqBoxS_self (xs : List Bx) (hl : xs.length ≤ 1048576) (hk : 1048577 < k) : laws_eqBoxS k (xs, xs) = some true := by
 have h := runS (fun g i => laws_eqBoxS_4 k g (xs, xs, (i : Int))) xs.length (fun _ => false) (fun _ => .inr false) (.inl ()) (fun g => by simp only [laws_eqBoxS_4, dge (Nat.le_refl _), cond_false])
  (fun g i hi => by simp only [laws_eqBoxS_4, laws_eqBox, dlt hi, d0, cond_true, bne_self_eq_false, cond_false, w64_s hi (by omega), Option.bind_some, Bool.not_true]) xs.length k 0 (by omega) (by omega)
 rw [find_any, any_f, cond_false] at h
 unfold laws_eqBoxS
 simp only [z0] at h
 simp only [bne_self_eq_false, cond_false]
 rw [h]
 rfl
theorem eqPlacementS_self (xs : List Pl) (hl : xs.length ≤ 1048576) (hk : 1048577 < k) : laws_eqPlacementS k (xs, xs) = some true := by
 have h := runS (fun g i => laws_eqPlacementS_4 k g (xs, xs, (i : Int))) xs.length (fun _ => false) (fun _ => .inr false) (.inl ()) (fun g => by simp only [laws_eqPlacementS_4, dge (Nat.le_refl _), cond_false])
  (fun g i hi => by simp only [laws_eqPlacementS_4, laws_eqPlacement, dlt hi, d0, cond_true, bne_self_eq_false, cond_false, w64_s hi (by omega), Option.bind_some, Bool.not_true]) xs.length k 0 (by omega) (by omega)
 rw [find_any, any_f, cond_false] at h
 unfold laws_eqPlacementS
 simp only [z0] at h
 simp only [bne_self_eq_false, cond_false]
 rw [h]
 rfl
theorem eqLeafS_self {L : List Lf} (hs : SmallL L) (hk : 1048577 < k) : laws_eqLeafS k (L, L) = some true := by
 have hl := hs.l
 have h := runS (fun g i => laws_eqLeafS_4 k g (L, L, (i : Int))) L.length (fun _ => false) (fun _ => .inr false) (.inl ()) (fun g => by simp only [laws_eqLeafS_4, dge (Nat.le_refl _), cond_false])
  (fun g i hi => by
   simp only [laws_eqLeafS_4, laws_eqLeaf, laws_eqVeneer, dlt hi, d0, cond_true, beq_self_eq_true, bne_self_eq_false, Bool.not_true, cond_false, w64_s hi (by omega), rd_nat, dfL, Option.bind_some]
   rw [eqBoxS_self _ (hs.d _ (getD_mem hi)) hk]
   simp only [Option.bind_some, Bool.not_true, cond_false]) L.length k 0 (by omega) (by omega)
 rw [find_any, any_f, cond_false] at h
 unfold laws_eqLeafS
 simp only [z0] at h
 simp only [bne_self_eq_false, cond_false]
 rw [h]
 rfl
structure LimL (f : Lf) : Prop where
 a : f.1.size ≤ 9223372036854775807
 b : f.2.1.size ≤ 9223372036854775807
 c : f.2.2.2.1.size ≤ 9223372036854775807
 d : f.2.2.2.2.2.2.2.2.length ≤ 9223372036854775807
theorem szLeaf_ok (f : Lf) (l : Int) (h0 : 0 ≤ l) (h1 : l ≤ 1048576) (hf : LimL f) : ∃ y, laws_szLeaf k (f.1, f.2.1, f.2.2.1, f.2.2.2.1, f.2.2.2.2.1, f.2.2.2.2.2.1, f.2.2.2.2.2.2.1, f.2.2.2.2.2.2.2.1, f.2.2.2.2.2.2.2.2, l) = some y ∧ y ≤ l ∧ (0 ≤ y → f.2.2.2.2.2.2.2.2.length ≤ 1048576) := by
 obtain ⟨ha, hb, hc, hd⟩ := hf
 obtain ⟨x1, x2, x3, x4, x5, x6, x7, x8, x9⟩ := f
 simp only at ha hb hc hd ⊢
 unfold laws_szLeaf laws_szVeneer laws_szBoxS
 simp only [w64_id (x := l - x1.size) (by omega) (by omega)]
 by_cases g1 : l - (x1.size : Int) < 0
 ·rw [decide_eq_true g1]; exact ⟨-1, rfl, by omega, by omega⟩
 ·rw [decide_eq_false g1]
  simp only [cond_false, w64_id (x := l - x1.size - x2.size) (by omega) (by omega)]
  by_cases g2 : l - (x1.size : Int) - x2.size < 0
  ·rw [decide_eq_true g2]; exact ⟨-1, rfl, by omega, by omega⟩
  ·rw [decide_eq_false g2]
   simp only [cond_false, w64_id (x := l - x1.size - x2.size - x4.size) (by omega) (by omega)]
   by_cases g3 : l - (x1.size : Int) - x2.size - x4.size < 0
   ·rw [decide_eq_true g3]; exact ⟨-1, rfl, by omega, by omega⟩
   ·rw [decide_eq_false g3]
    simp only [cond_false, Option.bind_some]
    rw [decide_eq_false g3]
    simp only [cond_false, w64_id (x := l - x1.size - x2.size - x4.size - x9.length) (by omega) (by omega)]
    by_cases g4 : l - (x1.size : Int) - x2.size - x4.size - x9.length < 0
    ·rw [decide_eq_true g4]; exact ⟨-1, rfl, by omega, by omega⟩
    ·rw [decide_eq_false g4]
     simp only [cond_false, Option.bind_some]
     rw [decide_eq_false g4]
     exact ⟨_, rfl, by omega, by omega⟩
theorem szLeafS_loop (xs : List Lf) (hx : xs.length ≤ 1048576) (hf : ∀ f ∈ xs, LimL f) : ∀ (d g i : Nat) (l : Int), i + d = xs.length → d < g → 0 ≤ l → l ≤ 1048576 →
  ∃ r, laws_szLeafS_5 k g (xs, l, (i : Int)) = some r ∧ match r with | .inl y => 0 ≤ y ∧ y ≤ l ∧ ∀ j, i ≤ j → j < xs.length → (xs.getD j lf0).2.2.2.2.2.2.2.2.length ≤ 1048576 | .inr y => y = -1
 | 0, g + 1, i, l, h, _, h0, h1 => by
  have : i = xs.length := by omega
  subst this
  refine ⟨.inl l, by simp only [laws_szLeafS_5, dge (Nat.le_refl _), cond_false], h0, by omega, fun j hj hj2 => by omega⟩
 | d + 1, g + 1, i, l, h, hg, h0, h1 => by
  have hi : i < xs.length := by omega
  obtain ⟨y, hy, hy1, hy2⟩ := szLeaf_ok (k := k) (xs.getD i lf0) l h0 h1 (hf _ (getD_mem hi))
  simp only [laws_szLeafS_5, dlt hi, d0, cond_true, rd_nat, dfL, hy, Option.bind_some]
  by_cases hn : y < 0
  ·rw [decide_eq_true hn]; exact ⟨.inr (-1), rfl, rfl⟩
  ·rw [decide_eq_false hn]
   simp only [cond_false, w64_s hi (by omega)]
   obtain ⟨r, hr, hr2⟩ := szLeafS_loop xs hx hf d g (i + 1) y (by omega) (by omega) (by omega) (by omega)
   refine ⟨r, hr, ?_⟩
   cases r with
   | inl z =>
    obtain ⟨a, b, c⟩ := hr2
    refine ⟨a, by omega, fun j hj hj2 => ?_⟩
    by_cases e : j = i
    ·subst e; exact hy2 (by omega)
    ·exact c j (by omega) hj2
   | inr z => exact hr2
 | _, 0, _, _, _, hg, _, _ => by omega
theorem szLeafS_ok (xs : List Lf) (l : Int) (h0 : 0 ≤ l) (h1 : l ≤ 1048576) (hx : xs.length ≤ 9223372036854775807) (hf : ∀ f ∈ xs, LimL f) (hk : 1048577 < k) : ∃ y, laws_szLeafS k (xs, l) = some y ∧ (0 ≤ y → SmallL xs) := by
 unfold laws_szLeafS
 simp only [w64_id (x := l - xs.length) (by omega) (by omega)]
 by_cases h : l - (xs.length : Int) < 0
 ·rw [decide_eq_true h]; exact ⟨-1, rfl, by omega⟩
 ·rw [decide_eq_false h]
  simp only [cond_false]
  obtain ⟨r, hr, hr2⟩ := szLeafS_loop (k := k) xs (by omega) hf xs.length k 0 (l - xs.length) (by omega) (by omega) (by omega) (by omega)
  simp only [z0] at hr
  rw [hr]
  cases r with
  | inl y =>
   obtain ⟨a, b, c⟩ := hr2
   refine ⟨y, rfl, fun _ => ⟨by omega, fun f hf => ?_⟩⟩
   obtain ⟨j, hj, e⟩ := List.getElem_of_mem hf
   have := c j (by omega) hj
   rw [List.getD_eq_getElem?_getD, List.getElem?_eq_getElem hj, Option.getD_some, e] at this
   exact this
  | inr y =>
   have hr2 : y = -1 := hr2
   exact ⟨y, rfl, by omega⟩
theorem modify_len {α : Type} (xs : List α) (i : Nat) (f : α → α) : (xs.modify i f).length = xs.length := List.length_modify ..
theorem markBoxS_loop (n : Nat) (hn : n ≤ 1048576) : ∀ (d g i : Nat) (c : Int) (xs : List Bx), i + d = n → xs.length = n → d < g → 0 ≤ c → c + 4 * d ≤ 100000000000000000 → ∃ ys, laws_markBoxS_2 k g (c, (i : Int), xs) = some (c + 4 * d, ys) ∧ ys.length = n
 | 0, g + 1, i, c, xs, h, hl, _, h0, h1 => by
  have : i = n := by omega
  subst this
  exact ⟨xs, by simp only [laws_markBoxS_2, hl, dge (Nat.le_refl _), cond_false]; simp, hl⟩
 | d + 1, g + 1, i, c, xs, h, hl, hg, h0, h1 => by
  have hi : i < n := by omega
  simp only [laws_markBoxS_2, modify_len, hl, dlt hi, d0, cond_true, w64_s hi (by omega), Int.toNat_natCast]
  rw [w64_1 (x := c) (by omega) (by omega), w64_1 (x := c + 1) (by omega) (by omega), w64_1 (x := c + 1 + 1) (by omega) (by omega), w64_1 (x := c + 1 + 1 + 1) (by omega) (by omega)]
  rw [show c + 4 * ((d + 1 : Nat) : Int) = c + 1 + 1 + 1 + 1 + 4 * (d : Int) by omega]
  exact markBoxS_loop n hn d g (i + 1) (c + 1 + 1 + 1 + 1) _ (by omega) (by simp only [modify_len, hl]) (by omega) (by omega) (by omega)
 | _, 0, _, _, _, _, _, hg, _, _ => by omega
theorem markBoxS_ok (xs : List Bx) (c : Int) (h0 : 0 ≤ c) (h1 : c ≤ 10000000000000000) (hl : xs.length ≤ 1048576) (hk : 1048577 < k) : ∃ ys, laws_markBoxS k (xs, c) = some (c + 4 * xs.length, ys) ∧ ys.length = xs.length := by
 obtain ⟨ys, hy, hy2⟩ := markBoxS_loop (k := k) xs.length hl xs.length k 0 c xs (by omega) rfl (by omega) h0 (by omega)
 simp only [z0] at hy
 exact ⟨ys, by unfold laws_markBoxS; simp only [hy]; rfl, hy2⟩
def defs (x : Lf) : List Bx := x.2.2.2.2.2.2.2.2
def DefOK (xs : List Lf) : Prop := ∀ j, j < xs.length → (defs (xs.getD j lf0)).length ≤ 1048576
theorem defOK_modify {xs : List Lf} (h : DefOK xs) (i : Nat) (f : Lf → Lf) (hf : ∀ x, (defs x).length ≤ 1048576 → (defs (f x)).length ≤ 1048576) : DefOK (xs.modify i f) := by
 intro j hj
 rw [modify_len] at hj
 have := h j hj
 rw [List.getD_eq_getElem?_getD, List.getElem?_modify]
 rw [List.getD_eq_getElem?_getD] at this
 rw [List.getElem?_eq_getElem hj] at this ⊢
 by_cases e : i = j
 ·simp only [e, if_pos, Option.map_eq_map, Option.map_some, Option.getD_some] at this ⊢
  exact hf _ this
 ·simpa [e] using this
theorem markLeafS_loop (n : Nat) (hn : n ≤ 1048576) (hk : 1048577 < k) : ∀ (d g i : Nat) (c : Int) (xs : List Lf), i + d = n → xs.length = n → DefOK xs → d < g → 0 ≤ c → c + 5000000 * d ≤ 10000000000000000 → ∃ y ys, laws_markLeafS_2 k g (c, (i : Int), xs) = some (y, ys) ∧ 0 ≤ y
 | 0, g + 1, i, c, xs, h, hl, _, _, h0, h1 => by
  have : i = n := by omega
  subst this
  exact ⟨c, xs, by simp only [laws_markLeafS_2, hl, dge (Nat.le_refl _), cond_false], h0⟩
 | d + 1, g + 1, i, c, xs, h, hl, hd, hg, h0, h1 => by
  have hi : i < n := by omega
  obtain ⟨t0, ht0⟩ := markText_ok (k := k) c h0 (by omega) hk
  obtain ⟨t1, ht1⟩ := markText_ok (k := k) (c + 1) (by omega) (by omega) hk
  obtain ⟨t2, ht2⟩ := markText_ok (k := k) (c + 1 + 1 + 1) (by omega) (by omega) hk
  have e1 := w64_1 (x := c) (by omega) (by omega)
  have e2 := w64_1 (x := c + 1) (by omega) (by omega)
  have e3 := w64_1 (x := c + 1 + 1) (by omega) (by omega)
  have e4 := w64_1 (x := c + 1 + 1 + 1) (by omega) (by omega)
  have e5 := w64_1 (x := c + 1 + 1 + 1 + 1) (by omega) (by omega)
  have e6 := w64_1 (x := c + 1 + 1 + 1 + 1 + 1) (by omega) (by omega)
  have e7 := w64_1 (x := c + 1 + 1 + 1 + 1 + 1 + 1) (by omega) (by omega)
  have e8 := w64_1 (x := c + 1 + 1 + 1 + 1 + 1 + 1 + 1) (by omega) (by omega)
  simp only [laws_markLeafS_2, modify_len, hl, dlt hi, d0, cond_true, w64_s hi (by omega), Int.toNat_natCast, ht0, ht1, ht2, e1, e2, e3, e4, e5, e6, e7, e8, Option.bind_some, dfL]
  generalize hX : List.modify _ i _ = X
  have hXl : X.length = n := by rw [← hX]; simp only [modify_len, hl]
  have hXd : DefOK X := by
   rw [← hX]
   repeat' (first | exact hd | refine defOK_modify ?_ _ _ ?_ | exact fun _ h => h)
  have hb := hXd i (by omega)
  obtain ⟨ys, hys, hyl⟩ := markBoxS_ok (k := k) (defs (X.getD i lf0)) (c + 1 + 1 + 1 + 1 + 1 + 1 + 1 + 1) (by omega) (by omega) hb hk
  have hys2 : laws_markBoxS k ((X.getD i lf0).2.2.2.2.2.2.2.2, c + 1 + 1 + 1 + 1 + 1 + 1 + 1 + 1) = _ := hys
  simp only [hys2, Option.bind_some]
  exact markLeafS_loop n hn hk d g (i + 1) _ _ (by omega) (by rw [modify_len, hXl]) (defOK_modify hXd _ _ (fun x _ => by rw [← hyl] at hb; exact hb)) (by omega) (by omega) (by omega)
 | _, 0, _, _, _, _, _, _, hg, _, _ => by omega
theorem markLeafS_ok {L : List Lf} (hs : SmallL L) (c : Int) (h0 : 0 ≤ c) (h1 : c ≤ 100000000000000) (hk : 1048577 < k) : ∃ y ys, laws_markLeafS k (L, c) = some (y, ys) ∧ 0 ≤ y := by
 have hl := hs.l
 obtain ⟨y, ys, hy, hy2⟩ := markLeafS_loop (k := k) L.length hs.l hk L.length k 0 c L (by omega) rfl (fun j hj => hs.d _ (getD_mem hj)) (by omega) h0 (by omega)
 simp only [z0] at hy
 exact ⟨y, ys, by unfold laws_markLeafS; simp only [hy]; rfl, hy2⟩
def plc (c : Int) : Pl := (c, c + 1, c + 1 + 1, c + 1 + 1 + 1, c + 1 + 1 + 1 + 1)
theorem modify5 (xs : List Pl) (i : Nat) (c : Int) : (List.modify (List.modify (List.modify (List.modify (List.modify xs i (fun z => (c, (z.2.1, (z.2.2.1, (z.2.2.2.1, z.2.2.2.2)))))) i (fun z => (z.1, (c + 1, (z.2.2.1, (z.2.2.2.1, z.2.2.2.2)))))) i (fun z => (z.1, (z.2.1, (c + 1 + 1, (z.2.2.2.1, z.2.2.2.2)))))) i (fun z => (z.1, (z.2.1, (z.2.2.1, (c + 1 + 1 + 1, z.2.2.2.2)))))) i (fun z => (z.1, (z.2.1, (z.2.2.1, (z.2.2.2.1, c + 1 + 1 + 1 + 1)))))) = xs.set i (plc c) := by
 apply List.ext_getElem?
 intro q
 simp only [List.getElem?_modify, List.getElem?_set]
 by_cases e : i = q
 ·subst e
  by_cases hl : i < xs.length
  ·simp [hl, plc]
  ·simp [hl]
 ·simp [e]
theorem markPlacementS_eq (xs : List Pl) (hl : xs.length ≤ 1048576) (hk : 1048577 < k) : laws_markPlacementS k (xs, 1) = some (1 + 5 * (xs.length : Int), (List.range xs.length).map fun (i : Nat) => plc (1 + 5 * (i : Int))) := by
 have h := runF (fun g i s => laws_markPlacementS_2 k g (1 + 5 * (i : Int), (i : Int), s)) xs.length (fun i s => s.set i (plc (1 + 5 * (i : Int)))) (fun s => (1 + 5 * (xs.length : Int), s)) (fun i s => s.length = xs.length)
  (fun g s hv => by simp only [laws_markPlacementS_2, hv, dge (Nat.le_refl _), cond_false])
  (fun g i s hi hv => by
   have e1 := w64_1 (x := 1 + 5 * (i : Int)) (by omega) (by omega)
   have e2 := w64_1 (x := 1 + 5 * (i : Int) + 1) (by omega) (by omega)
   have e3 := w64_1 (x := 1 + 5 * (i : Int) + 1 + 1) (by omega) (by omega)
   have e4 := w64_1 (x := 1 + 5 * (i : Int) + 1 + 1 + 1) (by omega) (by omega)
   have e5 := w64_1 (x := 1 + 5 * (i : Int) + 1 + 1 + 1 + 1) (by omega) (by omega)
   simp only [laws_markPlacementS_2, modify_len, hv, dlt hi, d0, cond_true, w64_s hi (by omega), Int.toNat_natCast, e1, e2, e3, e4, e5, modify5]
   have : 1 + 5 * (i : Int) + 1 + 1 + 1 + 1 + 1 = 1 + 5 * ((i + 1 : Nat) : Int) := by omega
   rw [this]) (fun i s hi hv => by simpa using hv) xs.length k 0 xs (by omega) (by omega) rfl
 have e := set_foldA pl0 (fun i => plc (1 + 5 * (i : Int))) xs.length 0 xs (by omega) (fun j hj => by omega)
 rw [e] at h
 unfold laws_markPlacementS
 simp only [z0, Int.mul_zero, Int.add_zero] at h
 simp only [h]
 rfl
theorem heldPlacementS_eq (n : Nat) (hn : n ≤ 1048576) (hk : 1048577 < k) : laws_heldPlacementS k ((List.range n).map (fun (i : Nat) => plc (1 + 5 * (i : Int))), 1) = some (1 + 5 * (n : Int)) := by
 have hget : ∀ i, i < n → ((List.range n).map (fun (i : Nat) => plc (1 + 5 * (i : Int)))).getD i pl0 = plc (1 + 5 * (i : Int)) := fun i hi => by
  rw [List.getD_eq_getElem?_getD, List.getElem?_map, List.getElem?_range hi]; rfl
 have hZl : ((List.range n).map (fun (i : Nat) => plc (1 + 5 * (i : Int)))).length = n := by simp
 generalize (List.range n).map (fun (i : Nat) => plc (1 + 5 * (i : Int))) = Z at hget hZl
 have h := runF (fun g i (_ : Unit) => laws_heldPlacementS_2 k g (Z, 1 + 5 * (i : Int), (i : Int))) n (fun _ s => s) (fun _ => .inl (1 + 5 * (n : Int))) (fun _ _ => True)
  (fun g s _ => by simp only [laws_heldPlacementS_2, hZl, dge (Nat.le_refl _), cond_false])
  (fun g i s hi _ => by
   have e1 := w64_1 (x := 1 + 5 * (i : Int)) (by omega) (by omega)
   have e2 := w64_1 (x := 1 + 5 * (i : Int) + 1) (by omega) (by omega)
   have e3 := w64_1 (x := 1 + 5 * (i : Int) + 1 + 1) (by omega) (by omega)
   have e4 := w64_1 (x := 1 + 5 * (i : Int) + 1 + 1 + 1) (by omega) (by omega)
   have e5 := w64_1 (x := 1 + 5 * (i : Int) + 1 + 1 + 1 + 1) (by omega) (by omega)
   simp only [laws_heldPlacementS_2, hZl, dlt hi, d0, cond_true, rd_nat, dfQ, hget i hi, plc, bne_self_eq_false, cond_false, w64_s hi (by omega), e1, e2, e3, e4, e5]
   have : 1 + 5 * (i : Int) + 1 + 1 + 1 + 1 + 1 = 1 + 5 * ((i + 1 : Nat) : Int) := by omega
   rw [this]) (fun _ _ _ _ => trivial) n k 0 () (by omega) (by omega) trivial
 simp only [z0, Int.mul_zero, Int.add_zero] at h
 unfold laws_heldPlacementS
 simp only [h]
 rfl
end
end Go.Proofs.YtgcioclfplafkaaGreatV
end
section
namespace Go.Proofs.YtgcioclfplafkaaGreatV
open Go Go.RowKit
def bx (D : List Bx) (i : Nat) : Bx := D.getD i bx0
def lf (L : List Lf) (i : Nat) : Lf := L.getD i lf0
def boxB (b : Bx) (w h : Int) : Bool := inB b.1 0 w && (inB b.2.1 0 h && (inB b.2.2.1 1 (w - b.1) && inB b.2.2.2 1 (h - b.2.1)))
def lw (x : Lf) : Int := x.2.2.2.2.2.2.1
def lh (x : Lf) : Int := x.2.2.2.2.2.2.2.1
def lv (x : Lf) : Vn := (x.2.2.2.1, x.2.2.2.2.1, x.2.2.2.2.2.1)
def leafA (x : Lf) : Bool := nameB x.1 && (nameB x.2.1 && (inB x.2.2.1 0 999 && vnB (lv x)))
def leafC (x : Lf) : Bool := inB (lw x) 10 20000 && (inB (lh x) 10 20000 && decide ((defs x).length ≤ 6))
def leafB (x : Lf) : Bool := leafA x && (leafC x && !((List.range' 0 (defs x).length).any fun i => !boxB (bx (defs x) i) (lw x) (lh x)))
def leafBad (L : List Lf) (i : Nat) : Bool := !leafB (lf L i) || (decide (0 < i) && !(Op.bytesLess (lf L (i - 1)).1.toList (lf L i).1.toList))
def leavesB (L : List Lf) : Bool := !((List.range' 0 L.length).any (leafBad L)) && decide (L.length ≤ 16)
theorem inB_wid {x w : Int} (h0 : inB x 0 w = true) (hw : inB w 10 20000 = true) : w64 (w - x) = w - x := by
 rw [inB_iff] at h0 hw
 exact w64_id (by omega) (by omega)
theorem any_find {α : Type} (P : α → Bool) : ∀ l : List α, l.any P = (l.find? P).isSome
 | [] => rfl
 | x :: l => by
  simp only [List.any_cons, List.find?_cons]
  cases P x with
  | true => rfl
  | false => simpa using any_find P l
section
variable {k : Nat}
theorem l09Box_eq (b : Bx) {w h : Int} (hw : inB w 10 20000 = true) (hh : inB h 10 20000 = true) : spec_l09Box k (b.1, b.2.1, b.2.2.1, b.2.2.2, w, h) = some (boxB b w h) := by
 unfold spec_l09Box boxB
 simp only [l00In_eq, Option.bind_some]
 cases h1 : inB b.1 0 w with
 | false => rfl
 | true =>
  simp only [cond_true, Bool.true_and]
  cases h2 : inB b.2.1 0 h with
  | false => rfl
  | true =>
   simp only [cond_true, Bool.true_and, inB_wid h1 hw, inB_wid h2 hh]
   cases inB b.2.2.1 1 (w - b.1) <;> rfl
theorem boxWithin_eq (b : Bx) {w h : Int} (hw : inB w 10 20000 = true) (hh : inB h 10 20000 = true) : impl_boxWithin k (b.1, b.2.1, b.2.2.1, b.2.2.2, w, h) = some (boxB b w h) := by
 unfold impl_boxWithin boxB
 simp only [within_eq, Option.bind_some]
 cases h1 : inB b.1 0 w with
 | false => rfl
 | true =>
  simp only [cond_true, Bool.true_and]
  cases h2 : inB b.2.1 0 h with
  | false => rfl
  | true =>
   simp only [cond_true, Bool.true_and, inB_wid h1 hw, inB_wid h2 hh]
   cases inB b.2.2.1 1 (w - b.1) <;> rfl
theorem dgt6 (n : Nat) : decide ((n : Int) > 6) = !decide (n ≤ 6) := by
 by_cases h : n ≤ 6
 ·rw [decide_eq_true h, decide_eq_false (by omega)]; rfl
 ·rw [decide_eq_false h, decide_eq_true (by omega)]; rfl
theorem leaf_spec (x : Lf) (hd : (defs x).length ≤ 1048576) (hk : 1048577 < k) : spec_l09One k (x.1, x.2.1, x.2.2.1, x.2.2.2.1, x.2.2.2.2.1, x.2.2.2.2.2.1, x.2.2.2.2.2.2.1, x.2.2.2.2.2.2.2.1, x.2.2.2.2.2.2.2.2) = some (leafB x) := by
 have hv := vn_spec (k := k) (lv x) hk
 unfold spec_l09One leafB
 have e1 : (((spec_l01Name k x.1).bind fun y0 => (bif (!y0) then some true else ((spec_l01Name k x.2.1).bind fun y1 => (bif (!y1) then some true else ((spec_l00In k (x.2.2.1, 0, 999)).bind fun y2 => (bif (!y2) then some true else ((spec_l07Ok k (x.2.2.2.1, x.2.2.2.2.1, x.2.2.2.2.2.1)).bind fun y3 => some (!y3)))))))) : Option Bool) = some (!leafA x) := by
  simp only [l01Name_eq _ hk, l00In_eq, Option.bind_some, leafA]
  rw [show spec_l07Ok k (x.2.2.2.1, x.2.2.2.2.1, x.2.2.2.2.2.1) = some (vnB (lv x)) from hv]
  cases nameB x.1 <;> cases nameB x.2.1 <;> cases inB x.2.2.1 0 999 <;> rfl
 have e2 : (((spec_l00In k (x.2.2.2.2.2.2.1, 10, 20000)).bind fun y5 => (bif (!y5) then some true else ((spec_l00In k (x.2.2.2.2.2.2.2.1, 10, 20000)).bind fun y6 => (bif (!y6) then some true else some (decide ((x.2.2.2.2.2.2.2.2.length : Int) > 6)))))) : Option Bool) = some (!leafC x) := by
  simp only [l00In_eq, Option.bind_some, leafC, lw, lh, dgt6, defs]
  cases inB x.2.2.2.2.2.2.1 10 20000 <;> cases inB x.2.2.2.2.2.2.2.1 10 20000 <;> rfl
 simp only [e1, e2, Option.bind_some]
 cases leafA x with
 | false => rfl
 | true =>
  simp only [Bool.not_true, cond_false, Bool.true_and]
  cases hC : leafC x with
  | false => rfl
  | true =>
   simp only [Bool.not_true, cond_false, Bool.true_and]
   unfold leafC at hC
   simp only [Bool.and_eq_true] at hC
   have h := runS (fun g i => spec_l09One_6 k g (x.1, x.2.1, x.2.2.1, x.2.2.2.1, x.2.2.2.2.1, x.2.2.2.2.2.1, x.2.2.2.2.2.2.1, x.2.2.2.2.2.2.2.1, x.2.2.2.2.2.2.2.2, (i : Int))) (defs x).length (fun i => !boxB (bx (defs x) i) (lw x) (lh x)) (fun _ => .inr false) (.inl ()) (fun g => by
    show (bif decide (((defs x).length : Int) < ((defs x).length : Int)) then _ else _) = _
    rw [dge (Nat.le_refl _)]; rfl)
    (fun g i hi => by
     have hb := l09Box_eq (k := k) (bx (defs x) i) hC.1 hC.2.1
     have hi' : i < x.2.2.2.2.2.2.2.2.length := hi
     have hb' : spec_l09Box k ((x.2.2.2.2.2.2.2.2.getD i bx0).1, (x.2.2.2.2.2.2.2.2.getD i bx0).2.1, (x.2.2.2.2.2.2.2.2.getD i bx0).2.2.1, (x.2.2.2.2.2.2.2.2.getD i bx0).2.2.2, x.2.2.2.2.2.2.1, x.2.2.2.2.2.2.2.1) = some (boxB (bx (defs x) i) (lw x) (lh x)) := hb
     simp only [spec_l09One_6, dlt hi', d0, cond_true, rd_nat, dfB, hb', Option.bind_some, w64_s hi (show (defs x).length ≤ 1000000000000 by omega)]) (defs x).length k 0 (by omega) (by omega)
   rw [find_any] at h
   simp only [z0] at h
   rw [h]
   cases (List.range' 0 (defs x).length).any fun i => !boxB (bx (defs x) i) (lw x) (lh x) <;> rfl
theorem leaf_impl (x : Lf) (hd : (defs x).length ≤ 1048576) (hk : 1048577 < k) : impl_ValidLeaf k (x.1, x.2.1, x.2.2.1, x.2.2.2.1, x.2.2.2.2.1, x.2.2.2.2.2.1, x.2.2.2.2.2.2.1, x.2.2.2.2.2.2.2.1, x.2.2.2.2.2.2.2.2) = some (leafB x) := by
 have hv := vn_impl (k := k) (lv x)
 unfold impl_ValidLeaf leafB
 have e1 : (((impl_IsName k x.1).bind fun y0 => (bif (!y0) then some true else ((impl_IsName k x.2.1).bind fun y1 => (bif (!y1) then some true else ((impl_within k (x.2.2.1, 0, 999)).bind fun y2 => (bif (!y2) then some true else ((impl_ValidVeneer k (x.2.2.2.1, x.2.2.2.2.1, x.2.2.2.2.2.1)).bind fun y3 => some (!y3)))))))) : Option Bool) = some (!leafA x) := by
  simp only [isName_eq _ hk, within_eq, Option.bind_some, leafA]
  rw [show impl_ValidVeneer k (x.2.2.2.1, x.2.2.2.2.1, x.2.2.2.2.2.1) = some (vnB (lv x)) from hv]
  cases nameB x.1 <;> cases nameB x.2.1 <;> cases inB x.2.2.1 0 999 <;> rfl
 have e2 : (((impl_within k (x.2.2.2.2.2.2.1, 10, 20000)).bind fun y5 => (bif (!y5) then some true else ((impl_within k (x.2.2.2.2.2.2.2.1, 10, 20000)).bind fun y6 => (bif (!y6) then some true else some (decide ((x.2.2.2.2.2.2.2.2.length : Int) > 6)))))) : Option Bool) = some (!leafC x) := by
  simp only [within_eq, Option.bind_some, leafC, lw, lh, dgt6, defs]
  cases inB x.2.2.2.2.2.2.1 10 20000 <;> cases inB x.2.2.2.2.2.2.2.1 10 20000 <;> rfl
 simp only [e1, e2, Option.bind_some]
 cases leafA x with
 | false => rfl
 | true =>
  simp only [Bool.not_true, cond_false, Bool.true_and]
  cases hC : leafC x with
  | false => rfl
  | true =>
   simp only [Bool.not_true, cond_false, Bool.true_and]
   unfold leafC at hC
   simp only [Bool.and_eq_true] at hC
   have h := runS (fun g i => slices_IndexFunc_152_2 k g (x.2.2.2.2.2.2.2.2, ((defs x).length : Int), (i : Int), x.1, x.2.1, x.2.2.1, x.2.2.2.1, x.2.2.2.2.1, x.2.2.2.2.2.1, x.2.2.2.2.2.2.1, x.2.2.2.2.2.2.2.1, x.2.2.2.2.2.2.2.2)) (defs x).length (fun i => !boxB (bx (defs x) i) (lw x) (lh x)) (fun i => .inr ((i : Int), x.1, x.2.1, x.2.2.1, x.2.2.2.1, x.2.2.2.2.1, x.2.2.2.2.2.1, x.2.2.2.2.2.2.1, x.2.2.2.2.2.2.2.1, x.2.2.2.2.2.2.2.2)) (.inl (x.1, x.2.1, x.2.2.1, x.2.2.2.1, x.2.2.2.2.1, x.2.2.2.2.2.1, x.2.2.2.2.2.2.1, x.2.2.2.2.2.2.2.1, x.2.2.2.2.2.2.2.2)) (fun g => by simp only [slices_IndexFunc_152_2, dge (Nat.le_refl _), cond_false])
    (fun g i hi => by
     have hb := boxWithin_eq (k := k) (bx (defs x) i) hC.1 hC.2.1
     have hi' : i < x.2.2.2.2.2.2.2.2.length := hi
     have hb' : impl_boxWithin k ((x.2.2.2.2.2.2.2.2.getD i bx0).1, (x.2.2.2.2.2.2.2.2.getD i bx0).2.1, (x.2.2.2.2.2.2.2.2.getD i bx0).2.2.1, (x.2.2.2.2.2.2.2.2.getD i bx0).2.2.2, x.2.2.2.2.2.2.1, x.2.2.2.2.2.2.2.1) = some (boxB (bx (defs x) i) (lw x) (lh x)) := hb
     simp only [slices_IndexFunc_152_2, impl_ValidLeaf_1, dlt hi, dlt hi', d0, cond_true, rd_nat, dfB, hb', Option.bind_some, w64_s hi (show (defs x).length ≤ 1000000000000 by omega)]) (defs x).length k 0 (by omega) (by omega)
   simp only [z0] at h
   have hl : (x.2.2.2.2.2.2.2.2.length : Int) = ((defs x).length : Int) := rfl
   unfold slices_ContainsFunc_125 slices_IndexFunc_152
   simp only [hl, h, Option.bind_some]
   rw [show ((List.range' 0 (defs x).length).any fun i => !boxB (bx (defs x) i) (lw x) (lh x)) = ((List.range' 0 (defs x).length).find? fun i => !boxB (bx (defs x) i) (lw x) (lh x)).isSome from any_find ..]
   cases (List.range' 0 (defs x).length).find? fun i => !boxB (bx (defs x) i) (lw x) (lh x) with
   | none => rfl
   | some j =>
    simp only [Option.bind_some, Option.isSome_some]
    rw [decide_eq_true (show (j : Int) ≥ 0 by omega)]
theorem leaves_spec {L : List Lf} (hs : SmallL L) (hk : 1048577 < k) : spec_l09Ok k L = some (leavesB L) := by
 have hl := hs.l
 have h := runS (fun g i => spec_l09Ok_2 k g (L, (i : Int))) L.length (leafBad L) (fun _ => .inr false) (.inl L) (fun g => by simp only [spec_l09Ok_2, dge (Nat.le_refl _), cond_false])
  (fun g i hi => by
   have hx := leaf_spec (k := k) (L.getD i lf0) (hs.d _ (getD_mem hi)) hk
   simp only [spec_l09Ok_2, dlt hi, d0, cond_true, rd_nat, dfL, hx, Option.bind_some, w64_s hi (show L.length ≤ 1000000000000 by omega), dgt0]
   unfold leafBad
   rw [show L.getD i lf0 = lf L i from rfl]
   cases leafB (lf L i) with
   | false => rfl
   | true =>
    by_cases h0 : 0 < i
    ·rw [decide_eq_true h0, w64_m hi (by omega) h0]
     simp only [Bool.not_true, cond_false, cond_true, d0, dlt (show i - 1 < L.length by omega), rd_nat, dfL, Option.bind_some, Bool.false_or, Bool.true_and]
     rfl
    ·rw [decide_eq_false h0]; rfl) L.length k 0 (by omega) (by omega)
 rw [find_any] at h
 simp only [z0] at h
 unfold spec_l09Ok leavesB
 rw [h]
 cases (List.range' 0 L.length).any (leafBad L) with
 | true => rfl
 | false => simp only [cond_false, Option.bind_some, Bool.not_false, Bool.true_and]; congr 1; rw [decide_eq_decide]; omega
theorem leaves_impl {L : List Lf} (hs : SmallL L) (hk : 1048577 < k) : impl_ValidLeaves k L = some (leavesB L) := by
 have hl := hs.l
 have h := runS (fun g i => impl_ValidLeaves_2 k g (L, L, (L.length : Int), (i : Int))) L.length (leafBad L) (fun _ => .inr false) (.inl L) (fun g => by simp only [impl_ValidLeaves_2, dge (Nat.le_refl _), cond_false])
  (fun g i hi => by
   have hx := leaf_impl (k := k) (L.getD i lf0) (hs.d _ (getD_mem hi)) hk
   simp only [impl_ValidLeaves_2, dlt hi, d0, cond_true, rd_nat, dfL, hx, Option.bind_some, w64_s hi (show L.length ≤ 1000000000000 by omega), dgt0]
   unfold leafBad
   rw [show L.getD i lf0 = lf L i from rfl]
   cases leafB (lf L i) with
   | false => rfl
   | true =>
    by_cases h0 : 0 < i
    ·rw [decide_eq_true h0, w64_m hi (by omega) h0]
     simp only [Bool.not_true, cond_false, cond_true, d0, dlt (show i - 1 < L.length by omega), rd_nat, dfL, Option.bind_some, Bool.false_or, Bool.true_and]
     rfl
    ·rw [decide_eq_false h0]; rfl) L.length k 0 (by omega) (by omega)
 rw [find_any] at h
 simp only [z0] at h
 unfold impl_ValidLeaves leavesB
 rw [h]
 cases (List.range' 0 L.length).any (leafBad L) with
 | true => rfl
 | false => simp only [cond_false, Option.bind_some, Bool.not_false, Bool.true_and]; congr 1; rw [decide_eq_decide]; omega
end
end Go.Proofs.YtgcioclfplafkaaGreatV
end
section
namespace Go.Proofs.YtgcioclfplafkaaGreatV
open Go Go.RowKit
def rulesB (s m a h : Int) : Bool := inB s 0 500 && (inB m 0 500 && (inB a 0 90 && inB h 0 100))
def many (L : List Lf) (st : Int) (i : Nat) : Bool := decide ((Int.tdiv (lw (lf L i)) st + 1) * (Int.tdiv (lh (lf L i)) st + 1) > 400)
def stepC (L : List Lf) (st : Int) : Int := bif inB st 1 20000 then (bif (List.range' 0 L.length).any (many L st) then 5 else 0) else 2
theorem tdiv_bd {x s : Int} (h0 : 0 ≤ x) (h1 : x ≤ 20000) (hs : 1 ≤ s) : 0 ≤ Int.tdiv x s ∧ Int.tdiv x s ≤ 20000 := by
 rw [Int.tdiv_eq_ediv_of_nonneg h0]
 refine ⟨Int.ediv_nonneg h0 (by omega), Int.le_trans (Int.ediv_le_self _ h0) h1⟩
theorem leaf_of {L : List Lf} (h : leavesB L = true) {i : Nat} (hi : i < L.length) : leafB (lf L i) = true := by
 unfold leavesB at h
 rw [Bool.and_eq_true, Bool.not_eq_true', List.any_eq_false] at h
 have := h.1 i (by rw [List.mem_range'_1]; omega)
 unfold leafBad at this
 cases hb : leafB (lf L i) with
 | true => rfl
 | false => rw [hb] at this; simp at this
structure LeafOK (x : Lf) : Prop where
 v : vnB (lv x) = true
 w : 10 ≤ lw x ∧ lw x ≤ 20000
 h : 10 ≤ lh x ∧ lh x ≤ 20000
 n : (defs x).length ≤ 6
 b : ∀ i, i < (defs x).length → boxB (bx (defs x) i) (lw x) (lh x) = true
theorem leafOK {x : Lf} (h : leafB x = true) : LeafOK x := by
 unfold leafB leafA leafC at h
 simp only [Bool.and_eq_true, Bool.not_eq_true', List.any_eq_false, decide_eq_true_eq, inB_iff] at h
 obtain ⟨⟨_, _, _, h1⟩, ⟨h2, h3, h4⟩, h5⟩ := h
 refine ⟨h1, h2, h3, h4, fun i hi => ?_⟩
 have := h5 i (by rw [List.mem_range'_1]; omega)
 simpa using this
theorem sp_w {a b : Int} (ha : 0 ≤ a ∧ a ≤ 20000) (hb : 0 ≤ b ∧ b ≤ 20000) : w64 (w64 (w64 a + 1) * w64 (w64 b + 1)) = (a + 1) * (b + 1) := by
 rw [w64_id (x := a) (by omega) (by omega), w64_id (x := b) (by omega) (by omega)]
 rw [w64_id (x := a + 1) (by omega) (by omega), w64_id (x := b + 1) (by omega) (by omega)]
 have h1 := Int.mul_nonneg (show 0 ≤ a + 1 by omega) (show 0 ≤ b + 1 by omega)
 have h2 := Int.mul_le_mul (show a + 1 ≤ 20001 by omega) (show b + 1 ≤ 20001 by omega) (by omega) (by omega)
 exact w64_id (by omega) (by omega)
def ang (a b : Int) : Int := mn (mx (a - b) (b - a)) (180 - mx (a - b) (b - a))
def vf (v : Vn) (x : Lf) (t : Nat) (an sh : Int) : Int := bif !(v.1.toList == x.2.2.2.1.toList) then 2 else bif decide (mx (v.2.1 - x.2.2.2.2.1) (x.2.2.2.2.1 - v.2.1) > sh) then 3 else bif decide (ang (turnG t x.2.2.2.2.2.1) v.2.2 > an) then 4 else 0
theorem vn_bd {v : Vn} (h : vnB v = true) : (0 ≤ v.2.1 ∧ v.2.1 ≤ 100) ∧ 0 ≤ v.2.2 ∧ v.2.2 ≤ 179 := by
 unfold vnB at h
 split at h
 ·simp only [Bool.and_eq_true, inB_iff] at h
  exact ⟨h.1, h.2.2⟩
 ·cases h
theorem turnG_bd (t : Nat) (g : Int) : 0 ≤ turnG t g ∧ turnG t g ≤ 179 := by
 unfold turnG; split <;> omega
theorem mx_bd {a b lo hi : Int} (h1 : lo ≤ a) (h2 : a ≤ hi) (h3 : b ≤ hi) : lo ≤ mx a b ∧ mx a b ≤ hi := by unfold mx; split <;> omega
section
variable {k : Nat}
theorem rules_spec (s m a h : Int) : spec_l11Rules k (s, m, a, h) = some (rulesB s m a h) := by
 unfold spec_l11Rules rulesB
 simp only [l00In_eq, Option.bind_some]
 cases inB s 0 500 <;> cases inB m 0 500 <;> cases inB a 0 90 <;> rfl
theorem rules_impl (s m a h : Int) : impl_ValidRules k (s, m, a, h) = some (rulesB s m a h) := by
 unfold impl_ValidRules rulesB
 simp only [within_eq, Option.bind_some]
 cases inB s 0 500 <;> cases inB m 0 500 <;> cases inB a 0 90 <;> rfl
theorem many_spec {L : List Lf} (hL : leavesB L = true) (hl : L.length ≤ 1048576) {st : Int} (hst : inB st 1 20000 = true) (hk : 1048577 < k) : spec_l11Step_4 k k (L, st, 0) = some (bif (List.range' 0 L.length).any (many L st) then .inr 5 else .inl ()) := by
 rw [inB_iff] at hst
 have h := runS (fun g i => spec_l11Step_4 k g (L, st, (i : Int))) L.length (many L st) (fun _ => .inr 5) (.inl ()) (fun g => by simp only [spec_l11Step_4, dge (Nat.le_refl _), cond_false])
  (fun g i hi => by
   have hx := leafOK (leaf_of hL hi)
   have e := sp_w (tdiv_bd (x := lw (lf L i)) (by have := hx.w; omega) hx.w.2 hst.1) (tdiv_bd (x := lh (lf L i)) (by have := hx.h; omega) hx.h.2 hst.1)
   simp only [spec_l11Step_4, dlt hi, d0, cond_true, rd_nat, dfL, w64_s hi (show L.length ≤ 1000000000000 by omega), decide_eq_false (show ¬ st = 0 by omega), cond_false]
   unfold many
   rw [← e]; rfl) L.length k 0 (by omega) (by omega)
 rw [find_any] at h
 exact h
theorem many_impl {L : List Lf} (hL : leavesB L = true) (hl : L.length ≤ 1048576) {st : Int} (hst : inB st 1 20000 = true) (hk : 1048577 < k) : impl_nestCode_6 k k (st, L, (L.length : Int), 0) = some (bif (List.range' 0 L.length).any (many L st) then .inr 5 else .inl ()) := by
 rw [inB_iff] at hst
 have h := runS (fun g i => impl_nestCode_6 k g (st, L, (L.length : Int), (i : Int))) L.length (many L st) (fun _ => .inr 5) (.inl ()) (fun g => by simp only [impl_nestCode_6, dge (Nat.le_refl _), cond_false])
  (fun g i hi => by
   have hx := leafOK (leaf_of hL hi)
   have e := sp_w (tdiv_bd (x := lw (lf L i)) (by have := hx.w; omega) hx.w.2 hst.1) (tdiv_bd (x := lh (lf L i)) (by have := hx.h; omega) hx.h.2 hst.1)
   simp only [impl_nestCode_6, dlt hi, d0, cond_true, rd_nat, dfL, w64_s hi (show L.length ≤ 1000000000000 by omega), decide_eq_false (show ¬ st = 0 by omega), cond_false]
   unfold many
   rw [← e]; rfl) L.length k 0 (by omega) (by omega)
 rw [find_any] at h
 exact h
theorem ask_spec (W H : Int) {P : List Pt'} {F : List Fc} {V : List Vn} {L : List Lf} (hs : Small P F V) (hl : SmallL L) (s m a h : Int) (hk : 1048577 < k) :
  spec_l11Ask k (W, H, P, F, V, L, s, m, a, h) = some (bif picB W H P F V && (leavesB L && rulesB s m a h) then 0 else 1) := by
 unfold spec_l11Ask
 simp only [pic_spec W H hs hk, leaves_spec hl hk, rules_spec, Option.bind_some]
 cases picB W H P F V <;> cases leavesB L <;> cases rulesB s m a h <;> rfl
theorem step_spec {L : List Lf} (hL : leavesB L = true) (hl : L.length ≤ 1048576) (st : Int) (hk : 1048577 < k) : spec_l11Step k (L, st) = some (stepC L st) := by
 unfold spec_l11Step stepC
 simp only [l00In_eq, Option.bind_some]
 cases hst : inB st 1 20000 with
 | false => rfl
 | true =>
  simp only [Bool.not_true, cond_false, cond_true, many_spec hL hl hst hk]
  cases (List.range' 0 L.length).any (many L st) <;> rfl
theorem code_impl (W H : Int) {P : List Pt'} {F : List Fc} {V : List Vn} {L : List Lf} (hs : Small P F V) (hl : SmallL L) (s m a h st : Int) (hk : 1048577 < k) :
  impl_nestCode k (W, H, P, F, V, L, s, m, a, h, st, 1) = some (bif picB W H P F V && (leavesB L && rulesB s m a h) then stepC L st else 1) := by
 unfold impl_nestCode stepC
 simp only [pic_impl W H hs hk, leaves_impl hl hk, rules_impl, within_eq, Option.bind_some]
 cases picB W H P F V with
 | false => rfl
 | true =>
  cases hL : leavesB L with
  | false => rfl
  | true =>
   cases rulesB s m a h with
   | false => rfl
   | true =>
    simp only [Bool.not_true, cond_false, cond_true, Bool.and_self]
    rw [show inB 1 1 20000 = true from rfl]
    simp only [Bool.not_true, cond_false]
    cases hst : inB st 1 20000 with
    | false => rfl
    | true =>
     simp only [Bool.not_true, cond_false, cond_true, many_impl hL hl.l hst hk]
     cases (List.range' 0 L.length).any (many L st) <;> rfl
theorem angle_spec {a b : Int} (ha : 0 ≤ a ∧ a ≤ 179) (hb : 0 ≤ b ∧ b ≤ 179) : spec_l07Angle k (a, b) = some (ang a b) := by
 unfold spec_l07Angle
 have hm := mx_bd (a := a - b) (b := b - a) (lo := -179) (hi := 179) (by omega) (by omega) (by omega)
 simp only [w64_id (x := a - b) (by omega) (by omega), w64_id (x := b - a) (by omega) (by omega), max_eq, min_eq, Option.bind_some]
 rw [w64_id (x := 180 - mx (a - b) (b - a)) (by omega) (by omega)]
 rfl
theorem angle_impl {a b : Int} (ha : 0 ≤ a ∧ a ≤ 179) (hb : 0 ≤ b ∧ b ≤ 179) : impl_GrainAngle k (a, b) = some (ang a b, 0) := by
 unfold impl_GrainAngle
 have hm := mx_bd (a := a - b) (b := b - a) (lo := -179) (hi := 179) (by omega) (by omega) (by omega)
 simp only [w64_id (x := a - b) (by omega) (by omega), w64_id (x := b - a) (by omega) (by omega), within_eq, Option.bind_some]
 rw [inB_iff.2 ha, inB_iff.2 hb]
 simp only [Bool.not_true, cond_false, Option.bind_some]
 rw [show (if b - a > a - b then b - a else a - b) = mx (a - b) (b - a) from rfl, w64_id (x := 180 - mx (a - b) (b - a)) (by omega) (by omega)]
 rfl
theorem vf_spec {v : Vn} (hv : vnB v = true) {x : Lf} (hx : vnB (lv x) = true) (t : Nat) (ht : t < 8) (s m an sh : Int) :
  spec_l11Veneer k (v.1, v.2.1, v.2.2, x.1, x.2.1, x.2.2.1, x.2.2.2.1, x.2.2.2.2.1, x.2.2.2.2.2.1, x.2.2.2.2.2.2.1, x.2.2.2.2.2.2.2.1, x.2.2.2.2.2.2.2.2, (t : Int), s, m, an, sh) = some (vf v x t an sh) := by
 obtain ⟨h1, h2⟩ := vn_bd hv
 obtain ⟨h3, h4⟩ := vn_bd hx
 have h3 : 0 ≤ x.2.2.2.2.1 ∧ x.2.2.2.2.1 ≤ 100 := h3
 have h4 : 0 ≤ x.2.2.2.2.2.1 ∧ x.2.2.2.2.2.1 ≤ 179 := h4
 unfold spec_l11Veneer vf
 simp only [w64_id (x := v.2.1 - x.2.2.2.2.1) (by omega) (by omega), w64_id (x := x.2.2.2.2.1 - v.2.1) (by omega) (by omega), max_eq, Option.bind_some, grain_spec t ht _ h4.1 h4.2, angle_spec (turnG_bd t _) h2]
 cases v.1.toList == x.2.2.2.1.toList with
 | false => rfl
 | true =>
  simp only [Bool.not_true, cond_false]
  cases decide (mx (v.2.1 - x.2.2.2.2.1) (x.2.2.2.2.1 - v.2.1) > sh) with
  | true => rfl
  | false =>
   simp only [cond_false]
   cases decide (ang (turnG t x.2.2.2.2.2.1) v.2.2 > an) <;> rfl
theorem vf_impl {v : Vn} (hv : vnB v = true) {x : Lf} (hx : vnB (lv x) = true) (t : Nat) (ht : t < 8) (s m an sh : Int) :
  impl_veneerFault k (v.1, v.2.1, v.2.2, x.1, x.2.1, x.2.2.1, x.2.2.2.1, x.2.2.2.2.1, x.2.2.2.2.2.1, x.2.2.2.2.2.2.1, x.2.2.2.2.2.2.2.1, x.2.2.2.2.2.2.2.2, (t : Int), s, m, an, sh) = some (vf v x t an sh) := by
 obtain ⟨h1, h2⟩ := vn_bd hv
 obtain ⟨h3, h4⟩ := vn_bd hx
 have h3 : 0 ≤ x.2.2.2.2.1 ∧ x.2.2.2.2.1 ≤ 100 := h3
 have h4 : 0 ≤ x.2.2.2.2.2.1 ∧ x.2.2.2.2.2.1 ≤ 179 := h4
 unfold impl_veneerFault vf
 simp only [w64_id (x := v.2.1 - x.2.2.2.2.1) (by omega) (by omega), w64_id (x := x.2.2.2.2.1 - v.2.1) (by omega) (by omega), Option.bind_some, grain_impl t ht _ h4.1 h4.2, angle_impl (turnG_bd t _) h2]
 cases v.1.toList == x.2.2.2.1.toList with
 | false => rfl
 | true =>
  simp only [Bool.not_true, cond_false]
  rw [show (if x.2.2.2.2.1 - v.2.1 > v.2.1 - x.2.2.2.2.1 then x.2.2.2.2.1 - v.2.1 else v.2.1 - x.2.2.2.2.1) = mx (v.2.1 - x.2.2.2.2.1) (x.2.2.2.2.1 - v.2.1) from rfl]
  cases decide (mx (v.2.1 - x.2.2.2.2.1) (x.2.2.2.2.1 - v.2.1) > sh) with
  | true => rfl
  | false =>
   simp only [cond_false]
   cases decide (ang (turnG t x.2.2.2.2.2.1) v.2.2 > an) <;> rfl
end
end Go.Proofs.YtgcioclfplafkaaGreatV
end
section
namespace Go.Proofs.YtgcioclfplafkaaGreatV
open Go Go.RowKit
def sh (p : List Pt') (dx dy : Int) : List Pt' := p.map fun q => (q.1 + dx, q.2 + dy)
abbrev B4 := Int × Int × Int × Int
def bstep (s : B4) (q : Pt') : B4 := (mn s.1 q.1, mn s.2.1 q.2, mx s.2.2.1 q.1, mx s.2.2.2 q.2)
def bnd (p : List Pt') : B4 := p.foldl bstep ((pt p 0).1, (pt p 0).2, (pt p 0).1, (pt p 0).2)
def turnL (t : Nat) (p : List Pt') : List Pt' := (List.range' 0 p.length).map fun i => turnP t (pt p (if 4 ≤ t then (p.length - i) % p.length else i))
def trP (t : Nat) (p : List Pt') : List Pt' := sh (turnL t p) (-(bnd (turnL t p)).1) (-(bnd (turnL t p)).2.1)
def inR (lo hi : Int) (p : List Pt') : Prop := ∀ q ∈ p, (lo ≤ q.1 ∧ q.1 ≤ hi) ∧ lo ≤ q.2 ∧ q.2 ≤ hi
theorem fold_app {α : Type} (x : Nat → α) : ∀ (d i : Nat) (s : List α), (List.range' i d).foldl (fun s i => s ++ [x i]) s = s ++ (List.range' i d).map x
 | 0, i, s => by simp
 | d + 1, i, s => by simp only [List.range'_succ, List.foldl_cons, List.map_cons, fold_app x d (i + 1)]; simp
theorem map_pt {β : Type} (p : List Pt') (f : Pt' → β) : (List.range' 0 p.length).map (fun i => f (pt p i)) = p.map f := by
 apply List.ext_getElem (by simp)
 intro q h1 h2
 have hq : q < p.length := by simpa using h1
 simp only [List.getElem_map, List.getElem_range', Nat.zero_add, Nat.one_mul]
 unfold pt
 rw [List.getD_eq_getElem?_getD, List.getElem?_eq_getElem hq, Option.getD_some]
theorem fold_pt {σ : Type} (p : List Pt') (f : σ → Pt' → σ) (s : σ) : (List.range' 0 p.length).foldl (fun s i => f s (pt p i)) s = p.foldl f s := by
 have h := map_pt p id
 conv => rhs; rw [show p = p.map id by simp, ← h, List.foldl_map]
 simp only [id]
theorem bstep_self (q : Pt') : bstep (q.1, q.2, q.1, q.2) q = (q.1, q.2, q.1, q.2) := by simp [bstep, mn, mx]
section
variable {k : Nat}
theorem shifted_impl {p : List Pt'} {dx dy : Int} (hp : inR (-100000) 100000 p) (hx : -100000 ≤ dx ∧ dx ≤ 100000) (hy : -100000 ≤ dy ∧ dy ≤ 100000) (hl : p.length ≤ 1048576) (hk : 1048577 < k) : impl_shifted k (p, dx, dy) = some (sh p dx dy) := by
 have h := runF (fun g i s => impl_shifted_3 k g (dx, dy, p, (p.length : Int), (i : Int), s)) p.length (fun i s => s ++ [((pt p i).1 + dx, (pt p i).2 + dy)]) id (fun i s => s.length = i) (fun g s hv => by simp only [impl_shifted_3, dge (Nat.le_refl _), cond_false]; rfl)
  (fun g i s hi hv => by
   have hq := hp _ (getD_mem (d := (0, 0)) hi)
   simp only [impl_shifted_3, dlt hi, d0, cond_true, rd_nat, dfP, w64_s hi (show p.length ≤ 1000000000000 by omega)]
   rw [w64_id (x := (p.getD i (0, 0)).1 + dx) (by omega) (by omega), w64_id (x := (p.getD i (0, 0)).2 + dy) (by omega) (by omega), decide_eq_true (by simp only [List.length_cons, List.length_nil, hv]; omega)]
   rfl) (fun i s hi hv => by simp [hv]) p.length k 0 [] (by omega) (by omega) rfl
 rw [fold_app (fun i => ((pt p i).1 + dx, (pt p i).2 + dy)), map_pt p (fun q => (q.1 + dx, q.2 + dy))] at h
 simp only [z0] at h
 unfold impl_shifted
 simp only [h]
 rfl
theorem shifted_spec {p : List Pt'} {dx dy : Int} (hp : inR (-100000) 100000 p) (hx : -100000 ≤ dx ∧ dx ≤ 100000) (hy : -100000 ≤ dy ∧ dy ≤ 100000) (hl : p.length ≤ 1048576) (hk : 1048577 < k) : spec_l03Shifted k (p, dx, dy) = some (sh p dx dy) := by
 have h := runF (fun g i s => spec_l03Shifted_3 k g (p, dx, dy, (i : Int), s)) p.length (fun i s => s ++ [((pt p i).1 + dx, (pt p i).2 + dy)]) id (fun i s => s.length = i) (fun g s hv => by simp only [spec_l03Shifted_3, dge (Nat.le_refl _), cond_false]; rfl)
  (fun g i s hi hv => by
   have hq := hp _ (getD_mem (d := (0, 0)) hi)
   simp only [spec_l03Shifted_3, dlt hi, d0, cond_true, rd_nat, dfP, w64_s hi (show p.length ≤ 1000000000000 by omega)]
   rw [w64_id (x := (p.getD i (0, 0)).1 + dx) (by omega) (by omega), w64_id (x := (p.getD i (0, 0)).2 + dy) (by omega) (by omega), decide_eq_true (by simp only [List.length_cons, List.length_nil, hv]; omega)]
   rfl) (fun i s hi hv => by simp [hv]) p.length k 0 [] (by omega) (by omega) rfl
 rw [fold_app (fun i => ((pt p i).1 + dx, (pt p i).2 + dy)), map_pt p (fun q => (q.1 + dx, q.2 + dy))] at h
 simp only [z0] at h
 unfold spec_l03Shifted
 simp only [h]
 rfl
theorem bounds_impl {p : List Pt'} (h0 : 0 < p.length) (hl : p.length ≤ 1048576) (hk : 1048577 < k) : impl_bounds k p = some (bnd p) := by
 have h := runF (fun g i (s : B4) => impl_bounds_3 k g (p, (p.length : Int), (i : Int), 0, 0, 0, 0, s.1, s.2.1, s.2.2.1, s.2.2.2)) p.length (fun i s => bstep s (pt p i)) (fun s => (0, 0, 0, 0, s.1, s.2.1, s.2.2.1, s.2.2.2)) (fun _ _ => True) (fun g s hv => by simp only [impl_bounds_3, dge (Nat.le_refl _), cond_false])
  (fun g i s hi _ => by
   simp only [impl_bounds_3, dlt hi, d0, cond_true, rd_nat, dfP, w64_s hi (show p.length ≤ 1000000000000 by omega)]
   rfl) (fun _ _ _ _ => trivial) p.length k 0 ((pt p 0).1, (pt p 0).2, (pt p 0).1, (pt p 0).2) (by omega) (by omega) trivial
 rw [fold_pt p bstep] at h
 simp only [z0] at h
 have e : rd (.pair (.int .i64) (.int .i64)) p 0 = pt p 0 := rd_nat (.pair (.int .i64) (.int .i64)) p 0
 unfold impl_bounds
 simp only [decide_eq_true (show (0 : Int) < (p.length : Int) by omega), cond_true, e, h]
 rfl
theorem bounds_spec {p : List Pt'} (h0 : 0 < p.length) (hl : p.length ≤ 1048576) (hk : 1048577 < k) : spec_l03Bounds k p = some (bnd p) := by
 have h := runF (fun g i (s : B4) => spec_l03Bounds_4 k g (p, (i : Int), 0, 0, 0, 0, s.1, s.2.1, s.2.2.1, s.2.2.2)) p.length (fun i s => bstep s (pt p i)) (fun s => (0, 0, 0, 0, s.1, s.2.1, s.2.2.1, s.2.2.2)) (fun _ _ => True) (fun g s hv => by simp only [spec_l03Bounds_4, dge (Nat.le_refl _), cond_false])
  (fun g i s hi _ => by
   simp only [spec_l03Bounds_4, dlt hi, d0, cond_true, rd_nat, dfP, w64_s hi (show p.length ≤ 1000000000000 by omega), min_eq, max_eq, Option.bind_some]
   rfl) (fun _ _ _ _ => trivial) (p.length - 1) k 1 ((pt p 0).1, (pt p 0).2, (pt p 0).1, (pt p 0).2) (by omega) (by omega) trivial
 have e2 : (List.range' 1 (p.length - 1)).foldl (fun s i => bstep s (pt p i)) ((pt p 0).1, (pt p 0).2, (pt p 0).1, (pt p 0).2) = bnd p := by
  unfold bnd
  rw [← fold_pt p bstep]
  obtain ⟨m, hm⟩ : ∃ m, p.length = m + 1 := ⟨p.length - 1, by omega⟩
  rw [hm, Nat.add_sub_cancel, List.range'_succ, List.foldl_cons, bstep_self]
 rw [e2] at h
 have e : rd (.pair (.int .i64) (.int .i64)) p 0 = pt p 0 := rd_nat (.pair (.int .i64) (.int .i64)) p 0
 have h : spec_l03Bounds_4 k k (p, 1, 0, 0, 0, 0, (pt p 0).1, (pt p 0).2, (pt p 0).1, (pt p 0).2) = _ := h
 unfold spec_l03Bounds
 simp only [decide_eq_true (show (0 : Int) < (p.length : Int) by omega), cond_true, e, h]
 rfl
theorem turnL_spec {p : List Pt'} (hp : ∀ q ∈ p, big q) (t : Nat) (ht : t < 8) (hl : p.length ≤ 1048576) (hk : 1048577 < k) : spec_l03Turned_3 k k (p, (t : Int), 0, []) = some (turnL t p) := by
 have h := runF (fun g i s => spec_l03Turned_3 k g (p, (t : Int), (i : Int), s)) p.length (fun i s => s ++ [turnP t (pt p (if 4 ≤ t then (p.length - i) % p.length else i))]) id (fun i s => s.length = i) (fun g s hv => by simp only [spec_l03Turned_3, dge (Nat.le_refl _), cond_false]; rfl)
  (fun g i s hi hv => by
   have hbd : decide (((s.length + ([turnP t (pt p 0)] : List Pt').length) * 16) ≤ 140737488355328) = true := decide_eq_true (by simp only [List.length_cons, List.length_nil, hv]; omega)
   simp only [spec_l03Turned_3, dlt hi, d0, cond_true, rd_nat, dfP, w64_s hi (show p.length ≤ 1000000000000 by omega)]
   by_cases h4 : 4 ≤ t
   ·have hj : (p.length - i) % p.length < p.length := Nat.mod_lt _ (by omega)
    have e : Int.tmod (w64 ((p.length : Int) - (i : Int))) (p.length : Int) = (((p.length - i) % p.length : Nat) : Int) := by
     rw [w64_id (by omega) (by omega), show (p.length : Int) - (i : Int) = ((p.length - i : Nat) : Int) by omega, tm]
    rw [decide_eq_true (show (t : Int) ≥ 4 by omega), if_pos h4, e]
    simp only [cond_true, decide_eq_false (show ¬ (p.length : Int) = 0 by omega), cond_false, d0, dlt hj, rd_nat, dfP]
    rw [turned_spec t ht _ (hp _ (getD_mem hj)) hk]
    simp only [Option.bind_some]
    rw [decide_eq_true (by simp only [List.length_cons, List.length_nil, hv]; omega)]
    rfl
   ·rw [decide_eq_false (show ¬ (t : Int) ≥ 4 by omega), if_neg h4]
    simp only [cond_false]
    rw [turned_spec t ht _ (hp _ (getD_mem hi)) hk]
    simp only [Option.bind_some]
    rw [decide_eq_true (by simp only [List.length_cons, List.length_nil, hv]; omega)]
    rfl) (fun i s hi hv => by simp [hv]) p.length k 0 [] (by omega) (by omega) rfl
 rw [fold_app] at h
 exact h
theorem rev_loop {xs : List Pt'} {m : Nat} (hl : xs.length = m + 1) (hm : m ≤ 1048576) (R : List Pt') (hR : R.length = m + 1) (hR0 : pt R 0 = pt xs 0) (hR1 : ∀ q, q < m → pt R (1 + q) = pt xs (1 + (m - 1 - q))) : ∀ (d g r : Nat) (s : List Pt'), d < g → m ≤ 2 * r + 2 * d → r ≤ m → s.length = m + 1 → pt s 0 = pt xs 0 →
  (∀ q, q < m → pt s (1 + q) = if q < r ∨ m < q + 1 + r then pt xs (1 + (m - 1 - q)) else pt xs (1 + q)) → slices_Reverse_1 k g (((1 : Nat) : Int), ((m + 1 : Nat) : Int), (r : Int), (m : Int) - 1 - (r : Int), s) = some R := by
 intro d
 induction d with
 | zero =>
  intro g r s hg hmr hrm hs hs0 hs1
  cases g with
  | zero => omega
  | succ g =>
   simp only [slices_Reverse_1]
   rw [decide_eq_false (show ¬ (r : Int) < (m : Int) - 1 - (r : Int) by omega)]
   simp only [cond_false, Option.some.injEq]
   apply List.ext_getElem (by omega)
   intro q h1 h2
   have key : pt s q = pt R q := by
    cases q with
    | zero => rw [hs0, hR0]
    | succ q =>
     rw [Nat.add_comm q 1, hs1 q (by omega), hR1 q (by omega)]
     split
     ·rfl
     ·congr 2; omega
   unfold pt at key
   rw [List.getD_eq_getElem?_getD, List.getD_eq_getElem?_getD, List.getElem?_eq_getElem h1, List.getElem?_eq_getElem h2] at key
   exact key
 | succ d ih =>
  intro g r s hg hmr hrm hs hs0 hs1
  cases g with
  | zero => omega
  | succ g =>
   simp only [slices_Reverse_1]
   by_cases hlt : (r : Int) < (m : Int) - 1 - (r : Int)
   ·obtain ⟨j, hj⟩ : ∃ j : Nat, (m : Int) - 1 - (r : Int) = (j : Int) := ⟨m - 1 - r, by omega⟩
    have hw : ∀ (u : List Pt'), u.length = m + 1 → (win u 1 (m + 1)).length = m := fun u hu => by unfold win; simp; omega
    rw [decide_eq_true hlt, hj]
    simp only [cond_true, d0, Int.toNat_natCast, hw s hs, hw (s.set (1 + r) ((s.getD (1 + j) (dflt (.pair (.int .i64) (.int .i64)))).1, (s.getD (1 + j) (dflt (.pair (.int .i64) (.int .i64)))).2)) (by simpa using hs), dlt (show j < m by omega), dlt (show r < m by omega), w64_s (show r < m by omega) (by omega)]
    rw [w64_id (x := (j : Int) - 1) (by omega) (by omega), show (j : Int) - 1 = (m : Int) - 1 - ((r + 1 : Nat) : Int) by omega]
    refine ih g (r + 1) _ (by omega) (by omega) (by omega) (by simpa using hs) ?_ (fun q hq => ?_)
    ·have : ∀ a b : Pt', pt ((s.set (1 + r) a).set (1 + j) b) 0 = pt s 0 := by
      intro a b
      unfold pt
      rw [List.getD_eq_getElem?_getD, List.getElem?_set_ne (by omega), List.getElem?_set_ne (by omega), ← List.getD_eq_getElem?_getD]
     rw [this, hs0]
    ·have hget : pt ((s.set (1 + r) (pt s (1 + j))).set (1 + j) (pt s (1 + r))) (1 + q) = if q = j then pt s (1 + r) else if q = r then pt s (1 + j) else pt s (1 + q) := by
      unfold pt
      rw [List.getD_eq_getElem?_getD, List.getElem?_set]
      by_cases e1 : q = j
      ·subst e1
       rw [if_pos rfl, if_pos rfl, if_pos (by simp; omega)]; rfl
      ·rw [if_neg (by omega), if_neg e1, List.getElem?_set]
       by_cases e2 : q = r
       ·subst e2
        rw [if_pos rfl, if_pos rfl, if_pos (by omega)]; rfl
       ·rw [if_neg (by omega), if_neg e2, ← List.getD_eq_getElem?_getD]
     refine hget.trans ?_
     by_cases e1 : q = j
     ·rw [if_pos e1, if_pos (by omega), hs1 r (by omega), if_neg (by omega)]
      congr 2; omega
     ·rw [if_neg e1]
      by_cases e2 : q = r
      ·rw [if_pos e2, if_pos (by omega), hs1 j (by omega), if_neg (by omega)]
       congr 2; omega
      ·rw [if_neg e2, hs1 q hq]
       by_cases e3 : q < r ∨ m < q + 1 + r
       ·rw [if_pos e3, if_pos (by omega)]
       ·rw [if_neg e3, if_neg (by omega)]
   ·rw [decide_eq_false hlt]
    simp only [cond_false, Option.some.injEq]
    apply List.ext_getElem (by omega)
    intro q h1 h2
    have key : pt s q = pt R q := by
     cases q with
     | zero => rw [hs0, hR0]
     | succ q =>
      rw [Nat.add_comm q 1, hs1 q (by omega), hR1 q (by omega)]
      split
      ·rfl
      ·congr 2; omega
    unfold pt at key
    rw [List.getD_eq_getElem?_getD, List.getD_eq_getElem?_getD, List.getElem?_eq_getElem h1, List.getElem?_eq_getElem h2] at key
    exact key
theorem turnL_len (t : Nat) (p : List Pt') : (turnL t p).length = p.length := by simp [turnL]
theorem turnL_get (t : Nat) (p : List Pt') {i : Nat} (hi : i < p.length) : pt (turnL t p) i = turnP t (pt p (if 4 ≤ t then (p.length - i) % p.length else i)) := by
 conv => lhs; unfold pt turnL
 rw [List.getD_eq_getElem?_getD, List.getElem?_map, List.getElem?_range' (by omega)]
 simp
theorem turnL_big {p : List Pt'} (hp : ∀ q ∈ p, big q) (t : Nat) : ∀ q ∈ turnL t p, big q := by
 intro q hq
 unfold turnL at hq
 obtain ⟨i, hi, rfl⟩ := List.mem_map.1 hq
 have hi : i < p.length := by have := List.mem_range'_1.1 hi; omega
 refine turnP_big t (hp _ (getD_mem ?_))
 split
 ·exact Nat.mod_lt _ (by omega)
 ·exact hi
end
end Go.Proofs.YtgcioclfplafkaaGreatV
end
section
namespace Go.Proofs.YtgcioclfplafkaaGreatV
open Go Go.RowKit
theorem fold_b : ∀ (p : List Pt') (s : B4), ((p.foldl bstep s).1 ≤ s.1 ∧ (p.foldl bstep s).2.1 ≤ s.2.1 ∧ s.2.2.1 ≤ (p.foldl bstep s).2.2.1 ∧ s.2.2.2 ≤ (p.foldl bstep s).2.2.2) ∧
  (∀ q ∈ p, (p.foldl bstep s).1 ≤ q.1 ∧ (p.foldl bstep s).2.1 ≤ q.2 ∧ q.1 ≤ (p.foldl bstep s).2.2.1 ∧ q.2 ≤ (p.foldl bstep s).2.2.2) ∧
  ((p.foldl bstep s).1 = s.1 ∨ ∃ q ∈ p, (p.foldl bstep s).1 = q.1) ∧ ((p.foldl bstep s).2.1 = s.2.1 ∨ ∃ q ∈ p, (p.foldl bstep s).2.1 = q.2) ∧ ((p.foldl bstep s).2.2.1 = s.2.2.1 ∨ ∃ q ∈ p, (p.foldl bstep s).2.2.1 = q.1) ∧ ((p.foldl bstep s).2.2.2 = s.2.2.2 ∨ ∃ q ∈ p, (p.foldl bstep s).2.2.2 = q.2)
 | [], s => by simp
 | x :: p, s => by
  obtain ⟨⟨a1, a2, a3, a4⟩, b, c1, c2, c3, c4⟩ := fold_b p (bstep s x)
  have e1 : (bstep s x).1 = mn s.1 x.1 := rfl
  have e2 : (bstep s x).2.1 = mn s.2.1 x.2 := rfl
  have e3 : (bstep s x).2.2.1 = mx s.2.2.1 x.1 := rfl
  have e4 : (bstep s x).2.2.2 = mx s.2.2.2 x.2 := rfl
  rw [e1] at a1 c1; rw [e2] at a2 c2; rw [e3] at a3 c3; rw [e4] at a4 c4
  have m1 : mn s.1 x.1 ≤ s.1 ∧ mn s.1 x.1 ≤ x.1 ∧ (mn s.1 x.1 = s.1 ∨ mn s.1 x.1 = x.1) := by unfold mn; split <;> omega
  have m2 : mn s.2.1 x.2 ≤ s.2.1 ∧ mn s.2.1 x.2 ≤ x.2 ∧ (mn s.2.1 x.2 = s.2.1 ∨ mn s.2.1 x.2 = x.2) := by unfold mn; split <;> omega
  have m3 : s.2.2.1 ≤ mx s.2.2.1 x.1 ∧ x.1 ≤ mx s.2.2.1 x.1 ∧ (mx s.2.2.1 x.1 = s.2.2.1 ∨ mx s.2.2.1 x.1 = x.1) := by unfold mx; split <;> omega
  have m4 : s.2.2.2 ≤ mx s.2.2.2 x.2 ∧ x.2 ≤ mx s.2.2.2 x.2 ∧ (mx s.2.2.2 x.2 = s.2.2.2 ∨ mx s.2.2.2 x.2 = x.2) := by unfold mx; split <;> omega
  have ex : ∀ {P : Pt' → Prop}, (∃ q ∈ p, P q) → ∃ q ∈ x :: p, P q := fun ⟨q, h1, h2⟩ => ⟨q, List.mem_cons_of_mem _ h1, h2⟩
  have eh : ∀ {P : Pt' → Prop}, P x → ∃ q ∈ x :: p, P q := fun h => ⟨x, List.mem_cons_self, h⟩
  rw [List.foldl_cons]
  refine ⟨⟨by omega, by omega, by omega, by omega⟩, fun q hq => ?_, ?_, ?_, ?_, ?_⟩
  ·rcases List.mem_cons.1 hq with h | h
   ·subst h; exact ⟨by omega, by omega, by omega, by omega⟩
   ·exact b q h
  ·rcases c1 with h | h
   ·rcases m1.2.2 with h' | h'
    ·exact .inl (by omega)
    ·exact .inr (eh (by omega))
   ·exact .inr (ex h)
  ·rcases c2 with h | h
   ·rcases m2.2.2 with h' | h'
    ·exact .inl (by omega)
    ·exact .inr (eh (by omega))
   ·exact .inr (ex h)
  ·rcases c3 with h | h
   ·rcases m3.2.2 with h' | h'
    ·exact .inl (by omega)
    ·exact .inr (eh (by omega))
   ·exact .inr (ex h)
  ·rcases c4 with h | h
   ·rcases m4.2.2 with h' | h'
    ·exact .inl (by omega)
    ·exact .inr (eh (by omega))
   ·exact .inr (ex h)
theorem bnd_all (p : List Pt') : ∀ q ∈ p, (bnd p).1 ≤ q.1 ∧ (bnd p).2.1 ≤ q.2 ∧ q.1 ≤ (bnd p).2.2.1 ∧ q.2 ≤ (bnd p).2.2.2 := (fold_b p _).2.1
theorem bnd_at {p : List Pt'} (h0 : 0 < p.length) : (∃ q ∈ p, (bnd p).1 = q.1) ∧ (∃ q ∈ p, (bnd p).2.1 = q.2) ∧ (∃ q ∈ p, (bnd p).2.2.1 = q.1) ∧ (∃ q ∈ p, (bnd p).2.2.2 = q.2) := by
 obtain ⟨-, -, c1, c2, c3, c4⟩ := fold_b p ((pt p 0).1, (pt p 0).2, (pt p 0).1, (pt p 0).2)
 have hm : pt p 0 ∈ p := getD_mem h0
 exact ⟨c1.elim (fun h => ⟨_, hm, h⟩) id, c2.elim (fun h => ⟨_, hm, h⟩) id, c3.elim (fun h => ⟨_, hm, h⟩) id, c4.elim (fun h => ⟨_, hm, h⟩) id⟩
theorem turnP_side {t : Nat} (ht : t < 8) : ((∀ q, okP q = true → 0 ≤ (turnP t q).1 ∧ (turnP t q).1 ≤ 20000) ∨ ∀ q, okP q = true → -20000 ≤ (turnP t q).1 ∧ (turnP t q).1 ≤ 0) ∧ ((∀ q, okP q = true → 0 ≤ (turnP t q).2 ∧ (turnP t q).2 ≤ 20000) ∨ ∀ q, okP q = true → -20000 ≤ (turnP t q).2 ∧ (turnP t q).2 ≤ 0) := by
 simp only [okP_iff]
 have : t = 0 ∨ t = 1 ∨ t = 2 ∨ t = 3 ∨ t = 4 ∨ t = 5 ∨ t = 6 ∨ t = 7 := by omega
 rcases this with rfl | rfl | rfl | rfl | rfl | rfl | rfl | rfl <;>
  (constructor <;> first
   | (refine .inl fun q h => ?_; obtain ⟨a, b⟩ := q; simp only [turnP, rotI, Nat.reduceMod, Nat.reduceLeDiff, if_true, if_false] at *; omega)
   | (refine .inr fun q h => ?_; obtain ⟨a, b⟩ := q; simp only [turnP, rotI, Nat.reduceMod, Nat.reduceLeDiff, if_true, if_false] at *; omega))
theorem ok_big {p : List Pt'} (hp : p.all okP = true) : ∀ q ∈ p, big q := fun q hq => by
 have := okP_iff.1 (List.all_eq_true.1 hp q hq)
 unfold big; omega
theorem turnL_mem {t : Nat} {p : List Pt'} {q : Pt'} (h : q ∈ turnL t p) : ∃ r ∈ p, q = turnP t r := by
 unfold turnL at h
 obtain ⟨i, hi, rfl⟩ := List.mem_map.1 h
 have hi : i < p.length := by have := List.mem_range'_1.1 hi; omega
 refine ⟨_, getD_mem ?_, rfl⟩
 split
 ·exact Nat.mod_lt _ (by omega)
 ·exact hi
theorem trP_len (t : Nat) (p : List Pt') : (trP t p).length = p.length := by simp [trP, sh, turnL_len]
theorem trP_ok {t : Nat} (ht : t < 8) {p : List Pt'} (hp : p.all okP = true) (h0 : 0 < p.length) : (trP t p).all okP = true := by
 obtain ⟨⟨q1, m1, e1⟩, ⟨q2, m2, e2⟩, -⟩ := bnd_at (p := turnL t p) (by rw [turnL_len]; exact h0)
 obtain ⟨s1, s2⟩ := turnP_side ht
 refine List.all_eq_true.2 fun x hx => ?_
 unfold trP sh at hx
 obtain ⟨q, hq, rfl⟩ := List.mem_map.1 hx
 have hb := bnd_all _ q hq
 obtain ⟨r, hr, rfl⟩ := turnL_mem hq
 obtain ⟨r1, hr1, rfl⟩ := turnL_mem m1
 obtain ⟨r2, hr2, rfl⟩ := turnL_mem m2
 have ok := List.all_eq_true.1 hp
 rw [okP_iff]
 simp only
 constructor
 ·rcases s1 with s | s
  ·have := s r (ok r hr); have := s r1 (ok r1 hr1); omega
  ·have := s r (ok r hr); have := s r1 (ok r1 hr1); omega
 ·rcases s2 with s | s
  ·have := s r (ok r hr); have := s r2 (ok r2 hr2); omega
  ·have := s r (ok r hr); have := s r2 (ok r2 hr2); omega
section
variable {k : Nat}
theorem tail_bd {p : List Pt'} (hp : ∀ q ∈ p, big q) (h0 : 0 < p.length) : inR (-100000) 100000 p ∧ (w64 (0 - (bnd p).1) = -(bnd p).1 ∧ w64 (0 - (bnd p).2.1) = -(bnd p).2.1) ∧ (-100000 ≤ -(bnd p).1 ∧ -(bnd p).1 ≤ 100000) ∧ -100000 ≤ -(bnd p).2.1 ∧ -(bnd p).2.1 ≤ 100000 := by
 obtain ⟨⟨q1, m1, e1⟩, ⟨q2, m2, e2⟩, -⟩ := bnd_at h0
 have b1 := hp q1 m1
 have b2 := hp q2 m2
 unfold big at b1 b2
 refine ⟨fun q hq => ?_, ⟨by rw [w64_id (by omega) (by omega)]; omega, by rw [w64_id (by omega) (by omega)]; omega⟩, by omega, by omega⟩
 have := hp q hq
 unfold big at this; omega
theorem turnedL_spec {p : List Pt'} (hp : p.all okP = true) {t : Nat} (ht : t < 8) (h0 : 0 < p.length) (hl : p.length ≤ 1048576) (hk : 1048577 < k) : spec_l03Turned k (p, (t : Int)) = some (trP t p) := by
 have hb := turnL_big (ok_big hp) t
 have h0' : 0 < (turnL t p).length := by rw [turnL_len]; exact h0
 obtain ⟨c1, ⟨c2, c3⟩, c4, c5⟩ := tail_bd hb h0'
 unfold spec_l03Turned
 simp only [turnL_spec (ok_big hp) t ht hl hk, Option.bind_some, bounds_spec h0' (by rw [turnL_len]; exact hl) hk, c2, c3]
 rw [shifted_spec c1 c4 c5 (by rw [turnL_len]; exact hl) hk]
 rfl
theorem pt_map {p : List Pt'} (f : Pt' → Pt') {i : Nat} (hi : i < p.length) : pt (p.map f) i = f (pt p i) := by
 unfold pt
 rw [List.getD_eq_getElem?_getD, List.getElem?_map, List.getD_eq_getElem?_getD, List.getElem?_eq_getElem hi]; rfl
theorem reverse_eq {p : List Pt'} {t : Nat} (h4 : 4 ≤ t) (h0 : 0 < p.length) (hl : p.length ≤ 1048576) (hk : 1048577 < k) : slices_Reverse k (((Int.toNat 1) : Int), ((p.map (turnP t)).length : Int), p.map (turnP t)) = some (turnL t p) := by
 obtain ⟨m, hm⟩ : ∃ m, p.length = m + 1 := ⟨p.length - 1, by omega⟩
 have hx : (p.map (turnP t)).length = m + 1 := by rw [List.length_map]; exact hm
 have h := rev_loop (k := k) (xs := p.map (turnP t)) hx (by omega) (turnL t p) (by rw [turnL_len]; exact hm)
  (by rw [turnL_get t p h0, if_pos h4, pt_map _ h0, Nat.sub_zero, Nat.mod_self])
  (fun q hq => by
   rw [turnL_get t p (by omega), if_pos h4, pt_map _ (by omega), hm, Nat.mod_eq_of_lt (by omega)]
   congr 2; omega) m k 0 (p.map (turnP t)) (by omega) (by omega) (by omega) hx rfl (fun q hq => by
   by_cases hc : q < 0 ∨ m < q + 1 + 0
   ·omega
   ·rw [if_neg hc])
 unfold slices_Reverse
 have hw : ((win (p.map (turnP t)) (Int.toNat ((Int.toNat 1 : Nat) : Int)) (Int.toNat ((m + 1 : Nat) : Int))).length : Int) = (m : Int) := by
  have e : Int.toNat ((Int.toNat 1 : Nat) : Int) = 1 := rfl
  unfold win; rw [Int.toNat_natCast, e]; simp [hx, hm]
 simp only [hx, hw]
 rw [w64_id (by omega) (by omega)]
 simp only [z0, Int.sub_zero] at h
 have e1 : ((Int.toNat ((Int.toNat 1 : Nat) : Int) : Nat) : Int) = ((1 : Nat) : Int) := rfl
 rw [e1, Int.toNat_natCast]
 simp only [h]
 rfl
theorem turnPoints_eq {p : List Pt'} (hp : p.all okP = true) {t : Nat} (ht : t < 8) (h0 : 0 < p.length) (hl : p.length ≤ 1048576) (hk : 1048577 < k) : impl_turnPoints k (p, (t : Int)) = some (trP t p) := by
 have h := runF (fun g i s => impl_turnPoints_3 k g ((t : Int), p, (p.length : Int), (i : Int), s)) p.length (fun i s => s ++ [turnP t (pt p i)]) (fun s => ((t : Int), s)) (fun i s => s.length = i) (fun g s hv => by simp only [impl_turnPoints_3, dge (Nat.le_refl _), cond_false])
  (fun g i s hi hv => by
   simp only [impl_turnPoints_3, dlt hi, d0, cond_true, rd_nat, dfP, w64_s hi (show p.length ≤ 1000000000000 by omega)]
   rw [turned_impl t ht _ (ok_big hp _ (getD_mem hi)) hk]
   simp only [Option.bind_some]
   rw [decide_eq_true (by simp only [List.length_cons, List.length_nil, hv]; omega)]
   rfl) (fun i s hi hv => by simp [hv]) p.length k 0 [] (by omega) (by omega) rfl
 rw [fold_app (fun i => turnP t (pt p i)), map_pt p (turnP t)] at h
 simp only [z0, List.nil_append] at h
 have hb := turnL_big (ok_big hp) t
 have h0' : 0 < (turnL t p).length := by rw [turnL_len]; exact h0
 obtain ⟨c1, ⟨c2, c3⟩, c4, c5⟩ := tail_bd hb h0'
 have fin : ((impl_bounds k (turnL t p)).bind fun (y5, y6, y7, y8) => ((impl_shifted k (turnL t p, (w64 (0 - y5)), (w64 (0 - y6)))).bind fun y9 => some y9)) = some (trP t p) := by
  simp only [bounds_impl h0' (by rw [turnL_len]; exact hl) hk, Option.bind_some, c2, c3]
  rw [shifted_impl c1 c4 c5 (by rw [turnL_len]; exact hl) hk]
  rfl
 unfold impl_turnPoints
 simp only [h, Option.bind_some]
 by_cases h4 : 4 ≤ t
 ·rw [decide_eq_true (show (t : Int) > 3 by omega)]
  simp only [cond_true]
  rw [decide_eq_true (show (1 : Int) ≤ ((p.map (turnP t)).length : Int) by rw [List.length_map]; omega)]
  simp only [cond_true]
  rw [reverse_eq h4 h0 hl hk]
  exact fin
 ·rw [decide_eq_false (show ¬ (t : Int) > 3 by omega)]
  simp only [cond_false]
  have : p.map (turnP t) = turnL t p := by
   rw [← map_pt]; unfold turnL
   exact List.map_congr_left fun i _ => by rw [if_neg h4]
  rw [this]
  exact fin
def fpoly (P : List Pt') (F : List Fc) (f : Nat) : List Pt' := poly P (fc F f).2
theorem face_impl {W H : Int} {P : List Pt'} {F : List Fc} {V : List Vn} (hs : Small P F V) {f : Nat} (hf : f < F.length) (hR : ringB P (fc F f).2 = true) (hk : 1048577 < k) : impl_facePolygon k (W, H, P, F, (f : Int)) = some (fpoly P F f) := by
 unfold impl_facePolygon
 simp only [d0, dlt hf, cond_true, rd_nat, dfF]
 have := ringPolygon_eq (k := k) P hs.p (fc F f).2 (hs.r _ (getD_mem hf)) hk
 unfold fc at this hR
 rw [this, hR]
 rfl
theorem face_spec {W H : Int} {P : List Pt'} {F : List Fc} {V : List Vn} (hs : Small P F V) {f : Nat} (hf : f < F.length) (hR : ringB P (fc F f).2 = true) (hk : 1048577 < k) : spec_l05Polygon k (W, H, P, F, (f : Int)) = some (fpoly P F f) := by
 unfold spec_l05Polygon
 simp only [d0, dlt hf, cond_true, rd_nat, dfF]
 have := l05Ring_eq (k := k) W H P F hs.p (fc F f).2 (hs.r _ (getD_mem hf)) hk
 unfold fc at this hR
 rw [this, hR]
 rfl
end
end Go.Proofs.YtgcioclfplafkaaGreatV
end

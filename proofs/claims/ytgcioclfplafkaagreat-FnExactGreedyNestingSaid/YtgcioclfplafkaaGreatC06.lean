/- Polygons apart, near, at fault; no condition. -/
import Derived.Test.YtgcioclfplafkaaGreatC04
import Derived.Test.YtgcioclfplafkaaGreatC05
set_option linter.all false
section
namespace Go.Proofs.YtgcioclfplafkaaGreatV
open Go Go.RowKit
theorem sqnn (x : Int) : 0 ≤ x * x := by rcases Int.le_total 0 x with h | h; exact Int.mul_nonneg h h; exact Int.mul_nonneg_of_nonpos_of_nonpos h h
structure Dir (α β : Int) : Prop where
 h : (α = 1 ∧ β = 0) ∨ (α = -1 ∧ β = 0) ∨ (α = 0 ∧ β = 1) ∨ (α = 0 ∧ β = -1)
def lin (α β : Int) (p : Pt') : Int := α * p.1 + β * p.2
theorem Dir.one {α β : Int} (h : Dir α β) : α * α + β * β = 1 := by rcases h.h with ⟨rfl, rfl⟩ | ⟨rfl, rfl⟩ | ⟨rfl, rfl⟩ | ⟨rfl, rfl⟩ <;> rfl
theorem Dir.neg {α β : Int} (h : Dir α β) : Dir (-α) (-β) := ⟨by have := h.h; omega⟩
theorem lin_neg (α β : Int) (p : Pt') : lin (-α) (-β) p = -lin α β p := by unfold lin; grind
theorem abs_sq {x d : Int} (h0 : 0 ≤ d) (h : d ≤ x ∨ d ≤ -x) : d * d ≤ x * x := by
 rcases h with h | h
 ·exact sq_le h0 h
 ·have := sq_le h0 h; rw [Int.neg_mul_neg] at this; exact this
theorem sqD_ge {α β d : Int} (hn : Dir α β) {a q : Pt'} (h0 : 0 ≤ d) (h : lin α β a + d ≤ lin α β q) : d * d ≤ sqD a q := by
 have h1 := abs_sq h0 (x := lin α β q - lin α β a) (.inl (by omega))
 have h2 := sqnn (β * (q.1 - a.1) - α * (q.2 - a.2))
 have h3 : (lin α β q - lin α β a) * (lin α β q - lin α β a) + (β * (q.1 - a.1) - α * (q.2 - a.2)) * (β * (q.1 - a.1) - α * (q.2 - a.2)) = (α * α + β * β) * sqD a q := by unfold lin sqD; grind
 rw [hn.one] at h3
 omega
theorem segD_ge {α β d : Int} (hn : Dir α β) {a b q : Pt'} (ha : okP a = true) (hb : okP b = true) (hq : okP q = true) (h0 : 0 ≤ d) (h1 : lin α β a + d ≤ lin α β q) (h2 : lin α β b + d ≤ lin α β q) : d ≤ segD a b q := by
 have s1 := sqD_bd ha hq
 have s2 := sqD_bd hb hq
 have s3 := sqD_bd ha hb
 unfold segD
 split
 ·exact (rt_ok s1.1 (by omega)).ge h0 (sqD_ge hn h0 h1)
 ·rename_i hd
  split
  ·exact (rt_ok s2.1 (by omega)).ge h0 (sqD_ge hn h0 h2)
  ·rename_i hd2
   have hc := cross_bd ha hb hq
   have hcc := csq_bd hc.1 hc.2
   have hL : 0 < sqD a b := by omega
   have hd1 : 0 ≤ cross a b q * cross a b q / sqD a b := Int.ediv_nonneg (by omega) (by omega)
   have hd3 : cross a b q * cross a b q / sqD a b ≤ cross a b q * cross a b q := Int.ediv_le_self _ (by omega)
   refine (rt_ok hd1 (by omega)).ge h0 ((Int.le_ediv_iff_mul_le hL).2 ?_)
   generalize hK : β * (b.1 - a.1) - α * (b.2 - a.2) = K
   have e1 : sqD a b * (lin α β q - lin α β a) - dot a b q * (lin α β b - lin α β a) = cross a b q * K := by
    subst hK; unfold lin sqD dot cross; grind
   have e2 : K * K + (lin α β b - lin α β a) * (lin α β b - lin α β a) = (α * α + β * β) * sqD a b := by
    subst hK; unfold lin sqD; grind
   rw [hn.one] at e2
   have k1 : K * K ≤ sqD a b := by have := sqnn (lin α β b - lin α β a); omega
   have m1 : 0 ≤ (sqD a b - dot a b q) * (lin α β q - lin α β a - d) := Int.mul_nonneg (by omega) (by omega)
   have m2 : 0 ≤ dot a b q * (lin α β q - lin α β b - d) := Int.mul_nonneg (by omega) (by omega)
   have e3 : sqD a b * (lin α β q - lin α β a) - dot a b q * (lin α β b - lin α β a) - sqD a b * d = (sqD a b - dot a b q) * (lin α β q - lin α β a - d) + dot a b q * (lin α β q - lin α β b - d) := by grind
   have k2 : sqD a b * d ≤ cross a b q * K := by omega
   have k3 : (sqD a b * d) * (sqD a b * d) ≤ (cross a b q * K) * (cross a b q * K) := sq_le (Int.mul_nonneg (by omega) h0) k2
   have k4 : (cross a b q * cross a b q) * (K * K) ≤ (cross a b q * cross a b q) * sqD a b := Int.mul_le_mul_of_nonneg_left k1 (by omega)
   have k5 : sqD a b * (d * d * sqD a b) ≤ sqD a b * (cross a b q * cross a b q) := by
    have e4 : (sqD a b * d) * (sqD a b * d) = sqD a b * (d * d * sqD a b) := by grind
    have e5 : (cross a b q * K) * (cross a b q * K) = (cross a b q * cross a b q) * (K * K) := by grind
    have e6 : (cross a b q * cross a b q) * sqD a b = sqD a b * (cross a b q * cross a b q) := Int.mul_comm _ _
    omega
   exact Int.le_of_mul_le_mul_left k5 hL
theorem on_lin {α β : Int} (hn : Dir α β) {a b c : Pt'} (h : onB a b c = true) : lin α β c ≤ lin α β a ∨ lin α β c ≤ lin α β b := by
 unfold onB inB at h
 simp only [Bool.and_eq_true, decide_eq_true_eq] at h
 obtain ⟨-, ⟨x1, x2⟩, y1, y2⟩ := h
 have u1 : mx a.1 b.1 = a.1 ∨ mx a.1 b.1 = b.1 := by unfold mx; split <;> omega
 have u2 : mn a.1 b.1 = a.1 ∨ mn a.1 b.1 = b.1 := by unfold mn; split <;> omega
 have u3 : mx a.2 b.2 = a.2 ∨ mx a.2 b.2 = b.2 := by unfold mx; split <;> omega
 have u4 : mn a.2 b.2 = a.2 ∨ mn a.2 b.2 = b.2 := by unfold mn; split <;> omega
 unfold lin
 rcases hn.h with ⟨rfl, rfl⟩ | ⟨rfl, rfl⟩ | ⟨rfl, rfl⟩ | ⟨rfl, rfl⟩ <;> omega
theorem sg_pos {x : Int} : sg x > 0 ↔ x > 0 := by unfold sg; split <;> (try split) <;> omega
theorem sg_neg {x : Int} : sg x < 0 ↔ x < 0 := by unfold sg; split <;> (try split) <;> omega
theorem sg_mul {x y : Int} (h : sg x * sg y < 0) : (x > 0 ∧ y < 0) ∨ (x < 0 ∧ y > 0) := by
 unfold sg at h
 split at h <;> (try split at h) <;> (try split at h) <;> (try split at h) <;> omega
theorem crossG (a b c : Pt') : Go.Proofs.YtgcioclfplafkaaGreatG.cross a b c = cross a b c := rfl
theorem cross_meet {a b c d : Pt'} (h : crossB a b c d = true) : Go.Proofs.YtgcioclfplafkaaGreatG.Meet a b c d := by
 unfold crossB at h
 simp only [Bool.and_eq_true, decide_eq_true_eq] at h
 have h1 := sg_mul h.1
 have h2 := sg_mul h.2
 have e : cross c d a - cross c d b = cross a b d - cross a b c := by unfold cross; grind
 rcases h2 with h2 | h2
 ·have h1 : cross a b c < 0 ∧ cross a b d > 0 := by omega
  exact Go.Proofs.YtgcioclfplafkaaGreatG.meet_of (by rw [crossG]; omega) (by rw [crossG]; omega) (by rw [crossG]; omega) (by rw [crossG]; omega) (by rw [crossG, crossG]; omega)
 ·have h1 : cross a b d < 0 ∧ cross a b c > 0 := by omega
  have e1 : ∀ x y z : Pt', cross x y z = -cross y x z := fun x y z => by unfold cross; grind
  have f1 := e1 c d a; have f2 := e1 c d b; have f3 := e1 a b c; have f4 := e1 a b d
  refine (Go.Proofs.YtgcioclfplafkaaGreatG.meet_of (a := b) (b := a) (c := c) (d := d) ?_ ?_ ?_ ?_ ?_).swl <;> simp only [crossG] <;> omega
theorem meet_lin {α β d : Int} (hd : 0 < d) {a b c e : Pt'} (h : Go.Proofs.YtgcioclfplafkaaGreatG.Meet a b c e) (h1 : lin α β a + d ≤ lin α β c) (h2 : lin α β a + d ≤ lin α β e) (h3 : lin α β b + d ≤ lin α β c) (h4 : lin α β b + d ≤ lin α β e) : False := by
 obtain ⟨s, t, u, v, h⟩ := h
 have hp := h.pos
 have hs := h.sum
 have ex := h.ex
 have ey := h.ey
 have n1 := Int.mul_nonneg h.hs h.hu
 have e1 : s * lin α β a + t * lin α β b = u * lin α β c + v * lin α β e := by
  have : α * (s * a.1 + t * b.1) + β * (s * a.2 + t * b.2) = α * (u * c.1 + v * e.1) + β * (u * c.2 + v * e.2) := by rw [ex, ey]
  unfold lin; grind
 obtain ⟨m, ma, mb, mc, me⟩ : ∃ m, lin α β a ≤ m ∧ lin α β b ≤ m ∧ m + 1 ≤ lin α β c ∧ m + 1 ≤ lin α β e := by
  rcases Int.le_total (lin α β a) (lin α β b) with q | q
  ·exact ⟨_, q, Int.le_refl _, by omega, by omega⟩
  ·exact ⟨_, Int.le_refl _, q, by omega, by omega⟩
 have k1 := Int.mul_le_mul_of_nonneg_left ma h.hs
 have k2 := Int.mul_le_mul_of_nonneg_left mb h.ht
 have k3 := Int.mul_le_mul_of_nonneg_left mc h.hu
 have k4 := Int.mul_le_mul_of_nonneg_left me h.hv
 have e2 : s * m + t * m = u * m + v * m := by rw [← Int.add_mul, ← Int.add_mul, hs]
 have e3 : u * (m + 1) = u * m + u := by grind
 have e4 : v * (m + 1) = v * m + v := by grind
 omega
theorem min4_ge {a b c d m : Int} (h1 : m ≤ a) (h2 : m ≤ b) (h3 : m ≤ c) (h4 : m ≤ d) : m ≤ min4 a b c d := by
 unfold min4
 dsimp only
 repeat' split
 all_goals omega
theorem touch_lin {α β d : Int} (hn : Dir α β) (hd : 0 < d) {a b c e : Pt'} (h1 : lin α β a + d ≤ lin α β c) (h2 : lin α β a + d ≤ lin α β e) (h3 : lin α β b + d ≤ lin α β c) (h4 : lin α β b + d ≤ lin α β e) : touchB a b c e = false := by
 cases ht : touchB a b c e with
 | false => rfl
 | true =>
  exfalso
  unfold touchB at ht
  simp only [Bool.or_eq_true] at ht
  rcases ht with h | h | h | h | h
  ·exact meet_lin hd (cross_meet h) h1 h2 h3 h4
  ·have := on_lin hn h; omega
  ·have := on_lin hn h; omega
  ·have := on_lin hn.neg h; simp only [lin_neg] at this; omega
  ·have := on_lin hn.neg h; simp only [lin_neg] at this; omega
theorem segS_ge {α β d : Int} (hn : Dir α β) (hd : 0 < d) {a b c e : Pt'} (ha : okP a = true) (hb : okP b = true) (hc : okP c = true) (he : okP e = true) (h1 : lin α β a + d ≤ lin α β c) (h2 : lin α β a + d ≤ lin α β e) (h3 : lin α β b + d ≤ lin α β c) (h4 : lin α β b + d ≤ lin α β e) : d ≤ segS a b c e := by
 unfold segS
 rw [touch_lin hn hd h1 h2 h3 h4, if_neg (by simp)]
 have hd0 : 0 ≤ d := by omega
 refine min4_ge (segD_ge hn ha hb hc hd0 h1 h3) (segD_ge hn ha hb he hd0 h2 h4) (segD_ge hn.neg hc he ha hd0 ?_ ?_) (segD_ge hn.neg hc he hb hd0 ?_ ?_) <;> simp only [lin_neg] <;> omega
theorem fold_ge {d : Int} (f : Int → Nat → Int) : ∀ (l : List Nat) (s : Int), (∀ s i, i ∈ l → (s < 0 ∨ d ≤ s) → d ≤ f s i) → (s < 0 ∨ d ≤ s) → l ≠ [] → d ≤ l.foldl f s
 | [], _, _, _, hn => absurd rfl hn
 | [i], s, h, hs, _ => h s i (List.mem_singleton.2 rfl) hs
 | i :: j :: l, s, h, hs, _ => fold_ge f (j :: l) (f s i) (fun s x hx => h s x (List.mem_cons_of_mem _ hx)) (.inr (h s i List.mem_cons_self hs)) (by simp)
theorem range_ne {n : Nat} (h : 0 < n) : List.range' 0 n ≠ [] := by
 intro e
 have := congrArg List.length e
 simp at this; omega
theorem gapF_ge {α β d : Int} (hn : Dir α β) (hd : 0 < d) {p q : List Pt'} (hp : p.all okP = true) (hq : q.all okP = true) (h1 : 0 < p.length) (h2 : 0 < q.length) (h : ∀ a ∈ p, ∀ b ∈ q, lin α β a + d ≤ lin α β b) : d ≤ gapF p q := by
 unfold gapF
 refine fold_ge (fun s i => gapJ p q i s) _ _ (fun s i hi hs => ?_) (.inl (by omega)) (range_ne h1)
 have hi : i < p.length := by have := List.mem_range'_1.1 hi; omega
 have hm : (i + 1) % p.length < p.length := Nat.mod_lt _ (by omega)
 unfold gapJ
 refine fold_ge (fun s j => gapI p q i j s) _ _ (fun s j hj hs => ?_) hs (range_ne h2)
 have hj : j < q.length := by have := List.mem_range'_1.1 hj; omega
 have hm2 : (j + 1) % q.length < q.length := Nat.mod_lt _ (by omega)
 have k := segS_ge hn hd (pt_ok hp hi) (pt_ok hp hm) (pt_ok hq hj) (pt_ok hq hm2) (h _ (getD_mem hi) _ (getD_mem hj)) (h _ (getD_mem hi) _ (getD_mem hm2)) (h _ (getD_mem hm) _ (getD_mem hj)) (h _ (getD_mem hm) _ (getD_mem hm2))
 show d ≤ gapI p q i j s
 unfold gapI
 have k : d ≤ segS (pt p i) (nxt p i) (pt q j) (nxt q j) := k
 cases hc : decide (s < 0) || decide (segS (pt p i) (nxt p i) (pt q j) (nxt q j) < s) with
 | true => exact k
 | false =>
  simp only [Bool.or_eq_false_iff, decide_eq_false_iff_not] at hc
  simp only [cond_false]; omega
theorem ins_par {p : List Pt'} {q : Pt'} (h : Pt' → Bool) (ho : ∀ i, i < p.length → onB (pt p i) (nxt p i) q = false) (hf : ∀ i, i < p.length → flipB (pt p i) (nxt p i) q = (h (pt p i) != h (nxt p i))) (h0 : 0 < p.length) : insD p q = -1 := by
 have key : ∀ (d i : Nat), i + d = p.length → runR (insB p q) Sum.inl d i (bif h (pt p (i % p.length)) != h (pt p 0) then 1 else -1) = (Sum.inl (-1) : Int ⊕ Int) := by
  intro d
  induction d with
  | zero =>
   intro i hi
   have : i = p.length := by omega
   subst this
   rw [Nat.mod_self]
   unfold runR
   simp
  | succ d ih =>
   intro i hi
   have hil : i < p.length := by omega
   have := ih (i + 1) (by omega)
   unfold runR insB
   rw [ho i hil, hf i hil]
   simp only [cond_false]
   rw [Nat.mod_eq_of_lt hil]
   rw [← this]
   unfold nxt
   cases h (pt p i) <;> cases h (pt p ((i + 1) % p.length)) <;> cases h (pt p 0) <;> rfl
 have k := key p.length 0 (by omega)
 rw [Nat.zero_mod] at k
 have e : (bif h (pt p 0) != h (pt p 0) then (1 : Int) else -1) = -1 := by simp
 rw [e] at k
 unfold insD insR
 rw [k]
theorem insD_far {α β d : Int} (hn : Dir α β) (hd : 0 < d) {p : List Pt'} {q : Pt'} (h0 : 0 < p.length) (h : ∀ a ∈ p, lin α β a + d ≤ lin α β q) : insD p q = -1 := by
 have hp : ∀ i, i < p.length → lin α β (pt p i) + d ≤ lin α β q ∧ lin α β (nxt p i) + d ≤ lin α β q := fun i hi => ⟨h _ (getD_mem hi), h _ (getD_mem (Nat.mod_lt _ h0))⟩
 have ho : ∀ i, i < p.length → onB (pt p i) (nxt p i) q = false := by
  intro i hi
  cases hc : onB (pt p i) (nxt p i) q with
  | false => rfl
  | true => have := on_lin hn hc; have := hp i hi; omega
 have nof : (∀ i, i < p.length → flipB (pt p i) (nxt p i) q = false) → insD p q = -1 := fun hf => ins_par (fun _ => false) ho (fun i hi => by rw [hf i hi]; rfl) h0
 unfold lin at hp
 rcases hn.h with ⟨rfl, rfl⟩ | ⟨rfl, rfl⟩ | ⟨rfl, rfl⟩ | ⟨rfl, rfl⟩
 ·apply nof
  intro i hi
  have k := hp i hi
  generalize pt p i = a at *
  generalize nxt p i = b at *
  have e : cross a b q = (b.1 - a.1) * (q.2 - a.2) - (b.2 - a.2) * (q.1 - a.1) := rfl
  unfold flipB
  by_cases h1 : a.2 ≤ q.2 <;> by_cases h2 : b.2 > q.2
  ·have m1 := Int.mul_le_mul_of_nonneg_right (show b.1 - a.1 ≤ q.1 - a.1 by omega) (show 0 ≤ q.2 - a.2 by omega)
   have m2 := Int.mul_le_mul_of_nonneg_left (show q.2 - a.2 ≤ b.2 - a.2 by omega) (show 0 ≤ q.1 - a.1 by omega)
   have m3 := Int.mul_comm (q.1 - a.1) (b.2 - a.2)
   rw [decide_eq_false (show ¬ sg (cross a b q) > 0 by rw [sg_pos]; omega), decide_eq_false (show ¬ b.2 ≤ q.2 by omega)]; simp
  ·rw [decide_eq_false h2, decide_eq_false (show ¬ a.2 > q.2 by omega)]; simp
  ·rw [decide_eq_false h1, decide_eq_false (show ¬ b.2 ≤ q.2 by omega)]; simp
  ·have m1 := Int.mul_le_mul_of_nonneg_right (show a.1 - b.1 ≤ q.1 - b.1 by omega) (show 0 ≤ q.2 - b.2 by omega)
   have m2 := Int.mul_le_mul_of_nonneg_left (show q.2 - b.2 ≤ a.2 - b.2 by omega) (show 0 ≤ q.1 - b.1 by omega)
   have e2 : cross a b q = (q.1 - b.1) * (a.2 - b.2) - (a.1 - b.1) * (q.2 - b.2) := by rw [e]; grind
   rw [decide_eq_false (show ¬ sg (cross a b q) < 0 by rw [sg_neg]; omega), decide_eq_false (show ¬ a.2 ≤ q.2 by omega)]; simp
 ·refine ins_par (fun z => decide (z.2 > q.2)) ho (fun i hi => ?_) h0
  have k := hp i hi
  generalize pt p i = a at *
  generalize nxt p i = b at *
  have e : cross a b q = (b.1 - a.1) * (q.2 - a.2) - (b.2 - a.2) * (q.1 - a.1) := rfl
  unfold flipB
  by_cases h1 : a.2 > q.2 <;> by_cases h2 : b.2 > q.2
  ·rw [decide_eq_true h1, decide_eq_true h2, decide_eq_false (show ¬ a.2 ≤ q.2 by omega), decide_eq_false (show ¬ b.2 ≤ q.2 by omega)]; simp
  ·have m1 := Int.mul_le_mul_of_nonneg_right (show q.1 - b.1 ≤ a.1 - b.1 by omega) (show 0 ≤ q.2 - b.2 by omega)
   have m2 := Int.mul_lt_mul_of_pos_left (show q.2 - b.2 < a.2 - b.2 by omega) (show 0 < b.1 - q.1 by omega)
   have e2 : cross a b q = (q.1 - b.1) * (a.2 - b.2) - (a.1 - b.1) * (q.2 - b.2) := by rw [e]; grind
   have e3 : (q.1 - b.1) * (a.2 - b.2) = -((b.1 - q.1) * (a.2 - b.2)) := by grind
   have e4 : (q.1 - b.1) * (q.2 - b.2) = -((b.1 - q.1) * (q.2 - b.2)) := by grind
   rw [decide_eq_true h1, decide_eq_false h2, decide_eq_true (show b.2 ≤ q.2 by omega), decide_eq_true (show sg (cross a b q) < 0 by rw [sg_neg]; omega)]; simp
  ·have m1 := Int.mul_le_mul_of_nonneg_right (show q.1 - a.1 ≤ b.1 - a.1 by omega) (show 0 ≤ q.2 - a.2 by omega)
   have m2 := Int.mul_lt_mul_of_pos_left (show q.2 - a.2 < b.2 - a.2 by omega) (show 0 < a.1 - q.1 by omega)
   have e3 : (b.2 - a.2) * (q.1 - a.1) = -((a.1 - q.1) * (b.2 - a.2)) := by grind
   have e4 : (q.1 - a.1) * (q.2 - a.2) = -((a.1 - q.1) * (q.2 - a.2)) := by grind
   rw [decide_eq_false h1, decide_eq_true h2, decide_eq_true (show a.2 ≤ q.2 by omega), decide_eq_true (show sg (cross a b q) > 0 by rw [sg_pos]; omega)]; simp
  ·rw [decide_eq_false h1, decide_eq_false h2]; simp
 ·apply nof
  intro i hi
  have k := hp i hi
  unfold flipB
  rw [decide_eq_false (show ¬ (nxt p i).2 > q.2 by omega), decide_eq_false (show ¬ (pt p i).2 > q.2 by omega)]; simp
 ·apply nof
  intro i hi
  have k := hp i hi
  unfold flipB
  rw [decide_eq_false (show ¬ (nxt p i).2 ≤ q.2 by omega), decide_eq_false (show ¬ (pt p i).2 ≤ q.2 by omega)]; simp
theorem gapD_far {α β d : Int} (hn : Dir α β) (hd : 0 < d) {p q : List Pt'} (hp : p.all okP = true) (hq : q.all okP = true) (h1 : 0 < p.length) (h2 : 0 < q.length) (h : ∀ a ∈ p, ∀ b ∈ q, lin α β a + d ≤ lin α β b) : d ≤ gapD p q := by
 unfold gapD
 have hq0 : pt q 0 ∈ q := getD_mem h2
 have hp0 : pt p 0 ∈ p := getD_mem h1
 rw [insD_far hn hd h1 (fun a ha => h a ha _ hq0), insD_far hn.neg hd h2 (q := pt p 0) (fun b hb => by simp only [lin_neg]; have := h _ hp0 b hb; omega)]
 exact gapF_ge hn hd hp hq h1 h2 h
theorem far_box {p q : List Pt'} {s : Int} (hp : p.all okP = true) (hq : q.all okP = true) (h1 : 0 < p.length) (h2 : 0 < q.length) (h : farB p q s = true) : boxA p q = true ∧ s ≤ gapD p q := by
 have hm : 1 ≤ mx 1 s ∧ s ≤ mx 1 s := by unfold mx; split <;> omega
 have bp := bnd_all p
 have bq := bnd_all q
 unfold farB at h
 simp only [Bool.or_eq_true, decide_eq_true_eq] at h
 unfold boxA
 simp only [Bool.or_eq_true, decide_eq_true_eq]
 refine ⟨by omega, ?_⟩
 rcases h with h | h | h | h
 ·have := gapD_far (α := 1) (β := 0) (d := mx 1 s) ⟨by omega⟩ (by omega) hp hq h1 h2 (fun a ha b hb => by have := bp a ha; have := bq b hb; unfold lin; omega); omega
 ·have := gapD_far (α := -1) (β := 0) (d := mx 1 s) ⟨by omega⟩ (by omega) hp hq h1 h2 (fun a ha b hb => by have := bp a ha; have := bq b hb; unfold lin; omega); omega
 ·have := gapD_far (α := 0) (β := 1) (d := mx 1 s) ⟨by omega⟩ (by omega) hp hq h1 h2 (fun a ha b hb => by have := bp a ha; have := bq b hb; unfold lin; omega); omega
 ·have := gapD_far (α := 0) (β := -1) (d := mx 1 s) ⟨by omega⟩ (by omega) hp hq h1 h2 (fun a ha b hb => by have := bp a ha; have := bq b hb; unfold lin; omega); omega
theorem near_eq {p q : List Pt'} {s : Int} (hp : p.all okP = true) (hq : q.all okP = true) (h1 : 0 < p.length) (h2 : 0 < q.length) (hb : boxA p q = true → dj p q = true) : nearI p q s = nearS p q s := by
 unfold nearI nearS
 cases hf : farB p q s with
 | true =>
  obtain ⟨k1, k2⟩ := far_box hp hq h1 h2 hf
  rw [k1, decide_eq_false (show ¬ gapD p q < s by omega)]; simp
 | false =>
  cases hx : boxA p q with
  | true => rw [hb hx]; simp
  | false => simp
end Go.Proofs.YtgcioclfplafkaaGreatV
end
section
namespace Go.Proofs.YtgcioclfplafkaaGreatV
open Go Go.RowKit
def cx (a b : Pt') : Int := a.1 * b.2 - a.2 * b.1
theorem pos_of_mul {x y : Int} (hx : 0 < x) (h : 0 < x * y) : 0 < y := by
 apply Int.not_le.1
 intro hle
 have := Int.mul_nonneg (show 0 ≤ x by omega) (show 0 ≤ -y by omega)
 rw [Int.mul_neg] at this
 omega
theorem cx_tr (a b c : Pt') : b.1 * cx a c = a.1 * cx b c + c.1 * cx a b := by unfold cx; grind
theorem up1 {A B w : Pt'} (hA : 0 < A.1) (hB : 0 < B.1) (hw : 0 ≤ w.1) (h1 : 0 < cx B w) (h2 : 0 < cx A B) : 0 < cx A w := by
 have e := cx_tr A B w
 have m1 := Int.mul_pos hA h1
 have m2 := Int.mul_nonneg hw (show 0 ≤ cx A B by omega)
 exact pos_of_mul hB (by omega)
theorem up {A1 B1 A2 B2 w : Pt'} (a1 : 0 < A1.1) (b1 : 0 < B1.1) (a2 : 0 < A2.1) (b2 : 0 < B2.1) (hw : 0 ≤ w.1) (hA : cx A1 A2 < 0) (hB : cx B1 B2 < 0)
  (h1 : 0 < cx A1 w ∨ 0 < cx A1 w + cx A1 B2 ∨ 0 < cx A1 w + cx A1 B1) (h3 : 0 < cx B1 w ∨ 0 < cx B1 w + cx B1 A2 ∨ 0 < cx B1 w + cx B1 A1) : 0 < cx A1 w := by
 have an : ∀ x y : Pt', cx x y = -cx y x := fun x y => by unfold cx; grind
 have half : ∀ {A B B' : Pt'}, 0 < A.1 → 0 < B.1 → 0 < B'.1 → cx B B' < 0 → cx A B ≤ 0 → cx A B' < 0 := by
  intro A B B' hA hB hB' h h'
  have e := cx_tr A B B'
  have m1 := Int.mul_pos hA (show 0 < -cx B B' by omega)
  have m2 := Int.mul_nonneg (show 0 ≤ B'.1 by omega) (show 0 ≤ -cx A B by omega)
  rw [Int.mul_neg] at m1 m2
  have := pos_of_mul hB (y := -cx A B') (by rw [Int.mul_neg]; omega)
  omega
 by_cases hc : cx A1 B1 ≤ 0
 ·have := half a1 b1 b2 hB hc
  omega
 ·have hc2 : cx B1 A1 ≤ 0 := by rw [an]; omega
  have := half b1 a1 a2 hA hc2
  exact up1 a1 b1 hw (by omega) (by omega)
theorem sat {α β : Int} (hn : Dir α β) {a y b c z d : Pt'} (hT : 0 < cross a y b) (hU : 0 < cross c z d)
  (fa : lin α β a ≤ lin α β y) (fb : lin α β b ≤ lin α β y) (fyz : lin α β y ≤ lin α β z) (fc : lin α β z ≤ lin α β c) (fd : lin α β z ≤ lin α β d) :
  (∀ u, u = c ∨ u = z ∨ u = d → cross a y u ≤ 0) ∨ (∀ u, u = c ∨ u = z ∨ u = d → cross y b u ≤ 0) ∨ (∀ u, u = a ∨ u = y ∨ u = b → cross c z u ≤ 0) ∨ (∀ u, u = a ∨ u = y ∨ u = b → cross z d u ≤ 0) := by
 let fr : Pt' → Pt' → Pt' := fun p q => (lin α β q - lin α β p, lin (-β) α q - lin (-β) α p)
 have hc : ∀ p q r s : Pt', cx (fr p q) (fr r s) = (q.1 - p.1) * (s.2 - r.2) - (q.2 - p.2) * (s.1 - r.1) := by
  intro p q r s
  have : cx (fr p q) (fr r s) = (α * α + β * β) * ((q.1 - p.1) * (s.2 - r.2) - (q.2 - p.2) * (s.1 - r.1)) := by simp only [fr, cx, lin]; grind
  rw [this, hn.one, Int.one_mul]
 have hf : ∀ p q : Pt', (fr p q).1 = lin α β q - lin α β p := fun _ _ => rfl
 have an : ∀ x y : Pt', cx x y = -cx y x := fun x y => by unfold cx; grind
 have e1 : ∀ u, cross a y u = cx (fr a y) (fr y u) := fun u => by rw [hc]; unfold cross; grind
 have e2 : ∀ u, cross y b u = cx (fr y u) (fr b y) := fun u => by rw [hc]; unfold cross; grind
 have e3 : ∀ u, cross c z u = cx (fr z c) (fr u z) := fun u => by rw [hc]; unfold cross; grind
 have e4 : ∀ u, cross z d u = cx (fr u z) (fr z d) := fun u => by rw [hc]; unfold cross; grind
 have add : ∀ p q r s t : Pt', cx (fr p q) (fr r t) = cx (fr p q) (fr r s) + cx (fr p q) (fr s t) := fun p q r s t => by rw [hc, hc, hc]; grind
 have add2 : ∀ p q r s t : Pt', cx (fr r t) (fr p q) = cx (fr r s) (fr p q) + cx (fr s t) (fr p q) := fun p q r s t => by rw [hc, hc, hc]; grind
 have hA : cx (fr a y) (fr b y) < 0 := by
  have : cross a y b = -cx (fr a y) (fr b y) := by rw [hc]; unfold cross; grind
  omega
 have hB : cx (fr z c) (fr z d) < 0 := by
  have : cross c z d = -cx (fr z c) (fr z d) := by rw [hc]; unfold cross; grind
  omega
 have flat : ∀ p q : Pt', (fr p q).1 = 0 → ∀ r s, cx (fr p q) (fr r s) = -((fr p q).2 * (fr r s).1) := fun p q h r s => by unfold cx; rw [h]; grind
 by_cases g1 : (fr a y).1 = 0
 ·left
  have k1 := flat a y g1 b y
  have k2 : 0 < (fr a y).2 := by
   apply pos_of_mul (x := (fr b y).1) _ (by rw [Int.mul_comm]; omega)
   have : (fr b y).1 ≠ 0 := fun h => by rw [h] at k1; omega
   have := hf b y; omega
  intro u hu
  have k3 := flat a y g1 y u
  have k4 := Int.mul_nonneg (show 0 ≤ (fr a y).2 by omega) (show 0 ≤ (fr y u).1 by rw [hf]; rcases hu with rfl | rfl | rfl <;> omega)
  rw [e1]; omega
 by_cases g2 : (fr b y).1 = 0
 ·right; left
  have k1 := flat b y g2 a y
  have k1' := an (fr a y) (fr b y)
  have k2 : 0 < -(fr b y).2 := by
   apply pos_of_mul (x := (fr a y).1) _ (by rw [Int.mul_neg, Int.mul_comm]; omega)
   have := hf a y; omega
  intro u hu
  have k3 := flat b y g2 y u
  have k3' := an (fr y u) (fr b y)
  have k4 := Int.mul_nonneg (show 0 ≤ -(fr b y).2 by omega) (show 0 ≤ (fr y u).1 by rw [hf]; rcases hu with rfl | rfl | rfl <;> omega)
  rw [Int.neg_mul] at k4
  rw [e2]; omega
 by_cases g3 : (fr z c).1 = 0
 ·right; right; left
  have k1 := flat z c g3 z d
  have k2 : 0 < (fr z c).2 := by
   apply pos_of_mul (x := (fr z d).1) _ (by rw [Int.mul_comm]; omega)
   have : (fr z d).1 ≠ 0 := fun h => by rw [h] at k1; omega
   have := hf z d; omega
  intro u hu
  have k3 := flat z c g3 u z
  have k4 := Int.mul_nonneg (show 0 ≤ (fr z c).2 by omega) (show 0 ≤ (fr u z).1 by rw [hf]; rcases hu with rfl | rfl | rfl <;> omega)
  rw [e3]; omega
 by_cases g4 : (fr z d).1 = 0
 ·right; right; right
  have k1 := flat z d g4 z c
  have k1' := an (fr z c) (fr z d)
  have k2 : 0 < -(fr z d).2 := by
   apply pos_of_mul (x := (fr z c).1) _ (by rw [Int.mul_neg, Int.mul_comm]; omega)
   have := hf z c; omega
  intro u hu
  have k3 := flat z d g4 u z
  have k3' := an (fr u z) (fr z d)
  have k4 := Int.mul_nonneg (show 0 ≤ -(fr z d).2 by omega) (show 0 ≤ (fr u z).1 by rw [hf]; rcases hu with rfl | rfl | rfl <;> omega)
  rw [Int.neg_mul] at k4
  rw [e4]; omega
 have p1 : 0 < (fr a y).1 := by have := hf a y; omega
 have p2 : 0 < (fr b y).1 := by have := hf b y; omega
 have p3 : 0 < (fr z c).1 := by have := hf z c; omega
 have p4 : 0 < (fr z d).1 := by have := hf z d; omega
 have pw : 0 ≤ (fr y z).1 := by have := hf y z; omega
 by_cases h1 : ∀ u, u = c ∨ u = z ∨ u = d → cross a y u ≤ 0
 ·exact .inl h1
 by_cases h2 : ∀ u, u = c ∨ u = z ∨ u = d → cross y b u ≤ 0
 ·exact .inr (.inl h2)
 by_cases h3 : ∀ u, u = a ∨ u = y ∨ u = b → cross c z u ≤ 0
 ·exact .inr (.inr (.inl h3))
 by_cases h4 : ∀ u, u = a ∨ u = y ∨ u = b → cross z d u ≤ 0
 ·exact .inr (.inr (.inr h4))
 exfalso
 have H1 : 0 < cx (fr a y) (fr y z) ∨ 0 < cx (fr a y) (fr y z) + cx (fr a y) (fr z d) ∨ 0 < cx (fr a y) (fr y z) + cx (fr a y) (fr z c) := by
  apply Classical.byContradiction
  intro hno
  apply h1
  intro u hu
  have k1 := add a y y z c
  have k2 := add a y y z d
  rw [e1]
  rcases hu with rfl | rfl | rfl <;> omega
 have H3 : 0 < cx (fr z c) (fr y z) ∨ 0 < cx (fr z c) (fr y z) + cx (fr z c) (fr b y) ∨ 0 < cx (fr z c) (fr y z) + cx (fr z c) (fr a y) := by
  apply Classical.byContradiction
  intro hno
  apply h3
  intro u hu
  have k1 := add z c a y z
  have k2 := add z c b y z
  rw [e3]
  rcases hu with rfl | rfl | rfl <;> omega
 have A := up p1 p3 p2 p4 pw hA hB H1 H3
 let mr : Pt' → Pt' := fun p => (p.1, -p.2)
 have hm : ∀ p q : Pt', cx (mr p) (mr q) = -cx p q := fun p q => by simp only [mr, cx]; grind
 have H2 : 0 < cx (mr (fr b y)) (mr (fr y z)) ∨ 0 < cx (mr (fr b y)) (mr (fr y z)) + cx (mr (fr b y)) (mr (fr z c)) ∨ 0 < cx (mr (fr b y)) (mr (fr y z)) + cx (mr (fr b y)) (mr (fr z d)) := by
  apply Classical.byContradiction
  intro hno
  simp only [hm] at hno
  apply h2
  intro u hu
  have k1 := add2 b y y z c
  have k2 := add2 b y y z d
  have j1 := an (fr y z) (fr b y)
  have j2 := an (fr z c) (fr b y)
  have j3 := an (fr z d) (fr b y)
  rw [e2]
  rcases hu with rfl | rfl | rfl <;> omega
 have H4 : 0 < cx (mr (fr z d)) (mr (fr y z)) ∨ 0 < cx (mr (fr z d)) (mr (fr y z)) + cx (mr (fr z d)) (mr (fr a y)) ∨ 0 < cx (mr (fr z d)) (mr (fr y z)) + cx (mr (fr z d)) (mr (fr b y)) := by
  apply Classical.byContradiction
  intro hno
  simp only [hm] at hno
  apply h4
  intro u hu
  have k1 := add2 z d a y z
  have k2 := add2 z d b y z
  have j1 := an (fr y z) (fr z d)
  have j2 := an (fr a y) (fr z d)
  have j3 := an (fr b y) (fr z d)
  rw [e4]
  rcases hu with rfl | rfl | rfl <;> omega
 have B := up (A1 := mr (fr b y)) (B1 := mr (fr z d)) (A2 := mr (fr a y)) (B2 := mr (fr z c)) (w := mr (fr y z)) p2 p4 p1 p3 pw (by rw [hm]; have := an (fr b y) (fr a y); omega) (by rw [hm]; have := an (fr z d) (fr z c); omega) H2 H4
 rw [hm] at B
 have e := cx_tr (fr a y) (fr y z) (fr b y)
 have j := an (fr y z) (fr b y)
 have m1 := Int.mul_pos p1 (show 0 < cx (fr y z) (fr b y) by omega)
 have m2 := Int.mul_pos p2 A
 have m3 := Int.mul_nonneg pw (show 0 ≤ -cx (fr a y) (fr b y) by omega)
 rw [Int.mul_neg] at m3
 omega
end Go.Proofs.YtgcioclfplafkaaGreatV
end
section
namespace Go.Proofs.YtgcioclfplafkaaGreatV
open Go Go.RowKit
def ccw (T : List Pt') : Prop := 0 < cross (pt T 0) (pt T 1) (pt T 2)
def CE : Nat → List Pt' → Prop
 | 0, p => p.length = 3 ∧ ccw p
 | n + 1, p => (p.length = 3 ∧ ccw p) ∨ (3 < p.length ∧ ∃ i, ear1 p = some i ∧ CE n (p.eraseIdx i))
theorem CE.ears : ∀ {n : Nat} {p : List Pt'}, CE n p → Ears n p
 | 0, p, h => by show p.length ≤ 3; have := h.1; omega
 | n + 1, p, h => by
  rcases h with h | ⟨_, i, h1, h2⟩
  ·exact .inl (by have := h.1; omega)
  ·exact .inr ⟨i, h1, h2.ears⟩
theorem pick (T : List Pt') (f : Pt' → Int) : ∃ i, i < 3 ∧ f (pt T i) ≤ f (pt T ((i + 1) % 3)) ∧ f (pt T ((i + 2) % 3)) ≤ f (pt T ((i + 1) % 3)) := by
 by_cases h1 : f (pt T 0) ≤ f (pt T 1) ∧ f (pt T 2) ≤ f (pt T 1)
 ·exact ⟨0, by omega, h1⟩
 ·by_cases h2 : f (pt T 1) ≤ f (pt T 2) ∧ f (pt T 0) ≤ f (pt T 2)
  ·exact ⟨1, by omega, h2⟩
  ·exact ⟨2, by omega, by show f (pt T 2) ≤ f (pt T 0) ∧ f (pt T 1) ≤ f (pt T 0); omega⟩
theorem cross_rot (a b c : Pt') : cross a b c = cross b c a := by unfold cross; grind
theorem ccw_at {T : List Pt'} (h : ccw T) {i : Nat} (hi : i < 3) : 0 < cross (pt T i) (pt T ((i + 1) % 3)) (pt T ((i + 2) % 3)) := by
 unfold ccw at h
 have e1 := cross_rot (pt T 0) (pt T 1) (pt T 2)
 have e2 := cross_rot (pt T 1) (pt T 2) (pt T 0)
 have : i = 0 ∨ i = 1 ∨ i = 2 := by omega
 rcases this with rfl | rfl | rfl
 ·exact h
 ·show 0 < cross (pt T 1) (pt T 2) (pt T 0); omega
 ·show 0 < cross (pt T 2) (pt T 0) (pt T 1); omega
theorem all3 {i j : Nat} (hi : i < 3) (hj : j < 3) : j = i ∨ j = (i + 1) % 3 ∨ j = (i + 2) % 3 := by omega
theorem besB_of {T U : List Pt'} {i : Nat} (hi : i < 3) (h : ∀ j, j < 3 → cross (pt T i) (pt T ((i + 1) % 3)) (pt U j) ≤ 0) : besB T U = true := by
 unfold besB
 refine List.any_eq_true.2 ⟨i, List.mem_range'_1.2 (by omega), List.all_eq_true.2 fun j hj => ?_⟩
 have hj : j < 3 := by have := List.mem_range'_1.1 hj; omega
 have := h j hj
 exact decide_eq_true (by unfold sg; split <;> (try split) <;> omega)
theorem bes_lin {α β : Int} (hn : Dir α β) {T U : List Pt'} (hT : ccw T) (hU : ccw U) (h : ∀ i j, i < 3 → j < 3 → lin α β (pt T i) ≤ lin α β (pt U j)) : besB T U = true ∨ besB U T = true := by
 obtain ⟨i, hi, i1, i2⟩ := pick T (lin α β)
 obtain ⟨j, hj, j1, j2⟩ := pick U (fun p => -lin α β p)
 have hm : ∀ x, x % 3 < 3 := fun x => Nat.mod_lt _ (by omega)
 have n1 : ((i + 1) % 3 + 1) % 3 = (i + 2) % 3 := by omega
 have n2 : ((j + 1) % 3 + 1) % 3 = (j + 2) % 3 := by omega
 have k := sat hn (ccw_at hT hi) (ccw_at hU hj) i1 i2 (h _ _ (hm _) (hm _)) (by omega) (by omega)
 have cov : ∀ {X : List Pt'} {i l : Nat}, i < 3 → l < 3 → pt X l = pt X i ∨ pt X l = pt X ((i + 1) % 3) ∨ pt X l = pt X ((i + 2) % 3) := by
  intro X i l hi hl
  rcases all3 hi hl with e | e | e
  ·exact .inl (by rw [e])
  ·exact .inr (.inl (by rw [← e]))
  ·exact .inr (.inr (by rw [← e]))
 rcases k with k | k | k | k
 ·exact .inl (besB_of hi fun l hl => k _ (cov hj hl))
 ·exact .inl (besB_of (hm (i + 1)) fun l hl => by rw [n1]; exact k _ (cov hj hl))
 ·exact .inr (besB_of hj fun l hl => k _ (cov hi hl))
 ·exact .inr (besB_of (hm (j + 1)) fun l hl => by rw [n2]; exact k _ (cov hi hl))
structure TriP (p t : List Pt') : Prop where
 l : t.length = 3
 c : ccw t
 m : ∀ x ∈ t, x ∈ p
theorem CE.tris : ∀ {n : Nat} {p : List Pt'}, CE n p → ∀ t ∈ tris n p, TriP p t
 | 0, p, h, t, ht => by rw [List.mem_singleton.1 (show t ∈ [p] from ht)]; exact ⟨h.1, h.2, fun x hx => hx⟩
 | n + 1, p, h, t, ht => by
  rcases h with ⟨h1, h2⟩ | ⟨h3, i, hi, h⟩
  ·rw [tris_none (by omega)] at ht
   rw [List.mem_singleton.1 ht]; exact ⟨h1, h2, fun x hx => hx⟩
  ·rw [tris_some h3 hi] at ht
   obtain ⟨hil, he⟩ := ear1_lt hi
   rcases List.mem_cons.1 ht with rfl | ht
   ·refine ⟨rfl, ?_, fun x hx => ?_⟩
    ·unfold earB at he
     simp only [Bool.and_eq_true, beq_iff_eq] at he
     have := he.1
     exact sg_pos.1 (show sg (cross (pre p i) (pt p i) (nxt p i)) > 0 by omega)
    ·simp only [tri3, List.mem_cons, List.not_mem_nil, or_false] at hx
     rcases hx with rfl | rfl | rfl
     ·exact getD_mem (Nat.mod_lt _ (by omega))
     ·exact getD_mem hil
     ·exact getD_mem (Nat.mod_lt _ (by omega))
   ·have := CE.tris h t ht
    exact ⟨this.l, this.c, fun x hx => List.mem_of_mem_eraseIdx (this.m x hx)⟩
theorem dj_of {n : Nat} {p q : List Pt'} (hp : CE n p) (hq : CE n q) (h : ∀ T U, TriP p T → TriP q U → besB T U = true ∨ besB U T = true) : disB (tris n p) (tris n q) = true := by
 unfold disB
 simp only [Bool.not_eq_true', List.any_eq_false, Bool.not_eq_true]
 intro i hi j hj
 have hi : i < (tris n p).length := by have := List.mem_range'_1.1 hi; omega
 have hj : j < (tris n q).length := by have := List.mem_range'_1.1 hj; omega
 have := h _ _ (hp.tris _ (getD_mem (d := []) hi)) (hq.tris _ (getD_mem (d := []) hj))
 unfold disJ tt
 rcases this with e | e <;> rw [e] <;> simp
theorem box_dj {p q : List Pt'} (hp : CE 21 p) (hq : CE 21 q) (h : boxA p q = true) : dj p q = true := by
 have bp := bnd_all p
 have bq := bnd_all q
 unfold boxA at h
 simp only [Bool.or_eq_true, decide_eq_true_eq] at h
 refine dj_of hp hq fun T U hT hU => ?_
 have mT : ∀ i, i < 3 → pt T i ∈ p := fun i hi => hT.m _ (getD_mem (by rw [hT.l]; exact hi))
 have mU : ∀ i, i < 3 → pt U i ∈ q := fun i hi => hU.m _ (getD_mem (by rw [hU.l]; exact hi))
 rcases h with h | h | h | h
 ·exact bes_lin (α := 1) (β := 0) ⟨by omega⟩ hT.c hU.c fun i j hi hj => by have := bp _ (mT i hi); have := bq _ (mU j hj); unfold lin; omega
 ·exact bes_lin (α := -1) (β := 0) ⟨by omega⟩ hT.c hU.c fun i j hi hj => by have := bp _ (mT i hi); have := bq _ (mU j hj); unfold lin; omega
 ·exact bes_lin (α := 0) (β := 1) ⟨by omega⟩ hT.c hU.c fun i j hi hj => by have := bp _ (mT i hi); have := bq _ (mU j hj); unfold lin; omega
 ·exact bes_lin (α := 0) (β := -1) ⟨by omega⟩ hT.c hU.c fun i j hi hj => by have := bp _ (mT i hi); have := bq _ (mU j hj); unfold lin; omega
end Go.Proofs.YtgcioclfplafkaaGreatV
end
section
namespace Go.Proofs.YtgcioclfplafkaaGreatV
open Go Go.RowKit
open Go.Proofs.YtgcioclfplafkaaGreatG (At Meet Same Ends Adj Eg Plane Sim ky dbl sumc lst)
theorem ky_ok {a b : Pt'} (ha : okP a = true) (hb : okP b = true) (h : ky a = ky b) : a = b := by
 rw [okP_iff] at ha hb
 unfold ky at h
 exact Prod.ext (by omega) (by omega)
theorem on_conv {a b q : Pt'} {s t : Int} (hs : 0 ≤ s) (ht : 0 ≤ t) (hp : 0 < s + t) (h0 : cross a b q = 0) (hx : s * a.1 + t * b.1 = (s + t) * q.1) (hy : s * a.2 + t * b.2 = (s + t) * q.2) : onB a b q = true := by
 have lo : ∀ x y z : Int, s * x + t * y = (s + t) * z → mn x y ≤ z ∧ z ≤ mx x y := by
  intro x y z h
  have m1 : mn x y ≤ x ∧ mn x y ≤ y := by unfold mn; split <;> omega
  have m2 : x ≤ mx x y ∧ y ≤ mx x y := by unfold mx; split <;> omega
  have k1 := Int.mul_le_mul_of_nonneg_left m1.1 hs
  have k2 := Int.mul_le_mul_of_nonneg_left m1.2 ht
  have k3 := Int.mul_le_mul_of_nonneg_left m2.1 hs
  have k4 := Int.mul_le_mul_of_nonneg_left m2.2 ht
  have e1 : (s + t) * mn x y = s * mn x y + t * mn x y := Int.add_mul ..
  have e2 : (s + t) * mx x y = s * mx x y + t * mx x y := Int.add_mul ..
  exact ⟨Int.le_of_mul_le_mul_left (a := s + t) (by omega) hp, Int.le_of_mul_le_mul_left (a := s + t) (by omega) hp⟩
 obtain ⟨x1, x2⟩ := lo _ _ _ hx
 obtain ⟨y1, y2⟩ := lo _ _ _ hy
 unfold onB inB
 rw [h0, decide_eq_true x1, decide_eq_true x2, decide_eq_true y1, decide_eq_true y2]
 rfl
theorem on_end {a b q : Pt'} (h : q = a ∨ q = b) : onB a b q = true := by
 rcases h with rfl | rfl
 ·exact on_conv (s := 1) (t := 0) (by omega) (by omega) (by omega) (by unfold cross; grind) (by omega) (by omega)
 ·exact on_conv (s := 0) (t := 1) (by omega) (by omega) (by omega) (by unfold cross; grind) (by omega) (by omega)
theorem on_btw {a b q : Pt'} (ha : okP a = true) (hb : okP b = true) (hq : okP q = true) (h0 : cross a b q = 0) (h : (ky a ≤ ky q ∧ ky q ≤ ky b) ∨ (ky b ≤ ky q ∧ ky q ≤ ky a)) : onB a b q = true := by
 by_cases e1 : ky q = ky a
 ·exact on_end (.inl (ky_ok hq ha e1))
 by_cases e2 : ky q = ky b
 ·exact on_end (.inr (ky_ok hq hb e2))
 rcases h with ⟨h1, h2⟩ | ⟨h1, h2⟩
 ·have k := Go.Proofs.YtgcioclfplafkaaGreatG.at_on (a := a) (b := b) (q := q) q h0 (by omega) (by omega)
  have ex := k.ex
  have ey := k.ey
  have hs := k.sum
  refine on_conv k.hs k.ht k.pos h0 (by rw [ex, hs, Int.add_mul]) (by rw [ey, hs, Int.add_mul])
 ·have h0' : cross b a q = 0 := by
   have : cross b a q = -cross a b q := by unfold cross; grind
   omega
  have k := (Go.Proofs.YtgcioclfplafkaaGreatG.at_on (a := b) (b := a) (q := q) q h0' (by omega) (by omega)).swl
  have ex := k.ex
  have ey := k.ey
  have hs := k.sum
  refine on_conv k.hs k.ht k.pos h0 (by rw [ex, hs, Int.add_mul]) (by rw [ey, hs, Int.add_mul])
theorem zero_of {x y : Int} (h : x * y = 0) (hy : y ≠ 0) : x = 0 := (Int.mul_eq_zero.1 h).resolve_right hy
theorem opp {u v A B : Int} (hu : 0 ≤ u) (hv : 0 ≤ v) (hp : 0 < u + v) (h : u * A + v * B = 0) (hA : A ≠ 0) (hB : B ≠ 0) : sg A * sg B < 0 := by
 have key : ¬(0 < A ∧ 0 < B) ∧ ¬(A < 0 ∧ B < 0) := by
  constructor
  ·rintro ⟨a, b⟩
   have m1 := Int.mul_le_mul_of_nonneg_left (show 1 ≤ A by omega) hu
   have m2 := Int.mul_le_mul_of_nonneg_left (show 1 ≤ B by omega) hv
   omega
  ·rintro ⟨a, b⟩
   have m1 := Int.mul_le_mul_of_nonneg_left (show 1 ≤ -A by omega) hu
   have m2 := Int.mul_le_mul_of_nonneg_left (show 1 ≤ -B by omega) hv
   rw [Int.mul_neg] at m1 m2
   omega
 unfold sg
 split <;> split <;> (try split) <;> (try split) <;> omega
theorem at_touch {a b c d : Pt'} (ha : okP a = true) (hb : okP b = true) (hc : okP c = true) (hd : okP d = true) (h : Meet a b c d) : touchB a b c d = true := by
 obtain ⟨s, t, u, v, h⟩ := h
 have hp := h.pos
 have hsum := h.sum
 have ex := h.ex
 have ey := h.ey
 have hs := h.hs; have ht := h.ht; have hu := h.hu; have hv := h.hv
 have c1 : u * cross a b c + v * cross a b d = 0 := by
  have := h.cr a b
  have z1 : cross a b a = 0 := by unfold cross; grind
  have z2 : cross a b b = 0 := by unfold cross; grind
  simp only [crossG, z1, z2] at this
  omega
 have c2 : s * cross c d a + t * cross c d b = 0 := by
  have := h.cr c d
  have z1 : cross c d c = 0 := by unfold cross; grind
  have z2 : cross c d d = 0 := by unfold cross; grind
  simp only [crossG, z1, z2] at this
  omega
 have e : cross c d a - cross c d b = cross a b d - cross a b c := by unfold cross; grind
 unfold touchB
 simp only [Bool.or_eq_true]
 by_cases hA : cross a b c = 0 <;> by_cases hB : cross a b d = 0
 ·by_cases hC : cross c d a = 0
  ·have hD : cross c d b = 0 := by omega
   have ek : s * ky a + t * ky b = u * ky c + v * ky d := by
    have : 1000000 * (s * a.1 + t * b.1) + (s * a.2 + t * b.2) = 1000000 * (u * c.1 + v * d.1) + (u * c.2 + v * d.2) := by rw [ex, ey]
    unfold ky; grind
   obtain ⟨p1, p2⟩ : ∃ p1, (p1 = a ∨ p1 = b) ∧ ky p1 ≤ ky a ∧ ky p1 ≤ ky b := by
    rcases Int.le_total (ky a) (ky b) with q | q
    ·exact ⟨a, .inl rfl, Int.le_refl _, q⟩
    ·exact ⟨b, .inr rfl, q, Int.le_refl _⟩
   obtain ⟨q1, q2⟩ : ∃ p1, (p1 = c ∨ p1 = d) ∧ ky p1 ≤ ky c ∧ ky p1 ≤ ky d := by
    rcases Int.le_total (ky c) (ky d) with q | q
    ·exact ⟨c, .inl rfl, Int.le_refl _, q⟩
    ·exact ⟨d, .inr rfl, q, Int.le_refl _⟩
   have e5 : ∀ m : Int, (s + t) * m = s * m + t * m := fun m => Int.add_mul ..
   have e6 : ∀ m : Int, (s + t) * m = u * m + v * m := fun m => by rw [hsum]; exact Int.add_mul ..
   rcases Int.le_total (ky p1) (ky q1) with le | le
   ·-- the lesser of c and d is between a and b
    have hb1 : ky q1 ≤ ky a ∨ ky q1 ≤ ky b := by
     apply Classical.byContradiction
     intro hno
     have m1 := Int.mul_le_mul_of_nonneg_left (show ky a + 1 ≤ ky q1 by omega) hs
     have m2 := Int.mul_le_mul_of_nonneg_left (show ky b + 1 ≤ ky q1 by omega) ht
     have m3 := Int.mul_le_mul_of_nonneg_left q2.2.1 hu
     have m4 := Int.mul_le_mul_of_nonneg_left q2.2.2 hv
     rw [Int.mul_add] at m1 m2
     have := e5 (ky q1); have := e6 (ky q1)
     omega
    rcases q2.1 with rfl | rfl
    ·exact .inr (.inl (on_btw ha hb hc hA (by rcases p2.1 with rfl | rfl <;> omega)))
    ·exact .inr (.inr (.inl (on_btw ha hb hd hB (by rcases p2.1 with rfl | rfl <;> omega))))
   ·have hb1 : ky p1 ≤ ky c ∨ ky p1 ≤ ky d := by
     apply Classical.byContradiction
     intro hno
     have m1 := Int.mul_le_mul_of_nonneg_left (show ky c + 1 ≤ ky p1 by omega) hu
     have m2 := Int.mul_le_mul_of_nonneg_left (show ky d + 1 ≤ ky p1 by omega) hv
     have m3 := Int.mul_le_mul_of_nonneg_left p2.2.1 hs
     have m4 := Int.mul_le_mul_of_nonneg_left p2.2.2 ht
     rw [Int.mul_add] at m1 m2
     have := e5 (ky p1); have := e6 (ky p1)
     omega
    rcases p2.1 with rfl | rfl
    ·exact .inr (.inr (.inr (.inl (on_btw hc hd ha hC (by rcases q2.1 with rfl | rfl <;> omega)))))
    ·exact .inr (.inr (.inr (.inr (on_btw hc hd hb hD (by rcases q2.1 with rfl | rfl <;> omega)))))
  ·exfalso
   have : cross c d a = cross c d b := by omega
   rw [← this, ← Int.add_mul] at c2
   have := zero_of c2 hC; omega
 ·rw [hA] at c1
  have hv0 : v = 0 := zero_of (by omega) hB
  subst hv0
  have hu : u = s + t := by omega
  subst hu
  exact .inr (.inl (on_conv hs ht hp hA (by omega) (by omega)))
 ·rw [hB] at c1
  have hu0 : u = 0 := zero_of (by omega) hA
  subst hu0
  have hv : v = s + t := by omega
  subst hv
  exact .inr (.inr (.inl (on_conv hs ht hp hB (by omega) (by omega))))
 ·by_cases hC : cross c d a = 0 <;> by_cases hD : cross c d b = 0
  ·exfalso
   have : cross a b c = cross a b d := by omega
   rw [← this, ← Int.add_mul] at c1
   have := zero_of c1 hA; omega
  ·rw [hC] at c2
   have ht0 : t = 0 := zero_of (by omega) hD
   subst ht0
   have hs : s = u + v := by omega
   subst hs
   exact .inr (.inr (.inr (.inl (on_conv hu hv (by omega) hC (by omega) (by omega)))))
  ·rw [hD] at c2
   have hs0 : s = 0 := zero_of (by omega) hC
   subst hs0
   have ht : t = u + v := by omega
   subst ht
   exact .inr (.inr (.inr (.inr (on_conv hu hv (by omega) hD (by omega) (by omega)))))
  ·left
   unfold crossB
   rw [decide_eq_true (opp hu hv (by omega) c1 hA hB), decide_eq_true (opp hs ht hp c2 hC hD)]; rfl
theorem adj_ends {a b c : Pt'} (ha : okP a = true) (hb : okP b = true) (hc : okP c = true) (n1 : a ≠ b) (n2 : b ≠ c) (h1 : onB a b c = false) (h2 : onB b c a = false) : Go.Proofs.YtgcioclfplafkaaGreatG.Ends a b b c := by
 intro s t u v h
 have hsum := h.sum
 have ex := h.ex
 have ey := h.ey
 have hs := h.hs; have ht := h.ht; have hu := h.hu; have hv := h.hv
 have hp := h.pos
 have c1 : v * cross a b c = 0 := by
  have := h.cr a b
  have z1 : cross a b a = 0 := by unfold cross; grind
  have z2 : cross a b b = 0 := by unfold cross; grind
  simp only [crossG, z1, z2] at this
  omega
 have f1 : ∀ {P : Prop}, onB a b c = true → P := fun h => by rw [h1] at h; cases h
 have f2 : ∀ {P : Prop}, onB b c a = true → P := fun h => by rw [h2] at h; cases h
 by_cases h0 : cross a b c = 0
 ·have h0' : cross b c a = 0 := by rw [← cross_rot]; exact h0
  have k1 : ky a ≠ ky b := fun e => n1 (ky_ok ha hb e)
  have k2 : ky b ≠ ky c := fun e => n2 (ky_ok hb hc e)
  have ek : s * ky a + t * ky b = u * ky b + v * ky c := by
   have : 1000000 * (s * a.1 + t * b.1) + (s * a.2 + t * b.2) = 1000000 * (u * b.1 + v * c.1) + (u * b.2 + v * c.2) := by rw [ex, ey]
   unfold ky; grind
  have e2 : s * (ky b - ky a) + v * (ky c - ky b) = 0 := by
   have : t * ky b = (u + v - s) * ky b := by rw [show t = u + v - s by omega]
   grind
  have ord : (ky a < ky b ∧ ky b < ky c) ∨ (ky c < ky b ∧ ky b < ky a) := by
   apply Classical.byContradiction
   intro hno
   by_cases q : (ky a ≤ ky c ∧ ky c ≤ ky b) ∨ (ky b ≤ ky c ∧ ky c ≤ ky a)
   ·exact f1 (on_btw ha hb hc h0 q)
   ·exact f2 (on_btw hb hc ha h0' (by omega))
  have key : s = 0 ∧ v = 0 := by
   rcases ord with ⟨o1, o2⟩ | ⟨o1, o2⟩
   ·have m1 := Int.mul_le_mul_of_nonneg_left (show 1 ≤ ky b - ky a by omega) hs
    have m2 := Int.mul_le_mul_of_nonneg_left (show 1 ≤ ky c - ky b by omega) hv
    omega
   ·have m1 := Int.mul_le_mul_of_nonneg_left (show 1 ≤ -(ky b - ky a) by omega) hs
    have m2 := Int.mul_le_mul_of_nonneg_left (show 1 ≤ -(ky c - ky b) by omega) hv
    rw [Int.mul_neg] at m1 m2
    omega
  exact ⟨.inl key.1, .inr key.2⟩
 ·have hv0 : v = 0 := zero_of c1 h0
  refine ⟨.inl ?_, .inr hv0⟩
  subst hv0
  apply Classical.byContradiction
  intro hs0
  have hu : u = s + t := by omega
  subst hu
  rw [Int.add_mul] at ex ey
  exact n1 (Prod.ext (Int.eq_of_mul_eq_mul_left hs0 (by omega)) (Int.eq_of_mul_eq_mul_left hs0 (by omega)))
def SE (a b c d : Pt') : Prop := Same a b c d ∨ Go.Proofs.YtgcioclfplafkaaGreatG.Ends a b c d
theorem SE.comm {a b c d : Pt'} (h : SE a b c d) : SE c d a b := h.imp Same.comm Go.Proofs.YtgcioclfplafkaaGreatG.Ends.comm
theorem SE.swl {a b c d : Pt'} (h : SE a b c d) : SE b a c d := h.imp (fun h => by rcases h with ⟨h1, h2⟩ | ⟨h1, h2⟩; exact .inr ⟨h2, h1⟩; exact .inl ⟨h2, h1⟩) Go.Proofs.YtgcioclfplafkaaGreatG.Ends.swl
theorem SE.swr {a b c d : Pt'} (h : SE a b c d) : SE a b d c := h.comm.swl.comm
section
variable {p : List Pt'} (hp : p.all okP = true) (h3 : 3 ≤ p.length) (hb : (List.range' 0 p.length).any (bad p p.length) = false)
include hp h3 hb
theorem bad_f {i : Nat} (hi : i < p.length) : pt p i ≠ pt p ((i + 1) % p.length) ∧ onB (pt p i) (pt p ((i + 1) % p.length)) (pt p ((i + 2) % p.length)) = false ∧ onB (pt p ((i + 1) % p.length)) (pt p ((i + 2) % p.length)) (pt p i) = false ∧
  ∀ k, i + 2 ≤ k → k < p.length → (k + 1) % p.length ≠ i → touchB (pt p i) (pt p ((i + 1) % p.length)) (pt p k) (pt p ((k + 1) % p.length)) = false := by
 have h := List.any_eq_false.1 hb i (List.mem_range'_1.2 (by omega))
 simp only [Bool.not_eq_true] at h
 unfold bad at h
 simp only [Bool.or_eq_false_iff] at h
 obtain ⟨⟨h1, h2, h3'⟩, h4⟩ := h
 refine ⟨fun e => ?_, h2, h3', fun k k1 k2 k3 => ?_⟩
 ·rw [← e] at h1
  unfold eqP at h1
  simp at h1
 ·have := List.any_eq_false.1 h4 k (List.mem_range'_1.2 (by omega))
  simp only [Bool.not_eq_true] at this
  unfold badI at this
  rw [show ((k + 1) % p.length != i) = true by simpa using k3] at this
  simpa using this
theorem touch_f {i k : Nat} (hi : i < p.length) (hk : k < p.length) (n0 : i ≠ k) (n1 : k ≠ (i + 1) % p.length) (n2 : i ≠ (k + 1) % p.length) (hik : i < k) : touchB (pt p i) (pt p ((i + 1) % p.length)) (pt p k) (pt p ((k + 1) % p.length)) = false := by
 have : i + 2 ≤ k := by
  have : (i + 1) % p.length = i + 1 := Nat.mod_eq_of_lt (by omega)
  omega
 exact (bad_f hp h3 hb hi).2.2.2 k this hk (fun e => n2 e.symm)
theorem edge_se {i k : Nat} (hi : i < p.length) (hk : k < p.length) : SE (pt p i) (pt p ((i + 1) % p.length)) (pt p k) (pt p ((k + 1) % p.length)) := by
 have hm : ∀ x, x % p.length < p.length := fun x => Nat.mod_lt _ (by omega)
 by_cases e0 : i = k
 ·subst e0; exact .inl (.inl ⟨rfl, rfl⟩)
 have adj : ∀ {i k : Nat}, i < p.length → k = (i + 1) % p.length → SE (pt p i) (pt p ((i + 1) % p.length)) (pt p k) (pt p ((k + 1) % p.length)) := by
  intro i k hi e
  have b1 := bad_f hp h3 hb hi
  have b2 := bad_f hp h3 hb (hm (i + 1))
  have e2 : (k + 1) % p.length = (i + 2) % p.length := by rw [e, Nat.mod_add_mod]
  rw [← e] at b1 b2
  rw [← e, e2]
  rw [e2] at b2
  exact .inr (adj_ends (pt_ok hp hi) (pt_ok hp (e ▸ hm _)) (pt_ok hp (hm _)) b1.1 b2.1 b1.2.1 b1.2.2.1)
 by_cases e1 : k = (i + 1) % p.length
 ·exact adj hi e1
 by_cases e2 : i = (k + 1) % p.length
 ·exact (adj hk e2).comm
 rcases Nat.lt_or_gt_of_ne e0 with hlt | hlt
 ·have := touch_f hp h3 hb hi hk e0 e1 e2 hlt
  refine .inr fun s t u v k' => ?_
  rw [at_touch (pt_ok hp hi) (pt_ok hp (hm _)) (pt_ok hp hk) (pt_ok hp (hm _)) ⟨s, t, u, v, k'⟩] at this
  cases this
 ·have := touch_f hp h3 hb hk hi (Ne.symm e0) e2 e1 hlt
  refine SE.comm (.inr fun s t u v k' => ?_)
  rw [at_touch (pt_ok hp hk) (pt_ok hp (hm _)) (pt_ok hp hi) (pt_ok hp (hm _)) ⟨s, t, u, v, k'⟩] at this
  cases this
theorem pt_ne {i j : Nat} (hij : i < j) (hj : j < p.length) : pt p i ≠ pt p j := by
 have hm : ∀ x, x % p.length < p.length := fun x => Nat.mod_lt _ (by omega)
 intro e
 by_cases e1 : j = (i + 1) % p.length
 ·rw [e1] at e; exact (bad_f hp h3 hb (show i < p.length by omega)).1 e
 by_cases e2 : i = (j + 1) % p.length
 ·rw [e2] at e; exact (bad_f hp h3 hb hj).1 e.symm
 have := touch_f hp h3 hb (show i < p.length by omega) hj (by omega) e1 e2 hij
 unfold touchB at this
 rw [on_end (a := pt p i) (b := pt p ((i + 1) % p.length)) (q := pt p j) (.inl e.symm)] at this
 simp at this
omit hp hb in
theorem adj_idx {a b : Pt'} {q : Pt'} {l : List Pt'} (hpq : p = q :: l) (h : Adj (q :: l ++ [q]) a b) : ∃ i, i < p.length ∧ a = pt p i ∧ b = pt p ((i + 1) % p.length) := by
 obtain ⟨x, y, h⟩ := h
 have hl := congrArg List.length h
 simp at hl
 have hn : p.length = l.length + 1 := by rw [hpq]; rfl
 have g1 : pt (q :: l ++ [q]) x.length = a := by rw [h]; unfold pt; simp
 have g2 : pt (q :: l ++ [q]) (x.length + 1) = b := by
  rw [h]; unfold pt
  rw [List.getD_eq_getElem?_getD, List.getElem?_append_right (by omega)]
  simp
 have inn : ∀ i, i < p.length → pt (q :: l ++ [q]) i = pt p i := fun i hi => by
  unfold pt
  rw [← hpq, List.getD_eq_getElem?_getD, List.getElem?_append_left hi, ← List.getD_eq_getElem?_getD]
 refine ⟨x.length, by omega, by rw [← g1]; exact inn _ (by omega), ?_⟩
 rw [← g2]
 by_cases hx : x.length + 1 < p.length
 ·rw [Nat.mod_eq_of_lt hx]; exact inn _ hx
 ·have : x.length + 1 = p.length := by omega
  rw [this, Nat.mod_self]
  unfold pt
  rw [List.getD_eq_getElem?_getD, ← hpq, List.getElem?_append_right (by omega)]
  rw [hpq]; simp
theorem poly_sim {q : Pt'} {l : List Pt'} (hpq : p = q :: l) : Sim q l := by
 have ix : ∀ {a b}, Eg q l a b → ∃ i, i < p.length ∧ ((a = pt p i ∧ b = pt p ((i + 1) % p.length)) ∨ (b = pt p i ∧ a = pt p ((i + 1) % p.length))) := by
  intro a b h
  rcases h with h | h
  ·obtain ⟨i, hi, e1, e2⟩ := adj_idx h3 hpq h; exact ⟨i, hi, .inl ⟨e1, e2⟩⟩
  ·obtain ⟨i, hi, e1, e2⟩ := adj_idx h3 hpq h; exact ⟨i, hi, .inr ⟨e1, e2⟩⟩
 have ok : ∀ {a b}, Eg q l a b → okP a = true := fun h => List.all_eq_true.1 hp _ (by rw [hpq]; exact h.mem)
 refine ⟨⟨Eg.sy, fun h => ?_, fun h1 h2 e => ky_ok (ok h1) (ok h2) e, fun h1 h2 => ?_⟩, ?_, ?_⟩
 ·obtain ⟨i, hi, ⟨rfl, rfl⟩ | ⟨rfl, rfl⟩⟩ := ix h
  ·exact (bad_f hp h3 hb hi).1
  ·exact (bad_f hp h3 hb hi).1.symm
 ·obtain ⟨i, hi, h1⟩ := ix h1
  obtain ⟨k, hk, h2⟩ := ix h2
  have := edge_se hp h3 hb hi hk
  rcases h1 with ⟨rfl, rfl⟩ | ⟨rfl, rfl⟩ <;> rcases h2 with ⟨rfl, rfl⟩ | ⟨rfl, rfl⟩
  ·exact this
  ·exact this.swr
  ·exact this.swl
  ·exact this.swl.swr
 ·rw [← hpq]
  unfold List.Nodup
  rw [List.pairwise_iff_getElem]
  intro i j hi hj hij e
  apply pt_ne hp h3 hb hij hj
  unfold pt
  rw [List.getD_eq_getElem?_getD, List.getD_eq_getElem?_getD, List.getElem?_eq_getElem hi, List.getElem?_eq_getElem hj, e]
 ·rw [hpq] at h3; simp at h3; omega
end
theorem sumc_fold (m : List Pt') : ∀ (d i : Nat) (s : Int), i + d + 1 = m.length → (List.range' i d).foldl (fun s i => s + Go.Proofs.YtgcioclfplafkaaGreatG.tm (pt m i) (pt m (i + 1))) s = s + sumc (m.drop i)
 | 0, i, s, h => by
  rw [drop_cons (0, 0) (show i < m.length by omega), List.drop_eq_nil_of_le (by omega)]
  show s = s + 0; omega
 | d + 1, i, s, h => by
  rw [List.range'_succ, List.foldl_cons, sumc_fold m d (i + 1) _ (by omega), drop_cons (0, 0) (show i < m.length by omega), drop_cons (0, 0) (show i + 1 < m.length by omega)]
  show _ = s + (Go.Proofs.YtgcioclfplafkaaGreatG.tm (pt m i) (pt m (i + 1)) + sumc (pt m (i + 1) :: m.drop (i + 1 + 1)))
  unfold pt
  omega
theorem area_dbl {q : Pt'} {l : List Pt'} : area (q :: l) = dbl (q :: l) := by
 have h := sumc_fold (q :: l ++ [q]) (l.length + 1) 0 0 (by simp)
 rw [List.drop_zero] at h
 show (List.range' 0 (l.length + 1)).foldl (fun s i => s + term (q :: l) (l.length + 1) i) 0 = sumc (q :: l ++ [q])
 rw [Int.zero_add] at h
 rw [← h]
 have inn : ∀ i, i < l.length + 1 → pt (q :: l ++ [q]) i = pt (q :: l) i := fun i hi => by
  unfold pt
  rw [List.getD_eq_getElem?_getD, List.getElem?_append_left (by simpa using hi), ← List.getD_eq_getElem?_getD]
 have e : ∀ i, i < l.length + 1 → term (q :: l) (l.length + 1) i = Go.Proofs.YtgcioclfplafkaaGreatG.tm (pt (q :: l ++ [q]) i) (pt (q :: l ++ [q]) (i + 1)) := by
  intro i hi
  have e2 : pt (q :: l ++ [q]) (i + 1) = pt (q :: l) ((i + 1) % (l.length + 1)) := by
   by_cases hx : i + 1 < l.length + 1
   ·rw [Nat.mod_eq_of_lt hx]; exact inn _ hx
   ·have : i = l.length := by omega
    subst this
    rw [Nat.mod_self]
    unfold pt
    rw [List.getD_eq_getElem?_getD, List.getElem?_append_right (by simp)]
    simp
  rw [inn i hi, e2]
  rfl
 have fc : ∀ (xs : List Nat) (s : Int), (∀ i ∈ xs, i < l.length + 1) → xs.foldl (fun s i => s + term (q :: l) (l.length + 1) i) s = xs.foldl (fun s i => s + Go.Proofs.YtgcioclfplafkaaGreatG.tm (pt (q :: l ++ [q]) i) (pt (q :: l ++ [q]) (i + 1))) s := by
  intro xs
  induction xs with
  | nil => intro s _; rfl
  | cons x xs ih =>
   intro s hx
   rw [List.foldl_cons, List.foldl_cons, e x (hx x List.mem_cons_self), ih _ (fun i hi => hx i (List.mem_cons_of_mem _ hi))]
 exact fc _ _ (fun i hi => by have := List.mem_range'_1.1 hi; omega)
end Go.Proofs.YtgcioclfplafkaaGreatV
end
section
namespace Go.Proofs.YtgcioclfplafkaaGreatV
open Go Go.RowKit
open Go.Proofs.YtgcioclfplafkaaGreatG (At Sim ky dbl tri Mv)
theorem inT_tri {a b c q : Pt'} : inT a b c q = true ↔ tri a b c q := by
 have hs : ∀ x : Int, sg x ≥ 0 ↔ 0 ≤ x := fun x => by unfold sg; split <;> (try split) <;> omega
 unfold inT tri
 simp only [Bool.and_eq_true, decide_eq_true_eq, hs]
 exact Iff.rfl
theorem pt_app {x y : List Pt'} {i : Nat} (h : x.length ≤ i) : pt (x ++ y) i = pt y (i - x.length) := by
 unfold pt; rw [List.getD_eq_getElem?_getD, List.getElem?_append_right h, ← List.getD_eq_getElem?_getD]
theorem pt_app1 {x y : List Pt'} {i : Nat} (h : i < x.length) : pt (x ++ y) i = pt x i := by
 unfold pt; rw [List.getD_eq_getElem?_getD, List.getElem?_append_left h, ← List.getD_eq_getElem?_getD]
theorem pt_ex {p : List Pt'} {z : Pt'} (h : z ∈ p) : ∃ j, j < p.length ∧ pt p j = z := mem_idx _ h
theorem ear_ex {L : List Pt'} (h : Go.Proofs.YtgcioclfplafkaaGreatG.Good L) (h3 : 3 < L.length) : ∃ i, ear1 L = some i := by
 obtain ⟨x, a, y, b, z, rfl, hX, emp⟩ := Go.Proofs.YtgcioclfplafkaaGreatG.ear_of _ L (Nat.le_refl _) h
 have hlen : (x ++ a :: y :: b :: z).length = x.length + z.length + 3 := by simp; omega
 have hi : x.length + 1 < (x ++ a :: y :: b :: z).length := by omega
 have e0 : pt (x ++ a :: y :: b :: z) x.length = a := by rw [pt_app (Nat.le_refl _), Nat.sub_self]; rfl
 have e1 : pt (x ++ a :: y :: b :: z) (x.length + 1) = y := by rw [pt_app (by omega), Nat.add_sub_cancel_left]; rfl
 have e2 : pt (x ++ a :: y :: b :: z) (x.length + 2) = b := by rw [pt_app (by omega), Nat.add_sub_cancel_left]; rfl
 have m1 : (x.length + 1 + (x ++ a :: y :: b :: z).length - 1) % (x ++ a :: y :: b :: z).length = x.length := by
  rw [show x.length + 1 + (x ++ a :: y :: b :: z).length - 1 = x.length + (x ++ a :: y :: b :: z).length by omega, Nat.add_mod_right, Nat.mod_eq_of_lt (by omega)]
 have m2 : (x.length + 1 + 1) % (x ++ a :: y :: b :: z).length = x.length + 2 := Nat.mod_eq_of_lt (by omega)
 have he : earB (x ++ a :: y :: b :: z) (x.length + 1) = true := by
  unfold earB
  have hp : pre (x ++ a :: y :: b :: z) (x.length + 1) = a := by unfold pre; rw [m1, e0]
  have hn : nxt (x ++ a :: y :: b :: z) (x.length + 1) = b := by unfold nxt; rw [m2, e2]
  rw [hp, hn, e1]
  have hX : cross a y b > 0 := hX
  have : sg (cross a y b) = 1 := by unfold sg; rw [if_pos hX]
  rw [this]
  simp only [beq_self_eq_true, Bool.true_and, Bool.not_eq_true', List.any_eq_false, Bool.not_eq_true]
  intro j hj
  have hj : j < (x ++ a :: y :: b :: z).length := by have := List.mem_range'_1.1 hj; omega
  unfold earN
  rw [hp, hn, e1, m1, m2]
  by_cases j1 : j = x.length + 1
  ·simp [j1]
  by_cases j2 : j = x.length
  ·simp [j2]
  by_cases j3 : j = x.length + 2
  ·simp [j3]
  have hmem : pt (x ++ a :: y :: b :: z) j ∈ x ++ z := by
   by_cases hlt : j < x.length
   ·rw [pt_app1 hlt]; exact List.mem_append_left _ (getD_mem hlt)
   ·rw [pt_app (by omega)]
    obtain ⟨k, hk⟩ : ∃ k, j - x.length = k + 3 := ⟨j - x.length - 3, by omega⟩
    rw [hk]
    exact List.mem_append_right _ (getD_mem (xs := z) (i := k) (by omega))
  cases hin : inT a y b (pt (x ++ a :: y :: b :: z) j) with
  | false => simp
  | true => exact absurd (inT_tri.1 hin) (emp _ hmem)
 unfold ear1
 cases hf : (List.range' 0 (x ++ a :: y :: b :: z).length).find? (earB (x ++ a :: y :: b :: z)) with
 | some i => exact ⟨i, rfl⟩
 | none =>
  have := List.find?_eq_none.1 hf (x.length + 1) (List.mem_range'_1.2 (by omega))
  rw [he] at this; simp at this
theorem pt_rot {x y : List Pt'} {j : Nat} (hj : j < (y ++ x).length) : pt (y ++ x) j = pt (x ++ y) ((x.length + j) % (x ++ y).length) := by
 have hl : (x ++ y).length = x.length + y.length := List.length_append
 have hl2 : (y ++ x).length = y.length + x.length := List.length_append
 by_cases h : j < y.length
 ·rw [pt_app1 h, Nat.mod_eq_of_lt (by omega), pt_app (by omega), Nat.add_sub_cancel_left]
 ·rw [pt_app (by omega), show x.length + j = (j - y.length) + (x ++ y).length by omega, Nat.add_mod_right, Nat.mod_eq_of_lt (by omega), pt_app1 (by omega)]
theorem good_ce : ∀ (n : Nat) (L : List Pt'), L.length ≤ n + 3 → Go.Proofs.YtgcioclfplafkaaGreatG.Good L → CE n L
 | n, L, hn, hG => by
  have h3 : 3 ≤ L.length := by
   obtain ⟨q, l, rfl, hS, _⟩ := hG
   have := hS.len
   simp; omega
  by_cases h : L.length = 3
  ·have hc : ccw L := by
    have hp := Go.Proofs.YtgcioclfplafkaaGreatG.good_pos _ _ (Nat.le_refl _) hG
    match L, h with
    | [a, y, b], _ =>
     have : dbl [a, y, b] = cross a y b := by
      show Go.Proofs.YtgcioclfplafkaaGreatG.tm a y + (Go.Proofs.YtgcioclfplafkaaGreatG.tm y b + (Go.Proofs.YtgcioclfplafkaaGreatG.tm b a + 0)) = _
      unfold Go.Proofs.YtgcioclfplafkaaGreatG.tm cross; grind
     show 0 < cross a y b
     omega
   cases n with
   | zero => exact ⟨h, hc⟩
   | succ n => exact .inl ⟨h, hc⟩
  ·cases n with
   | zero => omega
   | succ n =>
    obtain ⟨i, hi⟩ := ear_ex hG (by omega)
    obtain ⟨hil, he⟩ := ear1_lt hi
    refine .inr ⟨by omega, i, hi, good_ce n _ (by rw [erase_len hil]; omega) ?_⟩
    have hL : L = L.take i ++ pt L i :: L.drop (i + 1) := by
     conv => lhs; rw [← List.take_append_drop i L, drop_cons (0, 0) hil]
     rfl
    rw [List.eraseIdx_eq_take_drop_succ]
    have hxl : (L.take i).length = i := by rw [List.length_take]; omega
    have hyl : (L.drop (i + 1)).length = L.length - (i + 1) := List.length_drop
    have hrot := fun (j : Nat) => pt_rot (x := L.take i) (y := pt L i :: L.drop (i + 1)) (j := j)
    rw [← hL, hxl] at hrot
    have hR : Go.Proofs.YtgcioclfplafkaaGreatG.Good (pt L i :: (L.drop (i + 1) ++ L.take i)) := by
     rw [hL] at hG
     exact hG.rot
    obtain ⟨b, M, hM⟩ : ∃ b M, L.drop (i + 1) ++ L.take i = b :: M := by
     cases hh : L.drop (i + 1) ++ L.take i with
     | nil => have := congrArg List.length hh; rw [List.length_append, hxl, hyl, List.length_nil] at this; omega
     | cons b M => exact ⟨b, M, rfl⟩
    have hMl : M.length = L.length - 2 := by have := congrArg List.length hM; rw [List.length_append, hxl, hyl, List.length_cons] at this; omega
    obtain ⟨C, a, rfl⟩ := Go.Proofs.YtgcioclfplafkaaGreatG.snoc_of (l := M) (by intro e; rw [e] at hMl; simp at hMl; omega)
    have hCl : C.length = L.length - 3 := by simp at hMl; omega
    rw [hM] at hR
    have hrot2 : ∀ j, j < L.length → pt (pt L i :: b :: (C ++ [a])) j = pt L ((i + j) % L.length) := by
     intro j hj
     rw [← hM]
     exact hrot j (by simp [hxl, hyl]; omega)
    have hb : b = nxt L i := hrot2 1 (by omega)
    have ha : a = pre L i := by
     have := hrot2 (L.length - 1) (by omega)
     unfold pre
     rw [Nat.add_sub_assoc (by omega), ← this, show pt L i :: b :: (C ++ [a]) = (pt L i :: b :: C) ++ [a] by simp, pt_app (by simp; omega)]
     rw [show L.length - 1 - (pt L i :: b :: C).length = 0 by simp; omega]; rfl
    unfold earB at he
    simp only [Bool.and_eq_true, beq_iff_eq, Bool.not_eq_true', List.any_eq_false, Bool.not_eq_true] at he
    obtain ⟨he1, he2⟩ := he
    rw [← ha, ← hb] at he1
    have hX : 0 < cross a (pt L i) b := sg_pos.1 (show sg _ > 0 by omega)
    have hK := hR.cut (by intro e; rw [e] at hCl; simp at hCl; omega) hX (fun z hz ht => by
     obtain ⟨j, hj, hjz⟩ := pt_ex hz
     have h1 : pt (pt L i :: b :: (C ++ [a])) (j + 2) = z := by
      rw [← hjz]
      show pt (C ++ [a]) j = pt C j
      exact pt_app1 hj
     rw [hrot2 (j + 2) (by omega)] at h1
     have hm : (i + (j + 2)) % L.length < L.length := Nat.mod_lt _ (by omega)
     have := he2 _ (List.mem_range'_1.2 ⟨Nat.zero_le _, by omega⟩ : (i + (j + 2)) % L.length ∈ _)
     unfold earN at this
     rw [h1, ← ha, ← hb, inT_tri.2 ht] at this
     have q : ∀ m, m < L.length → (i + m) % L.length = if i + m < L.length then i + m else i + m - L.length := by
      intro m hm
      split
      ·exact Nat.mod_eq_of_lt (by omega)
      ·rw [Nat.mod_eq_sub_mod (by omega), Nat.mod_eq_of_lt (by omega)]
     have n1 : (i + (j + 2)) % L.length ≠ i := by rw [q _ (by omega)]; split <;> omega
     have n2 : (i + (j + 2)) % L.length ≠ (i + L.length - 1) % L.length := by
      rw [Nat.add_sub_assoc (by omega), q _ (by omega), q _ (by omega)]; split <;> split <;> omega
     have n3 : (i + (j + 2)) % L.length ≠ (i + 1) % L.length := by rw [q _ (by omega), q _ (by omega)]; split <;> split <;> omega
     simp [n1, n2, n3] at this)
    rw [← hM] at hK
    exact hK.rot
def mvf (t : Nat) (c1 c2 : Int) (p : Pt') : Pt' := ((turnP t p).1 + c1, (turnP t p).2 + c2)
theorem mv_ok {t : Nat} (ht : t < 8) (c1 c2 : Int) : Mv (mvf t c1 c2) (if 4 ≤ t then -1 else 1) := by
 have : t = 0 ∨ t = 1 ∨ t = 2 ∨ t = 3 ∨ t = 4 ∨ t = 5 ∨ t = 6 ∨ t = 7 := by omega
 have tms : ∃ h : Pt' → Int, ∀ a b, Go.Proofs.YtgcioclfplafkaaGreatG.tm (mvf t c1 c2 a) (mvf t c1 c2 b) = (if 4 ≤ t then -1 else 1) * Go.Proofs.YtgcioclfplafkaaGreatG.tm a b + h b - h a := by
  refine ⟨fun p => c1 * (turnP t p).2 - c2 * (turnP t p).1, fun a b => ?_⟩
  rcases this with rfl | rfl | rfl | rfl | rfl | rfl | rfl | rfl <;>
   (simp only [mvf, turnP, rotI, Go.Proofs.YtgcioclfplafkaaGreatG.tm, Nat.reduceMod, Nat.reduceLeDiff, if_true, if_false]; grind)
 refine ⟨fun a b h => ?_, fun {a b c d s u v w} h => ?_, tms⟩
 ·have h1 := congrArg Prod.fst h
  have h2 := congrArg Prod.snd h
  rcases this with rfl | rfl | rfl | rfl | rfl | rfl | rfl | rfl <;>
   (simp only [mvf, turnP, rotI, Nat.reduceMod, Nat.reduceLeDiff, if_true, if_false] at h1 h2; exact Prod.ext (by omega) (by omega))
 ·have ex := h.ex
  have ey := h.ey
  have hs := h.sum
  have k : s * a.1 + u * b.1 = v * c.1 + w * d.1 ∧ s * a.2 + u * b.2 = v * c.2 + w * d.2 := by
   have e1 : s * c1 + u * c1 = v * c1 + w * c1 := by rw [← Int.add_mul, ← Int.add_mul, hs]
   have e2 : s * c2 + u * c2 = v * c2 + w * c2 := by rw [← Int.add_mul, ← Int.add_mul, hs]
   rcases this with rfl | rfl | rfl | rfl | rfl | rfl | rfl | rfl <;>
    (simp only [mvf, turnP, rotI, Nat.reduceMod, Nat.reduceLeDiff, if_true, if_false, Int.mul_add, Int.mul_neg] at ex ey; constructor <;> omega)
  exact ⟨h.hs, h.ht, h.hu, h.hv, h.pos, hs, k.1, k.2⟩
theorem turnL_list (t : Nat) (q : Pt') (l : List Pt') : turnL t (q :: l) = (if 4 ≤ t then q :: l.reverse else q :: l).map (turnP t) := by
 apply List.ext_getElem
 ·rw [turnL_len]; split <;> simp
 ·intro i h1 h2
  rw [turnL_len] at h1
  have e := turnL_get t (q :: l) h1
  have e1 : (turnL t (q :: l))[i] = pt (turnL t (q :: l)) i := by
   unfold pt; rw [List.getD_eq_getElem?_getD, List.getElem?_eq_getElem]; rfl
  have e2 : ((if 4 ≤ t then q :: l.reverse else q :: l).map (turnP t))[i] = turnP t (pt (if 4 ≤ t then q :: l.reverse else q :: l) i) := by
   rw [List.getElem_map]
   unfold pt; rw [List.getD_eq_getElem?_getD, List.getElem?_eq_getElem]; rfl
  rw [e1, e, e2]
  congr 1
  by_cases h4 : 4 ≤ t
  ·rw [if_pos h4, if_pos h4]
   cases i with
   | zero => rw [Nat.sub_zero, Nat.mod_self]; rfl
   | succ i =>
    have hl : (q :: l).length = l.length + 1 := rfl
    rw [Nat.mod_eq_of_lt (by omega)]
    unfold pt
    rw [List.getD_eq_getElem?_getD, List.getD_eq_getElem?_getD, List.getElem?_cons_succ, List.getElem?_reverse (by omega)]
    rw [show (q :: l).length - (i + 1) = (l.length - 1 - i) + 1 by omega, List.getElem?_cons_succ]
  ·rw [if_neg h4, if_neg h4]
theorem ky_all {p : List Pt'} (hp : p.all okP = true) {a b : Pt'} (ha : a ∈ p) (hb : b ∈ p) (h : ky a = ky b) : a = b := ky_ok (List.all_eq_true.1 hp _ ha) (List.all_eq_true.1 hp _ hb) h
theorem polyB_sim {p : List Pt'} (h : polyB p = true) : p.all okP = true ∧ (3 ≤ p.length ∧ p.length ≤ 24) ∧ ∃ q l, p = q :: l ∧ Sim q l ∧ 0 < dbl (q :: l) := by
 unfold polyB at h
 simp only [Bool.and_eq_true, decide_eq_true_eq, Bool.not_eq_true'] at h
 obtain ⟨h1, h2, h3, h4, h5⟩ := h
 refine ⟨h3, ⟨h1, h2⟩, ?_⟩
 cases p with
 | nil => simp at h1
 | cons q l => exact ⟨q, l, rfl, poly_sim h3 h1 h4 rfl, by rw [← area_dbl]; exact h5⟩
structure PolyC (p : List Pt') : Prop where
 o : p.all okP = true
 a : 3 ≤ p.length
 b : p.length ≤ 24
 c : CE 21 p
theorem PolyC.t {p : List Pt'} (h : PolyC p) : PolyT p := ⟨h.o, h.a, h.b, h.c.ears⟩
theorem set_good {p : List Pt'} (h : polyB p = true) {t : Nat} (ht : t < 8) (x y : Int) (ho : (sh (trP t p) x y).all okP = true) : PolyC (sh (trP t p) x y) := by
 obtain ⟨-, ⟨h3, h24⟩, q, l, rfl, hS, hd⟩ := polyB_sim h
 have hl : (sh (trP t (q :: l)) x y).length = (q :: l).length := by unfold sh; rw [List.length_map, trP_len]
 refine ⟨ho, by omega, by omega, good_ce 21 _ (by omega) ?_⟩
 have e : sh (trP t (q :: l)) x y = (if 4 ≤ t then q :: l.reverse else q :: l).map (mvf t (-(bnd (turnL t (q :: l))).1 + x) (-(bnd (turnL t (q :: l))).2.1 + y)) := by
  unfold trP
  generalize -(bnd (turnL t (q :: l))).1 = c1
  generalize -(bnd (turnL t (q :: l))).2.1 = c2
  rw [turnL_list]
  unfold sh
  rw [List.map_map, List.map_map]
  apply List.map_congr_left
  intro a _
  show ((turnP t a).1 + c1 + x, (turnP t a).2 + c2 + y) = ((turnP t a).1 + (c1 + x), (turnP t a).2 + (c2 + y))
  rw [Int.add_assoc, Int.add_assoc]
 rw [e] at ho ⊢
 generalize -(bnd (turnL t (q :: l))).1 + x = c1 at *
 generalize -(bnd (turnL t (q :: l))).2.1 + y = c2 at *
 have hm := mv_ok ht c1 c2
 by_cases h4 : 4 ≤ t
 ·rw [if_pos h4] at ho hm ⊢
  have hS2 := hS.rev.map hm (fun a ha b hb e => ky_all ho (List.mem_map_of_mem ha) (List.mem_map_of_mem hb) e)
  have hd2 := Go.Proofs.YtgcioclfplafkaaGreatG.dbl_map hm q l.reverse
  rw [Go.Proofs.YtgcioclfplafkaaGreatG.dbl_rev] at hd2
  exact Go.Proofs.YtgcioclfplafkaaGreatG.sim_good hS2 (by show 0 < dbl ((q :: l.reverse).map (mvf t c1 c2)); rw [hd2]; omega)
 ·rw [if_neg h4] at ho hm ⊢
  have hS2 := hS.map hm (fun a ha b hb e => ky_all ho (List.mem_map_of_mem ha) (List.mem_map_of_mem hb) e)
  have hd2 := Go.Proofs.YtgcioclfplafkaaGreatG.dbl_map hm q l
  exact Go.Proofs.YtgcioclfplafkaaGreatG.sim_good hS2 (by show 0 < dbl ((q :: l).map (mvf t c1 c2)); rw [hd2]; omega)
def boxP (b : Bx) : List Pt' := [(b.1, b.2.1), (b.1 + b.2.2.1, b.2.1), (b.1 + b.2.2.1, b.2.1 + b.2.2.2), (b.1, b.2.1 + b.2.2.2)]
theorem boxP_ce {b : Bx} (hw : 0 < b.2.2.1) (hh : 0 < b.2.2.2) : CE 21 (boxP b) := by
 obtain ⟨x, y, w, h⟩ := b
 simp only at hw hh
 have hm := Int.mul_pos hw hh
 have c1 : cross (x, y + h) (x, y) (x + w, y) = w * h := by unfold cross; grind
 have c2 : cross (x + w, y) (x, y + h) (x + w, y + h) = -(w * h) := by unfold cross; grind
 have c3 : cross (x + w, y) (x + w, y + h) (x, y + h) = w * h := by unfold cross; grind
 have hp : pre (boxP (x, y, w, h)) 0 = (x, y + h) := rfl
 have hn : nxt (boxP (x, y, w, h)) 0 = (x + w, y) := rfl
 have h0 : pt (boxP (x, y, w, h)) 0 = (x, y) := rfl
 have he : earB (boxP (x, y, w, h)) 0 = true := by
  unfold earB
  rw [hp, hn, h0, c1]
  have : sg (w * h) = 1 := by unfold sg; rw [if_pos hm]
  rw [this]
  have hE : ∀ j, j < 4 → earN (boxP (x, y, w, h)) 0 j = false := by
   intro j hj
   have : j = 0 ∨ j = 1 ∨ j = 2 ∨ j = 3 := by omega
   unfold earN
   rcases this with rfl | rfl | rfl | rfl
   ·rfl
   ·rfl
   ·rw [hp, hn, h0, show pt (boxP (x, y, w, h)) 2 = (x + w, y + h) from rfl]
    unfold inT
    rw [c2]
    have : sg (-(w * h)) = -1 := by unfold sg; rw [if_neg (by omega), if_pos (by omega)]
    rw [this]
    simp
   ·rfl
  simp only [beq_self_eq_true, Bool.true_and, Bool.not_eq_true', List.any_eq_false, Bool.not_eq_true]
  intro j hj
  exact hE j (by have := List.mem_range'_1.1 hj; simp [boxP] at this; omega)
 refine .inr ⟨by simp [boxP], 0, ?_, .inl ⟨rfl, ?_⟩⟩
 ·show (List.range' 0 4).find? (earB (boxP (x, y, w, h))) = some 0
  rw [List.range'_succ, List.find?_cons, he]
 ·show 0 < cross (x + w, y) (x + w, y + h) (x, y + h)
  omega
end Go.Proofs.YtgcioclfplafkaaGreatV
end
section
namespace Go.Proofs.YtgcioclfplafkaaGreatV
open Go Go.RowKit
def edgeB (p : List Pt') (x : Lf) (mg : Int) : Bool := decide ((bnd p).1 < mg) || (decide ((bnd p).2.1 < mg) || (decide ((bnd p).2.2.1 > lw x - mg) || decide ((bnd p).2.2.2 > lh x - mg)))
def defB (p : List Pt') (x : Lf) (i : Nat) : Bool := !(boxA p (boxP (bx (defs x) i)) || dj p (boxP (bx (defs x) i)))
def lfF (p : List Pt') (x : Lf) (mg : Int) : Int := bif edgeB p x mg then 5 else bif (List.range' 0 (defs x).length).any (defB p x) then 6 else 0
structure BoxOK (b : Bx) : Prop where
 x : 0 ≤ b.1
 y : 0 ≤ b.2.1
 w : 0 < b.2.2.1
 h : 0 < b.2.2.2
 a : b.1 + b.2.2.1 ≤ 20000
 c : b.2.1 + b.2.2.2 ≤ 20000
theorem box_ok {x : Lf} (h : LeafOK x) {i : Nat} (hi : i < (defs x).length) : BoxOK (bx (defs x) i) := by
 have := h.b i hi
 have hw := h.w
 have hh := h.h
 unfold boxB at this
 simp only [Bool.and_eq_true, inB_iff] at this
 exact ⟨by omega, by omega, by omega, by omega, by omega, by omega⟩
theorem BoxOK.poly {b : Bx} (h : BoxOK b) : PolyC (boxP b) := by
 have hx := h.x; have hy := h.y; have hw := h.w; have hh := h.h; have ha := h.a; have hc := h.c
 refine ⟨?_, by simp [boxP], by simp [boxP], boxP_ce h.w h.h⟩
 simp only [boxP, List.all_cons, List.all_nil, Bool.and_true, Bool.and_eq_true, okP_iff]
 omega
theorem BoxOK.bnd {b : Bx} (h : BoxOK b) : bnd (boxP b) = (b.1, b.2.1, b.1 + b.2.2.1, b.2.1 + b.2.2.2) := by
 have hw := h.w; have hh := h.h
 have e1 : ∀ x y : Int, x ≤ y → mn x y = x := fun x y h => by unfold mn; split <;> omega
 have e2 : ∀ x y : Int, x ≤ y → mx x y = y := fun x y h => by unfold mx; split <;> omega
 have e3 : ∀ x y : Int, y ≤ x → mx x y = x := fun x y h => by unfold mx; split <;> omega
 show bstep (bstep (bstep (bstep (b.1, b.2.1, b.1, b.2.1) (b.1, b.2.1)) (b.1 + b.2.2.1, b.2.1)) (b.1 + b.2.2.1, b.2.1 + b.2.2.2)) (b.1, b.2.1 + b.2.2.2) = _
 simp only [bstep]
 rw [e1 b.1 b.1 (by omega), e1 b.1 (b.1 + b.2.2.1) (by omega), e1 b.1 (b.1 + b.2.2.1) (by omega), e1 b.1 b.1 (by omega), e1 b.2.1 b.2.1 (by omega), e1 b.2.1 b.2.1 (by omega), e1 b.2.1 (b.2.1 + b.2.2.2) (by omega), e1 b.2.1 (b.2.1 + b.2.2.2) (by omega),
  e2 b.1 b.1 (by omega), e2 b.1 (b.1 + b.2.2.1) (by omega), e2 (b.1 + b.2.2.1) (b.1 + b.2.2.1) (by omega), e3 (b.1 + b.2.2.1) b.1 (by omega), e2 b.2.1 b.2.1 (by omega), e2 b.2.1 b.2.1 (by omega), e2 b.2.1 (b.2.1 + b.2.2.2) (by omega), e2 (b.2.1 + b.2.2.2) (b.2.1 + b.2.2.2) (by omega)]
section
variable {k : Nat}
theorem boxP_w {b : Bx} (h : BoxOK b) : ((b.1, b.2.1) :: (((w64 (b.1 + b.2.2.1)), b.2.1) :: (((w64 (b.1 + b.2.2.1)), (w64 (b.2.1 + b.2.2.2))) :: ((b.1, (w64 (b.2.1 + b.2.2.2))) :: []))) : List Pt') = boxP b := by
 have hx := h.x; have hy := h.y; have hw := h.w; have hh := h.h; have ha := h.a; have hc := h.c
 rw [w64_id (x := b.1 + b.2.2.1) (by omega) (by omega), w64_id (x := b.2.1 + b.2.2.2) (by omega) (by omega)]; rfl
theorem lf_impl {p : List Pt'} (hp : PolyC p) {x : Lf} (hx : LeafOK x) {mg : Int} (hm : 0 ≤ mg ∧ mg ≤ 500) (s a h : Int) (hk : 1048577 < k) :
  impl_leafFault k (p, x.1, x.2.1, x.2.2.1, x.2.2.2.1, x.2.2.2.2.1, x.2.2.2.2.2.1, x.2.2.2.2.2.2.1, x.2.2.2.2.2.2.2.1, x.2.2.2.2.2.2.2.2, s, mg, a, h) = some (lfF p x mg) := by
 have hn := hx.n
 have hL := runS (fun g i => impl_leafFault_5 k g (p, defs x, ((defs x).length : Int), (i : Int))) (defs x).length (defB p x) (fun _ => .inr 6) (.inl ()) (fun g => by simp only [impl_leafFault_5, dge (Nat.le_refl _), cond_false])
  (fun g i hi => by
   have hb := box_ok hx hi
   simp only [impl_leafFault_5, dlt hi, d0, cond_true, rd_nat, dfB, w64_s hi (show (defs x).length ≤ 1000000000000 by omega)]
   rw [show (defs x).getD i bx0 = bx (defs x) i from rfl]
   unfold impl_boxPolygon
   simp only [Option.bind_some]
   rw [boxP_w hb, apart_impl hp.t hb.poly.t hk]
   simp only [Option.bind_some]
   rfl) (defs x).length k 0 (by omega) (by omega)
 rw [find_any] at hL
 simp only [z0] at hL
 have pa := hp.a; have pb := hp.b
 have hw := hx.w; have hh := hx.h
 have e1 : w64 (x.2.2.2.2.2.2.1 - mg) = lw x - mg := w64_id (show -9223372036854775808 ≤ lw x - mg by omega) (show lw x - mg ≤ _ by omega)
 have e2 : w64 (x.2.2.2.2.2.2.2.1 - mg) = lh x - mg := w64_id (show -9223372036854775808 ≤ lh x - mg by omega) (show lh x - mg ≤ _ by omega)
 unfold impl_leafFault
 simp only [bounds_impl (p := p) (by omega) (by omega) hk, Option.bind_some, or4, e1, e2]
 rw [show x.2.2.2.2.2.2.2.2 = defs x from rfl, hL]
 unfold lfF edgeB
 cases (decide ((bnd p).1 < mg) || (decide ((bnd p).2.1 < mg) || (decide ((bnd p).2.2.1 > lw x - mg) || decide ((bnd p).2.2.2 > lh x - mg)))) with
 | true => rfl
 | false => cases (List.range' 0 (defs x).length).any (defB p x) <;> rfl
theorem def_spec (A B C D E : Bool) : (bif A then (bif B then (bif C then (bif D then some (!E) else some false) else some false) else some false) else some false : Option Bool) = some (A && (B && (C && (D && !E)))) := by cases A <;> cases B <;> cases C <;> cases D <;> rfl
theorem defB_alt {p : List Pt'} {b : Bx} (hb : BoxOK b) : (decide (b.1 < (bnd p).2.2.1) && (decide ((bnd p).1 < b.1 + b.2.2.1) && (decide (b.2.1 < (bnd p).2.2.2) && (decide ((bnd p).2.1 < b.2.1 + b.2.2.2) && !dj p (boxP b))))) = !(boxA p (boxP b) || dj p (boxP b)) := by
 unfold boxA
 rw [hb.bnd]
 simp only [show ∀ u v : Int, decide (u ≤ v) = !decide (v < u) from fun u v => by
  by_cases h : v < u
  ·rw [decide_eq_true h, decide_eq_false (by omega)]; rfl
  ·rw [decide_eq_false h, decide_eq_true (by omega)]; rfl]
 cases decide (b.1 < (bnd p).2.2.1) <;> cases decide ((bnd p).1 < b.1 + b.2.2.1) <;> cases decide (b.2.1 < (bnd p).2.2.2) <;> cases decide ((bnd p).2.1 < b.2.1 + b.2.2.2) <;> rfl
theorem lf_spec {p : List Pt'} (hp : PolyC p) {x : Lf} (hx : LeafOK x) {mg : Int} (hm : 0 ≤ mg ∧ mg ≤ 500) (s a h : Int) (hk : 1048577 < k) :
  spec_l11Leaf k (p, x.1, x.2.1, x.2.2.1, x.2.2.2.1, x.2.2.2.2.1, x.2.2.2.2.2.1, x.2.2.2.2.2.2.1, x.2.2.2.2.2.2.2.1, x.2.2.2.2.2.2.2.2, s, mg, a, h) = some (lfF p x mg) := by
 have hn := hx.n
 have hL := runS (fun g i => spec_l11Leaf_5 k g (p, x.1, x.2.1, x.2.2.1, x.2.2.2.1, x.2.2.2.2.1, x.2.2.2.2.2.1, x.2.2.2.2.2.2.1, x.2.2.2.2.2.2.2.1, defs x, (i : Int), (bnd p).1, (bnd p).2.1, (bnd p).2.2.1, (bnd p).2.2.2)) (defs x).length (defB p x) (fun _ => .inr 6) (.inl ()) (fun g => by simp only [spec_l11Leaf_5, dge (Nat.le_refl _), cond_false])
  (fun g i hi => by
   have hb := box_ok hx hi
   have hx0 := hb.x; have hy0 := hb.y; have hw0 := hb.w; have hh0 := hb.h; have ha0 := hb.a; have hc0 := hb.c
   simp only [spec_l11Leaf_5, dlt hi, d0, cond_true, rd_nat, dfB, w64_s hi (show (defs x).length ≤ 1000000000000 by omega)]
   rw [show (defs x).getD i bx0 = bx (defs x) i from rfl]
   unfold spec_l11Box
   simp only [Option.bind_some]
   rw [boxP_w hb, disjoint_spec hp.t hb.poly.t hk]
   simp only [Option.bind_some]
   rw [w64_id (x := (bx (defs x) i).1 + (bx (defs x) i).2.2.1) (by omega) (by omega), w64_id (x := (bx (defs x) i).2.1 + (bx (defs x) i).2.2.2) (by omega) (by omega), def_spec, defB_alt hb]
   rfl) (defs x).length k 0 (by omega) (by omega)
 rw [find_any] at hL
 simp only [z0] at hL
 have pa := hp.a; have pb := hp.b
 have hw := hx.w; have hh := hx.h
 have e1 : w64 (x.2.2.2.2.2.2.1 - mg) = lw x - mg := w64_id (show -9223372036854775808 ≤ lw x - mg by omega) (show lw x - mg ≤ _ by omega)
 have e2 : w64 (x.2.2.2.2.2.2.2.1 - mg) = lh x - mg := w64_id (show -9223372036854775808 ≤ lh x - mg by omega) (show lh x - mg ≤ _ by omega)
 unfold spec_l11Leaf
 simp only [bounds_spec (p := p) (by omega) (by omega) hk, Option.bind_some, or4, e1, e2]
 rw [show x.2.2.2.2.2.2.2.2 = defs x from rfl, hL]
 unfold lfF edgeB
 cases (decide ((bnd p).1 < mg) || (decide ((bnd p).2.1 < mg) || (decide ((bnd p).2.2.1 > lw x - mg) || decide ((bnd p).2.2.2 > lh x - mg)))) with
 | true => rfl
 | false => cases (List.range' 0 (defs x).length).any (defB p x) <;> rfl
end
end Go.Proofs.YtgcioclfplafkaaGreatV
end

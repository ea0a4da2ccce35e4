/- Simple polygons in the plane have ears; no condition. -/
import Derived.Below
set_option linter.all false
section
namespace Go.Proofs.YtgcioclfplafkaaGreatG
abbrev Pt := Int × Int
def cross (a b c : Pt) : Int := (b.1 - a.1) * (c.2 - a.2) - (b.2 - a.2) * (c.1 - a.1)
def ky (p : Pt) : Int := 1000000 * p.1 + p.2
theorem cross_rot (a b c : Pt) : cross a b c = cross b c a := by unfold cross; grind
theorem cross_swap (a b c : Pt) : cross a b c = -cross b a c := by unfold cross; grind
theorem cross_swap2 (a b c : Pt) : cross a b c = -cross a c b := by unfold cross; grind
structure At (a b c d : Pt) (s t u v : Int) : Prop where
 hs : 0 ≤ s
 ht : 0 ≤ t
 hu : 0 ≤ u
 hv : 0 ≤ v
 pos : 0 < s + t
 sum : s + t = u + v
 ex : s * a.1 + t * b.1 = u * c.1 + v * d.1
 ey : s * a.2 + t * b.2 = u * c.2 + v * d.2
theorem At.comm {a b c d : Pt} {s t u v : Int} (h : At a b c d s t u v) : At c d a b u v s t := ⟨h.hu, h.hv, h.hs, h.ht, by have := h.pos; have := h.sum; omega, h.sum.symm, h.ex.symm, h.ey.symm⟩
theorem At.swl {a b c d : Pt} {s t u v : Int} (h : At a b c d s t u v) : At b a c d t s u v := ⟨h.ht, h.hs, h.hu, h.hv, by have := h.pos; omega, by have := h.sum; omega, by have := h.ex; omega, by have := h.ey; omega⟩
theorem At.swr {a b c d : Pt} {s t u v : Int} (h : At a b c d s t u v) : At a b d c s t v u := h.comm.swl.comm
def Meet (a b c d : Pt) : Prop := ∃ s t u v, At a b c d s t u v
theorem Meet.comm {a b c d : Pt} (h : Meet a b c d) : Meet c d a b := by obtain ⟨s, t, u, v, h⟩ := h; exact ⟨_, _, _, _, h.comm⟩
theorem Meet.swl {a b c d : Pt} (h : Meet a b c d) : Meet b a c d := by obtain ⟨s, t, u, v, h⟩ := h; exact ⟨_, _, _, _, h.swl⟩
theorem Meet.swr {a b c d : Pt} (h : Meet a b c d) : Meet a b d c := by obtain ⟨s, t, u, v, h⟩ := h; exact ⟨_, _, _, _, h.swr⟩
theorem At.cr {a b c d : Pt} {s t u v : Int} (h : At a b c d s t u v) (x y : Pt) : s * cross x y a + t * cross x y b = u * cross x y c + v * cross x y d := by
 have h1 := h.sum
 have h2 := h.ex
 have h3 := h.ey
 unfold cross
 grind
theorem meet_of {a b c d : Pt} (h1 : 0 ≤ cross c d a) (h2 : cross c d b ≤ 0) (h3 : 0 ≤ cross a b d) (h4 : cross a b c ≤ 0) (h5 : cross c d b < cross c d a) : Meet a b c d := by
 refine ⟨-cross c d b, cross c d a, cross a b d, -cross a b c, by omega, h1, h3, by omega, by omega, ?_, ?_, ?_⟩
 ·unfold cross; grind
 ·unfold cross; grind
 ·unfold cross; grind
theorem meet_on {a b q : Pt} (q' : Pt) (h : cross a b q = 0) (h1 : ky a < ky q) (h2 : ky q < ky b) : Meet a b q q' := by
 refine ⟨ky b - ky q, ky q - ky a, ky b - ky a, 0, by omega, by omega, by omega, by omega, by omega, by omega, ?_, ?_⟩
 ·unfold cross at h; unfold ky; grind
 ·unfold cross at h; unfold ky; grind
def below (a b q : Pt) : Bool := (decide (ky a < ky q) && (decide (ky q < ky b) && decide (0 < cross a b q))) || (decide (ky b < ky q) && (decide (ky q < ky a) && decide (cross a b q < 0)))
def zone (q q' z : Pt) : Bool := (decide (ky q < ky z) && (decide (ky z < ky q') && decide (cross q q' z < 0))) || (decide (ky q' < ky z) && (decide (ky z < ky q) && decide (0 < cross q q' z)))
theorem below_comm (a b q : Pt) : below a b q = below b a q := by
 unfold below
 rw [cross_swap b a q, Bool.or_comm]
 congr 1
 ·congr 2
  rw [decide_eq_decide]; omega
 ·congr 2
  rw [decide_eq_decide]; omega
theorem zone_comm (a b q : Pt) : zone a b q = zone b a q := by
 unfold zone
 rw [cross_swap b a q, Bool.or_comm]
 congr 1
 ·congr 2
  rw [decide_eq_decide]; omega
 ·congr 2
  rw [decide_eq_decide]; omega
end Go.Proofs.YtgcioclfplafkaaGreatG
end
section
namespace Go.Proofs.YtgcioclfplafkaaGreatG
theorem pos_of {k x : Int} (hk : 0 < k) (h : 0 < k * x) : 0 < x := by
 apply Classical.byContradiction
 intro hn
 have := Int.mul_nonneg (show (0 : Int) ≤ k by omega) (show 0 ≤ -x by omega)
 rw [Int.mul_neg] at this
 omega
theorem neg_of {k x : Int} (hk : 0 < k) (h : k * x < 0) : x < 0 := by
 have := pos_of (x := -x) hk (by rw [Int.mul_neg]; omega)
 omega
theorem side_same {a b q q' : Pt} (h1 : ky a < ky q) (h2 : ky q < ky b) (h3 : ky a < ky q') (h4 : ky q' < ky b) (hm : ¬Meet a b q q') : (0 < cross a b q ∧ 0 < cross a b q') ∨ (cross a b q < 0 ∧ cross a b q' < 0) := by
 have n1 : cross a b q ≠ 0 := fun e => hm (meet_on q' e h1 h2)
 have n2 : cross a b q' ≠ 0 := fun e => hm (meet_on q e h3 h4).swr
 have key : ∀ p r : Pt, ky a < ky p → ky p < ky b → ky a < ky r → ky r < ky b → 0 < cross a b p → cross a b r < 0 → Meet a b p r := by
  intro p r g1 g2 g3 g4 g5 g6
  have i1 : (ky b - ky a) * cross r p a = cross a b p * (ky r - ky a) + -cross a b r * (ky p - ky a) := by unfold cross ky; grind
  have i2 : (ky b - ky a) * -cross r p b = cross a b p * (ky b - ky r) + -cross a b r * (ky b - ky p) := by unfold cross ky; grind
  have p1 := Int.mul_pos g5 (show 0 < ky r - ky a by omega)
  have p2 := Int.mul_pos (show 0 < -cross a b r by omega) (show 0 < ky p - ky a by omega)
  have p3 := Int.mul_pos g5 (show 0 < ky b - ky r by omega)
  have p4 := Int.mul_pos (show 0 < -cross a b r by omega) (show 0 < ky b - ky p by omega)
  have q1 := pos_of (k := ky b - ky a) (x := cross r p a) (by omega) (by omega)
  have q2 := pos_of (k := ky b - ky a) (x := -cross r p b) (by omega) (by omega)
  exact (meet_of (a := a) (b := b) (c := r) (d := p) (by omega) (by omega) (by omega) (by omega) (by omega)).swr
 rcases Int.lt_or_gt_of_ne n1 with g1 | g1 <;> rcases Int.lt_or_gt_of_ne n2 with g2 | g2
 ·exact .inr ⟨g1, g2⟩
 ·exact absurd (key q' q h3 h4 h1 h2 g2 g1).swr hm
 ·exact absurd (key q q' h1 h2 h3 h4 g1 g2) hm
 ·exact .inl ⟨g1, g2⟩
theorem side_cross {a b q q' : Pt} (h1 : ky a < ky q) (h2 : ky q < ky b) (h3 : ky b < ky q') (hm : ¬Meet a b q q') : (0 < cross a b q ∧ cross q q' b < 0) ∨ (cross a b q < 0 ∧ 0 < cross q q' b) := by
 have n1 : cross a b q ≠ 0 := fun e => hm (meet_on q' e h1 h2)
 have n2 : cross q q' b ≠ 0 := fun e => hm (meet_on a e h2 h3).comm.swl
 have i1 : (ky b - ky q) * cross q q' a = -((ky q' - ky q) * cross a b q) - (ky q - ky a) * cross q q' b := by unfold cross ky; grind
 have i2 : (ky b - ky q) * cross a b q' = -((ky q' - ky b) * cross a b q) - (ky b - ky a) * cross q q' b := by unfold cross ky; grind
 rcases Int.lt_or_gt_of_ne n1 with g1 | g1 <;> rcases Int.lt_or_gt_of_ne n2 with g2 | g2
 ·exfalso
  have p1 := Int.mul_pos (show 0 < ky q' - ky q by omega) (show 0 < -cross a b q by omega)
  have p2 := Int.mul_pos (show 0 < ky q - ky a by omega) (show 0 < -cross q q' b by omega)
  have p3 := Int.mul_pos (show 0 < ky q' - ky b by omega) (show 0 < -cross a b q by omega)
  have p4 := Int.mul_pos (show 0 < ky b - ky a by omega) (show 0 < -cross q q' b by omega)
  rw [Int.mul_neg] at p1 p2 p3 p4
  have q1 := pos_of (k := ky b - ky q) (x := cross q q' a) (by omega) (by omega)
  have q2 := pos_of (k := ky b - ky q) (x := cross a b q') (by omega) (by omega)
  exact hm (meet_of (by omega) (by omega) (by omega) (by omega) (by omega))
 ·exact .inr ⟨g1, g2⟩
 ·exact .inl ⟨g1, g2⟩
 ·exfalso
  have p1 := Int.mul_pos (show 0 < ky q' - ky q by omega) (show 0 < cross a b q by omega)
  have p2 := Int.mul_pos (show 0 < ky q - ky a by omega) (show 0 < cross q q' b by omega)
  have p3 := Int.mul_pos (show 0 < ky q' - ky b by omega) (show 0 < cross a b q by omega)
  have p4 := Int.mul_pos (show 0 < ky b - ky a by omega) (show 0 < cross q q' b by omega)
  have q1 := neg_of (k := ky b - ky q) (x := cross q q' a) (by omega) (by omega)
  have q2 := neg_of (k := ky b - ky q) (x := cross a b q') (by omega) (by omega)
  have e1 := cross_swap q' q a
  have e2 := cross_swap q' q b
  exact hm (meet_of (a := a) (b := b) (c := q') (d := q) (by omega) (by omega) (by omega) (by omega) (by omega)).swr
structure Far (a b q q' : Pt) : Prop where
 h1 : ky a ≠ ky q
 h2 : ky a ≠ ky q'
 h3 : ky b ≠ ky q
 h4 : ky b ≠ ky q'
theorem edge_law1 {a b q q' : Pt} (hab : ky a < ky b) (hq : ky q < ky q') (hf : Far a b q q') (hm : ¬Meet a b q q') : (below a b q ^^ below a b q') = (zone q q' a ^^ zone q q' b) := by
 obtain ⟨f1, f2, f3, f4⟩ := hf
 by_cases c1 : ky a < ky q
 ·by_cases c2 : ky b < ky q
  ·simp [below, zone, show ¬ky q < ky b by omega, show ¬ ky b < ky a by omega, show ¬ ky q' < ky b by omega, show ¬ky q < ky a by omega, show ¬ ky q' < ky a by omega]
  ·by_cases c3 : ky q' < ky b
   ·rcases side_same c1 (by omega) (show ky a < ky q' by omega) c3 hm with ⟨g1, g2⟩ | ⟨g1, g2⟩
    ·simp [below, zone, c1, c3, show ky q < ky b by omega, show ky a < ky q' by omega, show ¬ky q < ky a by omega, show ¬ky b < ky q' by omega, show ¬ky q' < ky a by omega, show ¬ky b < ky q by omega, g1, g2]
    ·simp [below, zone, c1, c3, show ky q < ky b by omega, show ky a < ky q' by omega, show ¬ky q < ky a by omega, show ¬ky b < ky q' by omega, show ¬ky q' < ky a by omega, show ¬ky b < ky q by omega, show ¬ 0 < cross a b q by omega, show ¬ 0 < cross a b q' by omega]
   ·rcases side_cross c1 (by omega) (show ky b < ky q' by omega) hm with ⟨g1, g2⟩ | ⟨g1, g2⟩
    ·simp [below, zone, c1, c3, show ky q < ky b by omega, show ¬ky q < ky a by omega, show ky b < ky q' by omega, show ¬ky q' < ky a by omega, show ¬ky b < ky q by omega, g1, g2]
    ·simp [below, zone, c1, c3, show ky q < ky b by omega, show ¬ky q < ky a by omega, show ky b < ky q' by omega, show ¬ky q' < ky a by omega, show ¬ky b < ky q by omega, show ¬ 0 < cross a b q by omega, show ¬ cross q q' b < 0 by omega]
 ·by_cases c2 : ky q' < ky a
  ·simp [below, zone, show ¬ky a < ky q by omega, show ¬ ky b < ky q by omega, show ¬ ky a < ky q' by omega, show ¬ky b < ky q' by omega]
  ·by_cases c3 : ky q' < ky b
   ·rcases side_cross (a := q) (b := q') (q := a) (q' := b) (by omega) (by omega) c3 (fun h => hm h.comm) with ⟨g1, g2⟩ | ⟨g1, g2⟩
    ·simp [below, zone, c1, c3, show ky q < ky a by omega, show ky a < ky q' by omega, show ¬ky b < ky q' by omega, show ¬ky b < ky q by omega, show ¬ky q' < ky a by omega, show ¬ 0 < cross a b q' by omega, show ¬ cross q q' a < 0 by omega]
    ·simp [below, zone, c1, c3, show ky q < ky a by omega, show ky a < ky q' by omega, show ¬ky b < ky q' by omega, show ¬ky b < ky q by omega, show ¬ky q' < ky a by omega, g1, g2]
   ·rcases side_same (a := q) (b := q') (q := a) (q' := b) (by omega) (by omega) (by omega) (by omega) (fun h => hm h.comm) with ⟨g1, g2⟩ | ⟨g1, g2⟩
    ·simp [below, zone, c1, c3, show ky q < ky a by omega, show ky a < ky q' by omega, show ky b < ky q' by omega, show ¬ky b < ky q by omega, show ¬ky q' < ky a by omega, show ky q < ky b by omega, show ¬ cross q q' a < 0 by omega, show ¬ cross q q' b < 0 by omega]
    ·simp [below, zone, c1, c3, show ky q < ky a by omega, show ky a < ky q' by omega, show ky b < ky q' by omega, show ¬ky b < ky q by omega, show ¬ky q' < ky a by omega, show ky q < ky b by omega, g1, g2]
theorem edge_law {a b q q' : Pt} (hab : ky a ≠ ky b) (hq : ky q ≠ ky q') (hf : Far a b q q') (hm : ¬Meet a b q q') : (below a b q ^^ below a b q') = (zone q q' a ^^ zone q q' b) := by
 rcases Int.lt_or_gt_of_ne hab with g1 | g1 <;> rcases Int.lt_or_gt_of_ne hq with g2 | g2
 ·exact edge_law1 g1 g2 hf hm
 ·rw [Bool.xor_comm (below a b q), zone_comm q q' a, zone_comm q q' b]
  exact edge_law1 g1 g2 ⟨hf.h2, hf.h1, hf.h4, hf.h3⟩ (fun h => hm h.swr)
 ·rw [below_comm a b q, below_comm a b q', Bool.xor_comm (zone q q' a)]
  exact edge_law1 g1 g2 ⟨hf.h3, hf.h4, hf.h1, hf.h2⟩ (fun h => hm h.swl)
 ·rw [below_comm a b q, below_comm a b q', Bool.xor_comm (zone q q' a), Bool.xor_comm (below b a q), zone_comm q q' a, zone_comm q q' b]
  exact edge_law1 g1 g2 ⟨hf.h4, hf.h3, hf.h2, hf.h1⟩ (fun h => hm h.swl.swr)
end Go.Proofs.YtgcioclfplafkaaGreatG
end
section
namespace Go.Proofs.YtgcioclfplafkaaGreatG
theorem at_on {a b q : Pt} (q' : Pt) (h : cross a b q = 0) (h1 : ky a < ky q) (h2 : ky q < ky b) : At a b q q' (ky b - ky q) (ky q - ky a) (ky b - ky a) 0 := by
 refine ⟨by omega, by omega, by omega, by omega, by omega, by omega, ?_, ?_⟩
 ·unfold cross at h; unfold ky; grind
 ·unfold cross at h; unfold ky; grind
def tS (a q b : Pt) : Bool := if ky a < ky q then (if ky q < ky b then true else decide (0 < cross a q b)) else (if ky b < ky q then false else decide (0 < cross a q b))
theorem nlt {x y : Int} (h : x < y) : ¬ y < x := by omega
theorem tS_left {a q q' : Pt} (h1 : ky a ≠ ky q) (h2 : ky q ≠ ky q') (h3 : ky a ≠ ky q') (hs : (ky a < ky q ↔ ky q' < ky q) → cross a q q' ≠ 0) : (tS a q q' ^^ (below a q q' ^^ zone q q' a)) = decide (ky q < ky q') := by
 have e : cross q q' a = cross a q q' := (cross_rot a q q').symm
 unfold tS below zone
 rw [e]
 generalize cross a q q' = C at hs
 rcases Int.lt_or_gt_of_ne h1 with g1 | g1 <;> rcases Int.lt_or_gt_of_ne h2 with g2 | g2 <;> rcases Int.lt_or_gt_of_ne h3 with g3 | g3
 all_goals (have n1 := nlt g1; have n2 := nlt g2; have n3 := nlt g3)
 all_goals (first | omega | skip)
 all_goals (simp only [g1, g2, g3, n1, n2, n3, decide_true, decide_false, if_true, if_false, Bool.true_and, Bool.false_and, Bool.and_false, Bool.and_true, Bool.or_false, Bool.false_or, Bool.xor_false, Bool.false_xor, Bool.xor_self, true_iff, false_iff, not_true_eq_false, not_false_eq_true, iff_true, iff_false, iff_self, forall_const, ne_eq] at hs ⊢)
 all_goals (by_cases c1 : 0 < C <;> by_cases c2 : C < 0 <;> simp [c1, c2] <;> omega)
theorem tS_right {q q' b : Pt} (h1 : ky b ≠ ky q') (h2 : ky q ≠ ky q') (h3 : ky b ≠ ky q) (hs : (ky q < ky q' ↔ ky b < ky q') → cross q q' b ≠ 0) : (tS q q' b ^^ (below q' b q ^^ zone q q' b)) = decide (ky q < ky q') := by
 have e : cross q' b q = cross q q' b := (cross_rot q q' b).symm
 unfold tS below zone
 rw [e]
 generalize cross q q' b = C at hs
 rcases Int.lt_or_gt_of_ne h1 with g1 | g1 <;> rcases Int.lt_or_gt_of_ne h2 with g2 | g2 <;> rcases Int.lt_or_gt_of_ne h3 with g3 | g3
 all_goals (have n1 := nlt g1; have n2 := nlt g2; have n3 := nlt g3)
 all_goals (first | omega | skip)
 all_goals (simp only [g1, g2, g3, n1, n2, n3, decide_true, decide_false, if_true, if_false, Bool.true_and, Bool.false_and, Bool.and_false, Bool.and_true, Bool.or_false, Bool.false_or, Bool.xor_false, Bool.false_xor, Bool.xor_self, true_iff, false_iff, not_true_eq_false, not_false_eq_true, iff_true, iff_false, iff_self, forall_const, ne_eq] at hs ⊢)
 all_goals (by_cases c1 : 0 < C <;> by_cases c2 : C < 0 <;> simp [c1, c2] <;> omega)
theorem msign (x y : Int) : (0 < x → 0 < y → 0 < x * y) ∧ (x < 0 → 0 < y → x * y < 0) ∧ (0 < x → y < 0 → x * y < 0) ∧ (x < 0 → y < 0 → 0 < x * y) ∧ (y = 0 → x * y = 0) := by
 refine ⟨Int.mul_pos, fun h1 h2 => Int.mul_neg_of_neg_of_pos h1 h2, fun h1 h2 => Int.mul_neg_of_pos_of_neg h1 h2, fun h1 h2 => Int.mul_pos_of_neg_of_neg h1 h2, fun h => by rw [h, Int.mul_zero]⟩
theorem tS_in {q t v b : Pt} (hX : 0 < cross q v b) (hn : ¬(0 ≤ cross q v t ∧ 0 ≤ cross q t b)) (ht : ky t ≠ ky q) (hv : ky v ≠ ky q) (hb : ky b ≠ ky q) : (tS t q v ^^ (tS t q b ^^ tS b q v)) = true := by
 have id : (ky t - ky q) * cross q v b = (ky b - ky q) * cross q v t + (ky v - ky q) * cross q t b := by unfold cross ky; grind
 have e1 : cross t q v = cross q v t := cross_rot t q v
 have e2 : cross t q b = -cross q t b := by rw [cross_rot t q b, cross_swap2]
 have e3 : cross b q v = cross q v b := cross_rot b q v
 unfold tS
 rw [e1, e2, e3]
 have m1 := msign (ky t - ky q) (cross q v b)
 have m2 := msign (ky b - ky q) (cross q v t)
 have m3 := msign (ky v - ky q) (cross q t b)
 generalize (ky t - ky q) * cross q v b = A at *
 generalize (ky b - ky q) * cross q v t = B at *
 generalize (ky v - ky q) * cross q t b = C at *
 generalize cross q v b = X at *
 generalize cross q v t = Y at *
 generalize cross q t b = Z at *
 rcases Int.lt_or_gt_of_ne ht with g1 | g1 <;> rcases Int.lt_or_gt_of_ne hv with g2 | g2 <;> rcases Int.lt_or_gt_of_ne hb with g3 | g3
 all_goals (have n1 := nlt g1; have n2 := nlt g2; have n3 := nlt g3)
 all_goals (simp only [g1, g2, g3, n1, n2, n3, hX, decide_true, decide_false, if_true, if_false, Bool.xor_true, Bool.true_xor, Bool.xor_false, Bool.false_xor, Bool.not_true, Bool.not_false, Bool.not_not])
 all_goals (by_cases c1 : 0 < Y <;> by_cases c2 : 0 < -Z <;> simp [c1, c2] <;> omega)
def Pth (R : Pt → Pt → Prop) : List Pt → Prop
 | a :: b :: l => R a b ∧ Pth R (b :: l)
 | _ => True
def lst (a : Pt) : List Pt → Pt
 | [] => a
 | b :: l => lst b l
theorem lst_snoc (z : Pt) : ∀ (l : List Pt) (a : Pt), lst a (l ++ [z]) = z
 | [], _ => rfl
 | b :: l, _ => lst_snoc z l b
theorem lst_app (b : Pt) (m : List Pt) : ∀ (l : List Pt) (a : Pt), lst a (l ++ b :: m) = lst b m
 | [], _ => rfl
 | c :: l, _ => lst_app b m l c
theorem lst_mem : ∀ (l : List Pt) (a : Pt), lst a l ∈ a :: l
 | [], a => by simp [lst]
 | b :: l, a => by
  have := lst_mem l b
  exact List.mem_cons_of_mem _ this
theorem Pth.imp {R S : Pt → Pt → Prop} (h : ∀ a b, R a b → S a b) : ∀ {l : List Pt}, Pth R l → Pth S l
 | [], _ => trivial
 | [_], _ => trivial
 | _ :: b :: l, hp => ⟨h _ _ hp.1, Pth.imp h hp.2⟩
theorem pth_app {R : Pt → Pt → Prop} {b : Pt} {m : List Pt} : ∀ {l : List Pt}, Pth R (l ++ b :: m) ↔ Pth R (l ++ [b]) ∧ Pth R (b :: m)
 | [] => ⟨fun h => ⟨trivial, h⟩, fun h => h.2⟩
 | [a] => ⟨fun h => ⟨⟨h.1, trivial⟩, h.2⟩, fun h => ⟨h.1.1, h.2⟩⟩
 | a :: c :: l => by
  have := pth_app (R := R) (b := b) (m := m) (l := c :: l)
  simp only [List.cons_append, Pth] at this ⊢
  rw [this, and_assoc]
theorem pth_snoc {R : Pt → Pt → Prop} {z : Pt} : ∀ {l : List Pt} {a : Pt}, Pth R (a :: l ++ [z]) ↔ Pth R (a :: l) ∧ R (lst a l) z
 | [], a => ⟨fun h => ⟨trivial, h.1⟩, fun h => ⟨h.2, trivial⟩⟩
 | b :: l, a => by
  have := pth_snoc (R := R) (z := z) (l := l) (a := b)
  simp only [List.cons_append, Pth, lst] at this ⊢
  rw [this, and_assoc]
theorem pth_rev {R : Pt → Pt → Prop} (hs : ∀ a b, R a b → R b a) : ∀ {l : List Pt}, Pth R l → Pth R l.reverse
 | [], _ => trivial
 | [_], _ => trivial
 | a :: b :: l, h => by
  have h1 := pth_rev hs (l := b :: l) h.2
  simp only [List.reverse_cons, List.append_assoc] at h1 ⊢
  rw [show l.reverse ++ ([b] ++ [a]) = l.reverse ++ b :: [a] from rfl, pth_app]
  exact ⟨h1, hs _ _ h.1, trivial⟩
def cntB (q : Pt) : List Pt → Bool
 | a :: b :: l => below a b q ^^ cntB q (b :: l)
 | _ => false
theorem cntB_app (q b : Pt) (m : List Pt) : ∀ l : List Pt, cntB q (l ++ b :: m) = (cntB q (l ++ [b]) ^^ cntB q (b :: m))
 | [] => by simp [cntB]
 | [a] => by simp [cntB]
 | a :: c :: l => by
  have := cntB_app q b m (c :: l)
  simp only [List.cons_append, cntB] at this ⊢
  rw [this, Bool.xor_assoc]
theorem cntB_snoc (q z : Pt) : ∀ (l : List Pt) (a : Pt), cntB q (a :: l ++ [z]) = (cntB q (a :: l) ^^ below (lst a l) z q)
 | [], a => by simp [cntB, lst]
 | b :: l, a => by
  have := cntB_snoc q z l b
  simp only [List.cons_append, cntB, lst] at this ⊢
  rw [this, Bool.xor_assoc]
theorem cntB_rev (q : Pt) : ∀ l : List Pt, cntB q l.reverse = cntB q l
 | [] => rfl
 | [_] => rfl
 | a :: b :: l => by
  have := cntB_rev q (b :: l)
  simp only [List.reverse_cons, List.append_assoc] at this ⊢
  rw [show l.reverse ++ ([b] ++ [a]) = l.reverse ++ b :: [a] from rfl, cntB_app, this]
  simp only [cntB, Bool.xor_false]
  rw [below_comm b a, Bool.xor_comm]
theorem tele {q q' : Pt} : ∀ (l : List Pt) (a : Pt), Pth (fun x y => (below x y q ^^ below x y q') = (zone q q' x ^^ zone q q' y)) (a :: l) → (cntB q (a :: l) ^^ cntB q' (a :: l)) = (zone q q' a ^^ zone q q' (lst a l))
 | [], a, _ => by simp [cntB, lst]
 | b :: l, a, h => by
  have h1 := h.1
  have h2 := tele l b h.2
  simp only [cntB, lst]
  rw [Bool.xor_assoc, ← Bool.xor_assoc (cntB q (b :: l)), Bool.xor_comm (cntB q (b :: l)), Bool.xor_assoc, h2, ← Bool.xor_assoc, h1, Bool.xor_assoc, ← Bool.xor_assoc (zone q q' b), Bool.xor_self, Bool.false_xor]
def cS : List Pt → Bool
 | q :: m :: l => tS (lst m l) q m ^^ cntB q (m :: l)
 | _ => false
end Go.Proofs.YtgcioclfplafkaaGreatG
end
section
namespace Go.Proofs.YtgcioclfplafkaaGreatG
def Same (a b c d : Pt) : Prop := (a = c ∧ b = d) ∨ (a = d ∧ b = c)
def Ends (a b c d : Pt) : Prop := ∀ s t u v, At a b c d s t u v → (s = 0 ∨ t = 0) ∧ (u = 0 ∨ v = 0)
theorem Ends.comm {a b c d : Pt} (h : Ends a b c d) : Ends c d a b := fun s t u v k => ⟨(h u v s t k.comm).2, (h u v s t k.comm).1⟩
theorem Ends.swl {a b c d : Pt} (h : Ends a b c d) : Ends b a c d := fun s t u v k => ⟨(h t s u v k.swl).1.symm, (h t s u v k.swl).2⟩
theorem Ends.swr {a b c d : Pt} (h : Ends a b c d) : Ends a b d c := h.comm.swl.comm
theorem Same.comm {a b c d : Pt} (h : Same a b c d) : Same c d a b := by
 rcases h with ⟨rfl, rfl⟩ | ⟨rfl, rfl⟩
 ·exact .inl ⟨rfl, rfl⟩
 ·exact .inr ⟨rfl, rfl⟩
theorem eq_of_mul {t : Int} (ht : 0 < t) {x y : Int} (h : t * x = t * y) : x = y := Int.eq_of_mul_eq_mul_left (by omega) h
theorem Ends.apart {a b c d : Pt} (h : Ends a b c d) (h1 : a ≠ c) (h2 : a ≠ d) (h3 : b ≠ c) (h4 : b ≠ d) : ¬Meet a b c d := by
 rintro ⟨s, t, u, v, k⟩
 have hp := k.pos
 have hs := k.sum
 have ex := k.ex
 have ey := k.ey
 rcases h s t u v k with ⟨e1 | e1, e2 | e2⟩
 ·subst e1; subst e2
  rw [Int.zero_mul, Int.zero_mul, Int.zero_add, Int.zero_add] at ex ey
  have : t = v := by omega
  subst this
  exact h4 (Prod.ext (eq_of_mul (by omega) ex) (eq_of_mul (by omega) ey))
 ·subst e1; subst e2
  rw [Int.zero_mul, Int.zero_mul, Int.zero_add, Int.add_zero] at ex ey
  have : t = u := by omega
  subst this
  exact h3 (Prod.ext (eq_of_mul (by omega) ex) (eq_of_mul (by omega) ey))
 ·subst e1; subst e2
  rw [Int.zero_mul, Int.zero_mul, Int.add_zero, Int.zero_add] at ex ey
  have : s = v := by omega
  subst this
  exact h2 (Prod.ext (eq_of_mul (by omega) ex) (eq_of_mul (by omega) ey))
 ·subst e1; subst e2
  rw [Int.zero_mul, Int.zero_mul, Int.add_zero, Int.add_zero] at ex ey
  have : s = u := by omega
  subst this
  exact h1 (Prod.ext (eq_of_mul (by omega) ex) (eq_of_mul (by omega) ey))
structure Plane (G : Pt → Pt → Prop) : Prop where
 sy : ∀ {a b}, G a b → G b a
 ne : ∀ {a b}, G a b → a ≠ b
 inj : ∀ {a b c d}, G a c → G b d → ky a = ky b → a = b
 ends : ∀ {a b c d}, G a b → G c d → Same a b c d ∨ Ends a b c d
theorem Plane.sub {G H : Pt → Pt → Prop} (h : Plane G) (hs : ∀ {a b}, H a b → G a b) (hy : ∀ {a b}, H a b → H b a) : Plane H :=
 ⟨hy, fun k => h.ne (hs k), fun k1 k2 => h.inj (hs k1) (hs k2), fun k1 k2 => h.ends (hs k1) (hs k2)⟩
theorem Plane.kne {G : Pt → Pt → Prop} (h : Plane G) {a b c d : Pt} (h1 : G a c) (h2 : G b d) (hn : a ≠ b) : ky a ≠ ky b := fun e => hn (h.inj h1 h2 e)
theorem Plane.inner {G : Pt → Pt → Prop} (h : Plane G) {a b c d : Pt} (h1 : G a b) (h2 : G c d) {s t u v : Int} (k : At a b c d s t u v) (hs : s = 0) (hu : u ≠ 0) (hv : v ≠ 0) : False := by
 rcases h.ends h1 h2 with (⟨rfl, rfl⟩ | ⟨rfl, rfl⟩) | e
 ·subst hs
  have hp := k.pos
  have hm := k.sum
  have ex := k.ex
  have ey := k.ey
  have hu2 := k.hu
  have hn := h.ne h1
  apply hn
  refine Prod.ext (eq_of_mul (t := u) (by omega) ?_) (eq_of_mul (t := u) (by omega) ?_)
  ·have : t = u + v := by omega
   rw [this, Int.add_mul] at ex; omega
  ·have : t = u + v := by omega
   rw [this, Int.add_mul] at ey; omega
 ·subst hs
  have hp := k.pos
  have hm := k.sum
  have ex := k.ex
  have ey := k.ey
  have hv2 := k.hv
  have hn := h.ne h1
  apply hn
  refine Prod.ext (eq_of_mul (t := v) (by omega) ?_) (eq_of_mul (t := v) (by omega) ?_)
  ·have : t = u + v := by omega
   rw [this, Int.add_mul] at ex; omega
  ·have : t = u + v := by omega
   rw [this, Int.add_mul] at ey; omega
 ·exact absurd (e s t u v k).2 (by omega)
theorem Plane.spike1 {G : Pt → Pt → Prop} (h : Plane G) {a q b : Pt} (h1 : G a q) (h2 : G q b) (hs : (ky q < ky a ∧ ky a < ky b) ∨ (ky b < ky a ∧ ky a < ky q)) : cross q b a ≠ 0 := by
 intro e
 rcases hs with ⟨g1, g2⟩ | ⟨g1, g2⟩
 ·exact h.inner (h.sy h1) h2 (at_on q e g1 g2).comm.swl rfl (by omega) (by omega)
 ·have e' : cross b q a = 0 := by rw [cross_swap, e]; rfl
  exact h.inner (h.sy h1) (h.sy h2) (at_on q e' g1 g2).comm.swl rfl (by omega) (by omega)
theorem Plane.spike {G : Pt → Pt → Prop} (h : Plane G) {a q b : Pt} (h1 : G a q) (h2 : G q b) (hn : a ≠ b) (hs : ky a < ky q ↔ ky b < ky q) : cross a q b ≠ 0 := by
 have k1 := h.kne h1 (h.sy h1) (h.ne h1)
 have k2 := h.kne h2 (h.sy h2) (h.ne h2)
 have k3 := h.kne h1 (h.sy h2) hn
 have e1 : cross a q b = cross q b a := cross_rot a q b
 have e2 : cross a q b = -cross q a b := cross_swap a q b
 by_cases g : ky a < ky b
 ·by_cases g2 : ky a < ky q
  ·-- b is between a and q
   have := h.spike1 (a := b) (q := q) (b := a) (h.sy h2) (h.sy h1) (.inr ⟨g, by omega⟩)
   rw [e2]; omega
  ·have := h.spike1 h1 h2 (.inl ⟨by omega, g⟩)
   rw [e1]; exact this
 ·by_cases g2 : ky a < ky q
  ·have := h.spike1 h1 h2 (.inr ⟨by omega, g2⟩)
   rw [e1]; exact this
  ·have := h.spike1 (a := b) (q := q) (b := a) (h.sy h2) (h.sy h1) (.inl ⟨by omega, by omega⟩)
   rw [e2]; omega
structure Cyc (G : Pt → Pt → Prop) (q : Pt) (l : List Pt) : Prop where
 nd : (q :: l).Nodup
 len : 2 ≤ l.length
 pth : Pth G (q :: l)
 cl : G (lst q l) q
theorem Cyc.rot {G : Pt → Pt → Prop} {q m : Pt} {l : List Pt} (h : Cyc G q (m :: l)) : Cyc G m (l ++ [q]) := by
 refine ⟨?_, by have := h.len; simp at this ⊢; omega, ?_, ?_⟩
 ·have := h.nd
  rw [← List.cons_append, List.nodup_append]
  rw [List.nodup_cons] at this
  refine ⟨this.2, by simp, ?_⟩
  intro a ha b hb
  rw [List.mem_singleton] at hb
  subst hb
  intro e
  subst e
  exact this.1 ha
 ·rw [← List.cons_append, pth_snoc]
  exact ⟨h.pth.2, h.cl⟩
 ·rw [lst_snoc]
  exact h.pth.1
theorem pth_mem {R : Pt → Pt → Prop} : ∀ {l : List Pt}, Pth R l → Pth (fun a b => R a b ∧ a ∈ l ∧ b ∈ l) l
 | [], _ => trivial
 | [_], _ => trivial
 | a :: b :: l, h => by
  refine ⟨⟨h.1, by simp, by simp⟩, ?_⟩
  refine Pth.imp (fun x y hxy => ?_) (pth_mem (l := b :: l) h.2)
  exact ⟨hxy.1, List.mem_cons_of_mem _ hxy.2.1, List.mem_cons_of_mem _ hxy.2.2⟩
theorem cS_step {G : Pt → Pt → Prop} (h : Plane G) {q m : Pt} {l : List Pt} (hc : Cyc G q (m :: l)) : cS (q :: m :: l) = cS (m :: (l ++ [q])) := by
 obtain ⟨nd, len, pth, cl⟩ := hc
 cases l with
 | nil => simp at len
 | cons b l =>
  have hqm : G q m := pth.1
  have hmb : G m b := pth.2.1
  have hbl : Pth G (b :: l) := pth.2.2
  have haq : G (lst b l) q := cl
  have hmem := lst_mem l b
  rw [List.nodup_cons, List.nodup_cons] at nd
  obtain ⟨n1, n2, n3⟩ := nd
  have nq : ∀ x, x ∈ b :: l → x ≠ q ∧ x ≠ m := fun x hx => ⟨fun e => by subst e; exact n1 (List.mem_cons_of_mem _ hx), fun e => by subst e; exact n2 hx⟩
  have ht : Pth (fun x y => (below x y q ^^ below x y m) = (zone q m x ^^ zone q m y)) (b :: l) := by
   refine Pth.imp (fun x y hxy => ?_) (pth_mem hbl)
   obtain ⟨hg, hx, hy⟩ := hxy
   have hx' := nq x hx
   have hy' := nq y hy
   refine edge_law (h.kne hg (h.sy hg) (h.ne hg)) (h.kne hqm (h.sy hqm) (h.ne hqm)) ⟨h.kne hg hqm hx'.1, h.kne hg (h.sy hqm) hx'.2, h.kne (h.sy hg) hqm hy'.1, h.kne (h.sy hg) (h.sy hqm) hy'.2⟩ ?_
   rcases h.ends hg hqm with (⟨e1, e2⟩ | ⟨e1, e2⟩) | e
   ·exact absurd e1 hx'.1
   ·exact absurd e1 hx'.2
   ·exact e.apart hx'.1 hx'.2 hy'.1 hy'.2
  have h1 := tele l b ht
  have ha := nq _ hmem
  have hb := nq b (by simp)
  have hL := tS_left (a := lst b l) (q := q) (q' := m) (h.kne haq (h.sy haq) (h.ne haq)) (h.kne hqm (h.sy hqm) (h.ne hqm)) (h.kne haq (h.sy hqm) ha.2) (fun hs => h.spike haq hqm ha.2 hs)
  have hR := tS_right (q := q) (q' := m) (b := b) (h.kne (h.sy hmb) hmb (h.ne hmb).symm) (h.kne hqm (h.sy hqm) (h.ne hqm)) (h.kne (h.sy hmb) hqm hb.1) (fun hs => h.spike hqm hmb (Ne.symm hb.1) hs)
  show (tS (lst b l) q m ^^ (below m b q ^^ cntB q (b :: l))) = (tS (lst b (l ++ [q])) m b ^^ cntB m (b :: l ++ [q]))
  rw [lst_snoc, cntB_snoc]
  revert h1 hL hR
  generalize tS (lst b l) q m = A
  generalize tS q m b = B
  generalize below m b q = C
  generalize below (lst b l) q m = D
  generalize cntB q (b :: l) = E
  generalize cntB m (b :: l) = F
  generalize zone q m b = H
  generalize zone q m (lst b l) = I
  generalize decide (ky q < ky m) = J
  revert A B C D E F H I J
  decide
theorem cS_rot {G : Pt → Pt → Prop} (h : Plane G) : ∀ (x : List Pt) (a b : Pt) (y : List Pt), Cyc G a (x ++ b :: y) → Cyc G b (y ++ a :: x) ∧ cS (a :: (x ++ b :: y)) = cS (b :: (y ++ a :: x))
 | [], a, b, y, hc => ⟨hc.rot, cS_step h hc⟩
 | c :: x, a, b, y, hc => by
  have h1 : Cyc G c ((x ++ b :: y) ++ [a]) := hc.rot
  have h2 : cS (a :: c :: (x ++ b :: y)) = cS (c :: ((x ++ b :: y) ++ [a])) := cS_step h hc
  have e1 : x ++ b :: y ++ [a] = x ++ b :: (y ++ [a]) := by simp
  rw [e1] at h1 h2
  have h3 := cS_rot h x c b (y ++ [a]) h1
  refine ⟨by simpa using h3.1, ?_⟩
  show cS (a :: c :: (x ++ b :: y)) = _
  rw [h2]
  have := h3.2
  simpa using this
theorem theta {y z : Pt} {β α π : List Pt} :
  (cS (y :: (β ++ z :: α)) ^^ (cS (y :: (β ++ z :: π.reverse)) ^^ cS (y :: (π ++ z :: α)))) =
   (tS (lst z α) y ((β ++ [z]).headD y) ^^ (tS ((π ++ [z]).headD y) y ((β ++ [z]).headD y) ^^ tS (lst z α) y ((π ++ [z]).headD y))) := by
 have hc : ∀ (β α : List Pt), cS (y :: (β ++ z :: α)) = (tS (lst z α) y ((β ++ [z]).headD y) ^^ (cntB y (β ++ [z]) ^^ cntB y (z :: α))) := by
  intro β α
  cases β with
  | nil =>
   show (tS (lst z α) y z ^^ cntB y (z :: α)) = _
   simp [cntB]
  | cons b β =>
   show (tS (lst b (β ++ z :: α)) y b ^^ cntB y (b :: β ++ z :: α)) = _
   rw [lst_app, cntB_app]; rfl
 have hr : z :: π.reverse = (π ++ [z]).reverse := by simp
 have hl : lst z π.reverse = (π ++ [z]).headD y := by
  cases π with
  | nil => rfl
  | cons p π =>
   rw [List.reverse_cons, lst_snoc]; rfl
 rw [hc, hc, hc, hr, cntB_rev, hl]
 generalize tS (lst z α) y ((β ++ [z]).headD y) = A
 generalize tS ((π ++ [z]).headD y) y ((β ++ [z]).headD y) = B
 generalize tS (lst z α) y ((π ++ [z]).headD y) = C
 generalize cntB y (β ++ [z]) = D
 generalize cntB y (z :: α) = E
 generalize cntB y (π ++ [z]) = F
 revert A B C D E F
 decide
end Go.Proofs.YtgcioclfplafkaaGreatG
end
section
namespace Go.Proofs.YtgcioclfplafkaaGreatG
def tri (a y b x : Pt) : Prop := 0 ≤ cross a y x ∧ 0 ≤ cross y b x ∧ 0 ≤ cross b a x
theorem bary (a y b x : Pt) : cross a y x + cross y b x + cross b a x = cross a y b := by unfold cross; grind
theorem cross_l (a b : Pt) : cross a b a = 0 := by unfold cross; grind
theorem cross_r (a b : Pt) : cross a b b = 0 := by unfold cross; grind
theorem mul_nn {x y : Int} (h : 0 ≤ x) (h' : 0 ≤ y) : 0 ≤ x * y := Int.mul_nonneg h h'
theorem exit1 {G : Pt → Pt → Prop} (h : Plane G) {a y b c d : Pt} (hay : G a y) (hD : 0 < cross a y b) (hcd : G c d) (h1 : cross a y c < 0) (h2 : 0 < cross a y d) (h3 : 0 ≤ cross a y d * cross y b c - cross a y c * cross y b d)
  (h4 : 0 ≤ cross a y d * cross b a c - cross a y c * cross b a d) : False := by
 have p1 := Int.mul_pos hD h2
 have p2 := Int.mul_pos hD (show 0 < -cross a y c by omega)
 have id : cross a y b * (cross a y d - cross a y c) - (cross a y d * cross y b c - cross a y c * cross y b d) = cross a y d * cross b a c - cross a y c * cross b a d := by unfold cross; grind
 have hat : At c d a y (cross a y b * cross a y d) (cross a y b * -cross a y c) (cross a y d * cross y b c - cross a y c * cross y b d) (cross a y d * cross b a c - cross a y c * cross b a d) := by
  refine ⟨by omega, by omega, h3, h4, by omega, ?_, ?_, ?_⟩
  ·rw [← id, ← Int.mul_add]
   have : cross a y d + -cross a y c = cross a y d - cross a y c := by omega
   rw [this]; omega
  ·unfold cross; grind
  ·unfold cross; grind
 rcases h.ends hcd hay with (⟨rfl, rfl⟩ | ⟨rfl, rfl⟩) | e
 ·rw [cross_l] at h1; omega
 ·rw [cross_l] at h2; omega
 ·have := (e _ _ _ _ hat).1; omega
theorem exit2 {G : Pt → Pt → Prop} (h : Plane G) {a y b c d : Pt} (hyb : G y b) (hD : 0 < cross a y b) (hcd : G c d) (h1 : cross y b c < 0) (h2 : 0 < cross y b d) (h3 : 0 ≤ cross y b d * cross a y c - cross y b c * cross a y d)
  (h4 : 0 ≤ cross y b d * cross b a c - cross y b c * cross b a d) : False := by
 have p1 := Int.mul_pos hD h2
 have p2 := Int.mul_pos hD (show 0 < -cross y b c by omega)
 have id : cross a y b * (cross y b d - cross y b c) - (cross y b d * cross a y c - cross y b c * cross a y d) = cross y b d * cross b a c - cross y b c * cross b a d := by unfold cross; grind
 have hat : At c d b y (cross a y b * cross y b d) (cross a y b * -cross y b c) (cross y b d * cross a y c - cross y b c * cross a y d) (cross y b d * cross b a c - cross y b c * cross b a d) := by
  refine ⟨by omega, by omega, h3, h4, by omega, ?_, ?_, ?_⟩
  ·rw [← id, ← Int.mul_add]
   have : cross y b d + -cross y b c = cross y b d - cross y b c := by omega
   rw [this]; omega
  ·unfold cross; grind
  ·unfold cross; grind
 rcases h.ends hcd (h.sy hyb) with (⟨rfl, rfl⟩ | ⟨rfl, rfl⟩) | e
 ·rw [cross_r] at h1; omega
 ·rw [cross_r] at h2; omega
 ·have := (e _ _ _ _ hat).1; omega
theorem exit {G : Pt → Pt → Prop} (h : Plane G) {a y b c d : Pt} (hay : G a y) (hyb : G y b) (hD : 0 < cross a y b) (hcd : G c d) {u v : Int} (hu : 0 < u) (hv : 0 < v)
  (hM : 0 < u * cross a y c + v * cross a y d) (hL : 0 < u * cross y b c + v * cross y b d) (hH : 0 ≤ u * cross b a c + v * cross b a d) (hc : 0 ≤ cross b a c) (hn : cross a y c < 0 ∨ cross y b c < 0) : False := by
 generalize hMd : u * cross a y c + v * cross a y d = M at hM
 generalize hLd : u * cross y b c + v * cross y b d = L at hL
 generalize hHd : u * cross b a c + v * cross b a d = H at hH
 have i1 : v * (cross a y d * cross y b c - cross a y c * cross y b d) = M * cross y b c - cross a y c * L := by rw [← hMd, ← hLd]; grind
 have i2 : v * (cross a y d * cross b a c - cross a y c * cross b a d) = M * cross b a c - cross a y c * H := by rw [← hMd, ← hHd]; grind
 have i3 : v * (cross y b d * cross b a c - cross y b c * cross b a d) = L * cross b a c - cross y b c * H := by rw [← hLd, ← hHd]; grind
 have nn : ∀ x : Int, 0 ≤ v * x → 0 ≤ x := by
  intro x hx
  apply Classical.byContradiction
  intro hn
  have := Int.mul_pos hv (show 0 < -x by omega)
  rw [Int.mul_neg] at this; omega
 have c1 : cross a y c < 0 → 0 ≤ cross a y d * cross y b c - cross a y c * cross y b d → False := by
  intro g1 g2
  have q1 := mul_nn (show 0 ≤ M by omega) hc
  have q2 := mul_nn (show 0 ≤ -cross a y c by omega) hH
  rw [Int.neg_mul] at q2
  have q3 := Int.mul_pos hu (show 0 < -cross a y c by omega)
  rw [Int.mul_neg] at q3
  exact exit1 h hay hD hcd g1 (pos_of (k := v) hv (by omega)) g2 (nn _ (by omega))
 have c2 : cross y b c < 0 → 0 ≤ cross y b d * cross a y c - cross y b c * cross a y d → False := by
  intro g1 g2
  have q1 := mul_nn (show 0 ≤ L by omega) hc
  have q2 := mul_nn (show 0 ≤ -cross y b c by omega) hH
  rw [Int.neg_mul] at q2
  have q3 := Int.mul_pos hu (show 0 < -cross y b c by omega)
  rw [Int.mul_neg] at q3
  exact exit2 h hyb hD hcd g1 (pos_of (k := v) hv (by omega)) g2 (nn _ (by omega))
 have e12 : cross y b d * cross a y c - cross y b c * cross a y d = -(cross a y d * cross y b c - cross a y c * cross y b d) := by grind
 by_cases g : 0 ≤ cross a y d * cross y b c - cross a y c * cross y b d
 ·rcases hn with g1 | g1
  ·exact c1 g1 g
  ·by_cases g2 : cross a y c < 0
   ·exact c1 g2 g
   ·-- then it is zero
    have q1 := mul_nn (show 0 ≤ cross a y c by omega) (show 0 ≤ L by omega)
    have q2 := Int.mul_pos hM (show 0 < -cross y b c by omega)
    rw [Int.mul_neg] at q2
    have := mul_nn (show 0 ≤ v by omega) g
    omega
 ·rcases hn with g1 | g1
  ·by_cases g2 : cross y b c < 0
   ·exact c2 g2 (by omega)
   ·have q1 := mul_nn (show 0 ≤ M by omega) (show 0 ≤ cross y b c by omega)
    have q2 := Int.mul_pos (show 0 < -cross a y c by omega) hL
    rw [Int.neg_mul] at q2
    exact g (nn _ (by omega))
  ·exact c2 g1 (by omega)
theorem inner_pos {G : Pt → Pt → Prop} (h : Plane G) {a y b z z' : Pt} (hay : G a y) (hyb : G y b) (hD : 0 < cross a y b) (hz : G z z') (hzT : tri a y b z) (n1 : z ≠ y) (n2 : z ≠ a) (n3 : z ≠ b) : 0 < cross a y z ∧ 0 < cross y b z := by
 obtain ⟨t1, t2, t3⟩ := hzT
 have hb := bary a y b z
 constructor
 ·apply Classical.byContradiction
  intro hn
  have e : cross a y z = 0 := by omega
  have hat : At z' z a y 0 (cross a y b) (cross y b z) (cross b a z) := by
   refine ⟨by omega, by omega, t2, t3, by omega, by omega, ?_, ?_⟩
   ·unfold cross at e ⊢; grind
   ·unfold cross at e ⊢; grind
  have ex := hat.ex
  have ey := hat.ey
  refine h.inner (h.sy hz) hay hat rfl ?_ ?_
  ·intro e2
   have : cross a y b = cross b a z := by omega
   rw [e2, Int.zero_mul, Int.zero_mul, Int.zero_add, Int.zero_add, this] at ex ey
   exact n1 (Prod.ext (eq_of_mul (t := cross b a z) (by omega) ex) (eq_of_mul (t := cross b a z) (by omega) ey))
  ·intro e2
   have : cross a y b = cross y b z := by omega
   rw [e2, Int.zero_mul, Int.zero_mul, Int.zero_add, Int.add_zero, this] at ex ey
   exact n2 (Prod.ext (eq_of_mul (t := cross y b z) (by omega) ex) (eq_of_mul (t := cross y b z) (by omega) ey))
 ·apply Classical.byContradiction
  intro hn
  have e : cross y b z = 0 := by omega
  have hat : At z' z b y 0 (cross a y b) (cross a y z) (cross b a z) := by
   refine ⟨by omega, by omega, t1, t3, by omega, by omega, ?_, ?_⟩
   ·unfold cross at e ⊢; grind
   ·unfold cross at e ⊢; grind
  have ex := hat.ex
  have ey := hat.ey
  refine h.inner (h.sy hz) (h.sy hyb) hat rfl ?_ ?_
  ·intro e2
   have : cross a y b = cross b a z := by omega
   rw [e2, Int.zero_mul, Int.zero_mul, Int.zero_add, Int.zero_add, this] at ex ey
   exact n1 (Prod.ext (eq_of_mul (t := cross b a z) (by omega) ex) (eq_of_mul (t := cross b a z) (by omega) ey))
  ·intro e2
   have : cross a y b = cross a y z := by omega
   rw [e2, Int.zero_mul, Int.zero_mul, Int.zero_add, Int.add_zero, this] at ex ey
   exact n3 (Prod.ext (eq_of_mul (t := cross a y z) (by omega) ex) (eq_of_mul (t := cross a y z) (by omega) ey))
end Go.Proofs.YtgcioclfplafkaaGreatG
end
section
namespace Go.Proofs.YtgcioclfplafkaaGreatG
theorem le_scale {w x y : Int} (hw : 0 < w) (h : x ≤ y) : w * x ≤ w * y := Int.mul_le_mul_of_nonneg_left h (by omega)
theorem eq_pt {t : Int} (ht : 0 < t) {x y : Pt} (h1 : t * x.1 = t * y.1) (h2 : t * x.2 = t * y.2) : x = y := Prod.ext (eq_of_mul ht h1) (eq_of_mul ht h2)
theorem chord_in_core {G : Pt → Pt → Prop} (h : Plane G) {a y b z z' : Pt} (hay : G a y) (hyb : G y b) (hD : 0 < cross a y b) (hz : G z z') (hM : 0 < cross a y z) (hL : 0 < cross y b z) (hH : 0 ≤ cross b a z)
  (mx : ∀ x x', G x x' → tri a y b x → x ≠ y → x ≠ a → x ≠ b → cross b a x ≤ cross b a z) {c d : Pt} (hcd : G c d) (hn : ¬Same y z c d) {s t u v : Int} (k : At y z c d s t u v) (ht : 0 < t) (hu : 0 < u) (hv : 0 < v)
  (hc : u * cross b a c + v * cross b a d ≤ (s + t) * cross b a c) : False := by
 have rM := k.cr a y
 have rL := k.cr y b
 have rH := k.cr b a
 have hs := k.hs
 have hw := k.sum
 rw [cross_r a y, Int.mul_zero, Int.zero_add] at rM
 rw [cross_l y b, Int.mul_zero, Int.zero_add] at rL
 have eD : cross b a y = cross a y b := cross_rot b a y
 rw [eD] at rH
 have tM := Int.mul_pos ht hM
 have tL := Int.mul_pos ht hL
 have tH := mul_nn (show 0 ≤ t by omega) hH
 have sD := mul_nn hs (show 0 ≤ cross a y b by omega)
 have hb := bary a y b z
 have zin : s = 0 → False := by
  intro e
  subst e
  refine h.inner (a := z') (b := z) (c := c) (d := d) (s := 0) (t := t) (u := u) (v := v) (h.sy hz) hcd ⟨by omega, by omega, by omega, by omega, by omega, by omega, ?_, ?_⟩ rfl (by omega) (by omega)
  ·have := k.ex; omega
  ·have := k.ey; omega
 have hc0 : 0 ≤ cross b a c := by
  apply Classical.byContradiction
  intro hx
  have := Int.mul_pos (show 0 < s + t by omega) (show 0 < -cross b a c by omega)
  rw [Int.mul_neg] at this
  omega
 by_cases hT : tri a y b c
 ·by_cases e1 : c = y
  ·subst e1
   by_cases g : t ≤ v
   ·-- d is on the chord
    have ex := k.ex
    have ey := k.ey
    have hd1 : v * cross a c d = t * cross a c z := by rw [cross_r a c] at rM; omega
    have hd2 : v * cross c b d = t * cross c b z := by rw [cross_l c b] at rL; omega
    have hd3 : v * cross b a d = (v - t) * cross a c b + t * cross b a z := by
     rw [eD] at rH
     have : u = s + t - v := by omega
     rw [this] at rH
     grind
    have pv : 0 < v := hv
    have q1 := pos_of (k := v) (x := cross a c d) hv (by omega)
    have q2 := pos_of (k := v) (x := cross c b d) hv (by omega)
    have q3 : 0 ≤ cross b a d := by
     apply Classical.byContradiction
     intro hx
     have := Int.mul_pos hv (show 0 < -cross b a d by omega)
     rw [Int.mul_neg] at this
     have := mul_nn (show 0 ≤ v - t by omega) (show 0 ≤ cross a c b by omega)
     omega
    have n1 : d ≠ c := fun e => by subst e; rw [cross_r] at q1; omega
    have n2 : d ≠ a := fun e => by subst e; rw [cross_l] at q1; omega
    have n3 : d ≠ b := fun e => by subst e; rw [cross_r] at q2; omega
    have m := mx d c (h.sy hcd) ⟨by omega, by omega, q3⟩ n1 n2 n3
    have m2 := le_scale hv m
    by_cases g2 : t = v
    ·subst g2
     have hus : u = s := by omega
     subst hus
     exact hn (.inl ⟨rfl, eq_pt ht (by omega) (by omega)⟩)
    ·have p := Int.mul_pos (show 0 < v - t by omega) (show 0 < cross a c b - cross b a z by omega)
     rw [Int.mul_sub, Int.sub_mul, Int.sub_mul] at p
     rw [Int.sub_mul] at hd3
     omega
   ·-- z is on the segment
    refine h.inner (a := z') (b := z) (c := c) (d := d) (s := 0) (t := t) (u := t - v) (v := v) (h.sy hz) hcd ⟨by omega, by omega, by omega, by omega, by omega, by omega, ?_, ?_⟩ rfl (by omega) (by omega)
    ·have := k.ex
     have : u = s + t - v := by omega
     grind
    ·have := k.ey
     have : u = s + t - v := by omega
     grind
  ·have hs0 : s = 0 := by
    apply Classical.byContradiction
    intro hs0
    have sDp := Int.mul_pos (show 0 < s by omega) hD
    have low : cross b a c ≤ cross b a z := by
     by_cases e2 : c = a
     ·subst e2; rw [cross_r]; exact hH
     ·by_cases e3 : c = b
      ·subst e3; rw [cross_l]; exact hH
      ·exact mx c d hcd hT e1 e2 e3
    have m2 := le_scale (w := s + t) (by omega) low
    have p := Int.mul_pos (show 0 < s by omega) (show 0 < cross a y b - cross b a z by omega)
    rw [Int.mul_sub] at p
    rw [Int.add_mul, Int.add_mul] at m2
    rw [Int.add_mul] at hc
    omega
   exact zin hs0
 ·refine exit h hay hyb hD hcd hu hv (by omega) (by omega) (by omega) hc0 ?_
  apply Classical.byContradiction
  intro hx
  exact hT ⟨by omega, by omega, hc0⟩
theorem chord_in {G : Pt → Pt → Prop} (h : Plane G) {a y b z z' : Pt} (hay : G a y) (hyb : G y b) (hD : 0 < cross a y b) (hz : G z z') (hM : 0 < cross a y z) (hL : 0 < cross y b z) (hH : 0 ≤ cross b a z)
  (mx : ∀ x x', G x x' → tri a y b x → x ≠ y → x ≠ a → x ≠ b → cross b a x ≤ cross b a z) {c d : Pt} (hcd : G c d) : Same y z c d ∨ Ends y z c d := by
 by_cases hn : Same y z c d
 ·exact .inl hn
 ·refine .inr fun s t u v k => ?_
  have hs := k.hs
  have ht := k.ht
  have hu := k.hu
  have hv := k.hv
  have hw := k.sum
  have hp := k.pos
  have hb := bary a y b z
  have rM := k.cr a y
  have rL := k.cr y b
  have rH := k.cr b a
  have eD : cross b a y = cross a y b := cross_rot b a y
  rw [cross_r a y, Int.mul_zero, Int.zero_add] at rM
  rw [cross_l y b, Int.mul_zero, Int.zero_add] at rL
  rw [eD] at rH
  by_cases g : t = 0
  ·subst g
   refine ⟨.inr rfl, ?_⟩
   apply Classical.byContradiction
   intro hx
   refine h.inner (a := a) (b := y) (c := c) (d := d) (s := 0) (t := s) (u := u) (v := v) hay hcd ⟨by omega, by omega, by omega, by omega, by omega, by omega, ?_, ?_⟩ rfl (by omega) (by omega)
   ·have := k.ex; omega
   ·have := k.ey; omega
  ·-- an end in the triangle
   have endp : ∀ p p', G p p' → (s + t) * cross a y p = t * cross a y z → (s + t) * cross y b p = t * cross y b z → (s + t) * cross b a p = s * cross a y b + t * cross b a z → s = 0 := by
    intro p p' hpp e1 e2 e3
    apply Classical.byContradiction
    intro hs0
    have tM := Int.mul_pos (show 0 < t by omega) hM
    have tL := Int.mul_pos (show 0 < t by omega) hL
    have tH := mul_nn (show 0 ≤ t by omega) hH
    have sDp := Int.mul_pos (show 0 < s by omega) hD
    have q1 := pos_of (k := s + t) (x := cross a y p) (by omega) (by omega)
    have q2 := pos_of (k := s + t) (x := cross y b p) (by omega) (by omega)
    have q3 := pos_of (k := s + t) (x := cross b a p) (by omega) (by omega)
    have n1 : p ≠ y := fun e => by subst e; rw [cross_r] at q1; omega
    have n2 : p ≠ a := fun e => by subst e; rw [cross_l] at q1; omega
    have n3 : p ≠ b := fun e => by subst e; rw [cross_r] at q2; omega
    have m := le_scale (w := s + t) (by omega) (mx p p' hpp ⟨by omega, by omega, by omega⟩ n1 n2 n3)
    have pp := Int.mul_pos (show 0 < s by omega) (show 0 < cross a y b - cross b a z by omega)
    rw [Int.mul_sub] at pp
    rw [Int.add_mul, Int.add_mul] at m
    rw [Int.add_mul] at e3
    omega
   by_cases gu : u = 0
   ·subst gu
    have : v = s + t := by omega
    subst this
    rw [Int.zero_mul, Int.zero_add] at rM rL rH
    exact ⟨.inl (endp d c (h.sy hcd) rM.symm rL.symm rH.symm), .inl rfl⟩
   ·by_cases gv : v = 0
    ·subst gv
     have : u = s + t := by omega
     subst this
     rw [Int.zero_mul, Int.add_zero] at rM rL rH
     exact ⟨.inl (endp c d hcd rM.symm rL.symm rH.symm), .inr rfl⟩
    ·exfalso
     by_cases gc : u * cross b a c + v * cross b a d ≤ (s + t) * cross b a c
     ·exact chord_in_core h hay hyb hD hz hM hL hH mx hcd hn k (by omega) (by omega) (by omega) gc
     ·refine chord_in_core h hay hyb hD hz hM hL hH mx (h.sy hcd) (fun e => hn ?_) k.swr (by omega) (by omega) (by omega) ?_
      ·rcases e with ⟨e1, e2⟩ | ⟨e1, e2⟩
       ·exact .inr ⟨e1, e2⟩
       ·exact .inl ⟨e1, e2⟩
      ·-- the mean of the two is the value
       apply Classical.byContradiction
       intro hx
       have e1 : (s + t) * (u * cross b a c + v * cross b a d) = u * ((s + t) * cross b a c) + v * ((s + t) * cross b a d) := by grind
       have q1 := Int.mul_pos (show 0 < u by omega) (show 0 < u * cross b a c + v * cross b a d - (s + t) * cross b a c by omega)
       have q2 := Int.mul_pos (show 0 < v by omega) (show 0 < u * cross b a c + v * cross b a d - (s + t) * cross b a d by omega)
       rw [hw] at e1 q1 q2
       grind
theorem chord_out_core {G : Pt → Pt → Prop} (h : Plane G) {a y b : Pt} (hay : G a y) (hyb : G y b) (hD : 0 < cross a y b) (deg : ∀ x, G y x → x = a ∨ x = b) (emp : ∀ x x', G x x' → tri a y b x → x = y ∨ x = a ∨ x = b)
  {c d : Pt} (hcd : G c d) (hn : ¬Same a b c d) {s t u v : Int} (k : At a b c d s t u v) (hs : 0 < s) (ht : 0 < t) (hu : 0 < u) (hv : 0 < v) (hc : 0 ≤ cross b a c) : False := by
 have rM := k.cr a y
 have rL := k.cr y b
 have rH := k.cr b a
 have hw := k.sum
 rw [cross_l a y, Int.mul_zero, Int.zero_add] at rM
 rw [cross_r y b, Int.mul_zero, Int.add_zero] at rL
 rw [cross_l b a, cross_r b a, Int.mul_zero, Int.mul_zero, Int.zero_add] at rH
 have eD : cross y b a = cross a y b := by rw [cross_rot a y b]
 rw [eD] at rL
 have tM := Int.mul_pos ht hD
 have tL := Int.mul_pos hs hD
 by_cases hT : tri a y b c
 ·rcases emp c d hcd hT with e | e | e
  ·subst e
   rcases deg d hcd with e | e
   ·subst e
    rw [cross_r, cross_l] at rM; omega
   ·subst e
    rw [cross_l, cross_r] at rL; omega
  ·subst e
   by_cases g : t ≤ v
   ·have hd1 : v * cross c y d = t * cross c y b := by rw [cross_l] at rM; omega
    have hd2 : v * cross y b d = (v - t) * cross c y b := by
     have : u = s + t - v := by omega
     rw [this, eD] at rL
     grind
    have hd3 : v * cross b c d = 0 := by rw [cross_r] at rH; omega
    have q1 := pos_of (k := v) (x := cross c y d) hv (by omega)
    have q3 : cross b c d = 0 := by
     rcases Int.mul_eq_zero.1 hd3 with e | e
     ·omega
     ·exact e
    have q2 : 0 ≤ cross y b d := by
     apply Classical.byContradiction
     intro hx
     have := Int.mul_pos hv (show 0 < -cross y b d by omega)
     rw [Int.mul_neg] at this
     have := mul_nn (show 0 ≤ v - t by omega) (show 0 ≤ cross c y b by omega)
     omega
    rcases emp d c (h.sy hcd) ⟨by omega, q2, by omega⟩ with e | e | e
    ·subst e; rw [cross_r] at q1; omega
    ·subst e; rw [cross_l] at q1; omega
    ·exact hn (.inl ⟨rfl, e.symm⟩)
   ·refine h.inner (a := y) (b := b) (c := c) (d := d) (s := 0) (t := t) (u := t - v) (v := v) hyb hcd ⟨by omega, by omega, by omega, by omega, by omega, by omega, ?_, ?_⟩ rfl (by omega) (by omega)
    ·have := k.ex
     have : u = s + t - v := by omega
     grind
    ·have := k.ey
     have : u = s + t - v := by omega
     grind
  ·subst e
   by_cases g : s ≤ v
   ·have hd2 : v * cross y c d = s * cross a y c := by rw [cross_r] at rL; omega
    have hd1 : v * cross a y d = (v - s) * cross a y c := by
     have : u = s + t - v := by omega
     rw [this] at rM
     grind
    have hd3 : v * cross c a d = 0 := by rw [cross_l] at rH; omega
    have q2 := pos_of (k := v) (x := cross y c d) hv (by omega)
    have q3 : cross c a d = 0 := by
     rcases Int.mul_eq_zero.1 hd3 with e | e
     ·omega
     ·exact e
    have q1 : 0 ≤ cross a y d := by
     apply Classical.byContradiction
     intro hx
     have := Int.mul_pos hv (show 0 < -cross a y d by omega)
     rw [Int.mul_neg] at this
     have := mul_nn (show 0 ≤ v - s by omega) (show 0 ≤ cross a y c by omega)
     omega
    rcases emp d c (h.sy hcd) ⟨q1, by omega, by omega⟩ with e | e | e
    ·subst e; rw [cross_l] at q2; omega
    ·exact hn (.inr ⟨e.symm, rfl⟩)
    ·subst e; rw [cross_r] at q2; omega
   ·refine h.inner (a := y) (b := a) (c := c) (d := d) (s := 0) (t := s) (u := s - v) (v := v) (h.sy hay) hcd ⟨by omega, by omega, by omega, by omega, by omega, by omega, ?_, ?_⟩ rfl (by omega) (by omega)
    ·have := k.ex
     have : u = s + t - v := by omega
     grind
    ·have := k.ey
     have : u = s + t - v := by omega
     grind
 ·refine exit h hay hyb hD hcd hu hv (by omega) (by omega) (by omega) hc ?_
  apply Classical.byContradiction
  intro hx
  exact hT ⟨by omega, by omega, hc⟩
theorem chord_out {G : Pt → Pt → Prop} (h : Plane G) {a y b : Pt} (hay : G a y) (hyb : G y b) (hD : 0 < cross a y b) (deg : ∀ x, G y x → x = a ∨ x = b) (emp : ∀ x x', G x x' → tri a y b x → x = y ∨ x = a ∨ x = b)
  {c d : Pt} (hcd : G c d) : Same a b c d ∨ Ends a b c d := by
 by_cases hn : Same a b c d
 ·exact .inl hn
 ·refine .inr fun s t u v k => ?_
  have hs := k.hs
  have ht := k.ht
  have hu := k.hu
  have hv := k.hv
  have hw := k.sum
  have hp := k.pos
  have rM := k.cr a y
  have rL := k.cr y b
  have rH := k.cr b a
  rw [cross_l a y, Int.mul_zero, Int.zero_add] at rM
  rw [cross_r y b, Int.mul_zero, Int.add_zero] at rL
  rw [cross_l b a, cross_r b a, Int.mul_zero, Int.mul_zero, Int.zero_add] at rH
  have eD : cross y b a = cross a y b := by rw [cross_rot a y b]
  rw [eD] at rL
  by_cases g : t = 0
  ·subst g
   refine ⟨.inr rfl, ?_⟩
   apply Classical.byContradiction
   intro hx
   refine h.inner (a := y) (b := a) (c := c) (d := d) (s := 0) (t := s) (u := u) (v := v) (h.sy hay) hcd ⟨by omega, by omega, by omega, by omega, by omega, by omega, ?_, ?_⟩ rfl (by omega) (by omega)
   ·have := k.ex; omega
   ·have := k.ey; omega
  ·by_cases g' : s = 0
   ·subst g'
    refine ⟨.inl rfl, ?_⟩
    apply Classical.byContradiction
    intro hx
    refine h.inner (a := y) (b := b) (c := c) (d := d) (s := 0) (t := t) (u := u) (v := v) hyb hcd ⟨by omega, by omega, by omega, by omega, by omega, by omega, ?_, ?_⟩ rfl (by omega) (by omega)
    ·have := k.ex; omega
    ·have := k.ey; omega
   ·exfalso
    have tM := Int.mul_pos (show 0 < t by omega) hD
    have tL := Int.mul_pos (show 0 < s by omega) hD
    have endp : ∀ p p', G p p' → (s + t) * cross a y p = t * cross a y b → (s + t) * cross y b p = s * cross a y b → (s + t) * cross b a p = 0 → False := by
     intro p p' hpp e1 e2 e3
     have q1 := pos_of (k := s + t) (x := cross a y p) (by omega) (by omega)
     have q2 := pos_of (k := s + t) (x := cross y b p) (by omega) (by omega)
     have q3 : cross b a p = 0 := by
      rcases Int.mul_eq_zero.1 e3 with e | e
      ·omega
      ·exact e
     rcases emp p p' hpp ⟨by omega, by omega, by omega⟩ with e | e | e
     ·subst e; rw [cross_r] at q1; omega
     ·subst e; rw [cross_l] at q1; omega
     ·subst e; rw [cross_r] at q2; omega
    by_cases gu : u = 0
    ·subst gu
     have : v = s + t := by omega
     subst this
     rw [Int.zero_mul, Int.zero_add] at rM rL rH
     exact endp d c (h.sy hcd) rM.symm rL.symm rH.symm
    ·by_cases gv : v = 0
     ·subst gv
      have : u = s + t := by omega
      subst this
      rw [Int.zero_mul, Int.add_zero] at rM rL rH
      exact endp c d hcd rM.symm rL.symm rH.symm
     ·by_cases gc : 0 ≤ cross b a c
      ·exact chord_out_core h hay hyb hD deg emp hcd hn k (by omega) (by omega) (by omega) (by omega) gc
      ·refine chord_out_core h hay hyb hD deg emp (h.sy hcd) (fun e => hn ?_) k.swr (by omega) (by omega) (by omega) (by omega) ?_
       ·rcases e with ⟨e1, e2⟩ | ⟨e1, e2⟩
        ·exact .inr ⟨e1, e2⟩
        ·exact .inl ⟨e1, e2⟩
       ·apply Classical.byContradiction
        intro hx
        have q1 := Int.mul_pos (show 0 < u by omega) (show 0 < -cross b a c by omega)
        have q2 := Int.mul_pos (show 0 < v by omega) (show 0 < -cross b a d by omega)
        rw [Int.mul_neg] at q1 q2
        omega
end Go.Proofs.YtgcioclfplafkaaGreatG
end
section
namespace Go.Proofs.YtgcioclfplafkaaGreatG
def Adj (m : List Pt) (a b : Pt) : Prop := ∃ x y, m = x ++ a :: b :: y
theorem adj_split {u w : List Pt} {v a b : Pt} : Adj (u ++ v :: w) a b ↔ Adj (u ++ [v]) a b ∨ Adj (v :: w) a b := by
 constructor
 ·rintro ⟨x, y, h⟩
  rcases List.append_eq_append_iff.1 h with ⟨s, h1, h2⟩ | ⟨s, h1, h2⟩
  ·-- x = u ++ s, v :: w = s ++ a :: b :: y
   exact .inr ⟨s, y, h2⟩
  ·-- u = x ++ s, a :: b :: y = s ++ v :: w
   cases s with
   | nil => exact .inr ⟨[], y, by simpa using h2.symm⟩
   | cons c s =>
    simp only [List.cons_append, List.cons.injEq] at h2
    obtain ⟨rfl, h3⟩ := h2
    cases s with
    | nil =>
     simp only [List.nil_append, List.cons.injEq] at h3
     obtain ⟨rfl, rfl⟩ := h3
     exact .inl ⟨x, [], by rw [h1]; simp⟩
    | cons d s =>
     simp only [List.cons_append, List.cons.injEq] at h3
     obtain ⟨rfl, h4⟩ := h3
     exact .inl ⟨x, s ++ [v], by rw [h1]; simp⟩
 ·rintro (⟨x, y, h⟩ | ⟨x, y, h⟩)
  ·have e : u ++ v :: w = (u ++ [v]) ++ w := by simp
   exact ⟨x, y ++ w, by rw [e, h]; simp⟩
  ·exact ⟨u ++ x, y, by rw [h]; simp⟩
theorem pth_adj {R : Pt → Pt → Prop} : ∀ {m : List Pt}, Pth R m ↔ ∀ a b, Adj m a b → R a b
 | [] => ⟨fun _ a b ⟨x, y, h⟩ => by simp at h, fun _ => trivial⟩
 | [c] => ⟨fun _ a b ⟨x, y, h⟩ => by cases x <;> simp at h, fun _ => trivial⟩
 | c :: d :: m => by
  have ih := pth_adj (R := R) (m := d :: m)
  constructor
  ·rintro ⟨h1, h2⟩ a b ⟨x, y, h⟩
   cases x with
   | nil =>
    simp only [List.nil_append, List.cons.injEq] at h
    obtain ⟨rfl, rfl, _⟩ := h
    exact h1
   | cons e x =>
    simp only [List.cons_append, List.cons.injEq] at h
    exact ih.1 h2 a b ⟨x, y, h.2⟩
  ·intro h
   refine ⟨h c d ⟨[], m, rfl⟩, ih.2 fun a b ⟨x, y, e⟩ => h a b ⟨c :: x, y, by rw [e]; rfl⟩⟩
theorem Adj.mem {m : List Pt} {a b : Pt} (h : Adj m a b) : a ∈ m ∧ b ∈ m := by
 obtain ⟨x, y, rfl⟩ := h
 simp
def Eg (q : Pt) (l : List Pt) (a b : Pt) : Prop := Adj (q :: l ++ [q]) a b ∨ Adj (q :: l ++ [q]) b a
theorem Eg.sy {q : Pt} {l : List Pt} {a b : Pt} (h : Eg q l a b) : Eg q l b a := h.symm
theorem Eg.mem {q : Pt} {l : List Pt} {a b : Pt} (h : Eg q l a b) : a ∈ q :: l := by
 rcases h with h | h
 ·have := h.mem.1; simp at this; simp; rcases this with h | h | h <;> simp [h]
 ·have := h.mem.2; simp at this; simp; rcases this with h | h | h <;> simp [h]
theorem eg_rot {q b : Pt} {x y : List Pt} {c d : Pt} : Eg q (x ++ b :: y) c d ↔ Eg b (y ++ q :: x) c d := by
 have h : ∀ c d, Adj (q :: (x ++ b :: y) ++ [q]) c d ↔ Adj (b :: (y ++ q :: x) ++ [b]) c d := by
  intro c d
  have e1 : q :: (x ++ b :: y) ++ [q] = (q :: x) ++ b :: (y ++ [q]) := by simp
  have e2 : b :: (y ++ q :: x) ++ [b] = (b :: y) ++ q :: (x ++ [b]) := by simp
  rw [e1, e2, adj_split (u := q :: x) (v := b) (w := y ++ [q]), adj_split (u := b :: y) (v := q) (w := x ++ [b])]
  exact Or.comm
 unfold Eg
 rw [h, h]
theorem Eg.has {q : Pt} {l : List Pt} {a : Pt} (h : a ∈ q :: l) : ∃ b, Eg q l a b := by
 obtain ⟨x, y, e⟩ := List.append_of_mem h
 cases y with
 | nil => exact ⟨q, .inl ⟨x, [], by rw [e]; simp⟩⟩
 | cons b y => exact ⟨b, .inl ⟨x, y ++ [q], by rw [e]; simp⟩⟩
structure Sim (q : Pt) (l : List Pt) : Prop where
 pl : Plane (Eg q l)
 nd : (q :: l).Nodup
 len : 2 ≤ l.length
theorem Sim.cyc {q : Pt} {l : List Pt} (h : Sim q l) : Cyc (Eg q l) q l := by
 have hp : Pth (Eg q l) (q :: l ++ [q]) := pth_adj.2 fun a b k => .inl k
 rw [pth_snoc] at hp
 exact ⟨h.nd, h.len, hp.1, hp.2⟩
theorem Cyc.eg {G : Pt → Pt → Prop} (hp : Plane G) {q : Pt} {l : List Pt} (h : Cyc G q l) {a b : Pt} (k : Eg q l a b) : G a b := by
 have := pth_snoc.2 ⟨h.pth, h.cl⟩
 rw [pth_adj] at this
 rcases k with k | k
 ·exact this _ _ k
 ·exact hp.sy (this _ _ k)
theorem Cyc.sim {G : Pt → Pt → Prop} (hp : Plane G) {q : Pt} {l : List Pt} (h : Cyc G q l) : Sim q l := ⟨hp.sub (fun k => h.eg hp k) Eg.sy, h.nd, h.len⟩
theorem Sim.rot {q b : Pt} {x y : List Pt} (h : Sim q (x ++ b :: y)) : Sim b (y ++ q :: x) ∧ cS (q :: (x ++ b :: y)) = cS (b :: (y ++ q :: x)) := by
 have := cS_rot h.pl x q b y h.cyc
 exact ⟨this.1.sim h.pl, this.2⟩
theorem eg_first {y : Pt} {m : List Pt} (hn : y ∉ m) {b : Pt} {c : List Pt} (hm : m = b :: c) {x : Pt} (h : Eg y m y x) : x = b ∨ x = lst b c := by
 rcases h with ⟨u, w, e⟩ | ⟨u, w, e⟩
 ·cases u with
  | nil =>
   subst hm
   simp only [List.nil_append, List.cons_append, List.cons.injEq] at e
   exact .inl e.2.1.symm
  | cons d u =>
   exfalso
   simp only [List.cons_append, List.cons.injEq] at e
   have h2 := e.2
   rcases List.append_eq_append_iff.1 h2 with ⟨s, h3, h4⟩ | ⟨s, h3, h4⟩
   ·cases s with
    | nil => simp at h4
    | cons _ s => cases s <;> simp at h4
   ·cases s with
    | nil => simp at h4
    | cons f s =>
     simp only [List.cons_append, List.cons.injEq] at h4
     apply hn
     rw [h3, ← h4.1]
     simp
 ·cases u with
  | nil =>
   exfalso
   subst hm
   simp only [List.nil_append, List.cons_append, List.cons.injEq] at e
   apply hn
   rw [e.2.1]
   simp
  | cons d u =>
   simp only [List.cons_append, List.cons.injEq] at e
   have h2 := e.2
   rcases List.append_eq_append_iff.1 h2 with ⟨s, h3, h4⟩ | ⟨s, h3, h4⟩
   ·cases s with
    | nil => simp at h4
    | cons _ s => cases s <;> simp at h4
   ·cases s with
    | nil => simp at h4
    | cons f s =>
     simp only [List.cons_append, List.cons.injEq] at h4
     obtain ⟨rfl, h5⟩ := h4
     cases s with
     | nil =>
      right
      rw [hm] at h3
      have := congrArg (lst y) h3
      rw [lst_snoc] at this
      exact this.symm
     | cons g s =>
      exfalso
      simp only [List.cons_append, List.cons.injEq] at h5
      apply hn
      rw [h3, ← h5.1]
      simp
theorem Plane.add {G : Pt → Pt → Prop} (h : Plane G) {p q p' q' : Pt} (hp : G p p') (hq : G q q') (hn : p ≠ q) (hc : ∀ {c d}, G c d → Same p q c d ∨ Ends p q c d) : Plane (fun a b => G a b ∨ Same a b p q) := by
 have vx : ∀ {a b}, (G a b ∨ Same a b p q) → ∃ b', G a b' := by
  rintro a b (k | ⟨rfl, rfl⟩ | ⟨rfl, rfl⟩)
  ·exact ⟨_, k⟩
  ·exact ⟨_, hp⟩
  ·exact ⟨_, hq⟩
 refine ⟨?_, ?_, ?_, ?_⟩
 ·rintro a b (k | ⟨rfl, rfl⟩ | ⟨rfl, rfl⟩)
  ·exact .inl (h.sy k)
  ·exact .inr (.inr ⟨rfl, rfl⟩)
  ·exact .inr (.inl ⟨rfl, rfl⟩)
 ·rintro a b (k | ⟨rfl, rfl⟩ | ⟨rfl, rfl⟩)
  ·exact h.ne k
  ·exact hn
  ·exact hn.symm
 ·intro a b c d h1 h2 e
  obtain ⟨_, k1⟩ := vx h1
  obtain ⟨_, k2⟩ := vx h2
  exact h.inj k1 k2 e
 ·have one : ∀ {a b c d}, G a b → Same c d p q → Same a b c d ∨ Ends a b c d := by
   rintro a b c d k (⟨rfl, rfl⟩ | ⟨rfl, rfl⟩)
   ·rcases hc k with e | e
    ·exact .inl e.comm
    ·exact .inr e.comm
   ·rcases hc k with e | e
    ·left
     rcases e with ⟨rfl, rfl⟩ | ⟨rfl, rfl⟩
     ·exact .inr ⟨rfl, rfl⟩
     ·exact .inl ⟨rfl, rfl⟩
    ·exact .inr e.comm.swr
  rintro a b c d (k1 | k1) (k2 | k2)
  ·exact h.ends k1 k2
  ·exact one k1 k2
  ·rcases one k2 k1 with e | e
   ·exact .inl e.comm
   ·exact .inr e.comm
  ·left
   rcases k1 with ⟨rfl, rfl⟩ | ⟨rfl, rfl⟩ <;> rcases k2 with ⟨rfl, rfl⟩ | ⟨rfl, rfl⟩
   ·exact .inl ⟨rfl, rfl⟩
   ·exact .inr ⟨rfl, rfl⟩
   ·exact .inr ⟨rfl, rfl⟩
   ·exact .inl ⟨rfl, rfl⟩
theorem argmax (f : Pt → Int) (P : Pt → Prop) : ∀ (l : List Pt), (∃ z, z ∈ l ∧ P z) → ∃ z, z ∈ l ∧ P z ∧ ∀ x, x ∈ l → P x → f x ≤ f z
 | [], h => by obtain ⟨z, hz, _⟩ := h; simp at hz
 | c :: l, h => by
  by_cases hl : ∃ z, z ∈ l ∧ P z
  ·obtain ⟨z, h1, h2, h3⟩ := argmax f P l hl
   by_cases hc : P c ∧ f z < f c
   ·refine ⟨c, by simp, hc.1, fun x hx hp => ?_⟩
    rcases List.mem_cons.1 hx with e | e
    ·rw [e]; omega
    ·have := h3 x e hp; omega
   ·refine ⟨z, by simp [h1], h2, fun x hx hp => ?_⟩
    rcases List.mem_cons.1 hx with e | e
    ·subst e
     apply Classical.byContradiction
     intro hn
     exact hc ⟨hp, by omega⟩
    ·exact h3 x e hp
  ·obtain ⟨z, h1, h2⟩ := h
   rcases List.mem_cons.1 h1 with e | e
   ·subst e
    refine ⟨z, by simp, h2, fun x hx hp => ?_⟩
    rcases List.mem_cons.1 hx with e | e
    ·rw [e]; omega
    ·exact absurd ⟨x, e, hp⟩ hl
   ·exact absurd ⟨z, e, h2⟩ hl
end Go.Proofs.YtgcioclfplafkaaGreatG
end
section
namespace Go.Proofs.YtgcioclfplafkaaGreatG
theorem cross_flip (a q b : Pt) : cross a q b = -cross b q a := by unfold cross; grind
theorem tS_anti {a q b : Pt} (h1 : ky a ≠ ky q) (h2 : ky b ≠ ky q) (hs : (ky a < ky q ↔ ky b < ky q) → cross a q b ≠ 0) : tS a q b = !tS b q a := by
 have e := cross_flip b q a
 unfold tS
 rw [e]
 generalize cross a q b = C at hs
 rcases Int.lt_or_gt_of_ne h1 with g1 | g1 <;> rcases Int.lt_or_gt_of_ne h2 with g2 | g2
 all_goals (have n1 := nlt g1; have n2 := nlt g2)
 all_goals (simp only [g1, g2, n1, n2, if_true, if_false, Bool.not_true, Bool.not_false, true_iff, false_iff, not_true_eq_false, not_false_eq_true, iff_true, iff_false, forall_const, ne_eq] at hs ⊢)
 all_goals (by_cases c1 : 0 < C <;> by_cases c2 : C < 0 <;> simp [c1, c2] <;> omega)
theorem headD_mem {b : Pt} {l : List Pt} {d : Pt} : (l ++ [b]).headD d ∈ l ++ [b] := by cases l <;> simp
theorem pth_head {R : Pt → Pt → Prop} {y q d : Pt} {l : List Pt} (h : Pth R (y :: (l ++ [q]))) : R y ((l ++ [q]).headD d) := by
 cases l with
 | nil => exact h.1
 | cons c l => exact h.1
theorem cntB_min {v : Pt} : ∀ {l : List Pt}, (∀ x ∈ l, ky v ≤ ky x) → cntB v l = false
 | [], _ => rfl
 | [_], _ => rfl
 | a :: b :: l, h => by
  have h1 := h a (by simp)
  have h2 := h b (by simp)
  have h3 := cntB_min (v := v) (l := b :: l) (fun x hx => h x (List.mem_cons_of_mem _ hx))
  simp only [cntB, h3, Bool.xor_false]
  unfold below
  simp [show ¬ ky a < ky v by omega, show ¬ ky b < ky v by omega]
theorem sep {p y q : Pt} {C1 C2 D : List Pt} (hS : Sim p (C1 ++ y :: (C2 ++ q :: D))) (hD : D ≠ [])
  (hch : ∀ {c d}, Eg p (C1 ++ y :: (C2 ++ q :: D)) c d → Same p q c d ∨ Ends p q c d)
  (c0 : cS (p :: (C1 ++ y :: (C2 ++ q :: D))) = true) (c1 : cS (p :: (C1 ++ y :: (C2 ++ [q]))) = true) (c2 : cS (q :: (D ++ [p])) = true)
  (hX : 0 < cross (lst p C1) y ((C2 ++ [q]).headD y)) (emp : ∀ x, x ∈ p :: (C1 ++ y :: (C2 ++ [q])) → tri (lst p C1) y ((C2 ++ [q]).headD y) x → x = y ∨ x = lst p C1 ∨ x = (C2 ++ [q]).headD y) :
  ∀ w, w ∈ D → ¬tri (lst p C1) y ((C2 ++ [q]).headD y) w := by
 intro w hw hT
 have hnd := hS.nd
 have hcnt := List.nodup_iff_count.1 hnd
 have eL : p :: (C1 ++ y :: (C2 ++ q :: D)) = (p :: (C1 ++ y :: (C2 ++ [q]))) ++ D := by simp
 have hap : ∀ x, x ∈ p :: (C1 ++ y :: (C2 ++ [q])) → ∀ x', x' ∈ D → x ≠ x' := by
  rw [eL] at hnd
  exact (List.nodup_append.1 hnd).2.2
 generalize ha : lst p C1 = a at *
 generalize hb : (C2 ++ [q]).headD y = b at *
 have am : a ∈ p :: (C1 ++ y :: (C2 ++ [q])) := by
  have := lst_mem C1 p
  rw [ha] at this
  rcases List.mem_cons.1 this with e | e
  ·simp [e]
  ·simp [e]
 have bm : b ∈ p :: (C1 ++ y :: (C2 ++ [q])) := by
  have : b ∈ C2 ++ [q] := by rw [← hb]; exact headD_mem
  simp only [List.mem_append, List.mem_singleton] at this
  rcases this with e | e <;> simp [e]
 have hpq : p ≠ q := by
  intro e
  have := hcnt q
  rw [e] at this
  simp only [List.count_cons, List.count_append, beq_self_eq_true, if_true] at this
  omega
 have hE := hS.pl
 have hc := hS.cyc
 have hp1 : Pth (Eg p (C1 ++ y :: (C2 ++ q :: D))) ((p :: C1) ++ y :: (C2 ++ q :: D)) := hc.pth
 rw [pth_app] at hp1
 obtain ⟨pa, hp2⟩ := hp1
 have hp3 : Pth (Eg p (C1 ++ y :: (C2 ++ q :: D))) ((y :: C2) ++ q :: D) := hp2
 rw [pth_app] at hp3
 obtain ⟨pb, pd⟩ := hp3
 have hcl := hc.cl
 rw [lst_app, lst_app] at hcl
 have hay : Eg p (C1 ++ y :: (C2 ++ q :: D)) a y := by
  have := (pth_snoc (l := C1) (a := p)).1 pa
  rw [ha] at this
  exact this.2
 have hyb : Eg p (C1 ++ y :: (C2 ++ q :: D)) y b := by rw [← hb]; exact pth_head pb
 have hpm : p ∈ p :: (C1 ++ y :: (C2 ++ q :: D)) := by simp
 have hqm : q ∈ p :: (C1 ++ y :: (C2 ++ q :: D)) := by simp
 obtain ⟨p', hpp⟩ := Eg.has hpm
 obtain ⟨q', hqq⟩ := Eg.has hqm
 have hG := hE.add hpp hqq hpq hch
 have hG' : Plane (fun c d => Eg p (C1 ++ y :: (C2 ++ q :: D)) c d ∨ Same c d p q) := hG
 obtain ⟨z, hzD, hzT, hmx⟩ := argmax (fun x => cross b a x) (fun x => tri a y b x) D ⟨w, hw, hT⟩
 have hzm : z ∈ p :: (C1 ++ y :: (C2 ++ q :: D)) := by rw [eL]; simp [hzD]
 obtain ⟨z', hzz⟩ := Eg.has hzm
 have ym : y ∈ p :: (C1 ++ y :: (C2 ++ [q])) := by simp
 have zy : z ≠ y := Ne.symm (hap y ym z hzD)
 have za : z ≠ a := Ne.symm (hap a am z hzD)
 have zb : z ≠ b := Ne.symm (hap b bm z hzD)
 obtain ⟨hM, hL⟩ := inner_pos hE hay hyb hX hzz hzT zy za zb
 have hch2 : ∀ {c d}, (Eg p (C1 ++ y :: (C2 ++ q :: D)) c d ∨ Same c d p q) → Same y z c d ∨ Ends y z c d := by
  intro c d hcd
  refine chord_in (G := fun c d => Eg p (C1 ++ y :: (C2 ++ q :: D)) c d ∨ Same c d p q) hG' (.inl hay) (.inl hyb) hX (.inl hzz) hM hL hzT.2.2 ?_ hcd
  intro x x' hx hxT n1 n2 n3
  have hxm : x ∈ p :: (C1 ++ y :: (C2 ++ q :: D)) := by
   rcases hx with k | ⟨rfl, rfl⟩ | ⟨rfl, rfl⟩
   ·exact k.mem
   ·exact hpm
   ·exact hqm
  rw [eL] at hxm
  rcases List.mem_append.1 hxm with k | k
  ·rcases emp x k hxT with e | e | e
   ·exact absurd e n1
   ·exact absurd e n2
   ·exact absurd e n3
  ·exact hmx x k hxT
 have hy2 : ∃ y', (Eg p (C1 ++ y :: (C2 ++ q :: D)) y y' ∨ Same y y' p q) := ⟨_, .inl hyb⟩
 obtain ⟨y', hyy⟩ := hy2
 have hH := hG'.add (p := y) (q := z) hyy (.inl hzz) (Ne.symm zy) hch2
 generalize hHd : (fun c d => (Eg p (C1 ++ y :: (C2 ++ q :: D)) c d ∨ Same c d p q) ∨ Same c d y z) = H at hH
 have up : ∀ c d, Eg p (C1 ++ y :: (C2 ++ q :: D)) c d → H c d := fun c d k => by rw [← hHd]; exact .inl (.inl k)
 have hpqH : H p q := by rw [← hHd]; exact .inl (.inr (.inl ⟨rfl, rfl⟩))
 have hyzH : H y z := by rw [← hHd]; exact .inr (.inl ⟨rfl, rfl⟩)
 obtain ⟨D1, D2, hDD⟩ := List.append_of_mem hzD
 subst hDD
 have pd' : Pth (Eg p (C1 ++ y :: (C2 ++ q :: (D1 ++ z :: D2)))) ((q :: D1) ++ z :: D2) := pd
 rw [pth_app] at pd'
 have pz := Pth.imp up pd'.1
 have pA := Pth.imp up pa
 have pB := Pth.imp up pb
 have pA' : Pth H (p :: (C1 ++ [y])) := pA
 have pB' : Pth H (y :: (C2 ++ [q])) := pB
 have sy : ∀ c d, H c d → H d c := fun c d k => hH.sy k
 have cyQ : Cyc H y (C2 ++ q :: (p :: C1)) := by
  refine ⟨?_, by simp; omega, ?_, ?_⟩
  ·rw [List.nodup_iff_count]
   intro x
   have := hcnt x
   simp only [List.count_cons, List.count_append] at this ⊢
   omega
  ·have : y :: (C2 ++ q :: (p :: C1)) = (y :: C2) ++ q :: (p :: C1) := rfl
   rw [this, pth_app]
   refine ⟨pB, hH.sy hpqH, ?_⟩
   exact ((pth_snoc (l := C1) (a := p)).1 pA).1
  ·rw [lst_app]
   show H (lst p C1) y
   rw [ha]
   exact up _ _ hay
 have cyU : Cyc H y (C2 ++ q :: (D1 ++ [z])) := by
  refine ⟨?_, by simp; omega, ?_, ?_⟩
  ·rw [List.nodup_iff_count]
   intro x
   have := hcnt x
   simp only [List.count_cons, List.count_append, List.count_nil] at this ⊢
   omega
  ·have : y :: (C2 ++ q :: (D1 ++ [z])) = (y :: C2) ++ q :: (D1 ++ [z]) := rfl
   rw [this, pth_app]
   exact ⟨pB, pz⟩
  ·rw [lst_app, lst_snoc]
   exact hH.sy hyzH
 have cyN : Cyc H y ((z :: D1.reverse) ++ q :: (p :: C1)) := by
  refine ⟨?_, by simp; omega, ?_, ?_⟩
  ·rw [List.nodup_iff_count]
   intro x
   have := hcnt x
   simp only [List.count_cons, List.count_append, List.count_reverse] at this ⊢
   omega
  ·have : y :: ((z :: D1.reverse) ++ q :: (p :: C1)) = (y :: z :: D1.reverse) ++ q :: (p :: C1) := rfl
   rw [this, pth_app]
   refine ⟨⟨hyzH, ?_⟩, hH.sy hpqH, ((pth_snoc (l := C1) (a := p)).1 pA).1⟩
   have := pth_rev sy pz
   simpa using this
  ·rw [lst_app]
   show H (lst p C1) y
   rw [ha]
   exact up _ _ hay
 have rQ := (cS_rot hH C2 y q (p :: C1) cyQ)
 have rU := (cS_rot hH C2 y q (D1 ++ [z]) cyU)
 have rN := (cS_rot hH (z :: D1.reverse) y q (p :: C1) cyN)
 have ty := theta (y := y) (z := q) (β := C2) (α := p :: C1) (π := z :: D1.reverse)
 have er : (z :: D1.reverse).reverse = D1 ++ [z] := by simp
 rw [er] at ty
 have el : lst q (p :: C1) = a := ha
 have eh : ((z :: D1.reverse) ++ [q]).headD y = z := rfl
 rw [el, eh, hb] at ty
 have kz : ky z ≠ ky y := hE.kne hzz hyb zy
 have ka : ky a ≠ ky y := hE.kne hay hyb (hE.ne hay)
 have kb : ky b ≠ ky y := hE.kne (hE.sy hyb) hyb (hE.ne hyb).symm
 have hin := tS_in (q := y) (t := a) (v := b) (b := z) hL (by
  intro hx
  have := cross_swap a y z
  omega) ka kb kz
 have tq := theta (y := q) (z := y) (β := p :: C1) (α := C2) (π := D1 ++ [z])
 have er2 : (D1 ++ [z]).reverse = z :: D1.reverse := by simp
 rw [er2] at tq
 have eh2 : ((p :: C1) ++ [y]).headD q = p := rfl
 rw [eh2] at tq
 have tc := theta (y := q) (z := p) (β := D1 ++ z :: D2) (α := C1 ++ y :: C2) (π := [])
 have eh3 : (([] : List Pt) ++ [p]).headD q = p := rfl
 rw [eh3, lst_app] at tc
 have eg1 : ((D1 ++ z :: D2) ++ [p]).headD q = ((D1 ++ [z]) ++ [y]).headD q := by cases D1 <;> rfl
 rw [eg1] at tc
 generalize hg : ((D1 ++ [z]) ++ [y]).headD q = g at tc tq
 have s0 : cS (q :: ((D1 ++ z :: D2) ++ p :: (C1 ++ y :: C2))) = true := by
  have e : C1 ++ y :: (C2 ++ q :: (D1 ++ z :: D2)) = (C1 ++ y :: C2) ++ q :: (D1 ++ z :: D2) := by simp
  rw [e] at c0 hS
  rw [← hS.rot.2]; exact c0
 have s1 : cS (q :: (p :: (C1 ++ y :: C2))) = true := by
  have cyc1 : Cyc H p ((C1 ++ y :: C2) ++ q :: []) := by
   refine ⟨?_, by simp; omega, ?_, ?_⟩
   ·rw [List.nodup_iff_count]
    intro x
    have := hcnt x
    simp only [List.count_cons, List.count_append, List.count_nil] at this ⊢
    omega
   ·have : p :: ((C1 ++ y :: C2) ++ q :: []) = (p :: C1) ++ y :: (C2 ++ [q]) := by simp
    rw [this, pth_app]
    exact ⟨pA, pB⟩
   ·rw [lst_app]; exact hH.sy hpqH
  have := (cS_rot hH (C1 ++ y :: C2) p q [] cyc1).2
  have e : p :: ((C1 ++ y :: C2) ++ q :: []) = p :: (C1 ++ y :: (C2 ++ [q])) := by simp
  rw [e, c1] at this
  exact this.symm
 have s1' : cS (q :: ((p :: C1) ++ y :: C2)) = true := s1
 have s2 : cS (q :: ((D1 ++ z :: D2) ++ p :: [])) = true := c2
 have er3 : (p :: ([] : List Pt).reverse) = [p] := rfl
 have s1'' : cS (q :: (([] : List Pt) ++ p :: (C1 ++ y :: C2))) = true := s1
 have s2' : cS (q :: ((D1 ++ z :: D2) ++ p :: ([] : List Pt).reverse)) = true := c2
 rw [s0, s1'', s2'] at tc
 rw [rQ.2, s1', rU.2, rN.2] at ty
 rw [s1'] at tq
 have hgq : H q g := by
  have : Pth H (q :: (D1 ++ [z])) := pz
  rw [← hg]
  cases D1 with
  | nil => exact this.1
  | cons d D1 => exact this.1
 have gD : g ∈ D1 ++ z :: D2 := by
  rw [← hg]
  cases D1 <;> simp
 have gp : g ≠ p := Ne.symm (hap p (by simp) g gD)
 have kg : ky g ≠ ky q := hH.kne (hH.sy hgq) hgq (hH.ne hgq).symm
 have kp : ky p ≠ ky q := hH.kne hpqH (hH.sy hpqH) hpq
 have hanti := tS_anti (a := g) (q := q) (b := p) kg kp (fun hs => hH.spike (hH.sy hgq) (hH.sy hpqH) gp hs)
 revert ty tq tc hin hanti
 generalize cS (q :: ((D1 ++ [z]) ++ y :: C2)) = A1
 generalize cS (q :: ((p :: C1) ++ y :: (z :: D1.reverse))) = A2
 generalize tS a y b = B1
 generalize tS z y b = B2
 generalize tS a y z = B3
 generalize tS (lst y C2) q p = B4
 generalize tS g q p = B5
 generalize tS p q g = B6
 generalize tS (lst y C2) q g = B7
 revert A1 A2 B1 B2 B3 B4 B5 B6 B7
 decide
end Go.Proofs.YtgcioclfplafkaaGreatG
end
section
namespace Go.Proofs.YtgcioclfplafkaaGreatG
theorem tS_min {a v b : Pt} (h1 : ky v < ky a) (h2 : ky v < ky b) : tS a v b = decide (0 < cross a v b) := by
 unfold tS
 rw [if_neg (by omega), if_neg (by omega)]
theorem tri_cS {a v b : Pt} (h1 : ky a ≠ ky v) (h2 : ky v ≠ ky b) (h3 : ky a ≠ ky b) (hX : 0 < cross a v b) : cS [a, v, b] = true := by
 have e1 : cross b a v = cross a v b := cross_rot b a v
 have e2 : cross v b a = cross a v b := (cross_rot a v b).symm
 show (tS b a v ^^ (below v b a ^^ false)) = true
 unfold tS below
 rw [e1, e2]
 rcases Int.lt_or_gt_of_ne h1 with g1 | g1 <;> rcases Int.lt_or_gt_of_ne h2 with g2 | g2 <;> rcases Int.lt_or_gt_of_ne h3 with g3 | g3
 all_goals (have n1 := nlt g1; have n2 := nlt g2; have n3 := nlt g3)
 all_goals (first | omega | skip)
 all_goals (simp [g1, g2, g3, n1, n2, n3, hX, show ¬ cross a v b < 0 by omega])
theorem snoc_of {l : List Pt} (h : l ≠ []) : ∃ c a, l = c ++ [a] := ⟨l.dropLast, l.getLast h, (List.dropLast_concat_getLast h).symm⟩
theorem cut {v b a : Pt} {C : List Pt} (hS : Sim v (b :: (C ++ [a]))) (hC : C ≠ []) (c0 : cS (v :: b :: (C ++ [a])) = true) (hX : 0 < cross a v b) (emp : ∀ z, z ∈ C → ¬tri a v b z) :
  (∀ {c d}, Eg v (b :: (C ++ [a])) c d → Same a b c d ∨ Ends a b c d) ∧ Sim b (C ++ [a]) ∧ cS (b :: (C ++ [a])) = true := by
 have hc := hS.cyc
 have hcnt := List.nodup_iff_count.1 hS.nd
 have hvb : Eg v (b :: (C ++ [a])) v b := hc.pth.1
 have hav : Eg v (b :: (C ++ [a])) a v := by
  have := hc.cl
  rw [show lst v (b :: (C ++ [a])) = a from lst_snoc a (b :: C) v] at this
  exact this
 have hvn : v ∉ b :: (C ++ [a]) := (List.nodup_cons.1 hS.nd).1
 have hch : ∀ {c d}, Eg v (b :: (C ++ [a])) c d → Same a b c d ∨ Ends a b c d := by
  intro c d hcd
  refine chord_out hS.pl hav hvb hX ?_ ?_ hcd
  ·intro x hx
   rcases eg_first hvn rfl hx with e | e
   ·exact .inr e
   ·left; rw [e, lst_snoc]
  ·intro x x' hx hT
   have := hx.mem
   simp only [List.mem_cons, List.mem_append, List.mem_singleton] at this
   rcases this with e | e | e | e
   ·exact .inl e
   ·exact .inr (.inr e)
   ·exact absurd hT (emp x e)
   ·rcases e with e | e
    ·exact .inr (.inl e)
    ·cases e
 have hab : a ≠ b := by
  intro e
  have := hcnt a
  rw [e] at this
  simp only [List.count_cons, List.count_append, beq_self_eq_true, if_true] at this
  omega
 have hG := hS.pl.add hav hvb.symm hab hch
 have hG' : Plane (fun c d => Eg v (b :: (C ++ [a])) c d ∨ Same c d a b) := hG
 have hpth : Pth (fun c d => Eg v (b :: (C ++ [a])) c d ∨ Same c d a b) (b :: (C ++ [a])) := Pth.imp (fun _ _ k => .inl k) hc.pth.2
 have cyc : Cyc (fun c d => Eg v (b :: (C ++ [a])) c d ∨ Same c d a b) b (C ++ [a]) := by
  refine ⟨(List.nodup_cons.1 hS.nd).2, ?_, hpth, ?_⟩
  ·cases C with
   | nil => exact absurd rfl hC
   | cons _ _ => simp
  ·rw [lst_snoc]; exact .inr (.inl ⟨rfl, rfl⟩)
 refine ⟨hch, cyc.sim hG', ?_⟩
 obtain ⟨C', t, rfl⟩ := snoc_of hC
 have hl : lst b (C' ++ [t]) = t := lst_snoc t C' b
 have tm : t ∈ C' ++ [t] := by simp
 have hta : Eg v (b :: (C' ++ [t] ++ [a])) t a := by
  have h1 : Pth (Eg v (b :: (C' ++ [t] ++ [a]))) (b :: (C' ++ [t]) ++ [a]) := hc.pth.2
  rw [pth_snoc, hl] at h1
  exact h1.2
 have kav := hS.pl.kne hav hvb (hS.pl.ne hav)
 have kvb := hS.pl.kne hvb hvb.symm (hS.pl.ne hvb)
 have kab := hS.pl.kne hav hvb.symm hab
 have kta := hS.pl.kne hta hta.symm (hS.pl.ne hta)
 have tne : t ≠ v ∧ t ≠ b ∧ t ≠ a := by
  refine ⟨?_, ?_, ?_⟩
  ·intro e
   have := hcnt t
   rw [e] at this
   simp only [List.count_cons, List.count_append, beq_self_eq_true, if_true] at this
   omega
  ·intro e
   have := hcnt t
   rw [e] at this
   simp only [List.count_cons, List.count_append, beq_self_eq_true, if_true] at this
   omega
  ·intro e
   have := hcnt t
   rw [e] at this
   simp only [List.count_cons, List.count_append, beq_self_eq_true, if_true] at this
   omega
 have hin := tS_in (q := a) (t := t) (v := v) (b := b) hX (by
  rintro ⟨g1, g2⟩
  have e1 : cross b a t = cross a t b := cross_rot b a t
  have hn := emp t tm
  have g3 : cross v b t < 0 := by
   apply Classical.byContradiction
   intro hx
   exact hn ⟨g1, by omega, by omega⟩
  have e2 : cross v b a = cross a v b := (cross_rot a v b).symm
  have e3 : cross a t v = -cross a v t := cross_swap2 a t v
  have hm : Meet a t v b := meet_of (by omega) (by omega) g2 (by omega) (by omega)
  rcases hS.pl.ends hta.symm hvb with (⟨e, _⟩ | ⟨e, _⟩) | e
  ·exact hS.pl.ne hav e
  ·exact hab e
  ·exact e.apart (hS.pl.ne hav) hab tne.1 tne.2.1 hm) kta kav.symm kab.symm
 have th := theta (y := a) (z := b) (β := [v]) (α := C' ++ [t]) (π := [])
 have e1 : (([v] : List Pt) ++ [b]).headD a = v := rfl
 have e2 : (([] : List Pt) ++ [b]).headD a = b := rfl
 rw [e1, e2, hl] at th
 have s0 : cS (a :: ([v] ++ b :: (C' ++ [t]))) = true := by
  have e : b :: (C' ++ [t] ++ [a]) = (b :: (C' ++ [t])) ++ a :: [] := rfl
  have hS2 := hS
  have c02 := c0
  rw [e] at hS2 c02
  rw [hS2.rot.2] at c02
  exact c02
 have s1 : cS (a :: ([v] ++ b :: ([] : List Pt).reverse)) = true := tri_cS kav kvb kab hX
 have s2 : cS (a :: (([] : List Pt) ++ b :: (C' ++ [t]))) = cS (b :: (C' ++ [t] ++ [a])) := by
  have cyc2 : Cyc (fun c d => Eg v (b :: (C' ++ [t] ++ [a])) c d ∨ Same c d a b) a (b :: (C' ++ [t])) := by
   refine ⟨?_, by simp, ?_, ?_⟩
   ·rw [List.nodup_iff_count]
    intro x
    have := hcnt x
    simp only [List.count_cons, List.count_append, List.count_nil] at this ⊢
    omega
   ·refine ⟨.inr (.inl ⟨rfl, rfl⟩), ?_⟩
    have h1 : Pth (fun c d => Eg v (b :: (C' ++ [t] ++ [a])) c d ∨ Same c d a b) (b :: (C' ++ [t]) ++ [a]) := hpth
    rw [pth_snoc] at h1
    exact h1.1
   ·rw [show lst a (b :: (C' ++ [t])) = t from lst_snoc t (b :: C') a]
    exact .inl hta
  exact cS_step hG' cyc2
 rw [s0, s1, s2] at th
 revert th hin
 generalize tS t a v = A
 generalize tS b a v = B
 generalize tS t a b = B2
 generalize cS (b :: (C' ++ [t] ++ [a])) = C
 revert A B B2 C
 decide
def Good (L : List Pt) : Prop := ∃ q l, L = q :: l ∧ Sim q l ∧ cS L = true
theorem Good.rot {x y : List Pt} (h : Good (x ++ y)) : Good (y ++ x) := by
 cases x with
 | nil => simpa using h
 | cons q x =>
  cases y with
  | nil => simpa using h
  | cons b y =>
   obtain ⟨q', l, e, hS, hc⟩ := h
   simp only [List.cons_append, List.cons.injEq] at e
   obtain ⟨rfl, rfl⟩ := e
   exact ⟨b, y ++ q :: x, rfl, hS.rot.1, by
    have := hS.rot.2
    show cS (b :: (y ++ q :: x)) = true
    rw [← this]; exact hc⟩
theorem Good.cut {v b a : Pt} {C : List Pt} (h : Good (v :: b :: (C ++ [a]))) (hC : C ≠ []) (hX : 0 < cross a v b) (emp : ∀ z, z ∈ C → ¬tri a v b z) : Good (b :: (C ++ [a])) := by
 obtain ⟨q, l, e, hS, hc⟩ := h
 simp only [List.cons.injEq] at e
 obtain ⟨rfl, rfl⟩ := e
 have := Go.Proofs.YtgcioclfplafkaaGreatG.cut hS hC hc hX emp
 exact ⟨b, C ++ [a], rfl, this.2.1, this.2.2⟩
theorem ear_of : ∀ (n : Nat) (L : List Pt), L.length ≤ n → Good L → ∃ x a y b z, L = x ++ a :: y :: b :: z ∧ 0 < cross a y b ∧ ∀ p, p ∈ x ++ z → ¬tri a y b p := by
 intro n
 induction n with
 | zero =>
  rintro L hn ⟨q, l, rfl, _, _⟩
  simp at hn
 | succ n ih =>
  intro L hn hG
  have hne : ∃ z, z ∈ L ∧ True := by
   obtain ⟨q, l, rfl, _, _⟩ := hG
   exact ⟨q, by simp, trivial⟩
  obtain ⟨v, hv, _, hmin⟩ := argmax (fun p => -ky p) (fun _ => True) L hne
  obtain ⟨x, y, rfl⟩ := List.append_of_mem hv
  have hR : Good (v :: (y ++ x)) := by simpa using hG.rot (x := x) (y := v :: y)
  obtain ⟨v', M, e, hS, hc⟩ := hR
  simp only [List.cons.injEq] at e
  obtain ⟨rfl, rfl⟩ := e
  have hlen := hS.len
  have hmin' : ∀ p, p ∈ y ++ x → ky v ≤ ky p := by
   intro p hp
   have := hmin p (by simp at hp ⊢; rcases hp with h | h <;> simp [h]) trivial
   omega
  have hcnt := List.nodup_iff_count.1 hS.nd
  generalize hM : y ++ x = M at *
  cases M with
  | nil => simp at hlen
  | cons b M =>
   have hM2 : M ≠ [] := by intro e; subst e; simp at hlen
   obtain ⟨C, a, rfl⟩ := snoc_of hM2
   have hcy := hS.cyc
   have hvb : Eg v (b :: (C ++ [a])) v b := hcy.pth.1
   have hav : Eg v (b :: (C ++ [a])) a v := by
    have := hcy.cl
    rw [show lst v (b :: (C ++ [a])) = a from lst_snoc a (b :: C) v] at this
    exact this
   have kav := hS.pl.kne hav hvb (hS.pl.ne hav)
   have kvb := hS.pl.kne hvb hvb.symm (hS.pl.ne hvb)
   have ka := hmin' a (by simp)
   have kb := hmin' b (by simp)
   have hX : 0 < cross a v b := by
    have h1 : (tS (lst b (C ++ [a])) v b ^^ cntB v (b :: (C ++ [a]))) = true := hc
    rw [lst_snoc, cntB_min hmin', Bool.xor_false, tS_min (by omega) (by omega), decide_eq_true_eq] at h1
    exact h1
   by_cases hC : C = []
   ·-- a triangle
    subst hC
    cases x with
    | nil =>
     simp only [List.append_nil] at hM
     subst hM
     exact ⟨[], v, b, a, [], rfl, by rw [← cross_rot]; exact hX, by simp⟩
    | cons x0 x =>
     cases y with
     | nil =>
      simp only [List.nil_append] at hM
      rw [hM]
      exact ⟨[], b, a, v, [], rfl, by rw [cross_rot]; exact hX, by simp⟩
     | cons y0 y =>
      simp only [List.cons_append, List.nil_append, List.cons.injEq] at hM
      obtain ⟨rfl, h2⟩ := hM
      have : y = [] ∧ x = [] ∧ x0 = a := by
       cases y with
       | nil => simp at h2; exact ⟨rfl, h2.2, h2.1⟩
       | cons _ y => cases y <;> simp at h2
      obtain ⟨rfl, rfl, rfl⟩ := this
      exact ⟨[], x0, v, y0, [], rfl, hX, by simp⟩
   ·by_cases hz : ∃ z, z ∈ C ∧ tri a v b z
    ·-- a chord from v to the farthest one
     obtain ⟨z, hzC, hzT, hmx⟩ := argmax (fun p => cross b a p) (fun p => tri a v b p) C hz
     have hzm : z ∈ v :: b :: (C ++ [a]) := by simp [hzC]
     obtain ⟨z', hzz⟩ := Eg.has hzm
     obtain ⟨K1, K2, rfl⟩ := List.append_of_mem hzC
     have zne : z ≠ v ∧ z ≠ a ∧ z ≠ b := by
      refine ⟨?_, ?_, ?_⟩
      ·intro e
       have := hcnt z
       rw [e] at this
       simp only [List.count_cons, List.count_append, beq_self_eq_true, if_true] at this
       omega
      ·intro e
       have := hcnt z
       rw [e] at this
       simp only [List.count_cons, List.count_append, beq_self_eq_true, if_true] at this
       omega
      ·intro e
       have := hcnt z
       rw [e] at this
       simp only [List.count_cons, List.count_append, beq_self_eq_true, if_true] at this
       omega
     obtain ⟨hMu, hLa⟩ := inner_pos hS.pl hav hvb hX hzz hzT zne.1 zne.2.1 zne.2.2
     have hch : ∀ {c d}, Eg v (b :: (K1 ++ z :: K2 ++ [a])) c d → Same v z c d ∨ Ends v z c d := by
      intro c d hcd
      refine chord_in hS.pl hav hvb hX hzz hMu hLa hzT.2.2 ?_ hcd
      intro p p' hp hpT n1 n2 n3
      have := hp.mem
      rw [List.mem_cons, List.mem_cons, List.mem_append, List.mem_singleton] at this
      rcases this with e | e | e | e
      ·exact absurd e n1
      ·exact absurd e n3
      ·exact hmx p e hpT
      ·exact absurd e n2
     have hG' := hS.pl.add (p := v) (q := z) hvb hzz (Ne.symm zne.1) hch
     have hP : Plane (fun c d => Eg v (b :: (K1 ++ z :: K2 ++ [a])) c d ∨ Same c d v z) := hG'
     have eM : b :: (K1 ++ z :: K2 ++ [a]) = (b :: K1) ++ z :: (K2 ++ [a]) := by simp
     have hp : Pth (Eg v (b :: (K1 ++ z :: K2 ++ [a]))) ((v :: b :: K1) ++ z :: (K2 ++ [a])) := by
      have := hcy.pth
      rw [show (v :: b :: K1) ++ z :: (K2 ++ [a]) = v :: b :: (K1 ++ z :: K2 ++ [a]) by simp]
      exact this
     rw [pth_app] at hp
     have up : ∀ c d, Eg v (b :: (K1 ++ z :: K2 ++ [a])) c d → (Eg v (b :: (K1 ++ z :: K2 ++ [a])) c d ∨ Same c d v z) := fun c d k => .inl k
     have kzv := hS.pl.kne hzz hvb zne.1
     have kz := hmin' z (by rw [eM]; simp)
     have s1 : cS (v :: ((b :: K1) ++ [z])) = true := by
      show (tS (lst b (K1 ++ [z])) v b ^^ cntB v (b :: (K1 ++ [z]))) = true
      rw [lst_snoc, cntB_min (fun p hp => hmin' p (by rw [eM]; simp at hp ⊢; rcases hp with h | h | h <;> simp [h])), Bool.xor_false, tS_min (by omega) (by omega), decide_eq_true_eq, cross_rot]
      exact hLa
     have s2 : cS (v :: (z :: (K2 ++ [a]))) = true := by
      show (tS (lst z (K2 ++ [a])) v z ^^ cntB v (z :: (K2 ++ [a]))) = true
      rw [lst_snoc, cntB_min (fun p hp => hmin' p (by rw [eM]; simp at hp ⊢; rcases hp with h | h | h <;> simp [h])), Bool.xor_false, tS_min (by omega) (by omega), decide_eq_true_eq]
      exact hMu
     have cy1 : Cyc (fun c d => Eg v (b :: (K1 ++ z :: K2 ++ [a])) c d ∨ Same c d v z) v ((b :: K1) ++ [z]) := by
      refine ⟨?_, by simp, Pth.imp up hp.1, ?_⟩
      ·rw [List.nodup_iff_count]
       intro p
       have := hcnt p
       simp only [List.count_cons, List.count_append, List.count_nil] at this ⊢
       omega
      ·rw [lst_snoc]; exact .inr (.inr ⟨rfl, rfl⟩)
     have cy2 : Cyc (fun c d => Eg v (b :: (K1 ++ z :: K2 ++ [a])) c d ∨ Same c d v z) v (z :: (K2 ++ [a])) := by
      refine ⟨?_, by simp, ⟨.inr (.inl ⟨rfl, rfl⟩), Pth.imp up hp.2⟩, ?_⟩
      ·rw [List.nodup_iff_count]
       intro p
       have := hcnt p
       simp only [List.count_cons, List.count_append, List.count_nil] at this ⊢
       omega
      ·rw [show lst v (z :: (K2 ++ [a])) = a from lst_snoc a (z :: K2) v]; exact .inl hav
     have s2' : cS (z :: ((K2 ++ [a]) ++ [v])) = true := by rw [← cS_step hP cy2]; exact s2
     have g1 : Good (v :: ((b :: K1) ++ [z])) := ⟨v, _, rfl, cy1.sim hP, s1⟩
     have g2 : Good (z :: ((K2 ++ [a]) ++ [v])) := ⟨z, _, rfl, cy2.rot.sim hP, s2'⟩
     have hnM : (x ++ v :: y).length = (b :: (K1 ++ z :: K2 ++ [a])).length + 1 := by
      rw [← hM]; simp; omega
     have fin : ∀ (p q : Pt) (E D u w : List Pt), u ++ (p :: (E ++ [q])) ++ w = x ++ v :: y → (∀ r, r ∈ u ++ w ↔ r ∈ D) → D ≠ [] → Sim p (E ++ q :: D) → cS (p :: (E ++ q :: D)) = true → cS (q :: (D ++ [p])) = true → Good (p :: (E ++ [q])) → (p :: (E ++ [q])).length ≤ n →
       (∀ {c d}, Eg p (E ++ q :: D) c d → Same p q c d ∨ Ends p q c d) → ∃ x1 a1 y1 b1 z1, x ++ v :: y = x1 ++ a1 :: y1 :: b1 :: z1 ∧ 0 < cross a1 y1 b1 ∧ ∀ r, r ∈ x1 ++ z1 → ¬tri a1 y1 b1 r := by
      intro p q E D u w hL hD hDn hSp c0 c2 hg hle hchp
      obtain ⟨x1, a1, y1, b1, z1, e, hX1, hemp⟩ := ih _ hle hg
      obtain ⟨_, _, e2, hg2, c1⟩ := hg
      clear e2
      refine ⟨u ++ x1, a1, y1, b1, z1 ++ w, ?_, hX1, ?_⟩
      ·rw [← hL, e]; simp
      ·-- the part as p :: (C1 ++ y1 :: (C2 ++ [q]))
       have hx : ∃ C1, x1 ++ [a1] = p :: C1 := by
        cases x1 with
        | nil => simp only [List.nil_append, List.cons.injEq] at e; exact ⟨[], by rw [e.1]; rfl⟩
        | cons p' x1 => simp only [List.cons_append, List.cons.injEq] at e; exact ⟨x1 ++ [a1], by rw [e.1]; rfl⟩
       obtain ⟨C1, hC1⟩ := hx
       have hz : ∃ C2, b1 :: z1 = C2 ++ [q] := by
        have h1 : b1 :: z1 ≠ [] := by simp
        obtain ⟨C2, q', h2⟩ := snoc_of h1
        have h3 : (p :: E) ++ [q] = (x1 ++ a1 :: y1 :: C2) ++ [q'] := by
         have : (p :: E) ++ [q] = x1 ++ a1 :: y1 :: (C2 ++ [q']) := by rw [← h2]; exact e
         rw [this]; simp
        have h4 := List.append_inj' h3 rfl
        have h5 : q = q' := by simpa using h4.2
        subst h5
        exact ⟨C2, h2⟩
       obtain ⟨C2, hC2⟩ := hz
       have hE : E = C1 ++ y1 :: C2 := by
        have h1 : p :: (E ++ [q]) = (x1 ++ [a1]) ++ y1 :: (b1 :: z1) := by rw [e]; simp
        rw [hC1, hC2] at h1
        have h2 : (p :: E) ++ [q] = (p :: (C1 ++ y1 :: C2)) ++ [q] := by rw [show (p :: E) ++ [q] = p :: (E ++ [q]) from rfl, h1]; simp
        have h3 := (List.append_inj' h2 rfl).1
        exact (List.cons.inj h3).2
       subst hE
       have ea : lst p C1 = a1 := by
        have := congrArg (lst p) hC1
        rw [lst_snoc] at this
        exact this.symm
       have eb : (C2 ++ [q]).headD y1 = b1 := by rw [← hC2]; rfl
       have eS : C1 ++ y1 :: C2 ++ q :: D = C1 ++ y1 :: (C2 ++ q :: D) := by simp
       have eS1 : p :: (C1 ++ y1 :: C2 ++ [q]) = p :: (C1 ++ y1 :: (C2 ++ [q])) := by simp
       rw [eS] at hSp c0
       have hs := sep (p := p) (y := y1) (q := q) (C1 := C1) (C2 := C2) (D := D) hSp hDn (fun {c d} k => hchp (by rw [eS]; exact k)) c0 (by rw [← eS1, e]; rw [e] at c1; exact c1) c2 (by rw [ea, eb]; exact hX1) (by
        rw [ea, eb]
        intro r hr hT
        rw [← eS1, e] at hr
        simp only [List.mem_append, List.mem_cons] at hr
        rcases hr with k | k | k | k | k
        ·exact absurd hT (hemp r (by simp [k]))
        ·exact .inr (.inl k)
        ·exact .inl k
        ·exact .inr (.inr k)
        ·exact absurd hT (hemp r (by simp [k])))
       rw [ea, eb] at hs
       intro r hr
       rw [List.mem_append, List.mem_append, List.mem_append] at hr
       rcases hr with (k | k) | (k | k)
       ·exact hs r ((hD r).1 (by simp [k]))
       ·exact hemp r (by simp [k])
       ·exact hemp r (by simp [k])
       ·exact hs r ((hD r).1 (by simp [k]))
     rw [eM] at hM
     rcases List.append_eq_append_iff.1 hM with ⟨s, h1, h2⟩ | ⟨s, h1, h2⟩
     ·-- z lies ahead of v
      have hyx : s ++ z :: (K2 ++ [a]) = x := h2.symm
      refine fin z v (K2 ++ [a]) (b :: K1) s y ?_ ?_ (by simp) ?_ ?_ ?_ g2 ?_ ?_
      ·rw [← hyx]; simp
      ·intro r; rw [h1]; simp [Or.comm]
      ·have h3 := hS
       rw [eM] at h3
       exact h3.rot.1
      ·have h3 := hS
       have h4 := hc
       rw [eM] at h3 h4
       rw [h3.rot.2] at h4
       exact h4
      ·exact s1
      ·simp at hnM hn ⊢; omega
      ·intro c d k
       have h3 : Eg v (b :: (K1 ++ z :: K2 ++ [a])) c d := by rw [eM, eg_rot]; exact k
       rcases hch h3 with e | e
       ·left
        rcases e with ⟨e1, e2⟩ | ⟨e1, e2⟩
        ·exact .inr ⟨e2, e1⟩
        ·exact .inl ⟨e2, e1⟩
       ·exact .inr e.swl
     ·cases s with
      | nil =>
       simp only [List.append_nil, List.nil_append] at h1 h2
       refine fin z v (K2 ++ [a]) (b :: K1) [] y ?_ ?_ (by simp) ?_ ?_ ?_ g2 ?_ ?_
       ·rw [← h2]; simp
       ·intro r; rw [h1]; simp
       ·have h3 := hS
        rw [eM] at h3
        exact h3.rot.1
       ·have h3 := hS
        have h4 := hc
        rw [eM] at h3 h4
        rw [h3.rot.2] at h4
        exact h4
       ·exact s1
       ·simp at hnM hn ⊢; omega
       ·intro c d k
        have h3 : Eg v (b :: (K1 ++ z :: K2 ++ [a])) c d := by rw [eM, eg_rot]; exact k
        rcases hch h3 with e | e
        ·left
         rcases e with ⟨e1, e2⟩ | ⟨e1, e2⟩
         ·exact .inr ⟨e2, e1⟩
         ·exact .inl ⟨e2, e1⟩
        ·exact .inr e.swl
      | cons z0 s =>
       simp only [List.cons_append, List.cons.injEq] at h2
       obtain ⟨rfl, h2⟩ := h2
       refine fin v z (b :: K1) (K2 ++ [a]) x s ?_ ?_ (by simp) ?_ ?_ ?_ g1 ?_ ?_
       ·rw [h1]; simp
       ·intro r; rw [h2]; simp [Or.comm]
       ·rw [← eM]; exact hS
       ·rw [← eM]; exact hc
       ·exact s2'
       ·simp at hnM hn ⊢; omega
       ·intro c d k
        rw [← eM] at k
        exact hch k
    ·-- v is an ear
     have emp : ∀ z, z ∈ C → ¬tri a v b z := fun z h1 h2 => hz ⟨z, h1, h2⟩
     have nab : ∀ p, p ∈ C → p ≠ a ∧ p ≠ b := by
      intro p hp
      have h1 := List.count_pos_iff.2 hp
      refine ⟨?_, ?_⟩
      ·intro e
       have := hcnt p
       rw [e] at this h1
       simp only [List.count_cons, List.count_append, beq_self_eq_true, if_true] at this
       omega
      ·intro e
       have := hcnt p
       rw [e] at this h1
       simp only [List.count_cons, List.count_append, beq_self_eq_true, if_true] at this
       omega
     obtain ⟨hch, hSb, hcb⟩ := cut hS hC hc hX emp
     have gB : Good (b :: (C ++ [a])) := ⟨b, _, rfl, hSb, hcb⟩
     have hnM : (x ++ v :: y).length = (b :: (C ++ [a])).length + 1 := by rw [← hM]; simp; omega
     have fin : ∃ x1 a1 y1 b1 z1, b :: (C ++ [a]) = x1 ++ a1 :: y1 :: b1 :: z1 ∧ 0 < cross a1 y1 b1 ∧ (∀ r, r ∈ x1 ++ z1 → ¬tri a1 y1 b1 r) ∧ ¬tri a1 y1 b1 v := by
      obtain ⟨x1, a1, y1, b1, z1, e, hX1, hemp⟩ := ih _ (by simp at hnM hn ⊢; omega) gB
      refine ⟨x1, a1, y1, b1, z1, e, hX1, hemp, ?_⟩
      have hx : ∃ C1, x1 ++ [a1] = b :: C1 := by
       cases x1 with
       | nil => simp only [List.nil_append, List.cons.injEq] at e; exact ⟨[], by rw [e.1]; rfl⟩
       | cons p' x1 => simp only [List.cons_append, List.cons.injEq] at e; exact ⟨x1 ++ [a1], by rw [e.1]; rfl⟩
      obtain ⟨C1, hC1⟩ := hx
      have hz : ∃ C2, b1 :: z1 = C2 ++ [a] := by
       have h1 : b1 :: z1 ≠ [] := by simp
       obtain ⟨C2, q', h2⟩ := snoc_of h1
       have h3 : (b :: C) ++ [a] = (x1 ++ a1 :: y1 :: C2) ++ [q'] := by
        have : (b :: C) ++ [a] = x1 ++ a1 :: y1 :: (C2 ++ [q']) := by rw [← h2]; exact e
        rw [this]; simp
       have h4 := List.append_inj' h3 rfl
       have h5 : a = q' := by simpa using h4.2
       subst h5
       exact ⟨C2, h2⟩
      obtain ⟨C2, hC2⟩ := hz
      have hE : C = C1 ++ y1 :: C2 := by
       have h1 : b :: (C ++ [a]) = (x1 ++ [a1]) ++ y1 :: (b1 :: z1) := by rw [e]; simp
       rw [hC1, hC2] at h1
       have h2 : (b :: C) ++ [a] = (b :: (C1 ++ y1 :: C2)) ++ [a] := by rw [show (b :: C) ++ [a] = b :: (C ++ [a]) from rfl, h1]; simp
       have h3 := (List.append_inj' h2 rfl).1
       exact (List.cons.inj h3).2
      subst hE
      have ea : lst b C1 = a1 := by
       have := congrArg (lst b) hC1
       rw [lst_snoc] at this
       exact this.symm
      have eb : (C2 ++ [a]).headD y1 = b1 := by rw [← hC2]; rfl
      have eS1 : b :: (C1 ++ y1 :: C2 ++ [a]) = b :: (C1 ++ y1 :: (C2 ++ [a])) := by simp
      have eS2 : (C1 ++ y1 :: C2 ++ [a]) ++ [v] = C1 ++ y1 :: (C2 ++ a :: [v]) := by simp
      have hr := cS_rot hS.pl [] v b (C1 ++ y1 :: C2 ++ [a]) hS.cyc
      have hSv : Sim b (C1 ++ y1 :: (C2 ++ a :: [v])) := by
       have := hr.1.sim hS.pl
       rw [eS2] at this
       exact this
      have hcv : cS (b :: (C1 ++ y1 :: (C2 ++ a :: [v]))) = true := by
       have h1 := hr.2
       rw [eS2] at h1
       rw [← h1]; exact hc
      have hs := sep (p := b) (y := y1) (q := a) (C1 := C1) (C2 := C2) (D := [v]) hSv (by simp) (fun {c d} k => by
        have h3 : Eg v (b :: (C1 ++ y1 :: C2 ++ [a])) c d := by
         have := (eg_rot (q := v) (b := b) (x := []) (y := C1 ++ y1 :: C2 ++ [a]) (c := c) (d := d)).2 (by rw [eS2]; exact k)
         exact this
        rcases hch h3 with e | e
        ·left
         rcases e with ⟨e1, e2⟩ | ⟨e1, e2⟩
         ·exact .inr ⟨e2, e1⟩
         ·exact .inl ⟨e2, e1⟩
        ·exact .inr e.swl) hcv (by rw [← eS1]; exact hcb) (tri_cS kav kvb (hS.pl.kne hav hvb.symm (by
         intro e
         have := hcnt a
         rw [e] at this
         simp only [List.count_cons, List.count_append, beq_self_eq_true, if_true] at this
         omega)) hX) (by rw [ea, eb]; exact hX1) (by
       rw [ea, eb]
       intro r hr hT
       rw [← eS1, e] at hr
       simp only [List.mem_append, List.mem_cons] at hr
       rcases hr with k | k | k | k | k
       ·exact absurd hT (hemp r (by simp [k]))
       ·exact .inr (.inl k)
       ·exact .inl k
       ·exact .inr (.inr k)
       ·exact absurd hT (hemp r (by simp [k])))
      rw [ea, eb] at hs
      exact hs v (by simp)
     obtain ⟨x1, a1, y1, b1, z1, e, hX1, hemp, hv1⟩ := fin
     cases x with
     | nil =>
      simp only [List.append_nil] at hM
      refine ⟨v :: x1, a1, y1, b1, z1, by rw [hM, e]; rfl, hX1, fun r hr => ?_⟩
      simp only [List.cons_append, List.mem_cons] at hr
      rcases hr with k | k
      ·subst k; exact hv1
      ·exact hemp r k
     | cons x0 x =>
      cases y with
      | nil =>
       simp only [List.nil_append] at hM
       refine ⟨x1, a1, y1, b1, z1 ++ [v], by rw [hM, e]; simp, hX1, fun r hr => ?_⟩
       rw [← List.append_assoc, List.mem_append, List.mem_singleton] at hr
       rcases hr with k | k
       ·exact hemp r k
       ·subst k; exact hv1
      | cons y0 y =>
       obtain ⟨x', a', hx'⟩ := snoc_of (show x0 :: x ≠ [] by simp)
       rw [hx'] at hM ⊢
       simp only [List.cons_append, List.cons.injEq] at hM
       obtain ⟨rfl, h2⟩ := hM
       have h3 := List.append_inj' (show (y ++ x') ++ [a'] = C ++ [a] by rw [← h2]; simp) rfl
       have h4 : a' = a := by simpa using h3.2
       subst h4
       refine ⟨x', a', v, y0, y, by simp, hX, fun r hr => emp r ?_⟩
       rw [← h3.1]
       simp at hr ⊢
       exact hr.symm
end Go.Proofs.YtgcioclfplafkaaGreatG
end
section
namespace Go.Proofs.YtgcioclfplafkaaGreatG
def tm (a b : Pt) : Int := a.1 * b.2 - a.2 * b.1
def sumc : List Pt → Int
 | a :: b :: l => tm a b + sumc (b :: l)
 | _ => 0
def dbl : List Pt → Int
 | q :: l => sumc (q :: l ++ [q])
 | [] => 0
theorem sumc_app (v : Pt) (w : List Pt) : ∀ u : List Pt, sumc (u ++ v :: w) = sumc (u ++ [v]) + sumc (v :: w)
 | [] => by show sumc (v :: w) = 0 + sumc (v :: w); omega
 | [a] => by show tm a v + sumc (v :: w) = (tm a v + 0) + sumc (v :: w); omega
 | a :: b :: u => by
  have := sumc_app v w (b :: u)
  show tm a b + sumc (b :: u ++ v :: w) = (tm a b + sumc (b :: u ++ [v])) + sumc (v :: w)
  omega
theorem sumc_snoc (z : Pt) (l : List Pt) (a : Pt) : sumc (a :: l ++ [z]) = sumc (a :: l) + tm (lst a l) z := by
 induction l generalizing a with
 | nil => show tm a z + 0 = 0 + tm a z; omega
 | cons b l ih =>
  show tm a b + sumc (b :: l ++ [z]) = (tm a b + sumc (b :: l)) + tm (lst b l) z
  rw [ih]; omega
theorem tm_anti (a b : Pt) : tm a b = -tm b a := by unfold tm; grind
theorem dbl_rot (x y : List Pt) : dbl (x ++ y) = dbl (y ++ x) := by
 cases x with
 | nil => simp
 | cons q x =>
  cases y with
  | nil => simp
  | cons b y =>
   show sumc (q :: (x ++ b :: y) ++ [q]) = sumc (b :: (y ++ q :: x) ++ [b])
   have e1 : q :: (x ++ b :: y) ++ [q] = (q :: x) ++ b :: (y ++ [q]) := by simp
   have e2 : b :: (y ++ q :: x) ++ [b] = (b :: y) ++ q :: (x ++ [b]) := by simp
   rw [e1, e2, sumc_app, sumc_app q]
   show sumc (q :: x ++ [b]) + sumc (b :: y ++ [q]) = sumc (b :: y ++ [q]) + sumc (q :: x ++ [b])
   omega
theorem dbl_cut (v b a : Pt) (C : List Pt) : dbl (v :: b :: (C ++ [a])) = dbl (b :: (C ++ [a])) + cross a v b := by
 have l1 : ∀ c : Pt, lst c (C ++ [a]) = a := fun c => lst_snoc a C c
 have e1 : dbl (v :: b :: (C ++ [a])) = tm v b + (sumc (b :: (C ++ [a])) + tm a v) := by
  show tm v b + sumc (b :: (C ++ [a]) ++ [v]) = _
  rw [sumc_snoc, l1]
 have e2 : dbl (b :: (C ++ [a])) = sumc (b :: (C ++ [a])) + tm a b := by
  show sumc (b :: (C ++ [a]) ++ [b]) = _
  rw [sumc_snoc, l1]
 rw [e1, e2]
 unfold tm cross; grind
theorem sumc_rev : ∀ l : List Pt, sumc l.reverse = -sumc l
 | [] => rfl
 | [_] => rfl
 | a :: b :: l => by
  have := sumc_rev (b :: l)
  rw [List.reverse_cons] at this ⊢
  rw [List.reverse_cons, List.append_assoc]
  show sumc (l.reverse ++ b :: [a]) = _
  rw [sumc_app, this]
  show -sumc (b :: l) + (tm b a + 0) = -(tm a b + sumc (b :: l))
  rw [tm_anti b a]; omega
theorem dbl_rev (q : Pt) (l : List Pt) : dbl (q :: l.reverse) = -dbl (q :: l) := by
 show sumc (q :: l.reverse ++ [q]) = -sumc (q :: l ++ [q])
 rw [← sumc_rev]
 simp
theorem good_pos : ∀ (n : Nat) (L : List Pt), L.length ≤ n → Good L → 0 < dbl L := by
 intro n
 induction n with
 | zero =>
  rintro L hn ⟨q, l, rfl, _, _⟩
  simp at hn
 | succ n ih =>
  intro L hn hG
  obtain ⟨x, a, y, b, z, rfl, hX, emp⟩ := ear_of _ L (Nat.le_refl _) hG
  have e : x ++ a :: y :: b :: z = (x ++ [a]) ++ (y :: b :: z) := by simp
  have e2 : (y :: b :: z) ++ (x ++ [a]) = y :: b :: ((z ++ x) ++ [a]) := by simp
  rw [e] at hG ⊢
  rw [dbl_rot, e2]
  have hR := hG.rot
  rw [e2] at hR
  by_cases hC : z ++ x = []
  ·rw [hC]
   show 0 < tm y b + (tm b a + (tm a y + 0))
   have : cross a y b = tm y b + (tm b a + (tm a y + 0)) := by unfold tm cross; grind
   omega
  ·have hK := hR.cut hC hX (fun w hw => emp w (by simp at hw ⊢; exact hw.symm))
   have := ih _ (by simp at hn ⊢; omega) hK
   rw [dbl_cut]; omega
theorem Adj.rev {m : List Pt} {a b : Pt} (h : Adj m a b) : Adj m.reverse b a := by
 obtain ⟨x, y, rfl⟩ := h
 exact ⟨y.reverse, x.reverse, by simp⟩
theorem Eg.rev {q : Pt} {l : List Pt} {a b : Pt} (h : Eg q l.reverse a b) : Eg q l a b := by
 have e : (q :: l.reverse ++ [q]).reverse = q :: l ++ [q] := by simp
 rcases h with h | h
 ·have := h.rev; rw [e] at this; exact .inr this
 ·have := h.rev; rw [e] at this; exact .inl this
theorem Sim.rev {q : Pt} {l : List Pt} (h : Sim q l) : Sim q l.reverse :=
 ⟨h.pl.sub Eg.rev Eg.sy, by have := h.nd; simp only [List.nodup_cons, List.mem_reverse] at this ⊢; exact ⟨this.1, by unfold List.Nodup; rw [List.pairwise_reverse]; exact this.2.imp Ne.symm⟩, by simpa using h.len⟩
theorem cS_rev {q : Pt} {l : List Pt} (h : Sim q l) : cS (q :: l.reverse) = !cS (q :: l) := by
 have hc := h.cyc
 cases l with
 | nil => have := h.len; simp at this
 | cons m l =>
  obtain ⟨c, z, hz⟩ := snoc_of (l := m :: l) (by simp)
  cases c with
  | nil =>
   rw [hz] at h; have := h.len; simp at this
  | cons m' c =>
   obtain ⟨rfl, hl⟩ : m = m' ∧ l = c ++ [z] := by simpa using hz
   subst hl
   have hzq : Eg q (m :: (c ++ [z])) z q := by have := hc.cl; rw [show lst q (m :: (c ++ [z])) = z from lst_snoc z (m :: c) q] at this; exact this
   have hqm : Eg q (m :: (c ++ [z])) q m := hc.pth.1
   have nd := h.nd
   simp only [List.nodup_cons, List.mem_cons, List.mem_append, List.not_mem_nil, or_false, not_or] at nd
   have nzm : z ≠ m := fun e => nd.2.1.2 e.symm
   have nzq : z ≠ q := fun e => nd.1.2.2 e.symm
   have nqm : q ≠ m := nd.1.1
   have k := tS_anti (a := z) (q := q) (b := m) (h.pl.kne hzq hqm nzq) (h.pl.kne (h.pl.sy hqm) hqm nqm.symm) (h.pl.spike hzq hqm nzm)
   have e1 : cS (q :: (m :: (c ++ [z])).reverse) = (tS m q z ^^ cntB q (m :: (c ++ [z]))) := by
    have er : (m :: (c ++ [z])).reverse = z :: (c.reverse ++ [m]) := by simp
    rw [er]
    show (tS (lst z (c.reverse ++ [m])) q z ^^ cntB q (z :: (c.reverse ++ [m]))) = _
    rw [lst_snoc, ← er, cntB_rev]
   have e2 : cS (q :: m :: (c ++ [z])) = (tS z q m ^^ cntB q (m :: (c ++ [z]))) := by
    show (tS (lst m (c ++ [z])) q m ^^ cntB q (m :: (c ++ [z]))) = _
    rw [lst_snoc]
   rw [e1, e2, k]
   cases tS m q z <;> cases cntB q (m :: (c ++ [z])) <;> rfl
theorem sim_good {q : Pt} {l : List Pt} (h : Sim q l) (ha : 0 < dbl (q :: l)) : Good (q :: l) := by
 cases hc : cS (q :: l) with
 | true => exact ⟨q, l, rfl, h, hc⟩
 | false =>
  exfalso
  have := good_pos _ _ (Nat.le_refl _) (⟨q, l.reverse, rfl, h.rev, by rw [cS_rev h, hc]; rfl⟩ : Good (q :: l.reverse))
  rw [dbl_rev] at this
  omega
theorem Adj.map {φ : Pt → Pt} {m : List Pt} {a b : Pt} (h : Adj (m.map φ) a b) : ∃ a' b', a = φ a' ∧ b = φ b' ∧ Adj m a' b' := by
 obtain ⟨x, y, h⟩ := h
 obtain ⟨l1, l2, rfl, rfl, h2⟩ := List.map_eq_append_iff.1 h
 obtain ⟨a', l3, rfl, rfl, h3⟩ := List.map_eq_cons_iff.1 h2
 obtain ⟨b', l4, rfl, rfl, h4⟩ := List.map_eq_cons_iff.1 h3
 exact ⟨a', b', rfl, rfl, l1, l4, rfl⟩
theorem Eg.map {φ : Pt → Pt} {q : Pt} {l : List Pt} {a b : Pt} (h : Eg (φ q) (l.map φ) a b) : ∃ a' b', a = φ a' ∧ b = φ b' ∧ Eg q l a' b' := by
 have e : φ q :: l.map φ ++ [φ q] = (q :: l ++ [q]).map φ := by simp
 unfold Eg at h
 rw [e] at h
 rcases h with h | h
 ·obtain ⟨a', b', h1, h2, h3⟩ := h.map; exact ⟨a', b', h1, h2, .inl h3⟩
 ·obtain ⟨a', b', h1, h2, h3⟩ := h.map; exact ⟨b', a', h2, h1, .inr h3⟩
structure Mv (φ : Pt → Pt) (D : Int) : Prop where
 inj : ∀ a b, φ a = φ b → a = b
 ats : ∀ {a b c d s t u v}, At (φ a) (φ b) (φ c) (φ d) s t u v → At a b c d s t u v
 tms : ∃ h : Pt → Int, ∀ a b, tm (φ a) (φ b) = D * tm a b + h b - h a
theorem Sim.map {φ : Pt → Pt} {D : Int} (hm : Mv φ D) {q : Pt} {l : List Pt} (h : Sim q l) (hk : ∀ a ∈ q :: l, ∀ b ∈ q :: l, ky (φ a) = ky (φ b) → φ a = φ b) : Sim (φ q) (l.map φ) := by
 refine ⟨⟨Eg.sy, ?_, ?_, ?_⟩, ?_, by simpa using h.len⟩
 ·intro a b k e
  obtain ⟨a', b', rfl, rfl, k'⟩ := k.map
  exact h.pl.ne k' (hm.inj _ _ e)
 ·intro a b c d k1 k2 e
  obtain ⟨a', c', rfl, rfl, k1'⟩ := k1.map
  obtain ⟨b', d', rfl, rfl, k2'⟩ := k2.map
  exact hk _ k1'.mem _ k2'.mem e
 ·intro a b c d k1 k2
  obtain ⟨a', b', rfl, rfl, k1'⟩ := k1.map
  obtain ⟨c', d', rfl, rfl, k2'⟩ := k2.map
  rcases h.pl.ends k1' k2' with (⟨e1, e2⟩ | ⟨e1, e2⟩) | e
  ·exact .inl (.inl ⟨by rw [e1], by rw [e2]⟩)
  ·exact .inl (.inr ⟨by rw [e1], by rw [e2]⟩)
  ·exact .inr fun s t u v k => e s t u v (hm.ats k)
 ·have : φ q :: l.map φ = (q :: l).map φ := rfl
  rw [this]
  have nd := h.nd
  unfold List.Nodup at nd ⊢
  rw [List.pairwise_map]
  exact nd.imp fun hne e => hne (hm.inj _ _ e)
theorem sumc_map {φ : Pt → Pt} {D : Int} {f : Pt → Int} (hf : ∀ a b, tm (φ a) (φ b) = D * tm a b + f b - f a) : ∀ (l : List Pt) (a : Pt), sumc ((a :: l).map φ) = D * sumc (a :: l) + f (lst a l) - f a
 | [], a => by show (0 : Int) = D * 0 + f a - f a; omega
 | b :: l, a => by
  have := sumc_map hf l b
  show tm (φ a) (φ b) + sumc ((b :: l).map φ) = D * (tm a b + sumc (b :: l)) + f (lst b l) - f a
  rw [this, hf, Int.mul_add]; omega
theorem dbl_map {φ : Pt → Pt} {D : Int} (hm : Mv φ D) (q : Pt) (l : List Pt) : dbl ((q :: l).map φ) = D * dbl (q :: l) := by
 obtain ⟨f, hf⟩ := hm.tms
 have := sumc_map hf (l ++ [q]) q
 rw [lst_snoc] at this
 have e : (q :: (l ++ [q])).map φ = φ q :: l.map φ ++ [φ q] := by simp
 rw [e] at this
 show sumc (φ q :: l.map φ ++ [φ q]) = D * sumc (q :: l ++ [q])
 rw [this]
 show D * sumc (q :: (l ++ [q])) + f q - f q = D * sumc (q :: l ++ [q])
 rw [show q :: l ++ [q] = q :: (l ++ [q]) from rfl]; omega
end Go.Proofs.YtgcioclfplafkaaGreatG
end

/- Triangles, distances; no condition. -/
import Derived.Test.YtgcioclfplafkaaGreatC03
set_option linter.all false
section
namespace Go.Proofs.YtgcioclfplafkaaGreatV
open Go Go.RowKit
def inT (a b c p : Pt') : Bool := decide (sg (cross a b p) ≥ 0) && (decide (sg (cross b c p) ≥ 0) && decide (sg (cross c a p) ≥ 0))
def pre (p : List Pt') (i : Nat) : Pt' := pt p ((i + p.length - 1) % p.length)
def nxt (p : List Pt') (i : Nat) : Pt' := pt p ((i + 1) % p.length)
def earN (p : List Pt') (i j : Nat) : Bool := (j != i) && ((j != (i + p.length - 1) % p.length) && ((j != (i + 1) % p.length) && inT (pre p i) (pt p i) (nxt p i) (pt p j)))
def earB (p : List Pt') (i : Nat) : Bool := (sg (cross (pre p i) (pt p i) (nxt p i)) == 1) && !((List.range' 0 p.length).any (earN p i))
def ear1 (p : List Pt') : Option Nat := (List.range' 0 p.length).find? (earB p)
def tri3 (p : List Pt') (i : Nat) : List Pt' := [pre p i, pt p i, nxt p i]
def tris : Nat → List Pt' → List (List Pt')
 | 0, p => [p]
 | n + 1, p => if 3 < p.length then (match ear1 p with | some i => tri3 p i :: tris n (p.eraseIdx i) | none => []) else [p]
theorem tris_some {n : Nat} {p : List Pt'} (h3 : 3 < p.length) {i : Nat} (hi : ear1 p = some i) : tris (n + 1) p = tri3 p i :: tris n (p.eraseIdx i) := by
 show (if _ then _ else _) = _
 rw [if_pos h3, hi]
theorem tris_none {n : Nat} {p : List Pt'} (h3 : ¬3 < p.length) : tris (n + 1) p = [p] := if_neg h3
def Ears : Nat → List Pt' → Prop
 | 0, p => p.length ≤ 3
 | n + 1, p => p.length ≤ 3 ∨ ∃ i, ear1 p = some i ∧ Ears n (p.eraseIdx i)
theorem erase_ok {p : List Pt'} (hp : p.all okP = true) (i : Nat) : (p.eraseIdx i).all okP = true :=
 List.all_eq_true.2 fun x hx => List.all_eq_true.1 hp x (List.mem_of_mem_eraseIdx hx)
theorem ear1_lt {p : List Pt'} {i : Nat} (h : ear1 p = some i) : i < p.length ∧ earB p i = true := by
 unfold ear1 at h
 have h1 := List.mem_of_find?_eq_some h
 exact ⟨by have := List.mem_range'_1.1 h1; omega, List.find?_some h⟩
theorem find_range (P : Nat → Bool) {i : Nat} : ∀ (d s : Nat), (List.range' s (d + 1)).find? P = some i → (match (List.range' s d).find? P with | some j => j | none => s + d) = i
 | 0, s, h => by
  simp only [List.range'_succ, List.range'_zero, List.find?_cons, List.find?_nil] at h
  cases hP : P s with
  | true => rw [hP] at h; simpa using h
  | false => rw [hP] at h; simp at h
 | d + 1, s, h => by
  rw [List.range'_succ, List.find?_cons] at h
  rw [List.range'_succ, List.find?_cons]
  cases hP : P s with
  | true => rw [hP] at h; simpa using h
  | false =>
   rw [hP] at h
   have := find_range P d (s + 1) h
   simp only
   rw [← this, show s + (d + 1) = s + 1 + d by omega]
section
variable {k : Nat}
theorem inTri_eq {a b c q : Pt'} (ha : okP a = true) (hb : okP b = true) (hc : okP c = true) (hq : okP q = true) : impl_inTriangle k (a.1, a.2, b.1, b.2, c.1, c.2, q.1, q.2) = some (inT a b c q) := by
 unfold impl_inTriangle inT
 simp only [side_eq ha hb hq, side_eq hb hc hq, side_eq hc ha hq, Option.bind_some]
 cases decide (sg (cross a b q) ≥ 0) <;> cases decide (sg (cross b c q) ≥ 0) <;> rfl
theorem l04In_eq {a b c q : Pt'} (ha : okP a = true) (hb : okP b = true) (hc : okP c = true) (hq : okP q = true) : spec_l04In k (a.1, a.2, b.1, b.2, c.1, c.2, q.1, q.2) = some (inT a b c q) := by
 unfold spec_l04In inT
 simp only [l02Side_eq ha hb hq, l02Side_eq hb hc hq, l02Side_eq hc ha hq, Option.bind_some]
 cases decide (sg (cross a b q) ≥ 0) <;> cases decide (sg (cross b c q) ≥ 0) <;> rfl
theorem prv {i n : Nat} (h : i < n) (hn : n ≤ 1000) : Int.tmod (w64 ((w64 ((i : Int) + (n : Int))) - 1)) (n : Int) = (((i + n - 1) % n : Nat) : Int) := by
 rw [w64_id (x := (i : Int) + (n : Int)) (by omega) (by omega), w64_id (by omega) (by omega), show (i : Int) + (n : Int) - 1 = ((i + n - 1 : Nat) : Int) by omega, tm]
theorem nx {i n : Nat} (h : i < n) (hn : n ≤ 1000) : Int.tmod (w64 ((i : Int) + 1)) (n : Int) = (((i + 1) % n : Nat) : Int) := by
 rw [w64_s h (by omega), tm]
theorem and3 (a b c d : Bool) : (bif a then (bif b then (bif c then some d else some false) else some false) else some false : Option Bool) = some (a && (b && (c && d))) := by cases a <;> cases b <;> cases c <;> rfl
theorem ear_impl {p : List Pt'} (hp : p.all okP = true) (hl : p.length ≤ 24) {i : Nat} (hi : i < p.length) (hk : 1048577 < k) : impl_ear k (p, (i : Int)) = some (earB p i) := by
 have hm1 : (i + p.length - 1) % p.length < p.length := Nat.mod_lt _ (by omega)
 have hm2 : (i + 1) % p.length < p.length := Nat.mod_lt _ (by omega)
 have k1 := pt_ok hp hm1
 have k2 := pt_ok hp hi
 have k3 := pt_ok hp hm2
 have e1 : p.getD ((i + p.length - 1) % p.length) (0, 0) = pre p i := rfl
 have e2 : p.getD i (0, 0) = pt p i := rfl
 have e3 : p.getD ((i + 1) % p.length) (0, 0) = nxt p i := rfl
 have h := runS (fun g j => impl_ear_6 k g ((i : Int), (p.length : Int), p, (p.length : Int), (j : Int), (pre p i).1, (pre p i).2, (pt p i).1, (pt p i).2, (nxt p i).1, (nxt p i).2)) p.length (earN p i) (fun _ => .inr false) (.inl ()) (fun g => by simp only [impl_ear_6, dge (Nat.le_refl _), cond_false])
  (fun g j hj => by
   have k4 := pt_ok hp hj
   have e4 : p.getD j (0, 0) = pt p j := rfl
   simp only [impl_ear_6, dlt hj, d0, cond_true, rd_nat, dfP, w64_s hj (by omega), deq0 (show 0 < p.length by omega), cond_false, prv hi (by omega), nx hi (by omega), bnec, e4]
   rw [inTri_eq (show okP (pre p i) = true from k1) k2 (show okP (nxt p i) = true from k3) k4]
   simp only [Option.bind_some, and3]
   rfl) p.length k 0 (by omega) (by omega)
 rw [find_any] at h
 simp only [z0] at h
 unfold impl_ear
 simp only [deq0 (show 0 < p.length by omega), cond_false, prv hi (by omega), nx hi (by omega), d0, dlt hi, dlt hm1, dlt hm2, cond_true, rd_nat, dfP, e1, e2, e3]
 rw [side_eq (show okP (pre p i) = true from k1) k2 (show okP (nxt p i) = true from k3), Option.bind_some, h]
 unfold earB
 cases hs : sg (cross (pre p i) (pt p i) (nxt p i)) == 1 with
 | false => rw [show (sg (cross (pre p i) (pt p i) (nxt p i)) != 1) = true by unfold bne; rw [hs]; rfl]; rfl
 | true =>
  rw [show (sg (cross (pre p i) (pt p i) (nxt p i)) != 1) = false by unfold bne; rw [hs]; rfl]
  cases (List.range' 0 p.length).any (earN p i) <;> rfl
theorem ear_spec {p : List Pt'} (hp : p.all okP = true) (hl : p.length ≤ 24) {i : Nat} (hi : i < p.length) (hk : 1048577 < k) : spec_l04Ear k (p, (i : Int)) = some (earB p i) := by
 have hm1 : (i + p.length - 1) % p.length < p.length := Nat.mod_lt _ (by omega)
 have hm2 : (i + 1) % p.length < p.length := Nat.mod_lt _ (by omega)
 have k1 := pt_ok hp hm1
 have k2 := pt_ok hp hi
 have k3 := pt_ok hp hm2
 have e1 : p.getD ((i + p.length - 1) % p.length) (0, 0) = pre p i := rfl
 have e2 : p.getD i (0, 0) = pt p i := rfl
 have e3 : p.getD ((i + 1) % p.length) (0, 0) = nxt p i := rfl
 have h := runS (fun g j => spec_l04Ear_8 k g (p, (i : Int), (p.length : Int), (j : Int), (pre p i).1, (pre p i).2, (pt p i).1, (pt p i).2, (nxt p i).1, (nxt p i).2)) p.length (earN p i) (fun _ => .inr false) (.inl ()) (fun g => by simp only [spec_l04Ear_8, dge (Nat.le_refl _), cond_false])
  (fun g j hj => by
   have k4 := pt_ok hp hj
   have e4 : p.getD j (0, 0) = pt p j := rfl
   simp only [spec_l04Ear_8, dlt hj, d0, cond_true, rd_nat, dfP, w64_s hj (by omega), deq0 (show 0 < p.length by omega), cond_false, prv hi (by omega), nx hi (by omega), bnec, e4]
   rw [l04In_eq (show okP (pre p i) = true from k1) k2 (show okP (nxt p i) = true from k3) k4]
   simp only [Option.bind_some, and3]
   rfl) p.length k 0 (by omega) (by omega)
 rw [find_any] at h
 simp only [z0] at h
 unfold spec_l04Ear
 simp only [deq0 (show 0 < p.length by omega), cond_false, prv hi (by omega), nx hi (by omega), d0, dlt hi, dlt hm1, dlt hm2, cond_true, rd_nat, dfP, e1, e2, e3]
 rw [l02Side_eq (show okP (pre p i) = true from k1) k2 (show okP (nxt p i) = true from k3), Option.bind_some, h]
 unfold earB
 cases hs : sg (cross (pre p i) (pt p i) (nxt p i)) == 1 with
 | false => rw [show (sg (cross (pre p i) (pt p i) (nxt p i)) != 1) = true by unfold bne; rw [hs]; rfl]; rfl
 | true =>
  rw [show (sg (cross (pre p i) (pt p i) (nxt p i)) != 1) = false by unfold bne; rw [hs]; rfl]
  cases (List.range' 0 p.length).any (earN p i) <;> rfl
theorem erase_len {p : List Pt'} {i : Nat} (h : i < p.length) : (p.eraseIdx i).length = p.length - 1 := List.length_eraseIdx_of_lt h
theorem tris_impl : ∀ (n g : Nat) (p : List Pt') (s : List (List Pt')), p.all okP = true → p.length ≤ 24 → p.length ≤ n + 3 → n < g → 1048577 < k → Ears n p → s.length + n ≤ 100 →
  ∃ ys q, impl_triangles_2 k g (s, p) = some (.inl (ys, q)) ∧ ys ++ [q] = s ++ tris n p ∧ ys.length ≤ 100
 | n, 0, _, _, _, _, _, hg, _, _, _ => by omega
 | 0, g + 1, p, s, _, _, hn, _, _, _, hs => by
  refine ⟨s, p, ?_, rfl, by omega⟩
  simp only [impl_triangles_2]
  rw [decide_eq_false (show ¬ (p.length : Int) > 3 by omega)]; rfl
 | n + 1, g + 1, p, s, hp, hl, hn, hg, hk, hE, hs => by
  simp only [impl_triangles_2]
  by_cases h3 : 3 < p.length
  ·rcases hE with hE | ⟨i, hi, hE⟩
   ·omega
   obtain ⟨hil, -⟩ := ear1_lt hi
   have h := runS (fun g j => impl_triangles_5 k g ((p.length : Int), (-1), (p.length : Int), (j : Int), s, p)) p.length (earB p) (fun j => ((p.length : Int), (j : Int), s, p)) ((p.length : Int), (-1), s, p) (fun g => by simp only [impl_triangles_5, dge (Nat.le_refl _), cond_false])
    (fun g j hj => by
     simp only [impl_triangles_5, dlt hj, cond_true, ear_impl hp hl hj hk, Option.bind_some, w64_s hj (show p.length ≤ 1000000000000 by omega)]) p.length k 0 (by omega) (by omega)
   rw [show (List.range' 0 p.length).find? (earB p) = some i from hi] at h
   simp only [z0] at h
   have hm1 : (i + p.length - 1) % p.length < p.length := Nat.mod_lt _ (by omega)
   have hm2 : (i + 1) % p.length < p.length := Nat.mod_lt _ (by omega)
   have hd1 : ∀ x : List Pt', decide ((s.length + [x].length) * 24 ≤ 140737488355328) = true := fun x => decide_eq_true (by simp only [List.length_cons, List.length_nil]; omega)
   have hd2 : ((i + 1 : Nat) : Int) ≤ (p.length : Int) := by omega
   rw [decide_eq_true (show (p.length : Int) > 3 by omega), h]
   simp only [cond_true, Option.bind_some, decide_eq_false (show ¬ (i : Int) < 0 by omega), cond_false, deq0 (show 0 < p.length by omega), prv hil (by omega), tm, d0, dlt hil, dlt hm1, dlt hm2, dfP, Int.toNat_natCast, hd1, decide_eq_true hd2, w64_s hil (show p.length ≤ 1000000000000 by omega)]
   rw [decide_eq_true (show (i : Int) < ((i + 1 : Nat) : Int) by omega)]
   simp only [cond_true]
   rw [← List.eraseIdx_eq_take_drop_succ]
   obtain ⟨ys, q, h1, h2, h3'⟩ := tris_impl n g (p.eraseIdx i) (s ++ [tri3 p i]) (erase_ok hp i) (by rw [erase_len hil]; omega) (by rw [erase_len hil]; omega) (by omega) hk hE (by simp; omega)
   refine ⟨ys, q, h1, ?_, h3'⟩
   rw [h2]
   rw [tris_some h3 hi]
   simp
  ·refine ⟨s, p, ?_, by rw [tris_none h3], by omega⟩
   rw [decide_eq_false (show ¬ (p.length : Int) > 3 by omega)]; rfl
theorem tris_spec : ∀ (n g : Nat) (p : List Pt') (s : List (List Pt')), p.all okP = true → p.length ≤ 24 → p.length ≤ n + 3 → n < g → 1048577 < k → Ears n p → s.length + n ≤ 100 →
  ∃ ys q, spec_l04Triangles_3 k g (p, s) = some (q, ys) ∧ ys ++ [q] = s ++ tris n p ∧ ys.length ≤ 100 ∧ q.length ≤ 24
 | n, 0, _, _, _, _, _, hg, _, _, _ => by omega
 | 0, g + 1, p, s, _, _, hn, _, _, _, hs => by
  refine ⟨s, p, ?_, rfl, by omega, by omega⟩
  simp only [spec_l04Triangles_3]
  rw [decide_eq_false (show ¬ (p.length : Int) > 3 by omega)]; rfl
 | n + 1, g + 1, p, s, hp, hl, hn, hg, hk, hE, hs => by
  simp only [spec_l04Triangles_3]
  by_cases h3 : 3 < p.length
  ·rcases hE with hE | ⟨i, hi, hE⟩
   ·omega
   obtain ⟨hil, -⟩ := ear1_lt hi
   have hw : w64 ((p.length : Int) - 1) = ((p.length - 1 : Nat) : Int) := by rw [w64_id (by omega) (by omega)]; omega
   have h := runS (fun g j => spec_l04Triangles_6 k g ((p.length : Int), (j : Int), p, s)) (p.length - 1) (earB p) (fun j => ((p.length : Int), (j : Int), p, s)) ((p.length : Int), ((p.length - 1 : Nat) : Int), p, s) (fun g => by simp only [spec_l04Triangles_6, hw, dge (Nat.le_refl _), cond_false, Option.bind_some])
    (fun g j hj => by
     simp only [spec_l04Triangles_6, hw, dlt hj, cond_true, ear_spec hp hl (show j < p.length by omega) hk, Option.bind_some, w64_s hj (show p.length - 1 ≤ 1000000000000 by omega)]
     cases earB p j <;> rfl) (p.length - 1) k 0 (by omega) (by omega)
   have hf := find_range (earB p) (i := i) (p.length - 1) 0 (by rw [Nat.sub_add_cancel (by omega)]; exact hi)
   have h : spec_l04Triangles_6 k k ((p.length : Int), 0, p, s) = some ((p.length : Int), (i : Int), p, s) := by
    simp only [z0] at h
    rw [h, ← hf]
    cases (List.range' 0 (p.length - 1)).find? (earB p) with
    | some j => rfl
    | none => simp only [Nat.zero_add]
   have hm1 : (i + p.length - 1) % p.length < p.length := Nat.mod_lt _ (by omega)
   have hm2 : (i + 1) % p.length < p.length := Nat.mod_lt _ (by omega)
   have hd1 : ∀ x : List Pt', decide ((s.length + [x].length) * 24 ≤ 140737488355328) = true := fun x => decide_eq_true (by simp only [List.length_cons, List.length_nil]; omega)
   have hd2 : ((i + 1 : Nat) : Int) ≤ (p.length : Int) := by omega
   have hd3 : (i : Int) ≤ (p.length : Int) := by omega
   have hd4 : (0 + (p.take i).length) * 16 ≤ 140737488355328 := by rw [List.length_take]; omega
   have hd5 : ((p.take i).length + (p.drop (i + 1)).length) * 16 ≤ 140737488355328 := by simp; omega
   have w1 : win p 0 i = p.take i := by unfold win; simp
   have w2 : win p (i + 1) p.length = p.drop (i + 1) := by
    unfold win
    first | rfl | (rw [List.take_length]) | (rw [List.take_of_length_le (by rw [List.length_drop]; omega)])
   rw [decide_eq_true (show (p.length : Int) > 3 by omega), h]
   simp only [cond_true, Option.bind_some, cond_false, deq0 (show 0 < p.length by omega), prv hil (by omega), tm, d0, dlt hil, dlt hm1, dlt hm2, dfP, Int.toNat_natCast, hd1, decide_eq_true hd2, w64_s hil (show p.length ≤ 1000000000000 by omega)]
   simp only [Int.toNat_zero, w1, w2, decide_eq_true hd3, decide_eq_true hd4, List.nil_append, decide_eq_true hd5, cond_true]
   rw [← List.eraseIdx_eq_take_drop_succ]
   obtain ⟨ys, q, h1, h2, h3'⟩ := tris_spec n g (p.eraseIdx i) (s ++ [tri3 p i]) (erase_ok hp i) (by rw [erase_len hil]; omega) (by rw [erase_len hil]; omega) (by omega) hk hE (by simp; omega)
   refine ⟨ys, q, h1, ?_, h3'⟩
   rw [h2]
   rw [tris_some h3 hi]
   simp
  ·refine ⟨s, p, ?_, by rw [tris_none h3], by omega, hl⟩
   rw [decide_eq_false (show ¬ (p.length : Int) > 3 by omega)]; rfl
theorem triangles_impl {p : List Pt'} (hp : p.all okP = true) (hl : p.length ≤ 24) (hE : Ears 21 p) (hk : 1048577 < k) : impl_triangles k p = some (tris 21 p) := by
 obtain ⟨ys, q, h1, h2, h3⟩ := tris_impl (k := k) 21 k p [] hp hl (by omega) (by omega) hk hE (by simp)
 unfold impl_triangles slices_Clone
 rw [decide_eq_true (show (0 + p.length) * 16 ≤ 140737488355328 by omega)]
 simp only [cond_true, Option.bind_some, h1]
 rw [decide_eq_true (by simp only [List.length_cons, List.length_nil]; omega)]
 rw [h2]; rfl
theorem triangles_spec {p : List Pt'} (hp : p.all okP = true) (hl : p.length ≤ 24) (hE : Ears 21 p) (hk : 1048577 < k) : spec_l04Triangles k p = some (tris 21 p) := by
 obtain ⟨ys, q, h1, h2, h3, h4⟩ := tris_spec (k := k) 21 k p [] hp hl (by omega) (by omega) hk hE (by simp)
 unfold spec_l04Triangles
 rw [decide_eq_true (show ((0 : Nat) + p.length) * 16 ≤ 140737488355328 by omega)]
 simp only [cond_true, List.nil_append, h1, Option.bind_some]
 rw [decide_eq_true (show ((0 : Nat) + q.length) * 16 ≤ 140737488355328 by omega), decide_eq_true (by simp only [List.length_cons, List.length_nil]; omega)]
 rw [h2]; rfl
end
end Go.Proofs.YtgcioclfplafkaaGreatV
end
section
namespace Go.Proofs.YtgcioclfplafkaaGreatV
open Go Go.RowKit
def besI (T U : List Pt') (i j : Nat) : Bool := decide (sg (cross (pt T i) (pt T ((i + 1) % 3)) (pt U j)) ≤ 0)
def besB (T U : List Pt') : Bool := (List.range' 0 3).any fun i => (List.range' 0 3).all (besI T U i)
structure Tri (T : List Pt') : Prop where
 l : T.length = 3
 o : T.all okP = true
def tt (ts : List (List Pt')) (i : Nat) : List Pt' := ts.getD i []
def disJ (ts us : List (List Pt')) (i j : Nat) : Bool := !besB (tt ts i) (tt us j) && !besB (tt us j) (tt ts i)
def disB (ts us : List (List Pt')) : Bool := !((List.range' 0 ts.length).any fun i => (List.range' 0 us.length).any (disJ ts us i))
theorem fold_and (f : Nat → Bool) : ∀ (l : List Nat) (s : Bool), l.foldl (fun s j => s && f j) s = (s && l.all f)
 | [], s => by simp
 | a :: l, s => by rw [List.foldl_cons, fold_and f l, List.all_cons, Bool.and_assoc]
theorem dfT : dflt (.sl (.pair (.int .i64) (.int .i64))) = ([] : List Pt') := rfl
section
variable {k : Nat}
theorem bes6_impl {T U : List Pt'} (hT : Tri T) (hU : Tri U) {i : Nat} (hi : i < 3) (hk : 1048577 < k) : impl_beside_6 k k (T, U, (i : Int), true, 3, (i : Int), U, 3, 0) = some (T, U, (List.range' 0 3).all (besI T U i), 3, (i : Int)) := by
 have hm : (i + 1) % 3 < 3 := Nat.mod_lt _ (by omega)
 have e1 : T.getD i (0, 0) = pt T i := rfl
 have e2 : T.getD ((i + 1) % 3) (0, 0) = pt T ((i + 1) % 3) := rfl
 have k1 := pt_ok hT.o (i := i) (by rw [hT.l]; omega)
 have k2 := pt_ok hT.o (i := (i + 1) % 3) (by rw [hT.l]; omega)
 have c3 : ((3 : Nat) : Int) = 3 := rfl
 have n3 : Int.tmod (w64 ((i : Int) + 1)) 3 = (((i + 1) % 3 : Nat) : Int) := nx (n := 3) hi (by omega)
 have h := runF (fun g j s => impl_beside_6 k g (T, U, (i : Int), s, 3, (i : Int), U, ((3 : Nat) : Int), (j : Int))) 3 (fun j s => s && besI T U i j) (fun s => (T, U, s, 3, (i : Int))) (fun _ _ => True) (fun g s _ => by simp only [impl_beside_6, dge (Nat.le_refl _), cond_false])
  (fun g j s hj _ => by
   have k4 := pt_ok hU.o (i := j) (by rw [hU.l]; omega)
   have e4 : U.getD j (0, 0) = pt U j := rfl
   simp only [impl_beside_6, hU.l, hT.l, dlt hj, d0, cond_true, w64_s hj (show 3 ≤ 1000000000000 by omega)]
   cases s with
   | false => rfl
   | true =>
    simp only [cond_true, d0, dlt hi, n3, dlt hm, rd_nat, dfP, e1, e2, e4]
    rw [side_eq k1 k2 k4]
    rfl) (fun _ _ _ _ => trivial) 3 k 0 true (by omega) (by omega) trivial
 rw [fold_and] at h
 simp only [z0, c3, Bool.true_and] at h
 exact h
theorem bes6_spec {T U : List Pt'} (hT : Tri T) (hU : Tri U) {i : Nat} (hi : i < 3) (hk : 1048577 < k) : spec_l04Parted_6 k k (T, U, (i : Int), true, 0) = some (T, U, (i : Int), (List.range' 0 3).all (besI T U i)) := by
 have hm : (i + 1) % 3 < 3 := Nat.mod_lt _ (by omega)
 have e1 : T.getD i (0, 0) = pt T i := rfl
 have e2 : T.getD ((i + 1) % 3) (0, 0) = pt T ((i + 1) % 3) := rfl
 have k1 := pt_ok hT.o (i := i) (by rw [hT.l]; omega)
 have k2 := pt_ok hT.o (i := (i + 1) % 3) (by rw [hT.l]; omega)
 have n3 : Int.tmod (w64 ((i : Int) + 1)) 3 = (((i + 1) % 3 : Nat) : Int) := nx (n := 3) hi (by omega)
 have h := runF (fun g j s => spec_l04Parted_6 k g (T, U, (i : Int), s, (j : Int))) 3 (fun j s => s && besI T U i j) (fun s => (T, U, (i : Int), s)) (fun _ _ => True) (fun g s _ => by simp only [spec_l04Parted_6, decide_eq_false (show ¬ ((3 : Nat) : Int) < 3 by omega), cond_false])
  (fun g j s hj _ => by
   have k4 := pt_ok hU.o (i := j) (by rw [hU.l]; omega)
   have e4 : U.getD j (0, 0) = pt U j := rfl
   simp only [spec_l04Parted_6, hU.l, hT.l, decide_eq_true (show (j : Int) < 3 by omega), cond_true, w64_s hj (show 3 ≤ 1000000000000 by omega)]
   cases s with
   | false => rfl
   | true =>
    simp only [cond_true, d0, dlt hi, dlt hj, n3, dlt hm, rd_nat, dfP, e1, e2, e4]
    rw [l02Side_eq k1 k2 k4]
    rfl) (fun _ _ _ _ => trivial) 3 k 0 true (by omega) (by omega) trivial
 rw [fold_and] at h
 simp only [z0, Bool.true_and] at h
 exact h
theorem bes_impl {T U : List Pt'} (hT : Tri T) (hU : Tri U) (hk : 1048577 < k) : impl_beside k (T, U) = some (besB T U) := by
 have c3 : ((3 : Nat) : Int) = 3 := rfl
 have h := runS (fun g i => impl_beside_2 k g (T, U, ((3 : Nat) : Int), (i : Int))) 3 (fun i => (List.range' 0 3).all (besI T U i)) (fun _ => .inr true) (.inl ()) (fun g => by simp only [impl_beside_2, dge (Nat.le_refl _), cond_false])
  (fun g i hi => by
   simp only [impl_beside_2, hU.l, dlt hi, cond_true]
   simp only [c3, bes6_impl hT hU hi hk, Option.bind_some, w64_s hi (show 3 ≤ 1000000000000 by omega)]) 3 k 0 (by omega) (by omega)
 rw [find_any] at h
 simp only [z0, c3] at h
 unfold impl_beside
 simp only [hT.l, c3, h]
 unfold besB
 cases (List.range' 0 3).any fun i => (List.range' 0 3).all (besI T U i) <;> rfl
theorem bes_spec {T U : List Pt'} (hT : Tri T) (hU : Tri U) (hk : 1048577 < k) : spec_l04Parted k (T, U) = some (besB T U) := by
 have h := runS (fun g i => spec_l04Parted_2 k g (T, U, (i : Int))) 3 (fun i => (List.range' 0 3).all (besI T U i)) (fun _ => .inr true) (.inl ()) (fun g => by simp only [spec_l04Parted_2, decide_eq_false (show ¬ ((3 : Nat) : Int) < 3 by omega), cond_false])
  (fun g i hi => by
   simp only [spec_l04Parted_2, decide_eq_true (show (i : Int) < 3 by omega), cond_true]
   simp only [bes6_spec hT hU hi hk, Option.bind_some, w64_s hi (show 3 ≤ 1000000000000 by omega)]) 3 k 0 (by omega) (by omega)
 rw [find_any] at h
 simp only [z0] at h
 unfold spec_l04Parted
 simp only [h]
 unfold besB
 cases (List.range' 0 3).any fun i => (List.range' 0 3).all (besI T U i) <;> rfl
theorem and2 (a b : Bool) : (bif !a then some (!b) else some false : Option Bool) = some (!a && !b) := by cases a <;> rfl
theorem dis_impl {ts us : List (List Pt')} (ht : ∀ t ∈ ts, Tri t) (hu : ∀ u ∈ us, Tri u) (h1 : ts.length ≤ 100) (h2 : us.length ≤ 100) (hk : 1048577 < k) : impl_apart_7 k k (us, ts, (ts.length : Int), 0) = some (bif disB ts us then .inl () else .inr false) := by
 have h := runS (fun g i => impl_apart_7 k g (us, ts, (ts.length : Int), (i : Int))) ts.length (fun i => (List.range' 0 us.length).any (disJ ts us i)) (fun _ => .inr false) (.inl ()) (fun g => by simp only [impl_apart_7, dge (Nat.le_refl _), cond_false])
  (fun g i hi => by
   have hT : Tri (tt ts i) := ht _ (getD_mem hi)
   have e1 : ts.getD i [] = tt ts i := rfl
   have h := runS (fun g j => impl_apart_10 k g (us, tt ts i, ts, (ts.length : Int), (i : Int), us, (us.length : Int), (j : Int))) us.length (disJ ts us i) (fun _ => .inr false) (.inl (us, ts, (ts.length : Int), (i : Int))) (fun g => by simp only [impl_apart_10, dge (Nat.le_refl _), cond_false])
    (fun g j hj => by
     have hU : Tri (tt us j) := hu _ (getD_mem hj)
     have e2 : us.getD j [] = tt us j := rfl
     simp only [impl_apart_10, dlt hj, d0, cond_true, rd_nat, dfT, e2, bes_impl hT hU hk, bes_impl hU hT hk, Option.bind_some, and2, w64_s hj (show us.length ≤ 1000000000000 by omega)]
     rfl) us.length k 0 (by omega) (by omega)
   rw [find_any] at h
   simp only [z0] at h
   simp only [impl_apart_7, dlt hi, d0, cond_true, rd_nat, dfT, e1, h, w64_s hi (show ts.length ≤ 1000000000000 by omega)]
   cases (List.range' 0 us.length).any (disJ ts us i) with
   | true => rfl
   | false => simp only [cond_false, Option.bind_some, w64_s hi (show ts.length ≤ 1000000000000 by omega)]) ts.length k 0 (by omega) (by omega)
 rw [find_any] at h
 simp only [z0] at h
 refine h.trans ?_
 unfold disB
 cases (List.range' 0 ts.length).any fun i => (List.range' 0 us.length).any (disJ ts us i) <;> rfl
theorem dis_spec {ts us : List (List Pt')} (ht : ∀ t ∈ ts, Tri t) (hu : ∀ u ∈ us, Tri u) (h1 : ts.length ≤ 100) (h2 : us.length ≤ 100) (hk : 1048577 < k) : spec_l04Disjoint_4 k k (0, ts, us) = some (bif disB ts us then .inl () else .inr false) := by
 have h := runS (fun g i => spec_l04Disjoint_4 k g ((i : Int), ts, us)) ts.length (fun i => (List.range' 0 us.length).any (disJ ts us i)) (fun _ => .inr false) (.inl ()) (fun g => by simp only [spec_l04Disjoint_4, dge (Nat.le_refl _), cond_false])
  (fun g i hi => by
   have hT : Tri (tt ts i) := ht _ (getD_mem hi)
   have e1 : ts.getD i [] = tt ts i := rfl
   have h := runS (fun g j => spec_l04Disjoint_7 k g ((i : Int), (j : Int), ts, us)) us.length (disJ ts us i) (fun _ => .inr false) (.inl ((i : Int), ts, us)) (fun g => by simp only [spec_l04Disjoint_7, dge (Nat.le_refl _), cond_false])
    (fun g j hj => by
     have hU : Tri (tt us j) := hu _ (getD_mem hj)
     have e2 : us.getD j [] = tt us j := rfl
     simp only [spec_l04Disjoint_7, dlt hj, dlt hi, d0, cond_true, Int.toNat_natCast, dfT, e1, e2, bes_spec hT hU hk, bes_spec hU hT hk, Option.bind_some, and2, w64_s hj (show us.length ≤ 1000000000000 by omega)]
     rfl) us.length k 0 (by omega) (by omega)
   rw [find_any] at h
   simp only [z0] at h
   simp only [spec_l04Disjoint_4, dlt hi, cond_true, h]
   cases (List.range' 0 us.length).any (disJ ts us i) with
   | true => rfl
   | false => simp only [cond_false, Option.bind_some, w64_s hi (show ts.length ≤ 1000000000000 by omega)]) ts.length k 0 (by omega) (by omega)
 rw [find_any] at h
 simp only [z0] at h
 refine h.trans ?_
 unfold disB
 cases (List.range' 0 ts.length).any fun i => (List.range' 0 us.length).any (disJ ts us i) <;> rfl
theorem tris_ok : ∀ (n : Nat) (p : List Pt'), p.all okP = true → 3 ≤ p.length → p.length ≤ n + 3 → Ears n p → (∀ t ∈ tris n p, Tri t) ∧ (tris n p).length ≤ n + 1
 | 0, p, hp, h3, hn, _ => ⟨fun t ht => by rw [show tris 0 p = [p] from rfl] at ht; rw [List.mem_singleton.1 ht]; exact ⟨by omega, hp⟩, by rw [show tris 0 p = [p] from rfl]; simp⟩
 | n + 1, p, hp, h3, hn, hE => by
  by_cases h : 3 < p.length
  ·rcases hE with hE | ⟨i, hi, hE⟩
   ·omega
   obtain ⟨hil, -⟩ := ear1_lt hi
   rw [tris_some h hi]
   obtain ⟨r1, r2⟩ := tris_ok n _ (erase_ok hp i) (by rw [erase_len hil]; omega) (by rw [erase_len hil]; omega) hE
   refine ⟨fun t ht => ?_, by simp; omega⟩
   rcases List.mem_cons.1 ht with rfl | ht
   ·refine ⟨rfl, ?_⟩
    simp only [tri3, List.all_cons, List.all_nil, Bool.and_true, Bool.and_eq_true]
    exact ⟨pt_ok hp (Nat.mod_lt _ (by omega)), pt_ok hp hil, pt_ok hp (Nat.mod_lt _ (by omega))⟩
   ·exact r1 t ht
  ·rw [tris_none h]
   exact ⟨fun t ht => by rw [List.mem_singleton.1 ht]; exact ⟨by omega, hp⟩, by simp⟩
structure PolyT (p : List Pt') : Prop where
 o : p.all okP = true
 a : 3 ≤ p.length
 b : p.length ≤ 24
 e : Ears 21 p
def dj (p q : List Pt') : Bool := disB (tris 21 p) (tris 21 q)
def boxA (p q : List Pt') : Bool := decide ((bnd p).2.2.1 ≤ (bnd q).1) || (decide ((bnd q).2.2.1 ≤ (bnd p).1) || (decide ((bnd p).2.2.2 ≤ (bnd q).2.1) || decide ((bnd q).2.2.2 ≤ (bnd p).2.1)))
theorem disjoint_spec {p q : List Pt'} (hp : PolyT p) (hq : PolyT q) (hk : 1048577 < k) : spec_l04Disjoint k (p, q) = some (dj p q) := by
 unfold spec_l04Disjoint
 obtain ⟨a1, a2⟩ := tris_ok 21 p hp.o hp.a hp.b hp.e
 obtain ⟨b1, b2⟩ := tris_ok 21 q hq.o hq.a hq.b hq.e
 simp only [triangles_spec hp.o hp.b hp.e hk, triangles_spec hq.o hq.b hq.e hk, Option.bind_some, dis_spec a1 b1 (by omega) (by omega) hk]
 unfold dj
 cases disB (tris 21 p) (tris 21 q) <;> rfl
theorem or4 (a b c d : Bool) : (bif a then some true else bif b then some true else bif c then some true else some d : Option Bool) = some (a || (b || (c || d))) := by cases a <;> cases b <;> cases c <;> rfl
theorem apart_impl {p q : List Pt'} (hp : PolyT p) (hq : PolyT q) (hk : 1048577 < k) : impl_apart k (p, q) = some (boxA p q || dj p q) := by
 unfold impl_apart
 have pa := hp.a; have pb := hp.b; have qa := hq.a; have qb := hq.b
 obtain ⟨a1, a2⟩ := tris_ok 21 p hp.o hp.a hp.b hp.e
 obtain ⟨b1, b2⟩ := tris_ok 21 q hq.o hq.a hq.b hq.e
 simp only [bounds_impl (p := p) (by omega) (by omega) hk, bounds_impl (p := q) (by omega) (by omega) hk, Option.bind_some, or4]
 rw [show (decide ((bnd p).2.2.1 ≤ (bnd q).1) || (decide ((bnd q).2.2.1 ≤ (bnd p).1) || (decide ((bnd p).2.2.2 ≤ (bnd q).2.1) || decide ((bnd q).2.2.2 ≤ (bnd p).2.1)))) = boxA p q from rfl]
 cases boxA p q with
 | true => rfl
 | false =>
  simp only [cond_false, triangles_impl hp.o hp.b hp.e hk, triangles_impl hq.o hq.b hq.e hk, Option.bind_some, dis_impl a1 b1 (by omega) (by omega) hk]
  unfold dj
  cases disB (tris 21 p) (tris 21 q) <;> rfl
end
end Go.Proofs.YtgcioclfplafkaaGreatV
end
section
namespace Go.Proofs.YtgcioclfplafkaaGreatV
open Go Go.RowKit
structure Root (n r : Int) : Prop where
 p : 0 ≤ r
 a : r * r ≤ n
 b : n < (r + 1) * (r + 1)
theorem sq_lt {x y : Int} (hx : 0 ≤ x) (h : x * x < y * y) (hy : 0 ≤ y) : x < y := by
 apply Int.not_le.1
 intro hle
 have := Int.mul_le_mul hle hle hy hx
 omega
theorem sq_le {x y : Int} (hx : 0 ≤ x) (h : x ≤ y) : x * x ≤ y * y := Int.mul_le_mul h h hx (by omega)
theorem Root.uniq {n r s : Int} (h : Root n r) (h' : Root n s) : r = s := by
 have h1 := sq_lt h.p (y := s + 1) (by have := h.a; have := h'.b; omega) (by have := h'.p; omega)
 have h2 := sq_lt h'.p (y := r + 1) (by have := h'.a; have := h.b; omega) (by have := h.p; omega)
 omega
theorem Root.ge {n r d : Int} (h : Root n r) (h0 : 0 ≤ d) (hd : d * d ≤ n) : d ≤ r := by
 have := sq_lt h0 (y := r + 1) (by have := h.b; omega) (by have := h.p; omega)
 omega
section
variable {k : Nat}
theorem mid_ok {lo hi : Int} (h0 : 0 ≤ lo) (h : lo < hi) (h1 : hi ≤ 3037000499) : w64 (Int.tdiv (w64 ((w64 (lo + hi)) + 1)) 2) = (lo + hi + 1) / 2 := by
 rw [w64_id (x := lo + hi) (by omega) (by omega), w64_id (x := lo + hi + 1) (by omega) (by omega), Int.tdiv_eq_ediv_of_nonneg (by omega)]
 exact w64_id (by omega) (by omega)
theorem sq_bd {m : Int} (h0 : 0 ≤ m) (h : m ≤ 3037000499) : 0 ≤ m * m ∧ m * m ≤ 9223372036854775807 := by
 have := sq_le h0 h
 have := Int.mul_nonneg h0 h0
 omega
theorem root_spec_loop {n : Int} : ∀ (d g : Nat) (lo hi : Int), 0 ≤ lo → lo ≤ hi → hi ≤ 3037000499 → lo * lo ≤ n → n < (hi + 1) * (hi + 1) → hi - lo < 2 ^ d → d < g → ∃ r, spec_l01Root_3 k g (n, lo, hi) = some r ∧ Root n r
 | d, 0, _, _, _, _, _, _, _, _, hg => by omega
 | d, g + 1, lo, hi, h0, h1, h2, h3, h4, h5, hg => by
  simp only [spec_l01Root_3]
  by_cases hlt : lo < hi
  ·cases d with
   | zero => simp at h5; omega
   | succ d =>
    have h5' : hi - lo < 2 * 2 ^ d := by rw [Int.pow_succ] at h5; omega
    rw [decide_eq_true hlt, mid_ok h0 hlt h2]
    have hm := sq_bd (m := (lo + hi + 1) / 2) (by omega) (by omega)
    rw [w64_id (x := (lo + hi + 1) / 2 * ((lo + hi + 1) / 2)) (by omega) (by omega), w64_id (x := (lo + hi + 1) / 2 - 1) (by omega) (by omega)]
    simp only [cond_true]
    by_cases hc : (lo + hi + 1) / 2 * ((lo + hi + 1) / 2) ≤ n
    ·rw [decide_eq_true hc]
     exact root_spec_loop d g _ hi (by omega) (by omega) h2 hc h4 (by omega) (by omega)
    ·rw [decide_eq_false hc]
     exact root_spec_loop d g lo _ h0 (by omega) (by omega) h3 (by rw [Int.sub_add_cancel]; omega) (by omega) (by omega)
  ·rw [decide_eq_false hlt]
   have : lo = hi := by omega
   subst this
   exact ⟨lo, rfl, h0, h3, h4⟩
theorem root_impl_loop {n : Int} (hn : n ≤ 9223372036854775807) (hn1 : 1 ≤ n) : ∀ (d g : Nat) (lo hi : Int), 1 ≤ lo → lo ≤ hi → hi ≤ 3037000499 → lo * lo ≤ n → n < (hi + 1) * (hi + 1) → hi - lo < 2 ^ d → d < g → ∃ r, impl_RootOf_4 k g (n, lo, hi) = some r ∧ Root n r
 | d, 0, _, _, _, _, _, _, _, _, hg => by omega
 | d, g + 1, lo, hi, h0, h1, h2, h3, h4, h5, hg => by
  simp only [impl_RootOf_4]
  by_cases hlt : lo < hi
  ·cases d with
   | zero => simp at h5; omega
   | succ d =>
    have h5' : hi - lo < 2 * 2 ^ d := by rw [Int.pow_succ] at h5; omega
    rw [decide_eq_true hlt, mid_ok (by omega) hlt h2]
    generalize hM : (lo + hi + 1) / 2 = M
    have hMp : 0 < M := by omega
    have hd1 : 0 ≤ n / M := Int.ediv_nonneg (by omega) (by omega)
    have hd2 : n / M ≤ n := Int.ediv_le_self _ (by omega)
    have hq : M ≤ n / M ↔ M * M ≤ n := Int.le_ediv_iff_mul_le hMp
    rw [Int.tdiv_eq_ediv_of_nonneg (by omega), w64_id (x := n / M) (by omega) (by omega), w64_id (x := M - 1) (by omega) (by omega), decide_eq_false (show ¬ M = 0 by omega)]
    simp only [cond_true, cond_false]
    by_cases hc : M * M ≤ n
    ·rw [decide_eq_true (hq.2 hc)]
     exact root_impl_loop hn hn1 d g M hi (by omega) (by omega) h2 hc h4 (by omega) (by omega)
    ·rw [decide_eq_false (fun h => hc (hq.1 h))]
     exact root_impl_loop hn hn1 d g lo _ h0 (by omega) (by omega) h3 (by rw [Int.sub_add_cancel]; omega) (by omega) (by omega)
  ·rw [decide_eq_false hlt]
   have : lo = hi := by omega
   subst this
   exact ⟨lo, rfl, by omega, h3, h4⟩
theorem root_ex {n : Int} (h0 : 0 ≤ n) (h1 : n ≤ 9223372036854775807) (hk : 1048577 < k) : ∃ r, spec_l01Root k n = some r ∧ Root n r := by
 obtain ⟨r, h, hr⟩ := root_spec_loop (k := k) (n := n) 40 k 0 3037000499 (by omega) (by omega) (by omega) (by omega) (by omega) (by decide) (by omega)
 exact ⟨r, by unfold spec_l01Root; simp only [h]; rfl, hr⟩
def rt (n : Int) : Int := (spec_l01Root 1048578 n).getD 0
theorem rt_ok {n : Int} (h0 : 0 ≤ n) (h1 : n ≤ 9223372036854775807) : Root n (rt n) := by
 obtain ⟨r, h, hr⟩ := root_ex (k := 1048578) h0 h1 (by omega)
 unfold rt; rw [h]; exact hr
theorem root_spec {n : Int} (h0 : 0 ≤ n) (h1 : n ≤ 9223372036854775807) (hk : 1048577 < k) : spec_l01Root k n = some (rt n) := by
 obtain ⟨r, h, hr⟩ := root_ex h0 h1 hk
 rw [h, hr.uniq (rt_ok h0 h1)]
theorem root_impl {n : Int} (h0 : 0 ≤ n) (h1 : n ≤ 9223372036854775807) (hk : 1048577 < k) : impl_RootOf k n = some (rt n) := by
 unfold impl_RootOf
 by_cases hn : n < 1
 ·rw [decide_eq_true hn]
  have : n = 0 := by omega
  subst this
  have : Root 0 0 := ⟨by omega, by omega, by omega⟩
  rw [this.uniq (rt_ok h0 h1)]; rfl
 ·obtain ⟨r, h, hr⟩ := root_impl_loop (k := k) h1 (by omega) 40 k 1 3037000499 (by omega) (by omega) (by omega) (by omega) (by omega) (by decide) (by omega)
  rw [decide_eq_false hn, ← hr.uniq (rt_ok h0 h1)]
  simp only [cond_false, h, Option.bind_some]
def sqD (a b : Pt') : Int := (a.1 - b.1) * (a.1 - b.1) + (a.2 - b.2) * (a.2 - b.2)
def dot (a b q : Pt') : Int := (b.1 - a.1) * (q.1 - a.1) + (b.2 - a.2) * (q.2 - a.2)
def segD (a b q : Pt') : Int := if dot a b q ≤ 0 then rt (sqD a q) else if dot a b q ≥ sqD a b then rt (sqD b q) else rt (cross a b q * cross a b q / sqD a b)
theorem sqD_bd {a b : Pt'} (ha : okP a = true) (hb : okP b = true) : 0 ≤ sqD a b ∧ sqD a b ≤ 800000000 := by
 rw [okP_iff] at ha hb
 have m1 := mul_bd (x := a.1 - b.1) (y := a.1 - b.1) (by omega) (by omega) (by omega) (by omega)
 have m2 := mul_bd (x := a.2 - b.2) (y := a.2 - b.2) (by omega) (by omega) (by omega) (by omega)
 have n1 : 0 ≤ (a.1 - b.1) * (a.1 - b.1) := by rcases Int.le_total 0 (a.1 - b.1) with h | h; exact Int.mul_nonneg h h; exact Int.mul_nonneg_of_nonpos_of_nonpos h h
 have n2 : 0 ≤ (a.2 - b.2) * (a.2 - b.2) := by rcases Int.le_total 0 (a.2 - b.2) with h | h; exact Int.mul_nonneg h h; exact Int.mul_nonneg_of_nonpos_of_nonpos h h
 unfold sqD; omega
theorem sq_w {a b : Pt'} (ha : okP a = true) (hb : okP b = true) : w64 ((w64 ((w64 (a.1 - b.1)) * (w64 (a.1 - b.1)))) + (w64 ((w64 (a.2 - b.2)) * (w64 (a.2 - b.2))))) = sqD a b := by
 rw [okP_iff] at ha hb
 have m1 := mul_bd (x := a.1 - b.1) (y := a.1 - b.1) (by omega) (by omega) (by omega) (by omega)
 have m2 := mul_bd (x := a.2 - b.2) (y := a.2 - b.2) (by omega) (by omega) (by omega) (by omega)
 rw [w64_id (x := a.1 - b.1) (by omega) (by omega), w64_id (x := a.2 - b.2) (by omega) (by omega), w64_id (x := (a.1 - b.1) * (a.1 - b.1)) (by omega) (by omega), w64_id (x := (a.2 - b.2) * (a.2 - b.2)) (by omega) (by omega)]
 exact w64_id (by omega) (by omega)
theorem dot_w {a b c : Pt'} (ha : okP a = true) (hb : okP b = true) (hc : okP c = true) : w64 ((w64 ((w64 (b.1 - a.1)) * (w64 (c.1 - a.1)))) + (w64 ((w64 (b.2 - a.2)) * (w64 (c.2 - a.2))))) = dot a b c := by
 rw [okP_iff] at ha hb hc
 have m1 := mul_bd (x := b.1 - a.1) (y := c.1 - a.1) (by omega) (by omega) (by omega) (by omega)
 have m2 := mul_bd (x := b.2 - a.2) (y := c.2 - a.2) (by omega) (by omega) (by omega) (by omega)
 rw [w64_id (x := b.1 - a.1) (by omega) (by omega), w64_id (x := c.1 - a.1) (by omega) (by omega), w64_id (x := b.2 - a.2) (by omega) (by omega), w64_id (x := c.2 - a.2) (by omega) (by omega), w64_id (x := (b.1 - a.1) * (c.1 - a.1)) (by omega) (by omega), w64_id (x := (b.2 - a.2) * (c.2 - a.2)) (by omega) (by omega)]
 exact w64_id (by omega) (by omega)
theorem dot_w2 {a b c : Pt'} (ha : okP a = true) (hb : okP b = true) (hc : okP c = true) : w64 ((w64 ((w64 (c.1 - a.1)) * (w64 (b.1 - a.1)))) + (w64 ((w64 (c.2 - a.2)) * (w64 (b.2 - a.2))))) = dot a b c := by
 rw [Int.mul_comm (w64 (c.1 - a.1)), Int.mul_comm (w64 (c.2 - a.2))]; exact dot_w ha hb hc
theorem cross_bd {a b c : Pt'} (ha : okP a = true) (hb : okP b = true) (hc : okP c = true) : -800000000 ≤ cross a b c ∧ cross a b c ≤ 800000000 := by
 rw [okP_iff] at ha hb hc
 have m1 := mul_bd (x := b.1 - a.1) (y := c.2 - a.2) (by omega) (by omega) (by omega) (by omega)
 have m2 := mul_bd (x := b.2 - a.2) (y := c.1 - a.1) (by omega) (by omega) (by omega) (by omega)
 unfold cross; omega
theorem csq_bd {x : Int} (h1 : -800000000 ≤ x) (h2 : x ≤ 800000000) : 0 ≤ x * x ∧ x * x ≤ 640000000000000000 := by
 have h := Nat.mul_le_mul (show x.natAbs ≤ 800000000 by omega) (show x.natAbs ≤ 800000000 by omega)
 rw [← Int.natAbs_mul] at h
 have : 0 ≤ x * x := by rcases Int.le_total 0 x with h | h; exact Int.mul_nonneg h h; exact Int.mul_nonneg_of_nonpos_of_nonpos h h
 omega
theorem apart2_eq {a b : Pt'} (ha : okP a = true) (hb : okP b = true) (hk : 1048577 < k) : spec_l02Apart k (a.1, a.2, b.1, b.2) = some (rt (sqD a b)) := by
 have := sqD_bd ha hb
 unfold spec_l02Apart spec_l02Square
 simp only [sq_w ha hb, Option.bind_some, root_spec (n := sqD a b) (by omega) (by omega) hk]
theorem far_eq {a b q : Pt'} (ha : okP a = true) (hb : okP b = true) (hq : okP q = true) (hk : 1048577 < k) : spec_l02Far k (a.1, a.2, b.1, b.2, q.1, q.2) = some (segD a b q) := by
 have hs := sqD_bd ha hb
 have hc := cross_bd ha hb hq
 have hcc := csq_bd hc.1 hc.2
 unfold spec_l02Far spec_l02Square spec_l02Cross
 simp only [sq_w ha hb, dot_w ha hb hq, cross_w ha hb hq, Option.bind_some, apart2_eq ha hq hk, apart2_eq hb hq hk]
 unfold segD
 by_cases h1 : dot a b q ≤ 0
 ·rw [decide_eq_true h1, if_pos h1]; rfl
 ·rw [decide_eq_false h1, if_neg h1]
  by_cases h2 : dot a b q ≥ sqD a b
  ·rw [decide_eq_true h2, if_pos h2]; rfl
  ·rw [decide_eq_false h2, if_neg h2, decide_eq_false (show ¬ sqD a b = 0 by omega)]
   simp only [cond_false]
   have hd1 : 0 ≤ cross a b q * cross a b q / sqD a b := Int.ediv_nonneg (by omega) (by omega)
   have hd2 : cross a b q * cross a b q / sqD a b ≤ cross a b q * cross a b q := Int.ediv_le_self _ (by omega)
   rw [w64_id (x := cross a b q * cross a b q) (by omega) (by omega), Int.tdiv_eq_ediv_of_nonneg (by omega), w64_id (by omega) (by omega), root_spec hd1 (by omega) hk]
   rfl
theorem wu {x : Int} (h0 : 0 ≤ x) (h1 : x < 18446744073709551616) : IntKind.wrap .u64 x = x := by
 show x % 18446744073709551616 = x
 omega
theorem seg_eq {a b q : Pt'} (ha : okP a = true) (hb : okP b = true) (hq : okP q = true) (hk : 1048577 < k) : impl_toSegment k (a.1, a.2, b.1, b.2, q.1, q.2) = some (segD a b q) := by
 have hs := sqD_bd ha hb
 have s1 := sqD_bd ha hq
 have s2 := sqD_bd hb hq
 have hc := cross_bd ha hb hq
 have hcc := csq_bd hc.1 hc.2
 unfold impl_toSegment impl_squared
 simp only [sq_w ha hb, sq_w ha hq, sq_w hb hq, dot_w2 ha hb hq, cross_w ha hb hq, Option.bind_some]
 unfold segD
 by_cases h1 : dot a b q ≤ 0
 ·rw [decide_eq_true h1, if_pos h1, root_impl s1.1 (by omega) hk]; rfl
 ·rw [decide_eq_false h1, if_neg h1]
  by_cases h2 : dot a b q ≥ sqD a b
  ·rw [decide_eq_true h2, if_pos h2, root_impl s2.1 (by omega) hk]; rfl
  ·rw [decide_eq_false h2, if_neg h2]
   simp only [cond_false]
   generalize hC : cross a b q = C at *
   have hneg : w64 (0 - C) = -C := by rw [w64_id (by omega) (by omega)]; omega
   obtain ⟨A, hA, hA0, hA2⟩ : ∃ A : Int, (if w64 (0 - C) > C then w64 (0 - C) else C) = A ∧ (0 ≤ A ∧ A ≤ 800000000) ∧ A * A = C * C := by
    rw [hneg]
    by_cases hp : -C > C
    ·rw [if_pos hp]; exact ⟨-C, rfl, by omega, by rw [Int.neg_mul_neg]⟩
    ·rw [if_neg hp]; exact ⟨C, rfl, by omega, rfl⟩
   rw [hA, wu hA0.1 (by omega)]
   have hm : bits_Mul64 k (A, A) = some (0, C * C) := by
    unfold bits_Mul64
    simp only [hA2]
    rw [decide_eq_true hA0.1, decide_eq_true (show A < 18446744073709551616 by omega), decide_eq_true (show C * C < 18446744073709551616 by omega)]; rfl
   have hS : 0 < sqD a b := by omega
   have hd1 : 0 ≤ C * C / sqD a b := Int.ediv_nonneg (by omega) (by omega)
   have hd2 : C * C / sqD a b ≤ C * C := Int.ediv_le_self _ (by omega)
   have hdv : bits_Div64 k (0, C * C, sqD a b) = some (C * C / sqD a b, Int.tmod (C * C) (sqD a b)) := by
    unfold bits_Div64
    simp only
    rw [show (sqD a b == 0) = false from beq_eq_false_iff_ne.2 (by omega), decide_eq_false (show ¬ sqD a b ≤ 0 by omega), decide_eq_false (show ¬ sqD a b = 0 by omega), Int.tdiv_eq_ediv_of_nonneg (by omega), wu hd1 (by omega)]
    rfl
   rw [hm]
   simp only [Option.bind_some]
   rw [wu (x := sqD a b) (by omega) (by omega), hdv]
   simp only [Option.bind_some]
   rw [w64_id (x := C * C / sqD a b) (by omega) (by omega), root_impl hd1 (by omega) hk]
   rfl
def segS (a b c d : Pt') : Int := if touchB a b c d = true then 0 else min4 (segD a b c) (segD a b d) (segD c d a) (segD c d b)
theorem touches_eq {a b c d : Pt'} (ha : okP a = true) (hb : okP b = true) (hc : okP c = true) (hd : okP d = true) : spec_l02Touches k (a.1, a.2, b.1, b.2, c.1, c.2, d.1, d.2) = some (touchB a b c d) := l03Meet_eq ha hb hc hd
theorem gap_eq {a b c d : Pt'} (ha : okP a = true) (hb : okP b = true) (hc : okP c = true) (hd : okP d = true) (hk : 1048577 < k) : spec_l02Gap k (a.1, a.2, b.1, b.2, c.1, c.2, d.1, d.2) = some (segS a b c d) := by
 unfold spec_l02Gap
 simp only [touches_eq ha hb hc hd, far_eq ha hb hc hk, far_eq ha hb hd hk, far_eq hc hd ha hk, far_eq hc hd hb hk, min_eq, Option.bind_some]
 unfold segS
 cases touchB a b c d with
 | true => rfl
 | false =>
  simp only [cond_false, Bool.false_eq_true, if_false, Option.some.injEq]
  unfold mn min4
  dsimp only
  repeat' split
  all_goals omega
theorem between_eq {a b c d : Pt'} (ha : okP a = true) (hb : okP b = true) (hc : okP c = true) (hd : okP d = true) (hk : 1048577 < k) : impl_betweenSegments k (a.1, a.2, b.1, b.2, c.1, c.2, d.1, d.2) = some (segS a b c d) := by
 unfold impl_betweenSegments
 simp only [touching_eq ha hb hc hd, seg_eq ha hb hc hk, seg_eq ha hb hd hk, seg_eq hc hd ha hk, seg_eq hc hd hb hk, Option.bind_some]
 unfold segS
 cases touchB a b c d with
 | true => simp only [cond_true, if_true]
 | false => simp only [cond_false, Bool.false_eq_true, if_false]
end
end Go.Proofs.YtgcioclfplafkaaGreatV
end
section
namespace Go.Proofs.YtgcioclfplafkaaGreatV
open Go Go.RowKit
def flipB (a b q : Pt') : Bool := (decide (a.2 ≤ q.2) && (decide (b.2 > q.2) && decide (sg (cross a b q) > 0))) || (decide (b.2 ≤ q.2) && (decide (a.2 > q.2) && decide (sg (cross a b q) < 0)))
def insB (p : List Pt') (q : Pt') (i : Nat) (s : Int) : Int ⊕ (Int ⊕ Int) := bif onB (pt p i) (nxt p i) q then .inr (.inr 0) else .inl (bif flipB (pt p i) (nxt p i) q then -s else s)
def insR (p : List Pt') (q : Pt') : Int ⊕ Int := runR (insB p q) .inl p.length 0 (-1)
def insD (p : List Pt') (q : Pt') : Int := match insR p q with | .inl z => z | .inr z => z
def gapI (p q : List Pt') (i j : Nat) (s : Int) : Int := bif decide (s < 0) || decide (segS (pt p i) (nxt p i) (pt q j) (nxt q j) < s) then segS (pt p i) (nxt p i) (pt q j) (nxt q j) else s
def gapJ (p q : List Pt') (i : Nat) (s : Int) : Int := (List.range' 0 q.length).foldl (fun s j => gapI p q i j s) s
def gapF (p q : List Pt') : Int := (List.range' 0 p.length).foldl (fun s i => gapJ p q i s) (-1)
def gapD (p q : List Pt') : Int := bif decide (insD p (pt q 0) ≥ 0) || decide (insD q (pt p 0) ≥ 0) then 0 else gapF p q
section
variable {k : Nat}
theorem pm_w {s : Int} (h : s = 1 ∨ s = -1) : w64 (0 - s) = -s := by rcases h with rfl | rfl <;> rfl
theorem ins_inv {p : List Pt'} {q : Pt'} (i : Nat) (s s' : Int) (h : s = 1 ∨ s = -1) (hb : insB p q i s = .inl s') : s' = 1 ∨ s' = -1 := by
 unfold insB at hb
 cases ho : onB (pt p i) (nxt p i) q with
 | true => rw [ho] at hb; simp at hb
 | false =>
 rw [ho] at hb
 simp only [cond_false, Sum.inl.injEq] at hb
 subst hb
 cases flipB (pt p i) (nxt p i) q <;> simp only [cond_true, cond_false] <;> omega
theorem sgw (x : Int) : w64 (0 - sg x) = -sg x := by
 have := sg_bd x
 rw [w64_id (by omega) (by omega)]; omega
theorem flip_impl {α : Type} (a b q : Pt') (x y : α) : (bif ((decide (a.2 > q.2)) != (decide (b.2 > q.2))) then (bif decide (b.2 < a.2) then (bif decide (-sg (cross a b q) > 0) then x else y) else (bif decide (sg (cross a b q) > 0) then x else y)) else y) = bif flipB a b q then x else y := by
 unfold flipB
 by_cases h1 : a.2 > q.2 <;> by_cases h2 : b.2 > q.2
 ·simp [h1, h2, show ¬ a.2 ≤ q.2 by omega, show ¬ b.2 ≤ q.2 by omega]
 ·rw [decide_eq_true h1, decide_eq_false h2, decide_eq_false (show ¬ a.2 ≤ q.2 by omega), decide_eq_true (show b.2 ≤ q.2 by omega), decide_eq_true (show b.2 < a.2 by omega)]
  simp only [Bool.true_bne, Bool.not_false, cond_true, Bool.false_and, Bool.true_and, Bool.false_or]
  by_cases h3 : sg (cross a b q) < 0
  ·rw [decide_eq_true h3, decide_eq_true (by omega)]
  ·rw [decide_eq_false h3, decide_eq_false (by omega)]
 ·rw [decide_eq_false h1, decide_eq_true h2, decide_eq_true (show a.2 ≤ q.2 by omega), decide_eq_false (show ¬ b.2 ≤ q.2 by omega), decide_eq_false (show ¬ b.2 < a.2 by omega)]
  simp only [Bool.false_bne, cond_true, cond_false, Bool.false_and, Bool.true_and, Bool.or_false]
 ·simp [h1, h2]
theorem flip_spec {β : Type} (a b q : Pt') (F : Bool → Option β) : (((bif (decide (a.2 ≤ q.2)) then (bif (decide (b.2 > q.2)) then (bif (decide (sg (cross a b q) > 0)) then some true else (bif (decide (b.2 ≤ q.2)) then (bif (decide (a.2 > q.2)) then some (decide (sg (cross a b q) < 0)) else some false) else some false)) else (bif (decide (b.2 ≤ q.2)) then (bif (decide (a.2 > q.2)) then some (decide (sg (cross a b q) < 0)) else some false) else some false)) else (bif (decide (b.2 ≤ q.2)) then (bif (decide (a.2 > q.2)) then some (decide (sg (cross a b q) < 0)) else some false) else some false)) : Option Bool).bind F) = F (flipB a b q) := by
 unfold flipB
 cases decide (a.2 ≤ q.2) <;> cases decide (b.2 > q.2) <;> cases decide (sg (cross a b q) > 0) <;> cases decide (b.2 ≤ q.2) <;> cases decide (a.2 > q.2) <;> rfl
theorem inside_impl {p : List Pt'} {q : Pt'} (hp : p.all okP = true) (hq : okP q = true) (hl : p.length ≤ 24) (hk : 1048577 < k) : impl_inside k (p, q.1, q.2) = some (insD p q) := by
 have h := run (fun g i s => impl_inside_3 k g (p, s, p, (p.length : Int), (i : Int), q.1, q.2)) p.length (insB p q) .inl (fun _ s => s = 1 ∨ s = -1) (fun g s _ => by simp only [impl_inside_3, dge (Nat.le_refl _), cond_false])
  (fun g i s hi hv => by
   have hm : (i + 1) % p.length < p.length := Nat.mod_lt _ (by omega)
   have k1 := pt_ok hp hi
   have k2 := pt_ok hp hm
   have e1 : p.getD i (0, 0) = pt p i := rfl
   have e2 : p.getD ((i + 1) % p.length) (0, 0) = nxt p i := rfl
   simp only [impl_inside_3, dlt hi, d0, cond_true, deq0 (show 0 < p.length by omega), cond_false, w64_s hi (show p.length ≤ 1000000000000 by omega), tm, dlt hm, rd_nat, dfP, e1, e2]
   rw [on_eq k1 (show okP (nxt p i) = true from k2) hq, side_eq k1 (show okP (nxt p i) = true from k2) hq]
   simp only [Option.bind_some, sgw, pm_w hv, flip_impl]
   unfold insB
   cases onB (pt p i) (nxt p i) q with
   | true => rfl
   | false => cases flipB (pt p i) (nxt p i) q <;> rfl) (fun i s s' _ hv hb => ins_inv i s s' hv hb) p.length k 0 (-1) (by omega) (by omega) (.inr rfl)
 simp only [z0] at h
 unfold impl_inside
 simp only [h, Option.bind_some]
 unfold insD insR
 cases runR (insB p q) .inl p.length 0 (-1) <;> rfl
theorem inside_spec {p : List Pt'} {q : Pt'} (hp : p.all okP = true) (hq : okP q = true) (hl : p.length ≤ 24) (hk : 1048577 < k) : spec_l03Inside k (p, q.1, q.2) = some (insD p q) := by
 have h := run (fun g i s => spec_l03Inside_3 k g (p, s, (i : Int), q.1, q.2)) p.length (insB p q) .inl (fun _ s => s = 1 ∨ s = -1) (fun g s _ => by simp only [spec_l03Inside_3, dge (Nat.le_refl _), cond_false])
  (fun g i s hi hv => by
   have hm : (i + 1) % p.length < p.length := Nat.mod_lt _ (by omega)
   have k1 := pt_ok hp hi
   have k2 := pt_ok hp hm
   have e1 : p.getD i (0, 0) = pt p i := rfl
   have e2 : p.getD ((i + 1) % p.length) (0, 0) = nxt p i := rfl
   simp only [spec_l03Inside_3, dlt hi, d0, cond_true, deq0 (show 0 < p.length by omega), cond_false, w64_s hi (show p.length ≤ 1000000000000 by omega), tm, dlt hm, rd_nat, dfP, e1, e2]
   rw [l02On_eq k1 (show okP (nxt p i) = true from k2) hq, l02Side_eq k1 (show okP (nxt p i) = true from k2) hq]
   simp only [Option.bind_some, pm_w hv, flip_spec]
   unfold insB
   cases onB (pt p i) (nxt p i) q with
   | true => rfl
   | false => cases flipB (pt p i) (nxt p i) q <;> rfl) (fun i s s' _ hv hb => ins_inv i s s' hv hb) p.length k 0 (-1) (by omega) (by omega) (.inr rfl)
 simp only [z0] at h
 unfold spec_l03Inside
 simp only [h, Option.bind_some]
 unfold insD insR
 cases runR (insB p q) .inl p.length 0 (-1) <;> rfl
theorem or2 (a b : Bool) : (bif a then some true else some b : Option Bool) = some (a || b) := by cases a <;> rfl
theorem gap_loop_impl {p q : List Pt'} (hp : p.all okP = true) (hq : q.all okP = true) (hl : p.length ≤ 24) (hl2 : q.length ≤ 24) (hk : 1048577 < k) : impl_gap_5 k k (p, q, (-1), (p.length : Int), 0) = some (gapF p q) := by
 have h := runF (fun g i s => impl_gap_5 k g (p, q, s, (p.length : Int), (i : Int))) p.length (fun i s => gapJ p q i s) id (fun _ _ => True) (fun g s _ => by simp only [impl_gap_5, dge (Nat.le_refl _), cond_false]; rfl)
  (fun g i s hi _ => by
   have hm : (i + 1) % p.length < p.length := Nat.mod_lt _ (by omega)
   have k1 := pt_ok hp hi
   have k2 := pt_ok hp hm
   have e1 : p.getD i (0, 0) = pt p i := rfl
   have e2 : p.getD ((i + 1) % p.length) (0, 0) = nxt p i := rfl
   have h := runF (fun g j s => impl_gap_8 k g (p, q, s, (i : Int), (p.length : Int), (i : Int), (q.length : Int), (j : Int))) q.length (fun j s => gapI p q i j s) (fun s => (p, q, s, (p.length : Int), (i : Int))) (fun _ _ => True) (fun g s _ => by simp only [impl_gap_8, dge (Nat.le_refl _), cond_false])
    (fun g j s hj _ => by
     have hm2 : (j + 1) % q.length < q.length := Nat.mod_lt _ (by omega)
     have k3 := pt_ok hq hj
     have k4 := pt_ok hq hm2
     have e3 : q.getD j (0, 0) = pt q j := rfl
     have e4 : q.getD ((j + 1) % q.length) (0, 0) = nxt q j := rfl
     simp only [impl_gap_8, dlt hi, dlt hj, d0, cond_true, deq0 (show 0 < p.length by omega), deq0 (show 0 < q.length by omega), cond_false, w64_s hi (show p.length ≤ 1000000000000 by omega), w64_s hj (show q.length ≤ 1000000000000 by omega), tm, dlt hm, dlt hm2, rd_nat, dfP, e1, e2, e3, e4]
     rw [between_eq k1 (show okP (nxt p i) = true from k2) k3 (show okP (nxt q j) = true from k4) hk]
     simp only [Option.bind_some, or2]
     unfold gapI
     cases decide (s < 0) || decide (segS (pt p i) (nxt p i) (pt q j) (nxt q j) < s) <;> rfl) (fun _ _ _ _ => trivial) q.length k 0 s (by omega) (by omega) trivial
   simp only [z0] at h
   simp only [impl_gap_5, dlt hi, cond_true, h, Option.bind_some, w64_s hi (show p.length ≤ 1000000000000 by omega)]
   rfl) (fun _ _ _ _ => trivial) p.length k 0 (-1) (by omega) (by omega) trivial
 exact h
theorem gap_loop_spec {p q : List Pt'} (hp : p.all okP = true) (hq : q.all okP = true) (hl : p.length ≤ 24) (hl2 : q.length ≤ 24) (hk : 1048577 < k) : spec_l04Distance_5 k k (p, q, (-1), 0) = some (gapF p q) := by
 have h := runF (fun g i s => spec_l04Distance_5 k g (p, q, s, (i : Int))) p.length (fun i s => gapJ p q i s) id (fun _ _ => True) (fun g s _ => by simp only [spec_l04Distance_5, dge (Nat.le_refl _), cond_false]; rfl)
  (fun g i s hi _ => by
   have hm : (i + 1) % p.length < p.length := Nat.mod_lt _ (by omega)
   have k1 := pt_ok hp hi
   have k2 := pt_ok hp hm
   have e1 : p.getD i (0, 0) = pt p i := rfl
   have e2 : p.getD ((i + 1) % p.length) (0, 0) = nxt p i := rfl
   have h := runF (fun g j s => spec_l04Distance_8 k g (p, q, s, (i : Int), (j : Int))) q.length (fun j s => gapI p q i j s) (fun s => (p, q, s, (i : Int))) (fun _ _ => True) (fun g s _ => by simp only [spec_l04Distance_8, dge (Nat.le_refl _), cond_false])
    (fun g j s hj _ => by
     have hm2 : (j + 1) % q.length < q.length := Nat.mod_lt _ (by omega)
     have k3 := pt_ok hq hj
     have k4 := pt_ok hq hm2
     have e3 : q.getD j (0, 0) = pt q j := rfl
     have e4 : q.getD ((j + 1) % q.length) (0, 0) = nxt q j := rfl
     simp only [spec_l04Distance_8, dlt hi, dlt hj, d0, cond_true, deq0 (show 0 < p.length by omega), deq0 (show 0 < q.length by omega), cond_false, w64_s hi (show p.length ≤ 1000000000000 by omega), w64_s hj (show q.length ≤ 1000000000000 by omega), tm, dlt hm, dlt hm2, rd_nat, dfP, e1, e2, e3, e4]
     rw [gap_eq k1 (show okP (nxt p i) = true from k2) k3 (show okP (nxt q j) = true from k4) hk]
     simp only [Option.bind_some, or2]
     unfold gapI
     cases decide (s < 0) || decide (segS (pt p i) (nxt p i) (pt q j) (nxt q j) < s) <;> rfl) (fun _ _ _ _ => trivial) q.length k 0 s (by omega) (by omega) trivial
   simp only [z0] at h
   simp only [spec_l04Distance_5, dlt hi, cond_true, h, Option.bind_some, w64_s hi (show p.length ≤ 1000000000000 by omega)]
   rfl) (fun _ _ _ _ => trivial) p.length k 0 (-1) (by omega) (by omega) trivial
 exact h
theorem gapD_impl {p q : List Pt'} (hp : p.all okP = true) (hq : q.all okP = true) (h1 : 0 < p.length) (h2 : 0 < q.length) (hl : p.length ≤ 24) (hl2 : q.length ≤ 24) (hk : 1048577 < k) : impl_gap k (p, q) = some (gapD p q) := by
 have e1 : rd (.pair (.int .i64) (.int .i64)) p 0 = pt p 0 := rd_nat (.pair (.int .i64) (.int .i64)) p 0
 have e2 : rd (.pair (.int .i64) (.int .i64)) q 0 = pt q 0 := rd_nat (.pair (.int .i64) (.int .i64)) q 0
 unfold impl_gap
 simp only [decide_eq_true (show (0 : Int) < (q.length : Int) by omega), decide_eq_true (show (0 : Int) < (p.length : Int) by omega), cond_true, e1, e2, inside_impl hp (pt_ok hq h2) hl hk, inside_impl hq (pt_ok hp h1) hl2 hk, Option.bind_some, or2, gap_loop_impl hp hq hl hl2 hk]
 unfold gapD
 cases decide (insD p (pt q 0) ≥ 0) || decide (insD q (pt p 0) ≥ 0) <;> rfl
theorem gapD_spec {p q : List Pt'} (hp : p.all okP = true) (hq : q.all okP = true) (h1 : 0 < p.length) (h2 : 0 < q.length) (hl : p.length ≤ 24) (hl2 : q.length ≤ 24) (hk : 1048577 < k) : spec_l04Distance k (p, q) = some (gapD p q) := by
 have e1 : rd (.pair (.int .i64) (.int .i64)) p 0 = pt p 0 := rd_nat (.pair (.int .i64) (.int .i64)) p 0
 have e2 : rd (.pair (.int .i64) (.int .i64)) q 0 = pt q 0 := rd_nat (.pair (.int .i64) (.int .i64)) q 0
 unfold spec_l04Distance
 simp only [decide_eq_true (show (0 : Int) < (q.length : Int) by omega), decide_eq_true (show (0 : Int) < (p.length : Int) by omega), cond_true, e1, e2, inside_spec hp (pt_ok hq h2) hl hk, inside_spec hq (pt_ok hp h1) hl2 hk, Option.bind_some, or2, gap_loop_spec hp hq hl hl2 hk]
 unfold gapD
 cases decide (insD p (pt q 0) ≥ 0) || decide (insD q (pt p 0) ≥ 0) <;> rfl
def farB (p q : List Pt') (s : Int) : Bool := decide ((bnd q).1 - (bnd p).2.2.1 ≥ mx 1 s) || (decide ((bnd p).1 - (bnd q).2.2.1 ≥ mx 1 s) || (decide ((bnd q).2.1 - (bnd p).2.2.2 ≥ mx 1 s) || decide ((bnd p).2.1 - (bnd q).2.2.2 ≥ mx 1 s)))
def nearI (p q : List Pt') (s : Int) : Bool := !(boxA p q || dj p q) || decide (gapD p q < s)
def nearS (p q : List Pt') (s : Int) : Bool := !farB p q s && (!dj p q || decide (gapD p q < s))
theorem near_impl {p q : List Pt'} (hp : PolyT p) (hq : PolyT q) (s m a h : Int) (hk : 1048577 < k) : impl_tooNear k (p, q, s, m, a, h) = some (nearI p q s) := by
 unfold impl_tooNear
 have pa := hp.a; have pb := hp.b; have qa := hq.a; have qb := hq.b
 simp only [apart_impl hp hq hk, Option.bind_some, gapD_impl hp.o hq.o (by omega) (by omega) pb qb hk]
 unfold nearI
 cases boxA p q || dj p q <;> rfl
theorem bnd_okP {p : List Pt'} (hp : p.all okP = true) (h0 : 0 < p.length) : (0 ≤ (bnd p).1 ∧ (bnd p).1 ≤ 20000) ∧ (0 ≤ (bnd p).2.1 ∧ (bnd p).2.1 ≤ 20000) ∧ (0 ≤ (bnd p).2.2.1 ∧ (bnd p).2.2.1 ≤ 20000) ∧ 0 ≤ (bnd p).2.2.2 ∧ (bnd p).2.2.2 ≤ 20000 := by
 obtain ⟨⟨q1, m1, e1⟩, ⟨q2, m2, e2⟩, ⟨q3, m3, e3⟩, ⟨q4, m4, e4⟩⟩ := bnd_at h0
 have ok := List.all_eq_true.1 hp
 have o1 := okP_iff.1 (ok q1 m1)
 have o2 := okP_iff.1 (ok q2 m2)
 have o3 := okP_iff.1 (ok q3 m3)
 have o4 := okP_iff.1 (ok q4 m4)
 omega
theorem near_spec {p q : List Pt'} (hp : PolyT p) (hq : PolyT q) (s : Int) (hk : 1048577 < k) : spec_l11Near k (p, q, s) = some (nearS p q s) := by
 have pa := hp.a; have pb := hp.b; have qa := hq.a; have qb := hq.b
 have b1 := bnd_okP hp.o (by omega)
 have b2 := bnd_okP hq.o (by omega)
 unfold spec_l11Near
 simp only [bounds_spec (p := p) (by omega) (by omega) hk, bounds_spec (p := q) (by omega) (by omega) hk, Option.bind_some, max_eq]
 rw [w64_id (x := (bnd q).1 - (bnd p).2.2.1) (by omega) (by omega), w64_id (x := (bnd p).1 - (bnd q).2.2.1) (by omega) (by omega), w64_id (x := (bnd q).2.1 - (bnd p).2.2.2) (by omega) (by omega), w64_id (x := (bnd p).2.1 - (bnd q).2.2.2) (by omega) (by omega)]
 simp only [or4, Option.bind_some, disjoint_spec hp hq hk, gapD_spec hp.o hq.o (by omega) (by omega) pb qb hk]
 unfold nearS farB
 cases decide ((bnd q).1 - (bnd p).2.2.1 ≥ mx 1 s) || (decide ((bnd p).1 - (bnd q).2.2.1 ≥ mx 1 s) || (decide ((bnd q).2.1 - (bnd p).2.2.2 ≥ mx 1 s) || decide ((bnd p).2.1 - (bnd q).2.2.2 ≥ mx 1 s))) with
 | true => rfl
 | false => cases dj p q <;> rfl
end
end Go.Proofs.YtgcioclfplafkaaGreatV
end

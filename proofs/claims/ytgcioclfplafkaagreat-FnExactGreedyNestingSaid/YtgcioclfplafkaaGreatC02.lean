/- Names, rings, drawings, pictures, turns; no condition. -/
import Derived.Test.YtgcioclfplafkaaGreatC01
import Derived.Laws.Concat
import Derived.Laws.Closers25b
set_option linter.all false
section
namespace Go.Proofs.YtgcioclfplafkaaGreatV
open Go Go.RowKit
def smallB (c : Int) : Bool := inB c 97 122
def digitB (c : Int) : Bool := inB c 48 57
def charB (c : Int) : Bool := smallB c || digitB c
def nameB (s : ByteArray) : Bool := decide (1 ≤ s.size) && (decide (s.size ≤ 10) && (smallB (bt s 0) && !((List.range' 0 s.size).any fun (i : Nat) => !charB (bt s (i : Int)))))
def ringB (P : List Pt') (r : List Int) : Bool := r.all fun i => inB i 0 ((P.length : Int) - 1)
def poly (P : List Pt') (r : List Int) : List Pt' := r.map fun i => pt P i.toNat
def ptBad (W H : Int) (P : List Pt') (i : Nat) : Bool := !(inB (pt P i).1 0 W) || (!(inB (pt P i).2 0 H) || (List.range' 0 i).any fun j => eqP (pt P i) (pt P j))
def fc (F : List Fc) (i : Nat) : Fc := F.getD i (ByteArray.empty, [])
def faceBad (P : List Pt') (F : List Fc) (i : Nat) : Bool := (!(nameB (fc F i).1) || (decide (0 < i) && !(Op.bytesLess (fc F (i - 1)).1.toList (fc F i).1.toList))) || (!(ringB P (fc F i).2) || !(polyB (poly P (fc F i).2)))
def drawB (W H : Int) (P : List Pt') (F : List Fc) : Bool :=
 inB W 10 20000 && (inB H 10 20000 && (decide (P.length ≤ 48) && (decide (F.length ≤ 24) && (!((List.range' 0 P.length).any (ptBad W H P)) && !((List.range' 0 F.length).any (faceBad P F))))))
theorem char_impl (c : Int) : (bif decide (c < 97) then (bif decide (c < 48) then true else decide (c > 57)) else bif decide (c > 122) then (bif decide (c < 48) then true else decide (c > 57)) else false) = !charB c := by
 unfold charB smallB digitB inB
 by_cases h1 : c < 97 <;> by_cases h2 : c > 122 <;> by_cases h3 : c < 48 <;> by_cases h4 : c > 57 <;> simp [h1, h2, h3, h4] <;> omega
theorem nil_size (s : ByteArray) : (s.toList == (ByteArray.mk (List.toArray [])).toList) = decide (s.size = 0) := by
 have e : (ByteArray.mk (List.toArray [])).toList = [] := by rw [toList_nil_iff_emptyBytes]; rfl
 rw [e, Bool.eq_iff_iff]
 simp only [beq_iff_eq, decide_eq_true_eq, toList_nil_iff_emptyBytes]
 constructor
 ·rintro rfl; rfl
 ·intro h
  have : s.data.toList = [] := List.eq_nil_of_length_eq_zero (by rw [Array.length_toList]; exact h)
  have h2 : s.data = #[] := by rw [← Array.toArray_toList (xs := s.data), this]
  cases s; simp only at h2; subst h2; rfl
section
variable {k : Nat}
theorem isName_eq (s : ByteArray) (hk : 1048577 < k) : impl_IsName k s = some (nameB s) := by
 unfold impl_IsName nameB
 by_cases h1 : 1 ≤ s.size
 ·rw [decide_eq_false (show ¬ (s.size : Int) < 1 by omega), decide_eq_true h1]
  by_cases h10 : s.size ≤ 10
  ·rw [decide_eq_false (show ¬ (s.size : Int) > 10 by omega), decide_eq_true h10, decide_eq_true (show (0 : Int) < s.size by omega)]
   simp only [cond_false, cond_true, Bool.true_and]
   have hsm : (bif decide (bt s 0 < 97) then true else decide (bt s 0 > 122)) = !smallB (bt s 0) := by
    unfold smallB inB
    by_cases a : bt s 0 < 97 <;> by_cases b : bt s 0 > 122 <;> simp [a, b] <;> omega
   have hsm2 : (bif decide (bt s 0 < 97) then (some true : Option Bool) else some (decide (bt s 0 > 122))) = some (!smallB (bt s 0)) := by
    rw [← hsm]; cases decide (bt s 0 < 97) <;> rfl
   rw [hsm2]
   cases smallB (bt s 0) with
   | false => rfl
   | true =>
    simp only [Bool.not_true, Option.bind_some, cond_false, Bool.true_and]
    have h := runS (fun g i => impl_IsName_4 k g (s, (i : Int))) s.size (fun (i : Nat) => !charB (bt s (i : Int))) (fun _ => .inr false) (.inl ()) (fun g => by simp only [impl_IsName_4, dge (Nat.le_refl _), cond_false])
     (fun g i hi => by
      simp only [impl_IsName_4, dlt hi, d0, cond_true, w64_s hi (show s.size ≤ 1000000000000 by omega)]
      rw [← char_impl]
      cases decide (bt s (i : Int) < 97) <;> cases decide (bt s (i : Int) > 122) <;> cases decide (bt s (i : Int) < 48) <;> cases decide (bt s (i : Int) > 57) <;> rfl) s.size k 0 (by omega) (by omega)
    rw [find_any] at h
    simp only [z0] at h
    rw [h]
    simp only [Option.bind_some]
    cases (List.range' 0 s.size).any fun (i : Nat) => !charB (bt s (i : Int)) <;> rfl
  ·rw [decide_eq_true (show (s.size : Int) > 10 by omega), decide_eq_false h10]; rfl
 ·rw [decide_eq_true (show (s.size : Int) < 1 by omega), decide_eq_false h1]; rfl
theorem small_eq (c : Int) : spec_l01Small k c = some (smallB c) := by
 unfold spec_l01Small smallB inB
 cases decide (c ≥ 97) <;> rfl
theorem digit_eq (c : Int) : spec_l01Digit k c = some (digitB c) := by
 unfold spec_l01Digit digitB inB
 cases decide (c ≥ 48) <;> rfl
theorem l01Name_eq (s : ByteArray) (hk : 1048577 < k) : spec_l01Name k s = some (nameB s) := by
 unfold spec_l01Name nameB
 rw [nil_size]
 by_cases h1 : 1 ≤ s.size
 ·rw [decide_eq_false (show ¬ s.size = 0 by omega), decide_eq_true h1]
  by_cases h10 : s.size ≤ 10
  ·rw [decide_eq_false (show ¬ (s.size : Int) > 10 by omega), decide_eq_true h10, decide_eq_true (show (0 : Int) < s.size by omega)]
   simp only [cond_false, cond_true, Bool.true_and, small_eq, Option.bind_some]
   cases smallB (bt s 0) with
   | false => rfl
   | true =>
    simp only [Bool.not_true, cond_false, Bool.true_and]
    have h := runS (fun g i => spec_l01Name_4 k g (s, (i : Int))) s.size (fun (i : Nat) => !charB (bt s (i : Int))) (fun _ => .inr false) (.inl ()) (fun g => by simp only [spec_l01Name_4, dge (Nat.le_refl _), cond_false])
     (fun g i hi => by
      simp only [spec_l01Name_4, dlt hi, d0, cond_true, w64_s hi (show s.size ≤ 1000000000000 by omega), small_eq, digit_eq, Option.bind_some]
      unfold charB
      cases smallB (bt s (i : Int)) <;> cases digitB (bt s (i : Int)) <;> rfl) s.size k 0 (by omega) (by omega)
    rw [find_any] at h
    simp only [z0] at h
    rw [h]
    simp only [Option.bind_some]
    cases (List.range' 0 s.size).any fun (i : Nat) => !charB (bt s (i : Int)) <;> rfl
  ·rw [decide_eq_true (show (s.size : Int) > 10 by omega), decide_eq_false h10]; rfl
 ·rw [decide_eq_true (show s.size = 0 by omega), decide_eq_false h1]; rfl
theorem drop_cons {α : Type} {l : List α} {i : Nat} (d : α) (h : i < l.length) : l.drop i = l.getD i d :: l.drop (i + 1) := by
 rw [List.getD_eq_getElem?_getD, List.getElem?_eq_getElem h, Option.getD_some]; exact List.drop_eq_getElem_cons h
theorem in_nat {i : Int} {n : Nat} (h : inB i 0 ((n : Int) - 1) = true) : ∃ j : Nat, i = (j : Int) ∧ j < n := by
 unfold inB at h
 rw [Bool.and_eq_true, decide_eq_true_eq, decide_eq_true_eq] at h
 exact ⟨i.toNat, by omega, by omega⟩
theorem ring_impl (P : List Pt') (hP : P.length ≤ 1048576) (r : List Int) (hr : r.length ≤ 1048576) : ∀ (d g i : Nat) (s : List Pt'), i + d = r.length → d < g → s.length = i →
  impl_ringPolygon_3 k g (P, r, (r.length : Int), (i : Int), s) = some (bif ringB P (r.drop i) then .inl (s ++ poly P (r.drop i)) else .inr (false, []))
 | 0, g + 1, i, s, h, _, hs => by
  have : i = r.length := by omega
  subst this
  simp only [impl_ringPolygon_3, dge (Nat.le_refl _), cond_false, List.drop_length, ringB, poly, List.all_nil, List.map_nil, List.append_nil, cond_true]
 | d + 1, g + 1, i, s, h, hg, hs => by
  have hi : i < r.length := by omega
  have e0 : dflt (.int .i64) = (0 : Int) := rfl
  rw [drop_cons 0 hi]
  simp only [impl_ringPolygon_3, dlt hi, d0, cond_true, rd_nat, e0, within_eq, Option.bind_some, w64_s hi (by omega), ringB, poly, List.all_cons, List.map_cons]
  rw [w64_id (x := (P.length : Int) - 1) (by omega) (by omega)]
  cases hin : inB (r.getD i 0) 0 ((P.length : Int) - 1) with
  | false => rfl
  | true =>
   obtain ⟨j, hj, hjl⟩ := in_nat hin
   rw [hj]
   simp only [Bool.not_true, cond_false, d0, dlt hjl, cond_true, rd_nat, dfP, Bool.true_and, Int.toNat_natCast]
   rw [decide_eq_true (show (s.length + (((P.getD j (0, 0)).1, (P.getD j (0, 0)).2) :: ([] : List Pt')).length) * 16 ≤ 140737488355328 by simp; omega)]
   simp only [cond_true]
   have := ring_impl P hP r hr d g (i + 1) (s ++ [pt P j]) (by omega) (by omega) (by simp [hs])
   unfold pt at this
   rw [this]
   simp only [ringB, poly, List.append_assoc, List.singleton_append]
   rfl
 | _, 0, _, _, _, hg, _ => by omega
theorem ringPolygon_eq (P : List Pt') (hP : P.length ≤ 1048576) (r : List Int) (hr : r.length ≤ 1048576) (hk : 1048577 < k) : impl_ringPolygon k (P, r) = some (bif ringB P r then (poly P r, true) else ([], false)) := by
 have h := ring_impl (k := k) P hP r hr r.length k 0 [] (by omega) (by omega) rfl
 simp only [z0, List.drop_zero, List.nil_append] at h
 unfold impl_ringPolygon
 simp only [h, Option.bind_some]
 cases ringB P r <;> rfl
theorem ring_spec (W H : Int) (P : List Pt') (F : List Fc) (hP : P.length ≤ 1048576) (r : List Int) (hr : r.length ≤ 1048576) : ∀ (d g i : Nat) (s : List Pt'), i + d = r.length → d < g → s.length = i →
  spec_l05Ring_3 k g (W, H, P, F, r, (i : Int), s) = some (bif ringB P (r.drop i) then .inl (s ++ poly P (r.drop i)) else .inr (false, []))
 | 0, g + 1, i, s, h, _, hs => by
  have : i = r.length := by omega
  subst this
  simp only [spec_l05Ring_3, dge (Nat.le_refl _), cond_false, List.drop_length, ringB, poly, List.all_nil, List.map_nil, List.append_nil, cond_true]
 | d + 1, g + 1, i, s, h, hg, hs => by
  have hi : i < r.length := by omega
  have e0 : dflt (.int .i64) = (0 : Int) := rfl
  rw [drop_cons 0 hi]
  simp only [spec_l05Ring_3, dlt hi, d0, cond_true, rd_nat, e0, l00In_eq, Option.bind_some, w64_s hi (by omega), ringB, poly, List.all_cons, List.map_cons]
  rw [w64_id (x := (P.length : Int) - 1) (by omega) (by omega)]
  cases hin : inB (r.getD i 0) 0 ((P.length : Int) - 1) with
  | false => rfl
  | true =>
   obtain ⟨j, hj, hjl⟩ := in_nat hin
   rw [hj]
   simp only [Bool.not_true, cond_false, d0, dlt hjl, cond_true, rd_nat, dfP, Bool.true_and, Int.toNat_natCast]
   rw [decide_eq_true (show (s.length + (((P.getD j (0, 0)).1, (P.getD j (0, 0)).2) :: ([] : List Pt')).length) * 16 ≤ 140737488355328 by simp; omega)]
   simp only [cond_true]
   have := ring_spec W H P F hP r hr d g (i + 1) (s ++ [pt P j]) (by omega) (by omega) (by simp [hs])
   unfold pt at this
   rw [this]
   simp only [ringB, poly, List.append_assoc, List.singleton_append]
   rfl
 | _, 0, _, _, _, hg, _ => by omega
theorem l05Ring_eq (W H : Int) (P : List Pt') (F : List Fc) (hP : P.length ≤ 1048576) (r : List Int) (hr : r.length ≤ 1048576) (hk : 1048577 < k) : spec_l05Ring k (W, H, P, F, r) = some (bif ringB P r then (poly P r, true) else ([], false)) := by
 have h := ring_spec (k := k) W H P F hP r hr r.length k 0 [] (by omega) (by omega) rfl
 simp only [z0, List.drop_zero, List.nil_append] at h
 unfold spec_l05Ring
 simp only [h, Option.bind_some]
 cases ringB P r <;> rfl
end
end Go.Proofs.YtgcioclfplafkaaGreatV
end
section
namespace Go.Proofs.YtgcioclfplafkaaGreatV
open Go Go.RowKit
theorem dfF : dflt (.pair .str (.sl (.int .i64))) = ((ByteArray.empty, []) : Fc) := rfl
theorem dfV : dflt (.pair .str (.pair (.int .i64) (.int .i64))) = ((ByteArray.empty, 0, 0) : Vn) := rfl
theorem dgt0 (i : Nat) : decide ((i : Int) > 0) = decide (0 < i) := by by_cases h : 0 < i; rw [decide_eq_true h, decide_eq_true (by omega)]; rw [decide_eq_false h, decide_eq_false (by omega)]
theorem w64_m {i n : Nat} (h : i < n) (hn : n ≤ 1000000000000) (h0 : 0 < i) : w64 ((i : Int) - 1) = ((i - 1 : Nat) : Int) := by
 rw [w64_id (by omega) (by omega)]; omega
section
variable {k : Nat}
theorem index_eq (l : List Pt') (q : Pt') (hl : l.length ≤ 1048576) (hk : 1048577 < k) : slices_Index k (l, q.1, q.2) = some (match (List.range' 0 l.length).find? (fun j => eqP q (pt l j)) with | some j => (j : Int) | none => -1) := by
 have h := runS (fun g i => slices_Index_2 k g (l, (l.length : Int), (i : Int), q.1, q.2)) l.length (fun j => eqP q (pt l j)) (fun j => .inr (j : Int)) (.inl ()) (fun g => by simp only [slices_Index_2, dge (Nat.le_refl _), cond_false])
  (fun g i hi => by
   simp only [slices_Index_2, dlt hi, d0, cond_true, rd_nat, dfP, w64_s hi (show l.length ≤ 1000000000000 by omega)]
   rfl) l.length k 0 (by omega) (by omega)
 unfold slices_Index
 simp only [z0] at h
 simp only [h, Option.bind_some]
 cases (List.range' 0 l.length).find? (fun j => eqP q (pt l j)) <;> rfl
theorem contains_eq (l : List Pt') (q : Pt') (hl : l.length ≤ 1048576) (hk : 1048577 < k) : slices_Contains k (l, q.1, q.2) = some ((List.range' 0 l.length).any fun j => eqP q (pt l j)) := by
 unfold slices_Contains
 simp only [index_eq l q hl hk, Option.bind_some]
 congr 1
 cases h : (List.range' 0 l.length).find? (fun j => eqP q (pt l j)) with
 | none =>
  have : ((List.range' 0 l.length).any fun j => eqP q (pt l j)) = false := by
   rw [List.any_eq_false]
   intro x hx
   have := List.find?_eq_none.1 h x hx
   simpa using this
  rw [this]; rfl
 | some j =>
  have : ((List.range' 0 l.length).any fun j => eqP q (pt l j)) = true := List.any_eq_true.2 ⟨j, List.mem_of_find?_eq_some h, List.find?_some (p := fun j => eqP q (pt l j)) h⟩
  rw [this]
  simp only
  exact decide_eq_true (by omega)
theorem win_pt (P : List Pt') (i : Nat) (hi : i ≤ P.length) : (win P 0 i).length = i ∧ ∀ j, j < i → pt (win P 0 i) j = pt P j := by
 unfold win pt
 refine ⟨by simp; omega, fun j hj => ?_⟩
 simp only [List.getD_eq_getElem?_getD, List.drop_zero, Nat.sub_zero]
 rw [List.getElem?_take, if_pos hj]
theorem any_congr {l : List Nat} {f g : Nat → Bool} (h : ∀ x ∈ l, f x = g x) : l.any f = l.any g := by
 induction l with
 | nil => rfl
 | cons x l ih => rw [List.any_cons, List.any_cons, h x (by simp), ih (fun y hy => h y (by simp [hy]))]
theorem pts_impl (W H : Int) (P : List Pt') (F : List Fc) (hP : P.length ≤ 1048576) (hk : 1048577 < k) : impl_ValidDrawing_4 k k (P, (P.length : Int), 0, W, H, P, F) = some (bif (List.range' 0 P.length).any (ptBad W H P) then .inr false else .inl (W, H, P, F)) := by
 have h := runS (fun g i => impl_ValidDrawing_4 k g (P, (P.length : Int), (i : Int), W, H, P, F)) P.length (ptBad W H P) (fun _ => .inr false) (.inl (W, H, P, F)) (fun g => by simp only [impl_ValidDrawing_4, dge (Nat.le_refl _), cond_false])
  (fun g i hi => by
   have hw := win_pt P i (by omega)
   simp only [impl_ValidDrawing_4, dlt hi, d0, cond_true, rd_nat, dfP, w64_s hi (show P.length ≤ 1000000000000 by omega), within_eq, Option.bind_some, Int.toNat_natCast]
   rw [show Int.toNat 0 = 0 from rfl, contains_eq _ _ (by rw [hw.1]; omega) hk, hw.1, any_congr (g := fun j => eqP (P.getD i (0, 0)) (pt P j)) (fun x hx => by rw [hw.2 x (by simpa using hx)]), decide_eq_true (show ((i : Int) ≤ (P.length : Int)) by omega)]
   simp only [Option.bind_some, cond_true]
   unfold ptBad
   rw [show pt P i = P.getD i (0, 0) from rfl]
   cases inB (P.getD i (0, 0)).1 0 W <;> cases inB (P.getD i (0, 0)).2 0 H <;> rfl) P.length k 0 (by omega) (by omega)
 rw [find_any] at h
 exact h
theorem ptsj_spec (W H : Int) (P : List Pt') (F : List Fc) (hP : P.length ≤ 1048576) (hk : 1048577 < k) {i : Nat} (hi : i < P.length) : spec_l05Points_9 k k (W, H, P, F, (i : Int), 0) = some (bif (List.range' 0 i).any (fun j => eqP (pt P i) (pt P j)) then .inr false else .inl (W, H, P, F, (i : Int))) := by
 have h := runS (fun g j => spec_l05Points_9 k g (W, H, P, F, (i : Int), (j : Int))) i (fun j => eqP (pt P i) (pt P j)) (fun _ => .inr false) (.inl (W, H, P, F, (i : Int))) (fun g => by simp only [spec_l05Points_9, dge (Nat.le_refl _), cond_false])
  (fun g j hj => by
   simp only [spec_l05Points_9, dlt hj, dlt hi, dlt (show j < P.length by omega), d0, cond_true, rd_nat, dfP, w64_s hj (show i ≤ 1000000000000 by omega)]
   rfl) i k 0 (by omega) (by omega)
 rw [find_any] at h
 exact h
theorem points_spec (W H : Int) (P : List Pt') (F : List Fc) (hk : 1048577 < k) : spec_l05Points k (W, H, P, F) = some (decide (P.length ≤ 48) && !((List.range' 0 P.length).any (ptBad W H P))) := by
 unfold spec_l05Points
 by_cases h48 : P.length ≤ 48
 ·have h := runS (fun g i => spec_l05Points_4 k g (W, H, P, F, (i : Int))) P.length (ptBad W H P) (fun _ => .inr false) (.inl ()) (fun g => by simp only [spec_l05Points_4, dge (Nat.le_refl _), cond_false])
   (fun g i hi => by
    simp only [spec_l05Points_4, dlt hi, d0, cond_true, rd_nat, dfP, l00In_eq, Option.bind_some, ptsj_spec W H P F (by omega) hk hi]
    unfold ptBad
    rw [show P.getD i (0, 0) = pt P i from rfl]
    cases inB (pt P i).1 0 W with
    | false => rfl
    | true =>
     cases inB (pt P i).2 0 H with
     | false => rfl
     | true =>
      simp only [Bool.not_true, cond_false, Option.bind_some, Bool.false_or]
      cases (List.range' 0 i).any (fun j => eqP (pt P i) (pt P j)) with
      | true => rfl
      | false => simp only [cond_false, w64_s hi (show P.length ≤ 1000000000000 by omega)]) P.length k 0 (by omega) (by omega)
  rw [find_any] at h
  simp only [z0] at h
  simp only [h, Option.bind_some]
  rw [decide_eq_false (show ¬ (P.length : Int) > 48 by omega), decide_eq_true h48]
  cases (List.range' 0 P.length).any (ptBad W H P) <;> rfl
 ·rw [decide_eq_false h48]
  simp only
  rw [decide_eq_true (show (P.length : Int) > 48 by omega)]; rfl
theorem poly_len (P : List Pt') (r : List Int) : (poly P r).length = r.length := by simp [poly]
theorem faces_impl (W H : Int) (P : List Pt') (F : List Fc) (hP : P.length ≤ 1048576) (hF : F.length ≤ 1048576) (hr : ∀ x ∈ F, x.2.length ≤ 1048576) (hk : 1048577 < k) : impl_ValidDrawing_10 k k (F, (F.length : Int), 0, W, H, P, F) = some (bif (List.range' 0 F.length).any (faceBad P F) then .inr false else .inl ()) := by
 have h := runS (fun g i => impl_ValidDrawing_10 k g (F, (F.length : Int), (i : Int), W, H, P, F)) F.length (faceBad P F) (fun _ => .inr false) (.inl ()) (fun g => by simp only [impl_ValidDrawing_10, dge (Nat.le_refl _), cond_false])
  (fun g i hi => by
   have hri := hr _ (getD_mem (d := (ByteArray.empty, [])) hi)
   simp only [impl_ValidDrawing_10, dlt hi, d0, cond_true, rd_nat, dfF, w64_s hi (show F.length ≤ 1000000000000 by omega), isName_eq _ hk, Option.bind_some, ringPolygon_eq P hP _ hri hk, dgt0]
   unfold faceBad
   rw [show F.getD i (ByteArray.empty, []) = fc F i from rfl] at hri ⊢
   have hfirst : (bif !nameB (fc F i).1 then some true else bif decide (0 < i) then (bif decide (0 ≤ w64 ((i : Int) - 1)) then (bif decide (w64 ((i : Int) - 1) < (F.length : Int)) then some (!Op.bytesLess (rd (.pair .str (.sl (.int .i64))) F (w64 ((i : Int) - 1))).1.toList (fc F i).1.toList) else none) else none) else some false) = some (!(nameB (fc F i).1) || (decide (0 < i) && !(Op.bytesLess (fc F (i - 1)).1.toList (fc F i).1.toList))) := by
    cases nameB (fc F i).1 with
    | false => rfl
    | true =>
     by_cases h0 : 0 < i
     ·rw [decide_eq_true h0, w64_m hi (by omega) h0]
      simp only [Bool.not_true, cond_false, cond_true, d0, dlt (show i - 1 < F.length by omega), rd_nat, dfF]
      rfl
     ·rw [decide_eq_false h0]; rfl
   rw [hfirst]
   simp only [Option.bind_some]
   cases !(nameB (fc F i).1) || (decide (0 < i) && !(Op.bytesLess (fc F (i - 1)).1.toList (fc F i).1.toList)) with
   | true => rfl
   | false =>
    simp only [cond_false, Bool.false_or]
    cases ringB P (fc F i).2 with
    | false => rfl
    | true =>
     simp only [cond_true, Option.bind_some, Bool.not_true, cond_false, Bool.false_or]
     rw [validPolygon_eq _ (by rw [poly_len]; exact hri) hk]
     simp only [Option.bind_some]) F.length k 0 (by omega) (by omega)
 rw [find_any] at h
 exact h
theorem faces_spec (W H : Int) (P : List Pt') (F : List Fc) (hP : P.length ≤ 1048576) (hF : F.length ≤ 1048576) (hr : ∀ x ∈ F, x.2.length ≤ 1048576) (hk : 1048577 < k) : spec_l05Ok_4 k k (W, H, P, F, 0) = some (bif (List.range' 0 F.length).any (faceBad P F) then .inr false else .inl ()) := by
 have h := runS (fun g i => spec_l05Ok_4 k g (W, H, P, F, (i : Int))) F.length (faceBad P F) (fun _ => .inr false) (.inl ()) (fun g => by simp only [spec_l05Ok_4, dge (Nat.le_refl _), cond_false])
  (fun g i hi => by
   have hri := hr _ (getD_mem (d := (ByteArray.empty, [])) hi)
   simp only [spec_l05Ok_4, dlt hi, d0, cond_true, rd_nat, dfF, w64_s hi (show F.length ≤ 1000000000000 by omega), l01Name_eq _ hk, Option.bind_some, l05Ring_eq W H P F hP _ hri hk, dgt0]
   unfold faceBad
   rw [show F.getD i (ByteArray.empty, []) = fc F i from rfl] at hri ⊢
   have hfirst : (bif !nameB (fc F i).1 then some true else bif decide (0 < i) then (bif decide (0 ≤ w64 ((i : Int) - 1)) then (bif decide (w64 ((i : Int) - 1) < (F.length : Int)) then some (!Op.bytesLess (rd (.pair .str (.sl (.int .i64))) F (w64 ((i : Int) - 1))).1.toList (fc F i).1.toList) else none) else none) else some false) = some (!(nameB (fc F i).1) || (decide (0 < i) && !(Op.bytesLess (fc F (i - 1)).1.toList (fc F i).1.toList))) := by
    cases nameB (fc F i).1 with
    | false => rfl
    | true =>
     by_cases h0 : 0 < i
     ·rw [decide_eq_true h0, w64_m hi (by omega) h0]
      simp only [Bool.not_true, cond_false, cond_true, d0, dlt (show i - 1 < F.length by omega), rd_nat, dfF]
      rfl
     ·rw [decide_eq_false h0]; rfl
   rw [hfirst]
   simp only [Option.bind_some]
   cases !(nameB (fc F i).1) || (decide (0 < i) && !(Op.bytesLess (fc F (i - 1)).1.toList (fc F i).1.toList)) with
   | true => rfl
   | false =>
    simp only [cond_false, Bool.false_or]
    cases ringB P (fc F i).2 with
    | false => rfl
    | true =>
     simp only [cond_true, Option.bind_some, Bool.not_true, cond_false, Bool.false_or]
     rw [l03Ok_eq _ (by rw [poly_len]; exact hri) hk]
     simp only [Option.bind_some]) F.length k 0 (by omega) (by omega)
 rw [find_any] at h
 exact h
theorem drawing_impl (W H : Int) (P : List Pt') (F : List Fc) (hP : P.length ≤ 1048576) (hF : F.length ≤ 1048576) (hr : ∀ x ∈ F, x.2.length ≤ 1048576) (hk : 1048577 < k) : impl_ValidDrawing k (W, H, P, F) = some (drawB W H P F) := by
 unfold impl_ValidDrawing drawB
 simp only [within_eq, Option.bind_some]
 cases inB W 10 20000 with
 | false => rfl
 | true =>
  cases inB H 10 20000 with
  | false => rfl
  | true =>
   simp only [Bool.not_true, cond_false, Bool.true_and]
   by_cases h48 : P.length ≤ 48
   ·rw [decide_eq_false (show ¬ (P.length : Int) > 48 by omega), decide_eq_true h48]
    by_cases h24 : F.length ≤ 24
    ·rw [decide_eq_false (show ¬ (F.length : Int) > 24 by omega), decide_eq_true h24]
     simp only [cond_false, Option.bind_some, pts_impl W H P F hP hk, Bool.true_and]
     cases (List.range' 0 P.length).any (ptBad W H P) with
     | true => rfl
     | false =>
      simp only [cond_false, faces_impl W H P F hP hF hr hk, Option.bind_some, Bool.not_false, Bool.true_and]
      cases (List.range' 0 F.length).any (faceBad P F) <;> rfl
    ·rw [decide_eq_true (show (F.length : Int) > 24 by omega), decide_eq_false h24]; rfl
   ·rw [decide_eq_true (show (P.length : Int) > 48 by omega), decide_eq_false h48]; rfl
theorem drawing_spec (W H : Int) (P : List Pt') (F : List Fc) (hP : P.length ≤ 1048576) (hF : F.length ≤ 1048576) (hr : ∀ x ∈ F, x.2.length ≤ 1048576) (hk : 1048577 < k) : spec_l05Ok k (W, H, P, F) = some (drawB W H P F) := by
 unfold spec_l05Ok drawB
 simp only [l00In_eq, Option.bind_some, points_spec W H P F hk]
 cases inB W 10 20000 with
 | false => rfl
 | true =>
  cases inB H 10 20000 with
  | false => rfl
  | true =>
   simp only [Bool.not_true, cond_false, Bool.true_and]
   cases decide (P.length ≤ 48) with
   | false => rfl
   | true =>
    by_cases h24 : F.length ≤ 24
    ·rw [decide_eq_false (show ¬ (F.length : Int) > 24 by omega), decide_eq_true h24]
     simp only [Bool.true_and]
     cases (List.range' 0 P.length).any (ptBad W H P) with
     | true => rfl
     | false =>
      simp only [Bool.not_false, Bool.not_true, cond_false, faces_spec W H P F hP hF hr hk, Option.bind_some, Bool.true_and]
      cases (List.range' 0 F.length).any (faceBad P F) <;> rfl
    ·rw [decide_eq_true (show (F.length : Int) > 24 by omega), decide_eq_false h24]
     simp only [Bool.true_and, Bool.false_and]
     cases (List.range' 0 P.length).any (ptBad W H P) <;> rfl
end
end Go.Proofs.YtgcioclfplafkaaGreatV
end
section
namespace Go.Proofs.YtgcioclfplafkaaGreatV
open Go Go.RowKit
def nm0 : ByteArray := ByteArray.mk (List.toArray (97 :: (115 :: (104 :: []))))
def nm1 : ByteArray := ByteArray.mk (List.toArray (98 :: (101 :: (101 :: (99 :: (104 :: []))))))
def nm2 : ByteArray := ByteArray.mk (List.toArray (98 :: (105 :: (114 :: (99 :: (104 :: []))))))
def nm3 : ByteArray := ByteArray.mk (List.toArray (99 :: (104 :: (101 :: (114 :: (114 :: (121 :: [])))))))
def nm4 : ByteArray := ByteArray.mk (List.toArray (101 :: (98 :: (111 :: (110 :: (121 :: []))))))
def nm5 : ByteArray := ByteArray.mk (List.toArray (104 :: (111 :: (108 :: (108 :: (121 :: []))))))
def nm6 : ByteArray := ByteArray.mk (List.toArray (109 :: (97 :: (112 :: (108 :: (101 :: []))))))
def nm7 : ByteArray := ByteArray.mk (List.toArray (111 :: (97 :: (107 :: []))))
def nm8 : ByteArray := ByteArray.mk (List.toArray (114 :: (111 :: (115 :: (101 :: (119 :: (111 :: (111 :: (100 :: [])))))))))
def nm9 : ByteArray := ByteArray.mk (List.toArray (119 :: (97 :: (108 :: (110 :: (117 :: (116 :: [])))))))
def nms : List ByteArray := [nm0, nm1, nm2, nm3, nm4, nm5, nm6, nm7, nm8, nm9]
def shadeOf (s : ByteArray) : Option Int :=
 bif s.toList == nm0.toList then some 20 else bif s.toList == nm1.toList then some 35 else bif s.toList == nm2.toList then some 15 else bif s.toList == nm3.toList then some 50 else bif s.toList == nm4.toList then some 95 else
 bif s.toList == nm5.toList then some 5 else bif s.toList == nm6.toList then some 10 else bif s.toList == nm7.toList then some 40 else bif s.toList == nm8.toList then some 80 else bif s.toList == nm9.toList then some 70 else none
def vnB (v : Vn) : Bool := match shadeOf v.1 with | some sh => inB v.2.1 0 100 && (inB (v.2.1 - sh) (-15) 15 && inB v.2.2 0 179) | none => false
theorem beqc (a b : List UInt8) : (a == b) = (b == a) := by
 rw [Bool.eq_iff_iff]; simp only [beq_iff_eq]; exact eq_comm
def vn (V : List Vn) (i : Nat) : Vn := V.getD i (ByteArray.empty, 0, 0)
def idxOf (s : ByteArray) : Int :=
 bif s.toList == nm0.toList then 0 else bif s.toList == nm1.toList then 1 else bif s.toList == nm2.toList then 2 else bif s.toList == nm3.toList then 3 else bif s.toList == nm4.toList then 4 else
 bif s.toList == nm5.toList then 5 else bif s.toList == nm6.toList then 6 else bif s.toList == nm7.toList then 7 else bif s.toList == nm8.toList then 8 else bif s.toList == nm9.toList then 9 else (-1)
def tabl : List (List Int) := [[20, 40, 310], [35, 45, 410], [15, 33, 280], [50, 36, 240], [95, 85, 270], [5, 35, 370], [10, 42, 290], [40, 40, 330], [80, 60, 220], [70, 38, 260]]
section
variable {k : Nat}
theorem shade_eq (s : ByteArray) : impl_speciesShade k s = some (match shadeOf s with | some sh => (sh, true) | none => (0, false)) := by
 unfold impl_speciesShade impl_SpeciesData shadeOf
 simp only [nm0, nm1, nm2, nm3, nm4, nm5, nm6, nm7, nm8, nm9]
 generalize (s.toList == (ByteArray.mk (List.toArray (97 :: (115 :: (104 :: []))))).toList) = b0
 generalize (s.toList == (ByteArray.mk (List.toArray (98 :: (101 :: (101 :: (99 :: (104 :: []))))))).toList) = b1
 generalize (s.toList == (ByteArray.mk (List.toArray (98 :: (105 :: (114 :: (99 :: (104 :: []))))))).toList) = b2
 generalize (s.toList == (ByteArray.mk (List.toArray (99 :: (104 :: (101 :: (114 :: (114 :: (121 :: [])))))))).toList) = b3
 generalize (s.toList == (ByteArray.mk (List.toArray (101 :: (98 :: (111 :: (110 :: (121 :: []))))))).toList) = b4
 generalize (s.toList == (ByteArray.mk (List.toArray (104 :: (111 :: (108 :: (108 :: (121 :: []))))))).toList) = b5
 generalize (s.toList == (ByteArray.mk (List.toArray (109 :: (97 :: (112 :: (108 :: (101 :: []))))))).toList) = b6
 generalize (s.toList == (ByteArray.mk (List.toArray (111 :: (97 :: (107 :: []))))).toList) = b7
 generalize (s.toList == (ByteArray.mk (List.toArray (114 :: (111 :: (115 :: (101 :: (119 :: (111 :: (111 :: (100 :: [])))))))))).toList) = b8
 generalize (s.toList == (ByteArray.mk (List.toArray (119 :: (97 :: (108 :: (110 :: (117 :: (116 :: [])))))))).toList) = b9
 cases b0 with
 | true => rfl
 | false =>
  cases b1 with
  | true => rfl
  | false =>
  cases b2 with
  | true => rfl
  | false =>
   cases b3 with
   | true => rfl
   | false =>
   cases b4 with
   | true => rfl
   | false =>
    cases b5 with
    | true => rfl
    | false =>
    cases b6 with
    | true => rfl
    | false =>
     cases b7 with
     | true => rfl
     | false =>
     cases b8 with
     | true => rfl
     | false =>
      cases b9 with
      | true => rfl
      | false =>
      rfl
theorem vn_impl (v : Vn) : impl_ValidVeneer k (v.1, v.2.1, v.2.2) = some (vnB v) := by
 unfold impl_ValidVeneer vnB
 simp only [shade_eq, Option.bind_some]
 have hb : ∀ sh, shadeOf v.1 = some sh → 0 ≤ sh ∧ sh ≤ 100 := by
  intro sh
  unfold shadeOf
  generalize v.1 = s
  simp only [nm0, nm1, nm2, nm3, nm4, nm5, nm6, nm7, nm8, nm9]
  generalize (s.toList == (ByteArray.mk (List.toArray (97 :: (115 :: (104 :: []))))).toList) = b0
  generalize (s.toList == (ByteArray.mk (List.toArray (98 :: (101 :: (101 :: (99 :: (104 :: []))))))).toList) = b1
  generalize (s.toList == (ByteArray.mk (List.toArray (98 :: (105 :: (114 :: (99 :: (104 :: []))))))).toList) = b2
  generalize (s.toList == (ByteArray.mk (List.toArray (99 :: (104 :: (101 :: (114 :: (114 :: (121 :: [])))))))).toList) = b3
  generalize (s.toList == (ByteArray.mk (List.toArray (101 :: (98 :: (111 :: (110 :: (121 :: []))))))).toList) = b4
  generalize (s.toList == (ByteArray.mk (List.toArray (104 :: (111 :: (108 :: (108 :: (121 :: []))))))).toList) = b5
  generalize (s.toList == (ByteArray.mk (List.toArray (109 :: (97 :: (112 :: (108 :: (101 :: []))))))).toList) = b6
  generalize (s.toList == (ByteArray.mk (List.toArray (111 :: (97 :: (107 :: []))))).toList) = b7
  generalize (s.toList == (ByteArray.mk (List.toArray (114 :: (111 :: (115 :: (101 :: (119 :: (111 :: (111 :: (100 :: [])))))))))).toList) = b8
  generalize (s.toList == (ByteArray.mk (List.toArray (119 :: (97 :: (108 :: (110 :: (117 :: (116 :: [])))))))).toList) = b9
  intro h
  cases b0 with
  | true => (simp only [cond_true, cond_false, Option.some.injEq] at h; omega)
  | false =>
   cases b1 with
   | true => (simp only [cond_true, cond_false, Option.some.injEq] at h; omega)
   | false =>
   cases b2 with
   | true => (simp only [cond_true, cond_false, Option.some.injEq] at h; omega)
   | false =>
    cases b3 with
    | true => (simp only [cond_true, cond_false, Option.some.injEq] at h; omega)
    | false =>
    cases b4 with
    | true => (simp only [cond_true, cond_false, Option.some.injEq] at h; omega)
    | false =>
     cases b5 with
     | true => (simp only [cond_true, cond_false, Option.some.injEq] at h; omega)
     | false =>
     cases b6 with
     | true => (simp only [cond_true, cond_false, Option.some.injEq] at h; omega)
     | false =>
      cases b7 with
      | true => (simp only [cond_true, cond_false, Option.some.injEq] at h; omega)
      | false =>
      cases b8 with
      | true => (simp only [cond_true, cond_false, Option.some.injEq] at h; omega)
      | false =>
       cases b9 with
       | true => (simp only [cond_true, cond_false, Option.some.injEq] at h; omega)
       | false =>
       simp [cond_true, cond_false] at h
 cases hs : shadeOf v.1 with
 | none => rfl
 | some sh =>
  obtain ⟨h0, h1⟩ := hb sh hs
  simp only [cond_true, within_eq, Option.bind_some]
  cases hi : inB v.2.1 0 100 with
  | false => rfl
  | true =>
   have hi2 : 0 ≤ v.2.1 ∧ v.2.1 ≤ 100 := by
    unfold inB at hi
    rw [Bool.and_eq_true, decide_eq_true_eq, decide_eq_true_eq] at hi
    exact hi
   rw [w64_id (by omega) (by omega)]
   simp only [cond_true, Bool.true_and]
   cases inB (v.2.1 - sh) (-15) 15 <;> rfl
theorem find_eq (s : ByteArray) (hk : 1048577 < k) : spec_l07Find k s = some (idxOf s) := by
 have h := runS (fun g i => spec_l07Find_3 k g (s, (i : Int), nms)) 10 (fun i => s.toList == (nms.getD i ByteArray.empty).toList) (fun i => .inr (i : Int)) (.inl ()) (fun g => by simp only [spec_l07Find_3, show nms.length = 10 from rfl, dge (Nat.le_refl _), cond_false])
  (fun g i hi => by
   simp only [spec_l07Find_3, show nms.length = 10 from rfl, dlt hi, d0, cond_true, Int.toNat_natCast, w64_s hi (show 10 ≤ 1000000000000 by decide), show dflt .str = ByteArray.empty from rfl]
   rw [beqc]) 10 k 0 (by omega) (by omega)
 unfold spec_l07Find spec_l07Names
 simp only [z0] at h
 simp only [Option.bind_some]
 have e : nms = [nm0, nm1, nm2, nm3, nm4, nm5, nm6, nm7, nm8, nm9] := rfl
 have h2 : spec_l07Find_3 k k (s, 0, [nm0, nm1, nm2, nm3, nm4, nm5, nm6, nm7, nm8, nm9]) = _ := h
 have h3 : (List.range' 0 10).find? (fun i => s.toList == (nms.getD i ByteArray.empty).toList) = bif s.toList == nm0.toList then some 0 else bif s.toList == nm1.toList then some 1 else bif s.toList == nm2.toList then some 2 else bif s.toList == nm3.toList then some 3 else bif s.toList == nm4.toList then some 4 else
  bif s.toList == nm5.toList then some 5 else bif s.toList == nm6.toList then some 6 else bif s.toList == nm7.toList then some 7 else bif s.toList == nm8.toList then some 8 else bif s.toList == nm9.toList then some 9 else none := by
  have e10 : List.range' 0 10 = [0, 1, 2, 3, 4, 5, 6, 7, 8, 9] := rfl
  rw [e10]
  simp only [List.find?_cons, List.find?_nil, nms, List.getD_cons_zero, List.getD_cons_succ]
  cases s.toList == nm0.toList <;> cases s.toList == nm1.toList <;> first | rfl | skip
  all_goals (cases s.toList == nm2.toList <;> first | rfl | skip)
  all_goals (cases s.toList == nm3.toList <;> first | rfl | skip)
  all_goals (cases s.toList == nm4.toList <;> first | rfl | skip)
  all_goals (cases s.toList == nm5.toList <;> first | rfl | skip)
  all_goals (cases s.toList == nm6.toList <;> first | rfl | skip)
  all_goals (cases s.toList == nm7.toList <;> first | rfl | skip)
  all_goals (cases s.toList == nm8.toList <;> first | rfl | skip)
  all_goals (cases s.toList == nm9.toList <;> rfl)
 rw [h3] at h2
 show ((spec_l07Find_3 k k (s, 0, [nm0, nm1, nm2, nm3, nm4, nm5, nm6, nm7, nm8, nm9])).bind fun r => match r with | .inl _ => some (-1) | .inr z1 => some z1) = _
 rw [h2]
 unfold idxOf
 generalize (s.toList == nm0.toList) = b0
 generalize (s.toList == nm1.toList) = b1
 generalize (s.toList == nm2.toList) = b2
 generalize (s.toList == nm3.toList) = b3
 generalize (s.toList == nm4.toList) = b4
 generalize (s.toList == nm5.toList) = b5
 generalize (s.toList == nm6.toList) = b6
 generalize (s.toList == nm7.toList) = b7
 generalize (s.toList == nm8.toList) = b8
 generalize (s.toList == nm9.toList) = b9
 cases b0 with
 | true => rfl
 | false =>
  cases b1 with
  | true => rfl
  | false =>
  cases b2 with
  | true => rfl
  | false =>
   cases b3 with
   | true => rfl
   | false =>
   cases b4 with
   | true => rfl
   | false =>
    cases b5 with
    | true => rfl
    | false =>
    cases b6 with
    | true => rfl
    | false =>
     cases b7 with
     | true => rfl
     | false =>
     cases b8 with
     | true => rfl
     | false =>
      cases b9 with
      | true => rfl
      | false =>
      rfl
theorem l07_tail (a1 a2 : Int) (j : Nat) (hj : j < 10) (sh : Int) (h0 : 0 ≤ sh) (h1 : sh ≤ 100) (hl : 0 < (tabl.getD j []).length) (hsh : (tabl.getD j []).getD 0 0 = sh) :
  ((((bif (decide ((j : Int) < 0)) then some true else ((spec_l00In k (a1, 0, 100)).bind fun y1 => some (!y1))) : Option (Bool)).bind fun b2 => (bif b2 then some false else ((spec_l07Table k ()).bind fun y3 => (bif (decide (0 ≤ (j : Int))) then (bif (decide ((j : Int) < (y3.length : Int))) then (bif (decide (0 < ((rd (.sl (.int .i64)) y3 (j : Int)).length : Int))) then ((spec_l00In k (a1, (w64 ((rd (.int .i64) (rd (.sl (.int .i64)) y3 (j : Int)) 0) - 15)), (w64 ((rd (.int .i64) (rd (.sl (.int .i64)) y3 (j : Int)) 0) + 15)))).bind fun y4 => (bif y4 then ((spec_l07Grain k a2).bind fun y5 => some y5) else some false)) else none) else none) else none))))) = some (inB a1 0 100 && (inB (a1 - sh) (-15) 15 && inB a2 0 179)) := by
 have ht : spec_l07Table k () = some tabl := rfl
 have hlen : tabl.length = 10 := rfl
 simp only [ht, Option.bind_some, l00In_eq, hlen, dlt hj, d0, cond_true, rd_nat]
 rw [decide_eq_false (show ¬ (j : Int) < 0 by omega)]
 simp only [cond_false, Option.bind_some]
 have e1 : dflt (.sl (.int .i64)) = ([] : List Int) := rfl
 have e2 : dflt (.int .i64) = (0 : Int) := rfl
 have e3 : ∀ xs : List Int, rd (.int .i64) xs 0 = xs.getD 0 0 := fun xs => rfl
 rw [e1]
 simp only [e3, hsh]
 rw [decide_eq_true (show (0 : Int) < (((tabl.getD j []).length : Nat) : Int) by omega), w64_id (x := sh - 15) (by omega) (by omega), w64_id (x := sh + 15) (by omega) (by omega)]
 have e4 : inB a1 (sh - 15) (sh + 15) = inB (a1 - sh) (-15) 15 := by
  unfold inB
  congr 1
  ·by_cases h : a1 ≥ sh - 15
   ·rw [decide_eq_true h, decide_eq_true (by omega)]
   ·rw [decide_eq_false h, decide_eq_false (by omega)]
  ·by_cases h : a1 ≤ sh + 15
   ·rw [decide_eq_true h, decide_eq_true (by omega)]
   ·rw [decide_eq_false h, decide_eq_false (by omega)]
 rw [e4]
 unfold spec_l07Grain
 simp only [l00In_eq, Option.bind_some, cond_true]
 cases inB a1 0 100 <;> cases inB (a1 - sh) (-15) 15 <;> rfl
theorem vn_spec (v : Vn) (hk : 1048577 < k) : spec_l07Ok k (v.1, v.2.1, v.2.2) = some (vnB v) := by
 unfold spec_l07Ok vnB
 simp only [find_eq _ hk, Option.bind_some]
 generalize v.2.1 = a1
 generalize v.2.2 = a2
 unfold idxOf shadeOf
 generalize v.1 = s
 generalize (s.toList == nm0.toList) = b0
 generalize (s.toList == nm1.toList) = b1
 generalize (s.toList == nm2.toList) = b2
 generalize (s.toList == nm3.toList) = b3
 generalize (s.toList == nm4.toList) = b4
 generalize (s.toList == nm5.toList) = b5
 generalize (s.toList == nm6.toList) = b6
 generalize (s.toList == nm7.toList) = b7
 generalize (s.toList == nm8.toList) = b8
 generalize (s.toList == nm9.toList) = b9
 cases b0 with
 | true => exact l07_tail a1 a2 0 (by decide) 20 (by decide) (by decide) (by decide) rfl
 | false =>
  cases b1 with
  | true => exact l07_tail a1 a2 1 (by decide) 35 (by decide) (by decide) (by decide) rfl
  | false =>
  cases b2 with
  | true => exact l07_tail a1 a2 2 (by decide) 15 (by decide) (by decide) (by decide) rfl
  | false =>
   cases b3 with
   | true => exact l07_tail a1 a2 3 (by decide) 50 (by decide) (by decide) (by decide) rfl
   | false =>
   cases b4 with
   | true => exact l07_tail a1 a2 4 (by decide) 95 (by decide) (by decide) (by decide) rfl
   | false =>
    cases b5 with
    | true => exact l07_tail a1 a2 5 (by decide) 5 (by decide) (by decide) (by decide) rfl
    | false =>
    cases b6 with
    | true => exact l07_tail a1 a2 6 (by decide) 10 (by decide) (by decide) (by decide) rfl
    | false =>
     cases b7 with
     | true => exact l07_tail a1 a2 7 (by decide) 40 (by decide) (by decide) (by decide) rfl
     | false =>
     cases b8 with
     | true => exact l07_tail a1 a2 8 (by decide) 80 (by decide) (by decide) (by decide) rfl
     | false =>
      cases b9 with
      | true => exact l07_tail a1 a2 9 (by decide) 70 (by decide) (by decide) (by decide) rfl
      | false =>
      rfl
theorem veneers_spec (V : List Vn) (hV : V.length ≤ 1048576) (hk : 1048577 < k) : spec_l08Veneers k V = some (!((List.range' 0 V.length).any fun i => !vnB (vn V i))) := by
 have h := runS (fun g i => spec_l08Veneers_2 k g (V, (i : Int))) V.length (fun i => !vnB (vn V i)) (fun _ => .inr false) (.inl ()) (fun g => by simp only [spec_l08Veneers_2, dge (Nat.le_refl _), cond_false])
  (fun g i hi => by
   simp only [spec_l08Veneers_2, dlt hi, d0, cond_true, rd_nat, dfV, w64_s hi (show V.length ≤ 1000000000000 by omega)]
   rw [show V.getD i (ByteArray.empty, 0, 0) = vn V i from rfl, vn_spec _ hk]
   simp only [Option.bind_some]) V.length k 0 (by omega) (by omega)
 rw [find_any] at h
 unfold spec_l08Veneers
 simp only [z0] at h
 simp only [h, Option.bind_some]
 cases (List.range' 0 V.length).any fun i => !vnB (vn V i) <;> rfl
theorem veneers_impl (V : List Vn) (hV : V.length ≤ 1048576) (hk : 1048577 < k) : impl_validVeneers k V = some (!((List.range' 0 V.length).any fun i => !vnB (vn V i))) := by
 have h := runS (fun g i => slices_IndexFunc_2 k g (V, (V.length : Int), (i : Int))) V.length (fun i => !vnB (vn V i)) (fun i => .inr (i : Int)) (.inl ()) (fun g => by simp only [slices_IndexFunc_2, dge (Nat.le_refl _), cond_false])
  (fun g i hi => by
   simp only [slices_IndexFunc_2, impl_validVeneers_1, dlt hi, d0, cond_true, rd_nat, dfV, w64_s hi (show V.length ≤ 1000000000000 by omega)]
   rw [show V.getD i (ByteArray.empty, 0, 0) = vn V i from rfl, vn_impl]
   simp only [Option.bind_some]) V.length k 0 (by omega) (by omega)
 unfold impl_validVeneers slices_ContainsFunc slices_IndexFunc
 simp only [z0] at h
 simp only [h, Option.bind_some]
 cases hf : (List.range' 0 V.length).find? (fun i => !vnB (vn V i)) with
 | none =>
  have : ((List.range' 0 V.length).any fun i => !vnB (vn V i)) = false := by
   rw [List.any_eq_false]
   intro x hx
   have := List.find?_eq_none.1 hf x hx
   simpa using this
  rw [this]; rfl
 | some j =>
  have : ((List.range' 0 V.length).any fun i => !vnB (vn V i)) = true := List.any_eq_true.2 ⟨j, List.mem_of_find?_eq_some hf, List.find?_some (p := fun i => !vnB (vn V i)) hf⟩
  rw [this]
  simp only [Option.bind_some]
  rw [decide_eq_true (show (j : Int) ≥ 0 by omega)]
def picB (W H : Int) (P : List Pt') (F : List Fc) (V : List Vn) : Bool := drawB W H P F && (decide (V.length = F.length) && !((List.range' 0 V.length).any fun i => !vnB (vn V i)))
theorem beqn (a b : Nat) : ((a : Int) == (b : Int)) = decide (a = b) := by
 by_cases h : a = b
 ·subst h; simp
 ·rw [decide_eq_false h]; exact beq_eq_false_iff_ne.2 (by omega)
theorem pic_impl (W H : Int) {P : List Pt'} {F : List Fc} {V : List Vn} (hs : Small P F V) (hk : 1048577 < k) : impl_ValidPicture k (W, H, P, F, V) = some (picB W H P F V) := by
 unfold impl_ValidPicture picB
 simp only [drawing_impl W H P F hs.p hs.f hs.r hk, veneers_impl V hs.v hk, Option.bind_some, beqn]
 cases drawB W H P F <;> cases decide (V.length = F.length) <;> rfl
theorem pic_spec (W H : Int) {P : List Pt'} {F : List Fc} {V : List Vn} (hs : Small P F V) (hk : 1048577 < k) : spec_l08Ok k (W, H, P, F, V) = some (picB W H P F V) := by
 unfold spec_l08Ok picB
 simp only [drawing_spec W H P F hs.p hs.f hs.r hk, veneers_spec V hs.v hk, Option.bind_some, beqn]
 cases drawB W H P F <;> cases decide (V.length = F.length) <;> cases (List.range' 0 V.length).any fun i => !vnB (vn V i) <;> rfl
end
end Go.Proofs.YtgcioclfplafkaaGreatV
end
section
namespace Go.Proofs.YtgcioclfplafkaaGreatV
open Go Go.RowKit
def rotI : Nat → Pt' → Pt'
 | 0, p => p
 | m + 1, p => rotI m (-p.2, p.1)
def turnP (t : Nat) (p : Pt') : Pt' := rotI (t % 4) (if 4 ≤ t then (-p.1, p.2) else p)
def turnG (t : Nat) (g : Int) : Int := if 4 ≤ t then (180 - g + 90 * (t : Int)) % 180 else (g + 90 * (t : Int)) % 180
def big (p : Pt') : Prop := (-20000 ≤ p.1 ∧ p.1 ≤ 20000) ∧ -20000 ≤ p.2 ∧ p.2 ≤ 20000
theorem rotI_big : ∀ (m : Nat) (p : Pt'), big p → big (rotI m p)
 | 0, _, h => h
 | m + 1, p, h => rotI_big m _ (by unfold big at *; simp only; omega)
theorem turnP_big (t : Nat) {p : Pt'} (h : big p) : big (turnP t p) := by
 unfold turnP
 refine rotI_big _ _ ?_
 split
 ·unfold big at *; simp only; omega
 ·exact h
structure Valid (W H : Int) (P : List Pt') (F : List Fc) (V : List Vn) : Prop where
 w : 10 ≤ W ∧ W ≤ 20000
 h : 10 ≤ H ∧ H ≤ 20000
 np : P.length ≤ 48
 nf : F.length ≤ 24
 p : ∀ p ∈ P, 0 ≤ p.1 ∧ p.1 ≤ W ∧ 0 ≤ p.2 ∧ p.2 ≤ H
 f : ∀ f ∈ F, ringB P f.2 = true ∧ polyB (poly P f.2) = true
 v : V.length = F.length
 g : ∀ v ∈ V, 0 ≤ v.2.2 ∧ v.2.2 ≤ 179
theorem inB_iff {x a b : Int} : inB x a b = true ↔ a ≤ x ∧ x ≤ b := by unfold inB; simp only [Bool.and_eq_true, decide_eq_true_eq, ge_iff_le]
theorem mem_idx {α : Type} {l : List α} {x : α} (d : α) (h : x ∈ l) : ∃ i, i < l.length ∧ l.getD i d = x := by
 obtain ⟨i, hi, e⟩ := List.getElem_of_mem h
 exact ⟨i, hi, by rw [List.getD_eq_getElem?_getD, List.getElem?_eq_getElem hi, Option.getD_some, e]⟩
theorem valid_of {W H : Int} {P : List Pt'} {F : List Fc} {V : List Vn} (h : picB W H P F V = true) : Valid W H P F V := by
 unfold picB drawB at h
 simp only [Bool.and_eq_true, decide_eq_true_eq, inB_iff, Bool.not_eq_true'] at h
 obtain ⟨⟨h1, h2, h3, h4, h5, h6⟩, h7, h8⟩ := h
 rw [List.any_eq_false] at h5 h6 h8
 refine ⟨h1, h2, h3, h4, fun p hp => ?_, fun f hf => ?_, h7, fun v hv => ?_⟩
 ·obtain ⟨i, hi, e⟩ := mem_idx (0, 0) hp
  have := h5 i (by simpa using hi)
  unfold ptBad at this
  rw [show pt P i = p from e] at this
  simp only [Bool.or_eq_true, Bool.not_eq_true', not_or, Bool.not_eq_false] at this
  have a := inB_iff.1 this.1
  have b := inB_iff.1 this.2.1
  exact ⟨a.1, a.2, b.1, b.2⟩
 ·obtain ⟨i, hi, e⟩ := mem_idx (ByteArray.empty, []) hf
  have := h6 i (by simpa using hi)
  unfold faceBad at this
  rw [show fc F i = f from e] at this
  simp only [Bool.or_eq_true, Bool.not_eq_true', not_or, Bool.not_eq_false] at this
  exact ⟨this.2.1, this.2.2⟩
 ·obtain ⟨i, hi, e⟩ := mem_idx (ByteArray.empty, 0, 0) hv
  have := h8 i (by simpa using hi)
  rw [show vn V i = v from e] at this
  simp only [Bool.not_eq_true', Bool.not_eq_false] at this
  unfold vnB at this
  split at this
  ·simp only [Bool.and_eq_true, inB_iff] at this
   exact this.2.2
  ·cases this
section
variable {k : Nat}
theorem turn4_spec (a b : Int) : ∀ (m g : Nat) (p : Pt'), m < g → big p → m ≤ 3 → spec_l02Turned_4 k g ((m : Int), p.1, p.2, a, b) = some ((rotI m p).1, (rotI m p).2, a, b)
 | 0, g + 1, p, _, _, _ => rfl
 | m + 1, g + 1, p, hg, hb, hm => by
  unfold big at hb
  simp only [spec_l02Turned_4]
  rw [decide_eq_true (show ((m + 1 : Nat) : Int) > 0 by omega), w64_id (x := ((m + 1 : Nat) : Int) - 1) (by omega) (by omega), w64_id (x := 0 - p.2) (by omega) (by omega), show ((m + 1 : Nat) : Int) - 1 = (m : Int) by omega, show 0 - p.2 = -p.2 by omega]
  exact turn4_spec a b m g (-p.2, p.1) (by omega) (by unfold big; simp only; omega) (by omega)
 | _, 0, _, hg, _, _ => by omega
theorem turn4_impl (a b : Int) : ∀ (m g : Nat) (p : Pt'), m < g → big p → m ≤ 3 → impl_Turned_6 k g ((m : Int), p.1, p.2, a, b) = some ((rotI m p).1, (rotI m p).2, a, b)
 | 0, g + 1, p, _, _, _ => rfl
 | m + 1, g + 1, p, hg, hb, hm => by
  unfold big at hb
  simp only [impl_Turned_6]
  rw [decide_eq_true (show ((m + 1 : Nat) : Int) > 0 by omega), w64_id (x := ((m + 1 : Nat) : Int) - 1) (by omega) (by omega), w64_id (x := 0 - p.2) (by omega) (by omega), show ((m + 1 : Nat) : Int) - 1 = (m : Int) by omega, show 0 - p.2 = -p.2 by omega]
  exact turn4_impl a b m g (-p.2, p.1) (by omega) (by unfold big; simp only; omega) (by omega)
 | _, 0, _, hg, _, _ => by omega
theorem tm4 (t : Nat) : Int.tmod (t : Int) 4 = ((t % 4 : Nat) : Int) := tm t 4
theorem turned_spec (t : Nat) (ht : t < 8) (p : Pt') (hb : big p) (hk : 1048577 < k) : spec_l02Turned k (p.1, p.2, (t : Int)) = some ((turnP t p).1, (turnP t p).2) := by
 unfold spec_l02Turned turnP
 simp only [tm4]
 have h4 := Nat.mod_lt t (show 0 < 4 by decide)
 by_cases h : 4 ≤ t
 ·rw [decide_eq_true (show (t : Int) ≥ 4 by omega), if_pos h]
  have hb' := hb
  unfold big at hb'
  rw [w64_id (x := 0 - p.1) (by omega) (by omega), show 0 - p.1 = -p.1 by omega]
  have := turn4_spec (k := k) 0 0 (t % 4) k (-p.1, p.2) (by omega) (by unfold big; simp only; omega) (by omega)
  simp only at this
  simp only [cond_true, this, Option.bind_some]
 ·rw [decide_eq_false (show ¬ (t : Int) ≥ 4 by omega), if_neg h]
  have := turn4_spec (k := k) 0 0 (t % 4) k p (by omega) hb (by omega)
  simp only [cond_false, this, Option.bind_some]
theorem turned_impl (t : Nat) (ht : t < 8) (p : Pt') (hb : big p) (hk : 1048577 < k) : impl_Turned k (p.1, p.2, (t : Int)) = some ((turnP t p).1, (turnP t p).2) := by
 have hb' := hb
 unfold big at hb'
 unfold impl_Turned turnP
 simp only [tm4, within_eq, Option.bind_some]
 rw [inB_iff.2 (show (0 : Int) ≤ (t : Int) ∧ (t : Int) ≤ 7 by omega), inB_iff.2 (show (-20000 : Int) ≤ p.1 ∧ p.1 ≤ 20000 by omega), inB_iff.2 (show (-20000 : Int) ≤ p.2 ∧ p.2 ≤ 20000 by omega)]
 simp only [Bool.not_true, cond_false, Option.bind_some]
 have h4 := Nat.mod_lt t (show 0 < 4 by decide)
 by_cases h : 4 ≤ t
 ·rw [decide_eq_true (show (t : Int) > 3 by omega), if_pos h]
  rw [w64_id (x := 0 - p.1) (by omega) (by omega), show 0 - p.1 = -p.1 by omega]
  have := turn4_impl (k := k) 0 0 (t % 4) k (-p.1, p.2) (by omega) (by unfold big; simp only; omega) (by omega)
  simp only at this
  simp only [cond_true, this, Option.bind_some]
 ·rw [decide_eq_false (show ¬ (t : Int) > 3 by omega), if_neg h]
  have := turn4_impl (k := k) 0 0 (t % 4) k p (by omega) hb (by omega)
  simp only [cond_false, this, Option.bind_some]
theorem grain_w (t : Nat) (ht : t < 8) (g : Int) (h0 : 0 ≤ g) (h1 : g ≤ 179) : (bif decide ((t : Int) ≥ 4) then Int.tmod (w64 ((w64 (180 - g)) + (w64 (90 * (t : Int))))) 180 else Int.tmod (w64 (g + (w64 (90 * (t : Int))))) 180) = turnG t g := by
 unfold turnG
 rw [w64_id (x := 90 * (t : Int)) (by omega) (by omega)]
 by_cases h : 4 ≤ t
 ·rw [decide_eq_true (show (t : Int) ≥ 4 by omega), if_pos h, w64_id (x := 180 - g) (by omega) (by omega), w64_id (by omega) (by omega)]
  exact Int.tmod_eq_emod_of_nonneg (by omega)
 ·rw [decide_eq_false (show ¬ (t : Int) ≥ 4 by omega), if_neg h, w64_id (x := g + 90 * (t : Int)) (by omega) (by omega)]
  exact Int.tmod_eq_emod_of_nonneg (by omega)
theorem grain_spec (t : Nat) (ht : t < 8) (g : Int) (h0 : 0 ≤ g) (h1 : g ≤ 179) : spec_l07Turned k (g, (t : Int)) = some (turnG t g) := by
 rw [← grain_w t ht g h0 h1]
 unfold spec_l07Turned
 simp only
 cases decide ((t : Int) ≥ 4) <;> rfl
theorem grain_impl (t : Nat) (ht : t < 8) (g : Int) (h0 : 0 ≤ g) (h1 : g ≤ 179) : impl_TurnGrain k (g, (t : Int)) = some (turnG t g, 0) := by
 rw [← grain_w t ht g h0 h1]
 unfold impl_TurnGrain
 simp only [within_eq, Option.bind_some]
 rw [inB_iff.2 (show (0 : Int) ≤ g ∧ g ≤ 179 by omega), inB_iff.2 (show (0 : Int) ≤ (t : Int) ∧ (t : Int) ≤ 7 by omega)]
 have e : decide ((t : Int) > 3) = decide ((t : Int) ≥ 4) := by
  by_cases h : (t : Int) > 3
  ·rw [decide_eq_true h, decide_eq_true (by omega)]
  ·rw [decide_eq_false h, decide_eq_false (by omega)]
 rw [e]
 cases decide ((t : Int) ≥ 4) <;> rfl
end
end Go.Proofs.YtgcioclfplafkaaGreatV
end

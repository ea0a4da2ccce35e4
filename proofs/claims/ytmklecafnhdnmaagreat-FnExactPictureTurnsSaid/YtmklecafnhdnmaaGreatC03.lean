/- Turned pictures; the symmetric turns' loops; no condition. -/
import Derived.Test.YtmklecafnhdnmaaGreatC02
set_option linter.all false
section
/- The turned picture: program and reference compute the same; no condition. -/
namespace Go.Proofs.YtmklecafnhdnmaaGreatV
open Go Go.RowKit
/-- the turned picture -/
def trn (t : Nat) (W H : Int) (P : List Pt') (F : List Fc) (V : List Vn) : Int × Int × List Pt' × List Fc × List Vn := (if t % 2 = 1 then H else W, if t % 2 = 1 then W else H, P.map (fpt t W H), F.map (frf t), V.map (fvn t))
theorem mn0 (x : Int) : (if 0 < x then 0 else x) = mn 0 x := by unfold mn; split <;> split <;> omega
section
variable {k : Nat} {W H : Int} {P : List Pt'} {F : List Fc} {V : List Vn}
theorem big_wh (hv : Valid W H P F V) : big (W, H) := by
  have h1 := hv.w
  have h2 := hv.h
  unfold big; simp only; omega
theorem big_pt (hv : Valid W H P F V) {p : Pt'} (hp : p ∈ P) : big p := by
  have h1 := hv.w
  have h2 := hv.h
  have h3 := hv.p p hp
  unfold big; omega
theorem fpt_w (hv : Valid W H P F V) (t : Nat) {p : Pt'} (hp : p ∈ P) : w64 ((turnP t p).1 - mn 0 (turnP t (W, H)).1) = (fpt t W H p).1 ∧ w64 ((turnP t p).2 - mn 0 (turnP t (W, H)).2) = (fpt t W H p).2 := by
  have h1 := turnP_big t (big_pt hv hp)
  have h2 := turnP_big t (big_wh hv)
  unfold big at h1 h2
  have h3 : ∀ x, -20000 ≤ x → x ≤ 20000 → -20000 ≤ mn 0 x ∧ mn 0 x ≤ 20000 := fun x a b => by unfold mn; split <;> omega
  have h4 := h3 _ h2.1.1 h2.1.2
  have h5 := h3 _ h2.2.1 h2.2.2
  exact ⟨w64_id (by omega) (by omega), w64_id (by omega) (by omega)⟩
theorem pts_loop_spec (hv : Valid W H P F V) (t : Nat) (ht : t < 8) (hk : 1048577 < k) (x2 x3 : Int) (x4 : List Pt') (x5 : List Fc) (x6 : List Vn) (x7 x8 x9 x10 : Int) (x13 : List Pt') (x14 : List Fc) (x15 : List Vn) (x17 : List Fc) (x18 : List Vn) :
    spec_TurnPicture_11 k k ((t : Int), 0, x2, x3, x4, x5, x6, x7, x8, x9, x10, (turnP t (W, H)).1, (turnP t (W, H)).2, x13, x14, x15, P, x17, x18) = some ((t : Int), x2, x3, x4, x5, x6, x7, x8, x9, x10, x13, x14, x15, P.map (fpt t W H), x17, x18) := by
  have hnp := hv.np
  have h := runF (fun g i s => spec_TurnPicture_11 k g ((t : Int), (i : Int), x2, x3, x4, x5, x6, x7, x8, x9, x10, (turnP t (W, H)).1, (turnP t (W, H)).2, x13, x14, x15, s, x17, x18)) P.length
    (fun i s => s.set i ((fun i (p : Pt') => ((w64 ((turnP t p).1 - mn 0 (turnP t (W, H)).1)), (w64 ((turnP t p).2 - mn 0 (turnP t (W, H)).2)))) i (s.getD i (0, 0)))) (fun s => ((t : Int), x2, x3, x4, x5, x6, x7, x8, x9, x10, x13, x14, x15, s, x17, x18)) (fun i s => s.length = P.length ∧ ∀ j, i ≤ j → j < P.length → s.getD j (0, 0) = P.getD j (0, 0))
    (fun g s hs => by simp only [spec_TurnPicture_11, hs.1, dge (Nat.le_refl _), cond_false])
    (fun g i s hi hs => by
      have hb : big (s.getD i (0, 0)) := by rw [hs.2 i (Nat.le_refl _) hi]; exact big_pt hv (getD_mem hi)
      simp only [spec_TurnPicture_11, hs.1, dlt hi, d0, cond_true, Int.toNat_natCast, dfP, w64_s hi (show P.length ≤ 1000000000000 by omega), min_eq, Option.bind_some]
      rw [turned_spec t ht _ hb hk]
      simp only [Option.bind_some])
    (fun i s hi hs => ⟨by simpa using hs.1, fun j h1 h2 => by rw [List.getD_eq_getElem?_getD, List.getElem?_set, if_neg (by omega), ← List.getD_eq_getElem?_getD]; exact hs.2 j (by omega) h2⟩) P.length k 0 P (by omega) (by omega) ⟨rfl, fun _ _ _ => rfl⟩
  rw [set_fold3 (0, 0) P (fun i p => ((w64 ((turnP t p).1 - mn 0 (turnP t (W, H)).1)), (w64 ((turnP t p).2 - mn 0 (turnP t (W, H)).2)))) (fpt t W H) (fun i hi => by
    have := fpt_w hv t (getD_mem (d := (0, 0)) hi)
    rw [this.1, this.2]) P.length 0 P rfl (by omega) (fun j hj => by omega) (fun _ _ _ => rfl)] at h
  simp only [z0] at h
  exact h
theorem back_loop (t : Int) (f : Int) (r : List Int) (hr : r.length ≤ 1048576) (x4 x5 : Int) (x6 : List Pt') (x7 : List Fc) (x8 : List Vn) (x9 x10 x11 x12 : Int) (x14 : List Pt') (x15 : List Fc) (x16 : List Vn) (x17 : List Pt') (x18 : List Fc) (x19 : List Vn) :
    ∀ (i g : Nat) (s : List Int), i < g → i < r.length → s.length + i ≤ 1048577 → spec_TurnPicture_24 k g (t, f, r, (i : Int), x4, x5, x6, x7, x8, x9, x10, x11, x12, s, x14, x15, x16, x17, x18, x19) = some (t, f, x4, x5, x6, x7, x8, x9, x10, x11, x12, s ++ ((r.drop 1).take i).reverse, x14, x15, x16, x17, x18, x19)
  | 0, g + 1, s, _, _, _ => by simp only [spec_TurnPicture_24, List.take_zero, List.reverse_nil, List.append_nil]; rfl
  | i + 1, g + 1, s, hg, hi, hs => by
    simp only [spec_TurnPicture_24, dlt hi, d0, cond_true, rd_nat]
    rw [decide_eq_true (show ((i + 1 : Nat) : Int) > 0 by omega), w64_m hi (by omega) (by omega), show i + 1 - 1 = i from rfl, decide_eq_true (show (s.length + (r.getD (i + 1) (dflt (.int .i64)) :: ([] : List Int)).length) * 8 ≤ 140737488355328 by simp; omega)]
    simp only [cond_true]
    rw [back_loop t f r hr x4 x5 x6 x7 x8 x9 x10 x11 x12 x14 x15 x16 x17 x18 x19 i g (s ++ [r.getD (i + 1) (dflt (.int .i64))]) (by omega) (by omega) (by simp; omega)]
    have e : ((r.drop 1).take (i + 1)).reverse = r.getD (i + 1) (dflt (.int .i64)) :: ((r.drop 1).take i).reverse := by
      have hl : i < (r.drop 1).length := by simp; omega
      rw [List.take_succ_eq_append_getElem hl, List.reverse_append]
      have : (r.drop 1)[i] = r.getD (i + 1) (dflt (.int .i64)) := by
        rw [List.getElem_drop, List.getD_eq_getElem?_getD, List.getElem?_eq_getElem hi, Option.getD_some]
        congr 1; omega
      rw [this]; rfl
    rw [e, List.append_assoc]; rfl
  | _, 0, _, hg, _, _ => by omega
theorem turnR_ge {t : Nat} (h : 4 ≤ t) {r : List Int} (hr : 0 < r.length) : [r.getD 0 0] ++ ((r.drop 1).take (r.length - 1)).reverse = turnR t r := by
  unfold turnR
  rw [if_pos h]
  cases r with
  | nil => simp at hr
  | cons x r => simp
theorem prod_map {α β : Type} (d : α) (e : β) (xs : List α) (ys : List β) (hl : ys.length = xs.length) (f : α → α) (g : β → β) : ∀ (n i : Nat) (s : List α × List β), s.1.length = xs.length → s.2.length = xs.length → i + n = xs.length →
    (∀ j, j < i → s.1.getD j d = f (xs.getD j d) ∧ s.2.getD j e = g (ys.getD j e)) → (∀ j, i ≤ j → j < xs.length → s.1.getD j d = xs.getD j d ∧ s.2.getD j e = ys.getD j e) →
    (List.range' i n).foldl (fun s i => (s.1.set i (f (s.1.getD i d)), s.2.set i (g (s.2.getD i e)))) s = (xs.map f, ys.map g)
  | 0, i, s, h1, h2, hi, hj, _ => by
    simp only [List.range'_zero, List.foldl_nil]
    obtain ⟨a, b⟩ := s
    simp only at h1 h2 hj
    congr 1
    · apply List.ext_getElem (by simp; omega)
      intro k q1 q2
      have := (hj k (by omega)).1
      have h3 : k < xs.length := by omega
      rw [List.getD_eq_getElem?_getD, List.getD_eq_getElem?_getD, List.getElem?_eq_getElem q1, List.getElem?_eq_getElem h3] at this
      simpa using this
    · apply List.ext_getElem (by simp; omega)
      intro k q1 q2
      have := (hj k (by omega)).2
      have h3 : k < ys.length := by omega
      rw [List.getD_eq_getElem?_getD, List.getD_eq_getElem?_getD, List.getElem?_eq_getElem q1, List.getElem?_eq_getElem h3] at this
      simpa using this
  | n + 1, i, s, h1, h2, hi, hj, hk => by
    simp only [List.range'_succ, List.foldl_cons]
    have hs : ∀ {γ : Type} (l : List γ) (d v : γ) (j : Nat), i < l.length → (l.set i v).getD j d = if i = j then v else l.getD j d := fun l d v j hl => by
      rw [List.getD_eq_getElem?_getD, List.getElem?_set]
      by_cases e : i = j
      · rw [if_pos e, if_pos e, if_pos (by omega)]; rfl
      · rw [if_neg e, if_neg e, ← List.getD_eq_getElem?_getD]
    refine prod_map d e xs ys hl f g n (i + 1) _ (by simpa using h1) (by simpa using h2) (by omega) (fun j hji => ?_) (fun j q1 q2 => ?_)
    · simp only
      rw [hs _ _ _ _ (by omega), hs _ _ _ _ (by omega)]
      by_cases e' : i = j
      · subst e'
        rw [if_pos rfl, if_pos rfl, (hk i (Nat.le_refl _) (by omega)).1, (hk i (Nat.le_refl _) (by omega)).2]
        exact ⟨rfl, rfl⟩
      · rw [if_neg e', if_neg e']; exact hj j (by omega)
    · simp only
      rw [hs _ _ _ _ (by omega), hs _ _ _ _ (by omega), if_neg (by omega), if_neg (by omega)]
      exact hk j (by omega) q2
theorem faces_loop_spec (hv : Valid W H P F V) (t : Nat) (ht : t < 8) (hk : 1048577 < k) (x2 x3 : Int) (x4 : List Pt') (x7 x8 x9 x10 : Int) (x11 : List Pt') (x12 : List Fc) (x13 : List Vn) (x14 : List Pt') :
    spec_TurnPicture_18 k k ((t : Int), 0, x2, x3, x4, F, V, x7, x8, x9, x10, x11, x12, x13, x14, F, V) = some (x7, x8, x9, x10, x11, x12, x13, x14, F.map (frf t), V.map (fvn t)) := by
  have hnf := hv.nf
  have hvl := hv.v
  have h := runF (fun g i (s : List Fc × List Vn) => spec_TurnPicture_18 k g ((t : Int), (i : Int), x2, x3, x4, F, V, x7, x8, x9, x10, x11, x12, x13, x14, s.1, s.2)) F.length
    (fun i s => (s.1.set i (frf t (s.1.getD i (ByteArray.empty, []))), s.2.set i (fvn t (s.2.getD i (ByteArray.empty, 0, 0))))) (fun s => (x7, x8, x9, x10, x11, x12, x13, x14, s.1, s.2)) (fun i s => (s.1.length = F.length ∧ s.2.length = F.length) ∧ ∀ j, i ≤ j → j < F.length → s.1.getD j (ByteArray.empty, []) = F.getD j (ByteArray.empty, []) ∧ s.2.getD j (ByteArray.empty, 0, 0) = V.getD j (ByteArray.empty, 0, 0))
    (fun g s hs => by simp only [spec_TurnPicture_18, hs.1.1, dge (Nat.le_refl _), cond_false])
    (fun g i s hi hs => by
      obtain ⟨hs1, hs2⟩ := hs
      obtain ⟨e1, e2⟩ := hs2 i (Nat.le_refl _) hi
      have hri := hv.f _ (getD_mem (d := (ByteArray.empty, [])) hi)
      have hrl := ring_len hri.2
      have hg := hv.g _ (getD_mem (d := (ByteArray.empty, 0, 0)) (show i < V.length by omega))
      have hset : ∀ (l : List Fc), l.length = F.length → l.set i (l.getD i (ByteArray.empty, [])) = l := fun l hl => by
        apply List.ext_getElem?
        intro j
        rw [List.getElem?_set]
        by_cases e : i = j
        · subst e
          rw [if_pos rfl, if_pos (by omega), List.getD_eq_getElem?_getD, List.getElem?_eq_getElem (by omega)]; rfl
        · rw [if_neg e]
      simp only [spec_TurnPicture_18, hs1.1, hs1.2, hvl, dlt hi, d0, cond_true, rd_nat, dfF, dfV, Int.toNat_natCast, w64_s hi (show F.length ≤ 1000000000000 by omega)]
      rw [grain_spec t ht _ hg.1 hg.2, e1, e2]
      by_cases h4 : 4 ≤ t
      · rw [decide_eq_true (show (t : Int) ≥ 4 by omega), decide_eq_true (show (0 : Int) < ((F.getD i (ByteArray.empty, [])).2.length : Int) by omega)]
        simp only [cond_true]
        rw [w64_id (x := ((F.getD i (ByteArray.empty, [])).2.length : Int) - 1) (by omega) (by omega), show ((F.getD i (ByteArray.empty, [])).2.length : Int) - 1 = (((F.getD i (ByteArray.empty, [])).2.length - 1 : Nat) : Int) by omega,
          back_loop (k := k) (t : Int) (i : Int) (F.getD i (ByteArray.empty, [])).2 (by omega) x2 x3 x4 F V x7 x8 x9 x10 x11 x12 x13 x14 s.1 s.2 ((F.getD i (ByteArray.empty, [])).2.length - 1) k [rd (.int .i64) (F.getD i (ByteArray.empty, [])).2 0] (by omega) (by omega) (by simp only [List.length_singleton]; omega)]
        simp only [Option.bind_some, hs1.1, hs1.2, hvl, dlt hi, d0, cond_true, rd_nat, dfF, dfV, Int.toNat_natCast, w64_s hi (show F.length ≤ 1000000000000 by omega)]
        rw [grain_spec t ht _ hg.1 hg.2, e1, e2, show rd (.int .i64) (F.getD i (ByteArray.empty, [])).2 0 = (F.getD i (ByteArray.empty, [])).2.getD 0 0 from rfl, turnR_ge h4 (by omega)]
        simp only [Option.bind_some]
        rfl
      · rw [decide_eq_false (show ¬ (t : Int) ≥ 4 by omega)]
        simp only [cond_false, Option.bind_some]
        have e3 : frf t (F.getD i (ByteArray.empty, [])) = F.getD i (ByteArray.empty, []) := by unfold frf turnR; rw [if_neg h4]
        rw [e3, ← e1, hset s.1 hs1.1]
        rfl)
    (fun i s hi hs => by
      obtain ⟨hs1, hs2⟩ := hs
      refine ⟨by simpa using hs1, fun j h1 h2 => ?_⟩
      simp only
      rw [List.getD_eq_getElem?_getD, List.getElem?_set, if_neg (by omega), ← List.getD_eq_getElem?_getD, List.getD_eq_getElem?_getD (a := (ByteArray.empty, 0, 0)), List.getElem?_set, if_neg (by omega), ← List.getD_eq_getElem?_getD]
      exact hs2 j (by omega) h2) F.length k 0 (F, V) (by omega) (by omega) ⟨⟨rfl, hvl⟩, fun _ _ _ => ⟨rfl, rfl⟩⟩
  rw [prod_map (ByteArray.empty, []) (ByteArray.empty, 0, 0) F V hvl (frf t) (fvn t) F.length 0 (F, V) rfl hvl (by omega) (fun j hj => by omega) (fun _ _ _ => ⟨rfl, rfl⟩)] at h
  simp only [z0] at h
  exact h
theorem own_loop (W H : Int) (P : List Pt') (F : List Fc) (hF : F.length ≤ 1048576) (hr : ∀ f ∈ F, f.2.length ≤ 1048576) (x5 x6 x7 x8 : Int) (x9 : List Pt') (x10 : List Fc) (x11 : List Pt') : ∀ (d g i : Nat) (s : List Fc), i + d = F.length → d < g → s.length = i →
    spec_l05Own_3 k g (W, H, P, F, (i : Int), x5, x6, x7, x8, x9, x10, x11, s) = some (x5, x6, x7, x8, x9, x10, x11, s ++ F.drop i)
  | 0, g + 1, i, s, h, _, hs => by
    have : i = F.length := by omega
    subst this
    simp only [spec_l05Own_3, dge (Nat.le_refl _), cond_false, List.drop_length, List.append_nil]
  | d + 1, g + 1, i, s, h, hg, hs => by
    have hi : i < F.length := by omega
    have hri := hr _ (getD_mem (d := (ByteArray.empty, [])) hi)
    rw [drop_cons (ByteArray.empty, []) hi]
    simp only [spec_l05Own_3, spec_l00Own, dlt hi, d0, cond_true, rd_nat, dfF, w64_s hi (show F.length ≤ 1000000000000 by omega)]
    rw [decide_eq_true (show ((0 : Nat) + (F.getD i (ByteArray.empty, [])).2.length) * 8 ≤ 140737488355328 by omega)]
    simp only [cond_true, Option.bind_some, List.nil_append]
    rw [decide_eq_true (show (s.length + (((F.getD i (ByteArray.empty, [])).1, (F.getD i (ByteArray.empty, [])).2) :: ([] : List Fc)).length) * 40 ≤ 140737488355328 by simp only [List.length_singleton]; omega)]
    simp only [cond_true]
    rw [own_loop W H P F hF hr x5 x6 x7 x8 x9 x10 x11 d g (i + 1) _ (by omega) (by omega) (by simp [hs])]
    rw [List.append_assoc]; rfl
  | _, 0, _, _, _, hg, _ => by omega
theorem l08Own_eq (hs : Small P F V) (hk : 1048577 < k) : spec_l08Own k (W, H, P, F, V) = some (W, H, P, F, V) := by
  have hp := hs.p
  have hf := hs.f
  have hv := hs.v
  have h := own_loop (k := k) W H P F hs.f hs.r 0 0 W H [] [] P F.length k 0 [] (by omega) (by omega) rfl
  simp only [z0, List.drop_zero, List.nil_append] at h
  unfold spec_l08Own spec_l05Own
  simp only
  rw [decide_eq_true (show ((0 : Nat) + P.length) * 16 ≤ 140737488355328 by omega)]
  simp only [cond_true, List.nil_append, h, Option.bind_some]
  rw [decide_eq_true (show ((0 : Nat) + V.length) * 32 ≤ 140737488355328 by omega)]
  rfl
theorem turnPicture_spec (hs : Small P F V) (hp : picB W H P F V = true) (t : Nat) (ht : t < 8) (hk : 1048577 < k) : spec_TurnPicture k (W, H, P, F, V, (t : Int)) = some ((trn t W H P F V).1, (trn t W H P F V).2.1, (trn t W H P F V).2.2.1, (trn t W H P F V).2.2.2.1, (trn t W H P F V).2.2.2.2, 0) := by
  have hv := valid_of hp
  unfold spec_TurnPicture spec_l02Turn trn
  simp only [pic_spec W H hs hk, hp, Option.bind_some, Bool.not_true, cond_false, l00In_eq]
  rw [inB_iff.2 (show (0 : Int) ≤ (t : Int) ∧ (t : Int) ≤ 7 by omega)]
  simp only [Option.bind_some, Bool.not_true, cond_false, l08Own_eq hs hk]
  have htw := turned_spec (k := k) t ht (W, H) (big_wh hv) hk
  simp only at htw
  rw [htw]
  simp only [Option.bind_some, tm2]
  by_cases h2 : t % 2 = 1
  · have e : (((t % 2 : Nat) : Int) == 1) = true := by rw [h2]; rfl
    rw [e]
    simp only [cond_true, pts_loop_spec hv t ht hk, faces_loop_spec hv t ht hk, Option.bind_some, if_pos h2]
  · have e : (((t % 2 : Nat) : Int) == 1) = false := by
      have := Nat.mod_lt t (show 0 < 2 by decide)
      have : t % 2 = 0 := by omega
      rw [this]; rfl
    rw [e]
    simp only [cond_false, pts_loop_spec hv t ht hk, faces_loop_spec hv t ht hk, Option.bind_some, if_neg h2]
end
end Go.Proofs.YtmklecafnhdnmaaGreatV
end

section
/- The turned picture, by the program; no condition. -/
namespace Go.Proofs.YtmklecafnhdnmaaGreatV
open Go Go.RowKit
section
variable {k : Nat} {W H : Int} {P : List Pt'} {F : List Fc} {V : List Vn}
theorem copy_loop (F : List Fc) (hF : F.length ≤ 1048576) (hr : ∀ f ∈ F, f.2.length ≤ 1048576) (x3 x4 x5 x6 : Int) (x7 : List Pt') (x8 : List Fc) (x9 : List Pt') : ∀ (d g i : Nat) (s : List Fc), i + d = F.length → d < g → s.length = i →
    impl_copyDrawing_3 k g (F, (F.length : Int), (i : Int), x3, x4, x5, x6, x7, x8, x9, s) = some (x3, x4, x5, x6, x7, x8, x9, s ++ F.drop i)
  | 0, g + 1, i, s, h, _, hs => by
    have : i = F.length := by omega
    subst this
    simp only [impl_copyDrawing_3, dge (Nat.le_refl _), cond_false, List.drop_length, List.append_nil]
  | d + 1, g + 1, i, s, h, hg, hs => by
    have hi : i < F.length := by omega
    have hri := hr _ (getD_mem (d := (ByteArray.empty, [])) hi)
    rw [drop_cons (ByteArray.empty, []) hi]
    simp only [impl_copyDrawing_3, slices_Clone_101, dlt hi, d0, cond_true, rd_nat, dfF, w64_s hi (show F.length ≤ 1000000000000 by omega)]
    rw [decide_eq_true (show (0 + (F.getD i (ByteArray.empty, [])).2.length) * 8 ≤ 140737488355328 by omega)]
    simp only [cond_true, Option.bind_some]
    rw [decide_eq_true (show (s.length + (((F.getD i (ByteArray.empty, [])).1, (F.getD i (ByteArray.empty, [])).2) :: ([] : List Fc)).length) * 40 ≤ 140737488355328 by simp only [List.length_singleton]; omega)]
    simp only [cond_true]
    rw [copy_loop F hF hr x3 x4 x5 x6 x7 x8 x9 d g (i + 1) _ (by omega) (by omega) (by simp [hs])]
    rw [List.append_assoc]; rfl
  | _, 0, _, _, _, hg, _ => by omega
theorem copyPicture_eq (hs : Small P F V) (hk : 1048577 < k) : impl_copyPicture k (W, H, P, F, V) = some (W, H, P, F, V) := by
  have hp := hs.p
  have hf := hs.f
  have hv := hs.v
  have h := copy_loop (k := k) F hs.f hs.r 0 0 W H [] [] P F.length k 0 [] (by omega) (by omega) rfl
  simp only [z0, List.drop_zero, List.nil_append] at h
  unfold impl_copyPicture impl_copyDrawing slices_Clone slices_Clone_76
  simp only
  rw [decide_eq_true (show (0 + P.length) * 16 ≤ 140737488355328 by omega), decide_eq_true (show (0 + V.length) * 32 ≤ 140737488355328 by omega)]
  simp only [cond_true, h, Option.bind_some]
theorem pts_loop_impl (hv : Valid W H P F V) (t : Nat) (ht : t < 8) (hk : 1048577 < k) (x3 x4 x5 x6 : Int) (x10 : List Pt') (x11 : List Fc) (x12 : List Vn) (x13 : List Fc) (x14 : List Vn) :
    impl_TurnPicture_9 k k ((t : Int), (P.length : Int), 0, x3, x4, x5, x6, (turnP t (W, H)).1, (turnP t (W, H)).2, P, x10, x11, x12, x13, x14) = some ((t : Int), x3, x4, x5, x6, x10, x11, x12, P.map (fpt t W H), x13, x14) := by
  have hnp := hv.np
  have h := runF (fun g i s => impl_TurnPicture_9 k g ((t : Int), (P.length : Int), (i : Int), x3, x4, x5, x6, (turnP t (W, H)).1, (turnP t (W, H)).2, s, x10, x11, x12, x13, x14)) P.length
    (fun i s => s.set i ((fun i (p : Pt') => ((w64 ((turnP t p).1 - mn 0 (turnP t (W, H)).1)), (w64 ((turnP t p).2 - mn 0 (turnP t (W, H)).2)))) i (s.getD i (0, 0)))) (fun s => ((t : Int), x3, x4, x5, x6, x10, x11, x12, s, x13, x14)) (fun i s => s.length = P.length ∧ ∀ j, i ≤ j → j < P.length → s.getD j (0, 0) = P.getD j (0, 0))
    (fun g s hs => by simp only [impl_TurnPicture_9, dge (Nat.le_refl _), cond_false])
    (fun g i s hi hs => by
      have hb : big (s.getD i (0, 0)) := by rw [hs.2 i (Nat.le_refl _) hi]; exact big_pt hv (getD_mem hi)
      simp only [impl_TurnPicture_9, hs.1, dlt hi, d0, cond_true, Int.toNat_natCast, dfP, w64_s hi (show P.length ≤ 1000000000000 by omega), mn0]
      rw [turned_impl t ht _ hb hk]
      simp only [Option.bind_some])
    (fun i s hi hs => ⟨by simpa using hs.1, fun j h1 h2 => by rw [List.getD_eq_getElem?_getD, List.getElem?_set, if_neg (by omega), ← List.getD_eq_getElem?_getD]; exact hs.2 j (by omega) h2⟩) P.length k 0 P (by omega) (by omega) ⟨rfl, fun _ _ _ => rfl⟩
  rw [set_fold3 (0, 0) P (fun i p => ((w64 ((turnP t p).1 - mn 0 (turnP t (W, H)).1)), (w64 ((turnP t p).2 - mn 0 (turnP t (W, H)).2)))) (fpt t W H) (fun i hi => by
    have := fpt_w hv t (getD_mem (d := (0, 0)) hi)
    rw [this.1, this.2]) P.length 0 P rfl (by omega) (fun j hj => by omega) (fun _ _ _ => rfl)] at h
  simp only [z0] at h
  exact h
theorem splice_rev (r : List Int) : splice r 1 r.length (win r 1 r.length).reverse = r.take 1 ++ (r.drop 1).reverse := by
  unfold splice win
  cases r with
  | nil => rfl
  | cons x r => simp
theorem faces_loop_impl (hv : Valid W H P F V) (t : Nat) (hk : 1048577 < k) (x3 x4 x5 x6 : Int) (x7 : List Pt') (x8 : List Fc) (x9 : List Vn) (x10 : List Pt') (x12 : List Vn) :
    impl_TurnPicture_17 k k ((t : Int), (F.length : Int), 0, x3, x4, x5, x6, x7, x8, x9, x10, F, x12) = some ((t : Int), x3, x4, x5, x6, x7, x8, x9, x10, F.map (frf t), x12) := by
  have hnf := hv.nf
  have h := runF (fun g i s => impl_TurnPicture_17 k g ((t : Int), (F.length : Int), (i : Int), x3, x4, x5, x6, x7, x8, x9, x10, s, x12)) F.length
    (fun i s => s.set i ((fun _ (f : Fc) => frf t f) i (s.getD i (ByteArray.empty, [])))) (fun s => ((t : Int), x3, x4, x5, x6, x7, x8, x9, x10, s, x12)) (fun i s => s.length = F.length ∧ ∀ j, i ≤ j → j < F.length → s.getD j (ByteArray.empty, []) = F.getD j (ByteArray.empty, []))
    (fun g s hs => by simp only [impl_TurnPicture_17, dge (Nat.le_refl _), cond_false])
    (fun g i s hi hs => by
      have hri := hv.f _ (getD_mem (d := (ByteArray.empty, [])) hi)
      have hrl := ring_len hri.2
      have e1 := hs.2 i (Nat.le_refl _) hi
      have hd1 : decide ((1 : Int) ≤ ((List.getD s (Int.toNat (i : Int)) (dflt (.pair .str (.sl (.int .i64))))).2.length : Int)) = true := decide_eq_true (by
        have : List.getD s (Int.toNat (i : Int)) (dflt (.pair .str (.sl (.int .i64)))) = F.getD i (ByteArray.empty, []) := e1
        rw [this]; omega)
      simp only [impl_TurnPicture_17]
      rw [hd1]
      simp only [slices_Reverse, hs.1, dlt hi, d0, cond_true, Int.toNat_natCast, dfF, w64_s hi (show F.length ≤ 1000000000000 by omega), show Int.toNat 1 = 1 from rfl]
      by_cases h4 : 4 ≤ t
      · rw [decide_eq_true (show (t : Int) > 3 by omega)]
        simp only [cond_true, Option.bind_some, splice_rev]
        have : frf t (s.getD i (ByteArray.empty, [])) = ((s.getD i (ByteArray.empty, [])).1, (s.getD i (ByteArray.empty, [])).2.take 1 ++ ((s.getD i (ByteArray.empty, [])).2.drop 1).reverse) := by unfold frf turnR; rw [if_pos h4]
        rw [this]
      · rw [decide_eq_false (show ¬ (t : Int) > 3 by omega)]
        simp only [cond_false]
        have e3 : frf t (s.getD i (ByteArray.empty, [])) = s.getD i (ByteArray.empty, []) := by unfold frf turnR; rw [if_neg h4]
        have hset : s.set i (s.getD i (ByteArray.empty, [])) = s := by
          apply List.ext_getElem?
          intro j
          rw [List.getElem?_set]
          by_cases e : i = j
          · subst e
            rw [if_pos rfl, if_pos (by omega), List.getD_eq_getElem?_getD, List.getElem?_eq_getElem (by omega)]; rfl
          · rw [if_neg e]
        rw [e3, hset])
    (fun i s hi hs => ⟨by simpa using hs.1, fun j h1 h2 => by rw [List.getD_eq_getElem?_getD, List.getElem?_set, if_neg (by omega), ← List.getD_eq_getElem?_getD]; exact hs.2 j (by omega) h2⟩) F.length k 0 F (by omega) (by omega) ⟨rfl, fun _ _ _ => rfl⟩
  rw [set_fold3 (ByteArray.empty, []) F (fun _ f => frf t f) (frf t) (fun i hi => rfl) F.length 0 F rfl (by omega) (fun j hj => by omega) (fun _ _ _ => rfl)] at h
  simp only [z0] at h
  exact h
theorem vns_loop_impl (hv : Valid W H P F V) (t : Nat) (ht : t < 8) (hk : 1048577 < k) (x3 x4 x5 x6 : Int) (x8 : List Pt') (x9 : List Fc) (x10 : List Vn) (x11 : List Pt') (x12 : List Fc) :
    impl_TurnPicture_23 k k ((t : Int), (V.length : Int), 0, x3, x4, x5, x6, V, x8, x9, x10, x11, x12) = some (x3, x4, x5, x6, x8, x9, x10, x11, x12, V.map (fvn t)) := by
  have hnf := hv.nf
  have hvl := hv.v
  have h := runF (fun g i s => impl_TurnPicture_23 k g ((t : Int), (V.length : Int), (i : Int), x3, x4, x5, x6, s, x8, x9, x10, x11, x12)) V.length
    (fun i s => s.set i ((fun _ (v : Vn) => fvn t v) i (s.getD i (ByteArray.empty, 0, 0)))) (fun s => (x3, x4, x5, x6, x8, x9, x10, x11, x12, s)) (fun i s => s.length = V.length ∧ ∀ j, i ≤ j → j < V.length → s.getD j (ByteArray.empty, 0, 0) = V.getD j (ByteArray.empty, 0, 0))
    (fun g s hs => by simp only [impl_TurnPicture_23, dge (Nat.le_refl _), cond_false])
    (fun g i s hi hs => by
      have hg := hv.g _ (getD_mem (d := (ByteArray.empty, 0, 0)) hi)
      have e1 := hs.2 i (Nat.le_refl _) hi
      simp only [impl_TurnPicture_23, hs.1, dlt hi, d0, cond_true, Int.toNat_natCast, dfV, w64_s hi (show V.length ≤ 1000000000000 by omega)]
      rw [grain_impl t ht _ (by rw [e1]; exact hg.1) (by rw [e1]; exact hg.2)]
      simp only [Option.bind_some]
      rfl)
    (fun i s hi hs => ⟨by simpa using hs.1, fun j h1 h2 => by rw [List.getD_eq_getElem?_getD, List.getElem?_set, if_neg (by omega), ← List.getD_eq_getElem?_getD]; exact hs.2 j (by omega) h2⟩) V.length k 0 V (by omega) (by omega) ⟨rfl, fun _ _ _ => rfl⟩
  rw [set_fold3 (ByteArray.empty, 0, 0) V (fun _ f => fvn t f) (fvn t) (fun i hi => rfl) V.length 0 V rfl (by omega) (fun j hj => by omega) (fun _ _ _ => rfl)] at h
  simp only [z0] at h
  exact h
theorem turnPicture_impl (hs : Small P F V) (hp : picB W H P F V = true) (t : Nat) (ht : t < 8) (hk : 1048577 < k) : impl_TurnPicture k (W, H, P, F, V, (t : Int)) = some ((trn t W H P F V).1, (trn t W H P F V).2.1, (trn t W H P F V).2.2.1, (trn t W H P F V).2.2.2.1, (trn t W H P F V).2.2.2.2, 0) := by
  have hv := valid_of hp
  unfold impl_TurnPicture trn
  simp only [pic_impl W H hs hk, hp, Option.bind_some, Bool.not_true, cond_false, within_eq]
  rw [inB_iff.2 (show (0 : Int) ≤ (t : Int) ∧ (t : Int) ≤ 7 by omega)]
  simp only [Option.bind_some, Bool.not_true, cond_false, copyPicture_eq hs hk]
  have htw := turned_impl (k := k) t ht (W, H) (big_wh hv) hk
  simp only at htw
  rw [htw]
  simp only [Option.bind_some, pts_loop_impl hv t ht hk, tm2]
  by_cases h2 : t % 2 = 1
  · have e : (((t % 2 : Nat) : Int) == 1) = true := by rw [h2]; rfl
    rw [e]
    simp only [cond_true, faces_loop_impl hv t hk, vns_loop_impl hv t ht hk, Option.bind_some, if_pos h2]
  · have e : (((t % 2 : Nat) : Int) == 1) = false := by
      have := Nat.mod_lt t (show 0 < 2 by decide)
      have : t % 2 = 0 := by omega
      rw [this]; rfl
    rw [e]
    simp only [cond_false, faces_loop_impl hv t hk, vns_loop_impl hv t ht hk, Option.bind_some, if_neg h2]
end
end Go.Proofs.YtmklecafnhdnmaaGreatV
end

section
/- Polygons that are the same up to where they begin: program and reference; no condition. -/
namespace Go.Proofs.YtmklecafnhdnmaaGreatV
open Go Go.RowKit
def rot (b : List Pt') (j : Nat) : List Pt' := b.drop j ++ b.take j
def aroundB (a b : List Pt') : Bool := (List.range' 0 b.length).any fun j => decide (a = rot b j)
def sameB (a b : List Pt') : Bool := polyB a && (polyB b && aroundB a b)
theorem eqP_iff {a b : Pt'} : eqP a b = true ↔ a = b := by
  unfold eqP
  simp only [Bool.and_eq_true, beq_iff_eq, and_true]
  exact ⟨fun h => Prod.ext h.1 h.2, fun h => by rw [h]; exact ⟨rfl, rfl⟩⟩
theorem ext_pt {a b : List Pt'} (hl : a.length = b.length) (h : ∀ i, i < a.length → pt a i = pt b i) : a = b := by
  apply List.ext_getElem hl
  intro i h1 h2
  have := h i h1
  unfold pt at this
  rw [List.getD_eq_getElem?_getD, List.getD_eq_getElem?_getD, List.getElem?_eq_getElem h1, List.getElem?_eq_getElem h2] at this
  simpa using this
theorem rot_len (b : List Pt') (j : Nat) : (rot b j).length = b.length := by unfold rot; simp; omega
theorem rot_pt (b : List Pt') {j i : Nat} (hj : j < b.length) (hi : i < b.length) : pt (rot b j) i = pt b ((j + i) % b.length) := by
  unfold rot pt
  rw [List.getD_eq_getElem?_getD, List.getD_eq_getElem?_getD, List.getElem?_append, List.length_drop]
  by_cases h : i < b.length - j
  · rw [if_pos h, List.getElem?_drop, Nat.mod_eq_of_lt (by omega)]
  · rw [if_neg h, List.getElem?_take, if_pos (by omega)]
    have : (j + i) % b.length = i - (b.length - j) := by
      rw [Nat.mod_eq_sub_mod (by omega), Nat.mod_eq_of_lt (by omega)]; omega
    rw [this]
theorem eq_rot {a b : List Pt'} {j : Nat} (hj : j < b.length) : a = rot b j ↔ a.length = b.length ∧ ∀ i, i < b.length → pt a i = pt b ((j + i) % b.length) := by
  constructor
  · intro h
    subst h
    exact ⟨rot_len b j, fun i hi => rot_pt b hj hi⟩
  · rintro ⟨hl, h⟩
    exact ext_pt (by rw [hl, rot_len]) (fun i hi => by rw [h i (by omega), rot_pt b hj (by omega)])
/-! the corners of a polygon are apart -/
theorem poly_facts {b : List Pt'} (h : polyB b = true) : 3 ≤ b.length ∧ b.length ≤ 24 ∧ b.all okP = true ∧ (∀ i, i < b.length → bad b b.length i = false) ∧ area b > 0 := by
  unfold polyB at h
  simp only [Bool.and_eq_true, decide_eq_true_eq, Bool.not_eq_true'] at h
  obtain ⟨h1, h2, h3, h4, h5⟩ := h
  rw [List.any_eq_false] at h4
  exact ⟨h1, h2, h3, fun i hi => by have := h4 i (by simpa using hi); simpa using this, h5⟩
theorem on_self (a b : Pt') : onB a b a = true := by
  unfold onB cross
  have e : (b.1 - a.1) * (a.2 - a.2) - (b.2 - a.2) * (a.1 - a.1) = 0 := by simp
  rw [e]
  have h : ∀ x y : Int, inB x (mn x y) (mx x y) = true := fun x y => by rw [inB_iff]; unfold mn mx; constructor <;> split <;> omega
  rw [h, h]; rfl
theorem distinct {b : List Pt'} (h : polyB b = true) {i j : Nat} (hi : i < j) (hj : j < b.length) : pt b i ≠ pt b j := by
  obtain ⟨h3, _, _, hb, _⟩ := poly_facts h
  intro e
  by_cases h1 : j = i + 1
  · have := hb i (by omega)
    unfold bad at this
    rw [Nat.mod_eq_of_lt (show i + 1 < b.length by omega), ← h1, eqP_iff.2 e] at this
    simp at this
  · by_cases h2 : i = 0 ∧ j + 1 = b.length
    · have := hb j hj
      unfold bad at this
      rw [h2.2, Nat.mod_self, ← h2.1, eqP_iff.2 e.symm] at this
      simp at this
    · have := hb i (by omega)
      unfold bad at this
      rw [Bool.or_eq_false_iff, List.any_eq_false] at this
      have hk := this.2 j (by rw [List.mem_range'_1]; omega)
      apply hk
      unfold badI
      have hne : (j + 1) % b.length ≠ i := by
        by_cases h4 : j + 1 = b.length
        · rw [h4, Nat.mod_self]; intro h5; exact h2 ⟨h5.symm, h4⟩
        · rw [Nat.mod_eq_of_lt (by omega)]; omega
      have ht : touchB (pt b i) (pt b ((i + 1) % b.length)) (pt b j) (pt b ((j + 1) % b.length)) = true := by
        unfold touchB
        rw [← e, on_self]; simp
      rw [ht, bne_iff_ne.2 hne]; rfl
section
variable {k : Nat}
theorem equal_eq (a b : List Pt') (hl : a.length ≤ 1048576) (hk : 1048577 < k) : spec_l03Equal k (a, b) = some (decide (a = b)) := by
  unfold spec_l03Equal
  simp only [bnec]
  by_cases hab : a.length = b.length
  · have h := runS (fun g i => spec_l03Equal_4 k g (a, b, (i : Int))) a.length (fun i => !eqP (pt a i) (pt b i)) (fun _ => .inr false) (.inl ()) (fun g => by simp only [spec_l03Equal_4, dge (Nat.le_refl _), cond_false])
      (fun g i hi => by
        simp only [spec_l03Equal_4, dlt hi, dlt (show i < b.length by omega), d0, cond_true, rd_nat, dfP, w64_s hi (show a.length ≤ 1000000000000 by omega)]
        rfl) a.length k 0 (by omega) (by omega)
    rw [find_any] at h
    simp only [z0] at h
    rw [show (a.length != b.length) = false by rw [hab]; simp]
    simp only [cond_false, h, Option.bind_some]
    have e : ((List.range' 0 a.length).any fun i => !eqP (pt a i) (pt b i)) = !decide (a = b) := by
      rw [Bool.eq_iff_iff]
      simp only [List.any_eq_true, Bool.not_eq_true', List.mem_range'_1, Nat.zero_le, Nat.zero_add, true_and, decide_eq_false_iff_not]
      constructor
      · rintro ⟨i, hi, h⟩ e
        subst e
        rw [eqP_iff.2 rfl] at h; cases h
      · intro h
        apply Classical.byContradiction
        intro hn
        apply h
        refine ext_pt hab (fun i hi => ?_)
        apply Classical.byContradiction
        intro h2
        exact hn ⟨i, hi, Bool.eq_false_iff.2 (fun h3 => h2 (eqP_iff.1 h3))⟩
    rw [e]
    cases decide (a = b) <;> rfl
  · rw [show (a.length != b.length) = true from bne_iff_ne.2 hab, decide_eq_false (fun e => hab (by rw [e]))]; rfl
theorem from_eq (b : List Pt') (hl : b.length ≤ 1048576) (j : Nat) (hj : j ≤ b.length) : spec_l03From k (b, (j : Int)) = some (rot b j) := by
  have e : (b.drop j).take (b.length - j) = b.drop j := List.take_of_length_le (by simp)
  have hd1 : decide ((j : Int) ≤ (b.length : Int)) = true := decide_eq_true (by omega)
  have hd2 : decide (((b.drop j).length) * 16 ≤ 140737488355328) = true := decide_eq_true (by simp; omega)
  have hd3 : decide (((b.drop j).length + (b.take j).length) * 16 ≤ 140737488355328) = true := decide_eq_true (by simp; omega)
  unfold spec_l03From rot win
  simp only [Int.toNat_natCast, d0, List.nil_append, show Int.toNat 0 = 0 from rfl, List.drop_zero, Nat.sub_zero, List.length_nil, Nat.zero_add]
  simp only [e, hd1, hd2, hd3]
  rfl
theorem around_eq (a b : List Pt') (ha : a.length ≤ 1048576) (hl : b.length ≤ 1048576) (hk : 1048577 < k) : spec_l03Around k (a, b) = some (aroundB a b) := by
  have h := runS (fun g i => spec_l03Around_2 k g (a, b, (i : Int))) b.length (fun j => decide (a = rot b j)) (fun _ => .inr true) (.inl ()) (fun g => by simp only [spec_l03Around_2, dge (Nat.le_refl _), cond_false])
    (fun g i hi => by
      simp only [spec_l03Around_2, dlt hi, cond_true, from_eq b hl i (by omega), Option.bind_some, equal_eq a _ ha hk, w64_s hi (show b.length ≤ 1000000000000 by omega)]) b.length k 0 (by omega) (by omega)
  rw [find_any] at h
  unfold spec_l03Around aroundB
  simp only [z0] at h
  simp only [h, Option.bind_some]
  cases (List.range' 0 b.length).any fun j => decide (a = rot b j) <;> rfl
theorem same_spec (a b : List Pt') (ha : a.length ≤ 1048576) (hl : b.length ≤ 1048576) (hk : 1048577 < k) : spec_SamePolygon k (a, b) = some (sameB a b) := by
  unfold spec_SamePolygon sameB
  simp only [l03Ok_eq a ha hk, l03Ok_eq b hl hk, around_eq a b ha hl hk, Option.bind_some]
  cases polyB a <;> cases polyB b <;> rfl
theorem same_impl (a b : List Pt') (ha : a.length ≤ 1048576) (hl : b.length ≤ 1048576) (hk : 1048577 < k) : impl_SamePolygon k (a, b) = some (sameB a b) := by
  unfold impl_SamePolygon sameB impl_startOf
  simp only [validPolygon_eq a ha hk, validPolygon_eq b hl hk, Option.bind_some, bnec]
  cases hpa : polyB a with
  | false => rfl
  | true =>
    cases hpb : polyB b with
    | false => rfl
    | true =>
      simp only [Bool.not_true, cond_false, Option.bind_some, Bool.true_and]
      have hfa := poly_facts hpa
      have hfb := poly_facts hpb
      by_cases hab : a.length = b.length
      · rw [show (a.length != b.length) = false by rw [hab]; simp, decide_eq_true (show (0 : Int) < (a.length : Int) by omega)]
        simp only [cond_false, cond_true]
        have e0 : rd (.pair (.int .i64) (.int .i64)) a 0 = pt a 0 := rfl
        rw [e0, index_eq b (pt a 0) hl hk]
        simp only [Option.bind_some]
        cases hf : (List.range' 0 b.length).find? (fun j => eqP (pt a 0) (pt b j)) with
        | none =>
          have hno := List.find?_eq_none.1 hf
          simp only
          rw [decide_eq_true (show (-1 : Int) < 0 by omega)]
          have : aroundB a b = false := by
            unfold aroundB
            rw [List.any_eq_false]
            intro j hj
            rw [List.mem_range'_1] at hj
            rw [decide_eq_true_eq, eq_rot (by omega)]
            rintro ⟨_, h2⟩
            have := h2 0 (by omega)
            rw [Nat.add_zero, Nat.mod_eq_of_lt (by omega)] at this
            exact hno j (by rw [List.mem_range'_1]; omega) (eqP_iff.2 this)
          rw [this]; rfl
        | some j =>
          have hjm := List.mem_of_find?_eq_some hf
          rw [List.mem_range'_1] at hjm
          have hje := eqP_iff.1 (List.find?_some (p := fun j => eqP (pt a 0) (pt b j)) hf)
          have hjl : j < b.length := by omega
          simp only
          rw [decide_eq_false (show ¬ (j : Int) < 0 by omega)]
          simp only [cond_false]
          have h := runS (fun g i => impl_SamePolygon_7 k g (a, b, (j : Int), (a.length : Int), (i : Int))) a.length (fun i => !eqP (pt a i) (pt b ((j + i) % b.length))) (fun _ => .inr false) (.inl ()) (fun g => by simp only [impl_SamePolygon_7, dge (Nat.le_refl _), cond_false])
            (fun g i hi => by
              have hm := Nat.mod_lt (j + i) (show 0 < b.length by omega)
              simp only [impl_SamePolygon_7, dlt hi, d0, cond_true, cond_false, rd_nat, dfP, w64_s hi (show a.length ≤ 1000000000000 by omega), deq0 (show 0 < b.length by omega)]
              rw [w64_id (x := (j : Int) + (i : Int)) (by omega) (by omega), show (j : Int) + (i : Int) = ((j + i : Nat) : Int) by omega]
              simp only [tm, d0, dlt hm, cond_true, rd_nat, dfP]
              rfl) a.length k 0 (by omega) (by omega)
          rw [find_any] at h
          simp only [z0] at h
          simp only [h, Option.bind_some]
          have e : ((List.range' 0 a.length).any fun i => !eqP (pt a i) (pt b ((j + i) % b.length))) = !aroundB a b := by
            rw [Bool.eq_iff_iff]
            simp only [List.any_eq_true, Bool.not_eq_true', List.mem_range'_1, Nat.zero_le, Nat.zero_add, true_and]
            unfold aroundB
            rw [List.any_eq_false]
            constructor
            · rintro ⟨i, hi, h1⟩ j' hj'
              rw [List.mem_range'_1] at hj'
              rw [decide_eq_true_eq, eq_rot (by omega)]
              rintro ⟨_, h2⟩
              have h3 := h2 0 (by omega)
              rw [Nat.add_zero, Nat.mod_eq_of_lt (by omega), hje] at h3
              have : j = j' := by
                rcases Nat.lt_trichotomy j j' with h4 | h4 | h4
                · exact absurd h3 (distinct hpb h4 (by omega))
                · exact h4
                · exact absurd h3.symm (distinct hpb h4 hjl)
              subst this
              rw [eqP_iff.2 (h2 i (by omega))] at h1; cases h1
            · intro h1
              apply Classical.byContradiction
              intro hn
              refine h1 j (by rw [List.mem_range'_1]; omega) ?_
              rw [decide_eq_true_eq, eq_rot hjl]
              refine ⟨hab, fun i hi => ?_⟩
              apply Classical.byContradiction
              intro h2
              exact hn ⟨i, by omega, Bool.eq_false_iff.2 (fun h3 => h2 (eqP_iff.1 h3))⟩
          rw [e]
          cases aroundB a b <;> rfl
      · rw [show (a.length != b.length) = true from bne_iff_ne.2 hab]
        have : aroundB a b = false := by
          unfold aroundB
          rw [List.any_eq_false]
          intro j hj
          rw [List.mem_range'_1] at hj
          rw [decide_eq_true_eq, eq_rot (by omega)]
          rintro ⟨h2, _⟩
          exact hab h2
        rw [this]; rfl
theorem facePolygon_eq (W H : Int) (P : List Pt') (F : List Fc) (hP : P.length ≤ 1048576) (i : Nat) (hi : i < F.length) (hr : (fc F i).2.length ≤ 1048576) (hring : ringB P (fc F i).2 = true) (hk : 1048577 < k) : impl_facePolygon k (W, H, P, F, (i : Int)) = some (poly P (fc F i).2) := by
  unfold impl_facePolygon
  simp only [d0, dlt hi, cond_true, rd_nat, dfF]
  rw [show F.getD i (ByteArray.empty, []) = fc F i from rfl, ringPolygon_eq P hP _ hr hk, hring]
  rfl
theorem l05Polygon_eq (W H : Int) (P : List Pt') (F : List Fc) (hP : P.length ≤ 1048576) (i : Nat) (hi : i < F.length) (hr : (fc F i).2.length ≤ 1048576) (hring : ringB P (fc F i).2 = true) (hk : 1048577 < k) : spec_l05Polygon k (W, H, P, F, (i : Int)) = some (poly P (fc F i).2) := by
  unfold spec_l05Polygon
  simp only [d0, dlt hi, cond_true, rd_nat, dfF]
  rw [show F.getD i (ByteArray.empty, []) = fc F i from rfl, l05Ring_eq W H P F hP _ hr hk, hring]
  rfl
end
end Go.Proofs.YtmklecafnhdnmaaGreatV
end

section
/- The symmetric turns of a picture: what program and reference compute; no condition. -/
namespace Go.Proofs.YtmklecafnhdnmaaGreatV
open Go Go.RowKit
/-- rounds that go on to the end and look whether P holds of some index -/
theorem runO {ρ : Type} (L : Nat → Nat → Bool → Option ρ) (n : Nat) (P : Nat → Bool) (out : Bool → ρ) (hd : ∀ g s, L (g + 1) n s = some (out s)) (ht : ∀ g i, i < n → L (g + 1) i true = L g (i + 1) true) (hf : ∀ g i, i < n → L (g + 1) i false = L g (i + 1) (P i)) :
    ∀ d g i s, i + d = n → d < g → L g i s = some (out (s || (List.range' i d).any P)) := by
  intro d
  induction d with
  | zero =>
    intro g i s h hg
    cases g with
    | zero => omega
    | succ g =>
      have : i = n := by omega
      subst this
      rw [hd g s]; simp
  | succ d ih =>
    intro g i s h hg
    cases g with
    | zero => omega
    | succ g =>
      simp only [List.range'_succ, List.any_cons]
      cases s with
      | true => rw [ht g i (by omega), ih g (i + 1) true (by omega) (by omega)]; simp
      | false => rw [hf g i (by omega), ih g (i + 1) (P i) (by omega) (by omega)]; simp
/-- rounds that stop as soon as P holds -/
theorem runW {ρ : Type} (L : Nat → Nat → Bool → Option ρ) (n : Nat) (P : Nat → Bool) (out : Bool → ρ) (hd : ∀ g s, L (g + 1) n s = some (out s)) (ht : ∀ g i, i < n → L (g + 1) i true = some (out true)) (hf : ∀ g i, i < n → L (g + 1) i false = L g (i + 1) (P i)) :
    ∀ d g i s, i + d = n → d < g → L g i s = some (out (s || (List.range' i d).any P)) := by
  intro d
  induction d with
  | zero =>
    intro g i s h hg
    cases g with
    | zero => omega
    | succ g =>
      have : i = n := by omega
      subst this
      rw [hd g s]; simp
  | succ d ih =>
    intro g i s h hg
    cases g with
    | zero => omega
    | succ g =>
      simp only [List.range'_succ, List.any_cons]
      cases s with
      | true => rw [ht g i (by omega)]; simp
      | false => rw [hf g i (by omega), ih g (i + 1) (P i) (by omega) (by omega)]; simp
/-- rounds that stop as soon as P fails -/
theorem runV {ρ : Type} (L : Nat → Nat → Bool → Option ρ) (n : Nat) (P : Nat → Bool) (out : Bool → ρ) (hd : ∀ g s, L (g + 1) n s = some (out s)) (ht : ∀ g i, i < n → L (g + 1) i false = some (out false)) (hf : ∀ g i, i < n → L (g + 1) i true = L g (i + 1) (P i)) :
    ∀ d g i s, i + d = n → d < g → L g i s = some (out (s && (List.range' i d).all P)) := by
  intro d
  induction d with
  | zero =>
    intro g i s h hg
    cases g with
    | zero => omega
    | succ g =>
      have : i = n := by omega
      subst this
      rw [hd g s]; simp
  | succ d ih =>
    intro g i s h hg
    cases g with
    | zero => omega
    | succ g =>
      simp only [List.range'_succ, List.all_cons]
      cases s with
      | false => rw [ht g i (by omega)]; simp
      | true => rw [hf g i (by omega), ih g (i + 1) (P i) (by omega) (by omega)]; simp
def vEqB (v w : Vn) : Bool := (v.1 == w.1) && ((v.2.1 == w.2.1) && ((v.2.2 == w.2.2) && true))
theorem ba_iff {a b : ByteArray} : (a == b) = true ↔ a = b := by
  have h : (a == b) = true ↔ a.data = b.data := beq_iff_eq (a := a.data) (b := b.data)
  rw [h]
  exact ⟨fun h => by cases a; cases b; simp only at h; rw [h], fun h => by rw [h]⟩
theorem vEq_iff {v w : Vn} : vEqB v w = true ↔ v = w := by
  unfold vEqB
  simp only [Bool.and_eq_true, beq_iff_eq, and_true]
  rw [ba_iff]
  exact ⟨fun h => Prod.ext h.1 (Prod.ext h.2.1 h.2.2), fun h => by rw [h]; exact ⟨rfl, rfl, rfl⟩⟩
/-- faces whose rings lie in the points -/
structure Fine (P : List Pt') (F : List Fc) (V : List Vn) : Prop where
  p : P.length ≤ 1048576
  f : F.length ≤ 1048576
  r : ∀ f ∈ F, f.2.length ≤ 1048576 ∧ ringB P f.2 = true
  v : V.length = F.length
def sm (P : List Pt') (F : List Fc) (V : List Vn) (Q : List Pt') (G : List Fc) (U : List Vn) (i j : Nat) : Bool := vEqB (vn V i) (vn U j) && sameB (poly P (fc F i).2) (poly Q (fc G j).2)
def likeB (W H : Int) (P : List Pt') (F : List Fc) (V : List Vn) (W' H' : Int) (Q : List Pt') (G : List Fc) (U : List Vn) : Bool :=
  !(W != W') && (!(H != H') && !((List.range' 0 V.length).any fun i => !((List.range' 0 U.length).any (sm P F V Q G U i))))
def likeI (W H : Int) (P : List Pt') (F : List Fc) (V : List Vn) (W' H' : Int) (Q : List Pt') (G : List Fc) (U : List Vn) : Bool :=
  (W' == W) && ((H' == H) && (List.range' 0 V.length).all fun j => (List.range' 0 V.length).any fun i => sm P F V Q G U i j)
section
variable {k : Nat} {P : List Pt'} {F : List Fc} {V : List Vn} {Q : List Pt'} {G : List Fc} {U : List Vn}
theorem fc_mem {F : List Fc} {i : Nat} (h : i < F.length) : fc F i ∈ F := getD_mem h
theorem like8 (W H W' H' : Int) (h1 : Fine P F V) (h2 : Fine Q G U) (i : Nat) (hi : i < V.length) (hk : 1048577 < k) :
    spec_l18Like_8 k k (W, H, P, F, V, W', H', Q, G, U, (i : Int), false, 0) = some (W, H, P, F, V, W', H', Q, G, U, (i : Int), (List.range' 0 U.length).any (sm P F V Q G U i)) := by
  have hU := h2.f
  rw [← h2.v] at hU
  have hiF : i < F.length := by rw [← h1.v]; exact hi
  have h := runO (fun g j s => spec_l18Like_8 k g (W, H, P, F, V, W', H', Q, G, U, (i : Int), s, (j : Int))) U.length (sm P F V Q G U i) (fun s => (W, H, P, F, V, W', H', Q, G, U, (i : Int), s))
    (fun g s => by simp only [spec_l18Like_8, dge (Nat.le_refl _), cond_false])
    (fun g j hj => by simp only [spec_l18Like_8, dlt hj, cond_true, w64_s hj (show U.length ≤ 1000000000000 by omega)])
    (fun g j hj => by
      have hjG : j < G.length := by rw [← h2.v]; exact hj
      have hri := h1.r _ (fc_mem hiF)
      have hrj := h2.r _ (fc_mem hjG)
      simp only [spec_l18Like_8, dlt hj, dlt hi, d0, cond_true, cond_false, rd_nat, dfV, w64_s hj (show U.length ≤ 1000000000000 by omega)]
      rw [l05Polygon_eq W H P F h1.p i hiF hri.1 hri.2 hk, l05Polygon_eq W' H' Q G h2.p j hjG hrj.1 hrj.2 hk]
      simp only [Option.bind_some]
      rw [same_spec _ _ (by rw [poly_len]; exact hri.1) (by rw [poly_len]; exact hrj.1) hk]
      simp only [Option.bind_some]
      rw [show V.getD i (ByteArray.empty, 0, 0) = vn V i from rfl, show U.getD j (ByteArray.empty, 0, 0) = vn U j from rfl]
      unfold sm vEqB
      cases ((vn V i).1 == (vn U j).1) && (((vn V i).2.1 == (vn U j).2.1) && (((vn V i).2.2 == (vn U j).2.2) && true)) <;> rfl) U.length k 0 false (by omega) (by omega)
  simp only [z0, Bool.false_or] at h
  exact h
theorem like_eq (W H W' H' : Int) (h1 : Fine P F V) (h2 : Fine Q G U) (hk : 1048577 < k) : spec_l18Like k (W, H, P, F, V, W', H', Q, G, U) = some (likeB W H P F V W' H' Q G U) := by
  have hV := h1.f
  rw [← h1.v] at hV
  have h := runS (fun g i => spec_l18Like_4 k g (W, H, P, F, V, W', H', Q, G, U, (i : Int))) V.length (fun i => !((List.range' 0 U.length).any (sm P F V Q G U i))) (fun _ => .inr false) (.inl ()) (fun g => by simp only [spec_l18Like_4, dge (Nat.le_refl _), cond_false])
    (fun g i hi => by
      simp only [spec_l18Like_4, dlt hi, cond_true, like8 W H W' H' h1 h2 i hi hk, Option.bind_some, w64_s hi (show V.length ≤ 1000000000000 by omega)]) V.length k 0 (by omega) (by omega)
  rw [find_any] at h
  unfold spec_l18Like likeB
  simp only [z0] at h
  simp only [h]
  cases W != W' <;> cases H != H' <;> cases ((List.range' 0 V.length).any fun i => !((List.range' 0 U.length).any (sm P F V Q G U i))) <;> rfl
theorem turns15 (x0 x4 W H W' H' : Int) (l : List Int) (h1 : Fine P F V) (h2 : Fine Q G U) (j : Nat) (hj : j < U.length) (hk : 1048577 < k) :
    impl_PictureTurns_15 k k (x0, false, (j : Int), 0, x4, W, H, P, F, V, l, W', H', poly Q (fc G j).2, Q, G, U) = some (x0, (List.range' 0 V.length).any (fun i => sm P F V Q G U i j), (j : Int), x4, W, H, P, F, V, l, W', H', Q, G, U) := by
  have hV := h1.f
  rw [← h1.v] at hV
  have hjG : j < G.length := by rw [← h2.v]; exact hj
  have h := runW (fun g i s => impl_PictureTurns_15 k g (x0, s, (j : Int), (i : Int), x4, W, H, P, F, V, l, W', H', poly Q (fc G j).2, Q, G, U)) V.length (fun i => sm P F V Q G U i j) (fun s => (x0, s, (j : Int), x4, W, H, P, F, V, l, W', H', Q, G, U))
    (fun g s => by simp only [impl_PictureTurns_15, dge (Nat.le_refl _), cond_false, Option.bind_some])
    (fun g i hi => by simp only [impl_PictureTurns_15, dlt hi, cond_true, Bool.not_true, Option.bind_some, cond_false])
    (fun g i hi => by
      have hiF : i < F.length := by rw [← h1.v]; exact hi
      have hri := h1.r _ (fc_mem hiF)
      have hrj := h2.r _ (fc_mem hjG)
      simp only [impl_PictureTurns_15, dlt hj, dlt hi, d0, cond_true, cond_false, Bool.not_false, Option.bind_some, rd_nat, dfV, Int.toNat_natCast, w64_s hi (show V.length ≤ 1000000000000 by omega)]
      rw [facePolygon_eq W H P F h1.p i hiF hri.1 hri.2 hk]
      simp only [Option.bind_some]
      rw [same_impl _ _ (by rw [poly_len]; exact hri.1) (by rw [poly_len]; exact hrj.1) hk]
      simp only [Option.bind_some]
      rw [show V.getD i (ByteArray.empty, 0, 0) = vn V i from rfl, show U.getD j (ByteArray.empty, 0, 0) = vn U j from rfl]
      unfold sm vEqB
      cases ((vn V i).1 == (vn U j).1) && (((vn V i).2.1 == (vn U j).2.1) && (((vn V i).2.2 == (vn U j).2.2) && true)) <;> rfl) V.length k 0 false (by omega) (by omega)
  simp only [z0, Bool.false_or] at h
  exact h
theorem turns10 (x0 x3 W H W' H' : Int) (l : List Int) (good : Bool) (h1 : Fine P F V) (h2 : Fine Q G U) (hl : V.length = U.length) (hk : 1048577 < k) :
    impl_PictureTurns_10 k k (x0, good, 0, x3, W, H, P, F, V, l, W', H', Q, G, U) = some (x0, good && ((List.range' 0 V.length).all fun j => (List.range' 0 V.length).any fun i => sm P F V Q G U i j), x3, W, H, P, F, V, l) := by
  have hV := h1.f
  rw [← h1.v] at hV
  have h := runV (fun g j s => impl_PictureTurns_10 k g (x0, s, (j : Int), x3, W, H, P, F, V, l, W', H', Q, G, U)) V.length (fun j => (List.range' 0 V.length).any fun i => sm P F V Q G U i j) (fun s => (x0, s, x3, W, H, P, F, V, l))
    (fun g s => by simp only [impl_PictureTurns_10, dge (Nat.le_refl _), cond_false, Option.bind_some])
    (fun g i hi => by simp only [impl_PictureTurns_10, dlt hi, cond_true, Option.bind_some, cond_false])
    (fun g j hj => by
      have hjU : j < U.length := by omega
      have hjG : j < G.length := by rw [← h2.v]; exact hjU
      have hrj := h2.r _ (fc_mem hjG)
      simp only [impl_PictureTurns_10, dlt hj, cond_true, Option.bind_some]
      rw [facePolygon_eq W' H' Q G h2.p j hjG hrj.1 hrj.2 hk]
      simp only [Option.bind_some, turns15 x0 x3 W H W' H' l h1 h2 j hjU hk, w64_s hj (show V.length ≤ 1000000000000 by omega)]) V.length k 0 good (by omega) (by omega)
  simp only [z0] at h
  exact h
end
end Go.Proofs.YtmklecafnhdnmaaGreatV
end

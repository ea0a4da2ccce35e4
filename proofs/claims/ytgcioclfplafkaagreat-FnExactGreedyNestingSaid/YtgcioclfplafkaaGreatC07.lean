/- Places, the nesting, the law in plain Lean; no condition. -/
import Derived.Test.YtgcioclfplafkaaGreatC06
set_option linter.all false
section
namespace Go.Proofs.YtgcioclfplafkaaGreatV
open Go Go.RowKit
def plPoly (P : List Pt') (F : List Fc) (c : Pl) : List Pt' := sh (trP c.2.2.2.2.toNat (fpoly P F c.1.toNat)) c.2.2.1 c.2.2.2.1
structure PlOK (P : List Pt') (F : List Fc) (c : Pl) : Prop where
 f : ∃ f : Nat, c.1 = f ∧ f < F.length
 t : ∃ t : Nat, c.2.2.2.2 = t ∧ t < 8
 x : 0 ≤ c.2.2.1 ∧ c.2.2.1 ≤ 20000
 y : 0 ≤ c.2.2.2.1 ∧ c.2.2.2.1 ≤ 20000
 p : PolyC (plPoly P F c)
def pl (l : List Pl) (j : Nat) : Pl := l.getD j pl0
def hitB (P : List Pt') (F : List Fc) (sp : Int) (pls : List Pl) (i : Int) (q : List Pt') (j : Nat) : Bool := ((pl pls j).2.1 == i) && nearS (plPoly P F (pl pls j)) q sp
def frB (P : List Pt') (F : List Fc) (sp : Int) (pls : List Pl) (c : Pl) : Bool := !((List.range' 0 pls.length).any (hitB P F sp pls c.2.1 (plPoly P F c)))
structure Faces (P : List Pt') (F : List Fc) (V : List Vn) : Prop where
 s : Small P F V
 f : ∀ x ∈ F, ringB P x.2 = true ∧ polyB (poly P x.2) = true
theorem Faces.face {P : List Pt'} {F : List Fc} {V : List Vn} (h : Faces P F V) {f : Nat} (hf : f < F.length) : ringB P (fc F f).2 = true ∧ polyB (fpoly P F f) = true := h.f _ (getD_mem hf)
theorem near_ok {p q : List Pt'} {s : Int} (hp : PolyC p) (hq : PolyC q) : nearI p q s = nearS p q s := by
 have pa := hp.a; have qa := hq.a
 exact near_eq hp.o hq.o (by omega) (by omega) (box_dj hp.c hq.c)
theorem dfPl : dflt (.pair (.int .i64) (.pair (.int .i64) (.pair (.int .i64) (.pair (.int .i64) (.int .i64))))) = pl0 := rfl
theorem place_ok {p : List Pt'} (h : polyB p = true) {t : Nat} (ht : t < 8) {x y : Int} (hx : 0 ≤ x) (hy : 0 ≤ y) (h1 : x + (bnd (trP t p)).2.2.1 ≤ 20000) (h2 : y + (bnd (trP t p)).2.2.2 ≤ 20000) : PolyC (sh (trP t p) x y) := by
 obtain ⟨hp, ⟨h3, h24⟩, -⟩ := polyB_sim h
 have ho := trP_ok ht hp (by omega)
 refine set_good h ht x y (List.all_eq_true.2 fun z hz => ?_)
 unfold sh at hz
 obtain ⟨q, hq, rfl⟩ := List.mem_map.1 hz
 have b := bnd_all _ q hq
 have o := okP_iff.1 (List.all_eq_true.1 ho q hq)
 rw [okP_iff]
 simp only
 omega
section
variable {k : Nat} {W H : Int} {P : List Pt'} {F : List Fc} {V : List Vn} {L : List Lf} {sp mg an hd st cnt : Int}
theorem inR_ok {p : List Pt'} (h : p.all okP = true) : inR (-100000) 100000 p := fun q hq => by
 have := okP_iff.1 (List.all_eq_true.1 h q hq); omega
theorem pl_spec (hF : Faces P F V) {c : Pl} (hc : PlOK P F c) (hk : 1048577 < k) : spec_l11Polygon k (W, H, P, F, V, c.1, c.2.1, c.2.2.1, c.2.2.2.1, c.2.2.2.2) = some (plPoly P F c) := by
 obtain ⟨f, hf1, hf⟩ := hc.f
 obtain ⟨t, ht1, ht⟩ := hc.t
 have hx := hc.x; have hy := hc.y
 obtain ⟨hr, hB⟩ := hF.face hf
 obtain ⟨hp, ⟨h3, h24⟩, -⟩ := polyB_sim hB
 have ho := trP_ok ht hp (by omega)
 unfold spec_l11Polygon
 simp only [hf1, ht1, face_spec hF.s hf hr hk, Option.bind_some, turnedL_spec hp ht (by omega) (by omega) hk]
 rw [shifted_spec (inR_ok ho) (by omega) (by omega) (by rw [trP_len]; omega) hk]
 unfold plPoly
 rw [hf1, ht1, Int.toNat_natCast, Int.toNat_natCast]
 rfl
theorem beq_bif (b : Bool) (x : Bool) : ((bif b then some x else some false : Option Bool)) = some (b && x) := by cases b <;> rfl
theorem free_impl {pls : List Pl} {polys : List (List Pt')} (hp : ∀ c ∈ pls, PlOK P F c) (hl : pls.length ≤ 1000) (hpo : polys = pls.map (plPoly P F)) {q : List Pt'} (hq : PolyC q) (i : Nat) (hk : 1048577 < k) :
  impl_nest_free k (W, H, P, F, V, L, sp, mg, an, hd, st, pls, polys, cnt, (i : Int), q) = some (!((List.range' 0 pls.length).any (hitB P F sp pls (i : Int) q))) := by
 have hpl : polys.length = pls.length := by rw [hpo, List.length_map]
 have h := runS (fun g j => impl_nest_free_2 k g (W, H, P, F, V, L, sp, mg, an, hd, st, pls, polys, cnt, (i : Int), q, pls, (pls.length : Int), (j : Int))) pls.length (hitB P F sp pls (i : Int) q) (fun _ => .inr false) (.inl ()) (fun g => by simp only [impl_nest_free_2, dge (Nat.le_refl _), cond_false])
  (fun g j hj => by
   have ec : polys.getD j [] = plPoly P F (pl pls j) := by
    rw [hpo, List.getD_eq_getElem?_getD, List.getElem?_map]
    unfold pl
    rw [List.getD_eq_getElem?_getD, List.getElem?_eq_getElem hj]; rfl
   have hc : PolyC (plPoly P F (pl pls j)) := (hp _ (getD_mem hj)).p
   simp only [impl_nest_free_2, hpl, dlt hj, d0, cond_true, rd_nat, dfPl, dfT, ec, w64_s hj (show pls.length ≤ 1000000000000 by omega)]
   rw [near_impl hc.t hq.t sp mg an hd hk, near_ok hc hq]
   simp only [Option.bind_some, beq_bif]
   rfl) pls.length k 0 (by omega) (by omega)
 rw [find_any] at h
 simp only [z0] at h
 unfold impl_nest_free
 simp only [h]
 cases (List.range' 0 pls.length).any (hitB P F sp pls (i : Int) q) <;> rfl
theorem free_spec (hF : Faces P F V) {pls : List Pl} (hp : ∀ c ∈ pls, PlOK P F c) (hl : pls.length ≤ 1000) {c : Pl} (hc : PlOK P F c) (hk : 1048577 < k) :
  spec_l11Free k (W, H, P, F, V, pls, c.1, c.2.1, c.2.2.1, c.2.2.2.1, c.2.2.2.2, sp, mg, an, hd) = some (frB P F sp pls c) := by
 have h := runS (fun g j => spec_l11Free_3 k g (W, H, P, F, V, pls, c.1, c.2.1, c.2.2.1, c.2.2.2.1, c.2.2.2.2, sp, mg, an, hd, (j : Int), plPoly P F c)) pls.length (hitB P F sp pls c.2.1 (plPoly P F c)) (fun _ => .inr false) (.inl ()) (fun g => by simp only [spec_l11Free_3, dge (Nat.le_refl _), cond_false])
  (fun g j hj => by
   have hcj := hp _ (getD_mem (d := pl0) hj)
   have e : pls.getD j pl0 = pl pls j := rfl
   rw [e] at hcj
   simp only [spec_l11Free_3, dlt hj, d0, cond_true, rd_nat, dfPl, e, w64_s hj (show pls.length ≤ 1000000000000 by omega)]
   rw [pl_spec hF hcj hk]
   simp only [Option.bind_some]
   rw [near_spec hcj.p.t hc.p.t sp hk]
   simp only [Option.bind_some, beq_bif]
   rfl) pls.length k 0 (by omega) (by omega)
 rw [find_any] at h
 simp only [z0] at h
 unfold spec_l11Free
 simp only [pl_spec hF hc hk, Option.bind_some, h]
 unfold frB
 cases (List.range' 0 pls.length).any (hitB P F sp pls c.2.1 (plPoly P F c)) <;> rfl
def cxL (f i t : Nat) (tp : List Pt') (x : Lf) (mg st y : Int) : Nat → Int → List Pl
 | 0, _ => []
 | n + 1, u => if u + (bnd tp).2.2.1 ≤ lw x - mg then (bif lfF (sh tp u y) x mg == 0 then [((f : Int), (i : Int), u, y, (t : Int))] else []) ++ cxL f i t tp x mg st y n (u + st) else []
theorem cxL_len (f i t : Nat) (tp : List Pt') (x : Lf) (mg st y : Int) : ∀ (n : Nat) (u : Int), (cxL f i t tp x mg st y n u).length ≤ n
 | 0, _ => by simp [cxL]
 | n + 1, u => by
  have := cxL_len f i t tp x mg st y n (u + st)
  unfold cxL
  split
  ·rw [List.length_append]
   cases lfF (sh tp u y) x mg == 0 <;> simp <;> omega
  ·simp
abbrev XS (f i t : Nat) (y : Int) (W H : Int) (P : List Pt') (F : List Fc) (V : List Vn) (L : List Lf) (sp mg an hd st cnt : Int) (pls : List Pl) (polys : List (List Pt')) (fp : List Pt') (x : Lf) (tp : List Pt') := ((f : Int), (i : Int), (t : Int), y, L, (L.length : Int), (i : Int), (t : Int), W, H, P, F, V, L, sp, mg, an, hd, st, cnt, pls, polys, fp, x.1, x.2.1, x.2.2.1, x.2.2.2.1, x.2.2.2.2.1, x.2.2.2.2.2.1, x.2.2.2.2.2.2.1, x.2.2.2.2.2.2.2.1, x.2.2.2.2.2.2.2.2, tp, (bnd tp).2.2.1, (bnd tp).2.2.2)
abbrev NS (W H : Int) (P : List Pt') (F : List Fc) (V : List Vn) (L : List Lf) (sp mg an hd st cnt : Int) (pls : List Pl) (polys : List (List Pt')) := (W, H, P, F, V, L, sp, mg, an, hd, st, cnt, pls, polys)
structure RowOK (P : List Pt') (F : List Fc) (V : List Vn) (f t : Nat) (x : Lf) (mg st y : Int) : Prop where
 hF : Faces P F V
 hf : f < F.length
 ht : t < 8
 hx : LeafOK x
 hm : 0 ≤ mg ∧ mg ≤ 500
 hs : 1 ≤ st ∧ st ≤ 20000
 hy : 0 ≤ y
 hh : y + (bnd (trP t (fpoly P F f))).2.2.2 ≤ lh x - mg
theorem RowOK.poly {f t : Nat} {x : Lf} {y : Int} (h : RowOK P F V f t x mg st y) {u : Int} (hu : 0 ≤ u) (h1 : u + (bnd (trP t (fpoly P F f))).2.2.1 ≤ lw x - mg) : PolyC (sh (trP t (fpoly P F f)) u y) := by
 have hh := h.hh
 have hw := h.hx.w; have hh2 := h.hx.h; have hm := h.hm
 exact place_ok (h.hF.face h.hf).2 h.ht hu h.hy (by omega) (by omega)
theorem RowOK.tp {f t : Nat} {x : Lf} {y : Int} (h : RowOK P F V f t x mg st y) : (trP t (fpoly P F f)).all okP = true ∧ 3 ≤ (trP t (fpoly P F f)).length ∧ (trP t (fpoly P F f)).length ≤ 24 := by
 obtain ⟨hp, ⟨h3, h24⟩, -⟩ := polyB_sim (h.hF.face h.hf).2
 exact ⟨trP_ok h.ht hp (by omega), by rw [trP_len]; exact h3, by rw [trP_len]; exact h24⟩
theorem RowOK.pl {f t : Nat} {x : Lf} {y : Int} (h : RowOK P F V f t x mg st y) {u : Int} (hu : 0 ≤ u) (h1 : u + (bnd (trP t (fpoly P F f))).2.2.1 ≤ lw x - mg) (i : Nat) : PlOK P F ((f : Int), (i : Int), u, y, (t : Int)) := by
 obtain ⟨o, o2, o3⟩ := h.tp
 have b := bnd_okP o (by omega)
 have hh := h.hh
 have hw := h.hx.w; have hh2 := h.hx.h; have hm := h.hm
 have hy := h.hy
 exact ⟨⟨f, rfl, h.hf⟩, ⟨t, rfl, h.ht⟩, ⟨hu, by show u ≤ 20000; omega⟩, ⟨hy, by show y ≤ 20000; omega⟩, by
  have := h.poly hu h1
  unfold plPoly
  simpa using this⟩
theorem cxL_ok {f t : Nat} {x : Lf} {y : Int} (h : RowOK P F V f t x mg st y) (i : Nat) : ∀ (n : Nat) (u : Int), 0 ≤ u → ∀ c ∈ cxL f i t (trP t (fpoly P F f)) x mg st y n u, PlOK P F c
 | 0, _, _, c, hc => by simp [cxL] at hc
 | n + 1, u, hu, c, hc => by
  have hs := h.hs
  unfold cxL at hc
  split at hc
  ·rename_i h1
   rcases List.mem_append.1 hc with hc | hc
   ·cases hl : lfF (sh (trP t (fpoly P F f)) u y) x mg == 0 with
    | false => rw [hl] at hc; simp at hc
    | true =>
     rw [hl] at hc
     simp only [cond_true, List.mem_singleton] at hc
     rw [hc]; exact h.pl hu h1 i
   ·exact cxL_ok h i n (u + st) (by omega) c hc
  ·simp at hc
theorem x_impl {f t : Nat} {x : Lf} {y : Int} (h : RowOK P F V f t x mg st y) (hy : y ≤ 20000) (i : Nat) {pls : List Pl} {polys : List (List Pt')} (hp : ∀ c ∈ pls, PlOK P F c) (hl : pls.length ≤ 1000) (hpo : polys = pls.map (plPoly P F)) (fp : List Pt') (hk : 1048577 < k) :
  ∀ (n g : Nat) (u : Int), 0 ≤ u → u ≤ 40000 → lw x - mg - u < n → n < g →
   impl_nest_places_14 k g ((f : Int), (i : Int), (t : Int), y, u, L, (L.length : Int), (i : Int), (t : Int), W, H, P, F, V, L, sp, mg, an, hd, st, cnt, pls, polys, fp, x.1, x.2.1, x.2.2.1, x.2.2.2.1, x.2.2.2.2.1, x.2.2.2.2.2.1, x.2.2.2.2.2.2.1, x.2.2.2.2.2.2.2.1, x.2.2.2.2.2.2.2.2, trP t (fpoly P F f), (bnd (trP t (fpoly P F f))).2.2.1, (bnd (trP t (fpoly P F f))).2.2.2)
   = some (match (cxL f i t (trP t (fpoly P F f)) x mg st y n u).find? (frB P F sp pls) with | some c => .inr (NS W H P F V L sp mg an hd st cnt (pls ++ [c]) (polys ++ [plPoly P F c])) | none => .inl (XS f i t y W H P F V L sp mg an hd st cnt pls polys fp x (trP t (fpoly P F f))))
 | n, 0, _, _, _, _, hg => by omega
 | n, g + 1, u, h0, h1, hn, hg => by
  obtain ⟨o, o2, o3⟩ := h.tp
  have b := bnd_okP o (by omega)
  have hw := h.hx.w; have hm := h.hm; have hs := h.hs; have hy0 := h.hy
  have hpl : polys.length ≤ 1000 := by rw [hpo, List.length_map]; exact hl
  have e1 : w64 (x.2.2.2.2.2.2.1 - mg) = lw x - mg := w64_id (show -9223372036854775808 ≤ lw x - mg by omega) (show lw x - mg ≤ _ by omega)
  simp only [impl_nest_places_14, e1]
  rw [w64_id (x := u + (bnd (trP t (fpoly P F f))).2.2.1) (by omega) (by omega)]
  by_cases hc : u + (bnd (trP t (fpoly P F f))).2.2.1 ≤ lw x - mg
  ·cases n with
   | zero => omega
   | succ n =>
    have hP := h.poly h0 hc
    have ih := x_impl h hy i hp hl hpo fp hk n g (u + st) (by omega) (by omega) (by omega) (by omega)
    rw [decide_eq_true hc, shifted_impl (inR_ok o) (by omega) (by omega) (by omega) hk]
    simp only [cond_true, Option.bind_some]
    rw [lf_impl hP h.hx hm sp an hd hk, w64_id (x := u + st) (by omega) (by omega)]
    simp only [Option.bind_some]
    rw [free_impl hp hl hpo hP i hk]
    simp only [Option.bind_some]
    unfold cxL
    rw [if_pos hc, List.find?_append]
    have ep : plPoly P F ((f : Int), (i : Int), u, y, (t : Int)) = sh (trP t (fpoly P F f)) u y := by unfold plPoly; simp
    have ef : frB P F sp pls ((f : Int), (i : Int), u, y, (t : Int)) = !((List.range' 0 pls.length).any (hitB P F sp pls (i : Int) (sh (trP t (fpoly P F f)) u y))) := by unfold frB; rw [ep]
    cases hlf : lfF (sh (trP t (fpoly P F f)) u y) x mg == 0 with
    | false =>
     rw [show (lfF (sh (trP t (fpoly P F f)) u y) x mg != 0) = true by unfold bne; rw [hlf]; rfl]
     simp only [cond_true, cond_false, Option.bind_some, List.find?_nil, Option.none_or]
     exact ih
    | true =>
     rw [show (lfF (sh (trP t (fpoly P F f)) u y) x mg != 0) = false by unfold bne; rw [hlf]; rfl]
     simp only [cond_true, cond_false, Option.bind_some, List.find?_cons, ef, List.find?_nil]
     cases (List.range' 0 pls.length).any (hitB P F sp pls (i : Int) (sh (trP t (fpoly P F f)) u y)) with
     | true =>
      simp only [Bool.not_true, Bool.not_false, cond_true, Option.none_or]
      exact ih
     | false =>
      simp only [Bool.not_true, Bool.not_false, cond_false, Option.some_or]
      unfold impl_GreedyNesting_1 impl_nest_put
      simp only
      rw [decide_eq_true (by simp only [List.length_cons, List.length_nil]; omega), decide_eq_true (by simp only [List.length_cons, List.length_nil]; omega), ep]
      rfl
  ·rw [decide_eq_false hc]
   have : cxL f i t (trP t (fpoly P F f)) x mg st y n u = [] := by
    cases n with
    | zero => rfl
    | succ n => unfold cxL; rw [if_neg hc]
   rw [this]
   rfl
theorem x_spec {f t : Nat} {x : Lf} {y : Int} (h : RowOK P F V f t x mg st y) (hy : y ≤ 20000) (i : Nat) (hk : 1048577 < k) :
  ∀ (n g : Nat) (u : Int) (s : List Pl), 0 ≤ u → u ≤ 40000 → lw x - mg - u < n → n < g → s.length + n ≤ 1000000000000 →
   spec_l11Places_15 k g (W, H, P, F, V, L, (f : Int), sp, mg, an, hd, st, (i : Int), x.1, x.2.1, x.2.2.1, x.2.2.2.1, x.2.2.2.2.1, x.2.2.2.2.2.1, x.2.2.2.2.2.2.1, x.2.2.2.2.2.2.2.1, x.2.2.2.2.2.2.2.2, (t : Int), y, u, s, (bnd (trP t (fpoly P F f))).2.2.1, (bnd (trP t (fpoly P F f))).2.2.2)
   = some (W, H, P, F, V, L, (f : Int), sp, mg, an, hd, st, (i : Int), x.1, x.2.1, x.2.2.1, x.2.2.2.1, x.2.2.2.2.1, x.2.2.2.2.2.1, x.2.2.2.2.2.2.1, x.2.2.2.2.2.2.2.1, x.2.2.2.2.2.2.2.2, (t : Int), y, s ++ cxL f i t (trP t (fpoly P F f)) x mg st y n u, (bnd (trP t (fpoly P F f))).2.2.1, (bnd (trP t (fpoly P F f))).2.2.2)
 | n, 0, _, _, _, _, _, hg, _ => by omega
 | n, g + 1, u, s, h0, h1, hn, hg, hsl => by
  obtain ⟨o, o2, o3⟩ := h.tp
  have b := bnd_okP o (by omega)
  have hw := h.hx.w; have hm := h.hm; have hs := h.hs; have hy0 := h.hy
  have e1 : w64 (x.2.2.2.2.2.2.1 - mg) = lw x - mg := w64_id (show -9223372036854775808 ≤ lw x - mg by omega) (show lw x - mg ≤ _ by omega)
  simp only [spec_l11Places_15, e1]
  rw [w64_id (x := u + (bnd (trP t (fpoly P F f))).2.2.1) (by omega) (by omega)]
  by_cases hc : u + (bnd (trP t (fpoly P F f))).2.2.1 ≤ lw x - mg
  ·cases n with
   | zero => omega
   | succ n =>
    have hP := h.poly h0 hc
    have ep : plPoly P F ((f : Int), (i : Int), u, y, (t : Int)) = sh (trP t (fpoly P F f)) u y := by unfold plPoly; simp
    have hpl : spec_l11Polygon k (W, H, P, F, V, (f : Int), (i : Int), u, y, (t : Int)) = _ := pl_spec (W := W) (H := H) h.hF (h.pl h0 hc i) hk
    have ih := fun s hs => x_spec h hy i hk n g (u + st) s (by omega) (by omega) (by omega) (by omega) hs
    rw [decide_eq_true hc, hpl, ep]
    simp only [cond_true, Option.bind_some]
    rw [lf_spec hP h.hx hm sp an hd hk, w64_id (x := u + st) (by omega) (by omega)]
    simp only [Option.bind_some]
    unfold cxL
    rw [if_pos hc]
    cases hlf : lfF (sh (trP t (fpoly P F f)) u y) x mg == 0 with
    | false =>
     simp only [cond_false, List.nil_append]
     exact ih s (by omega)
    | true =>
     simp only [cond_true]
     rw [decide_eq_true (by simp only [List.length_cons, List.length_nil]; omega), ← List.append_assoc]
     exact ih _ (by simp; omega)
  ·rw [decide_eq_false hc]
   have : cxL f i t (trP t (fpoly P F f)) x mg st y n u = [] := by
    cases n with
    | zero => rfl
    | succ n => unfold cxL; rw [if_neg hc]
   rw [this, List.append_nil]
   rfl
end
end Go.Proofs.YtgcioclfplafkaaGreatV
end
section
namespace Go.Proofs.YtgcioclfplafkaaGreatV
open Go Go.RowKit
def cyL (f i t : Nat) (tp : List Pt') (x : Lf) (mg st : Int) : Nat → Int → List Pl
 | 0, _ => []
 | n + 1, v => if v + (bnd tp).2.2.2 ≤ lh x - mg then cxL f i t tp x mg st v 20002 mg ++ cyL f i t tp x mg st n (v + st) else []
def ctL (P : List Pt') (F : List Fc) (V : List Vn) (L : List Lf) (mg an hd st : Int) (f i t : Nat) : List Pl :=
 bif vf (vn V f) (lf L i) t an hd == 0 then cyL f i t (trP t (fpoly P F f)) (lf L i) mg st 20002 mg else []
def ciL (P : List Pt') (F : List Fc) (V : List Vn) (L : List Lf) (mg an hd st : Int) (f i : Nat) : List Pl := (List.range' 0 8).flatMap (ctL P F V L mg an hd st f i)
def cands (P : List Pt') (F : List Fc) (V : List Vn) (L : List Lf) (mg an hd st : Int) (f : Nat) : List Pl := (List.range' 0 L.length).flatMap (ciL P F V L mg an hd st f)
structure ColOK (P : List Pt') (F : List Fc) (V : List Vn) (L : List Lf) (mg st : Int) : Prop where
 hF : Faces P F V
 hV : V.length = F.length
 hv : ∀ i, i < V.length → vnB (vn V i) = true
 hL : leavesB L = true
 hl : L.length ≤ 16
 hm : 0 ≤ mg ∧ mg ≤ 500
 hs : 1 ≤ st ∧ st ≤ 20000
section
variable {k : Nat} {W H : Int} {P : List Pt'} {F : List Fc} {V : List Vn} {L : List Lf} {sp mg an hd st cnt : Int}
theorem ColOK.leaf (h : ColOK P F V L mg st) {i : Nat} (hi : i < L.length) : LeafOK (lf L i) := leafOK (leaf_of h.hL hi)
theorem ColOK.row (h : ColOK P F V L mg st) {f i t : Nat} (hf : f < F.length) (hi : i < L.length) (ht : t < 8) {y : Int} (hy : 0 ≤ y) (hh : y + (bnd (trP t (fpoly P F f))).2.2.2 ≤ lh (lf L i) - mg) : RowOK P F V f t (lf L i) mg st y := ⟨h.hF, hf, ht, h.leaf hi, h.hm, h.hs, hy, hh⟩
theorem ColOK.tp (h : ColOK P F V L mg st) {f t : Nat} (hf : f < F.length) (ht : t < 8) : (trP t (fpoly P F f)).all okP = true ∧ 3 ≤ (trP t (fpoly P F f)).length ∧ (trP t (fpoly P F f)).length ≤ 24 := by
 obtain ⟨hp, ⟨h3, h24⟩, -⟩ := polyB_sim (h.hF.face hf).2
 exact ⟨trP_ok ht hp (by omega), by rw [trP_len]; exact h3, by rw [trP_len]; exact h24⟩
theorem cyL_ok (h : ColOK P F V L mg st) {f i t : Nat} (hf : f < F.length) (hi : i < L.length) (ht : t < 8) : ∀ (n : Nat) (v : Int), 0 ≤ v → ∀ c ∈ cyL f i t (trP t (fpoly P F f)) (lf L i) mg st n v, PlOK P F c
 | 0, _, _, c, hc => by simp [cyL] at hc
 | n + 1, v, hv, c, hc => by
  have hs := h.hs
  have hm := h.hm
  unfold cyL at hc
  split at hc
  ·rename_i h1
   rcases List.mem_append.1 hc with hc | hc
   ·exact cxL_ok (h.row hf hi ht hv h1) i _ _ (by omega) c hc
   ·exact cyL_ok h hf hi ht n (v + st) (by omega) c hc
  ·simp at hc
theorem cyL_len (f i t : Nat) (tp : List Pt') (x : Lf) (mg st : Int) : ∀ (n : Nat) (v : Int), (cyL f i t tp x mg st n v).length ≤ n * 20002
 | 0, _ => by simp [cyL]
 | n + 1, v => by
  have := cyL_len f i t tp x mg st n (v + st)
  have h2 := cxL_len f i t tp x mg st v 20002 mg
  unfold cyL
  split
  ·rw [List.length_append]; omega
  ·simp
theorem ctL_len (f i t : Nat) : (ctL P F V L mg an hd st f i t).length ≤ 400080004 := by
 unfold ctL
 have := cyL_len f i t (trP t (fpoly P F f)) (lf L i) mg st 20002 mg
 cases vf (vn V f) (lf L i) t an hd == 0
 ·simp
 ·simp only [cond_true]; omega
theorem flatL_len {g : Nat → List Pl} {B : Nat} (h : ∀ i, (g i).length ≤ B) : ∀ l : List Nat, (l.flatMap g).length ≤ l.length * B
 | [] => by simp
 | a :: l => by
  have := flatL_len h l
  have h1 := h a
  rw [List.flatMap_cons, List.length_append, List.length_cons, Nat.add_mul]; omega
theorem ciL_len (f i : Nat) : (ciL P F V L mg an hd st f i).length ≤ 3200640032 := by
 have := flatL_len (g := ctL P F V L mg an hd st f i) (B := 400080004) (ctL_len f i) (List.range' 0 8)
 unfold ciL
 simp only [List.length_range'] at this
 omega
theorem cands_len (hl : L.length ≤ 16) (f : Nat) : (cands P F V L mg an hd st f).length ≤ 51210240512 := by
 have := flatL_len (g := ciL P F V L mg an hd st f) (B := 3200640032) (ciL_len f) (List.range' 0 L.length)
 unfold cands
 simp only [List.length_range'] at this
 have h2 := Nat.mul_le_mul_right 3200640032 hl
 omega
theorem cands_ok (h : ColOK P F V L mg st) {f : Nat} (hf : f < F.length) : ∀ c ∈ cands P F V L mg an hd st f, PlOK P F c := by
 intro c hc
 unfold cands at hc
 obtain ⟨i, hi, hc⟩ := List.mem_flatMap.1 hc
 unfold ciL at hc
 obtain ⟨t, ht, hc⟩ := List.mem_flatMap.1 hc
 have hi : i < L.length := by have := List.mem_range'_1.1 hi; omega
 have ht : t < 8 := by have := List.mem_range'_1.1 ht; omega
 unfold ctL at hc
 cases hv : vf (vn V f) (lf L i) t an hd == 0 with
 | false => rw [hv] at hc; simp at hc
 | true => rw [hv] at hc; exact cyL_ok h hf hi ht _ _ h.hm.1 c hc
abbrev YS (f i t : Nat) (W H : Int) (P : List Pt') (F : List Fc) (V : List Vn) (L : List Lf) (sp mg an hd st cnt : Int) (pls : List Pl) (polys : List (List Pt')) (fp : List Pt') (x : Lf) := ((f : Int), (i : Int), L, (L.length : Int), (i : Int), (t : Int), W, H, P, F, V, L, sp, mg, an, hd, st, cnt, pls, polys, fp, x.1, x.2.1, x.2.2.1, x.2.2.2.1, x.2.2.2.2.1, x.2.2.2.2.2.1, x.2.2.2.2.2.2.1, x.2.2.2.2.2.2.2.1, x.2.2.2.2.2.2.2.2)
abbrev TS (f i : Nat) (W H : Int) (P : List Pt') (F : List Fc) (V : List Vn) (L : List Lf) (sp mg an hd st cnt : Int) (pls : List Pl) (polys : List (List Pt')) (fp : List Pt') := ((f : Int), L, (L.length : Int), (i : Int), W, H, P, F, V, L, sp, mg, an, hd, st, cnt, pls, polys, fp)
theorem y_impl (h : ColOK P F V L mg st) {f i t : Nat} (hf : f < F.length) (hi : i < L.length) (ht : t < 8) {pls : List Pl} {polys : List (List Pt')} (hp : ∀ c ∈ pls, PlOK P F c) (hl : pls.length ≤ 1000) (hpo : polys = pls.map (plPoly P F)) (fp : List Pt') (hk : 1048577 < k) :
  ∀ (n g : Nat) (v : Int), 0 ≤ v → v ≤ 40000 → lh (lf L i) - mg - v < n → n < g →
   impl_nest_places_11 k g ((f : Int), (i : Int), (t : Int), v, L, (L.length : Int), (i : Int), (t : Int), W, H, P, F, V, L, sp, mg, an, hd, st, cnt, pls, polys, fp, (lf L i).1, (lf L i).2.1, (lf L i).2.2.1, (lf L i).2.2.2.1, (lf L i).2.2.2.2.1, (lf L i).2.2.2.2.2.1, (lf L i).2.2.2.2.2.2.1, (lf L i).2.2.2.2.2.2.2.1, (lf L i).2.2.2.2.2.2.2.2, trP t (fpoly P F f), (bnd (trP t (fpoly P F f))).2.2.1, (bnd (trP t (fpoly P F f))).2.2.2)
   = some (match (cyL f i t (trP t (fpoly P F f)) (lf L i) mg st n v).find? (frB P F sp pls) with | some c => .inr (NS W H P F V L sp mg an hd st cnt (pls ++ [c]) (polys ++ [plPoly P F c])) | none => .inl (YS f i t W H P F V L sp mg an hd st cnt pls polys fp (lf L i)))
 | n, 0, _, _, _, _, hg => by omega
 | n, g + 1, v, h0, h1, hn, hg => by
  obtain ⟨o, o2, o3⟩ := h.tp hf ht
  have b := bnd_okP o (by omega)
  have hw := (h.leaf hi).h; have hw2 := (h.leaf hi).w; have hm := h.hm; have hs := h.hs
  have e1 : w64 ((lf L i).2.2.2.2.2.2.2.1 - mg) = lh (lf L i) - mg := w64_id (show -9223372036854775808 ≤ lh (lf L i) - mg by omega) (show lh (lf L i) - mg ≤ _ by omega)
  simp only [impl_nest_places_11, e1]
  rw [w64_id (x := v + (bnd (trP t (fpoly P F f))).2.2.2) (by omega) (by omega)]
  by_cases hc : v + (bnd (trP t (fpoly P F f))).2.2.2 ≤ lh (lf L i) - mg
  ·cases n with
   | zero => omega
   | succ n =>
    have ih := y_impl h hf hi ht hp hl hpo fp hk n g (v + st) (by omega) (by omega) (by omega) (by omega)
    rw [decide_eq_true hc, x_impl (h.row hf hi ht h0 hc) (by omega) i hp hl hpo fp hk 20002 k mg (by omega) (by omega) (by omega) (by omega)]
    simp only [cond_true, Option.bind_some]
    conv => rhs; unfold cyL
    rw [if_pos hc, List.find?_append]
    cases (cxL f i t (trP t (fpoly P F f)) (lf L i) mg st v 20002 mg).find? (frB P F sp pls) with
    | some c => rfl
    | none =>
     simp only [Option.none_or]
     rw [w64_id (x := v + st) (by omega) (by omega)]
     exact ih
  ·rw [decide_eq_false hc]
   have : cyL f i t (trP t (fpoly P F f)) (lf L i) mg st n v = [] := by
    cases n with
    | zero => rfl
    | succ n => unfold cyL; rw [if_neg hc]
   rw [this]
   rfl
theorem t_impl (h : ColOK P F V L mg st) {f i : Nat} (hf : f < F.length) (hi : i < L.length) {pls : List Pl} {polys : List (List Pt')} (hp : ∀ c ∈ pls, PlOK P F c) (hl : pls.length ≤ 1000) (hpo : polys = pls.map (plPoly P F)) (hk : 1048577 < k) :
  ∀ (d g t : Nat), t + d = 8 → d < g →
   impl_nest_places_5 k g (YS f i t W H P F V L sp mg an hd st cnt pls polys (fpoly P F f) (lf L i))
   = some (match ((List.range' t d).flatMap (ctL P F V L mg an hd st f i)).find? (frB P F sp pls) with | some c => .inr (NS W H P F V L sp mg an hd st cnt (pls ++ [c]) (polys ++ [plPoly P F c])) | none => .inl (TS f i W H P F V L sp mg an hd st cnt pls polys (fpoly P F f)))
 | d, 0, _, _, hg => by omega
 | 0, g + 1, t, ht, hg => by
  have : t = 8 := by omega
  subst this
  rfl
 | d + 1, g + 1, t, ht8, hg => by
  have ht : t < 8 := by omega
  obtain ⟨o, o2, o3⟩ := h.tp hf ht
  obtain ⟨hp0, ⟨p3, p24⟩, -⟩ := polyB_sim (h.hF.face hf).2
  have hV : f < V.length := by rw [h.hV]; exact hf
  have hw := (h.leaf hi).h; have hm := h.hm
  have ih := t_impl h hf hi hp hl hpo hk d g (t + 1) (by omega) (by omega)
  have hvf := vf_impl (k := k) (h.hv f hV) (h.leaf hi).v t ht sp mg an hd
  have e : V.getD f (ByteArray.empty, 0, 0) = vn V f := rfl
  have wt : w64 ((t : Int) + 1) = ((t + 1 : Nat) : Int) := by rw [w64_id (by omega) (by omega)]; omega
  simp only [impl_nest_places_5, decide_eq_true (show (t : Int) < 8 by omega), d0, dlt hV, cond_true, rd_nat, dfV, e, wt]
  rw [hvf]
  simp only [Option.bind_some]
  rw [turnPoints_eq hp0 ht (by omega) (by omega) hk]
  simp only [Option.bind_some]
  rw [bounds_impl (p := trP t (fpoly P F f)) (by omega) (by omega) hk]
  simp only [Option.bind_some]
  rw [y_impl h hf hi ht hp hl hpo (fpoly P F f) hk 20002 k mg (by omega) (by omega) (by omega) (by omega), List.range'_succ, List.flatMap_cons, List.find?_append]
  simp only [Option.bind_some]
  have ec : ctL P F V L mg an hd st f i t = bif vf (vn V f) (lf L i) t an hd == 0 then cyL f i t (trP t (fpoly P F f)) (lf L i) mg st 20002 mg else [] := rfl
  rw [ec]
  cases hv : vf (vn V f) (lf L i) t an hd == 0 with
  | false =>
   rw [show (vf (vn V f) (lf L i) t an hd != 0) = true by unfold bne; rw [hv]; rfl]
   simp only [cond_true, cond_false, List.find?_nil, Option.none_or]
   exact ih
  | true =>
   rw [show (vf (vn V f) (lf L i) t an hd != 0) = false by unfold bne; rw [hv]; rfl]
   simp only [cond_true, cond_false]
   cases (cyL f i t (trP t (fpoly P F f)) (lf L i) mg st 20002 mg).find? (frB P F sp pls) with
   | some c => rfl
   | none =>
    simp only [Option.none_or]
    rw [wt]
    exact ih
theorem i_impl (h : ColOK P F V L mg st) {f : Nat} (hf : f < F.length) {pls : List Pl} {polys : List (List Pt')} (hp : ∀ c ∈ pls, PlOK P F c) (hl : pls.length ≤ 1000) (hpo : polys = pls.map (plPoly P F)) (hk : 1048577 < k) :
  ∀ (d g i : Nat), i + d = L.length → d < g →
   impl_nest_places_2 k g (TS f i W H P F V L sp mg an hd st cnt pls polys (fpoly P F f))
   = some (match ((List.range' i d).flatMap (ciL P F V L mg an hd st f)).find? (frB P F sp pls) with | some c => .inr (NS W H P F V L sp mg an hd st cnt (pls ++ [c]) (polys ++ [plPoly P F c])) | none => .inl (NS W H P F V L sp mg an hd st cnt pls polys))
 | d, 0, _, _, hg => by omega
 | 0, g + 1, i, hi, hg => by
  have : i = L.length := by omega
  subst this
  simp only [impl_nest_places_2, dge (Nat.le_refl _), cond_false]
  rfl
 | d + 1, g + 1, i, hid, hg => by
  have hi : i < L.length := by omega
  have hl16 := h.hl
  have ih := i_impl h hf hp hl hpo hk d g (i + 1) (by omega) (by omega)
  have e : L.getD i lf0 = lf L i := rfl
  simp only [impl_nest_places_2, dlt hi, d0, cond_true, rd_nat, dfL, e]
  have ht := t_impl (W := W) (H := H) (L := L) (sp := sp) (an := an) (hd := hd) (cnt := cnt) h hf hi hp hl hpo hk 8 k 0 (by omega) (by omega)
  simp only [YS, TS, NS, z0] at ht
  rw [show (List.range' 0 8).flatMap (ctL P F V L mg an hd st f i) = ciL P F V L mg an hd st f i from rfl] at ht
  rw [ht, List.range'_succ, List.flatMap_cons, List.find?_append]
  simp only [Option.bind_some]
  cases (ciL P F V L mg an hd st f i).find? (frB P F sp pls) with
  | some c => rfl
  | none =>
   simp only [Option.none_or]
   rw [w64_s hi (show L.length ≤ 1000000000000 by omega)]
   exact ih
theorem places_impl (h : ColOK P F V L mg st) {f : Nat} (hf : f < F.length) {pls : List Pl} {polys : List (List Pt')} (hp : ∀ c ∈ pls, PlOK P F c) (hl : pls.length ≤ 1000) (hpo : polys = pls.map (plPoly P F)) (hk : 1048577 < k) :
  impl_nest_places k ((f : Int), NS W H P F V L sp mg an hd st cnt pls polys) = some (match (cands P F V L mg an hd st f).find? (frB P F sp pls) with | some c => NS W H P F V L sp mg an hd st cnt (pls ++ [c]) (polys ++ [plPoly P F c]) | none => NS W H P F V L sp mg an hd st cnt pls polys) := by
 have hl16 := h.hl
 have hi := i_impl (W := W) (H := H) (L := L) (sp := sp) (an := an) (hd := hd) (cnt := cnt) h hf hp hl hpo hk L.length k 0 (by omega) (by omega)
 simp only [TS, NS, z0] at hi
 have hfp := face_impl (k := k) (W := W) (H := H) h.hF.s hf (h.hF.face hf).1 hk
 unfold impl_nest_places
 simp only [hfp, Option.bind_some, hi]
 rw [show (List.range' 0 L.length).flatMap (ciL P F V L mg an hd st f) = cands P F V L mg an hd st f from rfl]
 cases (cands P F V L mg an hd st f).find? (frB P F sp pls) <;> rfl
theorem y_spec (h : ColOK P F V L mg st) {f i t : Nat} (hf : f < F.length) (hi : i < L.length) (ht : t < 8) (hk : 1048577 < k) :
  ∀ (n g : Nat) (v : Int) (s : List Pl), 0 ≤ v → v ≤ 40000 → lh (lf L i) - mg - v < n → n < g → s.length + n * 20002 ≤ 1000000000000 →
   spec_l11Places_12 k g (W, H, P, F, V, L, (f : Int), sp, mg, an, hd, st, (i : Int), (lf L i).1, (lf L i).2.1, (lf L i).2.2.1, (lf L i).2.2.2.1, (lf L i).2.2.2.2.1, (lf L i).2.2.2.2.2.1, (lf L i).2.2.2.2.2.2.1, (lf L i).2.2.2.2.2.2.2.1, (lf L i).2.2.2.2.2.2.2.2, (t : Int), v, s, (bnd (trP t (fpoly P F f))).2.2.1, (bnd (trP t (fpoly P F f))).2.2.2)
   = some (W, H, P, F, V, L, (f : Int), sp, mg, an, hd, st, (i : Int), (lf L i).1, (lf L i).2.1, (lf L i).2.2.1, (lf L i).2.2.2.1, (lf L i).2.2.2.2.1, (lf L i).2.2.2.2.2.1, (lf L i).2.2.2.2.2.2.1, (lf L i).2.2.2.2.2.2.2.1, (lf L i).2.2.2.2.2.2.2.2, (t : Int), s ++ cyL f i t (trP t (fpoly P F f)) (lf L i) mg st n v)
 | n, 0, _, _, _, _, _, hg, _ => by omega
 | n, g + 1, v, s, h0, h1, hn, hg, hsl => by
  obtain ⟨o, o2, o3⟩ := h.tp hf ht
  have b := bnd_okP o (by omega)
  have hw := (h.leaf hi).h; have hw2 := (h.leaf hi).w; have hm := h.hm; have hs := h.hs
  have e1 : w64 ((lf L i).2.2.2.2.2.2.2.1 - mg) = lh (lf L i) - mg := w64_id (show -9223372036854775808 ≤ lh (lf L i) - mg by omega) (show lh (lf L i) - mg ≤ _ by omega)
  simp only [spec_l11Places_12, e1]
  rw [w64_id (x := v + (bnd (trP t (fpoly P F f))).2.2.2) (by omega) (by omega)]
  by_cases hc : v + (bnd (trP t (fpoly P F f))).2.2.2 ≤ lh (lf L i) - mg
  ·cases n with
   | zero => omega
   | succ n =>
    have hcl := cxL_len f i t (trP t (fpoly P F f)) (lf L i) mg st v 20002 mg
    have ih := y_spec h hf hi ht hk n g (v + st) (s ++ cxL f i t (trP t (fpoly P F f)) (lf L i) mg st v 20002 mg) (by omega) (by omega) (by omega) (by omega) (by rw [List.length_append]; omega)
    rw [decide_eq_true hc, x_spec (h.row hf hi ht h0 hc) (by omega) i hk 20002 k mg s (by omega) (by omega) (by omega) (by omega) (by omega)]
    simp only [cond_true, Option.bind_some]
    conv => rhs; unfold cyL
    rw [if_pos hc, w64_id (x := v + st) (by omega) (by omega), ← List.append_assoc]
    exact ih
  ·rw [decide_eq_false hc]
   have : cyL f i t (trP t (fpoly P F f)) (lf L i) mg st n v = [] := by
    cases n with
    | zero => rfl
    | succ n => unfold cyL; rw [if_neg hc]
   rw [this, List.append_nil]
   rfl
theorem t_spec (h : ColOK P F V L mg st) {f i : Nat} (hf : f < F.length) (hi : i < L.length) (hk : 1048577 < k) :
  ∀ (d g t : Nat) (s : List Pl), t + d = 8 → d < g → s.length + d * 400080004 ≤ 1000000000000 →
   spec_l11Places_7 k g (W, H, P, F, V, L, (f : Int), sp, mg, an, hd, st, (i : Int), (lf L i).1, (lf L i).2.1, (lf L i).2.2.1, (lf L i).2.2.2.1, (lf L i).2.2.2.2.1, (lf L i).2.2.2.2.2.1, (lf L i).2.2.2.2.2.2.1, (lf L i).2.2.2.2.2.2.2.1, (lf L i).2.2.2.2.2.2.2.2, (t : Int), s)
   = some (W, H, P, F, V, L, (f : Int), sp, mg, an, hd, st, (i : Int), s ++ (List.range' t d).flatMap (ctL P F V L mg an hd st f i))
 | d, 0, _, _, _, hg, _ => by omega
 | 0, g + 1, t, s, ht, hg, _ => by
  have : t = 8 := by omega
  subst this
  simp only [spec_l11Places_7, decide_eq_false (show ¬ ((8 : Nat) : Int) < 8 by omega), cond_false, List.range'_zero, List.flatMap_nil, List.append_nil]
 | d + 1, g + 1, t, s, ht8, hg, hsl => by
  have hsl' : s.length + d * 400080004 + 400080004 ≤ 1000000000000 := by rw [Nat.add_assoc, ← Nat.succ_mul]; exact hsl
  clear hsl
  have ht : t < 8 := by omega
  obtain ⟨o, o2, o3⟩ := h.tp hf ht
  obtain ⟨hr0, hB0⟩ := h.hF.face hf
  obtain ⟨hp0, ⟨p3, p24⟩, -⟩ := polyB_sim hB0
  have hV : f < V.length := by rw [h.hV]; exact hf
  have hw := (h.leaf hi).h; have hm := h.hm
  have hcl := ctL_len (P := P) (F := F) (V := V) (L := L) (mg := mg) (an := an) (hd := hd) (st := st) f i t
  have ih := fun s hs => t_spec h hf hi hk d g (t + 1) s (by omega) (by omega) hs
  have hvf := vf_spec (k := k) (h.hv f hV) (h.leaf hi).v t ht sp mg an hd
  have e : V.getD f (ByteArray.empty, 0, 0) = vn V f := rfl
  have wt : w64 ((t : Int) + 1) = ((t + 1 : Nat) : Int) := by rw [w64_id (by omega) (by omega)]; omega
  simp only [spec_l11Places_7, decide_eq_true (show (t : Int) < 8 by omega), d0, dlt hV, cond_true, rd_nat, dfV, e, wt]
  rw [hvf]
  simp only [Option.bind_some]
  rw [face_spec h.hF.s hf hr0 hk]
  simp only [Option.bind_some]
  rw [turnedL_spec hp0 ht (by omega) (by omega) hk]
  simp only [Option.bind_some]
  rw [bounds_spec (p := trP t (fpoly P F f)) (by omega) (by omega) hk]
  simp only [Option.bind_some]
  rw [y_spec h hf hi ht hk 20002 k mg s (by omega) (by omega) (by omega) (by omega) (by omega), List.range'_succ, List.flatMap_cons]
  simp only [Option.bind_some]
  have ec : ctL P F V L mg an hd st f i t = bif vf (vn V f) (lf L i) t an hd == 0 then cyL f i t (trP t (fpoly P F f)) (lf L i) mg st 20002 mg else [] := rfl
  rw [ec] at hcl ⊢
  cases hv : vf (vn V f) (lf L i) t an hd == 0 with
  | false =>
   rw [show (vf (vn V f) (lf L i) t an hd != 0) = true by unfold bne; rw [hv]; rfl]
   simp only [cond_true, cond_false, List.nil_append]
   exact ih s (by omega)
  | true =>
   rw [hv] at hcl
   simp only [cond_true] at hcl
   rw [show (vf (vn V f) (lf L i) t an hd != 0) = false by unfold bne; rw [hv]; rfl]
   simp only [cond_true, cond_false]
   rw [wt, ← List.append_assoc]
   exact ih _ (by rw [List.length_append]; omega)
theorem i_spec (h : ColOK P F V L mg st) {f : Nat} (hf : f < F.length) (hk : 1048577 < k) :
  ∀ (d g i : Nat) (s : List Pl), i + d = L.length → d < g → s.length + d * 3200640032 ≤ 1000000000000 →
   spec_l11Places_3 k g (W, H, P, F, V, L, (f : Int), sp, mg, an, hd, st, (i : Int), s) = some (s ++ (List.range' i d).flatMap (ciL P F V L mg an hd st f))
 | d, 0, _, _, _, hg, _ => by omega
 | 0, g + 1, i, s, hi, hg, _ => by
  have : i = L.length := by omega
  subst this
  simp only [spec_l11Places_3, dge (Nat.le_refl _), cond_false, List.range'_zero, List.flatMap_nil, List.append_nil]
 | d + 1, g + 1, i, s, hid, hg, hsl => by
  have hsl' : s.length + d * 3200640032 + 3200640032 ≤ 1000000000000 := by rw [Nat.add_assoc, ← Nat.succ_mul]; exact hsl
  clear hsl
  have hi : i < L.length := by omega
  have hl16 := h.hl
  have hcl := ciL_len (P := P) (F := F) (V := V) (L := L) (mg := mg) (an := an) (hd := hd) (st := st) f i
  have ih := i_spec h hf hk d g (i + 1) (s ++ ciL P F V L mg an hd st f i) (by omega) (by omega) (by rw [List.length_append]; omega)
  have e : L.getD i lf0 = lf L i := rfl
  simp only [spec_l11Places_3, dlt hi, d0, cond_true, rd_nat, dfL, e]
  have ht := t_spec (W := W) (H := H) (sp := sp) (an := an) (hd := hd) h hf hi hk 8 k 0 s (by omega) (by omega) (by omega)
  rw [show (((0 : Nat) : Int)) = 0 from rfl] at ht
  rw [show (List.range' 0 8).flatMap (ctL P F V L mg an hd st f i) = ciL P F V L mg an hd st f i from rfl] at ht
  rw [ht, List.range'_succ, List.flatMap_cons]
  simp only [Option.bind_some]
  rw [w64_s hi (show L.length ≤ 1000000000000 by omega), ← List.append_assoc]
  exact ih
theorem places_spec (h : ColOK P F V L mg st) {f : Nat} (hf : f < F.length) (hk : 1048577 < k) :
  spec_l11Places k (W, H, P, F, V, L, (f : Int), sp, mg, an, hd, st) = some (cands P F V L mg an hd st f) := by
 have hl16 := h.hl
 have hi := i_spec (W := W) (H := H) (sp := sp) (an := an) (hd := hd) h hf hk L.length k 0 [] (by omega) (by omega) (by simp; omega)
 rw [show (((0 : Nat) : Int)) = 0 from rfl, List.nil_append] at hi
 unfold spec_l11Places
 simp only [hi, Option.bind_some]
 rfl
end
end Go.Proofs.YtgcioclfplafkaaGreatV
end
section
namespace Go.Proofs.YtgcioclfplafkaaGreatV
open Go Go.RowKit
def grd (P : List Pt') (F : List Fc) (V : List Vn) (L : List Lf) (sp mg an hd st : Int) : Nat → Nat → List Pl → List Pl ⊕ (Int × List Pl)
 | 0, _, pls => .inl pls
 | d + 1, f, pls => match (cands P F V L mg an hd st f).find? (frB P F sp pls) with | some c => grd P F V L sp mg an hd st d (f + 1) (pls ++ [c]) | none => .inr (3, [])
def outG (r : List Pl ⊕ (Int × List Pl)) : List Pl × Int := match r with | .inl z => (z, 0) | .inr (a, z) => (z, a)
def ansG (W H : Int) (P : List Pt') (F : List Fc) (V : List Vn) (L : List Lf) (sp mg an hd st : Int) : List Pl × Int :=
 bif (bif picB W H P F V && (leavesB L && rulesB sp mg an hd) then stepC L st else 1) != 0 then ([], bif picB W H P F V && (leavesB L && rulesB sp mg an hd) then stepC L st else 1) else outG (grd P F V L sp mg an hd st V.length 0 [])
section
variable {k : Nat} {W H : Int} {P : List Pt'} {F : List Fc} {V : List Vn} {L : List Lf} {sp mg an hd st cnt : Int}
theorem find_ok (h : ColOK P F V L mg st) {f : Nat} (hf : f < F.length) {pls : List Pl} {c : Pl} (hc : (cands P F V L mg an hd st f).find? (frB P F sp pls) = some c) (hp : ∀ c ∈ pls, PlOK P F c) : ∀ d ∈ pls ++ [c], PlOK P F d := by
 intro d hd'
 rcases List.mem_append.1 hd' with h1 | h1
 ·exact hp d h1
 ·rw [List.mem_singleton.1 h1]; exact cands_ok h hf c (List.mem_of_find?_eq_some hc)
theorem g_impl (h : ColOK P F V L mg st) (hV : V.length ≤ 500) (hk : 1048577 < k) : ∀ (d g f : Nat) (pls : List Pl) (polys : List (List Pt')), f + d = V.length → d < g → pls.length = f → (∀ c ∈ pls, PlOK P F c) → polys = pls.map (plPoly P F) →
  impl_GreedyNesting_6 k g ((V.length : Int), (f : Int), NS W H P F V L sp mg an hd st cnt pls polys) = some (match grd P F V L sp mg an hd st d f pls with | .inl z => .inl (NS W H P F V L sp mg an hd st cnt z (z.map (plPoly P F))) | .inr r => .inr r)
 | d, 0, _, _, _, _, hg, _, _, _ => by omega
 | 0, g + 1, f, pls, polys, hf, hg, hl, hp, hpo => by
  have : f = V.length := by omega
  subst this
  simp only [impl_GreedyNesting_6, dge (Nat.le_refl _), cond_false]
  rw [hpo]; rfl
 | d + 1, g + 1, f, pls, polys, hfd, hg, hl, hp, hpo => by
  have hfV : f < V.length := by omega
  have hf : f < F.length := by rw [← h.hV]; exact hfV
  have hpl := places_impl (W := W) (H := H) (L := L) (sp := sp) (an := an) (hd := hd) (cnt := cnt) h hf hp (by omega) hpo hk
  simp only [NS] at hpl
  simp only [impl_GreedyNesting_6, dlt hfV, cond_true]
  rw [hpl]
  unfold grd
  cases hc : (cands P F V L mg an hd st f).find? (frB P F sp pls) with
  | none =>
   simp only [Option.bind_some]
   rw [show (((pls.length : Nat) : Int) == (f : Int)) = true by rw [beq_iff_eq]; omega]
   rfl
  | some c =>
   simp only [Option.bind_some]
   rw [show ((((pls ++ [c]).length : Nat) : Int) == (f : Int)) = false by rw [beq_eq_false_iff_ne]; rw [List.length_append, List.length_singleton]; omega]
   simp only [cond_false]
   rw [w64_s hfV (by omega)]
   exact g_impl h hV hk d g (f + 1) _ _ (by omega) (by omega) (by simp [hl]) (find_ok h hf hc hp) (by rw [hpo]; simp)
theorem s13_spec (h : ColOK P F V L mg st) {f : Nat} {pls : List Pl} (hp : ∀ c ∈ pls, PlOK P F c) (hl : pls.length ≤ 1000) {pl' : List Pl} (hpl : ∀ c ∈ pl', PlOK P F c) (hlen : pl'.length ≤ 1000000000000) (hk : 1048577 < k) :
  ∀ (d g j : Nat), j + d = pl'.length → d < g →
   spec_GreedyNesting_13 k g (L, st, (f : Int), false, (j : Int), W, H, P, F, V, sp, mg, an, hd, pls, pl')
   = some (match (pl'.drop j).find? (frB P F sp pls) with | some c => (L, st, (f : Int), true, W, H, P, F, V, sp, mg, an, hd, pls ++ [c]) | none => (L, st, (f : Int), false, W, H, P, F, V, sp, mg, an, hd, pls))
 | d, 0, _, _, hg => by omega
 | 0, g + 1, j, hj, hg => by
  have : j = pl'.length := by omega
  subst this
  simp only [spec_GreedyNesting_13, dge (Nat.le_refl _), cond_false, Option.bind_some, List.drop_length, List.find?_nil]
 | d + 1, g + 1, j, hjd, hg => by
  have hj : j < pl'.length := by omega
  have hc := hpl _ (getD_mem (d := pl0) hj)
  have ih := s13_spec (f := f) h hp hl hpl hlen hk d g (j + 1) (by omega) (by omega)
  rw [drop_cons pl0 hj, List.find?_cons]
  generalize hcc : pl'.getD j pl0 = c at *
  simp only [spec_GreedyNesting_13, dlt hj, d0, cond_true, Bool.not_false, Option.bind_some, Int.toNat_natCast, dfPl, hcc]
  rw [free_spec h.hF hp hl hc hk]
  simp only [Option.bind_some]
  cases frB P F sp pls c with
  | false =>
   simp only [cond_false]
   rw [w64_s hj hlen]
   exact ih
  | true =>
   simp only [cond_true]
   rw [decide_eq_true (by simp only [List.length_cons, List.length_nil]; omega)]
   simp only [cond_true]
   obtain ⟨g', rfl⟩ : ∃ g', g = g' + 1 := ⟨g - 1, by omega⟩
   rw [w64_s hj hlen]
   simp only [spec_GreedyNesting_13, Bool.not_true]
   cases decide (((j + 1 : Nat) : Int) < (pl'.length : Int)) <;> rfl
theorem g_spec (h : ColOK P F V L mg st) (hV : V.length ≤ 500) (hk : 1048577 < k) (hk2 : 1000000000000 < k) : ∀ (d g f : Nat) (pls : List Pl), f + d = V.length → d < g → pls.length = f → (∀ c ∈ pls, PlOK P F c) →
  spec_GreedyNesting_8 k g (L, st, (f : Int), W, H, P, F, V, sp, mg, an, hd, pls) = some (grd P F V L sp mg an hd st d f pls)
 | d, 0, _, _, _, hg, _, _ => by omega
 | 0, g + 1, f, pls, hf, hg, hl, hp => by
  have : f = F.length := by rw [← h.hV]; omega
  subst this
  simp only [spec_GreedyNesting_8, dge (Nat.le_refl _), cond_false]
  rfl
 | d + 1, g + 1, f, pls, hfd, hg, hl, hp => by
  have hfV : f < V.length := by omega
  have hf : f < F.length := by rw [← h.hV]; exact hfV
  have hcl := cands_len (P := P) (F := F) (V := V) (L := L) (mg := mg) (an := an) (hd := hd) (st := st) h.hl f
  have hs := s13_spec (W := W) (H := H) (sp := sp) (an := an) (hd := hd) (f := f) h hp (by omega) (cands_ok (an := an) (hd := hd) h hf) (by omega) hk (cands P F V L mg an hd st f).length k 0 (by omega) (by omega)
  simp only [z0, List.drop_zero] at hs
  simp only [spec_GreedyNesting_8, dlt hf, cond_true]
  rw [places_spec h hf hk]
  simp only [Option.bind_some]
  rw [hs]
  unfold grd
  cases hc : (cands P F V L mg an hd st f).find? (frB P F sp pls) with
  | none => rfl
  | some c =>
   simp only [Option.bind_some, Bool.not_true, cond_false]
   rw [w64_s hfV (by omega)]
   exact g_spec h hV hk hk2 d g (f + 1) _ (by omega) (by omega) (by simp [hl]) (find_ok h hf hc hp)
theorem col_of (hs : Small P F V) (hl : SmallL L) (hp : picB W H P F V = true) (hL : leavesB L = true) (hr : rulesB sp mg an hd = true) (ht : stepC L st = 0) : ColOK P F V L mg st ∧ V.length ≤ 24 := by
 have hv := valid_of hp
 have hv1 := hv.v; have hv2 := hv.nf
 refine ⟨⟨⟨hs, hv.f⟩, hv.v, fun i hi => ?_, hL, ?_, ?_, ?_⟩, by omega⟩
 ·unfold picB at hp
  simp only [Bool.and_eq_true, Bool.not_eq_true', List.any_eq_false] at hp
  have := hp.2.2 i (List.mem_range'_1.2 (by omega))
  simpa using this
 ·unfold leavesB at hL
  simp only [Bool.and_eq_true, decide_eq_true_eq] at hL
  exact hL.2
 ·unfold rulesB at hr
  simp only [Bool.and_eq_true, inB_iff] at hr
  exact hr.2.1
 ·unfold stepC at ht
  cases hst : inB st 1 20000 with
  | true => exact inB_iff.1 hst
  | false => rw [hst] at ht; simp at ht
theorem greedy_impl (hs : Small P F V) (hl : SmallL L) (hk : 1048577 < k) : impl_GreedyNesting k (W, H, P, F, V, L, sp, mg, an, hd, st) = some (ansG W H P F V L sp mg an hd st) := by
 unfold impl_GreedyNesting ansG
 simp only [code_impl W H hs hl sp mg an hd st hk, Option.bind_some]
 cases hc : picB W H P F V && (leavesB L && rulesB sp mg an hd) with
 | false => rfl
 | true =>
  simp only [cond_true]
  cases hst : stepC L st != 0 with
  | true => rfl
  | false =>
   have hst : stepC L st = 0 := by simpa using hst
   simp only [Bool.and_eq_true] at hc
   obtain ⟨hcol, hV⟩ := col_of hs hl hc.1 hc.2.1 hc.2.2 hst
   have hg := g_impl (W := W) (H := H) (sp := sp) (an := an) (hd := hd) (cnt := 0) hcol (by omega) hk V.length k 0 [] [] (by omega) (by omega) rfl (by simp) rfl
   simp only [NS, z0] at hg
   simp only [cond_false]
   rw [hg]
   cases grd P F V L sp mg an hd st V.length 0 [] with
   | inl z => rfl
   | inr r => rfl
theorem greedy_spec (hs : Small P F V) (hl : SmallL L) (hk : 1048577 < k) (hk2 : 1000000000000 < k) : spec_GreedyNesting k (W, H, P, F, V, L, sp, mg, an, hd, st) = some (ansG W H P F V L sp mg an hd st) := by
 unfold spec_GreedyNesting ansG
 simp only [ask_spec W H hs hl sp mg an hd hk, Option.bind_some]
 cases hc : picB W H P F V && (leavesB L && rulesB sp mg an hd) with
 | false => rfl
 | true =>
  simp only [Bool.and_eq_true] at hc
  simp only [cond_true]
  rw [step_spec hc.2.1 hl.l st hk]
  simp only [beq_self_eq_true, cond_true, Option.bind_some]
  cases hst : stepC L st != 0 with
  | true => rfl
  | false =>
   have hst : stepC L st = 0 := by simpa using hst
   obtain ⟨hcol, hV⟩ := col_of hs hl hc.1 hc.2.1 hc.2.2 hst
   have hg := g_spec (W := W) (H := H) (sp := sp) (an := an) (hd := hd) hcol (by omega) hk hk2 V.length k 0 [] (by omega) (by omega) rfl (by simp)
   simp only [z0] at hg
   simp only [cond_false]
   rw [hg]
   cases grd P F V L sp mg an hd st V.length 0 [] with
   | inl z => rfl
   | inr r => rfl
theorem grd_len : ∀ (d f : Nat) (pls : List Pl), (outG (grd P F V L sp mg an hd st d f pls)).1.length ≤ pls.length + d
 | 0, _, pls => by show pls.length ≤ pls.length + 0; omega
 | d + 1, f, pls => by
  unfold grd
  cases (cands P F V L mg an hd st f).find? (frB P F sp pls) with
  | none => show (0 : Nat) ≤ _; omega
  | some c =>
   have := grd_len d (f + 1) (pls ++ [c])
   simp only [List.length_append, List.length_singleton] at this
   simp only
   omega
theorem ansG_len (hs : Small P F V) : (ansG W H P F V L sp mg an hd st).1.length ≤ 1048576 := by
 unfold ansG
 have := grd_len (P := P) (F := F) (V := V) (L := L) (sp := sp) (mg := mg) (an := an) (hd := hd) (st := st) V.length 0 []
 have hv := hs.v
 generalize (bif picB W H P F V && (leavesB L && rulesB sp mg an hd) then stepC L st else 1) = q
 cases q != 0
 ·simp only [cond_false]; simp only [List.length_nil] at this; omega
 ·simp
end
end Go.Proofs.YtgcioclfplafkaaGreatV
end
section
namespace Go.Proofs.YtgcioclfplafkaaGreatV
open Go Go.RowKit
section
variable {k : Nat} {W H : Int} {P : List Pt'} {F : List Fc} {V : List Vn} {L : List Lf} {sp mg an hd st : Int}
theorem law_eq (hp : P.length ≤ 9223372036854775807) (hf : F.length ≤ 9223372036854775807) (hf2 : ∀ f ∈ F, f.1.size ≤ 9223372036854775807 ∧ f.2.length ≤ 9223372036854775807) (hv : V.length ≤ 9223372036854775807) (hv2 : ∀ f ∈ V, f.1.size ≤ 9223372036854775807)
  (hl : L.length ≤ 9223372036854775807) (hl2 : ∀ f ∈ L, LimL f) (hk : 1048577 < k) (hk2 : 1000000000000 < k) : laws_FnExactGreedyNesting k (W, H, P, F, V, L, sp, mg, an, hd, st) = some true := by
 unfold laws_FnExactGreedyNesting
 simp only
 obtain ⟨y, hy, hy1, hs'⟩ := szPicture_ok (k := k) W H P F V hp hf hf2 hv hv2 hk
 rw [hy]
 simp only [Option.bind_some]
 by_cases h0 : y < 0
 ·rw [decide_eq_true h0]; rfl
 rw [decide_eq_false h0]
 have hs := hs' (by omega)
 obtain ⟨z, hz, hz'⟩ := szLeafS_ok (k := k) L y (by omega) hy1 hl hl2 hk
 simp only [cond_false]
 rw [hz]
 simp only [Option.bind_some]
 by_cases h1 : z < 0
 ·rw [decide_eq_true h1]; rfl
 rw [decide_eq_false h1]
 have hL := hz' (by omega)
 have hal := ansG_len (W := W) (H := H) (L := L) (sp := sp) (mg := mg) (an := an) (hd := hd) (st := st) hs
 obtain ⟨m, a, b, c, hm, hm0, hm1⟩ := markPicture_ok (k := k) W H hs hk
 obtain ⟨u, us, hu, hu0⟩ := markLeafS_ok (k := k) hL m hm0 (by omega) hk
 have hru : laws_toRules k (sp, mg, an, hd) = some (sp, mg, an, hd) := rfl
 simp only [cond_false, toPicture_eq W H hs hk, toLeafS_eq hL hk, hru, Option.bind_some, greedy_spec hs hL hk hk2, greedy_impl hs hL hk]
 rw [eqPlacementS_self _ hal hk]
 simp only [Option.bind_some, Bool.not_true, cond_false, bne_self_eq_false, eqPicture_self W H hs hk, eqLeafS_self hL hk, hm, hu]
 rw [decide_eq_false (show ¬ u < 0 by omega), markPlacementS_eq _ hal hk]
 simp only [Option.bind_some, cond_false, heldPlacementS_eq _ hal hk, bne_self_eq_false]
 rw [decide_eq_false (show ¬ (1 : Int) + 5 * ((ansG W H P F V L sp mg an hd st).1.length : Int) < 0 by omega)]
 rfl
end
end Go.Proofs.YtgcioclfplafkaaGreatV
end

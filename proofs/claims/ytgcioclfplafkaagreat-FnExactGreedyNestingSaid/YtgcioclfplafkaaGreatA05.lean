/- One operation; calls; no condition. -/
import Derived.Test.YtgcioclfplafkaaGreatA04
import Derived.Laws.BytesString
import Derived.Laws.Tables
set_option linter.all false
section
namespace Go.Proofs.YtgcioclfplafkaaGreatV
open Go Go.RowKit
section
variable {P : Program} {T : Tab} {W : List Gh} {w0 w : World} {g : List Gh} {st : St} {a : Act}
def Does (P : Program) (o : Oper) (a : Act) (w : World) (u : Value) (w' : World) : Prop :=
 (execOp a.eval o).run P w = .ok (.value u) w' ∨ ((execOp a.eval o).run P w = .ok .skip w' ∧ u = undef)
def upsOf (nid : Nat) (mods : List (Nat × Md)) (new : List Ob) : List (Nat × Md) := mods ++ (numb nid new).map fun p => (p.1, Md.ob p.2)
def OpOK (P : Program) (W : List Gh) (w0 w : World) (st : St) (a : Act) (nid : Nat) (o : Oper) (v : TV) (new : List Ob) (mods : List (Nat × Md)) : Prop :=
 ∃ u w' g', Does P o a w u w' ∧ RelG W w0 g' (st.upd o.dst v (upsOf nid mods new)) (a.put o.dst u) w'
theorem op_gives (hR : RelG W w0 g st a w) {nid : Nat} {o : Oper} {v : TV} {new : List Ob} {mods : List (Nat × Md)} {r : Result Value} (h : Gives w (Stable w g) g r v new mods) (hd : ∀ u, r = .ok u w → Does P o a w u w) : OpOK P W w0 w st a nid o v new mods := by
 obtain ⟨u, h1, h2, rfl, rfl⟩ := h
 exact ⟨u, w, g, hd u h1, rel_pure hR o.dst h2⟩
theorem op_at (hR : RelG W w0 g st a w) (t : Nat) (x : Operand) : RepT w (Stable w g) g (opd T st t x) (a.eval x) := opd_rep hR.tm t x
theorem rep_bool {v : Value} {b : Bool} (h : RepT w (Stable w g) g (.c (.bool b)) v) : v = .bool b := h
theorem rep_int {v : Value} {k : IntKind} {n : Int} (h : RepT w (Stable w g) g (.c (.int k n)) v) : v = .int k n := h
theorem bound_at (hR : RelG W w0 g st a w) (t : Nat) (lo : Option Operand) : BoundOK w (Stable w g) g (lo.map (opd T st t)) (lo.map a.eval) := by
 cases lo with
 | none => trivial
 | some x => exact op_at hR t x
theorem ty_int (hT : TabOK P T) {t : Nat} {ti : TI} {k : IntKind} (h : T.ty t = some ti) (hc : ti.ct = .int k) (ha : ti.agg = false) : P.underlying t = some (.int k) := by
 obtain ⟨i, d, h1, h2, h3, h4, h5, h6⟩ := ty_info hT h
 rw [h2]
 cases d <;> simp [descOk, hc, ha] at h6 ⊢
 exact h6.2
theorem append_ok (hT : TabOK P T) (hR : RelG W w0 g st a w) {nid : Nat} {t ty : Nat} {te : TI} (he : elemTy T t = some te) {s x : TV} {us ux : Value} (hs : RepT w (Stable w g) g s us) (hx : RepT w (Stable w g) g x ux) {v : TV} {new : List Ob} {mods : List (Nat × Md)} (hn : ∀ k, k < new.length → g[nid + k]? = some .unborn) (d : Option Nat)
  (h : appC st.objs nid te.bytes te.ct s x pk = some (v, new, mods)) : ∃ u w' g', (Builtin.append_ #[t, t] ty #[us, ux]).run P w = .ok u w' ∧ RelG W w0 g' (st.upd d v (upsOf nid mods new)) (a.put d u) w' := by
 unfold appC at h
 split at h
 ·rename_i s x
  split at h
  ·rename_i r' ys' hcon
   have hf : freezeC st.objs x = some (.fz r' ys') := by
    unfold content at hcon
    dsimp only at hcon
    cases e : freezeC st.objs x with
    | none => rw [e] at hcon; simp at hcon
    | some cv =>
     rw [e] at hcon
     cases cv <;> simp only [reduceCtorEq, Option.some.injEq, Sigma.mk.injEq] at hcon
     obtain ⟨h1, h2⟩ := hcon
     subst h1
     rw [eq_of_heq h2]
   split at h
   ·rename_i ys hcast
    obtain ⟨e1, e2⟩ := cast_eq hcast
    subst e1; subst e2
    simp only at h
    split at h
    ·rename_i m hsrc
     obtain ⟨ids1, rows2, h1, h2, h3, h4, h5, h6⟩ := src_ok hR hx hf hsrc
     subst h1
     have hux := content_rep (S' := fun _ => True) hR.ob (fun _ _ => trivial) (fun _ _ => trivial) hx hf
     split at h
     ·obtain ⟨hb, h⟩ := bif_some h
      obtain ⟨rfl, rfl, rfl⟩ := pk_inj h
      have hus : us = .slice none 0 0 := hs
      have hn := hn 0 (by simp)
      rw [Nat.add_zero] at hn
      obtain ⟨u, w', hr, g', hg'⟩ := append_core hT hR hn he (ty := ty) (us := us) (xs := []) (ids0 := []) (ids1 := ids1) (rows := []) (by simpa using of_decide_eq_true hb) (.inl ⟨rfl, hus, rfl, rfl⟩) hux h2 (by simp) h3 h4 h5 h6 d
      refine ⟨u, w', g', hr, ?_⟩
      rw [show upsOf nid (ids1.map fun i => (i, Md.ob .gone)) [.row te.ct ys'] = (ids1.map fun i => (i, Md.ob .gone)) ++ [(nid, .ob (.row te.ct ys'))] from rfl, made_row]
      exact hg'
     ·rename_i id
      split at h
      ·rename_i r2 xs2 hob
       split at h
       ·rename_i xs hcast2
        obtain ⟨e1, e2⟩ := cast_eq hcast2
        subst e1; subst e2
        simp only at h
        split at h
        ·cases h
        ·rename_i hnot
         obtain ⟨hb, h⟩ := bif_some h
         obtain ⟨rfl, rfl, rfl⟩ := pk_inj h
         obtain ⟨hv, rows, h7, h8⟩ := row_at hR.ob hob
         simp only [RepT, RepC, h7] at hs
         subst hs
         have hn := hn 0 (by simp)
         rw [Nat.add_zero] at hn
         obtain ⟨u, w', hr, g', hg'⟩ := append_core hT hR hn he (ty := ty) (us := us) (xs := xs2) (ids0 := [id]) (ids1 := ids1) (rows := rows) (of_decide_eq_true hb) (.inr ⟨id, rfl, h7, h8⟩) hux h2 (fun i hi => by
          simp only [List.mem_singleton] at hi
          subst hi
          intro hmem
          apply hnot
          simp [hmem]) h3 h4 h5 h6 d
         refine ⟨u, w', g', hr, ?_⟩
         rw [show upsOf nid ((id, Md.ob .gone) :: ids1.map fun i => (i, Md.ob .gone)) [.row te.ct (xs2 ++ ys')] = ((id :: ids1).map fun i => (i, Md.ob .gone)) ++ [(nid, .ob (.row te.ct (xs2 ++ ys')))] from rfl, made_row]
         exact hg'
       ·cases h
      ·cases h
     ·cases h
    ·cases h
   ·cases h
  ·cases h
 ·cases h
theorem mapM_get {α β : Type} {f : α → Option β} : ∀ (l : List α), (∀ x ∈ l, ∃ y, f x = some y) → ∃ r, l.mapM f = some r ∧ ∀ (i : Nat) (x : α), l[i]? = some x → r[i]? = f x
 | [], _ => ⟨[], rfl, fun i x h => by simp at h⟩
 | x :: l, h => by
  obtain ⟨y, hy⟩ := h x (by simp)
  obtain ⟨r, hr, hk⟩ := mapM_get l (fun z hz => h z (by simp [hz]))
  refine ⟨y :: r, by simp [List.mapM_cons, hy, hr], fun i z hz => ?_⟩
  cases i with
  | zero => simp only [List.getElem?_cons_zero, Option.some.injEq] at hz; subst hz; simp [hy]
  | succ i => simpa using hk i z (by simpa using hz)
theorem ty_places (hT : TabOK P T) {t : Nat} {ti : TI} (h : T.ty t = some ti) (ha : ti.agg = true) : ∃ fs places, P.underlying t = some (.struct fs) ∧
  fs.toList.mapM (fun f => (P.info? f.type).map fun i => (f.offset, i.size)) = some places ∧ ∀ i o, ti.offs[i]? = some o → places.toArray[i]? = some (o, ti.fsz i) := by
 obtain ⟨fs, hfs, hfo⟩ := ty_struct hT h ha
 have hsz : fs.size = ti.offs.length := by
  obtain ⟨_, d, _, h2, _, _, _, h6⟩ := ty_info hT h
  rw [hfs] at h2
  injection h2 with h2
  subst h2
  simp only [descOk, Bool.and_eq_true, decide_eq_true_eq] at h6
  exact h6.1.2
 obtain ⟨r, hr, hk⟩ := mapM_get (f := fun (f : Field) => (P.info? f.type).map fun i => (f.offset, i.size)) fs.toList (fun f hf => by
  obtain ⟨i, hi, he⟩ := List.getElem_of_mem hf
  have hi' : i < ti.offs.length := by rw [← hsz]; simpa using hi
  obtain ⟨f', h1, h2, j, h3, h4, h5⟩ := hfo i _ (List.getElem?_eq_getElem hi')
  have : f' = f := by
   have h6 : fs.toList[i]? = some f := by rw [List.getElem?_eq_getElem hi, he]
   rw [Array.getElem?_toList] at h6
   rw [h1] at h6
   injection h6
  subst this
  exact ⟨_, by rw [h3]; rfl⟩)
 refine ⟨fs, r, hfs, hr, fun i o ho => ?_⟩
 obtain ⟨f', h1, h2, j, h3, h4, h5⟩ := hfo i o ho
 have := hk i f' (by rw [Array.getElem?_toList]; exact h1)
 rw [h3] at this
 simp only [Option.map_some, h2, h5] at this
 simpa using this
theorem fill_ok (hR : RelG W w0 g st a w) {ti : TI} {place : Nat → Option (Nat × Nat)} (hpl : ∀ i o, ti.offs[i]? = some o → place i = some (o, ti.fsz i)) :
  ∀ (ps : List (Nat × TV)) (vs : List (Nat × Value)) (cells : Array Value) (l l' : List CV), ps.length = vs.length → (∀ (i : Nat) (p : Nat × TV) (v : Nat × Value), ps[i]? = some p → vs[i]? = some v → p.1 = v.1 ∧ RepT w (Stable w g) g p.2 v.2) →
   RepL w (Stable w g) g l cells.toList → partsOf st.objs ti l ps = some l' → ∃ cells', Instr.fill place cells vs = some cells' ∧ RepL w (Stable w g) g l' cells'.toList
 | [], vs, cells, l, l', hl, _, hr, h => by
  have : vs = [] := List.eq_nil_of_length_eq_zero (by simpa using hl.symm)
  subst this
  simp only [partsOf, Option.some.injEq] at h
  subst h
  exact ⟨cells, rfl, hr⟩
 | (i0, p0) :: ps, [], cells, l, l', hl, _, hr, h => by simp at hl
 | (i0, p0) :: ps, (j0, v0) :: vs, cells, l, l', hl, hp, hr, h => by
  obtain ⟨hj, hv0⟩ := hp 0 (i0, p0) (j0, v0) rfl rfl
  simp only at hj hv0
  subst hj
  simp only [partsOf] at h
  split at h
  ·rename_i cvs off hc ho
   split at h
   ·rename_i hcc
    obtain ⟨h1, h2⟩ := hcc
    obtain ⟨us, hus, hrep⟩ := cellsOf_ok hR.ob hv0 hc
    have hlen := RepL_length hrep
    have hcl := RepL_length hr
    simp only [Array.length_toList] at hcl
    obtain ⟨g1, g2⟩ := Go.Great.foldl_set off v0.cells.toList 0 cells
    have hnew : ((v0.cells.toList.zipIdx 0).foldl (fun cs (x : Value × Nat) => cs.setIfInBounds (off + x.2) x.1) cells).toList = cells.toList.take off ++ us ++ cells.toList.drop (off + us.length) := by
     apply List.ext_getElem?
     intro k
     have hs := splice_get cells.toList off us k (by simp; omega)
     rw [List.getElem?_toArray] at hs
     rw [hs, Array.getElem?_toList, g2]
     have hul : v0.cells.toList = us := by rw [hus]
     rw [hul]
     by_cases hk1 : k < off
     ·rw [if_pos hk1, if_neg (by omega)]; simp
     ·rw [if_neg hk1]
      by_cases hk2 : k < off + us.length
      ·rw [if_pos hk2, if_pos (by omega), Nat.add_zero]
      ·rw [if_neg hk2, if_neg (by omega)]; simp
    obtain ⟨cells', h3, h4⟩ := fill_ok hR hpl ps vs ((v0.cells.toList.zipIdx 0).foldl (fun cs (x : Value × Nat) => cs.setIfInBounds (off + x.2) x.1) cells) (setAt l off cvs) l' (by simpa using hl) (fun i p v h1 h2 => hp (i + 1) p v (by simpa using h1) (by simpa using h2)) (by rw [hnew]; exact setAt_rep hr hrep h2) h
    refine ⟨cells', ?_, h4⟩
    unfold Instr.fill
    rw [hpl i0 off ho]
    simp only
    have hcs : v0.cells.size = us.length := by rw [hus]; simp
    rw [if_neg (by simp; omega)]
    rw [← h3]
    congr 1
    rw [← Array.foldl_toList, Array.toList_zipIdx]
   ·cases h
  ·cases h
def NoCall (o : Oper) : Prop := ∀ c x, o.op = .call c → c.callee ≠ .value x
theorem setOb_goneO : ∀ (ids : List Nat) (objs : List Ob), setOb objs (ids.map fun i => (i, Md.ob .gone)) = goneO objs ids
 | [], _ => rfl
 | i :: l, objs => by simp only [List.map_cons, setOb, goneO]; exact setOb_goneO l _
theorem op_ok (hT : TabOK P T) (hR : RelG W w0 g st a w) (hnp : T.np = true → npSt st = true ∧ W = []) {nid : Nat} {o : Oper} {v : TV} {new : List Ob} {mods : List (Nat × Md)} (hn : ∀ k, k < new.length → g[nid + k]? = some .unborn) (hnc : NoCall o)
  (h : opSem T st nid o pk = some (v, new, mods)) : OpOK P W w0 w st a nid o v new mods := by
 obtain ⟨dst, op, type, pos, after, guard⟩ := o
 have at_ := fun (t : Nat) (x : Operand) => op_at (T := T) hR t x
 cases op with
 | move x =>
  simp only [opSem] at h
  obtain ⟨rfl, rfl, rfl⟩ := pk_inj h
  exact ⟨_, w, g, .inl rfl, rel_pure hR dst (at_ type x)⟩
 | assign x =>
  simp only [opSem] at h
  obtain ⟨rfl, rfl, rfl⟩ := pk_inj h
  exact ⟨_, w, g, .inl rfl, rel_pure hR dst (at_ type x)⟩
 | pick c x y =>
  simp only [opSem] at h
  have hc := at_ type c
  have hx := at_ type x
  have hy := at_ type y
  split at h
  ·rename_i e he
   rw [he] at hc
   have hcv := rep_bool hc
   have hrun : (execOp a.eval ⟨dst, .pick c x y, type, pos, after, guard⟩).run P w = .ok (.value (bif e then a.eval x else a.eval y)) w := by
    simp only [execOp, hcv, asBool, Sem.run_bind, Sem.run_pure, Result.andThen_ok]
    cases e <;> rfl
   split at h
   ·rename_i bx bY hbx hby
    obtain ⟨rfl, rfl, rfl⟩ := retV_inj h
    rw [hbx] at hx; rw [hby] at hy
    refine ⟨_, w, g, .inl hrun, rel_pure hR dst ?_⟩
    cases e
    ·exact hy
    ·exact hx
   ·cases e
    ·simp only [cond_false] at h
     obtain ⟨rfl, rfl, rfl⟩ := pk_inj h
     exact ⟨_, w, g, .inl hrun, rel_pure hR dst hy⟩
    ·simp only [cond_true] at h
     obtain ⟨rfl, rfl, rfl⟩ := pk_inj h
     exact ⟨_, w, g, .inl hrun, rel_pure hR dst hx⟩
  ·cases h
 | alloc t =>
  simp only [opSem] at h
  split at h
  ·rename_i ti ht
   split at h
   ·cases h
   ·rename_i hptr
    obtain ⟨rfl, rfl, rfl⟩ := pk_inj h
    obtain ⟨z, i, hi, hz, his, hib, hzr, hzc⟩ := ty_zero hT ht (by simpa using hptr)
    have hn0 := hn 0 (by simp)
    rw [Nat.add_zero] at hn0
    refine ⟨_, _, _, .inl ?_, rel_box hR hn0 t (cvsAre_rep hzc) dst⟩
    simp [execOp, Instr.alloc, hzr, newVar, newRow, World.alloc_eq]
  ·cases h
 | box t x =>
  simp only [opSem] at h
  split at h
  ·rename_i ti vs ht hvs
   split at h
   ·obtain ⟨rfl, rfl, rfl⟩ := pk_inj h
    obtain ⟨us, hus, hrep⟩ := cellsOf_ok hR.ob (at_ t x) hvs
    have hn0 := hn 0 (by simp)
    rw [Nat.add_zero] at hn0
    refine ⟨_, _, _, .inl ?_, rel_box hR hn0 t hrep dst⟩
    simp [execOp, Instr.box, newVar, newRow, hus, World.alloc_eq]
   ·cases h
  ·cases h
 | load t x =>
  simp only [opSem] at h
  split at h
  ·rename_i ti ht
   refine op_gives hR (loadC_ok hT hR.ob ht (at_ type x) h) (fun u hu => .inl ?_)
   simp [execOp, hu]
  ·cases h
 | nilCheck x =>
  simp only [opSem] at h
  split at h
  ·rename_i hal
   obtain ⟨rfl, rfl, rfl⟩ := pk_inj h
   obtain ⟨ad, had⟩ := nilCheck_ok hR.ob (at_ type x) hal
   refine ⟨_, w, g, .inl ?_, rel_pure hR dst (at_ type x)⟩
   simp [execOp, had]
  ·cases h
 | binOp op t x y ty =>
  simp only [opSem] at h
  refine op_gives hR (binC_ok (ox := x) (oy := y) hT (at_ t x) (at_ t y) h) (fun u hu => .inl ?_)
  simp only [execOp, Sem.run_bind, Sem.run_pure] at hu ⊢
  simp [hu]
 | unOp op t x =>
  simp only [opSem] at h
  refine op_gives hR (unC_ok (P := P) (at_ type x) h) (fun u hu => .inl ?_)
  simp [execOp, hu]
 | fieldAddr t x f =>
  simp only [opSem] at h
  split at h
  ·rename_i ti ht
   split at h
   ·rename_i ha
    split at h
    ·rename_i off hf
     refine op_gives hR (fldC_ok hT hR.ob ht hf ha (at_ type x) h) (fun u hu => .inl ?_)
     simp [execOp, hu]
    ·cases h
   ·cases h
  ·cases h
 | indexAddr t x i =>
  simp only [opSem] at h
  split at h
  ·rename_i te he
   refine op_gives hR (ixC_ok hT hR.ob he (at_ type x) (at_ type i) h) (fun u hu => .inl ?_)
   simp [execOp, hu]
  ·cases h
 | store t x y =>
  simp only [opSem] at h
  split at h
  ·rename_i ti ht
   have hx := at_ type x
   split at h
   ·rename_i hcond
    rw [Bool.and_eq_true] at hcond
    obtain ⟨hst, hW⟩ := hnp hcond.1
    unfold storeN at h
    split at h
    ·rename_i vs id i off hvs hxe
     obtain ⟨us, hus, hrep⟩ := cellsOf_ok hR.ob (at_ t y) hvs
     have hl := RepL_length hrep
     split at h
     ·rename_i hc
      obtain ⟨hlen, hal⟩ := hc
      have h1 := oneCells hR.ob hrep hal
      rw [hxe] at hx
      split at h
      ·rename_i r xs hob
       split at h
       ·rename_i hfit
        split at h
        ·rename_i yy ids hyy
         split at h
         ·rename_i hnd
          obtain ⟨rfl, rfl, rfl⟩ := pk_inj h
          obtain ⟨b, cap, cells, cty, rows, t', h2, h3, h4, h5, h6, h7, h8⟩ := er_at hR.ob hob hx
          have hcs : i * r.size + off + us.length ≤ cells.size := by
           obtain ⟨v', rows', e, _, h9⟩ := h8
           injection e with _ e2 _
           subst e2
           rcases h9 with ⟨h9, _⟩ | ⟨b', cap', cells', t'', h9, h10, _, h11, h12, _⟩
           ·subst h9; simp at h4
           ·injection h9 with hb _ hcap
            injection hb with hb
            injection hb with hb
            subst hb; subst hcap
            rw [h3] at h11
            injection h11 with h11
            injection h11 with h11
            subst h11
            have := Nat.mul_le_mul_right r.size (show i + 1 ≤ cap by omega)
            rw [Nat.add_mul, Nat.one_mul] at this
            omega
          have hrun := storeAt_run hT ht h3 (o := i * r.size + off) hus (by omega) h1 hcs
          obtain ⟨g', hg'⟩ := rel_storeN hR hst hW h2 h3 h4 h8 hrep hyy (nodupB_iff hnd) hfit dst
          refine ⟨undef, w.setRow b (cells.toList.take (i * r.size + off) ++ us ++ cells.toList.drop (i * r.size + off + us.length)).toArray, g', .inr ⟨?_, rfl⟩, ?_⟩
          ·simp [execOp, h7, hrun]
          ·have e : st.upd dst .dead (upsOf nid ((id, Md.ob (.row r (xs.set i yy))) :: ids.map fun i => (i, Md.ob .gone)) []) = (({ tmps := st.tmps, objs := goneO (st.objs.set id (.row r (xs.set i yy))) ids } : St).put dst .dead) := by
            unfold St.upd upsOf
            simp only [numb, List.map_nil, List.append_nil, setOb]
            rw [setOb_goneO]
           rw [e]; exact hg'
         ·cases h
        ·cases h
       ·cases h
      ·cases h
     ·cases h
    ·cases h
   ·unfold storeC at h
    split at h
    ·rename_i vs hvs
     obtain ⟨us, hus, hrep⟩ := cellsOf_ok hR.ob (at_ t y) hvs
     have hl := RepL_length hrep
     split at h
     ·rename_i hc
      obtain ⟨hlen, hal⟩ := hc
      have h1 := oneCells hR.ob hrep hal
      split at h
      ·rename_i id off hxe
       rw [hxe] at hx
       split at h
       ·rename_i l hob
        split at h
        ·rename_i hfit
         obtain ⟨rfl, rfl, rfl⟩ := pk_inj h
         obtain ⟨b, cells, cty, h2, h3, h4, h5⟩ := box_at hR.ob hob
         simp only [RepT, RepC, h2] at hx
         have hrun := storeAt_run hT ht h3 (o := off) hus (by omega) h1 (by omega)
         refine ⟨undef, w.setRow b (cells.toList.take off ++ us ++ cells.toList.drop (off + us.length)).toArray, g, .inr ⟨?_, rfl⟩, ?_⟩
         ·simp [execOp, hx, hrun]
         ·have := rel_store_box hR h2 h3 h4 h5 hrep hfit dst
          simpa [St.upd, upsOf, numb, setOb, hob] using this
        ·cases h
       ·cases h
      ·rename_i id i off hxe
       rw [hxe] at hx
       split at h
       ·rename_i r xs hob
        split at h
        ·rename_i hfit
         split at h
         ·rename_i yy hyy
          rw [stRow_eq (f := fun z => updS r z off vs) hyy] at h
          obtain ⟨rfl, rfl, rfl⟩ := pk_inj h
          obtain ⟨b, cap, cells, cty, rows, t', h2, h3, h4, h5, h6, h7, h8⟩ := er_at hR.ob hob hx
          have hcs : i * r.size + off + us.length ≤ cells.size := by
           obtain ⟨v', rows', e, _, h9⟩ := h8
           injection e with _ e2 _
           subst e2
           rcases h9 with ⟨h9, _⟩ | ⟨b', cap', cells', t'', h9, h10, _, h11, h12, _⟩
           ·subst h9; simp at h4
           ·injection h9 with hb _ hcap
            injection hb with hb
            injection hb with hb
            subst hb; subst hcap
            rw [h3] at h11
            injection h11 with h11
            injection h11 with h11
            subst h11
            have := Nat.mul_le_mul_right r.size (show i + 1 ≤ cap by omega)
            rw [Nat.add_mul, Nat.one_mul] at this
            omega
          have hrun := storeAt_run hT ht h3 (o := i * r.size + off) hus (by omega) h1 hcs
          refine ⟨undef, w.setRow b (cells.toList.take (i * r.size + off) ++ us ++ cells.toList.drop (i * r.size + off + us.length)).toArray, g, .inr ⟨?_, rfl⟩, ?_⟩
          ·simp [execOp, h7, hrun]
          ·have := rel_store_er hR h2 h3 h4 h8 hrep hyy hfit dst
           simpa [St.upd, upsOf, numb, setOb] using this
         ·cases h
        ·cases h
       ·cases h
      ·cases h
     ·cases h
    ·cases h
  ·cases h
 | makeSlice t n c =>
  simp only [opSem] at h
  split at h
  ·rename_i te he
   unfold makC at h
   split at h
   ·rename_i n' c' hne hce
    obtain ⟨h0, h⟩ := bif_some h
    obtain ⟨h1, h⟩ := bif_some h
    obtain ⟨h2, h⟩ := bif_some h
    obtain ⟨h3, h⟩ := bif_some h
    obtain ⟨rfl, rfl, rfl⟩ := pk_inj h
    have hnv := at_ type n
    have hcv := at_ type c
    rw [hne] at hnv; rw [hce] at hcv
    have hn0 := hn 0 (by simp)
    rw [Nat.add_zero] at hn0
    obtain ⟨u, w', h4, h5⟩ := rel_make hT hR hn0 he (of_decide_eq_true h0) (of_decide_eq_true h1) (of_decide_eq_true h2) (of_decide_eq_true h3) dst
    refine ⟨u, w', _, .inl ?_, h5⟩
    simp [execOp, rep_int hnv, rep_int hcv, h4]
   ·cases h
  ·cases h
 | buildSlice t n parts =>
  simp only [opSem] at h
  split at h
  ·rename_i ts te hts he
   split at h
   ·rename_i xs ids hb
    split at h
    ·rename_i hc
     obtain ⟨hc1, hc2, hc3⟩ := hc
     obtain ⟨rfl, rfl, rfl⟩ := pk_inj h
     have hn0 := hn 0 (by simp)
     rw [Nat.add_zero] at hn0
     obtain ⟨u, w', g', h1, h2⟩ := rel_built hT hR hn0 he (ps := parts.toList.map fun (i, x) => (i, opd T st ts.elem x)) (vs := parts.toList.map fun (i, x) => (i, a.eval x)) (len := n) (by simp) (fun i p v hp hv => by
      simp only [List.getElem?_map] at hp hv
      cases e : parts.toList[i]? with
      | none => rw [e] at hp; simp at hp
      | some q =>
       rw [e] at hp hv
       simp only [Option.map_some, Option.some.injEq] at hp hv
       subst hp; subst hv
       exact ⟨rfl, at_ ts.elem q.2⟩) hb (by simp [hc1]) hc2 hc3 dst
     refine ⟨u, w', g', .inl ?_, ?_⟩
     ·have : (parts.map fun (i, x) => (i, a.eval x)) = (parts.toList.map fun (i, x) => (i, a.eval x)).toArray := by
       apply Array.ext'
       simp
      simp only [execOp]
      rw [this, Sem.run_bind, h1]
      rfl
     ·rw [show upsOf nid (ids.map fun i => (i, Md.ob .gone)) [.row te.ct xs] = (ids.map fun i => (i, Md.ob .gone)) ++ [(nid, .ob (.row te.ct xs))] from rfl, made_row]
      exact h2
    ·cases h
   ·cases h
  ·cases h
 | slice t x lo hi mx =>
  cases mx with
  | some m => simp [opSem] at h
  | none =>
   simp only [opSem] at h
   have hx := at_ type x
   split at h
   ·rename_i s ti hxs ht
    rw [hxs] at hx
    simp only [RepT, RepC] at hx
    split at h
    ·rename_i hc ha
     have hu := ty_str hT ht hc ha
     obtain ⟨a', b', h4, h5, h6, rfl, rfl, rfl⟩ := sliG_ok (P := P) (cap := s.size) false (Nat.le_refl _) (bound_at (T := T) hR type lo) (bound_at (T := T) hR type hi) h
     refine ⟨.string (s.extract a' b'), w, g, .inl ?_, rel_pure hR dst rfl⟩
     simp [execOp, hx, Instr.sliceAt, Instr.slice, run_underlying hu, h6]
    ·cases h
   ·split at h
    ·rename_i te he
     refine op_gives hR (sliC_ok hT hR.ob he hx (bound_at (T := T) hR type lo) (bound_at (T := T) hR type hi) h) (fun u hu => .inl ?_)
     simp [execOp, hu]
    ·cases h
 | index t x i =>
  simp only [opSem] at h
  have hx := at_ type x
  have hi := at_ type i
  split at h
  ·rename_i s k i' ti hxs his ht
   rw [hxs] at hx; rw [his] at hi
   split at h
   ·cases h
   ·rename_i ha
    split at h
    ·rename_i hc
     obtain ⟨h0, h⟩ := bif_some h
     obtain ⟨h1, h⟩ := bif_some h
     obtain ⟨rfl, rfl, rfl⟩ := retV_inj h
     have hu := ty_str hT ht hc (by simpa using ha)
     refine ⟨_, w, g, .inl ?_, rel_pure hR dst rfl⟩
     have hx' : a.eval x = .string s := hx
     simp [execOp, hx', rep_int hi, index_str_ok (P := P) (w := w) (k := k) hu (of_decide_eq_true h0) (of_decide_eq_true h1)]
    ·cases h
  ·cases h
 | extract x i =>
  simp only [opSem] at h
  have hx := at_ type x
  split at h
  ·rename_i ps hps
   rw [hps] at hx
   obtain ⟨us, hus, hr⟩ := hx
   split at h
   ·rename_i l hp
    obtain ⟨rfl, rfl, rfl⟩ := pk_inj h
    obtain ⟨u, h1, h2, _⟩ := RepP_get hr hp
    refine ⟨u, w, g, .inl ?_, rel_pure hR dst (h2 rfl)⟩
    simp [execOp, hus, Instr.extract, h1]
   ·rename_i v' hp
    obtain ⟨rfl, rfl, rfl⟩ := pk_inj h
    obtain ⟨u, h1, _, h2⟩ := RepP_get hr hp
    refine ⟨u, w, g, .inl ?_, rel_pure hR dst (h2 rfl).1⟩
    simp [execOp, hus, Instr.extract, h1]
   ·cases h
  ·cases h
 | convert s t x =>
  simp only [opSem] at h
  have hx := at_ type x
  split at h
  ·rename_i k n ti hxe ht
   rw [hxe] at hx
   split at h
   ·cases h
   ·rename_i hc
    simp only [Bool.or_eq_true, Bool.not_eq_true', not_or, Bool.not_eq_true, Bool.not_eq_false, Option.isSome_iff_exists] at hc
    obtain ⟨ha, tj, hs⟩ := hc
    obtain ⟨_, d, _, hd, _⟩ := ty_info hT hs
    split at h
    ·rename_i k' hk
     obtain ⟨rfl, rfl, rfl⟩ := retV_inj h
     have hu := ty_int hT ht hk ha
     refine ⟨_, w, g, .inl ?_, rel_pure hR dst rfl⟩
     simp [execOp, rep_int hx, convert, run_underlying hd, run_underlying hu, Conv.intToInt]
    ·cases h
  ·rename_i cv ti hne hxe ht
   rw [hxe] at hx
   split at h
   ·cases h
   ·rename_i ha
    split at h
    ·rename_i hc xs te hct hf he
     split at h
     ·rename_i hte hta
      obtain ⟨rfl, rfl, rfl⟩ := retV_inj h
      have hu := ty_str hT ht hct (by simpa using ha)
      obtain ⟨e, hus, hte', _⟩ := ty_elem hT he
      have hub : P.underlying e = some (.int .u8) := by
       obtain ⟨i, d, h1, h2, h3, h4, h5, h6⟩ := ty_info hT hte'
       rw [h2]
       cases d <;> simp [descOk, hte, hta] at h6 ⊢
       exact h6.2
      have hfz := content_rep (S' := fun _ => True) hR.ob (fun _ _ => trivial) (fun _ _ => trivial) hx hf
      have hfold : ∀ (l : List Int) (s : ByteArray), l.foldl (fun r n => r.push (UInt8.ofNat n.toNat)) s = ⟨s.data ++ (l.map fun n => UInt8.ofNat n.toNat).toArray⟩ := by
       intro l
       induction l with
       | nil => intro s; simp
       | cons n l ih =>
        intro s
        rw [List.foldl_cons, ih]
        simp [ByteArray.push]
      have hrun : (Conv.bytesToString (a.eval x)).run P w = .ok (.string ⟨(xs.map fun n => UInt8.ofNat n.toNat).toArray⟩) w := by
       by_cases hne : xs = []
       ·subst hne
        obtain ⟨sa, sc, hv, _⟩ := hfz
        simp only [List.getElem?_toArray, List.getElem?_cons_zero, Option.some.injEq, List.length_nil] at hv
        rw [hv]
        cases sa with
        | none => rfl
        | some ad =>
         have := run_bytesToString (P := P) w ad 0 sc [] (by simp [loadCells, loadCellsFrom])
         exact this
       ·obtain ⟨b, off, cap, cells, cty, fr, hv, hh, _, hxr, _⟩ := fz_cells hfz hne
        rw [hv]
        have hl := run_loadCells_list (P := P) w ⟨b, off, none⟩ (xs.map (Value.int .u8)) (fun j v hj => by
         simp only [List.getElem?_map] at hj
         cases e2 : xs[j]? with
         | none => rw [e2] at hj; simp at hj
         | some n =>
          rw [e2] at hj
          simp only [Option.map_some, Option.some.injEq] at hj
          subst hj
          obtain ⟨hj2, e3⟩ := List.getElem?_eq_some_iff.1 e2
          have := hxr j hj2
          rw [e3] at this
          have h5 : cells[off + j * 1]? = some (.int .u8 n) := this
          rw [Nat.mul_one] at h5
          rw [add_mul]
          simp [World.cell?, hh, h5])
        rw [List.length_map] at hl
        rw [run_bytesToString (P := P) w ⟨b, off, none⟩ xs.length cap xs hl, hfold]
        simp
      have hcv : ∃ sa sl sc, a.eval x = .slice sa sl sc := by
       obtain ⟨sa, sc, hv, _⟩ := hfz
       simp only [List.getElem?_toArray, List.getElem?_cons_zero, Option.some.injEq] at hv
       exact ⟨sa, _, sc, hv⟩
      obtain ⟨sa, sl, sc, hv⟩ := hcv
      refine ⟨_, w, g, .inl ?_, rel_pure hR dst rfl⟩
      rw [hv] at hrun
      simp only [execOp, hv]
      rw [Sem.run_bind, run_convert_bytes_string w s t e sa sl sc hus hub hu, hrun]
      rfl
     ·cases h
    ·cases h
  ·cases h
 | build t parts =>
  simp only [opSem] at h
  split at h
  ·rename_i ti ht
   split at h
   ·rename_i hc
    simp only [Bool.and_eq_true, Bool.not_eq_true'] at hc
    split at h
    ·rename_i l hl
     obtain ⟨rfl, rfl, rfl⟩ := pk_inj h
     obtain ⟨z, it, hit, hz, _, _, _, hzc⟩ := ty_zero hT ht hc.2
     obtain ⟨fs, places, hfs, hpl, hpo⟩ := ty_places hT ht hc.1
     obtain ⟨cells', hf1, hf2⟩ := fill_ok hR (place := (places.toArray[·]?)) hpo (parts.toList.map fun (i, x) => (i, opd T st type x)) (parts.toList.map fun (i, x) => (i, a.eval x)) z.cells _ l (by simp) (fun i p v hp hv => by
      simp only [List.getElem?_map] at hp hv
      cases e : parts.toList[i]? with
      | none => rw [e] at hp; simp at hp
      | some q =>
       rw [e] at hp hv
       simp only [Option.map_some, Option.some.injEq] at hp hv
       subst hp; subst hv
       exact ⟨rfl, at_ type q.2⟩) (cvsAre_rep hzc) hl
     refine ⟨.agg cells', w, g, .inl ?_, rel_pure hR dst ⟨cells'.toList, by simp, hf2⟩⟩
     have hb : P.built t (parts.map fun (i, x) => (i, a.eval x)).toList = some cells' := by
      unfold Program.built
      rw [hit, hfs]
      simp only [hz, hpl]
      simpa using hf1
     simp [execOp, run_build w t _ cells' hb]
    ·cases h
   ·cases h
  ·cases h
 | call c =>
  obtain ⟨callee, args, argTypes⟩ := c
  cases callee with
  | value x => exact absurd rfl (hnc _ x rfl)
  | invoke r m => simp [opSem] at h
  | builtin b =>
   cases b with
   | len =>
    simp only [opSem] at h
    split at h
    ·rename_i x t hx ht
     refine op_gives hR (lenC_ok (P := P) (ty := type) hT hR.ob (at_ type x) h) (fun u hu => .inl ?_)
     have : (Builtin.len_ argTypes type (args.map a.eval)).run P w = (Builtin.len_ #[t] type #[a.eval x]).run P w := by
      simp only [Builtin.len_, ht, Array.getElem?_map, hx, Option.map_some]
      rfl
     simp [execOp, resolve, invoke, builtin, this, hu]
    ·cases h
   | append =>
    simp only [opSem] at h
    split at h
    ·rename_i s x te hs hx he
     split at h
     ·rename_i hc
      obtain ⟨hc1, hc2, hc3⟩ := hc
      have hargs : args = #[s, x] := by
       apply Array.ext'
       obtain ⟨l⟩ := args
       match l, hc2 with
       | [p, q], _ =>
        simp at hs hx
        subst hs; subst hx; rfl
      cases ht0 : argTypes[0]? with
      | none => rw [ht0] at he; simp at he
      | some t =>
       rw [ht0] at he
       simp only [Option.bind_some] at he
       have htys : argTypes = #[t, t] := by
        apply Array.ext'
        obtain ⟨l⟩ := argTypes
        match l, hc1 with
        | [p, q], _ =>
         simp at ht0 hc3
         subst ht0; subst hc3; rfl
       subst hargs; subst htys
       obtain ⟨u, w', g', h1, h2⟩ := append_ok (ty := type) hT hR he (at_ t s) (at_ t x) hn dst h
       exact ⟨u, w', g', .inl (by simp [execOp, resolve, invoke, builtin, h1]), h2⟩
     ·cases h
    ·cases h
   | min =>
    simp only [opSem] at h
    split at h
    ·rename_i x y hx hy hz
     split at h
     ·rename_i k p k' q hxe hye
      split at h
      ·rename_i hk
       subst hk
       obtain ⟨rfl, rfl, rfl⟩ := retV_inj h
       have h1 := at_ type x
       have h2 := at_ type y
       rw [hxe] at h1; rw [hye] at h2
       have hargs : args = #[x, y] := by
        apply Array.ext'
        obtain ⟨l⟩ := args
        match l with
        | [] => simp at hx
        | [p] => simp at hy
        | [p, q] => simp at hx hy; subst hx; subst hy; rfl
        | p :: q :: r :: l => simp at hz
       subst hargs
       refine ⟨_, w, g, .inl ?_, rel_pure hR dst rfl⟩
       simp [execOp, resolve, invoke, builtin, Builtin.min_, Builtin.min2, rep_int h1, rep_int h2]
      ·cases h
     ·cases h
    ·rename_i x y z hx hy hz
     split at h
     ·rename_i u hu hv
      split at h
      ·rename_i k p k2 q k3 r k4 s hxe hye hze hue
       split at h
       ·rename_i hk
        obtain ⟨rfl, rfl, rfl⟩ := hk
        obtain ⟨rfl, rfl, rfl⟩ := retV_inj h
        have h1 := at_ type x
        have h2 := at_ type y
        have h3 := at_ type z
        have h4 := at_ type u
        rw [hxe] at h1; rw [hye] at h2; rw [hze] at h3; rw [hue] at h4
        have hargs : args = #[x, y, z, u] := by
         apply Array.ext'
         obtain ⟨l⟩ := args
         match l with
         | [] => simp at hx
         | [p] => simp at hy
         | [p, q] => simp at hz
         | [p, q, r] => simp at hu
         | [p, q, r, s] => simp at hx hy hz hu; subst hx; subst hy; subst hz; subst hu; rfl
         | p :: q :: r :: s :: t :: l => simp at hv
        subst hargs
        refine ⟨_, w, g, .inl ?_, rel_pure hR dst rfl⟩
        simp [execOp, resolve, invoke, builtin, Builtin.min_, Builtin.min2, rep_int h1, rep_int h2, rep_int h3, rep_int h4, min4]
       ·cases h
      ·cases h
     ·cases h
    ·cases h
   | max =>
    simp only [opSem] at h
    split at h
    ·rename_i x y hx hy hz
     split at h
     ·rename_i k p k' q hxe hye
      split at h
      ·rename_i hk
       subst hk
       obtain ⟨rfl, rfl, rfl⟩ := retV_inj h
       have h1 := at_ type x
       have h2 := at_ type y
       rw [hxe] at h1; rw [hye] at h2
       have hargs : args = #[x, y] := by
        apply Array.ext'
        obtain ⟨l⟩ := args
        match l with
        | [] => simp at hx
        | [p] => simp at hy
        | [p, q] => simp at hx hy; subst hx; subst hy; rfl
        | p :: q :: r :: l => simp at hz
       subst hargs
       refine ⟨_, w, g, .inl ?_, rel_pure hR dst rfl⟩
       simp [execOp, resolve, invoke, builtin, Builtin.max_, Builtin.max2, rep_int h1, rep_int h2]
      ·cases h
     ·cases h
    ·cases h
   | _ => simp [opSem] at h
 | _ => simp [opSem] at h
end
end Go.Proofs.YtgcioclfplafkaaGreatV
end
section
namespace Go.Proofs.YtgcioclfplafkaaGreatV
open Go Go.RowKit
def kk {R : Type} (K : Kont R) : TV × List Ob × List (Nat × Md) → Option R := fun p => K p.1 p.2.1 p.2.2
section
variable (R : Type) (K : Kont R)
theorem binC_k (bt : Bool) (e : Option (List CT)) (op : BinOp) (x y : TV) : binC bt e op x y K = (binC bt e op x y pk).bind (kk K) := by
 unfold binC
 cases x <;> try rfl
 ·rename_i x
  cases y <;> try (cases x <;> rfl)
  rename_i y
  cases x <;> try rfl
  all_goals cases y <;> try rfl
  ·dsimp only
   split
   ·cases op <;> try rfl
    all_goals (dsimp only [cond]; split <;> rfl)
   ·rfl
  ·cases bt <;> cases op <;> rfl
  ·cases op <;> try rfl
   all_goals (dsimp only [cond]; split <;> rfl)
 ·cases y <;> try rfl
  cases e <;> try rfl
  dsimp only
  cases eqC _ _ _ <;> cases op <;> rfl
theorem unC_k (op : UnOp) (x : TV) : unC op x K = (unC op x pk).bind (kk K) := by
 unfold unC
 repeat' (first | rfl | (split <;> (try simp only [*])))
theorem lenC_k (T : Tab) (objs : List Ob) (t : Nat) (x : TV) : lenC T objs t x K = (lenC T objs t x pk).bind (kk K) := by
 unfold lenC
 repeat' (first | rfl | (split <;> (try simp only [*])))
theorem ixC_k (objs : List Ob) (te : TI) (x i : TV) : ixC objs te x i K = (ixC objs te x i pk).bind (kk K) := by
 unfold ixC
 simp only [cond_eq_ite]
 repeat' (first | rfl | (split <;> (try simp only [*])))
theorem giveC_k (ti : TI) (l : List CV) : giveC ti l K = (giveC ti l pk).bind (kk K) := by
 unfold giveC
 repeat' (first | rfl | (split <;> (try simp only [*])))
theorem loadC_k (objs : List Ob) (ti : TI) (a : TV) : loadC objs ti a K = (loadC objs ti a pk).bind (kk K) := by
 unfold loadC
 split
 ·exact giveC_k ..
 ·split
  ·exact giveC_k ..
  ·rfl
 ·split
  ·exact giveC_k ..
  ·rfl
 ·rfl
theorem storeC_k (objs : List Ob) (ti : TI) (a x : TV) : storeC objs ti a x K = (storeC objs ti a x pk).bind (kk K) := by
 unfold storeC
 repeat' (first | rfl | (split <;> (try simp only [*])))
theorem storeN_k (objs : List Ob) (ti : TI) (a x : TV) : storeN objs ti a x K = (storeN objs ti a x pk).bind (kk K) := by
 unfold storeN
 repeat' (first | rfl | (split <;> (try simp only [*])))
theorem fldC_k (objs : List Ob) (off : Nat) (a : TV) : fldC objs off a K = (fldC objs off a pk).bind (kk K) := by
 unfold fldC
 repeat' (first | rfl | (split <;> (try simp only [*])))
theorem appC_k (objs : List Ob) (nid bytes : Nat) (r : CT) (s x : TV) : appC objs nid bytes r s x K = (appC objs nid bytes r s x pk).bind (kk K) := by
 unfold appC
 simp only [cond_eq_ite]
 repeat' (first | rfl | (split <;> (try simp only [*])))
theorem sliG_k (l : Option Int) (hi : Option TV) (n : Nat) (f : Nat → Nat → CV) : sliG l hi n f K = (sliG l hi n f pk).bind (kk K) := by
 unfold sliG
 simp only [cond_eq_ite]
 repeat' (first | rfl | (split <;> (try simp only [*])))
theorem sliC_k (objs : List Ob) (te : TI) (x : TV) (lo hi : Option TV) : sliC objs te x lo hi K = (sliC objs te x lo hi pk).bind (kk K) := by
 unfold sliC
 repeat' (first | rfl | exact sliG_k .. | split)
theorem makC_k (nid : Nat) (r : CT) (bytes : Nat) (n c : TV) : makC nid r bytes n c K = (makC nid r bytes n c pk).bind (kk K) := by
 unfold makC
 simp only [cond_eq_ite]
 repeat' (first | rfl | (split <;> (try simp only [*])))
def LeafCall (T : Tab) : Prop := ∀ (f : Nat) (R : Type) (args : List TV) (K : TV → List CV → Option R), T.call f args K = (T.call f args (fun v m => some (v, m))).bind fun p => K p.1 p.2
theorem callTail_k {T : Tab} (hL : LeafCall T) (objs : List Ob) (back : List CV) (nid f : Nat) (args : List TV) :
  (T.call f args fun v m => if noFz v = true then (match giveBack objs back m with | some u => (match (if (T.frz f && !T.wr f && !T.rev f) = true then frzT v else none) with | some v' => K v' [] u | none => K (openT nid v).1 (openT nid v).2 u) | none => none) else none) =
  (T.call f args fun v m => if noFz v = true then (match giveBack objs back m with | some u => (match (if (T.frz f && !T.wr f && !T.rev f) = true then frzT v else none) with | some v' => pk v' [] u | none => pk (openT nid v).1 (openT nid v).2 u) | none => none) else none).bind (kk K) := by
 rw [hL _ R]
 conv => rhs; rw [hL _ (TV × List Ob × List (Nat × Md))]
 generalize T.call f (R := TV × List CV) args _ = q
 cases q <;> try rfl
 simp only [Option.bind_some]
 repeat' (first | rfl | (split <;> (try simp only [*])))
theorem opSem_k {T : Tab} (hL : LeafCall T) (st : St) (nid : Nat) (o : Oper) : opSem T st nid o K = (opSem T st nid o pk).bind (kk K) := by
 unfold opSem
 dsimp only
 cases h : o.op <;> try rfl
 case call c =>
  obtain ⟨callee, args, argTypes⟩ := c
  cases callee <;> try rfl
  ·dsimp only
   repeat' (first | rfl | exact callTail_k _ K hL .. | (split <;> (try simp only [*])))
  ·rename_i b
   cases b <;> try rfl
   all_goals (dsimp only; repeat' (first | rfl | exact lenC_k .. | exact appC_k .. | (split <;> (try simp only [*]))))
 case slice t x lo hi mx =>
  cases mx <;> try rfl
  dsimp only
  repeat' (first | rfl | exact sliG_k .. | exact sliC_k .. | (split <;> (try simp only [*])))
 all_goals (try simp only [cond_eq_ite]); repeat' (first | rfl | exact binC_k .. | exact unC_k .. | exact lenC_k .. | exact loadC_k .. | exact storeC_k .. | exact storeN_k .. | exact makC_k .. | exact sliG_k .. | exact sliC_k .. | exact fldC_k .. | exact ixC_k .. | (split <;> (try simp only [*])))
end
end Go.Proofs.YtgcioclfplafkaaGreatV
end
section
namespace Go.Proofs.YtgcioclfplafkaaGreatV
open Go Go.RowKit
theorem setOb_append : ∀ (a b : List (Nat × Md)) (objs : List Ob), setOb objs (a ++ b) = setOb (setOb objs a) b
 | [], _, _ => rfl
 | (i, .ob o) :: a, b, objs => by simp only [List.cons_append, setOb]; exact setOb_append a b _
 | (i, .cells off vs) :: a, b, objs => by simp only [List.cons_append, setOb]; exact setOb_append a b _
theorem setOb_length : ∀ (l : List (Nat × Md)) (objs : List Ob), (setOb objs l).length = objs.length
 | [], _ => rfl
 | (i, .ob o) :: l, objs => by simp only [setOb]; rw [setOb_length l]; simp
 | (i, .cells off vs) :: l, objs => by
  simp only [setOb]; rw [setOb_length l]
  split <;> simp
def setG : List Gh → Nat → List Gh → List Gh
 | g, _, [] => g
 | g, n, x :: l => setG (g.set n x) (n + 1) l
theorem setG_length : ∀ (l : List Gh) (g : List Gh) (n : Nat), (setG g n l).length = g.length
 | [], _, _ => rfl
 | x :: l, g, n => by simp only [setG]; rw [setG_length l]; simp
theorem setG_get : ∀ (l : List Gh) (g : List Gh) (n i : Nat), n + l.length ≤ g.length → (setG g n l)[i]? = if n ≤ i ∧ i < n + l.length then l[i - n]? else g[i]?
 | [], g, n, i, _ => by simp only [setG, List.length_nil]; rw [if_neg (by omega)]
 | x :: l, g, n, i, h => by
  simp only [setG, List.length_cons] at h ⊢
  rw [setG_get l (g.set n x) (n + 1) i (by simp; omega)]
  by_cases h1 : n + 1 ≤ i ∧ i < n + 1 + l.length
  ·rw [if_pos h1, if_pos (by omega), show i - n = (i - (n + 1)) + 1 by omega, List.getElem?_cons_succ]
  ·rw [if_neg h1]
   by_cases h2 : i = n
   ·subst h2
    rw [if_pos (by omega), List.getElem?_set_self (by omega)]
    simp
   ·rw [if_neg (by omega), List.getElem?_set_ne (by omega)]
theorem setNew_get : ∀ (l : List Ob) (g : List Ob) (n i : Nat), n + l.length ≤ g.length → (setOb g ((numb n l).map fun p => (p.1, Md.ob p.2)))[i]? = if n ≤ i ∧ i < n + l.length then l[i - n]? else g[i]?
 | [], g, n, i, _ => by simp only [numb, List.map_nil, setOb, List.length_nil]; rw [if_neg (by omega)]
 | x :: l, g, n, i, h => by
  simp only [numb, List.map_cons, setOb, List.length_cons] at h ⊢
  rw [setNew_get l (g.set n x) (n + 1) i (by simp; omega)]
  by_cases h1 : n + 1 ≤ i ∧ i < n + 1 + l.length
  ·rw [if_pos h1, if_pos (by omega), show i - n = (i - (n + 1)) + 1 by omega, List.getElem?_cons_succ]
  ·rw [if_neg h1]
   by_cases h2 : i = n
   ·subst h2
    rw [if_pos (by omega), List.getElem?_set_self (by omega)]
    simp
   ·rw [if_neg (by omega), List.getElem?_set_ne (by omega)]
theorem setG_perm : ∀ (l : List Gh) (g : List Gh) (n : Nat), (∀ k, k < l.length → g[n + k]? = some .unborn) → (allB (setG g n l)).Perm (allB g ++ allB l)
 | [], g, n, _ => by simp [setG, allB]
 | x :: l, g, n, h => by
  simp only [setG]
  have h0 := h 0 (by simp)
  rw [Nat.add_zero] at h0
  have ih := setG_perm l (g.set n x) (n + 1) (fun k hk => by
   rw [List.getElem?_set_ne (by omega), show n + 1 + k = n + (k + 1) by omega]
   exact h (k + 1) (by simpa using hk))
  obtain ⟨p, q, h1, h2⟩ := allB_set x h0
  refine ih.trans ?_
  have h3 : allB (x :: l) = x.blocks ++ allB l := by simp [allB]
  rw [h1, h2, h3]
  simp only [Gh.blocks, List.append_nil, List.append_assoc]
  refine List.Perm.append_left p ?_
  rw [← List.append_assoc, ← List.append_assoc q]
  exact List.Perm.append_right _ List.perm_append_comm
def isRow : Ob → Bool
 | .row _ _ => true
 | _ => false
theorem openC_snd (n m : Nat) (v : CV) : (openC n v).2 = (openC m v).2 := by cases v <;> rfl
theorem openL_snd : ∀ (l : List CV) (n m : Nat), (openL n l).2 = (openL m l).2
 | [], _, _ => rfl
 | v :: l, n, m => by
  simp only [openL]
  rw [openC_snd n m v, openL_snd l _ (m + (openC m v).2.length)]
theorem openP_snd : ∀ (l : List (Bool × List CV)) (n m : Nat), (openP n l).2 = (openP m l).2
 | [], _, _ => rfl
 | (b, v) :: l, n, m => by
  simp only [openP]
  rw [openL_snd v n m, openP_snd l _ (m + (openL m v).2.length)]
theorem openT_snd (n m : Nat) (v : TV) : (openT n v).2 = (openT m v).2 := by
 cases v <;> simp only [openT]
 ·exact openC_snd ..
 ·exact openL_snd ..
 ·exact openP_snd ..
theorem openC_rows (n : Nat) (v : CV) : (openC n v).2.all isRow = true := by cases v <;> rfl
theorem openL_rows : ∀ (l : List CV) (n : Nat), (openL n l).2.all isRow = true
 | [], _ => rfl
 | v :: l, n => by simp only [openL, List.all_append, openC_rows, openL_rows, Bool.and_self]
theorem openP_rows : ∀ (l : List (Bool × List CV)) (n : Nat), (openP n l).2.all isRow = true
 | [], _ => rfl
 | (b, v) :: l, n => by simp only [openP, List.all_append, openL_rows, openP_rows, Bool.and_self]
theorem openT_rows (n : Nat) (v : TV) : (openT n v).2.all isRow = true := by
 cases v <;> simp only [openT]
 ·exact openC_rows ..
 ·exact openL_rows ..
 ·exact openP_rows ..
 all_goals rfl
section
variable {w w' : World} {S S' : Nat → Prop} {g g' : List Gh}
theorem openC_shift {a b : Nat} {v : CV} {u : Value} (hv : noFzC v = true) (hg : ∀ k, k < (openC a v).2.length → g'[b + k]? = g[a + k]?) (h : RepC w S g (openC a v).1 u) : RepC w' S' g' (openC b v).1 u := by
 cases v <;> simp only [noFzC, Bool.false_eq_true] at hv <;> try exact h
 have := hg 0 (by simp [openC])
 simp only [Nat.add_zero] at this
 simp only [openC, RepC] at h ⊢
 rw [this]
 exact h
theorem openL_shift : ∀ {l : List CV} {us : List Value} {a b : Nat}, l.all noFzC = true → (∀ k, k < (openL a l).2.length → g'[b + k]? = g[a + k]?) → RepL w S g (openL a l).1 us → RepL w' S' g' (openL b l).1 us
 | [], [], _, _, _, _, _ => trivial
 | [], _ :: _, _, _, _, _, h => h.elim
 | _ :: _, [], _, _, _, _, h => h.elim
 | v :: l, u :: us, a, b, hv, hg, h => by
  simp only [openL, List.length_append] at hg h ⊢
  simp only [List.all_cons, Bool.and_eq_true] at hv
  refine ⟨openC_shift hv.1 (fun k hk => hg k (by omega)) h.1, openL_shift hv.2 (fun k hk => ?_) h.2⟩
  have := hg ((openC a v).2.length + k) (by omega)
  rw [openC_snd b a v]
  rw [← Nat.add_assoc, ← Nat.add_assoc] at this
  exact this
theorem openP_shift : ∀ {l : List (Bool × List CV)} {us : List Value} {a b : Nat}, (l.all fun p => p.2.all noFzC) = true → (∀ k, k < (openP a l).2.length → g'[b + k]? = g[a + k]?) → RepP w S g (openP a l).1 us → RepP w' S' g' (openP b l).1 us
 | [], [], _, _, _, _, _ => trivial
 | [], _ :: _, _, _, _, _, h => h.elim
 | (true, _) :: _, [], _, _, _, _, h => h.elim
 | (false, _) :: _, [], _, _, _, _, h => h.elim
 | (c, v) :: l, u :: us, a, b, hv, hg, h => by
  simp only [openP, List.length_append] at hg h ⊢
  simp only [List.all_cons, Bool.and_eq_true] at hv
  have h2 : ∀ k, k < (openP (a + (openL a v).2.length) l).2.length → g'[b + (openL b v).2.length + k]? = g[a + (openL a v).2.length + k]? := fun k hk => by
   have := hg ((openL a v).2.length + k) (by omega)
   rw [openL_snd v b a]
   rw [← Nat.add_assoc, ← Nat.add_assoc] at this
   exact this
  cases c with
  | true =>
   obtain ⟨⟨vs, h3, h4⟩, h5⟩ := h
   exact ⟨⟨vs, h3, openL_shift hv.1 (fun k hk => hg k (by omega)) h4⟩, openP_shift hv.2 h2 h5⟩
  | false => exact ⟨openL_shift hv.1 (fun k hk => hg k (by omega)) h.1, openP_shift hv.2 h2 h.2⟩
theorem openT_shift {v : TV} {u : Value} {a b : Nat} (hv : noFz v = true) (hg : ∀ k, k < (openT a v).2.length → g'[b + k]? = g[a + k]?) (h : RepT w S g (openT a v).1 u) : RepT w' S' g' (openT b v).1 u := by
 cases v <;> simp only [noFz, Bool.false_eq_true] at hv
 ·exact openC_shift hv hg h
 ·obtain ⟨us, h1, h2⟩ := h
  exact ⟨us, h1, openL_shift hv hg h2⟩
 ·obtain ⟨us, h1, h2⟩ := h
  exact ⟨us, h1, openP_shift hv hg h2⟩
theorem row_any {o : Ob} {x : Gh} (ho : isRow o = true) (h : ObOK w S g o x) : ObOK w S' g' o x := by
 cases o <;> simp only [isRow, Bool.false_eq_true] at ho
 cases x <;> first | exact h | exact h.elim
end
section
variable {P : Program} {T : Tab} {W : List Gh} {w0 w w' : World} {g : List Gh} {st : St} {a : Act}
theorem rel_call (hR : RelG W w0 g st a w) {gc : List Gh} (hgc : ∀ b ∈ allB gc, b ∈ allB g) (hK : Keep (allB gc) w w') {v : TV} {u : Value} (hv : noFz v = true) (hres : ResOK w w' v u) {nid : Nat}
  (hn : ∀ k, k < (openT nid v).2.length → g[nid + k]? = some .unborn) {mods : List (Nat × Md)} (hob1 : ObsOK w' (Stable w g) g (setOb st.objs mods) g) (dst : Option Nat) :
  ∃ g', RelG W w0 g' (st.upd dst (openT nid v).1 (upsOf nid mods (openT nid v).2)) (a.put dst u) w' := by
 obtain ⟨gr, h1, h2, h3, h4⟩ := hres
 have hlen := ObsOK_length h2
 rw [openT_snd 0 nid] at hlen
 have hn' : ∀ k, k < gr.length → g[nid + k]? = some .unborn := fun k hk => hn k (by omega)
 have hroom : gr.length = 0 ∨ nid + gr.length ≤ g.length := by
  by_cases e : gr.length = 0
  ·exact .inl e
  ·right
   have := (List.getElem?_eq_some_iff.1 (hn' (gr.length - 1) (by omega))).1
   omega
 have hperm := setG_perm gr g nid hn'
 have hmem : ∀ b, b ∈ allB (setG g nid gr) ↔ b ∈ allB g ∨ b ∈ allB gr := fun b => by rw [hperm.mem_iff, List.mem_append]
 have hget : ∀ i, (setG g nid gr)[i]? = if nid ≤ i ∧ i < nid + gr.length then gr[i - nid]? else g[i]? := fun i => by
  rcases hroom with e | e
  ·have : gr = [] := List.eq_nil_of_length_eq_zero e
   subst this
   simp only [setG, List.length_nil]
   rw [if_neg (by omega)]
  ·exact setG_get gr g nid i e
 have hold : ∀ b, b < w.heap.size → b ∉ allB g → w'.heap[b]? = w.heap[b]? := fun b hb h => hK.block b hb (fun h' => h (hgc b h'))
 have hG : GExt g (setG g nid gr) := fun i h hi => by
  rw [hget]
  by_cases e : nid ≤ i ∧ i < nid + gr.length
  ·left
   have := hn' (i - nid) (by omega)
   rw [show nid + (i - nid) = i by omega, hi] at this
   injection this
  ·rw [if_neg e]; exact .inr (.inl hi)
 have hS : ∀ b, Stable w g b → Stable w' (setG g nid gr) b ∧ w'.heap[b]? = w.heap[b]? := fun b hb => by
  refine ⟨⟨Nat.lt_of_lt_of_le hb.1 hK.size, fun h => ?_⟩, hold b hb.1 hb.2⟩
  rcases (hmem b).1 h with h | h
  ·exact hb.2 h
  ·have := (h4 b h).1; have := hb.1; omega
 refine ⟨setG g nid gr, ?_⟩
 have hgoal := rel_change hR (g' := setG g nid gr) (w' := w') (objs' := setOb st.objs (upsOf nid mods (openT nid v).2)) hG hS ?_ ?_ (fun b hb => ?_) ?_ dst (v := (openT nid v).1) (u := u) ?_
 ·exact hgoal
 ·rw [upsOf, setOb_append]
  have hl1 := ObsOK_length hob1
  have hS2 : ∀ b, Stable w g b → Stable w' (setG g nid gr) b ∧ w'.heap[b]? = w'.heap[b]? := fun b hb => ⟨(hS b hb).1, rfl⟩
  refine ObsOK_but hS2 hG hob1 (by rw [setOb_length, setG_length]; exact hl1) (fun i o x h5 h6 => ?_)
  rw [hget] at h6
  have h5' : (if nid ≤ i ∧ i < nid + (openT nid v).2.length then (openT nid v).2[i - nid]? else (setOb st.objs mods)[i]?) = some o := by
   rcases hroom with e | e
   ·have : (openT nid v).2 = [] := List.eq_nil_of_length_eq_zero (by omega)
    rw [this] at h5 ⊢
    rw [if_neg (by simp only [List.length_nil]; omega)]
    exact h5
   ·rw [setNew_get _ _ _ _ (by omega)] at h5
    exact h5
  by_cases e : nid ≤ i ∧ i < nid + gr.length
  ·rw [if_pos e] at h6
   rw [if_pos (by omega)] at h5'
   right
   rw [openT_snd nid 0] at h5'
   have := (ObsOK_iff.1 h2).2 (i - nid) o x h5' h6
   refine row_any ?_ this
   have hr := openT_rows 0 v
   rw [List.all_eq_true] at hr
   exact hr o (List.mem_of_getElem? h5')
  ·rw [if_neg e] at h6
   rw [if_neg (by omega)] at h5'
   exact .inl ⟨h5', h6, fun _ _ => rfl⟩
 ·refine (hperm.nodup_iff).2 ?_
  rw [List.nodup_append]
  refine ⟨hR.nd, h3, fun p hp q hq e => ?_⟩
  subst e
  have := (hR.own p hp).1
  have := (h4 p hq).1
  omega
 ·rcases (hmem b).1 hb with h | h
  ·exact ⟨Nat.lt_of_lt_of_le (hR.own b h).1 hK.size, (hR.own b h).2⟩
  ·exact ⟨(h4 b h).2, .inl (Nat.le_trans hR.keep.size (h4 b h).1)⟩
 ·refine ⟨hK.os.trans hR.keep.os, hK.tape.trans hR.keep.tape, hK.output.trans hR.keep.output, Nat.le_trans hR.keep.size hK.size, fun b hb hW => ?_⟩
  rw [hold b (Nat.lt_of_lt_of_le hb hR.keep.size) (fun h => ?_), hR.keep.block b hb hW]
  rcases (hR.own b h).2 with h | h
  ·omega
  ·exact hW h
 ·exact openT_shift hv (fun k hk => by
   rw [hget]
   have : k < gr.length := by rw [← hlen, openT_snd nid 0]; exact hk
   rw [if_pos (by omega), Nat.zero_add]
   congr 1
   omega) h1
end
end Go.Proofs.YtgcioclfplafkaaGreatV
end
section
namespace Go.Proofs.YtgcioclfplafkaaGreatV
open Go Go.RowKit
def Enterable (P : Program) (f : Nat) : Prop := ∃ fn, P.funcs[f]? = some fn ∧ (fn.name == "runtime.NumGoroutine") = false ∧ fn.body.isNone = false
theorem run_enter {P : Program} {f : Nat} (h : Enterable P f) (w : World) (args : Array Value) : (callFunc f args).run P w = .ok (.enter f args) w := by
 obtain ⟨fn, h1, h2, h3⟩ := h
 have h2' : ¬ fn.name = "runtime.NumGoroutine" := by simpa using h2
 have h3' : ¬ fn.body = none := fun e => by rw [e] at h3; cases h3
 unfold callFunc
 simp [h1, h2', h3']
def FnOK (P : Program) (T : Tab) (f : Nat) : Prop := CallOK P f (T.call f) ∧ Enterable P f
section
variable {P : Program} {T : Tab} {w : World} {S : Nat → Prop}
theorem openC_rep {v : CV} {u : Value} {g : List Gh} (n : Nat) (h : RepC w S g v u) : openC n v = (v, []) := by
 cases v <;> first | rfl | exact h.elim
theorem openL_rep {g : List Gh} : ∀ {l : List CV} {us : List Value} (n : Nat), RepL w S g l us → openL n l = (l, [])
 | [], _, _, _ => rfl
 | v :: l, [], _, h => h.elim
 | v :: l, u :: us, n, h => by simp [openL, openC_rep n h.1, openL_rep _ h.2]
theorem openP_rep {g : List Gh} : ∀ {l : List (Bool × List CV)} {us : List Value} (n : Nat), RepP w S g l us → openP n l = (l, [])
 | [], _, _, _ => rfl
 | (true, v) :: l, [], _, h => h.elim
 | (false, v) :: l, [], _, h => h.elim
 | (true, v) :: l, u :: us, n, h => by
  obtain ⟨⟨vs, h1, h2⟩, h3⟩ := h
  simp [openP, openL_rep n h2, openP_rep _ h3]
 | (false, v) :: l, u :: us, n, h => by simp [openP, openL_rep n h.1, openP_rep _ h.2]
theorem openT_rep {v : TV} {u : Value} {g : List Gh} (n : Nat) (h : RepT w S g v u) : openT n v = (v, []) := by
 cases v <;> try rfl
 ·simp only [openT, openC_rep n h]
 ·obtain ⟨us, _, h2⟩ := h
  simp only [openT, openL_rep n h2]
 ·obtain ⟨us, _, h2⟩ := h
  simp only [openT, openP_rep n h2]
theorem openA_rep {g : List Gh} : ∀ {l : List TV} {us : List Value} (n : Nat), RepTs w S g l us → openA n l = (l, [])
 | [], _, _, _ => rfl
 | v :: l, [], _, h => h.elim
 | v :: l, u :: us, n, h => by simp [openA, openT_rep n h.1, openA_rep _ h.2]
theorem trimT_rep {g : List Gh} {v : TV} {u : Value} (t : Nat) (h : RepT w S g v u) : RepT w S g (match v with | .fp l => (match (T.ty t).bind fun ti => T.ty ti.elem with | some te => .fp (l.take te.size) | none => .fp l) | v => v) u := by
 cases v <;> try exact h
 dsimp only
 split
 ·obtain ⟨b, off, cells, ty, fr, h1, h2, h3, h4⟩ := h
  exact ⟨b, off, cells, ty, fr, h1, h2, h3, RepAt_take _ h4⟩
 ·exact h
theorem trimA_rep {g : List Gh} : ∀ {l : List TV} {us : List Value} (ts : List Nat), RepTs w S g l us → RepTs w S g (trimA T l ts) us
 | [], us, ts, h => by cases ts <;> exact h
 | v :: l, [], _, h => h.elim
 | v :: l, u :: us, [], h => by cases v <;> exact h
 | v :: l, u :: us, t :: ts, h => by
  have h1 := trimT_rep (T := T) t h.1
  have h2 := trimA_rep ts h.2
  cases v <;> exact ⟨h1, h2⟩
theorem args_rep {W : List Gh} {w0 : World} {g : List Gh} {st : St} {a : Act} (hR : RelG W w0 g st a w) : ∀ (l : List Operand) (ts : List Nat), l.length = ts.length →
  RepTs w (Stable w g) g ((l.zip ts).map fun p => opd T st p.2 p.1) (l.map a.eval)
 | [], [], _ => trivial
 | [], _ :: _, h => by simp at h
 | _ :: _, [], h => by simp at h
 | x :: l, t :: ts, h => ⟨opd_rep hR.tm t x, args_rep hR l ts (by simpa using h)⟩
theorem caps_rep {g : List Gh} : ∀ {l : List CV} {us : List Value}, RepL w S g l us → RepTs w S g (l.map TV.c) us
 | [], [], _ => trivial
 | [], _ :: _, h => h.elim
 | _ :: _, [], h => h.elim
 | _ :: _, _ :: _, h => ⟨h.1, caps_rep h.2⟩
def OpWp (P : Program) (W : List Gh) (w0 w : World) (st : St) (a : Act) (nid : Nat) (o : Oper) (v : TV) (new : List Ob) (mods : List (Nat × Md)) : Prop :=
 ∀ (K : Act → World → Prop) (Q : Exit → Act → World → Prop), (∀ u w' g', RelG W w0 g' (st.upd o.dst v (upsOf nid mods new)) (a.put o.dst u) w' → K (a.put o.dst u) w') → o.wp P a w K Q
theorem opWp_of {W : List Gh} {w0 : World} {st : St} {a : Act} {nid : Nat} {o : Oper} {v : TV} {new : List Ob} {mods : List (Nat × Md)} (h : OpOK P W w0 w st a nid o v new mods) : OpWp P W w0 w st a nid o v new mods := by
 intro K Q hK
 obtain ⟨u, w', g', h1, h2⟩ := h
 unfold Oper.wp
 rcases h1 with h1 | ⟨h1, rfl⟩
 ·rw [h1]; exact hK u w' g' h2
 ·rw [h1]; exact hK _ w' g' h2
theorem exec_call {a : Act} {o : Oper} {x : Operand} {args : Array Operand} {ts : Array TypeId} {f : Nat} {us : List Value} (ho : o.op = .call ⟨.value x, args, ts⟩) (hx : a.eval x = .func (.func f) #[] us.toArray) (he : Enterable P f) :
  (execOp a.eval o).run P w = .ok (.enter f (args.toList.map a.eval ++ us).toArray) w := by
 unfold execOp
 rw [ho]
 simp only [resolve, hx, Deferred.ofValue, Sem.run_bind, Sem.run_pure, Result.andThen, invoke, Array.empty_append, run_enter he]
 congr 2
 simp
theorem call_read {W : List Gh} {w0 : World} {g : List Gh} {st : St} {a : Act} (hL : LeafCall T) (hR : RelG W w0 g st a w) {nid f : Nat} {o : Oper} {vs us : List TV} {vals : List Value} (hv : RepTs w (Stable w g) g vs vals)
  (hf : freezeA st.objs vs = some us) (ts : List Nat) {res : TV} {m : List CV} (hc : T.call f (trimA T us ts) (fun v m => some (v, m)) = some (res, m)) (hF : FnOK P T f) (hz : noFz res = true) (hn : ∀ k, k < (openT nid res).2.length → g[nid + k]? = some .unborn)
  (hx : (execOp a.eval o).run P w = .ok (.enter f vals.toArray) w) : OpWp P W w0 w st a nid o (openT nid res).1 (openT nid res).2 [] := by
 intro K Q hK
 have h1 := trimA_rep (T := T) ts (freezeA_rep (S' := fun b => b < w.heap.size) hR.ob (fun b hb => hb.1) (fun b hb => (hR.own b hb).1) hv hf)
 have ho := openA_rep 0 h1
 have := hF.1 (trimA T us ts) res m (fun {R} K => by show T.call f _ K = _; rw [hL f R, hc]; rfl) w vals (fun b => b < w.heap.size) [] (by rw [ho]; exact h1) (by rw [ho]; trivial) (by simp [allB]) (by simp [allB]) (fun b hb => ⟨hb, by simp [allB]⟩)
 unfold Oper.wp
 rw [hx]
 refine Calls.mono this (fun e w' h => ?_)
 obtain ⟨u, rfl, h2, _, h3⟩ := h
 obtain ⟨g', h4⟩ := rel_call hR (gc := []) (by simp [allB]) h2 hz h3 hn (mods := []) (ObsOK_mono (fun b hb => ⟨hb, h2.block b hb.1 (by simp [allB])⟩) (GExt.refl g) (fun x hx b hb => h2.block b (hR.own b (mem_allB.2 ⟨x, hx, hb⟩)).1 (by simp [allB])) hR.ob) o.dst
 exact hK u w' g' h4
theorem call_frz {W : List Gh} {w0 : World} {g : List Gh} {st : St} {a : Act} (hL : LeafCall T) (hR : RelG W w0 g st a w) {nid f : Nat} {o : Oper} {vs us : List TV} {vals : List Value} (hv : RepTs w (Stable w g) g vs vals)
  (hf : freezeA st.objs vs = some us) (ts : List Nat) {res v' : TV} {m : List CV} (hc : T.call f (trimA T us ts) (fun v m => some (v, m)) = some (res, m)) (hF : FnOK P T f) (hz : frzT res = some v')
  (hx : (execOp a.eval o).run P w = .ok (.enter f vals.toArray) w) : OpWp P W w0 w st a nid o v' [] [] := by
 intro K Q hK
 have h1 := trimA_rep (T := T) ts (freezeA_rep (S' := fun b => b < w.heap.size) hR.ob (fun b hb => hb.1) (fun b hb => (hR.own b hb).1) hv hf)
 have ho := openA_rep 0 h1
 have := hF.1 (trimA T us ts) res m (fun {R} K => by show T.call f _ K = _; rw [hL f R, hc]; rfl) w vals (fun b => b < w.heap.size) [] (by rw [ho]; exact h1) (by rw [ho]; trivial) (by simp [allB]) (by simp [allB]) (fun b hb => ⟨hb, by simp [allB]⟩)
 unfold Oper.wp
 rw [hx]
 refine Calls.mono this (fun e w' h => ?_)
 obtain ⟨u, rfl, h2, _, h3⟩ := h
 have hS : ∀ b, Stable w g b → Stable w' g b ∧ w'.heap[b]? = w.heap[b]? := fun b hb => ⟨⟨Nat.lt_of_lt_of_le hb.1 h2.size, hb.2⟩, h2.block b hb.1 (by simp [allB])⟩
 have hob := ObsOK_mono hS (GExt.refl g) (fun x hx b hb => h2.block b (hR.own b (mem_allB.2 ⟨x, hx, hb⟩)).1 (by simp [allB])) hR.ob
 have hval : RepT w' (Stable w' g) g v' u := by
  unfold frzT at hz
  split at hz
  ·rename_i r xs
   injection hz with hz
   subst hz
   obtain ⟨gr, k1, k2, k3, k4⟩ := h3
   simp only [openT, openC] at k1 k2
   cases gr with
   | nil => exact k2.elim
   | cons x gr =>
    cases gr with
    | cons _ _ => exact k2.2.elim
    | nil =>
     have k5 := k2.1
     cases x <;> try exact k5.elim
     rename_i t
     obtain ⟨v, rows, rfl, k6⟩ := k5
     simp only [RepT, RepC, List.getElem?_cons_zero] at k1
     subst k1
     show FzC w' (Stable w' g) (.sl r) #[u] 0 xs
     refine OwnC_fz (fun b hb => ?_) k6
     have := k4 b (by simp [allB, Gh.blocks, hb])
     exact ⟨this.2, fun h => by have := (hR.own b h).1; omega⟩
  ·cases hz
 have hown : ∀ b ∈ allB g, b < w'.heap.size ∧ (w0.heap.size ≤ b ∨ b ∈ allB W) := fun b hb => ⟨Nat.lt_of_lt_of_le (hR.own b hb).1 h2.size, (hR.own b hb).2⟩
 have hkeep : Keep (allB W) w0 w' := keep_own hR h2.os h2.tape h2.output h2.size (fun b hb _ => h2.block b hb (by simp [allB]))
 have h4 := rel_change hR (GExt.refl g) hS hob hR.nd hown hkeep o.dst hval
 exact hK u w' g (by
  have e : st.upd o.dst v' (upsOf nid [] []) = (({ tmps := st.tmps, objs := st.objs } : St).put o.dst v') := rfl
  rw [e]; exact h4)
end
end Go.Proofs.YtgcioclfplafkaaGreatV
end

/- Type table, operands, operations; no condition. -/
import Derived.Test.YtgcioclfplafkaaGreatA02
set_option linter.all false
section
namespace Go.Proofs.YtgcioclfplafkaaGreatV
open Go Go.RowKit
section
variable {P : Program} {T : Tab} {w : World} {S : Nat → Prop} {g : List Gh}
theorem bif_some {α : Type} {b : Bool} {x : Option α} {r : α} (h : (bif b then x else none) = some r) : b = true ∧ x = some r := by
 cases b
 ·simp at h
 ·exact ⟨rfl, h⟩
theorem bif_none_some {α : Type} {b : Bool} {x : Option α} {r : α} (h : (bif b then none else x) = some r) : b = false ∧ x = some r := by
 cases b
 ·exact ⟨rfl, h⟩
 ·simp at h
def Gives (w : World) (S : Nat → Prop) (g : List Gh) (r : Result Value) (v : TV) (n : List Ob) (m : List (Nat × Md)) : Prop :=
 ∃ u, r = .ok u w ∧ RepT w S g v u ∧ n = [] ∧ m = []
theorem gives {u : Value} {r : Result Value} {v : TV} (h : r = .ok u w) (hv : RepT w S g v u) : Gives w S g r v [] [] := ⟨u, h, hv, rfl, rfl⟩
theorem ty_str (hT : TabOK P T) {t : Nat} {ti : TI} (h : T.ty t = some ti) (hc : ti.ct = .str) (ha : ti.agg = false) : P.underlying t = some .string := by
 obtain ⟨i, d, h1, h2, h3, h4, h5, h6⟩ := ty_info hT h
 rw [h2]
 cases d <;> simp [descOk, hc, ha] at h6 ⊢
theorem ty_bool (hT : TabOK P T) {t : Nat} (h : isB (T.ty t) = true) : P.underlying t = some .bool := by
 unfold isB at h
 split at h
 ·rename_i ti hti
  split at h
  ·rename_i hc ha hq
   obtain ⟨i, d, h1, h2, h3, h4, h5, h6⟩ := ty_info hT hti
   rw [h2]
   cases d <;> simp [descOk, hc, ha, hq] at h6 ⊢
  ·cases h
 ·cases h
theorem binC_ok (hT : TabOK P T) {op : BinOp} {t : TypeId} {ox oy : Operand} {x y : TV} {ux uy : Value} {v : TV} {n : List Ob} {m : List (Nat × Md)}
  (hx : RepT w S g x ux) (hy : RepT w S g y uy)
  (h : binC (isB (T.ty t)) (if T.eq t then (T.ty t).map (fun ti => cellsCT ti.ct) else none) op x y pk = some (v, n, m)) :
  Gives w S g ((do eqGuard op t ox oy ux uy; binOp op t ux uy : Sem Value).run P w) v n m := by
 unfold binC at h
 split at h
 ·-- whole numbers
  rename_i k a k' b
  simp only [RepT, RepC] at hx hy
  subst hx; subst hy
  split at h
  ·rename_i hk
   subst hk
   have eg : eqGuard op t ox oy (.int k a) (.int k b) = pure () := by cases op <;> rfl
   rw [eg]
   cases op <;> simp only [reduceCtorEq] at h
   case add => obtain ⟨rfl, rfl, rfl⟩ := retV_inj h; exact gives (by simp [binOp, Op.intArith]) rfl
   case sub => obtain ⟨rfl, rfl, rfl⟩ := retV_inj h; exact gives (by simp [binOp, Op.intArith]) rfl
   case mul => obtain ⟨rfl, rfl, rfl⟩ := retV_inj h; exact gives (by simp [binOp, Op.intArith]) rfl
   case quo =>
    obtain ⟨h0, h⟩ := bif_none_some h
    obtain ⟨rfl, rfl, rfl⟩ := retV_inj h
    exact gives (by simp [binOp, Op.intDiv, of_decide_eq_false h0]) rfl
   case rem =>
    obtain ⟨h0, h⟩ := bif_none_some h
    obtain ⟨rfl, rfl, rfl⟩ := retV_inj h
    exact gives (by simp [binOp, Op.intDiv, of_decide_eq_false h0]) rfl
   case eql => obtain ⟨rfl, rfl, rfl⟩ := retV_inj h; exact gives (by simp [binOp, Op.intCmp]) rfl
   case neq => obtain ⟨rfl, rfl, rfl⟩ := retV_inj h; exact gives (by simp [binOp, Op.intCmp]) rfl
   case lss => obtain ⟨rfl, rfl, rfl⟩ := retV_inj h; exact gives (by simp [binOp, Op.intCmp]) rfl
   case leq => obtain ⟨rfl, rfl, rfl⟩ := retV_inj h; exact gives (by simp [binOp, Op.intCmp]) rfl
   case gtr => obtain ⟨rfl, rfl, rfl⟩ := retV_inj h; exact gives (by simp [binOp, Op.intCmp]) rfl
   case geq => obtain ⟨rfl, rfl, rfl⟩ := retV_inj h; exact gives (by simp [binOp, Op.intCmp]) rfl
  ·cases h
 ·rename_i a b
  simp only [RepT, RepC] at hx hy
  subst hx; subst hy
  have eg : eqGuard op t ox oy (.string a) (.string b) = pure () := by cases op <;> rfl
  rw [eg]
  cases op <;> simp only [reduceCtorEq] at h
  case add =>
   obtain ⟨h0, h⟩ := bif_none_some h
   obtain ⟨rfl, rfl, rfl⟩ := retV_inj h
   have h0 := of_decide_eq_false h0
   refine gives (u := .string (a ++ b)) ?_ rfl
   simp only [binOp, Op.stringOp, Sem.run_bind, Sem.run_pure, Result.andThen_ok]
   rw [if_neg h0]
   rfl
  case eql => obtain ⟨rfl, rfl, rfl⟩ := retV_inj h; exact gives (by simp [binOp, Op.stringOp]) rfl
  case neq => obtain ⟨rfl, rfl, rfl⟩ := retV_inj h; exact gives (by simp [binOp, Op.stringOp]) rfl
  case lss => obtain ⟨rfl, rfl, rfl⟩ := retV_inj h; exact gives (by simp [binOp, Op.stringOp]) rfl
  case leq => obtain ⟨rfl, rfl, rfl⟩ := retV_inj h; exact gives (by simp [binOp, Op.stringOp]) rfl
  case gtr => obtain ⟨rfl, rfl, rfl⟩ := retV_inj h; exact gives (by simp [binOp, Op.stringOp]) rfl
  case geq => obtain ⟨rfl, rfl, rfl⟩ := retV_inj h; exact gives (by simp [binOp, Op.stringOp]) rfl
 ·rename_i a b
  simp only [RepT, RepC] at hx hy
  subst hx; subst hy
  have eg : eqGuard op t ox oy (.bool a) (.bool b) = pure () := by cases op <;> rfl
  rw [eg]
  obtain ⟨hb, h⟩ := bif_some h
  have e2 : (Op.equal t (.bool a) (.bool b)).run P w = .ok (a == b) w := by
   have e3 : ∀ d, (Op.equalIn (d + 1) t (.bool a) (.bool b)).run P w = .ok (a == b) w := fun d => by simp [Op.equalIn, run_underlying (ty_bool hT hb)]
   exact e3 9999
  cases op <;> simp only [reduceCtorEq] at h
  case eql => obtain ⟨rfl, rfl, rfl⟩ := retV_inj h; exact gives (by simp [binOp, e2]) rfl
  case neq => obtain ⟨rfl, rfl, rfl⟩ := retV_inj h; exact gives (by simp [binOp, e2, bne]) rfl
 ·rename_i l l'
  obtain ⟨us, rfl, hx⟩ := hx
  obtain ⟨vs, rfl, hy⟩ := hy
  split at h
  ·rename_i cs hcs
   cases he : T.eq t with
   | false => rw [he] at hcs; simp at hcs
   | true =>
    rw [he, if_pos rfl] at hcs
    cases ht : T.ty t with
    | none => rw [ht] at hcs; simp at hcs
    | some ti =>
     rw [ht] at hcs
     simp only [Option.map_some, Option.some.injEq] at hcs
     subst hcs
     split at h
     ·rename_i e he2
      obtain ⟨rfl, rfl, rfl⟩ := retV_inj h
      obtain ⟨h1, h2⟩ := equal_ok (P := P) (w := w) hT he ht hx hy he2
      refine gives (u := .bool e) ?_ rfl
      simp [eqGuard, h2, binOp, h1]
     ·rename_i e he2
      obtain ⟨rfl, rfl, rfl⟩ := retV_inj h
      obtain ⟨h1, h2⟩ := equal_ok (P := P) (w := w) hT he ht hx hy he2
      refine gives (u := .bool (!e)) ?_ rfl
      simp [eqGuard, h2, binOp, h1]
     ·cases h
  ·cases h
 ·cases h
theorem unC_ok {op : UnOp} {x : TV} {ux : Value} {v : TV} {n : List Ob} {m : List (Nat × Md)} (hx : RepT w S g x ux) (h : unC op x pk = some (v, n, m)) : Gives w S g ((Op.unary op ux).run P w) v n m := by
 unfold unC at h
 split at h
 ·simp only [RepT, RepC] at hx; subst hx
  obtain ⟨rfl, rfl, rfl⟩ := retV_inj h; exact gives (by simp [Op.unary, Op.intArith]) rfl
 ·simp only [RepT, RepC] at hx; subst hx
  obtain ⟨rfl, rfl, rfl⟩ := retV_inj h; exact gives (by simp [Op.unary]) rfl
 ·cases h
theorem lenC_ok (hT : TabOK P T) {objs : List Ob} (ho : ObsOK w S g objs g) {t ty : Nat} {x : TV} {ux : Value} {v : TV} {n : List Ob} {m : List (Nat × Md)} (hx : RepT w S g x ux) (h : lenC T objs t x pk = some (v, n, m)) :
  Gives w S g ((Builtin.len_ #[t] ty #[ux]).run P w) v n m := by
 unfold lenC at h
 split at h
 ·simp only [RepT, RepC] at hx; subst hx
  split at h
  ·rename_i ti hti
   split at h
   ·rename_i hc ha
    obtain ⟨rfl, rfl, rfl⟩ := retV_inj h
    exact gives (by simp [Builtin.len_, run_underlying (ty_str hT hti hc ha), goInt]) rfl
   ·cases h
  ·cases h
 ·rename_i cv _
  split at h
  ·rename_i r xs te hf he
   obtain ⟨rfl, rfl, rfl⟩ := retV_inj h
   have hz := content_rep (S' := fun _ => True) ho (fun _ _ => trivial) (fun _ _ => trivial) hx hf
   obtain ⟨a, cap, hv, _⟩ := hz
   simp only [List.getElem?_toArray, List.getElem?_cons_zero, Option.some.injEq] at hv
   subst hv
   obtain ⟨e, hu, _⟩ := ty_elem hT he
   exact gives (by simp [Builtin.len_, run_underlying hu, goInt]) rfl
  ·cases h
 ·cases h
theorem own_slice {r : CT} {xs : List (El r)} {v : Value} {rows : List GT} (h : OwnC w (.sl r) #[v] 0 xs (.sl r.size v rows)) :
  (xs = [] ∧ v = .slice none 0 0) ∨ ∃ b cap cells ty, v = .slice (some ⟨b, 0, none⟩) xs.length cap ∧ w.heap[b]? = some (.cells cells ty (0, 0)) ∧ rows.length = xs.length := by
 obtain ⟨v', rows', e, h1, h2⟩ := h
 injection e with _ e2 e3
 subst e2; subst e3
 rcases h2 with ⟨h2, h3, _⟩ | ⟨b, cap, cells, t, hv, hc, hm, hh, hs, hl, hr⟩
 ·exact .inl ⟨h2, h3⟩
 ·exact .inr ⟨b, cap, cells, t, hv, hh, hl⟩
theorem add_mul (b o n : Nat) : (⟨b, o, none⟩ : Addr).add n = ⟨b, o + n, none⟩ := Addr.add_lit b o n
theorem indexAt_ok (hT : TabOK P T) {t : Nat} {te : TI} (he : elemTy T t = some te) {k : IntKind} {i : Int} {b off n cap : Nat} (h0 : 0 ≤ i) (h1 : i < (n : Int)) :
  (Instr.indexAt t (.slice (some ⟨b, off, none⟩) n cap) (.int k i)).run P w = .ok (.pointer (some ⟨b, off + i.toNat * te.size, none⟩)) w := by
 obtain ⟨e, hu, hte, _⟩ := ty_elem hT he
 have hs := run_sizeOf hT hte w
 have hc : 0 ≤ i ∧ i < (n : Int) := ⟨h0, h1⟩
 simp [Instr.indexAt, asIntOf, run_underlying hu, hc, hs, add_mul]
theorem te_size (hT : TabOK P T) {t : Nat} {ti : TI} (h : T.ty t = some ti) : ti.ct.size = ti.size := by
 obtain ⟨i, d, h1, h2, h3, h4, h5, h6⟩ := ty_info hT h
 exact h5.2
theorem ixC_ok (hT : TabOK P T) {objs : List Ob} (ho : ObsOK w S g objs g) {t : Nat} {te : TI} (he : elemTy T t = some te) {x i : TV} {ux ui : Value} {v : TV} {n : List Ob} {m : List (Nat × Md)}
  (hx : RepT w S g x ux) (hi : RepT w S g i ui) (h : ixC objs te x i pk = some (v, n, m)) : Gives w S g ((Instr.indexAt t ux ui).run P w) v n m := by
 obtain ⟨e, hu, hte, _⟩ := ty_elem hT he
 have hsz := te_size hT hte
 unfold ixC at h
 split at h
 ·-- an own row
  rename_i id k i
  simp only [RepT, RepC] at hi; subst hi
  split at h
  ·rename_i r xs hob
   split at h
   ·rename_i hb
    have hr := CT.eq_of_beq hb
    subst hr
    obtain ⟨h0, h⟩ := bif_some h
    obtain ⟨h1, h⟩ := bif_some h
    obtain ⟨rfl, rfl, rfl⟩ := pk_inj h
    have h0 := of_decide_eq_true h0
    have h1 := of_decide_eq_true h1
    obtain ⟨hv, rows, h2, h3⟩ := row_at ho hob
    simp only [RepT, RepC, h2] at hx
    subst hx
    rcases own_slice h3 with ⟨h4, _⟩ | ⟨b, cap, cells, ty, h4, h5, h6⟩
    ·subst h4; simp at h1; omega
    ·subst h4
     refine gives (indexAt_ok hT he h0 h1) ?_
     simp only [RepT, h2]
     refine ⟨by omega, ?_⟩
     rw [Nat.zero_add, Nat.add_zero, hsz]
   ·cases h
  ·cases h
 ·rename_i id lo hi' k i
  simp only [RepT, RepC] at hi; subst hi
  split at h
  ·rename_i r xs hob
   split at h
   ·rename_i hb
    have hr := CT.eq_of_beq hb
    subst hr
    obtain ⟨h0, h⟩ := bif_some h
    obtain ⟨h1, h⟩ := bif_some h
    obtain ⟨rfl, rfl, rfl⟩ := pk_inj h
    have h0 := of_decide_eq_true h0
    have h1 := of_decide_eq_true h1
    obtain ⟨hv, rows, h2, h3⟩ := row_at ho hob
    simp only [RepT, RepC, h2] at hx
    obtain ⟨rfl, h7, h8⟩ := hx
    rw [(OwnC_header h3).1] at h8
    rw [win_length xs lo hi' h8] at h1
    rcases own_slice h3 with ⟨h4, _⟩ | ⟨b, cap, cells, ty, h4, h5, h6⟩
    ·subst h4; simp at h8; omega
    ·have hcap : xs.length ≤ cap := by
      obtain ⟨v', rows', e, h9, h10⟩ := h3
      injection e with _ e2 e3
      subst e2
      rcases h10 with ⟨h10, _⟩ | ⟨b', cap', cells', t', h10, h11, _⟩
      ·subst h10; simp at h8; omega
      ·rw [h4] at h10; injection h10 with _ _ h10; omega
     subst h4
     have hne : ¬ cap = lo := by omega
     have := indexAt_ok (P := P) (w := w) hT he (k := k) (i := i) (b := b) (off := lo * te.ct.size) (n := hi' - lo) (cap := cap - lo) h0 h1
     refine gives (u := .pointer (some ⟨b, lo * te.ct.size + i.toNat * te.size, none⟩)) ?_ ?_
     ·rw [← this]
      simp only [winV, if_neg hne, Option.map_some, add_mul, Nat.zero_add]
     ·simp only [RepT, h2]
      refine ⟨by omega, ?_⟩
      rw [Nat.add_zero, hsz, Nat.add_mul]
   ·cases h
  ·cases h
 ·rename_i r xs k i
  simp only [RepT, RepC] at hi; subst hi
  split at h
  ·rename_i hb
   have hr := CT.eq_of_beq hb
   subst hr
   obtain ⟨h0, h⟩ := bif_some h
   obtain ⟨h1, h⟩ := bif_some h
   obtain ⟨rfl, rfl, rfl⟩ := pk_inj h
   have h0 := of_decide_eq_true h0
   have h1 := of_decide_eq_true h1
   obtain ⟨a, cap, h2, h3, h4⟩ := hx
   simp only [List.getElem?_toArray, List.getElem?_cons_zero, Option.some.injEq] at h2
   subst h2
   obtain ⟨b, off, cells, ty, fr, ha, hSb, hh, hr⟩ := h4 (by intro e; subst e; simp at h1; omega)
   subst ha
   have hi' : i.toNat < xs.length := by omega
   refine gives (indexAt_ok hT he h0 h1) ⟨b, off + i.toNat * te.size, cells, ty, fr, rfl, hSb, hh, ?_⟩
   have := encF_rep (g := []) (hr i.toNat hi')
   rw [hsz] at this
   unfold rd
   rwa [List.getD_eq_getElem?_getD, List.getElem?_eq_getElem hi', Option.getD_some]
  ·cases h
 ·cases h
theorem er_at {objs : List Ob} (ho : ObsOK w S g objs g) {id i off : Nat} {r : CT} {xs : List (El r)} (hob : Ob.at objs id = .row r xs) {u : Value} (hx : RepT w S g (.er id i off) u) :
  ∃ b cap cells ty rows t, g[id]? = some (.row (.sl r.size (.slice (some ⟨b, 0, none⟩) xs.length cap) rows)) ∧ w.heap[b]? = some (.cells cells ty (0, 0)) ∧ i < xs.length ∧ rows[i]? = some t ∧
   OwnC w r cells (i * r.size) (xs.getD i (dflt r)) t ∧ u = .pointer (some ⟨b, i * r.size + off, none⟩) ∧ OwnC w (.sl r) #[.slice (some ⟨b, 0, none⟩) xs.length cap] 0 xs (.sl r.size (.slice (some ⟨b, 0, none⟩) xs.length cap) rows) := by
 obtain ⟨hv, rows, h2, h3⟩ := row_at ho hob
 simp only [RepT, h2] at hx
 rcases own_slice h3 with ⟨_, h4⟩ | ⟨b, cap, cells, ty, h4, h5, h6⟩
 ·subst h4; exact hx.elim
 ·subst h4
  simp only at hx
  obtain ⟨h7, rfl⟩ := hx
  have hi : i < rows.length := by omega
  obtain ⟨b', cap', cells', ty', hv, hh, hi', h8⟩ := OwnC_row h3 (List.getElem?_eq_getElem hi)
  injection hv with hv
  injection hv with hv
  injection hv with hv
  subst hv
  exact ⟨b, cap, cells', ty', rows, rows[i], h2, hh, hi', List.getElem?_eq_getElem hi, h8, rfl, h3⟩
theorem fldC_ok (hT : TabOK P T) {objs : List Ob} (ho : ObsOK w S g objs g) {t f off : Nat} {ti : TI} (ht : T.ty t = some ti) (hf : ti.offs[f]? = some off) (ha : ti.agg = true) {x : TV} {ux : Value} {v : TV} {n : List Ob} {m : List (Nat × Md)} (hx : RepT w S g x ux) (h : fldC objs off x pk = some (v, n, m)) :
  Gives w S g ((Instr.fieldAt t ux f).run P w) v n m := by
 obtain ⟨fs, hu, hfs⟩ := ty_struct hT ht ha
 obtain ⟨fd, h1, h2, i, hi, hi0, _⟩ := hfs f off hf
 subst h2
 have go : ∀ b o, (Instr.fieldAt t (.pointer (some ⟨b, o, none⟩)) f).run P w = .ok (.pointer (some ⟨b, o + fd.offset, none⟩)) w := by
  intro b o
  simp [Instr.fieldAt, run_underlying hu, h1, Instr.sureAddr, fieldPlace, sizeOf, typeInfo, hi, hi0, add_mul]
 unfold fldC at h
 split at h
 ·rename_i hal
  split at h
  ·obtain ⟨rfl, rfl, rfl⟩ := pk_inj h
   obtain ⟨b, o, cells, ty, fr, rfl, hS, hh, hr⟩ := hx
   exact gives (go b o) ⟨b, o + fd.offset, cells, ty, fr, rfl, hS, hh, RepAt_drop _ hr⟩
  ·rename_i id o
   obtain ⟨rfl, rfl, rfl⟩ := pk_inj h
   simp only [aliveT] at hal
   cases hob : Ob.at objs id <;> rw [hob] at hal <;> simp only [Bool.false_eq_true] at hal
   obtain ⟨b, cells, ty, h2, h3, h4, h5⟩ := box_at ho hob
   simp only [RepT, RepC, h2] at hx
   subst hx
   exact gives (go b o) (by simp only [RepT, RepC, h2])
  ·rename_i id i' o
   obtain ⟨rfl, rfl, rfl⟩ := pk_inj h
   simp only [aliveT] at hal
   cases hob : Ob.at objs id <;> rw [hob] at hal <;> simp only [Bool.false_eq_true] at hal
   obtain ⟨b, cap, cells, ty, rows, t', h2, h3, h4, h5, h6, rfl, h7⟩ := er_at ho hob hx
   refine gives (go b _) ?_
   simp only [RepT, h2]
   exact ⟨h4, by rw [Nat.add_assoc]⟩
  ·cases h
 ·cases h
theorem nilCheck_ok {objs : List Ob} (ho : ObsOK w S g objs g) {x : TV} {ux : Value} (hx : RepT w S g x ux) (h : aliveT objs x = true) : ∃ ad, ux = .pointer (some ad) := by
 cases x with
 | c v =>
  cases v <;> simp only [aliveT, Bool.false_eq_true] at h
  rename_i id off
  cases hob : Ob.at objs id <;> rw [hob] at h <;> simp only [Bool.false_eq_true] at h
  obtain ⟨b, cells, ty, h2, h3, h4, h5⟩ := box_at ho hob
  simp only [RepT, RepC, h2] at hx
  exact ⟨_, hx⟩
 | fp l => obtain ⟨b, o, cells, ty, fr, h, _⟩ := hx; exact ⟨_, h⟩
 | er id i off =>
  simp only [aliveT] at h
  cases hob : Ob.at objs id <;> rw [hob] at h <;> simp only [Bool.false_eq_true] at h
  obtain ⟨b, cap, cells, ty, rows, t', h2, h3, h4, h5, h6, h7, h8⟩ := er_at ho hob hx
  exact ⟨_, h7⟩
 | _ => simp [aliveT] at h
theorem RepAt_get : ∀ {l : List CV} {cs : Array Value} {o : Nat}, RepAt w S g l cs o → ∃ us : List Value, RepL w S g l us ∧ ∀ i, i < l.length → cs[o + i]? = us[i]?
 | [], _, _, _ => ⟨[], trivial, fun i h => by simp at h⟩
 | v :: l, cs, o, ⟨⟨u, h1, h2⟩, h3⟩ => by
  obtain ⟨us, h4, h5⟩ := RepAt_get h3
  refine ⟨u :: us, ⟨h2, h4⟩, fun i hi => ?_⟩
  cases i with
  | zero => simpa using h1
  | succ i =>
   have := h5 i (by simpa using hi)
   simpa [Nat.add_assoc, Nat.add_comm 1] using this
theorem load_at (hT : TabOK P T) {t : Nat} {ti : TI} (ht : T.ty t = some ti) {b o : Nat} {cells : Array Value} {ty : TypeId} {fr : Nat × Nat} (hh : w.heap[b]? = some (.cells cells ty fr)) {l : List CV} (hr : RepAt w S g l cells o) {v : TV} {n : List Ob} {m : List (Nat × Md)}
  (h : giveC ti l pk = some (v, n, m)) :
  Gives w S g ((Instr.loadAt t (.pointer (some ⟨b, o, none⟩))).run P w) v n m := by
 unfold giveC at h
 have hag := run_isAgg hT ht w
 have hsz := run_sizeOf hT ht w
 have hcell : ∀ j u, cells[o + j]? = some u → w.cell? ((⟨b, o, none⟩ : Addr).add j) = some u := by
  intro j u hu
  rw [add_mul]
  simp [World.cell?, hh, hu]
 cases ha : ti.agg with
 | true =>
  rw [ha] at h hag
  simp only [if_true] at h
  split at h
  ·rename_i hl
   obtain ⟨rfl, rfl, rfl⟩ := pk_inj h
   obtain ⟨us, h1, h2⟩ := RepAt_get (RepAt_take ti.size hr)
   have hlen := RepL_length h1
   have hload : (loadCells ⟨b, o, none⟩ us.length).run P w = .ok us.toArray w :=
    run_loadCells_list (P := P) w ⟨b, o, none⟩ us (fun j v hv => hcell j v (by
     rw [h2 j (by rw [hlen]; exact (List.getElem?_eq_some_iff.1 hv).1)]; exact hv))
   have hus : us.length = ti.size := by omega
   rw [hus] at hload
   refine gives (u := .agg us.toArray) ?_ ⟨us, rfl, h1⟩
   simp [Instr.loadAt, Instr.sureAddr, loadVar, hag, hsz, hload]
  ·cases h
 | false =>
  rw [ha] at h hag
  simp only [Bool.false_eq_true, if_false] at h
  cases l with
  | nil => cases h
  | cons v0 l =>
   obtain ⟨rfl, rfl, rfl⟩ := pk_inj h
   obtain ⟨⟨u, h1, h2⟩, _⟩ := hr
   have := hcell 0 u h1
   rw [add_mul, Nat.add_zero] at this
   refine gives (u := u) ?_ h2
   simp [Instr.loadAt, Instr.sureAddr, loadVar, hag, this]
theorem RepAt_own {l : List CV} {cs : Array Value} {o : Nat} (h : RepAt w S [] l cs o) : RepAt w S g l cs o := RepAt_mono (fun b hb => ⟨hb, rfl⟩) (fun i x hx => by simp at hx) h
theorem loadC_ok (hT : TabOK P T) {objs : List Ob} (ho : ObsOK w S g objs g) {t : Nat} {ti : TI} (ht : T.ty t = some ti) {x : TV} {ux : Value} {v : TV} {n : List Ob} {m : List (Nat × Md)} (hx : RepT w S g x ux) (h : loadC objs ti x pk = some (v, n, m)) :
  Gives w S g ((Instr.loadAt t ux).run P w) v n m := by
 unfold loadC at h
 split at h
 ·obtain ⟨b, o, cells, ty, fr, rfl, hS, hh, hr⟩ := hx
  exact load_at hT ht hh (RepAt_own hr) h
 ·rename_i id off
  cases hob : Ob.at objs id <;> rw [hob] at h <;> simp only [reduceCtorEq] at h
  obtain ⟨b, cells, ty, h2, h3, h4, h5⟩ := box_at ho hob
  simp only [RepT, RepC, h2] at hx
  subst hx
  have := RepAt_drop off h5
  rw [Nat.zero_add] at this
  exact load_at hT ht h3 this h
 ·rename_i id i off
  cases hob : Ob.at objs id <;> rw [hob] at h <;> simp only [reduceCtorEq] at h
  obtain ⟨b, cap, cells, ty, rows, t', h2, h3, h4, h5, h6, rfl, h7⟩ := er_at ho hob hx
  exact load_at hT ht h3 (RepAt_drop off (encO_rep h2 h5 (fun k _ => by rw [Nat.zero_add]) h6)) h
 ·cases h
end
end Go.Proofs.YtgcioclfplafkaaGreatV
end
section
namespace Go.Proofs.YtgcioclfplafkaaGreatV
open Go Go.RowKit
section
variable {P : Program} {T : Tab} {w : World} {S : Nat → Prop} {g : List Gh}
def BoundOK (w : World) (S : Nat → Prop) (g : List Gh) : Option TV → Option Value → Prop
 | none, none => True
 | some x, some u => RepT w S g x u
 | _, _ => False
theorem sliceBound_ok {k : IntKind} {i : Int} {y : Nat} {c : BoundsCode} (h0 : 0 ≤ i) (h1 : i ≤ (y : Int)) : (Instr.sliceBound (.int k i) y c).run P w = .ok i.toNat w := by
 have : 0 ≤ i ∧ i ≤ (y : Int) := ⟨h0, h1⟩
 simp [Instr.sliceBound, asIntOf, this]
theorem sliG_ok {lo hi : Option TV} {ulo uhi : Option Value} {len cap : Nat} {f : Nat → Nat → CV} {v : TV} {n : List Ob} {m : List (Nat × Md)} (isS : Bool) (hlc : len ≤ cap)
  (hlo : BoundOK w S g lo ulo) (hhi : BoundOK w S g hi uhi) (h : sliG (loOf lo) hi len f pk = some (v, n, m)) :
  ∃ a b, a ≤ b ∧ b ≤ len ∧ (Instr.sliceBounds isS len cap ulo uhi none).run P w = .ok (a, b, cap) w ∧ v = .c (f a b) ∧ n = [] ∧ m = [] := by
 unfold sliG at h
 have low : ∀ (i : Int), loOf lo = some i → (ulo = none ∧ i = 0) ∨ ∃ k, ulo = some (.int k i) := by
  intro i hl
  cases lo with
  | none =>
   cases ulo with
   | none => simp only [loOf, Option.some.injEq] at hl; exact .inl ⟨rfl, hl.symm⟩
   | some => exact hlo.elim
  | some x =>
   cases ulo with
   | none => exact hlo.elim
   | some u =>
    cases x with
    | c cv =>
     cases cv <;> simp only [loOf, reduceCtorEq, Option.some.injEq] at hl
     subst hl
     have : u = _ := hlo
     subst this
     exact .inr ⟨_, rfl⟩
    | _ => simp [loOf] at hl
 split at h
 ·rename_i a hl
  obtain ⟨h0, h⟩ := bif_some h
  obtain ⟨h1, h⟩ := bif_some h
  obtain ⟨rfl, rfl, rfl⟩ := pk_inj h
  have h0 := of_decide_eq_true h0
  have h1 := of_decide_eq_true h1
  cases uhi with
  | some => exact hhi.elim
  | none =>
   refine ⟨a.toNat, len, by omega, Nat.le_refl _, ?_, rfl, rfl, rfl⟩
   rcases low a hl with ⟨rfl, rfl⟩ | ⟨k, rfl⟩
   ·simp [Instr.sliceBounds]
   ·simp [Instr.sliceBounds, sliceBound_ok h0 h1]
 ·rename_i a k b hl
  obtain ⟨h0, h⟩ := bif_some h
  obtain ⟨h1, h⟩ := bif_some h
  obtain ⟨h2, h⟩ := bif_some h
  obtain ⟨rfl, rfl, rfl⟩ := pk_inj h
  have h0 := of_decide_eq_true h0
  have h1 := of_decide_eq_true h1
  have h2 := of_decide_eq_true h2
  cases uhi with
  | none => exact hhi.elim
  | some u =>
   have hu : u = .int k b := hhi
   subst hu
   refine ⟨a.toNat, b.toNat, by omega, by omega, ?_, rfl, rfl, rfl⟩
   have hb := sliceBound_ok (P := P) (w := w) (k := k) (i := b) (y := cap) (c := if isS then .sliceAcap else .sliceAlen) (by omega) (by omega)
   rcases low a hl with ⟨rfl, rfl⟩ | ⟨k', rfl⟩
   ·simp [Instr.sliceBounds, hb]
   ·simp [Instr.sliceBounds, hb, sliceBound_ok (P := P) (w := w) (k := k') (i := a) (y := b.toNat) h0 (by omega)]
 ·cases h
theorem slice_run (hT : TabOK P T) {t : Nat} {te : TI} (he : elemTy T t = some te) {a : Option Addr} {len cap lo hi : Nat} {ulo uhi : Option Value} (h : (Instr.sliceBounds true len cap ulo uhi none).run P w = .ok (lo, hi, cap) w) :
  (Instr.sliceAt t (.slice a len cap) ulo uhi none).run P w = .ok (winV te.size (.slice a len cap) lo hi) w := by
 obtain ⟨e, hu, hte, _⟩ := ty_elem hT he
 have hs := run_sizeOf hT hte w
 simp [Instr.sliceAt, Instr.slice, run_underlying hu, h, hs, winV]
theorem sliC_ok (hT : TabOK P T) {objs : List Ob} (ho : ObsOK w S g objs g) {t : Nat} {te : TI} (he : elemTy T t = some te) {x : TV} {ux : Value} {lo hi : Option TV} {ulo uhi : Option Value} {v : TV} {n : List Ob} {m : List (Nat × Md)}
  (hx : RepT w S g x ux) (hlo : BoundOK w S g lo ulo) (hhi : BoundOK w S g hi uhi) (h : sliC objs te x lo hi pk = some (v, n, m)) : Gives w S g ((Instr.sliceAt t ux ulo uhi none).run P w) v n m := by
 obtain ⟨e, hu, hte, _⟩ := ty_elem hT he
 have hsz := te_size hT hte
 unfold sliC at h
 split at h
 ·rename_i id
  split at h
  ·rename_i r xs hob
   split at h
   ·rename_i hb
    have hr := CT.eq_of_beq hb
    subst hr
    obtain ⟨hv, rows, h2, h3⟩ := row_at ho hob
    simp only [RepT, RepC, h2] at hx
    subst hx
    have hlen := (OwnC_header h3).1
    cases ux with
    | slice a len cap =>
     simp only [lenV] at hlen
     subst hlen
     have hlc : xs.length ≤ cap := by
      obtain ⟨v', rows', e, h9, h10⟩ := h3
      injection e with _ e2 e3
      subst e2
      rcases h10 with ⟨h10, h11, _⟩ | ⟨b', cap', cells', t', h10, h11, _⟩
      ·subst h10; simp
      ·injection h10 with _ _ h10; omega
     obtain ⟨a', b', h4, h5, h6, rfl, rfl, rfl⟩ := sliG_ok (P := P) true hlc hlo hhi h
     refine gives (slice_run hT he h6) ?_
     simp only [RepT, RepC, h2]
     exact ⟨by rw [hsz], h4, by simpa [lenV] using h5⟩
    | _ => rcases own_slice h3 with ⟨_, h4⟩ | ⟨_, _, _, _, h4, _⟩ <;> cases h4
   ·cases h
  ·cases h
 ·rename_i id i j
  split at h
  ·rename_i r ys hf
   split at h
   ·rename_i hb
    have hr := CT.eq_of_beq hb
    subst hr
    have hz := content_rep (S' := fun _ => True) ho (fun _ _ => trivial) (fun _ _ => trivial) (show RepC w S g (.pref id i j) ux from hx) hf
    obtain ⟨a, cap, hv, hlc, _⟩ := hz
    simp only [List.getElem?_toArray, List.getElem?_cons_zero, Option.some.injEq] at hv
    subst hv
    obtain ⟨a', b', h4, h5, h6, rfl, rfl, rfl⟩ := sliG_ok (P := P) true hlc hlo hhi h
    refine gives (slice_run hT he h6) ?_
    simp only [freezeC] at hf
    cases hob : Ob.at objs id <;> rw [hob] at hf <;> simp only [reduceCtorEq] at hf
    rename_i r xs
    obtain ⟨hv, rows, h2, h3⟩ := row_at ho hob
    simp only [RepT, RepC, h2] at hx ⊢
    obtain ⟨t', sz, rr, h7, h8⟩ := hx
    cases e2 : cellAt r j (xs.getD i (dflt r)) with
    | none => rw [e2] at hf; simp at hf
    | some y =>
     rw [e2] at hf
     cases y <;> simp only [reduceCtorEq, Option.some.injEq] at hf
     obtain ⟨_, _, _, _, _, _, _, h9⟩ := OwnC_row h3 h7
     injection hf with hf1 hf2
     subst hf1
     obtain ⟨h10, _⟩ := OwnC_at h9 h8 e2
     subst h10
     exact ⟨t', _, _, rr, h7, h8, by rw [hsz], h4, by simpa [lenV] using h5⟩
   ·cases h
  ·cases h
 ·rename_i r xs
  split at h
  ·rename_i hb
   have hr := CT.eq_of_beq hb
   subst hr
   have hz : FzC w S (.sl te.ct) #[ux] 0 xs := hx
   have hz0 := hz
   obtain ⟨a, cap, hv, hlc, _⟩ := hz
   simp only [List.getElem?_toArray, List.getElem?_cons_zero, Option.some.injEq] at hv
   subst hv
   obtain ⟨a', b', h4, h5, h6, rfl, rfl, rfl⟩ := sliG_ok (P := P) true hlc hlo hhi h
   refine gives (slice_run hT he h6) ?_
   have := FzC_win hz0 h4 h5
   rw [hsz] at this
   exact this
  ·cases h
 ·simp only [RepT, RepC] at hx
  subst hx
  obtain ⟨a', b', h4, h5, h6, rfl, rfl, rfl⟩ := sliG_ok (P := P) true (Nat.le_refl 0) hlo hhi h
  have ha : a' = 0 := by omega
  have hb : b' = 0 := by omega
  subst ha; subst hb
  exact gives (slice_run hT he h6) rfl
 ·cases h
theorem index_str_ok {t : Nat} {s : ByteArray} {k : IntKind} {i : Int} (hu : P.underlying t = some .string) (h0 : 0 ≤ i) (h1 : i < (s.size : Int)) :
  (Instr.index t (.string s) (.int k i)).run P w = .ok (.int .u8 (bt s i)) w := by
 have hi : i.toNat < s.size := by omega
 have : s[i.toNat]? = some s[i.toNat] := getElem?_pos s i.toNat hi
 simp [Instr.index, asIntOf, run_underlying hu, h0, this, bt]
theorem RepP_get : ∀ {ps : List (Bool × List CV)} {us : List Value} {i : Nat} {p : Bool × List CV}, RepP w S g ps us → ps[i]? = some p → ∃ u, us[i]? = some u ∧ (p.1 = true → ∃ vs : List Value, u = .agg vs.toArray ∧ RepL w S g p.2 vs) ∧ (p.1 = false → RepL w S g p.2 [u])
 | [], [], i, p, _, h => by simp at h
 | (true, l) :: ps, u :: us, 0, p, h, hp => by
  simp only [List.getElem?_cons_zero, Option.some.injEq] at hp; subst hp
  exact ⟨u, rfl, fun _ => h.1, fun h => by cases h⟩
 | (false, l) :: ps, u :: us, 0, p, h, hp => by
  simp only [List.getElem?_cons_zero, Option.some.injEq] at hp; subst hp
  exact ⟨u, rfl, (fun h => by cases h), fun _ => h.1⟩
 | (true, l) :: ps, u :: us, i + 1, p, h, hp => by
  have := RepP_get h.2 (by simpa using hp : ps[i]? = some p)
  simpa using this
 | (false, l) :: ps, u :: us, i + 1, p, h, hp => by
  have := RepP_get h.2 (by simpa using hp : ps[i]? = some p)
  simpa using this
end
end Go.Proofs.YtgcioclfplafkaaGreatV
end
section
namespace Go.Proofs.YtgcioclfplafkaaGreatV
open Go Go.RowKit
theorem allB_append (g h : List Gh) : allB (g ++ h) = allB g ++ allB h := by simp [allB]
theorem allB_set : ∀ {g : List Gh} {n : Nat} {y : Gh} (x : Gh), g[n]? = some y → ∃ l m, allB g = l ++ y.blocks ++ m ∧ allB (g.set n x) = l ++ x.blocks ++ m
 | [], n, y, x, h => by simp at h
 | a :: g, 0, y, x, h => by
  simp only [List.getElem?_cons_zero, Option.some.injEq] at h
  subst h
  exact ⟨[], allB g, by simp [allB], by simp [allB]⟩
 | a :: g, n + 1, y, x, h => by
  obtain ⟨l, m, h1, h2⟩ := allB_set (g := g) x (by simpa using h)
  refine ⟨a.blocks ++ l, m, ?_, ?_⟩
  ·have : allB (a :: g) = a.blocks ++ allB g := by simp [allB]
   rw [this, h1]; simp
  ·have : allB ((a :: g).set (n + 1) x) = a.blocks ++ allB (g.set n x) := by simp [allB]
   rw [this, h2]; simp
theorem ObsOK_iff {w : World} {S : Nat → Prop} {g : List Gh} : ∀ {l : List Ob} {m : List Gh}, ObsOK w S g l m ↔ l.length = m.length ∧ ∀ (i : Nat) (o : Ob) (x : Gh), l[i]? = some o → m[i]? = some x → ObOK w S g o x
 | [], [] => by simp [ObsOK]
 | [], _ :: _ => by simp [ObsOK]
 | _ :: _, [] => by simp [ObsOK]
 | o :: l, x :: m => by
  simp only [ObsOK, ObsOK_iff (l := l) (m := m), List.length_cons, Nat.add_right_cancel_iff]
  constructor
  ·rintro ⟨h1, h2, h3⟩
   refine ⟨h2, fun i o' x' ho hx => ?_⟩
   cases i with
   | zero => simp only [List.getElem?_cons_zero, Option.some.injEq] at ho hx; subst ho; subst hx; exact h1
   | succ i => exact h3 i o' x' (by simpa using ho) (by simpa using hx)
  ·rintro ⟨h2, h3⟩
   exact ⟨h3 0 o x rfl rfl, h2, fun i o' x' ho hx => h3 (i + 1) o' x' (by simpa using ho) (by simpa using hx)⟩
theorem ObsOK_but {w w' : World} {S S' : Nat → Prop} {g g' : List Gh} {l : List Ob} {m : List Gh} (hS : ∀ b, S b → S' b ∧ w'.heap[b]? = w.heap[b]?) (hg : GExt g g') (h : ObsOK w S g l m) {l' : List Ob} {m' : List Gh}
  (hl : l'.length = m'.length) (hk : ∀ (i : Nat) (o : Ob) (x : Gh), l'[i]? = some o → m'[i]? = some x → (l[i]? = some o ∧ m[i]? = some x ∧ ∀ b ∈ x.blocks, w'.heap[b]? = w.heap[b]?) ∨ ObOK w' S' g' o x) : ObsOK w' S' g' l' m' := by
 rw [ObsOK_iff] at h ⊢
 refine ⟨hl, fun i o x ho hx => ?_⟩
 rcases hk i o x ho hx with ⟨h1, h2, h3⟩ | h1
 ·exact ObOK_mono hS hg h3 (h.2 i o x h1 h2)
 ·exact h1
theorem GKeep.ext {W g g' : List Gh} (h : GKeep W g) (hg : GExt g g') : GKeep W g' := by
 refine ⟨fun i t hi => ?_, fun i x hx hi => ?_⟩
 ·rcases h.1 i t hi with h | h
  ·rcases hg i _ h with h | h | h
   ·cases h
   ·exact .inl h
   ·exact .inr h.2
  ·rcases hg i _ h with h | h | h
   ·cases h
   ·exact .inr h
   ·exact .inr h.2
 ·rcases hg i _ (h.2 i x hx hi) with h | h | ⟨⟨t, h⟩, _⟩
  ·subst h; exact hx.elim
  ·exact h
  ·subst h; exact hx.elim
theorem Keep.refl (W : List Nat) (w : World) : Keep W w w := ⟨rfl, rfl, rfl, Nat.le_refl _, fun _ _ _ => rfl⟩
theorem Keep.trans {W : List Nat} {a b c : World} (h : Keep W a b) (k : Keep W b c) : Keep W a c :=
 ⟨k.os.trans h.os, k.tape.trans h.tape, k.output.trans h.output, Nat.le_trans h.size k.size, fun i hi hw => (k.block i (Nat.lt_of_lt_of_le hi h.size) hw).trans (h.block i hi hw)⟩
section
variable {P : Program} {W : List Gh} {w0 w w' : World} {g g' : List Gh} {st : St} {a : Act}
theorem put_tm {w : World} {S : Nat → Prop} {g : List Gh} {tmps : List TV} {a : Act} (h : RepTs w S g tmps a.tmps.toList) (objs : List Ob) (d : Option Nat) {v : TV} {u : Value} (hv : RepT w S g v u) :
  RepTs w S g (({ tmps := tmps, objs := objs } : St).put d v).tmps (a.put d u).tmps.toList := by
 cases d with
 | none => exact h
 | some d =>
  simp only [St.put, Act.put, Array.toList_setIfInBounds]
  exact RepTs_set d h hv
theorem put_objs (tmps : List TV) (objs : List Ob) (d : Option Nat) (v : TV) : (({ tmps := tmps, objs := objs } : St).put d v).objs = objs := by cases d <;> rfl
theorem put_defers (a : Act) (d : Option Nat) (u : Value) : (a.put d u).defers = a.defers := by cases d <;> rfl
theorem rel_change (hR : RelG W w0 g st a w) {objs' : List Ob} (hg : GExt g g') (hS : ∀ b, Stable w g b → Stable w' g' b ∧ w'.heap[b]? = w.heap[b]?) (hob : ObsOK w' (Stable w' g') g' objs' g') (hnd : (allB g').Nodup)
  (hown : ∀ b ∈ allB g', b < w'.heap.size ∧ (w0.heap.size ≤ b ∨ b ∈ allB W)) (hkeep : Keep (allB W) w0 w') (d : Option Nat) {v : TV} {u : Value} (hv : RepT w' (Stable w' g') g' v u) :
  RelG W w0 g' (({ tmps := st.tmps, objs := objs' } : St).put d v) (a.put d u) w' :=
 ⟨put_tm (RepTs_mono hS hg hR.tm) objs' d hv, by rw [put_objs]; exact hob, hnd, hown, hkeep, hR.kept.ext hg, (put_defers a d u).trans hR.df⟩
theorem rel_pure (hR : RelG W w0 g st a w) (d : Option Nat) {v : TV} {u : Value} (hv : RepT w (Stable w g) g v u) : RelG W w0 g (({ tmps := st.tmps, objs := st.objs } : St).put d v) (a.put d u) w :=
 rel_change hR (GExt.refl g) (fun _ h => ⟨h, rfl⟩) hR.ob hR.nd hR.own hR.keep d hv
theorem keep_own (hR : RelG W w0 g st a w) (h1 : w'.os = w.os) (h2 : w'.tape = w.tape) (h3 : w'.output = w.output) (h4 : w.heap.size ≤ w'.heap.size) (h5 : ∀ b, b < w.heap.size → b ∉ allB g → w'.heap[b]? = w.heap[b]?) : Keep (allB W) w0 w' := by
 refine ⟨h1.trans hR.keep.os, h2.trans hR.keep.tape, h3.trans hR.keep.output, Nat.le_trans hR.keep.size h4, fun b hb hw => ?_⟩
 have hm : b ∉ allB g := fun hm => by
  rcases (hR.own b hm).2 with h | h
  ·omega
  ·exact hw h
 exact (h5 b (Nat.lt_of_lt_of_le hb hR.keep.size) hm).trans (hR.keep.block b hb hw)
theorem heap_new (w : World) (o : Obj) : (w.alloc o).heap[w.heap.size]? = some o := by show (w.heap.push o)[w.heap.size]? = _; simp
theorem heap_old (w : World) (o : Obj) {b : Nat} (h : b < w.heap.size) : (w.alloc o).heap[b]? = w.heap[b]? := Below.heap_alloc w o b h
theorem GExt_set {g : List Gh} {n : Nat} {x : Gh} (h : g[n]? = some .unborn) : GExt g (g.set n x) := by
 intro i y hi
 by_cases e : n = i
 ·subst e
  rw [h] at hi
  injection hi with hi
  exact .inl hi.symm
 ·right; left
  rw [List.getElem?_set_ne e]
  exact hi
theorem rel_new (hR : RelG W w0 g st a w) {nid : Nat} (hn : g[nid]? = some .unborn) {w1 : World} (hw1 : w1.heap = w.heap) (ho : w1.os = w.os) (ht : w1.tape = w.tape) (hou : w1.output = w.output) (blk : Obj) {o : Ob} {x : Gh} (hx : x.blocks = [w.heap.size])
  (hok : ObOK (w1.alloc blk) (Stable (w1.alloc blk) (g.set nid x)) (g.set nid x) o x) (d : Option Nat) {v : TV} {u : Value}
  (hv : RepT (w1.alloc blk) (Stable (w1.alloc blk) (g.set nid x)) (g.set nid x) v u) :
  RelG W w0 (g.set nid x) (({ tmps := st.tmps, objs := st.objs.set nid o } : St).put d v) (a.put d u) (w1.alloc blk) := by
 obtain ⟨l, m, h1, h2⟩ := allB_set x hn
 simp only [Gh.blocks, List.append_nil] at h1
 rw [hx] at h2
 have hsz : (w1.alloc blk).heap.size = w.heap.size + 1 := by simp [World.alloc, hw1]
 have hmem : ∀ b, b ∈ allB (g.set nid x) ↔ b ∈ allB g ∨ b = w.heap.size := by
  intro b; rw [h1, h2]; simp only [List.mem_append, List.mem_singleton]; constructor <;> (intro h; rcases h with (h | h) | h <;> simp_all)
 have hold : ∀ b, b < w.heap.size → (w1.alloc blk).heap[b]? = w.heap[b]? := fun b hb => by rw [heap_old w1 blk (by rw [hw1]; exact hb), hw1]
 have hnew : w.heap.size ∉ allB g := fun h => by have := (hR.own _ h).1; omega
 have hS : ∀ b, Stable w g b → Stable (w1.alloc blk) (g.set nid x) b ∧ (w1.alloc blk).heap[b]? = w.heap[b]? := fun b hb => by
  refine ⟨⟨by rw [hsz]; have := hb.1; omega, fun h => ?_⟩, hold b hb.1⟩
  rcases (hmem b).1 h with h | h
  ·exact hb.2 h
  ·have := hb.1; omega
 refine rel_change hR (GExt_set hn) hS ?_ ?_ (fun b hb => ?_) ?_ d hv
 ·refine ObsOK_but hS (GExt_set hn) hR.ob (by simp [ObsOK_length hR.ob]) (fun i o' x' h3 h4 => ?_)
  by_cases e : nid = i
  ·subst e
   right
   have hl := (List.getElem?_eq_some_iff.1 hn).1
   rw [List.getElem?_set_self (by rw [ObsOK_length hR.ob]; exact hl)] at h3
   rw [List.getElem?_set_self hl] at h4
   injection h3 with h3; injection h4 with h4
   subst h3; subst h4
   exact hok
  ·left
   rw [List.getElem?_set_ne e] at h3 h4
   exact ⟨h3, h4, fun b hb => hold b (hR.own b (allB_mem h4 hb)).1⟩
 ·rw [h2]
  have := hR.nd
  rw [h1] at this hnew
  simp only [List.mem_append, not_or] at hnew
  rw [List.append_assoc, List.nodup_append] at *
  refine ⟨this.1, ?_, ?_⟩
  ·simp only [List.singleton_append, List.nodup_cons]
   exact ⟨hnew.2, this.2.1⟩
  ·intro p hp q hq
   simp only [List.singleton_append, List.mem_cons] at hq
   rcases hq with rfl | hq
   ·exact fun e => hnew.1 (e ▸ hp)
   ·exact this.2.2 p hp q hq
 ·rcases (hmem b).1 hb with h | h
  ·have := hR.own b h; exact ⟨by rw [hsz]; omega, this.2⟩
  ·subst h; exact ⟨by rw [hsz]; omega, .inl hR.keep.size⟩
 ·exact keep_own hR (by simp [World.alloc, ho]) (by simp [World.alloc, ht]) (by simp [World.alloc, hou]) (by rw [hsz]; omega) (fun b hb _ => hold b hb)
end
end Go.Proofs.YtgcioclfplafkaaGreatV
end
section
namespace Go.Proofs.YtgcioclfplafkaaGreatV
open Go Go.RowKit
section
variable {P : Program} {T : Tab} {W : List Gh} {w0 w : World} {S : Nat → Prop} {g : List Gh} {st : St} {a : Act}
theorem cvIs_rep {v : CV} {u : Value} (h : cvIs v u = true) : RepC w S g v u := by
 cases v <;> cases u <;> simp [cvIs] at h
 case int.int => obtain ⟨rfl, rfl⟩ := h; rfl
 case bool.bool => subst h; rfl
 case str.string s s' =>
  have e : s' = s := by
   cases s with | mk d => cases s' with | mk d' =>
   obtain ⟨h1, h2⟩ := h
   congr 1
   exact h2.trans h1.symm
  subst e; rfl
 case nilS.slice r a n c =>
  cases a with
  | some => simp [cvIs] at h
  | none =>
   cases n with
   | succ => simp [cvIs] at h
   | zero => cases c with
    | succ => simp [cvIs] at h
    | zero => rfl
theorem cvsAre_rep : ∀ {l : List CV} {us : List Value}, cvsAre l us = true → RepL w S g l us
 | [], [], _ => trivial
 | [], _ :: _, h => by simp [cvsAre] at h
 | _ :: _, [], h => by simp [cvsAre] at h
 | _ :: _, _ :: _, h => by
  simp only [cvsAre, Bool.and_eq_true] at h
  exact ⟨cvIs_rep h.1, cvsAre_rep h.2⟩
theorem RepL_at : ∀ {l : List CV} {us : List Value} {cs : Array Value} {o : Nat}, RepL w S g l us → (∀ i, i < us.length → cs[o + i]? = us[i]?) → RepAt w S g l cs o
 | [], _, _, _, _, _ => trivial
 | _ :: _, [], _, _, h, _ => h.elim
 | _ :: _, u :: us, cs, o, h, hc => ⟨⟨u, by simpa using hc 0 (by simp), h.1⟩, RepL_at h.2 (fun i hi => by have := hc (i + 1) (by simpa using hi); simpa [Nat.add_assoc, Nat.add_comm 1] using this)⟩
theorem RepL_arr {l : List CV} {us : List Value} (h : RepL w S g l us) : RepAt w S g l us.toArray 0 := RepL_at h (fun i _ => by simp)
theorem alive_one {objs : List Ob} (ho : ObsOK w S g objs g) {v : CV} {u : Value} (h : RepC w S g v u) (ha : aliveC objs v = true) : u.oneCell' = true ∧ u.cells = #[u] := by
 cases v <;> simp only [aliveC, Bool.false_eq_true] at ha
 case int => simp only [RepC] at h; subst h; exact ⟨rfl, rfl⟩
 case bool => simp only [RepC] at h; subst h; exact ⟨rfl, rfl⟩
 case str => simp only [RepC] at h; subst h; exact ⟨rfl, rfl⟩
 case nilS => simp only [RepC] at h; subst h; exact ⟨rfl, rfl⟩
 case fz r xs =>
  obtain ⟨a, cap, hv, _⟩ := (h : FzC w S (.sl r) #[u] 0 xs)
  simp only [List.getElem?_toArray, List.getElem?_cons_zero, Option.some.injEq] at hv
  subst hv; exact ⟨rfl, rfl⟩
 case ref id =>
  cases hob : Ob.at objs id <;> rw [hob] at ha <;> simp only [Bool.false_eq_true] at ha
  obtain ⟨v, rows, h1, h2⟩ := row_at ho hob
  simp only [RepC, h1] at h
  subst h
  rcases own_slice h2 with ⟨_, h3⟩ | ⟨b, cap, cells, ty, h3, _⟩ <;> (subst h3; exact ⟨rfl, rfl⟩)
 case box id off =>
  cases hob : Ob.at objs id <;> rw [hob] at ha <;> simp only [Bool.false_eq_true] at ha
  obtain ⟨b, cells, t, h1, _⟩ := box_at ho hob
  simp only [RepC, h1] at h
  subst h; exact ⟨rfl, rfl⟩
theorem cellsOf_ok {objs : List Ob} (ho : ObsOK w S g objs g) {x : TV} {u : Value} (hx : RepT w S g x u) {vs : List CV} (h : cellsOf objs x = some vs) : ∃ us : List Value, u.cells = us.toArray ∧ RepL w S g vs us := by
 cases x with
 | c v =>
  simp only [cellsOf] at h
  split at h
  ·rename_i ha
   injection h with h
   subst h
   exact ⟨[u], (alive_one ho hx ha).2, hx, trivial⟩
  ·cases h
 | agg l =>
  simp only [cellsOf, Option.some.injEq] at h
  subst h
  obtain ⟨us, rfl, h⟩ := hx
  exact ⟨us, rfl, h⟩
 | _ => simp [cellsOf] at h
theorem ty_zero (hT : TabOK P T) {t : Nat} {ti : TI} (h : T.ty t = some ti) (hptr : ti.ptr = false) : ∃ z i, P.info? t = some i ∧ i.zero = some z ∧ i.size = ti.size ∧ i.bytes = ti.bytes ∧ (∀ w, (zeroValue t).run P w = .ok z w) ∧ cvsAre (zeroC ti.ct) z.cells.toList = true := by
 have hp : ∀ e, P.underlying t ≠ some (.pointer e) := fun e he => by
  obtain ⟨i, d, h1, h2, h3, h4, h5, h6⟩ := ty_info hT h
  rw [he] at h2
  injection h2 with h2
  subst h2
  simp [descOk, hptr] at h6
 obtain ⟨i0, d0, hi0, _, hs0, hb0, _⟩ := ty_info hT h
 have := hT.ty t ti h
 unfold tiOk at this
 cases h1 : P.info? t <;> cases h2 : P.underlying t <;> rw [h1, h2] at this <;> simp only [Bool.false_eq_true] at this
 rename_i i d
 simp only [Bool.and_eq_true] at this
 have h3 := this.2
 have h4 : (match i.zero with | some z => cvsAre (zeroC ti.ct) z.cells.toList && (match z, ti.agg with | .agg _, true => true | .agg _, false => false | .tuple _, _ => false | _, b => !b) | none => false) = true := by
  cases d <;> first | exact h3 | exact absurd h2 (hp _)
 cases hz : i.zero with
 | none => rw [hz] at h4; simp at h4
 | some z =>
  rw [hz] at h4
  simp only [Bool.and_eq_true] at h4
  rw [h1] at hi0
  injection hi0 with hi0
  subst hi0
  exact ⟨z, i, rfl, hz, hs0, hb0, fun w => by simp [zeroValue, typeInfo, h1, hz], h4.1⟩
theorem zeroC_length : ∀ c : CT, (zeroC c).length = c.size
 | .int _ => rfl
 | .bool => rfl
 | .str => rfl
 | .sl _ => rfl
 | .pair a b => by simp [zeroC, CT.size, zeroC_length a, zeroC_length b]
theorem rel_box (hR : RelG W w0 g st a w) {nid : Nat} (hn : g[nid]? = some .unborn) (t : TypeId) {l : List CV} {us : List Value} (hl : RepL w (Stable w g) g l us) (d : Option Nat) :
  RelG W w0 (g.set nid (.box w.heap.size)) (({ tmps := st.tmps, objs := st.objs.set nid (.box l) } : St).put d (.c (.box nid 0))) (a.put d (.pointer (some ⟨w.heap.size, 0, none⟩))) (w.alloc (.cells us.toArray t)) := by
 have hnl := (List.getElem?_eq_some_iff.1 hn).1
 have hg := GExt_set (x := .box w.heap.size) hn
 obtain ⟨l1, m1, h1, h2⟩ := allB_set (.box w.heap.size) hn
 simp only [Gh.blocks, List.append_nil] at h1 h2
 have hS : ∀ b, Stable w g b → Stable (w.alloc (.cells us.toArray t)) (g.set nid (.box w.heap.size)) b ∧ (w.alloc (.cells us.toArray t)).heap[b]? = w.heap[b]? := fun b hb => by
  refine ⟨⟨by show b < (w.heap.push _).size; simp; have := hb.1; omega, fun h => ?_⟩, heap_old w _ hb.1⟩
  rw [h2] at h
  have hb2 := hb.2
  rw [h1] at hb2
  simp only [List.mem_append, List.mem_singleton, not_or] at h hb2
  rcases h with (h | h) | h
  ·exact hb2.1 h
  ·have := hb.1; omega
  ·exact hb2.2 h
 refine rel_new hR hn rfl rfl rfl rfl (.cells us.toArray t) rfl ?_ d ?_
 ·refine ⟨us.toArray, t, heap_new w _, by simp [RepL_length hl], RepAt_mono hS hg (RepL_arr hl)⟩
 ·simp only [RepT, RepC, List.getElem?_set_self hnl]
end
end Go.Proofs.YtgcioclfplafkaaGreatV
end
section
namespace Go.Proofs.YtgcioclfplafkaaGreatV
open Go Go.RowKit
theorem OwnC_congr {w : World} : ∀ {c : CT} {cs cs' : Array Value} {o o' : Nat} {x : El c} {t : GT}, (∀ k, k < c.size → cs'[o' + k]? = cs[o + k]?) → OwnC w c cs o x t → OwnC w c cs' o' x t
 | .int _, _, _, _, _, _, _, h, k => ⟨by have := h 0 (by simp [CT.size]); simp only [Nat.add_zero] at this; rw [this]; exact k.1, k.2⟩
 | .bool, _, _, _, _, _, _, h, k => ⟨by have := h 0 (by simp [CT.size]); simp only [Nat.add_zero] at this; rw [this]; exact k.1, k.2⟩
 | .str, _, _, _, _, _, _, h, k => ⟨by have := h 0 (by simp [CT.size]); simp only [Nat.add_zero] at this; rw [this]; exact k.1, k.2⟩
 | .sl _, _, _, _, _, _, _, h, ⟨v, rows, e, h1, h2⟩ => ⟨v, rows, e, by have := h 0 (by simp [CT.size]); simp only [Nat.add_zero] at this; rw [this]; exact h1, h2⟩
 | .pair a b, _, _, o, o', _, _, h, ⟨ga, gb, e, h1, h2⟩ => ⟨ga, gb, e, OwnC_congr (fun k hk => h k (by simp [CT.size]; omega)) h1, OwnC_congr (fun k hk => by
   have := h (a.size + k) (by simp [CT.size]; omega)
   rwa [← Nat.add_assoc, ← Nat.add_assoc] at this) h2⟩
theorem nodup_apart : ∀ {g : List Gh} {i j : Nat} {x y : Gh}, (allB g).Nodup → i ≠ j → g[i]? = some x → g[j]? = some y → ∀ b ∈ x.blocks, b ∉ y.blocks
 | [], i, j, x, y, _, _, h, _ => by simp at h
 | a :: g, i, j, x, y, hn, hij, hi, hj => by
  have e : allB (a :: g) = a.blocks ++ allB g := by simp [allB]
  rw [e, List.nodup_append] at hn
  intro b hb hb'
  cases i with
  | zero =>
   cases j with
   | zero => exact hij rfl
   | succ j =>
    simp only [List.getElem?_cons_zero, Option.some.injEq] at hi
    subst hi
    exact hn.2.2 b hb b (allB_mem (by simpa using hj) hb') rfl
  | succ i =>
   cases j with
   | zero =>
    simp only [List.getElem?_cons_zero, Option.some.injEq] at hj
    subst hj
    exact hn.2.2 b hb' b (allB_mem (by simpa using hi) hb) rfl
   | succ j => exact nodup_apart (g := g) (i := i) (j := j) hn.2.1 (by omega) (by simpa using hi) (by simpa using hj) b hb hb'
section
variable {P : Program} {T : Tab} {W : List Gh} {w0 w : World} {S : Nat → Prop} {g : List Gh} {st : St} {a : Act}
theorem setAt_length : ∀ (l : List CV) (off : Nat) (vs : List CV), (setAt l off vs).length = l.length
 | [], 0, [] => rfl
 | [], 0, _ :: _ => rfl
 | [], _ + 1, _ => rfl
 | _ :: _, 0, [] => rfl
 | _ :: l, 0, _ :: vs => by simp [setAt, setAt_length l 0 vs]
 | _ :: l, n + 1, vs => by simp [setAt, setAt_length l n vs]
theorem setAt_rep : ∀ {l vs : List CV} {us U : List Value} {off : Nat}, RepL w S g l U → RepL w S g vs us → off + vs.length ≤ l.length → RepL w S g (setAt l off vs) (U.take off ++ us ++ U.drop (off + us.length))
 | [], vs, us, U, off, h, hv, hl => by
  have : vs = [] := by
   cases vs with
   | nil => rfl
   | cons => simp at hl
  subst this
  cases us with
  | cons => exact hv.elim
  | nil => cases U with
   | cons => exact h.elim
   | nil => cases off <;> exact trivial
 | x :: l, [], us, U, 0, h, hv, hl => by
  cases us with
  | cons => exact hv.elim
  | nil => simpa [setAt] using h
 | x :: l, v :: vs, us, U, 0, h, hv, hl => by
  obtain ⟨u, us', rfl, h1, h2⟩ := RepL_cons_inv hv
  obtain ⟨u0, U', rfl, h3, h4⟩ := RepL_cons_inv h
  have := setAt_rep (off := 0) h4 h2 (by simp at hl ⊢; omega)
  simp only [setAt, List.take_zero, List.nil_append, Nat.zero_add, List.length_cons, List.cons_append, List.drop_succ_cons] at this ⊢
  exact ⟨h1, this⟩
 | x :: l, vs, us, U, off + 1, h, hv, hl => by
  obtain ⟨u0, U', rfl, h3, h4⟩ := RepL_cons_inv h
  have := setAt_rep (off := off) h4 hv (by simp at hl ⊢; omega)
  simp only [setAt, List.take_succ_cons, List.cons_append, Nat.add_right_comm, List.drop_succ_cons] at this ⊢
  exact ⟨h3, this⟩
theorem RepAt_list {l : List CV} {cs : Array Value} (h : RepAt w S g l cs 0) (hs : cs.size = l.length) : RepL w S g l cs.toList := by
 obtain ⟨us, h1, h2⟩ := RepAt_get h
 have hl := RepL_length h1
 have : cs.toList = us := by
  apply List.ext_getElem?
  intro i
  by_cases hi : i < l.length
  ·have := h2 i hi
   rw [Nat.zero_add] at this
   rw [← this]; simp
  ·rw [List.getElem?_eq_none (by simp; omega), List.getElem?_eq_none (by omega)]
 rw [this]; exact h1
theorem oneCells {objs : List Ob} (ho : ObsOK w S g objs g) : ∀ {vs : List CV} {us : List Value}, RepL w S g vs us → vs.all (aliveC objs) = true → ∀ u ∈ us, u.oneCell' = true
 | [], [], _, _ => by simp
 | v :: vs, u :: us, h, ha => by
  simp only [List.all_cons, Bool.and_eq_true] at ha
  intro x hx
  rcases List.mem_cons.1 hx with rfl | hx
  ·exact (alive_one ho h.1 ha.1).1
  ·exact oneCells ho h.2 ha.2 x hx
theorem storeAt_run (hT : TabOK P T) {t : Nat} {ti : TI} (ht : T.ty t = some ti) {b o : Nat} {cells : Array Value} {ty : TypeId} (hh : w.heap[b]? = some (.cells cells ty (0, 0))) {u : Value} {us : List Value} (hu : u.cells = us.toArray) (hl : us.length = ti.size) (h1 : ∀ x ∈ us, x.oneCell' = true) (hfit : o + us.length ≤ cells.size) :
  (Instr.storeAt t (.pointer (some ⟨b, o, none⟩)) u).run P w = .ok () (w.setRow b (cells.toList.take o ++ us ++ cells.toList.drop (o + us.length)).toArray) := by
 have hs := run_sizeOf hT ht w
 have := run_storeCells_at P b o ty us 0 cells w hh (by simpa using hfit) h1
 simp only [Nat.add_zero] at this
 simp [Instr.storeAt, Instr.sureAddr, storeVar, hs, hu, hl, this]
theorem stable_setRow {b : Nat} (hb : b ∈ allB g) (cs : Array Value) : ∀ c, Stable w g c → Stable (w.setRow b cs) g c ∧ (w.setRow b cs).heap[c]? = w.heap[c]? := fun c hc => by
 refine ⟨⟨by simpa using hc.1, hc.2⟩, setRow_other w b c cs (fun e => hc.2 (e ▸ hb))⟩
theorem rel_write (hR : RelG W w0 g st a w) {id b : Nat} {x : Gh} (hx : g[id]? = some x) (hb : b ∈ x.blocks) (cs : Array Value) {o : Ob} (hok : ObOK (w.setRow b cs) (Stable (w.setRow b cs) g) g o x) (d : Option Nat) {v : TV} {u : Value} (hv : RepT (w.setRow b cs) (Stable (w.setRow b cs) g) g v u) :
  RelG W w0 g (({ tmps := st.tmps, objs := st.objs.set id o } : St).put d v) (a.put d u) (w.setRow b cs) := by
 have hball := allB_mem hx hb
 refine rel_change hR (GExt.refl g) (stable_setRow hball cs) ?_ hR.nd (fun c hc => ⟨by simpa using (hR.own c hc).1, (hR.own c hc).2⟩) ?_ d hv
 ·refine ObsOK_but (stable_setRow hball cs) (GExt.refl g) hR.ob (by simp [ObsOK_length hR.ob]) (fun i o' x' h3 h4 => ?_)
  by_cases e : id = i
  ·subst e
   right
   have hl := (List.getElem?_eq_some_iff.1 hx).1
   rw [List.getElem?_set_self (by rw [ObsOK_length hR.ob]; exact hl)] at h3
   rw [hx] at h4
   injection h3 with h3; injection h4 with h4
   subst h3; subst h4
   exact hok
  ·left
   rw [List.getElem?_set_ne e] at h3
   exact ⟨h3, h4, fun c hc => setRow_other w b c cs (fun e' => nodup_apart hR.nd e hx h4 b hb (e' ▸ hc))⟩
 ·exact keep_own hR rfl rfl rfl (by simp) (fun c _ hc => setRow_other w b c cs (fun e => hc (e ▸ hball)))
theorem rel_store_box (hR : RelG W w0 g st a w) {id off : Nat} {l vs : List CV} {us : List Value} {b : Nat} {cells : Array Value} {ty : TypeId} (hg : g[id]? = some (.box b)) (hh : w.heap[b]? = some (.cells cells ty (0, 0))) (hs : cells.size = l.length) (hr : RepAt w (Stable w g) g l cells 0)
  (hv : RepL w (Stable w g) g vs us) (hfit : off + vs.length ≤ l.length) (d : Option Nat) :
  RelG W w0 g (({ tmps := st.tmps, objs := st.objs.set id (.box (setAt l off vs)) } : St).put d .dead) (a.put d undef) (w.setRow b (cells.toList.take off ++ us ++ cells.toList.drop (off + us.length)).toArray) := by
 refine rel_write hR hg (by simp [Gh.blocks]) _ ?_ d trivial
 have hb : b ∈ allB g := allB_mem hg (by simp [Gh.blocks])
 have hl := RepL_length hv
 refine ⟨_, ty, setRow_heap w b cells _ ty _ hh, ?_, ?_⟩
 ·rw [setAt_length]; simp; omega
 ·exact RepAt_mono (stable_setRow hb _) (GExt.refl g) (RepL_arr (setAt_rep (RepAt_list hr hs) hv hfit))
def gts : CT → GT → List GT
 | .pair a b, .pair _ ga gb => gts a ga ++ gts b gb
 | .pair _ _, _ => []
 | _, t => [t]
def OwnCell (w : World) : CV → GT → Value → Prop
 | .int k n, t, v => v = .int k n ∧ t = .leaf
 | .bool b, t, v => v = .bool b ∧ t = .leaf
 | .str s, t, v => v = .string s ∧ t = .leaf
 | .fz r xs, t, v => OwnC w (.sl r) #[v] 0 xs t
 | _, _, _ => False
def OwnL (w : World) : List CV → List GT → Array Value → Nat → Prop
 | [], [], _, _ => True
 | v :: l, t :: ts, cs, o => (∃ u, cs[o]? = some u ∧ OwnCell w v t u) ∧ OwnL w l ts cs (o + 1)
 | _, _, _, _ => False
theorem OwnL_append : ∀ {l m : List CV} {ts us : List GT} {cs : Array Value} {o : Nat}, OwnL w l ts cs o → OwnL w m us cs (o + l.length) → OwnL w (l ++ m) (ts ++ us) cs o
 | [], _, [], _, _, _, _, h => h
 | _ :: l, _, _ :: _, _, _, o, h, k => ⟨h.1, OwnL_append h.2 (by rw [List.length_cons] at k; rwa [Nat.add_assoc, Nat.add_comm 1])⟩
theorem OwnL_length : ∀ {l : List CV} {ts : List GT} {cs : Array Value} {o : Nat}, OwnL w l ts cs o → l.length = ts.length
 | [], [], _, _, _ => rfl
 | _ :: _, _ :: _, _, _, h => by simp [OwnL_length h.2]
theorem OwnL_split : ∀ {l m : List CV} {ts us : List GT} {cs : Array Value} {o : Nat}, l.length = ts.length → OwnL w (l ++ m) (ts ++ us) cs o → OwnL w l ts cs o ∧ OwnL w m us cs (o + l.length)
 | [], _, [], _, _, _, _, h => ⟨trivial, h⟩
 | _ :: l, _, _ :: _, _, _, o, hl, h => by
  obtain ⟨h1, h2⟩ := OwnL_split (by simpa using hl) h.2
  exact ⟨⟨h.1, h1⟩, by rw [List.length_cons]; rwa [Nat.add_assoc, Nat.add_comm 1] at h2⟩
theorem OwnL_iff : ∀ {l : List CV} {ts : List GT} {cs : Array Value} {o : Nat}, OwnL w l ts cs o ↔ l.length = ts.length ∧ ∀ (k : Nat) (v : CV) (t : GT), l[k]? = some v → ts[k]? = some t → ∃ u, cs[o + k]? = some u ∧ OwnCell w v t u
 | [], [], _, _ => by simp [OwnL]
 | [], _ :: _, _, _ => by simp [OwnL]
 | _ :: _, [], _, _ => by simp [OwnL]
 | v :: l, t :: ts, cs, o => by
  simp only [OwnL, OwnL_iff (l := l) (ts := ts), List.length_cons, Nat.add_right_cancel_iff]
  constructor
  ·rintro ⟨h1, h2, h3⟩
   refine ⟨h2, fun k v' t' hv ht => ?_⟩
   cases k with
   | zero => simp only [List.getElem?_cons_zero, Option.some.injEq] at hv ht; subst hv; subst ht; exact h1
   | succ k =>
    have := h3 k v' t' (by simpa using hv) (by simpa using ht)
    rwa [Nat.add_assoc, Nat.add_comm 1] at this
  ·rintro ⟨h2, h3⟩
   refine ⟨h3 0 v t rfl rfl, h2, fun k v' t' hv ht => ?_⟩
   have := h3 (k + 1) v' t' (by simpa using hv) (by simpa using ht)
   rwa [Nat.add_assoc, Nat.add_comm 1]
theorem own_cells : ∀ {c : CT} {cs : Array Value} {o : Nat} {x : El c} {t : GT}, OwnC w c cs o x t → OwnL w (encF c x) (gts c t) cs o
 | .int _, _, _, _, _, h => ⟨⟨_, h.1, rfl, h.2⟩, trivial⟩
 | .bool, _, _, _, _, h => ⟨⟨_, h.1, rfl, h.2⟩, trivial⟩
 | .str, _, _, _, _, h => ⟨⟨_, h.1, rfl, h.2⟩, trivial⟩
 | .sl r, _, _, _, _, ⟨v, rows, e, h1, h2⟩ => by
  subst e
  exact ⟨⟨v, h1, v, rows, rfl, by simp, h2⟩, trivial⟩
 | .pair a b, _, _, _, _, ⟨ga, gb, e, h1, h2⟩ => by
  subst e
  exact OwnL_append (own_cells h1) (by rw [encF_length]; exact own_cells h2)
theorem cells_own : ∀ {c : CT} {cs cs' : Array Value} {o o' : Nat} {x y : El c} {t : GT}, OwnC w c cs o x t → OwnL w (encF c y) (gts c t) cs' o' → OwnC w c cs' o' y t
 | .int _, _, _, _, _, _, _, _, _, ⟨⟨u, h1, h2, h3⟩, _⟩ => ⟨by rw [h1, h2], h3⟩
 | .bool, _, _, _, _, _, _, _, _, ⟨⟨u, h1, h2, h3⟩, _⟩ => ⟨by rw [h1, h2], h3⟩
 | .str, _, _, _, _, _, _, _, _, ⟨⟨u, h1, h2, h3⟩, _⟩ => ⟨by rw [h1, h2], h3⟩
 | .sl r, _, _, _, _, _, _, _, _, ⟨⟨u, h1, v, rows, e, h2, h3⟩, _⟩ => by
  subst e
  simp only [List.getElem?_toArray, List.getElem?_cons_zero, Option.some.injEq] at h2
  subst h2
  exact ⟨u, rows, rfl, h1, h3⟩
 | .pair a b, cs, cs', o, o', x, y, _, ⟨ga, gb, e, h1, h2⟩, h => by
  subst e
  have hl1 := OwnL_length (own_cells h1)
  rw [encF_length] at hl1
  obtain ⟨h3, h4⟩ := OwnL_split (by rw [encF_length]; exact hl1) h
  rw [encF_length] at h4
  exact ⟨ga, gb, rfl, cells_own h1 h3, cells_own h2 h4⟩
theorem cast_eq {r s : CT} {xs : List (El r)} {ys : List (El s)} (h : cast? r s xs = some ys) : ∃ e : r = s, e ▸ xs = ys := by
 unfold cast? at h
 split at h
 ·rename_i hb
  injection h with h
  exact ⟨CT.eq_of_beq hb, h⟩
 ·cases h
theorem decF_enc : ∀ {c : CT} {l m : List CV} {x : El c}, decF c l = some (x, m) → l = encF c x ++ m
 | .int k, l, m, x, h => by
  cases l with
  | nil => simp [decF] at h
  | cons v l =>
   cases v <;> simp [decF] at h
   obtain ⟨h1, h2, h3⟩ := h
   subst h1; subst h2; subst h3; rfl
 | .bool, l, m, x, h => by
  cases l with
  | nil => simp [decF] at h
  | cons v l =>
   cases v <;> simp [decF] at h
   obtain ⟨h2, h3⟩ := h
   subst h2; subst h3; rfl
 | .str, l, m, x, h => by
  cases l with
  | nil => simp [decF] at h
  | cons v l =>
   cases v <;> simp [decF] at h
   obtain ⟨h2, h3⟩ := h
   subst h2; subst h3; rfl
 | .sl r, l, m, x, h => by
  cases l with
  | nil => simp [decF] at h
  | cons v l =>
   cases v <;> simp only [decF, reduceCtorEq] at h
   rename_i r' xs
   cases e : cast? r' r xs with
   | none => rw [e] at h; simp at h
   | some ys =>
    rw [e] at h
    simp only [Option.some.injEq, Prod.mk.injEq] at h
    obtain ⟨h1, h2⟩ := h
    subst h1; subst h2
    obtain ⟨e1, e2⟩ := cast_eq e
    subst e1; subst e2; rfl
 | .pair a b, l, m, x, h => by
  simp only [decF] at h
  cases e1 : decF a l with
  | none => rw [e1] at h; simp at h
  | some p =>
   obtain ⟨xa, l1⟩ := p
   rw [e1] at h
   simp only at h
   cases e2 : decF b l1 with
   | none => rw [e2] at h; simp at h
   | some q =>
    obtain ⟨xb, l2⟩ := q
    rw [e2] at h
    simp only [Option.some.injEq, Prod.mk.injEq] at h
    obtain ⟨h1, h2⟩ := h
    subst h1; subst h2
    rw [decF_enc e1, decF_enc e2]
    simp [encF]
theorem encF_kind : ∀ (c : CT) (x y : El c) (k : Nat), ((encF c x)[k]?).map isS = ((encF c y)[k]?).map isS
 | .int _, _, _, k => by cases k <;> rfl
 | .bool, _, _, k => by cases k <;> rfl
 | .str, _, _, k => by cases k <;> rfl
 | .sl _, _, _, k => by cases k <;> rfl
 | .pair a b, x, y, k => by
  simp only [encF]
  by_cases hk : k < a.size
  ·rw [List.getElem?_append_left (by rw [encF_length]; exact hk), List.getElem?_append_left (by rw [encF_length]; exact hk)]
   exact encF_kind a x.1 y.1 k
  ·rw [List.getElem?_append_right (by rw [encF_length]; omega), List.getElem?_append_right (by rw [encF_length]; omega), encF_length, encF_length]
   exact encF_kind b x.2 y.2 _
theorem setAt_get : ∀ (l : List CV) (off : Nat) (vs : List CV) (k : Nat), off + vs.length ≤ l.length → (setAt l off vs)[k]? = if k < off then l[k]? else if k < off + vs.length then vs[k - off]? else l[k]?
 | [], 0, [], k, _ => by simp [setAt]
 | [], 0, _ :: _, k, h => by simp at h
 | [], n + 1, vs, k, h => by simp at h
 | x :: l, 0, [], k, _ => by simp [setAt]
 | x :: l, 0, v :: vs, k, h => by
  cases k with
  | zero => simp [setAt]
  | succ k =>
   have := setAt_get l 0 vs k (by simp at h ⊢; omega)
   simp only [setAt, List.getElem?_cons_succ, this, Nat.zero_add, Nat.not_lt_zero, if_false, Nat.sub_zero, List.length_cons, Nat.add_lt_add_iff_right]
 | x :: l, n + 1, vs, k, h => by
  cases k with
  | zero => simp [setAt]
  | succ k =>
   have := setAt_get l n vs k (by simp at h ⊢; omega)
   simp only [setAt, List.getElem?_cons_succ, this, Nat.add_lt_add_iff_right, Nat.add_sub_add_right, Nat.add_right_comm n 1]
theorem RepL_get : ∀ {l : List CV} {us : List Value} {k : Nat} {v : CV}, RepL w S g l us → l[k]? = some v → ∃ u, us[k]? = some u ∧ RepC w S g v u
 | [], _, _, _, _, h => by simp at h
 | _ :: _, [], _, _, h, _ => h.elim
 | v0 :: l, u :: us, 0, v, h, hv => by
  simp only [List.getElem?_cons_zero, Option.some.injEq] at hv
  subst hv; exact ⟨u, rfl, h.1⟩
 | v0 :: l, u :: us, k + 1, v, h, hv => by
  have := RepL_get h.2 (by simpa using hv : l[k]? = some v)
  simpa using this
theorem updS_own {c : CT} {cs cs' : Array Value} {o : Nat} {x y : El c} {t : GT} {off : Nat} {vs : List CV} {us : List Value} (ho : OwnC w c cs o x t) (hu : updS c x off vs = some y) (hv : RepL w S g vs us)
  (hlen : off + vs.length ≤ c.size) (hnew : ∀ k, k < us.length → cs'[o + off + k]? = us[k]?) (hold : ∀ k, k < c.size → (k < off ∨ off + us.length ≤ k) → cs'[o + k]? = cs[o + k]?) : OwnC w c cs' o y t := by
 unfold updS at hu
 split at hu
 ·rename_i hsc
  split at hu
  ·rename_i y' hd
   injection hu with hu
   subst hu
   have henc := decF_enc hd
   rw [List.append_nil] at henc
   have hl := RepL_length hv
   have h1 := own_cells ho
   refine cells_own ho (OwnL_iff.2 ⟨?_, fun k v tk hk ht => ?_⟩)
   ·rw [encF_length, ← encF_length c x]; exact OwnL_length h1
   ·rw [← henc, setAt_get _ _ _ _ (by rw [encF_length]; exact hlen)] at hk
    have hkc : k < c.size := by
     have := (List.getElem?_eq_some_iff.1 ht).1
     rw [← OwnL_length h1, encF_length] at this
     exact this
    by_cases hin : off ≤ k ∧ k < off + vs.length
    ·rw [if_neg (by omega), if_pos (by omega)] at hk
     obtain ⟨u, h2, h3⟩ := RepL_get hv hk
     have hsv : isS v = true := by
      simp only [List.all_eq_true] at hsc
      exact hsc v (List.mem_of_getElem? hk)
     have hxk : ∃ v0, (encF c x)[k]? = some v0 ∧ isS v0 = true := by
      have := encF_kind c x y' k
      rw [← henc, setAt_get _ _ _ _ (by rw [encF_length]; exact hlen), if_neg (by omega), if_pos (by omega), hk] at this
      cases hx0 : (encF c x)[k]? with
      | none => rw [hx0] at this; simp at this
      | some v0 => rw [hx0] at this; exact ⟨v0, rfl, by simpa [hsv] using this⟩
     obtain ⟨v0, h4, h5⟩ := hxk
     obtain ⟨u0, h6, h7⟩ := (OwnL_iff.1 h1).2 k v0 tk h4 ht
     have hleaf : tk = .leaf := by cases v0 <;> simp [isS] at h5 <;> exact h7.2
     have := hnew (k - off) (by omega)
     rw [show o + off + (k - off) = o + k by omega, h2] at this
     refine ⟨u, this, ?_⟩
     cases v <;> simp [isS] at hsv <;> exact ⟨h3, hleaf⟩
    ·have hk' : (encF c x)[k]? = some v := by
      by_cases h : k < off
      ·rw [if_pos h] at hk; exact hk
      ·rw [if_neg h, if_neg (by omega)] at hk; exact hk
     obtain ⟨u0, h6, h7⟩ := (OwnL_iff.1 h1).2 k v tk hk' ht
     exact ⟨u0, by rw [hold k hkc (by omega)]; exact h6, h7⟩
  ·cases hu
 ·cases hu
end
end Go.Proofs.YtgcioclfplafkaaGreatV
end

/- Arguments that are structs, slices of structs, and slices of slices: what the reading of an argument as data says of its cells, in the print's own words (Kd); no condition. -/
import Derived.Test.YtakagkflgkoiiaaWWords
import Derived.Test.YtakagkflgkoiiaaWMore
import Derived.Test.YtakagkflgkoiiaaWLast
import Derived.Test.YtakagkflgkoiiaaWTab
import Derived.ChangeShapes
import Derived.ChangeArms
import Derived.DataReads
import Derived.Deep.Slices
import Derived.WideShapes
import Derived.ChangeOld
import Derived.Below
namespace Go.Proofs.YtakagkflgkoiiaaX
open Go Go.ChangeShapes Go.WideShapes Go.Proofs.YtakagkflgkoiiaaW.PrintWords

/-- what the reading of a type's cells gives: a Lean value of the kind d, of which g holds -/
def OpK {α : Type} (P : Program) (t : TypeId) (d : Kd α) (g : α → Prop) : Prop :=
  ∀ (H : Type) (enc : TypeId × Value → H) (w : World) (spare : Nat → Bool) (fuel : Nat) (cs : List Value) (x : DataW H × List MemPlace),
    DataW.trod enc P w 0 spare true fuel t cs = some x → ∃ v : α, d.K w v cs ∧ g v

section
variable {P : Program} {t e : TypeId}

theorem op_int {k : IntKind} (ht : P.underlying t = some (.int k)) : OpK P t (Kd.int k) (fun n => (Lit.int k n).wf = true) := by
  intro H enc w spare fuel cs x h
  obtain ⟨n, rfl, _, hw⟩ := DataW.trod_int ht h
  exact ⟨n, rfl, hw⟩

theorem op_bool (ht : P.underlying t = some .bool) : OpK P t Kd.bool (fun _ => True) := by
  intro H enc w spare fuel cs x h
  obtain ⟨n, rfl, _⟩ := DataW.trod_bool ht h
  exact ⟨n, rfl, trivial⟩

theorem op_string (ht : P.underlying t = some .string) : OpK P t Kd.string (fun s => s.size ≤ maxLen) := by
  intro H enc w spare fuel cs x h
  obtain ⟨n, rfl, _, hw⟩ := DataW.trod_string ht h
  exact ⟨n, rfl, hw⟩

theorem choose_list {α : Type} {Q : Nat → α → Prop} : ∀ (n : Nat), (∀ i, i < n → ∃ a, Q i a) → ∃ l : List α, l.length = n ∧ ∀ i a, l[i]? = some a → Q i a
  | 0, _ => ⟨[], rfl, fun i a h => by simp at h⟩
  | n + 1, h => by
    obtain ⟨l, hl, hq⟩ := choose_list n (fun i hi => h i (by omega))
    obtain ⟨a, ha⟩ := h n (by omega)
    refine ⟨l ++ [a], by simp [hl], fun i b hb => ?_⟩
    rcases Nat.lt_or_ge i l.length with hi | hi
    · rw [List.getElem?_append_left hi] at hb
      exact hq i b hb
    · have hlt := (List.getElem?_eq_some_iff.1 hb).1
      rw [List.length_append, List.length_singleton] at hlt
      obtain rfl : i = n := by omega
      have : a = b := by simpa [hl] using hb
      subst this
      exact ha

theorem op_slice {α : Type} {d : Kd α} {g : α → Prop} (ht : P.underlying t = some (.slice e)) (hs : P.cellsOf e = d.sz) (h : OpK P e d g) :
    OpK P t (Kd.slice e d) (fun xs => xs.length ≤ maxLen ∧ ∀ x ∈ xs, g x) := by
  intro H enc w spare fuel cs x hx
  rcases Go.Deep.open_slice ht hx with ⟨rfl, _⟩ | ⟨a, len, cap, m, n, D, Pl, rfl, _, hl, hm, hmm, _, hi⟩
  · refine ⟨[], ⟨none, 0, rfl, Nat.le_refl _, rfl, by simp, fun h => by simp at h⟩, by simp, by simp⟩
  · have hlm : len ≤ m := by rw [hmm]; split <;> omega
    obtain ⟨l, hll, hq⟩ := choose_list (Q := fun i (v : α) => g v ∧ ∃ c, c.length = d.sz ∧ d.K w v c ∧ ∀ j u, c[j]? = some u → w.cell? (a.add (i * d.sz + j)) = some u) len (fun i hil => by
      obtain ⟨cs', hc, ht'⟩ := hi i (by omega)
      rw [hs] at hc
      obtain ⟨v, hK, hg⟩ := h H enc w spare n cs' _ ht'
      obtain ⟨_, hcl, hat⟩ := World.cells?_some hc
      refine ⟨v, hg, cs', hcl, hK, fun j u hu => ?_⟩
      have hj : j < d.sz := by rw [← hcl]; exact (List.getElem?_eq_some_iff.1 hu).1
      rw [← Go.Deep.add_add, hat j hj, hu])
    refine ⟨l, ⟨some a, cap, by rw [hll], by rw [hll]; exact hl, rfl, ?_, fun _ => ⟨a, rfl, fun j p hj => (hq j p hj).2⟩⟩, by rw [hll]; omega, fun v hv => ?_⟩
    · rw [hll]; unfold maxLen at hm; omega
    · obtain ⟨i, hi2⟩ := List.getElem?_of_mem hv
      exact (hq i v hi2).1

/-- the fields of a struct from the cell off on, one behind another -/
def OpT {α : Type} (P : Program) (fs : List Field) (off : Nat) (d : Kd α) (g : α → Prop) : Prop :=
  ∀ (H : Type) (enc : TypeId × Value → H) (w : World) (spare : Nat → Bool) (n : Nat) (cs : List Value) (xs : List (DataW H × List MemPlace)),
    xs.length = fs.length → cs.length = off + d.sz → (∀ (i : Nat) (f : Field), fs[i]? = some f → DataW.trod enc P w 0 spare true n f.type ((cs.drop f.offset).take (P.cellsOf f.type)) = xs[i]?) →
      ∃ v : α, d.K w v (cs.drop off) ∧ g v

theorem opT_one {α : Type} {d : Kd α} {g : α → Prop} {f : Field} {off : Nat} (ho : f.offset = off) (hs : P.cellsOf f.type = d.sz) (h : OpK P f.type d g) : OpT P [f] off d g := by
  intro H enc w spare n cs xs hl hc hf
  match xs, hl with
  | [y], _ =>
    have h0 := hf 0 f rfl
    rw [ho, hs, List.take_of_length_le (by rw [List.length_drop]; omega)] at h0
    exact h H enc w spare n _ y h0

theorem opT_cons {α β : Type} {d : Kd α} {d2 : Kd β} {g : α → Prop} {g2 : β → Prop} {f : Field} {fs : List Field} {off off2 : Nat} (ho : f.offset = off) (hs : P.cellsOf f.type = d.sz) (h2o : off2 = off + d.sz)
    (h : OpK P f.type d g) (h2 : OpT P fs off2 d2 g2) : OpT P (f :: fs) off (Kd.pair d d2) (fun x => g x.1 ∧ g2 x.2) := by
  intro H enc w spare n cs xs hl hc hf
  match xs, hl with
  | y :: ys, hl =>
    have h0 := hf 0 f rfl
    rw [ho, hs] at h0
    obtain ⟨v, hK, hg⟩ := h H enc w spare n _ y h0
    have hc' : cs.length = off + (d.sz + d2.sz) := hc
    obtain ⟨v2, hK2, hg2⟩ := h2 H enc w spare n cs ys (by simpa using hl) (by omega) (fun i f' hf' => by simpa using hf (i + 1) f' (by simpa using hf'))
    refine ⟨(v, v2), ⟨(cs.drop off).take d.sz, cs.drop off2, ?_, hK, hK2⟩, hg, hg2⟩
    rw [h2o, ← List.drop_drop, List.take_append_drop]

theorem op_struct {α β : Type} {d : Kd α} {g : α → Prop} {fs : Array Field} (f : β → α) (f' : α → β) (hff : ∀ a, f (f' a) = a) (ht : P.underlying t = some (.struct fs)) (hs : P.cellsOf t = d.sz) (h : OpT P fs.toList 0 d g) :
    OpK P t (Kd.iso d f) (fun x => g (f x)) := by
  intro H enc w spare fuel cs x hx
  obtain ⟨xs, n, _, _, hl, hlen, hf⟩ := DataW.trod_struct ht hx
  obtain ⟨v, hK, hg⟩ := h H enc w spare n cs xs (by simpa using hlen) (by rw [hl, hs]; omega) (fun i f2 hf2 => hf i f2 (by simpa using hf2))
  refine ⟨f' v, ?_, ?_⟩
  · show d.K w (f (f' v)) cs
    rw [hff]; simpa using hK
  · show g (f (f' v))
    rw [hff]; exact hg

theorem op_imp {α : Type} {d : Kd α} {g g' : α → Prop} (h : OpK P t d g) (hg : ∀ a, g a → g' a) : OpK P t d g' := by
  intro H enc w spare fuel cs x hx
  obtain ⟨v, hK, h0⟩ := h H enc w spare fuel cs x hx
  exact ⟨v, hK, hg v h0⟩
end

/-! #### a pointer that is only read through: a row of one element -/
section
variable {α : Type} {d : Kd α} {w : World}
theorem rp_elem {ad : Addr} {n : Nat} {xs : List α} (z : α) (i : Int) (h0 : 0 ≤ i) (h1 : i < (n : Int)) (h : d.C w (some ad) n xs) : d.C w (some (ad.add (i.toNat * d.sz))) 1 [xs.getD i.toNat z] := by
  obtain ⟨hl, hn, hc⟩ := h
  refine ⟨rfl, by omega, fun _ => ⟨_, rfl, fun j p hj => ?_⟩⟩
  obtain ⟨ad', e, hc'⟩ := hc (by omega)
  cases e
  have hj0 : j = 0 := by have := (List.getElem?_eq_some_iff.1 hj).1; simpa using this
  subst hj0
  have hp : xs[i.toNat]? = some p := by
    have hlt : i.toNat < xs.length := by omega
    have : xs.getD i.toNat z = p := by simpa using hj
    rw [List.getElem?_eq_getElem hlt]
    rw [List.getD_eq_getElem?_getD, List.getElem?_eq_getElem hlt] at this
    simpa using this
  obtain ⟨c, hs, hr, hcell⟩ := hc' i.toNat p hp
  refine ⟨c, hs, hr, fun q u hu => ?_⟩
  have := hcell q u hu
  rw [← Go.Deep.add_add] at this
  simpa using this

theorem rp_box {g : Nat} {cs : Array Value} {t : TypeId} {fr : Nat × Nat} {x : α} (hb : w.heap[g]? = some (.cells cs t fr)) (hK : d.K w x cs.toList) : d.C w (some ⟨g, 0, none⟩) 1 [x] := by
  refine ⟨rfl, by omega, fun _ => ⟨_, rfl, fun j p hj => ?_⟩⟩
  have hj0 : j = 0 := by have := (List.getElem?_eq_some_iff.1 hj).1; simpa using this
  subst hj0
  obtain rfl : x = p := by simpa using hj
  refine ⟨cs.toList, d.K_len hK, hK, fun i u hu => ?_⟩
  have hu2 : cs[i]? = some u := by simpa using hu
  have := d.K_one hK u (List.mem_of_getElem? hu)
  have h3 : w.cell? ⟨g, i, none⟩ = cs[i]? := cell_of_row w g i cs t fr hb
  have h4 : (Addr.add ⟨g, 0, none⟩ (0 * d.sz + i)) = ⟨g, i, none⟩ := by
    by_cases hi : i = 0
    · subst hi; simp [Addr.add]
    · simp [Addr.add, hi]
  rw [h4, h3]
  exact hu2
theorem rp_add (ad : Addr) (n : Nat) : ad.add ((0 : Int).toNat * n) = ad := by
  show ad.add (0 * n) = ad
  rw [Nat.zero_mul]; rfl
theorem rp_add1 (ad : Addr) : ad.add (0 : Int).toNat = ad := rfl
end
end Go.Proofs.YtakagkflgkoiiaaX
namespace Go.Proofs.YtakagkflgkoiiaaX
open Go Go.Proofs.YtakagkflgkoiiaaW.PrintWords
section
variable {P : Program} {ops : Array Oper} {Q : Exit → Act → World → Prop}
/-- A call of a function value (what it has captured comes behind the arguments), as an arm of go_wp2_with. -/
theorem goesV_ {rest : List Oper} {oi : Oper} {a : Act} {w : World} (N : Option Tmp) (hd : oi.dst = N) (hg : oi.guard = none) {f : FuncId} {fn : Func} {t : Nat} {as : Array Operand} {ts : Array TypeId} (hf : P.funcs[f]? = some fn) (hname : (fn.name == "runtime.NumGoroutine") = false) (hb : fn.body.isSome = true) (caps args : Array Value)
    (hop : oi.op = .call { callee := .value (.tmp t), args := as, argTypes := ts }) (hfn : a.eval (.tmp t) = .func (.func f) #[] caps) (hargs : as.map a.eval ++ caps = args)
    (h : Calls P f args w fun e w' => ∃ v, e = .returned v ∧ wpList P ops Q rest (a.put N v) w') : wpList P ops Q (oi :: rest) a w := by
  refine wpList_plain hg fun K hK => ?_
  have he := Go.Proofs.YtakagkflgkoiiaaW.PrintLast.enters_ hf hname hb args w
  have hfn' : a.tmps.getD t undef = .func (.func f) #[] caps := hfn
  have hrun : (execOp a.eval oi).run P w = .ok (.enter f args) w := by
    unfold execOp
    simp [hop, resolve, Deferred.ofValue, invoke, hfn, hargs, he]
  unfold Oper.wp
  rw [hrun, Oper.upon_enter]
  refine h.mono fun e w'' hh => ?_
  obtain ⟨v, rfl, hk⟩ := hh
  subst hd
  exact hK _ _ hk
/-- The same in a region that draws. -/
theorem goesVR_ {oi : Oper} {N : Option Tmp} {a : Act} {w : World} {K : Act → World → Prop} {f : FuncId} {fn : Func} {t : Nat} {as : Array Operand} {ts : Array TypeId} {caps : Array Value} (hf : P.funcs[f]? = some fn) (hname : (fn.name == "runtime.NumGoroutine") = false) (hb : fn.body.isSome = true) (args : Array Value)
    (hw : Region.wanted oi (yielded ops a.tmps) = true) (hN : oi.dst = N) (hop : oi.op = .call { callee := .value (.tmp t), args := as, argTypes := ts }) (hfn : a.eval (.tmp t) = .func (.func f) #[] caps) (hargs : as.map a.eval ++ caps = args)
    (h : Calls P f args w fun e w' => ∃ v, e = .returned v ∧ K (a.put N v) w') : if Region.wanted oi (yielded ops a.tmps) = true then Oper.wp P oi a w K Q else K (a.put N undef) w := by
  refine Go.Proofs.YtakagkflgkoiiaaW.PrintLast.call_ f args hw hN ?_ h
  have he := Go.Proofs.YtakagkflgkoiiaaW.PrintLast.enters_ hf hname hb args w
  unfold execOp
  simp [hop, resolve, Deferred.ofValue, invoke, hfn, hargs, he]
/-- What a cell held stands there still. -/
theorem bc_ {w w1 : World} {a : Addr} {v : Value} (h : Go.RowKit.Below w.heap.size w w1) (e : w.cell? a = some v) : w1.cell? a = some v := (h.cell (World.block_lt_of_cell? w _ e)).trans e
/-- An element of an array of four numbers. -/
theorem agg_at4 {k : IntKind} (a b c d : Int) (j : Int) (h0 : 0 ≤ j) (h1 : j < 4) : (#[.int k a, .int k b, .int k c, .int k d] : Array Value)[j.toNat]? = some (.int k (rd [a, b, c, d] j)) := by
  obtain ⟨n, rfl⟩ := Int.eq_ofNat_of_zero_le h0
  match n, h1 with
  | 0, _ => rfl
  | 1, _ => rfl
  | 2, _ => rfl
  | 3, _ => rfl
theorem idx4_ {t : TypeId} {k : IntKind} (h0 : ∀ (a b c d : Int) (w : World), (Instr.index t (.agg #[.int k a, .int k b, .int k c, .int k d]) (.int .i64 0)).run P w = .ok (.int k a) w)
    (h1 : ∀ (a b c d : Int) (w : World), (Instr.index t (.agg #[.int k a, .int k b, .int k c, .int k d]) (.int .i64 1)).run P w = .ok (.int k b) w)
    (h2 : ∀ (a b c d : Int) (w : World), (Instr.index t (.agg #[.int k a, .int k b, .int k c, .int k d]) (.int .i64 2)).run P w = .ok (.int k c) w)
    (h3 : ∀ (a b c d : Int) (w : World), (Instr.index t (.agg #[.int k a, .int k b, .int k c, .int k d]) (.int .i64 3)).run P w = .ok (.int k d) w)
    (a b c d j : Int) (p : 0 ≤ j) (q : j < 4) : ∀ w : World, (Instr.index t (.agg #[.int k a, .int k b, .int k c, .int k d]) (.int .i64 j)).run P w = .ok (.int k (rd [a, b, c, d] j)) w := by
  obtain ⟨n, rfl⟩ := Int.eq_ofNat_of_zero_le p
  match n, q with
  | 0, _ => exact h0 a b c d
  | 1, _ => exact h1 a b c d
  | 2, _ => exact h2 a b c d
  | 3, _ => exact h3 a b c d
end
end Go.Proofs.YtakagkflgkoiiaaX
namespace Go.Proofs.YtakagkflgkoiiaaX
open Go Go.Proofs.YtakagkflgkoiiaaW.PrintWords Go.Proofs.YtakagkflgkoiiaaW.PrintLast
section
variable {P : Program} {ops : Array Oper} {Q : Exit → Act → World → Prop} {md : Region.Mode} {S : World → Prop} {ds : List Nat}
/-- pure_, with what is the same at each operation. -/
theorem p1_ {T : Bool × List (List Nat × List Nat)} (hT : rtab md ops = T) (i : Nat) (n : Tmp) (l' : Array Bool) {oi : Oper} {v : Value} {fuel : Nat} {l : Array Bool} {a a' : Act} {w : World}
    (h : wpAnyLast P md ops Q S ds fuel l' a' w) (hi : ops[i]? = some oi := by rfl) (hN : oi.dst = some n := by rfl) (hc : anyT T l.toList l'.toList i = true := by kernel_rfl)
    (hQ : ∀ c a w, Q (.panic c) (a.put oi.dst v) w → Q (.panic c) a w := by exact fun _ _ _ h => h) (hw : Region.wanted oi (yielded ops a.tmps) = true := by rfl)
    (hy : ∀ w, (execOp a.eval oi).run P w = .ok (.value v) w := by (intro w'; go_simp; with_reducible rfl))
    (ha : a.put (some n) v = a' := by (simp only [Act.put, List.setIfInBounds_toArray, List.set_cons_zero, List.set_cons_succ, Go.Proofs.YtakagkflgkoiiaaW.PrintLast.i64_w, Go.Proofs.YtakagkflgkoiiaaW.PrintLast.i32_w]; rfl)) : wpAnyLast P md ops Q S ds (fuel + 1) l a w :=
  pure_ l' hi hN (any_of hT hc) hQ (Or.inl ⟨hw, hy⟩) ha h
theorem p0_ {T : Bool × List (List Nat × List Nat)} (hT : rtab md ops = T) (i : Nat) (n : Tmp) (l' : Array Bool) {oi : Oper} {fuel : Nat} {l : Array Bool} {a a' : Act} {w : World}
    (h : wpAnyLast P md ops Q S ds fuel l' a' w) (hi : ops[i]? = some oi := by rfl) (hN : oi.dst = some n := by rfl) (hc : anyT T l.toList l'.toList i = true := by kernel_rfl)
    (hQ : ∀ c a w, Q (.panic c) (a.put oi.dst undef) w → Q (.panic c) a w := by exact fun _ _ _ h => h) (hw : Region.wanted oi (yielded ops a.tmps) = false := by rfl)
    (ha : a.put (some n) undef = a' := by (simp only [Act.put, List.setIfInBounds_toArray, List.set_cons_zero, List.set_cons_succ, Go.Proofs.YtakagkflgkoiiaaW.PrintLast.i64_w, Go.Proofs.YtakagkflgkoiiaaW.PrintLast.i32_w]; rfl)) : wpAnyLast P md ops Q S ds (fuel + 1) l a w :=
  pure_ l' hi hN (any_of hT hc) hQ (Or.inr ⟨hw, rfl⟩) ha h
end
end Go.Proofs.YtakagkflgkoiiaaX
namespace Go.Proofs.YtakagkflgkoiiaaX
open Go Go.RowKit Go.Proofs.YtakagkflgkoiiaaW.PrintWords Go.Proofs.YtakagkflgkoiiaaW.PrintLast
/-! Steps of the walk that are always shown in the same way. -/
theorem dt_ {p : Prop} [i : Decidable p] (h : decide p = true := by first | (with_reducible assumption) | assumption) : p := of_decide_eq_true h
theorem bl_ {p q : Prop} (h : p) (i : p → q := by (intro h; (with_reducible repeat (first | refine blk_drewN ?_ _ | refine blk_drew ?_ | refine blk_alloc ?_ _)); exact h)) : q := i h
theorem cb_ {p r q : Prop} (h : p) (g : r) (i : p → r → q := by (intro h g; repeat (first | exact (Kd.C_below h g) | (with_reducible refine Kd.C_alloc ?_ _) | (with_reducible refine Kd.C_drewN ?_ _) | (with_reducible refine Kd.C_drew ?_)))) : q := i h g
theorem bs0_ {p q : Prop} (h : p) (i : p → q := by (intro h; repeat (first | (with_reducible first | exact h | apply below_alloc | apply pw_below_drewN | apply below_drew1) | exact h))) : q := i h
theorem bs1_ {p r0 q : Prop} (h : p) (g0 : r0) (i : p → r0 → q := by (intro h g0; repeat (first | (with_reducible first | exact h | apply below_alloc | apply pw_below_drewN | apply below_drew1 | refine below_set ?_ g0) | exact h))) : q := i h g0
theorem bs2_ {p r0 r1 q : Prop} (h : p) (g0 : r0) (g1 : r1) (i : p → r0 → r1 → q := by (intro h g0 g1; repeat (first | (with_reducible first | exact h | apply below_alloc | apply pw_below_drewN | apply below_drew1 | refine below_set ?_ g0 | refine below_set ?_ g1) | exact h))) : q := i h g0 g1
theorem bs3_ {p r0 r1 r2 q : Prop} (h : p) (g0 : r0) (g1 : r1) (g2 : r2) (i : p → r0 → r1 → r2 → q := by (intro h g0 g1 g2; repeat (first | (with_reducible first | exact h | apply below_alloc | apply pw_below_drewN | apply below_drew1 | refine below_set ?_ g0 | refine below_set ?_ g1 | refine below_set ?_ g2) | exact h))) : q := i h g0 g1 g2
theorem bs4_ {p r0 r1 r2 r3 q : Prop} (h : p) (g0 : r0) (g1 : r1) (g2 : r2) (g3 : r3) (i : p → r0 → r1 → r2 → r3 → q := by (intro h g0 g1 g2 g3; repeat (first | (with_reducible first | exact h | apply below_alloc | apply pw_below_drewN | apply below_drew1 | refine below_set ?_ g0 | refine below_set ?_ g1 | refine below_set ?_ g2 | refine below_set ?_ g3) | exact h))) : q := i h g0 g1 g2 g3
theorem bs5_ {p r0 r1 r2 r3 r4 q : Prop} (h : p) (g0 : r0) (g1 : r1) (g2 : r2) (g3 : r3) (g4 : r4) (i : p → r0 → r1 → r2 → r3 → r4 → q := by (intro h g0 g1 g2 g3 g4; repeat (first | (with_reducible first | exact h | apply below_alloc | apply pw_below_drewN | apply below_drew1 | refine below_set ?_ g0 | refine below_set ?_ g1 | refine below_set ?_ g2 | refine below_set ?_ g3 | refine below_set ?_ g4) | exact h))) : q := i h g0 g1 g2 g3 g4
theorem bs6_ {p r0 r1 r2 r3 r4 r5 q : Prop} (h : p) (g0 : r0) (g1 : r1) (g2 : r2) (g3 : r3) (g4 : r4) (g5 : r5) (i : p → r0 → r1 → r2 → r3 → r4 → r5 → q := by (intro h g0 g1 g2 g3 g4 g5; repeat (first | (with_reducible first | exact h | apply below_alloc | apply pw_below_drewN | apply below_drew1 | refine below_set ?_ g0 | refine below_set ?_ g1 | refine below_set ?_ g2 | refine below_set ?_ g3 | refine below_set ?_ g4 | refine below_set ?_ g5) | exact h))) : q := i h g0 g1 g2 g3 g4 g5
theorem bs7_ {p r0 r1 r2 r3 r4 r5 r6 q : Prop} (h : p) (g0 : r0) (g1 : r1) (g2 : r2) (g3 : r3) (g4 : r4) (g5 : r5) (g6 : r6) (i : p → r0 → r1 → r2 → r3 → r4 → r5 → r6 → q := by (intro h g0 g1 g2 g3 g4 g5 g6; repeat (first | (with_reducible first | exact h | apply below_alloc | apply pw_below_drewN | apply below_drew1 | refine below_set ?_ g0 | refine below_set ?_ g1 | refine below_set ?_ g2 | refine below_set ?_ g3 | refine below_set ?_ g4 | refine below_set ?_ g5 | refine below_set ?_ g6) | exact h))) : q := i h g0 g1 g2 g3 g4 g5 g6
theorem bs8_ {p r0 r1 r2 r3 r4 r5 r6 r7 q : Prop} (h : p) (g0 : r0) (g1 : r1) (g2 : r2) (g3 : r3) (g4 : r4) (g5 : r5) (g6 : r6) (g7 : r7) (i : p → r0 → r1 → r2 → r3 → r4 → r5 → r6 → r7 → q := by (intro h g0 g1 g2 g3 g4 g5 g6 g7; repeat (first | (with_reducible first | exact h | apply below_alloc | apply pw_below_drewN | apply below_drew1 | refine below_set ?_ g0 | refine below_set ?_ g1 | refine below_set ?_ g2 | refine below_set ?_ g3 | refine below_set ?_ g4 | refine below_set ?_ g5 | refine below_set ?_ g6 | refine below_set ?_ g7) | exact h))) : q := i h g0 g1 g2 g3 g4 g5 g6 g7
theorem bs9_ {p r0 r1 r2 r3 r4 r5 r6 r7 r8 q : Prop} (h : p) (g0 : r0) (g1 : r1) (g2 : r2) (g3 : r3) (g4 : r4) (g5 : r5) (g6 : r6) (g7 : r7) (g8 : r8) (i : p → r0 → r1 → r2 → r3 → r4 → r5 → r6 → r7 → r8 → q := by (intro h g0 g1 g2 g3 g4 g5 g6 g7 g8; repeat (first | (with_reducible first | exact h | apply below_alloc | apply pw_below_drewN | apply below_drew1 | refine below_set ?_ g0 | refine below_set ?_ g1 | refine below_set ?_ g2 | refine below_set ?_ g3 | refine below_set ?_ g4 | refine below_set ?_ g5 | refine below_set ?_ g6 | refine below_set ?_ g7 | refine below_set ?_ g8) | exact h))) : q := i h g0 g1 g2 g3 g4 g5 g6 g7 g8
theorem bs10_ {p r0 r1 r2 r3 r4 r5 r6 r7 r8 r9 q : Prop} (h : p) (g0 : r0) (g1 : r1) (g2 : r2) (g3 : r3) (g4 : r4) (g5 : r5) (g6 : r6) (g7 : r7) (g8 : r8) (g9 : r9) (i : p → r0 → r1 → r2 → r3 → r4 → r5 → r6 → r7 → r8 → r9 → q := by (intro h g0 g1 g2 g3 g4 g5 g6 g7 g8 g9; repeat (first | (with_reducible first | exact h | apply below_alloc | apply pw_below_drewN | apply below_drew1 | refine below_set ?_ g0 | refine below_set ?_ g1 | refine below_set ?_ g2 | refine below_set ?_ g3 | refine below_set ?_ g4 | refine below_set ?_ g5 | refine below_set ?_ g6 | refine below_set ?_ g7 | refine below_set ?_ g8 | refine below_set ?_ g9) | exact h))) : q := i h g0 g1 g2 g3 g4 g5 g6 g7 g8 g9
theorem bs11_ {p r0 r1 r2 r3 r4 r5 r6 r7 r8 r9 r10 q : Prop} (h : p) (g0 : r0) (g1 : r1) (g2 : r2) (g3 : r3) (g4 : r4) (g5 : r5) (g6 : r6) (g7 : r7) (g8 : r8) (g9 : r9) (g10 : r10) (i : p → r0 → r1 → r2 → r3 → r4 → r5 → r6 → r7 → r8 → r9 → r10 → q := by (intro h g0 g1 g2 g3 g4 g5 g6 g7 g8 g9 g10; repeat (first | (with_reducible first | exact h | apply below_alloc | apply pw_below_drewN | apply below_drew1 | refine below_set ?_ g0 | refine below_set ?_ g1 | refine below_set ?_ g2 | refine below_set ?_ g3 | refine below_set ?_ g4 | refine below_set ?_ g5 | refine below_set ?_ g6 | refine below_set ?_ g7 | refine below_set ?_ g8 | refine below_set ?_ g9 | refine below_set ?_ g10) | exact h))) : q := i h g0 g1 g2 g3 g4 g5 g6 g7 g8 g9 g10
theorem bs12_ {p r0 r1 r2 r3 r4 r5 r6 r7 r8 r9 r10 r11 q : Prop} (h : p) (g0 : r0) (g1 : r1) (g2 : r2) (g3 : r3) (g4 : r4) (g5 : r5) (g6 : r6) (g7 : r7) (g8 : r8) (g9 : r9) (g10 : r10) (g11 : r11) (i : p → r0 → r1 → r2 → r3 → r4 → r5 → r6 → r7 → r8 → r9 → r10 → r11 → q := by (intro h g0 g1 g2 g3 g4 g5 g6 g7 g8 g9 g10 g11; repeat (first | (with_reducible first | exact h | apply below_alloc | apply pw_below_drewN | apply below_drew1 | refine below_set ?_ g0 | refine below_set ?_ g1 | refine below_set ?_ g2 | refine below_set ?_ g3 | refine below_set ?_ g4 | refine below_set ?_ g5 | refine below_set ?_ g6 | refine below_set ?_ g7 | refine below_set ?_ g8 | refine below_set ?_ g9 | refine below_set ?_ g10 | refine below_set ?_ g11) | exact h))) : q := i h g0 g1 g2 g3 g4 g5 g6 g7 g8 g9 g10 g11
end Go.Proofs.YtakagkflgkoiiaaX

/- Short forms of steps that the printed walks repeat; no condition. -/
import Derived.Test.YtakagkflgkoiiaaXOpen
import Derived.OrdersHeld
namespace Go.Proofs.YtakagkflgkoiiaaQ
open Go Go.RowKit Go.Proofs.YtakagkflgkoiiaaW.PrintWords Go.Proofs.YtakagkflgkoiiaaW.PrintLast Go.Proofs.YtakagkflgkoiiaaW.PrintMore Go.Proofs.YtakagkflgkoiiaaX
/-! what an answer 'some r' says -/
section
variable {α β : Type} {G : Prop} {r : β}
theorem ng_ {c : Prop} [Decidable c] {x : Option β} (h : c → x = some r → G) : (if c then x else none) = some r → G := by
  intro e
  by_cases hc : c
  · rw [if_pos hc] at e; exact h hc e
  · rw [if_neg hc] at e; cases e
theorem ob_ {x : Option α} {f : α → Option β} (h : ∀ a, Aside0 (x = some a) → f a = some r → G) : x.bind f = some r → G := by
  intro e
  obtain ⟨a, h1, h2⟩ := Option.bind_eq_some_iff.mp e
  exact h a ⟨h1⟩ h2
theorem gb_ {a : α} {f : α → Option β} (h : ∀ y, Aside0 (y = a) → f y = some r → G) : (some a).bind f = some r → G := fun e => h a ⟨rfl⟩ e
theorem bso_ {a : α} {f : α → Option β} (h : (some a).bind f = some r) : f a = some r := h
theorem gy_ (e : α) : ∃ y, y = e := ⟨e, rfl⟩
end
/-! which operations have come up, as bits of a number -/
def fB : Nat → Nat → List Bool
  | 0, _ => []
  | n + 1, m => (m % 2 == 1) :: fB n (m / 2)
def fA (n m : Nat) : Array Bool := ⟨fB n m⟩
section
variable {P : Program} {ops : Array Oper} {Q : Exit → Act → World → Prop} {md : Region.Mode} {S : World → Prop} {ds : List Nat} {T : Bool × List (List Nat × List Nat)} {N m fuel : Nat} {oi : Oper} {v : Value} {a a' : Act} {w : World}
theorem a1_ (i : Nat) (n : Tmp) (hT : rtab md ops = T := by exact HT_.out) (hi : ops[i]? = some oi := by rfl) (hN : oi.dst = some n := by rfl) (hc : anyT T (fB N m) (fB N (m + 2 ^ i)) i = true := by kernel_rfl)
    (hQ : ∀ c a w, Q (.panic c) (a.put oi.dst v) w → Q (.panic c) a w := by exact fun _ _ _ h => h) (hw : Region.wanted oi (yielded ops a.tmps) = true := by rfl)
    (hy : ∀ w, (execOp a.eval oi).run P w = .ok (.value v) w := by (intro w'; go_simp; with_reducible rfl))
    (ha : a.put (some n) v = a' := by (simp only [Act.put, List.setIfInBounds_toArray, List.set_cons_zero, List.set_cons_succ, i64_w, i32_w]; rfl))
    (h : wpAnyLast P md ops Q S ds fuel (fA N (m + 2 ^ i)) a' w) : wpAnyLast P md ops Q S ds (fuel + 1) (fA N m) a w :=
  pure_ _ hi hN (any_of hT hc) hQ (Or.inl ⟨hw, hy⟩) ha h
theorem a0_ (i : Nat) (n : Tmp) (hT : rtab md ops = T := by exact HT_.out) (hi : ops[i]? = some oi := by rfl) (hN : oi.dst = some n := by rfl) (hc : anyT T (fB N m) (fB N (m + 2 ^ i)) i = true := by kernel_rfl)
    (hQ : ∀ c a w, Q (.panic c) (a.put oi.dst undef) w → Q (.panic c) a w := by exact fun _ _ _ h => h) (hw : Region.wanted oi (yielded ops a.tmps) = false := by rfl)
    (ha : a.put (some n) undef = a' := by (simp only [Act.put, List.setIfInBounds_toArray, List.set_cons_zero, List.set_cons_succ, i64_w, i32_w]; rfl))
    (h : wpAnyLast P md ops Q S ds fuel (fA N (m + 2 ^ i)) a' w) : wpAnyLast P md ops Q S ds (fuel + 1) (fA N m) a w :=
  pure_ _ hi hN (any_of hT hc) hQ (Or.inr ⟨hw, rfl⟩) ha h
/-- what a cell held, of another world -/
abbrev C_ {w : World} {a : Addr} {v : Value} (_h : w.cell? a = some v) (w' : World) : Prop := w'.cell? a = some v
theorem tk_ {B : List Nat} (i : Nat) (n : Tmp) (hT : rtab md ops = T := by exact HT_.out) (hB : waitsOk T.2 B = true := by exact HW_.out) (hi : ops[i]? = some oi := by rfl) (hN : oi.dst = some n := by rfl) (hc : takeW T B ds (fB N m) (fB N (m + 2 ^ i)) i = true := by kernel_rfl)
    (hQ : ∀ c a w, Q (.panic c) (a.put oi.dst v) w → Q (.panic c) a w := by exact fun _ _ _ h => h) (hw : Region.wanted oi (yielded ops a.tmps) = true := by rfl)
    (hS : S w := by exact hHeld) (hy : ∀ w, S w → (execOp a.eval oi).run P w = .ok (.value v) w := by (intro w' s; (try dsimp only [C_] at s); (repeat (obtain ⟨_, s⟩ := s)); go_simp; with_reducible rfl))
    (ha : a.put (some n) v = a' := by (simp only [Act.put, List.setIfInBounds_toArray, List.set_cons_zero, List.set_cons_succ, i64_w, i32_w]; rfl))
    (h : wpAnyLast P md ops Q S ds fuel (fA N (m + 2 ^ i)) a' w) : wpAnyLast P md ops Q S ds (fuel + 1) (fA N m) a w :=
  take_ _ hi hN (take_ofW hT hB hc) hQ (Or.inl ⟨hw, hy⟩) hS ha h
theorem on_ (i : Nat) (n : Tmp) (h : ∀ K : Act → World → Prop, Aside0 (∀ a' w', S w' → (S w' → wpAnyLast P md ops Q S ds fuel (fA N (m + 2 ^ i)) a' w') → K a' w') → if Region.wanted oi (yielded ops a.tmps) = true then Oper.wp P oi a w K Q else K (a.put (some n) undef) w)
    (hT : rtab md ops = T := by exact HT_.out) (hi : ops[i]? = some oi := by rfl) (hN : oi.dst = some n := by rfl) (hc : (readyT T.2 (fB N m) == [i] && (fB N m).set i true == fB N (m + 2 ^ i)) = true := by kernel_rfl) (hd : i ∉ ds := by decide) :
    wpAnyLast P md ops Q S ds (fuel + 1) (fA N m) a w :=
  one_ (fA N (m + 2 ^ i)) hi hN (one_of hT hc) hd (fun K hK => h K ⟨hK.out⟩)
theorem nm_ (n : Tmp) {a0 : Act} {l : Array Bool} (h : wpAnyLast P md ops Q S ds fuel l a' w) (h1 : a = Act.put a0 (some n) v := by rfl) (ha : Act.put a0 (some n) v = a' := by (simp only [Act.put, List.setIfInBounds_toArray, List.set_cons_zero, List.set_cons_succ, i64_w, i32_w]; rfl)) : wpAnyLast P md ops Q S ds fuel l a w :=
  norm_ (h1.trans ha) h
theorem dn_ {n : Nat} (h : Q .normal a w) (hT : rtab md ops = T := by exact HT_.out) (hc : (readyT T.2 (fB N m) == []) = true := by kernel_rfl) : wpAnyLast P md ops Q S ds n (fA N m) a w := done_ (done_of hT hc) h
theorem fA0 : ∀ n, fB n 0 = List.replicate n false
  | 0 => rfl
  | n + 1 => by rw [fB, Nat.zero_div, fA0 n]; rfl
theorem st_ {id : Nat} {B : List Nat} (n : Nat) (S : World → Prop) (ds : List Nat) (hT : rtab .any ops = T) (hB : waitsOk T.2 B = true) (hS : S w.drew)
    (h : S w.drew → Aside0 (rtab .any ops = T) → Aside0 (waitsOk T.2 B = true) → wpAnyLast P .any ops Q S ds n (fA n 0) a w.drew) (hm : P.follows .mixedOrders = true := by kernel_rfl) (hn : ops.size = n := by rfl) : (Code.region id ops true).wp P Q a w :=
  start_ (fA n 0) hm hn (by unfold fA; rw [fA0]; simp) hS (fun s => h s ⟨hT⟩ ⟨hB⟩)
theorem go_ {n : Tmp} {K : Act → World → Prop} {f : FuncId} {fn : Func} {as : Array Operand} {ts : Array TypeId} (hf : P.funcs[f]? = some fn) (args : Array Value)
    (h : Calls P f args w fun e w' => ∃ v, e = .returned v ∧ K (a.put (some n) v) w') (hname : (fn.name == "runtime.NumGoroutine") = false := by kernel_rfl) (hb : fn.body.isSome = true := by rfl)
    (hw : Region.wanted oi (yielded ops a.tmps) = true := by rfl) (hN : oi.dst = some n := by rfl) (hop : oi.op = .call { callee := .value (.func f), args := as, argTypes := ts } := by rfl) (hargs : as.map a.eval = args := by ((try simp only [List.map_toArray, List.map_cons, List.map_nil]); first | done | rfl | (simp only [List.length_drop, List.length_take]; rfl))) :
    if Region.wanted oi (yielded ops a.tmps) = true then Oper.wp P oi a w K Q else K (a.put (some n) undef) w :=
  goes_ hf hname hb args hw hN hop hargs h
end
section
variable {P : Program} {ops : Array Oper} {rest : List Oper} {o : Oper} {a : Act} {Q : Exit → Act → World → Prop} {W : World}
theorem gt_ (N : Tmp) (h : wpList P ops Q (o :: rest) a W) (_hd : o.dst = some N := by with_reducible rfl) : wpList P ops Q (o :: rest) a W := h
theorem gk_ (f : FuncId) {as : Array Operand} {ts : Array TypeId} (h : wpList P ops Q (o :: rest) a W) (_ho : o.op = .call { callee := .value (.func f), args := as, argTypes := ts } := by with_reducible rfl) : wpList P ops Q (o :: rest) a W := h
theorem bx_ (N : Tmp) (cs : Array Value) (t : TypeId)
    (h : ∀ g, g = W.heap.size → ∀ w1, w1.heap[g]? = some (.cells cs t (0, 0)) → Below W.heap.size W w1 → wpList P ops Q rest (a.put o.dst (.pointer (some ⟨g, 0, none⟩))) w1)
    (hd : o.dst = some N := by with_reducible rfl) (hgd : o.guard = none := by rfl)
    (hrun : (execOp a.eval o).run P W = .ok (.value (.pointer (some ⟨W.heap.size, 0, none⟩))) (W.alloc (.cells cs t (0, 0))) := by first | (go_simp; done) | (go_simp; rfl)) : wpList P ops Q (o :: rest) a W := box_event hgd hd hrun h
theorem gl_ {f : FuncId} {fn : Func} (n : Option Tmp) (hf : P.funcs[f]? = some fn) {as : Array Operand} {ts : Array TypeId} (args : Array Value)
    (h : Calls P f args W fun e w' => ∃ v, e = .returned v ∧ wpList P ops Q rest (a.put n v) w')
    (hop : o.op = .call { callee := .value (.func f), args := as, argTypes := ts } := by with_reducible rfl) (hd : o.dst = n := by rfl) (hg : o.guard = none := by rfl) (hname : (fn.name == "runtime.NumGoroutine") = false := by kernel_rfl) (hb : fn.body.isSome = true := by rfl)
    (hargs : as.map a.eval = args := by ((try simp only [List.map_toArray, List.map_cons, List.map_nil]); first | done | rfl | (simp only [List.length_drop, List.length_take]; rfl))) : wpList P ops Q (o :: rest) a W :=
  goesL_ n hd hg hf hname hb args hop hargs h
end
/-! facts of blocks -/
section
variable {w W : World} {g g' : Nat} {t : TypeId} {fr : Nat × Nat} {a0 a1 a2 a3 a4 a5 a6 a7 : Value} {ob : Obj}
theorem gs_ (hg : g = W.heap.size) (h : Below w.heap.size w W) : Aside0 (w.heap.size ≤ g) := ⟨by rw [hg]; exact below_size h⟩
theorem nl_ (hg : g' = W.heap.size) (h : W.heap[g]? = some ob) : Aside0 (g ≠ g') := ⟨by rw [hg]; exact Nat.ne_of_lt (blk_lt h)⟩
theorem nr_ (hg : g' = W.heap.size) (h : W.heap[g]? = some ob) : Aside0 (g' ≠ g) := ⟨by rw [hg]; exact Nat.ne_of_gt (blk_lt h)⟩
theorem z1_ (h : w.heap[g]? = some (.cells #[a0] t (0, 0))) : w.cell? ⟨g, 0, none⟩ = some a0 ∧ w.frozen? ⟨g, 0, none⟩ = false := ⟨(blk_cell h 0).trans rfl, blk_frozen h 0⟩
theorem z2_ (h : w.heap[g]? = some (.cells #[a0, a1] t (0, 0))) : w.cell? ⟨g, 0, none⟩ = some a0 ∧ w.cell? ⟨g, 1, none⟩ = some a1 ∧ w.frozen? ⟨g, 0, none⟩ = false ∧ w.frozen? ⟨g, 1, none⟩ = false := ⟨(blk_cell h 0).trans rfl, (blk_cell h 1).trans rfl, blk_frozen h 0, blk_frozen h 1⟩
theorem z3_ (h : w.heap[g]? = some (.cells #[a0, a1, a2] t (0, 0))) : w.cell? ⟨g, 0, none⟩ = some a0 ∧ w.cell? ⟨g, 1, none⟩ = some a1 ∧ w.cell? ⟨g, 2, none⟩ = some a2 ∧ w.frozen? ⟨g, 0, none⟩ = false ∧ w.frozen? ⟨g, 1, none⟩ = false ∧ w.frozen? ⟨g, 2, none⟩ = false := ⟨(blk_cell h 0).trans rfl, (blk_cell h 1).trans rfl, (blk_cell h 2).trans rfl, blk_frozen h 0, blk_frozen h 1, blk_frozen h 2⟩
theorem z4_ (h : w.heap[g]? = some (.cells #[a0, a1, a2, a3] t (0, 0))) : w.cell? ⟨g, 0, none⟩ = some a0 ∧ w.cell? ⟨g, 1, none⟩ = some a1 ∧ w.cell? ⟨g, 2, none⟩ = some a2 ∧ w.cell? ⟨g, 3, none⟩ = some a3 ∧ w.frozen? ⟨g, 0, none⟩ = false ∧ w.frozen? ⟨g, 1, none⟩ = false ∧ w.frozen? ⟨g, 2, none⟩ = false ∧ w.frozen? ⟨g, 3, none⟩ = false := ⟨(blk_cell h 0).trans rfl, (blk_cell h 1).trans rfl, (blk_cell h 2).trans rfl, (blk_cell h 3).trans rfl, blk_frozen h 0, blk_frozen h 1, blk_frozen h 2, blk_frozen h 3⟩
end
/-! steps that are always shown in the same way -/
theorem r_ {p q : Prop} (h : p) (i : p → q := by (intro h; (with_reducible repeat (first | apply Kd.R_alloc | apply Kd.R_drewN | apply Kd.R_drew)); exact h)) : q := i h
theorem s_ {p q : Prop} (h : p) (i : p → q := by (intro h; (with_reducible repeat (first | apply Kd.S_alloc | apply Kd.S_drewN | apply Kd.S_drew)); exact h)) : q := i h
theorem n_ {p q : Prop} (h : p) (i : p → q := by (intro h; (with_reducible repeat (first | apply Kd.N_alloc | apply Kd.N_drewN | apply Kd.N_drew)); exact h)) : q := i h
theorem rf_ {p : Prop} (h : p := by first | rfl | (simp; done) | (simp [*]; done) | (simp [i64_w, i32_w]; done)) : p := h
theorem re_ {p : Prop} (h : p := by first | rfl | (simp [errW_none, errW_some] <;> rfl) | (simp [*, errW_none, errW_some] <;> rfl)) : p := h
theorem om_ {p q : Prop} (h : p) (i : p → q := by (intro h; first | omega | exact Nat.le_refl _)) : q := i h
theorem on2_ {p q r : Prop} (h : p) (h2 : q) (i : p → q → r := by (intro h h2; omega)) : r := i h h2
theorem on3_ {p q r s : Prop} (h : p) (h2 : q) (h3 : s) (i : p → q → s → r := by (intro h h2 h3; omega)) : r := i h h2 h3
theorem hs_ {p q r : Prop} (h : p) (e : r) (i : p → r → q := by (intro H hy; first | (rw [hy]; with_reducible exact H) | (have H2_ := (Option.bind_some _ _).symm.trans H; rw [hy]; with_reducible exact H2_) | (have H2_ := (Option.bind_some _ _).symm.trans H; with_reducible exact H2_) | with_reducible exact H | (rw [hy]; exact H) | exact H)) : q := i h e
theorem qn_ {n : Nat} (h : ((0 : Int) < (n : Int)) = True) : (0 < n) = True := eq_true (by have := of_eq_true h; omega)
theorem bcl_ {w : World} {g i : Nat} {v : Value} {cs : Array Value} {t : TypeId} (h : Aside0 (w.heap[g]? = some (.cells cs t (0, 0)))) (e : cs[i]? = some v) : w.cell? ⟨g, i, none⟩ = some v := (blk_cell h.out i).trans e
theorem sp_ {p : Prop} (h : p := by ((repeat' apply And.intro) <;> first | exact trivial | (with_reducible assumption) | exact bc_ (bs0_ HB.out) (by with_reducible assumption) | (apply bcl_ <;> first | (with_reducible assumption) | rfl | assumption) | exact bc_ (bs0_ HB.out) (by assumption))) : p := h
section
variable {w w1 : World} {a0 a1 a2 a3 a4 a5 : Addr} {v0 v1 v2 v3 v4 v5 : Value}
theorem b2_ (h : Go.RowKit.Below w.heap.size w w1) (e0 : w.cell? a0 = some v0) (e1 : w.cell? a1 = some v1) : w1.cell? a0 = some v0 ∧ w1.cell? a1 = some v1 := ⟨bc_ h e0, bc_ h e1⟩
theorem b3_ (h : Go.RowKit.Below w.heap.size w w1) (e0 : w.cell? a0 = some v0) (e1 : w.cell? a1 = some v1) (e2 : w.cell? a2 = some v2) : w1.cell? a0 = some v0 ∧ w1.cell? a1 = some v1 ∧ w1.cell? a2 = some v2 := ⟨bc_ h e0, bc_ h e1, bc_ h e2⟩
theorem b4_ (h : Go.RowKit.Below w.heap.size w w1) (e0 : w.cell? a0 = some v0) (e1 : w.cell? a1 = some v1) (e2 : w.cell? a2 = some v2) (e3 : w.cell? a3 = some v3) : w1.cell? a0 = some v0 ∧ w1.cell? a1 = some v1 ∧ w1.cell? a2 = some v2 ∧ w1.cell? a3 = some v3 := ⟨bc_ h e0, bc_ h e1, bc_ h e2, bc_ h e3⟩
end
end Go.Proofs.YtakagkflgkoiiaaQ

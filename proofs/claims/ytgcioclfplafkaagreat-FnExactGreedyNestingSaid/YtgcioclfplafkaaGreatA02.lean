/- What the evaluator's values say of a world; no condition. -/
import Derived.Test.YtgcioclfplafkaaGreatA01
import Derived.Laws.AppendOwn
import Derived.WalkKit
import Derived.Laws.StructEq
set_option linter.all false
section
namespace Go.Proofs.YtgcioclfplafkaaGreatV
open Go Go.RowKit
def FzC (w : World) (S : Nat → Prop) : (c : CT) → Array Value → Nat → El c → Prop
 | .int k, cs, o, x => cs[o]? = some (.int k x)
 | .bool, cs, o, x => cs[o]? = some (.bool x)
 | .str, cs, o, x => cs[o]? = some (.string x)
 | .pair a b, cs, o, x => FzC w S a cs o x.1 ∧ FzC w S b cs (o + a.size) x.2
 | .sl r, cs, o, xs => ∃ a cap, cs[o]? = some (.slice a xs.length cap) ∧ xs.length ≤ cap ∧
   (xs ≠ [] → ∃ b off cells t fr, a = some ⟨b, off, none⟩ ∧ S b ∧ w.heap[b]? = some (.cells cells t fr) ∧ ∀ i (h : i < xs.length), FzC w S r cells (off + i * r.size) xs[i])
inductive GT where
 | leaf
 | pair (n : Nat) (a b : GT)
 | sl (sz : Nat) (v : Value) (rows : List GT)
def blockOf : Value → List Nat
 | .slice (some a) _ _ => [a.block]
 | _ => []
mutual
def GT.blocks : GT → List Nat
 | .leaf => []
 | .pair _ a b => a.blocks ++ b.blocks
 | .sl _ v rows => blockOf v ++ GT.blocksL rows
def GT.blocksL : List GT → List Nat
 | [] => []
 | t :: l => t.blocks ++ GT.blocksL l
end
def GT.at : GT → Nat → GT
 | .pair n a b, j => if j < n then a.at j else b.at (j - n)
 | t, _ => t
def OwnC (w : World) : (c : CT) → Array Value → Nat → El c → GT → Prop
 | .int k, cs, o, x, g => cs[o]? = some (.int k x) ∧ g = .leaf
 | .bool, cs, o, x, g => cs[o]? = some (.bool x) ∧ g = .leaf
 | .str, cs, o, x, g => cs[o]? = some (.string x) ∧ g = .leaf
 | .pair a b, cs, o, x, g => ∃ ga gb, g = .pair a.size ga gb ∧ OwnC w a cs o x.1 ga ∧ OwnC w b cs (o + a.size) x.2 gb
 | .sl r, cs, o, xs, g => ∃ v rows, g = .sl r.size v rows ∧ cs[o]? = some v ∧
   ((xs = [] ∧ v = .slice none 0 0 ∧ rows = []) ∨
    ∃ b cap cells t, v = .slice (some ⟨b, 0, none⟩) xs.length cap ∧ xs.length ≤ cap ∧ cap ≤ maxLen ∧ w.heap[b]? = some (.cells cells t (0, 0)) ∧ cells.size = cap * r.size ∧ rows.length = xs.length ∧
     ∀ i (h : i < xs.length) (h' : i < rows.length), OwnC w r cells (i * r.size) xs[i] rows[i])
def winV (sz : Nat) (v : Value) (lo hi : Nat) : Value :=
 match v with
 | .slice a _ cap => .slice (if cap = lo then a else a.map (·.add (lo * sz))) (hi - lo) (cap - lo)
 | v => v
def lenV : Value → Nat
 | .slice _ n _ => n
 | _ => 0
inductive Gh where
 | unborn
 | gone
 | box (b : Nat)
 | row (t : GT)
 /-- blocks that somebody else owns, as they are -/
 | hid (hs : List (Nat × Option Obj))
def Gh.blocks : Gh → List Nat
 | .hid hs => hs.map (·.1)
 | .box b => [b]
 | .row t => t.blocks
 | _ => []
def allB (g : List Gh) : List Nat := g.flatMap Gh.blocks
def RepC (w : World) (S : Nat → Prop) (g : List Gh) : CV → Value → Prop
 | .int k n, v => v = .int k n
 | .bool b, v => v = .bool b
 | .str s, v => v = .string s
 | .fz r xs, v => FzC w S (.sl r) #[v] 0 xs
 | .nilS _, v => v = .slice none 0 0
 | .new _ _, _ => False
 | .ref id, v => match g[id]? with | some (.row (.sl _ u _)) => v = u | some .gone => True | _ => False
 | .sub id lo hi, v => match g[id]? with | some (.row (.sl sz u _)) => v = winV sz u lo hi ∧ lo ≤ hi ∧ hi ≤ lenV u | some .gone => True | _ => False
 | .pref id i j, v => match g[id]? with | some (.row (.sl _ _ rows)) => ∃ t sz rr, rows[i]? = some t ∧ t.at j = .sl sz v rr | some .gone => True | _ => False
 | .psub id i j lo hi, v => match g[id]? with | some (.row (.sl _ _ rows)) => ∃ t sz u rr, rows[i]? = some t ∧ t.at j = .sl sz u rr ∧ v = winV sz u lo hi ∧ lo ≤ hi ∧ hi ≤ lenV u | some .gone => True | _ => False
 | .box id off, v => match g[id]? with | some (.box b) => v = .pointer (some ⟨b, off, none⟩) | some .gone => True | _ => False
 | .dead, _ => True
def RepL (w : World) (S : Nat → Prop) (g : List Gh) : List CV → List Value → Prop
 | [], [] => True
 | v :: l, u :: m => RepC w S g v u ∧ RepL w S g l m
 | _, _ => False
def RepP (w : World) (S : Nat → Prop) (g : List Gh) : List (Bool × List CV) → List Value → Prop
 | [], [] => True
 | (true, l) :: ps, u :: m => (∃ us : List Value, u = .agg us.toArray ∧ RepL w S g l us) ∧ RepP w S g ps m
 | (false, l) :: ps, u :: m => RepL w S g l [u] ∧ RepP w S g ps m
 | _, _ => False
def RepAt (w : World) (S : Nat → Prop) (g : List Gh) : List CV → Array Value → Nat → Prop
 | [], _, _ => True
 | v :: l, cs, o => (∃ u, cs[o]? = some u ∧ RepC w S g v u) ∧ RepAt w S g l cs (o + 1)
def RepT (w : World) (S : Nat → Prop) (g : List Gh) : TV → Value → Prop
 | .c v, u => RepC w S g v u
 | .agg l, u => ∃ us : List Value, u = .agg us.toArray ∧ RepL w S g l us
 | .tup ps, u => ∃ us : List Value, u = .tuple us.toArray ∧ RepP w S g ps us
 | .fp l, u => ∃ b off cells t fr, u = .pointer (some ⟨b, off, none⟩) ∧ S b ∧ w.heap[b]? = some (.cells cells t fr) ∧ RepAt w S [] l cells off
 | .er id i off, u => match g[id]? with | some (.row (.sl sz (.slice (some ⟨b, 0, none⟩) n _) _)) => i < n ∧ u = .pointer (some ⟨b, i * sz + off, none⟩) | some .gone => True | _ => False
 | .fn f l, u => ∃ us : List Value, u = .func (.func f) #[] us.toArray ∧ RepL w S g l us
def RepTs (w : World) (S : Nat → Prop) (g : List Gh) : List TV → List Value → Prop
 | [], [] => True
 | v :: l, u :: m => RepT w S g v u ∧ RepTs w S g l m
 | _, _ => False
def ObOK (w : World) (S : Nat → Prop) (g : List Gh) : Ob → Gh → Prop
 | .unborn, .unborn => True
 | .gone, .gone => True
 | .gone, .hid hs => ∀ p ∈ hs, w.heap[p.1]? = p.2
 | .box l, .box b => ∃ cells t, w.heap[b]? = some (.cells cells t (0, 0)) ∧ cells.size = l.length ∧ RepAt w S g l cells 0
 | .row r xs, .row t => ∃ v rows, t = .sl r.size v rows ∧ OwnC w (.sl r) #[v] 0 xs t
 | _, _ => False
def ObsOK (w : World) (S : Nat → Prop) (g : List Gh) : List Ob → List Gh → Prop
 | [], [] => True
 | o :: l, h :: m => ObOK w S g o h ∧ ObsOK w S g l m
 | _, _ => False
def Stable (w : World) (g : List Gh) (b : Nat) : Prop := b < w.heap.size ∧ b ∉ allB g
structure Keep (W : List Nat) (w w' : World) : Prop where
 os : w'.os = w.os
 tape : w'.tape = w.tape
 output : w'.output = w.output
 size : w.heap.size ≤ w'.heap.size
 block : ∀ b, b < w.heap.size → b ∉ W → w'.heap[b]? = w.heap[b]?
def Gh.fixed : Gh → Prop
 | .box _ | .hid _ => True
 | _ => False
def GKeep (W g : List Gh) : Prop := (∀ (i : Nat) (t : GT), W[i]? = some (.row t) → g[i]? = some (.row t) ∨ g[i]? = some .gone) ∧ ∀ (i : Nat) (x : Gh), x.fixed → W[i]? = some x → g[i]? = some x
structure RelG (W : List Gh) (w0 : World) (g : List Gh) (st : St) (a : Act) (w : World) : Prop where
 tm : RepTs w (Stable w g) g st.tmps a.tmps.toList
 ob : ObsOK w (Stable w g) g st.objs g
 nd : (allB g).Nodup
 own : ∀ b ∈ allB g, b < w.heap.size ∧ (w0.heap.size ≤ b ∨ b ∈ allB W)
 keep : Keep (allB W) w0 w
 kept : GKeep W g
 df : a.defers = []
def Rel (W : List Gh) (w0 : World) (st : St) (a : Act) (w : World) : Prop := ∃ g, RelG W w0 g st a w
def ResOK (w w' : World) (v : TV) (u : Value) : Prop :=
 ∃ g : List Gh, RepT w' (fun _ => False) g (openT 0 v).1 u ∧ ObsOK w' (fun _ => False) g (openT 0 v).2 g ∧ (allB g).Nodup ∧ ∀ b ∈ allB g, w.heap.size ≤ b ∧ b < w'.heap.size
def BackOK (w' : World) : List Gh → List CV → Prop
 | [], [] => True
 | .row t :: g, .fz r xs :: l => (∃ v rows, t = .sl r.size v rows ∧ OwnC w' (.sl r) #[v] 0 xs t) ∧ BackOK w' g l
 | _, _ => False
def CallOK (P : Program) (f : Nat) (h : {R : Type} → List TV → (TV → List CV → Option R) → Option R) : Prop :=
 ∀ (args : List TV) (res : TV) (ms : List CV), (∀ {R : Type} (K : TV → List CV → Option R), h args K = K res ms) →
  ∀ (w : World) (vals : List Value) (S : Nat → Prop) (g : List Gh),
   RepTs w S g (openA 0 args).1 vals → ObsOK w S g (openA 0 args).2 g → (allB g).Nodup → (∀ b ∈ allB g, b < w.heap.size) → (∀ b, S b → b < w.heap.size ∧ b ∉ allB g) →
   Calls P f vals.toArray w fun e w' => ∃ v, e = .returned v ∧ Keep (allB g) w w' ∧ BackOK w' g ms ∧ ResOK w w' res v
def ProcOK (P : Program) (f : Nat) (h : {R : Type} → List TV → List Ob → (TV → List Ob → Option R) → Option R) : Prop :=
 ∀ (args : List TV) (objs : List Ob) (res : TV) (l : List Ob), (∀ {R : Type} (K : TV → List Ob → Option R), h args objs K = K res l) →
  ∀ (w : World) (vals : List Value) (S : Nat → Prop) (g : List Gh),
   RepTs w S g args vals → ObsOK w S g objs g → (allB g).Nodup → (∀ b ∈ allB g, b < w.heap.size) → (∀ b, S b → b < w.heap.size ∧ b ∉ allB g) →
   Calls P f vals.toArray w fun e w' => ∃ v, e = .returned v ∧ Keep (allB g) w w' ∧ ∃ g2, RepT w' (Stable w' g2) g2 res v ∧ ObsOK w' (Stable w' g2) g2 l g2 ∧ (allB g2).Nodup ∧
    (∀ b ∈ allB g2, b < w'.heap.size ∧ (w.heap.size ≤ b ∨ b ∈ allB g)) ∧ GKeep g g2
end Go.Proofs.YtgcioclfplafkaaGreatV
end
section
namespace Go.Proofs.YtgcioclfplafkaaGreatV
open Go Go.RowKit
theorem blocksL_mem {t : GT} {l : List GT} (h : t ∈ l) {b : Nat} (hb : b ∈ t.blocks) : b ∈ GT.blocksL l := by
 induction l with
 | nil => cases h
 | cons a l ih =>
  simp only [GT.blocksL, List.mem_append]
  rcases List.mem_cons.1 h with rfl | h
  ·exact .inl hb
  ·exact .inr (ih h)
theorem FzC_mono {w w' : World} {S S' : Nat → Prop} (hS : ∀ b, S b → S' b ∧ w'.heap[b]? = w.heap[b]?) : ∀ {c : CT} {cs : Array Value} {o : Nat} {x : El c}, FzC w S c cs o x → FzC w' S' c cs o x
 | .int _, _, _, _, h => h
 | .bool, _, _, _, h => h
 | .str, _, _, _, h => h
 | .pair _ _, _, _, _, h => ⟨FzC_mono hS h.1, FzC_mono hS h.2⟩
 | .sl _, _, _, _, ⟨a, cap, h1, h2, h3⟩ => ⟨a, cap, h1, h2, fun hne => by
   obtain ⟨b, off, cells, t, fr, ha, hb, hh, hr⟩ := h3 hne
   exact ⟨b, off, cells, t, fr, ha, (hS b hb).1, (hS b hb).2.trans hh, fun i hi => FzC_mono hS (hr i hi)⟩⟩
theorem OwnC_frame {w w' : World} : ∀ {c : CT} {cs : Array Value} {o : Nat} {x : El c} {g : GT}, (∀ b ∈ g.blocks, w'.heap[b]? = w.heap[b]?) → OwnC w c cs o x g → OwnC w' c cs o x g
 | .int _, _, _, _, _, _, h => h
 | .bool, _, _, _, _, _, h => h
 | .str, _, _, _, _, _, h => h
 | .pair _ _, _, _, _, _, hb, ⟨ga, gb, e, h1, h2⟩ => by
  subst e
  exact ⟨ga, gb, rfl, OwnC_frame (fun b h => hb b (by simp [GT.blocks, h])) h1, OwnC_frame (fun b h => hb b (by simp [GT.blocks, h])) h2⟩
 | .sl _, _, _, _, _, hb, ⟨v, rows, e, h1, h2⟩ => by
  subst e
  refine ⟨v, rows, rfl, h1, ?_⟩
  rcases h2 with h2 | ⟨b, cap, cells, t, hv, hc, hm, hh, hs, hl, hr⟩
  ·exact .inl h2
  ·refine .inr ⟨b, cap, cells, t, hv, hc, hm, (hb b (by simp [GT.blocks, hv, blockOf])).trans hh, hs, hl, fun i hi hi' => OwnC_frame (fun b' h' => hb b' ?_) (hr i hi hi')⟩
   simp only [GT.blocks, List.mem_append]
   exact .inr (blocksL_mem (List.getElem_mem hi') h')
theorem OwnC_fz {w : World} {S : Nat → Prop} : ∀ {c : CT} {cs : Array Value} {o : Nat} {x : El c} {g : GT}, (∀ b ∈ g.blocks, S b) → OwnC w c cs o x g → FzC w S c cs o x
 | .int _, _, _, _, _, _, h => h.1
 | .bool, _, _, _, _, _, h => h.1
 | .str, _, _, _, _, _, h => h.1
 | .pair _ _, _, _, _, _, hb, ⟨ga, gb, e, h1, h2⟩ => by
  subst e
  exact ⟨OwnC_fz (fun b h => hb b (by simp [GT.blocks, h])) h1, OwnC_fz (fun b h => hb b (by simp [GT.blocks, h])) h2⟩
 | .sl r, _, _, xs, _, hb, ⟨v, rows, e, h1, h2⟩ => by
  subst e
  rcases h2 with ⟨hx, hv, _⟩ | ⟨b, cap, cells, t, hv, hc, hm, hh, hs, hl, hr⟩
  ·subst hx; subst hv
   exact ⟨none, 0, h1, Nat.le_refl _, fun h => absurd rfl h⟩
  ·refine ⟨some ⟨b, 0, none⟩, cap, by rw [h1, hv], hc, fun _ => ⟨b, 0, cells, t, (0, 0), rfl, hb b (by simp [GT.blocks, hv, blockOf]), hh, fun i hi => ?_⟩⟩
   have := OwnC_fz (S := S) (fun b' h' => hb b' (by
    simp only [GT.blocks, List.mem_append]
    exact .inr (blocksL_mem (List.getElem_mem (by omega : i < rows.length)) h'))) (hr i hi (by omega))
   rwa [Nat.zero_add]
def GExt (g g' : List Gh) : Prop := ∀ (i : Nat) (h : Gh), g[i]? = some h → h = .unborn ∨ g'[i]? = some h ∨ ((∃ t, h = .row t) ∧ g'[i]? = some .gone)
theorem GExt.refl (g : List Gh) : GExt g g := fun _ _ h => .inr (.inl h)
theorem RepC_mono {w w' : World} {S S' : Nat → Prop} {g g' : List Gh} (hS : ∀ b, S b → S' b ∧ w'.heap[b]? = w.heap[b]?) (hg : GExt g g') {v : CV} {u : Value} (h : RepC w S g v u) : RepC w' S' g' v u := by
 have key : ∀ (i : Nat) (p : Option Gh → Prop), p g[i]? → (¬ p none) → (¬ p (some .unborn)) → p (some .gone) → p g'[i]? := by
  intro i p hp h0 h1 h2
  cases hi : g[i]? with
  | none => rw [hi] at hp; exact absurd hp h0
  | some x =>
   rw [hi] at hp
   rcases hg i x hi with rfl | e | ⟨_, e⟩
   ·exact absurd hp h1
   ·rw [e]; exact hp
   ·rw [e]; exact h2
 cases v with
 | fz r xs => exact FzC_mono hS h
 | ref id => exact key id (fun o => match o with | some (.row (.sl _ x _)) => u = x | some .gone => True | _ => False) h (by simp) (by simp) trivial
 | sub id lo hi => exact key id (fun o => match o with | some (.row (.sl sz x _)) => u = winV sz x lo hi ∧ lo ≤ hi ∧ hi ≤ lenV x | some .gone => True | _ => False) h (by simp) (by simp) trivial
 | pref id i j => exact key id (fun o => match o with | some (.row (.sl _ _ rows)) => ∃ t sz rr, rows[i]? = some t ∧ t.at j = .sl sz u rr | some .gone => True | _ => False) h (by simp) (by simp) trivial
 | psub id i j lo hi => exact key id (fun o => match o with | some (.row (.sl _ _ rows)) => ∃ t sz x rr, rows[i]? = some t ∧ t.at j = .sl sz x rr ∧ u = winV sz x lo hi ∧ lo ≤ hi ∧ hi ≤ lenV x | some .gone => True | _ => False) h (by simp) (by simp) trivial
 | box id off => exact key id (fun o => match o with | some (.box b) => u = .pointer (some ⟨b, off, none⟩) | some .gone => True | _ => False) h (by simp) (by simp) trivial
 | new r xs => exact h
 | _ => exact h
section
variable {w w' : World} {S S' : Nat → Prop} {g g' : List Gh} (hS : ∀ b, S b → S' b ∧ w'.heap[b]? = w.heap[b]?) (hg : GExt g g')
include hS hg
theorem RepL_mono : ∀ {l : List CV} {us : List Value}, RepL w S g l us → RepL w' S' g' l us
 | [], [], _ => trivial
 | _ :: _, _ :: _, h => ⟨RepC_mono hS hg h.1, RepL_mono h.2⟩
theorem RepAt_mono : ∀ {l : List CV} {cs : Array Value} {o : Nat}, RepAt w S g l cs o → RepAt w' S' g' l cs o
 | [], _, _, _ => trivial
 | _ :: _, _, _, ⟨⟨u, h1, h2⟩, h3⟩ => ⟨⟨u, h1, RepC_mono hS hg h2⟩, RepAt_mono h3⟩
theorem RepP_mono : ∀ {ps : List (Bool × List CV)} {us : List Value}, RepP w S g ps us → RepP w' S' g' ps us
 | [], [], _ => trivial
 | (true, _) :: _, _ :: _, ⟨⟨us, e, h1⟩, h2⟩ => ⟨⟨us, e, RepL_mono hS hg h1⟩, RepP_mono h2⟩
 | (false, _) :: _, _ :: _, ⟨h1, h2⟩ => ⟨RepL_mono hS hg h1, RepP_mono h2⟩
end
theorem RepT_mono {w w' : World} {S S' : Nat → Prop} {g g' : List Gh} (hS : ∀ b, S b → S' b ∧ w'.heap[b]? = w.heap[b]?) (hg : GExt g g') {v : TV} {u : Value} (h : RepT w S g v u) : RepT w' S' g' v u := by
 cases v with
 | c v => exact RepC_mono hS hg h
 | agg l => obtain ⟨us, e, h⟩ := h; exact ⟨us, e, RepL_mono hS hg h⟩
 | tup ps => obtain ⟨us, e, h⟩ := h; exact ⟨us, e, RepP_mono hS hg h⟩
 | fp l =>
  obtain ⟨b, off, cells, t, fr, e, hb, hh, h⟩ := h
  exact ⟨b, off, cells, t, fr, e, (hS b hb).1, (hS b hb).2.trans hh, RepAt_mono hS (GExt.refl []) h⟩
 | er id i off =>
  simp only [RepT] at h ⊢
  cases hi : g[id]? with
  | none => rw [hi] at h; exact h.elim
  | some x =>
   rw [hi] at h
   rcases hg id x hi with rfl | e | ⟨_, e⟩
   ·exact h.elim
   ·rw [e]; exact h
   ·rw [e]; exact trivial
 | fn f l => obtain ⟨us, e, h⟩ := h; exact ⟨us, e, RepL_mono hS hg h⟩
section
variable {w w' : World} {S S' : Nat → Prop} {g g' : List Gh}
theorem RepTs_mono (hS : ∀ b, S b → S' b ∧ w'.heap[b]? = w.heap[b]?) (hg : GExt g g') : ∀ {l : List TV} {us : List Value}, RepTs w S g l us → RepTs w' S' g' l us
 | [], [], _ => trivial
 | _ :: _, _ :: _, h => ⟨RepT_mono hS hg h.1, RepTs_mono hS hg h.2⟩
theorem RepTs_length : ∀ {l : List TV} {us : List Value}, RepTs w S g l us → l.length = us.length
 | [], [], _ => rfl
 | _ :: _, _ :: _, h => by simp [RepTs_length h.2]
theorem RepL_length : ∀ {l : List CV} {us : List Value}, RepL w S g l us → l.length = us.length
 | [], [], _ => rfl
 | _ :: _, _ :: _, h => by simp [RepL_length h.2]
theorem RepP_length : ∀ {l : List (Bool × List CV)} {us : List Value}, RepP w S g l us → l.length = us.length
 | [], [], _ => rfl
 | (true, _) :: _, _ :: _, h => by simp [RepP_length h.2]
 | (false, _) :: _, _ :: _, h => by simp [RepP_length h.2]
theorem ObsOK_length : ∀ {l : List Ob} {m : List Gh}, ObsOK w S g l m → l.length = m.length
 | [], [], _ => rfl
 | _ :: _, _ :: _, h => by simp [ObsOK_length h.2]
theorem RepTs_getD : ∀ {l : List TV} {us : List Value} (n : Nat), RepTs w S g l us → RepT w S g (l.getD n .dead) (us.getD n undef)
 | [], [], _, _ => trivial
 | _ :: _, _ :: _, 0, h => h.1
 | _ :: _, _ :: _, n + 1, h => by simpa using RepTs_getD n h.2
theorem RepTs_set : ∀ {l : List TV} {us : List Value} (n : Nat) {v : TV} {u : Value}, RepTs w S g l us → RepT w S g v u → RepTs w S g (l.set n v) (us.set n u)
 | [], [], _, _, _, _, _ => trivial
 | _ :: _, _ :: _, 0, _, _, h, hv => ⟨hv, h.2⟩
 | _ :: _, _ :: _, n + 1, _, _, h, hv => ⟨h.1, RepTs_set n h.2 hv⟩
theorem RepTs_append : ∀ {l m : List TV} {us vs : List Value}, RepTs w S g l us → RepTs w S g m vs → RepTs w S g (l ++ m) (us ++ vs)
 | [], _, [], _, _, h => h
 | _ :: _, _, _ :: _, _, h, k => ⟨h.1, RepTs_append h.2 k⟩
theorem RepL_append : ∀ {l m : List CV} {us vs : List Value}, RepL w S g l us → RepL w S g m vs → RepL w S g (l ++ m) (us ++ vs)
 | [], _, [], _, _, h => h
 | _ :: _, _, _ :: _, _, h, k => ⟨h.1, RepL_append h.2 k⟩
theorem ObsOK_get : ∀ {l : List Ob} {m : List Gh} (n : Nat), ObsOK w S g l m → ObOK w S g (l.getD n .gone) (m.getD n .gone)
 | [], [], _, _ => trivial
 | _ :: _, _ :: _, 0, h => h.1
 | _ :: _, _ :: _, n + 1, h => by simpa using ObsOK_get n h.2
theorem ObsOK_append : ∀ {l l' : List Ob} {m m' : List Gh}, ObsOK w S g l m → ObsOK w S g l' m' → ObsOK w S g (l ++ l') (m ++ m')
 | [], _, [], _, _, h => h
 | _ :: _, _, _ :: _, _, h, k => ⟨h.1, ObsOK_append h.2 k⟩
theorem ObOK_mono (hS : ∀ b, S b → S' b ∧ w'.heap[b]? = w.heap[b]?) (hg : GExt g g') {o : Ob} {x : Gh} (hb : ∀ b ∈ x.blocks, w'.heap[b]? = w.heap[b]?) (h : ObOK w S g o x) : ObOK w' S' g' o x := by
 cases o <;> cases x <;> try exact h
 case gone.hid hs => exact fun p hp => (hb p.1 (List.mem_map.2 ⟨p, hp, rfl⟩)).trans (h p hp)
 case box.box l b =>
  obtain ⟨cells, t, h1, h2, h3⟩ := h
  exact ⟨cells, t, (hb b (by simp [Gh.blocks])).trans h1, h2, RepAt_mono hS hg h3⟩
 case row.row r xs t =>
  obtain ⟨v, rows, e, h⟩ := h
  exact ⟨v, rows, e, OwnC_frame (fun b hb' => hb b (by simpa [Gh.blocks] using hb')) h⟩
theorem ObsOK_mono (hS : ∀ b, S b → S' b ∧ w'.heap[b]? = w.heap[b]?) (hg : GExt g g') : ∀ {l : List Ob} {m : List Gh}, (∀ x ∈ m, ∀ b ∈ x.blocks, w'.heap[b]? = w.heap[b]?) → ObsOK w S g l m → ObsOK w' S' g' l m
 | [], [], _, _ => trivial
 | _ :: _, _ :: _, hb, h => ⟨ObOK_mono hS hg (hb _ (by simp)) h.1, ObsOK_mono hS hg (fun x hx => hb x (by simp [hx])) h.2⟩
end
theorem mem_allB {g : List Gh} {b : Nat} : b ∈ allB g ↔ ∃ x ∈ g, b ∈ x.blocks := by simp [allB]
theorem RepAt_drop {w : World} {S : Nat → Prop} {g : List Gh} : ∀ (n : Nat) {l : List CV} {cs : Array Value} {o : Nat}, RepAt w S g l cs o → RepAt w S g (l.drop n) cs (o + n)
 | 0, _, _, _, h => h
 | _ + 1, [], _, _, _ => trivial
 | n + 1, _ :: _, _, o, h => by
  have := RepAt_drop n h.2
  rwa [Nat.add_assoc, Nat.add_comm 1 n] at this
theorem RepAt_take {w : World} {S : Nat → Prop} {g : List Gh} : ∀ (n : Nat) {l : List CV} {cs : Array Value} {o : Nat}, RepAt w S g l cs o → RepAt w S g (l.take n) cs o
 | 0, _, _, _, _ => trivial
 | _ + 1, [], _, _, _ => trivial
 | n + 1, _ :: _, _, _, h => ⟨h.1, RepAt_take n h.2⟩
theorem RepAt_append {w : World} {S : Nat → Prop} {g : List Gh} : ∀ {l m : List CV} {cs : Array Value} {o : Nat}, RepAt w S g l cs o → RepAt w S g m cs (o + l.length) → RepAt w S g (l ++ m) cs o
 | [], _, _, _, _, h => h
 | _ :: l, _, _, o, h, k => ⟨h.1, RepAt_append h.2 (by rw [List.length_cons] at k; rwa [Nat.add_assoc, Nat.add_comm 1])⟩
theorem encF_length : ∀ (c : CT) (x : El c), (encF c x).length = c.size
 | .int _, _ => rfl
 | .bool, _ => rfl
 | .str, _ => rfl
 | .sl _, _ => rfl
 | .pair a b, x => by simp [encF, CT.size, encF_length a, encF_length b]
theorem encO_length (id i : Nat) : ∀ (c : CT) (j : Nat) (x : El c), (encO id i c j x).length = c.size
 | .int _, _, _ => rfl
 | .bool, _, _ => rfl
 | .str, _, _ => rfl
 | .sl _, _, _ => rfl
 | .pair a b, j, x => by simp [encO, CT.size, encO_length id i a, encO_length id i b]
theorem FzC_cell {w : World} {S : Nat → Prop} {r : CT} {cs : Array Value} {o : Nat} {xs : List (El r)} (h : FzC w S (.sl r) cs o xs) : ∃ u, cs[o]? = some u ∧ FzC w S (.sl r) #[u] 0 xs := by
 obtain ⟨a, cap, h1, h2, h3⟩ := h
 exact ⟨_, h1, a, cap, by simp, h2, h3⟩
theorem encF_rep {w : World} {S : Nat → Prop} {g : List Gh} : ∀ {c : CT} {cs : Array Value} {o : Nat} {x : El c}, FzC w S c cs o x → RepAt w S g (encF c x) cs o
 | .int _, _, _, _, h => ⟨⟨_, h, rfl⟩, trivial⟩
 | .bool, _, _, _, h => ⟨⟨_, h, rfl⟩, trivial⟩
 | .str, _, _, _, h => ⟨⟨_, h, rfl⟩, trivial⟩
 | .sl _, _, _, _, h => ⟨FzC_cell h, trivial⟩
 | .pair a b, _, _, x, h => RepAt_append (encF_rep h.1) (by rw [encF_length]; exact encF_rep h.2)
theorem OwnC_cell {w : World} {r : CT} {cs : Array Value} {o : Nat} {xs : List (El r)} {sz : Nat} {v : Value} {rows : List GT} (h : OwnC w (.sl r) cs o xs (.sl sz v rows)) : sz = r.size ∧ cs[o]? = some v ∧ OwnC w (.sl r) #[v] 0 xs (.sl sz v rows) := by
 obtain ⟨v', rows', e, h1, h2⟩ := h
 injection e with e1 e2 e3
 subst e1; subst e2; subst e3
 exact ⟨rfl, h1, v, rows, rfl, by simp, h2⟩
theorem encO_rep {w : World} {S : Nat → Prop} {g : List Gh} {id i : Nat} {sz0 : Nat} {v0 : Value} {rows : List GT} {top : GT} (hg : g[id]? = some (.row (.sl sz0 v0 rows))) (hi : rows[i]? = some top) :
  ∀ {c : CT} {cs : Array Value} {o j : Nat} {x : El c} {t : GT}, (∀ k, k < c.size → top.at (j + k) = t.at k) → OwnC w c cs o x t → RepAt w S g (encO id i c j x) cs o
 | .int _, _, _, _, _, _, _, h => ⟨⟨_, h.1, rfl⟩, trivial⟩
 | .bool, _, _, _, _, _, _, h => ⟨⟨_, h.1, rfl⟩, trivial⟩
 | .str, _, _, _, _, _, _, h => ⟨⟨_, h.1, rfl⟩, trivial⟩
 | .sl r, cs, o, j, xs, t, ht, h => by
  obtain ⟨v, rows', e, h1, h2⟩ := h
  subst e
  refine ⟨⟨v, h1, ?_⟩, trivial⟩
  simp only [RepC, hg]
  exact ⟨top, _, _, hi, by have := ht 0 (by simp [CT.size]); rwa [Nat.add_zero] at this⟩
 | .pair a b, cs, o, j, x, t, ht, h => by
  obtain ⟨ga, gb, e, h1, h2⟩ := h
  subst e
  refine RepAt_append (encO_rep hg hi (fun k hk => ?_) h1) (by
   rw [encO_length]
   refine encO_rep hg hi (fun k hk => ?_) h2
   rw [Nat.add_assoc, ht (a.size + k) (by simp [CT.size]; omega)]
   simp only [GT.at]
   rw [if_neg (by omega)]
   congr 1; omega)
  rw [ht k (by simp [CT.size]; omega)]
  simp only [GT.at]
  rw [if_pos hk]
theorem OwnC_at {w : World} : ∀ {c : CT} {cs : Array Value} {o : Nat} {x : El c} {t : GT} {j : Nat} {sz : Nat} {v : Value} {rr : List GT} {r : CT} {ys : List (El r)},
  OwnC w c cs o x t → t.at j = .sl sz v rr → cellAt c j x = some (.fz r ys) → sz = r.size ∧ OwnC w (.sl r) #[v] 0 ys (.sl sz v rr)
 | .int _, _, _, _, _, _, _, _, _, _, _, _, _, h => by simp [cellAt] at h
 | .bool, _, _, _, _, _, _, _, _, _, _, _, _, h => by simp [cellAt] at h
 | .str, _, _, _, _, _, _, _, _, _, _, _, _, h => by simp [cellAt] at h
 | .sl r', cs, o, xs, t, j, sz, v, rr, r, ys, ho, ht, h => by
  simp only [cellAt, Option.some.injEq, CV.fz.injEq] at h
  obtain ⟨rfl, h⟩ := h
  have h := eq_of_heq h
  subst h
  have e : t = .sl sz v rr := by
   obtain ⟨v', rows', e, _⟩ := ho
   subst e
   simpa [GT.at] using ht
  subst e
  obtain ⟨h1, _, h2⟩ := OwnC_cell ho
  exact ⟨h1, h2⟩
 | .pair a b, cs, o, x, t, j, sz, v, rr, r, ys, ho, ht, h => by
  obtain ⟨ga, gb, e, h1, h2⟩ := ho
  subst e
  simp only [GT.at] at ht
  simp only [cellAt] at h
  by_cases hj : j < a.size
  ·rw [if_pos hj] at ht h
   exact OwnC_at h1 ht h
  ·rw [if_neg hj] at ht h
   exact OwnC_at h2 ht h
theorem at_blocks : ∀ {t : GT} {j : Nat} {b : Nat}, b ∈ (t.at j).blocks → b ∈ t.blocks
 | .leaf, _, _, h => h
 | .sl _ _ _, _, _, h => h
 | .pair n a b, j, x, h => by
  simp only [GT.at] at h
  simp only [GT.blocks, List.mem_append]
  by_cases hj : j < n
  ·rw [if_pos hj] at h; exact .inl (at_blocks h)
  ·rw [if_neg hj] at h; exact .inr (at_blocks h)
end Go.Proofs.YtgcioclfplafkaaGreatV
end
section
namespace Go.Proofs.YtgcioclfplafkaaGreatV
open Go Go.RowKit
section
variable {w : World} {S : Nat → Prop} {g : List Gh} {objs : List Ob}
theorem getD_some {α : Type} {l : List α} {n : Nat} {d x : α} (h : l.getD n d = x) (hx : x ≠ d) : l[n]? = some x := by
 rw [List.getD_eq_getElem?_getD] at h
 cases e : l[n]? with
 | none => rw [e] at h; exact absurd h.symm hx
 | some y => rw [e] at h; simpa using h
theorem row_at (ho : ObsOK w S g objs g) {id : Nat} {r : CT} {xs : List (El r)} (h : Ob.at objs id = .row r xs) :
  ∃ v rows, g[id]? = some (.row (.sl r.size v rows)) ∧ OwnC w (.sl r) #[v] 0 xs (.sl r.size v rows) := by
 have := ObsOK_get id ho
 unfold Ob.at at h
 rw [h] at this
 cases e : g.getD id .gone with
 | row t =>
  rw [e] at this
  obtain ⟨v, rows, rfl, h2⟩ := this
  exact ⟨v, rows, getD_some e (by simp), h2⟩
 | _ => rw [e] at this; exact this.elim
theorem box_at (ho : ObsOK w S g objs g) {id : Nat} {l : List CV} (h : Ob.at objs id = .box l) :
  ∃ b cells t, g[id]? = some (.box b) ∧ w.heap[b]? = some (.cells cells t (0, 0)) ∧ cells.size = l.length ∧ RepAt w S g l cells 0 := by
 have := ObsOK_get id ho
 unfold Ob.at at h
 rw [h] at this
 cases e : g.getD id .gone with
 | box b =>
  rw [e] at this
  obtain ⟨cells, t, h2⟩ := this
  exact ⟨b, cells, t, getD_some e (by simp), h2⟩
 | _ => rw [e] at this; exact this.elim
theorem OwnC_row {r : CT} {xs : List (El r)} {v : Value} {rows : List GT} (h : OwnC w (.sl r) #[v] 0 xs (.sl r.size v rows)) {i : Nat} {t : GT} (hi : rows[i]? = some t) :
  ∃ b cap cells ty, v = .slice (some ⟨b, 0, none⟩) xs.length cap ∧ w.heap[b]? = some (.cells cells ty (0, 0)) ∧ i < xs.length ∧ OwnC w r cells (i * r.size) (xs.getD i (dflt r)) t := by
 obtain ⟨v', rows', e, h1, h2⟩ := h
 injection e with _ e2 e3
 subst e2; subst e3
 obtain ⟨hi', e⟩ := List.getElem?_eq_some_iff.1 hi
 rcases h2 with ⟨_, _, h2⟩ | ⟨b, cap, cells, ty, hv, hc, hm, hh, hs, hl, hr⟩
 ·subst h2; simp at hi
 ·refine ⟨b, cap, cells, ty, hv, hh, by omega, ?_⟩
  have := hr i (by omega) hi'
  rw [e] at this
  rwa [List.getD_eq_getElem?_getD, List.getElem?_eq_getElem (by omega), Option.getD_some]
theorem OwnC_header {r : CT} {xs : List (El r)} {v : Value} {rows : List GT} {sz : Nat} (h : OwnC w (.sl r) #[v] 0 xs (.sl sz v rows)) : lenV v = xs.length ∧ sz = r.size ∧ rows.length = xs.length := by
 obtain ⟨v', rows', e, h1, h2⟩ := h
 injection e with e1 e2 e3
 subst e1; subst e2; subst e3
 rcases h2 with ⟨h2, h3, h4⟩ | ⟨b, cap, cells, ty, hv, hc, hm, hh, hs, hl, hr⟩
 ·subst h2; subst h3; subst h4; exact ⟨rfl, rfl, rfl⟩
 ·subst hv; exact ⟨rfl, rfl, hl⟩
theorem allB_mem {id : Nat} {x : Gh} (h : g[id]? = some x) {b : Nat} (hb : b ∈ x.blocks) : b ∈ allB g := mem_allB.2 ⟨x, List.mem_of_getElem? h, hb⟩
theorem win_length {α : Type} (xs : List α) (lo hi : Nat) (h : hi ≤ xs.length) : (win xs lo hi).length = hi - lo := by simp [win]; omega
theorem win_get {α : Type} (xs : List α) (lo hi i : Nat) (h : i < (win xs lo hi).length) (h2 : lo + i < xs.length) : (win xs lo hi)[i] = xs[lo + i] := by simp [win]
theorem FzC_win {r : CT} {xs : List (El r)} {v : Value} {lo hi : Nat} (h : FzC w S (.sl r) #[v] 0 xs) (h1 : lo ≤ hi) (h2 : hi ≤ xs.length) : FzC w S (.sl r) #[winV r.size v lo hi] 0 (win xs lo hi) := by
 obtain ⟨a, cap, hv, hc, hr⟩ := h
 simp only [List.getElem?_toArray, List.getElem?_cons_zero, Option.some.injEq] at hv
 subst hv
 have hl := win_length xs lo hi h2
 refine ⟨if cap = lo then a else a.map (·.add (lo * r.size)), cap - lo, by simp [winV, hl], by omega, fun hne => ?_⟩
 have hpos : lo < hi := by
  rcases Nat.lt_or_ge lo hi with h | h
  ·exact h
  ·exact absurd (List.length_eq_zero_iff.1 (by omega)) hne
 obtain ⟨b, off, cells, t, fr, ha, hb, hh, hx⟩ := hr (by intro e; subst e; simp at h2; omega)
 refine ⟨b, off + lo * r.size, cells, t, fr, ?_, hb, hh, fun i hi' => ?_⟩
 ·rw [if_neg (by omega), ha]
  simp only [Option.map_some, Addr.add]
  split
  ·rename_i h0; rw [h0]; simp
  ·rfl
 ·have h3 : lo + i < xs.length := by omega
  rw [win_get xs lo hi i hi' h3]
  have := hx (lo + i) h3
  rwa [Nat.add_mul, ← Nat.add_assoc] at this
variable {S' : Nat → Prop}
theorem fz_of_own (hS : ∀ b, b ∈ allB g → S' b) {id : Nat} {r : CT} {xs : List (El r)} {v : Value} {rows : List GT} (hg : g[id]? = some (.row (.sl r.size v rows))) (h : OwnC w (.sl r) #[v] 0 xs (.sl r.size v rows)) :
  FzC w S' (.sl r) #[v] 0 xs := OwnC_fz (fun b hb => hS b (allB_mem hg (by simpa [Gh.blocks] using hb))) h
theorem freezeC_rep (ho : ObsOK w S g objs g) (hS : ∀ b, S b → S' b) (hB : ∀ b, b ∈ allB g → S' b) {v v' : CV} {u : Value} (h : RepC w S g v u) (hf : freezeC objs v = some v') : RepC w S' [] v' u := by
 cases v with
 | int k n => simp only [freezeC, Option.some.injEq] at hf; subst hf; exact h
 | bool k => simp only [freezeC, Option.some.injEq] at hf; subst hf; exact h
 | str k => simp only [freezeC, Option.some.injEq] at hf; subst hf; exact h
 | fz r xs => simp only [freezeC, Option.some.injEq] at hf; subst hf; exact FzC_mono (fun b hb => ⟨hS b hb, rfl⟩) h
 | nilS r =>
  simp only [freezeC, Option.some.injEq] at hf; subst hf
  simp only [RepC] at h
  subst h
  exact ⟨none, 0, rfl, Nat.le_refl _, fun h => absurd rfl h⟩
 | new r xs => exact h.elim
 | ref id =>
  simp only [freezeC] at hf
  cases e : Ob.at objs id <;> rw [e] at hf <;> simp only [reduceCtorEq, Option.some.injEq] at hf
  rename_i r xs
  subst hf
  obtain ⟨x, rows, h1, h2⟩ := row_at ho e
  simp only [RepC, h1] at h
  subst h
  exact fz_of_own hB h1 h2
 | sub id lo hi =>
  simp only [freezeC] at hf
  cases e : Ob.at objs id <;> rw [e] at hf <;> simp only [reduceCtorEq, Option.some.injEq] at hf
  rename_i r xs
  subst hf
  obtain ⟨x, rows, h1, h2⟩ := row_at ho e
  simp only [RepC, h1] at h
  obtain ⟨rfl, h3, h4⟩ := h
  rw [(OwnC_header h2).1] at h4
  exact FzC_win (fz_of_own hB h1 h2) h3 h4
 | pref id i j =>
  simp only [freezeC] at hf
  cases e : Ob.at objs id <;> rw [e] at hf <;> simp only [reduceCtorEq] at hf
  rename_i r xs
  obtain ⟨x, rows, h1, h2⟩ := row_at ho e
  simp only [RepC, h1] at h
  obtain ⟨t, sz, rr, h3, h4⟩ := h
  cases e2 : cellAt r j (xs.getD i (dflt r)) with
  | none => rw [e2] at hf; simp at hf
  | some y =>
   rw [e2] at hf
   cases y <;> simp only [reduceCtorEq, Option.some.injEq] at hf
   rename_i r' ys
   subst hf
   obtain ⟨b, cap, cells, ty, hv, hh, hi, h5⟩ := OwnC_row h2 h3
   obtain ⟨rfl, h6⟩ := OwnC_at h5 h4 e2
   refine OwnC_fz (fun b' hb' => hB b' (allB_mem h1 ?_)) h6
   simp only [Gh.blocks, GT.blocks, List.mem_append]
   exact .inr (blocksL_mem (List.mem_of_getElem? h3) (at_blocks (j := j) (by rw [h4]; exact hb')))
 | psub id i j lo hi =>
  simp only [freezeC] at hf
  cases e : Ob.at objs id <;> rw [e] at hf <;> simp only [reduceCtorEq] at hf
  rename_i r xs
  obtain ⟨x, rows, h1, h2⟩ := row_at ho e
  simp only [RepC, h1] at h
  obtain ⟨t, sz, y, rr, h3, h4, rfl, h7, h8⟩ := h
  cases e2 : cellAt r j (xs.getD i (dflt r)) with
  | none => rw [e2] at hf; simp at hf
  | some z =>
   rw [e2] at hf
   cases z <;> simp only [reduceCtorEq, Option.some.injEq] at hf
   rename_i r' ys
   subst hf
   obtain ⟨b, cap, cells, ty, hv, hh, hi, h5⟩ := OwnC_row h2 h3
   obtain ⟨rfl, h6⟩ := OwnC_at h5 h4 e2
   rw [(OwnC_header h6).1] at h8
   refine FzC_win (OwnC_fz (fun b' hb' => hB b' (allB_mem h1 ?_)) h6) h7 h8
   simp only [Gh.blocks, GT.blocks, List.mem_append]
   exact .inr (blocksL_mem (List.mem_of_getElem? h3) (at_blocks (j := j) (by rw [h4]; exact hb')))
 | box id off => simp [freezeC] at hf
 | dead => simp [freezeC] at hf
theorem freezeL_rep (ho : ObsOK w S g objs g) (hS : ∀ b, S b → S' b) (hB : ∀ b, b ∈ allB g → S' b) : ∀ {l l' : List CV} {us : List Value}, RepL w S g l us → freezeL objs l = some l' → RepL w S' [] l' us
 | [], l', us, h, hf => by simp only [freezeL, Option.some.injEq] at hf; subst hf; cases us <;> exact h
 | v :: l, l', [], h, hf => h.elim
 | v :: l, l', u :: us, h, hf => by
  simp only [freezeL] at hf
  cases e1 : freezeC objs v <;> cases e2 : freezeL objs l <;> rw [e1, e2] at hf <;> simp only [reduceCtorEq, Option.some.injEq] at hf
  subst hf
  exact ⟨freezeC_rep ho hS hB h.1 e1, freezeL_rep ho hS hB h.2 e2⟩
theorem freezeL_at (ho : ObsOK w S g objs g) (hS : ∀ b, S b → S' b) (hB : ∀ b, b ∈ allB g → S' b) : ∀ {l l' : List CV} {cs : Array Value} {o : Nat}, RepAt w S g l cs o → freezeL objs l = some l' → RepAt w S' [] l' cs o
 | [], l', _, _, h, hf => by simp only [freezeL, Option.some.injEq] at hf; subst hf; trivial
 | v :: l, l', cs, o, ⟨⟨u, h1, h2⟩, h3⟩, hf => by
  simp only [freezeL] at hf
  cases e1 : freezeC objs v <;> cases e2 : freezeL objs l <;> rw [e1, e2] at hf <;> simp only [reduceCtorEq, Option.some.injEq] at hf
  subst hf
  exact ⟨⟨u, h1, freezeC_rep ho hS hB h2 e1⟩, freezeL_at ho hS hB h3 e2⟩
theorem RepAt_nil {l : List CV} {cs : Array Value} {o : Nat} (hS : ∀ b, S b → S' b) (h : RepAt w S [] l cs o) : RepAt w S' [] l cs o := RepAt_mono (fun b hb => ⟨hS b hb, rfl⟩) (GExt.refl []) h
theorem freezeT_rep (ho : ObsOK w S g objs g) (hS : ∀ b, S b → S' b) (hB : ∀ b, b ∈ allB g → S' b) {v v' : TV} {u : Value} (h : RepT w S g v u) (hf : freezeT objs v = some v') : RepT w S' [] v' u := by
 cases v with
 | c v =>
  by_cases hb : ∃ id off, v = .box id off
  ·obtain ⟨id, off, rfl⟩ := hb
   simp only [freezeT] at hf
   cases e : Ob.at objs id <;> rw [e] at hf <;> simp only [reduceCtorEq] at hf
   rename_i l
   cases e2 : freezeL objs (l.drop off) <;> rw [e2] at hf <;> simp only [reduceCtorEq, Option.some.injEq] at hf
   subst hf
   obtain ⟨b, cells, t, h1, h2, h3, h4⟩ := box_at ho e
   simp only [RepT, RepC, h1] at h
   subst h
   have := RepAt_drop off h4
   rw [Nat.zero_add] at this
   exact ⟨b, off, cells, t, (0, 0), rfl, hB b (allB_mem h1 (by simp [Gh.blocks])), h2, freezeL_at ho hS hB this e2⟩
  ·have e : freezeT objs (.c v) = match freezeC objs v with | some v' => some (.c v') | none => none := by
    cases v <;> first | rfl | exact absurd ⟨_, _, rfl⟩ hb
   rw [e] at hf
   cases e2 : freezeC objs v <;> rw [e2] at hf <;> simp only [reduceCtorEq, Option.some.injEq] at hf
   subst hf
   exact freezeC_rep ho hS hB h e2
 | agg l =>
  simp only [freezeT] at hf
  cases e : freezeL objs l <;> rw [e] at hf <;> simp only [reduceCtorEq, Option.some.injEq] at hf
  subst hf
  obtain ⟨us, e2, h⟩ := h
  exact ⟨us, e2, freezeL_rep ho hS hB h e⟩
 | tup ps => simp [freezeT] at hf
 | fp l =>
  simp only [freezeT, Option.some.injEq] at hf
  subst hf
  obtain ⟨b, off, cells, t, fr, e, hb, hh, h⟩ := h
  exact ⟨b, off, cells, t, fr, e, hS b hb, hh, RepAt_nil hS h⟩
 | er id i off =>
  simp only [freezeT] at hf
  cases e : Ob.at objs id <;> rw [e] at hf <;> simp only [reduceCtorEq, Option.some.injEq] at hf
  rename_i r xs
  subst hf
  obtain ⟨v, rows, h1, h2⟩ := row_at ho e
  simp only [RepT, h1] at h
  obtain ⟨hl, _, hr⟩ := OwnC_header h2
  cases v with
  | slice a n cap =>
   cases a with
   | none => exact h.elim
   | some ad =>
    obtain ⟨bb, off0, spot⟩ := ad
    have e0 : off0 = 0 ∧ spot = none := by
     obtain ⟨v', rows', e, h3, h4⟩ := h2
     injection e with _ e2 e3
     subst e2; subst e3
     rcases h4 with ⟨_, h4, _⟩ | ⟨b, cap', cells, ty, hv, _⟩
     ·cases h4
     ·injection hv with hv
      injection hv with hv
      injection hv with _ h6 h7
      exact ⟨h6, h7⟩
    obtain ⟨rfl, rfl⟩ := e0
    simp only at h
    obtain ⟨h5, rfl⟩ := h
    simp only [lenV] at hl
    subst hl
    have hi : i < rows.length := by omega
    obtain ⟨b, cap', cells, ty, hv, hh, hi', h6⟩ := OwnC_row h2 (List.getElem?_eq_getElem hi)
    injection hv with hv
    injection hv with hv
    injection hv with hv
    subst hv
    refine ⟨bb, i * r.size + off, cells, ty, (0, 0), rfl, hB bb (allB_mem h1 (by simp [Gh.blocks, GT.blocks, blockOf])), hh, RepAt_drop off (encF_rep (OwnC_fz (fun b' hb' => hB b' (allB_mem h1 ?_)) h6))⟩
    simp only [Gh.blocks, GT.blocks, List.mem_append]
    exact .inr (blocksL_mem (List.getElem_mem hi) hb')
  | _ => exact h.elim
 | fn f l =>
  simp only [freezeT] at hf
  cases e : freezeL objs l <;> rw [e] at hf <;> simp only [reduceCtorEq, Option.some.injEq] at hf
  subst hf
  obtain ⟨us, e2, h⟩ := h
  exact ⟨us, e2, freezeL_rep ho hS hB h e⟩
theorem freezeA_rep (ho : ObsOK w S g objs g) (hS : ∀ b, S b → S' b) (hB : ∀ b, b ∈ allB g → S' b) : ∀ {l l' : List TV} {us : List Value}, RepTs w S g l us → freezeA objs l = some l' → RepTs w S' [] l' us
 | [], l', us, h, hf => by simp only [freezeA, Option.some.injEq] at hf; subst hf; cases us <;> exact h
 | v :: l, l', [], h, hf => h.elim
 | v :: l, l', u :: us, h, hf => by
  simp only [freezeA] at hf
  cases e1 : freezeT objs v <;> cases e2 : freezeA objs l <;> rw [e1, e2] at hf <;> simp only [reduceCtorEq, Option.some.injEq] at hf
  subst hf
  exact ⟨freezeT_rep ho hS hB h.1 e1, freezeA_rep ho hS hB h.2 e2⟩
theorem content_rep (ho : ObsOK w S g objs g) (hS : ∀ b, S b → S' b) (hB : ∀ b, b ∈ allB g → S' b) {v : CV} {u : Value} {r : CT} {xs : List (El r)} (h : RepC w S g v u) (hf : freezeC objs v = some (.fz r xs)) : FzC w S' (.sl r) #[u] 0 xs := freezeC_rep ho hS hB h hf
end
end Go.Proofs.YtgcioclfplafkaaGreatV
end
section
namespace Go.Proofs.YtgcioclfplafkaaGreatV
open Go Go.RowKit
def cvIs : CV → Value → Bool
 | .int k n, .int k' n' => decide (k = k') && decide (n = n')
 | .bool b, .bool b' => decide (b = b')
 | .str s, .string s' => s.data.toList.isEmpty && s'.data.toList.isEmpty
 | .nilS _, .slice none 0 0 => true
 | _, _ => false
def cvsAre : List CV → List Value → Bool
 | [], [] => true
 | v :: l, u :: m => cvIs v u && cvsAre l m
 | _, _ => false
def descOk (P : Program) (ti : TI) : TypeDesc → Bool
 | .struct fs => !ti.ptr && ti.agg && decide (fs.size = ti.offs.length) && ((List.range fs.size).all fun i => match fs[i]?, ti.offs[i]? with
   | some f, some o => decide (f.offset = o) && (match P.info? f.type with | some j => decide (j.size ≠ 0) && decide (j.size = ti.fsz i) | none => false)
   | _, _ => false)
 | .slice e => !ti.ptr && !ti.agg && decide (e = ti.elem) && (match ti.ct with | .sl _ => true | _ => false)
 | .int k => !ti.ptr && !ti.agg && (match ti.ct with | .int k' => decide (k = k') | _ => false)
 | .bool => !ti.ptr && !ti.agg && (match ti.ct with | .bool => true | _ => false)
 | .string => !ti.ptr && !ti.agg && (match ti.ct with | .str => true | _ => false)
 | .pointer _ => !ti.agg && ti.ptr && (match ti.ct with | .bool => true | _ => false)
 | _ => false
def tiOk (P : Program) (t : Nat) (ti : TI) : Bool :=
 match P.info? t, P.underlying t with
 | some i, some d => decide (i.size = ti.size) && decide (i.bytes = ti.bytes) && (decide (0 < ti.size) && decide (0 < ti.bytes)) && decide (ti.ct.size = ti.size) && descOk P ti d &&
   (match d with | .pointer _ => (match i.zero with | some z => decide (z.cells.toList.length = 1) | none => false) | _ => (match i.zero with | some z => cvsAre (zeroC ti.ct) z.cells.toList && (match z, ti.agg with | .agg _, true => true | .agg _, false => false | .tuple _, _ => false | _, b => !b) | none => false))
 | _, _ => false
def scal : CT → TypeDesc → Bool
 | .int k, .int k' => decide (k = k')
 | .bool, .bool => true
 | .str, .string => true
 | _, _ => false
def eqOk (P : Program) (t : Nat) (ti : TI) : Bool :=
 match P.underlying t with
 | some (.struct fs) => !P.stoodInHeld t && !(P.eqGuardType P.depth t) && decide (fs.size = (cellsCT ti.ct).length) && (List.range fs.size).all fun i => match fs[i]?, (cellsCT ti.ct)[i]? with
  | some f, some c => (f.name != "_") && decide (f.offset = i) && (match P.underlying f.type with | some d => scal c d | none => false)
  | _, _ => false
 | _ => false
structure TabOK (P : Program) (T : Tab) : Prop where
 ty : ∀ t ti, T.ty t = some ti → tiOk P t ti = true
 eq : ∀ t ti, T.eq t = true → T.ty t = some ti → eqOk P t ti = true
section
variable {P : Program} {T : Tab}
theorem ty_info (hT : TabOK P T) {t : Nat} {ti : TI} (h : T.ty t = some ti) : ∃ i d, P.info? t = some i ∧ P.underlying t = some d ∧ i.size = ti.size ∧ i.bytes = ti.bytes ∧ ((0 < ti.size ∧ 0 < ti.bytes) ∧ ti.ct.size = ti.size) ∧ descOk P ti d = true := by
 have := hT.ty t ti h
 unfold tiOk at this
 cases h1 : P.info? t <;> cases h2 : P.underlying t <;> rw [h1, h2] at this <;> simp only [Bool.false_eq_true] at this
 rename_i i d
 simp only [Bool.and_eq_true, decide_eq_true_eq] at this
 exact ⟨i, d, rfl, rfl, this.1.1.1.1.1, this.1.1.1.1.2, ⟨this.1.1.1.2, this.1.1.2⟩, this.1.2⟩
theorem run_sizeOf (hT : TabOK P T) {t : Nat} {ti : TI} (h : T.ty t = some ti) (w : World) : (sizeOf t).run P w = .ok ti.size w := by
 obtain ⟨i, d, h1, h2, h3, _⟩ := ty_info hT h
 simp [sizeOf, typeInfo, h1, h3]
theorem descOk_agg {P : Program} {ti : TI} {d : TypeDesc} (h : descOk P ti d = true) : (match d with | .struct _ | .array _ _ => true | _ => false) = ti.agg := by
 cases d <;> simp [descOk] at h ⊢ <;> simp_all
theorem run_isAgg (hT : TabOK P T) {t : Nat} {ti : TI} (h : T.ty t = some ti) (w : World) : (isAgg t).run P w = .ok ti.agg w := by
 obtain ⟨i, d, h1, h2, h3, h4, h5, h6⟩ := ty_info hT h
 have := descOk_agg h6
 unfold isAgg
 rw [Sem.run_bind, run_underlying h2 w]
 cases d <;> simp_all
theorem ty_struct (hT : TabOK P T) {t : Nat} {ti : TI} (h : T.ty t = some ti) (ha : ti.agg = true) : ∃ fs, P.underlying t = some (.struct fs) ∧ ∀ (i : Nat) (o : Nat), ti.offs[i]? = some o → ∃ f, fs[i]? = some f ∧ f.offset = o ∧ ∃ j, P.info? f.type = some j ∧ j.size ≠ 0 ∧ j.size = ti.fsz i := by
 obtain ⟨i, d, h1, h2, h3, h4, h5, h6⟩ := ty_info hT h
 cases d with
 | struct fs =>
  refine ⟨fs, h2, fun i o ho => ?_⟩
  simp only [descOk, Bool.and_eq_true, List.all_eq_true, List.mem_range, decide_eq_true_eq] at h6
  have hi : i < fs.size := by rw [h6.1.2]; exact (List.getElem?_eq_some_iff.1 ho).1
  have := h6.2 i hi
  rw [ho] at this
  rw [Array.getElem?_eq_getElem hi] at this ⊢
  simp only [Bool.and_eq_true, decide_eq_true_eq] at this
  refine ⟨_, rfl, this.1, ?_⟩
  cases hf : P.info? fs[i].type with
  | none => rw [hf] at this; simp at this
  | some j => rw [hf] at this; simp only [Bool.and_eq_true, decide_eq_true_eq] at this; exact ⟨j, rfl, this.2.1, this.2.2⟩
 | _ => simp [descOk, ha] at h6
theorem ty_elem (hT : TabOK P T) {t : Nat} {te : TI} (h : elemTy T t = some te) : ∃ e, P.underlying t = some (.slice e) ∧ T.ty e = some te ∧ te.ptr = false ∧ ∃ ts, T.ty t = some ts ∧ ts.agg = false ∧ ts.ct = .sl te.ct ∧ ts.elem = e := by
 unfold elemTy at h
 cases h1 : T.ty t with
 | none => rw [h1] at h; simp at h
 | some ts =>
  rw [h1] at h
  simp only at h
  cases ha : ts.agg with
  | true => rw [ha] at h; simp at h
  | false =>
   rw [ha] at h
   simp only [Bool.false_eq_true, if_false] at h
   cases hc : ts.ct <;> rw [hc] at h <;> simp only [reduceCtorEq] at h
   rename_i r
   cases h2 : T.ty ts.elem with
   | none => rw [h2] at h; simp at h
   | some te' =>
    rw [h2] at h
    simp only at h
    split at h
    ·rename_i hb
     injection h with h
     subst h
     simp only [Bool.and_eq_true, Bool.not_eq_true'] at hb
     obtain ⟨hb, hptr⟩ := hb
     have := CT.eq_of_beq hb
     subst this
     obtain ⟨i, d, h3, h4, h5, h6, h7, h8⟩ := ty_info hT h1
     cases d <;> simp [descOk, hc, ha] at h8
     exact ⟨_, by rw [h4, h8.2], h2, hptr, ts, rfl, ha, hc, rfl⟩
    ·cases h
end
end Go.Proofs.YtgcioclfplafkaaGreatV
end
section
namespace Go.Proofs.YtgcioclfplafkaaGreatV
open Go Go.RowKit
section
variable {P : Program} {T : Tab} {w : World} {S : Nat → Prop} {g : List Gh}
theorem ofCell_rep (v : Value) : RepC w S g (ofCell v) v := by cases v <;> simp [ofCell, RepC]
theorem constC_rep (c : CT) (v : Value) : RepC w S g (constC c v) v := by
 unfold constC
 split
 ·rfl
 ·exact ofCell_rep v
theorem constL_rep : ∀ (c : CT) (l : List Value), c.size = l.length → RepL w S g (constL c l) l
 | .pair a b, l, h => by
  simp only [CT.size] at h
  have := RepL_append (constL_rep a (l.take a.size) (by simp; omega)) (constL_rep b (l.drop a.size) (by simp; omega))
  rw [List.take_append_drop] at this
  exact this
 | .int k, l, h => by
  match l, h with
  | [v], _ => exact ⟨constC_rep _ v, trivial⟩
 | .bool, l, h => by
  match l, h with
  | [v], _ => exact ⟨constC_rep _ v, trivial⟩
 | .str, l, h => by
  match l, h with
  | [v], _ => exact ⟨constC_rep _ v, trivial⟩
 | .sl r, l, h => by
  match l, h with
  | [v], _ => exact ⟨constC_rep _ v, trivial⟩
theorem opd_rep {st : St} {a : Act} (h : RepTs w S g st.tmps a.tmps.toList) (t : Nat) (x : Operand) : RepT w S g (opd T st t x) (a.eval x) := by
 unfold opd
 split
 ·rename_i n
  have := RepTs_getD n h
  simpa [St.get, Act.eval] using this
 ·rename_i cs
  split
  ·split
   ·rename_i hs
    exact ⟨cs.toList, by simp [Act.eval], constL_rep _ _ (by simpa using hs)⟩
   ·trivial
  ·trivial
 ·split
  ·exact constC_rep _ _
  ·trivial
 ·exact ofCell_rep _
 ·exact ⟨[], rfl, trivial⟩
 ·trivial
abbrev pk (v : TV) (n : List Ob) (m : List (Nat × Md)) : Option (TV × List Ob × List (Nat × Md)) := some (v, n, m)
theorem pk_inj {v v' : TV} {n n' : List Ob} {m m' : List (Nat × Md)} (h : pk v n m = some (v', n', m')) : v = v' ∧ n = n' ∧ m = m' := by
 simp only [pk, Option.some.injEq, Prod.mk.injEq] at h
 exact h
theorem retV_inj {v : CV} {v' : TV} {n' : List Ob} {m' : List (Nat × Md)} (h : retV pk v = some (v', n', m')) : v' = .c v ∧ n' = [] ∧ m' = [] := by
 obtain ⟨h1, h2, h3⟩ := pk_inj h
 exact ⟨h1.symm, h2.symm, h3.symm⟩
theorem RepL_cons_inv {v : CV} {l : List CV} {us : List Value} (h : RepL w S g (v :: l) us) : ∃ u m, us = u :: m ∧ RepC w S g v u ∧ RepL w S g l m := by
 cases us with
 | nil => exact h.elim
 | cons u m => exact ⟨u, m, rfl, h.1, h.2⟩
theorem eqFields_ok (d : Nat) (xs ys : Array Value) : ∀ (fs : List Field) (cs : List CT) (o : Nat) (l m : List CV) (us vs : List Value) (e : Bool),
  fs.length = cs.length → (∀ i f c, fs[i]? = some f → cs[i]? = some c → (f.name != "_") = true ∧ f.offset = o + i ∧ (match P.underlying f.type with | some d => scal c d | none => false) = true) →
  xs.toList.drop o = us → ys.toList.drop o = vs → RepL w S g l us → RepL w S g m vs → eqC cs l m = some e →
  (Op.eqFields (d + 1) xs ys fs).run P w = .ok e w
 | [], cs, o, l, m, us, vs, e, hc, hf, hx, hy, h1, h2, he => by
  have hcs : cs = [] := by simpa using hc.symm
  subst hcs
  cases l <;> cases m <;> simp only [eqC, reduceCtorEq, Option.some.injEq] at he
  subst he
  simp [Op.eqFields]
 | f :: fs, [], o, l, m, us, vs, e, hc, hf, hx, hy, h1, h2, he => by simp at hc
 | f :: fs, c :: cs, o, l, m, us, vs, e, hc, hf, hx, hy, h1, h2, he => by
  obtain ⟨hn, ho, ht⟩ := hf 0 f c (by simp) (by simp)
  have hn' : f.name ≠ "_" := by simpa using hn
  cases hu : P.underlying f.type with
  | none => rw [hu] at ht; simp at ht
  | some dd =>
   rw [hu] at ht
   simp only at ht
   have hag : (isAgg f.type).run P w = .ok false w := by
    unfold isAgg
    rw [Sem.run_bind, run_underlying hu w]
    cases c <;> cases dd <;> simp [scal] at ht <;> rfl
   have part_ok : ∀ (zs : Array Value) (z : Value), zs[o]? = some z → (part f.type zs f.offset).run P w = .ok z w := by
    intro zs z hz
    rw [ho]
    simp [part, hag, hz]
   cases l with
   | nil => cases c <;> simp [eqC] at he
   | cons v l =>
    cases m with
    | nil => cases c <;> cases v <;> simp [eqC] at he
    | cons v2 m =>
     obtain ⟨u, us', rfl, h3, h4⟩ := RepL_cons_inv h1
     obtain ⟨u2, vs', rfl, h5, h6⟩ := RepL_cons_inv h2
     have hxs : xs[o]? = some u := by have := congrArg (·[0]?) hx; simpa using this
     have hys : ys[o]? = some u2 := by have := congrArg (·[0]?) hy; simpa using this
     have hx' : xs.toList.drop (o + 1) = us' := by rw [← List.drop_drop, hx]; rfl
     have hy' : ys.toList.drop (o + 1) = vs' := by rw [← List.drop_drop, hy]; rfl
     have rest : ∀ (r : Bool) (s : Bool), eqC cs l m = some s → (Op.equalIn (d + 1) f.type u u2).run P w = .ok r w → e = (r && s) → (Op.eqFields (d + 1) xs ys (f :: fs)).run P w = .ok e w := by
      intro r s hs hr hes
      subst hes
      have ih := eqFields_ok d xs ys fs cs (o + 1) l m us' vs' s (by simpa using hc) (fun i f' c' hi hi2 => by
       obtain ⟨h7, h8, h9⟩ := hf (i + 1) f' c' (by simpa using hi) (by simpa using hi2)
       exact ⟨h7, by omega, h9⟩) hx' hy' h4 h6 hs
      rw [Op.eqFields]
      simp only [if_pos hn', Sem.run_bind, part_ok xs u hxs, part_ok ys u2 hys, hr, Result.andThen_ok]
      cases r
      ·simp
      ·simpa using ih
     cases c <;> cases v <;> cases v2 <;> simp only [eqC, reduceCtorEq] at he
     case int.int.int k ka a kb b =>
      split at he
      ·rename_i hk
       obtain ⟨rfl, rfl⟩ := hk
       cases hs : eqC cs l m with
       | none => rw [hs] at he; simp at he
       | some s =>
        rw [hs] at he
        simp only [RepC] at h3 h5
        subst h3; subst h5
        refine rest (a == b) s hs ?_ (by simpa using he.symm)
        cases dd <;> simp [scal] at ht
        simp [Op.equalIn, run_underlying hu]
      ·cases he
     case bool.bool.bool a b =>
      cases hs : eqC cs l m with
      | none => rw [hs] at he; simp at he
      | some s =>
       rw [hs] at he
       simp only [RepC] at h3 h5
       subst h3; subst h5
       refine rest (a == b) s hs ?_ (by simpa using he.symm)
       cases dd <;> simp [scal] at ht
       simp [Op.equalIn, run_underlying hu]
     case str.str.str a b =>
      cases hs : eqC cs l m with
      | none => rw [hs] at he; simp at he
      | some s =>
       rw [hs] at he
       simp only [RepC] at h3 h5
       subst h3; subst h5
       refine rest (a == b) s hs ?_ (by simpa using he.symm)
       cases dd <;> simp [scal] at ht
       simp [Op.equalIn, run_underlying hu]
theorem equal_ok (hT : TabOK P T) {t : Nat} {ti : TI} (h1 : T.eq t = true) (h2 : T.ty t = some ti) {l m : List CV} {us vs : List Value} {e : Bool} (hx : RepL w S g l us) (hy : RepL w S g m vs) (he : eqC (cellsCT ti.ct) l m = some e) :
  (Op.equal t (.agg us.toArray) (.agg vs.toArray)).run P w = .ok e w ∧ P.eqGuardType P.depth t = false := by
 have := hT.eq t ti h1 h2
 unfold eqOk at this
 cases hu : P.underlying t with
 | none => rw [hu] at this; simp at this
 | some d =>
  rw [hu] at this
  cases d <;> simp only [Bool.false_eq_true] at this
  rename_i fs
  simp only [Bool.and_eq_true, Bool.not_eq_true', decide_eq_true_eq, List.all_eq_true, List.mem_range] at this
  obtain ⟨⟨⟨h3, h4⟩, h5⟩, h6⟩ := this
  refine ⟨?_, h4⟩
  have hf : P.fieldsOf t = fs := by simp [Program.fieldsOf, hu]
  unfold Op.equal
  rw [show Op.maxDepth = 9999 + 1 from rfl, run_equalIn_struct (P := P) w 9999 t us.toArray vs.toArray (by rw [hf]; exact hu) h3, hf]
  refine eqFields_ok 9998 us.toArray vs.toArray fs.toList (cellsCT ti.ct) 0 l m us vs e (by simpa using h5) (fun i f c hi hc => ?_) (by simp) (by simp) hx hy he
  have hi' : i < fs.size := by
   have := (List.getElem?_eq_some_iff.1 hi).1
   simpa using this
  have := h6 i hi'
  rw [show fs[i]? = some f by simpa using hi, hc] at this
  simp only [Bool.and_eq_true, decide_eq_true_eq] at this
  exact ⟨this.1.1, by omega, this.2⟩
end
end Go.Proofs.YtgcioclfplafkaaGreatV
end

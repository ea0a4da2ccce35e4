/- Arguments that are read as cells; no condition. -/
import Derived.Test.YtgcioclfplafkaaGreatA10
import Derived.ChangeShapes
import Derived.ChangeArms
import Derived.DataReads
import Derived.Deep.Slices
import Derived.WideShapes
import Derived.ChangeOld
import Derived.Below
set_option linter.all false
namespace Go.Proofs.YtgcioclfplafkaaGreatV
open Go Go.RowKit Go.ChangeShapes Go.WideShapes
def Good : (c : CT) → El c → Prop
 | .int k, n => (Lit.int k n).wf = true
 | .bool, _ => True
 | .str, s => s.size ≤ maxLen
 | .sl r, xs => xs.length ≤ maxLen ∧ ∀ x ∈ xs, Good r x
 | .pair a b, x => Good a x.1 ∧ Good b x.2
def OpC (P : Program) (t : TypeId) (c : CT) : Prop :=
 ∀ (H : Type) (enc : TypeId × Value → H) (w : World) (spare : Nat → Bool) (fuel : Nat) (cs : List Value) (x : DataW H × List MemPlace),
  DataW.trod enc P w 0 spare true fuel t cs = some x → cs.length = c.size ∧ ∃ v : El c, FzC w (fun b => b < w.heap.size) c cs.toArray 0 v ∧ Good c v
theorem FzC_congr {w : World} {S : Nat → Prop} : ∀ {c : CT} {cs cs' : Array Value} {o o' : Nat} {x : El c}, (∀ k, k < c.size → cs'[o' + k]? = cs[o + k]?) → FzC w S c cs o x → FzC w S c cs' o' x
 | .int _, _, _, _, _, _, h, hx => by have := h 0 (by simp [CT.size]); simp only [Nat.add_zero] at this; simp only [FzC] at hx ⊢; rw [this]; exact hx
 | .bool, _, _, _, _, _, h, hx => by have := h 0 (by simp [CT.size]); simp only [Nat.add_zero] at this; simp only [FzC] at hx ⊢; rw [this]; exact hx
 | .str, _, _, _, _, _, h, hx => by have := h 0 (by simp [CT.size]); simp only [Nat.add_zero] at this; simp only [FzC] at hx ⊢; rw [this]; exact hx
 | .sl _, _, _, _, _, _, h, hx => by have := h 0 (by simp [CT.size]); simp only [Nat.add_zero] at this; simp only [FzC] at hx ⊢; rw [this]; exact hx
 | .pair a b, _, _, o, o', _, h, hx => ⟨FzC_congr (fun k hk => h k (by simp [CT.size]; omega)) hx.1, FzC_congr (fun k hk => by
   have := h (a.size + k) (by simp [CT.size]; omega)
   rwa [← Nat.add_assoc, ← Nat.add_assoc] at this) hx.2⟩
section
variable {P : Program} {t e : TypeId}
theorem oc_int {k : IntKind} (ht : P.underlying t = some (.int k)) : OpC P t (.int k) := by
 intro H enc w spare fuel cs x h
 obtain ⟨n, rfl, _, hw⟩ := DataW.trod_int ht h
 exact ⟨rfl, n, rfl, hw⟩
theorem oc_string (ht : P.underlying t = some .string) : OpC P t .str := by
 intro H enc w spare fuel cs x h
 obtain ⟨n, rfl, _, hw⟩ := DataW.trod_string ht h
 exact ⟨rfl, n, rfl, hw⟩
theorem choose_list {α : Type} {Q : Nat → α → Prop} : ∀ (n : Nat), (∀ i, i < n → ∃ a, Q i a) → ∃ l : List α, l.length = n ∧ ∀ i a, l[i]? = some a → Q i a
 | 0, _ => ⟨[], rfl, fun i a h => by simp at h⟩
 | n + 1, h => by
  obtain ⟨l, hl, hq⟩ := choose_list n (fun i hi => h i (by omega))
  obtain ⟨a, ha⟩ := h n (by omega)
  refine ⟨l ++ [a], by simp [hl], fun i b hb => ?_⟩
  rcases Nat.lt_or_ge i l.length with hi | hi
  ·rw [List.getElem?_append_left hi] at hb
   exact hq i b hb
  ·have hlt := (List.getElem?_eq_some_iff.1 hb).1
   rw [List.length_append, List.length_singleton] at hlt
   obtain rfl : i = n := by omega
   have : a = b := by simpa [hl] using hb
   subst this
   exact ha
theorem oc_slice {c : CT} (hc0 : 0 < c.size) (ht : P.underlying t = some (.slice e)) (hs : P.cellsOf e = c.size) (h : OpC P e c) : OpC P t (.sl c) := by
 intro H enc w spare fuel cs x hx
 rcases Go.Deep.open_slice ht hx with ⟨rfl, _⟩ | ⟨a, len, cap, m, n, D, Pl, rfl, _, hl, hm, hmm, _, hi⟩
 ·exact ⟨rfl, [], ⟨none, 0, rfl, Nat.le_refl _, fun h => absurd rfl h⟩, by simp, by simp⟩
 ·have hlm : len ≤ m := by rw [hmm]; split <;> omega
  have addn : ∀ (b o n : Nat), (⟨b, o, none⟩ : Addr).add n = ⟨b, o + n, none⟩ := fun b o n => by
   unfold Addr.add
   split <;> simp_all
  by_cases hz : len = 0
  ·subst hz
   exact ⟨rfl, [], ⟨some a, cap, rfl, Nat.zero_le _, fun h => absurd rfl h⟩, by simp, by simp⟩
  have hbase : ∃ b off cells ty fr, a = ⟨b, off, none⟩ ∧ b < w.heap.size ∧ w.heap[b]? = some (.cells cells ty fr) := by
   obtain ⟨cs', hc, ht'⟩ := hi 0 (by omega)
   rw [hs, Nat.zero_mul] at hc
   obtain ⟨hlen, _⟩ := h H enc w spare n cs' _ ht'
   obtain ⟨_, hcl, hat⟩ := World.cells?_some hc
   have h0 := hat 0 hc0
   have hlt0 : 0 < cs'.length := by omega
   obtain ⟨b, off, spot⟩ := a
   have h00 : w.cell? ⟨b, off, spot⟩ = some cs'[0] := by
    have : ((⟨b, off, spot⟩ : Addr).add 0).add 0 = ⟨b, off, spot⟩ := by simp [Addr.add]
    rw [this, List.getElem?_eq_getElem hlt0] at h0
    exact h0
   unfold World.cell? at h00
   simp only at h00
   split at h00
   ·rename_i cells ty fr hb
    cases spot with
    | some sp => simp at h00
    | none => exact ⟨b, off, cells, ty, fr, rfl, (Array.getElem?_eq_some_iff.1 hb).1, hb⟩
   ·cases h00
  obtain ⟨b, off, cells, ty, fr, rfl, hb, hh⟩ := hbase
  obtain ⟨l, hll, hq⟩ := choose_list (Q := fun i (v : El c) => Good c v ∧ FzC w (fun b => b < w.heap.size) c cells (off + i * c.size) v) len (fun i hil => by
   obtain ⟨cs', hc, ht'⟩ := hi i (by omega)
   rw [hs] at hc
   obtain ⟨hlen, v, hv, hg⟩ := h H enc w spare n cs' _ ht'
   obtain ⟨_, hcl, hat⟩ := World.cells?_some hc
   refine ⟨v, hg, FzC_congr (fun k hk => ?_) hv⟩
   have := hat k hk
   rw [addn, addn] at this
   simp only [World.cell?, hh, Option.isSome_none, Bool.false_eq_true, if_false] at this
   rw [this]
   simp)
  refine ⟨rfl, l, ⟨some ⟨b, off, none⟩, cap, by rw [hll]; rfl, by omega, fun hne => ⟨b, off, cells, ty, fr, rfl, hb, hh, fun i hil => (hq i l[i] (List.getElem?_eq_getElem hil)).2⟩⟩, by omega, fun v hv => ?_⟩
  obtain ⟨i, hi2⟩ := List.getElem?_of_mem hv
  exact (hq i v hi2).1
def OpF (P : Program) (fs : List Field) (off : Nat) (c : CT) : Prop :=
 ∀ (H : Type) (enc : TypeId × Value → H) (w : World) (spare : Nat → Bool) (n : Nat) (cs : List Value) (xs : List (DataW H × List MemPlace)),
  xs.length = fs.length → cs.length = off + c.size → (∀ (i : Nat) (f : Field), fs[i]? = some f → DataW.trod enc P w 0 spare true n f.type ((cs.drop f.offset).take (P.cellsOf f.type)) = xs[i]?) →
   ∃ v : El c, FzC w (fun b => b < w.heap.size) c cs.toArray off v ∧ Good c v
theorem of_one {c : CT} {f : Field} {off : Nat} (ho : f.offset = off) (hs : P.cellsOf f.type = c.size) (h : OpC P f.type c) : OpF P [f] off c := by
 intro H enc w spare n cs xs hl hc hf
 match xs, hl with
 | [y], _ =>
  have h0 := hf 0 f rfl
  rw [ho, hs] at h0
  obtain ⟨_, v, hv, hg⟩ := h H enc w spare n _ y h0
  refine ⟨v, FzC_congr (fun k hk => ?_) hv, hg⟩
  simp only [List.getElem?_toArray, Nat.zero_add]
  rw [List.getElem?_take, if_pos hk, List.getElem?_drop]
theorem of_cons {a b : CT} {f : Field} {fs : List Field} {off off2 : Nat} (ho : f.offset = off) (hs : P.cellsOf f.type = a.size) (h2o : off2 = off + a.size) (h : OpC P f.type a) (h2 : OpF P fs off2 b) : OpF P (f :: fs) off (.pair a b) := by
 intro H enc w spare n cs xs hl hc hf
 match xs, hl with
 | y :: ys, hl =>
  have h0 := hf 0 f rfl
  rw [ho, hs] at h0
  obtain ⟨_, v, hv, hg⟩ := h H enc w spare n _ y h0
  simp only [CT.size] at hc
  obtain ⟨v2, hv2, hg2⟩ := h2 H enc w spare n cs ys (by simpa using hl) (by omega) (fun i f' hf' => by simpa using hf (i + 1) f' (by simpa using hf'))
  refine ⟨(v, v2), ⟨FzC_congr (fun k hk => ?_) hv, ?_⟩, hg, hg2⟩
  ·simp only [List.getElem?_toArray, Nat.zero_add]
   rw [List.getElem?_take, if_pos hk, List.getElem?_drop]
  ·rw [← h2o]; exact hv2
theorem oc_struct {c : CT} {fs : Array Field} (ht : P.underlying t = some (.struct fs)) (hs : P.cellsOf t = c.size) (h : OpF P fs.toList 0 c) : OpC P t c := by
 intro H enc w spare fuel cs x hx
 obtain ⟨xs, n, _, _, hl, hlen, hf⟩ := DataW.trod_struct ht hx
 obtain ⟨v, hv, hg⟩ := h H enc w spare n cs xs (by simpa using hlen) (by rw [hl, hs]; omega) (fun i f2 hf2 => hf i f2 (by simpa using hf2))
 exact ⟨by rw [hl, hs], v, hv, hg⟩
end
end Go.Proofs.YtgcioclfplafkaaGreatV

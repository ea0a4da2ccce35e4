/- The library's slices.Sort and slices.Compact at a slice of whole numbers that the call owns, in the form of a printed function. -/
import Derived.Test.YtopopjkoanpjiaaSortA
import Derived.Test.YtopopjkoanpjiaaWWords
import Derived.Test.YtopopjkoanpjiaaWKept
import Derived.Test.YtopopjkoanpjiaaWMore
import Derived.Lib.RowBridge
namespace Go.Proofs.YtopopjkoanpjiaaX
open Go Go.RowKit Go.Proofs Go.Sort Go.Proofs.YtopopjkoanpjiaaW.PrintWords
def sortI (l : List Int) : List Int := l.mergeSort fun x y => decide (x ≤ y)
def slices_Sort.f (l0 : List Int) : Option (List Int) := if l0.length < 4611686018427387904 then some (sortI l0) else none
theorem sortI_len (l : List Int) : (sortI l).length = l.length := List.length_mergeSort l
/-- an own row whose cells are written anew: what stands behind -/
theorem row_again {w0 w W : World} {P0_ : Nat → Prop} {g cap : Nat} {l0 ys : List Int} {cur : Array Value} {os : Array Obj} {m n : Nat} (hB : Below w0.heap.size w0 w) (hg : w0.heap.size ≤ g) (hh : w.heap[g]? = some (.cells cur 2 (0, 0))) (hn : n = ys.length) (hc1 : l0.length ≤ cap) (hc2 : cap ≤ maxLen) (hc3 : cur.size = cap * 1) (hl : n ≤ l0.length)
    {zs : List Int} (hz : zs.length = l0.length) (hy : zs.take n = ys) (hok : P0_ g) (hW : W = grow (putRow (Value.int .i64) (Go.Sort.ahead w m) g 0 zs.toArray) os) :
    Kd.R (Kd.int .i64) 2 W w0.heap.size (fun k_ => (P0_ k_ ∨ w.heap.size ≤ k_)) (.slice (some ⟨g, 0, none⟩) n cap) ys ∧ Below w0.heap.size w0 W ∧ Kept w W (fun k_ => P0_ k_) := by
  subst hW
  have hgl : g < w.heap.size := (Array.getElem?_eq_some_iff.1 hh).1
  have hold : ∀ k, k < w.heap.size → (grow (putRow (Value.int .i64) (Go.Sort.ahead w m) g 0 zs.toArray) os).heap[k]? = if k = g then some (.cells (putCells (Value.int .i64) 0 zs.toArray cur) 2 (0, 0)) else w.heap[k]? := by
    intro k hk
    rw [heap_grow_old _ _ (by simpa [Go.Sort.ahead] using hk)]
    show (w.heap.modify g (onCells (putCells (Value.int .i64) 0 zs.toArray)))[k]? = _
    rw [Array.getElem?_modify]
    by_cases e : g = k
    · subst e
      rw [if_pos rfl, if_pos rfl, hh]; rfl
    · rw [if_neg e, if_neg (fun h => e h.symm)]
  have hsize : w.heap.size ≤ (grow (putRow (Value.int .i64) (Go.Sort.ahead w m) g 0 zs.toArray) os).heap.size := by
    simp [Go.Sort.ahead]
  have hnew := hold g hgl
  rw [if_pos rfl] at hnew
  refine ⟨?_, ?_, ?_⟩
  · refine Kd.R_of_own (enc := Value.int .i64) ⟨by rw [encs_length, Nat.mul_one], .inr ⟨g, cap, _, by rw [hn], hg, hnew, by omega, hc2, ?_, ?_⟩⟩ (fun k hk => .inl (by injection hk with hk; rw [← hk]; exact hok))
    · rw [← hc3]; simp [putCells]
    · apply List.ext_getElem?
      intro j
      by_cases hj : j < ys.length
      · rw [List.getElem?_take_of_lt (by omega), encs_get (d := (0 : Int)) ys j hj]
        have hjc : j < cur.size := by omega
        have hjz : j < zs.length := by omega
        have e1 : zs[j] = ys[j] := by
          have : (zs.take n)[j]? = ys[j]? := by rw [hy]
          rw [List.getElem?_take_of_lt (by omega), List.getElem?_eq_getElem hjz, List.getElem?_eq_getElem hj] at this
          exact Option.some.inj this
        simp [putCells, hjc, hjz, hj, List.getD_eq_getElem?_getD, e1]
      · rw [List.getElem?_eq_none (by rw [List.length_take]; omega), List.getElem?_eq_none (by rw [encs_length]; omega)]
  · exact ⟨hB.os, hB.tape, hB.output, Nat.le_trans hB.size hsize, fun k hk => by
      have hk2 : k < w.heap.size := Nat.lt_of_lt_of_le hk hB.size
      rw [hold k hk2, if_neg (by omega)]
      exact hB.block k hk⟩
  · refine ⟨hsize, fun k hk hn => ?_⟩
    rw [hold k hk, if_neg (fun e => hn (by rw [e]; exact hok))]
/-- what an own row of whole numbers holds -/
theorem holds_own {w : World} {g : Nat} {l0 : List Int} {cur : Array Value} (hh : w.heap[g]? = some (.cells cur 2 (0, 0))) (hc4 : cur.toList.take (l0.length * 1) = encs (Value.int .i64) l0) : Holds (Value.int .i64) w g 0 l0.toArray := by
  have hcur : ∀ j, j < l0.length → cur[j]? = some (.int .i64 (l0.getD j 0)) := by
    intro j hj
    have h1 : (cur.toList.take (l0.length * 1))[j]? = some (.int .i64 (l0.getD j 0)) := by
      rw [hc4]; exact encs_get (d := (0 : Int)) l0 j hj
    rw [List.getElem?_take_of_lt (by omega)] at h1
    simpa using h1
  intro j hj
  have hj : j < l0.length := by simpa using hj
  refine ⟨?_, ?_⟩
  · rw [Nat.zero_add, blk_cell hh j, hcur j hj]
    simp [List.getD_eq_getElem?_getD, hj]
  · exact blk_frozen hh _
theorem slices_Sort.calls (P0_ : Nat → Prop) (u9000_ : Value) (l0 : List Int) (r : List Int) (w0 w : World) (hB : Below w0.heap.size w0 w) (ho0 : Kd.R (Kd.int .i64) 2 w w0.heap.size P0_ u9000_ l0) (h : slices_Sort.f l0 = some r) :
    Calls Try.prog 32 #[u9000_] w fun e w' => e = .returned (.tuple #[]) ∧ Kd.R (Kd.int .i64) 2 w' w0.heap.size (fun k_ => (P0_ k_ ∨ w.heap.size ≤ k_)) u9000_ r ∧ Below w0.heap.size w0 w' ∧ Kept w w' (fun k_ => P0_ k_) := by
  unfold slices_Sort.f at h
  split at h
  case isFalse => cases h
  case isTrue hsz =>
  obtain rfl := Option.some.inj h
  have ho := Kd.own_of_R ho0
  have hok := ho0.1
  rcases ho.2 with ⟨rfl, hn⟩ | ⟨g, cap, cur, rfl, hg, hh, hc1, hc2, hc3, hc4⟩
  · have e0 : l0 = [] := List.eq_nil_of_length_eq_zero hn
    subst e0
    refine (Try.slices_Sort_int_none none 0 w).mono ?_
    rintro e w' ⟨rfl, rfl⟩
    exact ⟨rfl, by rw [show sortI [] = [] by simp [sortI]]; exact Kd.R_nil _ _ _ _ _, hB, Kept.refl _ _⟩
  · refine (Try.slices_Sort_int g 0 cap l0 w (holds_own hh hc4) (Array.getElem?_eq_some_iff.1 hh).1 hsz).mono ?_
    rintro e w' ⟨rfl, m, os, hw⟩
    exact ⟨rfl, row_again (ys := sortI l0) (zs := sortI l0) hB hg hh (sortI_len l0).symm hc1 hc2 hc3 (Nat.le_refl _) (sortI_len l0) (List.take_of_length_le (by rw [sortI_len]; exact Nat.le_refl _)) (hok g rfl) hw⟩
def slices_Compact.f (l0 : List Int) : Option (List Int) := if l0.length ≤ 9223372036854775807 then some (Lib.compact l0) else none
theorem slices_Compact.calls (P0_ : Nat → Prop) (u9000_ : Value) (l0 : List Int) (r : List Int) (w0 w : World) (hB : Below w0.heap.size w0 w) (ho0 : Kd.R (Kd.int .i64) 2 w w0.heap.size P0_ u9000_ l0) (h : slices_Compact.f l0 = some r) :
    Calls Try.prog 33 #[u9000_] w fun e w' => ∃ v0_ : Value, e = .returned (v0_) ∧ Kd.R (Kd.int .i64) 2 w' w0.heap.size (fun k_ => (P0_ k_ ∨ w.heap.size ≤ k_)) v0_ r ∧ Below w0.heap.size w0 w' ∧ Kept w w' (fun k_ => P0_ k_) := by
  unfold slices_Compact.f at h
  split at h
  case isFalse => cases h
  case isTrue hsz =>
  obtain rfl := Option.some.inj h
  have ho := Kd.own_of_R ho0
  have hok := ho0.1
  rcases ho.2 with ⟨rfl, hn⟩ | ⟨g, cap, cur, rfl, hg, hh, hc1, hc2, hc3, hc4⟩
  · have e0 : l0 = [] := List.eq_nil_of_length_eq_zero hn
    subst e0
    refine (Try.slices_Compact_int_empty none 0 w).mono ?_
    rintro e w' ⟨rfl, rfl⟩
    exact ⟨_, rfl, Kd.R_nil _ _ _ _ _, hB, Kept.refl _ _⟩
  · refine (Try.slices_Compact_int g 0 cap l0 w (holds_own hh hc4) hsz hc1).mono ?_
    rintro e w' ⟨rfl, m, hw⟩
    have hle := Lib.compact_length_le l0
    exact ⟨_, rfl, row_again (os := #[]) (ys := Lib.compact l0) (zs := Lib.compact l0 ++ List.replicate (l0.length - (Lib.compact l0).length) 0) hB hg hh rfl hc1 hc2 hc3 hle (by rw [List.length_append, List.length_replicate]; omega) (by simp) (hok g rfl) (by rw [hw, grow_empty])⟩
end Go.Proofs.YtopopjkoanpjiaaX

/- The builtin clear at the end of an own row: what stands ahead of the cut stands there still. -/
import Derived.Test.YtnidibnhojedoaaXOpen
namespace Go.Proofs.YtnidibnhojedoaaX
open Go Go.RowKit Go.Proofs.YtnidibnhojedoaaW.PrintWords
section
variable {α : Type} {d : Kd α} {P : Program}

theorem size_zeros (z : Array Value) (n : Nat) : (Builtin.zeroCells z n).size = n * z.size := by simp [Builtin.zeroCells]

theorem zeros_one {z : Array Value} (h : ∀ v ∈ z.toList, v.oneCell' = true) (n : Nat) : ∀ v ∈ (Builtin.zeroCells z n).toList, v.oneCell' = true := by
  intro v hv
  unfold Builtin.zeroCells at hv
  rw [Array.toList_map] at hv
  obtain ⟨i, hi, rfl⟩ := List.mem_map.1 hv
  have hlt : i < n * z.size := by simpa using hi
  have hz : 0 < z.size := by
    rcases Nat.eq_zero_or_pos z.size with h0 | h0
    · rw [h0] at hlt; omega
    · exact h0
  have hm : i % z.size < z.size := Nat.mod_lt _ hz
  rw [getElem!_pos z (i % z.size) hm]
  exact h _ (by simp)

theorem clear_tail {e m n c : Nat} {W : World} {base : Nat} {ok : Nat → Prop} {A A1 : Option Addr} {c1 : Nat} {xs : List α} {t ty : TypeId} {z : Value} (h : d.R e W base ok (.slice A n c) xs) (hm : m ≤ xs.length) (ht : P.underlying t = some (.slice e))
    (hz : ∀ u : World, (zeroValue e).run P u = .ok z u) (hzs : z.cells.size = d.sz) (hz1 : ∀ v ∈ z.cells.toList, v.oneCell' = true) (hA1 : A1 = if c = m then A else A.map (·.add (m * d.sz))) :
    ∃ W', (Builtin.clear_ #[t] ty #[.slice A1 (xs.length - m) c1]).run P W = .ok (.tuple #[]) W' ∧ d.R e W' base ok (.slice A m c) (xs.take m) ∧ W.grownBy W' (Value.slice A n c).ownBlock := by
  have hrefl : W.grownBy W (Value.slice A n c).ownBlock := ⟨rfl, rfl, rfl, Nat.le_refl _, fun _ _ _ => rfl⟩
  have hT := Kd.R_take h hm
  by_cases h0 : xs.length - m = 0
  · refine ⟨W, ?_, hT, hrefl⟩
    rw [h0]
    cases A1 <;> simp [Builtin.clear_, run_underlying ht]
  · obtain ⟨hok, inner, ho, hr⟩ := h
    rcases ho.2 with ⟨he, hl0⟩ | ⟨g, cap, cur, he, hb, hh, hnc, hcm, hcs, htake⟩
    · omega
    · injection he with hA hn hc
      subst hA
      subst hc
      subst hn
      rw [if_neg (by omega)] at hA1
      have hA2 : A1 = some ⟨g, m * d.sz, none⟩ := by
        rw [hA1]
        show some (Addr.add ⟨g, 0, none⟩ (m * d.sz)) = _
        unfold Addr.add
        by_cases hz0 : m * d.sz = 0
        · simp [hz0]
        · simp [hz0]
      subst hA2
      have hml : m * d.sz + (xs.length - m) * d.sz ≤ cur.size := by
        rw [← Nat.add_mul, hcs]
        exact Nat.mul_le_mul_right _ (by omega)
      have hst := run_storeCells_at (P := P) g (m * d.sz) e (Builtin.zeroCells z.cells (xs.length - m)).toList 0 cur W hh (by rw [Array.length_toList, size_zeros, hzs]; omega) (zeros_one hz1 _)
      obtain ⟨hok2, inner2, ho2, hr2⟩ := hT
      have htl : (xs.take m).length = m := by rw [List.length_take]; omega
      have hgr : ∀ C : Array Value, C.size = cur.size → W.grownBy (W.setRow g C) (Value.slice (some ⟨g, 0, none⟩) xs.length c).ownBlock := fun C _ => ⟨rfl, rfl, rfl, by simp [World.setRow], fun k _ hk => setRow_other W g k _ (fun e => hk (by simp [Value.ownBlock, e]))⟩
      refine ⟨W.setRow g (cur.toList.take (m * d.sz + 0) ++ (Builtin.zeroCells z.cells (xs.length - m)).toList ++ cur.toList.drop (m * d.sz + 0 + (Builtin.zeroCells z.cells (xs.length - m)).toList.length)).toArray, ?_, ⟨hok2, inner2, ⟨ho2.1, .inr ⟨g, c, _, by rw [htl], hb, setRow_heap W g cur _ e _ hh, by omega, hcm, ?_, ?_⟩⟩, ?_⟩, hgr _ (by simp only [List.size_toArray, List.length_append, List.length_take, List.length_drop, Array.length_toList, size_zeros, hzs]; omega)⟩
      · obtain ⟨q, hq⟩ : ∃ q, xs.length - m = q + 1 := ⟨xs.length - m - 1, by omega⟩
        rw [hq] at hst ⊢
        simp [Builtin.clear_, run_underlying ht, hz, hst]
      · simp only [List.size_toArray, List.length_append, List.length_take, List.length_drop, Array.length_toList, size_zeros, hzs]
        omega
      · rcases ho2.2 with ⟨he2, _⟩ | ⟨g2, cap2, cur2, he2, hb2, hh2, hnc2, hcm2, hcs2, htake2⟩
        · cases he2
        · injection he2 with ha2 _ _
          injection ha2 with ha2
          injection ha2 with ha2 _ _
          subst ha2
          rw [hh] at hh2
          injection hh2 with hh2
          injection hh2 with hh2 _ _
          subst hh2
          rw [← htake2, List.length_take, Nat.min_eq_left hm]
          simp only [Nat.add_zero, List.append_assoc]
          rw [List.take_append_of_le_length (by rw [List.length_take, Array.length_toList]; omega), List.take_take, Nat.min_self]
      · exact hr2.imp_ (fun _ _ hp => Kd.M_step hp (fun k ho hk => setRow_other W g k _ (fun e => ho.2 (by simp [Value.ownBlock, e]))))
end
section
variable {P : Program} {ops : Array Oper} {rest : List Oper} {o : Oper} {a : Act} {Q : Exit → Act → World → Prop}
/-- clear, as an arm. -/
theorem clear_event {W : World} {p : Nat} {t : TypeId} (hgd : o.guard = none) (hop : o.op = .call { callee := .builtin .clear, args := #[.tmp p], argTypes := #[t] }) (hN : o.dst = none) {x : Value} (hx : a.eval (.tmp p) = x) {w1 : World}
    (hrun : (Builtin.clear_ #[t] o.type #[x]).run P W = .ok (.tuple #[]) w1) (h : wpList P ops Q rest a w1) : wpList P ops Q (o :: rest) a W := by
  refine wpList_plain hgd fun K hK => ?_
  unfold Oper.wp
  simp [execOp, hop, resolve, invoke, builtin, hx, hrun, Result.andThen]
  show K (a.put o.dst _) w1
  rw [hN]
  exact hK _ _ h
theorem zero_run {e : TypeId} {z : Value} {size bytes : Nat} (h : (P.info? e).map (fun i => (i.zero, i.size, i.bytes)) = some (some z, size, bytes)) : ∀ w : World, (zeroValue e).run P w = .ok z w := by
  intro w
  obtain ⟨i, hi, hz, _, _⟩ := info_parts h
  simp [zeroValue, typeInfo, hi, hz]

theorem clear_arm {α : Type} (d : Kd α) {e m n c base bytes : Nat} {W : World} {ok : Nat → Prop} {A A1 : Option Addr} {c1 l1 : Nat} {xs : List α} {p : Nat} {t : TypeId} {z : Value} (hgd : o.guard = none) (hN : o.dst = none)
    (hop : o.op = .call { callee := .builtin .clear, args := #[.tmp p], argTypes := #[t] }) (ht : P.underlying t = some (.slice e)) (hinfo : (P.info? e).map (fun i => (i.zero, i.size, i.bytes)) = some (some z, d.sz, bytes)) (hzs : z.cells.size = d.sz) (hz1 : z.cells.toList.all (fun v => v.oneCell') = true)
    (hR : d.R e W base ok (.slice A n c) xs) (hm : m ≤ xs.length) (hl1 : l1 = xs.length - m) (hA1 : A1 = if c = m then A else A.map (·.add (m * d.sz))) (hx : a.eval (.tmp p) = .slice A1 l1 c1)
    (h : ∀ w1, d.R e w1 base ok (.slice A m c) (xs.take m) → W.grownBy w1 (Value.slice A n c).ownBlock → wpList P ops Q rest a w1) : wpList P ops Q (o :: rest) a W := by
  subst hl1
  obtain ⟨w1, hrun, h1, h2⟩ := clear_tail (P := P) (ty := o.type) (c1 := c1) hR hm ht (zero_run hinfo) hzs (fun v hv => List.all_eq_true.1 hz1 v hv) hA1
  exact clear_event hgd hop hN hx hrun (h w1 h1 h2)
end
end Go.Proofs.YtnidibnhojedoaaX

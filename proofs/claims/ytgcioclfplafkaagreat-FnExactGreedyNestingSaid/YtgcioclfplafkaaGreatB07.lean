/- slices.Delete; the whole table; no condition. -/
import Derived.Test.YtgcioclfplafkaaGreatB02
import Derived.Shelf.RegionOpenPlain
import Derived.WalkKit
import Derived.Deep.LoopGhost
import Derived.Deep.RegionLaw
import Derived.Lib.Walk
import Derived.Sort.WalkB12
import Derived.Lib.SliceRun
import Derived.KernelRfl
import Derived.Shelf.Bits.Mul64
import Derived.Test.YtgcioclfplafkaaGreatB03
import Derived.Test.YtgcioclfplafkaaGreatB04
import Derived.Test.YtgcioclfplafkaaGreatB05
import Derived.Test.YtgcioclfplafkaaGreatB06
set_option linter.all false
set_option maxRecDepth 100000
section
namespace Go.Proofs.YtgcioclfplafkaaGreatV
open Go Go.RowKit Go.Proofs Go.Lib
theorem clear_pts (w : World) (ty : TypeId) (b o n c : Nat) (hn : 0 < n)
  (hc : ∀ j, j < n * 2 → (w.cell? ⟨b, o + j, none⟩).isSome = true) (hf : ∀ j, j < n * 2 → w.frozen? ⟨b, o + j, none⟩ = false) :
  (Builtin.clear_ #[37] ty #[.slice (some ⟨b, o, none⟩) n c]).run Tryz.prog w = .ok (.tuple #[]) (w.setCells b o (List.replicate (n * 2) (.int .i64 0))) := by
 have hz : ∀ w, (zeroValue 108).run Tryz.prog w = .ok (.agg #[.int .i64 0, .int .i64 0]) w := by intro w; kernel_rfl
 have hzc : (Builtin.zeroCells (Value.agg #[.int .i64 0, .int .i64 0]).cells n).toList = List.replicate (n * 2) (.int .i64 0) := by
  simp only [Builtin.zeroCells, Value.cells, Array.toList_map]
  apply List.ext_getElem
  ·simp
  ·intro k h1 h2
   simp only [List.getElem_map, List.getElem_replicate, Array.getElem_toList, Array.getElem_range]
   have : k % (#[Value.int .i64 0, Value.int .i64 0] : Array Value).size = 0 ∨ k % (#[Value.int .i64 0, Value.int .i64 0] : Array Value).size = 1 := by
    simp only [List.size_toArray, List.length_cons, List.length_nil]
    omega
   rcases this with e | e <;> rw [e] <;> rfl
 have hst := run_storeCells_cells (P := Tryz.prog) b o (List.replicate (n * 2) (.int .i64 0)) 0 w (by simpa using hc) (by simpa using hf) (by intro v hv'; rw [List.eq_of_mem_replicate hv']; rfl)
 simp only [Nat.add_zero] at hst
 obtain ⟨m, rfl⟩ : ∃ m, n = m + 1 := ⟨n - 1, by omega⟩
 simp [Builtin.clear_, run_underlying Tryz.underlying37, hz, hzc, hst]
theorem add_lit (b o k : Nat) : (⟨b, o, none⟩ : Addr).add k = ⟨b, o + k, none⟩ := by unfold Addr.add; split <;> simp_all
set_option maxHeartbeats 4000000 in
set_option maxRecDepth 1000000 in
theorem del_walk (blk cap i j n : Nat) (news : List Value) (w : World) (hlen : news.length = (n - j) * 2) (hn : n ≤ cap) (hm : cap ≤ 9223372036854775807) (hij : i < j) (hj : j ≤ n) (h1 : ∀ u ∈ news, u.oneCell' = true)
  (hsrc : ∀ t u, news[t]? = some u → w.cell? ⟨blk, j * 2 + t, none⟩ = some u) (hsp : ∀ t, t < n * 2 → (w.cell? ⟨blk, t, none⟩).isSome = true ∧ w.frozen? ⟨blk, t, none⟩ = false)
  (hcl : ∀ t, t < n * 2 → ((w.drew.setCells blk (i * 2) news).cell? ⟨blk, t, none⟩).isSome = true ∧ (w.drew.setCells blk (i * 2) news).frozen? ⟨blk, t, none⟩ = false) :
  Calls Tryz.prog 155 #[.slice (some ⟨blk, 0, none⟩) n cap, .int .i64 i, .int .i64 j] w fun e w' => e = .returned (.slice (some ⟨blk, 0, none⟩) (i + (n - j)) cap) ∧ w' = (w.drew.setCells blk (i * 2) news).setCells blk ((i + (n - j)) * 2) (List.replicate ((n - (i + (n - j))) * 2) (.int .i64 0)) := by
 have mixed : Tryz.prog.follows .mixedOrders = true := by kernel_rfl
 obtain ⟨i0, _, hi0, _, hz1, _⟩ := ty_info tab_ok (t := 108) rfl
 have hz1 : i0.size = 2 := hz1
 obtain ⟨A, hA, hsrc2⟩ : ∃ A : Addr, (if cap = j then some (⟨blk, 0, none⟩ : Addr) else some ⟨blk, j * 2, none⟩) = some A ∧ Hid (∀ t u, news[t]? = some u → w.drew.cell? (A.add t) = some u) := by
  by_cases h : cap = j
  ·refine ⟨⟨blk, 0, none⟩, by simp [h], fun t u hu => ?_⟩
   have h0 : news.length = 0 := by rw [hlen, show n - j = 0 by omega]
   rw [List.length_eq_zero_iff.1 h0] at hu
   simp at hu
  ·refine ⟨⟨blk, j * 2, none⟩, by simp [h], fun t u hu => ?_⟩
   rw [add_lit]
   exact hsrc t u hu
 have s1 : Hid (news.length = (n - j) * 2) := hlen
 have s2 : Hid (∀ u ∈ news, u.oneCell' = true) := h1
 have s3 : Hid (∀ t, t < news.length → (w.drew.cell? ⟨blk, 0 + i * 2 + t, none⟩).isSome = true ∧ w.drew.frozen? ⟨blk, 0 + i * 2 + t, none⟩ = false) := by
  intro t ht
  rw [hlen] at ht
  rw [Nat.zero_add]
  exact hsp (i * 2 + t) (by omega)
 obtain ⟨W1, hW1⟩ : ∃ W1, W1 = w.drew.setCells blk (0 + i * 2) news := ⟨_, rfl⟩
 have hcl2 : ∀ ty, (Builtin.clear_ #[37] ty #[.slice (some ⟨blk, (i + (n - j)) * 2, none⟩) (n - (i + (n - j))) (cap - (i + (n - j)))]).run Tryz.prog W1 = .ok (.tuple #[]) (W1.setCells blk ((i + (n - j)) * 2) (List.replicate ((n - (i + (n - j))) * 2) (.int .i64 0))) :=
  fun ty => clear_pts W1 ty blk _ _ _ (by omega) (fun t ht => by rw [hW1, Nat.zero_add]; exact (hcl _ (by omega)).1) (fun t ht => by rw [hW1, Nat.zero_add]; exact (hcl _ (by omega)).2)
 have X : Aside (W1 = w.drew.setCells blk (i * 2) news) := by rw [hW1, Nat.zero_add]; exact rfl
 have hW : Hid (W1 = w.drew.setCells blk (0 + i * 2) news) := hW1
 have hic : i ≤ cap := by omega
 have hjc : j ≤ cap := by omega
 have hne : cap ≠ i + (n - j) := by omega
 clear hW1 hsp hsrc hcl h1 hlen
 go_enter Tryz.func155, Tryz.ntmps155
 go_wp2_with fail
 go_region_law_o (refine step_append_room rfl (.tmp 22) (.tmp 25) 37 rfl 108 i0 2 Tryz.underlying37 hi0 hz1 blk 0 i cap (by simp [Act.eval, Act.put]) A (n - j) (cap - j) news (by simp [Act.eval, Act.put]) s1.out hsrc2.out s2.out (by omega) s3.out ?_; rw [← hW.out])
 go_wp2
 go_ret
 exact ⟨rfl, by rw [← X.out]⟩
theorem delH_leaf (R : Type) (args : List TV) (objs : List Ob) (K : TV → List Ob → Option R) : delH args objs K = (delH args objs (fun v l => some (v, l))).bind fun p => K p.1 p.2 := by
 unfold delH
 split
 ·simp only [cond_eq_ite]
  repeat' (first | rfl | split)
 ·rfl
theorem setCells_row {w : World} {b o : Nat} {cs : Array Value} {ty : TypeId} (hh : w.heap[b]? = some (.cells cs ty (0, 0))) {vs : List Value} (hfit : o + vs.length ≤ cs.size) (h1 : ∀ v ∈ vs, v.oneCell' = true) :
  w.setCells b o vs = w.setRow b (cs.toList.take o ++ vs ++ cs.toList.drop (o + vs.length)).toArray := by
 have e1 := run_storeCells_cells (P := Tryz.prog) b o vs 0 w (fun j hj => by
  simp only [Nat.add_zero, World.cell?, hh]
  rw [Array.getElem?_eq_getElem (by omega)]; rfl) (fun j hj => by simp [World.frozen?, hh]) h1
 have e2 := run_storeCells_at Tryz.prog b o ty vs 0 cs w hh (by simpa using hfit) h1
 rw [e1] at e2
 simp only [Nat.add_zero] at e2
 injection e2
theorem put_get3 (cs : List Value) (o : Nat) (vs : List Value) (q : Nat) (hfit : o + vs.length ≤ cs.length) : (cs.take o ++ vs ++ cs.drop (o + vs.length))[q]? = if q < o then cs[q]? else if q < o + vs.length then vs[q - o]? else cs[q]? := by
 by_cases h1 : q < o
 ·rw [if_pos h1, List.append_assoc, List.getElem?_append_left (by simp; omega), List.getElem?_take_of_lt h1]
 ·rw [if_neg h1]
  by_cases h2 : q < o + vs.length
  ·rw [if_pos h2, List.getElem?_append_left (by simp; omega), List.getElem?_append_right (by simp; omega)]
   congr 1; simp; omega
  ·rw [if_neg h2, List.getElem?_append_right (by simp; omega), List.getElem?_drop]
   congr 1; simp; omega
theorem del_ok : ProcOK Tryz.prog 155 delH := by
 intro args objs res l hK w vals S g hargs hobs hnd hlt hS
 have h : delH args objs (fun v l => some (v, l)) = some (res, l) := hK (fun v l => some (v, l))
 clear hK
 unfold delH at h
 split at h
 ·rename_i a b xs
  simp only [cond_eq_ite, decide_eq_true_eq] at h
  split at h
  ·rename_i ha
   split at h
   ·rename_i hab
    split at h
    ·rename_i hb
     simp only [Option.some.injEq, Prod.mk.injEq] at h
     obtain ⟨rfl, rfl⟩ := h
     obtain ⟨x0, hd, rows, rfl, hx0, hown⟩ : ∃ x0 hd rows, g = [x0, .row (.sl 2 hd rows)] ∧ ObOK w S g .gone x0 ∧ OwnC w (.sl (.pair (.int .i64) (.int .i64))) #[hd] 0 xs (.sl 2 hd rows) := by
      match g, hobs with
      | [x0, x1], hobs =>
       obtain ⟨h1, h2, _⟩ := hobs
       cases x1 with
       | row t =>
        obtain ⟨v, rows, e, h3⟩ := h2
        subst e
        exact ⟨x0, v, rows, rfl, h1, h3⟩
       | _ => exact h2.elim
     obtain ⟨rfl, _⟩ : vals = [hd, .int .i64 a, .int .i64 b] ∧ True := by
      match vals, hargs with
      | [v0, v1, v2], hargs =>
       obtain ⟨h1, h2, h3, _⟩ := hargs
       have h1 : v0 = hd := h1
       have h2 : v1 = .int .i64 a := h2
       have h3 : v2 = .int .i64 b := h3
       subst h1; subst h2; subst h3
       exact ⟨rfl, trivial⟩
     obtain ⟨v', rows', e, h1, h2⟩ := hown
     injection e with _ e2 e3
     subst e2; subst e3
     obtain ⟨i, rfl⟩ : ∃ i : Nat, a = (i : Int) := ⟨a.toNat, by omega⟩
     obtain ⟨j, rfl⟩ : ∃ j : Nat, b = (j : Int) := ⟨b.toNat, by omega⟩
     simp only [Int.toNat_natCast]
     rcases h2 with ⟨h2, _⟩ | ⟨blk, cap, cs, ty, hv, hc, hm, hh, hsz, hrl, hr⟩
     ·subst h2; simp at hb; omega
     ·subst hv
      have hsz : cs.size = cap * 2 := hsz
      have hcell : ∀ k, (hk : k < xs.length) → cs[k * 2]? = some (.int .i64 xs[k].1) ∧ cs[k * 2 + 1]? = some (.int .i64 xs[k].2) := fun k hk => by
       obtain ⟨ga, gb, _, h3, h4⟩ := hr k hk (by omega)
       exact ⟨h3.1, h4.1⟩
      have hone : ∀ q, q < xs.length * 2 → ∃ z, cs[q]? = some (.int .i64 z) := fun q hq => by
       have := hcell (q / 2) (by omega)
       rcases (show q = q / 2 * 2 ∨ q = q / 2 * 2 + 1 by omega) with e | e
       ·rw [← e] at this; exact ⟨_, this.1⟩
       ·rw [← e] at this; exact ⟨_, this.2⟩
      generalize hnw : (cs.toList.drop (j * 2)).take ((xs.length - j) * 2) = news
      have hnl : news.length = (xs.length - j) * 2 := by rw [← hnw]; simp; omega
      have hnget : ∀ t, t < (xs.length - j) * 2 → news[t]? = cs[j * 2 + t]? := fun t ht => by
       rw [← hnw, List.getElem?_take_of_lt ht, List.getElem?_drop, Array.getElem?_toList]
      have hn1 : ∀ u ∈ news, u.oneCell' = true := fun u hu => by
       obtain ⟨t, ht, e⟩ := List.getElem_of_mem hu
       have h3 := hnget t (by omega)
       rw [List.getElem?_eq_getElem ht, e] at h3
       obtain ⟨z, hz⟩ := hone (j * 2 + t) (by omega)
       rw [hz] at h3
       injection h3 with h3
       rw [h3]; rfl
      have hh' : w.drew.heap[blk]? = some (.cells cs ty (0, 0)) := hh
      have hfit1 : i * 2 + news.length ≤ cs.size := by omega
      have e1 := setCells_row hh' hfit1 hn1
      generalize hcs1 : (cs.toList.take (i * 2) ++ news ++ cs.toList.drop (i * 2 + news.length)).toArray = cs1 at e1
      have hs1 : cs1.size = cs.size := by rw [← hcs1]; simp; omega
      have hget1 : ∀ q, cs1[q]? = if q < i * 2 then cs[q]? else if q < i * 2 + news.length then news[q - i * 2]? else cs[q]? := fun q => by
       rw [← hcs1, List.getElem?_toArray, put_get3 _ _ _ _ (by simpa using hfit1)]; simp
      have hh1 : (w.drew.setRow blk cs1).heap[blk]? = some (.cells cs1 ty (0, 0)) := setRow_heap w.drew blk cs cs1 ty _ hh'
      generalize hzz : List.replicate ((xs.length - (i + (xs.length - j))) * 2) (Value.int .i64 0) = zs
      have hzl : zs.length = (xs.length - (i + (xs.length - j))) * 2 := by rw [← hzz]; simp
      have hfit2 : (i + (xs.length - j)) * 2 + zs.length ≤ cs1.size := by omega
      have e2 := setCells_row hh1 hfit2 (fun v hv => by rw [← hzz] at hv; rw [List.eq_of_mem_replicate hv]; rfl)
      generalize hcs2 : (cs1.toList.take ((i + (xs.length - j)) * 2) ++ zs ++ cs1.toList.drop ((i + (xs.length - j)) * 2 + zs.length)).toArray = cs2 at e2
      have hs2 : cs2.size = cs.size := by rw [← hcs2]; simp; omega
      have hget2 : ∀ q, q < (i + (xs.length - j)) * 2 → cs2[q]? = cs1[q]? := fun q hq => by
       rw [← hcs2, List.getElem?_toArray, put_get3 _ _ _ _ (by simpa using hfit2), if_pos hq]; simp
      refine (del_walk blk cap i j xs.length news w hnl hc (Nat.le_trans hm (by decide)) (by omega) (by omega) hn1 (fun t u hu => ?_) (fun t ht => ?_) (fun t ht => ?_)).mono (fun e w' h3 => ?_)
      ·have htl := (List.getElem?_eq_some_iff.1 hu).1
       rw [hnget t (by omega)] at hu
       simp [World.cell?, hh, hu]
      ·refine ⟨?_, by simp [World.frozen?, hh]⟩
       simp only [World.cell?, hh]
       rw [Array.getElem?_eq_getElem (by omega)]; rfl
      ·rw [e1]
       refine ⟨?_, by simp [World.frozen?, hh1]⟩
       simp only [World.cell?, hh1]
       rw [Array.getElem?_eq_getElem (by omega)]; rfl
      ·obtain ⟨rfl, rfl⟩ := h3
       rw [hzz, e1, e2]
       have hblk : blk ∈ (Gh.row (.sl 2 (.slice (some ⟨blk, 0, none⟩) xs.length cap) rows)).blocks := by simp [Gh.blocks, GT.blocks, blockOf]
       have hx0b : blk ∉ x0.blocks := fun hb' => nodup_apart (i := 0) (j := 1) hnd (by omega) rfl rfl blk hb' hblk
       have hother : ∀ c, c ≠ blk → ((w.drew.setRow blk cs1).setRow blk cs2).heap[c]? = w.heap[c]? := fun c hc' => by
        rw [setRow_other _ blk c cs2 hc', setRow_other w.drew blk c cs1 hc']; rfl
       have hsize : ((w.drew.setRow blk cs1).setRow blk cs2).heap.size = w.heap.size := by simp
       have hleaf : ∀ m, GT.blocksL (List.replicate m (GT.pair 1 .leaf .leaf)) = [] := fun m => by
        induction m with
        | zero => rfl
        | succ m ih => rw [List.replicate_succ, GT.blocksL, ih]; rfl
       have hB2 : allB [x0, .gone, .row (.sl 2 (.slice (some ⟨blk, 0, none⟩) (i + (xs.length - j)) cap) (List.replicate (i + (xs.length - j)) (GT.pair 1 .leaf .leaf)))] = x0.blocks ++ [blk] := by
        simp [allB, Gh.blocks, GT.blocks, blockOf, hleaf]
       have hsub : ∀ b ∈ x0.blocks ++ [blk], b ∈ allB [x0, Gh.row (.sl 2 (.slice (some ⟨blk, 0, none⟩) xs.length cap) rows)] := fun b hb' => by
        rcases List.mem_append.1 hb' with hb' | hb'
        ·exact allB_mem (id := 0) rfl hb'
        ·simp only [List.mem_singleton] at hb'
         subst hb'
         exact allB_mem (id := 1) rfl hblk
       refine ⟨_, rfl, ⟨rfl, rfl, rfl, by rw [hsize]; exact Nat.le_refl _, fun c _ hc' => hother c (fun e => hc' (by rw [e]; exact allB_mem (id := 1) rfl hblk))⟩, [x0, .gone, .row (.sl 2 (.slice (some ⟨blk, 0, none⟩) (i + (xs.length - j)) cap) (List.replicate (i + (xs.length - j)) (GT.pair 1 .leaf .leaf)))], ?_, ⟨?_, trivial, ⟨.slice (some ⟨blk, 0, none⟩) (i + (xs.length - j)) cap, List.replicate (i + (xs.length - j)) (GT.pair 1 .leaf .leaf), rfl, ?_⟩, trivial⟩, ?_, fun b hb' => ?_, ⟨fun k t hk => ?_, fun k x hx hk => ?_⟩⟩
       ·exact rfl
       ·cases x0 with
        | gone => exact trivial
        | hid hs =>
         intro p hp
         rw [hother p.1 (fun e => hx0b (by rw [← e]; exact List.mem_map.2 ⟨p, hp, rfl⟩))]
         exact hx0 p hp
        | _ => exact hx0.elim
       ·refine ⟨_, _, rfl, rfl, .inr ⟨blk, cap, cs2, ty, ?_, ?_, hm, ?_, by rw [hs2]; exact hsz, ?_, fun k hk hk' => ?_⟩⟩
        ·congr 1; simp; omega
        ·simp; omega
        ·exact setRow_heap _ blk cs1 cs2 ty _ hh1
        ·simp; omega
        ·have hkm : k < i + (xs.length - j) := by simpa using hk'
         rw [List.getElem_replicate]
         have hq : ∀ d, d < 2 → cs2[k * 2 + d]? = cs[(if k < i then k else j + (k - i)) * 2 + d]? := fun d hd' => by
          rw [hget2 _ (by omega), hget1]
          by_cases hki : k < i
          ·rw [if_pos (by omega), if_pos hki]
          ·rw [if_neg (by omega), if_pos (by omega), if_neg hki, hnget _ (by omega)]
           congr 1; omega
         have hel : (List.take i xs ++ List.drop j xs)[k]'hk = xs[if k < i then k else j + (k - i)]'(by split <;> omega) := by
          by_cases hki : k < i
          ·rw [List.getElem_append_left (by simp; omega)]
           simp [hki]
          ·rw [List.getElem_append_right (by simp; omega)]
           simp only [List.getElem_drop, List.length_take, hki, if_false]
           congr 1; omega
         have hc3 := hcell (if k < i then k else j + (k - i)) (by split <;> omega)
         have hq0 := hq 0 (by omega)
         have hq1 := hq 1 (by omega)
         simp only [Nat.add_zero] at hq0
         refine ⟨.leaf, .leaf, rfl, ⟨?_, rfl⟩, ⟨?_, rfl⟩⟩
         ·show cs2[k * 2]? = some (.int .i64 (((List.take i xs ++ List.drop j xs)[k]'hk).1))
          rw [hq0, hel]; exact hc3.1
         ·show cs2[k * 2 + 1]? = some (.int .i64 (((List.take i xs ++ List.drop j xs)[k]'hk).2))
          rw [hq1, hel]; exact hc3.2
       ·rw [hB2, List.nodup_append]
        exact ⟨nodup_of (i := 0) hnd rfl, by simp, fun p hp q hq e => by simp only [List.mem_singleton] at hq; subst e; subst hq; exact hx0b hp⟩
       ·rw [hB2] at hb'
        exact ⟨by rw [hsize]; exact hlt b (hsub b hb'), .inr (hsub b hb')⟩
       ·match k, hk with
        | 0, hk =>
         simp only [List.getElem?_cons_zero, Option.some.injEq] at hk
         subst hk
         exact hx0.elim
        | 1, _ => exact .inr rfl
        | k + 2, hk => simp at hk
       ·match k, hk with
        | 0, hk => exact hk
        | 1, hk =>
         simp at hk
         subst hk
         exact hx.elim
        | k + 2, hk => simp at hk
    ·cases h
   ·cases h
  ·cases h
 ·cases h
end Go.Proofs.YtgcioclfplafkaaGreatV
end
section
namespace Go.Proofs
open Go.Shelf
def Tryz.lays264_ren : Go.Shelf.Ren := ⟨fun | 264 => 173 | n => n, fun | 53 => 209 | 46 => 213 | n => n, fun | n => n⟩
theorem Tryz.lays264 : Go.Proofs.Lays.n264 Tryz.prog Tryz.lays264_ren := {
 mixed := by kernel_rfl
 f264 := Tryz.func173.trans (congrArg some (by kernel_rfl))
 t46 := Tryz.underlying213
 a46 := Tryz.isAgg213
 z46 := Tryz.sizeOf213
 v46 := Tryz.zeroValue213
 t53 := Tryz.underlying209
 a53 := Tryz.isAgg209
 z53 := Tryz.sizeOf209
 v53 := Tryz.zeroValue209 }
open Go.RowKit Go.Lib in
theorem Tryz.bits_Mul64 (x y : Nat) (hx : x < 18446744073709551616) (hy : y < 18446744073709551616) (w : World) :
  Calls Tryz.prog 173 #[.int .u64 x, .int .u64 y] w fun e w' => e = .returned (.tuple #[.int .u64 ((x * y / 18446744073709551616 : Nat) : Int), .int .u64 ((x * y % 18446744073709551616 : Nat) : Int)]) ∧ w' = w := Any.bits_Mul64 Tryz.lays264 x y hx hy w
end Go.Proofs
namespace Go.Proofs.YtgcioclfplafkaaGreatV
open Go Go.RowKit Go.Proofs
theorem mul64_core (a0 a1 : Int) (h0 : 0 ≤ a0) (h1 : a0 < 18446744073709551616) (h2 : 0 ≤ a1) (h3 : a1 < 18446744073709551616) (h4 : a0 * a1 < 18446744073709551616) (w : World) :
  Calls Tryz.prog 173 #[.int .u64 a0, .int .u64 a1] w fun e w' => e = .returned (.tuple #[.int .u64 0, .int .u64 (a0 * a1)]) ∧ w' = w := by
 obtain ⟨m, rfl⟩ : ∃ m : Nat, a0 = (m : Int) := ⟨a0.toNat, by omega⟩
 obtain ⟨n, rfl⟩ : ∃ n : Nat, a1 = (n : Int) := ⟨a1.toNat, by omega⟩
 have h5 : m * n < 18446744073709551616 := by
  rw [← Int.natCast_mul] at h4
  omega
 refine (Tryz.bits_Mul64 m n (by omega) (by omega) w).mono (fun e w' he => ?_)
 obtain ⟨rfl, rfl⟩ := he
 rw [Nat.div_eq_of_lt h5, Nat.mod_eq_of_lt h5, Int.natCast_mul]
 exact ⟨rfl, rfl⟩
theorem c173 (k : Nat) : CallOK Tryz.prog 173 (I173.call (bits_Mul64 k)) := by
 intro args res ms hK w vals S g hargs hobs hnd hlt hS
 have h := hK (fun v m => some (v, m))
 clear hK
 unfold FunI.call at h
 obtain ⟨x, hx, h⟩ := Option.bind_eq_some_iff.1 h
 obtain ⟨y, hy, h⟩ := Option.bind_eq_some_iff.1 h
 obtain ⟨hs, hd, hx⟩ := Option.bind_eq_some_iff.1 hx
 have hinst : instTs I173.at_ (toCVs I173.cs x) = (args, []) := by
  rw [toCVs_from hx]
  have := ts_inst hd []
  rwa [List.append_nil] at this
 obtain ⟨a0, a1⟩ := x
 have hargs2 : args = [.c (.int .u64 a0), .c (.int .u64 a1)] := (congrArg Prod.fst hinst).symm
 subst hargs2
 have hy : (bif (decide (0 ≤ a0) && (decide (a0 < 18446744073709551616) && (decide (0 ≤ a1) && (decide (a1 < 18446744073709551616) && decide (a0 * a1 < 18446744073709551616))))) then some ((0 : Int), a0 * a1) else none) = some y := hy
 rw [cond_eq_ite] at hy
 split at hy
 ·rename_i hc
  simp only [Bool.and_eq_true, decide_eq_true_eq] at hc
  obtain ⟨h0, h1, h2, h3, h4⟩ := hc
  injection hy with hy
  subst hy
  have hr : res = .tup [(false, [.int .u64 0]), (false, [.int .u64 (a0 * a1)])] ∧ ms = [] := by
   have h : (TV.tup [(false, [.int .u64 0]), (false, [.int .u64 (a0 * a1)])], ([] : List CV)) = (res, ms) := by
    injection h
   injection h with e1 e2
   exact ⟨e1.symm, e2.symm⟩
  obtain ⟨rfl, rfl⟩ := hr
  have hg : g = [] := by
   cases g with
   | nil => rfl
   | cons _ _ => exact hobs.elim
  subst hg
  obtain ⟨rfl, _⟩ : vals = [.int .u64 a0, .int .u64 a1] ∧ True := by
   match vals, hargs with
   | [v0, v1], hargs =>
    obtain ⟨h1, h2, _⟩ := hargs
    have h1 : v0 = .int .u64 a0 := h1
    have h2 : v1 = .int .u64 a1 := h2
    subst h1; subst h2
    exact ⟨rfl, trivial⟩
  refine (mul64_core a0 a1 h0 h1 h2 h3 h4 w).mono (fun e w' he => ?_)
  obtain ⟨rfl, rfl⟩ := he
  exact ⟨_, rfl, Keep.refl _ _, trivial, [], ⟨_, rfl, ⟨rfl, trivial⟩, ⟨rfl, trivial⟩, trivial⟩, trivial, by simp [allB], by simp [allB]⟩
 ·cases hy
theorem c153 (k : Nat) : CallOK Tryz.prog 153 (I153.call (slices_Clone k)) := clone_ok (T := TB (K0 k) (D0 k)) (B := 16) mixed (t_nil k) rfl Tryz.func153 (by exact rfl) rfl (by exact ⟨rfl, rfl, rfl⟩) (by exact ⟨rfl, rfl, rfl⟩) (by exact ⟨rfl, rfl, rfl⟩) Tryz.underlying37 (by exact ⟨⟨⟨trivial, trivial⟩, trivial⟩, trivial, trivial⟩) (fun xs => by kernel_rfl) (fun xs => by kernel_rfl)
end Go.Proofs.YtgcioclfplafkaaGreatV
end
section
namespace Go.Proofs.YtgcioclfplafkaaGreatV
open Go Go.RowKit Go.Proofs
set_option maxHeartbeats 4000000
theorem t40 (k : Nat) (h : TF (K0 k) (D0 k)) : TF (K1 k) (D0 k) := tn h (c40 k h) Tryz.func40
theorem t108 (k : Nat) (h : TF (K1 k) (D0 k)) : TF (K2 k) (D0 k) := tn h (c108 k h) Tryz.func108
theorem t76 (k : Nat) (h : TF (K2 k) (D0 k)) : TF (K3 k) (D0 k) := tn h (c76 k h) Tryz.func76
theorem t41 (k : Nat) (h : TF (K3 k) (D0 k)) : TF (K4 k) (D0 k) := tn h (c41 k h) Tryz.func41
theorem t18 (k : Nat) (h : TF (K4 k) (D0 k)) : TF (K5 k) (D0 k) := tn h (c18 k h) Tryz.func18
theorem t42 (k : Nat) (h : TF (K5 k) (D0 k)) : TF (K6 k) (D0 k) := tn h (c42 k h) Tryz.func42
theorem t19 (k : Nat) (h : TF (K6 k) (D0 k)) : TF (K7 k) (D0 k) := tn h (c19 k h) Tryz.func19
theorem t4 (k : Nat) (h : TF (K7 k) (D0 k)) : TF (K8 k) (D0 k) := tn h (c4 k h) Tryz.func4
theorem t43 (k : Nat) (h : TF (K8 k) (D0 k)) : TF (K9 k) (D0 k) := tn h (c43 k h) Tryz.func43
theorem t20 (k : Nat) (h : TF (K9 k) (D0 k)) : TF (K10 k) (D0 k) := tn h (c20 k h) Tryz.func20
theorem t5 (k : Nat) (h : TF (K10 k) (D0 k)) : TF (K11 k) (D0 k) := tn h (c5 k h) Tryz.func5
theorem t47 (k : Nat) (h : TF (K11 k) (D0 k)) : TF (K12 k) (D0 k) := tn h (c47 k h) Tryz.func47
theorem t86 (k : Nat) (h : TF (K12 k) (D0 k)) : TF (K13 k) (D0 k) := tn h (c86 k h) Tryz.func86
theorem t109 (k : Nat) (h : TF (K13 k) (D0 k)) : TF (K14 k) (D0 k) := tn h (c109 k h) Tryz.func109
theorem t132 (k : Nat) (h : TF (K14 k) (D0 k)) : TF (K15 k) (D0 k) := tn h (c132 k h) Tryz.func132
theorem t133 (k : Nat) (h : TF (K15 k) (D0 k)) : TF (K16 k) (D0 k) := tn h (c133 k h) Tryz.func133
theorem t110 (k : Nat) (h : TF (K16 k) (D0 k)) : TF (K17 k) (D0 k) := tn h (c110 k h) Tryz.func110
theorem t134 (k : Nat) (h : TF (K17 k) (D0 k)) : TF (K18 k) (D0 k) := tn h (c134 k h) Tryz.func134
theorem t80 (k : Nat) (h : TF (K18 k) (D0 k)) : TF (K19 k) (D0 k) := tn h (c80 k h) Tryz.func80
theorem t83 (k : Nat) (h : TF (K19 k) (D0 k)) : TF (K20 k) (D0 k) := tn h (c83 k h) Tryz.func83
theorem t162 (k : Nat) (h : TF (K20 k) (D0 k)) : TF (K21 k) (D0 k) := tn h (c162 k h) Tryz.func162
theorem t142 (k : Nat) (h : TF (K21 k) (D0 k)) : TF (K22 k) (D0 k) := tn h (c142 k h) Tryz.func142
theorem t135 (k : Nat) (h : TF (K22 k) (D0 k)) : TF (K23 k) (D0 k) := tn h (c135 k h) Tryz.func135
theorem t159 (k : Nat) (h : TF (K23 k) (D0 k)) : TF (K24 k) (D0 k) := tn h (c159 k h) Tryz.func159
theorem t136 (k : Nat) (h : TF (K24 k) (D0 k)) : TF (K25 k) (D0 k) := tn h (c136 k h) Tryz.func136
theorem t137 (k : Nat) (h : TF (K25 k) (D0 k)) : TF (K26 k) (D0 k) := tn h (c137 k h) Tryz.func137
theorem t111 (k : Nat) (h : TF (K26 k) (D0 k)) : TF (K27 k) (D0 k) := tn h (c111 k h) Tryz.func111
theorem t77 (k : Nat) (h : TF (K27 k) (D0 k)) : TF (K28 k) (D0 k) := tn h (c77 k h) Tryz.func77
theorem t160 (k : Nat) (h : TF (K28 k) (D0 k)) : TF (K29 k) (D0 k) := tn h (c160 k h) Tryz.func160
theorem t138 (k : Nat) (h : TF (K29 k) (D0 k)) : TF (K30 k) (D0 k) := tn h (c138 k h) Tryz.func138
theorem t139 (k : Nat) (h : TF (K30 k) (D0 k)) : TF (K31 k) (D0 k) := tn h (c139 k h) Tryz.func139
theorem t140 (k : Nat) (h : TF (K31 k) (D0 k)) : TF (K32 k) (D0 k) := tn h (c140 k h) Tryz.func140
theorem t112 (k : Nat) (h : TF (K32 k) (D0 k)) : TF (K33 k) (D0 k) := tn h (c112 k h) Tryz.func112
theorem t78 (k : Nat) (h : TF (K33 k) (D0 k)) : TF (K34 k) (D0 k) := tn h (c78 k h) Tryz.func78
theorem t44 (k : Nat) (h : TF (K34 k) (D0 k)) : TF (K35 k) (D0 k) := tn h (c44 k h) Tryz.func44
theorem t113 (k : Nat) (h : TF (K35 k) (D0 k)) : TF (K36 k) (D0 k) := tn h (c113 k h) Tryz.func113
theorem t79 (k : Nat) (h : TF (K36 k) (D0 k)) : TF (K37 k) (D0 k) := tn h (c79 k h) Tryz.func79
theorem t45 (k : Nat) (h : TF (K37 k) (D0 k)) : TF (K38 k) (D0 k) := tn h (c45 k h) Tryz.func45
theorem t46 (k : Nat) (h : TF (K38 k) (D0 k)) : TF (K39 k) (D0 k) := tn h (c46 k h) Tryz.func46
theorem t21 (k : Nat) (h : TF (K39 k) (D0 k)) : TF (K40 k) (D0 k) := tn h (c21 k h) Tryz.func21
theorem t22 (k : Nat) (h : TF (K40 k) (D0 k)) : TF (K41 k) (D0 k) := tn h (c22 k h) Tryz.func22
theorem t81 (k : Nat) (h : TF (K41 k) (D0 k)) : TF (K42 k) (D0 k) := tn h (c81 k h) Tryz.func81
theorem t82 (k : Nat) (h : TF (K42 k) (D0 k)) : TF (K43 k) (D0 k) := tn h (c82 k h) Tryz.func82
theorem t48 (k : Nat) (h : TF (K43 k) (D0 k)) : TF (K44 k) (D0 k) := tn h (c48 k h) Tryz.func48
theorem t49 (k : Nat) (h : TF (K44 k) (D0 k)) : TF (K45 k) (D0 k) := tn h (c49 k h) Tryz.func49
theorem t84 (k : Nat) (h : TF (K45 k) (D0 k)) : TF (K46 k) (D0 k) := tn h (c84 k h) Tryz.func84
theorem t85 (k : Nat) (h : TF (K46 k) (D0 k)) : TF (K47 k) (D0 k) := tn h (c85 k h) Tryz.func85
theorem t50 (k : Nat) (h : TF (K47 k) (D0 k)) : TF (K48 k) (D0 k) := tn h (c50 k h) Tryz.func50
theorem t51 (k : Nat) (h : TF (K48 k) (D0 k)) : TF (K49 k) (D0 k) := tn h (c51 k h) Tryz.func51
theorem t161 (k : Nat) (h : TF (K49 k) (D0 k)) : TF (K50 k) (D0 k) := tn h (c161 k h) Tryz.func161
theorem t141 (k : Nat) (h : TF (K50 k) (D0 k)) : TF (K51 k) (D0 k) := tn h (c141 k h) Tryz.func141
theorem t114 (k : Nat) (h : TF (K51 k) (D0 k)) : TF (K52 k) (D0 k) := tn h (c114 k h) Tryz.func114
theorem t115 (k : Nat) (h : TF (K52 k) (D0 k)) : TF (K53 k) (D0 k) := tn h (c115 k h) Tryz.func115
theorem t87 (k : Nat) (h : TF (K53 k) (D0 k)) : TF (K54 k) (D0 k) := tn h (c87 k h) Tryz.func87
theorem t88 (k : Nat) (h : TF (K54 k) (D0 k)) : TF (K55 k) (D0 k) := tn h (c88 k h) Tryz.func88
theorem t52 (k : Nat) (h : TF (K55 k) (D0 k)) : TF (K56 k) (D0 k) := tn h (c52 k h) Tryz.func52
theorem t53 (k : Nat) (h : TF (K56 k) (D0 k)) : TF (K57 k) (D0 k) := tn h (c53 k h) Tryz.func53
theorem t23 (k : Nat) (h : TF (K57 k) (D0 k)) : TF (K58 k) (D0 k) := tn h (c23 k h) Tryz.func23
theorem t116 (k : Nat) (h : TF (K58 k) (D0 k)) : TF (K59 k) (D0 k) := tn h (c116 k h) Tryz.func116
theorem t143 (k : Nat) (h : TF (K59 k) (D0 k)) : TF (K60 k) (D0 k) := tn h (c143 k h) Tryz.func143
theorem t163 (k : Nat) (h : TF (K60 k) (D0 k)) : TF (K61 k) (D0 k) := tn h (c163 k h) Tryz.func163
theorem t165 (k : Nat) (h : TF (K61 k) (D0 k)) : TF (K62 k) (D0 k) := tn h (c165 k h) Tryz.func165
theorem t164 (k : Nat) (h : TF (K62 k) (D0 k)) : TF (K63 k) (D0 k) := tn h (c164 k h) Tryz.func164
theorem t144 (k : Nat) (h : TF (K63 k) (D0 k)) : TF (K64 k) (D0 k) := tn h (c144 k h) Tryz.func144
theorem t117 (k : Nat) (h : TF (K64 k) (D0 k)) : TF (K65 k) (D0 k) := tn h (c117 k h) Tryz.func117
theorem t89 (k : Nat) (h : TF (K65 k) (D0 k)) : TF (K66 k) (D0 k) := tn h (c89 k h) Tryz.func89
theorem t54 (k : Nat) (h : TF (K66 k) (D0 k)) : TF (K67 k) (D0 k) := tn h (c54 k h) Tryz.func54
theorem t24 (k : Nat) (h : TF (K67 k) (D0 k)) : TF (K68 k) (D0 k) := tn h (c24 k h) Tryz.func24
theorem t6 (k : Nat) (h : TF (K68 k) (D0 k)) : TF (K69 k) (D0 k) := tn h (c6 k h) Tryz.func6
theorem t90 (k : Nat) (h : TF (K69 k) (D0 k)) : TF (K70 k) (D0 k) := tn h (c90 k h) Tryz.func90
theorem t55 (k : Nat) (h : TF (K70 k) (D0 k)) : TF (K71 k) (D0 k) := tn h (c55 k h) Tryz.func55
theorem t118 (k : Nat) (h : TF (K71 k) (D0 k)) : TF (K72 k) (D0 k) := tn h (c118 k h) Tryz.func118
theorem t91 (k : Nat) (h : TF (K72 k) (D0 k)) : TF (K73 k) (D0 k) := tn h (c91 k h) Tryz.func91
theorem t56 (k : Nat) (h : TF (K73 k) (D0 k)) : TF (K74 k) (D0 k) := tn h (c56 k h) Tryz.func56
theorem t25 (k : Nat) (h : TF (K74 k) (D0 k)) : TF (K75 k) (D0 k) := tn h (c25 k h) Tryz.func25
theorem t57 (k : Nat) (h : TF (K75 k) (D0 k)) : TF (K76 k) (D0 k) := tn h (c57 k h) Tryz.func57
theorem t26 (k : Nat) (h : TF (K76 k) (D0 k)) : TF (K77 k) (D0 k) := tn h (c26 k h) Tryz.func26
theorem t7 (k : Nat) (h : TF (K77 k) (D0 k)) : TF (K78 k) (D0 k) := tn h (c7 k h) Tryz.func7
theorem t92 (k : Nat) (h : TF (K78 k) (D0 k)) : TF (K79 k) (D0 k) := tn h (c92 k h) Tryz.func92
theorem t58 (k : Nat) (h : TF (K79 k) (D0 k)) : TF (K80 k) (D0 k) := tn h (c58 k h) Tryz.func58
theorem t27 (k : Nat) (h : TF (K80 k) (D0 k)) : TF (K81 k) (D0 k) := tn h (c27 k h) Tryz.func27
theorem t8 (k : Nat) (h : TF (K81 k) (D0 k)) : TF (K82 k) (D0 k) := tn h (c8 k h) Tryz.func8
theorem t9 (k : Nat) (h : TF (K82 k) (D0 k)) : TF (K83 k) (D0 k) := tn h (c9 k h) Tryz.func9
theorem t62 (k : Nat) (h : TF (K83 k) (D0 k)) : TF (K84 k) (D0 k) := tn h (c62 k h) Tryz.func62
theorem t96 (k : Nat) (h : TF (K84 k) (D0 k)) : TF (K85 k) (D0 k) := tn h (c96 k h) Tryz.func96
theorem t145 (k : Nat) (h : TF (K85 k) (D0 k)) : TF (K86 k) (D0 k) := tn h (c145 k h) Tryz.func145
theorem t119 (k : Nat) (h : TF (K86 k) (D0 k)) : TF (K87 k) (D0 k) := tn h (c119 k h) Tryz.func119
theorem t120 (k : Nat) (h : TF (K87 k) (D0 k)) : TF (K88 k) (D0 k) := tn h (c120 k h) Tryz.func120
theorem t166 (k : Nat) (h : TF (K88 k) (D0 k)) : TF (K89 k) (D0 k) := tn h (c166 k h) Tryz.func166
theorem t146 (k : Nat) (h : TF (K89 k) (D0 k)) : TF (K90 k) (D0 k) := tn h (c146 k h) Tryz.func146
theorem t156 (k : Nat) (h : TF (K90 k) (D0 k)) : TF (K91 k) (D0 k) := tn h (c156 k h) Tryz.func156
theorem t147 (k : Nat) (h : TF (K91 k) (D0 k)) : TF (K92 k) (D0 k) := tn h (c147 k h) Tryz.func147
theorem t167 (k : Nat) (h : TF (K92 k) (D0 k)) : TF (K93 k) (D0 k) := tn h (c167 k h) Tryz.func167
theorem t148 (k : Nat) (h : TF (K93 k) (D0 k)) : TF (K94 k) (D0 k) := tn h (c148 k h) Tryz.func148
theorem t149 (k : Nat) (h : TF (K94 k) (D0 k)) : TF (K95 k) (D0 k) := tn h (c149 k h) Tryz.func149
theorem t121 (k : Nat) (h : TF (K95 k) (D0 k)) : TF (K96 k) (D0 k) := tn h (c121 k h) Tryz.func121
theorem t93 (k : Nat) (h : TF (K96 k) (D0 k)) : TF (K97 k) (D0 k) := tn h (c93 k h) Tryz.func93
theorem t168 (k : Nat) (h : TF (K97 k) (D0 k)) : TF (K98 k) (D0 k) := tn h (c168 k h) Tryz.func168
theorem t151 (k : Nat) (h : TF (K98 k) (D0 k)) : TF (K99 k) (D0 k) := tn h (c151 k h) Tryz.func151
theorem t124 (k : Nat) (h : TF (K99 k) (D0 k)) : TF (K100 k) (D0 k) := tn h (c124 k h) Tryz.func124
theorem t123 (k : Nat) (h : TF (K100 k) (D0 k)) : TF (K101 k) (D0 k) := tn h (c123 k h) Tryz.func123
theorem t150 (k : Nat) (h : TF (K101 k) (D0 k)) : TF (K102 k) (D0 k) := tn h (c150 k h) Tryz.func150
theorem t122 (k : Nat) (h : TF (K102 k) (D0 k)) : TF (K103 k) (D0 k) := tn h (c122 k h) Tryz.func122
theorem t94 (k : Nat) (h : TF (K103 k) (D0 k)) : TF (K104 k) (D0 k) := tn h (c94 k h) Tryz.func94
theorem t59 (k : Nat) (h : TF (K104 k) (D0 k)) : TF (K105 k) (D0 k) := tn h (c59 k h) Tryz.func59
theorem t127 (k : Nat) (h : TF (K105 k) (D0 k)) : TF (K106 k) (D0 k) := tn h (c127 k h) Tryz.func127
theorem t126 (k : Nat) (h : TabFn Tryz.prog (TB (K106 k) (D0 k))) : TabFn Tryz.prog (TB (K106 k) (D1 k)) := tp_cons h (proc_leaf I126 (impl_ValidLeaf_1 k)) (c126 k h) (enter_of Tryz.func126 (by kernel_rfl) (by kernel_rfl))
theorem t152 (k : Nat) (h : TabFn Tryz.prog (TB (K106 k) (D1 k))) : TabFn Tryz.prog (TB (K106 k) (D2 k)) := tp_cons h (proc_leaf I152 (slices_IndexFunc_152 k)) (c152 k h) (enter_of Tryz.func152 (by kernel_rfl) (by kernel_rfl))
theorem t125 (k : Nat) (h : TabFn Tryz.prog (TB (K106 k) (D2 k))) : TabFn Tryz.prog (TB (K106 k) (D3 k)) := tp_cons h (proc_leaf I125 (slices_ContainsFunc_125 k)) (c125 k h) (enter_of Tryz.func125 (by kernel_rfl) (by kernel_rfl))
theorem t95 (k : Nat) (h : TF (K106 k) (D3 k)) : TF (K107 k) (D3 k) := tn h (c95 k h) Tryz.func95
theorem t60 (k : Nat) (h : TF (K107 k) (D3 k)) : TF (K108 k) (D3 k) := tn h (c60 k h) Tryz.func60
theorem t61 (k : Nat) (h : TF (K108 k) (D3 k)) : TF (K109 k) (D3 k) := tn h (c61 k h) Tryz.func61
theorem t28 (k : Nat) (h : TF (K109 k) (D3 k)) : TF (K110 k) (D3 k) := tn h (c28 k h) Tryz.func28
theorem t63 (k : Nat) (h : TF (K110 k) (D3 k)) : TF (K111 k) (D3 k) := tn h (c63 k h) Tryz.func63
theorem t97 (k : Nat) (h : TF (K111 k) (D3 k)) : TF (K112 k) (D3 k) := tn h (c97 k h) Tryz.func97
theorem t98 (k : Nat) (h : TF (K112 k) (D3 k)) : TF (K113 k) (D3 k) := tn h (c98 k h) Tryz.func98
theorem t64 (k : Nat) (h : TF (K113 k) (D3 k)) : TF (K114 k) (D3 k) := tn h (c64 k h) Tryz.func64
theorem t66 (k : Nat) (h : TF (K114 k) (D3 k)) : TF (K115 k) (D3 k) := tn h (c66 k h) Tryz.func66
theorem t67 (k : Nat) (h : TF (K115 k) (D3 k)) : TF (K116 k) (D3 k) := tn h (c67 k h) Tryz.func67
theorem t99 (k : Nat) (h : TF (K116 k) (D3 k)) : TF (K117 k) (D3 k) := tn h (c99 k h) Tryz.func99
theorem t100 (k : Nat) (h : TabFn Tryz.prog (TB (K117 k) (D3 k))) : TabFn Tryz.prog (TB (K117 k) (D4 k)) := tp_cons h (proc_leaf I100 (slices_Reverse k)) (c100 k h) (enter_of Tryz.func100 (by kernel_rfl) (by kernel_rfl))
theorem t65 (k : Nat) (h : TF (K117 k) (D4 k)) : TF (K118 k) (D4 k) := tn h (c65 k h) Tryz.func65
theorem t153 (k : Nat) (h : TabFn Tryz.prog (TB (K118 k) (D4 k))) : TabFn Tryz.prog (TB (K119 k) (D4 k)) := tc_cons h (by kernel_rfl) (c153 k) (enter_of Tryz.func153 (by kernel_rfl) (by kernel_rfl))
theorem t169 (k : Nat) (h : TF (K119 k) (D4 k)) : TF (K120 k) (D4 k) := tn h (c169 k h) Tryz.func169
theorem t154 (k : Nat) (h : TF (K120 k) (D4 k)) : TF (K121 k) (D4 k) := tn h (c154 k h) Tryz.func154
theorem t155 (k : Nat) (h : TabFn Tryz.prog (TB (K121 k) (D4 k))) : TabFn Tryz.prog (TB (K121 k) (D5 k)) := tp_cons h delH_leaf del_ok (enter_of Tryz.func155 (by kernel_rfl) (by kernel_rfl))
theorem t128 (k : Nat) (h : TF (K121 k) (D5 k)) : TF (K122 k) (D5 k) := tn h (c128 k h) Tryz.func128
theorem t129 (k : Nat) (h : TF (K122 k) (D5 k)) : TF (K123 k) (D5 k) := tn h (c129 k h) Tryz.func129
theorem t101 (k : Nat) (h : TF (K123 k) (D5 k)) : TF (K124 k) (D5 k) := tn h (c101 k h) Tryz.func101
theorem t102 (k : Nat) (h : TF (K124 k) (D5 k)) : TF (K125 k) (D5 k) := tn h (c102 k h) Tryz.func102
theorem t68 (k : Nat) (h : TF (K125 k) (D5 k)) : TF (K126 k) (D5 k) := tn h (c68 k h) Tryz.func68
theorem t157 (k : Nat) (h : TF (K126 k) (D5 k)) : TF (K127 k) (D5 k) := tn h (c157 k h) Tryz.func157
theorem t171 (k : Nat) (h : TF (K127 k) (D5 k)) : TF (K128 k) (D5 k) := tn h (c171 k h) Tryz.func171
theorem t172 (k : Nat) (h : TF (K128 k) (D5 k)) : TF (K129 k) (D5 k) := tn h (c172 k h) Tryz.func172
theorem t173 (k : Nat) (h : TabFn Tryz.prog (TB (K129 k) (D5 k))) : TabFn Tryz.prog (TB (K130 k) (D5 k)) := tc_cons h (by kernel_rfl) (c173 k) (enter_of Tryz.func173 (by kernel_rfl) (by kernel_rfl))
theorem t174 (k : Nat) (h : TF (K130 k) (D5 k)) : TF (K131 k) (D5 k) := tn h (c174 k h) Tryz.func174
theorem t170 (k : Nat) (h : TF (K131 k) (D5 k)) : TF (K132 k) (D5 k) := tn h (c170 k h) Tryz.func170
theorem t158 (k : Nat) (h : TF (K132 k) (D5 k)) : TF (K133 k) (D5 k) := tn h (c158 k h) Tryz.func158
theorem t130 (k : Nat) (h : TF (K133 k) (D5 k)) : TF (K134 k) (D5 k) := tn h (c130 k h) Tryz.func130
theorem t103 (k : Nat) (h : TF (K134 k) (D5 k)) : TF (K135 k) (D5 k) := tn h (c103 k h) Tryz.func103
theorem t69 (k : Nat) (h : TF (K135 k) (D5 k)) : TF (K136 k) (D5 k) := tn h (c69 k h) Tryz.func69
theorem t31 (k : Nat) (h : TabFn Tryz.prog (TB (K136 k) (D5 k))) : TabFn Tryz.prog (TB (K136 k) (D6 k)) := tp_cons h (proc_leaf I31 (impl_nest_put k)) (c31 k h) (enter_of Tryz.func31 (by kernel_rfl) (by kernel_rfl))
theorem t30 (k : Nat) (h : TabFn Tryz.prog (TB (K136 k) (D6 k))) : TabFn Tryz.prog (TB (K136 k) (D7 k)) := tp_cons h (proc_leaf I30 (impl_GreedyNesting_1 k)) (c30 k h) (enter_of Tryz.func30 (by kernel_rfl) (by kernel_rfl))
theorem t29 (k : Nat) (h : TabFn Tryz.prog (TB (K136 k) (D7 k))) : TabFn Tryz.prog (TB (K136 k) (D8 k)) := tp_cons h (proc_leaf I29 (impl_nest_places k)) (c29 k h) (enter_of Tryz.func29 (by kernel_rfl) (by kernel_rfl))
theorem t10 (k : Nat) (h : TF (K136 k) (D8 k)) : TF (K137 k) (D8 k) := tn h (c10 k h) Tryz.func10
theorem t32 (k : Nat) (h : TF (K137 k) (D8 k)) : TF (K138 k) (D8 k) := tn h (c32 k h) Tryz.func32
theorem t11 (k : Nat) (h : TF (K138 k) (D8 k)) : TF (K139 k) (D8 k) := tn h (c11 k h) Tryz.func11
theorem t104 (k : Nat) (h : TF (K139 k) (D8 k)) : TF (K140 k) (D8 k) := tn h (c104 k h) Tryz.func104
theorem t70 (k : Nat) (h : TF (K140 k) (D8 k)) : TF (K141 k) (D8 k) := tn h (c70 k h) Tryz.func70
theorem t131 (k : Nat) (h : TF (K141 k) (D8 k)) : TF (K142 k) (D8 k) := tn h (c131 k h) Tryz.func131
theorem t105 (k : Nat) (h : TF (K142 k) (D8 k)) : TF (K143 k) (D8 k) := tn h (c105 k h) Tryz.func105
theorem t71 (k : Nat) (h : TF (K143 k) (D8 k)) : TF (K144 k) (D8 k) := tn h (c71 k h) Tryz.func71
theorem t33 (k : Nat) (h : TF (K144 k) (D8 k)) : TF (K145 k) (D8 k) := tn h (c33 k h) Tryz.func33
theorem t72 (k : Nat) (h : TF (K145 k) (D8 k)) : TF (K146 k) (D8 k) := tn h (c72 k h) Tryz.func72
theorem t34 (k : Nat) (h : TF (K146 k) (D8 k)) : TF (K147 k) (D8 k) := tn h (c34 k h) Tryz.func34
theorem t12 (k : Nat) (h : TF (K147 k) (D8 k)) : TF (K148 k) (D8 k) := tn h (c12 k h) Tryz.func12
theorem t106 (k : Nat) (h : TF (K148 k) (D8 k)) : TF (K149 k) (D8 k) := tn h (c106 k h) Tryz.func106
theorem t73 (k : Nat) (h : TF (K149 k) (D8 k)) : TF (K150 k) (D8 k) := tn h (c73 k h) Tryz.func73
theorem t35 (k : Nat) (h : TF (K150 k) (D8 k)) : TF (K151 k) (D8 k) := tn h (c35 k h) Tryz.func35
theorem t13 (k : Nat) (h : TF (K151 k) (D8 k)) : TF (K152 k) (D8 k) := tn h (c13 k h) Tryz.func13
theorem t74 (k : Nat) (h : TF (K152 k) (D8 k)) : TF (K153 k) (D8 k) := tn h (c74 k h) Tryz.func74
theorem t38 (k : Nat) (h : TF (K153 k) (D8 k)) : TF (K154 k) (D8 k) := tn h (c38 k h) Tryz.func38
theorem t107 (k : Nat) (h : TF (K154 k) (D8 k)) : TF (K155 k) (D8 k) := tn h (c107 k h) Tryz.func107
theorem t75 (k : Nat) (h : TF (K155 k) (D8 k)) : TF (K156 k) (D8 k) := tn h (c75 k h) Tryz.func75
theorem t36 (k : Nat) (h : TF (K156 k) (D8 k)) : TF (K157 k) (D8 k) := tn h (c36 k h) Tryz.func36
theorem t37 (k : Nat) (h : TF (K157 k) (D8 k)) : TF (K158 k) (D8 k) := tn h (c37 k h) Tryz.func37
theorem t14 (k : Nat) (h : TF (K158 k) (D8 k)) : TF (K159 k) (D8 k) := tn h (c14 k h) Tryz.func14
theorem t39 (k : Nat) (h : TF (K159 k) (D8 k)) : TF (K160 k) (D8 k) := tn h (c39 k h) Tryz.func39
theorem t15 (k : Nat) (h : TF (K160 k) (D8 k)) : TF (K161 k) (D8 k) := tn h (c15 k h) Tryz.func15
theorem t16 (k : Nat) (h : TF (K161 k) (D8 k)) : TF (K162 k) (D8 k) := tn h (c16 k h) Tryz.func16
theorem t17 (k : Nat) (h : TF (K162 k) (D8 k)) : TF (K163 k) (D8 k) := tn h (c17 k h) Tryz.func17
theorem tab_all (k : Nat) : TabFn Tryz.prog (TB (K163 k) (D8 k)) := by
 have h := t_nil k
 have h := t40 k h
 have h := t108 k h
 have h := t76 k h
 have h := t41 k h
 have h := t18 k h
 have h := t42 k h
 have h := t19 k h
 have h := t4 k h
 have h := t43 k h
 have h := t20 k h
 have h := t5 k h
 have h := t47 k h
 have h := t86 k h
 have h := t109 k h
 have h := t132 k h
 have h := t133 k h
 have h := t110 k h
 have h := t134 k h
 have h := t80 k h
 have h := t83 k h
 have h := t162 k h
 have h := t142 k h
 have h := t135 k h
 have h := t159 k h
 have h := t136 k h
 have h := t137 k h
 have h := t111 k h
 have h := t77 k h
 have h := t160 k h
 have h := t138 k h
 have h := t139 k h
 have h := t140 k h
 have h := t112 k h
 have h := t78 k h
 have h := t44 k h
 have h := t113 k h
 have h := t79 k h
 have h := t45 k h
 have h := t46 k h
 have h := t21 k h
 have h := t22 k h
 have h := t81 k h
 have h := t82 k h
 have h := t48 k h
 have h := t49 k h
 have h := t84 k h
 have h := t85 k h
 have h := t50 k h
 have h := t51 k h
 have h := t161 k h
 have h := t141 k h
 have h := t114 k h
 have h := t115 k h
 have h := t87 k h
 have h := t88 k h
 have h := t52 k h
 have h := t53 k h
 have h := t23 k h
 have h := t116 k h
 have h := t143 k h
 have h := t163 k h
 have h := t165 k h
 have h := t164 k h
 have h := t144 k h
 have h := t117 k h
 have h := t89 k h
 have h := t54 k h
 have h := t24 k h
 have h := t6 k h
 have h := t90 k h
 have h := t55 k h
 have h := t118 k h
 have h := t91 k h
 have h := t56 k h
 have h := t25 k h
 have h := t57 k h
 have h := t26 k h
 have h := t7 k h
 have h := t92 k h
 have h := t58 k h
 have h := t27 k h
 have h := t8 k h
 have h := t9 k h
 have h := t62 k h
 have h := t96 k h
 have h := t145 k h
 have h := t119 k h
 have h := t120 k h
 have h := t166 k h
 have h := t146 k h
 have h := t156 k h
 have h := t147 k h
 have h := t167 k h
 have h := t148 k h
 have h := t149 k h
 have h := t121 k h
 have h := t93 k h
 have h := t168 k h
 have h := t151 k h
 have h := t124 k h
 have h := t123 k h
 have h := t150 k h
 have h := t122 k h
 have h := t94 k h
 have h := t59 k h
 have h := t127 k h
 have h := t126 k h
 have h := t152 k h
 have h := t125 k h
 have h := t95 k h
 have h := t60 k h
 have h := t61 k h
 have h := t28 k h
 have h := t63 k h
 have h := t97 k h
 have h := t98 k h
 have h := t64 k h
 have h := t66 k h
 have h := t67 k h
 have h := t99 k h
 have h := t100 k h
 have h := t65 k h
 have h := t153 k h
 have h := t169 k h
 have h := t154 k h
 have h := t155 k h
 have h := t128 k h
 have h := t129 k h
 have h := t101 k h
 have h := t102 k h
 have h := t68 k h
 have h := t157 k h
 have h := t171 k h
 have h := t172 k h
 have h := t173 k h
 have h := t174 k h
 have h := t170 k h
 have h := t158 k h
 have h := t130 k h
 have h := t103 k h
 have h := t69 k h
 have h := t31 k h
 have h := t30 k h
 have h := t29 k h
 have h := t10 k h
 have h := t32 k h
 have h := t11 k h
 have h := t104 k h
 have h := t70 k h
 have h := t131 k h
 have h := t105 k h
 have h := t71 k h
 have h := t33 k h
 have h := t72 k h
 have h := t34 k h
 have h := t12 k h
 have h := t106 k h
 have h := t73 k h
 have h := t35 k h
 have h := t13 k h
 have h := t74 k h
 have h := t38 k h
 have h := t107 k h
 have h := t75 k h
 have h := t36 k h
 have h := t37 k h
 have h := t14 k h
 have h := t39 k h
 have h := t15 k h
 have h := t16 k h
 have h := t17 k h
 exact h
theorem law_call (k : Nat) : CallOK Tryz.prog 3 (I3.call (laws_FnExactGreedyNesting k)) := c3 k (tab_all k)
end Go.Proofs.YtgcioclfplafkaaGreatV
end

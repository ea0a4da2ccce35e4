/- A function's end; tables; no condition. -/
import Derived.Test.YtgcioclfplafkaaGreatA09
import Derived.Laws.Sem
import Derived.Test.YtgcioclfplafkaaGreatA01
set_option linter.all false
section
namespace Go.Proofs.YtgcioclfplafkaaGreatV
open Go Go.RowKit
section
variable {P : Program} {T : Tab} {W : List Gh} {w0 : World}
theorem rel_drawn {g : List Gh} {st : St} {a : Act} {w : World} (hR : RelG W w0 g st a w) (n : Nat) : RelG W w0 g st a { w with drawn := n } := by
 have hS : ∀ b, Stable w g b → Stable { w with drawn := n } g b ∧ ({ w with drawn := n } : World).heap[b]? = w.heap[b]? := fun b hb => ⟨hb, rfl⟩
 exact ⟨RepTs_mono hS (GExt.refl g) hR.tm, ObsOK_mono hS (GExt.refl g) (fun _ _ _ _ => rfl) hR.ob, hR.nd, hR.own, ⟨hR.keep.os, hR.keep.tape, hR.keep.output, hR.keep.size, hR.keep.block⟩, hR.kept, hR.df⟩
theorem fr_upd {lo : Nat} {D : List Nat} {st : St} {d : Option Nat} {v : TV} {u : List (Nat × Md)} (hd : ∀ t, d = some t → t ∈ D) (hu : ∀ m ∈ u, lo ≤ m.1) : Fr lo D st (st.upd d v u) := by
 have h1 : Fr lo D st { tmps := st.tmps, objs := setOb st.objs u } := ⟨rfl, fun _ _ => rfl, fun i hi => setOb_lo u _ lo i (by rw [List.all_eq_true]; intro m hm; exact decide_eq_true (hu m hm)) hi, by simp [setOb_length]⟩
 exact h1.trans (fr_put hd)
theorem fr_app {lo : Nat} {D : List Nat} : ∀ {os : List Oper} {es : List Eff} {i : Nat} {st : St}, (∀ o ∈ os, ∀ t, o.dst = some t → t ∈ D) → (∀ e ∈ es, ∀ m ∈ e.ups, lo ≤ m.1) → Fr lo D st (app (fun _ => true) i os es st)
 | [], _, _, st, _, _ => Fr.refl ..
 | _ :: _, [], _, st, _, _ => Fr.refl ..
 | o :: os, e :: es, i, st, hd, hu => by
  simp only [app, cond_true]
  exact (fr_upd (hd o (by simp)) (hu e (by simp))).trans (fr_app (fun o' ho => hd o' (by simp [ho])) (fun e' he => hu e' (by simp [he])))
theorem stepE_lo {ops : Array Oper} {lo n0 i : Nat} {o : Oper} {st : St} {e : Eff} (hlo : lo ≤ n0) (h : stepE T lo n0 ops i o st = some e) : ∀ m ∈ e.ups, lo ≤ m.1 := by
 unfold stepE at h
 rcases askG_iff h with ⟨h1, _⟩ | ⟨h1, _⟩
 ·cases hp : opSem T st (n0 + 8 * i) o pk with
  | none => rw [hp] at h1; cases h1
  | some p =>
   rw [hp] at h1
   simp only [Option.bind_some] at h1
   split at h1
   ·rename_i hc
    simp only [Bool.and_eq_true] at hc
    injection h1 with h1
    subst h1
    intro m hm
    rcases List.mem_append.1 hm with hm | hm
    ·exact of_decide_eq_true ((List.all_eq_true.1 hc.2.2.1) m hm)
    ·obtain ⟨q, hq, rfl⟩ := List.mem_map.1 hm
     have : ∀ (l : List Ob) (n : Nat) (q : Nat × Ob), q ∈ numb n l → n ≤ q.1 := by
      intro l
      induction l with
      | nil => intro n q h; cases h
      | cons x l ih =>
       intro n q h
       simp only [numb, List.mem_cons] at h
       rcases h with rfl | h
       ·exact Nat.le_refl _
       ·have := ih _ _ h
        omega
     have := this _ _ _ hq
     simp only
     omega
   ·cases h1
 ·injection h1 with h1
  subst h1
  intro m hm
  cases hm
theorem drawn_ok (hP : P.follows .mixedOrders = true) (hT : TabFn P T) {lo id : Nat} {ops : Array Oper} {R : Type} {st : St} {K : St → Option R} {r : R} {a : Act} {w : World} {Q : Exit → Act → World → Prop} (hlo : lo ≤ st.objs.length) (hR : RelN T W w0 st a w) (h : evReg T lo ops true st K = some r)
  (hQ : ∀ st' a' w', RelN T W w0 st' a' w' → Fr lo (ops.toList.filterMap (fun (o : Oper) => o.dst)) st st' → K st' = some r → Q .normal a' w') : (Code.region id ops true).wp P Q a w := by
 simp only [evReg, if_true] at h
 split at h
 ·rename_i hd
  unfold drawOk at hd
  rw [Bool.and_eq_true, List.all_eq_true] at hd
  obtain ⟨hM, hd⟩ := hd
  obtain ⟨⟨g, hR⟩, hnp⟩ := hR
  obtain ⟨es, hlen, hK, htr⟩ := evD_run hT.leaf h
  have hR1 := rel_drawn (rel_pad hR (8 * ops.size)) (w.drawn + 1)
  have hol : ∀ (k : Nat) (o : Oper), ops[k]? = some o → ops.toList[k]? = some o := fun k o h => by rw [Array.getElem?_toList]; exact h
  refine wp_region_any hP (any_ok (lo := lo) (n0 := st.objs.length) hT (fun hn => ⟨np_pad (hnp hn).1, (hnp hn).2⟩) (by simpa using hlen) hM (fun j o hj e he hb => ?_) (fun k o e h1 h2 => ?_) (fun a' w' hR' => hQ _ a' w' hR' ?_ hK) ops.size _ (g ++ List.replicate (8 * ops.size) .unborn) a _ ?_ ⟨by simp, fun i hi h1 => ?_⟩ ?_)
  ·have := hd j (List.mem_range.2 (Array.getElem?_eq_some_iff.1 hj).1)
   rw [hj] at this
   simp only [Bool.and_eq_true] at this
   have := (List.all_eq_true.1 this.1.1) e (by simpa using he)
   rw [hb] at this
   simpa using this
  ·obtain ⟨a1, _, a3⟩ := htr k o e (hol k o h1) h2
   rw [Nat.zero_add] at a1 a3
   refine ⟨a1, fun k' o' e' hk q1 q2 => ?_⟩
   have := a3 k' o' e' hk (hol k' o' q1) q2
   rwa [Nat.zero_add] at this
  ·have h0 : Fr lo (ops.toList.filterMap (fun (o : Oper) => o.dst)) st { st with objs := st.objs ++ List.replicate (8 * ops.size) .unborn } := ⟨rfl, fun _ _ => rfl, fun i hi => List.getElem?_append_left (by omega), by simp⟩
   refine h0.trans (fr_app (fun o ho t ht => List.mem_filterMap.2 ⟨o, ho, ht⟩) (fun e he => ?_))
   obtain ⟨k, hk, e1⟩ := List.getElem_of_mem he
   have hk2 : k < ops.toList.length := by omega
   obtain ⟨a1, _, _⟩ := htr k ops.toList[k] e (List.getElem?_eq_getElem hk2) (by rw [List.getElem?_eq_getElem hk, e1])
   exact stepE_lo (by omega) a1
  ·refine Nat.le_trans List.countP_le_length ?_
   simp
  ·have : (Array.replicate ops.size false).getD i true = false := by simp [hi]
   rw [this] at h1
   cases h1
  ·rw [app_false (fun k hk => by simp at hk; simp [hk])]
   exact hR1
 ·cases h
theorem join_drawn (hP : P.follows .mixedOrders = true) (hT : TabFn P T) (id : Nat) (ops : Array Oper) (js : List (Nat × CT)) : CodeOK P T W w0 (.region id ops true) (fun st K => evJoin T ops true js st (K .normal)) := by
 intro R st K r a w Q hR h hQ
 simp only [evJoin] at h
 obtain ⟨x, hx, h⟩ := Option.bind_eq_some_iff.1 h
 refine drawn_ok hP hT (Nat.le_refl _) hR hx (fun st1 a' w' hR1 hF h1 => ?_)
 obtain ⟨vs, hvs, hfrom⟩ := Option.bind_eq_some_iff.1 h1
 rw [toCVs_from hfrom] at h
 exact hQ .normal _ a' w' ⟨rel_join hR.1 hR1.1 hF (fun t ht => List.mem_filterMap.1 ht) hvs (fromCVs_ren hfrom), fun hn => ⟨np_join (hR.2 hn).1 (fromCVs_np hfrom), (hR.2 hn).2⟩⟩ h
theorem reg_ok (hP : P.follows .mixedOrders = true) (hT : TabFn P T) (id : Nat) (ops : Array Oper) (draw : Bool) : CodeOK P T W w0 (.region id ops draw) (fun st K => ev T (.region id ops draw) st K) := by
 intro R st K r a w Q hR h hQ
 simp only [ev] at h
 split at h
 ·split at h
  ·rename_i hp
   cases draw
   ·rw [Bool.and_eq_true] at hp
    exact regP_ok hT (hT.hp hp.1) id ops st K r a w Q hR h hQ
   ·simp at hp
  ·cases draw
   ·exact reg_text hT 0 id ops st K r a w Q hR h hQ
   ·exact drawn_ok hP hT (Nat.zero_le _) hR h (fun st' a' w' hR' _ h' => hQ .normal st' a' w' hR' h')
 ·cases draw
  ·exact join_text hT id ops _ st K r a w Q hR h hQ
  ·exact join_drawn hP hT id ops _ st K r a w Q hR h hQ
theorem code_ok (hP : P.follows .mixedOrders = true) (hT : TabFn P T) (c : Code) (hl : AllLoops (LoopsOK P T W w0) c) : CodeOK P T W w0 c (fun st K => ev T c st K) := ev_ok (fun id ops draw => reg_ok hP hT id ops draw) c hl
end
end Go.Proofs.YtgcioclfplafkaaGreatV
end
section
namespace Go.Proofs.YtgcioclfplafkaaGreatV
open Go Go.RowKit
section
variable {P : Program} {T : Tab} {w : World} {S S' : Nat → Prop} {g : List Gh} {objs : List Ob}
structure ClosedC (w : World) (g : List Gh) (is : List Nat) (v' : CV) (u : Value) (gr : List Gh) : Prop where
 len : gr.length = (openC 0 v').2.length
 ob : ∀ S' g', ObsOK w S' g' (openC 0 v').2 gr
 rep : ∀ (S' : Nat → Prop) (n : Nat) (g' : List Gh), (∀ k, k < gr.length → g'[n + k]? = gr[k]?) → RepC w S' g' (openC n v').1 u
 bl : allB gr = is.flatMap fun id => (g.getD id .gone).blocks
theorem closeC_rep (ho : ObsOK w S g objs g) {v v' : CV} {u : Value} {is : List Nat} (h : RepC w S g v u) (hc : closeC objs v = some (v', is)) : ∃ gr, ClosedC w g is v' u gr := by
 cases v <;> simp only [closeC, reduceCtorEq, Option.some.injEq, Prod.mk.injEq] at hc
 case int k n => obtain ⟨rfl, rfl⟩ := hc; exact ⟨[], rfl, fun _ _ => trivial, fun _ _ _ _ => h, rfl⟩
 case bool b => obtain ⟨rfl, rfl⟩ := hc; exact ⟨[], rfl, fun _ _ => trivial, fun _ _ _ _ => h, rfl⟩
 case str b => obtain ⟨rfl, rfl⟩ := hc; exact ⟨[], rfl, fun _ _ => trivial, fun _ _ _ _ => h, rfl⟩
 case nilS r =>
  obtain ⟨rfl, rfl⟩ := hc
  simp only [RepC] at h
  subst h
  refine ⟨[.row (.sl r.size (.slice none 0 0) [])], rfl, fun _ _ => ⟨⟨.slice none 0 0, [], rfl, .slice none 0 0, [], rfl, rfl, .inl ⟨rfl, rfl, rfl⟩⟩, trivial⟩, fun S' n g' hg => ?_, rfl⟩
  have := hg 0 (by simp)
  simp only [openC, RepC]
  rw [Nat.add_zero] at this
  rw [this]
  rfl
 case ref id =>
  cases hob : Ob.at objs id <;> rw [hob] at hc <;> simp only [reduceCtorEq, Option.some.injEq, Prod.mk.injEq] at hc
  rename_i r xs
  obtain ⟨rfl, rfl⟩ := hc
  obtain ⟨v, rows, h1, h2⟩ := row_at ho hob
  simp only [RepC, h1] at h
  subst h
  refine ⟨[.row (.sl r.size u rows)], rfl, fun _ _ => ⟨⟨u, rows, rfl, h2⟩, trivial⟩, fun S' n g' hg => ?_, ?_⟩
  ·have := hg 0 (by simp)
   simp only [openC, RepC]
   rw [Nat.add_zero] at this
   rw [this]
   rfl
  ·simp [allB, h1]
structure ClosedL (w : World) (g : List Gh) (is : List Nat) (l : List CV) (us : List Value) (gr : List Gh) : Prop where
 len : gr.length = (openL 0 l).2.length
 ob : ∀ S' g', ObsOK w S' g' (openL 0 l).2 gr
 rep : ∀ (S' : Nat → Prop) (n : Nat) (g' : List Gh), (∀ k, k < gr.length → g'[n + k]? = gr[k]?) → RepL w S' g' (openL n l).1 us
 bl : allB gr = is.flatMap fun id => (g.getD id .gone).blocks
theorem closeL_rep (ho : ObsOK w S g objs g) : ∀ {l l' : List CV} {us : List Value} {is : List Nat}, RepL w S g l us → closeL objs l = some (l', is) → ∃ gr, ClosedL w g is l' us gr
 | [], l', [], is, _, hc => by
  simp only [closeL, Option.some.injEq, Prod.mk.injEq] at hc
  obtain ⟨rfl, rfl⟩ := hc
  exact ⟨[], rfl, fun _ _ => trivial, fun _ _ _ _ => trivial, rfl⟩
 | [], _, _ :: _, _, h, _ => h.elim
 | _ :: _, _, [], _, h, _ => h.elim
 | v :: l, l', u :: us, is, h, hc => by
  simp only [closeL] at hc
  split at hc
  ·rename_i v' i1 l1 i2 h1 h2
   simp only [Option.some.injEq, Prod.mk.injEq] at hc
   obtain ⟨rfl, rfl⟩ := hc
   obtain ⟨g1, c1⟩ := closeC_rep ho h.1 h1
   obtain ⟨g2, c2⟩ := closeL_rep ho h.2 h2
   have hsnd : (openL 0 (v' :: l1)).2 = (openC 0 v').2 ++ (openL 0 l1).2 := by simp only [openL]; rw [openL_snd l1 _ 0]
   refine ⟨g1 ++ g2, ?_, fun S' g' => ?_, fun S' n g' hg => ?_, ?_⟩
   ·rw [hsnd, List.length_append, List.length_append, c1.len, c2.len]
   ·rw [hsnd]; exact ObsOK_append (c1.ob S' g') (c2.ob S' g')
   ·simp only [openL]
    refine ⟨c1.rep S' n g' (fun k hk => ?_), ?_⟩
    ·rw [hg k (by simp; omega), List.getElem?_append_left hk]
    ·have e : (openC n v').2.length = g1.length := by rw [c1.len, openC_snd n 0]
     refine c2.rep S' _ g' (fun k hk => ?_)
     rw [e, Nat.add_assoc, hg (g1.length + k) (by simp; omega), List.getElem?_append_right (by omega), Nat.add_sub_cancel_left]
   ·rw [allB_append, c1.bl, c2.bl, List.flatMap_append]
  ·cases hc
structure ClosedP (w : World) (g : List Gh) (is : List Nat) (l : List (Bool × List CV)) (us : List Value) (gr : List Gh) : Prop where
 len : gr.length = (openP 0 l).2.length
 ob : ∀ S' g', ObsOK w S' g' (openP 0 l).2 gr
 rep : ∀ (S' : Nat → Prop) (n : Nat) (g' : List Gh), (∀ k, k < gr.length → g'[n + k]? = gr[k]?) → RepP w S' g' (openP n l).1 us
 bl : allB gr = is.flatMap fun id => (g.getD id .gone).blocks
def resVal (tmps : Array Value) : ResultVar → Sem Value
 | .tmp t => pure (tmps.getD t undef)
 | .cell a t => do loadVar t (← asAddr (tmps.getD a undef))
theorem resOf_rep (hT : TabOK P T) (ho : ObsOK w S g objs g) {st : St} (hst : st.objs = objs) {tmps : Array Value} (ht : RepTs w S g st.tmps tmps.toList) {rv : ResultVar} {b : Bool} {vs : List CV} (h : resOf T st rv = some (b, vs)) :
  ∃ u, (resVal tmps rv).run P w = .ok u w ∧ RepP w S g [(b, vs)] [u] := by
 cases rv with
 | tmp t =>
  have := RepTs_getD t ht
  simp only [resOf, St.get] at h
  have e : tmps.toList.getD t undef = tmps.getD t undef := by simp [List.getD_eq_getElem?_getD]
  rw [e] at this
  refine ⟨tmps.getD t undef, rfl, ?_⟩
  generalize st.tmps.getD t .dead = x at h this
  cases x <;> simp only [reduceCtorEq, Option.some.injEq, Prod.mk.injEq] at h
  ·obtain ⟨rfl, rfl⟩ := h
   exact ⟨⟨this, trivial⟩, trivial⟩
  ·obtain ⟨rfl, rfl⟩ := h
   exact ⟨this, trivial⟩
 | cell a t =>
  have := RepTs_getD a ht
  simp only [resOf, St.get] at h
  have e : tmps.toList.getD a undef = tmps.getD a undef := by simp [List.getD_eq_getElem?_getD]
  rw [e] at this
  generalize st.tmps.getD a .dead = x at h this
  split at h
  ·rename_i id off ti hty
   subst hst
   split at h
   ·rename_i l hob
    split at h
    ·rename_i hc
     simp only [Option.some.injEq, Prod.mk.injEq] at h
     obtain ⟨rfl, rfl⟩ := h
     obtain ⟨bk, cells, ty, h2, h3, h4, h5⟩ := box_at ho hob
     simp only [RepT, RepC, h2] at this
     have hdr := RepAt_drop off h5
     rw [Nat.zero_add] at hdr
     cases hag : ti.agg with
     | true =>
      have hg : giveC ti (l.drop off) pk = some (.agg ((l.drop off).take ti.size), [], []) := by
       unfold giveC; rw [hag, if_pos rfl, if_pos hc.1]
      obtain ⟨u, hu, hr, _, _⟩ := load_at hT hty h3 hdr hg
      refine ⟨u, ?_, ⟨hr, trivial⟩⟩
      simp only [resVal]
      rw [this]
      simpa [Instr.loadAt, Instr.sureAddr, asAddr] using hu
     | false =>
      have hsz : ti.size = 1 := hc.2.resolve_left (by rw [hag]; simp)
      rw [hsz] at hc
      cases hl : l.drop off with
      | nil => rw [hl] at hc; simp at hc
      | cons v0 l' =>
       have hg : giveC ti (l.drop off) pk = some (.c v0, [], []) := by
        unfold giveC; rw [hag, hl]; rfl
       obtain ⟨u, hu, hr, _, _⟩ := load_at hT hty h3 hdr hg
       refine ⟨u, ?_, ?_⟩
       ·simp only [resVal]
        rw [this]
        simpa [Instr.loadAt, Instr.sureAddr, asAddr] using hu
       ·rw [hsz]
        exact ⟨⟨hr, trivial⟩, trivial⟩
    ·cases h
   ·cases h
  ·cases h
theorem resL_rep (hT : TabOK P T) {st : St} (ho : ObsOK w S g st.objs g) {tmps : Array Value} (ht : RepTs w S g st.tmps tmps.toList) : ∀ {rs : List ResultVar} {ps : List (Bool × List CV)} {is : List Nat}, resL T st rs = some (ps, is) →
  ∃ us gr, (rs.mapM (resVal tmps)).run P w = .ok us w ∧ ClosedP w g is ps us gr
 | [], ps, is, h => by
  simp only [resL, Option.some.injEq, Prod.mk.injEq] at h
  obtain ⟨rfl, rfl⟩ := h
  exact ⟨[], [], rfl, rfl, fun _ _ => trivial, fun _ _ _ _ => trivial, rfl⟩
 | r :: rs, ps, is, h => by
  simp only [resL] at h
  split at h
  ·rename_i b vs ps1 js h1 h2
   split at h
   ·rename_i ws is1 h3
    simp only [Option.some.injEq, Prod.mk.injEq] at h
    obtain ⟨rfl, rfl⟩ := h
    obtain ⟨u, hu, hp⟩ := resOf_rep hT ho rfl ht h1
    obtain ⟨us, g2, hus, c2⟩ := resL_rep hT ho ht h2
    have hL : ∃ uu, RepL w S g vs uu ∧ ∀ (S' : Nat → Prop) (g' : List Gh) (l : List CV), RepL w S' g' l uu → RepP w S' g' [(b, l)] [u] := by
     cases b with
     | true =>
      obtain ⟨⟨uu, h4, h5⟩, _⟩ := hp
      exact ⟨uu, h5, fun S' g' l h6 => ⟨⟨uu, h4, h6⟩, trivial⟩⟩
     | false => exact ⟨[u], hp.1, fun S' g' l h6 => ⟨h6, trivial⟩⟩
    obtain ⟨uu, h4, h5⟩ := hL
    obtain ⟨g1, c1⟩ := closeL_rep ho h4 h3
    have hsnd : (openP 0 ((b, ws) :: ps1)).2 = (openL 0 ws).2 ++ (openP 0 ps1).2 := by simp only [openP]; rw [openP_snd ps1 _ 0]
    refine ⟨u :: us, g1 ++ g2, ?_, ?_, fun S' g' => ?_, fun S' n g' hg => ?_, ?_⟩
    ·simp [List.mapM_cons, hu, hus]
    ·rw [hsnd, List.length_append, List.length_append, c1.len, c2.len]
    ·rw [hsnd]; exact ObsOK_append (c1.ob S' g') (c2.ob S' g')
    ·simp only [openP]
     have ha := h5 S' g' _ (c1.rep S' n g' (fun k hk => by rw [hg k (by simp; omega), List.getElem?_append_left hk]))
     have hb : RepP w S' g' (openP (n + (openL n ws).2.length) ps1).1 us := by
      have e : (openL n ws).2.length = g1.length := by rw [c1.len, openL_snd ws n 0]
      refine c2.rep S' _ g' (fun k hk => ?_)
      rw [e, Nat.add_assoc, hg (g1.length + k) (by simp; omega), List.getElem?_append_right (by omega), Nat.add_sub_cancel_left]
     cases b
     ·exact ⟨ha.1, hb⟩
     ·exact ⟨ha.1, hb⟩
    ·rw [allB_append, c1.bl, c2.bl, List.flatMap_append]
   ·cases h
  ·cases h
end
end Go.Proofs.YtgcioclfplafkaaGreatV
end
section
namespace Go.Proofs.YtgcioclfplafkaaGreatV
open Go Go.RowKit
section
variable {P : Program} {T : Tab} {w : World}
theorem one_open {ps : List (Bool × List CV)} (hp : (ps.all fun p => p.1 || decide (p.2.length = 1)) = true) (n : Nat) : (openT n (oneOf ps)).2 = (openP n ps).2 := by
 unfold oneOf
 split
 ·simp [openT, openP]
 ·simp [openT, openP, openL]
 ·simp [openT]
theorem one_rep {w : World} {S : Nat → Prop} {g : List Gh} {ps : List (Bool × List CV)} {us : List Value} {n : Nat} (h : RepP w S g (openP n ps).1 us) (hp : (ps.all fun p => p.1 || decide (p.2.length = 1)) = true) :
  RepT w S g (openT n (oneOf ps)).1 (if h : us.toArray.size = 1 then us.toArray[0] else .tuple us.toArray) := by
 unfold oneOf
 split
 ·rename_i l
  simp only [openP] at h
  cases us with
  | nil => exact h.elim
  | cons u us =>
   cases us with
   | cons _ _ => exact h.2.elim
   | nil =>
    obtain ⟨⟨uu, h1, h2⟩, _⟩ := h
    exact ⟨uu, h1, h2⟩
 ·rename_i v
  simp only [openP, openL] at h
  cases us with
  | nil => exact h.elim
  | cons u us =>
   cases us with
   | cons _ _ => exact h.2.elim
   | nil => exact h.1.1
 ·rename_i hn1 hn2
  have hl := RepP_length h
  have hne : ¬ us.toArray.size = 1 := by
   intro e
   have e1 : us.length = 1 := by simpa using e
   rw [e1] at hl
   cases ps with
   | nil => simp [openP] at hl
   | cons p ps =>
    cases ps with
    | cons q ps => simp [openP] at hl
    | nil =>
     obtain ⟨b, l⟩ := p
     cases b with
     | true => exact hn1 l rfl
     | false =>
      simp at hp
      match l, hp with
      | [v], _ => exact hn2 v rfl
  rw [dif_neg hne]
  simp only [openT]
  exact ⟨us, rfl, h⟩
theorem muts_get {objs : List Ob} : ∀ {n i : Nat} {ms : List CV}, mutsOf objs i n = some ms → ms.length = n ∧ ∀ k, k < n → ∃ r xs, Ob.at objs (i + k) = .row r xs ∧ ms[k]? = some (.fz r xs)
 | 0, i, ms, h => by simp only [mutsOf, Option.some.injEq] at h; subst h; exact ⟨rfl, fun k hk => by omega⟩
 | n + 1, i, ms, h => by
  simp only [mutsOf] at h
  split at h
  ·rename_i r xs l h1 h2
   injection h with h
   subst h
   obtain ⟨h3, h4⟩ := muts_get h2
   refine ⟨by simp [h3], fun k hk => ?_⟩
   cases k with
   | zero => exact ⟨r, xs, h1, rfl⟩
   | succ k =>
    obtain ⟨r', xs', h5, h6⟩ := h4 k (by omega)
    exact ⟨r', xs', by rw [← h5]; congr 1; omega, by simpa using h6⟩
  ·cases h
theorem back_of {w' : World} : ∀ {g : List Gh} {ms : List CV}, ms.length = g.length → (∀ (k : Nat) (t : GT), g[k]? = some (.row t) → ∃ (r : CT) (xs : List (El r)) (v : Value) (rows : List GT), ms[k]? = some (.fz r xs) ∧ t = .sl r.size v rows ∧ OwnC w' (.sl r) #[v] 0 xs t) → (∀ x ∈ g, ∃ t, x = .row t) → BackOK w' g ms
 | [], [], _, _, _ => trivial
 | [], _ :: _, h, _, _ => by simp at h
 | _ :: _, [], h, _, _ => by simp at h
 | x :: g, m :: ms, hl, hk, hr => by
  obtain ⟨t, rfl⟩ := hr x (by simp)
  obtain ⟨r, xs, v, rows, h1, h2, h3⟩ := hk 0 t rfl
  simp only [List.getElem?_cons_zero, Option.some.injEq] at h1
  subst h1
  exact ⟨⟨v, rows, h2, h3⟩, back_of (by simpa using hl) (fun k t h => by simpa using hk (k + 1) t (by simpa using h)) (fun x hx => hr x (by simp [hx]))⟩
theorem flat_nodup {g : List Gh} (hn : (allB g).Nodup) : ∀ {is : List Nat}, is.Nodup → (is.flatMap fun id => (g.getD id .gone).blocks).Nodup
 | [], _ => List.nodup_nil
 | id :: is, h => by
  rw [List.nodup_cons] at h
  rw [List.flatMap_cons, List.nodup_append]
  refine ⟨?_, flat_nodup hn h.2, fun p hp q hq e => ?_⟩
  ·cases hg : g[id]? with
   | none => rw [List.getD_eq_getElem?_getD, hg]; simp [Gh.blocks]
   | some y => rw [List.getD_eq_getElem?_getD, hg]; exact nodup_of hn hg
  ·subst e
   obtain ⟨jd, hj, hq⟩ := List.mem_flatMap.1 hq
   cases hg : g[id]? with
   | none => rw [List.getD_eq_getElem?_getD, hg] at hp; simp [Gh.blocks] at hp
   | some x =>
    cases hg2 : g[jd]? with
    | none => rw [List.getD_eq_getElem?_getD, hg2] at hq; simp [Gh.blocks] at hq
    | some y =>
     rw [List.getD_eq_getElem?_getD, hg] at hp
     rw [List.getD_eq_getElem?_getD, hg2] at hq
     exact nodup_apart (i := id) (j := jd) hn (fun e => h.1 (by rw [e]; exact hj)) hg hg2 p hp hq
theorem finish_ok (hT : TabOK P T) {fn : Func} {W g : List Gh} {w0 : World} {st : St} {a : Act} (hR : RelG W w0 g st a w) (hW : ∀ x ∈ W, ∃ t, x = .row t) {v : TV} {ms : List CV} (h : finish T fn W.length st = some (v, ms)) :
  ∃ u, (results fn a.tmps).run P w = .ok u w ∧ ResOK w0 w v u ∧ BackOK w W ms := by
 unfold finish at h
 split at h
 ·rename_i ps is ms' h1 h2
  split at h
  ·rename_i hc
   obtain ⟨hc1, hc2, hc3⟩ := hc
   injection h with h
   obtain ⟨rfl, rfl⟩ := Prod.mk.inj h
   obtain ⟨us, gr, hus, hcl⟩ := resL_rep hT hR.ob hR.tm h1
   have hisn := nodupB_iff hc1
   obtain ⟨hml, hmk⟩ := muts_get h2
   have hrow : ∀ (i : Nat) (t : GT), W[i]? = some (.row t) → g[i]? = some (.row t) ∧ ∃ (r : CT) (xs : List (El r)) (v : Value) (rows : List GT), ms'[i]? = some (.fz r xs) ∧ t = .sl r.size v rows ∧ OwnC w (.sl r) #[v] 0 xs t := fun i t hi => by
    have hlt := (List.getElem?_eq_some_iff.1 hi).1
    obtain ⟨r, xs, h3, h4⟩ := hmk i hlt
    rw [Nat.zero_add] at h3
    obtain ⟨v, rows, h5, h6⟩ := row_at hR.ob h3
    rcases hR.kept.1 i t hi with h7 | h7
    ·rw [h5] at h7
     simp only [Option.some.injEq, Gh.row.injEq] at h7
     subst h7
     exact ⟨h5, r, xs, v, rows, h4, rfl, h6⟩
    ·rw [h5] at h7; cases h7
   refine ⟨if h : us.toArray.size = 1 then us.toArray[0] else .tuple us.toArray, ?_, ⟨gr, ?_, ?_, ?_, fun b hb => ?_⟩, back_of hml (fun k t hk => (hrow k t hk).2) hW⟩
   ·have e : results fn a.tmps = (do let vs ← fn.results.mapM (resVal a.tmps); pure (if h : vs.size = 1 then vs[0] else .tuple vs)) := by
     unfold results
     congr 1
    have e2 : fn.results.mapM (resVal a.tmps) = List.toArray <$> fn.results.toList.mapM (resVal a.tmps) := by
     conv => lhs; rw [← Array.toArray_toList (xs := fn.results)]
     exact List.mapM_toArray
    rw [e, e2]
    simp [hus]
   ·exact one_rep (hcl.rep _ 0 gr (fun k hk => by rw [Nat.zero_add])) hc3
   ·rw [one_open hc3]; exact hcl.ob _ _
   ·rw [hcl.bl]; exact flat_nodup hR.nd hisn
   ·rw [hcl.bl] at hb
    obtain ⟨id, hid, hb⟩ := List.mem_flatMap.1 hb
    cases hg : g[id]? with
    | none => rw [List.getD_eq_getElem?_getD, hg] at hb; simp [Gh.blocks] at hb
    | some x =>
     rw [List.getD_eq_getElem?_getD, hg] at hb
     obtain ⟨h3, h4⟩ := hR.own b (allB_mem hg hb)
     refine ⟨h4.resolve_right (fun h5 => ?_), h3⟩
     obtain ⟨y, hy, hby⟩ := mem_allB.1 h5
     obtain ⟨t, rfl⟩ := hW y hy
     obtain ⟨i, hi, e⟩ := List.getElem_of_mem hy
     have hgi := (hrow i t (by rw [List.getElem?_eq_getElem hi, e])).1
     have hge := of_decide_eq_true ((List.all_eq_true.1 hc2) id hid)
     exact nodup_apart (i := id) (j := i) hR.nd (by omega) hg hgi b hb hby
  ·cases h
 ·cases h
end
end Go.Proofs.YtgcioclfplafkaaGreatV
end
section
namespace Go.Proofs.YtgcioclfplafkaaGreatV
open Go Go.RowKit
def bodies : Code → List (Nat × Code)
 | .seq a b => bodies a ++ bodies b
 | .cond _ a b => bodies a ++ bodies b
 | .block _ c => bodies c
 | .loop c => (keyOf c, c) :: bodies c
 | _ => []
def findB : List (Nat × Code) → Nat → Code
 | [], _ => .skip
 | (m, c) :: l, n => bif Nat.beq m n then c else findB l n
theorem findB_mem {n : Nat} {c : Code} : ∀ {l : List (Nat × Code)}, nodupB (l.map (·.1)) = true → (n, c) ∈ l → findB l n = c
 | [], _, h => by cases h
 | (m, d) :: l, hn, h => by
  simp only [List.map_cons, nodupB, Bool.and_eq_true, Bool.not_eq_true'] at hn
  simp only [findB]
  rcases List.mem_cons.1 h with h | h
  ·obtain ⟨rfl, rfl⟩ := Prod.mk.inj h
   simp
  ·have : Nat.beq m n = false := by
    refine Bool.eq_false_iff.2 (fun e => ?_)
    have e := Nat.eq_of_beq_eq_true e
    have h2 : n ∈ l.map (·.1) := List.mem_map.2 ⟨(n, c), h, rfl⟩
    have h3 := hn.1
    rw [e] at h3
    simp only [List.contains_eq_mem, decide_eq_false_iff_not] at h3
    exact h3 h2
   rw [this, cond_false]
   exact findB_mem hn.2 h
def lookL : List (Nat × LoopI) → Nat → Option LoopI
 | [], _ => none
 | (m, l) :: ls, n => bif Nat.beq m n then some l else lookL ls n
def RowL (T : Tab) (m : Nat) (L : LoopI) (d : Code) : Prop :=
 (∃ (f g : SF) (cs co : List CT) (e k : Nat) (lf : Nat → HT cs → Option (HT co)), (m ≤ f.m ∧ m ≤ g.m) ∧ (∀ x, lf 0 x = none) ∧ (∀ n x, lf (n + 1) x = ev T d (f.mk' cs x) (outA e g co f cs (lf n))) ∧ L = loopA f cs e g co (lf k)) ∨
 (∃ (f g h : SF) (cs co cr : List CT) (e k : Nat) (lf : Nat → HT cs → Option (HT co ⊕ HT cr)), (m ≤ f.m ∧ m ≤ g.m ∧ m ≤ h.m) ∧ (∀ x, lf 0 x = none) ∧ (∀ n x, lf (n + 1) x = ev T d (f.mk' cs x) (outB e g co h cr f cs (lf n))) ∧ L = loopB f cs e g co h cr (lf k))
theorem rowA {T : Tab} {m : Nat} {f g : SF} {cs co : List CT} {e : Nat} (k : Nat) {d : Code} (lf : Nat → HT cs → Option (HT co)) (hm : m ≤ f.m ∧ m ≤ g.m) (h0 : ∀ x, lf 0 x = none) (h1 : ∀ n x, lf (n + 1) x = ev T d (f.mk' cs x) (outA e g co f cs (lf n))) :
  RowL T m (loopA f cs e g co (lf k)) d := .inl ⟨f, g, cs, co, e, k, lf, hm, h0, h1, rfl⟩
theorem rowB {T : Tab} {m : Nat} {f g h : SF} {cs co cr : List CT} {e : Nat} (k : Nat) {d : Code} (lf : Nat → HT cs → Option (HT co ⊕ HT cr)) (hm : m ≤ f.m ∧ m ≤ g.m ∧ m ≤ h.m) (h0 : ∀ x, lf 0 x = none) (h1 : ∀ n x, lf (n + 1) x = ev T d (f.mk' cs x) (outB e g co h cr f cs (lf n))) :
  RowL T m (loopB f cs e g co h cr (lf k)) d := .inr ⟨f, g, h, cs, co, cr, e, k, lf, hm, h0, h1, rfl⟩
def RowsL (T : Tab) (m : Nat) (c : Code) : List (Nat × LoopI) → Prop
 | [] => True
 | p :: l => RowL T m p.2 (findB (bodies c) p.1) ∧ RowsL T m c l
theorem rows_look {T : Tab} {m n : Nat} {c : Code} {L : LoopI} : ∀ {l : List (Nat × LoopI)}, RowsL T m c l → lookL l n = some L → RowL T m L (findB (bodies c) n)
 | [], _, h => by cases h
 | (k, x) :: l, hr, h => by
  simp only [lookL] at h
  cases hk : Nat.beq k n with
  | true =>
   rw [hk, cond_true] at h
   injection h with h
   subst h
   have : k = n := Nat.eq_of_beq_eq_true hk
   subst this
   exact hr.1
  | false =>
   rw [hk, cond_false] at h
   exact rows_look hr.2 h
section
variable {P : Program} {T : Tab}
theorem loops_ok (hP : P.follows .mixedOrders = true) (hT : TabFn P T) {m : Nat} {W : List Gh} {w0 : World} (hW : W.length ≤ m) : ∀ (c : Code), (∀ p ∈ bodies c, ∀ L, T.loop p.1 = some L → RowL T m L p.2) → AllLoops (LoopsOK P T W w0) c
 | .seq a b, h => ⟨loops_ok hP hT hW a (fun p hp => h p (by simp [bodies, hp])), loops_ok hP hT hW b (fun p hp => h p (by simp [bodies, hp]))⟩
 | .cond _ a b, h => ⟨loops_ok hP hT hW a (fun p hp => h p (by simp [bodies, hp])), loops_ok hP hT hW b (fun p hp => h p (by simp [bodies, hp]))⟩
 | .block _ c, h => loops_ok hP hT hW c (fun p hp => h p (by simp [bodies, hp]))
 | .loop c, h => fun L hL => by
  have hb : CodeOK P T W w0 c (fun st K => ev T c st K) := code_ok hP hT c (loops_ok hP hT hW c (fun p hp => h p (by simp [bodies, hp])) : AllLoops (LoopsOK P T W w0) c)
  rcases h (keyOf c, c) (by simp [bodies]) L hL with ⟨f, g, cs, co, e, k, lf, hm, h0, h1, rfl⟩ | ⟨f, g, h', cs, co, cr, e, k, lf, hm, h0, h1, rfl⟩
  ·intro R st K r a w Q q1 q2 q3
   exact loopA_ok (Nat.le_trans hW hm.1) (Nat.le_trans hW hm.2) lf h0 h1 hb k st K r a w Q q1 q2 q3
  ·intro R st K r a w Q q1 q2 q3
   exact loopB_ok (Nat.le_trans hW hm.1) (Nat.le_trans hW hm.2.1) (Nat.le_trans hW hm.2.2) lf h0 h1 hb k st K r a w Q q1 q2 q3
 | .skip, _ => trivial
 | .region .., _ => trivial
 | .exit _, _ => trivial
 | .ret, _ => trivial
 | .label _, _ => trivial
 | .goto _, _ => trivial
 | .scope _, _ => trivial
 | .rangeFunc .., _ => trivial
 | .refuse .., _ => trivial
def SC.wn : SC → Nat | .w => 1 | _ => 0
def wnL (l : List SC) : Nat := l.foldr (fun s n => s.wn + n) 0
def TT.wn : TT → Nat
 | .c s => s.wn
 | .agg l => wnL l
 | .tup _ => 1000
 | _ => 0
def wnTs (l : List TT) : Nat := l.foldr (fun s n => s.wn + n) 0
theorem sc_wn {s : SC} {v : CV} {l : List CV} (h : s.dec v = some l) (n : Nat) : (openC n v).2.length = s.wn := by
 cases s <;> cases v <;> first | rfl | simp [SC.dec] at h
theorem l_wn : ∀ {ss : List SC} {vs l : List CV} (_ : decL ss vs = some l) (n : Nat), (openL n vs).2.length = wnL ss
 | [], [], _, _, _ => rfl
 | [], _ :: _, _, h, _ => by simp [decL] at h
 | _ :: _, [], _, h, _ => by simp [decL] at h
 | s :: ss, v :: vs, l, h, n => by
  simp only [decL] at h
  split at h
  ·rename_i h1 h2
   simp only [openL, List.length_append, sc_wn h1, l_wn h2]
   rfl
  ·cases h
theorem t_wn {s : TT} {v : TV} {l : List CV} (h : s.dec v = some l) (hs : s.wn < 1000) (n : Nat) : (openT n v).2.length = s.wn := by
 cases s with
 | tup l => exact absurd hs (by simp [TT.wn])
 | c s => cases v <;> simp only [TT.dec, reduceCtorEq] at h; simp only [openT, sc_wn h, TT.wn]
 | agg s => cases v <;> simp only [TT.dec, reduceCtorEq] at h; simp only [openT, l_wn h, TT.wn]
 | fp s => cases v <;> simp only [TT.dec, reduceCtorEq] at h; rfl
 | fn f s => cases v <;> simp only [TT.dec, reduceCtorEq] at h; rfl
theorem ts_wn : ∀ {ss : List TT} {vs : List TV} {l : List CV} (_ : decTs ss vs = some l) (_ : wnTs ss < 1000) (n : Nat), (openA n vs).2.length = wnTs ss
 | [], [], _, _, _, _ => rfl
 | [], _ :: _, _, h, _, _ => by simp [decTs] at h
 | _ :: _, [], _, h, _, _ => by simp [decTs] at h
 | s :: ss, v :: vs, l, h, hs, n => by
  have e : wnTs (s :: ss) = s.wn + wnTs ss := rfl
  simp only [decTs] at h
  split at h
  ·rename_i h1 h2
   simp only [openA, List.length_append, t_wn h1 (by omega), ts_wn h2 (by omega), e]
  ·cases h
theorem openA_rows : ∀ (l : List TV) (n : Nat), (openA n l).2.all isRow = true
 | [], _ => rfl
 | v :: l, n => by simp only [openA, List.all_append, openT_rows, openA_rows l, Bool.and_self]
theorem reps_dead {w : World} {S : Nat → Prop} {g : List Gh} : ∀ n, RepTs w S g (List.replicate n .dead) (List.replicate n undef)
 | 0 => trivial
 | n + 1 => ⟨trivial, reps_dead n⟩
theorem sc_np {s : SC} {v : CV} {l : List CV} (h : s.dec v = some l) : npC v = true := by
 cases v <;> first | rfl | (cases s <;> simp [SC.dec] at h)
theorem l_np : ∀ {ss : List SC} {vs l : List CV}, decL ss vs = some l → vs.all npC = true
 | [], [], _, _ => rfl
 | [], _ :: _, _, h => by simp [decL] at h
 | _ :: _, [], _, h => by simp [decL] at h
 | s :: ss, v :: vs, l, h => by
  simp only [decL] at h
  split at h
  ·rename_i h1 h2
   rw [List.all_cons, sc_np h1, l_np h2]; rfl
  ·cases h
theorem p_np : ∀ {ss : List (Bool × List SC)} {vs : List (Bool × List CV)} {l : List CV}, decP ss vs = some l → (vs.all fun p => p.2.all npC) = true
 | [], [], _, _ => rfl
 | [], _ :: _, _, h => by simp [decP] at h
 | _ :: _, [], _, h => by simp [decP] at h
 | (b, s) :: ss, (b', v) :: vs, l, h => by
  simp only [decP] at h
  split at h
  ·split at h
   ·rename_i h1 h2
    rw [List.all_cons, Bool.and_eq_true]
    exact ⟨l_np h1, p_np h2⟩
   ·cases h
  ·cases h
theorem t_np {s : TT} {v : TV} {l : List CV} (h : s.dec v = some l) : npT v = true := by
 cases s <;> cases v <;> simp only [TT.dec, reduceCtorEq] at h
 ·exact sc_np h
 ·exact l_np h
 ·exact p_np h
 ·exact l_np h
 ·split at h
  ·exact l_np h
  ·cases h
theorem open_npC (n : Nat) {v : CV} (h : npC v = true) : npC (openC n v).1 = true := by cases v <;> first | rfl | exact h
theorem open_npL : ∀ {l : List CV} (n : Nat), l.all npC = true → (openL n l).1.all npC = true
 | [], _, _ => rfl
 | v :: l, n, h => by
  simp only [List.all_cons, Bool.and_eq_true] at h
  simp only [openL, List.all_cons, Bool.and_eq_true]
  exact ⟨open_npC n h.1, open_npL _ h.2⟩
theorem open_npP : ∀ {l : List (Bool × List CV)} (n : Nat), (l.all fun p => p.2.all npC) = true → ((openP n l).1.all fun p => p.2.all npC) = true
 | [], _, _ => rfl
 | (b, v) :: l, n, h => by
  simp only [List.all_cons, Bool.and_eq_true] at h
  simp only [openP, List.all_cons, Bool.and_eq_true]
  exact ⟨open_npL n h.1, open_npP _ h.2⟩
theorem open_npT (n : Nat) {v : TV} (h : npT v = true) : npT (openT n v).1 = true := by
 cases v with
 | c v => exact open_npC n h
 | agg l => exact open_npL n h
 | tup l => exact open_npP n h
 | _ => exact h
theorem ts_np : ∀ {ss : List TT} {vs : List TV} {l : List CV} (_ : decTs ss vs = some l) (n : Nat), (openA n vs).1.all npT = true
 | [], [], _, _, _ => rfl
 | [], _ :: _, _, h, _ => by simp [decTs] at h
 | _ :: _, [], _, h, _ => by simp [decTs] at h
 | s :: ss, v :: vs, l, h, n => by
  simp only [decTs] at h
  split at h
  ·rename_i h1 h2
   simp only [openA, List.all_cons, Bool.and_eq_true]
   exact ⟨open_npT n (t_np h1), ts_np h2 _⟩
  ·cases h
theorem rows_np {l : List Ob} (h : l.all isRow = true) : l.all npO = true := List.all_eq_true.2 (fun x hx => by
 have := (List.all_eq_true.1 h) x hx
 cases x <;> first | rfl | simp [isRow] at this)
theorem enter_np {fn : Func} {ss : List TT} {args : List TV} {l : List CV} (h : decTs ss args = some l) : npSt (enter fn args) = true := by
 unfold npSt enter
 simp only [Bool.and_eq_true, List.all_append]
 refine ⟨⟨ts_np h 0, List.all_eq_true.2 (fun x hx => by rw [(List.mem_replicate.1 hx).2]; rfl)⟩, rows_np (openA_rows args 0)⟩
theorem fun_ok (hP : P.follows .mixedOrders = true) (hT : TabFn P T) {f : Nat} {fn : Func} {c : Code} (I : FunI) (F : HT I.cs → Option (HT I.co)) (hf : P.funcs[f]? = some fn) (hb : fn.body = some c) (hm : wnTs I.at_ = I.m) (hm2 : I.m < 1000)
  {ls : List (Nat × LoopI)} (hls : T.loop = lookL ls) (hk : nodupB ((bodies c).map (·.1)) = true) (hl : RowsL T I.m c ls) (heq : ∀ x, F x = I.body T fn c x) (hnp : T.np = true → I.m = 0) : CallOK P f (I.call F) := by
 intro args res ms h w vals S g hargs hobs hnd hlt hS
 have h := h (fun v m => some (v, m))
 unfold FunI.call at h
 obtain ⟨x, hx, h⟩ := Option.bind_eq_some_iff.1 h
 obtain ⟨y, hy, h⟩ := Option.bind_eq_some_iff.1 h
 obtain ⟨hs, hd, hx⟩ := Option.bind_eq_some_iff.1 hx
 have hwn := ts_wn hd (by omega) 0
 have hgl := ObsOK_length hobs
 have hinst : instTs I.at_ (toCVs I.cs x) = (args, []) := by
  rw [toCVs_from hx]
  have := ts_inst hd []
  rwa [List.append_nil] at this
 rw [heq] at hy
 unfold FunI.body at hy
 rw [hinst] at hy
 have hW : ∀ x ∈ g, ∃ t, x = .row t := by
  intro x hx
  obtain ⟨i, hi, e⟩ := List.getElem_of_mem hx
  have ho : i < (openA 0 args).2.length := by omega
  have := (ObsOK_iff.1 hobs).2 i _ x (List.getElem?_eq_getElem ho) (by rw [List.getElem?_eq_getElem hi, e])
  have hr := (List.all_eq_true.1 (openA_rows args 0)) _ (List.getElem_mem ho)
  generalize (openA 0 args).2[i] = o at this hr
  cases o <;> simp [isRow] at hr
  cases x <;> first | exact ⟨_, rfl⟩ | exact this.elim
 have hSS : ∀ b, S b → Stable w g b ∧ w.heap[b]? = w.heap[b]? := fun b hb => ⟨hS b hb, rfl⟩
 have hlen := RepTs_length hargs
 have hR : RelG g w g (enter fn args) { tmps := vals.toArray ++ Array.replicate (fn.ntmps - vals.toArray.size) undef, defers := [] } w := by
  refine ⟨?_, ObsOK_mono hSS (GExt.refl g) (fun _ _ _ _ => rfl) hobs, hnd, fun b hb => ⟨hlt b hb, .inr hb⟩, Keep.refl _ _, ⟨fun i t hi => .inl hi, fun i x _ hi => hi⟩, rfl⟩
  simp only [enter, Array.toList_append, Array.toList_replicate, List.size_toArray]
  rw [hlen]
  exact RepTs_append (RepTs_mono hSS (GExt.refl g) hargs) (reps_dead _)
 refine calls_of_wp hf hb ?_
 refine code_ok hP hT c (loops_ok (W := g) (w0 := w) (m := I.m) hP hT (by omega) c (fun p hp L hL => ?_)) _ _ y _ w _ ⟨⟨g, hR⟩, fun hn => ⟨enter_np hd, List.eq_nil_of_length_eq_zero (by have := hnp hn; omega)⟩⟩ hy (fun e st' a' w' hR' hK => ?_)
 ·rw [hls] at hL
  have := rows_look hl hL
  rwa [findB_mem hk hp] at this
 ·obtain ⟨⟨g', hR'⟩, _⟩ := hR'
  have hfin : e.out = .normal ∨ e.out = .ret := by
   cases e
   ·exact .inl rfl
   ·cases hK
   ·exact .inr rfl
  have hK' : ((finish T fn I.m st').bind fun (v, ms) => match I.rt.dec v with | some hs => fromCVs I.co (hs ++ ms) | none => none) = some y := by
   cases e
   ·exact hK
   ·cases hK
   ·exact hK
  obtain ⟨⟨v, ms'⟩, hfi, hK'⟩ := Option.bind_eq_some_iff.1 hK'
  simp only at hK'
  cases hdv : I.rt.dec v with
  | none => rw [hdv] at hK'; cases hK'
  | some hs' =>
   rw [hdv] at hK'
   simp only at hK'
   have e1 := toCVs_from hK'
   have e2 := t_inst hdv ms'
   rw [e1, e2] at h
   simp only [Option.some.injEq, Prod.mk.injEq] at h
   obtain ⟨rfl, rfl⟩ := h
   rw [← hm, ← hwn, hgl] at hfi
   obtain ⟨u, hu, hres, hback⟩ := finish_ok hT.toTabOK hR' hW hfi
   have : a'.defers = [] ∧ ∃ z, (results fn a'.tmps).run P w' = .ok z w' ∧ (∃ v_1, Ending.returned z = Ending.returned v_1 ∧ Keep (allB g) w w' ∧ BackOK w' g ms' ∧ ResOK w w' v v_1) := ⟨hR'.df, u, hu, u, rfl, hR'.keep, hback, hres⟩
   rcases hfin with e3 | e3 <;> rw [e3] <;> exact this
end
end Go.Proofs.YtgcioclfplafkaaGreatV
end
section
namespace Go.Proofs.YtgcioclfplafkaaGreatV
open Go Go.RowKit
structure CallI where
 I : FunI
 F : HT I.cs → Option (HT I.co)
def lookC : List (Nat × CallI) → Nat → Option CallI
 | [], _ => none
 | (m, c) :: l, n => bif Nat.beq m n then some c else lookC l n
structure PrI where
 h : {R : Type} → List TV → List Ob → (TV → List Ob → Option R) → Option R
def lookP : List (Nat × PrI) → Nat → Option PrI
 | [], _ => none
 | (m, c) :: l, n => bif Nat.beq m n then some c else lookP l n
def TC (ty : Nat → Option TI) (wr eqt : Nat → Bool) (rv : Nat) (fz : Nat → Bool) (C : List (Nat × CallI)) (D : List (Nat × PrI)) : Tab :=
 {ty := ty, loop := fun _ => none, call := fun f _ args K => match lookC C f with | some c => c.I.call c.F args K | none => none, wr := wr, rev := fun f => Nat.beq f rv, join := fun _ => [], eq := eqt, np := false, frz := fz,
  isP := fun f => (lookP D f).isSome, proc := fun f _ args objs K => match lookP D f with | some c => c.h args objs K | none => none }
section
variable {P : Program} {ty : Nat → Option TI} {wr eqt : Nat → Bool} {rv : Nat} {fz : Nat → Bool} {D : List (Nat × PrI)}
theorem call_leaf (I : FunI) (F : HT I.cs → Option (HT I.co)) (R : Type) (args : List TV) (K : TV → List CV → Option R) : I.call F args K = (I.call F args (fun v m => some (v, m))).bind fun p => K p.1 p.2 := by
 unfold FunI.call
 cases (decTs I.at_ args).bind (fromCVs I.cs) with
 | none => rfl
 | some x =>
  simp only [Option.bind_some]
  cases F x with
  | none => rfl
  | some y => rfl
theorem tc_leaf (C : List (Nat × CallI)) : LeafCall (TC ty wr eqt rv fz C D) := by
 intro f R args K
 simp only [TC]
 cases lookC C f with
 | none => rfl
 | some c => exact call_leaf c.I c.F R args K
theorem tc_nil (hty : TabOK P (TC ty wr eqt rv fz [] [])) : TabFn P (TC ty wr eqt rv fz [] []) := by
 refine ⟨hty, tc_leaf _, fun f args p _ h => ?_, fun f args p _ h => ?_, fun h => Bool.noConfusion h, fun _ _ _ _ _ => rfl, fun f h => ?_⟩ <;> cases h
theorem tp_cons {C : List (Nat × CallI)} (h : TabFn P (TC ty wr eqt rv fz C D)) {f : Nat} {c : PrI} (hk : ∀ (R : Type) (args : List TV) (objs : List Ob) (K : TV → List Ob → Option R), c.h args objs K = (c.h args objs (fun v l => some (v, l))).bind fun p => K p.1 p.2)
  (hc : ProcOK P f c.h) (he : Enterable P f) : TabFn P (TC ty wr eqt rv fz C ((f, c) :: D)) := by
 have look : ∀ f', lookP ((f, c) :: D) f' = bif Nat.beq f f' then some c else lookP D f' := fun _ => rfl
 refine ⟨⟨h.ty, h.eq⟩, tc_leaf _, h.fn, h.rev, fun h => Bool.noConfusion h, fun f' R args objs K => ?_, fun f' hf => ?_⟩
 ·simp only [TC, look]
  cases e : Nat.beq f f' with
  | true => simp only [cond_true]; exact hk R args objs K
  | false => simp only [cond_false]; exact h.procK f' R args objs K
 ·cases e : Nat.beq f f' with
  | true =>
   have : f = f' := Nat.eq_of_beq_eq_true e
   subst this
   refine ⟨fun args objs res l h1 => hc args objs res l (fun K => ?_), he⟩
   have := h1 K
   simp only [TC, look, e, cond_true] at this
   exact this
  | false =>
   have hf' : (TC ty wr eqt rv fz C D).isP f' = true := by
    have : (lookP ((f, c) :: D) f').isSome = true := hf
    rw [look, e, cond_false] at this
    exact this
   obtain ⟨h1, h2⟩ := h.proc f' hf'
   refine ⟨fun args objs res l h3 => h1 args objs res l (fun K => ?_), h2⟩
   have := h3 K
   simp only [TC, look, e, cond_false] at this
   exact this
theorem tc_cons {C : List (Nat × CallI)} (h : TabFn P (TC ty wr eqt rv fz C D)) {f : Nat} {c : CallI} (hr : Nat.beq f rv = false) (hc : CallOK P f (c.I.call c.F)) (he : Enterable P f) : TabFn P (TC ty wr eqt rv fz ((f, c) :: C) D) := by
 have look : ∀ f', lookC ((f, c) :: C) f' = bif Nat.beq f f' then some c else lookC C f' := fun _ => rfl
 have hcall : ∀ f', Nat.beq f f' = false → ∀ (R : Type), @Tab.call (TC ty wr eqt rv fz ((f, c) :: C) D) f' R = @Tab.call (TC ty wr eqt rv fz C D) f' R := fun f' e R => by
  funext args K
  simp only [TC, look, e, cond_false]
 refine ⟨⟨h.ty, h.eq⟩, tc_leaf _, fun f' args p hr' hp => ?_, fun f' args p hr' hp => ?_, fun h => Bool.noConfusion h, h.procK, h.proc⟩
 ·cases e : Nat.beq f f' with
  | true =>
   have : f = f' := Nat.eq_of_beq_eq_true e
   subst this
   refine ⟨fun args res ms h1 => hc args res ms (fun K => ?_), he⟩
   have := h1 K
   simp only [TC, look, e, cond_true] at this
   exact this
  | false =>
   rw [hcall f' e] at hp
   obtain ⟨h1, h2⟩ := h.fn f' args p hr' hp
   refine ⟨fun args res ms h3 => h1 args res ms (fun K => ?_), h2⟩
   have := h3 K
   simp only at this ⊢
   rw [hcall f' e] at this
   exact this
 ·cases e : Nat.beq f f' with
  | true =>
   have : f = f' := Nat.eq_of_beq_eq_true e
   subst this
   have : Nat.beq f rv = true := hr'
   rw [hr] at this; cases this
  | false =>
   rw [hcall f' e] at hp
   exact h.rev f' args p hr' hp
theorem tab_with {T : Tab} (h : TabFn P T) (l : Nat → Option LoopI) (j : Nat → List (Nat × CT)) (b p : Bool) (hb : p = true → b = false) : TabFn P { T with loop := l, join := j, np := b, hasP := p } := ⟨⟨h.ty, h.eq⟩, h.leaf, h.fn, h.rev, hb, h.procK, h.proc⟩
end
end Go.Proofs.YtgcioclfplafkaaGreatV
end
section
namespace Go.Proofs.YtgcioclfplafkaaGreatV
open Go Go.RowKit
theorem decOs_length : ∀ {ss : List OT} {vs : List Ob} {l : List CV}, decOs ss vs = some l → ss.length = vs.length
 | [], [], _, _ => rfl
 | [], _ :: _, _, h => by simp [decOs] at h
 | _ :: _, [], _, h => by simp [decOs] at h
 | s :: ss, v :: vs, l, h => by
  simp only [decOs] at h
  split at h
  ·rename_i h1 h2
   simp [decOs_length h2]
  ·cases h
theorem openC_none {n : Nat} {v : CV} (h : (openC n v).2 = []) : (openC n v).1 = v := by cases v <;> first | rfl | simp [openC] at h
theorem openL_none : ∀ {l : List CV} {n : Nat}, (openL n l).2 = [] → (openL n l).1 = l
 | [], _, _ => rfl
 | v :: l, n, h => by
  simp only [openL, List.append_eq_nil_iff] at h ⊢
  rw [openC_none h.1, openL_none h.2]
theorem openP_none : ∀ {l : List (Bool × List CV)} {n : Nat}, (openP n l).2 = [] → (openP n l).1 = l
 | [], _, _ => rfl
 | (b, v) :: l, n, h => by
  simp only [openP, List.append_eq_nil_iff] at h ⊢
  rw [openL_none h.1, openP_none h.2]
theorem one_none {ps : List (Bool × List CV)} (hp : (ps.all fun p => p.1 || decide (p.2.length = 1)) = true) (h : (openP 0 ps).2 = []) : (openT 0 (oneOf ps)).1 = oneOf ps := by
 have h1 := one_open hp 0
 rw [h] at h1
 cases hv : oneOf ps with
 | c v => rw [hv] at h1; simp only [openT] at h1 ⊢; rw [openC_none h1]
 | agg l => rw [hv] at h1; simp only [openT] at h1 ⊢; rw [openL_none h1]
 | tup l => rw [hv] at h1; simp only [openT] at h1 ⊢; rw [openP_none h1]
 | _ => rfl
section
variable {P : Program} {T : Tab} {W : List Gh} {w0 w : World} {g : List Gh} {st : St} {a : Act}
theorem baseF_nodup {kr : Bool} {m : Nat} {objs : List Ob} (h : m ≤ objs.length) : (baseF kr m objs).Nodup := by
 unfold baseF
 rw [List.nodup_iff_pairwise_ne, List.pairwise_map]
 refine List.Pairwise.imp_of_mem ?_ List.pairwise_lt_range
 intro i j hi hj hij
 have := List.mem_range.1 hi
 have := List.mem_range.1 hj
 split <;> split <;> omega
theorem baseF_get {kr : Bool} {m : Nat} {objs : List Ob} {i : Nat} (h : i < m) : (baseF kr m objs)[i]? = some (match kr, Ob.at objs i with | false, .row _ _ => objs.length + i | _, _ => i) := by
 unfold baseF
 rw [List.getElem?_map, List.getElem?_range h]
 rfl
theorem normF_ok {kr : Bool} {m : Nat} (hm : W.length ≤ m) (hml : m ≤ st.objs.length) (hR : RelG W w0 g st a w) : ∃ g2 tmps, RelG W w0 g2 { tmps := tmps, objs := normF kr m st } a w := by
 have hlen := ObsOK_length hR.ob
 have hr3 := nilOs_rows st.objs st.objs.length
 generalize hgx : g ++ (nilOs st.objs.length st.objs).2.map gx = g'
 have hB : allB g' = allB g := by rw [← hgx, allB_append, allB_gx hr3]; simp
 have hG : GExt g g' := fun i x hi => by
  have hl := (List.getElem?_eq_some_iff.1 hi).1
  right; left
  rw [← hgx, List.getElem?_append_left hl]
  exact hi
 have hS : ∀ b, Stable w g b → Stable w g' b ∧ w.heap[b]? = w.heap[b]? := fun b hb => ⟨⟨hb.1, by rw [hB]; exact hb.2⟩, rfl⟩
 have h3 : Have g' st.objs.length (nilOs st.objs.length st.objs).2 := fun k hk => by
  rw [← hgx, List.getElem?_append_right (by omega), hlen, Nat.add_sub_cancel_left]
 have hmid : RelG W w0 g' { tmps := keepT 0 [] st.tmps, objs := (nilOs st.objs.length st.objs).1 ++ (nilOs st.objs.length st.objs).2 } a w := by
  refine ⟨RepTs_mono hS hG (keepT_rep 0 [] hR.tm), ?_, by rw [hB]; exact hR.nd, by rw [hB]; exact hR.own, hR.keep, hR.kept.ext hG, hR.df⟩
  have := ObsOK_append (nilOs_rep hS hG h3 hR.ob) (obs_gx (w := w) (S := Stable w g') (g := g') hr3)
  rw [hgx] at this
  exact this
 generalize hob : (nilOs st.objs.length st.objs).1 ++ (nilOs st.objs.length st.objs).2 = objs at hmid
 have hl2 : objs.length = g'.length := ObsOK_length hmid.ob
 have hle : m ≤ objs.length := by rw [← hob, List.length_append, nilOs_length]; omega
 have hb := baseF_nodup (kr := kr) hle
 have hrel := rel_sel hmid (addNew_nodup (kids objs (addNew (addNew (baseF kr m objs) []) (kids objs (addNew (baseF kr m objs) [])))) _ (addNew_nodup (kids objs (addNew (baseF kr m objs) [])) _ (addNew_nodup [] _ hb))) (fun i x hi => by
  have hl := (List.getElem?_eq_some_iff.1 hi).1
  have h0 : i < (baseF kr m objs).length := by unfold baseF; simp; omega
  have h1 : i < (addNew (baseF kr m objs) []).length := Nat.lt_of_lt_of_le h0 (addNew_le [] (baseF kr m objs))
  rw [addNew_pre _ _ _ (Nat.lt_of_lt_of_le h1 (addNew_le _ _)), addNew_pre _ _ _ h1, addNew_pre _ _ _ h0, baseF_get (by omega)]
  refine ⟨fun hx => ?_, fun hx => ?_⟩
  ·have hgi := hmid.kept.2 i x hx hi
   have hil := (List.getElem?_eq_some_iff.1 hgi).1
   have hok := (ObsOK_iff.1 hmid.ob).2 i _ x (List.getElem?_eq_getElem (by simp only; omega)) hgi
   have hat : Ob.at objs i = objs[i]'(by omega) := by unfold Ob.at; rw [List.getD_eq_getElem?_getD, List.getElem?_eq_getElem (by omega)]; rfl
   rw [hat]
   simp only at hok
   generalize objs[i]'(by omega) = ob at hok
   cases kr <;> cases ob <;> first | rfl | (cases x <;> first | exact hok.elim | exact hx.elim)
  ·split
   ·right
    exact ⟨objs.length + i, rfl, by rw [← hl2]; exact Nat.le_add_right _ _⟩
   ·exact .inl rfl)
 have e : normF kr m st = (addNew (addNew (addNew (baseF kr m objs) []) (kids objs (addNew (baseF kr m objs) []))) (kids objs (addNew (addNew (baseF kr m objs) []) (kids objs (addNew (baseF kr m objs) []))))).map (fun id => renO (addNew (addNew (addNew (baseF kr m objs) []) (kids objs (addNew (baseF kr m objs) []))) (kids objs (addNew (addNew (baseF kr m objs) []) (kids objs (addNew (baseF kr m objs) []))))) (Ob.at objs id)) := by
  rw [← hob]; rfl
 rw [e]
 exact ⟨_, _, hrel⟩
theorem finishP_ok (hT : TabOK P T) {fn : Func} {kr : Bool} {m : Nat} (hR : RelG W w0 g st a w) (hm : W.length ≤ m) {v : TV} {l : List Ob} (h : finishP T fn kr m st = some (v, l)) :
  ∃ u g2 tmps, (results fn a.tmps).run P w = .ok u w ∧ RepT w (Stable w g2) g2 v u ∧ RelG W w0 g2 { tmps := tmps, objs := l } a w := by
 unfold finishP at h
 split at h
 ·rename_i ps is h1
  split at h
  ·rename_i hc
   obtain ⟨hc1, hc2, hc3⟩ := hc
   injection h with h
   obtain ⟨rfl, rfl⟩ := Prod.mk.inj h
   obtain ⟨us, gr, hus, hcl⟩ := resL_rep hT hR.ob hR.tm h1
   obtain ⟨g2, tmps, h2⟩ := normF_ok hm hc1 hR
   have hnil : (openP 0 ps).2 = [] := List.isEmpty_iff.1 hc2
   have hgr : gr.length = 0 := by rw [hcl.len, hnil]; rfl
   refine ⟨if h : us.toArray.size = 1 then us.toArray[0] else .tuple us.toArray, g2, tmps, ?_, ?_, h2⟩
   ·have e : results fn a.tmps = (do let vs ← fn.results.mapM (resVal a.tmps); pure (if h : vs.size = 1 then vs[0] else .tuple vs)) := by
     unfold results
     congr 1
    have e2 : fn.results.mapM (resVal a.tmps) = List.toArray <$> fn.results.toList.mapM (resVal a.tmps) := by
     conv => lhs; rw [← Array.toArray_toList (xs := fn.results)]
     exact List.mapM_toArray
    rw [e, e2]
    simp [hus]
   ·have := one_rep (hcl.rep (Stable w g2) 0 g2 (fun k hk => by omega)) hc3
    rw [one_none hc3 hnil] at this
    exact this
  ·cases h
 ·cases h
end
section
variable {P : Program} {T : Tab}
theorem proc_leaf (I : ProcI) (F : HT I.cs → Option (HT I.co)) (R : Type) (args : List TV) (objs : List Ob) (K : TV → List Ob → Option R) : I.call F args objs K = (I.call F args objs (fun v l => some (v, l))).bind fun p => K p.1 p.2 := by
 unfold ProcI.call
 cases decTs I.at_ args with
 | none => rfl
 | some a =>
  cases decOs I.os objs with
  | none => rfl
  | some b =>
   simp only [Option.bind_some]
   cases fromCVs I.cs (a ++ b) with
   | none => rfl
   | some x =>
    simp only [Option.bind_some]
    cases F x with
    | none => rfl
    | some y => rfl
theorem proc_ok (hP : P.follows .mixedOrders = true) (hT : TabFn P T) {f : Nat} {fn : Func} {c : Code} (I : ProcI) (F : HT I.cs → Option (HT I.co)) (hf : P.funcs[f]? = some fn) (hb : fn.body = some c)
  {ls : List (Nat × LoopI)} (hls : T.loop = lookL ls) (hk : nodupB ((bodies c).map (·.1)) = true) (hl : RowsL T I.os.length c ls) (heq : ∀ x, F x = I.body T fn c x) (hnp : T.np = false) : ProcOK P f (I.call F) := by
 intro args objs res l h w vals S g hargs hobs hnd hlt hS
 have h := h (fun v m => some (v, m))
 unfold ProcI.call at h
 obtain ⟨x, hx, h⟩ := Option.bind_eq_some_iff.1 h
 obtain ⟨y, hy, h⟩ := Option.bind_eq_some_iff.1 h
 obtain ⟨hs, hd, hx⟩ := Option.bind_eq_some_iff.1 hx
 split at hd
 ·rename_i da db hda hdb
  injection hd with hd
  subst hd
  have hgl := ObsOK_length hobs
  have hol := decOs_length hdb
  rw [heq] at hy
  unfold ProcI.body at hy
  rw [toCVs_from hx, ts_inst hda] at hy
  simp only at hy
  have hos := os_inst hdb []
  rw [List.append_nil] at hos
  rw [hos] at hy
  have hSS : ∀ b, S b → Stable w g b ∧ w.heap[b]? = w.heap[b]? := fun b hb => ⟨hS b hb, rfl⟩
  have hlen := RepTs_length hargs
  have hR : RelG g w g (enterP fn args objs) { tmps := vals.toArray ++ Array.replicate (fn.ntmps - vals.toArray.size) undef, defers := [] } w := by
   refine ⟨?_, ObsOK_mono hSS (GExt.refl g) (fun _ _ _ _ => rfl) hobs, hnd, fun b hb => ⟨hlt b hb, .inr hb⟩, Keep.refl _ _, ⟨fun i t hi => .inl hi, fun i x _ hi => hi⟩, rfl⟩
   simp only [enterP, Array.toList_append, Array.toList_replicate, List.size_toArray]
   rw [hlen]
   exact RepTs_append (RepTs_mono hSS (GExt.refl g) hargs) (reps_dead _)
  refine calls_of_wp hf hb ?_
  refine code_ok hP hT c (loops_ok (W := g) (w0 := w) (m := I.os.length) hP hT (by omega) c (fun p hp L hL => ?_)) _ _ y _ w _ ⟨⟨g, hR⟩, fun hn => by rw [hnp] at hn; cases hn⟩ hy (fun e st' a' w' hR' hK => ?_)
  ·rw [hls] at hL
   have := rows_look hl hL
   rwa [findB_mem hk hp] at this
  ·obtain ⟨⟨g', hR'⟩, _⟩ := hR'
   have hfin : e.out = .normal ∨ e.out = .ret := by
    cases e
    ·exact .inl rfl
    ·cases hK
    ·exact .inr rfl
   have hK' : ((finishP T fn I.kr I.os.length st').bind fun (v, objs) => match I.rt.dec v, decOs I.ot objs with | some a, some b => fromCVs I.co (a ++ b) | _, _ => none) = some y := by
    cases e
    ·exact hK
    ·cases hK
    ·exact hK
   obtain ⟨⟨v, l'⟩, hfi, hK'⟩ := Option.bind_eq_some_iff.1 hK'
   simp only at hK'
   split at hK'
   ·rename_i ra rb hra hrb
    have e1 := toCVs_from hK'
    rw [e1, t_inst hra] at h
    simp only at h
    have e2 := os_inst hrb []
    rw [List.append_nil] at e2
    rw [e2] at h
    simp only [Option.some.injEq, Prod.mk.injEq] at h
    obtain ⟨rfl, rfl⟩ := h
    obtain ⟨u, g2, tmps, hu, hv, hR2⟩ := finishP_ok hT.toTabOK hR' (by omega) hfi
    have : a'.defers = [] ∧ ∃ z, (results fn a'.tmps).run P w' = .ok z w' ∧ (∃ v_1, Ending.returned z = Ending.returned v_1 ∧ Keep (allB g) w w' ∧ ∃ g2, RepT w' (Stable w' g2) g2 v v_1 ∧ ObsOK w' (Stable w' g2) g2 l' g2 ∧ (allB g2).Nodup ∧ (∀ b ∈ allB g2, b < w'.heap.size ∧ (w.heap.size ≤ b ∨ b ∈ allB g)) ∧ GKeep g g2) :=
     ⟨hR'.df, u, hu, u, rfl, hR'.keep, g2, hv, hR2.ob, hR2.nd, hR2.own, hR2.kept⟩
    rcases hfin with e3 | e3 <;> rw [e3] <;> exact this
   ·cases hK'
 ·cases hd
end
end Go.Proofs.YtgcioclfplafkaaGreatV
end
section
namespace Go.Proofs.YtgcioclfplafkaaGreatV
open Go Go.RowKit
variable {R : Type}
def delH (args : List TV) (objs : List Ob) (K : TV → List Ob → Option R) : Option R :=
 match args, objs with
 | [.c (.ref 1), .c (.int .i64 a), .c (.int .i64 b)], [.gone, .row (.pair (.int .i64) (.int .i64)) xs] =>
  bif decide (0 ≤ a) then (bif decide (a < b) then (bif decide (b ≤ (xs.length : Int)) then K (.c (.ref 2)) [.gone, .gone, .row (.pair (.int .i64) (.int .i64)) (List.take a.toNat xs ++ List.drop b.toNat xs)] else none) else none) else none
 | _, _ => none
end Go.Proofs.YtgcioclfplafkaaGreatV
end

/- The listed table: what the row's premise gives of its twelve cells; that the door's own heap meets it -/
import Derived.Test.YtdmiihpblfkamaaDoorRows
import Derived.Test.YtdmiihpblfkamaaDoorWWords
import Derived.Test.YtdmiihpblfkamaaDoorWMore
import Derived.ProofKit
import Derived.LaidMore
import Derived.OpenShut
import Derived.ChangeVars
import Derived.Carry
import Derived.Stop.Joined
namespace Go.Proofs.YtdmiihpblfkamaaDoor.Moist
open Go Go.ChangeShapes Go.WideShapes Go.WideElems Go.ChangeAt Go.RowKit Go.Proofs.YtdmiihpblfkamaaDoorW.PrintWords

def mtab : List Int := [0, 0, 30, 60, 50, 90, 65, 120, 80, 160, 100, 280]
abbrev laidM : List (String × DataW Unit) := [("loop.example/g00956/impl.moistures", Rows.laid_loop_example_g00956_impl_moistures)]
theorem own : ownKnob Tryd.prog.godebug = none := by kernel_rfl
theorem laidOut : laidOutB Tryd.prog = true := by kernel_rfl
theorem gM : Tryd.prog.globalNamed "loop.example/g00956/impl.moistures" = some 0 := by kernel_rfl
theorem tM : (Tryd.prog.globals[0]?).map (·.type) = some 53 := by kernel_rfl
theorem cells2 : Tryd.prog.cellsOf 2 = 1 := by kernel_rfl
theorem cells1 : Tryd.prog.cellsOf 52 = 2 := by kernel_rfl
theorem cells0 : Tryd.prog.cellsOf 53 = 12 := by kernel_rfl

theorem door_met (os : Os) (args : Array Value) : laidMetH Tryd.prog laidM ((World.doorLaid Tryd.prog 400 os).forCall (fun _ _ => 0) ⟨#[], args, []⟩).memory :=
  laidMetH_of_parts3 (fuel := 8) (laidMet_of_run' 8 (by kernel_rfl) (by kernel_rfl)) (by kernel_rfl) (by kernel_rfl)

theorem pair_of {H : Type} {enc : TypeId × Value → H} {W : World} {sp : Nat → Bool} {held : Bool} {m : Nat} {cs : List Value} {a b : Int} {p : List MemPlace}
    (h : DataW.trod enc Tryd.prog W 0 sp held m 52 cs = some (.agg [.lit (.int .i64 a), .lit (.int .i64 b)], p)) : cs = [.int .i64 a, .int .i64 b] := by
  obtain ⟨xs, m1, rfl, hx, hlen, hn, hel⟩ := DataW.trod_array Tryd.underlying52 h
  rw [cells1] at hlen
  match cs, hlen with
  | [c0, c1], _ =>
    match xs, hn with
    | [x0, x1], _ =>
      simp only [Prod.mk.injEq, DataW.agg.injEq, List.map_cons, List.map_nil, List.cons.injEq, and_true] at hx
      have e0 := hel 0 (by omega)
      have e1 := hel 1 (by omega)
      rw [cells2] at e0 e1
      obtain ⟨n0, k0, y0, _⟩ := DataW.trod_int Tryd.underlying2 (show DataW.trod enc Tryd.prog W 0 sp held m1 2 [c0] = some x0 from e0)
      obtain ⟨n1, k1, y1, _⟩ := DataW.trod_int Tryd.underlying2 (show DataW.trod enc Tryd.prog W 0 sp held m1 2 [c1] = some x1 from e1)
      rw [y0, y1] at hx
      simp only [DataW.lit.injEq, Lit.int.injEq, true_and] at hx
      obtain ⟨⟨h0, h1⟩, _⟩ := hx
      simp only [List.cons.injEq, and_true] at k0 k1
      rw [k0, k1, h0, h1]

theorem table_of {H : Type} {enc : TypeId × Value → H} {W : World} {sp : Nat → Bool} {held : Bool} {m : Nat} {cs : List Value} {p : List MemPlace}
    (h : DataW.trod enc Tryd.prog W 0 sp held m 53 cs = some (Rows.laid_loop_example_g00956_impl_moistures, p)) : cs = mtab.map (Value.int .i64) := by
  unfold Rows.laid_loop_example_g00956_impl_moistures at h
  obtain ⟨xs, m1, rfl, hx, hlen, hn, hel⟩ := DataW.trod_array Tryd.underlying53 h
  rw [cells0] at hlen
  match cs, hlen with
  | [c0, c1, c2, c3, c4, c5, c6, c7, c8, c9, c10, c11], _ =>
    match xs, hn with
    | [x0, x1, x2, x3, x4, x5], _ =>
      simp only [Prod.mk.injEq, DataW.agg.injEq, List.map_cons, List.map_nil, List.cons.injEq, and_true] at hx
      obtain ⟨⟨h0, h1, h2, h3, h4, h5⟩, _⟩ := hx
      have e0 := hel 0 (by omega)
      have e1 := hel 1 (by omega)
      have e2 := hel 2 (by omega)
      have e3 := hel 3 (by omega)
      have e4 := hel 4 (by omega)
      have e5 := hel 5 (by omega)
      rw [cells1] at e0 e1 e2 e3 e4 e5
      obtain ⟨y0, z0⟩ := x0
      obtain ⟨y1, z1⟩ := x1
      obtain ⟨y2, z2⟩ := x2
      obtain ⟨y3, z3⟩ := x3
      obtain ⟨y4, z4⟩ := x4
      obtain ⟨y5, z5⟩ := x5
      simp only at h0 h1 h2 h3 h4 h5
      subst h0 h1 h2 h3 h4 h5
      have q0 := pair_of (show DataW.trod enc Tryd.prog W 0 sp held m1 52 [c0, c1] = some _ from e0)
      have q1 := pair_of (show DataW.trod enc Tryd.prog W 0 sp held m1 52 [c2, c3] = some _ from e1)
      have q2 := pair_of (show DataW.trod enc Tryd.prog W 0 sp held m1 52 [c4, c5] = some _ from e2)
      have q3 := pair_of (show DataW.trod enc Tryd.prog W 0 sp held m1 52 [c6, c7] = some _ from e3)
      have q4 := pair_of (show DataW.trod enc Tryd.prog W 0 sp held m1 52 [c8, c9] = some _ from e4)
      have q5 := pair_of (show DataW.trod enc Tryd.prog W 0 sp held m1 52 [c10, c11] = some _ from e5)
      simp only [List.cons.injEq, and_true] at q0 q1 q2 q3 q4 q5
      simp [mtab, q0, q1, q2, q3, q4, q5]

theorem of_laid {W : World} (h : laidMetH Tryd.prog laidM W) : Kd.C (Kd.int .i64) W (some ⟨0, 0, none⟩) mtab.length mtab := by
  rw [MakeChecks.laidMetH_plain _ _ _ (by kernel_rfl)] at h
  obtain ⟨ps, ⟨g0, t0, cs0, f0, p0, q0, hg0, ht0, hv0, hd0, _, _⟩, _, _⟩ := h
  obtain rfl := Option.some.inj (gM.symm.trans hg0)
  obtain rfl := Option.some.inj (tM.symm.trans ht0)
  have hcs := table_of hd0
  refine ⟨rfl, by decide, fun _ => ⟨⟨0, 0, none⟩, rfl, fun j x hx => ⟨[.int .i64 x], rfl, rfl, fun i u hu => ?_⟩⟩⟩
  have hi : i = 0 ∧ u = .int .i64 x := by
    match i, hu with
    | 0, hu => exact ⟨rfl, by simpa using hu.symm⟩
    | i + 1, hu => simp at hu
  obtain ⟨rfl, rfl⟩ := hi
  have hc := World.var?_cell hg0 hv0 j
  have hj : cs0[j]? = some (.int .i64 x) := by
    rw [← Array.getElem?_toList, hcs, List.getElem?_map, hx]; rfl
  rw [hj] at hc
  have : (⟨0, 0, none⟩ : Addr).add (j * (Kd.int .i64).sz + 0) = ⟨0, j, none⟩ := by
    rw [Go.Proofs.YtdmiihpblfkamaaDoorW.PrintWords.add_plain]
    show (⟨0, j * 1 + 0, none⟩ : Addr) = _
    congr 1; omega
  rw [this]; exact hc

theorem vars_after {H : Type} {enc : TypeId × Value → H} {W W' : World} {gs : List (DataW H)} {q : List MemPlace} (hb : Below W.heap.size W W') (h : DataW.TrodVars enc Tryd.prog W (fun _ => true) ["loop.example/g00956/impl.moistures"] gs q) :
    ∃ d pv, gs = [d] ∧ DataW.TrodVars enc Tryd.prog W' (fun b => decide (b < W.heap.size)) ["loop.example/g00956/impl.moistures"] [d] pv := by
  have hlt := h.lt
  obtain ⟨g, t, cs, fuel, d, p, rfl, h1, h2, h3, h4, e⟩ := trodVars_one h
  obtain rfl := Option.some.inj (gM.symm.trans h1)
  obtain rfl := Option.some.inj (tM.symm.trans h2)
  have hp : ∀ x ∈ p, x.block < W.heap.size := fun x hx => hlt x (by rw [e]; simp [hx])
  have h3' : W'.var? Tryd.prog "loop.example/g00956/impl.moistures" = some cs := by
    unfold World.var? at h3 ⊢
    rw [gM] at h3 ⊢
    simp only [Option.bind_some] at h3 ⊢
    have hg : 0 < W.heap.size := by
      cases hh : W.heap[0]? with
      | none => rw [hh] at h3; cases h3
      | some o => exact (Array.getElem?_eq_some_iff.1 hh).1
    rw [hb.block 0 hg]; exact h3
  exact ⟨d, _, rfl, trodVars_mk1 gM tM h3' (DataW.trod_stays (kids_book laidOut (by kernel_rfl)) (book_sized (by kernel_rfl)) (fun h => by cases h) ⟨of_decide_eq_true (by kernel_rfl), book_self _⟩ h4 (fun x hx => hb.same (hp x hx)) (fun x hx => by simpa using hp x hx))⟩
end Go.Proofs.YtdmiihpblfkamaaDoor.Moist

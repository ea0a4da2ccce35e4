/- The program's ShapeText, told by hand: what it writes into the strings.Builder. -/
import Derived.Test.YtakagkflgkoiiaaBuildA
import Derived.Test.YtakagkflgkoiiaaGFnExactValidShapex3
import Derived.WalkKit
import Derived.BigCall
namespace Go.Proofs.YtakagkflgkoiiaaW.PrintWords
open Go Go.RowKit Go.Proofs
/-- a string made of bytes that the call owns -/
theorem own_string {P : Program} {w : World} {base n : Nat} {e' src dst e : TypeId} {v : Value} {xs : List Int} (hs : P.underlying src = some (.slice e)) (he : P.underlying e = some (.int .u8)) (hd : P.underlying dst = some .string)
    (h : w.ownsRow base e' 1 v n (xs.map fun x => .int .u8 x)) : (convert src dst v).run P w = .ok (.string (strOfNums xs)) w := by
  have hl : xs.length = n := by have := h.1; simp at this; exact this
  rcases h.2 with ⟨rfl, rfl⟩ | ⟨g, cap, cur, rfl, _⟩
  · obtain rfl : xs = [] := List.eq_nil_of_length_eq_zero hl
    exact run_convert_bytes_nil w src e hs he 0 0 dst hd
  · refine run_convert_bytes_arg w src e hs he g 0 n cap xs hl (fun i hi => ?_) dst hd
    have hc := h.cells (g := g) rfl i (.int .u8 (xs.getD i 0)) (by simp [List.getElem?_eq_getElem (show i < xs.length by omega), List.getD_eq_getElem?_getD])
    have ha : (⟨g, 0, none⟩ : Addr).add i = ⟨g, 0 + i, none⟩ := by unfold Addr.add; split <;> simp_all
    rwa [ha] at hc
end Go.Proofs.YtakagkflgkoiiaaW.PrintWords
namespace Go.Proofs.YtakagkflgkoiiaaX
open Go Go.RowKit Go.Proofs Go.Proofs.YtakagkflgkoiiaaW.PrintWords Go.Proofs.YtakagkflgkoiiaaW.PrintLast Go.Proofs.YtakagkflgkoiiaaW.PrintMore
/-- the text of a shape's cells, from place i on -/
def textFrom (W : Int) : Nat → List Int → List UInt8
  | _, [] => []
  | i, c :: cs => ((if 0 < i ∧ Int.tmod (i : Int) W = 0 then [47] else []) ++ [if c = 1 then 35 else 46]) ++ textFrom W (i + 1) cs
def impl_ShapeText.f (k : Nat) (a0_0 a0_1 : Int) (l0_2 : List Int) : Option ByteArray := (Ytakagkflgkoiiaa.GFnExactValidShape.impl_ValidShape.f k a0_0 a0_1 l0_2).bind fun t => if t = true then (if 1 ≤ a0_0 ∧ l0_2.length ≤ 1000000 then some ⟨(textFrom a0_0 0 l0_2).toArray⟩ else none) else some ⟨#[]⟩
theorem impl_ShapeText.mono (a0 a1 : Int) (a2 : List Int) (k : Nat) : LeO (impl_ShapeText.f k a0 a1 a2) (impl_ShapeText.f (k + 1) a0 a1 a2) := by
  unfold impl_ShapeText.f
  exact LeO.bind (Ytakagkflgkoiiaa.GFnExactValidShape.impl_ValidShape.mono _ _ _ _) (fun _ => LeO.refl _)
set_option linter.unusedVariables false in
set_option linter.unusedSimpArgs false in
set_option maxHeartbeats 8000000 in
set_option maxRecDepth 100000 in
theorem impl_ShapeText.calls (k : Nat) (a0_0 : Int) (a0_1 : Int) (A0_2 : Option Addr) (c0_2 : Nat) (l0_2 : List Int) (r : ByteArray) (w : World) (hr0_2 : Kd.C (Kd.int .i64) w A0_2 l0_2.length l0_2) (hc0_2 : l0_2.length ≤ c0_2) (h : impl_ShapeText.f k a0_0 a0_1 l0_2 = some r) :
    Calls Try.prog 27 #[.agg #[.int .i64 a0_0, .int .i64 a0_1, .slice A0_2 l0_2.length c0_2]] w fun e w' => e = .returned (.string r) ∧ Below w.heap.size w w' := by
  have hu27 := Try.underlying27
  unfold impl_ShapeText.f at h
  obtain ⟨t, ht, h⟩ := Option.bind_eq_some_iff.mp h
  go_enter Try.func27, Try.ntmps27
  have hA : Kd.C (Kd.int .i64) (w.alloc (.cells #[.int .i64 a0_0, .int .i64 a0_1, .slice A0_2 l0_2.length c0_2] 27)) A0_2 l0_2.length l0_2 := Kd.C_alloc hr0_2 _
  go_wp2_with (go_at_call 16; refine (Ytakagkflgkoiiaa.GFnExactValidShape.impl_ValidShape.calls k a0_0 a0_1 A0_2 c0_2 l0_2 t _ hA hc0_2 ht).mono ?_)
  rintro e w1 ⟨rfl, hb1⟩
  cases t with
  | false =>
    rw [if_neg (by simp)] at h
    obtain rfl := Option.some.inj h
    go_wp2
    go_ret
    exact ⟨rfl, below_step ((Below.refl _ w).alloc (Nat.le_refl _) _) hb1⟩
  | true =>
    have hsz0 : (w.alloc (.cells #[.int .i64 a0_0, .int .i64 a0_1, .slice A0_2 l0_2.length c0_2] 27)).heap.size = w.heap.size + 1 := by simp
    have hsz1 : w.heap.size + 1 ≤ w1.heap.size := by have := hb1.size; omega
    have hbk : w1.heap[w.heap.size]? = some (.cells #[.int .i64 a0_0, .int .i64 a0_1, .slice A0_2 l0_2.length c0_2] 27 (0, 0)) := by
      rw [hb1.block _ (by omega)]; exact heap_alloc_new w _
    have hb2 : Below w.heap.size w w1 := below_step ((Below.refl _ w).alloc (Nat.le_refl _) _) hb1
    have hC1 : Kd.C (Kd.int .i64) w1 A0_2 l0_2.length l0_2 := Kd.C_below hr0_2 hb2
    rw [if_pos rfl] at h
    by_cases hh : 1 ≤ a0_0 ∧ l0_2.length ≤ 1000000
    case neg => rw [if_neg hh] at h; cases h
    rw [if_pos hh] at h
    obtain rfl := Option.some.inj h
    obtain ⟨hh1, hh2⟩ := hh
    have hkey : ∀ wr, Below w1.heap.size w1 wr → wr.cell? ⟨w.heap.size, 0, none⟩ = some (.int .i64 a0_0) ∧ wr.cell? ⟨w.heap.size, 2, none⟩ = some (.slice A0_2 l0_2.length c0_2) ∧ Kd.C (Kd.int .i64) wr A0_2 l0_2.length l0_2 := by
      intro wr hb
      have hx : wr.heap[w.heap.size]? = some (.cells #[.int .i64 a0_0, .int .i64 a0_1, .slice A0_2 l0_2.length c0_2] 27 (0, 0)) := by
        rw [hb.block _ (by omega)]; exact hbk
      exact ⟨by rw [Lib.cell_of_heap hx]; rfl, by rw [Lib.cell_of_heap hx]; rfl, Kd.C_below hC1 hb⟩
    have hB0 : Below w1.heap.size w1 (w1.alloc (.cells #[.pointer none, .slice none 0 0] 86)) := (Below.refl _ w1).alloc (Nat.le_refl _) _
    have hI0 : Lib.IsBuilderF 86 5 w1.heap.size w1.heap.size (Lib.byteCells []) (w1.alloc (.cells #[.pointer none, .slice none 0 0] 86)) := Lib.IsBuilderF.of (Lib.fresh_isBuilder 86 5 w1)
    obtain ⟨k0, k2, _⟩ := hkey _ hB0
    go_wp2
    go_loopg [12] l0_2.length (fun kq v12 wr => ∃ (i : Nat) (acc : List UInt8), v12 = .int .i64 (i : Int) ∧ i + kq = l0_2.length ∧ Lib.IsBuilderF 86 5 w1.heap.size w1.heap.size (Lib.byteCells acc) wr ∧ Below w1.heap.size w1 wr ∧ acc ++ textFrom a0_0 i (l0_2.drop i) = textFrom a0_0 0 l0_2 ∧ acc.length ≤ 2 * i)
    case atStart => exact ⟨0, [], rfl, by simp, hI0, hB0, by simp, by simp⟩
    case round =>
      clear hI0 hB0 k0 k2
      obtain ⟨i, acc, rfl, hk, hI, hb, hacc, hal⟩ := hrel
      obtain ⟨c0, c2, hC⟩ := hkey wr hb
      cases gk with
      | zero =>
        have hlt : decide ((i : Int) < (l0_2.length : Int)) = false := decide_eq_false (by omega)
        rw [List.drop_of_length_le (by omega)] at hacc
        simp only [textFrom, List.append_nil] at hacc
        go_wp2_with (go_at_call 68; refine (Try.Builder_String_any_k w1.heap.size w1.heap.size acc _ hI (by have := hb.size; omega)).mono ?_)
        rintro e W1 ⟨rfl, _, b1, _⟩
        go_wp2
        go_ret
        exact ⟨rfl, below_step hb2 (hb.trans b1)⟩
      | succ kq =>
        have hi : i < l0_2.length := by omega
        have hlt : decide ((i : Int) < (l0_2.length : Int)) = true := decide_eq_true (by omega)
        have hnx : (Value.int .i64 (wrap64 ((i : Int) + 1))) = .int .i64 ((i + 1 : Nat) : Int) := by rw [show wrap64 ((i : Int) + 1) = ((i + 1 : Nat) : Int) by unfold wrap64; omega]
        have hdrop : l0_2.drop i = rd l0_2 (i : Int) :: l0_2.drop (i + 1) := by
          rw [List.drop_eq_getElem_cons hi]
          congr 1
          unfold rd; simp [List.getD, hi]
        have hacc2 : acc ++ (((if 0 < i ∧ Int.tmod (i : Int) a0_0 = 0 then [47] else []) ++ [if rd l0_2 (i : Int) = 1 then 35 else 46]) ++ textFrom a0_0 (i + 1) (l0_2.drop (i + 1))) = textFrom a0_0 0 l0_2 := by rw [← hacc, hdrop]; rfl
        clear hacc hdrop
        have hl1 : (Lib.byteCells acc).length + 1 ≤ 140737488355328 := by rw [Lib.byteCells_length]; omega
        have hl2 : (Lib.byteCells acc ++ [Value.int .u8 47]).length + 1 ≤ 140737488355328 := by rw [List.length_append, Lib.byteCells_length]; simp only [List.length_cons, List.length_nil]; omega
        have hs1 : w1.heap.size ≤ wr.heap.size := hb.size
        have p0 : 0 ≤ (i : Int) := by omega
        have q0 : (i : Int) < (l0_2.length : Int) := by omega
        obtain ⟨ad, e0, hx⟩ := Kd.at_int hC (i : Int) p0 q0
        cases e0
        rw [Int.toNat_natCast] at hx
        replace p0 := eq_true p0
        replace q0 := eq_true q0
        have hw0 : decide (a0_0 = 0) = false := decide_eq_false (by omega)
        by_cases h0 : 0 < i
        · have h0b : decide ((i : Int) > 0) = true := decide_eq_true (by omega)
          by_cases hm : Int.tmod (i : Int) a0_0 = 0
          · have hmb : ((i : Int) % a0_0 == 0) = true := by rw [← Int.tmod_eq_emod_of_nonneg (Int.natCast_nonneg i), hm]; rfl
            by_cases hc1 : rd l0_2 (i : Int) = 1
            · have hc1b : decide (rd l0_2 (i : Int) = 1) = true := decide_eq_true hc1
              rw [if_pos (show 0 < i ∧ Int.tmod (i : Int) a0_0 = 0 from ⟨h0, hm⟩), if_pos hc1] at hacc2
              go_wp2_with (go_at_call 67; refine (Try.Builder_WriteByte_k w1.heap.size w1.heap.size _ 47 _ hI hl1 hs1).mono ?_)
              rintro e W1 ⟨rfl, h1, b1, _⟩
              replace b1 := hb.trans b1
              replace h1 : Lib.IsBuilderF 86 5 w1.heap.size w1.heap.size (Lib.byteCells acc ++ [.int .u8 47]) W1 := Or.inr h1
              obtain ⟨d0, d2, _⟩ := hkey W1 b1
              go_wp2_with (go_at_call 67; refine (Try.Builder_WriteByte_k w1.heap.size w1.heap.size _ 35 _ h1 hl2 (b1).size).mono ?_)
              rintro e W2 ⟨rfl, h2, b2, _⟩
              go_wp2
              clear h0b hc1 hc1b hm hmb
              go_roundg kq
              case measure => omega
              case rel => exact ⟨i + 1, (acc ++ [47]) ++ [35], (by first | rfl | exact hnx), by omega, Or.inr (by rw [Lib.byteCells_append, Lib.byteCells_append]; exact h2), (b1).trans b2, by simpa only [List.append_assoc, List.nil_append] using hacc2, by simp only [List.length_append, List.length_cons, List.length_nil]; omega⟩
            · have hc1b : decide (rd l0_2 (i : Int) = 1) = false := decide_eq_false hc1
              rw [if_pos (show 0 < i ∧ Int.tmod (i : Int) a0_0 = 0 from ⟨h0, hm⟩), if_neg hc1] at hacc2
              go_wp2_with (go_at_call 67; refine (Try.Builder_WriteByte_k w1.heap.size w1.heap.size _ 47 _ hI hl1 hs1).mono ?_)
              rintro e W1 ⟨rfl, h1, b1, _⟩
              replace b1 := hb.trans b1
              replace h1 : Lib.IsBuilderF 86 5 w1.heap.size w1.heap.size (Lib.byteCells acc ++ [.int .u8 47]) W1 := Or.inr h1
              obtain ⟨d0, d2, _⟩ := hkey W1 b1
              go_wp2_with (go_at_call 67; refine (Try.Builder_WriteByte_k w1.heap.size w1.heap.size _ 46 _ h1 hl2 (b1).size).mono ?_)
              rintro e W2 ⟨rfl, h2, b2, _⟩
              go_wp2
              clear h0b hc1 hc1b hm hmb
              go_roundg kq
              case measure => omega
              case rel => exact ⟨i + 1, (acc ++ [47]) ++ [46], (by first | rfl | exact hnx), by omega, Or.inr (by rw [Lib.byteCells_append, Lib.byteCells_append]; exact h2), (b1).trans b2, by simpa only [List.append_assoc, List.nil_append] using hacc2, by simp only [List.length_append, List.length_cons, List.length_nil]; omega⟩
          · have hmb : ((i : Int) % a0_0 == 0) = false := by rw [← Int.tmod_eq_emod_of_nonneg (Int.natCast_nonneg i)]; simpa using hm
            by_cases hc1 : rd l0_2 (i : Int) = 1
            · have hc1b : decide (rd l0_2 (i : Int) = 1) = true := decide_eq_true hc1
              rw [if_neg (show ¬ (0 < i ∧ Int.tmod (i : Int) a0_0 = 0) from fun h => hm h.2), if_pos hc1] at hacc2
              go_wp2_with (go_at_call 67; refine (Try.Builder_WriteByte_k w1.heap.size w1.heap.size _ 35 _ hI hl1 (hb).size).mono ?_)
              rintro e W2 ⟨rfl, h2, b2, _⟩
              go_wp2
              clear h0b hc1 hc1b hm hmb
              go_roundg kq
              case measure => omega
              case rel => exact ⟨i + 1, acc ++ [35], (by first | rfl | exact hnx), by omega, Or.inr (by rw [Lib.byteCells_append]; exact h2), (hb).trans b2, by simpa only [List.append_assoc, List.nil_append] using hacc2, by simp only [List.length_append, List.length_cons, List.length_nil]; omega⟩
            · have hc1b : decide (rd l0_2 (i : Int) = 1) = false := decide_eq_false hc1
              rw [if_neg (show ¬ (0 < i ∧ Int.tmod (i : Int) a0_0 = 0) from fun h => hm h.2), if_neg hc1] at hacc2
              go_wp2_with (go_at_call 67; refine (Try.Builder_WriteByte_k w1.heap.size w1.heap.size _ 46 _ hI hl1 (hb).size).mono ?_)
              rintro e W2 ⟨rfl, h2, b2, _⟩
              go_wp2
              clear h0b hc1 hc1b hm hmb
              go_roundg kq
              case measure => omega
              case rel => exact ⟨i + 1, acc ++ [46], (by first | rfl | exact hnx), by omega, Or.inr (by rw [Lib.byteCells_append]; exact h2), (hb).trans b2, by simpa only [List.append_assoc, List.nil_append] using hacc2, by simp only [List.length_append, List.length_cons, List.length_nil]; omega⟩
        · have h0b : decide ((i : Int) > 0) = false := decide_eq_false (by omega)
          by_cases hc1 : rd l0_2 (i : Int) = 1
          · have hc1b : decide (rd l0_2 (i : Int) = 1) = true := decide_eq_true hc1
            rw [if_neg (show ¬ (0 < i ∧ Int.tmod (i : Int) a0_0 = 0) from fun h => h0 h.1), if_pos hc1] at hacc2
            go_wp2_with (go_at_call 67; refine (Try.Builder_WriteByte_k w1.heap.size w1.heap.size _ 35 _ hI hl1 (hb).size).mono ?_)
            rintro e W2 ⟨rfl, h2, b2, _⟩
            go_wp2
            clear h0b hc1 hc1b
            go_roundg kq
            case measure => omega
            case rel => exact ⟨i + 1, acc ++ [35], (by first | rfl | exact hnx), by omega, Or.inr (by rw [Lib.byteCells_append]; exact h2), (hb).trans b2, by simpa only [List.append_assoc, List.nil_append] using hacc2, by simp only [List.length_append, List.length_cons, List.length_nil]; omega⟩
          · have hc1b : decide (rd l0_2 (i : Int) = 1) = false := decide_eq_false hc1
            rw [if_neg (show ¬ (0 < i ∧ Int.tmod (i : Int) a0_0 = 0) from fun h => h0 h.1), if_neg hc1] at hacc2
            go_wp2_with (go_at_call 67; refine (Try.Builder_WriteByte_k w1.heap.size w1.heap.size _ 46 _ hI hl1 (hb).size).mono ?_)
            rintro e W2 ⟨rfl, h2, b2, _⟩
            go_wp2
            clear h0b hc1 hc1b
            go_roundg kq
            case measure => omega
            case rel => exact ⟨i + 1, acc ++ [46], (by first | rfl | exact hnx), by omega, Or.inr (by rw [Lib.byteCells_append]; exact h2), (hb).trans b2, by simpa only [List.append_assoc, List.nil_append] using hacc2, by simp only [List.length_append, List.length_cons, List.length_nil]; omega⟩
end Go.Proofs.YtakagkflgkoiiaaX

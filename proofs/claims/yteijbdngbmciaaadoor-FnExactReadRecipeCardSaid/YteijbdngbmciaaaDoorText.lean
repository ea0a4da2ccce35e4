/- Functions of the library in the form of printed ones, by the shelf's contracts; the library's own variables as one row that is only read. -/
import Derived.Test.YteijbdngbmciaaaDoorTextA
import Derived.Test.YteijbdngbmciaaaDoorXOpen
import Derived.Lib.AppendIntMem
import Derived.Lib.SplitLaws
import Derived.DataReads
import Derived.Test.YteijbdngbmciaaaDoorWWords
import Derived.Test.YteijbdngbmciaaaDoorWMore
namespace Go.Proofs.YteijbdngbmciaaaDoorX
open Go Go.RowKit Go.Proofs Go.Lib Go.Proofs.YteijbdngbmciaaaDoorW.PrintWords
theorem tab_below {w w1 : World} (hb : Below w.heap.size w w1) (h : Lib.TabIs Tryd.prog w "internal/strconv.uint64pow10" .u64 Lib.pow10Tab) : Lib.TabIs Tryd.prog w1 "internal/strconv.uint64pow10" .u64 Lib.pow10Tab :=
  (Lib.tabBelow_of_tabIs h) w1 hb
/-- a row of strings that is read, behind a store into a variable that bears no string -/
theorem C_far_str {w : World} {A : Option Addr} {n : Nat} {xs : List ByteArray} {g : Nat} {t : TypeId} {cs : Array Value} (h : Kd.C Kd.string w A n xs) (hb : w.heap[g]? = some (.cells cs t (0, 0))) (hs : ∀ u ∈ cs, ∀ s, u ≠ .string s) (j : Nat) (v : Value) :
    Kd.C Kd.string (w.setCell ⟨g, j, none⟩ v) A n xs :=
  ⟨h.1, h.2.1, fun hn => by
    obtain ⟨ad, e, hc⟩ := h.2.2 hn
    refine ⟨ad, e, fun i p hi => ?_⟩
    obtain ⟨c, hl, hr, hcell⟩ := hc i p hi
    refine ⟨c, hl, hr, fun m u hu => ?_⟩
    have hx := hcell m u hu
    rw [World.cell?_setCell_other]
    · exact hx
    · intro he
      have hr' : c = [.string p] := hr
      subst hr'
      have hu' : u = .string p := by
        have := List.mem_of_getElem? hu
        simpa using this
      subst hu'
      first | rw [he] at hx | rw [← he] at hx
      rw [Lib.cell_of_heap hb j] at hx
      exact hs _ (Array.mem_of_getElem? hx) p rfl⟩

/-- the library's variables: a row of one cell, and the table of the powers of ten -/
def kLib : Kd Unit where
  sz := 1
  E := []
  K w _ c := (∃ m, c = [.int .i64 m]) ∧ Lib.TabIs Tryd.prog w "internal/strconv.uint64pow10" .u64 Lib.pow10Tab
  M _ _ _ _ _ := False
  K_len := by
    rintro w x cs ⟨⟨m, rfl⟩, _⟩
    rfl
  K_one := by
    rintro w x cs ⟨⟨m, rfl⟩, _⟩ u hu
    rw [List.mem_singleton] at hu
    subst hu
    rfl
  K_below := by
    intro w w1 x cs hb h
    exact ⟨h.1, tab_below hb h.2⟩
  K_of_M := fun h => h.elim
  M_mono := fun _ h => h
  M_bound := fun h => h
  M_move := fun _ h => h
  M_lower := fun _ h => h

theorem lib_cell {w : World} {l : List Unit} (h : Kd.C kLib w (some ⟨0, 0, none⟩) l.length l) (hl : l.length = 1) : (∃ m, w.cell? ⟨0, 0, none⟩ = some (.int .i64 m)) ∧ Lib.TabIs Tryd.prog w "internal/strconv.uint64pow10" .u64 Lib.pow10Tab := by
  match l, hl with
  | [x], _ =>
    obtain ⟨ad, e, hc⟩ := h.2.2 (by simp)
    cases e
    obtain ⟨c, _, hK, hcell⟩ := hc 0 x rfl
    obtain ⟨⟨m, rfl⟩, ht⟩ := hK
    exact ⟨⟨m, by have h_ := hcell 0 _ rfl; rw [show 0 * kLib.sz + 0 = 0 from rfl, Lib.add_plain] at h_; exact h_⟩, ht⟩

def strings_HasPrefix.f (a0 a1 : ByteArray) : Option Bool := some (Lib.hasPrefix a0.data.toList a1.data.toList)
theorem strings_HasPrefix.calls (a0 a1 : ByteArray) (r : Bool) (w : World) (h : strings_HasPrefix.f a0 a1 = some r) :
    Calls Tryd.prog 59 #[.string a0, .string a1] w fun e w' => e = .returned (.bool r) ∧ Drawn0 w w' := by
  obtain rfl := Option.some.inj h
  refine (Tryd.strings_HasPrefix a0 a1 w).mono ?_
  rintro e w' ⟨rfl, rfl⟩
  exact ⟨rfl, Drawn0.refl _⟩
def strings_Cut.f (a0 a1 : ByteArray) (l : List Unit) : Option (ByteArray × ByteArray × Bool) := if l.length = 1 ∧ a0.size < 4294967281 then some (⟨(Lib.cut a0.data.toList a1.data.toList).1.toArray⟩, ⟨(Lib.cut a0.data.toList a1.data.toList).2.1.toArray⟩, (Lib.cut a0.data.toList a1.data.toList).2.2) else none
theorem strings_Cut.calls (a0 a1 : ByteArray) (l : List Unit) (r1 r2 : ByteArray) (r3 : Bool) (w : World) (hr : Kd.C kLib w (some ⟨0, 0, none⟩) l.length l) (h : strings_Cut.f a0 a1 l = some (r1, r2, r3)) :
    Calls Tryd.prog 25 #[.string a0, .string a1] w fun e w' => e = .returned (.tuple #[.string r1, .string r2, .bool r3]) ∧ Drawn0 w w' := by
  unfold strings_Cut.f at h
  split at h
  · rename_i hh
    obtain ⟨rfl, rfl, rfl⟩ : _ ∧ _ ∧ _ := by simpa using h
    obtain ⟨m, hm⟩ := (lib_cell hr hh.1).1
    refine (Tryd.strings_Cut a0 a1 m w hh.2 hm).mono ?_
    rintro e w' ⟨rfl, n, rfl⟩
    exact ⟨rfl, ⟨n, rfl⟩⟩
  · cases h
def strings_Split.f (a0 a1 : ByteArray) (l : List Unit) : Option (List ByteArray) := if l.length = 1 ∧ a0.size < 4294967281 ∧ 1 ≤ a1.size then some (Lib.splitB a1 0 (Lib.countB a0 a1) a0) else none
theorem reps_strings (W : World) (base : Nat) (ok : Nat → Prop) : ∀ l : List ByteArray, Reps (Kd.string.M W base ok) 1 l (l.map Value.string) := fun l => ⟨by simp, fun j p hp => by
  have hj := (List.getElem?_eq_some_iff.1 hp).1
  have e : ((l.map Value.string).drop (j * 1)).take 1 = [.string p] := by
    rw [Nat.mul_one, List.drop_eq_getElem_cons (by simpa using hj), List.take_succ_cons, List.take_zero, List.getElem_map]
    rw [List.getElem?_eq_getElem hj] at hp
    rw [Option.some.inj hp]
  rw [e]
  exact rfl⟩
theorem strings_Split.calls (a0 a1 : ByteArray) (l : List Unit) (r : List ByteArray) (w : World) (hr : Kd.C kLib w (some ⟨0, 0, none⟩) l.length l) (h : strings_Split.f a0 a1 l = some r) :
    Calls Tryd.prog 24 #[.string a0, .string a1] w fun e w' => ∃ v0_ : Value, e = .returned (v0_) ∧ Kd.R Kd.string 9 w' w.heap.size (fun _ => True) v0_ r ∧ Below w.heap.size w w' := by
  unfold strings_Split.f at h
  split at h
  · rename_i hh
    obtain rfl := Option.some.inj h
    obtain ⟨m, hm⟩ := (lib_cell hr hh.1).1
    have hlen := Lib.splitB_all a1 hh.2.2 0 _ a0 rfl
    have hle := Lib.countB_le a1 hh.2.2 a0.size a0 (Nat.le_refl _)
    refine (Tryd.strings_Split a0 a1 m w hh.2.1 hm hh.2.2).mono ?_
    rintro e w' ⟨rfl, rfl⟩
    refine ⟨_, rfl, ⟨fun _ _ => trivial, ?_⟩, below_alloc (Below.refl _ _) _⟩
    rw [← hlen]
    exact OwnRow.lit w w.heap.size (reps_strings _ _ _ _) (Nat.le_refl _) (by omega)
  · cases h
def strings_Join.f (l0 : List ByteArray) (a1 : ByteArray) : Option ByteArray := if 1 ≤ l0.length ∧ l0.length ≤ 140737488355328 ∧ (Lib.join (l0.map (·.data.toList)) a1.data.toList).length ≤ 140737488355328 then some ⟨(Lib.join (l0.map (·.data.toList)) a1.data.toList).toArray⟩ else none
theorem strings_Join.calls (A0 : Option Addr) (c0 : Nat) (l0 : List ByteArray) (a1 : ByteArray) (r : ByteArray) (w : World) (hr0 : Kd.C Kd.string w A0 l0.length l0) (hc0 : l0.length ≤ c0) (h : strings_Join.f l0 a1 = some r) :
    Calls Tryd.prog 36 #[.slice A0 l0.length c0, .string a1] w fun e w' => e = .returned (.string r) ∧ Below w.heap.size w w' := by
  unfold strings_Join.f at h
  split at h
  · rename_i hh
    obtain rfl := Option.some.inj h
    obtain ⟨ad, rfl, hcell⟩ := hr0.2.2 (by omega)
    have hc : ∀ (j : Nat) x, l0[j]? = some x → w.cell? (ad.add j) = some (.string x) := by
      intro j x hx
      obtain ⟨c, _, rfl, hu⟩ := hcell j x hx
      have := hu 0 (.string x) rfl
      simpa [show (Kd.string).sz = 1 from rfl] using this
    have h0 := hc 0 _ (List.getElem?_eq_getElem (show 0 < l0.length by omega))
    have hs := World.cell?_spot h0
    obtain ⟨bk, o, pt⟩ := ad
    cases pt with
    | some q => exact absurd hs (by unfold Addr.add; (try split) <;> simp_all)
    | none =>
    refine Tryd.strings_Join bk o c0 l0 a1 w (fun j x hx => ?_) ?_ hh.2.1 hc0 hh.2.2
    · have := hc j x hx
      rw [Lib.add_plain] at this
      exact this
    · have := World.block_lt_of_cell? w _ h0
      rw [Lib.add_plain] at this
      exact this
  · cases h
def strconv_FormatInt.f (a0 a1 : Int) (l : List Unit) : Option ByteArray := if l.length = 1 ∧ a1 = 10 ∧ -9223372036854775808 ≤ a0 ∧ a0 ≤ 9223372036854775807 then some ⟨(Lib.itoa a0).toArray⟩ else none
theorem strconv_FormatInt.calls (a0 a1 : Int) (l : List Unit) (r : ByteArray) (w : World) (hr : Kd.C kLib w (some ⟨0, 0, none⟩) l.length l) (h : strconv_FormatInt.f a0 a1 l = some r) :
    Calls Tryd.prog 37 #[.int .i64 a0, .int .i64 a1] w fun e w' => e = .returned (.string r) ∧ Below w.heap.size w w' := by
  unfold strconv_FormatInt.f at h
  split at h
  · rename_i hh
    obtain rfl := Option.some.inj h
    obtain ⟨hl, rfl, h0, h1⟩ := hh
    refine (Tryd.strconv_FormatInt_10 a0 h0 h1 w (lib_cell hr hl).2).mono ?_
    rintro e w' ⟨rfl, k, os, rfl⟩
    exact ⟨rfl, Lib.below_grow _ w (Nat.le_refl _) k os⟩
  · cases h
end Go.Proofs.YteijbdngbmciaaaDoorX

/- Functions of the library in the form of printed ones, by the shelf's contracts; the library's own variables as one row that is only read. -/
import Derived.Test.YtakagkflgkoiiaaDoorTextA
import Derived.Test.YtakagkflgkoiiaaDoorXOpen
import Derived.Lib.AppendIntMem
import Derived.Lib.SplitLaws
import Derived.DataReads
import Derived.Test.YtakagkflgkoiiaaDoorWWords
import Derived.Test.YtakagkflgkoiiaaDoorWMore
namespace Go.Proofs.YtakagkflgkoiiaaDoorX
open Go Go.RowKit Go.Proofs Go.Lib Go.Proofs.YtakagkflgkoiiaaDoorW.PrintWords
/-- the library's variables: a row of one cell -/
def kLib : Kd Unit where
  sz := 1
  E := []
  K w _ c := (∃ m, c = [.int .i64 m])
  M _ _ _ _ _ := False
  K_len := by
    rintro w x cs ⟨m, rfl⟩
    rfl
  K_one := by
    rintro w x cs ⟨m, rfl⟩ u hu
    rw [List.mem_singleton] at hu
    subst hu
    rfl
  K_below := by
    intro w w1 x cs hb h
    exact h
  K_of_M := fun h => h.elim
  M_mono := fun _ h => h
  M_bound := fun h => h
  M_move := fun _ h => h
  M_lower := fun _ h => h

theorem lib_cell {w : World} {l : List Unit} (h : Kd.C kLib w (some ⟨0, 0, none⟩) l.length l) (hl : l.length = 1) : (∃ m, w.cell? ⟨0, 0, none⟩ = some (.int .i64 m)) := by
  match l, hl with
  | [x], _ =>
    obtain ⟨ad, e, hc⟩ := h.2.2 (by simp)
    cases e
    obtain ⟨c, _, hK, hcell⟩ := hc 0 x rfl
    obtain ⟨m, rfl⟩ := hK
    exact ⟨m, by have h_ := hcell 0 _ rfl; rw [show 0 * kLib.sz + 0 = 0 from rfl, Lib.add_plain] at h_; exact h_⟩

def strings_Split.f (a0 a1 : ByteArray) (l : List Unit) : Option (List ByteArray) := if l.length = 1 ∧ a0.size < 4294967281 ∧ 1 ≤ a1.size then some (Lib.splitB a1 0 (Lib.countB a0 a1) a0) else none
theorem reps_strings (W : World) (base : Nat) (ok : Nat → Prop) : ∀ l : List ByteArray, Reps (Kd.string.M W base ok) 1 l (l.map Value.string) := fun l => ⟨by simp, fun j p hp => by
  have hj := (List.getElem?_eq_some_iff.1 hp).1
  have e : ((l.map Value.string).drop (j * 1)).take 1 = [.string p] := by
    rw [Nat.mul_one, List.drop_eq_getElem_cons (by simpa using hj), List.take_succ_cons, List.take_zero, List.getElem_map]
    rw [List.getElem?_eq_getElem hj] at hp
    rw [Option.some.inj hp]
  rw [e]
  exact rfl⟩
theorem strings_Split.calls (a0 a1 : ByteArray) (l : List Unit) (r : List ByteArray) (w : World) (hr : Kd.C kLib w (some ⟨0, 0, none⟩) l.length l) (h : strings_Split.f a0 a1 l = some r) :
    Calls Tryd.prog 10 #[.string a0, .string a1] w fun e w' => ∃ v0_ : Value, e = .returned (v0_) ∧ Kd.R Kd.string 9 w' w.heap.size (fun _ => True) v0_ r ∧ Below w.heap.size w w' := by
  unfold strings_Split.f at h
  split at h
  · rename_i hh
    obtain rfl := Option.some.inj h
    obtain ⟨m, hm⟩ := lib_cell hr hh.1
    have hlen := Lib.splitB_all a1 hh.2.2 0 _ a0 rfl
    have hle := Lib.countB_le a1 hh.2.2 a0.size a0 (Nat.le_refl _)
    refine (Tryd.strings_Split a0 a1 m w hh.2.1 hm hh.2.2).mono ?_
    rintro e w' ⟨rfl, rfl⟩
    refine ⟨_, rfl, ⟨fun _ _ => trivial, ?_⟩, below_alloc (Below.refl _ _) _⟩
    rw [← hlen]
    exact OwnRow.lit w w.heap.size (reps_strings _ _ _ _) (Nat.le_refl _) (by omega)
  · cases h
end Go.Proofs.YtakagkflgkoiiaaDoorX

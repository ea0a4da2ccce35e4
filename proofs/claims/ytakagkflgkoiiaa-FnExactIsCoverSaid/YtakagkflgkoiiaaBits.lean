/- The same in the form of a printed function. -/
import Derived.Test.YtakagkflgkoiiaaBitsA
import Derived.Test.YtakagkflgkoiiaaWWords
namespace Go.Proofs.YtakagkflgkoiiaaX
open Go Go.RowKit Go.Proofs Go.Proofs.YtakagkflgkoiiaaW.PrintWords
def bits_Len.f (a0 : Int) : Option Int := if 0 ≤ a0 ∧ a0 ≤ 18446744073709551615 then some (Lib.bitLen a0.toNat) else none
theorem bits_Len.calls (a0 : Int) (r : Int) (w : World) (h : bits_Len.f a0 = some r) :
    Calls Try.prog 113 #[.int .u64 a0] w fun e w' => e = .returned (.int .i64 r) ∧ Drawn0 w w' := by
  unfold bits_Len.f at h
  split at h
  · rename_i hh
    obtain rfl := Option.some.inj h
    refine (shelf_Len a0 w hh.1 hh.2).mono ?_
    rintro e w' ⟨rfl, rfl⟩
    exact ⟨rfl, Drawn0.refl _⟩
  · cases h
end Go.Proofs.YtakagkflgkoiiaaX

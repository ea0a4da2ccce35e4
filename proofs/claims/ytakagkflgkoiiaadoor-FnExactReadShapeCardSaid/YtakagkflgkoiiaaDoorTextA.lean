/- The library's contracts that this seat's texts want (strings.Join, Cut, Split, HasPrefix, strconv.FormatInt at base 10), off the shelf, in plain words. -/
import Derived.Shelf.Utf8.RuneCount
import Derived.Shelf.Strings.Search1
import Derived.Shelf.Strings.Search2
import Derived.Shelf.Strings.Search3
import Derived.Shelf.Strings.Count
import Derived.Shelf.LaysM
import Derived.Shelf.Strings.Shaped
import Derived.Shelf.Strings.Split
import Derived.Shelf.Strings.SplitShaped
import Derived.Shelf.Unicode.Decode
import Derived.Shelf.Strings.RuneCount
import Derived.Shelf.Strings.Explode
import Derived.Shelf.Unicode.DecodeSlow
import Derived.Shelf.Unicode.DecodeAny
import Derived.Test.YtakagkflgkoiiaaDoorProg
namespace Go.Proofs
open Go.Shelf
def Tryd.lays146_ren : Go.Shelf.Ren := ⟨fun | 146 => 10 | 221 => 17 | 268 => 22 | 138 => 23 | 143 => 24 | 195 => 26 | 197 => 27 | 218 => 28 | 219 => 29 | 260 => 30 | 217 => 31 | 225 => 32 | 224 => 33 | 267 => 34 | 266 => 35 | 314 => 36 | n => n, fun | 9 => 9 | 31 => 30 | 3 => 3 | 4 => 4 | 0 => 0 | 105 => 46 | 21 => 21 | 5 => 5 | 46 => 50 | 119 => 51 | 139 => 54 | 138 => 53 | 146 => 56 | 51 => 55 | n => n, fun | 1 => 0 | 3 => 1 | 4 => 2 | n => n⟩
theorem Tryd.lays146 : Go.Proofs.Lays.n146 Tryd.prog Tryd.lays146_ren := {
 mixed := by kernel_rfl
 f138 := Tryd.func23.trans (congrArg some (by kernel_rfl))
 f143 := Tryd.func24.trans (congrArg some (by kernel_rfl))
 f146 := Tryd.func10.trans (congrArg some (by kernel_rfl))
 f195 := Tryd.func26.trans (congrArg some (by kernel_rfl))
 f197 := Tryd.func27.trans (congrArg some (by kernel_rfl))
 f217 := Tryd.func31.trans (congrArg some (by kernel_rfl))
 f218 := Tryd.func28.trans (congrArg some (by kernel_rfl))
 f219 := Tryd.func29.trans (congrArg some (by kernel_rfl))
 f221 := Tryd.func17.trans (congrArg some (by kernel_rfl))
 f224 := Tryd.func33.trans (congrArg some (by kernel_rfl))
 f225 := Tryd.func32.trans (congrArg some (by kernel_rfl))
 f260 := Tryd.func30.trans (congrArg some (by kernel_rfl))
 f266 := Tryd.func35.trans (congrArg some (by kernel_rfl))
 f267 := Tryd.func34.trans (congrArg some (by kernel_rfl))
 f268 := Tryd.func22.trans (congrArg some (by kernel_rfl))
 f314 := Tryd.func36.trans (congrArg some (by kernel_rfl))
 t0 := Tryd.underlying0
 a0 := Tryd.isAgg0
 z0 := Tryd.sizeOf0
 v0 := Tryd.zeroValue0
 t3 := Tryd.underlying3
 a3 := Tryd.isAgg3
 z3 := Tryd.sizeOf3
 v3 := Tryd.zeroValue3
 t4 := Tryd.underlying4
 a4 := Tryd.isAgg4
 z4 := Tryd.sizeOf4
 v4 := Tryd.zeroValue4
 t5 := Tryd.underlying5
 a5 := Tryd.isAgg5
 z5 := Tryd.sizeOf5
 v5 := Tryd.zeroValue5
 t9 := Tryd.underlying9
 a9 := Tryd.isAgg9
 z9 := Tryd.sizeOf9
 v9 := Tryd.zeroValue9
 t21 := Tryd.underlying21
 a21 := Tryd.isAgg21
 z21 := Tryd.sizeOf21
 v21 := Tryd.zeroValue21
 t31 := Tryd.underlying30
 a31 := Tryd.isAgg30
 z31 := Tryd.sizeOf30
 v31 := Tryd.zeroValue30
 t46 := Tryd.underlying50
 a46 := Tryd.isAgg50
 z46 := Tryd.sizeOf50
 v46 := Tryd.zeroValue50
 t51 := Tryd.underlying55
 a51 := Tryd.isAgg55
 z51 := Tryd.sizeOf55
 v51 := Tryd.zeroValue55
 t105 := Tryd.underlying46
 a105 := Tryd.isAgg46
 z105 := Tryd.sizeOf46
 v105 := Tryd.zeroValue46
 t119 := Tryd.underlying51
 a119 := Tryd.isAgg51
 z119 := Tryd.sizeOf51
 t138 := Tryd.underlying53
 a138 := Tryd.isAgg53
 z138 := Tryd.sizeOf53
 v138 := Tryd.zeroValue53
 t139 := Tryd.underlying54
 a139 := Tryd.isAgg54
 z139 := Tryd.sizeOf54
 v139 := Tryd.zeroValue54
 t146 := Tryd.underlying56
 a146 := Tryd.isAgg56
 z146 := Tryd.sizeOf56
 v146 := Tryd.zeroValue56
 g1 := by kernel_rfl
 g3 := by kernel_rfl
 g4 := by kernel_rfl }
open Go.RowKit Go.Lib in
theorem Tryd.strings_Split (s sep : ByteArray) (m : Int) (w : World) (hs : s.size < 4294967281) (hm : w.cell? ⟨0, 0, none⟩ = some (.int .i64 m)) (h1 : 1 ≤ sep.size) :
   Calls Tryd.prog 10 #[.string s, .string sep] w fun e w' =>
     e = .returned (.slice (some ⟨w.heap.size, 0, none⟩) (Lib.countB s sep + 1) (Lib.countB s sep + 1)) ∧ w' = w.alloc (.cells ((Lib.splitB sep 0 (Lib.countB s sep) s).map Value.string).toArray 9) := Any.strings_Split Tryd.lays146 (by kernel_rfl) s sep m w hs hm h1
end Go.Proofs

/- The library's slices.Sort and slices.Compact at []int64, by the shelf's contracts. -/
import Derived.Shelf.SlicesG.CompactI
import Derived.Shelf.SortM.Plain
import Derived.Shelf.SortM.SortNone
import Derived.Test.YtopopjkoanpjiaaProg
namespace Go.Proofs
open Go.Shelf
def Try.laysSlN43_f33_ren : Go.Shelf.Ren := ⟨fun | 43 => 33 | n => n, fun | 22 => 22 | 23 => 2 | 3 => 3 | 4 => 4 | 0 => 0 | n => n, fun | n => n⟩
theorem Try.laysSlN43_f33 : Go.Proofs.SlLaysN.n43 Try.prog Try.laysSlN43_f33_ren := {
 mixed := by kernel_rfl
 f43 := ⟨Try.f33.name, by decide, Try.func33.trans (congrArg some (by kernel_rfl))⟩
 t0 := Try.underlying0
 a0 := Try.isAgg0
 z0 := Try.sizeOf0
 v0 := Try.zeroValue0
 t3 := Try.underlying3
 a3 := Try.isAgg3
 z3 := Try.sizeOf3
 v3 := Try.zeroValue3
 t4 := Try.underlying4
 a4 := Try.isAgg4
 z4 := Try.sizeOf4
 v4 := Try.zeroValue4
 t22 := Try.underlying22
 a22 := Try.isAgg22
 z22 := Try.sizeOf22
 v22 := Try.zeroValue22
 t23 := Try.underlying2
 a23 := Try.isAgg2
 z23 := Try.sizeOf2
 v23 := Try.zeroValue2
 i23 := by kernel_rfl }
open Go.RowKit Go.Lib Go.Sort in
theorem Try.slices_Compact_int (blk off cap : Nat) (zs : List Int) (w : World) (hH : Holds (Value.int .i64) w blk off zs.toArray) (hsz : zs.length ≤ 9223372036854775807) (hcap : zs.length ≤ cap) :
   Calls Try.prog 33 #[.slice (some ⟨blk, off, none⟩) zs.length cap] w fun e w' => e = .returned (.slice (some ⟨blk, off, none⟩) (Lib.compact zs).length cap) ∧ ∃ q, w' = putRow (Value.int .i64) (Sort.ahead w q) blk off (Lib.compact zs ++ List.replicate (zs.length - (Lib.compact zs).length) 0).toArray := AnyG.slices_Compact_int Try.laysSlN43_f33 blk off cap zs w hH hsz hcap
open Go.RowKit Go.Lib Go.Sort in
theorem Try.slices_Compact_int_empty (a : Option Addr) (cap : Nat) (w : World) :
   Calls Try.prog 33 #[.slice a 0 cap] w fun e w' => e = .returned (.slice a 0 cap) ∧ w' = w := AnyG.slices_Compact_int_empty Try.laysSlN43_f33 a cap w
def Try.laysSlM5_f32_ren : Go.Shelf.Ren := ⟨fun | 5 => 32 | 8 => 38 | 7 => 37 | 19 => 48 | 20 => 49 | 10 => 39 | 11 => 40 | 12 => 41 | 13 => 42 | 14 => 43 | 15 => 44 | 16 => 45 | 17 => 46 | 18 => 47 | 30 => 50 | 31 => 51 | 32 => 52 | 33 => 53 | 34 => 54 | 35 => 55 | 40 => 56 | n => n, fun | 23 => 22 | 25 => 2 | 3 => 3 | 32 => 58 | 22 => 22 | 0 => 0 | 44 => 69 | 46 => 71 | 4 => 4 | 36 => 61 | 35 => 60 | 41 => 66 | 5 => 5 | 9 => 9 | 53 => 72 | 57 => 76 | 63 => 79 | 64 => 80 | n => n, fun | n => n⟩
theorem Try.laysSlM5_f32 : Go.Proofs.SlLaysM.n5 Try.prog Try.laysSlM5_f32_ren := {
 mixed := by kernel_rfl
 f5 := ⟨Try.f32.name, by decide, Try.func32.trans (congrArg some (by kernel_rfl))⟩
 f7 := ⟨Try.f37.name, by decide, Try.func37.trans (congrArg some (by kernel_rfl))⟩
 f8 := Try.func38.trans (congrArg some (by kernel_rfl))
 f10 := ⟨Try.f39.name, by decide, Try.func39.trans (congrArg some (by kernel_rfl))⟩
 f11 := ⟨Try.f40.name, by decide, Try.func40.trans (congrArg some (by kernel_rfl))⟩
 f12 := ⟨Try.f41.name, by decide, Try.func41.trans (congrArg some (by kernel_rfl))⟩
 f13 := ⟨Try.f42.name, by decide, Try.func42.trans (congrArg some (by kernel_rfl))⟩
 f14 := ⟨Try.f43.name, by decide, Try.func43.trans (congrArg some (by kernel_rfl))⟩
 f15 := ⟨Try.f44.name, by decide, Try.func44.trans (congrArg some (by kernel_rfl))⟩
 f16 := ⟨Try.f45.name, by decide, Try.func45.trans (congrArg some (by kernel_rfl))⟩
 f17 := ⟨Try.f46.name, by decide, Try.func46.trans (congrArg some (by kernel_rfl))⟩
 f18 := ⟨Try.f47.name, by decide, Try.func47.trans (congrArg some (by kernel_rfl))⟩
 f19 := Try.func48.trans (congrArg some (by kernel_rfl))
 f20 := Try.func49.trans (congrArg some (by kernel_rfl))
 f30 := ⟨Try.f50.name, by decide, Try.func50.trans (congrArg some (by kernel_rfl))⟩
 f31 := Try.func51.trans (congrArg some (by kernel_rfl))
 f32 := Try.func52.trans (congrArg some (by kernel_rfl))
 f33 := ⟨Try.f53.name, by decide, Try.func53.trans (congrArg some (by kernel_rfl))⟩
 f34 := ⟨Try.f54.name, by decide, Try.func54.trans (congrArg some (by kernel_rfl))⟩
 f35 := ⟨Try.f55.name, by decide, Try.func55.trans (congrArg some (by kernel_rfl))⟩
 f40 := ⟨Try.f56.name, by decide, Try.func56.trans (congrArg some (by kernel_rfl))⟩
 t0 := Try.underlying0
 a0 := Try.isAgg0
 z0 := Try.sizeOf0
 v0 := Try.zeroValue0
 t3 := Try.underlying3
 a3 := Try.isAgg3
 z3 := Try.sizeOf3
 v3 := Try.zeroValue3
 t4 := Try.underlying4
 a4 := Try.isAgg4
 z4 := Try.sizeOf4
 v4 := Try.zeroValue4
 t5 := Try.underlying5
 a5 := Try.isAgg5
 z5 := Try.sizeOf5
 v5 := Try.zeroValue5
 t9 := Try.underlying9
 a9 := Try.isAgg9
 z9 := Try.sizeOf9
 v9 := Try.zeroValue9
 t22 := Try.underlying22
 a22 := Try.isAgg22
 z22 := Try.sizeOf22
 v22 := Try.zeroValue22
 t23 := Try.underlying22
 a23 := Try.isAgg22
 z23 := Try.sizeOf22
 v23 := Try.zeroValue22
 t25 := Try.underlying2
 a25 := Try.isAgg2
 z25 := Try.sizeOf2
 v25 := Try.zeroValue2
 t32 := Try.underlying58
 a32 := Try.isAgg58
 z32 := Try.sizeOf58
 v32 := Try.zeroValue58
 t35 := Try.underlying60
 a35 := Try.isAgg60
 z35 := Try.sizeOf60
 v35 := Try.zeroValue60
 t36 := Try.underlying61
 a36 := Try.isAgg61
 z36 := Try.sizeOf61
 v36 := Try.zeroValue61
 t41 := Try.underlying66
 a41 := Try.isAgg66
 z41 := Try.sizeOf66
 v41 := Try.zeroValue66
 t44 := Try.underlying69
 a44 := Try.isAgg69
 z44 := Try.sizeOf69
 v44 := Try.zeroValue69
 t46 := Try.underlying71
 a46 := Try.isAgg71
 z46 := Try.sizeOf71
 v46 := Try.zeroValue71
 t53 := Try.underlying72
 a53 := Try.isAgg72
 z53 := Try.sizeOf72
 v53 := Try.zeroValue72
 t57 := Try.underlying76
 a57 := Try.isAgg76
 z57 := Try.sizeOf76
 v57 := Try.zeroValue76
 t63 := Try.underlying79
 a63 := Try.isAgg79
 z63 := Try.sizeOf79
 v63 := Try.zeroValue79
 t64 := Try.underlying80
 a64 := Try.isAgg80
 z64 := Try.sizeOf80
 v64 := Try.zeroValue80 }
open Go.Sort Go.RowKit in
theorem Try.slices_Sort_int (blk off cap : Nat) (zs : List Int) (w : World) (hH : Holds (Value.int .i64) w blk off zs.toArray) (hblk : blk < w.heap.size) (hsz : zs.length < 4611686018427387904) :
   Calls Try.prog 32 #[.slice (some ⟨blk, off, none⟩) zs.length cap] w fun e w' =>
     e = .returned (.tuple #[]) ∧ ∃ n os, w' = grow (putRow (Value.int .i64) (Sort.ahead w n) blk off (zs.mergeSort fun x y => decide (x ≤ y)).toArray) os := AnyM.slices_Sort_int Try.laysSlM5_f32 blk off cap zs w hH hblk hsz
open Go.RowKit Go.Sort in
theorem Try.slices_Sort_int_none (p : Option Addr) (cap : Nat) (w : World) :
   Calls Try.prog 32 #[.slice p 0 cap] w fun e w' => e = .returned (.tuple #[]) ∧ w' = w := AnyM.slices_Sort_int_none Try.laysSlM5_f32 p cap w
end Go.Proofs

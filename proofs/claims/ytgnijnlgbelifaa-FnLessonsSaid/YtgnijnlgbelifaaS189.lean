-- The shelf's contracts at this seat's translation, in plain words, as the kit's tools lay them.
import Derived.Shelf.Small.Bits
import Derived.Shelf.Small.Strs
import Derived.Shelf.Small.Wraps
import Derived.Shelf.Strconv.Itoa0
import Derived.Shelf.Strings.Search1
import Derived.Shelf.Sort.Plain
import Derived.Shelf.Slices.Turned
import Derived.Ground.Names2Prog
import Derived.Shelf.Slices.Clone
import Derived.Shelf.Slices.CompactI
import Derived.Shelf.Slices.SearchI
import Derived.Shelf.Slices.Cells
import Derived.Shelf.Slices.In.SortNone
import Derived.Test.YtgnijnlgbelifaaProg
set_option linter.unusedVariables false
namespace Go.Proofs
open Go.Shelf
def Try.lays189_ren : Go.Shelf.Ren := ⟨fun | 189 => 28 | 125 => 52 | 257 => 51 | 128 => 78 | 129 => 79 | 294 => 70 | 295 => 71 | 296 => 72 | 297 => 73 | 298 => 74 | 299 => 75 | 216 => 62 | 300 => 76 | 301 => 77 | 328 => 85 | 329 => 86 | 330 => 87 | 331 => 88 | 332 => 89 | 215 => 83 | 343 => 91 | n => n,fun | 28 => 32 | 3 => 3 | 46 => 76 | 0 => 0 | 51 => 91 | 53 => 47 | 4 => 4 | 183 => 86 | 182 => 85 | 131 => 30 | 5 => 5 | 9 => 9 | 218 => 95 | 222 => 99 | 228 => 102 | 229 => 103 | n => n,fun | n => n⟩
theorem Try.lays189 : Go.Proofs.Lays.n189 Try.prog Try.lays189_ren := {
 mixed := by kernel_rfl
 f125 := Try.func52.trans (congrArg some (by kernel_rfl))
 f128 := Try.func78.trans (congrArg some (by kernel_rfl))
 f129 := Try.func79.trans (congrArg some (by kernel_rfl))
 f189 := Try.func28.trans (congrArg some (by kernel_rfl))
 f215 := Try.func83.trans (congrArg some (by kernel_rfl))
 f216 := Try.func62.trans (congrArg some (by kernel_rfl))
 f257 := Try.func51.trans (congrArg some (by kernel_rfl))
 f294 := Try.func70.trans (congrArg some (by kernel_rfl))
 f295 := Try.func71.trans (congrArg some (by kernel_rfl))
 f296 := Try.func72.trans (congrArg some (by kernel_rfl))
 f297 := Try.func73.trans (congrArg some (by kernel_rfl))
 f298 := Try.func74.trans (congrArg some (by kernel_rfl))
 f299 := Try.func75.trans (congrArg some (by kernel_rfl))
 f300 := Try.func76.trans (congrArg some (by kernel_rfl))
 f301 := Try.func77.trans (congrArg some (by kernel_rfl))
 f328 := Try.func85.trans (congrArg some (by kernel_rfl))
 f329 := Try.func86.trans (congrArg some (by kernel_rfl))
 f330 := Try.func87.trans (congrArg some (by kernel_rfl))
 f331 := Try.func88.trans (congrArg some (by kernel_rfl))
 f332 := Try.func89.trans (congrArg some (by kernel_rfl))
 f343 := Try.func91.trans (congrArg some (by kernel_rfl))
 t0 := Try.underlying0
 a0 := Try.isAgg0
 z0 := Try.sizeOf0
 v0 := Try.zeroValue0
 t3 := Try.underlying3
 a3 := Try.isAgg3
 z3 := Try.sizeOf3
 v3 := Try.zeroValue3
 t4 := Try.underlying4
 a4 := Try.isAgg4
 z4 := Try.sizeOf4
 v4 := Try.zeroValue4
 t5 := Try.underlying5
 a5 := Try.isAgg5
 z5 := Try.sizeOf5
 v5 := Try.zeroValue5
 t9 := Try.underlying9
 a9 := Try.isAgg9
 z9 := Try.sizeOf9
 v9 := Try.zeroValue9
 t28 := Try.underlying32
 a28 := Try.isAgg32
 z28 := Try.sizeOf32
 v28 := Try.zeroValue32
 t46 := Try.underlying76
 a46 := Try.isAgg76
 z46 := Try.sizeOf76
 v46 := Try.zeroValue76
 t51 := Try.underlying91
 a51 := Try.isAgg91
 z51 := Try.sizeOf91
 v51 := Try.zeroValue91
 t53 := Try.underlying47
 a53 := Try.isAgg47
 z53 := Try.sizeOf47
 v53 := Try.zeroValue47
 t131 := Try.underlying30
 a131 := Try.isAgg30
 z131 := Try.sizeOf30
 v131 := Try.zeroValue30
 t182 := Try.underlying85
 a182 := Try.isAgg85
 z182 := Try.sizeOf85
 v182 := Try.zeroValue85
 t183 := Try.underlying86
 a183 := Try.isAgg86
 z183 := Try.sizeOf86
 v183 := Try.zeroValue86
 t218 := Try.underlying95
 a218 := Try.isAgg95
 z218 := Try.sizeOf95
 v218 := Try.zeroValue95
 t222 := Try.underlying99
 a222 := Try.isAgg99
 z222 := Try.sizeOf99
 v222 := Try.zeroValue99
 t228 := Try.underlying102
 a228 := Try.isAgg102
 z228 := Try.sizeOf102
 v228 := Try.zeroValue102
 t229 := Try.underlying103
 a229 := Try.isAgg103
 z229 := Try.sizeOf103
 v229 := Try.zeroValue103 }
open Go.Sort Go.RowKit in
theorem Try.slices_Sort_int (blk off cap : Nat) (zs : List Int) (w : World) (hH : Holds (Value.int .i64) w blk off zs.toArray) (hblk : blk < w.heap.size) (hsz : zs.length < 4611686018427387904) :
  Calls Try.prog 28 #[.slice (some ⟨blk,off,none⟩) zs.length cap] w fun e w' =>
   e = .returned (.tuple #[]) ∧ ∃ n os,w' = grow (putRow (Value.int .i64) (Sort.ahead w n) blk off (zs.mergeSort fun x y => decide (x ≤ y)).toArray) os := Any.slices_Sort_int Try.lays189 blk off cap zs w hH hblk hsz
end Go.Proofs

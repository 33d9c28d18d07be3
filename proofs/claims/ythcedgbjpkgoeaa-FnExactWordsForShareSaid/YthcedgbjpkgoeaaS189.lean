-- The shelf's contracts at this seat's translation, in plain words, as the kit's tools lay them.
import Derived.Shelf.Small.Bits
import Derived.Shelf.Small.Strs
import Derived.Shelf.Small.Wraps
import Derived.Shelf.Strconv.Itoa0
import Derived.Shelf.Strings.Search1
import Derived.Shelf.Sort.Plain
import Derived.Shelf.Slices.Turned
import Derived.Ground.Names2Prog
import Derived.Shelf.Slices.Clone
import Derived.Shelf.Slices.CompactI
import Derived.Shelf.Slices.SearchI
import Derived.Shelf.Slices.Cells
import Derived.Shelf.Slices.In.SortNone
import Derived.Ground.SlgfProg
import Derived.Shelf.SlicesE.IndexFunc
import Derived.Test.YthcedgbjpkgoeaaProg
set_option linter.unusedVariables false
namespace Go.Proofs
open Go.Shelf
def Try.lays189_ren : Go.Shelf.Ren := ⟨fun | 189 => 61 | 125 => 92 | 257 => 91 | 128 => 108 | 129 => 109 | 294 => 100 | 295 => 101 | 296 => 102 | 297 => 103 | 298 => 104 | 299 => 105 | 216 => 96 | 300 => 106 | 301 => 107 | 328 => 112 | 329 => 113 | 330 => 114 | 331 => 115 | 332 => 116 | 215 => 111 | 343 => 118 | n => n, fun | 28 => 34 | 3 => 3 | 46 => 90 | 0 => 0 | 51 => 102 | 53 => 104 | 4 => 4 | 183 => 97 | 182 => 96 | 131 => 46 | 5 => 5 | 9 => 9 | 218 => 105 | 222 => 109 | 228 => 112 | 229 => 57 | n => n, fun | n => n⟩
theorem Try.lays189 : Go.Proofs.Lays.n189 Try.prog Try.lays189_ren := {
 mixed := by kernel_rfl
 f125 := Try.func92.trans (congrArg some (by kernel_rfl))
 f128 := Try.func108.trans (congrArg some (by kernel_rfl))
 f129 := Try.func109.trans (congrArg some (by kernel_rfl))
 f189 := Try.func61.trans (congrArg some (by kernel_rfl))
 f215 := Try.func111.trans (congrArg some (by kernel_rfl))
 f216 := Try.func96.trans (congrArg some (by kernel_rfl))
 f257 := Try.func91.trans (congrArg some (by kernel_rfl))
 f294 := Try.func100.trans (congrArg some (by kernel_rfl))
 f295 := Try.func101.trans (congrArg some (by kernel_rfl))
 f296 := Try.func102.trans (congrArg some (by kernel_rfl))
 f297 := Try.func103.trans (congrArg some (by kernel_rfl))
 f298 := Try.func104.trans (congrArg some (by kernel_rfl))
 f299 := Try.func105.trans (congrArg some (by kernel_rfl))
 f300 := Try.func106.trans (congrArg some (by kernel_rfl))
 f301 := Try.func107.trans (congrArg some (by kernel_rfl))
 f328 := Try.func112.trans (congrArg some (by kernel_rfl))
 f329 := Try.func113.trans (congrArg some (by kernel_rfl))
 f330 := Try.func114.trans (congrArg some (by kernel_rfl))
 f331 := Try.func115.trans (congrArg some (by kernel_rfl))
 f332 := Try.func116.trans (congrArg some (by kernel_rfl))
 f343 := Try.func118.trans (congrArg some (by kernel_rfl))
 t0 := Try.underlying0
 a0 := Try.isAgg0
 z0 := Try.sizeOf0
 v0 := Try.zeroValue0
 t3 := Try.underlying3
 a3 := Try.isAgg3
 z3 := Try.sizeOf3
 v3 := Try.zeroValue3
 t4 := Try.underlying4
 a4 := Try.isAgg4
 z4 := Try.sizeOf4
 v4 := Try.zeroValue4
 t5 := Try.underlying5
 a5 := Try.isAgg5
 z5 := Try.sizeOf5
 v5 := Try.zeroValue5
 t9 := Try.underlying9
 a9 := Try.isAgg9
 z9 := Try.sizeOf9
 v9 := Try.zeroValue9
 t28 := Try.underlying34
 a28 := Try.isAgg34
 z28 := Try.sizeOf34
 v28 := Try.zeroValue34
 t46 := Try.underlying90
 a46 := Try.isAgg90
 z46 := Try.sizeOf90
 v46 := Try.zeroValue90
 t51 := Try.underlying102
 a51 := Try.isAgg102
 z51 := Try.sizeOf102
 v51 := Try.zeroValue102
 t53 := Try.underlying104
 a53 := Try.isAgg104
 z53 := Try.sizeOf104
 v53 := Try.zeroValue104
 t131 := Try.underlying46
 a131 := Try.isAgg46
 z131 := Try.sizeOf46
 v131 := Try.zeroValue46
 t182 := Try.underlying96
 a182 := Try.isAgg96
 z182 := Try.sizeOf96
 v182 := Try.zeroValue96
 t183 := Try.underlying97
 a183 := Try.isAgg97
 z183 := Try.sizeOf97
 v183 := Try.zeroValue97
 t218 := Try.underlying105
 a218 := Try.isAgg105
 z218 := Try.sizeOf105
 v218 := Try.zeroValue105
 t222 := Try.underlying109
 a222 := Try.isAgg109
 z222 := Try.sizeOf109
 v222 := Try.zeroValue109
 t228 := Try.underlying112
 a228 := Try.isAgg112
 z228 := Try.sizeOf112
 v228 := Try.zeroValue112
 t229 := Try.underlying57
 a229 := Try.isAgg57
 z229 := Try.sizeOf57
 v229 := Try.zeroValue57 }
open Go.Sort Go.RowKit in
theorem Try.slices_Sort_int (blk off cap : Nat) (zs : List Int) (w : World) (hH : Holds (Value.int .i64) w blk off zs.toArray) (hblk : blk < w.heap.size) (hsz : zs.length < 4611686018427387904) :
  Calls Try.prog 61 #[.slice (some ⟨blk, off, none⟩) zs.length cap] w fun e w' =>
   e = .returned (.tuple #[]) ∧ ∃ n os, w' = grow (putRow (Value.int .i64) (Sort.ahead w n) blk off (zs.mergeSort fun x y => decide (x ≤ y)).toArray) os := Any.slices_Sort_int Try.lays189 blk off cap zs w hH hblk hsz
end Go.Proofs

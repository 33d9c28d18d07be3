-- The shelf's contracts at this seat's translation, in plain words, as the kit's tools lay them.
import Derived.Shelf.Small.Bits
import Derived.Shelf.Small.Strs
import Derived.Shelf.Strconv.Itoa0
import Derived.Shelf.Strings.Search1
import Derived.Shelf.Sort.Plain
import Derived.Shelf.Slices.Turned
import Derived.Ground.Names2Prog
import Derived.Shelf.Slices.Clone
import Derived.Shelf.Slices.CompactS
import Derived.Shelf.Slices.Cells
import Derived.Shelf.Slices.In.SortNone
import Derived.Ground.SlgnProg
import Derived.Shelf.SlicesE.Compact
import Derived.Ground.SlgfProg
import Derived.Shelf.SlicesE.IndexFunc
import Derived.Ground.SlsfProg
import Derived.Shelf.SlSortCmp.Insertion
import Derived.Shelf.SlSortCmp.Insertion1
import Derived.Test.YtcpkobahiciadaaProg
set_option linter.unusedVariables false
namespace Go.Proofs
open Go.Shelf
def Try.lays190_ren : Go.Shelf.Ren := ⟨fun | 190 => 135 | 125 => 106 | 258 => 148 | 128 => 127 | 129 => 128 | 302 => 154 | 303 => 155 | 304 => 156 | 305 => 157 | 306 => 158 | 307 => 159 | 308 => 160 | 309 => 161 | 310 => 162 | 333 => 165 | 329 => 142 | 330 => 143 | 334 => 166 | 335 => 167 | 336 => 133 | 344 => 169 | n => n, fun | 31 => 53 | 9 => 9 | 3 => 3 | 46 => 109 | 0 => 0 | 51 => 133 | 53 => 135 | 4 => 4 | 183 => 127 | 182 => 126 | 131 => 63 | 5 => 5 | 218 => 142 | 222 => 146 | 228 => 152 | 229 => 153 | n => n, fun | n => n⟩
theorem Try.lays190 : Go.Proofs.Lays.n190 Try.prog Try.lays190_ren := {
 mixed := by kernel_rfl
 f125 := Try.func106.trans (congrArg some (by kernel_rfl))
 f128 := Try.func127.trans (congrArg some (by kernel_rfl))
 f129 := Try.func128.trans (congrArg some (by kernel_rfl))
 f190 := Try.func135.trans (congrArg some (by kernel_rfl))
 f258 := Try.func148.trans (congrArg some (by kernel_rfl))
 f302 := Try.func154.trans (congrArg some (by kernel_rfl))
 f303 := Try.func155.trans (congrArg some (by kernel_rfl))
 f304 := Try.func156.trans (congrArg some (by kernel_rfl))
 f305 := Try.func157.trans (congrArg some (by kernel_rfl))
 f306 := Try.func158.trans (congrArg some (by kernel_rfl))
 f307 := Try.func159.trans (congrArg some (by kernel_rfl))
 f308 := Try.func160.trans (congrArg some (by kernel_rfl))
 f309 := Try.func161.trans (congrArg some (by kernel_rfl))
 f310 := Try.func162.trans (congrArg some (by kernel_rfl))
 f329 := Try.func142.trans (congrArg some (by kernel_rfl))
 f330 := Try.func143.trans (congrArg some (by kernel_rfl))
 f333 := Try.func165.trans (congrArg some (by kernel_rfl))
 f334 := Try.func166.trans (congrArg some (by kernel_rfl))
 f335 := Try.func167.trans (congrArg some (by kernel_rfl))
 f336 := Try.func133.trans (congrArg some (by kernel_rfl))
 f344 := Try.func169.trans (congrArg some (by kernel_rfl))
 t0 := Try.underlying0
 a0 := Try.isAgg0
 z0 := Try.sizeOf0
 v0 := Try.zeroValue0
 t3 := Try.underlying3
 a3 := Try.isAgg3
 z3 := Try.sizeOf3
 v3 := Try.zeroValue3
 t4 := Try.underlying4
 a4 := Try.isAgg4
 z4 := Try.sizeOf4
 v4 := Try.zeroValue4
 t5 := Try.underlying5
 a5 := Try.isAgg5
 z5 := Try.sizeOf5
 v5 := Try.zeroValue5
 t9 := Try.underlying9
 a9 := Try.isAgg9
 z9 := Try.sizeOf9
 v9 := Try.zeroValue9
 t31 := Try.underlying53
 a31 := Try.isAgg53
 z31 := Try.sizeOf53
 v31 := Try.zeroValue53
 t46 := Try.underlying109
 a46 := Try.isAgg109
 z46 := Try.sizeOf109
 v46 := Try.zeroValue109
 t51 := Try.underlying133
 a51 := Try.isAgg133
 z51 := Try.sizeOf133
 v51 := Try.zeroValue133
 t53 := Try.underlying135
 a53 := Try.isAgg135
 z53 := Try.sizeOf135
 v53 := Try.zeroValue135
 t131 := Try.underlying63
 a131 := Try.isAgg63
 z131 := Try.sizeOf63
 v131 := Try.zeroValue63
 t182 := Try.underlying126
 a182 := Try.isAgg126
 z182 := Try.sizeOf126
 v182 := Try.zeroValue126
 t183 := Try.underlying127
 a183 := Try.isAgg127
 z183 := Try.sizeOf127
 v183 := Try.zeroValue127
 t218 := Try.underlying142
 a218 := Try.isAgg142
 z218 := Try.sizeOf142
 v218 := Try.zeroValue142
 t222 := Try.underlying146
 a222 := Try.isAgg146
 z222 := Try.sizeOf146
 v222 := Try.zeroValue146
 t228 := Try.underlying152
 a228 := Try.isAgg152
 z228 := Try.sizeOf152
 v228 := Try.zeroValue152
 t229 := Try.underlying153
 a229 := Try.isAgg153
 z229 := Try.sizeOf153
 v229 := Try.zeroValue153 }
open Go.Sort Go.RowKit in
theorem Try.slices_Sort_string (blk off cap : Nat) (ss : List (List UInt8)) (w : World) (hH : Holds encStr w blk off ss.toArray) (hblk : blk < w.heap.size) (hsz : ss.length < 4611686018427387904) :
  Calls Try.prog 135 #[.slice (some ⟨blk, off, none⟩) ss.length cap] w fun e w' =>
   e = .returned (.tuple #[]) ∧ ∃ n os, w' = grow (putRow encStr (Sort.ahead w n) blk off (ss.mergeSort fun x y => decide (x ≤ y)).toArray) os := Any.slices_Sort_string Try.lays190 blk off cap ss w hH hblk hsz
end Go.Proofs

/- Trimmed by a program of this session (trim.py). Not trusted: Lean checks it. -/
import Derived.Shelf.Small.Bits
import Derived.Shelf.Strconv.Itoa0
import Derived.Shelf.Sort.Plain
import Derived.Ground.Names2Prog
import Derived.Shelf.Slices.SearchI
import Derived.Shelf.Slices.In.SortNone
import Derived.Shelf.Slices.In.SortNone2
import Derived.Test.YtpbjbfimnfghkaaProg
namespace Go.Proofs
open Go.Shelf
def Try.lays191_ren : Go.Shelf.Ren := ⟨fun | 191 => 69 | 189 => 80 | 125 => 85 | 257 => 84 | 128 => 95 | 129 => 96 | 294 => 86 | 295 => 87 | 296 => 88 | 297 => 89 | 298 => 90 | 299 => 91 | 216 => 92 | 300 => 93 | 301 => 94 | 328 => 97 | 329 => 98 | 330 => 99 | 331 => 100 | 332 => 101 | 215 => 102 | 343 => 103 | n => n, fun | 28 => 33 | 0 => 0 | 3 => 3 | 46 => 102 | 51 => 113 | 53 => 115 | 4 => 4 | 183 => 105 | 182 => 104 | 131 => 110 | 5 => 5 | 9 => 9 | 218 => 116 | 222 => 120 | 228 => 123 | 229 => 71 | n => n, fun | n => n⟩
theorem Try.lays191 : Go.Proofs.Lays.n191 Try.prog Try.lays191_ren := {
 mixed := by kernel_rfl
 f125 := Try.func85.trans (congrArg some (by kernel_rfl))
 f128 := Try.func95.trans (congrArg some (by kernel_rfl))
 f129 := Try.func96.trans (congrArg some (by kernel_rfl))
 f189 := Try.func80.trans (congrArg some (by kernel_rfl))
 f191 := Try.func69.trans (congrArg some (by kernel_rfl))
 f215 := Try.func102.trans (congrArg some (by kernel_rfl))
 f216 := Try.func92.trans (congrArg some (by kernel_rfl))
 f257 := Try.func84.trans (congrArg some (by kernel_rfl))
 f294 := Try.func86.trans (congrArg some (by kernel_rfl))
 f295 := Try.func87.trans (congrArg some (by kernel_rfl))
 f296 := Try.func88.trans (congrArg some (by kernel_rfl))
 f297 := Try.func89.trans (congrArg some (by kernel_rfl))
 f298 := Try.func90.trans (congrArg some (by kernel_rfl))
 f299 := Try.func91.trans (congrArg some (by kernel_rfl))
 f300 := Try.func93.trans (congrArg some (by kernel_rfl))
 f301 := Try.func94.trans (congrArg some (by kernel_rfl))
 f328 := Try.func97.trans (congrArg some (by kernel_rfl))
 f329 := Try.func98.trans (congrArg some (by kernel_rfl))
 f330 := Try.func99.trans (congrArg some (by kernel_rfl))
 f331 := Try.func100.trans (congrArg some (by kernel_rfl))
 f332 := Try.func101.trans (congrArg some (by kernel_rfl))
 f343 := Try.func103.trans (congrArg some (by kernel_rfl))
 t0 := Try.underlying0
 a0 := Try.isAgg0
 z0 := Try.sizeOf0
 v0 := Try.zeroValue0
 t3 := Try.underlying3
 a3 := Try.isAgg3
 z3 := Try.sizeOf3
 v3 := Try.zeroValue3
 t4 := Try.underlying4
 a4 := Try.isAgg4
 z4 := Try.sizeOf4
 v4 := Try.zeroValue4
 t5 := Try.underlying5
 a5 := Try.isAgg5
 z5 := Try.sizeOf5
 v5 := Try.zeroValue5
 t9 := Try.underlying9
 a9 := Try.isAgg9
 z9 := Try.sizeOf9
 v9 := Try.zeroValue9
 t28 := Try.underlying33
 a28 := Try.isAgg33
 z28 := Try.sizeOf33
 v28 := Try.zeroValue33
 t46 := Try.underlying102
 a46 := Try.isAgg102
 z46 := Try.sizeOf102
 v46 := Try.zeroValue102
 t51 := Try.underlying113
 a51 := Try.isAgg113
 z51 := Try.sizeOf113
 v51 := Try.zeroValue113
 t53 := Try.underlying115
 a53 := Try.isAgg115
 z53 := Try.sizeOf115
 v53 := Try.zeroValue115
 t131 := Try.underlying110
 a131 := Try.isAgg110
 z131 := Try.sizeOf110
 v131 := Try.zeroValue110
 t182 := Try.underlying104
 a182 := Try.isAgg104
 z182 := Try.sizeOf104
 v182 := Try.zeroValue104
 t183 := Try.underlying105
 a183 := Try.isAgg105
 z183 := Try.sizeOf105
 v183 := Try.zeroValue105
 t218 := Try.underlying116
 a218 := Try.isAgg116
 z218 := Try.sizeOf116
 v218 := Try.zeroValue116
 t222 := Try.underlying120
 a222 := Try.isAgg120
 z222 := Try.sizeOf120
 v222 := Try.zeroValue120
 t228 := Try.underlying123
 a228 := Try.isAgg123
 z228 := Try.sizeOf123
 v228 := Try.zeroValue123
 t229 := Try.underlying71
 a229 := Try.isAgg71
 z229 := Try.sizeOf71
 v229 := Try.zeroValue71 }
open Go.Sort Go.RowKit in
theorem Try.sort_Ints (blk off cap : Nat) (zs : List Int) (w : World) (hH : Holds (Value.int .i64) w blk off zs.toArray) (hblk : blk < w.heap.size) (hsz : zs.length < 4611686018427387904) :
  Calls Try.prog 69 #[.slice (some ⟨blk, off, none⟩) zs.length cap] w fun e w' =>
   e = .returned (.tuple #[]) ∧ ∃ n os, w' = grow (putRow (Value.int .i64) (Sort.ahead w n) blk off (zs.mergeSort fun x y => decide (x ≤ y)).toArray) os := Any.sort_Ints Try.lays191 blk off cap zs w hH hblk hsz
open Go.RowKit Go.Sort in
theorem Try.sort_Ints_none (p : Option Addr) (cap : Nat) (w : World) :
  Calls Try.prog 69 #[.slice p 0 cap] w fun e w' => e = .returned (.tuple #[]) ∧ w' = w := Any.sort_Ints_none Try.lays191 p cap w
end Go.Proofs

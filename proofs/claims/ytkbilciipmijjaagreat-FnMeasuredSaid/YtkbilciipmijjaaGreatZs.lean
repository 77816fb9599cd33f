import Derived.Shelf.Small.Wraps
import Derived.Shelf.Sort.Plain
import Derived.Shelf.Slices.Turned
import Derived.Shelf.Slices.CompactI
import Derived.Shelf.Slices.In.SortNone
import Derived.Shelf.Spec.SlicesGrow
import Derived.Test.YtkbilciipmijjaaGreatProg
namespace Go.Proofs
open Go.Shelf
def Tryz.lays189_ren : Go.Shelf.Ren := ⟨fun | 189 => 82 | 125 => 151 | 257 => 150 | 128 => 232 | 129 => 233 | 294 => 223 | 295 => 224 | 296 => 225 | 297 => 226 | 298 => 227 | 299 => 228 | 216 => 229 | 300 => 230 | 301 => 231 | 328 => 279 | 329 => 280 | 330 => 281 | 331 => 282 | 332 => 283 | 215 => 284 | 343 => 323 | n => n, fun | 28 => 42 | 3 => 3 | 46 => 174 | 0 => 0 | 51 => 243 | 53 => 245 | 4 => 4 | 183 => 235 | 182 => 234 | 131 => 240 | 5 => 5 | 9 => 9 | 218 => 269 | 222 => 273 | 228 => 289 | 229 => 215 | n => n, fun | n => n⟩
theorem Tryz.lays189 : Go.Proofs.Lays.n189 Tryz.prog Tryz.lays189_ren := {
 mixed := by kernel_rfl
 f125 := Tryz.func151.trans (congrArg some (by kernel_rfl))
 f128 := Tryz.func232.trans (congrArg some (by kernel_rfl))
 f129 := Tryz.func233.trans (congrArg some (by kernel_rfl))
 f189 := Tryz.func82.trans (congrArg some (by kernel_rfl))
 f215 := Tryz.func284.trans (congrArg some (by kernel_rfl))
 f216 := Tryz.func229.trans (congrArg some (by kernel_rfl))
 f257 := Tryz.func150.trans (congrArg some (by kernel_rfl))
 f294 := Tryz.func223.trans (congrArg some (by kernel_rfl))
 f295 := Tryz.func224.trans (congrArg some (by kernel_rfl))
 f296 := Tryz.func225.trans (congrArg some (by kernel_rfl))
 f297 := Tryz.func226.trans (congrArg some (by kernel_rfl))
 f298 := Tryz.func227.trans (congrArg some (by kernel_rfl))
 f299 := Tryz.func228.trans (congrArg some (by kernel_rfl))
 f300 := Tryz.func230.trans (congrArg some (by kernel_rfl))
 f301 := Tryz.func231.trans (congrArg some (by kernel_rfl))
 f328 := Tryz.func279.trans (congrArg some (by kernel_rfl))
 f329 := Tryz.func280.trans (congrArg some (by kernel_rfl))
 f330 := Tryz.func281.trans (congrArg some (by kernel_rfl))
 f331 := Tryz.func282.trans (congrArg some (by kernel_rfl))
 f332 := Tryz.func283.trans (congrArg some (by kernel_rfl))
 f343 := Tryz.func323.trans (congrArg some (by kernel_rfl))
 t0 := Tryz.underlying0
 a0 := Tryz.isAgg0
 z0 := Tryz.sizeOf0
 v0 := Tryz.zeroValue0
 t3 := Tryz.underlying3
 a3 := Tryz.isAgg3
 z3 := Tryz.sizeOf3
 v3 := Tryz.zeroValue3
 t4 := Tryz.underlying4
 a4 := Tryz.isAgg4
 z4 := Tryz.sizeOf4
 v4 := Tryz.zeroValue4
 t5 := Tryz.underlying5
 a5 := Tryz.isAgg5
 z5 := Tryz.sizeOf5
 v5 := Tryz.zeroValue5
 t9 := Tryz.underlying9
 a9 := Tryz.isAgg9
 z9 := Tryz.sizeOf9
 v9 := Tryz.zeroValue9
 t28 := Tryz.underlying42
 a28 := Tryz.isAgg42
 z28 := Tryz.sizeOf42
 v28 := Tryz.zeroValue42
 t46 := Tryz.underlying174
 a46 := Tryz.isAgg174
 z46 := Tryz.sizeOf174
 v46 := Tryz.zeroValue174
 t51 := Tryz.underlying243
 a51 := Tryz.isAgg243
 z51 := Tryz.sizeOf243
 v51 := Tryz.zeroValue243
 t53 := Tryz.underlying245
 a53 := Tryz.isAgg245
 z53 := Tryz.sizeOf245
 v53 := Tryz.zeroValue245
 t131 := Tryz.underlying240
 a131 := Tryz.isAgg240
 z131 := Tryz.sizeOf240
 v131 := Tryz.zeroValue240
 t182 := Tryz.underlying234
 a182 := Tryz.isAgg234
 z182 := Tryz.sizeOf234
 v182 := Tryz.zeroValue234
 t183 := Tryz.underlying235
 a183 := Tryz.isAgg235
 z183 := Tryz.sizeOf235
 v183 := Tryz.zeroValue235
 t218 := Tryz.underlying269
 a218 := Tryz.isAgg269
 z218 := Tryz.sizeOf269
 v218 := Tryz.zeroValue269
 t222 := Tryz.underlying273
 a222 := Tryz.isAgg273
 z222 := Tryz.sizeOf273
 v222 := Tryz.zeroValue273
 t228 := Tryz.underlying289
 a228 := Tryz.isAgg289
 z228 := Tryz.sizeOf289
 v228 := Tryz.zeroValue289
 t229 := Tryz.underlying215
 a229 := Tryz.isAgg215
 z229 := Tryz.sizeOf215
 v229 := Tryz.zeroValue215 }
open Go.Sort Go.RowKit in
theorem Tryz.slices_Sort_int (blk off cap : Nat) (zs : List Int) (w : World) (hH : Holds (Value.int .i64) w blk off zs.toArray) (hblk : blk < w.heap.size) (hsz : zs.length < 4611686018427387904) :
  Calls Tryz.prog 82 #[.slice (some ⟨blk, off, none⟩) zs.length cap] w fun e w' =>
   e = .returned (.tuple #[]) ∧ ∃ n os, w' = grow (putRow (Value.int .i64) (Sort.ahead w n) blk off (zs.mergeSort fun x y => decide (x ≤ y)).toArray) os := Any.slices_Sort_int Tryz.lays189 blk off cap zs w hH hblk hsz
open Go.RowKit Go.Lib Go.Sort in
open Go.RowKit Go.Lib Go.Sort in
open Go.RowKit Go.Sort in
theorem Tryz.slices_Sort_int_none (p : Option Addr) (cap : Nat) (w : World) :
  Calls Tryz.prog 82 #[.slice p 0 cap] w fun e w' => e = .returned (.tuple #[]) ∧ w' = w := Any.slices_Sort_int_none Tryz.lays189 p cap w
end Go.Proofs

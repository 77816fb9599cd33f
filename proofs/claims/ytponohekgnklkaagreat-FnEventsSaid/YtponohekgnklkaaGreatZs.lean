import Derived.Shelf.Sort.Plain
import Derived.Shelf.Slices.Turned
import Derived.Shelf.Slices.In.SortNone
import Derived.Test.YtponohekgnklkaaGreatProg
namespace Go.Proofs
open Go.Shelf
def Tryz.lays189_ren : Go.Shelf.Ren := ⟨fun | 189 => 114 | 125 => 175 | 257 => 174 | 128 => 223 | 129 => 224 | 294 => 214 | 295 => 215 | 296 => 216 | 297 => 217 | 298 => 218 | 299 => 219 | 216 => 220 | 300 => 221 | 301 => 222 | 328 => 236 | 329 => 237 | 330 => 238 | 331 => 239 | 332 => 240 | 215 => 233 | 343 => 246 | n => n, fun | 28 => 120 | 3 => 3 | 46 => 187 | 0 => 0 | 51 => 227 | 53 => 229 | 4 => 4 | 183 => 219 | 182 => 218 | 131 => 224 | 5 => 5 | 9 => 9 | 218 => 235 | 222 => 239 | 228 => 246 | 229 => 158 | n => n, fun | n => n⟩
theorem Tryz.lays189 : Go.Proofs.Lays.n189 Tryz.prog Tryz.lays189_ren := {
 mixed := by kernel_rfl
 f125 := Tryz.func175.trans (congrArg some (by kernel_rfl))
 f128 := Tryz.func223.trans (congrArg some (by kernel_rfl))
 f129 := Tryz.func224.trans (congrArg some (by kernel_rfl))
 f189 := Tryz.func114.trans (congrArg some (by kernel_rfl))
 f215 := Tryz.func233.trans (congrArg some (by kernel_rfl))
 f216 := Tryz.func220.trans (congrArg some (by kernel_rfl))
 f257 := Tryz.func174.trans (congrArg some (by kernel_rfl))
 f294 := Tryz.func214.trans (congrArg some (by kernel_rfl))
 f295 := Tryz.func215.trans (congrArg some (by kernel_rfl))
 f296 := Tryz.func216.trans (congrArg some (by kernel_rfl))
 f297 := Tryz.func217.trans (congrArg some (by kernel_rfl))
 f298 := Tryz.func218.trans (congrArg some (by kernel_rfl))
 f299 := Tryz.func219.trans (congrArg some (by kernel_rfl))
 f300 := Tryz.func221.trans (congrArg some (by kernel_rfl))
 f301 := Tryz.func222.trans (congrArg some (by kernel_rfl))
 f328 := Tryz.func236.trans (congrArg some (by kernel_rfl))
 f329 := Tryz.func237.trans (congrArg some (by kernel_rfl))
 f330 := Tryz.func238.trans (congrArg some (by kernel_rfl))
 f331 := Tryz.func239.trans (congrArg some (by kernel_rfl))
 f332 := Tryz.func240.trans (congrArg some (by kernel_rfl))
 f343 := Tryz.func246.trans (congrArg some (by kernel_rfl))
 t0 := Tryz.underlying0
 a0 := Tryz.isAgg0
 z0 := Tryz.sizeOf0
 v0 := Tryz.zeroValue0
 t3 := Tryz.underlying3
 a3 := Tryz.isAgg3
 z3 := Tryz.sizeOf3
 v3 := Tryz.zeroValue3
 t4 := Tryz.underlying4
 a4 := Tryz.isAgg4
 z4 := Tryz.sizeOf4
 v4 := Tryz.zeroValue4
 t5 := Tryz.underlying5
 a5 := Tryz.isAgg5
 z5 := Tryz.sizeOf5
 v5 := Tryz.zeroValue5
 t9 := Tryz.underlying9
 a9 := Tryz.isAgg9
 z9 := Tryz.sizeOf9
 v9 := Tryz.zeroValue9
 t28 := Tryz.underlying120
 a28 := Tryz.isAgg120
 z28 := Tryz.sizeOf120
 v28 := Tryz.zeroValue120
 t46 := Tryz.underlying187
 a46 := Tryz.isAgg187
 z46 := Tryz.sizeOf187
 v46 := Tryz.zeroValue187
 t51 := Tryz.underlying227
 a51 := Tryz.isAgg227
 z51 := Tryz.sizeOf227
 v51 := Tryz.zeroValue227
 t53 := Tryz.underlying229
 a53 := Tryz.isAgg229
 z53 := Tryz.sizeOf229
 v53 := Tryz.zeroValue229
 t131 := Tryz.underlying224
 a131 := Tryz.isAgg224
 z131 := Tryz.sizeOf224
 v131 := Tryz.zeroValue224
 t182 := Tryz.underlying218
 a182 := Tryz.isAgg218
 z182 := Tryz.sizeOf218
 v182 := Tryz.zeroValue218
 t183 := Tryz.underlying219
 a183 := Tryz.isAgg219
 z183 := Tryz.sizeOf219
 v183 := Tryz.zeroValue219
 t218 := Tryz.underlying235
 a218 := Tryz.isAgg235
 z218 := Tryz.sizeOf235
 v218 := Tryz.zeroValue235
 t222 := Tryz.underlying239
 a222 := Tryz.isAgg239
 z222 := Tryz.sizeOf239
 v222 := Tryz.zeroValue239
 t228 := Tryz.underlying246
 a228 := Tryz.isAgg246
 z228 := Tryz.sizeOf246
 v228 := Tryz.zeroValue246
 t229 := Tryz.underlying158
 a229 := Tryz.isAgg158
 z229 := Tryz.sizeOf158
 v229 := Tryz.zeroValue158 }
open Go.Sort Go.RowKit in
theorem Tryz.slices_Sort_int (blk off cap : Nat) (zs : List Int) (w : World) (hH : Holds (Value.int .i64) w blk off zs.toArray) (hblk : blk < w.heap.size) (hsz : zs.length < 4611686018427387904) :
  Calls Tryz.prog 114 #[.slice (some ⟨blk, off, none⟩) zs.length cap] w fun e w' =>
   e = .returned (.tuple #[]) ∧ ∃ n os, w' = grow (putRow (Value.int .i64) (Sort.ahead w n) blk off (zs.mergeSort fun x y => decide (x ≤ y)).toArray) os := Any.slices_Sort_int Tryz.lays189 blk off cap zs w hH hblk hsz
open Go.RowKit Go.Sort in
theorem Tryz.slices_Sort_int_none (p : Option Addr) (cap : Nat) (w : World) :
  Calls Tryz.prog 114 #[.slice p 0 cap] w fun e w' => e = .returned (.tuple #[]) ∧ w' = w := Any.slices_Sort_int_none Tryz.lays189 p cap w
end Go.Proofs

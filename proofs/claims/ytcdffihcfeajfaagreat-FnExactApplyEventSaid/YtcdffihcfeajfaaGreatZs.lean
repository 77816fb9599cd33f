import Derived.Shelf.Sort.Plain
import Derived.Shelf.Slices.In.SortNone
import Derived.Test.YtcdffihcfeajfaaGreatProg
namespace Go.Proofs
open Go.Shelf
def Tryz.lays189_ren : Go.Shelf.Ren := ⟨fun | 189 => 265 | 125 => 279 | 257 => 278 | 128 => 295 | 129 => 296 | 294 => 286 | 295 => 287 | 296 => 288 | 297 => 289 | 298 => 290 | 299 => 291 | 216 => 292 | 300 => 293 | 301 => 294 | 328 => 298 | 329 => 299 | 330 => 300 | 331 => 301 | 332 => 302 | 215 => 277 | 343 => 304 | n => n, fun | 28 => 237 | 3 => 3 | 46 => 268 | 0 => 0 | 51 => 284 | 53 => 286 | 4 => 4 | 183 => 276 | 182 => 275 | 131 => 281 | 5 => 5 | 9 => 9 | 218 => 287 | 222 => 291 | 228 => 293 | 229 => 173 | n => n, fun | n => n⟩
theorem Tryz.lays189 : Go.Proofs.Lays.n189 Tryz.prog Tryz.lays189_ren := {
 mixed := by kernel_rfl
 f125 := Tryz.func279.trans (congrArg some (by kernel_rfl))
 f128 := Tryz.func295.trans (congrArg some (by kernel_rfl))
 f129 := Tryz.func296.trans (congrArg some (by kernel_rfl))
 f189 := Tryz.func265.trans (congrArg some (by kernel_rfl))
 f215 := Tryz.func277.trans (congrArg some (by kernel_rfl))
 f216 := Tryz.func292.trans (congrArg some (by kernel_rfl))
 f257 := Tryz.func278.trans (congrArg some (by kernel_rfl))
 f294 := Tryz.func286.trans (congrArg some (by kernel_rfl))
 f295 := Tryz.func287.trans (congrArg some (by kernel_rfl))
 f296 := Tryz.func288.trans (congrArg some (by kernel_rfl))
 f297 := Tryz.func289.trans (congrArg some (by kernel_rfl))
 f298 := Tryz.func290.trans (congrArg some (by kernel_rfl))
 f299 := Tryz.func291.trans (congrArg some (by kernel_rfl))
 f300 := Tryz.func293.trans (congrArg some (by kernel_rfl))
 f301 := Tryz.func294.trans (congrArg some (by kernel_rfl))
 f328 := Tryz.func298.trans (congrArg some (by kernel_rfl))
 f329 := Tryz.func299.trans (congrArg some (by kernel_rfl))
 f330 := Tryz.func300.trans (congrArg some (by kernel_rfl))
 f331 := Tryz.func301.trans (congrArg some (by kernel_rfl))
 f332 := Tryz.func302.trans (congrArg some (by kernel_rfl))
 f343 := Tryz.func304.trans (congrArg some (by kernel_rfl))
 t0 := Tryz.underlying0
 a0 := Tryz.isAgg0
 z0 := Tryz.sizeOf0
 v0 := Tryz.zeroValue0
 t3 := Tryz.underlying3
 a3 := Tryz.isAgg3
 z3 := Tryz.sizeOf3
 v3 := Tryz.zeroValue3
 t4 := Tryz.underlying4
 a4 := Tryz.isAgg4
 z4 := Tryz.sizeOf4
 v4 := Tryz.zeroValue4
 t5 := Tryz.underlying5
 a5 := Tryz.isAgg5
 z5 := Tryz.sizeOf5
 v5 := Tryz.zeroValue5
 t9 := Tryz.underlying9
 a9 := Tryz.isAgg9
 z9 := Tryz.sizeOf9
 v9 := Tryz.zeroValue9
 t28 := Tryz.underlying237
 a28 := Tryz.isAgg237
 z28 := Tryz.sizeOf237
 v28 := Tryz.zeroValue237
 t46 := Tryz.underlying268
 a46 := Tryz.isAgg268
 z46 := Tryz.sizeOf268
 v46 := Tryz.zeroValue268
 t51 := Tryz.underlying284
 a51 := Tryz.isAgg284
 z51 := Tryz.sizeOf284
 v51 := Tryz.zeroValue284
 t53 := Tryz.underlying286
 a53 := Tryz.isAgg286
 z53 := Tryz.sizeOf286
 v53 := Tryz.zeroValue286
 t131 := Tryz.underlying281
 a131 := Tryz.isAgg281
 z131 := Tryz.sizeOf281
 v131 := Tryz.zeroValue281
 t182 := Tryz.underlying275
 a182 := Tryz.isAgg275
 z182 := Tryz.sizeOf275
 v182 := Tryz.zeroValue275
 t183 := Tryz.underlying276
 a183 := Tryz.isAgg276
 z183 := Tryz.sizeOf276
 v183 := Tryz.zeroValue276
 t218 := Tryz.underlying287
 a218 := Tryz.isAgg287
 z218 := Tryz.sizeOf287
 v218 := Tryz.zeroValue287
 t222 := Tryz.underlying291
 a222 := Tryz.isAgg291
 z222 := Tryz.sizeOf291
 v222 := Tryz.zeroValue291
 t228 := Tryz.underlying293
 a228 := Tryz.isAgg293
 z228 := Tryz.sizeOf293
 v228 := Tryz.zeroValue293
 t229 := Tryz.underlying173
 a229 := Tryz.isAgg173
 z229 := Tryz.sizeOf173
 v229 := Tryz.zeroValue173 }
open Go.Sort Go.RowKit in
theorem Tryz.slices_Sort_int (blk off cap : Nat) (zs : List Int) (w : World) (hH : Holds (Value.int .i64) w blk off zs.toArray) (hblk : blk < w.heap.size) (hsz : zs.length < 4611686018427387904) :
  Calls Tryz.prog 265 #[.slice (some ⟨blk, off, none⟩) zs.length cap] w fun e w' =>
   e = .returned (.tuple #[]) ∧ ∃ n os, w' = grow (putRow (Value.int .i64) (Sort.ahead w n) blk off (zs.mergeSort fun x y => decide (x ≤ y)).toArray) os := Any.slices_Sort_int Tryz.lays189 blk off cap zs w hH hblk hsz
open Go.RowKit Go.Sort in
theorem Tryz.slices_Sort_int_none (p : Option Addr) (cap : Nat) (w : World) :
  Calls Tryz.prog 265 #[.slice p 0 cap] w fun e w' => e = .returned (.tuple #[]) ∧ w' = w := Any.slices_Sort_int_none Tryz.lays189 p cap w
end Go.Proofs

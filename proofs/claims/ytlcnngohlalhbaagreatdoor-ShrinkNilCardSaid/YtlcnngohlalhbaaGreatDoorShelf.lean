/- Contracts of library functions at this program, in plain words, off the shelf. -/
import Derived.Shelf.Sort.Plain
import Derived.Shelf.Slices.In.SortNone
import Derived.Ground.Names2Prog
import Derived.Shelf.Strings.Search1
import Derived.Shelf.Strings.Count
import Derived.Test.YtlcnngohlalhbaaGreatDoorProg
namespace Go.Proofs
open Go.Shelf
def Tryz.lays189_ren : Go.Shelf.Ren := ⟨fun | 189 => 152 | 125 => 230 | 257 => 229 | 128 => 298 | 129 => 299 | 294 => 289 | 295 => 290 | 296 => 291 | 297 => 292 | 298 => 293 | 299 => 294 | 216 => 295 | 300 => 296 | 301 => 297 | 328 => 331 | 329 => 332 | 330 => 333 | 331 => 334 | 332 => 335 | 215 => 336 | 343 => 361 | n => n, fun | 28 => 69 | 3 => 3 | 46 => 338 | 0 => 0 | 51 => 324 | 53 => 283 | 4 => 4 | 183 => 408 | 182 => 407 | 131 => 138 | 5 => 5 | 9 => 9 | 218 => 441 | 222 => 362 | 228 => 458 | 229 => 53 | n => n, fun | n => n⟩
theorem Tryz.lays189 : Go.Proofs.Lays.n189 Tryz.prog Tryz.lays189_ren := {
  mixed := by kernel_rfl
  f125 := Tryz.func230.trans (congrArg some (by kernel_rfl))
  f128 := Tryz.func298.trans (congrArg some (by kernel_rfl))
  f129 := Tryz.func299.trans (congrArg some (by kernel_rfl))
  f189 := Tryz.func152.trans (congrArg some (by kernel_rfl))
  f215 := Tryz.func336.trans (congrArg some (by kernel_rfl))
  f216 := Tryz.func295.trans (congrArg some (by kernel_rfl))
  f257 := Tryz.func229.trans (congrArg some (by kernel_rfl))
  f294 := Tryz.func289.trans (congrArg some (by kernel_rfl))
  f295 := Tryz.func290.trans (congrArg some (by kernel_rfl))
  f296 := Tryz.func291.trans (congrArg some (by kernel_rfl))
  f297 := Tryz.func292.trans (congrArg some (by kernel_rfl))
  f298 := Tryz.func293.trans (congrArg some (by kernel_rfl))
  f299 := Tryz.func294.trans (congrArg some (by kernel_rfl))
  f300 := Tryz.func296.trans (congrArg some (by kernel_rfl))
  f301 := Tryz.func297.trans (congrArg some (by kernel_rfl))
  f328 := Tryz.func331.trans (congrArg some (by kernel_rfl))
  f329 := Tryz.func332.trans (congrArg some (by kernel_rfl))
  f330 := Tryz.func333.trans (congrArg some (by kernel_rfl))
  f331 := Tryz.func334.trans (congrArg some (by kernel_rfl))
  f332 := Tryz.func335.trans (congrArg some (by kernel_rfl))
  f343 := Tryz.func361.trans (congrArg some (by kernel_rfl))
  t0 := Tryz.underlying0
  a0 := Tryz.isAgg0
  z0 := Tryz.sizeOf0
  v0 := Tryz.zeroValue0
  t3 := Tryz.underlying3
  a3 := Tryz.isAgg3
  z3 := Tryz.sizeOf3
  v3 := Tryz.zeroValue3
  t4 := Tryz.underlying4
  a4 := Tryz.isAgg4
  z4 := Tryz.sizeOf4
  v4 := Tryz.zeroValue4
  t5 := Tryz.underlying5
  a5 := Tryz.isAgg5
  z5 := Tryz.sizeOf5
  v5 := Tryz.zeroValue5
  t9 := Tryz.underlying9
  a9 := Tryz.isAgg9
  z9 := Tryz.sizeOf9
  v9 := Tryz.zeroValue9
  t28 := Tryz.underlying69
  a28 := Tryz.isAgg69
  z28 := Tryz.sizeOf69
  v28 := Tryz.zeroValue69
  t46 := Tryz.underlying338
  a46 := Tryz.isAgg338
  z46 := Tryz.sizeOf338
  v46 := Tryz.zeroValue338
  t51 := Tryz.underlying324
  a51 := Tryz.isAgg324
  z51 := Tryz.sizeOf324
  v51 := Tryz.zeroValue324
  t53 := Tryz.underlying283
  a53 := Tryz.isAgg283
  z53 := Tryz.sizeOf283
  v53 := Tryz.zeroValue283
  t131 := Tryz.underlying138
  a131 := Tryz.isAgg138
  z131 := Tryz.sizeOf138
  v131 := Tryz.zeroValue138
  t182 := Tryz.underlying407
  a182 := Tryz.isAgg407
  z182 := Tryz.sizeOf407
  v182 := Tryz.zeroValue407
  t183 := Tryz.underlying408
  a183 := Tryz.isAgg408
  z183 := Tryz.sizeOf408
  v183 := Tryz.zeroValue408
  t218 := Tryz.underlying441
  a218 := Tryz.isAgg441
  z218 := Tryz.sizeOf441
  v218 := Tryz.zeroValue441
  t222 := Tryz.underlying362
  a222 := Tryz.isAgg362
  z222 := Tryz.sizeOf362
  v222 := Tryz.zeroValue362
  t228 := Tryz.underlying458
  a228 := Tryz.isAgg458
  z228 := Tryz.sizeOf458
  v228 := Tryz.zeroValue458
  t229 := Tryz.underlying53
  a229 := Tryz.isAgg53
  z229 := Tryz.sizeOf53
  v229 := Tryz.zeroValue53 }
open Go.Sort Go.RowKit in
theorem Tryz.slices_Sort_int (blk off cap : Nat) (zs : List Int) (w : World) (hH : Holds (Value.int .i64) w blk off zs.toArray) (hblk : blk < w.heap.size) (hsz : zs.length < 4611686018427387904) :
    Calls Tryz.prog 152 #[.slice (some ⟨blk, off, none⟩) zs.length cap] w fun e w' =>
      e = .returned (.tuple #[]) ∧ ∃ n os, w' = grow (putRow (Value.int .i64) (Sort.ahead w n) blk off (zs.mergeSort fun x y => decide (x ≤ y)).toArray) os := Any.slices_Sort_int Tryz.lays189 blk off cap zs w hH hblk hsz
open Go.RowKit Go.Sort in
theorem Tryz.slices_Sort_int_none (p : Option Addr) (cap : Nat) (w : World) :
    Calls Tryz.prog 152 #[.slice p 0 cap] w fun e w' => e = .returned (.tuple #[]) ∧ w' = w := Any.slices_Sort_int_none Tryz.lays189 p cap w
def Tryz.lays138_ren : Go.Shelf.Ren := ⟨fun | 138 => 342 | 195 => 363 | 218 => 365 | 143 => 343 | 219 => 366 | 217 => 373 | 225 => 374 | 224 => 375 | 267 => 376 | 266 => 378 | 314 => 379 | n => n, fun | 9 => 9 | 3 => 3 | 4 => 4 | 5 => 5 | 0 => 0 | 46 => 338 | 146 => 472 | 51 => 324 | n => n, fun | 1 => 0 | n => n⟩
theorem Tryz.lays138 : Go.Proofs.Lays.n138 Tryz.prog Tryz.lays138_ren := {
  mixed := by kernel_rfl
  f138 := Tryz.func342.trans (congrArg some (by kernel_rfl))
  f143 := Tryz.func343.trans (congrArg some (by kernel_rfl))
  f195 := Tryz.func363.trans (congrArg some (by kernel_rfl))
  f217 := Tryz.func373.trans (congrArg some (by kernel_rfl))
  f218 := Tryz.func365.trans (congrArg some (by kernel_rfl))
  f219 := Tryz.func366.trans (congrArg some (by kernel_rfl))
  f224 := Tryz.func375.trans (congrArg some (by kernel_rfl))
  f225 := Tryz.func374.trans (congrArg some (by kernel_rfl))
  f266 := Tryz.func378.trans (congrArg some (by kernel_rfl))
  f267 := Tryz.func376.trans (congrArg some (by kernel_rfl))
  f314 := Tryz.func379.trans (congrArg some (by kernel_rfl))
  t0 := Tryz.underlying0
  a0 := Tryz.isAgg0
  z0 := Tryz.sizeOf0
  v0 := Tryz.zeroValue0
  t3 := Tryz.underlying3
  a3 := Tryz.isAgg3
  z3 := Tryz.sizeOf3
  v3 := Tryz.zeroValue3
  t4 := Tryz.underlying4
  a4 := Tryz.isAgg4
  z4 := Tryz.sizeOf4
  v4 := Tryz.zeroValue4
  t5 := Tryz.underlying5
  a5 := Tryz.isAgg5
  z5 := Tryz.sizeOf5
  v5 := Tryz.zeroValue5
  t9 := Tryz.underlying9
  a9 := Tryz.isAgg9
  z9 := Tryz.sizeOf9
  v9 := Tryz.zeroValue9
  t46 := Tryz.underlying338
  a46 := Tryz.isAgg338
  z46 := Tryz.sizeOf338
  v46 := Tryz.zeroValue338
  t51 := Tryz.underlying324
  a51 := Tryz.isAgg324
  z51 := Tryz.sizeOf324
  v51 := Tryz.zeroValue324
  t146 := Tryz.underlying472
  a146 := Tryz.isAgg472
  z146 := Tryz.sizeOf472
  v146 := Tryz.zeroValue472
  g1 := by kernel_rfl }
open Go.RowKit Go.Lib in
theorem Tryz.strings_Count_one (s : ByteArray) (c : UInt8) (w : World) :
    Calls Tryz.prog 342 #[.string s, .string ⟨#[c]⟩] w fun e w' => e = .returned (.int .i64 (Lib.countByte s.data.toList c)) ∧ w' = w := Any.strings_Count_one Tryz.lays138 s c w
def Tryz.lays143_ren : Go.Shelf.Ren := ⟨fun | 143 => 343 | 219 => 366 | 217 => 373 | 225 => 374 | 224 => 375 | 267 => 376 | 266 => 378 | 314 => 379 | n => n, fun | 9 => 9 | 3 => 3 | 4 => 4 | 5 => 5 | 46 => 338 | 146 => 472 | 51 => 324 | n => n, fun | 1 => 0 | n => n⟩
theorem Tryz.lays143 : Go.Proofs.Lays.n143 Tryz.prog Tryz.lays143_ren := {
  mixed := by kernel_rfl
  f143 := Tryz.func343.trans (congrArg some (by kernel_rfl))
  f217 := Tryz.func373.trans (congrArg some (by kernel_rfl))
  f219 := Tryz.func366.trans (congrArg some (by kernel_rfl))
  f224 := Tryz.func375.trans (congrArg some (by kernel_rfl))
  f225 := Tryz.func374.trans (congrArg some (by kernel_rfl))
  f266 := Tryz.func378.trans (congrArg some (by kernel_rfl))
  f267 := Tryz.func376.trans (congrArg some (by kernel_rfl))
  f314 := Tryz.func379.trans (congrArg some (by kernel_rfl))
  t3 := Tryz.underlying3
  a3 := Tryz.isAgg3
  z3 := Tryz.sizeOf3
  v3 := Tryz.zeroValue3
  t4 := Tryz.underlying4
  a4 := Tryz.isAgg4
  z4 := Tryz.sizeOf4
  v4 := Tryz.zeroValue4
  t5 := Tryz.underlying5
  a5 := Tryz.isAgg5
  z5 := Tryz.sizeOf5
  v5 := Tryz.zeroValue5
  t9 := Tryz.underlying9
  a9 := Tryz.isAgg9
  z9 := Tryz.sizeOf9
  v9 := Tryz.zeroValue9
  t46 := Tryz.underlying338
  a46 := Tryz.isAgg338
  z46 := Tryz.sizeOf338
  v46 := Tryz.zeroValue338
  t51 := Tryz.underlying324
  a51 := Tryz.isAgg324
  z51 := Tryz.sizeOf324
  v51 := Tryz.zeroValue324
  t146 := Tryz.underlying472
  a146 := Tryz.isAgg472
  z146 := Tryz.sizeOf472
  v146 := Tryz.zeroValue472
  g1 := by kernel_rfl }
open Go.RowKit Go.Lib in
theorem Tryz.strings_Index_one (s : ByteArray) (c : UInt8) (w : World) :
    Calls Tryz.prog 343 #[.string s, .string ⟨#[c]⟩] w fun e w' => e = .returned (.int .i64 (Lib.indexByte s.data.toList c)) ∧ w' = w := Any.strings_Index_one Tryz.lays143 s c w
end Go.Proofs

/- Contracts of library functions at this program, in plain words, off the shelf. -/
import Derived.Shelf.Sort.Plain
import Derived.Shelf.Slices.In.SortNone
import Derived.Ground.Names2Prog
import Derived.Shelf.Strings.Search1
import Derived.Shelf.Strings.Count
import Derived.Test.YtfnmplolnlaomaaGreatDoorProg
namespace Go.Proofs
open Go.Shelf
def Tryz.lays189_ren : Go.Shelf.Ren := ⟨fun | 189 => 159 | 125 => 217 | 257 => 216 | 128 => 258 | 129 => 259 | 294 => 249 | 295 => 250 | 296 => 251 | 297 => 252 | 298 => 253 | 299 => 254 | 216 => 255 | 300 => 256 | 301 => 257 | 328 => 286 | 329 => 287 | 330 => 288 | 331 => 289 | 332 => 290 | 215 => 291 | 343 => 304 | n => n, fun | 28 => 83 | 3 => 3 | 46 => 309 | 0 => 0 | 51 => 247 | 53 => 246 | 4 => 4 | 183 => 385 | 182 => 384 | 131 => 389 | 5 => 5 | 9 => 9 | 218 => 411 | 222 => 406 | 228 => 425 | 229 => 58 | n => n, fun | n => n⟩
theorem Tryz.lays189 : Go.Proofs.Lays.n189 Tryz.prog Tryz.lays189_ren := {
  mixed := by kernel_rfl
  f125 := Tryz.func217.trans (congrArg some (by kernel_rfl))
  f128 := Tryz.func258.trans (congrArg some (by kernel_rfl))
  f129 := Tryz.func259.trans (congrArg some (by kernel_rfl))
  f189 := Tryz.func159.trans (congrArg some (by kernel_rfl))
  f215 := Tryz.func291.trans (congrArg some (by kernel_rfl))
  f216 := Tryz.func255.trans (congrArg some (by kernel_rfl))
  f257 := Tryz.func216.trans (congrArg some (by kernel_rfl))
  f294 := Tryz.func249.trans (congrArg some (by kernel_rfl))
  f295 := Tryz.func250.trans (congrArg some (by kernel_rfl))
  f296 := Tryz.func251.trans (congrArg some (by kernel_rfl))
  f297 := Tryz.func252.trans (congrArg some (by kernel_rfl))
  f298 := Tryz.func253.trans (congrArg some (by kernel_rfl))
  f299 := Tryz.func254.trans (congrArg some (by kernel_rfl))
  f300 := Tryz.func256.trans (congrArg some (by kernel_rfl))
  f301 := Tryz.func257.trans (congrArg some (by kernel_rfl))
  f328 := Tryz.func286.trans (congrArg some (by kernel_rfl))
  f329 := Tryz.func287.trans (congrArg some (by kernel_rfl))
  f330 := Tryz.func288.trans (congrArg some (by kernel_rfl))
  f331 := Tryz.func289.trans (congrArg some (by kernel_rfl))
  f332 := Tryz.func290.trans (congrArg some (by kernel_rfl))
  f343 := Tryz.func304.trans (congrArg some (by kernel_rfl))
  t0 := Tryz.underlying0
  a0 := Tryz.isAgg0
  z0 := Tryz.sizeOf0
  v0 := Tryz.zeroValue0
  t3 := Tryz.underlying3
  a3 := Tryz.isAgg3
  z3 := Tryz.sizeOf3
  v3 := Tryz.zeroValue3
  t4 := Tryz.underlying4
  a4 := Tryz.isAgg4
  z4 := Tryz.sizeOf4
  v4 := Tryz.zeroValue4
  t5 := Tryz.underlying5
  a5 := Tryz.isAgg5
  z5 := Tryz.sizeOf5
  v5 := Tryz.zeroValue5
  t9 := Tryz.underlying9
  a9 := Tryz.isAgg9
  z9 := Tryz.sizeOf9
  v9 := Tryz.zeroValue9
  t28 := Tryz.underlying83
  a28 := Tryz.isAgg83
  z28 := Tryz.sizeOf83
  v28 := Tryz.zeroValue83
  t46 := Tryz.underlying309
  a46 := Tryz.isAgg309
  z46 := Tryz.sizeOf309
  v46 := Tryz.zeroValue309
  t51 := Tryz.underlying247
  a51 := Tryz.isAgg247
  z51 := Tryz.sizeOf247
  v51 := Tryz.zeroValue247
  t53 := Tryz.underlying246
  a53 := Tryz.isAgg246
  z53 := Tryz.sizeOf246
  v53 := Tryz.zeroValue246
  t131 := Tryz.underlying389
  a131 := Tryz.isAgg389
  z131 := Tryz.sizeOf389
  v131 := Tryz.zeroValue389
  t182 := Tryz.underlying384
  a182 := Tryz.isAgg384
  z182 := Tryz.sizeOf384
  v182 := Tryz.zeroValue384
  t183 := Tryz.underlying385
  a183 := Tryz.isAgg385
  z183 := Tryz.sizeOf385
  v183 := Tryz.zeroValue385
  t218 := Tryz.underlying411
  a218 := Tryz.isAgg411
  z218 := Tryz.sizeOf411
  v218 := Tryz.zeroValue411
  t222 := Tryz.underlying406
  a222 := Tryz.isAgg406
  z222 := Tryz.sizeOf406
  v222 := Tryz.zeroValue406
  t228 := Tryz.underlying425
  a228 := Tryz.isAgg425
  z228 := Tryz.sizeOf425
  v228 := Tryz.zeroValue425
  t229 := Tryz.underlying58
  a229 := Tryz.isAgg58
  z229 := Tryz.sizeOf58
  v229 := Tryz.zeroValue58 }
open Go.Sort Go.RowKit in
theorem Tryz.slices_Sort_int (blk off cap : Nat) (zs : List Int) (w : World) (hH : Holds (Value.int .i64) w blk off zs.toArray) (hblk : blk < w.heap.size) (hsz : zs.length < 4611686018427387904) :
    Calls Tryz.prog 159 #[.slice (some ⟨blk, off, none⟩) zs.length cap] w fun e w' =>
      e = .returned (.tuple #[]) ∧ ∃ n os, w' = grow (putRow (Value.int .i64) (Sort.ahead w n) blk off (zs.mergeSort fun x y => decide (x ≤ y)).toArray) os := Any.slices_Sort_int Tryz.lays189 blk off cap zs w hH hblk hsz
open Go.RowKit Go.Sort in
theorem Tryz.slices_Sort_int_none (p : Option Addr) (cap : Nat) (w : World) :
    Calls Tryz.prog 159 #[.slice p 0 cap] w fun e w' => e = .returned (.tuple #[]) ∧ w' = w := Any.slices_Sort_int_none Tryz.lays189 p cap w
def Tryz.lays138_ren : Go.Shelf.Ren := ⟨fun | 138 => 271 | 195 => 296 | 218 => 298 | 143 => 272 | 219 => 299 | 217 => 307 | 225 => 308 | 224 => 309 | 267 => 310 | 266 => 313 | 314 => 314 | n => n, fun | 9 => 9 | 3 => 3 | 4 => 4 | 5 => 5 | 0 => 0 | 46 => 309 | 146 => 433 | 51 => 247 | n => n, fun | 1 => 0 | n => n⟩
theorem Tryz.lays138 : Go.Proofs.Lays.n138 Tryz.prog Tryz.lays138_ren := {
  mixed := by kernel_rfl
  f138 := Tryz.func271.trans (congrArg some (by kernel_rfl))
  f143 := Tryz.func272.trans (congrArg some (by kernel_rfl))
  f195 := Tryz.func296.trans (congrArg some (by kernel_rfl))
  f217 := Tryz.func307.trans (congrArg some (by kernel_rfl))
  f218 := Tryz.func298.trans (congrArg some (by kernel_rfl))
  f219 := Tryz.func299.trans (congrArg some (by kernel_rfl))
  f224 := Tryz.func309.trans (congrArg some (by kernel_rfl))
  f225 := Tryz.func308.trans (congrArg some (by kernel_rfl))
  f266 := Tryz.func313.trans (congrArg some (by kernel_rfl))
  f267 := Tryz.func310.trans (congrArg some (by kernel_rfl))
  f314 := Tryz.func314.trans (congrArg some (by kernel_rfl))
  t0 := Tryz.underlying0
  a0 := Tryz.isAgg0
  z0 := Tryz.sizeOf0
  v0 := Tryz.zeroValue0
  t3 := Tryz.underlying3
  a3 := Tryz.isAgg3
  z3 := Tryz.sizeOf3
  v3 := Tryz.zeroValue3
  t4 := Tryz.underlying4
  a4 := Tryz.isAgg4
  z4 := Tryz.sizeOf4
  v4 := Tryz.zeroValue4
  t5 := Tryz.underlying5
  a5 := Tryz.isAgg5
  z5 := Tryz.sizeOf5
  v5 := Tryz.zeroValue5
  t9 := Tryz.underlying9
  a9 := Tryz.isAgg9
  z9 := Tryz.sizeOf9
  v9 := Tryz.zeroValue9
  t46 := Tryz.underlying309
  a46 := Tryz.isAgg309
  z46 := Tryz.sizeOf309
  v46 := Tryz.zeroValue309
  t51 := Tryz.underlying247
  a51 := Tryz.isAgg247
  z51 := Tryz.sizeOf247
  v51 := Tryz.zeroValue247
  t146 := Tryz.underlying433
  a146 := Tryz.isAgg433
  z146 := Tryz.sizeOf433
  v146 := Tryz.zeroValue433
  g1 := by kernel_rfl }
open Go.RowKit Go.Lib in
theorem Tryz.strings_Count_one (s : ByteArray) (c : UInt8) (w : World) :
    Calls Tryz.prog 271 #[.string s, .string ⟨#[c]⟩] w fun e w' => e = .returned (.int .i64 (Lib.countByte s.data.toList c)) ∧ w' = w := Any.strings_Count_one Tryz.lays138 s c w
def Tryz.lays143_ren : Go.Shelf.Ren := ⟨fun | 143 => 272 | 219 => 299 | 217 => 307 | 225 => 308 | 224 => 309 | 267 => 310 | 266 => 313 | 314 => 314 | n => n, fun | 9 => 9 | 3 => 3 | 4 => 4 | 5 => 5 | 46 => 309 | 146 => 433 | 51 => 247 | n => n, fun | 1 => 0 | n => n⟩
theorem Tryz.lays143 : Go.Proofs.Lays.n143 Tryz.prog Tryz.lays143_ren := {
  mixed := by kernel_rfl
  f143 := Tryz.func272.trans (congrArg some (by kernel_rfl))
  f217 := Tryz.func307.trans (congrArg some (by kernel_rfl))
  f219 := Tryz.func299.trans (congrArg some (by kernel_rfl))
  f224 := Tryz.func309.trans (congrArg some (by kernel_rfl))
  f225 := Tryz.func308.trans (congrArg some (by kernel_rfl))
  f266 := Tryz.func313.trans (congrArg some (by kernel_rfl))
  f267 := Tryz.func310.trans (congrArg some (by kernel_rfl))
  f314 := Tryz.func314.trans (congrArg some (by kernel_rfl))
  t3 := Tryz.underlying3
  a3 := Tryz.isAgg3
  z3 := Tryz.sizeOf3
  v3 := Tryz.zeroValue3
  t4 := Tryz.underlying4
  a4 := Tryz.isAgg4
  z4 := Tryz.sizeOf4
  v4 := Tryz.zeroValue4
  t5 := Tryz.underlying5
  a5 := Tryz.isAgg5
  z5 := Tryz.sizeOf5
  v5 := Tryz.zeroValue5
  t9 := Tryz.underlying9
  a9 := Tryz.isAgg9
  z9 := Tryz.sizeOf9
  v9 := Tryz.zeroValue9
  t46 := Tryz.underlying309
  a46 := Tryz.isAgg309
  z46 := Tryz.sizeOf309
  v46 := Tryz.zeroValue309
  t51 := Tryz.underlying247
  a51 := Tryz.isAgg247
  z51 := Tryz.sizeOf247
  v51 := Tryz.zeroValue247
  t146 := Tryz.underlying433
  a146 := Tryz.isAgg433
  z146 := Tryz.sizeOf433
  v146 := Tryz.zeroValue433
  g1 := by kernel_rfl }
open Go.RowKit Go.Lib in
theorem Tryz.strings_Index_one (s : ByteArray) (c : UInt8) (w : World) :
    Calls Tryz.prog 272 #[.string s, .string ⟨#[c]⟩] w fun e w' => e = .returned (.int .i64 (Lib.indexByte s.data.toList c)) ∧ w' = w := Any.strings_Index_one Tryz.lays143 s c w
end Go.Proofs

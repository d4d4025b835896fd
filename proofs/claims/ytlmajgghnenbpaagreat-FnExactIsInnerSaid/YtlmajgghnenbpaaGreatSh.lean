/- Contracts of the library, laid at this program by the kit: sorting of strings, compacting of strings. -/
import Derived.Shelf.Sort.Plain
import Derived.Shelf.Slices.CompactS
import Derived.Shelf.Slices.In.SortNone
import Derived.Test.YtlmajgghnenbpaaGreatProg
namespace Go.Proofs
set_option linter.all false
open Go.Shelf
def Tryz.lays190_ren : Go.Shelf.Ren := ⟨fun | 190 => 308 | 125 => 317 | 258 => 316 | 128 => 327 | 129 => 328 | 302 => 318 | 303 => 319 | 304 => 320 | 305 => 321 | 306 => 322 | 307 => 323 | 308 => 324 | 309 => 325 | 310 => 326 | 333 => 329 | 329 => 330 | 330 => 331 | 334 => 332 | 335 => 333 | 336 => 334 | 344 => 335 | n => n, fun | 31 => 54 | 9 => 9 | 3 => 3 | 46 => 319 | 0 => 0 | 51 => 329 | 53 => 331 | 4 => 4 | 183 => 322 | 182 => 321 | 131 => 141 | 5 => 5 | 218 => 332 | 222 => 336 | 228 => 338 | 229 => 339 | n => n, fun | n => n⟩
theorem Tryz.lays190 : Go.Proofs.Lays.n190 Tryz.prog Tryz.lays190_ren := {
  mixed := by kernel_rfl
  f125 := Tryz.func317.trans (congrArg some (by kernel_rfl))
  f128 := Tryz.func327.trans (congrArg some (by kernel_rfl))
  f129 := Tryz.func328.trans (congrArg some (by kernel_rfl))
  f190 := Tryz.func308.trans (congrArg some (by kernel_rfl))
  f258 := Tryz.func316.trans (congrArg some (by kernel_rfl))
  f302 := Tryz.func318.trans (congrArg some (by kernel_rfl))
  f303 := Tryz.func319.trans (congrArg some (by kernel_rfl))
  f304 := Tryz.func320.trans (congrArg some (by kernel_rfl))
  f305 := Tryz.func321.trans (congrArg some (by kernel_rfl))
  f306 := Tryz.func322.trans (congrArg some (by kernel_rfl))
  f307 := Tryz.func323.trans (congrArg some (by kernel_rfl))
  f308 := Tryz.func324.trans (congrArg some (by kernel_rfl))
  f309 := Tryz.func325.trans (congrArg some (by kernel_rfl))
  f310 := Tryz.func326.trans (congrArg some (by kernel_rfl))
  f329 := Tryz.func330.trans (congrArg some (by kernel_rfl))
  f330 := Tryz.func331.trans (congrArg some (by kernel_rfl))
  f333 := Tryz.func329.trans (congrArg some (by kernel_rfl))
  f334 := Tryz.func332.trans (congrArg some (by kernel_rfl))
  f335 := Tryz.func333.trans (congrArg some (by kernel_rfl))
  f336 := Tryz.func334.trans (congrArg some (by kernel_rfl))
  f344 := Tryz.func335.trans (congrArg some (by kernel_rfl))
  t0 := Tryz.underlying0
  a0 := Tryz.isAgg0
  z0 := Tryz.sizeOf0
  v0 := Tryz.zeroValue0
  t3 := Tryz.underlying3
  a3 := Tryz.isAgg3
  z3 := Tryz.sizeOf3
  v3 := Tryz.zeroValue3
  t4 := Tryz.underlying4
  a4 := Tryz.isAgg4
  z4 := Tryz.sizeOf4
  v4 := Tryz.zeroValue4
  t5 := Tryz.underlying5
  a5 := Tryz.isAgg5
  z5 := Tryz.sizeOf5
  v5 := Tryz.zeroValue5
  t9 := Tryz.underlying9
  a9 := Tryz.isAgg9
  z9 := Tryz.sizeOf9
  v9 := Tryz.zeroValue9
  t31 := Tryz.underlying54
  a31 := Tryz.isAgg54
  z31 := Tryz.sizeOf54
  v31 := Tryz.zeroValue54
  t46 := Tryz.underlying319
  a46 := Tryz.isAgg319
  z46 := Tryz.sizeOf319
  v46 := Tryz.zeroValue319
  t51 := Tryz.underlying329
  a51 := Tryz.isAgg329
  z51 := Tryz.sizeOf329
  v51 := Tryz.zeroValue329
  t53 := Tryz.underlying331
  a53 := Tryz.isAgg331
  z53 := Tryz.sizeOf331
  v53 := Tryz.zeroValue331
  t131 := Tryz.underlying141
  a131 := Tryz.isAgg141
  z131 := Tryz.sizeOf141
  v131 := Tryz.zeroValue141
  t182 := Tryz.underlying321
  a182 := Tryz.isAgg321
  z182 := Tryz.sizeOf321
  v182 := Tryz.zeroValue321
  t183 := Tryz.underlying322
  a183 := Tryz.isAgg322
  z183 := Tryz.sizeOf322
  v183 := Tryz.zeroValue322
  t218 := Tryz.underlying332
  a218 := Tryz.isAgg332
  z218 := Tryz.sizeOf332
  v218 := Tryz.zeroValue332
  t222 := Tryz.underlying336
  a222 := Tryz.isAgg336
  z222 := Tryz.sizeOf336
  v222 := Tryz.zeroValue336
  t228 := Tryz.underlying338
  a228 := Tryz.isAgg338
  z228 := Tryz.sizeOf338
  v228 := Tryz.zeroValue338
  t229 := Tryz.underlying339
  a229 := Tryz.isAgg339
  z229 := Tryz.sizeOf339
  v229 := Tryz.zeroValue339 }
open Go.Sort Go.RowKit in
theorem Tryz.slices_Sort_string (blk off cap : Nat) (ss : List (List UInt8)) (w : World) (hH : Holds encStr w blk off ss.toArray) (hblk : blk < w.heap.size) (hsz : ss.length < 4611686018427387904) :
    Calls Tryz.prog 308 #[.slice (some ⟨blk, off, none⟩) ss.length cap] w fun e w' =>
      e = .returned (.tuple #[]) ∧ ∃ n os, w' = grow (putRow encStr (Sort.ahead w n) blk off (ss.mergeSort fun x y => decide (x ≤ y)).toArray) os := Any.slices_Sort_string Tryz.lays190 blk off cap ss w hH hblk hsz
def Tryz.lays194_ren : Go.Shelf.Ren := ⟨fun | 194 => 309 | n => n, fun | 31 => 54 | 9 => 9 | 3 => 3 | 4 => 4 | 0 => 0 | n => n, fun | n => n⟩
theorem Tryz.lays194 : Go.Proofs.Lays.n194 Tryz.prog Tryz.lays194_ren := {
  mixed := by kernel_rfl
  f194 := Tryz.func309.trans (congrArg some (by kernel_rfl))
  t0 := Tryz.underlying0
  a0 := Tryz.isAgg0
  z0 := Tryz.sizeOf0
  v0 := Tryz.zeroValue0
  t3 := Tryz.underlying3
  a3 := Tryz.isAgg3
  z3 := Tryz.sizeOf3
  v3 := Tryz.zeroValue3
  t4 := Tryz.underlying4
  a4 := Tryz.isAgg4
  z4 := Tryz.sizeOf4
  v4 := Tryz.zeroValue4
  t9 := Tryz.underlying9
  a9 := Tryz.isAgg9
  z9 := Tryz.sizeOf9
  v9 := Tryz.zeroValue9
  t31 := Tryz.underlying54
  a31 := Tryz.isAgg54
  z31 := Tryz.sizeOf54
  v31 := Tryz.zeroValue54 }
open Go.RowKit Go.Lib Go.Sort in
theorem Tryz.slices_Compact_string (blk off cap : Nat) (zs : List (List UInt8)) (w : World) (hH : Holds encStr w blk off zs.toArray) (hsz : zs.length ≤ 9223372036854775807) (hcap : zs.length ≤ cap) :
    Calls Tryz.prog 309 #[.slice (some ⟨blk, off, none⟩) zs.length cap] w fun e w' => e = .returned (.slice (some ⟨blk, off, none⟩) (Lib.compact zs).length cap) ∧ ∃ q, w' = putRow encStr (Sort.ahead w q) blk off (Lib.compact zs ++ List.replicate (zs.length - (Lib.compact zs).length) []).toArray := Any.slices_Compact_string Tryz.lays194 blk off cap zs w hH hsz hcap
open Go.RowKit Go.Lib Go.Sort in
theorem Tryz.slices_Compact_string_empty (a : Option Addr) (cap : Nat) (w : World) :
    Calls Tryz.prog 309 #[.slice a 0 cap] w fun e w' => e = .returned (.slice a 0 cap) ∧ w' = w := Any.slices_Compact_string_empty Tryz.lays194 a cap w
open Go.RowKit Go.Lib Go.Sort in
theorem Tryz.slices_Sort_string_none (p : Option Addr) (cap : Nat) (w : World) :
    Calls Tryz.prog 308 #[.slice p 0 cap] w fun e w' => e = .returned (.tuple #[]) ∧ w' = w := Any.slices_Sort_string_none Tryz.lays190 p cap w
end Go.Proofs

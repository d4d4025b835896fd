/- Contracts of the library, laid at this program by the kit: sorting of strings, compacting of strings. -/
import Derived.Shelf.Sort.Plain
import Derived.Shelf.Slices.CompactS
import Derived.Shelf.Slices.In.SortNone
import Derived.Test.YtlbdgpkgmheikaaProg
namespace Go.Proofs
set_option linter.all false
open Go.Shelf
def Try.lays190_ren : Go.Shelf.Ren := ⟨fun | 190 => 169 | 125 => 207 | 258 => 206 | 128 => 230 | 129 => 231 | 302 => 221 | 303 => 222 | 304 => 223 | 305 => 224 | 306 => 225 | 307 => 226 | 308 => 227 | 309 => 228 | 310 => 229 | 333 => 238 | 329 => 239 | 330 => 240 | 334 => 241 | 335 => 242 | 336 => 243 | 344 => 245 | n => n, fun | 31 => 89 | 9 => 9 | 3 => 3 | 46 => 253 | 0 => 0 | 51 => 274 | 53 => 276 | 4 => 4 | 183 => 267 | 182 => 266 | 131 => 199 | 5 => 5 | 218 => 279 | 222 => 283 | 228 => 287 | 229 => 288 | n => n, fun | n => n⟩
theorem Try.lays190 : Go.Proofs.Lays.n190 Try.prog Try.lays190_ren := {
  mixed := by kernel_rfl
  f125 := Try.func207.trans (congrArg some (by kernel_rfl))
  f128 := Try.func230.trans (congrArg some (by kernel_rfl))
  f129 := Try.func231.trans (congrArg some (by kernel_rfl))
  f190 := Try.func169.trans (congrArg some (by kernel_rfl))
  f258 := Try.func206.trans (congrArg some (by kernel_rfl))
  f302 := Try.func221.trans (congrArg some (by kernel_rfl))
  f303 := Try.func222.trans (congrArg some (by kernel_rfl))
  f304 := Try.func223.trans (congrArg some (by kernel_rfl))
  f305 := Try.func224.trans (congrArg some (by kernel_rfl))
  f306 := Try.func225.trans (congrArg some (by kernel_rfl))
  f307 := Try.func226.trans (congrArg some (by kernel_rfl))
  f308 := Try.func227.trans (congrArg some (by kernel_rfl))
  f309 := Try.func228.trans (congrArg some (by kernel_rfl))
  f310 := Try.func229.trans (congrArg some (by kernel_rfl))
  f329 := Try.func239.trans (congrArg some (by kernel_rfl))
  f330 := Try.func240.trans (congrArg some (by kernel_rfl))
  f333 := Try.func238.trans (congrArg some (by kernel_rfl))
  f334 := Try.func241.trans (congrArg some (by kernel_rfl))
  f335 := Try.func242.trans (congrArg some (by kernel_rfl))
  f336 := Try.func243.trans (congrArg some (by kernel_rfl))
  f344 := Try.func245.trans (congrArg some (by kernel_rfl))
  t0 := Try.underlying0
  a0 := Try.isAgg0
  z0 := Try.sizeOf0
  v0 := Try.zeroValue0
  t3 := Try.underlying3
  a3 := Try.isAgg3
  z3 := Try.sizeOf3
  v3 := Try.zeroValue3
  t4 := Try.underlying4
  a4 := Try.isAgg4
  z4 := Try.sizeOf4
  v4 := Try.zeroValue4
  t5 := Try.underlying5
  a5 := Try.isAgg5
  z5 := Try.sizeOf5
  v5 := Try.zeroValue5
  t9 := Try.underlying9
  a9 := Try.isAgg9
  z9 := Try.sizeOf9
  v9 := Try.zeroValue9
  t31 := Try.underlying89
  a31 := Try.isAgg89
  z31 := Try.sizeOf89
  v31 := Try.zeroValue89
  t46 := Try.underlying253
  a46 := Try.isAgg253
  z46 := Try.sizeOf253
  v46 := Try.zeroValue253
  t51 := Try.underlying274
  a51 := Try.isAgg274
  z51 := Try.sizeOf274
  v51 := Try.zeroValue274
  t53 := Try.underlying276
  a53 := Try.isAgg276
  z53 := Try.sizeOf276
  v53 := Try.zeroValue276
  t131 := Try.underlying199
  a131 := Try.isAgg199
  z131 := Try.sizeOf199
  v131 := Try.zeroValue199
  t182 := Try.underlying266
  a182 := Try.isAgg266
  z182 := Try.sizeOf266
  v182 := Try.zeroValue266
  t183 := Try.underlying267
  a183 := Try.isAgg267
  z183 := Try.sizeOf267
  v183 := Try.zeroValue267
  t218 := Try.underlying279
  a218 := Try.isAgg279
  z218 := Try.sizeOf279
  v218 := Try.zeroValue279
  t222 := Try.underlying283
  a222 := Try.isAgg283
  z222 := Try.sizeOf283
  v222 := Try.zeroValue283
  t228 := Try.underlying287
  a228 := Try.isAgg287
  z228 := Try.sizeOf287
  v228 := Try.zeroValue287
  t229 := Try.underlying288
  a229 := Try.isAgg288
  z229 := Try.sizeOf288
  v229 := Try.zeroValue288 }
open Go.Sort Go.RowKit in
theorem Try.slices_Sort_string (blk off cap : Nat) (ss : List (List UInt8)) (w : World) (hH : Holds encStr w blk off ss.toArray) (hblk : blk < w.heap.size) (hsz : ss.length < 4611686018427387904) :
    Calls Try.prog 169 #[.slice (some ⟨blk, off, none⟩) ss.length cap] w fun e w' =>
      e = .returned (.tuple #[]) ∧ ∃ n os, w' = grow (putRow encStr (Sort.ahead w n) blk off (ss.mergeSort fun x y => decide (x ≤ y)).toArray) os := Any.slices_Sort_string Try.lays190 blk off cap ss w hH hblk hsz
def Try.lays194_ren : Go.Shelf.Ren := ⟨fun | 194 => 170 | n => n, fun | 31 => 89 | 9 => 9 | 3 => 3 | 4 => 4 | 0 => 0 | n => n, fun | n => n⟩
theorem Try.lays194 : Go.Proofs.Lays.n194 Try.prog Try.lays194_ren := {
  mixed := by kernel_rfl
  f194 := Try.func170.trans (congrArg some (by kernel_rfl))
  t0 := Try.underlying0
  a0 := Try.isAgg0
  z0 := Try.sizeOf0
  v0 := Try.zeroValue0
  t3 := Try.underlying3
  a3 := Try.isAgg3
  z3 := Try.sizeOf3
  v3 := Try.zeroValue3
  t4 := Try.underlying4
  a4 := Try.isAgg4
  z4 := Try.sizeOf4
  v4 := Try.zeroValue4
  t9 := Try.underlying9
  a9 := Try.isAgg9
  z9 := Try.sizeOf9
  v9 := Try.zeroValue9
  t31 := Try.underlying89
  a31 := Try.isAgg89
  z31 := Try.sizeOf89
  v31 := Try.zeroValue89 }
open Go.RowKit Go.Lib Go.Sort in
theorem Try.slices_Compact_string (blk off cap : Nat) (zs : List (List UInt8)) (w : World) (hH : Holds encStr w blk off zs.toArray) (hsz : zs.length ≤ 9223372036854775807) (hcap : zs.length ≤ cap) :
    Calls Try.prog 170 #[.slice (some ⟨blk, off, none⟩) zs.length cap] w fun e w' => e = .returned (.slice (some ⟨blk, off, none⟩) (Lib.compact zs).length cap) ∧ ∃ q, w' = putRow encStr (Sort.ahead w q) blk off (Lib.compact zs ++ List.replicate (zs.length - (Lib.compact zs).length) []).toArray := Any.slices_Compact_string Try.lays194 blk off cap zs w hH hsz hcap
open Go.RowKit Go.Lib Go.Sort in
theorem Try.slices_Compact_string_empty (a : Option Addr) (cap : Nat) (w : World) :
    Calls Try.prog 170 #[.slice a 0 cap] w fun e w' => e = .returned (.slice a 0 cap) ∧ w' = w := Any.slices_Compact_string_empty Try.lays194 a cap w
open Go.RowKit Go.Lib Go.Sort in
theorem Try.slices_Sort_string_none (p : Option Addr) (cap : Nat) (w : World) :
    Calls Try.prog 169 #[.slice p 0 cap] w fun e w' => e = .returned (.tuple #[]) ∧ w' = w := Any.slices_Sort_string_none Try.lays190 p cap w
end Go.Proofs

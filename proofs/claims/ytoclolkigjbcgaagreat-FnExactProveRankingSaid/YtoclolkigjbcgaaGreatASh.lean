/- Contracts of the library, laid at this program by the kit: sorting of strings, compacting of strings. -/
import Derived.Shelf.Sort.Plain
import Derived.Shelf.Slices.CompactS
import Derived.Shelf.Slices.In.SortNone
import Derived.Test.YtoclolkigjbcgaaGreatProg
namespace Go.Proofs
open Tryz
open Tryz(prog)
set_option linter.all false
open Go.Shelf
def Tryz.lays190_ren:Go.Shelf.Ren:=⟨λ|190=>324|125=>336|258=>335|128=>348|129=>349|302=>339|303=>340|304=>341|305=>342|306=>343|307=>344|308=>345|309=>346|310=>347|333=>350|329=>351|330=>352|334=>353|335=>354|336=>355|344=>356|n=>n,λ|31=>94|9=>9|3=>3|46=>344|0=>0|51=>355|53=>357|4=>4|183=>348|182=>347|131=>215|5=>5|218=>358|222=>362|228=>364|229=>365|n=>n,λ|n=>n⟩
theorem Tryz.lays190:Go.Proofs.Lays.n190 prog Tryz.lays190_ren := {
 mixed:=by kernel_rfl
 f125:=func336.trans (congrArg some (by kernel_rfl))
 f128:=func348.trans (congrArg some (by kernel_rfl))
 f129:=func349.trans (congrArg some (by kernel_rfl))
 f190:=func324.trans (congrArg some (by kernel_rfl))
 f258:=func335.trans (congrArg some (by kernel_rfl))
 f302:=func339.trans (congrArg some (by kernel_rfl))
 f303:=func340.trans (congrArg some (by kernel_rfl))
 f304:=func341.trans (congrArg some (by kernel_rfl))
 f305:=func342.trans (congrArg some (by kernel_rfl))
 f306:=func343.trans (congrArg some (by kernel_rfl))
 f307:=func344.trans (congrArg some (by kernel_rfl))
 f308:=func345.trans (congrArg some (by kernel_rfl))
 f309:=func346.trans (congrArg some (by kernel_rfl))
 f310:=func347.trans (congrArg some (by kernel_rfl))
 f329:=func351.trans (congrArg some (by kernel_rfl))
 f330:=func352.trans (congrArg some (by kernel_rfl))
 f333:=func350.trans (congrArg some (by kernel_rfl))
 f334:=func353.trans (congrArg some (by kernel_rfl))
 f335:=func354.trans (congrArg some (by kernel_rfl))
 f336:=func355.trans (congrArg some (by kernel_rfl))
 f344:=func356.trans (congrArg some (by kernel_rfl))
 t0:=underlying0
 a0:=Tryz.isAgg0
 z0:=Tryz.sizeOf0
 v0:=Tryz.zeroValue0
 t3:=underlying3
 a3:=Tryz.isAgg3
 z3:=Tryz.sizeOf3
 v3:=Tryz.zeroValue3
 t4:=underlying4
 a4:=Tryz.isAgg4
 z4:=Tryz.sizeOf4
 v4:=Tryz.zeroValue4
 t5:=underlying5
 a5:=Tryz.isAgg5
 z5:=Tryz.sizeOf5
 v5:=Tryz.zeroValue5
 t9:=underlying9
 a9:=Tryz.isAgg9
 z9:=Tryz.sizeOf9
 v9:=Tryz.zeroValue9
 t31:=underlying94
 a31:=Tryz.isAgg94
 z31:=Tryz.sizeOf94
 v31:=Tryz.zeroValue94
 t46:=underlying344
 a46:=Tryz.isAgg344
 z46:=Tryz.sizeOf344
 v46:=Tryz.zeroValue344
 t51:=underlying355
 a51:=Tryz.isAgg355
 z51:=Tryz.sizeOf355
 v51:=Tryz.zeroValue355
 t53:=underlying357
 a53:=Tryz.isAgg357
 z53:=Tryz.sizeOf357
 v53:=Tryz.zeroValue357
 t131:=underlying215
 a131:=Tryz.isAgg215
 z131:=Tryz.sizeOf215
 v131:=Tryz.zeroValue215
 t182:=underlying347
 a182:=Tryz.isAgg347
 z182:=Tryz.sizeOf347
 v182:=Tryz.zeroValue347
 t183:=underlying348
 a183:=Tryz.isAgg348
 z183:=Tryz.sizeOf348
 v183:=Tryz.zeroValue348
 t218:=underlying358
 a218:=Tryz.isAgg358
 z218:=Tryz.sizeOf358
 v218:=Tryz.zeroValue358
 t222:=underlying362
 a222:=Tryz.isAgg362
 z222:=Tryz.sizeOf362
 v222:=Tryz.zeroValue362
 t228:=underlying364
 a228:=Tryz.isAgg364
 z228:=Tryz.sizeOf364
 v228:=Tryz.zeroValue364
 t229:=underlying365
 a229:=Tryz.isAgg365
 z229:=Tryz.sizeOf365
 v229:=Tryz.zeroValue365 }
open Go.Sort Go.RowKit in
theorem Tryz.slices_Sort_string (blk off cap:Nat) (ss:List (List UInt8)) (w:World) (hH:Holds encStr w blk off ss.toArray) (hblk:blk<w.heap.size) (hsz:ss.length<4611686018427387904) :
 Calls prog 324 #[.slice (some ⟨blk,off,none⟩) ss.length cap] w λe w'=>
  e = .returned (.tuple #[])/\∃n os,w'=grow (putRow encStr (Sort.ahead w n) blk off (ss.mergeSort λx y=>decide (x<=y)).toArray) os:=Any.slices_Sort_string Tryz.lays190 blk off cap ss w hH hblk hsz
def Tryz.lays194_ren:Go.Shelf.Ren:=⟨λ|194=>325|n=>n,λ|31=>94|9=>9|3=>3|4=>4|0=>0|n=>n,λ|n=>n⟩
theorem Tryz.lays194:Go.Proofs.Lays.n194 prog Tryz.lays194_ren := {
 mixed:=by kernel_rfl
 f194:=func325.trans (congrArg some (by kernel_rfl))
 t0:=underlying0
 a0:=Tryz.isAgg0
 z0:=Tryz.sizeOf0
 v0:=Tryz.zeroValue0
 t3:=underlying3
 a3:=Tryz.isAgg3
 z3:=Tryz.sizeOf3
 v3:=Tryz.zeroValue3
 t4:=underlying4
 a4:=Tryz.isAgg4
 z4:=Tryz.sizeOf4
 v4:=Tryz.zeroValue4
 t9:=underlying9
 a9:=Tryz.isAgg9
 z9:=Tryz.sizeOf9
 v9:=Tryz.zeroValue9
 t31:=underlying94
 a31:=Tryz.isAgg94
 z31:=Tryz.sizeOf94
 v31:=Tryz.zeroValue94 }
open Go.RowKit Go.Lib Go.Sort in
theorem Tryz.slices_Compact_string (blk off cap:Nat) (zs:List (List UInt8)) (w:World) (hH:Holds encStr w blk off zs.toArray) (hsz:zs.length<=9223372036854775807) (hcap:zs.length<=cap) :
 Calls prog 325 #[.slice (some ⟨blk,off,none⟩) zs.length cap] w λe w'=>e = .returned (.slice (some ⟨blk,off,none⟩) (Lib.compact zs).length cap)/\∃q,w'=putRow encStr (Sort.ahead w q) blk off (Lib.compact zs++List.replicate (zs.length - (Lib.compact zs).length) []).toArray:=Any.slices_Compact_string Tryz.lays194 blk off cap zs w hH hsz hcap
open Go.RowKit Go.Lib Go.Sort in
theorem Tryz.slices_Compact_string_empty (a:Option Addr) (cap:Nat) (w:World) :
 Calls prog 325 #[.slice a 0 cap] w λe w'=>e = .returned (.slice a 0 cap)/\w'=w:=Any.slices_Compact_string_empty Tryz.lays194 a cap w
open Go.RowKit Go.Lib Go.Sort in
theorem Tryz.slices_Sort_string_none (p:Option Addr) (cap:Nat) (w:World) :
 Calls prog 324 #[.slice p 0 cap] w λe w'=>e = .returned (.tuple #[])/\w'=w:=Any.slices_Sort_string_none Tryz.lays190 p cap w
end Go.Proofs

/- The types of the program, as data: read form (A), own form (U), weight (w). -/
import Derived.Test.YtoclolkigjbcgaaGreatXRD
namespace Go.Proofs.YtoclolkigjbcgaaGreat
set_option linter.all false
open Go Go.RowKit Go.Proofs
structure DLin where
 Const:Int
 Coeffs:List Int
deriving DecidableEq
def J05 (x:DLin):List AV:=[i64 x.Const,.sl 1 (J0m x.Coeffs)]
def J08 (x:DLin):List AV:=[i64 x.Const,.us 1 (J0m x.Coeffs)]
@[simp] theorem Jvi (x:DLin):drl (J08 x)=J05 x:=by simp [J08,J05]
@[simp] theorem K3k (l:List (DLin)):drr (l.map J08)=l.map J05:=by rw [J4n,List.map_map];exact List.map_congr_left fun x _=>Jvi x
@[simp] theorem K1s (x:DLin):J3n (J08 x)=true:=by simp [J08]
@[simp] theorem Jxu (l:List (DLin)):J46 (l.map J08)=true:=by rw [J32];simp
@[simp] theorem K5a (x:DLin):(J05 x).all J0x=true:=by simp [J05]
@[simp] theorem K63 (x:DLin):(J08 x).length=2:=by simp [J08]
@[simp] theorem K8a (x:DLin):(J05 x).length=2:=by simp [J05]
@[simp] theorem K9i (x:DLin) (h:Heap):bwl (J05 x) h=some (J05 x):=by simp [J05]
@[simp] theorem Kdd (x:DLin):(J05 x)[0]? = some (i64 x.Const):=rfl
@[simp] theorem Kd9 (x:DLin) (h:0<(J05 x).length):(J05 x)[0]=i64 x.Const:=rfl
@[simp] theorem Kce (x:DLin):(J05 x)[1]? = some (.sl 1 (J0m x.Coeffs)):=rfl
@[simp] theorem Kcw (x:DLin) (h:1<(J05 x).length):(J05 x)[1] = .sl 1 (J0m x.Coeffs):=rfl
@[simp] theorem tALin (x:DLin):List.take 2 (J05 x)=J05 x:=rfl
@[simp] theorem Kcg (x:DLin):(J08 x)[0]? = some (i64 x.Const):=rfl
@[simp] theorem Kds (x:DLin) (h:0<(J08 x).length):(J08 x)[0]=i64 x.Const:=rfl
@[simp] theorem Kdt (x:DLin):(J08 x)[1]? = some (.us 1 (J0m x.Coeffs)):=rfl
@[simp] theorem Kdk (x:DLin) (h:1<(J08 x).length):(J08 x)[1] = .us 1 (J0m x.Coeffs):=rfl
@[simp] theorem tULin (x:DLin):List.take 2 (J08 x)=J08 x:=rfl
def Jgq (l:List Int):Nat:=l.length
def Jab (x:DLin):Nat:=Jgq x.Coeffs
def J5h (l:List DLin):Nat:=wL Jab l
def J2x (l:List DLin):List AV:=[.sl 2 (l.map J05)]
def J1u (l:List DLin):List AV:=[.us 2 (l.map J08)]
@[simp] theorem Jq6 (x:List DLin):drl (J1u x)=J2x x:=by simp [J1u,J2x]
@[simp] theorem K2n (l:List (List DLin)):drr (l.map J1u)=l.map J2x:=by rw [J4n,List.map_map];exact List.map_congr_left fun x _=>Jq6 x
@[simp] theorem K1e (x:List DLin):J3n (J1u x)=true:=by simp [J1u]
@[simp] theorem Jx8 (l:List (List DLin)):J46 (l.map J1u)=true:=by rw [J32];simp
structure DSystem where
 N:Int
 Rows:List DLin
deriving DecidableEq
def J26 (x:DSystem):List AV:=[i64 x.N,.sl 2 (x.Rows.map J05)]
def J42 (x:DSystem):List AV:=[i64 x.N,.us 2 (x.Rows.map J08)]
@[simp] theorem K1m (x:DSystem) (h:Heap):bwl (J26 x) h=some (J26 x):=by simp [J26]
@[simp] theorem K5f (x:DSystem):(J26 x)[0]? = some (i64 x.N):=rfl
@[simp] theorem K4e (x:DSystem) (h:0<(J26 x).length):(J26 x)[0]=i64 x.N:=rfl
@[simp] theorem K36 (x:DSystem):(J26 x)[1]? = some (.sl 2 (x.Rows.map J05)):=rfl
@[simp] theorem K5r (x:DSystem) (h:1<(J26 x).length):(J26 x)[1] = .sl 2 (x.Rows.map J05):=rfl
@[simp] theorem K6s (x:DSystem):List.take 2 (J26 x)=J26 x:=rfl
@[simp] theorem K5z (x:DSystem):(J42 x)[0]? = some (i64 x.N):=rfl
@[simp] theorem K3r (x:DSystem) (h:0<(J42 x).length):(J42 x)[0]=i64 x.N:=rfl
@[simp] theorem K5g (x:DSystem):(J42 x)[1]? = some (.us 2 (x.Rows.map J08)):=rfl
@[simp] theorem K4p (x:DSystem) (h:1<(J42 x).length):(J42 x)[1] = .us 2 (x.Rows.map J08):=rfl
@[simp] theorem K6n (x:DSystem):List.take 2 (J42 x)=J42 x:=rfl
structure DTerm where
 Coeff:Int
 Name:Str
deriving DecidableEq
def J16 (x:DTerm):List AV:=[i64 x.Coeff,.str x.Name]
def J4c (x:DTerm):List AV:=[i64 x.Coeff,.str x.Name]
@[simp] theorem Jt3 (x:DTerm):drl (J4c x)=J16 x:=by simp [J4c,J16]
@[simp] theorem K2i (l:List (DTerm)):drr (l.map J4c)=l.map J16:=by rw [J4n,List.map_map];exact List.map_congr_left fun x _=>Jt3 x
@[simp] theorem K0m (x:DTerm):J3n (J4c x)=true:=by simp [J4c]
@[simp] theorem Jxo (l:List (DTerm)):J46 (l.map J4c)=true:=by rw [J32];simp
@[simp] theorem Kba (x:DTerm):(J16 x)[0]? = some (i64 x.Coeff):=rfl
@[simp] theorem Kc3 (x:DTerm) (h:0<(J16 x).length):(J16 x)[0]=i64 x.Coeff:=rfl
@[simp] theorem K8z (x:DTerm):(J16 x)[1]? = some (.str x.Name):=rfl
@[simp] theorem K9r (x:DTerm) (h:1<(J16 x).length):(J16 x)[1] = .str x.Name:=rfl
@[simp] theorem Kcc (x:DTerm):List.take 2 (J16 x)=J16 x:=rfl
@[simp] theorem Kb2 (x:DTerm):(J4c x)[0]? = some (i64 x.Coeff):=rfl
@[simp] theorem Kb4 (x:DTerm) (h:0<(J4c x).length):(J4c x)[0]=i64 x.Coeff:=rfl
@[simp] theorem Kbl (x:DTerm):(J4c x)[1]? = some (.str x.Name):=rfl
@[simp] theorem K9q (x:DTerm) (h:1<(J4c x).length):(J4c x)[1] = .str x.Name:=rfl
@[simp] theorem Kcm (x:DTerm):List.take 2 (J4c x)=J4c x:=rfl
def J7j (x:DTerm):Nat:=x.Name.length
def Jdl (l:List DTerm):Nat:=wL J7j l
structure DSum where
 Const:Int
 Terms:List DTerm
deriving DecidableEq
def J1j (x:DSum):List AV:=[i64 x.Const,.sl 2 (x.Terms.map J16)]
def J58 (x:DSum):List AV:=[i64 x.Const,.us 2 (x.Terms.map J4c)]
@[simp] theorem Juq (x:DSum):drl (J58 x)=J1j x:=by simp [J58,J1j]
@[simp] theorem K51 (l:List (DSum)):drr (l.map J58)=l.map J1j:=by rw [J4n,List.map_map];exact List.map_congr_left fun x _=>Juq x
@[simp] theorem K24 (x:DSum):J3n (J58 x)=true:=by simp [J58]
@[simp] theorem Jyc (l:List (DSum)):J46 (l.map J58)=true:=by rw [J32];simp
@[simp] theorem K75 (x:DSum):(J1j x).length=2:=by simp [J1j]
@[simp] theorem K93 (x:DSum) (h:Heap):bwl (J1j x) h=some (J1j x):=by simp [J1j]
@[simp] theorem Ke2 (x:DSum):(J1j x)[0]? = some (i64 x.Const):=rfl
@[simp] theorem Kd1 (x:DSum) (h:0<(J1j x).length):(J1j x)[0]=i64 x.Const:=rfl
@[simp] theorem Kdj (x:DSum):(J1j x)[1]? = some (.sl 2 (x.Terms.map J16)):=rfl
@[simp] theorem Kd2 (x:DSum) (h:1<(J1j x).length):(J1j x)[1] = .sl 2 (x.Terms.map J16):=rfl
@[simp] theorem tASum (x:DSum):List.take 2 (J1j x)=J1j x:=rfl
@[simp] theorem Kcq (x:DSum):(J58 x)[0]? = some (i64 x.Const):=rfl
@[simp] theorem Kdp (x:DSum) (h:0<(J58 x).length):(J58 x)[0]=i64 x.Const:=rfl
@[simp] theorem Kda (x:DSum):(J58 x)[1]? = some (.us 2 (x.Terms.map J4c)):=rfl
@[simp] theorem Kdf (x:DSum) (h:1<(J58 x).length):(J58 x)[1] = .us 2 (x.Terms.map J4c):=rfl
@[simp] theorem tUSum (x:DSum):List.take 2 (J58 x)=J58 x:=rfl
def Jbe (x:DSum):Nat:=Jdl x.Terms
def J6q (l:List DSum):Nat:=wL Jbe l
structure DArg where
 Lst:Bool
 Heads:List DSum
 Base:Str
deriving DecidableEq
def J15 (x:DArg):List AV:=[.bool x.Lst,.sl 2 (x.Heads.map J1j),.str x.Base]
def J5e (x:DArg):List AV:=[.bool x.Lst,.us 2 (x.Heads.map J58),.str x.Base]
@[simp] theorem Jvh (x:DArg):drl (J5e x)=J15 x:=by simp [J5e,J15]
@[simp] theorem K4h (l:List (DArg)):drr (l.map J5e)=l.map J15:=by rw [J4n,List.map_map];exact List.map_congr_left fun x _=>Jvh x
@[simp] theorem K1p (x:DArg):J3n (J5e x)=true:=by simp [J5e]
@[simp] theorem Jza (l:List (DArg)):J46 (l.map J5e)=true:=by rw [J32];simp
@[simp] theorem K7w (x:DArg):(J15 x).length=3:=by simp [J15]
@[simp] theorem K9p (x:DArg) (h:Heap):bwl (J15 x) h=some (J15 x):=by simp [J15]
@[simp] theorem Ke0 (x:DArg):(J15 x)[0]? = some (.bool x.Lst):=rfl
@[simp] theorem Kdc (x:DArg) (h:0<(J15 x).length):(J15 x)[0] = .bool x.Lst:=rfl
@[simp] theorem Kcp (x:DArg):(J15 x)[1]? = some (.sl 2 (x.Heads.map J1j)):=rfl
@[simp] theorem Kdl (x:DArg) (h:1<(J15 x).length):(J15 x)[1] = .sl 2 (x.Heads.map J1j):=rfl
@[simp] theorem Kdo (x:DArg):(J15 x)[2]? = some (.str x.Base):=rfl
@[simp] theorem Kcy (x:DArg) (h:2<(J15 x).length):(J15 x)[2] = .str x.Base:=rfl
@[simp] theorem tAArg (x:DArg):List.take 3 (J15 x)=J15 x:=rfl
@[simp] theorem Kch (x:DArg):(J5e x)[0]? = some (.bool x.Lst):=rfl
@[simp] theorem Kck (x:DArg) (h:0<(J5e x).length):(J5e x)[0] = .bool x.Lst:=rfl
@[simp] theorem Kcv (x:DArg):(J5e x)[1]? = some (.us 2 (x.Heads.map J58)):=rfl
@[simp] theorem Kdw (x:DArg) (h:1<(J5e x).length):(J5e x)[1] = .us 2 (x.Heads.map J58):=rfl
@[simp] theorem Kcu (x:DArg):(J5e x)[2]? = some (.str x.Base):=rfl
@[simp] theorem Kcb (x:DArg) (h:2<(J5e x).length):(J5e x)[2] = .str x.Base:=rfl
@[simp] theorem tUArg (x:DArg):List.take 3 (J5e x)=J5e x:=rfl
def Jah (x:DArg):Nat:=J6q x.Heads+x.Base.length
def Jfu (l:List DArg):Nat:=wL Jah l
structure DFunction where
 Name:Str
 Params:List Str
 ListResult:Bool
 Pre:List DLin
deriving DecidableEq
def J04 (x:DFunction):List AV:=[.str x.Name,.sl 1 (J0a x.Params),.bool x.ListResult,.sl 2 (x.Pre.map J05)]
def J0g (x:DFunction):List AV:=[.str x.Name,.us 1 (J0a x.Params),.bool x.ListResult,.us 2 (x.Pre.map J08)]
@[simp] theorem Jjc (x:DFunction):drl (J0g x)=J04 x:=by simp [J0g,J04]
@[simp] theorem Jtm (l:List (DFunction)):drr (l.map J0g)=l.map J04:=by rw [J4n,List.map_map];exact List.map_congr_left fun x _=>Jjc x
@[simp] theorem Js0 (x:DFunction):J3n (J0g x)=true:=by simp [J0g]
@[simp] theorem Jpu (l:List (DFunction)):J46 (l.map J0g)=true:=by rw [J32];simp
@[simp] theorem Juy (x:DFunction):(J04 x).length=4:=by simp [J04]
@[simp] theorem Jwt (x:DFunction) (h:Heap):bwl (J04 x) h=some (J04 x):=by simp [J04]
@[simp] theorem Jzl (x:DFunction):(J04 x)[0]? = some (.str x.Name):=rfl
@[simp] theorem Jzh (x:DFunction) (h:0<(J04 x).length):(J04 x)[0] = .str x.Name:=rfl
@[simp] theorem Jz6 (x:DFunction):(J04 x)[1]? = some (.sl 1 (J0a x.Params)):=rfl
@[simp] theorem Jze (x:DFunction) (h:1<(J04 x).length):(J04 x)[1] = .sl 1 (J0a x.Params):=rfl
@[simp] theorem Jzi (x:DFunction):(J04 x)[2]? = some (.bool x.ListResult):=rfl
@[simp] theorem K03 (x:DFunction) (h:2<(J04 x).length):(J04 x)[2] = .bool x.ListResult:=rfl
@[simp] theorem Jzy (x:DFunction):(J04 x)[3]? = some (.sl 2 (x.Pre.map J05)):=rfl
@[simp] theorem Jyh (x:DFunction) (h:3<(J04 x).length):(J04 x)[3] = .sl 2 (x.Pre.map J05):=rfl
@[simp] theorem K2r (x:DFunction):List.take 4 (J04 x)=J04 x:=rfl
@[simp] theorem K0n (x:DFunction):(J0g x)[0]? = some (.str x.Name):=rfl
@[simp] theorem K0u (x:DFunction) (h:0<(J0g x).length):(J0g x)[0] = .str x.Name:=rfl
@[simp] theorem Jy6 (x:DFunction):(J0g x)[1]? = some (.us 1 (J0a x.Params)):=rfl
@[simp] theorem Jzf (x:DFunction) (h:1<(J0g x).length):(J0g x)[1] = .us 1 (J0a x.Params):=rfl
@[simp] theorem Jym (x:DFunction):(J0g x)[2]? = some (.bool x.ListResult):=rfl
@[simp] theorem K0x (x:DFunction) (h:2<(J0g x).length):(J0g x)[2] = .bool x.ListResult:=rfl
@[simp] theorem Jy7 (x:DFunction):(J0g x)[3]? = some (.us 2 (x.Pre.map J08)):=rfl
@[simp] theorem K16 (x:DFunction) (h:3<(J0g x).length):(J0g x)[3] = .us 2 (x.Pre.map J08):=rfl
@[simp] theorem K22 (x:DFunction):List.take 4 (J0g x)=J0g x:=rfl
def J44 (l:List Str):Nat:=wL List.length l
def J0v (x:DFunction):Nat:=x.Name.length+J44 x.Params+J5h x.Pre
def J1x (l:List DFunction):Nat:=wL J0v l
structure DPattern where
 Lst:Str
 Cons:Bool
 Head:Str
 Tail:Str
deriving DecidableEq
def J07 (x:DPattern):List AV:=[.str x.Lst,.bool x.Cons,.str x.Head,.str x.Tail]
def J1e (x:DPattern):List AV:=[.str x.Lst,.bool x.Cons,.str x.Head,.str x.Tail]
@[simp] theorem Jl5 (x:DPattern):drl (J1e x)=J07 x:=by simp [J1e,J07]
@[simp] theorem Ju2 (l:List (DPattern)):drr (l.map J1e)=l.map J07:=by rw [J4n,List.map_map];exact List.map_congr_left fun x _=>Jl5 x
@[simp] theorem Jtl (x:DPattern):J3n (J1e x)=true:=by simp [J1e]
@[simp] theorem Jsl (l:List (DPattern)):J46 (l.map J1e)=true:=by rw [J32];simp
@[simp] theorem Jwr (x:DPattern):(J07 x).length=4:=by simp [J07]
@[simp] theorem K2s (x:DPattern):(J07 x)[0]? = some (.str x.Lst):=rfl
@[simp] theorem K33 (x:DPattern) (h:0<(J07 x).length):(J07 x)[0] = .str x.Lst:=rfl
@[simp] theorem K1q (x:DPattern):(J07 x)[1]? = some (.bool x.Cons):=rfl
@[simp] theorem K1k (x:DPattern) (h:1<(J07 x).length):(J07 x)[1] = .bool x.Cons:=rfl
@[simp] theorem K2v (x:DPattern):(J07 x)[2]? = some (.str x.Head):=rfl
@[simp] theorem K28 (x:DPattern) (h:2<(J07 x).length):(J07 x)[2] = .str x.Head:=rfl
@[simp] theorem K25 (x:DPattern):(J07 x)[3]? = some (.str x.Tail):=rfl
@[simp] theorem K2k (x:DPattern) (h:3<(J07 x).length):(J07 x)[3] = .str x.Tail:=rfl
@[simp] theorem K5o (x:DPattern):List.take 4 (J07 x)=J07 x:=rfl
@[simp] theorem K2a (x:DPattern):(J1e x)[0]? = some (.str x.Lst):=rfl
@[simp] theorem K1i (x:DPattern) (h:0<(J1e x).length):(J1e x)[0] = .str x.Lst:=rfl
@[simp] theorem K2j (x:DPattern):(J1e x)[1]? = some (.bool x.Cons):=rfl
@[simp] theorem K2e (x:DPattern) (h:1<(J1e x).length):(J1e x)[1] = .bool x.Cons:=rfl
@[simp] theorem K1j (x:DPattern):(J1e x)[2]? = some (.str x.Head):=rfl
@[simp] theorem K1n (x:DPattern) (h:2<(J1e x).length):(J1e x)[2] = .str x.Head:=rfl
@[simp] theorem K1x (x:DPattern):(J1e x)[3]? = some (.str x.Tail):=rfl
@[simp] theorem K31 (x:DPattern) (h:3<(J1e x).length):(J1e x)[3] = .str x.Tail:=rfl
@[simp] theorem K55 (x:DPattern):List.take 4 (J1e x)=J1e x:=rfl
def J3a (x:DPattern):Nat:=x.Lst.length+x.Head.length+x.Tail.length
def J39 (l:List DPattern):Nat:=wL J3a l
structure DCall where
 Bind:Str
 Func:Str
 Args:List DArg
deriving DecidableEq
def J14 (x:DCall):List AV:=[.str x.Bind,.str x.Func,.sl 3 (x.Args.map J15)]
def J3m (x:DCall):List AV:=[.str x.Bind,.str x.Func,.us 3 (x.Args.map J5e)]
@[simp] theorem Jr6 (x:DCall):drl (J3m x)=J14 x:=by simp [J3m,J14]
@[simp] theorem K1z (l:List (DCall)):drr (l.map J3m)=l.map J14:=by rw [J4n,List.map_map];exact List.map_congr_left fun x _=>Jr6 x
@[simp] theorem Jyz (x:DCall):J3n (J3m x)=true:=by simp [J3m]
@[simp] theorem Jx4 (l:List (DCall)):J46 (l.map J3m)=true:=by rw [J32];simp
@[simp] theorem K44 (x:DCall):(J14 x).length=3:=by simp [J14]
@[simp] theorem K7m (x:DCall) (h:Heap):bwl (J14 x) h=some (J14 x):=by simp [J14]
@[simp] theorem Kbw (x:DCall):(J14 x)[0]? = some (.str x.Bind):=rfl
@[simp] theorem Ka3 (x:DCall) (h:0<(J14 x).length):(J14 x)[0] = .str x.Bind:=rfl
@[simp] theorem K9c (x:DCall):(J14 x)[1]? = some (.str x.Func):=rfl
@[simp] theorem Ka8 (x:DCall) (h:1<(J14 x).length):(J14 x)[1] = .str x.Func:=rfl
@[simp] theorem Kb3 (x:DCall):(J14 x)[2]? = some (.sl 3 (x.Args.map J15)):=rfl
@[simp] theorem Kbq (x:DCall) (h:2<(J14 x).length):(J14 x)[2] = .sl 3 (x.Args.map J15):=rfl
@[simp] theorem Kcf (x:DCall):List.take 3 (J14 x)=J14 x:=rfl
@[simp] theorem Kbn (x:DCall):(J3m x)[0]? = some (.str x.Bind):=rfl
@[simp] theorem Kaa (x:DCall) (h:0<(J3m x).length):(J3m x)[0] = .str x.Bind:=rfl
@[simp] theorem Kat (x:DCall):(J3m x)[1]? = some (.str x.Func):=rfl
@[simp] theorem Kb0 (x:DCall) (h:1<(J3m x).length):(J3m x)[1] = .str x.Func:=rfl
@[simp] theorem K9x (x:DCall):(J3m x)[2]? = some (.us 3 (x.Args.map J5e)):=rfl
@[simp] theorem Kc5 (x:DCall) (h:2<(J3m x).length):(J3m x)[2] = .us 3 (x.Args.map J5e):=rfl
@[simp] theorem Kdn (x:DCall):List.take 3 (J3m x)=J3m x:=rfl
def J64 (x:DCall):Nat:=x.Bind.length+x.Func.length+Jfu x.Args
def J8d (l:List DCall):Nat:=wL J64 l
structure DRule where
 Func:Str
 Patterns:List DPattern
 Guards:List DSum
 Calls:List DCall
 Result:DArg
deriving DecidableEq
def J0c (x:DRule):List AV:=[.str x.Func,.sl 4 (x.Patterns.map J07),.sl 2 (x.Guards.map J1j),.sl 3 (x.Calls.map J14),.bool x.Result.Lst,.sl 2 (x.Result.Heads.map J1j),.str x.Result.Base]
def J23 (x:DRule):List AV:=[.str x.Func,.us 4 (x.Patterns.map J1e),.us 2 (x.Guards.map J58),.us 3 (x.Calls.map J3m),.bool x.Result.Lst,.us 2 (x.Result.Heads.map J58),.str x.Result.Base]
@[simp] theorem Jt8 (x:DRule):drl (J23 x)=J0c x:=by simp [J23,J0c]
@[simp] theorem K2q (l:List (DRule)):drr (l.map J23)=l.map J0c:=by rw [J4n,List.map_map];exact List.map_congr_left fun x _=>Jt8 x
@[simp] theorem Jyi (x:DRule):J3n (J23 x)=true:=by simp [J23]
@[simp] theorem Jwp (l:List (DRule)):J46 (l.map J23)=true:=by rw [J32];simp
@[simp] theorem K2p (x:DRule):(J0c x).all J0x=true:=by simp [J0c]
@[simp] theorem K4z (x:DRule):(J0c x).length=7:=by simp [J0c]
@[simp] theorem K8e (x:DRule) (h:Heap):bwl (J0c x) h=some (J0c x):=by simp [J0c]
@[simp] theorem Kbs (x:DRule):(J0c x)[0]? = some (.str x.Func):=rfl
@[simp] theorem Kc2 (x:DRule) (h:0<(J0c x).length):(J0c x)[0] = .str x.Func:=rfl
@[simp] theorem Kaz (x:DRule):(J0c x)[1]? = some (.sl 4 (x.Patterns.map J07)):=rfl
@[simp] theorem Kad (x:DRule) (h:1<(J0c x).length):(J0c x)[1] = .sl 4 (x.Patterns.map J07):=rfl
@[simp] theorem Kbc (x:DRule):(J0c x)[2]? = some (.sl 2 (x.Guards.map J1j)):=rfl
@[simp] theorem Kbg (x:DRule) (h:2<(J0c x).length):(J0c x)[2] = .sl 2 (x.Guards.map J1j):=rfl
@[simp] theorem K9a (x:DRule):(J0c x)[3]? = some (.sl 3 (x.Calls.map J14)):=rfl
@[simp] theorem Kca (x:DRule) (h:3<(J0c x).length):(J0c x)[3] = .sl 3 (x.Calls.map J14):=rfl
@[simp] theorem Kam (x:DRule):(J0c x)[4]? = some (.bool x.Result.Lst):=rfl
@[simp] theorem Kaw (x:DRule) (h:4<(J0c x).length):(J0c x)[4] = .bool x.Result.Lst:=rfl
@[simp] theorem Ka9 (x:DRule):(J0c x)[5]? = some (.sl 2 (x.Result.Heads.map J1j)):=rfl
@[simp] theorem Kb8 (x:DRule) (h:5<(J0c x).length):(J0c x)[5] = .sl 2 (x.Result.Heads.map J1j):=rfl
@[simp] theorem Kap (x:DRule):(J0c x)[6]? = some (.str x.Result.Base):=rfl
@[simp] theorem K8x (x:DRule) (h:6<(J0c x).length):(J0c x)[6] = .str x.Result.Base:=rfl
@[simp] theorem Kcr (x:DRule):List.take 7 (J0c x)=J0c x:=rfl
@[simp] theorem Jw5 (x:DRule):List.take 3 (List.drop 4 (J0c x))=J15 x.Result:=rfl
@[simp] theorem Ka7 (x:DRule):(J23 x)[0]? = some (.str x.Func):=rfl
@[simp] theorem K9j (x:DRule) (h:0<(J23 x).length):(J23 x)[0] = .str x.Func:=rfl
@[simp] theorem Kar (x:DRule):(J23 x)[1]? = some (.us 4 (x.Patterns.map J1e)):=rfl
@[simp] theorem Kac (x:DRule) (h:1<(J23 x).length):(J23 x)[1] = .us 4 (x.Patterns.map J1e):=rfl
@[simp] theorem K9b (x:DRule):(J23 x)[2]? = some (.us 2 (x.Guards.map J58)):=rfl
@[simp] theorem K9h (x:DRule) (h:2<(J23 x).length):(J23 x)[2] = .us 2 (x.Guards.map J58):=rfl
@[simp] theorem Kc8 (x:DRule):(J23 x)[3]? = some (.us 3 (x.Calls.map J3m)):=rfl
@[simp] theorem K92 (x:DRule) (h:3<(J23 x).length):(J23 x)[3] = .us 3 (x.Calls.map J3m):=rfl
@[simp] theorem K9d (x:DRule):(J23 x)[4]? = some (.bool x.Result.Lst):=rfl
@[simp] theorem Kao (x:DRule) (h:4<(J23 x).length):(J23 x)[4] = .bool x.Result.Lst:=rfl
@[simp] theorem K9n (x:DRule):(J23 x)[5]? = some (.us 2 (x.Result.Heads.map J58)):=rfl
@[simp] theorem Kbo (x:DRule) (h:5<(J23 x).length):(J23 x)[5] = .us 2 (x.Result.Heads.map J58):=rfl
@[simp] theorem Kc7 (x:DRule):(J23 x)[6]? = some (.str x.Result.Base):=rfl
@[simp] theorem Ka0 (x:DRule) (h:6<(J23 x).length):(J23 x)[6] = .str x.Result.Base:=rfl
@[simp] theorem Kdm (x:DRule):List.take 7 (J23 x)=J23 x:=rfl
@[simp] theorem Jvp (x:DRule):List.take 3 (List.drop 4 (J23 x))=J5e x.Result:=rfl
def J4v (x:DRule):Nat:=x.Func.length+J39 x.Patterns+J6q x.Guards+J8d x.Calls+Jah x.Result
def J94 (l:List DRule):Nat:=wL J4v l
structure DProgram where
 Functions:List DFunction
 Rules:List DRule
deriving DecidableEq
def J00 (x:DProgram):List AV:=[.sl 4 (x.Functions.map J04),.sl 7 (x.Rules.map J0c)]
def J2k (x:DProgram):List AV:=[.us 4 (x.Functions.map J0g),.us 7 (x.Rules.map J23)]
@[simp] theorem Jxc (x:DProgram):drl (J2k x)=J00 x:=by simp [J2k,J00]
@[simp] theorem Jvk (x:DProgram):(J2k x).all J0x=true:=by simp [J2k]
@[simp] theorem Ju9 (x:DProgram):(J00 x).all J0x=true:=by simp [J00]
@[simp] theorem J7s (x:DProgram):(J2k x).length=2:=by simp [J2k]
@[simp] theorem Jx7 (x:DProgram):(J00 x).length=2:=by simp [J00]
@[simp] theorem K19 (x:DProgram) (h:Heap):bwl (J00 x) h=some (J00 x):=by simp [J00]
@[simp] theorem K1u (x:DProgram):(J00 x)[0]? = some (.sl 4 (x.Functions.map J04)):=rfl
@[simp] theorem K2f (x:DProgram) (h:0<(J00 x).length):(J00 x)[0] = .sl 4 (x.Functions.map J04):=rfl
@[simp] theorem K2g (x:DProgram):(J00 x)[1]? = some (.sl 7 (x.Rules.map J0c)):=rfl
@[simp] theorem K2b (x:DProgram) (h:1<(J00 x).length):(J00 x)[1] = .sl 7 (x.Rules.map J0c):=rfl
@[simp] theorem K3v (x:DProgram):List.take 2 (J00 x)=J00 x:=rfl
@[simp] theorem K1y (x:DProgram):(J2k x)[0]? = some (.us 4 (x.Functions.map J0g)):=rfl
@[simp] theorem K1o (x:DProgram) (h:0<(J2k x).length):(J2k x)[0] = .us 4 (x.Functions.map J0g):=rfl
@[simp] theorem K2z (x:DProgram):(J2k x)[1]? = some (.us 7 (x.Rules.map J23)):=rfl
@[simp] theorem K2m (x:DProgram) (h:1<(J2k x).length):(J2k x)[1] = .us 7 (x.Rules.map J23):=rfl
@[simp] theorem K5s (x:DProgram):List.take 2 (J2k x)=J2k x:=rfl
def J0k (x:DProgram):Nat:=J1x x.Functions+J94 x.Rules
structure DModel where
 System:DSystem
 Params:List DLin
 Args:List (List DLin)
 Result:DLin
deriving DecidableEq
def J0o (x:DModel):List AV:=[i64 x.System.N,.sl 2 (x.System.Rows.map J05),.sl 2 (x.Params.map J05),.sl 1 (x.Args.map J2x),i64 x.Result.Const,.sl 1 (J0m x.Result.Coeffs)]
def J2h (x:DModel):List AV:=[i64 x.System.N,.us 2 (x.System.Rows.map J08),.us 2 (x.Params.map J08),.us 1 (x.Args.map J1u),i64 x.Result.Const,.us 1 (J0m x.Result.Coeffs)]
@[simp] theorem K1r (x:DModel):drl (J2h x)=J0o x:=by simp [J2h,J0o]
@[simp] theorem K06 (x:DModel):(J0o x).all J0x=true:=by simp [J0o]
@[simp] theorem K29 (x:DModel):(J0o x).length=6:=by simp [J0o]
@[simp] theorem K53 (x:DModel) (h:Heap):bwl (J0o x) h=some (J0o x):=by simp [J0o]
@[simp] theorem K6z (x:DModel):(J0o x)[0]? = some (i64 x.System.N):=rfl
@[simp] theorem K67 (x:DModel) (h:0<(J0o x).length):(J0o x)[0]=i64 x.System.N:=rfl
@[simp] theorem K7i (x:DModel):(J0o x)[1]? = some (.sl 2 (x.System.Rows.map J05)):=rfl
@[simp] theorem K6y (x:DModel) (h:1<(J0o x).length):(J0o x)[1] = .sl 2 (x.System.Rows.map J05):=rfl
@[simp] theorem K7j (x:DModel):(J0o x)[2]? = some (.sl 2 (x.Params.map J05)):=rfl
@[simp] theorem K6o (x:DModel) (h:2<(J0o x).length):(J0o x)[2] = .sl 2 (x.Params.map J05):=rfl
@[simp] theorem K7y (x:DModel):(J0o x)[3]? = some (.sl 1 (x.Args.map J2x)):=rfl
@[simp] theorem K6d (x:DModel) (h:3<(J0o x).length):(J0o x)[3] = .sl 1 (x.Args.map J2x):=rfl
@[simp] theorem K8n (x:DModel):(J0o x)[4]? = some (i64 x.Result.Const):=rfl
@[simp] theorem K81 (x:DModel) (h:4<(J0o x).length):(J0o x)[4]=i64 x.Result.Const:=rfl
@[simp] theorem K82 (x:DModel):(J0o x)[5]? = some (.sl 1 (J0m x.Result.Coeffs)):=rfl
@[simp] theorem K72 (x:DModel) (h:5<(J0o x).length):(J0o x)[5] = .sl 1 (J0m x.Result.Coeffs):=rfl
@[simp] theorem K96 (x:DModel):List.take 6 (J0o x)=J0o x:=rfl
@[simp] theorem Jtf (x:DModel):List.take 2 (J0o x)=J26 x.System:=rfl
@[simp] theorem Jti (x:DModel):List.take 2 (List.drop 4 (J0o x))=J05 x.Result:=rfl
@[simp] theorem K6u (x:DModel):(J2h x)[0]? = some (i64 x.System.N):=rfl
@[simp] theorem K7e (x:DModel) (h:0<(J2h x).length):(J2h x)[0]=i64 x.System.N:=rfl
@[simp] theorem K68 (x:DModel):(J2h x)[1]? = some (.us 2 (x.System.Rows.map J08)):=rfl
@[simp] theorem K6t (x:DModel) (h:1<(J2h x).length):(J2h x)[1] = .us 2 (x.System.Rows.map J08):=rfl
@[simp] theorem K6x (x:DModel):(J2h x)[2]? = some (.us 2 (x.Params.map J08)):=rfl
@[simp] theorem K6k (x:DModel) (h:2<(J2h x).length):(J2h x)[2] = .us 2 (x.Params.map J08):=rfl
@[simp] theorem K77 (x:DModel):(J2h x)[3]? = some (.us 1 (x.Args.map J1u)):=rfl
@[simp] theorem K8j (x:DModel) (h:3<(J2h x).length):(J2h x)[3] = .us 1 (x.Args.map J1u):=rfl
@[simp] theorem K6q (x:DModel):(J2h x)[4]? = some (i64 x.Result.Const):=rfl
@[simp] theorem K66 (x:DModel) (h:4<(J2h x).length):(J2h x)[4]=i64 x.Result.Const:=rfl
@[simp] theorem K7s (x:DModel):(J2h x)[5]? = some (.us 1 (J0m x.Result.Coeffs)):=rfl
@[simp] theorem K60 (x:DModel) (h:5<(J2h x).length):(J2h x)[5] = .us 1 (J0m x.Result.Coeffs):=rfl
@[simp] theorem Kb1 (x:DModel):List.take 6 (J2h x)=J2h x:=rfl
@[simp] theorem Jtg (x:DModel):List.take 2 (J2h x)=J42 x.System:=rfl
@[simp] theorem Jtc (x:DModel):List.take 2 (List.drop 4 (J2h x))=J08 x.Result:=rfl
def Jas (l:List (List DLin)):Nat:=wL J5h l
structure DObligation where
 System:DSystem
 Target:DLin
deriving DecidableEq
def J0p (x:DObligation):List AV:=[i64 x.System.N,.sl 2 (x.System.Rows.map J05),i64 x.Target.Const,.sl 1 (J0m x.Target.Coeffs)]
def J0d (x:DObligation):List AV:=[i64 x.System.N,.us 2 (x.System.Rows.map J08),i64 x.Target.Const,.us 1 (J0m x.Target.Coeffs)]
@[simp] theorem Jfn (x:DObligation):drl (J0d x)=J0p x:=by simp [J0d,J0p]
@[simp] theorem Jpr (l:List (DObligation)):drr (l.map J0d)=l.map J0p:=by rw [J4n,List.map_map];exact List.map_congr_left fun x _=>Jfn x
@[simp] theorem Jp7 (x:DObligation):J3n (J0d x)=true:=by simp [J0d]
@[simp] theorem Jnx (l:List (DObligation)):J46 (l.map J0d)=true:=by rw [J32];simp
@[simp] theorem Jsf (x:DObligation):(J0p x).length=4:=by simp [J0p]
@[simp] theorem Jvr (x:DObligation):(J0p x)[0]? = some (i64 x.System.N):=rfl
@[simp] theorem Jwi (x:DObligation) (h:0<(J0p x).length):(J0p x)[0]=i64 x.System.N:=rfl
@[simp] theorem Juv (x:DObligation):(J0p x)[1]? = some (.sl 2 (x.System.Rows.map J05)):=rfl
@[simp] theorem Jvf (x:DObligation) (h:1<(J0p x).length):(J0p x)[1] = .sl 2 (x.System.Rows.map J05):=rfl
@[simp] theorem Jum (x:DObligation):(J0p x)[2]? = some (i64 x.Target.Const):=rfl
@[simp] theorem Jtp (x:DObligation) (h:2<(J0p x).length):(J0p x)[2]=i64 x.Target.Const:=rfl
@[simp] theorem Jvq (x:DObligation):(J0p x)[3]? = some (.sl 1 (J0m x.Target.Coeffs)):=rfl
@[simp] theorem Juo (x:DObligation) (h:3<(J0p x).length):(J0p x)[3] = .sl 1 (J0m x.Target.Coeffs):=rfl
@[simp] theorem Jwz (x:DObligation):List.take 4 (J0p x)=J0p x:=rfl
@[simp] theorem Jm2 (x:DObligation):List.take 2 (J0p x)=J26 x.System:=rfl
@[simp] theorem Jmb (x:DObligation):List.take 2 (List.drop 2 (J0p x))=J05 x.Target:=rfl
@[simp] theorem Jul (x:DObligation):(J0d x)[0]? = some (i64 x.System.N):=rfl
@[simp] theorem Ju3 (x:DObligation) (h:0<(J0d x).length):(J0d x)[0]=i64 x.System.N:=rfl
@[simp] theorem Ju1 (x:DObligation):(J0d x)[1]? = some (.us 2 (x.System.Rows.map J08)):=rfl
@[simp] theorem Jv1 (x:DObligation) (h:1<(J0d x).length):(J0d x)[1] = .us 2 (x.System.Rows.map J08):=rfl
@[simp] theorem Juk (x:DObligation):(J0d x)[2]? = some (i64 x.Target.Const):=rfl
@[simp] theorem Jvx (x:DObligation) (h:2<(J0d x).length):(J0d x)[2]=i64 x.Target.Const:=rfl
@[simp] theorem Jw7 (x:DObligation):(J0d x)[3]? = some (.us 1 (J0m x.Target.Coeffs)):=rfl
@[simp] theorem Jtw (x:DObligation) (h:3<(J0d x).length):(J0d x)[3] = .us 1 (J0m x.Target.Coeffs):=rfl
@[simp] theorem Jwo (x:DObligation):List.take 4 (J0d x)=J0d x:=rfl
@[simp] theorem Jm6 (x:DObligation):List.take 2 (J0d x)=J42 x.System:=rfl
@[simp] theorem Jlv (x:DObligation):List.take 2 (List.drop 2 (J0d x))=J08 x.Target:=rfl
structure DBounds where
 Kind:Int
 Lins:List DLin
deriving DecidableEq
structure DEdge where
 Rule:Int
 Call:Int
deriving DecidableEq
def J0q (x:DEdge):List AV:=[i64 x.Rule,i64 x.Call]
def J1y (x:DEdge):List AV:=[i64 x.Rule,i64 x.Call]
@[simp] theorem Jqc (x:DEdge):drl (J1y x)=J0q x:=by simp [J1y,J0q]
@[simp] theorem K1t (l:List (DEdge)):drr (l.map J1y)=l.map J0q:=by rw [J4n,List.map_map];exact List.map_congr_left fun x _=>Jqc x
@[simp] theorem Jzw (x:DEdge):J3n (J1y x)=true:=by simp [J1y]
@[simp] theorem Jxm (l:List (DEdge)):J46 (l.map J1y)=true:=by rw [J32];simp
@[simp] theorem K1g (x:DEdge):(J0q x).all J0x=true:=by simp [J0q]
@[simp] theorem K4c (x:DEdge):(J0q x).length=2:=by simp [J0q]
@[simp] theorem K89 (x:DEdge) (h:Heap):bwl (J0q x) h=some (J0q x):=by simp [J0q]
@[simp] theorem K99 (x:DEdge):(J0q x)[0]? = some (i64 x.Rule):=rfl
@[simp] theorem K9k (x:DEdge) (h:0<(J0q x).length):(J0q x)[0]=i64 x.Rule:=rfl
@[simp] theorem Ka1 (x:DEdge):(J0q x)[1]? = some (i64 x.Call):=rfl
@[simp] theorem Kaf (x:DEdge) (h:1<(J0q x).length):(J0q x)[1]=i64 x.Call:=rfl
@[simp] theorem Kcl (x:DEdge):List.take 2 (J0q x)=J0q x:=rfl
@[simp] theorem Kbm (x:DEdge):(J1y x)[0]? = some (i64 x.Rule):=rfl
@[simp] theorem K9e (x:DEdge) (h:0<(J1y x).length):(J1y x)[0]=i64 x.Rule:=rfl
@[simp] theorem K97 (x:DEdge):(J1y x)[1]? = some (i64 x.Call):=rfl
@[simp] theorem Kae (x:DEdge) (h:1<(J1y x).length):(J1y x)[1]=i64 x.Call:=rfl
@[simp] theorem Kci (x:DEdge):List.take 2 (J1y x)=J1y x:=rfl
structure DRanking where
 Levels:List (List DLin)
 Edges:List Int
deriving DecidableEq
def J0e (x:DRanking):List AV:=[.sl 1 (x.Levels.map J2x),.sl 1 (J0m x.Edges)]
def J2n (x:DRanking):List AV:=[.us 1 (x.Levels.map J1u),.us 1 (J0m x.Edges)]
@[simp] theorem Jx5 (x:DRanking):drl (J2n x)=J0e x:=by simp [J2n,J0e]
@[simp] theorem Ju6 (x:DRanking):(J2n x).all J0x=true:=by simp [J2n]
@[simp] theorem Jv9 (x:DRanking):(J0e x).all J0x=true:=by simp [J0e]
@[simp] theorem J7w (x:DRanking):(J2n x).length=2:=by simp [J2n]
@[simp] theorem Jxd (x:DRanking):(J0e x).length=2:=by simp [J0e]
@[simp] theorem Jxy (x:DRanking) (h:Heap):bwl (J0e x) h=some (J0e x):=by simp [J0e]
@[simp] theorem K23 (x:DRanking):(J0e x)[0]? = some (.sl 1 (x.Levels.map J2x)):=rfl
@[simp] theorem K2t (x:DRanking) (h:0<(J0e x).length):(J0e x)[0] = .sl 1 (x.Levels.map J2x):=rfl
@[simp] theorem K27 (x:DRanking):(J0e x)[1]? = some (.sl 1 (J0m x.Edges)):=rfl
@[simp] theorem K2c (x:DRanking) (h:1<(J0e x).length):(J0e x)[1] = .sl 1 (J0m x.Edges):=rfl
@[simp] theorem K48 (x:DRanking):List.take 2 (J0e x)=J0e x:=rfl
@[simp] theorem K2o (x:DRanking):(J2n x)[0]? = some (.us 1 (x.Levels.map J1u)):=rfl
@[simp] theorem K2w (x:DRanking) (h:0<(J2n x).length):(J2n x)[0] = .us 1 (x.Levels.map J1u):=rfl
@[simp] theorem K26 (x:DRanking):(J2n x)[1]? = some (.us 1 (J0m x.Edges)):=rfl
@[simp] theorem K2h (x:DRanking) (h:1<(J2n x).length):(J2n x)[1] = .us 1 (J0m x.Edges):=rfl
@[simp] theorem K4a (x:DRanking):List.take 2 (J2n x)=J2n x:=rfl
def J5g (x:DRanking):Nat:=Jas x.Levels+Jgq x.Edges
end Go.Proofs.YtoclolkigjbcgaaGreat
namespace Go.Proofs.YtoclolkigjbcgaaGreat
set_option linter.all false
open Go Go.RowKit
attribute [simp] K5u Jlo J5r
@[simp] theorem K8w {h:Heap}{K:AV→Heap→Nat→Prop}{r:AV}{n:Nat} : hK h K r h n=K r h n:=by simp [hK,J7l.refl]
mutual
def Jw8:AV→Prop
 | .sl _ rows=>rows.length≤LIM
 | .us _ rows=>rows.length≤LIM
 | .str l=>l.length≤LIM
 | .agg cs=>Jww cs
 | .tup cs=>Jww cs
 | .undef | .int .. | .bool _ | .nil _ | .nilp | .ptr .. | .fptr .. | .ref .. | .fn .. | .mp _=>True
def Jww:List AV→Prop
 | []=>True
 | a::as=>Jw8 a∧Jww as
end
section
variable {w:World}{L:Nat→Option Loc}{N:Nat}
mutual
theorem K3l:∀ (a:AV) (v:Value) (S:List Nat),VR w L N a v S→Jw8 a
 | .sl ..,_,_,h=>by
  simp only [VR] at h
  obtain ⟨⟨A,cap,vals,_,hl,_⟩,_⟩:=h
  simp only [Jw8];exact hl.1
 | .us ..,_,_,h=>by simp only [VR] at h;simp only [Jw8];exact h.1
 | .str _,_,_,h=>by
  simp only [VR] at h
  obtain ⟨⟨b,_,_,hl⟩,_⟩:=h
  simp only [Jw8];exact hl
 | .agg cs,_,_,h=>by simp only [VR] at h;obtain ⟨vs,_,h⟩:=h;simp only [Jw8];exact Jik cs _ _ h
 | .tup cs,_,_,h=>by simp only [VR] at h;obtain ⟨vs,_,h⟩:=h;simp only [Jw8];exact Jik cs _ _ h
 | .undef,_,_,_ | .int ..,_,_,_ | .bool _,_,_,_ | .nil _,_,_,_ | .nilp,_,_,_ | .ptr ..,_,_,_ | .fptr ..,_,_,_ | .ref ..,_,_,_ | .fn ..,_,_,_ | .mp _,_,_,_=>by simp only [Jw8]
theorem Jik:∀ (as:List AV) (vs:List Value) (S:List Nat),VRl w L N as vs S→Jww as
 | [],_,_,_=>by simp only [Jww]
 | a::as,_,_,h=>by
  simp only [VRl] at h
  obtain ⟨v,vs',S1,S2,_,_,h1,h2⟩:=h
  simp only [Jww];exact ⟨K3l a _ _ h1,Jik as _ _ h2⟩
end
end
theorem J1l {P:Program}{f:FuncId}{fn:Func}{as:List AV}{Q:AV→Prop}(hf:P.funcs[f]? = some fn) (hb:fn.body.isSome=true) (hn:(fn.name == "runtime.NumGoroutine")=false) (h:Jww as→Holds P f as Q):Holds P f as Q:=
 ⟨by simp [J72,hf,hb,hn],fun w vs hv=>(h (Jik as vs [] hv)).2 w vs hv⟩
attribute [simp] Jw8 Jww
theorem J9n {P:Program}{K K':Env→Heap→Nat→Prop}(hk:∀ s h n,K s h n→K' s h n):∀ {os:List AO}{s:Env}{h:Heap}{n:Nat},Jii P os s h n K→Jii P os s h n K'
 | [],s,h,n,hw=>hk s h n hw
 | o::os,s,h,n,hw=>by
  simp only [Jii] at hw ⊢
  cases hg:o.g with
  | none=>rw [hg] at hw;exact J8y hw fun _ _ _ h=>J9n hk h
  | some p=>
   obtain ⟨j,want⟩:=p
   rw [hg] at hw
   simp only at hw ⊢
   cases hs:s j <;> rw [hs] at hw <;> try exact hw.elim
   ·exact ⟨fun e=>J8y (hw.1 e) fun _ _ _ h=>J9n hk h,fun e=>J9n hk (hw.2 e)⟩
   ·rename_i vs
    cases vs
    ·exact J9n hk hw
    ·exact hw.elim
theorem Jbq {P:Program}{s:Env}{h:Heap}{n:Nat}{K K':AV→Heap→Nat→Prop}{op:AOp}(hw:J6a P s h n K op) (hk:∀ r h n,K r h n→K' r h n):J6a P s h n K' op:=by
 unfold J6a at hw ⊢
 split at hw
 ·split at hw
  ·rename_i hf;try simp only [hf]
   exact J2c.mono hw fun _ _ _ h=>⟨h.1,hk _ _ _ h.2⟩
  ·exact hw.elim
 ·split at hw
  ·exact hk _ _ _ hw
  ·exact hk _ _ _ hw
  ·exact ⟨hw.1,hk _ _ _ hw.2⟩
  ·exact hk _ _ _ hw
  ·exact hw.elim
 ·exact J8y hw hk
theorem J4t {P:Program}{K K':Env→Heap→Nat→Prop}(hk:∀ s h n,K s h n→K' s h n):∀ {t:DT}{s:Env}{h:Heap}{n:Nat},J8f P t s h n K→J8f P t s h n K'
 | .fin,s,h,n,hw=>hk s h n hw
 | .stuck,_,_,_,hw=>hw.elim
 | .both a b,s,h,n,hw=>⟨J4t hk hw.1,J4t hk hw.2⟩
 | .op o t,s,h,n,hw=>by
  simp only [J8f] at hw ⊢
  cases hg:o.g with
  | none=>rw [hg] at hw;exact Jbq hw fun _ _ _ h=>J4t hk h
  | some p=>
   obtain ⟨j,want⟩:=p
   rw [hg] at hw
   simp only at hw ⊢
   cases hs:s j <;> rw [hs] at hw <;> try exact hw.elim
   ·exact ⟨fun e=>Jbq (hw.1 e) fun _ _ _ h=>J4t hk h,fun e=>J4t hk (hw.2 e)⟩
   ·rename_i vs
    cases vs
    ·exact J4t hk hw
    ·exact hw.elim
 | .hop o ps t,s,h,n,hw=>by
  simp only [J8f] at hw ⊢
  cases hg:o.g with
  | none=>rw [hg] at hw;exact Jbq hw fun _ _ _ h=>⟨h.1,J4t hk h.2⟩
  | some p=>
   obtain ⟨j,want⟩:=p
   rw [hg] at hw
   simp only at hw ⊢
   cases hs:s j <;> rw [hs] at hw <;> try exact hw.elim
   ·exact ⟨fun e=>Jbq (hw.1 e) fun _ _ _ h=>⟨h.1,J4t hk h.2⟩,fun e=>J4t hk (hw.2 e)⟩
   ·rename_i vs
    cases vs
    ·exact J4t hk hw
    ·exact hw.elim
theorem Jep {P:Program} : ∀ {a:AC}{s:Env}{h:Heap}{n:Nat}{Q Q':Fin},awp P a s h n Q→(∀ e s h n,Q e s h n→Q' e s h n)→awp P a s h n Q':=by
 intro a
 induction a with
 | skip=>intro s h n Q Q' hw hq;exact hq _ _ _ _ hw
 | reg os=>intro s h n Q Q' hw hq;exact J9n (hq .normal) hw
 | seq a b iha ihb=>
  intro s h n Q Q' hw hq
  refine iha hw fun e s h n hh => ?_
  cases e
  ·exact ihb hh hq
  ·exact hq _ _ _ _ hh
  ·exact hq _ _ _ _ hh
 | cond c a b iha ihb=>
  intro s h n Q Q' hw hq
  simp only [awp] at hw ⊢
  split at hw
  ·exact ⟨fun e=>iha (hw.1 e) hq,fun e=>ihb (hw.2 e) hq⟩
  ·exact hw.elim
 | blk id a iha=>
  intro s h n Q Q' hw hq
  refine iha hw fun e s h n hh => ?_
  cases e
  ·exact hq _ _ _ _ hh
  ·simp only at hh ⊢;split
   ·rename_i hx;rw [if_pos hx] at hh;exact hq _ _ _ _ hh
   ·rename_i hx;rw [if_neg hx] at hh;exact hq _ _ _ _ hh
  ·exact hq _ _ _ _ hh
 | loop a iha=>
  intro s h n Q Q' hw hq
  obtain ⟨I,h0,hs⟩:=hw
  refine ⟨I,h0,fun k s h n hi=>iha (hs k s h n hi) fun e s h n hh => ?_⟩
  cases e
  ·exact hh
  ·exact hq _ _ _ _ hh
  ·exact hq _ _ _ _ hh
 | exit id=>intro s h n Q Q' hw hq;exact hq _ _ _ _ hw
 | ret=>intro s h n Q Q' hw hq;exact hq _ _ _ _ hw
 | draw t=>intro s h n Q Q' hw hq;exact J4t (hq .normal) hw
@[simp ↓ high] theorem Jjg {P:Program}{ks:List Kt}{s:Env}{h:Heap}{n:Nat}{Q:Fin}{c:Opd}{a b:AC}(hc:ev s c = .bool true):rC P (.cond c a b) ks s h n Q=rC P a ks s h n Q:=by
 rw [Jb9,hc];simp [gd]
@[simp ↓ high] theorem Jno {P:Program}{ks:List Kt}{s:Env}{h:Heap}{n:Nat}{Q:Fin}{c:Opd}{a b:AC}(hc:ev s c = .bool false):rC P (.cond c a b) ks s h n Q=rC P b ks s h n Q:=by
 rw [Jb9,hc];simp [gd]
section
variable {P:Program}{s:Env}{h:Heap}{n:Nat}{ks:List Kt}{Q:Fin}{a:AC}
def K4s (P:Program) (ks:List Kt) (Q:Fin) (keep:List Nat) (s0:Env) (ic i:Nat) (J:Nat→Env→Heap→Nat→Prop):Fin:=fun e s h n=>match e with
 | .normal=>(∀ j∈keep,s j=s0 j)∧s ic = .int .i64 ((i:Int)+1)∧J (i+1) s h n
 | e=>J2u P ks e s h n Q
def K6r (P:Program) (ks:List Kt) (Q:Fin):Fin:=fun e s h n=>match e with
 | .normal=>False
 | e=>J2u P ks e s h n Q
@[simp ↓] theorem Jxz {keep:List Nat}{s0 s':Env}{ic i:Nat}{J:Nat→Env→Heap→Nat→Prop}{h':Heap}{n':Nat} : K4s P ks Q keep s0 ic i J .normal s' h' n'=((∀ j∈keep,s' j=s0 j)∧s' ic = .int .i64 ((i:Int)+1)∧J (i+1) s' h' n'):=propext Iff.rfl
@[simp ↓] theorem K7k {keep:List Nat}{s0 s':Env}{ic i:Nat}{J:Nat→Env→Heap→Nat→Prop}{h':Heap}{n':Nat} : K4s P ks Q keep s0 ic i J .ret s' h' n'=J2u P ks .ret s' h' n' Q:=propext Iff.rfl
@[simp ↓] theorem K46 {keep:List Nat}{s0 s':Env}{ic i x:Nat}{J:Nat→Env→Heap→Nat→Prop}{h':Heap}{n':Nat} : K4s P ks Q keep s0 ic i J (.exit x) s' h' n'=J2u P ks (.exit x) s' h' n' Q:=propext Iff.rfl
@[simp ↓] theorem K84 {s':Env}{h':Heap}{n':Nat} : K6r P ks Q .ret s' h' n'=J2u P ks .ret s' h' n' Q:=propext Iff.rfl
@[simp ↓] theorem K4f {x:Nat}{s':Env}{h':Heap}{n':Nat} : K6r P ks Q (.exit x) s' h' n'=J2u P ks (.exit x) s' h' n' Q:=propext Iff.rfl
theorem Jqg (keep:List Nat) (ic N:Nat) (J:Nat→Env→Heap→Nat→Prop) (hN:N≤LIM) (hi0:s ic = .int .i64 0) (hJ0:J 0 s h n)
 (hstep:∀ i s' h' n',i<N→¬N≤i→(∀ j∈keep,s' j=s j)→s' ic = .int .i64 (i:Int)→IntKind.i64.wrap ((i:Int)+1)=(i:Int)+1→J i s' h' n'→rC P a [] s' h' n' (K4s P ks Q keep s ic i J))
 (hend:∀ s' h' n',(∀ j∈keep,s' j=s j)→s' ic = .int .i64 (N:Int)→J N s' h' n'→rC P a [] s' h' n' (K6r P ks Q)):rL P a ks s h n Q:=by
 refine Jd6 (fun k s' h' n'=>∃ i:Nat,k=N - i∧i≤N∧(∀ j∈keep,s' j=s j)∧s' ic = .int .i64 (i:Int)∧J i s' h' n') N ⟨0,by simp,Nat.zero_le _,fun _ _=>rfl,hi0,hJ0⟩ ?_
 rintro k s' h' n' ⟨i,rfl,hi,hk,hic,hJ⟩
 unfold LIM at hN
 by_cases hlt:i<N
 ·have:=hstep i s' h' n' hlt (by omega) hk hic (J0r (by omega)) hJ
  unfold rC at this ⊢
  refine Jep this ?_
  intro e s2 h2 n2 hq
  cases e
  ·obtain ⟨q1,q2,q3⟩:=hq
   exact ⟨N - (i+1),by omega,i+1,rfl,by omega,q1,q2,q3⟩
  ·exact hq
  ·exact hq
 ·have hiN:i=N:=by omega
  subst hiN
  have:=hend s' h' n' hk hic hJ
  unfold rC at this ⊢
  refine Jep this ?_
  intro e s2 h2 n2 hq
  cases e
  ·exact hq.elim
  ·exact hq
  ·exact hq
theorem Jwn (keep:List Nat) (ic N:Nat) (J:Nat→Env→Prop) (hN:N≤LIM) (hi0:s ic = .int .i64 0) (hJ0:J 0 s)
 (hstep:∀ i s',i<N→¬N≤i→(∀ j∈keep,s' j=s j)→s' ic = .int .i64 (i:Int)→IntKind.i64.wrap ((i:Int)+1)=(i:Int)+1→J i s'→rC P a [] s' h n (K4s P ks Q keep s ic i fun i s' h' n'=>J i s'∧h'=h∧n'=n))
 (hend:∀ s',(∀ j∈keep,s' j=s j)→s' ic = .int .i64 (N:Int)→J N s'→rC P a [] s' h n (K6r P ks Q)):rL P a ks s h n Q:=by
 refine Jqg keep ic N (fun i s' h' n'=>J i s'∧h'=h∧n'=n) hN hi0 ⟨hJ0,rfl,rfl⟩ ?_ ?_
 ·rintro i s' h' n' hi hg hk hic hw ⟨hJ,rfl,rfl⟩;exact hstep i s' hi hg hk hic hw hJ
 ·rintro s' h' n' hk hic ⟨hJ,rfl,rfl⟩;exact hend s' hk hic hJ
theorem J0l (keep:List Nat) (ic N:Nat) (J:Nat→Env→Heap→Nat→Prop) (hN:N≤LIM) (hi0:s ic = .int .i64 0) (hJ0:J 0 s h n)
 (hstep:∀ i s' h' n' (R:Fin),i<N→¬N≤i→(∀ j∈keep,s' j=s j)→s' ic = .int .i64 (i:Int)→IntKind.i64.wrap ((i:Int)+1)=(i:Int)+1→J i s' h' n' →
  (∀ s'' h'' n'',(∀ j∈keep,s'' j=s j)→s'' ic = .int .i64 ((i:Int)+1)→J (i+1) s'' h'' n''→R .normal s'' h'' n'') →
  (∀ s'' h'' n'',J2u P ks .ret s'' h'' n'' Q→R .ret s'' h'' n'')→(∀ x s'' h'' n'',J2u P ks (.exit x) s'' h'' n'' Q→R (.exit x) s'' h'' n'')→rC P a [] s' h' n' R)
 (hend:∀ s' h' n' (R:Fin),(∀ j∈keep,s' j=s j)→s' ic = .int .i64 (N:Int)→J N s' h' n' →
  (∀ s'' h'' n'',J2u P ks .ret s'' h'' n'' Q→R .ret s'' h'' n'')→(∀ x s'' h'' n'',J2u P ks (.exit x) s'' h'' n'' Q→R (.exit x) s'' h'' n'')→rC P a [] s' h' n' R):rL P a ks s h n Q:=by
 refine Jqg keep ic N J hN hi0 hJ0 ?_ ?_
 ·intro i s' h' n' hi hg hk hic hw hJ
  exact hstep i s' h' n' _ hi hg hk hic hw hJ (fun _ _ _ h1 h2 h3=>⟨h1,h2,h3⟩) (fun _ _ _ h=>h) (fun _ _ _ _ h=>h)
 ·intro s' h' n' hk hic hJ
  exact hend s' h' n' _ hk hic hJ (fun _ _ _ h=>h) (fun _ _ _ _ h=>h)
theorem J60 (keep:List Nat) (ic N:Nat) (J:Nat→Env→Prop) (hN:N≤LIM) (hi0:s ic = .int .i64 0) (hJ0:J 0 s)
 (hstep:∀ i s' h' (R:Fin),i<N→¬N≤i→(∀ j∈keep,s' j=s j)→s' ic = .int .i64 (i:Int)→IntKind.i64.wrap ((i:Int)+1)=(i:Int)+1→J i s'→(∀ id,h' id=h id) →
  (∀ s'',(∀ j∈keep,s'' j=s j)→s'' ic = .int .i64 ((i:Int)+1)→J (i+1) s''→R .normal s'' h' n) →
  (∀ s'' h'' n'',J2u P ks .ret s'' h'' n'' Q→R .ret s'' h'' n'')→(∀ x s'',J2u P ks (.exit x) s'' h n Q→R (.exit x) s'' h' n)→rC P a [] s' h' n R)
 (hend:∀ s' h' (R:Fin),(∀ j∈keep,s' j=s j)→s' ic = .int .i64 (N:Int)→J N s'→(∀ id,h' id=h id) →
  (∀ s'' h'' n'',J2u P ks .ret s'' h'' n'' Q→R .ret s'' h'' n'')→(∀ x s'',J2u P ks (.exit x) s'' h n Q→R (.exit x) s'' h' n)→rC P a [] s' h' n R):rL P a ks s h n Q:=by
 refine Jwn keep ic N J hN hi0 hJ0 ?_ ?_
 ·intro i s' hi hg hk hic hw hJ
  exact hstep i s' h _ hi hg hk hic hw hJ (fun _=>rfl) (fun _ h1 h2 h3=>⟨h1,h2,h3,rfl,rfl⟩) (fun _ _ _ h=>h) (fun _ _ h=>h)
 ·intro s' hk hic hJ
  exact hend s' h _ hk hic hJ (fun _=>rfl) (fun _ _ _ h=>h) (fun _ _ h=>h)
end
end Go.Proofs.YtoclolkigjbcgaaGreat

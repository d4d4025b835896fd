/- The types of the program, as data: read form (A), own form (U), weight (w). -/
import Derived.Test.YtoclolkigjbcgaaGreatWRD
namespace Go.Proofs.YtoclolkigjbcgaaGreat
set_option linter.all false
open Go Go.RowKit Go.Proofs
structure DLin where
 Const:Int
 Coeffs:List Int
deriving DecidableEq
def J06 (x:DLin):List AV:=[i64 x.Const,.sl 1 (J0e x.Coeffs)]
def J07 (x:DLin):List AV:=[i64 x.Const,.us 1 (J0e x.Coeffs)]
@[simp] theorem Jq3 (x:DLin):drl (J07 x)=J06 x:=by simp [J07,J06]
@[simp] theorem K16 (l:List (DLin)):drr (l.map J07)=l.map J06:=by rw [J4o,List.map_map];exact List.map_congr_left fun x _=>Jq3 x
@[simp] theorem Jxr (x:DLin):J3i (J07 x)=true:=by simp [J07]
@[simp] theorem Jva (l:List (DLin)):J40 (l.map J07)=true:=by rw [J2d];simp
@[simp] theorem Jzq (x:DLin):(J06 x).all J0n=true:=by simp [J06]
@[simp] theorem K2l (x:DLin):(J07 x).length=2:=by simp [J07]
@[simp] theorem K37 (x:DLin):(J06 x).length=2:=by simp [J06]
@[simp] theorem K7w (x:DLin) (h:Heap):bwl (J06 x) h=some (J06 x):=by simp [J06]
@[simp] theorem K9i (x:DLin):(J06 x)[0]? = some (i64 x.Const):=rfl
@[simp] theorem K8v (x:DLin) (h:0<(J06 x).length):(J06 x)[0]=i64 x.Const:=rfl
@[simp] theorem K9k (x:DLin):(J06 x)[1]? = some (.sl 1 (J0e x.Coeffs)):=rfl
@[simp] theorem K9e (x:DLin) (h:1<(J06 x).length):(J06 x)[1] = .sl 1 (J0e x.Coeffs):=rfl
@[simp] theorem tALin (x:DLin):List.take 2 (J06 x)=J06 x:=rfl
@[simp] theorem K97 (x:DLin):(J07 x)[0]? = some (i64 x.Const):=rfl
@[simp] theorem K8k (x:DLin) (h:0<(J07 x).length):(J07 x)[0]=i64 x.Const:=rfl
@[simp] theorem K9j (x:DLin):(J07 x)[1]? = some (.us 1 (J0e x.Coeffs)):=rfl
@[simp] theorem K8y (x:DLin) (h:1<(J07 x).length):(J07 x)[1] = .us 1 (J0e x.Coeffs):=rfl
@[simp] theorem tULin (x:DLin):List.take 2 (J07 x)=J07 x:=rfl
def Jlu (l:List Int):Nat:=l.length
def Ja1 (x:DLin):Nat:=Jlu x.Coeffs
def J5t (l:List DLin):Nat:=wL Ja1 l
def Jcm (l:List DLin):List AV:=[.sl 2 (l.map J06)]
def J26 (l:List DLin):List AV:=[.us 2 (l.map J07)]
@[simp] theorem Jmn (x:List DLin):drl (J26 x)=Jcm x:=by simp [J26,Jcm]
@[simp] theorem Jy2 (l:List (List DLin)):drr (l.map J26)=l.map Jcm:=by rw [J4o,List.map_map];exact List.map_congr_left fun x _=>Jmn x
@[simp] theorem Jvv (x:List DLin):J3i (J26 x)=true:=by simp [J26]
@[simp] theorem Jsy (l:List (List DLin)):J40 (l.map J26)=true:=by rw [J2d];simp
structure DSystem where
 N:Int
 Rows:List DLin
deriving DecidableEq
def J0f (x:DSystem):List AV:=[i64 x.N,.sl 2 (x.Rows.map J06)]
def J3e (x:DSystem):List AV:=[i64 x.N,.us 2 (x.Rows.map J07)]
@[simp] theorem Jtr (x:DSystem):(J0f x).all J0n=true:=by simp [J0f]
@[simp] theorem Jxe (x:DSystem):(J0f x).length=2:=by simp [J0f]
@[simp] theorem Jy6 (x:DSystem) (h:Heap):bwl (J0f x) h=some (J0f x):=by simp [J0f]
@[simp] theorem Jzv (x:DSystem):(J0f x)[0]? = some (i64 x.N):=rfl
@[simp] theorem K1w (x:DSystem) (h:0<(J0f x).length):(J0f x)[0]=i64 x.N:=rfl
@[simp] theorem K0b (x:DSystem):(J0f x)[1]? = some (.sl 2 (x.Rows.map J06)):=rfl
@[simp] theorem K1g (x:DSystem) (h:1<(J0f x).length):(J0f x)[1] = .sl 2 (x.Rows.map J06):=rfl
@[simp] theorem K4b (x:DSystem):List.take 2 (J0f x)=J0f x:=rfl
@[simp] theorem Jz5 (x:DSystem):(J3e x)[0]? = some (i64 x.N):=rfl
@[simp] theorem K19 (x:DSystem) (h:0<(J3e x).length):(J3e x)[0]=i64 x.N:=rfl
@[simp] theorem K0x (x:DSystem):(J3e x)[1]? = some (.us 2 (x.Rows.map J07)):=rfl
@[simp] theorem Jyy (x:DSystem) (h:1<(J3e x).length):(J3e x)[1] = .us 2 (x.Rows.map J07):=rfl
@[simp] theorem K3u (x:DSystem):List.take 2 (J3e x)=J3e x:=rfl
structure DFarkas where
 Scale:Int
 Mult:List Int
deriving DecidableEq
def J43 (x:DFarkas):List AV:=[i64 x.Scale,.sl 1 (J0e x.Mult)]
def J1i (x:DFarkas):List AV:=[i64 x.Scale,.us 1 (J0e x.Mult)]
@[simp] theorem Jst (x:DFarkas):J3i (J1i x)=true:=by simp [J1i]
@[simp] theorem Jpo (l:List (DFarkas)):J40 (l.map J1i)=true:=by rw [J2d];simp
@[simp] theorem Jz2 (x:DFarkas):(J43 x)[0]? = some (i64 x.Scale):=rfl
@[simp] theorem K15 (x:DFarkas) (h:0<(J43 x).length):(J43 x)[0]=i64 x.Scale:=rfl
@[simp] theorem Jzo (x:DFarkas):(J43 x)[1]? = some (.sl 1 (J0e x.Mult)):=rfl
@[simp] theorem K1e (x:DFarkas) (h:1<(J43 x).length):(J43 x)[1] = .sl 1 (J0e x.Mult):=rfl
@[simp] theorem K28 (x:DFarkas):List.take 2 (J43 x)=J43 x:=rfl
@[simp] theorem K12 (x:DFarkas):(J1i x)[0]? = some (i64 x.Scale):=rfl
@[simp] theorem K03 (x:DFarkas) (h:0<(J1i x).length):(J1i x)[0]=i64 x.Scale:=rfl
@[simp] theorem K0f (x:DFarkas):(J1i x)[1]? = some (.us 1 (J0e x.Mult)):=rfl
@[simp] theorem Jyx (x:DFarkas) (h:1<(J1i x).length):(J1i x)[1] = .us 1 (J0e x.Mult):=rfl
@[simp] theorem K35 (x:DFarkas):List.take 2 (J1i x)=J1i x:=rfl
structure DTerm where
 Coeff:Int
 Name:Str
deriving DecidableEq
def J10 (x:DTerm):List AV:=[i64 x.Coeff,.str x.Name]
def J4c (x:DTerm):List AV:=[i64 x.Coeff,.str x.Name]
@[simp] theorem Jp0 (x:DTerm):drl (J4c x)=J10 x:=by simp [J4c,J10]
@[simp] theorem Jxo (l:List (DTerm)):drr (l.map J4c)=l.map J10:=by rw [J4o,List.map_map];exact List.map_congr_left fun x _=>Jp0 x
@[simp] theorem Jun (x:DTerm):J3i (J4c x)=true:=by simp [J4c]
@[simp] theorem Jtm (l:List (DTerm)):J40 (l.map J4c)=true:=by rw [J2d];simp
@[simp] theorem K7m (x:DTerm):(J10 x)[0]? = some (i64 x.Coeff):=rfl
@[simp] theorem K59 (x:DTerm) (h:0<(J10 x).length):(J10 x)[0]=i64 x.Coeff:=rfl
@[simp] theorem K7f (x:DTerm):(J10 x)[1]? = some (.str x.Name):=rfl
@[simp] theorem K86 (x:DTerm) (h:1<(J10 x).length):(J10 x)[1] = .str x.Name:=rfl
@[simp] theorem K8u (x:DTerm):List.take 2 (J10 x)=J10 x:=rfl
@[simp] theorem K6r (x:DTerm):(J4c x)[0]? = some (i64 x.Coeff):=rfl
@[simp] theorem K87 (x:DTerm) (h:0<(J4c x).length):(J4c x)[0]=i64 x.Coeff:=rfl
@[simp] theorem K7i (x:DTerm):(J4c x)[1]? = some (.str x.Name):=rfl
@[simp] theorem K7h (x:DTerm) (h:1<(J4c x).length):(J4c x)[1] = .str x.Name:=rfl
@[simp] theorem K8o (x:DTerm):List.take 2 (J4c x)=J4c x:=rfl
def J7f (x:DTerm):Nat:=x.Name.length
def Jdq (l:List DTerm):Nat:=wL J7f l
structure DSum where
 Const:Int
 Terms:List DTerm
deriving DecidableEq
def J1f (x:DSum):List AV:=[i64 x.Const,.sl 2 (x.Terms.map J10)]
def J55 (x:DSum):List AV:=[i64 x.Const,.us 2 (x.Terms.map J4c)]
@[simp] theorem Js0 (x:DSum):drl (J55 x)=J1f x:=by simp [J55,J1f]
@[simp] theorem Jzy (l:List (DSum)):drr (l.map J55)=l.map J1f:=by rw [J4o,List.map_map];exact List.map_congr_left fun x _=>Js0 x
@[simp] theorem Jxp (x:DSum):J3i (J55 x)=true:=by simp [J55]
@[simp] theorem Juo (l:List (DSum)):J40 (l.map J55)=true:=by rw [J2d];simp
@[simp] theorem K3o (x:DSum):(J1f x).length=2:=by simp [J1f]
@[simp] theorem K52 (x:DSum) (h:Heap):bwl (J1f x) h=some (J1f x):=by simp [J1f]
@[simp] theorem K95 (x:DSum):(J1f x)[0]? = some (i64 x.Const):=rfl
@[simp] theorem Ka1 (x:DSum) (h:0<(J1f x).length):(J1f x)[0]=i64 x.Const:=rfl
@[simp] theorem Kab (x:DSum):(J1f x)[1]? = some (.sl 2 (x.Terms.map J10)):=rfl
@[simp] theorem Ka2 (x:DSum) (h:1<(J1f x).length):(J1f x)[1] = .sl 2 (x.Terms.map J10):=rfl
@[simp] theorem tASum (x:DSum):List.take 2 (J1f x)=J1f x:=rfl
@[simp] theorem K8n (x:DSum):(J55 x)[0]? = some (i64 x.Const):=rfl
@[simp] theorem Ka7 (x:DSum) (h:0<(J55 x).length):(J55 x)[0]=i64 x.Const:=rfl
@[simp] theorem K8x (x:DSum):(J55 x)[1]? = some (.us 2 (x.Terms.map J4c)):=rfl
@[simp] theorem K9z (x:DSum) (h:1<(J55 x).length):(J55 x)[1] = .us 2 (x.Terms.map J4c):=rfl
@[simp] theorem tUSum (x:DSum):List.take 2 (J55 x)=J55 x:=rfl
def Jbm (x:DSum):Nat:=Jdq x.Terms
def J64 (l:List DSum):Nat:=wL Jbm l
structure DArg where
 Lst:Bool
 Heads:List DSum
 Base:Str
deriving DecidableEq
def J0x (x:DArg):List AV:=[.bool x.Lst,.sl 2 (x.Heads.map J1f),.str x.Base]
def J5c (x:DArg):List AV:=[.bool x.Lst,.us 2 (x.Heads.map J55),.str x.Base]
@[simp] theorem Jpy (x:DArg):drl (J5c x)=J0x x:=by simp [J5c,J0x]
@[simp] theorem Jza (l:List (DArg)):drr (l.map J5c)=l.map J0x:=by rw [J4o,List.map_map];exact List.map_congr_left fun x _=>Jpy x
@[simp] theorem Jy8 (x:DArg):J3i (J5c x)=true:=by simp [J5c]
@[simp] theorem Jvq (l:List (DArg)):J40 (l.map J5c)=true:=by rw [J2d];simp
@[simp] theorem K4a (x:DArg):(J0x x).length=3:=by simp [J0x]
@[simp] theorem K5b (x:DArg) (h:Heap):bwl (J0x x) h=some (J0x x):=by simp [J0x]
@[simp] theorem K92 (x:DArg):(J0x x)[0]? = some (.bool x.Lst):=rfl
@[simp] theorem K8d (x:DArg) (h:0<(J0x x).length):(J0x x)[0] = .bool x.Lst:=rfl
@[simp] theorem K9y (x:DArg):(J0x x)[1]? = some (.sl 2 (x.Heads.map J1f)):=rfl
@[simp] theorem Ka9 (x:DArg) (h:1<(J0x x).length):(J0x x)[1] = .sl 2 (x.Heads.map J1f):=rfl
@[simp] theorem Ka4 (x:DArg):(J0x x)[2]? = some (.str x.Base):=rfl
@[simp] theorem K94 (x:DArg) (h:2<(J0x x).length):(J0x x)[2] = .str x.Base:=rfl
@[simp] theorem tAArg (x:DArg):List.take 3 (J0x x)=J0x x:=rfl
@[simp] theorem K91 (x:DArg):(J5c x)[0]? = some (.bool x.Lst):=rfl
@[simp] theorem K9r (x:DArg) (h:0<(J5c x).length):(J5c x)[0] = .bool x.Lst:=rfl
@[simp] theorem K9a (x:DArg):(J5c x)[1]? = some (.us 2 (x.Heads.map J55)):=rfl
@[simp] theorem Kad (x:DArg) (h:1<(J5c x).length):(J5c x)[1] = .us 2 (x.Heads.map J55):=rfl
@[simp] theorem K9q (x:DArg):(J5c x)[2]? = some (.str x.Base):=rfl
@[simp] theorem K8w (x:DArg) (h:2<(J5c x).length):(J5c x)[2] = .str x.Base:=rfl
@[simp] theorem tUArg (x:DArg):List.take 3 (J5c x)=J5c x:=rfl
def Jae (x:DArg):Nat:=J64 x.Heads+x.Base.length
def Jf0 (l:List DArg):Nat:=wL Jae l
structure DFunction where
 Name:Str
 Params:List Str
 ListResult:Bool
 Pre:List DLin
deriving DecidableEq
def J05 (x:DFunction):List AV:=[.str x.Name,.sl 1 (J0d x.Params),.bool x.ListResult,.sl 2 (x.Pre.map J06)]
def J0j (x:DFunction):List AV:=[.str x.Name,.us 1 (J0d x.Params),.bool x.ListResult,.us 2 (x.Pre.map J07)]
@[simp] theorem Jge (x:DFunction):drl (J0j x)=J05 x:=by simp [J0j,J05]
@[simp] theorem Jpj (l:List (DFunction)):drr (l.map J0j)=l.map J05:=by rw [J4o,List.map_map];exact List.map_congr_left fun x _=>Jge x
@[simp] theorem Jmi (x:DFunction):J3i (J0j x)=true:=by simp [J0j]
@[simp] theorem Jma (l:List (DFunction)):J40 (l.map J0j)=true:=by rw [J2d];simp
@[simp] theorem Jpk (x:DFunction):(J05 x).all J0n=true:=by simp [J05]
@[simp] theorem Jqq (x:DFunction):(J05 x).length=4:=by simp [J05]
@[simp] theorem Jsv (x:DFunction) (h:Heap):bwl (J05 x) h=some (J05 x):=by simp [J05]
@[simp] theorem Jx9 (x:DFunction):(J05 x)[0]? = some (.str x.Name):=rfl
@[simp] theorem Jwx (x:DFunction) (h:0<(J05 x).length):(J05 x)[0] = .str x.Name:=rfl
@[simp] theorem Jx4 (x:DFunction):(J05 x)[1]? = some (.sl 1 (J0d x.Params)):=rfl
@[simp] theorem Ju2 (x:DFunction) (h:1<(J05 x).length):(J05 x)[1] = .sl 1 (J0d x.Params):=rfl
@[simp] theorem Jut (x:DFunction):(J05 x)[2]? = some (.bool x.ListResult):=rfl
@[simp] theorem Jv5 (x:DFunction) (h:2<(J05 x).length):(J05 x)[2] = .bool x.ListResult:=rfl
@[simp] theorem Jv1 (x:DFunction):(J05 x)[3]? = some (.sl 2 (x.Pre.map J06)):=rfl
@[simp] theorem Jw9 (x:DFunction) (h:3<(J05 x).length):(J05 x)[3] = .sl 2 (x.Pre.map J06):=rfl
@[simp] theorem Jxs (x:DFunction):List.take 4 (J05 x)=J05 x:=rfl
@[simp] theorem Jvm (x:DFunction):(J0j x)[0]? = some (.str x.Name):=rfl
@[simp] theorem Jvu (x:DFunction) (h:0<(J0j x).length):(J0j x)[0] = .str x.Name:=rfl
@[simp] theorem Jwk (x:DFunction):(J0j x)[1]? = some (.us 1 (J0d x.Params)):=rfl
@[simp] theorem Jtu (x:DFunction) (h:1<(J0j x).length):(J0j x)[1] = .us 1 (J0d x.Params):=rfl
@[simp] theorem Jul (x:DFunction):(J0j x)[2]? = some (.bool x.ListResult):=rfl
@[simp] theorem Jv6 (x:DFunction) (h:2<(J0j x).length):(J0j x)[2] = .bool x.ListResult:=rfl
@[simp] theorem Jwg (x:DFunction):(J0j x)[3]? = some (.us 2 (x.Pre.map J07)):=rfl
@[simp] theorem Jvp (x:DFunction) (h:3<(J0j x).length):(J0j x)[3] = .us 2 (x.Pre.map J07):=rfl
@[simp] theorem Jy0 (x:DFunction):List.take 4 (J0j x)=J0j x:=rfl
def J45 (l:List Str):Nat:=wL List.length l
def J12 (x:DFunction):Nat:=x.Name.length+J45 x.Params+J5t x.Pre
def J29 (l:List DFunction):Nat:=wL J12 l
structure DPattern where
 Lst:Str
 Cons:Bool
 Head:Str
 Tail:Str
deriving DecidableEq
def J08 (x:DPattern):List AV:=[.str x.Lst,.bool x.Cons,.str x.Head,.str x.Tail]
def J1m (x:DPattern):List AV:=[.str x.Lst,.bool x.Cons,.str x.Head,.str x.Tail]
@[simp] theorem Jin (x:DPattern):drl (J1m x)=J08 x:=by simp [J1m,J08]
@[simp] theorem Jqv (l:List (DPattern)):drr (l.map J1m)=l.map J08:=by rw [J4o,List.map_map];exact List.map_congr_left fun x _=>Jin x
@[simp] theorem Jps (x:DPattern):J3i (J1m x)=true:=by simp [J1m]
@[simp] theorem Jod (l:List (DPattern)):J40 (l.map J1m)=true:=by rw [J2d];simp
@[simp] theorem Jto (x:DPattern):(J08 x).length=4:=by simp [J08]
@[simp] theorem Jyl (x:DPattern):(J08 x)[0]? = some (.str x.Lst):=rfl
@[simp] theorem Jys (x:DPattern) (h:0<(J08 x).length):(J08 x)[0] = .str x.Lst:=rfl
@[simp] theorem Jyi (x:DPattern):(J08 x)[1]? = some (.bool x.Cons):=rfl
@[simp] theorem Jxy (x:DPattern) (h:1<(J08 x).length):(J08 x)[1] = .bool x.Cons:=rfl
@[simp] theorem Jyn (x:DPattern):(J08 x)[2]? = some (.str x.Head):=rfl
@[simp] theorem Jyg (x:DPattern) (h:2<(J08 x).length):(J08 x)[2] = .str x.Head:=rfl
@[simp] theorem Jy4 (x:DPattern):(J08 x)[3]? = some (.str x.Tail):=rfl
@[simp] theorem Jyc (x:DPattern) (h:3<(J08 x).length):(J08 x)[3] = .str x.Tail:=rfl
@[simp] theorem K14 (x:DPattern):List.take 4 (J08 x)=J08 x:=rfl
@[simp] theorem Jyt (x:DPattern):(J1m x)[0]? = some (.str x.Lst):=rfl
@[simp] theorem Jyo (x:DPattern) (h:0<(J1m x).length):(J1m x)[0] = .str x.Lst:=rfl
@[simp] theorem Jyd (x:DPattern):(J1m x)[1]? = some (.bool x.Cons):=rfl
@[simp] theorem Jxl (x:DPattern) (h:1<(J1m x).length):(J1m x)[1] = .bool x.Cons:=rfl
@[simp] theorem Jy7 (x:DPattern):(J1m x)[2]? = some (.str x.Head):=rfl
@[simp] theorem Jyq (x:DPattern) (h:2<(J1m x).length):(J1m x)[2] = .str x.Head:=rfl
@[simp] theorem Jxg (x:DPattern):(J1m x)[3]? = some (.str x.Tail):=rfl
@[simp] theorem Jxi (x:DPattern) (h:3<(J1m x).length):(J1m x)[3] = .str x.Tail:=rfl
@[simp] theorem K01 (x:DPattern):List.take 4 (J1m x)=J1m x:=rfl
def J38 (x:DPattern):Nat:=x.Lst.length+x.Head.length+x.Tail.length
def J2z (l:List DPattern):Nat:=wL J38 l
structure DCall where
 Bind:Str
 Func:Str
 Args:List DArg
deriving DecidableEq
def J0z (x:DCall):List AV:=[.str x.Bind,.str x.Func,.sl 3 (x.Args.map J0x)]
def J3o (x:DCall):List AV:=[.str x.Bind,.str x.Func,.us 3 (x.Args.map J5c)]
@[simp] theorem Jol (x:DCall):drl (J3o x)=J0z x:=by simp [J3o,J0z]
@[simp] theorem Jya (l:List (DCall)):drr (l.map J3o)=l.map J0z:=by rw [J4o,List.map_map];exact List.map_congr_left fun x _=>Jol x
@[simp] theorem Jvz (x:DCall):J3i (J3o x)=true:=by simp [J3o]
@[simp] theorem Jte (l:List (DCall)):J40 (l.map J3o)=true:=by rw [J2d];simp
@[simp] theorem K1o (x:DCall):(J0z x).length=3:=by simp [J0z]
@[simp] theorem K3c (x:DCall) (h:Heap):bwl (J0z x) h=some (J0z x):=by simp [J0z]
@[simp] theorem K88 (x:DCall):(J0z x)[0]? = some (.str x.Bind):=rfl
@[simp] theorem K81 (x:DCall) (h:0<(J0z x).length):(J0z x)[0] = .str x.Bind:=rfl
@[simp] theorem K7n (x:DCall):(J0z x)[1]? = some (.str x.Func):=rfl
@[simp] theorem K4t (x:DCall) (h:1<(J0z x).length):(J0z x)[1] = .str x.Func:=rfl
@[simp] theorem K51 (x:DCall):(J0z x)[2]? = some (.sl 3 (x.Args.map J0x)):=rfl
@[simp] theorem K8c (x:DCall) (h:2<(J0z x).length):(J0z x)[2] = .sl 3 (x.Args.map J0x):=rfl
@[simp] theorem K90 (x:DCall):List.take 3 (J0z x)=J0z x:=rfl
@[simp] theorem K6s (x:DCall):(J3o x)[0]? = some (.str x.Bind):=rfl
@[simp] theorem K6b (x:DCall) (h:0<(J3o x).length):(J3o x)[0] = .str x.Bind:=rfl
@[simp] theorem K4z (x:DCall):(J3o x)[1]? = some (.str x.Func):=rfl
@[simp] theorem K62 (x:DCall) (h:1<(J3o x).length):(J3o x)[1] = .str x.Func:=rfl
@[simp] theorem K5t (x:DCall):(J3o x)[2]? = some (.us 3 (x.Args.map J5c)):=rfl
@[simp] theorem K4w (x:DCall) (h:2<(J3o x).length):(J3o x)[2] = .us 3 (x.Args.map J5c):=rfl
@[simp] theorem K98 (x:DCall):List.take 3 (J3o x)=J3o x:=rfl
def J5u (x:DCall):Nat:=x.Bind.length+x.Func.length+Jf0 x.Args
def J8k (l:List DCall):Nat:=wL J5u l
structure DRule where
 Func:Str
 Patterns:List DPattern
 Guards:List DSum
 Calls:List DCall
 Result:DArg
deriving DecidableEq
def J0c (x:DRule):List AV:=[.str x.Func,.sl 4 (x.Patterns.map J08),.sl 2 (x.Guards.map J1f),.sl 3 (x.Calls.map J0z),.bool x.Result.Lst,.sl 2 (x.Result.Heads.map J1f),.str x.Result.Base]
def J27 (x:DRule):List AV:=[.str x.Func,.us 4 (x.Patterns.map J1m),.us 2 (x.Guards.map J55),.us 3 (x.Calls.map J3o),.bool x.Result.Lst,.us 2 (x.Result.Heads.map J55),.str x.Result.Base]
@[simp] theorem Jog (x:DRule):drl (J27 x)=J0c x:=by simp [J27,J0c]
@[simp] theorem Jxv (l:List (DRule)):drr (l.map J27)=l.map J0c:=by rw [J4o,List.map_map];exact List.map_congr_left fun x _=>Jog x
@[simp] theorem Ju4 (x:DRule):J3i (J27 x)=true:=by simp [J27]
@[simp] theorem Jt1 (l:List (DRule)):J40 (l.map J27)=true:=by rw [J2d];simp
@[simp] theorem Jye (x:DRule):(J0c x).all J0n=true:=by simp [J0c]
@[simp] theorem K05 (x:DRule):(J0c x).length=7:=by simp [J0c]
@[simp] theorem K41 (x:DRule) (h:Heap):bwl (J0c x) h=some (J0c x):=by simp [J0c]
@[simp] theorem K5x (x:DRule):(J0c x)[0]? = some (.str x.Func):=rfl
@[simp] theorem K6e (x:DRule) (h:0<(J0c x).length):(J0c x)[0] = .str x.Func:=rfl
@[simp] theorem K7s (x:DRule):(J0c x)[1]? = some (.sl 4 (x.Patterns.map J08)):=rfl
@[simp] theorem K6l (x:DRule) (h:1<(J0c x).length):(J0c x)[1] = .sl 4 (x.Patterns.map J08):=rfl
@[simp] theorem K6k (x:DRule):(J0c x)[2]? = some (.sl 2 (x.Guards.map J1f)):=rfl
@[simp] theorem K7q (x:DRule) (h:2<(J0c x).length):(J0c x)[2] = .sl 2 (x.Guards.map J1f):=rfl
@[simp] theorem K6q (x:DRule):(J0c x)[3]? = some (.sl 3 (x.Calls.map J0z)):=rfl
@[simp] theorem K76 (x:DRule) (h:3<(J0c x).length):(J0c x)[3] = .sl 3 (x.Calls.map J0z):=rfl
@[simp] theorem K64 (x:DRule):(J0c x)[4]? = some (.bool x.Result.Lst):=rfl
@[simp] theorem K6h (x:DRule) (h:4<(J0c x).length):(J0c x)[4] = .bool x.Result.Lst:=rfl
@[simp] theorem K4r (x:DRule):(J0c x)[5]? = some (.sl 2 (x.Result.Heads.map J1f)):=rfl
@[simp] theorem K89 (x:DRule) (h:5<(J0c x).length):(J0c x)[5] = .sl 2 (x.Result.Heads.map J1f):=rfl
@[simp] theorem K6o (x:DRule):(J0c x)[6]? = some (.str x.Result.Base):=rfl
@[simp] theorem K6x (x:DRule) (h:6<(J0c x).length):(J0c x)[6] = .str x.Result.Base:=rfl
@[simp] theorem K8l (x:DRule):List.take 7 (J0c x)=J0c x:=rfl
@[simp] theorem Jsc (x:DRule):List.take 3 (List.drop 4 (J0c x))=J0x x.Result:=rfl
@[simp] theorem K6f (x:DRule):(J27 x)[0]? = some (.str x.Func):=rfl
@[simp] theorem K6v (x:DRule) (h:0<(J27 x).length):(J27 x)[0] = .str x.Func:=rfl
@[simp] theorem K66 (x:DRule):(J27 x)[1]? = some (.us 4 (x.Patterns.map J1m)):=rfl
@[simp] theorem K7t (x:DRule) (h:1<(J27 x).length):(J27 x)[1] = .us 4 (x.Patterns.map J1m):=rfl
@[simp] theorem K63 (x:DRule):(J27 x)[2]? = some (.us 2 (x.Guards.map J55)):=rfl
@[simp] theorem K6u (x:DRule) (h:2<(J27 x).length):(J27 x)[2] = .us 2 (x.Guards.map J55):=rfl
@[simp] theorem K5u (x:DRule):(J27 x)[3]? = some (.us 3 (x.Calls.map J3o)):=rfl
@[simp] theorem K78 (x:DRule) (h:3<(J27 x).length):(J27 x)[3] = .us 3 (x.Calls.map J3o):=rfl
@[simp] theorem K5q (x:DRule):(J27 x)[4]? = some (.bool x.Result.Lst):=rfl
@[simp] theorem K5c (x:DRule) (h:4<(J27 x).length):(J27 x)[4] = .bool x.Result.Lst:=rfl
@[simp] theorem K7r (x:DRule):(J27 x)[5]? = some (.us 2 (x.Result.Heads.map J55)):=rfl
@[simp] theorem K7c (x:DRule) (h:5<(J27 x).length):(J27 x)[5] = .us 2 (x.Result.Heads.map J55):=rfl
@[simp] theorem K6n (x:DRule):(J27 x)[6]? = some (.str x.Result.Base):=rfl
@[simp] theorem K5h (x:DRule) (h:6<(J27 x).length):(J27 x)[6] = .str x.Result.Base:=rfl
@[simp] theorem Ka6 (x:DRule):List.take 7 (J27 x)=J27 x:=rfl
@[simp] theorem Jra (x:DRule):List.take 3 (List.drop 4 (J27 x))=J5c x.Result:=rfl
def J4l (x:DRule):Nat:=x.Func.length+J2z x.Patterns+J64 x.Guards+J8k x.Calls+Jae x.Result
def J8v (l:List DRule):Nat:=wL J4l l
structure DProgram where
 Functions:List DFunction
 Rules:List DRule
deriving DecidableEq
def J03 (x:DProgram):List AV:=[.sl 4 (x.Functions.map J05),.sl 7 (x.Rules.map J0c)]
def J1n (x:DProgram):List AV:=[.us 4 (x.Functions.map J0j),.us 7 (x.Rules.map J27)]
@[simp] theorem Jr5 (x:DProgram):(J03 x).all J0n=true:=by simp [J03]
@[simp] theorem Jt6 (x:DProgram):(J03 x).length=2:=by simp [J03]
@[simp] theorem Jv4 (x:DProgram) (h:Heap):bwl (J03 x) h=some (J03 x):=by simp [J03]
@[simp] theorem Jyv (x:DProgram):(J03 x)[0]? = some (.sl 4 (x.Functions.map J05)):=rfl
@[simp] theorem Jxk (x:DProgram) (h:0<(J03 x).length):(J03 x)[0] = .sl 4 (x.Functions.map J05):=rfl
@[simp] theorem Jxq (x:DProgram):(J03 x)[1]? = some (.sl 7 (x.Rules.map J0c)):=rfl
@[simp] theorem Jym (x:DProgram) (h:1<(J03 x).length):(J03 x)[1] = .sl 7 (x.Rules.map J0c):=rfl
@[simp] theorem Jyw (x:DProgram):List.take 2 (J03 x)=J03 x:=rfl
@[simp] theorem Jyf (x:DProgram):(J1n x)[0]? = some (.us 4 (x.Functions.map J0j)):=rfl
@[simp] theorem Jxt (x:DProgram) (h:0<(J1n x).length):(J1n x)[0] = .us 4 (x.Functions.map J0j):=rfl
@[simp] theorem Jyj (x:DProgram):(J1n x)[1]? = some (.us 7 (x.Rules.map J27)):=rfl
@[simp] theorem Jyb (x:DProgram) (h:1<(J1n x).length):(J1n x)[1] = .us 7 (x.Rules.map J27):=rfl
@[simp] theorem K10 (x:DProgram):List.take 2 (J1n x)=J1n x:=rfl
def J0r (x:DProgram):Nat:=J29 x.Functions+J8v x.Rules
structure DModel where
 System:DSystem
 Params:List DLin
 Args:List (List DLin)
 Result:DLin
deriving DecidableEq
def J15 (x:DModel):List AV:=[i64 x.System.N,.sl 2 (x.System.Rows.map J06),.sl 2 (x.Params.map J06),.sl 1 (x.Args.map Jcm),i64 x.Result.Const,.sl 1 (J0e x.Result.Coeffs)]
def J22 (x:DModel):List AV:=[i64 x.System.N,.us 2 (x.System.Rows.map J07),.us 2 (x.Params.map J07),.us 1 (x.Args.map J26),i64 x.Result.Const,.us 1 (J0e x.Result.Coeffs)]
@[simp] theorem Jyh (x:DModel):drl (J22 x)=J15 x:=by simp [J22,J15]
@[simp] theorem Jwh (x:DModel):(J15 x).all J0n=true:=by simp [J15]
@[simp] theorem Jyp (x:DModel):(J15 x).length=6:=by simp [J15]
@[simp] theorem Jzh (x:DModel) (h:Heap):bwl (J15 x) h=some (J15 x):=by simp [J15]
@[simp] theorem K36 (x:DModel):(J15 x)[0]? = some (i64 x.System.N):=rfl
@[simp] theorem K2a (x:DModel) (h:0<(J15 x).length):(J15 x)[0]=i64 x.System.N:=rfl
@[simp] theorem K3t (x:DModel):(J15 x)[1]? = some (.sl 2 (x.System.Rows.map J06)):=rfl
@[simp] theorem K3p (x:DModel) (h:1<(J15 x).length):(J15 x)[1] = .sl 2 (x.System.Rows.map J06):=rfl
@[simp] theorem K4h (x:DModel):(J15 x)[2]? = some (.sl 2 (x.Params.map J06)):=rfl
@[simp] theorem K32 (x:DModel) (h:2<(J15 x).length):(J15 x)[2] = .sl 2 (x.Params.map J06):=rfl
@[simp] theorem K2k (x:DModel):(J15 x)[3]? = some (.sl 1 (x.Args.map Jcm)):=rfl
@[simp] theorem K2q (x:DModel) (h:3<(J15 x).length):(J15 x)[3] = .sl 1 (x.Args.map Jcm):=rfl
@[simp] theorem K4n (x:DModel):(J15 x)[4]? = some (i64 x.Result.Const):=rfl
@[simp] theorem K29 (x:DModel) (h:4<(J15 x).length):(J15 x)[4]=i64 x.Result.Const:=rfl
@[simp] theorem K3g (x:DModel):(J15 x)[5]? = some (.sl 1 (J0e x.Result.Coeffs)):=rfl
@[simp] theorem K43 (x:DModel) (h:5<(J15 x).length):(J15 x)[5] = .sl 1 (J0e x.Result.Coeffs):=rfl
@[simp] theorem K69 (x:DModel):List.take 6 (J15 x)=J15 x:=rfl
@[simp] theorem Jpp (x:DModel):List.take 2 (J15 x)=J0f x.System:=rfl
@[simp] theorem Jph (x:DModel):List.take 2 (List.drop 4 (J15 x))=J06 x.Result:=rfl
@[simp] theorem K3y (x:DModel):(J22 x)[0]? = some (i64 x.System.N):=rfl
@[simp] theorem K2s (x:DModel) (h:0<(J22 x).length):(J22 x)[0]=i64 x.System.N:=rfl
@[simp] theorem K2o (x:DModel):(J22 x)[1]? = some (.us 2 (x.System.Rows.map J07)):=rfl
@[simp] theorem K4o (x:DModel) (h:1<(J22 x).length):(J22 x)[1] = .us 2 (x.System.Rows.map J07):=rfl
@[simp] theorem K3i (x:DModel):(J22 x)[2]? = some (.us 2 (x.Params.map J07)):=rfl
@[simp] theorem K49 (x:DModel) (h:2<(J22 x).length):(J22 x)[2] = .us 2 (x.Params.map J07):=rfl
@[simp] theorem K3x (x:DModel):(J22 x)[3]? = some (.us 1 (x.Args.map J26)):=rfl
@[simp] theorem K2d (x:DModel) (h:3<(J22 x).length):(J22 x)[3] = .us 1 (x.Args.map J26):=rfl
@[simp] theorem K42 (x:DModel):(J22 x)[4]? = some (i64 x.Result.Const):=rfl
@[simp] theorem K2y (x:DModel) (h:4<(J22 x).length):(J22 x)[4]=i64 x.Result.Const:=rfl
@[simp] theorem K34 (x:DModel):(J22 x)[5]? = some (.us 1 (J0e x.Result.Coeffs)):=rfl
@[simp] theorem K4l (x:DModel) (h:5<(J22 x).length):(J22 x)[5] = .us 1 (J0e x.Result.Coeffs):=rfl
@[simp] theorem K53 (x:DModel):List.take 6 (J22 x)=J22 x:=rfl
@[simp] theorem Jpn (x:DModel):List.take 2 (J22 x)=J3e x.System:=rfl
@[simp] theorem Jpl (x:DModel):List.take 2 (List.drop 4 (J22 x))=J07 x.Result:=rfl
structure DObligation where
 System:DSystem
 Target:DLin
deriving DecidableEq
def J0v (x:DObligation):List AV:=[i64 x.System.N,.sl 2 (x.System.Rows.map J06),i64 x.Target.Const,.sl 1 (J0e x.Target.Coeffs)]
def J0i (x:DObligation):List AV:=[i64 x.System.N,.us 2 (x.System.Rows.map J07),i64 x.Target.Const,.us 1 (J0e x.Target.Coeffs)]
@[simp] theorem Jds (x:DObligation):drl (J0i x)=J0v x:=by simp [J0i,J0v]
@[simp] theorem Jmb (l:List (DObligation)):drr (l.map J0i)=l.map J0v:=by rw [J4o,List.map_map];exact List.map_congr_left fun x _=>Jds x
@[simp] theorem Jlo (x:DObligation):J3i (J0i x)=true:=by simp [J0i]
@[simp] theorem Jlc (l:List (DObligation)):J40 (l.map J0i)=true:=by rw [J2d];simp
@[simp] theorem Jsl (x:DObligation):(J0v x)[0]? = some (i64 x.System.N):=rfl
@[simp] theorem Jqp (x:DObligation) (h:0<(J0v x).length):(J0v x)[0]=i64 x.System.N:=rfl
@[simp] theorem Jqj (x:DObligation):(J0v x)[1]? = some (.sl 2 (x.System.Rows.map J06)):=rfl
@[simp] theorem Jqc (x:DObligation) (h:1<(J0v x).length):(J0v x)[1] = .sl 2 (x.System.Rows.map J06):=rfl
@[simp] theorem Js4 (x:DObligation):(J0v x)[2]? = some (i64 x.Target.Const):=rfl
@[simp] theorem Jre (x:DObligation) (h:2<(J0v x).length):(J0v x)[2]=i64 x.Target.Const:=rfl
@[simp] theorem Jpt (x:DObligation):(J0v x)[3]? = some (.sl 1 (J0e x.Target.Coeffs)):=rfl
@[simp] theorem Jrv (x:DObligation) (h:3<(J0v x).length):(J0v x)[3] = .sl 1 (J0e x.Target.Coeffs):=rfl
@[simp] theorem Jtd (x:DObligation):List.take 4 (J0v x)=J0v x:=rfl
@[simp] theorem Jj2 (x:DObligation):List.take 2 (J0v x)=J0f x.System:=rfl
@[simp] theorem Jjl (x:DObligation):List.take 2 (List.drop 2 (J0v x))=J06 x.Target:=rfl
@[simp] theorem Jru (x:DObligation):(J0i x)[0]? = some (i64 x.System.N):=rfl
@[simp] theorem Jpz (x:DObligation) (h:0<(J0i x).length):(J0i x)[0]=i64 x.System.N:=rfl
@[simp] theorem Jr4 (x:DObligation):(J0i x)[1]? = some (.us 2 (x.System.Rows.map J07)):=rfl
@[simp] theorem Jpx (x:DObligation) (h:1<(J0i x).length):(J0i x)[1] = .us 2 (x.System.Rows.map J07):=rfl
@[simp] theorem Jqf (x:DObligation):(J0i x)[2]? = some (i64 x.Target.Const):=rfl
@[simp] theorem Jqz (x:DObligation) (h:2<(J0i x).length):(J0i x)[2]=i64 x.Target.Const:=rfl
@[simp] theorem Jrm (x:DObligation):(J0i x)[3]? = some (.us 1 (J0e x.Target.Coeffs)):=rfl
@[simp] theorem Jr7 (x:DObligation) (h:3<(J0i x).length):(J0i x)[3] = .us 1 (J0e x.Target.Coeffs):=rfl
@[simp] theorem Jt4 (x:DObligation):List.take 4 (J0i x)=J0i x:=rfl
@[simp] theorem Jjf (x:DObligation):List.take 2 (J0i x)=J3e x.System:=rfl
@[simp] theorem Jje (x:DObligation):List.take 2 (List.drop 2 (J0i x))=J07 x.Target:=rfl
structure DEdge where
 Rule:Int
 Call:Int
deriving DecidableEq
def J2f (x:DEdge):List AV:=[i64 x.Rule,i64 x.Call]
def J3u (x:DEdge):List AV:=[i64 x.Rule,i64 x.Call]
@[simp] theorem Jng (x:DEdge):drl (J3u x)=J2f x:=by simp [J3u,J2f]
@[simp] theorem Jxu (l:List (DEdge)):drr (l.map J3u)=l.map J2f:=by rw [J4o,List.map_map];exact List.map_congr_left fun x _=>Jng x
@[simp] theorem Jx5 (x:DEdge):J3i (J3u x)=true:=by simp [J3u]
@[simp] theorem Jtn (l:List (DEdge)):J40 (l.map J3u)=true:=by rw [J2d];simp
@[simp] theorem Jxx (x:DEdge):(J2f x).all J0n=true:=by simp [J2f]
@[simp] theorem Jzz (x:DEdge):(J2f x).length=2:=by simp [J2f]
@[simp] theorem K2r (x:DEdge) (h:Heap):bwl (J2f x) h=some (J2f x):=by simp [J2f]
@[simp] theorem K7z (x:DEdge):(J2f x)[0]? = some (i64 x.Rule):=rfl
@[simp] theorem K6t (x:DEdge) (h:0<(J2f x).length):(J2f x)[0]=i64 x.Rule:=rfl
@[simp] theorem K6c (x:DEdge):(J2f x)[1]? = some (i64 x.Call):=rfl
@[simp] theorem K5m (x:DEdge) (h:1<(J2f x).length):(J2f x)[1]=i64 x.Call:=rfl
@[simp] theorem K9f (x:DEdge):List.take 2 (J2f x)=J2f x:=rfl
@[simp] theorem K83 (x:DEdge):(J3u x)[0]? = some (i64 x.Rule):=rfl
@[simp] theorem K84 (x:DEdge) (h:0<(J3u x).length):(J3u x)[0]=i64 x.Rule:=rfl
@[simp] theorem K5n (x:DEdge):(J3u x)[1]? = some (i64 x.Call):=rfl
@[simp] theorem K7a (x:DEdge) (h:1<(J3u x).length):(J3u x)[1]=i64 x.Call:=rfl
@[simp] theorem Ka5 (x:DEdge):List.take 2 (J3u x)=J3u x:=rfl
end Go.Proofs.YtoclolkigjbcgaaGreat
namespace Go.Proofs.YtoclolkigjbcgaaGreat
set_option linter.all false
open Go Go.RowKit
attribute [simp] K0l Jjn J58
@[simp] theorem K54 {h:Heap}{K:AV→Heap→Nat→Prop}{r:AV}{n:Nat} : hK h K r h n=K r h n:=by simp [hK,J8l.refl]
mutual
def Jrk:AV→Prop
 | .sl _ rows=>rows.length≤LIM
 | .us _ rows=>rows.length≤LIM
 | .str l=>l.length≤LIM
 | .agg cs=>Jsx cs
 | .tup cs=>Jsx cs
 | .undef | .int .. | .bool _ | .nil _ | .nilp | .ptr .. | .fptr .. | .ref .. | .fn .. | .mp _=>True
def Jsx:List AV→Prop
 | []=>True
 | a::as=>Jrk a∧Jsx as
end
section
variable {w:World}{L:Nat→Option Loc}{N:Nat}
mutual
theorem K0i:∀ (a:AV) (v:Value) (S:List Nat),VR w L N a v S→Jrk a
 | .sl ..,_,_,h=>by
  simp only [VR] at h
  obtain ⟨⟨A,cap,vals,_,hl,_⟩,_⟩:=h
  simp only [Jrk];exact hl.1
 | .us ..,_,_,h=>by simp only [VR] at h;simp only [Jrk];exact h.1
 | .str _,_,_,h=>by
  simp only [VR] at h
  obtain ⟨⟨b,_,_,hl⟩,_⟩:=h
  simp only [Jrk];exact hl
 | .agg cs,_,_,h=>by simp only [VR] at h;obtain ⟨vs,_,h⟩:=h;simp only [Jrk];exact Jgq cs _ _ h
 | .tup cs,_,_,h=>by simp only [VR] at h;obtain ⟨vs,_,h⟩:=h;simp only [Jrk];exact Jgq cs _ _ h
 | .undef,_,_,_ | .int ..,_,_,_ | .bool _,_,_,_ | .nil _,_,_,_ | .nilp,_,_,_ | .ptr ..,_,_,_ | .fptr ..,_,_,_ | .ref ..,_,_,_ | .fn ..,_,_,_ | .mp _,_,_,_=>by simp only [Jrk]
theorem Jgq:∀ (as:List AV) (vs:List Value) (S:List Nat),VRl w L N as vs S→Jsx as
 | [],_,_,_=>by simp only [Jsx]
 | a::as,_,_,h=>by
  simp only [VRl] at h
  obtain ⟨v,vs',S1,S2,_,_,h1,h2⟩:=h
  simp only [Jsx];exact ⟨K0i a _ _ h1,Jgq as _ _ h2⟩
end
end
theorem J1k {P:Program}{f:FuncId}{fn:Func}{as:List AV}{Q:AV→Prop}(hf:P.funcs[f]? = some fn) (hb:fn.body.isSome=true) (hn:(fn.name == "runtime.NumGoroutine")=false) (h:Jsx as→Holds P f as Q):Holds P f as Q:=
 ⟨by simp [J73,hf,hb,hn],fun w vs hv=>(h (Jgq as vs [] hv)).2 w vs hv⟩
attribute [simp] Jrk Jsx
theorem J90 {P:Program}{K K':Env→Heap→Nat→Prop}(hk:∀ s h n,K s h n→K' s h n):∀ {os:List AO}{s:Env}{h:Heap}{n:Nat},Jh2 P os s h n K→Jh2 P os s h n K'
 | [],s,h,n,hw=>hk s h n hw
 | o::os,s,h,n,hw=>by
  simp only [Jh2] at hw ⊢
  cases hg:o.g with
  | none=>rw [hg] at hw;exact J81 hw fun _ _ _ h=>J90 hk h
  | some p=>
   obtain ⟨j,want⟩:=p
   rw [hg] at hw
   simp only at hw ⊢
   cases hs:s j <;> rw [hs] at hw <;> try exact hw.elim
   ·exact ⟨fun e=>J81 (hw.1 e) fun _ _ _ h=>J90 hk h,fun e=>J90 hk (hw.2 e)⟩
   ·rename_i vs
    cases vs
    ·exact J90 hk hw
    ·exact hw.elim
theorem Jay {P:Program}{s:Env}{h:Heap}{n:Nat}{K K':AV→Heap→Nat→Prop}{op:AOp}(hw:J5k P s h n K op) (hk:∀ r h n,K r h n→K' r h n):J5k P s h n K' op:=by
 unfold J5k at hw ⊢
 split at hw
 ·split at hw
  ·rename_i hf;try simp only [hf]
   exact J31.mono hw fun _ _ _ h=>⟨h.1,hk _ _ _ h.2⟩
  ·exact hw.elim
 ·split at hw
  ·exact hk _ _ _ hw
  ·exact hk _ _ _ hw
  ·exact ⟨hw.1,hk _ _ _ hw.2⟩
  ·exact hk _ _ _ hw
  ·exact hw.elim
 ·exact J81 hw hk
theorem J4b {P:Program}{K K':Env→Heap→Nat→Prop}(hk:∀ s h n,K s h n→K' s h n):∀ {t:DT}{s:Env}{h:Heap}{n:Nat},J7o P t s h n K→J7o P t s h n K'
 | .fin,s,h,n,hw=>hk s h n hw
 | .stuck,_,_,_,hw=>hw.elim
 | .both a b,s,h,n,hw=>⟨J4b hk hw.1,J4b hk hw.2⟩
 | .op o t,s,h,n,hw=>by
  simp only [J7o] at hw ⊢
  cases hg:o.g with
  | none=>rw [hg] at hw;exact Jay hw fun _ _ _ h=>J4b hk h
  | some p=>
   obtain ⟨j,want⟩:=p
   rw [hg] at hw
   simp only at hw ⊢
   cases hs:s j <;> rw [hs] at hw <;> try exact hw.elim
   ·exact ⟨fun e=>Jay (hw.1 e) fun _ _ _ h=>J4b hk h,fun e=>J4b hk (hw.2 e)⟩
   ·rename_i vs
    cases vs
    ·exact J4b hk hw
    ·exact hw.elim
 | .hop o ps t,s,h,n,hw=>by
  simp only [J7o] at hw ⊢
  cases hg:o.g with
  | none=>rw [hg] at hw;exact Jay hw fun _ _ _ h=>⟨h.1,J4b hk h.2⟩
  | some p=>
   obtain ⟨j,want⟩:=p
   rw [hg] at hw
   simp only at hw ⊢
   cases hs:s j <;> rw [hs] at hw <;> try exact hw.elim
   ·exact ⟨fun e=>Jay (hw.1 e) fun _ _ _ h=>⟨h.1,J4b hk h.2⟩,fun e=>J4b hk (hw.2 e)⟩
   ·rename_i vs
    cases vs
    ·exact J4b hk hw
    ·exact hw.elim
theorem Jdd {P:Program} : ∀ {a:AC}{s:Env}{h:Heap}{n:Nat}{Q Q':Fin},awp P a s h n Q→(∀ e s h n,Q e s h n→Q' e s h n)→awp P a s h n Q':=by
 intro a
 induction a with
 | skip=>intro s h n Q Q' hw hq;exact hq _ _ _ _ hw
 | reg os=>intro s h n Q Q' hw hq;exact J90 (hq .normal) hw
 | seq a b iha ihb=>
  intro s h n Q Q' hw hq
  refine iha hw fun e s h n hh => ?_
  cases e
  ·exact ihb hh hq
  ·exact hq _ _ _ _ hh
  ·exact hq _ _ _ _ hh
 | cond c a b iha ihb=>
  intro s h n Q Q' hw hq
  simp only [awp] at hw ⊢
  split at hw
  ·exact ⟨fun e=>iha (hw.1 e) hq,fun e=>ihb (hw.2 e) hq⟩
  ·exact hw.elim
 | blk id a iha=>
  intro s h n Q Q' hw hq
  refine iha hw fun e s h n hh => ?_
  cases e
  ·exact hq _ _ _ _ hh
  ·simp only at hh ⊢;split
   ·rename_i hx;rw [if_pos hx] at hh;exact hq _ _ _ _ hh
   ·rename_i hx;rw [if_neg hx] at hh;exact hq _ _ _ _ hh
  ·exact hq _ _ _ _ hh
 | loop a iha=>
  intro s h n Q Q' hw hq
  obtain ⟨I,h0,hs⟩:=hw
  refine ⟨I,h0,fun k s h n hi=>iha (hs k s h n hi) fun e s h n hh => ?_⟩
  cases e
  ·exact hh
  ·exact hq _ _ _ _ hh
  ·exact hq _ _ _ _ hh
 | exit id=>intro s h n Q Q' hw hq;exact hq _ _ _ _ hw
 | ret=>intro s h n Q Q' hw hq;exact hq _ _ _ _ hw
 | draw t=>intro s h n Q Q' hw hq;exact J4b (hq .normal) hw
@[simp ↓ high] theorem Jgv {P:Program}{ks:List Kt}{s:Env}{h:Heap}{n:Nat}{Q:Fin}{c:Opd}{a b:AC}(hc:ev s c = .bool true):rC P (.cond c a b) ks s h n Q=rC P a ks s h n Q:=by
 rw [Ja6,hc];simp [gd]
@[simp ↓ high] theorem Jkz {P:Program}{ks:List Kt}{s:Env}{h:Heap}{n:Nat}{Q:Fin}{c:Opd}{a b:AC}(hc:ev s c = .bool false):rC P (.cond c a b) ks s h n Q=rC P b ks s h n Q:=by
 rw [Ja6,hc];simp [gd]
section
variable {P:Program}{s:Env}{h:Heap}{n:Nat}{ks:List Kt}{Q:Fin}{a:AC}
def Jzn (P:Program) (ks:List Kt) (Q:Fin) (keep:List Nat) (s0:Env) (ic i:Nat) (J:Nat→Env→Heap→Nat→Prop):Fin:=fun e s h n=>match e with
 | .normal=>(∀ j∈keep,s j=s0 j)∧s ic = .int .i64 ((i:Int)+1)∧J (i+1) s h n
 | e=>J25 P ks e s h n Q
def K2v (P:Program) (ks:List Kt) (Q:Fin):Fin:=fun e s h n=>match e with
 | .normal=>False
 | e=>J25 P ks e s h n Q
@[simp ↓] theorem Jvb {keep:List Nat}{s0 s':Env}{ic i:Nat}{J:Nat→Env→Heap→Nat→Prop}{h':Heap}{n':Nat} : Jzn P ks Q keep s0 ic i J .normal s' h' n'=((∀ j∈keep,s' j=s0 j)∧s' ic = .int .i64 ((i:Int)+1)∧J (i+1) s' h' n'):=propext Iff.rfl
@[simp ↓] theorem K45 {keep:List Nat}{s0 s':Env}{ic i:Nat}{J:Nat→Env→Heap→Nat→Prop}{h':Heap}{n':Nat} : Jzn P ks Q keep s0 ic i J .ret s' h' n'=J25 P ks .ret s' h' n' Q:=propext Iff.rfl
@[simp ↓] theorem K1t {keep:List Nat}{s0 s':Env}{ic i x:Nat}{J:Nat→Env→Heap→Nat→Prop}{h':Heap}{n':Nat} : Jzn P ks Q keep s0 ic i J (.exit x) s' h' n'=J25 P ks (.exit x) s' h' n' Q:=propext Iff.rfl
@[simp ↓] theorem K3j {s':Env}{h':Heap}{n':Nat} : K2v P ks Q .ret s' h' n'=J25 P ks .ret s' h' n' Q:=propext Iff.rfl
@[simp ↓] theorem Jzk {x:Nat}{s':Env}{h':Heap}{n':Nat} : K2v P ks Q (.exit x) s' h' n'=J25 P ks (.exit x) s' h' n' Q:=propext Iff.rfl
theorem Jo0 (keep:List Nat) (ic N:Nat) (J:Nat→Env→Heap→Nat→Prop) (hN:N≤LIM) (hi0:s ic = .int .i64 0) (hJ0:J 0 s h n)
 (hstep:∀ i s' h' n',i<N→¬N≤i→(∀ j∈keep,s' j=s j)→s' ic = .int .i64 (i:Int)→IntKind.i64.wrap ((i:Int)+1)=(i:Int)+1→J i s' h' n'→rC P a [] s' h' n' (Jzn P ks Q keep s ic i J))
 (hend:∀ s' h' n',(∀ j∈keep,s' j=s j)→s' ic = .int .i64 (N:Int)→J N s' h' n'→rC P a [] s' h' n' (K2v P ks Q)):rL P a ks s h n Q:=by
 refine Jbj (fun k s' h' n'=>∃ i:Nat,k=N - i∧i≤N∧(∀ j∈keep,s' j=s j)∧s' ic = .int .i64 (i:Int)∧J i s' h' n') N ⟨0,by simp,Nat.zero_le _,fun _ _=>rfl,hi0,hJ0⟩ ?_
 rintro k s' h' n' ⟨i,rfl,hi,hk,hic,hJ⟩
 unfold LIM at hN
 by_cases hlt:i<N
 ·have:=hstep i s' h' n' hlt (by omega) hk hic (J19 (by omega)) hJ
  unfold rC at this ⊢
  refine Jdd this ?_
  intro e s2 h2 n2 hq
  cases e
  ·obtain ⟨q1,q2,q3⟩:=hq
   exact ⟨N - (i+1),by omega,i+1,rfl,by omega,q1,q2,q3⟩
  ·exact hq
  ·exact hq
 ·have hiN:i=N:=by omega
  subst hiN
  have:=hend s' h' n' hk hic hJ
  unfold rC at this ⊢
  refine Jdd this ?_
  intro e s2 h2 n2 hq
  cases e
  ·exact hq.elim
  ·exact hq
  ·exact hq
theorem Jta (keep:List Nat) (ic N:Nat) (J:Nat→Env→Prop) (hN:N≤LIM) (hi0:s ic = .int .i64 0) (hJ0:J 0 s)
 (hstep:∀ i s',i<N→¬N≤i→(∀ j∈keep,s' j=s j)→s' ic = .int .i64 (i:Int)→IntKind.i64.wrap ((i:Int)+1)=(i:Int)+1→J i s'→rC P a [] s' h n (Jzn P ks Q keep s ic i fun i s' h' n'=>J i s'∧h'=h∧n'=n))
 (hend:∀ s',(∀ j∈keep,s' j=s j)→s' ic = .int .i64 (N:Int)→J N s'→rC P a [] s' h n (K2v P ks Q)):rL P a ks s h n Q:=by
 refine Jo0 keep ic N (fun i s' h' n'=>J i s'∧h'=h∧n'=n) hN hi0 ⟨hJ0,rfl,rfl⟩ ?_ ?_
 ·rintro i s' h' n' hi hg hk hic hw ⟨hJ,rfl,rfl⟩;exact hstep i s' hi hg hk hic hw hJ
 ·rintro s' h' n' hk hic ⟨hJ,rfl,rfl⟩;exact hend s' hk hic hJ
theorem J0k (keep:List Nat) (ic N:Nat) (J:Nat→Env→Heap→Nat→Prop) (hN:N≤LIM) (hi0:s ic = .int .i64 0) (hJ0:J 0 s h n)
 (hstep:∀ i s' h' n' (R:Fin),i<N→¬N≤i→(∀ j∈keep,s' j=s j)→s' ic = .int .i64 (i:Int)→IntKind.i64.wrap ((i:Int)+1)=(i:Int)+1→J i s' h' n' →
  (∀ s'' h'' n'',(∀ j∈keep,s'' j=s j)→s'' ic = .int .i64 ((i:Int)+1)→J (i+1) s'' h'' n''→R .normal s'' h'' n'') →
  (∀ s'' h'' n'',J25 P ks .ret s'' h'' n'' Q→R .ret s'' h'' n'')→(∀ x s'' h'' n'',J25 P ks (.exit x) s'' h'' n'' Q→R (.exit x) s'' h'' n'')→rC P a [] s' h' n' R)
 (hend:∀ s' h' n' (R:Fin),(∀ j∈keep,s' j=s j)→s' ic = .int .i64 (N:Int)→J N s' h' n' →
  (∀ s'' h'' n'',J25 P ks .ret s'' h'' n'' Q→R .ret s'' h'' n'')→(∀ x s'' h'' n'',J25 P ks (.exit x) s'' h'' n'' Q→R (.exit x) s'' h'' n'')→rC P a [] s' h' n' R):rL P a ks s h n Q:=by
 refine Jo0 keep ic N J hN hi0 hJ0 ?_ ?_
 ·intro i s' h' n' hi hg hk hic hw hJ
  exact hstep i s' h' n' _ hi hg hk hic hw hJ (fun _ _ _ h1 h2 h3=>⟨h1,h2,h3⟩) (fun _ _ _ h=>h) (fun _ _ _ _ h=>h)
 ·intro s' h' n' hk hic hJ
  exact hend s' h' n' _ hk hic hJ (fun _ _ _ h=>h) (fun _ _ _ _ h=>h)
theorem J4m (keep:List Nat) (ic N:Nat) (J:Nat→Env→Prop) (hN:N≤LIM) (hi0:s ic = .int .i64 0) (hJ0:J 0 s)
 (hstep:∀ i s' h' (R:Fin),i<N→¬N≤i→(∀ j∈keep,s' j=s j)→s' ic = .int .i64 (i:Int)→IntKind.i64.wrap ((i:Int)+1)=(i:Int)+1→J i s'→(∀ id,h' id=h id) →
  (∀ s'',(∀ j∈keep,s'' j=s j)→s'' ic = .int .i64 ((i:Int)+1)→J (i+1) s''→R .normal s'' h' n) →
  (∀ s'' h'' n'',J25 P ks .ret s'' h'' n'' Q→R .ret s'' h'' n'')→(∀ x s'',J25 P ks (.exit x) s'' h n Q→R (.exit x) s'' h' n)→rC P a [] s' h' n R)
 (hend:∀ s' h' (R:Fin),(∀ j∈keep,s' j=s j)→s' ic = .int .i64 (N:Int)→J N s'→(∀ id,h' id=h id) →
  (∀ s'' h'' n'',J25 P ks .ret s'' h'' n'' Q→R .ret s'' h'' n'')→(∀ x s'',J25 P ks (.exit x) s'' h n Q→R (.exit x) s'' h' n)→rC P a [] s' h' n R):rL P a ks s h n Q:=by
 refine Jta keep ic N J hN hi0 hJ0 ?_ ?_
 ·intro i s' hi hg hk hic hw hJ
  exact hstep i s' h _ hi hg hk hic hw hJ (fun _=>rfl) (fun _ h1 h2 h3=>⟨h1,h2,h3,rfl,rfl⟩) (fun _ _ _ h=>h) (fun _ _ h=>h)
 ·intro s' hk hic hJ
  exact hend s' h _ hk hic hJ (fun _=>rfl) (fun _ _ _ h=>h) (fun _ _ h=>h)
end
end Go.Proofs.YtoclolkigjbcgaaGreat
namespace Go.Proofs.YtoclolkigjbcgaaGreat
set_option linter.all false
open Go Go.RowKit
open Go Go.RowKit
abbrev Tree:=AV×AV×List Nat
open Go Go.RowKit
def cL {α:Type}(c:α→Nat):List α→Nat
 | []=>0
 | x::l=>c x+cL c l
open Go Go.RowKit
end Go.Proofs.YtoclolkigjbcgaaGreat

/- The types of the program, as data: read form (A), own form (U), weight (w). -/
import Derived.Test.YtoclolkigjbcgaaGreatJRD
namespace Go.Proofs.YtoclolkigjbcgaaGreat
set_option linter.all false
open Go Go.RowKit Go.Proofs
structure DLin where
 Const:Int
 Coeffs:List Int
deriving DecidableEq
def J06 (x:DLin):List AV:=[i64 x.Const,.sl 1 (J0k x.Coeffs)]
def J08 (x:DLin):List AV:=[i64 x.Const,.us 1 (J0k x.Coeffs)]
@[simp] theorem Jt1 (x:DLin):drl (J08 x)=J06 x:=by simp [J08,J06]
@[simp] theorem K3z (l:List (DLin)):drr (l.map J08)=l.map J06:=by rw [J4x,List.map_map];exact List.map_congr_left fun x _=>Jt1 x
@[simp] theorem K0q (x:DLin):J3i (J08 x)=true:=by simp [J08]
@[simp] theorem Jkt (l:List (DLin)):J3y (l.map J08)=true:=by rw [J35];simp
@[simp] theorem K25 (x:DLin):(J06 x).all J0u=true:=by simp [J06]
@[simp] theorem K51 (x:DLin):(J08 x).length=2:=by simp [J08]
@[simp] theorem K5m (x:DLin):(J06 x).length=2:=by simp [J06]
@[simp] theorem K7l (x:DLin) (h:Heap):bwl (J06 x) h=some (J06 x):=by simp [J06]
@[simp] theorem Kba (x:DLin):(J06 x)[0]? = some (i64 x.Const):=rfl
@[simp] theorem Kam (x:DLin) (h:0<(J06 x).length):(J06 x)[0]=i64 x.Const:=rfl
@[simp] theorem Kbo (x:DLin):(J06 x)[1]? = some (.sl 1 (J0k x.Coeffs)):=rfl
@[simp] theorem Kc5 (x:DLin) (h:1<(J06 x).length):(J06 x)[1] = .sl 1 (J0k x.Coeffs):=rfl
@[simp] theorem tALin (x:DLin):List.take 2 (J06 x)=J06 x:=rfl
@[simp] theorem Kbc (x:DLin):(J08 x)[0]? = some (i64 x.Const):=rfl
@[simp] theorem Kbl (x:DLin) (h:0<(J08 x).length):(J08 x)[0]=i64 x.Const:=rfl
@[simp] theorem Kai (x:DLin):(J08 x)[1]? = some (.us 1 (J0k x.Coeffs)):=rfl
@[simp] theorem Kc3 (x:DLin) (h:1<(J08 x).length):(J08 x)[1] = .us 1 (J0k x.Coeffs):=rfl
@[simp] theorem tULin (x:DLin):List.take 2 (J08 x)=J08 x:=rfl
def Jjb (l:List Int):Nat:=l.length
def Jbw (x:DLin):Nat:=Jjb x.Coeffs
def J96 (l:List DLin):Nat:=wL Jbw l
def Jd1 (l:List DLin):List AV:=[.sl 2 (l.map J06)]
def J24 (l:List DLin):List AV:=[.us 2 (l.map J08)]
@[simp] theorem Jot (x:List DLin):drl (J24 x)=Jd1 x:=by simp [J24,Jd1]
@[simp] theorem Jzx (l:List (List DLin)):drr (l.map J24)=l.map Jd1:=by rw [J4x,List.map_map];exact List.map_congr_left fun x _=>Jot x
@[simp] theorem Jxl (x:List DLin):J3i (J24 x)=true:=by simp [J24]
@[simp] theorem Jva (l:List (List DLin)):J3y (l.map J24)=true:=by rw [J35];simp
structure DSystem where
 N:Int
 Rows:List DLin
deriving DecidableEq
def J4f (x:DSystem):List AV:=[i64 x.N,.sl 2 (x.Rows.map J06)]
def J2k (x:DSystem):List AV:=[i64 x.N,.us 2 (x.Rows.map J08)]
@[simp] theorem K2j (x:DSystem):(J4f x)[0]? = some (i64 x.N):=rfl
@[simp] theorem K2a (x:DSystem) (h:0<(J4f x).length):(J4f x)[0]=i64 x.N:=rfl
@[simp] theorem K34 (x:DSystem):(J4f x)[1]? = some (.sl 2 (x.Rows.map J06)):=rfl
@[simp] theorem K3w (x:DSystem) (h:1<(J4f x).length):(J4f x)[1] = .sl 2 (x.Rows.map J06):=rfl
@[simp] theorem K4d (x:DSystem):List.take 2 (J4f x)=J4f x:=rfl
@[simp] theorem K1w (x:DSystem):(J2k x)[0]? = some (i64 x.N):=rfl
@[simp] theorem K3j (x:DSystem) (h:0<(J2k x).length):(J2k x)[0]=i64 x.N:=rfl
@[simp] theorem K20 (x:DSystem):(J2k x)[1]? = some (.us 2 (x.Rows.map J08)):=rfl
@[simp] theorem K1x (x:DSystem) (h:1<(J2k x).length):(J2k x)[1] = .us 2 (x.Rows.map J08):=rfl
@[simp] theorem K6o (x:DSystem):List.take 2 (J2k x)=J2k x:=rfl
structure DTerm where
 Coeff:Int
 Name:Str
deriving DecidableEq
def J0y (x:DTerm):List AV:=[i64 x.Coeff,.str x.Name]
def J3t (x:DTerm):List AV:=[i64 x.Coeff,.str x.Name]
@[simp] theorem Jr2 (x:DTerm):drl (J3t x)=J0y x:=by simp [J3t,J0y]
@[simp] theorem K03 (l:List (DTerm)):drr (l.map J3t)=l.map J0y:=by rw [J4x,List.map_map];exact List.map_congr_left fun x _=>Jr2 x
@[simp] theorem Jyx (x:DTerm):J3i (J3t x)=true:=by simp [J3t]
@[simp] theorem Jw4 (l:List (DTerm)):J3y (l.map J3t)=true:=by rw [J35];simp
@[simp] theorem K9w (x:DTerm):(J0y x)[0]? = some (i64 x.Coeff):=rfl
@[simp] theorem K7i (x:DTerm) (h:0<(J0y x).length):(J0y x)[0]=i64 x.Coeff:=rfl
@[simp] theorem K9x (x:DTerm):(J0y x)[1]? = some (.str x.Name):=rfl
@[simp] theorem K8x (x:DTerm) (h:1<(J0y x).length):(J0y x)[1] = .str x.Name:=rfl
@[simp] theorem Kap (x:DTerm):List.take 2 (J0y x)=J0y x:=rfl
@[simp] theorem K75 (x:DTerm):(J3t x)[0]? = some (i64 x.Coeff):=rfl
@[simp] theorem K95 (x:DTerm) (h:0<(J3t x).length):(J3t x)[0]=i64 x.Coeff:=rfl
@[simp] theorem K9z (x:DTerm):(J3t x)[1]? = some (.str x.Name):=rfl
@[simp] theorem K7q (x:DTerm) (h:1<(J3t x).length):(J3t x)[1] = .str x.Name:=rfl
@[simp] theorem Kb6 (x:DTerm):List.take 2 (J3t x)=J3t x:=rfl
def J7a (x:DTerm):Nat:=x.Name.length
def Jcv (l:List DTerm):Nat:=wL J7a l
structure DSum where
 Const:Int
 Terms:List DTerm
deriving DecidableEq
def J1d (x:DSum):List AV:=[i64 x.Const,.sl 2 (x.Terms.map J0y)]
def J4z (x:DSum):List AV:=[i64 x.Const,.us 2 (x.Terms.map J3t)]
@[simp] theorem Jta (x:DSum):drl (J4z x)=J1d x:=by simp [J4z,J1d]
@[simp] theorem K21 (l:List (DSum)):drr (l.map J4z)=l.map J1d:=by rw [J4x,List.map_map];exact List.map_congr_left fun x _=>Jta x
@[simp] theorem K0p (x:DSum):J3i (J4z x)=true:=by simp [J4z]
@[simp] theorem Jzk (l:List (DSum)):J3y (l.map J4z)=true:=by rw [J35];simp
@[simp] theorem K4t (x:DSum):(J1d x).length=2:=by simp [J1d]
@[simp] theorem K8e (x:DSum) (h:Heap):bwl (J1d x) h=some (J1d x):=by simp [J1d]
@[simp] theorem Kc0 (x:DSum):(J1d x)[0]? = some (i64 x.Const):=rfl
@[simp] theorem Kau (x:DSum) (h:0<(J1d x).length):(J1d x)[0]=i64 x.Const:=rfl
@[simp] theorem Kaj (x:DSum):(J1d x)[1]? = some (.sl 2 (x.Terms.map J0y)):=rfl
@[simp] theorem Kas (x:DSum) (h:1<(J1d x).length):(J1d x)[1] = .sl 2 (x.Terms.map J0y):=rfl
@[simp] theorem tASum (x:DSum):List.take 2 (J1d x)=J1d x:=rfl
@[simp] theorem Kc6 (x:DSum):(J4z x)[0]? = some (i64 x.Const):=rfl
@[simp] theorem Kax (x:DSum) (h:0<(J4z x).length):(J4z x)[0]=i64 x.Const:=rfl
@[simp] theorem Kbi (x:DSum):(J4z x)[1]? = some (.us 2 (x.Terms.map J3t)):=rfl
@[simp] theorem Kaz (x:DSum) (h:1<(J4z x).length):(J4z x)[1] = .us 2 (x.Terms.map J3t):=rfl
@[simp] theorem tUSum (x:DSum):List.take 2 (J4z x)=J4z x:=rfl
def Jba (x:DSum):Nat:=Jcv x.Terms
def J65 (l:List DSum):Nat:=wL Jba l
structure DArg where
 Lst:Bool
 Heads:List DSum
 Base:Str
deriving DecidableEq
def J0s (x:DArg):List AV:=[.bool x.Lst,.sl 2 (x.Heads.map J1d),.str x.Base]
def J59 (x:DArg):List AV:=[.bool x.Lst,.us 2 (x.Heads.map J4z),.str x.Base]
@[simp] theorem Js6 (x:DArg):drl (J59 x)=J0s x:=by simp [J59,J0s]
@[simp] theorem K2y (l:List (DArg)):drr (l.map J59)=l.map J0s:=by rw [J4x,List.map_map];exact List.map_congr_left fun x _=>Js6 x
@[simp] theorem K0l (x:DArg):J3i (J59 x)=true:=by simp [J59]
@[simp] theorem Jwx (l:List (DArg)):J3y (l.map J59)=true:=by rw [J35];simp
@[simp] theorem K6h (x:DArg):(J0s x).length=3:=by simp [J0s]
@[simp] theorem K7s (x:DArg) (h:Heap):bwl (J0s x) h=some (J0s x):=by simp [J0s]
@[simp] theorem Kar (x:DArg):(J0s x)[0]? = some (.bool x.Lst):=rfl
@[simp] theorem Kc7 (x:DArg) (h:0<(J0s x).length):(J0s x)[0] = .bool x.Lst:=rfl
@[simp] theorem Kbs (x:DArg):(J0s x)[1]? = some (.sl 2 (x.Heads.map J1d)):=rfl
@[simp] theorem Kaq (x:DArg) (h:1<(J0s x).length):(J0s x)[1] = .sl 2 (x.Heads.map J1d):=rfl
@[simp] theorem Kay (x:DArg):(J0s x)[2]? = some (.str x.Base):=rfl
@[simp] theorem Kc2 (x:DArg) (h:2<(J0s x).length):(J0s x)[2] = .str x.Base:=rfl
@[simp] theorem tAArg (x:DArg):List.take 3 (J0s x)=J0s x:=rfl
@[simp] theorem Kbp (x:DArg):(J59 x)[0]? = some (.bool x.Lst):=rfl
@[simp] theorem Kb4 (x:DArg) (h:0<(J59 x).length):(J59 x)[0] = .bool x.Lst:=rfl
@[simp] theorem Kc4 (x:DArg):(J59 x)[1]? = some (.us 2 (x.Heads.map J4z)):=rfl
@[simp] theorem Kat (x:DArg) (h:1<(J59 x).length):(J59 x)[1] = .us 2 (x.Heads.map J4z):=rfl
@[simp] theorem Kah (x:DArg):(J59 x)[2]? = some (.str x.Base):=rfl
@[simp] theorem Kao (x:DArg) (h:2<(J59 x).length):(J59 x)[2] = .str x.Base:=rfl
@[simp] theorem tUArg (x:DArg):List.take 3 (J59 x)=J59 x:=rfl
def J9a (x:DArg):Nat:=J65 x.Heads+x.Base.length
def Jbb (l:List DArg):Nat:=wL J9a l
structure DFunction where
 Name:Str
 Params:List Str
 ListResult:Bool
 Pre:List DLin
deriving DecidableEq
def J04 (x:DFunction):List AV:=[.str x.Name,.sl 1 (J0d x.Params),.bool x.ListResult,.sl 2 (x.Pre.map J06)]
def J0e (x:DFunction):List AV:=[.str x.Name,.us 1 (J0d x.Params),.bool x.ListResult,.us 2 (x.Pre.map J08)]
@[simp] theorem Jic (x:DFunction):drl (J0e x)=J04 x:=by simp [J0e,J04]
@[simp] theorem Jrs (l:List (DFunction)):drr (l.map J0e)=l.map J04:=by rw [J4x,List.map_map];exact List.map_congr_left fun x _=>Jic x
@[simp] theorem Jqe (x:DFunction):J3i (J0e x)=true:=by simp [J0e]
@[simp] theorem Job (l:List (DFunction)):J3y (l.map J0e)=true:=by rw [J35];simp
@[simp] theorem Jsj (x:DFunction):(J04 x).length=4:=by simp [J04]
@[simp] theorem Jw3 (x:DFunction) (h:Heap):bwl (J04 x) h=some (J04 x):=by simp [J04]
@[simp] theorem Jwb (x:DFunction):(J04 x)[0]? = some (.str x.Name):=rfl
@[simp] theorem Jy2 (x:DFunction) (h:0<(J04 x).length):(J04 x)[0] = .str x.Name:=rfl
@[simp] theorem Jyn (x:DFunction):(J04 x)[1]? = some (.sl 1 (J0d x.Params)):=rfl
@[simp] theorem Jxj (x:DFunction) (h:1<(J04 x).length):(J04 x)[1] = .sl 1 (J0d x.Params):=rfl
@[simp] theorem Jyi (x:DFunction):(J04 x)[2]? = some (.bool x.ListResult):=rfl
@[simp] theorem Jxz (x:DFunction) (h:2<(J04 x).length):(J04 x)[2] = .bool x.ListResult:=rfl
@[simp] theorem Jy5 (x:DFunction):(J04 x)[3]? = some (.sl 2 (x.Pre.map J06)):=rfl
@[simp] theorem Jzl (x:DFunction) (h:3<(J04 x).length):(J04 x)[3] = .sl 2 (x.Pre.map J06):=rfl
@[simp] theorem K0m (x:DFunction):List.take 4 (J04 x)=J04 x:=rfl
@[simp] theorem Jwd (x:DFunction):(J0e x)[0]? = some (.str x.Name):=rfl
@[simp] theorem Jy9 (x:DFunction) (h:0<(J0e x).length):(J0e x)[0] = .str x.Name:=rfl
@[simp] theorem Jza (x:DFunction):(J0e x)[1]? = some (.us 1 (J0d x.Params)):=rfl
@[simp] theorem Jz3 (x:DFunction) (h:1<(J0e x).length):(J0e x)[1] = .us 1 (J0d x.Params):=rfl
@[simp] theorem Jx0 (x:DFunction):(J0e x)[2]? = some (.bool x.ListResult):=rfl
@[simp] theorem Jww (x:DFunction) (h:2<(J0e x).length):(J0e x)[2] = .bool x.ListResult:=rfl
@[simp] theorem Jwi (x:DFunction):(J0e x)[3]? = some (.us 2 (x.Pre.map J08)):=rfl
@[simp] theorem Jwu (x:DFunction) (h:3<(J0e x).length):(J0e x)[3] = .us 2 (x.Pre.map J08):=rfl
@[simp] theorem Jzn (x:DFunction):List.take 4 (J0e x)=J0e x:=rfl
def J3q (l:List Str):Nat:=wL List.length l
def J0w (x:DFunction):Nat:=x.Name.length+J3q x.Params+J96 x.Pre
def J21 (l:List DFunction):Nat:=wL J0w l
structure DPattern where
 Lst:Str
 Cons:Bool
 Head:Str
 Tail:Str
deriving DecidableEq
def J07 (x:DPattern):List AV:=[.str x.Lst,.bool x.Cons,.str x.Head,.str x.Tail]
def J18 (x:DPattern):List AV:=[.str x.Lst,.bool x.Cons,.str x.Head,.str x.Tail]
@[simp] theorem Jjm (x:DPattern):drl (J18 x)=J07 x:=by simp [J18,J07]
@[simp] theorem Jsn (l:List (DPattern)):drr (l.map J18)=l.map J07:=by rw [J4x,List.map_map];exact List.map_congr_left fun x _=>Jjm x
@[simp] theorem Jru (x:DPattern):J3i (J18 x)=true:=by simp [J18]
@[simp] theorem Jre (l:List (DPattern)):J3y (l.map J18)=true:=by rw [J35];simp
@[simp] theorem Jvu (x:DPattern):(J07 x).length=4:=by simp [J07]
@[simp] theorem Jzs (x:DPattern):(J07 x)[0]? = some (.str x.Lst):=rfl
@[simp] theorem Jzq (x:DPattern) (h:0<(J07 x).length):(J07 x)[0] = .str x.Lst:=rfl
@[simp] theorem K0w (x:DPattern):(J07 x)[1]? = some (.bool x.Cons):=rfl
@[simp] theorem K0u (x:DPattern) (h:1<(J07 x).length):(J07 x)[1] = .bool x.Cons:=rfl
@[simp] theorem Jzt (x:DPattern):(J07 x)[2]? = some (.str x.Head):=rfl
@[simp] theorem K08 (x:DPattern) (h:2<(J07 x).length):(J07 x)[2] = .str x.Head:=rfl
@[simp] theorem K00 (x:DPattern):(J07 x)[3]? = some (.str x.Tail):=rfl
@[simp] theorem K0d (x:DPattern) (h:3<(J07 x).length):(J07 x)[3] = .str x.Tail:=rfl
@[simp] theorem K1u (x:DPattern):List.take 4 (J07 x)=J07 x:=rfl
@[simp] theorem K06 (x:DPattern):(J18 x)[0]? = some (.str x.Lst):=rfl
@[simp] theorem K07 (x:DPattern) (h:0<(J18 x).length):(J18 x)[0] = .str x.Lst:=rfl
@[simp] theorem K0v (x:DPattern):(J18 x)[1]? = some (.bool x.Cons):=rfl
@[simp] theorem K0t (x:DPattern) (h:1<(J18 x).length):(J18 x)[1] = .bool x.Cons:=rfl
@[simp] theorem K01 (x:DPattern):(J18 x)[2]? = some (.str x.Head):=rfl
@[simp] theorem Jzo (x:DPattern) (h:2<(J18 x).length):(J18 x)[2] = .str x.Head:=rfl
@[simp] theorem Jzw (x:DPattern):(J18 x)[3]? = some (.str x.Tail):=rfl
@[simp] theorem K0x (x:DPattern) (h:3<(J18 x).length):(J18 x)[3] = .str x.Tail:=rfl
@[simp] theorem K14 (x:DPattern):List.take 4 (J18 x)=J18 x:=rfl
def J2x (x:DPattern):Nat:=x.Lst.length+x.Head.length+x.Tail.length
def J2w (l:List DPattern):Nat:=wL J2x l
structure DCall where
 Bind:Str
 Func:Str
 Args:List DArg
deriving DecidableEq
def J0r (x:DCall):List AV:=[.str x.Bind,.str x.Func,.sl 3 (x.Args.map J0s)]
def J3a (x:DCall):List AV:=[.str x.Bind,.str x.Func,.us 3 (x.Args.map J59)]
@[simp] theorem Jr6 (x:DCall):drl (J3a x)=J0r x:=by simp [J3a,J0r]
@[simp] theorem K0b (l:List (DCall)):drr (l.map J3a)=l.map J0r:=by rw [J4x,List.map_map];exact List.map_congr_left fun x _=>Jr6 x
@[simp] theorem Jze (x:DCall):J3i (J3a x)=true:=by simp [J3a]
@[simp] theorem Jw2 (l:List (DCall)):J3y (l.map J3a)=true:=by rw [J35];simp
@[simp] theorem K0c (x:DCall):(J0r x).all J0u=true:=by simp [J0r]
@[simp] theorem K16 (x:DCall):(J0r x).length=3:=by simp [J0r]
@[simp] theorem K47 (x:DCall) (h:Heap):bwl (J0r x) h=some (J0r x):=by simp [J0r]
@[simp] theorem K7u (x:DCall):(J0r x)[0]? = some (.str x.Bind):=rfl
@[simp] theorem Ka6 (x:DCall) (h:0<(J0r x).length):(J0r x)[0] = .str x.Bind:=rfl
@[simp] theorem Kac (x:DCall):(J0r x)[1]? = some (.str x.Func):=rfl
@[simp] theorem K8m (x:DCall) (h:1<(J0r x).length):(J0r x)[1] = .str x.Func:=rfl
@[simp] theorem K8r (x:DCall):(J0r x)[2]? = some (.sl 3 (x.Args.map J0s)):=rfl
@[simp] theorem K74 (x:DCall) (h:2<(J0r x).length):(J0r x)[2] = .sl 3 (x.Args.map J0s):=rfl
@[simp] theorem Kak (x:DCall):List.take 3 (J0r x)=J0r x:=rfl
@[simp] theorem K83 (x:DCall):(J3a x)[0]? = some (.str x.Bind):=rfl
@[simp] theorem K88 (x:DCall) (h:0<(J3a x).length):(J3a x)[0] = .str x.Bind:=rfl
@[simp] theorem Ka7 (x:DCall):(J3a x)[1]? = some (.str x.Func):=rfl
@[simp] theorem K9i (x:DCall) (h:1<(J3a x).length):(J3a x)[1] = .str x.Func:=rfl
@[simp] theorem Ka5 (x:DCall):(J3a x)[2]? = some (.us 3 (x.Args.map J59)):=rfl
@[simp] theorem K81 (x:DCall) (h:2<(J3a x).length):(J3a x)[2] = .us 3 (x.Args.map J59):=rfl
@[simp] theorem Kal (x:DCall):List.take 3 (J3a x)=J3a x:=rfl
def J54 (x:DCall):Nat:=x.Bind.length+x.Func.length+Jbb x.Args
def J79 (l:List DCall):Nat:=wL J54 l
structure DRule where
 Func:Str
 Patterns:List DPattern
 Guards:List DSum
 Calls:List DCall
 Result:DArg
deriving DecidableEq
def J0b (x:DRule):List AV:=[.str x.Func,.sl 4 (x.Patterns.map J07),.sl 2 (x.Guards.map J1d),.sl 3 (x.Calls.map J0r),.bool x.Result.Lst,.sl 2 (x.Result.Heads.map J1d),.str x.Result.Base]
def J1z (x:DRule):List AV:=[.str x.Func,.us 4 (x.Patterns.map J18),.us 2 (x.Guards.map J4z),.us 3 (x.Calls.map J3a),.bool x.Result.Lst,.us 2 (x.Result.Heads.map J4z),.str x.Result.Base]
@[simp] theorem Jq4 (x:DRule):drl (J1z x)=J0b x:=by simp [J1z,J0b]
@[simp] theorem K0h (l:List (DRule)):drr (l.map J1z)=l.map J0b:=by rw [J4x,List.map_map];exact List.map_congr_left fun x _=>Jq4 x
@[simp] theorem Jxa (x:DRule):J3i (J1z x)=true:=by simp [J1z]
@[simp] theorem Jvg (l:List (DRule)):J3y (l.map J1z)=true:=by rw [J35];simp
@[simp] theorem Jzr (x:DRule):(J0b x).all J0u=true:=by simp [J0b]
@[simp] theorem K29 (x:DRule):(J0b x).length=7:=by simp [J0b]
@[simp] theorem K6k (x:DRule) (h:Heap):bwl (J0b x) h=some (J0b x):=by simp [J0b]
@[simp] theorem Ka0 (x:DRule):(J0b x)[0]? = some (.str x.Func):=rfl
@[simp] theorem K97 (x:DRule) (h:0<(J0b x).length):(J0b x)[0] = .str x.Func:=rfl
@[simp] theorem K71 (x:DRule):(J0b x)[1]? = some (.sl 4 (x.Patterns.map J07)):=rfl
@[simp] theorem K7e (x:DRule) (h:1<(J0b x).length):(J0b x)[1] = .sl 4 (x.Patterns.map J07):=rfl
@[simp] theorem K9v (x:DRule):(J0b x)[2]? = some (.sl 2 (x.Guards.map J1d)):=rfl
@[simp] theorem K9c (x:DRule) (h:2<(J0b x).length):(J0b x)[2] = .sl 2 (x.Guards.map J1d):=rfl
@[simp] theorem K6y (x:DRule):(J0b x)[3]? = some (.sl 3 (x.Calls.map J0r)):=rfl
@[simp] theorem K99 (x:DRule) (h:3<(J0b x).length):(J0b x)[3] = .sl 3 (x.Calls.map J0r):=rfl
@[simp] theorem K9s (x:DRule):(J0b x)[4]? = some (.bool x.Result.Lst):=rfl
@[simp] theorem K92 (x:DRule) (h:4<(J0b x).length):(J0b x)[4] = .bool x.Result.Lst:=rfl
@[simp] theorem K7k (x:DRule):(J0b x)[5]? = some (.sl 2 (x.Result.Heads.map J1d)):=rfl
@[simp] theorem K8a (x:DRule) (h:5<(J0b x).length):(J0b x)[5] = .sl 2 (x.Result.Heads.map J1d):=rfl
@[simp] theorem K77 (x:DRule):(J0b x)[6]? = some (.str x.Result.Base):=rfl
@[simp] theorem K6s (x:DRule) (h:6<(J0b x).length):(J0b x)[6] = .str x.Result.Base:=rfl
@[simp] theorem Kbq (x:DRule):List.take 7 (J0b x)=J0b x:=rfl
@[simp] theorem Jtc (x:DRule):List.take 3 (List.drop 4 (J0b x))=J0s x.Result:=rfl
@[simp] theorem Ka9 (x:DRule):(J1z x)[0]? = some (.str x.Func):=rfl
@[simp] theorem K9g (x:DRule) (h:0<(J1z x).length):(J1z x)[0] = .str x.Func:=rfl
@[simp] theorem K7p (x:DRule):(J1z x)[1]? = some (.us 4 (x.Patterns.map J18)):=rfl
@[simp] theorem K9r (x:DRule) (h:1<(J1z x).length):(J1z x)[1] = .us 4 (x.Patterns.map J18):=rfl
@[simp] theorem K9k (x:DRule):(J1z x)[2]? = some (.us 2 (x.Guards.map J4z)):=rfl
@[simp] theorem K70 (x:DRule) (h:2<(J1z x).length):(J1z x)[2] = .us 2 (x.Guards.map J4z):=rfl
@[simp] theorem K9j (x:DRule):(J1z x)[3]? = some (.us 3 (x.Calls.map J3a)):=rfl
@[simp] theorem K8f (x:DRule) (h:3<(J1z x).length):(J1z x)[3] = .us 3 (x.Calls.map J3a):=rfl
@[simp] theorem K9t (x:DRule):(J1z x)[4]? = some (.bool x.Result.Lst):=rfl
@[simp] theorem K6u (x:DRule) (h:4<(J1z x).length):(J1z x)[4] = .bool x.Result.Lst:=rfl
@[simp] theorem K8v (x:DRule):(J1z x)[5]? = some (.us 2 (x.Result.Heads.map J4z)):=rfl
@[simp] theorem K7o (x:DRule) (h:5<(J1z x).length):(J1z x)[5] = .us 2 (x.Result.Heads.map J4z):=rfl
@[simp] theorem K8p (x:DRule):(J1z x)[6]? = some (.str x.Result.Base):=rfl
@[simp] theorem K8j (x:DRule) (h:6<(J1z x).length):(J1z x)[6] = .str x.Result.Base:=rfl
@[simp] theorem Kc1 (x:DRule):List.take 7 (J1z x)=J1z x:=rfl
@[simp] theorem Juu (x:DRule):List.take 3 (List.drop 4 (J1z x))=J59 x.Result:=rfl
def J3f (x:DRule):Nat:=x.Func.length+J2w x.Patterns+J65 x.Guards+J79 x.Calls+J9a x.Result
def J94 (l:List DRule):Nat:=wL J3f l
structure DProgram where
 Functions:List DFunction
 Rules:List DRule
deriving DecidableEq
def J02 (x:DProgram):List AV:=[.sl 4 (x.Functions.map J04),.sl 7 (x.Rules.map J0b)]
def J2f (x:DProgram):List AV:=[.us 4 (x.Functions.map J0e),.us 7 (x.Rules.map J1z)]
@[simp] theorem Jw8 (x:DProgram):drl (J2f x)=J02 x:=by simp [J2f,J02]
@[simp] theorem Jsv (x:DProgram):(J2f x).all J0u=true:=by simp [J2f]
@[simp] theorem Jv0 (x:DProgram):(J02 x).all J0u=true:=by simp [J02]
@[simp] theorem J7q (x:DProgram):(J2f x).length=2:=by simp [J2f]
@[simp] theorem Jvm (x:DProgram):(J02 x).length=2:=by simp [J02]
@[simp] theorem Jyd (x:DProgram) (h:Heap):bwl (J02 x) h=some (J02 x):=by simp [J02]
@[simp] theorem K02 (x:DProgram):(J02 x)[0]? = some (.sl 4 (x.Functions.map J04)):=rfl
@[simp] theorem K0r (x:DProgram) (h:0<(J02 x).length):(J02 x)[0] = .sl 4 (x.Functions.map J04):=rfl
@[simp] theorem K0j (x:DProgram):(J02 x)[1]? = some (.sl 7 (x.Rules.map J0b)):=rfl
@[simp] theorem K0e (x:DProgram) (h:1<(J02 x).length):(J02 x)[1] = .sl 7 (x.Rules.map J0b):=rfl
@[simp] theorem K2w (x:DProgram):List.take 2 (J02 x)=J02 x:=rfl
@[simp] theorem K0o (x:DProgram):(J2f x)[0]? = some (.us 4 (x.Functions.map J0e)):=rfl
@[simp] theorem K0a (x:DProgram) (h:0<(J2f x).length):(J2f x)[0] = .us 4 (x.Functions.map J0e):=rfl
@[simp] theorem Jzz (x:DProgram):(J2f x)[1]? = some (.us 7 (x.Rules.map J1z)):=rfl
@[simp] theorem K09 (x:DProgram) (h:1<(J2f x).length):(J2f x)[1] = .us 7 (x.Rules.map J1z):=rfl
@[simp] theorem K1g (x:DProgram):List.take 2 (J2f x)=J2f x:=rfl
def J0h (x:DProgram):Nat:=J21 x.Functions+J94 x.Rules
structure DModel where
 System:DSystem
 Params:List DLin
 Args:List (List DLin)
 Result:DLin
deriving DecidableEq
def J1a (x:DModel):List AV:=[i64 x.System.N,.sl 2 (x.System.Rows.map J06),.sl 2 (x.Params.map J06),.sl 1 (x.Args.map Jd1),i64 x.Result.Const,.sl 1 (J0k x.Result.Coeffs)]
def J29 (x:DModel):List AV:=[i64 x.System.N,.us 2 (x.System.Rows.map J08),.us 2 (x.Params.map J08),.us 1 (x.Args.map J24),i64 x.Result.Const,.us 1 (J0k x.Result.Coeffs)]
@[simp] theorem K67 (x:DModel):(J1a x)[0]? = some (i64 x.System.N):=rfl
@[simp] theorem K59 (x:DModel) (h:0<(J1a x).length):(J1a x)[0]=i64 x.System.N:=rfl
@[simp] theorem K5b (x:DModel):(J1a x)[1]? = some (.sl 2 (x.System.Rows.map J06)):=rfl
@[simp] theorem K4p (x:DModel) (h:1<(J1a x).length):(J1a x)[1] = .sl 2 (x.System.Rows.map J06):=rfl
@[simp] theorem K6m (x:DModel):(J1a x)[2]? = some (.sl 2 (x.Params.map J06)):=rfl
@[simp] theorem K5k (x:DModel) (h:2<(J1a x).length):(J1a x)[2] = .sl 2 (x.Params.map J06):=rfl
@[simp] theorem K69 (x:DModel):(J1a x)[3]? = some (.sl 1 (x.Args.map Jd1)):=rfl
@[simp] theorem K6p (x:DModel) (h:3<(J1a x).length):(J1a x)[3] = .sl 1 (x.Args.map Jd1):=rfl
@[simp] theorem K4g (x:DModel):(J1a x)[4]? = some (i64 x.Result.Const):=rfl
@[simp] theorem K5h (x:DModel) (h:4<(J1a x).length):(J1a x)[4]=i64 x.Result.Const:=rfl
@[simp] theorem K5g (x:DModel):(J1a x)[5]? = some (.sl 1 (J0k x.Result.Coeffs)):=rfl
@[simp] theorem K66 (x:DModel) (h:5<(J1a x).length):(J1a x)[5] = .sl 1 (J0k x.Result.Coeffs):=rfl
@[simp] theorem Ka3 (x:DModel):List.take 6 (J1a x)=J1a x:=rfl
@[simp] theorem Jry (x:DModel):List.take 2 (J1a x)=J4f x.System:=rfl
@[simp] theorem Jrv (x:DModel):List.take 2 (List.drop 4 (J1a x))=J06 x.Result:=rfl
@[simp] theorem K6i (x:DModel):(J29 x)[0]? = some (i64 x.System.N):=rfl
@[simp] theorem K4f (x:DModel) (h:0<(J29 x).length):(J29 x)[0]=i64 x.System.N:=rfl
@[simp] theorem K5w (x:DModel):(J29 x)[1]? = some (.us 2 (x.System.Rows.map J08)):=rfl
@[simp] theorem K6q (x:DModel) (h:1<(J29 x).length):(J29 x)[1] = .us 2 (x.System.Rows.map J08):=rfl
@[simp] theorem K65 (x:DModel):(J29 x)[2]? = some (.us 2 (x.Params.map J08)):=rfl
@[simp] theorem K5j (x:DModel) (h:2<(J29 x).length):(J29 x)[2] = .us 2 (x.Params.map J08):=rfl
@[simp] theorem K6e (x:DModel):(J29 x)[3]? = some (.us 1 (x.Args.map J24)):=rfl
@[simp] theorem K4a (x:DModel) (h:3<(J29 x).length):(J29 x)[3] = .us 1 (x.Args.map J24):=rfl
@[simp] theorem K5d (x:DModel):(J29 x)[4]? = some (i64 x.Result.Const):=rfl
@[simp] theorem K43 (x:DModel) (h:4<(J29 x).length):(J29 x)[4]=i64 x.Result.Const:=rfl
@[simp] theorem K5l (x:DModel):(J29 x)[5]? = some (.us 1 (J0k x.Result.Coeffs)):=rfl
@[simp] theorem K4k (x:DModel) (h:5<(J29 x).length):(J29 x)[5] = .us 1 (J0k x.Result.Coeffs):=rfl
@[simp] theorem K8o (x:DModel):List.take 6 (J29 x)=J29 x:=rfl
@[simp] theorem Js1 (x:DModel):List.take 2 (J29 x)=J2k x.System:=rfl
@[simp] theorem Js0 (x:DModel):List.take 2 (List.drop 4 (J29 x))=J08 x.Result:=rfl
structure DObligation where
 System:DSystem
 Target:DLin
deriving DecidableEq
def J0n (x:DObligation):List AV:=[i64 x.System.N,.sl 2 (x.System.Rows.map J06),i64 x.Target.Const,.sl 1 (J0k x.Target.Coeffs)]
def J0a (x:DObligation):List AV:=[i64 x.System.N,.us 2 (x.System.Rows.map J08),i64 x.Target.Const,.us 1 (J0k x.Target.Coeffs)]
@[simp] theorem Je6 (x:DObligation):drl (J0a x)=J0n x:=by simp [J0a,J0n]
@[simp] theorem Jod (l:List (DObligation)):drr (l.map J0a)=l.map J0n:=by rw [J4x,List.map_map];exact List.map_congr_left fun x _=>Je6 x
@[simp] theorem Jo8 (x:DObligation):J3i (J0a x)=true:=by simp [J0a]
@[simp] theorem Jmn (l:List (DObligation)):J3y (l.map J0a)=true:=by rw [J35];simp
@[simp] theorem Jp9 (x:DObligation):(J0n x).length=4:=by simp [J0n]
@[simp] theorem Jts (x:DObligation):(J0n x)[0]? = some (i64 x.System.N):=rfl
@[simp] theorem Js3 (x:DObligation) (h:0<(J0n x).length):(J0n x)[0]=i64 x.System.N:=rfl
@[simp] theorem Jup (x:DObligation):(J0n x)[1]? = some (.sl 2 (x.System.Rows.map J06)):=rfl
@[simp] theorem Juk (x:DObligation) (h:1<(J0n x).length):(J0n x)[1] = .sl 2 (x.System.Rows.map J06):=rfl
@[simp] theorem Juh (x:DObligation):(J0n x)[2]? = some (i64 x.Target.Const):=rfl
@[simp] theorem Jun (x:DObligation) (h:2<(J0n x).length):(J0n x)[2]=i64 x.Target.Const:=rfl
@[simp] theorem Js9 (x:DObligation):(J0n x)[3]? = some (.sl 1 (J0k x.Target.Coeffs)):=rfl
@[simp] theorem Jsp (x:DObligation) (h:3<(J0n x).length):(J0n x)[3] = .sl 1 (J0k x.Target.Coeffs):=rfl
@[simp] theorem Jvc (x:DObligation):List.take 4 (J0n x)=J0n x:=rfl
@[simp] theorem Jki (x:DObligation):List.take 2 (J0n x)=J4f x.System:=rfl
@[simp] theorem Jku (x:DObligation):List.take 2 (List.drop 2 (J0n x))=J06 x.Target:=rfl
@[simp] theorem Juc (x:DObligation):(J0a x)[0]? = some (i64 x.System.N):=rfl
@[simp] theorem Jsw (x:DObligation) (h:0<(J0a x).length):(J0a x)[0]=i64 x.System.N:=rfl
@[simp] theorem Jso (x:DObligation):(J0a x)[1]? = some (.us 2 (x.System.Rows.map J08)):=rfl
@[simp] theorem Jtd (x:DObligation) (h:1<(J0a x).length):(J0a x)[1] = .us 2 (x.System.Rows.map J08):=rfl
@[simp] theorem Ju7 (x:DObligation):(J0a x)[2]? = some (i64 x.Target.Const):=rfl
@[simp] theorem Jty (x:DObligation) (h:2<(J0a x).length):(J0a x)[2]=i64 x.Target.Const:=rfl
@[simp] theorem Jt6 (x:DObligation):(J0a x)[3]? = some (.us 1 (J0k x.Target.Coeffs)):=rfl
@[simp] theorem Jsa (x:DObligation) (h:3<(J0a x).length):(J0a x)[3] = .us 1 (J0k x.Target.Coeffs):=rfl
@[simp] theorem Jvk (x:DObligation):List.take 4 (J0a x)=J0a x:=rfl
@[simp] theorem Jl8 (x:DObligation):List.take 2 (J0a x)=J2k x.System:=rfl
@[simp] theorem Jlq (x:DObligation):List.take 2 (List.drop 2 (J0a x))=J08 x.Target:=rfl
structure DBounds where
 Kind:Int
 Lins:List DLin
deriving DecidableEq
def J0g (x:DBounds):List AV:=[i64 x.Kind,.sl 2 (x.Lins.map J06)]
def J2z (x:DBounds):List AV:=[i64 x.Kind,.us 2 (x.Lins.map J08)]
@[simp] theorem Jy4 (x:DBounds):drl (J2z x)=J0g x:=by simp [J2z,J0g]
@[simp] theorem Jvj (x:DBounds):(J2z x).all J0u=true:=by simp [J2z]
@[simp] theorem Jv8 (x:DBounds):(J0g x).all J0u=true:=by simp [J0g]
@[simp] theorem J8t (x:DBounds):(J2z x).length=2:=by simp [J2z]
@[simp] theorem Jyw (x:DBounds):(J0g x).length=2:=by simp [J0g]
@[simp] theorem K0z (x:DBounds) (h:Heap):bwl (J0g x) h=some (J0g x):=by simp [J0g]
@[simp] theorem K3m (x:DBounds):(J0g x)[0]? = some (i64 x.Kind):=rfl
@[simp] theorem K26 (x:DBounds) (h:0<(J0g x).length):(J0g x)[0]=i64 x.Kind:=rfl
@[simp] theorem K2n (x:DBounds):(J0g x)[1]? = some (.sl 2 (x.Lins.map J06)):=rfl
@[simp] theorem K3l (x:DBounds) (h:1<(J0g x).length):(J0g x)[1] = .sl 2 (x.Lins.map J06):=rfl
@[simp] theorem K5c (x:DBounds):List.take 2 (J0g x)=J0g x:=rfl
@[simp] theorem K2v (x:DBounds):(J2z x)[0]? = some (i64 x.Kind):=rfl
@[simp] theorem K36 (x:DBounds) (h:0<(J2z x).length):(J2z x)[0]=i64 x.Kind:=rfl
@[simp] theorem K3x (x:DBounds):(J2z x)[1]? = some (.us 2 (x.Lins.map J08)):=rfl
@[simp] theorem K17 (x:DBounds) (h:1<(J2z x).length):(J2z x)[1] = .us 2 (x.Lins.map J08):=rfl
@[simp] theorem K6n (x:DBounds):List.take 2 (J2z x)=J2z x:=rfl
def J7j (x:DBounds):Nat:=J96 x.Lins
structure DEdge where
 Rule:Int
 Call:Int
deriving DecidableEq
end Go.Proofs.YtoclolkigjbcgaaGreat
namespace Go.Proofs.YtoclolkigjbcgaaGreat
set_option linter.all false
open Go Go.RowKit
attribute [simp] K2t Jkw J5l
@[simp] theorem K93 {h:Heap}{K:AV→Heap→Nat→Prop}{r:AV}{n:Nat} : hK h K r h n=K r h n:=by simp [hK,J7h.refl]
mutual
def Jul:AV→Prop
 | .sl _ rows=>rows.length≤LIM
 | .us _ rows=>rows.length≤LIM
 | .str l=>l.length≤LIM
 | .agg cs=>Jvs cs
 | .tup cs=>Jvs cs
 | .undef | .int .. | .bool _ | .nil _ | .nilp | .ptr .. | .fptr .. | .ref .. | .fn .. | .mp _=>True
def Jvs:List AV→Prop
 | []=>True
 | a::as=>Jul a∧Jvs as
end
section
variable {w:World}{L:Nat→Option Loc}{N:Nat}
mutual
theorem K1d:∀ (a:AV) (v:Value) (S:List Nat),VR w L N a v S→Jul a
 | .sl ..,_,_,h=>by
  simp only [VR] at h
  obtain ⟨⟨A,cap,vals,_,hl,_⟩,_⟩:=h
  simp only [Jul];exact hl.1
 | .us ..,_,_,h=>by simp only [VR] at h;simp only [Jul];exact h.1
 | .str _,_,_,h=>by
  simp only [VR] at h
  obtain ⟨⟨b,_,_,hl⟩,_⟩:=h
  simp only [Jul];exact hl
 | .agg cs,_,_,h=>by simp only [VR] at h;obtain ⟨vs,_,h⟩:=h;simp only [Jul];exact Ji5 cs _ _ h
 | .tup cs,_,_,h=>by simp only [VR] at h;obtain ⟨vs,_,h⟩:=h;simp only [Jul];exact Ji5 cs _ _ h
 | .undef,_,_,_ | .int ..,_,_,_ | .bool _,_,_,_ | .nil _,_,_,_ | .nilp,_,_,_ | .ptr ..,_,_,_ | .fptr ..,_,_,_ | .ref ..,_,_,_ | .fn ..,_,_,_ | .mp _,_,_,_=>by simp only [Jul]
theorem Ji5:∀ (as:List AV) (vs:List Value) (S:List Nat),VRl w L N as vs S→Jvs as
 | [],_,_,_=>by simp only [Jvs]
 | a::as,_,_,h=>by
  simp only [VRl] at h
  obtain ⟨v,vs',S1,S2,_,_,h1,h2⟩:=h
  simp only [Jvs];exact ⟨K1d a _ _ h1,Ji5 as _ _ h2⟩
end
end
theorem J1e {P:Program}{f:FuncId}{fn:Func}{as:List AV}{Q:AV→Prop}(hf:P.funcs[f]? = some fn) (hb:fn.body.isSome=true) (hn:(fn.name == "runtime.NumGoroutine")=false) (h:Jvs as→Holds P f as Q):Holds P f as Q:=
 ⟨by simp [J6w,hf,hb,hn],fun w vs hv=>(h (Ji5 as vs [] hv)).2 w vs hv⟩
attribute [simp] Jul Jvs
theorem J9d {P:Program}{K K':Env→Heap→Nat→Prop}(hk:∀ s h n,K s h n→K' s h n):∀ {os:List AO}{s:Env}{h:Heap}{n:Nat},Jid P os s h n K→Jid P os s h n K'
 | [],s,h,n,hw=>hk s h n hw
 | o::os,s,h,n,hw=>by
  simp only [Jid] at hw ⊢
  cases hg:o.g with
  | none=>rw [hg] at hw;exact J8m hw fun _ _ _ h=>J9d hk h
  | some p=>
   obtain ⟨j,want⟩:=p
   rw [hg] at hw
   simp only at hw ⊢
   cases hs:s j <;> rw [hs] at hw <;> try exact hw.elim
   ·exact ⟨fun e=>J8m (hw.1 e) fun _ _ _ h=>J9d hk h,fun e=>J9d hk (hw.2 e)⟩
   ·rename_i vs
    cases vs
    ·exact J9d hk hw
    ·exact hw.elim
theorem Jbr {P:Program}{s:Env}{h:Heap}{n:Nat}{K K':AV→Heap→Nat→Prop}{op:AOp}(hw:J62 P s h n K op) (hk:∀ r h n,K r h n→K' r h n):J62 P s h n K' op:=by
 unfold J62 at hw ⊢
 split at hw
 ·split at hw
  ·rename_i hf;try simp only [hf]
   exact J25.mono hw fun _ _ _ h=>⟨h.1,hk _ _ _ h.2⟩
  ·exact hw.elim
 ·split at hw
  ·exact hk _ _ _ hw
  ·exact hk _ _ _ hw
  ·exact ⟨hw.1,hk _ _ _ hw.2⟩
  ·exact hk _ _ _ hw
  ·exact hw.elim
 ·exact J8m hw hk
theorem J4o {P:Program}{K K':Env→Heap→Nat→Prop}(hk:∀ s h n,K s h n→K' s h n):∀ {t:DT}{s:Env}{h:Heap}{n:Nat},J8c P t s h n K→J8c P t s h n K'
 | .fin,s,h,n,hw=>hk s h n hw
 | .stuck,_,_,_,hw=>hw.elim
 | .both a b,s,h,n,hw=>⟨J4o hk hw.1,J4o hk hw.2⟩
 | .op o t,s,h,n,hw=>by
  simp only [J8c] at hw ⊢
  cases hg:o.g with
  | none=>rw [hg] at hw;exact Jbr hw fun _ _ _ h=>J4o hk h
  | some p=>
   obtain ⟨j,want⟩:=p
   rw [hg] at hw
   simp only at hw ⊢
   cases hs:s j <;> rw [hs] at hw <;> try exact hw.elim
   ·exact ⟨fun e=>Jbr (hw.1 e) fun _ _ _ h=>J4o hk h,fun e=>J4o hk (hw.2 e)⟩
   ·rename_i vs
    cases vs
    ·exact J4o hk hw
    ·exact hw.elim
 | .hop o ps t,s,h,n,hw=>by
  simp only [J8c] at hw ⊢
  cases hg:o.g with
  | none=>rw [hg] at hw;exact Jbr hw fun _ _ _ h=>⟨h.1,J4o hk h.2⟩
  | some p=>
   obtain ⟨j,want⟩:=p
   rw [hg] at hw
   simp only at hw ⊢
   cases hs:s j <;> rw [hs] at hw <;> try exact hw.elim
   ·exact ⟨fun e=>Jbr (hw.1 e) fun _ _ _ h=>⟨h.1,J4o hk h.2⟩,fun e=>J4o hk (hw.2 e)⟩
   ·rename_i vs
    cases vs
    ·exact J4o hk hw
    ·exact hw.elim
theorem Je2 {P:Program} : ∀ {a:AC}{s:Env}{h:Heap}{n:Nat}{Q Q':Fin},awp P a s h n Q→(∀ e s h n,Q e s h n→Q' e s h n)→awp P a s h n Q':=by
 intro a
 induction a with
 | skip=>intro s h n Q Q' hw hq;exact hq _ _ _ _ hw
 | reg os=>intro s h n Q Q' hw hq;exact J9d (hq .normal) hw
 | seq a b iha ihb=>
  intro s h n Q Q' hw hq
  refine iha hw fun e s h n hh => ?_
  cases e
  ·exact ihb hh hq
  ·exact hq _ _ _ _ hh
  ·exact hq _ _ _ _ hh
 | cond c a b iha ihb=>
  intro s h n Q Q' hw hq
  simp only [awp] at hw ⊢
  split at hw
  ·exact ⟨fun e=>iha (hw.1 e) hq,fun e=>ihb (hw.2 e) hq⟩
  ·exact hw.elim
 | blk id a iha=>
  intro s h n Q Q' hw hq
  refine iha hw fun e s h n hh => ?_
  cases e
  ·exact hq _ _ _ _ hh
  ·simp only at hh ⊢;split
   ·rename_i hx;rw [if_pos hx] at hh;exact hq _ _ _ _ hh
   ·rename_i hx;rw [if_neg hx] at hh;exact hq _ _ _ _ hh
  ·exact hq _ _ _ _ hh
 | loop a iha=>
  intro s h n Q Q' hw hq
  obtain ⟨I,h0,hs⟩:=hw
  refine ⟨I,h0,fun k s h n hi=>iha (hs k s h n hi) fun e s h n hh => ?_⟩
  cases e
  ·exact hh
  ·exact hq _ _ _ _ hh
  ·exact hq _ _ _ _ hh
 | exit id=>intro s h n Q Q' hw hq;exact hq _ _ _ _ hw
 | ret=>intro s h n Q Q' hw hq;exact hq _ _ _ _ hw
 | draw t=>intro s h n Q Q' hw hq;exact J4o (hq .normal) hw
@[simp ↓ high] theorem Jhs {P:Program}{ks:List Kt}{s:Env}{h:Heap}{n:Nat}{Q:Fin}{c:Opd}{a b:AC}(hc:ev s c = .bool true):rC P (.cond c a b) ks s h n Q=rC P a ks s h n Q:=by
 rw [Jb0,hc];simp [gd]
@[simp ↓ high] theorem Jm3 {P:Program}{ks:List Kt}{s:Env}{h:Heap}{n:Nat}{Q:Fin}{c:Opd}{a b:AC}(hc:ev s c = .bool false):rC P (.cond c a b) ks s h n Q=rC P b ks s h n Q:=by
 rw [Jb0,hc];simp [gd]
section
variable {P:Program}{s:Env}{h:Heap}{n:Nat}{ks:List Kt}{Q:Fin}{a:AC}
def K15 (P:Program) (ks:List Kt) (Q:Fin) (keep:List Nat) (s0:Env) (ic i:Nat) (J:Nat→Env→Heap→Nat→Prop):Fin:=fun e s h n=>match e with
 | .normal=>(∀ j∈keep,s j=s0 j)∧s ic = .int .i64 ((i:Int)+1)∧J (i+1) s h n
 | e=>J2l P ks e s h n Q
def K5r (P:Program) (ks:List Kt) (Q:Fin):Fin:=fun e s h n=>match e with
 | .normal=>False
 | e=>J2l P ks e s h n Q
@[simp ↓] theorem Jya {keep:List Nat}{s0 s':Env}{ic i:Nat}{J:Nat→Env→Heap→Nat→Prop}{h':Heap}{n':Nat} : K15 P ks Q keep s0 ic i J .normal s' h' n'=((∀ j∈keep,s' j=s0 j)∧s' ic = .int .i64 ((i:Int)+1)∧J (i+1) s' h' n'):=propext Iff.rfl
@[simp ↓] theorem K4e {keep:List Nat}{s0 s':Env}{ic i:Nat}{J:Nat→Env→Heap→Nat→Prop}{h':Heap}{n':Nat} : K15 P ks Q keep s0 ic i J .ret s' h' n'=J2l P ks .ret s' h' n' Q:=propext Iff.rfl
@[simp ↓] theorem K2k {keep:List Nat}{s0 s':Env}{ic i x:Nat}{J:Nat→Env→Heap→Nat→Prop}{h':Heap}{n':Nat} : K15 P ks Q keep s0 ic i J (.exit x) s' h' n'=J2l P ks (.exit x) s' h' n' Q:=propext Iff.rfl
@[simp ↓] theorem K5e {s':Env}{h':Heap}{n':Nat} : K5r P ks Q .ret s' h' n'=J2l P ks .ret s' h' n' Q:=propext Iff.rfl
@[simp ↓] theorem K1o {x:Nat}{s':Env}{h':Heap}{n':Nat} : K5r P ks Q (.exit x) s' h' n'=J2l P ks (.exit x) s' h' n' Q:=propext Iff.rfl
theorem Ji7 (keep:List Nat) (ic N:Nat) (J:Nat→Env→Heap→Nat→Prop) (hN:N≤LIM) (hi0:s ic = .int .i64 0) (hJ0:J 0 s h n)
 (hstep:∀ i s' h' n',i<N→¬N≤i→(∀ j∈keep,s' j=s j)→s' ic = .int .i64 (i:Int)→IntKind.i64.wrap ((i:Int)+1)=(i:Int)+1→J i s' h' n'→rC P a [] s' h' n' (K15 P ks Q keep s ic i J))
 (hend:∀ s' h' n',(∀ j∈keep,s' j=s j)→s' ic = .int .i64 (N:Int)→J N s' h' n'→rC P a [] s' h' n' (K5r P ks Q)):rL P a ks s h n Q:=by
 refine Jdi (fun k s' h' n'=>∃ i:Nat,k=N - i∧i≤N∧(∀ j∈keep,s' j=s j)∧s' ic = .int .i64 (i:Int)∧J i s' h' n') N ⟨0,by simp,Nat.zero_le _,fun _ _=>rfl,hi0,hJ0⟩ ?_
 rintro k s' h' n' ⟨i,rfl,hi,hk,hic,hJ⟩
 unfold LIM at hN
 by_cases hlt:i<N
 ·have:=hstep i s' h' n' hlt (by omega) hk hic (J0p (by omega)) hJ
  unfold rC at this ⊢
  refine Je2 this ?_
  intro e s2 h2 n2 hq
  cases e
  ·obtain ⟨q1,q2,q3⟩:=hq
   exact ⟨N - (i+1),by omega,i+1,rfl,by omega,q1,q2,q3⟩
  ·exact hq
  ·exact hq
 ·have hiN:i=N:=by omega
  subst hiN
  have:=hend s' h' n' hk hic hJ
  unfold rC at this ⊢
  refine Je2 this ?_
  intro e s2 h2 n2 hq
  cases e
  ·exact hq.elim
  ·exact hq
  ·exact hq
theorem Jw1 (keep:List Nat) (ic N:Nat) (J:Nat→Env→Prop) (hN:N≤LIM) (hi0:s ic = .int .i64 0) (hJ0:J 0 s)
 (hstep:∀ i s',i<N→¬N≤i→(∀ j∈keep,s' j=s j)→s' ic = .int .i64 (i:Int)→IntKind.i64.wrap ((i:Int)+1)=(i:Int)+1→J i s'→rC P a [] s' h n (K15 P ks Q keep s ic i fun i s' h' n'=>J i s'∧h'=h∧n'=n))
 (hend:∀ s',(∀ j∈keep,s' j=s j)→s' ic = .int .i64 (N:Int)→J N s'→rC P a [] s' h n (K5r P ks Q)):rL P a ks s h n Q:=by
 refine Ji7 keep ic N (fun i s' h' n'=>J i s'∧h'=h∧n'=n) hN hi0 ⟨hJ0,rfl,rfl⟩ ?_ ?_
 ·rintro i s' h' n' hi hg hk hic hw ⟨hJ,rfl,rfl⟩;exact hstep i s' hi hg hk hic hw hJ
 ·rintro s' h' n' hk hic ⟨hJ,rfl,rfl⟩;exact hend s' hk hic hJ
theorem J0m (keep:List Nat) (ic N:Nat) (J:Nat→Env→Heap→Nat→Prop) (hN:N≤LIM) (hi0:s ic = .int .i64 0) (hJ0:J 0 s h n)
 (hstep:∀ i s' h' n' (R:Fin),i<N→¬N≤i→(∀ j∈keep,s' j=s j)→s' ic = .int .i64 (i:Int)→IntKind.i64.wrap ((i:Int)+1)=(i:Int)+1→J i s' h' n' →
  (∀ s'' h'' n'',(∀ j∈keep,s'' j=s j)→s'' ic = .int .i64 ((i:Int)+1)→J (i+1) s'' h'' n''→R .normal s'' h'' n'') →
  (∀ s'' h'' n'',J2l P ks .ret s'' h'' n'' Q→R .ret s'' h'' n'')→(∀ x s'' h'' n'',J2l P ks (.exit x) s'' h'' n'' Q→R (.exit x) s'' h'' n'')→rC P a [] s' h' n' R)
 (hend:∀ s' h' n' (R:Fin),(∀ j∈keep,s' j=s j)→s' ic = .int .i64 (N:Int)→J N s' h' n' →
  (∀ s'' h'' n'',J2l P ks .ret s'' h'' n'' Q→R .ret s'' h'' n'')→(∀ x s'' h'' n'',J2l P ks (.exit x) s'' h'' n'' Q→R (.exit x) s'' h'' n'')→rC P a [] s' h' n' R):rL P a ks s h n Q:=by
 refine Ji7 keep ic N J hN hi0 hJ0 ?_ ?_
 ·intro i s' h' n' hi hg hk hic hw hJ
  exact hstep i s' h' n' _ hi hg hk hic hw hJ (fun _ _ _ h1 h2 h3=>⟨h1,h2,h3⟩) (fun _ _ _ h=>h) (fun _ _ _ _ h=>h)
 ·intro s' h' n' hk hic hJ
  exact hend s' h' n' _ hk hic hJ (fun _ _ _ h=>h) (fun _ _ _ _ h=>h)
theorem J4h (keep:List Nat) (ic N:Nat) (J:Nat→Env→Prop) (hN:N≤LIM) (hi0:s ic = .int .i64 0) (hJ0:J 0 s)
 (hstep:∀ i s' h' (R:Fin),i<N→¬N≤i→(∀ j∈keep,s' j=s j)→s' ic = .int .i64 (i:Int)→IntKind.i64.wrap ((i:Int)+1)=(i:Int)+1→J i s'→(∀ id,h' id=h id) →
  (∀ s'',(∀ j∈keep,s'' j=s j)→s'' ic = .int .i64 ((i:Int)+1)→J (i+1) s''→R .normal s'' h' n) →
  (∀ s'' h'' n'',J2l P ks .ret s'' h'' n'' Q→R .ret s'' h'' n'')→(∀ x s'',J2l P ks (.exit x) s'' h n Q→R (.exit x) s'' h' n)→rC P a [] s' h' n R)
 (hend:∀ s' h' (R:Fin),(∀ j∈keep,s' j=s j)→s' ic = .int .i64 (N:Int)→J N s'→(∀ id,h' id=h id) →
  (∀ s'' h'' n'',J2l P ks .ret s'' h'' n'' Q→R .ret s'' h'' n'')→(∀ x s'',J2l P ks (.exit x) s'' h n Q→R (.exit x) s'' h' n)→rC P a [] s' h' n R):rL P a ks s h n Q:=by
 refine Jw1 keep ic N J hN hi0 hJ0 ?_ ?_
 ·intro i s' hi hg hk hic hw hJ
  exact hstep i s' h _ hi hg hk hic hw hJ (fun _=>rfl) (fun _ h1 h2 h3=>⟨h1,h2,h3,rfl,rfl⟩) (fun _ _ _ h=>h) (fun _ _ h=>h)
 ·intro s' hk hic hJ
  exact hend s' h _ hk hic hJ (fun _=>rfl) (fun _ _ _ h=>h) (fun _ _ h=>h)
end
end Go.Proofs.YtoclolkigjbcgaaGreat

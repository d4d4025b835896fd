/- The types of the program, as data: read form (A), own form (U), weight (w). -/
import Derived.Test.YtoclolkigjbcgaaGreatWRD
namespace Go.Proofs.YtoclolkigjbcgaaGreat
set_option linter.all false
open Go Go.RowKit Go.Proofs
structure DLin where
 Const:Int
 Coeffs:List Int
deriving DecidableEq
def J06 (x:DLin):List AV:=[i64 x.Const,.sl 1 (J0e x.Coeffs)]
def J07 (x:DLin):List AV:=[i64 x.Const,.us 1 (J0e x.Coeffs)]
@[simp] theorem Jsl (x:DLin):drl (J07 x)=J06 x:=by simp [J07,J06]
@[simp] theorem K0f (l:List (DLin)):drr (l.map J07)=l.map J06:=by rw [J4s,List.map_map];exact List.map_congr_left fun x _=>Jsl x
@[simp] theorem Jxl (x:DLin):J3l (J07 x)=true:=by simp [J07]
@[simp] theorem Juo (l:List (DLin)):J42 (l.map J07)=true:=by rw [J2d];simp
@[simp] theorem K0z (x:DLin):(J06 x).all J0n=true:=by simp [J06]
@[simp] theorem K3t (x:DLin):(J07 x).length=2:=by simp [J07]
@[simp] theorem K3s (x:DLin):(J06 x).length=2:=by simp [J06]
@[simp] theorem K77 (x:DLin) (h:Heap):bwl (J06 x) h=some (J06 x):=by simp [J06]
@[simp] theorem K8r (x:DLin):(J06 x)[0]? = some (i64 x.Const):=rfl
@[simp] theorem Ka1 (x:DLin) (h:0<(J06 x).length):(J06 x)[0]=i64 x.Const:=rfl
@[simp] theorem Kad (x:DLin):(J06 x)[1]? = some (.sl 1 (J0e x.Coeffs)):=rfl
@[simp] theorem K9v (x:DLin) (h:1<(J06 x).length):(J06 x)[1] = .sl 1 (J0e x.Coeffs):=rfl
@[simp] theorem tALin (x:DLin):List.take 2 (J06 x)=J06 x:=rfl
@[simp] theorem K92 (x:DLin):(J07 x)[0]? = some (i64 x.Const):=rfl
@[simp] theorem K9f (x:DLin) (h:0<(J07 x).length):(J07 x)[0]=i64 x.Const:=rfl
@[simp] theorem K9l (x:DLin):(J07 x)[1]? = some (.us 1 (J0e x.Coeffs)):=rfl
@[simp] theorem Ka2 (x:DLin) (h:1<(J07 x).length):(J07 x)[1] = .us 1 (J0e x.Coeffs):=rfl
@[simp] theorem tULin (x:DLin):List.take 2 (J07 x)=J07 x:=rfl
def Jlx (l:List Int):Nat:=l.length
def J9z (x:DLin):Nat:=Jlx x.Coeffs
def J5x (l:List DLin):Nat:=wL J9z l
def Jc9 (l:List DLin):List AV:=[.sl 2 (l.map J06)]
def J26 (l:List DLin):List AV:=[.us 2 (l.map J07)]
@[simp] theorem Jnt (x:List DLin):drl (J26 x)=Jc9 x:=by simp [J26,Jc9]
@[simp] theorem Jxo (l:List (List DLin)):drr (l.map J26)=l.map Jc9:=by rw [J4s,List.map_map];exact List.map_congr_left fun x _=>Jnt x
@[simp] theorem Jut (x:List DLin):J3l (J26 x)=true:=by simp [J26]
@[simp] theorem Jt2 (l:List (List DLin)):J42 (l.map J26)=true:=by rw [J2d];simp
structure DSystem where
 N:Int
 Rows:List DLin
deriving DecidableEq
def J0f (x:DSystem):List AV:=[i64 x.N,.sl 2 (x.Rows.map J06)]
def J3d (x:DSystem):List AV:=[i64 x.N,.us 2 (x.Rows.map J07)]
@[simp] theorem Jte (x:DSystem):(J0f x).all J0n=true:=by simp [J0f]
@[simp] theorem Jvs (x:DSystem):(J0f x).length=2:=by simp [J0f]
@[simp] theorem Jxp (x:DSystem) (h:Heap):bwl (J0f x) h=some (J0f x):=by simp [J0f]
@[simp] theorem K13 (x:DSystem):(J0f x)[0]? = some (i64 x.N):=rfl
@[simp] theorem K05 (x:DSystem) (h:0<(J0f x).length):(J0f x)[0]=i64 x.N:=rfl
@[simp] theorem Jzf (x:DSystem):(J0f x)[1]? = some (.sl 2 (x.Rows.map J06)):=rfl
@[simp] theorem K0y (x:DSystem) (h:1<(J0f x).length):(J0f x)[1] = .sl 2 (x.Rows.map J06):=rfl
@[simp] theorem K43 (x:DSystem):List.take 2 (J0f x)=J0f x:=rfl
@[simp] theorem K0b (x:DSystem):(J3d x)[0]? = some (i64 x.N):=rfl
@[simp] theorem Jzt (x:DSystem) (h:0<(J3d x).length):(J3d x)[0]=i64 x.N:=rfl
@[simp] theorem Jzr (x:DSystem):(J3d x)[1]? = some (.us 2 (x.Rows.map J07)):=rfl
@[simp] theorem K19 (x:DSystem) (h:1<(J3d x).length):(J3d x)[1] = .us 2 (x.Rows.map J07):=rfl
@[simp] theorem K23 (x:DSystem):List.take 2 (J3d x)=J3d x:=rfl
structure DFarkas where
 Scale:Int
 Mult:List Int
deriving DecidableEq
def J45 (x:DFarkas):List AV:=[i64 x.Scale,.sl 1 (J0e x.Mult)]
def J1i (x:DFarkas):List AV:=[i64 x.Scale,.us 1 (J0e x.Mult)]
@[simp] theorem Jre (x:DFarkas):J3l (J1i x)=true:=by simp [J1i]
@[simp] theorem Jps (l:List (DFarkas)):J42 (l.map J1i)=true:=by rw [J2d];simp
@[simp] theorem Jzu (x:DFarkas):(J45 x)[0]? = some (i64 x.Scale):=rfl
@[simp] theorem K1l (x:DFarkas) (h:0<(J45 x).length):(J45 x)[0]=i64 x.Scale:=rfl
@[simp] theorem K11 (x:DFarkas):(J45 x)[1]? = some (.sl 1 (J0e x.Mult)):=rfl
@[simp] theorem K1r (x:DFarkas) (h:1<(J45 x).length):(J45 x)[1] = .sl 1 (J0e x.Mult):=rfl
@[simp] theorem K21 (x:DFarkas):List.take 2 (J45 x)=J45 x:=rfl
@[simp] theorem Jyz (x:DFarkas):(J1i x)[0]? = some (i64 x.Scale):=rfl
@[simp] theorem K10 (x:DFarkas) (h:0<(J1i x).length):(J1i x)[0]=i64 x.Scale:=rfl
@[simp] theorem Jzl (x:DFarkas):(J1i x)[1]? = some (.us 1 (J0e x.Mult)):=rfl
@[simp] theorem K06 (x:DFarkas) (h:1<(J1i x).length):(J1i x)[1] = .us 1 (J0e x.Mult):=rfl
@[simp] theorem K4i (x:DFarkas):List.take 2 (J1i x)=J1i x:=rfl
structure DTerm where
 Coeff:Int
 Name:Str
deriving DecidableEq
def J10 (x:DTerm):List AV:=[i64 x.Coeff,.str x.Name]
def J48 (x:DTerm):List AV:=[i64 x.Coeff,.str x.Name]
@[simp] theorem Jou (x:DTerm):drl (J48 x)=J10 x:=by simp [J48,J10]
@[simp] theorem Jxz (l:List (DTerm)):drr (l.map J48)=l.map J10:=by rw [J4s,List.map_map];exact List.map_congr_left fun x _=>Jou x
@[simp] theorem Jx2 (x:DTerm):J3l (J48 x)=true:=by simp [J48]
@[simp] theorem Jto (l:List (DTerm)):J42 (l.map J48)=true:=by rw [J2d];simp
@[simp] theorem K6v (x:DTerm):(J10 x)[0]? = some (i64 x.Coeff):=rfl
@[simp] theorem K5y (x:DTerm) (h:0<(J10 x).length):(J10 x)[0]=i64 x.Coeff:=rfl
@[simp] theorem K53 (x:DTerm):(J10 x)[1]? = some (.str x.Name):=rfl
@[simp] theorem K74 (x:DTerm) (h:1<(J10 x).length):(J10 x)[1] = .str x.Name:=rfl
@[simp] theorem K8h (x:DTerm):List.take 2 (J10 x)=J10 x:=rfl
@[simp] theorem K7b (x:DTerm):(J48 x)[0]? = some (i64 x.Coeff):=rfl
@[simp] theorem K7i (x:DTerm) (h:0<(J48 x).length):(J48 x)[0]=i64 x.Coeff:=rfl
@[simp] theorem K7y (x:DTerm):(J48 x)[1]? = some (.str x.Name):=rfl
@[simp] theorem K6w (x:DTerm) (h:1<(J48 x).length):(J48 x)[1] = .str x.Name:=rfl
@[simp] theorem K8f (x:DTerm):List.take 2 (J48 x)=J48 x:=rfl
def J7g (x:DTerm):Nat:=x.Name.length
def Je9 (l:List DTerm):Nat:=wL J7g l
structure DSum where
 Const:Int
 Terms:List DTerm
deriving DecidableEq
def J1g (x:DSum):List AV:=[i64 x.Const,.sl 2 (x.Terms.map J10)]
def J58 (x:DSum):List AV:=[i64 x.Const,.us 2 (x.Terms.map J48)]
@[simp] theorem Js1 (x:DSum):drl (J58 x)=J1g x:=by simp [J58,J1g]
@[simp] theorem K0q (l:List (DSum)):drr (l.map J58)=l.map J1g:=by rw [J4s,List.map_map];exact List.map_congr_left fun x _=>Js1 x
@[simp] theorem Jy3 (x:DSum):J3l (J58 x)=true:=by simp [J58]
@[simp] theorem Jv6 (l:List (DSum)):J42 (l.map J58)=true:=by rw [J2d];simp
@[simp] theorem K4h (x:DSum):(J1g x).length=2:=by simp [J1g]
@[simp] theorem K6t (x:DSum) (h:Heap):bwl (J1g x) h=some (J1g x):=by simp [J1g]
@[simp] theorem Kaa (x:DSum):(J1g x)[0]? = some (i64 x.Const):=rfl
@[simp] theorem K9c (x:DSum) (h:0<(J1g x).length):(J1g x)[0]=i64 x.Const:=rfl
@[simp] theorem Ka6 (x:DSum):(J1g x)[1]? = some (.sl 2 (x.Terms.map J10)):=rfl
@[simp] theorem Ka4 (x:DSum) (h:1<(J1g x).length):(J1g x)[1] = .sl 2 (x.Terms.map J10):=rfl
@[simp] theorem tASum (x:DSum):List.take 2 (J1g x)=J1g x:=rfl
@[simp] theorem K98 (x:DSum):(J58 x)[0]? = some (i64 x.Const):=rfl
@[simp] theorem K8l (x:DSum) (h:0<(J58 x).length):(J58 x)[0]=i64 x.Const:=rfl
@[simp] theorem K93 (x:DSum):(J58 x)[1]? = some (.us 2 (x.Terms.map J48)):=rfl
@[simp] theorem K99 (x:DSum) (h:1<(J58 x).length):(J58 x)[1] = .us 2 (x.Terms.map J48):=rfl
@[simp] theorem tUSum (x:DSum):List.take 2 (J58 x)=J58 x:=rfl
def Jbm (x:DSum):Nat:=Je9 x.Terms
def J65 (l:List DSum):Nat:=wL Jbm l
structure DArg where
 Lst:Bool
 Heads:List DSum
 Base:Str
deriving DecidableEq
def J0x (x:DArg):List AV:=[.bool x.Lst,.sl 2 (x.Heads.map J1g),.str x.Base]
def J5b (x:DArg):List AV:=[.bool x.Lst,.us 2 (x.Heads.map J58),.str x.Base]
@[simp] theorem Jry (x:DArg):drl (J5b x)=J0x x:=by simp [J5b,J0x]
@[simp] theorem K1j (l:List (DArg)):drr (l.map J5b)=l.map J0x:=by rw [J4s,List.map_map];exact List.map_congr_left fun x _=>Jry x
@[simp] theorem Jyp (x:DArg):J3l (J5b x)=true:=by simp [J5b]
@[simp] theorem Jty (l:List (DArg)):J42 (l.map J5b)=true:=by rw [J2d];simp
@[simp] theorem K3f (x:DArg):(J0x x).length=3:=by simp [J0x]
@[simp] theorem K5u (x:DArg) (h:Heap):bwl (J0x x) h=some (J0x x):=by simp [J0x]
@[simp] theorem K94 (x:DArg):(J0x x)[0]? = some (.bool x.Lst):=rfl
@[simp] theorem K9q (x:DArg) (h:0<(J0x x).length):(J0x x)[0] = .bool x.Lst:=rfl
@[simp] theorem Kab (x:DArg):(J0x x)[1]? = some (.sl 2 (x.Heads.map J1g)):=rfl
@[simp] theorem K96 (x:DArg) (h:1<(J0x x).length):(J0x x)[1] = .sl 2 (x.Heads.map J1g):=rfl
@[simp] theorem K8m (x:DArg):(J0x x)[2]? = some (.str x.Base):=rfl
@[simp] theorem K9u (x:DArg) (h:2<(J0x x).length):(J0x x)[2] = .str x.Base:=rfl
@[simp] theorem tAArg (x:DArg):List.take 3 (J0x x)=J0x x:=rfl
@[simp] theorem K9h (x:DArg):(J5b x)[0]? = some (.bool x.Lst):=rfl
@[simp] theorem K9w (x:DArg) (h:0<(J5b x).length):(J5b x)[0] = .bool x.Lst:=rfl
@[simp] theorem K8p (x:DArg):(J5b x)[1]? = some (.us 2 (x.Heads.map J58)):=rfl
@[simp] theorem Kac (x:DArg) (h:1<(J5b x).length):(J5b x)[1] = .us 2 (x.Heads.map J58):=rfl
@[simp] theorem K9d (x:DArg):(J5b x)[2]? = some (.str x.Base):=rfl
@[simp] theorem K8q (x:DArg) (h:2<(J5b x).length):(J5b x)[2] = .str x.Base:=rfl
@[simp] theorem tUArg (x:DArg):List.take 3 (J5b x)=J5b x:=rfl
def Jae (x:DArg):Nat:=J65 x.Heads+x.Base.length
def Jet (l:List DArg):Nat:=wL Jae l
structure DFunction where
 Name:Str
 Params:List Str
 ListResult:Bool
 Pre:List DLin
deriving DecidableEq
def J05 (x:DFunction):List AV:=[.str x.Name,.sl 1 (J0d x.Params),.bool x.ListResult,.sl 2 (x.Pre.map J06)]
def J0j (x:DFunction):List AV:=[.str x.Name,.us 1 (J0d x.Params),.bool x.ListResult,.us 2 (x.Pre.map J07)]
@[simp] theorem Jgd (x:DFunction):drl (J0j x)=J05 x:=by simp [J0j,J05]
@[simp] theorem Jpr (l:List (DFunction)):drr (l.map J0j)=l.map J05:=by rw [J4s,List.map_map];exact List.map_congr_left fun x _=>Jgd x
@[simp] theorem Jmy (x:DFunction):J3l (J0j x)=true:=by simp [J0j]
@[simp] theorem Jm8 (l:List (DFunction)):J42 (l.map J0j)=true:=by rw [J2d];simp
@[simp] theorem Jpl (x:DFunction):(J05 x).all J0n=true:=by simp [J05]
@[simp] theorem Jsp (x:DFunction):(J05 x).length=4:=by simp [J05]
@[simp] theorem Jt1 (x:DFunction) (h:Heap):bwl (J05 x) h=some (J05 x):=by simp [J05]
@[simp] theorem Jvl (x:DFunction):(J05 x)[0]? = some (.str x.Name):=rfl
@[simp] theorem Jui (x:DFunction) (h:0<(J05 x).length):(J05 x)[0] = .str x.Name:=rfl
@[simp] theorem Ju9 (x:DFunction):(J05 x)[1]? = some (.sl 1 (J0d x.Params)):=rfl
@[simp] theorem Jvw (x:DFunction) (h:1<(J05 x).length):(J05 x)[1] = .sl 1 (J0d x.Params):=rfl
@[simp] theorem Jvj (x:DFunction):(J05 x)[2]? = some (.bool x.ListResult):=rfl
@[simp] theorem Jve (x:DFunction) (h:2<(J05 x).length):(J05 x)[2] = .bool x.ListResult:=rfl
@[simp] theorem Jvr (x:DFunction):(J05 x)[3]? = some (.sl 2 (x.Pre.map J06)):=rfl
@[simp] theorem Jvy (x:DFunction) (h:3<(J05 x).length):(J05 x)[3] = .sl 2 (x.Pre.map J06):=rfl
@[simp] theorem Jy2 (x:DFunction):List.take 4 (J05 x)=J05 x:=rfl
@[simp] theorem Jx3 (x:DFunction):(J0j x)[0]? = some (.str x.Name):=rfl
@[simp] theorem Jx7 (x:DFunction) (h:0<(J0j x).length):(J0j x)[0] = .str x.Name:=rfl
@[simp] theorem Jx0 (x:DFunction):(J0j x)[1]? = some (.us 1 (J0d x.Params)):=rfl
@[simp] theorem Jv3 (x:DFunction) (h:1<(J0j x).length):(J0j x)[1] = .us 1 (J0d x.Params):=rfl
@[simp] theorem Jv0 (x:DFunction):(J0j x)[2]? = some (.bool x.ListResult):=rfl
@[simp] theorem Juh (x:DFunction) (h:2<(J0j x).length):(J0j x)[2] = .bool x.ListResult:=rfl
@[simp] theorem Jvg (x:DFunction):(J0j x)[3]? = some (.us 2 (x.Pre.map J07)):=rfl
@[simp] theorem Jua (x:DFunction) (h:3<(J0j x).length):(J0j x)[3] = .us 2 (x.Pre.map J07):=rfl
@[simp] theorem Jy0 (x:DFunction):List.take 4 (J0j x)=J0j x:=rfl
def J44 (l:List Str):Nat:=wL List.length l
def J12 (x:DFunction):Nat:=x.Name.length+J44 x.Params+J5x x.Pre
def J29 (l:List DFunction):Nat:=wL J12 l
structure DPattern where
 Lst:Str
 Cons:Bool
 Head:Str
 Tail:Str
deriving DecidableEq
def J08 (x:DPattern):List AV:=[.str x.Lst,.bool x.Cons,.str x.Head,.str x.Tail]
def J1m (x:DPattern):List AV:=[.str x.Lst,.bool x.Cons,.str x.Head,.str x.Tail]
@[simp] theorem Jim (x:DPattern):drl (J1m x)=J08 x:=by simp [J1m,J08]
@[simp] theorem Jqh (l:List (DPattern)):drr (l.map J1m)=l.map J08:=by rw [J4s,List.map_map];exact List.map_congr_left fun x _=>Jim x
@[simp] theorem Jpk (x:DPattern):J3l (J1m x)=true:=by simp [J1m]
@[simp] theorem Jmq (l:List (DPattern)):J42 (l.map J1m)=true:=by rw [J2d];simp
@[simp] theorem Jtd (x:DPattern):(J08 x).length=4:=by simp [J08]
@[simp] theorem Jyl (x:DPattern):(J08 x)[0]? = some (.str x.Lst):=rfl
@[simp] theorem Jyj (x:DPattern) (h:0<(J08 x).length):(J08 x)[0] = .str x.Lst:=rfl
@[simp] theorem Jyg (x:DPattern):(J08 x)[1]? = some (.bool x.Cons):=rfl
@[simp] theorem Jy9 (x:DPattern) (h:1<(J08 x).length):(J08 x)[1] = .bool x.Cons:=rfl
@[simp] theorem Jxi (x:DPattern):(J08 x)[2]? = some (.str x.Head):=rfl
@[simp] theorem Jym (x:DPattern) (h:2<(J08 x).length):(J08 x)[2] = .str x.Head:=rfl
@[simp] theorem Jys (x:DPattern):(J08 x)[3]? = some (.str x.Tail):=rfl
@[simp] theorem Jyu (x:DPattern) (h:3<(J08 x).length):(J08 x)[3] = .str x.Tail:=rfl
@[simp] theorem K1q (x:DPattern):List.take 4 (J08 x)=J08 x:=rfl
@[simp] theorem Jyd (x:DPattern):(J1m x)[0]? = some (.str x.Lst):=rfl
@[simp] theorem Jyi (x:DPattern) (h:0<(J1m x).length):(J1m x)[0] = .str x.Lst:=rfl
@[simp] theorem Jyq (x:DPattern):(J1m x)[1]? = some (.bool x.Cons):=rfl
@[simp] theorem Jy6 (x:DPattern) (h:1<(J1m x).length):(J1m x)[1] = .bool x.Cons:=rfl
@[simp] theorem Jxu (x:DPattern):(J1m x)[2]? = some (.str x.Head):=rfl
@[simp] theorem Jxm (x:DPattern) (h:2<(J1m x).length):(J1m x)[2] = .str x.Head:=rfl
@[simp] theorem Jyt (x:DPattern):(J1m x)[3]? = some (.str x.Tail):=rfl
@[simp] theorem Jyc (x:DPattern) (h:3<(J1m x).length):(J1m x)[3] = .str x.Tail:=rfl
@[simp] theorem K17 (x:DPattern):List.take 4 (J1m x)=J1m x:=rfl
def J38 (x:DPattern):Nat:=x.Lst.length+x.Head.length+x.Tail.length
def J31 (l:List DPattern):Nat:=wL J38 l
structure DCall where
 Bind:Str
 Func:Str
 Args:List DArg
deriving DecidableEq
def J0y (x:DCall):List AV:=[.str x.Bind,.str x.Func,.sl 3 (x.Args.map J0x)]
def J3m (x:DCall):List AV:=[.str x.Bind,.str x.Func,.us 3 (x.Args.map J5b)]
@[simp] theorem Jmn (x:DCall):drl (J3m x)=J0y x:=by simp [J3m,J0y]
@[simp] theorem Jyr (l:List (DCall)):drr (l.map J3m)=l.map J0y:=by rw [J4s,List.map_map];exact List.map_congr_left fun x _=>Jmn x
@[simp] theorem Jvv (x:DCall):J3l (J3m x)=true:=by simp [J3m]
@[simp] theorem Jt8 (l:List (DCall)):J42 (l.map J3m)=true:=by rw [J2d];simp
@[simp] theorem K15 (x:DCall):(J0y x).length=3:=by simp [J0y]
@[simp] theorem K2p (x:DCall) (h:Heap):bwl (J0y x) h=some (J0y x):=by simp [J0y]
@[simp] theorem K70 (x:DCall):(J0y x)[0]? = some (.str x.Bind):=rfl
@[simp] theorem K6s (x:DCall) (h:0<(J0y x).length):(J0y x)[0] = .str x.Bind:=rfl
@[simp] theorem K7g (x:DCall):(J0y x)[1]? = some (.str x.Func):=rfl
@[simp] theorem K6e (x:DCall) (h:1<(J0y x).length):(J0y x)[1] = .str x.Func:=rfl
@[simp] theorem K6f (x:DCall):(J0y x)[2]? = some (.sl 3 (x.Args.map J0x)):=rfl
@[simp] theorem K5o (x:DCall) (h:2<(J0y x).length):(J0y x)[2] = .sl 3 (x.Args.map J0x):=rfl
@[simp] theorem K8d (x:DCall):List.take 3 (J0y x)=J0y x:=rfl
@[simp] theorem K73 (x:DCall):(J3m x)[0]? = some (.str x.Bind):=rfl
@[simp] theorem K4z (x:DCall) (h:0<(J3m x).length):(J3m x)[0] = .str x.Bind:=rfl
@[simp] theorem K78 (x:DCall):(J3m x)[1]? = some (.str x.Func):=rfl
@[simp] theorem K4s (x:DCall) (h:1<(J3m x).length):(J3m x)[1] = .str x.Func:=rfl
@[simp] theorem K5d (x:DCall):(J3m x)[2]? = some (.us 3 (x.Args.map J5b)):=rfl
@[simp] theorem K61 (x:DCall) (h:2<(J3m x).length):(J3m x)[2] = .us 3 (x.Args.map J5b):=rfl
@[simp] theorem K8s (x:DCall):List.take 3 (J3m x)=J3m x:=rfl
def J61 (x:DCall):Nat:=x.Bind.length+x.Func.length+Jet x.Args
def J8f (l:List DCall):Nat:=wL J61 l
structure DRule where
 Func:Str
 Patterns:List DPattern
 Guards:List DSum
 Calls:List DCall
 Result:DArg
deriving DecidableEq
def J0c (x:DRule):List AV:=[.str x.Func,.sl 4 (x.Patterns.map J08),.sl 2 (x.Guards.map J1g),.sl 3 (x.Calls.map J0y),.bool x.Result.Lst,.sl 2 (x.Result.Heads.map J1g),.str x.Result.Base]
def J27 (x:DRule):List AV:=[.str x.Func,.us 4 (x.Patterns.map J1m),.us 2 (x.Guards.map J58),.us 3 (x.Calls.map J3m),.bool x.Result.Lst,.us 2 (x.Result.Heads.map J58),.str x.Result.Base]
@[simp] theorem Jmk (x:DRule):drl (J27 x)=J0c x:=by simp [J27,J0c]
@[simp] theorem Jxy (l:List (DRule)):drr (l.map J27)=l.map J0c:=by rw [J4s,List.map_map];exact List.map_congr_left fun x _=>Jmk x
@[simp] theorem Juv (x:DRule):J3l (J27 x)=true:=by simp [J27]
@[simp] theorem Jtc (l:List (DRule)):J42 (l.map J27)=true:=by rw [J2d];simp
@[simp] theorem Jye (x:DRule):(J0c x).all J0n=true:=by simp [J0c]
@[simp] theorem Jzh (x:DRule):(J0c x).length=7:=by simp [J0c]
@[simp] theorem K4n (x:DRule) (h:Heap):bwl (J0c x) h=some (J0c x):=by simp [J0c]
@[simp] theorem K6c (x:DRule):(J0c x)[0]? = some (.str x.Func):=rfl
@[simp] theorem K52 (x:DRule) (h:0<(J0c x).length):(J0c x)[0] = .str x.Func:=rfl
@[simp] theorem K6u (x:DRule):(J0c x)[1]? = some (.sl 4 (x.Patterns.map J08)):=rfl
@[simp] theorem K84 (x:DRule) (h:1<(J0c x).length):(J0c x)[1] = .sl 4 (x.Patterns.map J08):=rfl
@[simp] theorem K81 (x:DRule):(J0c x)[2]? = some (.sl 2 (x.Guards.map J1g)):=rfl
@[simp] theorem K65 (x:DRule) (h:2<(J0c x).length):(J0c x)[2] = .sl 2 (x.Guards.map J1g):=rfl
@[simp] theorem K8b (x:DRule):(J0c x)[3]? = some (.sl 3 (x.Calls.map J0y)):=rfl
@[simp] theorem K8c (x:DRule) (h:3<(J0c x).length):(J0c x)[3] = .sl 3 (x.Calls.map J0y):=rfl
@[simp] theorem K75 (x:DRule):(J0c x)[4]? = some (.bool x.Result.Lst):=rfl
@[simp] theorem K7h (x:DRule) (h:4<(J0c x).length):(J0c x)[4] = .bool x.Result.Lst:=rfl
@[simp] theorem K6n (x:DRule):(J0c x)[5]? = some (.sl 2 (x.Result.Heads.map J1g)):=rfl
@[simp] theorem K59 (x:DRule) (h:5<(J0c x).length):(J0c x)[5] = .sl 2 (x.Result.Heads.map J1g):=rfl
@[simp] theorem K7p (x:DRule):(J0c x)[6]? = some (.str x.Result.Base):=rfl
@[simp] theorem K8a (x:DRule) (h:6<(J0c x).length):(J0c x)[6] = .str x.Result.Base:=rfl
@[simp] theorem K9m (x:DRule):List.take 7 (J0c x)=J0c x:=rfl
@[simp] theorem Jsn (x:DRule):List.take 3 (List.drop 4 (J0c x))=J0x x.Result:=rfl
@[simp] theorem K5j (x:DRule):(J27 x)[0]? = some (.str x.Func):=rfl
@[simp] theorem K7o (x:DRule) (h:0<(J27 x).length):(J27 x)[0] = .str x.Func:=rfl
@[simp] theorem K6k (x:DRule):(J27 x)[1]? = some (.us 4 (x.Patterns.map J1m)):=rfl
@[simp] theorem K5c (x:DRule) (h:1<(J27 x).length):(J27 x)[1] = .us 4 (x.Patterns.map J1m):=rfl
@[simp] theorem K6o (x:DRule):(J27 x)[2]? = some (.us 2 (x.Guards.map J58)):=rfl
@[simp] theorem K7c (x:DRule) (h:2<(J27 x).length):(J27 x)[2] = .us 2 (x.Guards.map J58):=rfl
@[simp] theorem K76 (x:DRule):(J27 x)[3]? = some (.us 3 (x.Calls.map J3m)):=rfl
@[simp] theorem K5r (x:DRule) (h:3<(J27 x).length):(J27 x)[3] = .us 3 (x.Calls.map J3m):=rfl
@[simp] theorem K51 (x:DRule):(J27 x)[4]? = some (.bool x.Result.Lst):=rfl
@[simp] theorem K6i (x:DRule) (h:4<(J27 x).length):(J27 x)[4] = .bool x.Result.Lst:=rfl
@[simp] theorem K86 (x:DRule):(J27 x)[5]? = some (.us 2 (x.Result.Heads.map J58)):=rfl
@[simp] theorem K7a (x:DRule) (h:5<(J27 x).length):(J27 x)[5] = .us 2 (x.Result.Heads.map J58):=rfl
@[simp] theorem K57 (x:DRule):(J27 x)[6]? = some (.str x.Result.Base):=rfl
@[simp] theorem K5b (x:DRule) (h:6<(J27 x).length):(J27 x)[6] = .str x.Result.Base:=rfl
@[simp] theorem K95 (x:DRule):List.take 7 (J27 x)=J27 x:=rfl
@[simp] theorem Jra (x:DRule):List.take 3 (List.drop 4 (J27 x))=J5b x.Result:=rfl
def J4l (x:DRule):Nat:=x.Func.length+J31 x.Patterns+J65 x.Guards+J8f x.Calls+Jae x.Result
def J8w (l:List DRule):Nat:=wL J4l l
structure DProgram where
 Functions:List DFunction
 Rules:List DRule
deriving DecidableEq
def J03 (x:DProgram):List AV:=[.sl 4 (x.Functions.map J05),.sl 7 (x.Rules.map J0c)]
def J1o (x:DProgram):List AV:=[.us 4 (x.Functions.map J0j),.us 7 (x.Rules.map J27)]
@[simp] theorem Jq1 (x:DProgram):(J03 x).all J0n=true:=by simp [J03]
@[simp] theorem Jta (x:DProgram):(J03 x).length=2:=by simp [J03]
@[simp] theorem Juj (x:DProgram) (h:Heap):bwl (J03 x) h=some (J03 x):=by simp [J03]
@[simp] theorem Jxx (x:DProgram):(J03 x)[0]? = some (.sl 4 (x.Functions.map J05)):=rfl
@[simp] theorem Jxv (x:DProgram) (h:0<(J03 x).length):(J03 x)[0] = .sl 4 (x.Functions.map J05):=rfl
@[simp] theorem Jxj (x:DProgram):(J03 x)[1]? = some (.sl 7 (x.Rules.map J0c)):=rfl
@[simp] theorem Jxr (x:DProgram) (h:1<(J03 x).length):(J03 x)[1] = .sl 7 (x.Rules.map J0c):=rfl
@[simp] theorem Jzb (x:DProgram):List.take 2 (J03 x)=J03 x:=rfl
@[simp] theorem Jyh (x:DProgram):(J1o x)[0]? = some (.us 4 (x.Functions.map J0j)):=rfl
@[simp] theorem Jyv (x:DProgram) (h:0<(J1o x).length):(J1o x)[0] = .us 4 (x.Functions.map J0j):=rfl
@[simp] theorem Jyb (x:DProgram):(J1o x)[1]? = some (.us 7 (x.Rules.map J27)):=rfl
@[simp] theorem Jyn (x:DProgram) (h:1<(J1o x).length):(J1o x)[1] = .us 7 (x.Rules.map J27):=rfl
@[simp] theorem Jz4 (x:DProgram):List.take 2 (J1o x)=J1o x:=rfl
def J0r (x:DProgram):Nat:=J29 x.Functions+J8w x.Rules
structure DModel where
 System:DSystem
 Params:List DLin
 Args:List (List DLin)
 Result:DLin
deriving DecidableEq
def J16 (x:DModel):List AV:=[i64 x.System.N,.sl 2 (x.System.Rows.map J06),.sl 2 (x.Params.map J06),.sl 1 (x.Args.map Jc9),i64 x.Result.Const,.sl 1 (J0e x.Result.Coeffs)]
def J22 (x:DModel):List AV:=[i64 x.System.N,.us 2 (x.System.Rows.map J07),.us 2 (x.Params.map J07),.us 1 (x.Args.map J26),i64 x.Result.Const,.us 1 (J0e x.Result.Coeffs)]
@[simp] theorem Jxw (x:DModel):drl (J22 x)=J16 x:=by simp [J22,J16]
@[simp] theorem Jvd (x:DModel):(J16 x).all J0n=true:=by simp [J16]
@[simp] theorem Jxt (x:DModel):(J16 x).length=6:=by simp [J16]
@[simp] theorem Jz7 (x:DModel) (h:Heap):bwl (J16 x) h=some (J16 x):=by simp [J16]
@[simp] theorem K30 (x:DModel):(J16 x)[0]? = some (i64 x.System.N):=rfl
@[simp] theorem K3m (x:DModel) (h:0<(J16 x).length):(J16 x)[0]=i64 x.System.N:=rfl
@[simp] theorem K4j (x:DModel):(J16 x)[1]? = some (.sl 2 (x.System.Rows.map J06)):=rfl
@[simp] theorem K3v (x:DModel) (h:1<(J16 x).length):(J16 x)[1] = .sl 2 (x.System.Rows.map J06):=rfl
@[simp] theorem K4b (x:DModel):(J16 x)[2]? = some (.sl 2 (x.Params.map J06)):=rfl
@[simp] theorem K4g (x:DModel) (h:2<(J16 x).length):(J16 x)[2] = .sl 2 (x.Params.map J06):=rfl
@[simp] theorem K2q (x:DModel):(J16 x)[3]? = some (.sl 1 (x.Args.map Jc9)):=rfl
@[simp] theorem K2s (x:DModel) (h:3<(J16 x).length):(J16 x)[3] = .sl 1 (x.Args.map Jc9):=rfl
@[simp] theorem K2n (x:DModel):(J16 x)[4]? = some (i64 x.Result.Const):=rfl
@[simp] theorem K36 (x:DModel) (h:4<(J16 x).length):(J16 x)[4]=i64 x.Result.Const:=rfl
@[simp] theorem K4f (x:DModel):(J16 x)[5]? = some (.sl 1 (J0e x.Result.Coeffs)):=rfl
@[simp] theorem K3g (x:DModel) (h:5<(J16 x).length):(J16 x)[5] = .sl 1 (J0e x.Result.Coeffs):=rfl
@[simp] theorem K60 (x:DModel):List.take 6 (J16 x)=J16 x:=rfl
@[simp] theorem Jpj (x:DModel):List.take 2 (J16 x)=J0f x.System:=rfl
@[simp] theorem Jpn (x:DModel):List.take 2 (List.drop 4 (J16 x))=J06 x.Result:=rfl
@[simp] theorem K2k (x:DModel):(J22 x)[0]? = some (i64 x.System.N):=rfl
@[simp] theorem K27 (x:DModel) (h:0<(J22 x).length):(J22 x)[0]=i64 x.System.N:=rfl
@[simp] theorem K24 (x:DModel):(J22 x)[1]? = some (.us 2 (x.System.Rows.map J07)):=rfl
@[simp] theorem K3q (x:DModel) (h:1<(J22 x).length):(J22 x)[1] = .us 2 (x.System.Rows.map J07):=rfl
@[simp] theorem K22 (x:DModel):(J22 x)[2]? = some (.us 2 (x.Params.map J07)):=rfl
@[simp] theorem K4l (x:DModel) (h:2<(J22 x).length):(J22 x)[2] = .us 2 (x.Params.map J07):=rfl
@[simp] theorem K20 (x:DModel):(J22 x)[3]? = some (.us 1 (x.Args.map J26)):=rfl
@[simp] theorem K33 (x:DModel) (h:3<(J22 x).length):(J22 x)[3] = .us 1 (x.Args.map J26):=rfl
@[simp] theorem K40 (x:DModel):(J22 x)[4]? = some (i64 x.Result.Const):=rfl
@[simp] theorem K3i (x:DModel) (h:4<(J22 x).length):(J22 x)[4]=i64 x.Result.Const:=rfl
@[simp] theorem K2x (x:DModel):(J22 x)[5]? = some (.us 1 (J0e x.Result.Coeffs)):=rfl
@[simp] theorem K37 (x:DModel) (h:5<(J22 x).length):(J22 x)[5] = .us 1 (J0e x.Result.Coeffs):=rfl
@[simp] theorem K56 (x:DModel):List.take 6 (J22 x)=J22 x:=rfl
@[simp] theorem Jpo (x:DModel):List.take 2 (J22 x)=J3d x.System:=rfl
@[simp] theorem Jpm (x:DModel):List.take 2 (List.drop 4 (J22 x))=J07 x.Result:=rfl
structure DObligation where
 System:DSystem
 Target:DLin
deriving DecidableEq
def J0w (x:DObligation):List AV:=[i64 x.System.N,.sl 2 (x.System.Rows.map J06),i64 x.Target.Const,.sl 1 (J0e x.Target.Coeffs)]
def J0i (x:DObligation):List AV:=[i64 x.System.N,.us 2 (x.System.Rows.map J07),i64 x.Target.Const,.us 1 (J0e x.Target.Coeffs)]
@[simp] theorem Jei (x:DObligation):drl (J0i x)=J0w x:=by simp [J0i,J0w]
@[simp] theorem Jmd (l:List (DObligation)):drr (l.map J0i)=l.map J0w:=by rw [J4s,List.map_map];exact List.map_congr_left fun x _=>Jei x
@[simp] theorem Jm5 (x:DObligation):J3l (J0i x)=true:=by simp [J0i]
@[simp] theorem Jl5 (l:List (DObligation)):J42 (l.map J0i)=true:=by rw [J2d];simp
@[simp] theorem Jrr (x:DObligation):(J0w x)[0]? = some (i64 x.System.N):=rfl
@[simp] theorem Js8 (x:DObligation) (h:0<(J0w x).length):(J0w x)[0]=i64 x.System.N:=rfl
@[simp] theorem Jr8 (x:DObligation):(J0w x)[1]? = some (.sl 2 (x.System.Rows.map J06)):=rfl
@[simp] theorem Jq6 (x:DObligation) (h:1<(J0w x).length):(J0w x)[1] = .sl 2 (x.System.Rows.map J06):=rfl
@[simp] theorem Jr0 (x:DObligation):(J0w x)[2]? = some (i64 x.Target.Const):=rfl
@[simp] theorem Jsc (x:DObligation) (h:2<(J0w x).length):(J0w x)[2]=i64 x.Target.Const:=rfl
@[simp] theorem Jqr (x:DObligation):(J0w x)[3]? = some (.sl 1 (J0e x.Target.Coeffs)):=rfl
@[simp] theorem Jrm (x:DObligation) (h:3<(J0w x).length):(J0w x)[3] = .sl 1 (J0e x.Target.Coeffs):=rfl
@[simp] theorem Jti (x:DObligation):List.take 4 (J0w x)=J0w x:=rfl
@[simp] theorem Jit (x:DObligation):List.take 2 (J0w x)=J0f x.System:=rfl
@[simp] theorem Jj7 (x:DObligation):List.take 2 (List.drop 2 (J0w x))=J06 x.Target:=rfl
@[simp] theorem Js9 (x:DObligation):(J0i x)[0]? = some (i64 x.System.N):=rfl
@[simp] theorem Jrq (x:DObligation) (h:0<(J0i x).length):(J0i x)[0]=i64 x.System.N:=rfl
@[simp] theorem Jrt (x:DObligation):(J0i x)[1]? = some (.us 2 (x.System.Rows.map J07)):=rfl
@[simp] theorem Jqy (x:DObligation) (h:1<(J0i x).length):(J0i x)[1] = .us 2 (x.System.Rows.map J07):=rfl
@[simp] theorem Jqk (x:DObligation):(J0i x)[2]? = some (i64 x.Target.Const):=rfl
@[simp] theorem Js2 (x:DObligation) (h:2<(J0i x).length):(J0i x)[2]=i64 x.Target.Const:=rfl
@[simp] theorem Jrc (x:DObligation):(J0i x)[3]? = some (.us 1 (J0e x.Target.Coeffs)):=rfl
@[simp] theorem Jqs (x:DObligation) (h:3<(J0i x).length):(J0i x)[3] = .us 1 (J0e x.Target.Coeffs):=rfl
@[simp] theorem Jth (x:DObligation):List.take 4 (J0i x)=J0i x:=rfl
@[simp] theorem Jjq (x:DObligation):List.take 2 (J0i x)=J3d x.System:=rfl
@[simp] theorem Jjl (x:DObligation):List.take 2 (List.drop 2 (J0i x))=J07 x.Target:=rfl
structure DEdge where
 Rule:Int
 Call:Int
deriving DecidableEq
def J2f (x:DEdge):List AV:=[i64 x.Rule,i64 x.Call]
def J3s (x:DEdge):List AV:=[i64 x.Rule,i64 x.Call]
@[simp] theorem Joh (x:DEdge):drl (J3s x)=J2f x:=by simp [J3s,J2f]
@[simp] theorem Jy8 (l:List (DEdge)):drr (l.map J3s)=l.map J2f:=by rw [J4s,List.map_map];exact List.map_congr_left fun x _=>Joh x
@[simp] theorem Jwu (x:DEdge):J3l (J3s x)=true:=by simp [J3s]
@[simp] theorem Jtf (l:List (DEdge)):J42 (l.map J3s)=true:=by rw [J2d];simp
@[simp] theorem Jy4 (x:DEdge):(J2f x).all J0n=true:=by simp [J2f]
@[simp] theorem Jzg (x:DEdge):(J2f x).length=2:=by simp [J2f]
@[simp] theorem K2v (x:DEdge) (h:Heap):bwl (J2f x) h=some (J2f x):=by simp [J2f]
@[simp] theorem K89 (x:DEdge):(J2f x)[0]? = some (i64 x.Rule):=rfl
@[simp] theorem K7l (x:DEdge) (h:0<(J2f x).length):(J2f x)[0]=i64 x.Rule:=rfl
@[simp] theorem K5l (x:DEdge):(J2f x)[1]? = some (i64 x.Call):=rfl
@[simp] theorem K6l (x:DEdge) (h:1<(J2f x).length):(J2f x)[1]=i64 x.Call:=rfl
@[simp] theorem Ka3 (x:DEdge):List.take 2 (J2f x)=J2f x:=rfl
@[simp] theorem K6p (x:DEdge):(J3s x)[0]? = some (i64 x.Rule):=rfl
@[simp] theorem K4x (x:DEdge) (h:0<(J3s x).length):(J3s x)[0]=i64 x.Rule:=rfl
@[simp] theorem K4r (x:DEdge):(J3s x)[1]? = some (i64 x.Call):=rfl
@[simp] theorem K7u (x:DEdge) (h:1<(J3s x).length):(J3s x)[1]=i64 x.Call:=rfl
@[simp] theorem K9e (x:DEdge):List.take 2 (J3s x)=J3s x:=rfl
end Go.Proofs.YtoclolkigjbcgaaGreat
namespace Go.Proofs.YtoclolkigjbcgaaGreat
set_option linter.all false
open Go Go.RowKit
attribute [simp] K0g Jja J57
@[simp] theorem K64 {h:Heap}{K:AV→Heap→Nat→Prop}{r:AV}{n:Nat} : hK h K r h n=K r h n:=by simp [hK,J8i.refl]
mutual
def Jsk:AV→Prop
 | .sl _ rows=>rows.length≤LIM
 | .us _ rows=>rows.length≤LIM
 | .str l=>l.length≤LIM
 | .agg cs=>Jt6 cs
 | .tup cs=>Jt6 cs
 | .undef | .int .. | .bool _ | .nil _ | .nilp | .ptr .. | .fptr .. | .ref .. | .fn .. | .mp _=>True
def Jt6:List AV→Prop
 | []=>True
 | a::as=>Jsk a∧Jt6 as
end
section
variable {w:World}{L:Nat→Option Loc}{N:Nat}
mutual
theorem Jzp:∀ (a:AV) (v:Value) (S:List Nat),VR w L N a v S→Jsk a
 | .sl ..,_,_,h=>by
  simp only [VR] at h
  obtain ⟨⟨A,cap,vals,_,hl,_⟩,_⟩:=h
  simp only [Jsk];exact hl.1
 | .us ..,_,_,h=>by simp only [VR] at h;simp only [Jsk];exact h.1
 | .str _,_,_,h=>by
  simp only [VR] at h
  obtain ⟨⟨b,_,_,hl⟩,_⟩:=h
  simp only [Jsk];exact hl
 | .agg cs,_,_,h=>by simp only [VR] at h;obtain ⟨vs,_,h⟩:=h;simp only [Jsk];exact Jgq cs _ _ h
 | .tup cs,_,_,h=>by simp only [VR] at h;obtain ⟨vs,_,h⟩:=h;simp only [Jsk];exact Jgq cs _ _ h
 | .undef,_,_,_ | .int ..,_,_,_ | .bool _,_,_,_ | .nil _,_,_,_ | .nilp,_,_,_ | .ptr ..,_,_,_ | .fptr ..,_,_,_ | .ref ..,_,_,_ | .fn ..,_,_,_ | .mp _,_,_,_=>by simp only [Jsk]
theorem Jgq:∀ (as:List AV) (vs:List Value) (S:List Nat),VRl w L N as vs S→Jt6 as
 | [],_,_,_=>by simp only [Jt6]
 | a::as,_,_,h=>by
  simp only [VRl] at h
  obtain ⟨v,vs',S1,S2,_,_,h1,h2⟩:=h
  simp only [Jt6];exact ⟨Jzp a _ _ h1,Jgq as _ _ h2⟩
end
end
theorem J1k {P:Program}{f:FuncId}{fn:Func}{as:List AV}{Q:AV→Prop}(hf:P.funcs[f]? = some fn) (hb:fn.body.isSome=true) (hn:(fn.name == "runtime.NumGoroutine")=false) (h:Jt6 as→Holds P f as Q):Holds P f as Q:=
 ⟨by simp [J73,hf,hb,hn],fun w vs hv=>(h (Jgq as vs [] hv)).2 w vs hv⟩
attribute [simp] Jsk Jt6
theorem J8r {P:Program}{K K':Env→Heap→Nat→Prop}(hk:∀ s h n,K s h n→K' s h n):∀ {os:List AO}{s:Env}{h:Heap}{n:Nat},Jgh P os s h n K→Jgh P os s h n K'
 | [],s,h,n,hw=>hk s h n hw
 | o::os,s,h,n,hw=>by
  simp only [Jgh] at hw ⊢
  cases hg:o.g with
  | none=>rw [hg] at hw;exact J80 hw fun _ _ _ h=>J8r hk h
  | some p=>
   obtain ⟨j,want⟩:=p
   rw [hg] at hw
   simp only at hw ⊢
   cases hs:s j <;> rw [hs] at hw <;> try exact hw.elim
   ·exact ⟨fun e=>J80 (hw.1 e) fun _ _ _ h=>J8r hk h,fun e=>J8r hk (hw.2 e)⟩
   ·rename_i vs
    cases vs
    ·exact J8r hk hw
    ·exact hw.elim
theorem Jbb {P:Program}{s:Env}{h:Heap}{n:Nat}{K K':AV→Heap→Nat→Prop}{op:AOp}(hw:J5f P s h n K op) (hk:∀ r h n,K r h n→K' r h n):J5f P s h n K' op:=by
 unfold J5f at hw ⊢
 split at hw
 ·split at hw
  ·rename_i hf;try simp only [hf]
   exact J30.mono hw fun _ _ _ h=>⟨h.1,hk _ _ _ h.2⟩
  ·exact hw.elim
 ·split at hw
  ·exact hk _ _ _ hw
  ·exact hk _ _ _ hw
  ·exact ⟨hw.1,hk _ _ _ hw.2⟩
  ·exact hk _ _ _ hw
  ·exact hw.elim
 ·exact J80 hw hk
theorem J47 {P:Program}{K K':Env→Heap→Nat→Prop}(hk:∀ s h n,K s h n→K' s h n):∀ {t:DT}{s:Env}{h:Heap}{n:Nat},J7w P t s h n K→J7w P t s h n K'
 | .fin,s,h,n,hw=>hk s h n hw
 | .stuck,_,_,_,hw=>hw.elim
 | .both a b,s,h,n,hw=>⟨J47 hk hw.1,J47 hk hw.2⟩
 | .op o t,s,h,n,hw=>by
  simp only [J7w] at hw ⊢
  cases hg:o.g with
  | none=>rw [hg] at hw;exact Jbb hw fun _ _ _ h=>J47 hk h
  | some p=>
   obtain ⟨j,want⟩:=p
   rw [hg] at hw
   simp only at hw ⊢
   cases hs:s j <;> rw [hs] at hw <;> try exact hw.elim
   ·exact ⟨fun e=>Jbb (hw.1 e) fun _ _ _ h=>J47 hk h,fun e=>J47 hk (hw.2 e)⟩
   ·rename_i vs
    cases vs
    ·exact J47 hk hw
    ·exact hw.elim
 | .hop o ps t,s,h,n,hw=>by
  simp only [J7w] at hw ⊢
  cases hg:o.g with
  | none=>rw [hg] at hw;exact Jbb hw fun _ _ _ h=>⟨h.1,J47 hk h.2⟩
  | some p=>
   obtain ⟨j,want⟩:=p
   rw [hg] at hw
   simp only at hw ⊢
   cases hs:s j <;> rw [hs] at hw <;> try exact hw.elim
   ·exact ⟨fun e=>Jbb (hw.1 e) fun _ _ _ h=>⟨h.1,J47 hk h.2⟩,fun e=>J47 hk (hw.2 e)⟩
   ·rename_i vs
    cases vs
    ·exact J47 hk hw
    ·exact hw.elim
theorem Jdd {P:Program} : ∀ {a:AC}{s:Env}{h:Heap}{n:Nat}{Q Q':Fin},awp P a s h n Q→(∀ e s h n,Q e s h n→Q' e s h n)→awp P a s h n Q':=by
 intro a
 induction a with
 | skip=>intro s h n Q Q' hw hq;exact hq _ _ _ _ hw
 | reg os=>intro s h n Q Q' hw hq;exact J8r (hq .normal) hw
 | seq a b iha ihb=>
  intro s h n Q Q' hw hq
  refine iha hw fun e s h n hh => ?_
  cases e
  ·exact ihb hh hq
  ·exact hq _ _ _ _ hh
  ·exact hq _ _ _ _ hh
 | cond c a b iha ihb=>
  intro s h n Q Q' hw hq
  simp only [awp] at hw ⊢
  split at hw
  ·exact ⟨fun e=>iha (hw.1 e) hq,fun e=>ihb (hw.2 e) hq⟩
  ·exact hw.elim
 | blk id a iha=>
  intro s h n Q Q' hw hq
  refine iha hw fun e s h n hh => ?_
  cases e
  ·exact hq _ _ _ _ hh
  ·simp only at hh ⊢;split
   ·rename_i hx;rw [if_pos hx] at hh;exact hq _ _ _ _ hh
   ·rename_i hx;rw [if_neg hx] at hh;exact hq _ _ _ _ hh
  ·exact hq _ _ _ _ hh
 | loop a iha=>
  intro s h n Q Q' hw hq
  obtain ⟨I,h0,hs⟩:=hw
  refine ⟨I,h0,fun k s h n hi=>iha (hs k s h n hi) fun e s h n hh => ?_⟩
  cases e
  ·exact hh
  ·exact hq _ _ _ _ hh
  ·exact hq _ _ _ _ hh
 | exit id=>intro s h n Q Q' hw hq;exact hq _ _ _ _ hw
 | ret=>intro s h n Q Q' hw hq;exact hq _ _ _ _ hw
 | draw t=>intro s h n Q Q' hw hq;exact J47 (hq .normal) hw
@[simp ↓ high] theorem Jgk {P:Program}{ks:List Kt}{s:Env}{h:Heap}{n:Nat}{Q:Fin}{c:Opd}{a b:AC}(hc:ev s c = .bool true):rC P (.cond c a b) ks s h n Q=rC P a ks s h n Q:=by
 rw [Ja3,hc];simp [gd]
@[simp ↓ high] theorem Jka {P:Program}{ks:List Kt}{s:Env}{h:Heap}{n:Nat}{Q:Fin}{c:Opd}{a b:AC}(hc:ev s c = .bool false):rC P (.cond c a b) ks s h n Q=rC P b ks s h n Q:=by
 rw [Ja3,hc];simp [gd]
section
variable {P:Program}{s:Env}{h:Heap}{n:Nat}{ks:List Kt}{Q:Fin}{a:AC}
def K00 (P:Program) (ks:List Kt) (Q:Fin) (keep:List Nat) (s0:Env) (ic i:Nat) (J:Nat→Env→Heap→Nat→Prop):Fin:=fun e s h n=>match e with
 | .normal=>(∀ j∈keep,s j=s0 j)∧s ic = .int .i64 ((i:Int)+1)∧J (i+1) s h n
 | e=>J25 P ks e s h n Q
def K4k (P:Program) (ks:List Kt) (Q:Fin):Fin:=fun e s h n=>match e with
 | .normal=>False
 | e=>J25 P ks e s h n Q
@[simp ↓] theorem Jvq {keep:List Nat}{s0 s':Env}{ic i:Nat}{J:Nat→Env→Heap→Nat→Prop}{h':Heap}{n':Nat} : K00 P ks Q keep s0 ic i J .normal s' h' n'=((∀ j∈keep,s' j=s0 j)∧s' ic = .int .i64 ((i:Int)+1)∧J (i+1) s' h' n'):=propext Iff.rfl
@[simp ↓] theorem K3k {keep:List Nat}{s0 s':Env}{ic i:Nat}{J:Nat→Env→Heap→Nat→Prop}{h':Heap}{n':Nat} : K00 P ks Q keep s0 ic i J .ret s' h' n'=J25 P ks .ret s' h' n' Q:=propext Iff.rfl
@[simp ↓] theorem K08 {keep:List Nat}{s0 s':Env}{ic i x:Nat}{J:Nat→Env→Heap→Nat→Prop}{h':Heap}{n':Nat} : K00 P ks Q keep s0 ic i J (.exit x) s' h' n'=J25 P ks (.exit x) s' h' n' Q:=propext Iff.rfl
@[simp ↓] theorem K31 {s':Env}{h':Heap}{n':Nat} : K4k P ks Q .ret s' h' n'=J25 P ks .ret s' h' n' Q:=propext Iff.rfl
@[simp ↓] theorem Jzc {x:Nat}{s':Env}{h':Heap}{n':Nat} : K4k P ks Q (.exit x) s' h' n'=J25 P ks (.exit x) s' h' n' Q:=propext Iff.rfl
theorem Jmv (keep:List Nat) (ic N:Nat) (J:Nat→Env→Heap→Nat→Prop) (hN:N≤LIM) (hi0:s ic = .int .i64 0) (hJ0:J 0 s h n)
 (hstep:∀ i s' h' n',i<N→¬N≤i→(∀ j∈keep,s' j=s j)→s' ic = .int .i64 (i:Int)→IntKind.i64.wrap ((i:Int)+1)=(i:Int)+1→J i s' h' n'→rC P a [] s' h' n' (K00 P ks Q keep s ic i J))
 (hend:∀ s' h' n',(∀ j∈keep,s' j=s j)→s' ic = .int .i64 (N:Int)→J N s' h' n'→rC P a [] s' h' n' (K4k P ks Q)):rL P a ks s h n Q:=by
 refine Jb2 (fun k s' h' n'=>∃ i:Nat,k=N - i∧i≤N∧(∀ j∈keep,s' j=s j)∧s' ic = .int .i64 (i:Int)∧J i s' h' n') N ⟨0,by simp,Nat.zero_le _,fun _ _=>rfl,hi0,hJ0⟩ ?_
 rintro k s' h' n' ⟨i,rfl,hi,hk,hic,hJ⟩
 unfold LIM at hN
 by_cases hlt:i<N
 ·have:=hstep i s' h' n' hlt (by omega) hk hic (J19 (by omega)) hJ
  unfold rC at this ⊢
  refine Jdd this ?_
  intro e s2 h2 n2 hq
  cases e
  ·obtain ⟨q1,q2,q3⟩:=hq
   exact ⟨N - (i+1),by omega,i+1,rfl,by omega,q1,q2,q3⟩
  ·exact hq
  ·exact hq
 ·have hiN:i=N:=by omega
  subst hiN
  have:=hend s' h' n' hk hic hJ
  unfold rC at this ⊢
  refine Jdd this ?_
  intro e s2 h2 n2 hq
  cases e
  ·exact hq.elim
  ·exact hq
  ·exact hq
theorem Jsy (keep:List Nat) (ic N:Nat) (J:Nat→Env→Prop) (hN:N≤LIM) (hi0:s ic = .int .i64 0) (hJ0:J 0 s)
 (hstep:∀ i s',i<N→¬N≤i→(∀ j∈keep,s' j=s j)→s' ic = .int .i64 (i:Int)→IntKind.i64.wrap ((i:Int)+1)=(i:Int)+1→J i s'→rC P a [] s' h n (K00 P ks Q keep s ic i fun i s' h' n'=>J i s'∧h'=h∧n'=n))
 (hend:∀ s',(∀ j∈keep,s' j=s j)→s' ic = .int .i64 (N:Int)→J N s'→rC P a [] s' h n (K4k P ks Q)):rL P a ks s h n Q:=by
 refine Jmv keep ic N (fun i s' h' n'=>J i s'∧h'=h∧n'=n) hN hi0 ⟨hJ0,rfl,rfl⟩ ?_ ?_
 ·rintro i s' h' n' hi hg hk hic hw ⟨hJ,rfl,rfl⟩;exact hstep i s' hi hg hk hic hw hJ
 ·rintro s' h' n' hk hic ⟨hJ,rfl,rfl⟩;exact hend s' hk hic hJ
theorem J0k (keep:List Nat) (ic N:Nat) (J:Nat→Env→Heap→Nat→Prop) (hN:N≤LIM) (hi0:s ic = .int .i64 0) (hJ0:J 0 s h n)
 (hstep:∀ i s' h' n' (R:Fin),i<N→¬N≤i→(∀ j∈keep,s' j=s j)→s' ic = .int .i64 (i:Int)→IntKind.i64.wrap ((i:Int)+1)=(i:Int)+1→J i s' h' n' →
  (∀ s'' h'' n'',(∀ j∈keep,s'' j=s j)→s'' ic = .int .i64 ((i:Int)+1)→J (i+1) s'' h'' n''→R .normal s'' h'' n'') →
  (∀ s'' h'' n'',J25 P ks .ret s'' h'' n'' Q→R .ret s'' h'' n'')→(∀ x s'' h'' n'',J25 P ks (.exit x) s'' h'' n'' Q→R (.exit x) s'' h'' n'')→rC P a [] s' h' n' R)
 (hend:∀ s' h' n' (R:Fin),(∀ j∈keep,s' j=s j)→s' ic = .int .i64 (N:Int)→J N s' h' n' →
  (∀ s'' h'' n'',J25 P ks .ret s'' h'' n'' Q→R .ret s'' h'' n'')→(∀ x s'' h'' n'',J25 P ks (.exit x) s'' h'' n'' Q→R (.exit x) s'' h'' n'')→rC P a [] s' h' n' R):rL P a ks s h n Q:=by
 refine Jmv keep ic N J hN hi0 hJ0 ?_ ?_
 ·intro i s' h' n' hi hg hk hic hw hJ
  exact hstep i s' h' n' _ hi hg hk hic hw hJ (fun _ _ _ h1 h2 h3=>⟨h1,h2,h3⟩) (fun _ _ _ h=>h) (fun _ _ _ _ h=>h)
 ·intro s' h' n' hk hic hJ
  exact hend s' h' n' _ hk hic hJ (fun _ _ _ h=>h) (fun _ _ _ _ h=>h)
theorem J4m (keep:List Nat) (ic N:Nat) (J:Nat→Env→Prop) (hN:N≤LIM) (hi0:s ic = .int .i64 0) (hJ0:J 0 s)
 (hstep:∀ i s' h' (R:Fin),i<N→¬N≤i→(∀ j∈keep,s' j=s j)→s' ic = .int .i64 (i:Int)→IntKind.i64.wrap ((i:Int)+1)=(i:Int)+1→J i s'→(∀ id,h' id=h id) →
  (∀ s'',(∀ j∈keep,s'' j=s j)→s'' ic = .int .i64 ((i:Int)+1)→J (i+1) s''→R .normal s'' h' n) →
  (∀ s'' h'' n'',J25 P ks .ret s'' h'' n'' Q→R .ret s'' h'' n'')→(∀ x s'',J25 P ks (.exit x) s'' h n Q→R (.exit x) s'' h' n)→rC P a [] s' h' n R)
 (hend:∀ s' h' (R:Fin),(∀ j∈keep,s' j=s j)→s' ic = .int .i64 (N:Int)→J N s'→(∀ id,h' id=h id) →
  (∀ s'' h'' n'',J25 P ks .ret s'' h'' n'' Q→R .ret s'' h'' n'')→(∀ x s'',J25 P ks (.exit x) s'' h n Q→R (.exit x) s'' h' n)→rC P a [] s' h' n R):rL P a ks s h n Q:=by
 refine Jsy keep ic N J hN hi0 hJ0 ?_ ?_
 ·intro i s' hi hg hk hic hw hJ
  exact hstep i s' h _ hi hg hk hic hw hJ (fun _=>rfl) (fun _ h1 h2 h3=>⟨h1,h2,h3,rfl,rfl⟩) (fun _ _ _ h=>h) (fun _ _ h=>h)
 ·intro s' hk hic hJ
  exact hend s' h _ hk hic hJ (fun _=>rfl) (fun _ _ _ h=>h) (fun _ _ h=>h)
end
end Go.Proofs.YtoclolkigjbcgaaGreat
namespace Go.Proofs.YtoclolkigjbcgaaGreat
set_option linter.all false
open Go Go.RowKit
open Go Go.RowKit
abbrev Tree:=AV×AV×List Nat
open Go Go.RowKit
def cL {α:Type}(c:α→Nat):List α→Nat
 | []=>0
 | x::l=>c x+cL c l
open Go Go.RowKit
end Go.Proofs.YtoclolkigjbcgaaGreat

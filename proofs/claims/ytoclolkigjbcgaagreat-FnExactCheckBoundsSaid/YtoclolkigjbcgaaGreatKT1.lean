/- The types of the program, as data: read form (A), own form (U), weight (w). -/
import Derived.Test.YtoclolkigjbcgaaGreatKRD
namespace Go.Proofs.YtoclolkigjbcgaaGreat
set_option linter.all false
open Go Go.RowKit Go.Proofs
structure DLin where
 Const:Int
 Coeffs:List Int
deriving DecidableEq
def J07 (x:DLin):List AV:=[i64 x.Const,.sl 1 (J0k x.Coeffs)]
def J08 (x:DLin):List AV:=[i64 x.Const,.us 1 (J0k x.Coeffs)]
@[simp] theorem Jt7 (x:DLin):drl (J08 x)=J07 x:=by simp [J08,J07]
@[simp] theorem K01 (l:List (DLin)):drr (l.map J08)=l.map J07:=by rw [J4t,List.map_map];exact List.map_congr_left fun x _=>Jt7 x
@[simp] theorem Jz0 (x:DLin):J3q (J08 x)=true:=by simp [J08]
@[simp] theorem Jjn (l:List (DLin)):J4k (l.map J08)=true:=by rw [J2t];simp
@[simp] theorem K1u (x:DLin):(J07 x).all J18=true:=by simp [J07]
@[simp] theorem K3o (x:DLin):(J08 x).length=2:=by simp [J08]
@[simp] theorem K3g (x:DLin):(J07 x).length=2:=by simp [J07]
@[simp] theorem K71 (x:DLin) (h:Heap):bwl (J07 x) h=some (J07 x):=by simp [J07]
@[simp] theorem Ka7 (x:DLin):(J07 x)[0]? = some (i64 x.Const):=rfl
@[simp] theorem Kab (x:DLin) (h:0<(J07 x).length):(J07 x)[0]=i64 x.Const:=rfl
@[simp] theorem Kad (x:DLin):(J07 x)[1]? = some (.sl 1 (J0k x.Coeffs)):=rfl
@[simp] theorem Kas (x:DLin) (h:1<(J07 x).length):(J07 x)[1] = .sl 1 (J0k x.Coeffs):=rfl
@[simp] theorem tALin (x:DLin):List.take 2 (J07 x)=J07 x:=rfl
@[simp] theorem K9y (x:DLin):(J08 x)[0]? = some (i64 x.Const):=rfl
@[simp] theorem K9p (x:DLin) (h:0<(J08 x).length):(J08 x)[0]=i64 x.Const:=rfl
@[simp] theorem K9g (x:DLin):(J08 x)[1]? = some (.us 1 (J0k x.Coeffs)):=rfl
@[simp] theorem K9x (x:DLin) (h:1<(J08 x).length):(J08 x)[1] = .us 1 (J0k x.Coeffs):=rfl
@[simp] theorem tULin (x:DLin):List.take 2 (J08 x)=J08 x:=rfl
def Jim (l:List Int):Nat:=l.length
def Jai (x:DLin):Nat:=Jim x.Coeffs
def J5n (l:List DLin):Nat:=wL Jai l
def Jcq (l:List DLin):List AV:=[.sl 2 (l.map J07)]
def J24 (l:List DLin):List AV:=[.us 2 (l.map J08)]
@[simp] theorem Jo1 (x:List DLin):drl (J24 x)=Jcq x:=by simp [J24,Jcq]
@[simp] theorem Jyp (l:List (List DLin)):drr (l.map J24)=l.map Jcq:=by rw [J4t,List.map_map];exact List.map_congr_left fun x _=>Jo1 x
@[simp] theorem Jwc (x:List DLin):J3q (J24 x)=true:=by simp [J24]
@[simp] theorem Ju4 (l:List (List DLin)):J4k (l.map J24)=true:=by rw [J2t];simp
structure DSystem where
 N:Int
 Rows:List DLin
deriving DecidableEq
def J0x (x:DSystem):List AV:=[i64 x.N,.sl 2 (x.Rows.map J07)]
def J1x (x:DSystem):List AV:=[i64 x.N,.us 2 (x.Rows.map J08)]
@[simp] theorem Jyl (x:DSystem) (h:Heap):bwl (J0x x) h=some (J0x x):=by simp [J0x]
@[simp] theorem Jzk (x:DSystem):(J0x x)[0]? = some (i64 x.N):=rfl
@[simp] theorem K11 (x:DSystem) (h:0<(J0x x).length):(J0x x)[0]=i64 x.N:=rfl
@[simp] theorem Jzm (x:DSystem):(J0x x)[1]? = some (.sl 2 (x.Rows.map J07)):=rfl
@[simp] theorem K0m (x:DSystem) (h:1<(J0x x).length):(J0x x)[1] = .sl 2 (x.Rows.map J07):=rfl
@[simp] theorem K3x (x:DSystem):List.take 2 (J0x x)=J0x x:=rfl
@[simp] theorem K1m (x:DSystem):(J1x x)[0]? = some (i64 x.N):=rfl
@[simp] theorem K20 (x:DSystem) (h:0<(J1x x).length):(J1x x)[0]=i64 x.N:=rfl
@[simp] theorem Jzl (x:DSystem):(J1x x)[1]? = some (.us 2 (x.Rows.map J08)):=rfl
@[simp] theorem K12 (x:DSystem) (h:1<(J1x x).length):(J1x x)[1] = .us 2 (x.Rows.map J08):=rfl
@[simp] theorem K2f (x:DSystem):List.take 2 (J1x x)=J1x x:=rfl
structure DFarkas where
 Scale:Int
 Mult:List Int
deriving DecidableEq
def J0r (x:DFarkas):List AV:=[i64 x.Scale,.sl 1 (J0k x.Mult)]
def J32 (x:DFarkas):List AV:=[i64 x.Scale,.us 1 (J0k x.Mult)]
@[simp] theorem Jjj (x:DFarkas):drl (J32 x)=J0r x:=by simp [J32,J0r]
@[simp] theorem Jtr (l:List (DFarkas)):drr (l.map J32)=l.map J0r:=by rw [J4t,List.map_map];exact List.map_congr_left fun x _=>Jjj x
@[simp] theorem Js9 (x:DFarkas):J3q (J32 x)=true:=by simp [J32]
@[simp] theorem Jwb (x:DFarkas):(J0r x).length=2:=by simp [J0r]
@[simp] theorem Jyn (x:DFarkas) (h:Heap):bwl (J0r x) h=some (J0r x):=by simp [J0r]
@[simp] theorem Jzg (x:DFarkas):(J0r x)[0]? = some (i64 x.Scale):=rfl
@[simp] theorem Jzt (x:DFarkas) (h:0<(J0r x).length):(J0r x)[0]=i64 x.Scale:=rfl
@[simp] theorem K0f (x:DFarkas):(J0r x)[1]? = some (.sl 1 (J0k x.Mult)):=rfl
@[simp] theorem K0a (x:DFarkas) (h:1<(J0r x).length):(J0r x)[1] = .sl 1 (J0k x.Mult):=rfl
@[simp] theorem K4w (x:DFarkas):List.take 2 (J0r x)=J0r x:=rfl
@[simp] theorem K26 (x:DFarkas):(J32 x)[0]? = some (i64 x.Scale):=rfl
@[simp] theorem Jz2 (x:DFarkas) (h:0<(J32 x).length):(J32 x)[0]=i64 x.Scale:=rfl
@[simp] theorem Jzn (x:DFarkas):(J32 x)[1]? = some (.us 1 (J0k x.Mult)):=rfl
@[simp] theorem K0g (x:DFarkas) (h:1<(J32 x).length):(J32 x)[1] = .us 1 (J0k x.Mult):=rfl
@[simp] theorem K29 (x:DFarkas):List.take 2 (J32 x)=J32 x:=rfl
def J5t (x:DFarkas):Nat:=Jim x.Mult
def J8k (l:List DFarkas):Nat:=wL J5t l
structure DTerm where
 Coeff:Int
 Name:Str
deriving DecidableEq
def J12 (x:DTerm):List AV:=[i64 x.Coeff,.str x.Name]
def J4i (x:DTerm):List AV:=[i64 x.Coeff,.str x.Name]
@[simp] theorem Jpl (x:DTerm):drl (J4i x)=J12 x:=by simp [J4i,J12]
@[simp] theorem Jy2 (l:List (DTerm)):drr (l.map J4i)=l.map J12:=by rw [J4t,List.map_map];exact List.map_congr_left fun x _=>Jpl x
@[simp] theorem Jx1 (x:DTerm):J3q (J4i x)=true:=by simp [J4i]
@[simp] theorem Ju3 (l:List (DTerm)):J4k (l.map J4i)=true:=by rw [J2t];simp
@[simp] theorem K5p (x:DTerm):(J12 x)[0]? = some (i64 x.Coeff):=rfl
@[simp] theorem K6i (x:DTerm) (h:0<(J12 x).length):(J12 x)[0]=i64 x.Coeff:=rfl
@[simp] theorem K5d (x:DTerm):(J12 x)[1]? = some (.str x.Name):=rfl
@[simp] theorem K8i (x:DTerm) (h:1<(J12 x).length):(J12 x)[1] = .str x.Name:=rfl
@[simp] theorem Kac (x:DTerm):List.take 2 (J12 x)=J12 x:=rfl
@[simp] theorem K5a (x:DTerm):(J4i x)[0]? = some (i64 x.Coeff):=rfl
@[simp] theorem K7l (x:DTerm) (h:0<(J4i x).length):(J4i x)[0]=i64 x.Coeff:=rfl
@[simp] theorem K82 (x:DTerm):(J4i x)[1]? = some (.str x.Name):=rfl
@[simp] theorem K83 (x:DTerm) (h:1<(J4i x).length):(J4i x)[1] = .str x.Name:=rfl
@[simp] theorem Kaa (x:DTerm):List.take 2 (J4i x)=J4i x:=rfl
def J7o (x:DTerm):Nat:=x.Name.length
def Jep (l:List DTerm):Nat:=wL J7o l
structure DSum where
 Const:Int
 Terms:List DTerm
deriving DecidableEq
def J1g (x:DSum):List AV:=[i64 x.Const,.sl 2 (x.Terms.map J12)]
def J5k (x:DSum):List AV:=[i64 x.Const,.us 2 (x.Terms.map J4i)]
@[simp] theorem Jrk (x:DSum):drl (J5k x)=J1g x:=by simp [J5k,J1g]
@[simp] theorem K0r (l:List (DSum)):drr (l.map J5k)=l.map J1g:=by rw [J4t,List.map_map];exact List.map_congr_left fun x _=>Jrk x
@[simp] theorem Jyt (x:DSum):J3q (J5k x)=true:=by simp [J5k]
@[simp] theorem Jv5 (l:List (DSum)):J4k (l.map J5k)=true:=by rw [J2t];simp
@[simp] theorem K3f (x:DSum):(J1g x).length=2:=by simp [J1g]
@[simp] theorem K86 (x:DSum) (h:Heap):bwl (J1g x) h=some (J1g x):=by simp [J1g]
@[simp] theorem K97 (x:DSum):(J1g x)[0]? = some (i64 x.Const):=rfl
@[simp] theorem Ka9 (x:DSum) (h:0<(J1g x).length):(J1g x)[0]=i64 x.Const:=rfl
@[simp] theorem K9i (x:DSum):(J1g x)[1]? = some (.sl 2 (x.Terms.map J12)):=rfl
@[simp] theorem Kai (x:DSum) (h:1<(J1g x).length):(J1g x)[1] = .sl 2 (x.Terms.map J12):=rfl
@[simp] theorem tASum (x:DSum):List.take 2 (J1g x)=J1g x:=rfl
@[simp] theorem K9f (x:DSum):(J5k x)[0]? = some (i64 x.Const):=rfl
@[simp] theorem Kan (x:DSum) (h:0<(J5k x).length):(J5k x)[0]=i64 x.Const:=rfl
@[simp] theorem K9t (x:DSum):(J5k x)[1]? = some (.us 2 (x.Terms.map J4i)):=rfl
@[simp] theorem K9w (x:DSum) (h:1<(J5k x).length):(J5k x)[1] = .us 2 (x.Terms.map J4i):=rfl
@[simp] theorem tUSum (x:DSum):List.take 2 (J5k x)=J5k x:=rfl
def Jc6 (x:DSum):Nat:=Jep x.Terms
def J66 (l:List DSum):Nat:=wL Jc6 l
structure DArg where
 Lst:Bool
 Heads:List DSum
 Base:Str
deriving DecidableEq
def J0v (x:DArg):List AV:=[.bool x.Lst,.sl 2 (x.Heads.map J1g),.str x.Base]
def J5p (x:DArg):List AV:=[.bool x.Lst,.us 2 (x.Heads.map J5k),.str x.Base]
@[simp] theorem Jr8 (x:DArg):drl (J5p x)=J0v x:=by simp [J5p,J0v]
@[simp] theorem K17 (l:List (DArg)):drr (l.map J5p)=l.map J0v:=by rw [J4t,List.map_map];exact List.map_congr_left fun x _=>Jr8 x
@[simp] theorem Jyq (x:DArg):J3q (J5p x)=true:=by simp [J5p]
@[simp] theorem Jww (l:List (DArg)):J4k (l.map J5p)=true:=by rw [J2t];simp
@[simp] theorem K36 (x:DArg):(J0v x).length=3:=by simp [J0v]
@[simp] theorem K64 (x:DArg) (h:Heap):bwl (J0v x) h=some (J0v x):=by simp [J0v]
@[simp] theorem K92 (x:DArg):(J0v x)[0]? = some (.bool x.Lst):=rfl
@[simp] theorem K9m (x:DArg) (h:0<(J0v x).length):(J0v x)[0] = .bool x.Lst:=rfl
@[simp] theorem K9u (x:DArg):(J0v x)[1]? = some (.sl 2 (x.Heads.map J1g)):=rfl
@[simp] theorem Kak (x:DArg) (h:1<(J0v x).length):(J0v x)[1] = .sl 2 (x.Heads.map J1g):=rfl
@[simp] theorem K9q (x:DArg):(J0v x)[2]? = some (.str x.Base):=rfl
@[simp] theorem Ka3 (x:DArg) (h:2<(J0v x).length):(J0v x)[2] = .str x.Base:=rfl
@[simp] theorem tAArg (x:DArg):List.take 3 (J0v x)=J0v x:=rfl
@[simp] theorem K9k (x:DArg):(J5p x)[0]? = some (.bool x.Lst):=rfl
@[simp] theorem Ka4 (x:DArg) (h:0<(J5p x).length):(J5p x)[0] = .bool x.Lst:=rfl
@[simp] theorem K9h (x:DArg):(J5p x)[1]? = some (.us 2 (x.Heads.map J5k)):=rfl
@[simp] theorem Ka6 (x:DArg) (h:1<(J5p x).length):(J5p x)[1] = .us 2 (x.Heads.map J5k):=rfl
@[simp] theorem Ka0 (x:DArg):(J5p x)[2]? = some (.str x.Base):=rfl
@[simp] theorem K9s (x:DArg) (h:2<(J5p x).length):(J5p x)[2] = .str x.Base:=rfl
@[simp] theorem tUArg (x:DArg):List.take 3 (J5p x)=J5p x:=rfl
def Ja1 (x:DArg):Nat:=J66 x.Heads+x.Base.length
def Jc8 (l:List DArg):Nat:=wL Ja1 l
structure DFunction where
 Name:Str
 Params:List Str
 ListResult:Bool
 Pre:List DLin
deriving DecidableEq
def J04 (x:DFunction):List AV:=[.str x.Name,.sl 1 (J0e x.Params),.bool x.ListResult,.sl 2 (x.Pre.map J07)]
def J0h (x:DFunction):List AV:=[.str x.Name,.us 1 (J0e x.Params),.bool x.ListResult,.us 2 (x.Pre.map J08)]
@[simp] theorem Jhw (x:DFunction):drl (J0h x)=J04 x:=by simp [J0h,J04]
@[simp] theorem Jqa (l:List (DFunction)):drr (l.map J0h)=l.map J04:=by rw [J4t,List.map_map];exact List.map_congr_left fun x _=>Jhw x
@[simp] theorem Jot (x:DFunction):J3q (J0h x)=true:=by simp [J0h]
@[simp] theorem Jn1 (l:List (DFunction)):J4k (l.map J0h)=true:=by rw [J2t];simp
@[simp] theorem Jq7 (x:DFunction):(J04 x).all J18=true:=by simp [J04]
@[simp] theorem Jsn (x:DFunction):(J04 x).length=4:=by simp [J04]
@[simp] theorem Jth (x:DFunction) (h:Heap):bwl (J04 x) h=some (J04 x):=by simp [J04]
@[simp] theorem Jvj (x:DFunction):(J04 x)[0]? = some (.str x.Name):=rfl
@[simp] theorem Jvg (x:DFunction) (h:0<(J04 x).length):(J04 x)[0] = .str x.Name:=rfl
@[simp] theorem Jun (x:DFunction):(J04 x)[1]? = some (.sl 1 (J0e x.Params)):=rfl
@[simp] theorem Jv6 (x:DFunction) (h:1<(J04 x).length):(J04 x)[1] = .sl 1 (J0e x.Params):=rfl
@[simp] theorem Jwy (x:DFunction):(J04 x)[2]? = some (.bool x.ListResult):=rfl
@[simp] theorem Jwh (x:DFunction) (h:2<(J04 x).length):(J04 x)[2] = .bool x.ListResult:=rfl
@[simp] theorem Jvc (x:DFunction):(J04 x)[3]? = some (.sl 2 (x.Pre.map J07)):=rfl
@[simp] theorem Jvu (x:DFunction) (h:3<(J04 x).length):(J04 x)[3] = .sl 2 (x.Pre.map J07):=rfl
@[simp] theorem Jxx (x:DFunction):List.take 4 (J04 x)=J04 x:=rfl
@[simp] theorem Jwk (x:DFunction):(J0h x)[0]? = some (.str x.Name):=rfl
@[simp] theorem Jx4 (x:DFunction) (h:0<(J0h x).length):(J0h x)[0] = .str x.Name:=rfl
@[simp] theorem Jug (x:DFunction):(J0h x)[1]? = some (.us 1 (J0e x.Params)):=rfl
@[simp] theorem Jvn (x:DFunction) (h:1<(J0h x).length):(J0h x)[1] = .us 1 (J0e x.Params):=rfl
@[simp] theorem Jvl (x:DFunction):(J0h x)[2]? = some (.bool x.ListResult):=rfl
@[simp] theorem Jvt (x:DFunction) (h:2<(J0h x).length):(J0h x)[2] = .bool x.ListResult:=rfl
@[simp] theorem Jva (x:DFunction):(J0h x)[3]? = some (.us 2 (x.Pre.map J08)):=rfl
@[simp] theorem Jw2 (x:DFunction) (h:3<(J0h x).length):(J0h x)[3] = .us 2 (x.Pre.map J08):=rfl
@[simp] theorem Jxs (x:DFunction):List.take 4 (J0h x)=J0h x:=rfl
def J4e (l:List Str):Nat:=wL List.length l
def J11 (x:DFunction):Nat:=x.Name.length+J4e x.Params+J5n x.Pre
def J28 (l:List DFunction):Nat:=wL J11 l
structure DPattern where
 Lst:Str
 Cons:Bool
 Head:Str
 Tail:Str
deriving DecidableEq
def J09 (x:DPattern):List AV:=[.str x.Lst,.bool x.Cons,.str x.Head,.str x.Tail]
def J1k (x:DPattern):List AV:=[.str x.Lst,.bool x.Cons,.str x.Head,.str x.Tail]
@[simp] theorem Jj4 (x:DPattern):drl (J1k x)=J09 x:=by simp [J1k,J09]
@[simp] theorem Jqu (l:List (DPattern)):drr (l.map J1k)=l.map J09:=by rw [J4t,List.map_map];exact List.map_congr_left fun x _=>Jj4 x
@[simp] theorem Jq1 (x:DPattern):J3q (J1k x)=true:=by simp [J1k]
@[simp] theorem Jpb (l:List (DPattern)):J4k (l.map J1k)=true:=by rw [J2t];simp
@[simp] theorem Jtk (x:DPattern):(J09 x).length=4:=by simp [J09]
@[simp] theorem Jym (x:DPattern):(J09 x)[0]? = some (.str x.Lst):=rfl
@[simp] theorem Jys (x:DPattern) (h:0<(J09 x).length):(J09 x)[0] = .str x.Lst:=rfl
@[simp] theorem Jy4 (x:DPattern):(J09 x)[1]? = some (.bool x.Cons):=rfl
@[simp] theorem Jxq (x:DPattern) (h:1<(J09 x).length):(J09 x)[1] = .bool x.Cons:=rfl
@[simp] theorem Jxz (x:DPattern):(J09 x)[2]? = some (.str x.Head):=rfl
@[simp] theorem Jxv (x:DPattern) (h:2<(J09 x).length):(J09 x)[2] = .str x.Head:=rfl
@[simp] theorem Jyd (x:DPattern):(J09 x)[3]? = some (.str x.Tail):=rfl
@[simp] theorem Jxl (x:DPattern) (h:3<(J09 x).length):(J09 x)[3] = .str x.Tail:=rfl
@[simp] theorem Jzx (x:DPattern):List.take 4 (J09 x)=J09 x:=rfl
@[simp] theorem Jyz (x:DPattern):(J1k x)[0]? = some (.str x.Lst):=rfl
@[simp] theorem Jyo (x:DPattern) (h:0<(J1k x).length):(J1k x)[0] = .str x.Lst:=rfl
@[simp] theorem Jy1 (x:DPattern):(J1k x)[1]? = some (.bool x.Cons):=rfl
@[simp] theorem Jxw (x:DPattern) (h:1<(J1k x).length):(J1k x)[1] = .bool x.Cons:=rfl
@[simp] theorem Jz1 (x:DPattern):(J1k x)[2]? = some (.str x.Head):=rfl
@[simp] theorem Jyy (x:DPattern) (h:2<(J1k x).length):(J1k x)[2] = .str x.Head:=rfl
@[simp] theorem Jyk (x:DPattern):(J1k x)[3]? = some (.str x.Tail):=rfl
@[simp] theorem Jxo (x:DPattern) (h:3<(J1k x).length):(J1k x)[3] = .str x.Tail:=rfl
@[simp] theorem K0w (x:DPattern):List.take 4 (J1k x)=J1k x:=rfl
def J3h (x:DPattern):Nat:=x.Lst.length+x.Head.length+x.Tail.length
def J38 (l:List DPattern):Nat:=wL J3h l
structure DCall where
 Bind:Str
 Func:Str
 Args:List DArg
deriving DecidableEq
def J0s (x:DCall):List AV:=[.str x.Bind,.str x.Func,.sl 3 (x.Args.map J0v)]
def J3z (x:DCall):List AV:=[.str x.Bind,.str x.Func,.us 3 (x.Args.map J5p)]
@[simp] theorem Joi (x:DCall):drl (J3z x)=J0s x:=by simp [J3z,J0s]
@[simp] theorem Jxu (l:List (DCall)):drr (l.map J3z)=l.map J0s:=by rw [J4t,List.map_map];exact List.map_congr_left fun x _=>Joi x
@[simp] theorem Juj (x:DCall):J3q (J3z x)=true:=by simp [J3z]
@[simp] theorem Ju8 (l:List (DCall)):J4k (l.map J3z)=true:=by rw [J2t];simp
@[simp] theorem Jxn (x:DCall):(J0s x).all J18=true:=by simp [J0s]
@[simp] theorem K1a (x:DCall):(J0s x).length=3:=by simp [J0s]
@[simp] theorem K3r (x:DCall) (h:Heap):bwl (J0s x) h=some (J0s x):=by simp [J0s]
@[simp] theorem K8o (x:DCall):(J0s x)[0]? = some (.str x.Bind):=rfl
@[simp] theorem K8h (x:DCall) (h:0<(J0s x).length):(J0s x)[0] = .str x.Bind:=rfl
@[simp] theorem K6m (x:DCall):(J0s x)[1]? = some (.str x.Func):=rfl
@[simp] theorem K7t (x:DCall) (h:1<(J0s x).length):(J0s x)[1] = .str x.Func:=rfl
@[simp] theorem K7r (x:DCall):(J0s x)[2]? = some (.sl 3 (x.Args.map J0v)):=rfl
@[simp] theorem K68 (x:DCall) (h:2<(J0s x).length):(J0s x)[2] = .sl 3 (x.Args.map J0v):=rfl
@[simp] theorem Kaq (x:DCall):List.take 3 (J0s x)=J0s x:=rfl
@[simp] theorem K8b (x:DCall):(J3z x)[0]? = some (.str x.Bind):=rfl
@[simp] theorem K8e (x:DCall) (h:0<(J3z x).length):(J3z x)[0] = .str x.Bind:=rfl
@[simp] theorem K84 (x:DCall):(J3z x)[1]? = some (.str x.Func):=rfl
@[simp] theorem K63 (x:DCall) (h:1<(J3z x).length):(J3z x)[1] = .str x.Func:=rfl
@[simp] theorem K8q (x:DCall):(J3z x)[2]? = some (.us 3 (x.Args.map J5p)):=rfl
@[simp] theorem K7i (x:DCall) (h:2<(J3z x).length):(J3z x)[2] = .us 3 (x.Args.map J5p):=rfl
@[simp] theorem K9b (x:DCall):List.take 3 (J3z x)=J3z x:=rfl
def J53 (x:DCall):Nat:=x.Bind.length+x.Func.length+Jc8 x.Args
def J6v (l:List DCall):Nat:=wL J53 l
structure DRule where
 Func:Str
 Patterns:List DPattern
 Guards:List DSum
 Calls:List DCall
 Result:DArg
deriving DecidableEq
def J0c (x:DRule):List AV:=[.str x.Func,.sl 4 (x.Patterns.map J09),.sl 2 (x.Guards.map J1g),.sl 3 (x.Calls.map J0s),.bool x.Result.Lst,.sl 2 (x.Result.Heads.map J1g),.str x.Result.Base]
def J2d (x:DRule):List AV:=[.str x.Func,.us 4 (x.Patterns.map J1k),.us 2 (x.Guards.map J5k),.us 3 (x.Calls.map J3z),.bool x.Result.Lst,.us 2 (x.Result.Heads.map J5k),.str x.Result.Base]
@[simp] theorem Jnb (x:DRule):drl (J2d x)=J0c x:=by simp [J2d,J0c]
@[simp] theorem Jyf (l:List (DRule)):drr (l.map J2d)=l.map J0c:=by rw [J4t,List.map_map];exact List.map_congr_left fun x _=>Jnb x
@[simp] theorem Jw9 (x:DRule):J3q (J2d x)=true:=by simp [J2d]
@[simp] theorem Ju5 (l:List (DRule)):J4k (l.map J2d)=true:=by rw [J2t];simp
@[simp] theorem Jxy (x:DRule):(J0c x).all J18=true:=by simp [J0c]
@[simp] theorem Jzo (x:DRule):(J0c x).length=7:=by simp [J0c]
@[simp] theorem K4g (x:DRule) (h:Heap):bwl (J0c x) h=some (J0c x):=by simp [J0c]
@[simp] theorem K6y (x:DRule):(J0c x)[0]? = some (.str x.Func):=rfl
@[simp] theorem K7a (x:DRule) (h:0<(J0c x).length):(J0c x)[0] = .str x.Func:=rfl
@[simp] theorem K78 (x:DRule):(J0c x)[1]? = some (.sl 4 (x.Patterns.map J09)):=rfl
@[simp] theorem K7f (x:DRule) (h:1<(J0c x).length):(J0c x)[1] = .sl 4 (x.Patterns.map J09):=rfl
@[simp] theorem K7z (x:DRule):(J0c x)[2]? = some (.sl 2 (x.Guards.map J1g)):=rfl
@[simp] theorem K7v (x:DRule) (h:2<(J0c x).length):(J0c x)[2] = .sl 2 (x.Guards.map J1g):=rfl
@[simp] theorem K8p (x:DRule):(J0c x)[3]? = some (.sl 3 (x.Calls.map J0s)):=rfl
@[simp] theorem K5h (x:DRule) (h:3<(J0c x).length):(J0c x)[3] = .sl 3 (x.Calls.map J0s):=rfl
@[simp] theorem K5j (x:DRule):(J0c x)[4]? = some (.bool x.Result.Lst):=rfl
@[simp] theorem K8s (x:DRule) (h:4<(J0c x).length):(J0c x)[4] = .bool x.Result.Lst:=rfl
@[simp] theorem K7o (x:DRule):(J0c x)[5]? = some (.sl 2 (x.Result.Heads.map J1g)):=rfl
@[simp] theorem K6t (x:DRule) (h:5<(J0c x).length):(J0c x)[5] = .sl 2 (x.Result.Heads.map J1g):=rfl
@[simp] theorem K57 (x:DRule):(J0c x)[6]? = some (.str x.Result.Base):=rfl
@[simp] theorem K59 (x:DRule) (h:6<(J0c x).length):(J0c x)[6] = .str x.Result.Base:=rfl
@[simp] theorem Kap (x:DRule):List.take 7 (J0c x)=J0c x:=rfl
@[simp] theorem Jr0 (x:DRule):List.take 3 (List.drop 4 (J0c x))=J0v x.Result:=rfl
@[simp] theorem K6f (x:DRule):(J2d x)[0]? = some (.str x.Func):=rfl
@[simp] theorem K5t (x:DRule) (h:0<(J2d x).length):(J2d x)[0] = .str x.Func:=rfl
@[simp] theorem K72 (x:DRule):(J2d x)[1]? = some (.us 4 (x.Patterns.map J1k)):=rfl
@[simp] theorem K5q (x:DRule) (h:1<(J2d x).length):(J2d x)[1] = .us 4 (x.Patterns.map J1k):=rfl
@[simp] theorem K75 (x:DRule):(J2d x)[2]? = some (.us 2 (x.Guards.map J5k)):=rfl
@[simp] theorem K8k (x:DRule) (h:2<(J2d x).length):(J2d x)[2] = .us 2 (x.Guards.map J5k):=rfl
@[simp] theorem K7c (x:DRule):(J2d x)[3]? = some (.us 3 (x.Calls.map J3z)):=rfl
@[simp] theorem K5y (x:DRule) (h:3<(J2d x).length):(J2d x)[3] = .us 3 (x.Calls.map J3z):=rfl
@[simp] theorem K5x (x:DRule):(J2d x)[4]? = some (.bool x.Result.Lst):=rfl
@[simp] theorem K53 (x:DRule) (h:4<(J2d x).length):(J2d x)[4] = .bool x.Result.Lst:=rfl
@[simp] theorem K66 (x:DRule):(J2d x)[5]? = some (.us 2 (x.Result.Heads.map J5k)):=rfl
@[simp] theorem K6l (x:DRule) (h:5<(J2d x).length):(J2d x)[5] = .us 2 (x.Result.Heads.map J5k):=rfl
@[simp] theorem K70 (x:DRule):(J2d x)[6]? = some (.str x.Result.Base):=rfl
@[simp] theorem K67 (x:DRule) (h:6<(J2d x).length):(J2d x)[6] = .str x.Result.Base:=rfl
@[simp] theorem Kar (x:DRule):List.take 7 (J2d x)=J2d x:=rfl
@[simp] theorem Jr2 (x:DRule):List.take 3 (List.drop 4 (J2d x))=J5p x.Result:=rfl
def J39 (x:DRule):Nat:=x.Func.length+J38 x.Patterns+J66 x.Guards+J6v x.Calls+Ja1 x.Result
def J7v (l:List DRule):Nat:=wL J39 l
structure DProgram where
 Functions:List DFunction
 Rules:List DRule
deriving DecidableEq
def J01 (x:DProgram):List AV:=[.sl 4 (x.Functions.map J04),.sl 7 (x.Rules.map J0c)]
def J1n (x:DProgram):List AV:=[.us 4 (x.Functions.map J0h),.us 7 (x.Rules.map J2d)]
@[simp] theorem Jri (x:DProgram):(J01 x).all J18=true:=by simp [J01]
@[simp] theorem Jty (x:DProgram):(J01 x).length=2:=by simp [J01]
@[simp] theorem Jvh (x:DProgram) (h:Heap):bwl (J01 x) h=some (J01 x):=by simp [J01]
@[simp] theorem Jy5 (x:DProgram):(J01 x)[0]? = some (.sl 4 (x.Functions.map J04)):=rfl
@[simp] theorem Jxm (x:DProgram) (h:0<(J01 x).length):(J01 x)[0] = .sl 4 (x.Functions.map J04):=rfl
@[simp] theorem Jxr (x:DProgram):(J01 x)[1]? = some (.sl 7 (x.Rules.map J0c)):=rfl
@[simp] theorem Jxp (x:DProgram) (h:1<(J01 x).length):(J01 x)[1] = .sl 7 (x.Rules.map J0c):=rfl
@[simp] theorem K0n (x:DProgram):List.take 2 (J01 x)=J01 x:=rfl
@[simp] theorem Jy7 (x:DProgram):(J1n x)[0]? = some (.us 4 (x.Functions.map J0h)):=rfl
@[simp] theorem Jyw (x:DProgram) (h:0<(J1n x).length):(J1n x)[0] = .us 4 (x.Functions.map J0h):=rfl
@[simp] theorem Jye (x:DProgram):(J1n x)[1]? = some (.us 7 (x.Rules.map J2d)):=rfl
@[simp] theorem Jyr (x:DProgram) (h:1<(J1n x).length):(J1n x)[1] = .us 7 (x.Rules.map J2d):=rfl
@[simp] theorem K1k (x:DProgram):List.take 2 (J1n x)=J1n x:=rfl
def J0f (x:DProgram):Nat:=J28 x.Functions+J7v x.Rules
structure DModel where
 System:DSystem
 Params:List DLin
 Args:List (List DLin)
 Result:DLin
deriving DecidableEq
def J0p (x:DModel):List AV:=[i64 x.System.N,.sl 2 (x.System.Rows.map J07),.sl 2 (x.Params.map J07),.sl 1 (x.Args.map Jcq),i64 x.Result.Const,.sl 1 (J0k x.Result.Coeffs)]
def J1z (x:DModel):List AV:=[i64 x.System.N,.us 2 (x.System.Rows.map J08),.us 2 (x.Params.map J08),.us 1 (x.Args.map J24),i64 x.Result.Const,.us 1 (J0k x.Result.Coeffs)]
@[simp] theorem Jy8 (x:DModel):drl (J1z x)=J0p x:=by simp [J1z,J0p]
@[simp] theorem Jwg (x:DModel):(J0p x).all J18=true:=by simp [J0p]
@[simp] theorem Jyh (x:DModel):(J0p x).length=6:=by simp [J0p]
@[simp] theorem K1c (x:DModel) (h:Heap):bwl (J0p x) h=some (J0p x):=by simp [J0p]
@[simp] theorem K2c (x:DModel):(J0p x)[0]? = some (i64 x.System.N):=rfl
@[simp] theorem K51 (x:DModel) (h:0<(J0p x).length):(J0p x)[0]=i64 x.System.N:=rfl
@[simp] theorem K39 (x:DModel):(J0p x)[1]? = some (.sl 2 (x.System.Rows.map J07)):=rfl
@[simp] theorem K48 (x:DModel) (h:1<(J0p x).length):(J0p x)[1] = .sl 2 (x.System.Rows.map J07):=rfl
@[simp] theorem K3y (x:DModel):(J0p x)[2]? = some (.sl 2 (x.Params.map J07)):=rfl
@[simp] theorem K4y (x:DModel) (h:2<(J0p x).length):(J0p x)[2] = .sl 2 (x.Params.map J07):=rfl
@[simp] theorem K3d (x:DModel):(J0p x)[3]? = some (.sl 1 (x.Args.map Jcq)):=rfl
@[simp] theorem K2d (x:DModel) (h:3<(J0p x).length):(J0p x)[3] = .sl 1 (x.Args.map Jcq):=rfl
@[simp] theorem K3b (x:DModel):(J0p x)[4]? = some (i64 x.Result.Const):=rfl
@[simp] theorem K42 (x:DModel) (h:4<(J0p x).length):(J0p x)[4]=i64 x.Result.Const:=rfl
@[simp] theorem K37 (x:DModel):(J0p x)[5]? = some (.sl 1 (J0k x.Result.Coeffs)):=rfl
@[simp] theorem K38 (x:DModel) (h:5<(J0p x).length):(J0p x)[5] = .sl 1 (J0k x.Result.Coeffs):=rfl
@[simp] theorem K8y (x:DModel):List.take 6 (J0p x)=J0p x:=rfl
@[simp] theorem Jq0 (x:DModel):List.take 2 (J0p x)=J0x x.System:=rfl
@[simp] theorem Jq5 (x:DModel):List.take 2 (List.drop 4 (J0p x))=J07 x.Result:=rfl
@[simp] theorem K2a (x:DModel):(J1z x)[0]? = some (i64 x.System.N):=rfl
@[simp] theorem K4a (x:DModel) (h:0<(J1z x).length):(J1z x)[0]=i64 x.System.N:=rfl
@[simp] theorem K2k (x:DModel):(J1z x)[1]? = some (.us 2 (x.System.Rows.map J08)):=rfl
@[simp] theorem K2z (x:DModel) (h:1<(J1z x).length):(J1z x)[1] = .us 2 (x.System.Rows.map J08):=rfl
@[simp] theorem K3e (x:DModel):(J1z x)[2]? = some (.us 2 (x.Params.map J08)):=rfl
@[simp] theorem K3u (x:DModel) (h:2<(J1z x).length):(J1z x)[2] = .us 2 (x.Params.map J08):=rfl
@[simp] theorem K4o (x:DModel):(J1z x)[3]? = some (.us 1 (x.Args.map J24)):=rfl
@[simp] theorem K4h (x:DModel) (h:3<(J1z x).length):(J1z x)[3] = .us 1 (x.Args.map J24):=rfl
@[simp] theorem K2o (x:DModel):(J1z x)[4]? = some (i64 x.Result.Const):=rfl
@[simp] theorem K32 (x:DModel) (h:4<(J1z x).length):(J1z x)[4]=i64 x.Result.Const:=rfl
@[simp] theorem K3n (x:DModel):(J1z x)[5]? = some (.us 1 (J0k x.Result.Coeffs)):=rfl
@[simp] theorem K4q (x:DModel) (h:5<(J1z x).length):(J1z x)[5] = .us 1 (J0k x.Result.Coeffs):=rfl
@[simp] theorem K65 (x:DModel):List.take 6 (J1z x)=J1z x:=rfl
@[simp] theorem Jq4 (x:DModel):List.take 2 (J1z x)=J1x x.System:=rfl
@[simp] theorem Jq3 (x:DModel):List.take 2 (List.drop 4 (J1z x))=J08 x.Result:=rfl
structure DObligation where
 System:DSystem
 Target:DLin
deriving DecidableEq
def J0z (x:DObligation):List AV:=[i64 x.System.N,.sl 2 (x.System.Rows.map J07),i64 x.Target.Const,.sl 1 (J0k x.Target.Coeffs)]
def J06 (x:DObligation):List AV:=[i64 x.System.N,.us 2 (x.System.Rows.map J08),i64 x.Target.Const,.us 1 (J0k x.Target.Coeffs)]
@[simp] theorem Je8 (x:DObligation):drl (J06 x)=J0z x:=by simp [J06,J0z]
@[simp] theorem Jn2 (l:List (DObligation)):drr (l.map J06)=l.map J0z:=by rw [J4t,List.map_map];exact List.map_congr_left fun x _=>Je8 x
@[simp] theorem Jm8 (x:DObligation):J3q (J06 x)=true:=by simp [J06]
@[simp] theorem Jb2 (l:List (DObligation)):J4k (l.map J06)=true:=by rw [J2t];simp
@[simp] theorem Jnh (x:DObligation):(J0z x).length=4:=by simp [J0z]
@[simp] theorem Jqc (x:DObligation):(J0z x)[0]? = some (i64 x.System.N):=rfl
@[simp] theorem Jru (x:DObligation) (h:0<(J0z x).length):(J0z x)[0]=i64 x.System.N:=rfl
@[simp] theorem Jsv (x:DObligation):(J0z x)[1]? = some (.sl 2 (x.System.Rows.map J07)):=rfl
@[simp] theorem Jr6 (x:DObligation) (h:1<(J0z x).length):(J0z x)[1] = .sl 2 (x.System.Rows.map J07):=rfl
@[simp] theorem Jt4 (x:DObligation):(J0z x)[2]? = some (i64 x.Target.Const):=rfl
@[simp] theorem Jsf (x:DObligation) (h:2<(J0z x).length):(J0z x)[2]=i64 x.Target.Const:=rfl
@[simp] theorem Jrr (x:DObligation):(J0z x)[3]? = some (.sl 1 (J0k x.Target.Coeffs)):=rfl
@[simp] theorem Jsw (x:DObligation) (h:3<(J0z x).length):(J0z x)[3] = .sl 1 (J0k x.Target.Coeffs):=rfl
@[simp] theorem Jtm (x:DObligation):List.take 4 (J0z x)=J0z x:=rfl
@[simp] theorem Jk1 (x:DObligation):List.take 2 (J0z x)=J0x x.System:=rfl
@[simp] theorem Jkb (x:DObligation):List.take 2 (List.drop 2 (J0z x))=J07 x.Target:=rfl
@[simp] theorem Jt9 (x:DObligation):(J06 x)[0]? = some (i64 x.System.N):=rfl
@[simp] theorem Jr7 (x:DObligation) (h:0<(J06 x).length):(J06 x)[0]=i64 x.System.N:=rfl
@[simp] theorem Jt3 (x:DObligation):(J06 x)[1]? = some (.us 2 (x.System.Rows.map J08)):=rfl
@[simp] theorem Jqs (x:DObligation) (h:1<(J06 x).length):(J06 x)[1] = .us 2 (x.System.Rows.map J08):=rfl
@[simp] theorem Jsy (x:DObligation):(J06 x)[2]? = some (i64 x.Target.Const):=rfl
@[simp] theorem Jsk (x:DObligation) (h:2<(J06 x).length):(J06 x)[2]=i64 x.Target.Const:=rfl
@[simp] theorem Jqo (x:DObligation):(J06 x)[3]? = some (.us 1 (J0k x.Target.Coeffs)):=rfl
@[simp] theorem Jqt (x:DObligation) (h:3<(J06 x).length):(J06 x)[3] = .us 1 (J0k x.Target.Coeffs):=rfl
@[simp] theorem Jtw (x:DObligation):List.take 4 (J06 x)=J06 x:=rfl
@[simp] theorem Jkf (x:DObligation):List.take 2 (J06 x)=J1x x.System:=rfl
@[simp] theorem Jjy (x:DObligation):List.take 2 (List.drop 2 (J06 x))=J08 x.Target:=rfl
structure DBounds where
 Kind:Int
 Lins:List DLin
deriving DecidableEq
def J0d (x:DBounds):List AV:=[i64 x.Kind,.sl 2 (x.Lins.map J07)]
def J1y (x:DBounds):List AV:=[i64 x.Kind,.us 2 (x.Lins.map J08)]
@[simp] theorem Jtq (x:DBounds):(J0d x).all J18=true:=by simp [J0d]
@[simp] theorem Jue (x:DBounds):(J0d x).length=2:=by simp [J0d]
@[simp] theorem Jyc (x:DBounds) (h:Heap):bwl (J0d x) h=some (J0d x):=by simp [J0d]
@[simp] theorem K1i (x:DBounds):(J0d x)[0]? = some (i64 x.Kind):=rfl
@[simp] theorem Jzr (x:DBounds) (h:0<(J0d x).length):(J0d x)[0]=i64 x.Kind:=rfl
@[simp] theorem K09 (x:DBounds):(J0d x)[1]? = some (.sl 2 (x.Lins.map J07)):=rfl
@[simp] theorem K0x (x:DBounds) (h:1<(J0d x).length):(J0d x)[1] = .sl 2 (x.Lins.map J07):=rfl
@[simp] theorem K2u (x:DBounds):List.take 2 (J0d x)=J0d x:=rfl
@[simp] theorem K14 (x:DBounds):(J1y x)[0]? = some (i64 x.Kind):=rfl
@[simp] theorem K1x (x:DBounds) (h:0<(J1y x).length):(J1y x)[0]=i64 x.Kind:=rfl
@[simp] theorem Jzi (x:DBounds):(J1y x)[1]? = some (.us 2 (x.Lins.map J08)):=rfl
@[simp] theorem K16 (x:DBounds) (h:1<(J1y x).length):(J1y x)[1] = .us 2 (x.Lins.map J08):=rfl
@[simp] theorem K41 (x:DBounds):List.take 2 (J1y x)=J1y x:=rfl
def J6d (x:DBounds):Nat:=J5n x.Lins
structure DEdge where
 Rule:Int
 Call:Int
deriving DecidableEq
def J2o (x:DEdge):List AV:=[i64 x.Rule,i64 x.Call]
def J45 (x:DEdge):List AV:=[i64 x.Rule,i64 x.Call]
@[simp] theorem Jni (x:DEdge):drl (J45 x)=J2o x:=by simp [J45,J2o]
@[simp] theorem Jyv (l:List (DEdge)):drr (l.map J45)=l.map J2o:=by rw [J4t,List.map_map];exact List.map_congr_left fun x _=>Jni x
@[simp] theorem Jw3 (x:DEdge):J3q (J45 x)=true:=by simp [J45]
@[simp] theorem Jtb (l:List (DEdge)):J4k (l.map J45)=true:=by rw [J2t];simp
@[simp] theorem Jyg (x:DEdge):(J2o x).all J18=true:=by simp [J2o]
@[simp] theorem K21 (x:DEdge):(J2o x).length=2:=by simp [J2o]
@[simp] theorem K2g (x:DEdge) (h:Heap):bwl (J2o x) h=some (J2o x):=by simp [J2o]
@[simp] theorem K5l (x:DEdge):(J2o x)[0]? = some (i64 x.Rule):=rfl
@[simp] theorem K8r (x:DEdge) (h:0<(J2o x).length):(J2o x)[0]=i64 x.Rule:=rfl
@[simp] theorem K5z (x:DEdge):(J2o x)[1]? = some (i64 x.Call):=rfl
@[simp] theorem K8d (x:DEdge) (h:1<(J2o x).length):(J2o x)[1]=i64 x.Call:=rfl
@[simp] theorem K9e (x:DEdge):List.take 2 (J2o x)=J2o x:=rfl
@[simp] theorem K7p (x:DEdge):(J45 x)[0]? = some (i64 x.Rule):=rfl
@[simp] theorem K74 (x:DEdge) (h:0<(J45 x).length):(J45 x)[0]=i64 x.Rule:=rfl
@[simp] theorem K5m (x:DEdge):(J45 x)[1]? = some (i64 x.Call):=rfl
@[simp] theorem K7y (x:DEdge) (h:1<(J45 x).length):(J45 x)[1]=i64 x.Call:=rfl
@[simp] theorem K9a (x:DEdge):List.take 2 (J45 x)=J45 x:=rfl
end Go.Proofs.YtoclolkigjbcgaaGreat
namespace Go.Proofs.YtoclolkigjbcgaaGreat
set_option linter.all false
open Go Go.RowKit
attribute [simp] K0i Jk5 J5j
@[simp] theorem K8a {h:Heap}{K:AV→Heap→Nat→Prop}{r:AV}{n:Nat} : hK h K r h n=K r h n:=by simp [hK,J81.refl]
mutual
def Js3:AV→Prop
 | .sl _ rows=>rows.length≤LIM
 | .us _ rows=>rows.length≤LIM
 | .str l=>l.length≤LIM
 | .agg cs=>Jto cs
 | .tup cs=>Jto cs
 | .undef | .int .. | .bool _ | .nil _ | .nilp | .ptr .. | .fptr .. | .ref .. | .fn .. | .mp _=>True
def Jto:List AV→Prop
 | []=>True
 | a::as=>Js3 a∧Jto as
end
section
variable {w:World}{L:Nat→Option Loc}{N:Nat}
mutual
theorem K23:∀ (a:AV) (v:Value) (S:List Nat),VR w L N a v S→Js3 a
 | .sl ..,_,_,h=>by
  simp only [VR] at h
  obtain ⟨⟨A,cap,vals,_,hl,_⟩,_⟩:=h
  simp only [Js3];exact hl.1
 | .us ..,_,_,h=>by simp only [VR] at h;simp only [Js3];exact h.1
 | .str _,_,_,h=>by
  simp only [VR] at h
  obtain ⟨⟨b,_,_,hl⟩,_⟩:=h
  simp only [Js3];exact hl
 | .agg cs,_,_,h=>by simp only [VR] at h;obtain ⟨vs,_,h⟩:=h;simp only [Js3];exact Jh0 cs _ _ h
 | .tup cs,_,_,h=>by simp only [VR] at h;obtain ⟨vs,_,h⟩:=h;simp only [Js3];exact Jh0 cs _ _ h
 | .undef,_,_,_ | .int ..,_,_,_ | .bool _,_,_,_ | .nil _,_,_,_ | .nilp,_,_,_ | .ptr ..,_,_,_ | .fptr ..,_,_,_ | .ref ..,_,_,_ | .fn ..,_,_,_ | .mp _,_,_,_=>by simp only [Js3]
theorem Jh0:∀ (as:List AV) (vs:List Value) (S:List Nat),VRl w L N as vs S→Jto as
 | [],_,_,_=>by simp only [Jto]
 | a::as,_,_,h=>by
  simp only [VRl] at h
  obtain ⟨v,vs',S1,S2,_,_,h1,h2⟩:=h
  simp only [Jto];exact ⟨K23 a _ _ h1,Jh0 as _ _ h2⟩
end
end
theorem J1h {P:Program}{f:FuncId}{fn:Func}{as:List AV}{Q:AV→Prop}(hf:P.funcs[f]? = some fn) (hb:fn.body.isSome=true) (hn:(fn.name == "runtime.NumGoroutine")=false) (h:Jto as→Holds P f as Q):Holds P f as Q:=
 ⟨by simp [J7a,hf,hb,hn],fun w vs hv=>(h (Jh0 as vs [] hv)).2 w vs hv⟩
attribute [simp] Js3 Jto
theorem J9a {P:Program}{K K':Env→Heap→Nat→Prop}(hk:∀ s h n,K s h n→K' s h n):∀ {os:List AO}{s:Env}{h:Heap}{n:Nat},Jh2 P os s h n K→Jh2 P os s h n K'
 | [],s,h,n,hw=>hk s h n hw
 | o::os,s,h,n,hw=>by
  simp only [Jh2] at hw ⊢
  cases hg:o.g with
  | none=>rw [hg] at hw;exact J8c hw fun _ _ _ h=>J9a hk h
  | some p=>
   obtain ⟨j,want⟩:=p
   rw [hg] at hw
   simp only at hw ⊢
   cases hs:s j <;> rw [hs] at hw <;> try exact hw.elim
   ·exact ⟨fun e=>J8c (hw.1 e) fun _ _ _ h=>J9a hk h,fun e=>J9a hk (hw.2 e)⟩
   ·rename_i vs
    cases vs
    ·exact J9a hk hw
    ·exact hw.elim
theorem Jb5 {P:Program}{s:Env}{h:Heap}{n:Nat}{K K':AV→Heap→Nat→Prop}{op:AOp}(hw:J5y P s h n K op) (hk:∀ r h n,K r h n→K' r h n):J5y P s h n K' op:=by
 unfold J5y at hw ⊢
 split at hw
 ·split at hw
  ·rename_i hf;try simp only [hf]
   exact J3w.mono hw fun _ _ _ h=>⟨h.1,hk _ _ _ h.2⟩
  ·exact hw.elim
 ·split at hw
  ·exact hk _ _ _ hw
  ·exact hk _ _ _ hw
  ·exact ⟨hw.1,hk _ _ _ hw.2⟩
  ·exact hk _ _ _ hw
  ·exact hw.elim
 ·exact J8c hw hk
theorem J4o {P:Program}{K K':Env→Heap→Nat→Prop}(hk:∀ s h n,K s h n→K' s h n):∀ {t:DT}{s:Env}{h:Heap}{n:Nat},J7u P t s h n K→J7u P t s h n K'
 | .fin,s,h,n,hw=>hk s h n hw
 | .stuck,_,_,_,hw=>hw.elim
 | .both a b,s,h,n,hw=>⟨J4o hk hw.1,J4o hk hw.2⟩
 | .op o t,s,h,n,hw=>by
  simp only [J7u] at hw ⊢
  cases hg:o.g with
  | none=>rw [hg] at hw;exact Jb5 hw fun _ _ _ h=>J4o hk h
  | some p=>
   obtain ⟨j,want⟩:=p
   rw [hg] at hw
   simp only at hw ⊢
   cases hs:s j <;> rw [hs] at hw <;> try exact hw.elim
   ·exact ⟨fun e=>Jb5 (hw.1 e) fun _ _ _ h=>J4o hk h,fun e=>J4o hk (hw.2 e)⟩
   ·rename_i vs
    cases vs
    ·exact J4o hk hw
    ·exact hw.elim
 | .hop o ps t,s,h,n,hw=>by
  simp only [J7u] at hw ⊢
  cases hg:o.g with
  | none=>rw [hg] at hw;exact Jb5 hw fun _ _ _ h=>⟨h.1,J4o hk h.2⟩
  | some p=>
   obtain ⟨j,want⟩:=p
   rw [hg] at hw
   simp only at hw ⊢
   cases hs:s j <;> rw [hs] at hw <;> try exact hw.elim
   ·exact ⟨fun e=>Jb5 (hw.1 e) fun _ _ _ h=>⟨h.1,J4o hk h.2⟩,fun e=>J4o hk (hw.2 e)⟩
   ·rename_i vs
    cases vs
    ·exact J4o hk hw
    ·exact hw.elim
theorem Jdi {P:Program} : ∀ {a:AC}{s:Env}{h:Heap}{n:Nat}{Q Q':Fin},awp P a s h n Q→(∀ e s h n,Q e s h n→Q' e s h n)→awp P a s h n Q':=by
 intro a
 induction a with
 | skip=>intro s h n Q Q' hw hq;exact hq _ _ _ _ hw
 | reg os=>intro s h n Q Q' hw hq;exact J9a (hq .normal) hw
 | seq a b iha ihb=>
  intro s h n Q Q' hw hq
  refine iha hw fun e s h n hh => ?_
  cases e
  ·exact ihb hh hq
  ·exact hq _ _ _ _ hh
  ·exact hq _ _ _ _ hh
 | cond c a b iha ihb=>
  intro s h n Q Q' hw hq
  simp only [awp] at hw ⊢
  split at hw
  ·exact ⟨fun e=>iha (hw.1 e) hq,fun e=>ihb (hw.2 e) hq⟩
  ·exact hw.elim
 | blk id a iha=>
  intro s h n Q Q' hw hq
  refine iha hw fun e s h n hh => ?_
  cases e
  ·exact hq _ _ _ _ hh
  ·simp only at hh ⊢;split
   ·rename_i hx;rw [if_pos hx] at hh;exact hq _ _ _ _ hh
   ·rename_i hx;rw [if_neg hx] at hh;exact hq _ _ _ _ hh
  ·exact hq _ _ _ _ hh
 | loop a iha=>
  intro s h n Q Q' hw hq
  obtain ⟨I,h0,hs⟩:=hw
  refine ⟨I,h0,fun k s h n hi=>iha (hs k s h n hi) fun e s h n hh => ?_⟩
  cases e
  ·exact hh
  ·exact hq _ _ _ _ hh
  ·exact hq _ _ _ _ hh
 | exit id=>intro s h n Q Q' hw hq;exact hq _ _ _ _ hw
 | ret=>intro s h n Q Q' hw hq;exact hq _ _ _ _ hw
 | draw t=>intro s h n Q Q' hw hq;exact J4o (hq .normal) hw
@[simp ↓ high] theorem Jhv {P:Program}{ks:List Kt}{s:Env}{h:Heap}{n:Nat}{Q:Fin}{c:Opd}{a b:AC}(hc:ev s c = .bool true):rC P (.cond c a b) ks s h n Q=rC P a ks s h n Q:=by
 rw [Jaq,hc];simp [gd]
@[simp ↓ high] theorem Jly {P:Program}{ks:List Kt}{s:Env}{h:Heap}{n:Nat}{Q:Fin}{c:Opd}{a b:AC}(hc:ev s c = .bool false):rC P (.cond c a b) ks s h n Q=rC P b ks s h n Q:=by
 rw [Jaq,hc];simp [gd]
section
variable {P:Program}{s:Env}{h:Heap}{n:Nat}{ks:List Kt}{Q:Fin}{a:AC}
def Jze (P:Program) (ks:List Kt) (Q:Fin) (keep:List Nat) (s0:Env) (ic i:Nat) (J:Nat→Env→Heap→Nat→Prop):Fin:=fun e s h n=>match e with
 | .normal=>(∀ j∈keep,s j=s0 j)∧s ic = .int .i64 ((i:Int)+1)∧J (i+1) s h n
 | e=>J2b P ks e s h n Q
def K47 (P:Program) (ks:List Kt) (Q:Fin):Fin:=fun e s h n=>match e with
 | .normal=>False
 | e=>J2b P ks e s h n Q
@[simp ↓] theorem Jv9 {keep:List Nat}{s0 s':Env}{ic i:Nat}{J:Nat→Env→Heap→Nat→Prop}{h':Heap}{n':Nat} : Jze P ks Q keep s0 ic i J .normal s' h' n'=((∀ j∈keep,s' j=s0 j)∧s' ic = .int .i64 ((i:Int)+1)∧J (i+1) s' h' n'):=propext Iff.rfl
@[simp ↓] theorem K28 {keep:List Nat}{s0 s':Env}{ic i:Nat}{J:Nat→Env→Heap→Nat→Prop}{h':Heap}{n':Nat} : Jze P ks Q keep s0 ic i J .ret s' h' n'=J2b P ks .ret s' h' n' Q:=propext Iff.rfl
@[simp ↓] theorem K02 {keep:List Nat}{s0 s':Env}{ic i x:Nat}{J:Nat→Env→Heap→Nat→Prop}{h':Heap}{n':Nat} : Jze P ks Q keep s0 ic i J (.exit x) s' h' n'=J2b P ks (.exit x) s' h' n' Q:=propext Iff.rfl
@[simp ↓] theorem K3w {s':Env}{h':Heap}{n':Nat} : K47 P ks Q .ret s' h' n'=J2b P ks .ret s' h' n' Q:=propext Iff.rfl
@[simp ↓] theorem K0h {x:Nat}{s':Env}{h':Heap}{n':Nat} : K47 P ks Q (.exit x) s' h' n'=J2b P ks (.exit x) s' h' n' Q:=propext Iff.rfl
theorem Jgx (keep:List Nat) (ic N:Nat) (J:Nat→Env→Heap→Nat→Prop) (hN:N≤LIM) (hi0:s ic = .int .i64 0) (hJ0:J 0 s h n)
 (hstep:∀ i s' h' n',i<N→¬N≤i→(∀ j∈keep,s' j=s j)→s' ic = .int .i64 (i:Int)→IntKind.i64.wrap ((i:Int)+1)=(i:Int)+1→J i s' h' n'→rC P a [] s' h' n' (Jze P ks Q keep s ic i J))
 (hend:∀ s' h' n',(∀ j∈keep,s' j=s j)→s' ic = .int .i64 (N:Int)→J N s' h' n'→rC P a [] s' h' n' (K47 P ks Q)):rL P a ks s h n Q:=by
 refine Jdx (fun k s' h' n'=>∃ i:Nat,k=N - i∧i≤N∧(∀ j∈keep,s' j=s j)∧s' ic = .int .i64 (i:Int)∧J i s' h' n') N ⟨0,by simp,Nat.zero_le _,fun _ _=>rfl,hi0,hJ0⟩ ?_
 rintro k s' h' n' ⟨i,rfl,hi,hk,hic,hJ⟩
 unfold LIM at hN
 by_cases hlt:i<N
 ·have:=hstep i s' h' n' hlt (by omega) hk hic (J1e (by omega)) hJ
  unfold rC at this ⊢
  refine Jdi this ?_
  intro e s2 h2 n2 hq
  cases e
  ·obtain ⟨q1,q2,q3⟩:=hq
   exact ⟨N - (i+1),by omega,i+1,rfl,by omega,q1,q2,q3⟩
  ·exact hq
  ·exact hq
 ·have hiN:i=N:=by omega
  subst hiN
  have:=hend s' h' n' hk hic hJ
  unfold rC at this ⊢
  refine Jdi this ?_
  intro e s2 h2 n2 hq
  cases e
  ·exact hq.elim
  ·exact hq
  ·exact hq
theorem Jtj (keep:List Nat) (ic N:Nat) (J:Nat→Env→Prop) (hN:N≤LIM) (hi0:s ic = .int .i64 0) (hJ0:J 0 s)
 (hstep:∀ i s',i<N→¬N≤i→(∀ j∈keep,s' j=s j)→s' ic = .int .i64 (i:Int)→IntKind.i64.wrap ((i:Int)+1)=(i:Int)+1→J i s'→rC P a [] s' h n (Jze P ks Q keep s ic i fun i s' h' n'=>J i s'∧h'=h∧n'=n))
 (hend:∀ s',(∀ j∈keep,s' j=s j)→s' ic = .int .i64 (N:Int)→J N s'→rC P a [] s' h n (K47 P ks Q)):rL P a ks s h n Q:=by
 refine Jgx keep ic N (fun i s' h' n'=>J i s'∧h'=h∧n'=n) hN hi0 ⟨hJ0,rfl,rfl⟩ ?_ ?_
 ·rintro i s' h' n' hi hg hk hic hw ⟨hJ,rfl,rfl⟩;exact hstep i s' hi hg hk hic hw hJ
 ·rintro s' h' n' hk hic ⟨hJ,rfl,rfl⟩;exact hend s' hk hic hJ
theorem J0o (keep:List Nat) (ic N:Nat) (J:Nat→Env→Heap→Nat→Prop) (hN:N≤LIM) (hi0:s ic = .int .i64 0) (hJ0:J 0 s h n)
 (hstep:∀ i s' h' n' (R:Fin),i<N→¬N≤i→(∀ j∈keep,s' j=s j)→s' ic = .int .i64 (i:Int)→IntKind.i64.wrap ((i:Int)+1)=(i:Int)+1→J i s' h' n' →
  (∀ s'' h'' n'',(∀ j∈keep,s'' j=s j)→s'' ic = .int .i64 ((i:Int)+1)→J (i+1) s'' h'' n''→R .normal s'' h'' n'') →
  (∀ s'' h'' n'',J2b P ks .ret s'' h'' n'' Q→R .ret s'' h'' n'')→(∀ x s'' h'' n'',J2b P ks (.exit x) s'' h'' n'' Q→R (.exit x) s'' h'' n'')→rC P a [] s' h' n' R)
 (hend:∀ s' h' n' (R:Fin),(∀ j∈keep,s' j=s j)→s' ic = .int .i64 (N:Int)→J N s' h' n' →
  (∀ s'' h'' n'',J2b P ks .ret s'' h'' n'' Q→R .ret s'' h'' n'')→(∀ x s'' h'' n'',J2b P ks (.exit x) s'' h'' n'' Q→R (.exit x) s'' h'' n'')→rC P a [] s' h' n' R):rL P a ks s h n Q:=by
 refine Jgx keep ic N J hN hi0 hJ0 ?_ ?_
 ·intro i s' h' n' hi hg hk hic hw hJ
  exact hstep i s' h' n' _ hi hg hk hic hw hJ (fun _ _ _ h1 h2 h3=>⟨h1,h2,h3⟩) (fun _ _ _ h=>h) (fun _ _ _ _ h=>h)
 ·intro s' h' n' hk hic hJ
  exact hend s' h' n' _ hk hic hJ (fun _ _ _ h=>h) (fun _ _ _ _ h=>h)
theorem J3t (keep:List Nat) (ic N:Nat) (J:Nat→Env→Prop) (hN:N≤LIM) (hi0:s ic = .int .i64 0) (hJ0:J 0 s)
 (hstep:∀ i s' h' (R:Fin),i<N→¬N≤i→(∀ j∈keep,s' j=s j)→s' ic = .int .i64 (i:Int)→IntKind.i64.wrap ((i:Int)+1)=(i:Int)+1→J i s'→(∀ id,h' id=h id) →
  (∀ s'',(∀ j∈keep,s'' j=s j)→s'' ic = .int .i64 ((i:Int)+1)→J (i+1) s''→R .normal s'' h' n) →
  (∀ s'' h'' n'',J2b P ks .ret s'' h'' n'' Q→R .ret s'' h'' n'')→(∀ x s'',J2b P ks (.exit x) s'' h n Q→R (.exit x) s'' h' n)→rC P a [] s' h' n R)
 (hend:∀ s' h' (R:Fin),(∀ j∈keep,s' j=s j)→s' ic = .int .i64 (N:Int)→J N s'→(∀ id,h' id=h id) →
  (∀ s'' h'' n'',J2b P ks .ret s'' h'' n'' Q→R .ret s'' h'' n'')→(∀ x s'',J2b P ks (.exit x) s'' h n Q→R (.exit x) s'' h' n)→rC P a [] s' h' n R):rL P a ks s h n Q:=by
 refine Jtj keep ic N J hN hi0 hJ0 ?_ ?_
 ·intro i s' hi hg hk hic hw hJ
  exact hstep i s' h _ hi hg hk hic hw hJ (fun _=>rfl) (fun _ h1 h2 h3=>⟨h1,h2,h3,rfl,rfl⟩) (fun _ _ _ h=>h) (fun _ _ h=>h)
 ·intro s' hk hic hJ
  exact hend s' h _ hk hic hJ (fun _=>rfl) (fun _ _ _ h=>h) (fun _ _ h=>h)
end
end Go.Proofs.YtoclolkigjbcgaaGreat
namespace Go.Proofs.YtoclolkigjbcgaaGreat
set_option linter.all false
open Go Go.RowKit
open Go Go.RowKit
abbrev Tree:=AV×AV×List Nat
open Go Go.RowKit
def cL {α:Type}(c:α→Nat):List α→Nat
 | []=>0
 | x::l=>c x+cL c l
open Go Go.RowKit
end Go.Proofs.YtoclolkigjbcgaaGreat

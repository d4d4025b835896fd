/- The types of the program, as data: read form (A), own form (U), weight (w). -/
import Derived.Test.YtoclolkigjbcgaaGreatYRD
namespace Go.Proofs.YtoclolkigjbcgaaGreat
set_option linter.all false
open Go Go.RowKit Go.Proofs
structure DLin where
 Const:Int
 Coeffs:List Int
deriving DecidableEq
def J05 (x:DLin):List AV:=[i64 x.Const,.sl 1 (J0l x.Coeffs)]
def J07 (x:DLin):List AV:=[i64 x.Const,.us 1 (J0l x.Coeffs)]
@[simp] theorem Jsk (x:DLin):drl (J07 x)=J05 x:=by simp [J07,J05]
@[simp] theorem K1l (l:List (DLin)):drr (l.map J07)=l.map J05:=by rw [J4e,List.map_map];exact List.map_congr_left fun x _=>Jsk x
@[simp] theorem Jz5 (x:DLin):J3v (J07 x)=true:=by simp [J07]
@[simp] theorem Jw5 (l:List (DLin)):J4i (l.map J07)=true:=by rw [J2t];simp
@[simp] theorem K2a (x:DLin):(J05 x).all J1d=true:=by simp [J05]
@[simp] theorem K3q (x:DLin):(J07 x).length=2:=by simp [J07]
@[simp] theorem K57 (x:DLin):(J05 x).length=2:=by simp [J05]
@[simp] theorem K7x (x:DLin) (h:Heap):bwl (J05 x) h=some (J05 x):=by simp [J05]
@[simp] theorem Kap (x:DLin):(J05 x)[0]? = some (i64 x.Const):=rfl
@[simp] theorem Ka9 (x:DLin) (h:0<(J05 x).length):(J05 x)[0]=i64 x.Const:=rfl
@[simp] theorem Ka2 (x:DLin):(J05 x)[1]? = some (.sl 1 (J0l x.Coeffs)):=rfl
@[simp] theorem Kbc (x:DLin) (h:1<(J05 x).length):(J05 x)[1] = .sl 1 (J0l x.Coeffs):=rfl
@[simp] theorem tALin (x:DLin):List.take 2 (J05 x)=J05 x:=rfl
@[simp] theorem Kbf (x:DLin):(J07 x)[0]? = some (i64 x.Const):=rfl
@[simp] theorem K9w (x:DLin) (h:0<(J07 x).length):(J07 x)[0]=i64 x.Const:=rfl
@[simp] theorem Kb5 (x:DLin):(J07 x)[1]? = some (.us 1 (J0l x.Coeffs)):=rfl
@[simp] theorem Kb3 (x:DLin) (h:1<(J07 x).length):(J07 x)[1] = .us 1 (J0l x.Coeffs):=rfl
@[simp] theorem tULin (x:DLin):List.take 2 (J07 x)=J07 x:=rfl
def Jg4 (l:List Int):Nat:=l.length
def Jaa (x:DLin):Nat:=Jg4 x.Coeffs
def J4q (l:List DLin):Nat:=wL Jaa l
def J2r (l:List DLin):List AV:=[.sl 2 (l.map J05)]
def J20 (l:List DLin):List AV:=[.us 2 (l.map J07)]
@[simp] theorem Jow (x:List DLin):drl (J20 x)=J2r x:=by simp [J20,J2r]
@[simp] theorem Jys (l:List (List DLin)):drr (l.map J20)=l.map J2r:=by rw [J4e,List.map_map];exact List.map_congr_left fun x _=>Jow x
@[simp] theorem Jv1 (x:List DLin):J3v (J20 x)=true:=by simp [J20]
@[simp] theorem Ju3 (l:List (List DLin)):J4i (l.map J20)=true:=by rw [J2t];simp
structure DSystem where
 N:Int
 Rows:List DLin
deriving DecidableEq
def J0z (x:DSystem):List AV:=[i64 x.N,.sl 2 (x.Rows.map J05)]
def J3h (x:DSystem):List AV:=[i64 x.N,.us 2 (x.Rows.map J07)]
@[simp] theorem Jz0 (x:DSystem) (h:Heap):bwl (J0z x) h=some (J0z x):=by simp [J0z]
@[simp] theorem K0y (x:DSystem):(J0z x)[0]? = some (i64 x.N):=rfl
@[simp] theorem K0v (x:DSystem) (h:0<(J0z x).length):(J0z x)[0]=i64 x.N:=rfl
@[simp] theorem K1q (x:DSystem):(J0z x)[1]? = some (.sl 2 (x.Rows.map J05)):=rfl
@[simp] theorem K2j (x:DSystem) (h:1<(J0z x).length):(J0z x)[1] = .sl 2 (x.Rows.map J05):=rfl
@[simp] theorem K5p (x:DSystem):List.take 2 (J0z x)=J0z x:=rfl
@[simp] theorem K2h (x:DSystem):(J3h x)[0]? = some (i64 x.N):=rfl
@[simp] theorem K2g (x:DSystem) (h:0<(J3h x).length):(J3h x)[0]=i64 x.N:=rfl
@[simp] theorem K15 (x:DSystem):(J3h x)[1]? = some (.us 2 (x.Rows.map J07)):=rfl
@[simp] theorem K0p (x:DSystem) (h:1<(J3h x).length):(J3h x)[1] = .us 2 (x.Rows.map J07):=rfl
@[simp] theorem K5t (x:DSystem):List.take 2 (J3h x)=J3h x:=rfl
structure DFarkas where
 Scale:Int
 Mult:List Int
deriving DecidableEq
def J0u (x:DFarkas):List AV:=[i64 x.Scale,.sl 1 (J0l x.Mult)]
def J37 (x:DFarkas):List AV:=[i64 x.Scale,.us 1 (J0l x.Mult)]
@[simp] theorem Jl6 (x:DFarkas):drl (J37 x)=J0u x:=by simp [J37,J0u]
@[simp] theorem Juh (l:List (DFarkas)):drr (l.map J37)=l.map J0u:=by rw [J4e,List.map_map];exact List.map_congr_left fun x _=>Jl6 x
@[simp] theorem Jsu (x:DFarkas):J3v (J37 x)=true:=by simp [J37]
@[simp] theorem Jxw (x:DFarkas):(J0u x).length=2:=by simp [J0u]
@[simp] theorem Jzz (x:DFarkas) (h:Heap):bwl (J0u x) h=some (J0u x):=by simp [J0u]
@[simp] theorem K1p (x:DFarkas):(J0u x)[0]? = some (i64 x.Scale):=rfl
@[simp] theorem K0q (x:DFarkas) (h:0<(J0u x).length):(J0u x)[0]=i64 x.Scale:=rfl
@[simp] theorem K0s (x:DFarkas):(J0u x)[1]? = some (.sl 1 (J0l x.Mult)):=rfl
@[simp] theorem K32 (x:DFarkas) (h:1<(J0u x).length):(J0u x)[1] = .sl 1 (J0l x.Mult):=rfl
@[simp] theorem K49 (x:DFarkas):List.take 2 (J0u x)=J0u x:=rfl
@[simp] theorem K2o (x:DFarkas):(J37 x)[0]? = some (i64 x.Scale):=rfl
@[simp] theorem K14 (x:DFarkas) (h:0<(J37 x).length):(J37 x)[0]=i64 x.Scale:=rfl
@[simp] theorem K0h (x:DFarkas):(J37 x)[1]? = some (.us 1 (J0l x.Mult)):=rfl
@[simp] theorem K1o (x:DFarkas) (h:1<(J37 x).length):(J37 x)[1] = .us 1 (J0l x.Mult):=rfl
@[simp] theorem K59 (x:DFarkas):List.take 2 (J37 x)=J37 x:=rfl
def J63 (x:DFarkas):Nat:=Jg4 x.Mult
def J88 (l:List DFarkas):Nat:=wL J63 l
structure DTerm where
 Coeff:Int
 Name:Str
deriving DecidableEq
def J16 (x:DTerm):List AV:=[i64 x.Coeff,.str x.Name]
def J4j (x:DTerm):List AV:=[i64 x.Coeff,.str x.Name]
@[simp] theorem Job (x:DTerm):drl (J4j x)=J16 x:=by simp [J4j,J16]
@[simp] theorem Jzj (l:List (DTerm)):drr (l.map J4j)=l.map J16:=by rw [J4e,List.map_map];exact List.map_congr_left fun x _=>Job x
@[simp] theorem Jv3 (x:DTerm):J3v (J4j x)=true:=by simp [J4j]
@[simp] theorem Jux (l:List (DTerm)):J4i (l.map J4j)=true:=by rw [J2t];simp
@[simp] theorem K8g (x:DTerm):(J16 x)[0]? = some (i64 x.Coeff):=rfl
@[simp] theorem K6z (x:DTerm) (h:0<(J16 x).length):(J16 x)[0]=i64 x.Coeff:=rfl
@[simp] theorem K7u (x:DTerm):(J16 x)[1]? = some (.str x.Name):=rfl
@[simp] theorem K6i (x:DTerm) (h:1<(J16 x).length):(J16 x)[1] = .str x.Name:=rfl
@[simp] theorem Ka6 (x:DTerm):List.take 2 (J16 x)=J16 x:=rfl
@[simp] theorem K6s (x:DTerm):(J4j x)[0]? = some (i64 x.Coeff):=rfl
@[simp] theorem K7q (x:DTerm) (h:0<(J4j x).length):(J4j x)[0]=i64 x.Coeff:=rfl
@[simp] theorem K7v (x:DTerm):(J4j x)[1]? = some (.str x.Name):=rfl
@[simp] theorem K93 (x:DTerm) (h:1<(J4j x).length):(J4j x)[1] = .str x.Name:=rfl
@[simp] theorem K9m (x:DTerm):List.take 2 (J4j x)=J4j x:=rfl
def J7k (x:DTerm):Nat:=x.Name.length
def Jdz (l:List DTerm):Nat:=wL J7k l
structure DSum where
 Const:Int
 Terms:List DTerm
deriving DecidableEq
def J1k (x:DSum):List AV:=[i64 x.Const,.sl 2 (x.Terms.map J16)]
def J5k (x:DSum):List AV:=[i64 x.Const,.us 2 (x.Terms.map J4j)]
@[simp] theorem Jtl (x:DSum):drl (J5k x)=J1k x:=by simp [J5k,J1k]
@[simp] theorem K31 (l:List (DSum)):drr (l.map J5k)=l.map J1k:=by rw [J4e,List.map_map];exact List.map_congr_left fun x _=>Jtl x
@[simp] theorem Jyg (x:DSum):J3v (J5k x)=true:=by simp [J5k]
@[simp] theorem Jwu (l:List (DSum)):J4i (l.map J5k)=true:=by rw [J2t];simp
@[simp] theorem K5u (x:DSum):(J1k x).length=2:=by simp [J1k]
@[simp] theorem K8x (x:DSum) (h:Heap):bwl (J1k x) h=some (J1k x):=by simp [J1k]
@[simp] theorem Ka7 (x:DSum):(J1k x)[0]? = some (i64 x.Const):=rfl
@[simp] theorem K9v (x:DSum) (h:0<(J1k x).length):(J1k x)[0]=i64 x.Const:=rfl
@[simp] theorem K9n (x:DSum):(J1k x)[1]? = some (.sl 2 (x.Terms.map J16)):=rfl
@[simp] theorem K9o (x:DSum) (h:1<(J1k x).length):(J1k x)[1] = .sl 2 (x.Terms.map J16):=rfl
@[simp] theorem tASum (x:DSum):List.take 2 (J1k x)=J1k x:=rfl
@[simp] theorem Kb7 (x:DSum):(J5k x)[0]? = some (i64 x.Const):=rfl
@[simp] theorem K9l (x:DSum) (h:0<(J5k x).length):(J5k x)[0]=i64 x.Const:=rfl
@[simp] theorem Kak (x:DSum):(J5k x)[1]? = some (.us 2 (x.Terms.map J4j)):=rfl
@[simp] theorem Kay (x:DSum) (h:1<(J5k x).length):(J5k x)[1] = .us 2 (x.Terms.map J4j):=rfl
@[simp] theorem tUSum (x:DSum):List.take 2 (J5k x)=J5k x:=rfl
def Jc8 (x:DSum):Nat:=Jdz x.Terms
def J6i (l:List DSum):Nat:=wL Jc8 l
structure DArg where
 Lst:Bool
 Heads:List DSum
 Base:Str
deriving DecidableEq
def J13 (x:DArg):List AV:=[.bool x.Lst,.sl 2 (x.Heads.map J1k),.str x.Base]
def J5r (x:DArg):List AV:=[.bool x.Lst,.us 2 (x.Heads.map J5k),.str x.Base]
@[simp] theorem Jr6 (x:DArg):drl (J5r x)=J13 x:=by simp [J5r,J13]
@[simp] theorem K1g (l:List (DArg)):drr (l.map J5r)=l.map J13:=by rw [J4e,List.map_map];exact List.map_congr_left fun x _=>Jr6 x
@[simp] theorem Jzd (x:DArg):J3v (J5r x)=true:=by simp [J5r]
@[simp] theorem Jx4 (l:List (DArg)):J4i (l.map J5r)=true:=by rw [J2t];simp
@[simp] theorem K3p (x:DArg):(J13 x).length=3:=by simp [J13]
@[simp] theorem K8y (x:DArg) (h:Heap):bwl (J13 x) h=some (J13 x):=by simp [J13]
@[simp] theorem Kar (x:DArg):(J13 x)[0]? = some (.bool x.Lst):=rfl
@[simp] theorem Ka4 (x:DArg) (h:0<(J13 x).length):(J13 x)[0] = .bool x.Lst:=rfl
@[simp] theorem Kaw (x:DArg):(J13 x)[1]? = some (.sl 2 (x.Heads.map J1k)):=rfl
@[simp] theorem K9s (x:DArg) (h:1<(J13 x).length):(J13 x)[1] = .sl 2 (x.Heads.map J1k):=rfl
@[simp] theorem Kal (x:DArg):(J13 x)[2]? = some (.str x.Base):=rfl
@[simp] theorem Ka0 (x:DArg) (h:2<(J13 x).length):(J13 x)[2] = .str x.Base:=rfl
@[simp] theorem tAArg (x:DArg):List.take 3 (J13 x)=J13 x:=rfl
@[simp] theorem K9x (x:DArg):(J5r x)[0]? = some (.bool x.Lst):=rfl
@[simp] theorem Kag (x:DArg) (h:0<(J5r x).length):(J5r x)[0] = .bool x.Lst:=rfl
@[simp] theorem Kao (x:DArg):(J5r x)[1]? = some (.us 2 (x.Heads.map J5k)):=rfl
@[simp] theorem Kav (x:DArg) (h:1<(J5r x).length):(J5r x)[1] = .us 2 (x.Heads.map J5k):=rfl
@[simp] theorem Kb1 (x:DArg):(J5r x)[2]? = some (.str x.Base):=rfl
@[simp] theorem Kab (x:DArg) (h:2<(J5r x).length):(J5r x)[2] = .str x.Base:=rfl
@[simp] theorem tUArg (x:DArg):List.take 3 (J5r x)=J5r x:=rfl
def Jb1 (x:DArg):Nat:=J6i x.Heads+x.Base.length
def Jg1 (l:List DArg):Nat:=wL Jb1 l
structure DFunction where
 Name:Str
 Params:List Str
 ListResult:Bool
 Pre:List DLin
deriving DecidableEq
def J04 (x:DFunction):List AV:=[.str x.Name,.sl 1 (J0b x.Params),.bool x.ListResult,.sl 2 (x.Pre.map J05)]
def J0k (x:DFunction):List AV:=[.str x.Name,.us 1 (J0b x.Params),.bool x.ListResult,.us 2 (x.Pre.map J07)]
@[simp] theorem Jia (x:DFunction):drl (J0k x)=J04 x:=by simp [J0k,J04]
@[simp] theorem Jqy (l:List (DFunction)):drr (l.map J0k)=l.map J04:=by rw [J4e,List.map_map];exact List.map_congr_left fun x _=>Jia x
@[simp] theorem Jp2 (x:DFunction):J3v (J0k x)=true:=by simp [J0k]
@[simp] theorem Jnr (l:List (DFunction)):J4i (l.map J0k)=true:=by rw [J2t];simp
@[simp] theorem Jqu (x:DFunction):(J04 x).all J1d=true:=by simp [J04]
@[simp] theorem Js2 (x:DFunction):(J04 x).length=4:=by simp [J04]
@[simp] theorem Juv (x:DFunction) (h:Heap):bwl (J04 x) h=some (J04 x):=by simp [J04]
@[simp] theorem Jwf (x:DFunction):(J04 x)[0]? = some (.str x.Name):=rfl
@[simp] theorem Jwd (x:DFunction) (h:0<(J04 x).length):(J04 x)[0] = .str x.Name:=rfl
@[simp] theorem Jve (x:DFunction):(J04 x)[1]? = some (.sl 1 (J0b x.Params)):=rfl
@[simp] theorem Jws (x:DFunction) (h:1<(J04 x).length):(J04 x)[1] = .sl 1 (J0b x.Params):=rfl
@[simp] theorem Jwi (x:DFunction):(J04 x)[2]? = some (.bool x.ListResult):=rfl
@[simp] theorem Jv8 (x:DFunction) (h:2<(J04 x).length):(J04 x)[2] = .bool x.ListResult:=rfl
@[simp] theorem Jy2 (x:DFunction):(J04 x)[3]? = some (.sl 2 (x.Pre.map J05)):=rfl
@[simp] theorem Jv4 (x:DFunction) (h:3<(J04 x).length):(J04 x)[3] = .sl 2 (x.Pre.map J05):=rfl
@[simp] theorem K02 (x:DFunction):List.take 4 (J04 x)=J04 x:=rfl
@[simp] theorem Jwa (x:DFunction):(J0k x)[0]? = some (.str x.Name):=rfl
@[simp] theorem Jvd (x:DFunction) (h:0<(J0k x).length):(J0k x)[0] = .str x.Name:=rfl
@[simp] theorem Jwm (x:DFunction):(J0k x)[1]? = some (.us 1 (J0b x.Params)):=rfl
@[simp] theorem Jw3 (x:DFunction) (h:1<(J0k x).length):(J0k x)[1] = .us 1 (J0b x.Params):=rfl
@[simp] theorem Jy8 (x:DFunction):(J0k x)[2]? = some (.bool x.ListResult):=rfl
@[simp] theorem Jwt (x:DFunction) (h:2<(J0k x).length):(J0k x)[2] = .bool x.ListResult:=rfl
@[simp] theorem Jvt (x:DFunction):(J0k x)[3]? = some (.us 2 (x.Pre.map J07)):=rfl
@[simp] theorem Jx1 (x:DFunction) (h:3<(J0k x).length):(J0k x)[3] = .us 2 (x.Pre.map J07):=rfl
@[simp] theorem Jzv (x:DFunction):List.take 4 (J0k x)=J0k x:=rfl
def J4c (l:List Str):Nat:=wL List.length l
def J10 (x:DFunction):Nat:=x.Name.length+J4c x.Params+J4q x.Pre
def J24 (l:List DFunction):Nat:=wL J10 l
structure DPattern where
 Lst:Str
 Cons:Bool
 Head:Str
 Tail:Str
deriving DecidableEq
def J0a (x:DPattern):List AV:=[.str x.Lst,.bool x.Cons,.str x.Head,.str x.Tail]
def J1o (x:DPattern):List AV:=[.str x.Lst,.bool x.Cons,.str x.Head,.str x.Tail]
@[simp] theorem Jk0 (x:DPattern):drl (J1o x)=J0a x:=by simp [J1o,J0a]
@[simp] theorem Jrw (l:List (DPattern)):drr (l.map J1o)=l.map J0a:=by rw [J4e,List.map_map];exact List.map_congr_left fun x _=>Jk0 x
@[simp] theorem Jqz (x:DPattern):J3v (J1o x)=true:=by simp [J1o]
@[simp] theorem Jpf (l:List (DPattern)):J4i (l.map J1o)=true:=by rw [J2t];simp
@[simp] theorem Ju2 (x:DPattern):(J0a x).length=4:=by simp [J0a]
@[simp] theorem Jyx (x:DPattern):(J0a x)[0]? = some (.str x.Lst):=rfl
@[simp] theorem K00 (x:DPattern) (h:0<(J0a x).length):(J0a x)[0] = .str x.Lst:=rfl
@[simp] theorem K01 (x:DPattern):(J0a x)[1]? = some (.bool x.Cons):=rfl
@[simp] theorem Jzm (x:DPattern) (h:1<(J0a x).length):(J0a x)[1] = .bool x.Cons:=rfl
@[simp] theorem Jyv (x:DPattern):(J0a x)[2]? = some (.str x.Head):=rfl
@[simp] theorem Jza (x:DPattern) (h:2<(J0a x).length):(J0a x)[2] = .str x.Head:=rfl
@[simp] theorem Jyf (x:DPattern):(J0a x)[3]? = some (.str x.Tail):=rfl
@[simp] theorem Jyt (x:DPattern) (h:3<(J0a x).length):(J0a x)[3] = .str x.Tail:=rfl
@[simp] theorem K1z (x:DPattern):List.take 4 (J0a x)=J0a x:=rfl
@[simp] theorem Jzg (x:DPattern):(J1o x)[0]? = some (.str x.Lst):=rfl
@[simp] theorem Jzq (x:DPattern) (h:0<(J1o x).length):(J1o x)[0] = .str x.Lst:=rfl
@[simp] theorem Jzs (x:DPattern):(J1o x)[1]? = some (.bool x.Cons):=rfl
@[simp] theorem Jym (x:DPattern) (h:1<(J1o x).length):(J1o x)[1] = .bool x.Cons:=rfl
@[simp] theorem Jz7 (x:DPattern):(J1o x)[2]? = some (.str x.Head):=rfl
@[simp] theorem Jzo (x:DPattern) (h:2<(J1o x).length):(J1o x)[2] = .str x.Head:=rfl
@[simp] theorem Jzp (x:DPattern):(J1o x)[3]? = some (.str x.Tail):=rfl
@[simp] theorem Jyq (x:DPattern) (h:3<(J1o x).length):(J1o x)[3] = .str x.Tail:=rfl
@[simp] theorem K03 (x:DPattern):List.take 4 (J1o x)=J1o x:=rfl
def J3k (x:DPattern):Nat:=x.Lst.length+x.Head.length+x.Tail.length
def J3d (l:List DPattern):Nat:=wL J3k l
structure DCall where
 Bind:Str
 Func:Str
 Args:List DArg
deriving DecidableEq
def J12 (x:DCall):List AV:=[.str x.Bind,.str x.Func,.sl 3 (x.Args.map J13)]
def J3z (x:DCall):List AV:=[.str x.Bind,.str x.Func,.us 3 (x.Args.map J5r)]
@[simp] theorem Jqg (x:DCall):drl (J3z x)=J12 x:=by simp [J3z,J12]
@[simp] theorem Jzi (l:List (DCall)):drr (l.map J3z)=l.map J12:=by rw [J4e,List.map_map];exact List.map_congr_left fun x _=>Jqg x
@[simp] theorem Jye (x:DCall):J3v (J3z x)=true:=by simp [J3z]
@[simp] theorem Ju7 (l:List (DCall)):J4i (l.map J3z)=true:=by rw [J2t];simp
@[simp] theorem K1r (x:DCall):(J12 x).length=3:=by simp [J12]
@[simp] theorem K4q (x:DCall) (h:Heap):bwl (J12 x) h=some (J12 x):=by simp [J12]
@[simp] theorem K8r (x:DCall):(J12 x)[0]? = some (.str x.Bind):=rfl
@[simp] theorem K8t (x:DCall) (h:0<(J12 x).length):(J12 x)[0] = .str x.Bind:=rfl
@[simp] theorem K8m (x:DCall):(J12 x)[1]? = some (.str x.Func):=rfl
@[simp] theorem K6r (x:DCall) (h:1<(J12 x).length):(J12 x)[1] = .str x.Func:=rfl
@[simp] theorem K69 (x:DCall):(J12 x)[2]? = some (.sl 3 (x.Args.map J13)):=rfl
@[simp] theorem K80 (x:DCall) (h:2<(J12 x).length):(J12 x)[2] = .sl 3 (x.Args.map J13):=rfl
@[simp] theorem Ka1 (x:DCall):List.take 3 (J12 x)=J12 x:=rfl
@[simp] theorem K7r (x:DCall):(J3z x)[0]? = some (.str x.Bind):=rfl
@[simp] theorem K82 (x:DCall) (h:0<(J3z x).length):(J3z x)[0] = .str x.Bind:=rfl
@[simp] theorem K7j (x:DCall):(J3z x)[1]? = some (.str x.Func):=rfl
@[simp] theorem K8p (x:DCall) (h:1<(J3z x).length):(J3z x)[1] = .str x.Func:=rfl
@[simp] theorem K8a (x:DCall):(J3z x)[2]? = some (.us 3 (x.Args.map J5r)):=rfl
@[simp] theorem K6y (x:DCall) (h:2<(J3z x).length):(J3z x)[2] = .us 3 (x.Args.map J5r):=rfl
@[simp] theorem K9t (x:DCall):List.take 3 (J3z x)=J3z x:=rfl
def J6b (x:DCall):Nat:=x.Bind.length+x.Func.length+Jg1 x.Args
def J8j (l:List DCall):Nat:=wL J6b l
structure DRule where
 Func:Str
 Patterns:List DPattern
 Guards:List DSum
 Calls:List DCall
 Result:DArg
deriving DecidableEq
def J0e (x:DRule):List AV:=[.str x.Func,.sl 4 (x.Patterns.map J0a),.sl 2 (x.Guards.map J1k),.sl 3 (x.Calls.map J12),.bool x.Result.Lst,.sl 2 (x.Result.Heads.map J1k),.str x.Result.Base]
def J2i (x:DRule):List AV:=[.str x.Func,.us 4 (x.Patterns.map J1o),.us 2 (x.Guards.map J5k),.us 3 (x.Calls.map J3z),.bool x.Result.Lst,.us 2 (x.Result.Heads.map J5k),.str x.Result.Base]
@[simp] theorem Joe (x:DRule):drl (J2i x)=J0e x:=by simp [J2i,J0e]
@[simp] theorem Jyo (l:List (DRule)):drr (l.map J2i)=l.map J0e:=by rw [J4e,List.map_map];exact List.map_congr_left fun x _=>Joe x
@[simp] theorem Jvq (x:DRule):J3v (J2i x)=true:=by simp [J2i]
@[simp] theorem Jui (l:List (DRule)):J4i (l.map J2i)=true:=by rw [J2t];simp
@[simp] theorem Jzh (x:DRule):(J0e x).all J1d=true:=by simp [J0e]
@[simp] theorem K1x (x:DRule):(J0e x).length=7:=by simp [J0e]
@[simp] theorem K3l (x:DRule) (h:Heap):bwl (J0e x) h=some (J0e x):=by simp [J0e]
@[simp] theorem K7c (x:DRule):(J0e x)[0]? = some (.str x.Func):=rfl
@[simp] theorem K70 (x:DRule) (h:0<(J0e x).length):(J0e x)[0] = .str x.Func:=rfl
@[simp] theorem K6j (x:DRule):(J0e x)[1]? = some (.sl 4 (x.Patterns.map J0a)):=rfl
@[simp] theorem K7h (x:DRule) (h:1<(J0e x).length):(J0e x)[1] = .sl 4 (x.Patterns.map J0a):=rfl
@[simp] theorem K8k (x:DRule):(J0e x)[2]? = some (.sl 2 (x.Guards.map J1k)):=rfl
@[simp] theorem K6d (x:DRule) (h:2<(J0e x).length):(J0e x)[2] = .sl 2 (x.Guards.map J1k):=rfl
@[simp] theorem K90 (x:DRule):(J0e x)[3]? = some (.sl 3 (x.Calls.map J12)):=rfl
@[simp] theorem K8e (x:DRule) (h:3<(J0e x).length):(J0e x)[3] = .sl 3 (x.Calls.map J12):=rfl
@[simp] theorem K79 (x:DRule):(J0e x)[4]? = some (.bool x.Result.Lst):=rfl
@[simp] theorem K6f (x:DRule) (h:4<(J0e x).length):(J0e x)[4] = .bool x.Result.Lst:=rfl
@[simp] theorem K6x (x:DRule):(J0e x)[5]? = some (.sl 2 (x.Result.Heads.map J1k)):=rfl
@[simp] theorem K75 (x:DRule) (h:5<(J0e x).length):(J0e x)[5] = .sl 2 (x.Result.Heads.map J1k):=rfl
@[simp] theorem K9f (x:DRule):(J0e x)[6]? = some (.str x.Result.Base):=rfl
@[simp] theorem K65 (x:DRule) (h:6<(J0e x).length):(J0e x)[6] = .str x.Result.Base:=rfl
@[simp] theorem Kat (x:DRule):List.take 7 (J0e x)=J0e x:=rfl
@[simp] theorem Jrq (x:DRule):List.take 3 (List.drop 4 (J0e x))=J13 x.Result:=rfl
@[simp] theorem K99 (x:DRule):(J2i x)[0]? = some (.str x.Func):=rfl
@[simp] theorem K8l (x:DRule) (h:0<(J2i x).length):(J2i x)[0] = .str x.Func:=rfl
@[simp] theorem K7f (x:DRule):(J2i x)[1]? = some (.us 4 (x.Patterns.map J1o)):=rfl
@[simp] theorem K9d (x:DRule) (h:1<(J2i x).length):(J2i x)[1] = .us 4 (x.Patterns.map J1o):=rfl
@[simp] theorem K5z (x:DRule):(J2i x)[2]? = some (.us 2 (x.Guards.map J5k)):=rfl
@[simp] theorem K6h (x:DRule) (h:2<(J2i x).length):(J2i x)[2] = .us 2 (x.Guards.map J5k):=rfl
@[simp] theorem K98 (x:DRule):(J2i x)[3]? = some (.us 3 (x.Calls.map J3z)):=rfl
@[simp] theorem K6t (x:DRule) (h:3<(J2i x).length):(J2i x)[3] = .us 3 (x.Calls.map J3z):=rfl
@[simp] theorem K6k (x:DRule):(J2i x)[4]? = some (.bool x.Result.Lst):=rfl
@[simp] theorem K76 (x:DRule) (h:4<(J2i x).length):(J2i x)[4] = .bool x.Result.Lst:=rfl
@[simp] theorem K87 (x:DRule):(J2i x)[5]? = some (.us 2 (x.Result.Heads.map J5k)):=rfl
@[simp] theorem K6w (x:DRule) (h:5<(J2i x).length):(J2i x)[5] = .us 2 (x.Result.Heads.map J5k):=rfl
@[simp] theorem K74 (x:DRule):(J2i x)[6]? = some (.str x.Result.Base):=rfl
@[simp] theorem K5y (x:DRule) (h:6<(J2i x).length):(J2i x)[6] = .str x.Result.Base:=rfl
@[simp] theorem Kb2 (x:DRule):List.take 7 (J2i x)=J2i x:=rfl
@[simp] theorem Jso (x:DRule):List.take 3 (List.drop 4 (J2i x))=J5r x.Result:=rfl
def J4u (x:DRule):Nat:=x.Func.length+J3d x.Patterns+J6i x.Guards+J8j x.Calls+Jb1 x.Result
def J9a (l:List DRule):Nat:=wL J4u l
structure DProgram where
 Functions:List DFunction
 Rules:List DRule
deriving DecidableEq
def J00 (x:DProgram):List AV:=[.sl 4 (x.Functions.map J04),.sl 7 (x.Rules.map J0e)]
def J1r (x:DProgram):List AV:=[.us 4 (x.Functions.map J0k),.us 7 (x.Rules.map J2i)]
@[simp] theorem Jru (x:DProgram):(J00 x).all J1d=true:=by simp [J00]
@[simp] theorem Jun (x:DProgram):(J00 x).length=2:=by simp [J00]
@[simp] theorem Jw8 (x:DProgram) (h:Heap):bwl (J00 x) h=some (J00 x):=by simp [J00]
@[simp] theorem Jyk (x:DProgram):(J00 x)[0]? = some (.sl 4 (x.Functions.map J04)):=rfl
@[simp] theorem Jzw (x:DProgram) (h:0<(J00 x).length):(J00 x)[0] = .sl 4 (x.Functions.map J04):=rfl
@[simp] theorem Jyy (x:DProgram):(J00 x)[1]? = some (.sl 7 (x.Rules.map J0e)):=rfl
@[simp] theorem Jyw (x:DProgram) (h:1<(J00 x).length):(J00 x)[1] = .sl 7 (x.Rules.map J0e):=rfl
@[simp] theorem K1w (x:DProgram):List.take 2 (J00 x)=J00 x:=rfl
@[simp] theorem Jyu (x:DProgram):(J1r x)[0]? = some (.us 4 (x.Functions.map J0k)):=rfl
@[simp] theorem Jz4 (x:DProgram) (h:0<(J1r x).length):(J1r x)[0] = .us 4 (x.Functions.map J0k):=rfl
@[simp] theorem Jzr (x:DProgram):(J1r x)[1]? = some (.us 7 (x.Rules.map J2i)):=rfl
@[simp] theorem Jyn (x:DProgram) (h:1<(J1r x).length):(J1r x)[1] = .us 7 (x.Rules.map J2i):=rfl
@[simp] theorem K2v (x:DProgram):List.take 2 (J1r x)=J1r x:=rfl
def J0j (x:DProgram):Nat:=J24 x.Functions+J9a x.Rules
structure DModel where
 System:DSystem
 Params:List DLin
 Args:List (List DLin)
 Result:DLin
deriving DecidableEq
def J0m (x:DModel):List AV:=[i64 x.System.N,.sl 2 (x.System.Rows.map J05),.sl 2 (x.Params.map J05),.sl 1 (x.Args.map J2r),i64 x.Result.Const,.sl 1 (J0l x.Result.Coeffs)]
def J28 (x:DModel):List AV:=[i64 x.System.N,.us 2 (x.System.Rows.map J07),.us 2 (x.Params.map J07),.us 1 (x.Args.map J20),i64 x.Result.Const,.us 1 (J0l x.Result.Coeffs)]
@[simp] theorem Jzl (x:DModel):drl (J28 x)=J0m x:=by simp [J28,J0m]
@[simp] theorem Jv5 (x:DModel):(J0m x).all J1d=true:=by simp [J0m]
@[simp] theorem Jzx (x:DModel):(J0m x).length=6:=by simp [J0m]
@[simp] theorem K2m (x:DModel) (h:Heap):bwl (J0m x) h=some (J0m x):=by simp [J0m]
@[simp] theorem K3i (x:DModel):(J0m x)[0]? = some (i64 x.System.N):=rfl
@[simp] theorem K3x (x:DModel) (h:0<(J0m x).length):(J0m x)[0]=i64 x.System.N:=rfl
@[simp] theorem K4p (x:DModel):(J0m x)[1]? = some (.sl 2 (x.System.Rows.map J05)):=rfl
@[simp] theorem K45 (x:DModel) (h:1<(J0m x).length):(J0m x)[1] = .sl 2 (x.System.Rows.map J05):=rfl
@[simp] theorem K5n (x:DModel):(J0m x)[2]? = some (.sl 2 (x.Params.map J05)):=rfl
@[simp] theorem K36 (x:DModel) (h:2<(J0m x).length):(J0m x)[2] = .sl 2 (x.Params.map J05):=rfl
@[simp] theorem K4f (x:DModel):(J0m x)[3]? = some (.sl 1 (x.Args.map J2r)):=rfl
@[simp] theorem K4k (x:DModel) (h:3<(J0m x).length):(J0m x)[3] = .sl 1 (x.Args.map J2r):=rfl
@[simp] theorem K5h (x:DModel):(J0m x)[4]? = some (i64 x.Result.Const):=rfl
@[simp] theorem K42 (x:DModel) (h:4<(J0m x).length):(J0m x)[4]=i64 x.Result.Const:=rfl
@[simp] theorem K4y (x:DModel):(J0m x)[5]? = some (.sl 1 (J0l x.Result.Coeffs)):=rfl
@[simp] theorem K4n (x:DModel) (h:5<(J0m x).length):(J0m x)[5] = .sl 1 (J0l x.Result.Coeffs):=rfl
@[simp] theorem K7l (x:DModel):List.take 6 (J0m x)=J0m x:=rfl
@[simp] theorem Jqx (x:DModel):List.take 2 (J0m x)=J0z x.System:=rfl
@[simp] theorem Jr1 (x:DModel):List.take 2 (List.drop 4 (J0m x))=J05 x.Result:=rfl
@[simp] theorem K38 (x:DModel):(J28 x)[0]? = some (i64 x.System.N):=rfl
@[simp] theorem K3n (x:DModel) (h:0<(J28 x).length):(J28 x)[0]=i64 x.System.N:=rfl
@[simp] theorem K3t (x:DModel):(J28 x)[1]? = some (.us 2 (x.System.Rows.map J07)):=rfl
@[simp] theorem K3b (x:DModel) (h:1<(J28 x).length):(J28 x)[1] = .us 2 (x.System.Rows.map J07):=rfl
@[simp] theorem K5q (x:DModel):(J28 x)[2]? = some (.us 2 (x.Params.map J07)):=rfl
@[simp] theorem K44 (x:DModel) (h:2<(J28 x).length):(J28 x)[2] = .us 2 (x.Params.map J07):=rfl
@[simp] theorem K5v (x:DModel):(J28 x)[3]? = some (.us 1 (x.Args.map J20)):=rfl
@[simp] theorem K4t (x:DModel) (h:3<(J28 x).length):(J28 x)[3] = .us 1 (x.Args.map J20):=rfl
@[simp] theorem K3k (x:DModel):(J28 x)[4]? = some (i64 x.Result.Const):=rfl
@[simp] theorem K5a (x:DModel) (h:4<(J28 x).length):(J28 x)[4]=i64 x.Result.Const:=rfl
@[simp] theorem K3o (x:DModel):(J28 x)[5]? = some (.us 1 (J0l x.Result.Coeffs)):=rfl
@[simp] theorem K51 (x:DModel) (h:5<(J28 x).length):(J28 x)[5] = .us 1 (J0l x.Result.Coeffs):=rfl
@[simp] theorem K6u (x:DModel):List.take 6 (J28 x)=J28 x:=rfl
@[simp] theorem Jqs (x:DModel):List.take 2 (J28 x)=J3h x.System:=rfl
@[simp] theorem Jr2 (x:DModel):List.take 2 (List.drop 4 (J28 x))=J07 x.Result:=rfl
def Jbl (l:List (List DLin)):Nat:=wL J4q l
structure DObligation where
 System:DSystem
 Target:DLin
deriving DecidableEq
def J15 (x:DObligation):List AV:=[i64 x.System.N,.sl 2 (x.System.Rows.map J05),i64 x.Target.Const,.sl 1 (J0l x.Target.Coeffs)]
def J08 (x:DObligation):List AV:=[i64 x.System.N,.us 2 (x.System.Rows.map J07),i64 x.Target.Const,.us 1 (J0l x.Target.Coeffs)]
@[simp] theorem Jf5 (x:DObligation):drl (J08 x)=J15 x:=by simp [J08,J15]
@[simp] theorem Jnv (l:List (DObligation)):drr (l.map J08)=l.map J15:=by rw [J4e,List.map_map];exact List.map_congr_left fun x _=>Jf5 x
@[simp] theorem Jnk (x:DObligation):J3v (J08 x)=true:=by simp [J08]
@[simp] theorem Jb4 (l:List (DObligation)):J4i (l.map J08)=true:=by rw [J2t];simp
@[simp] theorem Jon (x:DObligation):(J15 x).length=4:=by simp [J15]
@[simp] theorem Js7 (x:DObligation):(J15 x)[0]? = some (i64 x.System.N):=rfl
@[simp] theorem Jrh (x:DObligation) (h:0<(J15 x).length):(J15 x)[0]=i64 x.System.N:=rfl
@[simp] theorem Jtu (x:DObligation):(J15 x)[1]? = some (.sl 2 (x.System.Rows.map J05)):=rfl
@[simp] theorem Js1 (x:DObligation) (h:1<(J15 x).length):(J15 x)[1] = .sl 2 (x.System.Rows.map J05):=rfl
@[simp] theorem Jsc (x:DObligation):(J15 x)[2]? = some (i64 x.Target.Const):=rfl
@[simp] theorem Js4 (x:DObligation) (h:2<(J15 x).length):(J15 x)[2]=i64 x.Target.Const:=rfl
@[simp] theorem Jta (x:DObligation):(J15 x)[3]? = some (.sl 1 (J0l x.Target.Coeffs)):=rfl
@[simp] theorem Jr4 (x:DObligation) (h:3<(J15 x).length):(J15 x)[3] = .sl 1 (J0l x.Target.Coeffs):=rfl
@[simp] theorem Juk (x:DObligation):List.take 4 (J15 x)=J15 x:=rfl
@[simp] theorem Jk7 (x:DObligation):List.take 2 (J15 x)=J0z x.System:=rfl
@[simp] theorem Jle (x:DObligation):List.take 2 (List.drop 2 (J15 x))=J05 x.Target:=rfl
@[simp] theorem Js9 (x:DObligation):(J08 x)[0]? = some (i64 x.System.N):=rfl
@[simp] theorem Jra (x:DObligation) (h:0<(J08 x).length):(J08 x)[0]=i64 x.System.N:=rfl
@[simp] theorem Jst (x:DObligation):(J08 x)[1]? = some (.us 2 (x.System.Rows.map J07)):=rfl
@[simp] theorem Jrl (x:DObligation) (h:1<(J08 x).length):(J08 x)[1] = .us 2 (x.System.Rows.map J07):=rfl
@[simp] theorem Jtq (x:DObligation):(J08 x)[2]? = some (i64 x.Target.Const):=rfl
@[simp] theorem Js3 (x:DObligation) (h:2<(J08 x).length):(J08 x)[2]=i64 x.Target.Const:=rfl
@[simp] theorem Jry (x:DObligation):(J08 x)[3]? = some (.us 1 (J0l x.Target.Coeffs)):=rfl
@[simp] theorem Jr3 (x:DObligation) (h:3<(J08 x).length):(J08 x)[3] = .us 1 (J0l x.Target.Coeffs):=rfl
@[simp] theorem Ju4 (x:DObligation):List.take 4 (J08 x)=J08 x:=rfl
@[simp] theorem Jkh (x:DObligation):List.take 2 (J08 x)=J3h x.System:=rfl
@[simp] theorem Jkr (x:DObligation):List.take 2 (List.drop 2 (J08 x))=J07 x.Target:=rfl
structure DBounds where
 Kind:Int
 Lins:List DLin
deriving DecidableEq
structure DEdge where
 Rule:Int
 Call:Int
deriving DecidableEq
def J0o (x:DEdge):List AV:=[i64 x.Rule,i64 x.Call]
def J25 (x:DEdge):List AV:=[i64 x.Rule,i64 x.Call]
@[simp] theorem Jot (x:DEdge):drl (J25 x)=J0o x:=by simp [J25,J0o]
@[simp] theorem Jyh (l:List (DEdge)):drr (l.map J25)=l.map J0o:=by rw [J4e,List.map_map];exact List.map_congr_left fun x _=>Jot x
@[simp] theorem Jy7 (x:DEdge):J3v (J25 x)=true:=by simp [J25]
@[simp] theorem Juq (l:List (DEdge)):J4i (l.map J25)=true:=by rw [J2t];simp
@[simp] theorem Jz6 (x:DEdge):(J0o x).all J1d=true:=by simp [J0o]
@[simp] theorem K18 (x:DEdge):(J0o x).length=2:=by simp [J0o]
@[simp] theorem K4a (x:DEdge) (h:Heap):bwl (J0o x) h=some (J0o x):=by simp [J0o]
@[simp] theorem K7p (x:DEdge):(J0o x)[0]? = some (i64 x.Rule):=rfl
@[simp] theorem K66 (x:DEdge) (h:0<(J0o x).length):(J0o x)[0]=i64 x.Rule:=rfl
@[simp] theorem K77 (x:DEdge):(J0o x)[1]? = some (i64 x.Call):=rfl
@[simp] theorem K8c (x:DEdge) (h:1<(J0o x).length):(J0o x)[1]=i64 x.Call:=rfl
@[simp] theorem Ka3 (x:DEdge):List.take 2 (J0o x)=J0o x:=rfl
@[simp] theorem K6l (x:DEdge):(J25 x)[0]? = some (i64 x.Rule):=rfl
@[simp] theorem K8f (x:DEdge) (h:0<(J25 x).length):(J25 x)[0]=i64 x.Rule:=rfl
@[simp] theorem K97 (x:DEdge):(J25 x)[1]? = some (i64 x.Call):=rfl
@[simp] theorem K8h (x:DEdge) (h:1<(J25 x).length):(J25 x)[1]=i64 x.Call:=rfl
@[simp] theorem Ka8 (x:DEdge):List.take 2 (J25 x)=J25 x:=rfl
structure DRanking where
 Levels:List (List DLin)
 Edges:List Int
deriving DecidableEq
def J0d (x:DRanking):List AV:=[.sl 1 (x.Levels.map J2r),.sl 1 (J0l x.Edges)]
def J1s (x:DRanking):List AV:=[.us 1 (x.Levels.map J20),.us 1 (J0l x.Edges)]
@[simp] theorem Jss (x:DRanking):(J0d x).all J1d=true:=by simp [J0d]
@[simp] theorem Jug (x:DRanking):(J0d x).length=2:=by simp [J0d]
@[simp] theorem Jxa (x:DRanking) (h:Heap):bwl (J0d x) h=some (J0d x):=by simp [J0d]
@[simp] theorem Jzt (x:DRanking):(J0d x)[0]? = some (.sl 1 (x.Levels.map J2r)):=rfl
@[simp] theorem Jzc (x:DRanking) (h:0<(J0d x).length):(J0d x)[0] = .sl 1 (x.Levels.map J2r):=rfl
@[simp] theorem Jzf (x:DRanking):(J0d x)[1]? = some (.sl 1 (J0l x.Edges)):=rfl
@[simp] theorem Jyr (x:DRanking) (h:1<(J0d x).length):(J0d x)[1] = .sl 1 (J0l x.Edges):=rfl
@[simp] theorem K0u (x:DRanking):List.take 2 (J0d x)=J0d x:=rfl
@[simp] theorem Jzb (x:DRanking):(J1s x)[0]? = some (.us 1 (x.Levels.map J20)):=rfl
@[simp] theorem Jz2 (x:DRanking) (h:0<(J1s x).length):(J1s x)[0] = .us 1 (x.Levels.map J20):=rfl
@[simp] theorem Jze (x:DRanking):(J1s x)[1]? = some (.us 1 (J0l x.Edges)):=rfl
@[simp] theorem Jz8 (x:DRanking) (h:1<(J1s x).length):(J1s x)[1] = .us 1 (J0l x.Edges):=rfl
@[simp] theorem K0l (x:DRanking):List.take 2 (J1s x)=J1s x:=rfl
def J4p (x:DRanking):Nat:=Jbl x.Levels+Jg4 x.Edges
end Go.Proofs.YtoclolkigjbcgaaGreat
namespace Go.Proofs.YtoclolkigjbcgaaGreat
set_option linter.all false
open Go Go.RowKit
attribute [simp] K1a Jk2 J5o
@[simp] theorem K7w {h:Heap}{K:AV→Heap→Nat→Prop}{r:AV}{n:Nat} : hK h K r h n=K r h n:=by simp [hK,J7t.refl]
mutual
def Jtf:AV→Prop
 | .sl _ rows=>rows.length≤LIM
 | .us _ rows=>rows.length≤LIM
 | .str l=>l.length≤LIM
 | .agg cs=>Ju1 cs
 | .tup cs=>Ju1 cs
 | .undef | .int .. | .bool _ | .nil _ | .nilp | .ptr .. | .fptr .. | .ref .. | .fn .. | .mp _=>True
def Ju1:List AV→Prop
 | []=>True
 | a::as=>Jtf a∧Ju1 as
end
section
variable {w:World}{L:Nat→Option Loc}{N:Nat}
mutual
theorem K2b:∀ (a:AV) (v:Value) (S:List Nat),VR w L N a v S→Jtf a
 | .sl ..,_,_,h=>by
  simp only [VR] at h
  obtain ⟨⟨A,cap,vals,_,hl,_⟩,_⟩:=h
  simp only [Jtf];exact hl.1
 | .us ..,_,_,h=>by simp only [VR] at h;simp only [Jtf];exact h.1
 | .str _,_,_,h=>by
  simp only [VR] at h
  obtain ⟨⟨b,_,_,hl⟩,_⟩:=h
  simp only [Jtf];exact hl
 | .agg cs,_,_,h=>by simp only [VR] at h;obtain ⟨vs,_,h⟩:=h;simp only [Jtf];exact Jik cs _ _ h
 | .tup cs,_,_,h=>by simp only [VR] at h;obtain ⟨vs,_,h⟩:=h;simp only [Jtf];exact Jik cs _ _ h
 | .undef,_,_,_ | .int ..,_,_,_ | .bool _,_,_,_ | .nil _,_,_,_ | .nilp,_,_,_ | .ptr ..,_,_,_ | .fptr ..,_,_,_ | .ref ..,_,_,_ | .fn ..,_,_,_ | .mp _,_,_,_=>by simp only [Jtf]
theorem Jik:∀ (as:List AV) (vs:List Value) (S:List Nat),VRl w L N as vs S→Ju1 as
 | [],_,_,_=>by simp only [Ju1]
 | a::as,_,_,h=>by
  simp only [VRl] at h
  obtain ⟨v,vs',S1,S2,_,_,h1,h2⟩:=h
  simp only [Ju1];exact ⟨K2b a _ _ h1,Jik as _ _ h2⟩
end
end
theorem J1l {P:Program}{f:FuncId}{fn:Func}{as:List AV}{Q:AV→Prop}(hf:P.funcs[f]? = some fn) (hb:fn.body.isSome=true) (hn:(fn.name == "runtime.NumGoroutine")=false) (h:Ju1 as→Holds P f as Q):Holds P f as Q:=
 ⟨by simp [J77,hf,hb,hn],fun w vs hv=>(h (Jik as vs [] hv)).2 w vs hv⟩
attribute [simp] Jtf Ju1
theorem J8y {P:Program}{K K':Env→Heap→Nat→Prop}(hk:∀ s h n,K s h n→K' s h n):∀ {os:List AO}{s:Env}{h:Heap}{n:Nat},Jhl P os s h n K→Jhl P os s h n K'
 | [],s,h,n,hw=>hk s h n hw
 | o::os,s,h,n,hw=>by
  simp only [Jhl] at hw ⊢
  cases hg:o.g with
  | none=>rw [hg] at hw;exact J86 hw fun _ _ _ h=>J8y hk h
  | some p=>
   obtain ⟨j,want⟩:=p
   rw [hg] at hw
   simp only at hw ⊢
   cases hs:s j <;> rw [hs] at hw <;> try exact hw.elim
   ·exact ⟨fun e=>J86 (hw.1 e) fun _ _ _ h=>J8y hk h,fun e=>J8y hk (hw.2 e)⟩
   ·rename_i vs
    cases vs
    ·exact J8y hk hw
    ·exact hw.elim
theorem Jbt {P:Program}{s:Env}{h:Heap}{n:Nat}{K K':AV→Heap→Nat→Prop}{op:AOp}(hw:J5u P s h n K op) (hk:∀ r h n,K r h n→K' r h n):J5u P s h n K' op:=by
 unfold J5u at hw ⊢
 split at hw
 ·split at hw
  ·rename_i hf;try simp only [hf]
   exact J3u.mono hw fun _ _ _ h=>⟨h.1,hk _ _ _ h.2⟩
  ·exact hw.elim
 ·split at hw
  ·exact hk _ _ _ hw
  ·exact hk _ _ _ hw
  ·exact ⟨hw.1,hk _ _ _ hw.2⟩
  ·exact hk _ _ _ hw
  ·exact hw.elim
 ·exact J86 hw hk
theorem J4h {P:Program}{K K':Env→Heap→Nat→Prop}(hk:∀ s h n,K s h n→K' s h n):∀ {t:DT}{s:Env}{h:Heap}{n:Nat},J7s P t s h n K→J7s P t s h n K'
 | .fin,s,h,n,hw=>hk s h n hw
 | .stuck,_,_,_,hw=>hw.elim
 | .both a b,s,h,n,hw=>⟨J4h hk hw.1,J4h hk hw.2⟩
 | .op o t,s,h,n,hw=>by
  simp only [J7s] at hw ⊢
  cases hg:o.g with
  | none=>rw [hg] at hw;exact Jbt hw fun _ _ _ h=>J4h hk h
  | some p=>
   obtain ⟨j,want⟩:=p
   rw [hg] at hw
   simp only at hw ⊢
   cases hs:s j <;> rw [hs] at hw <;> try exact hw.elim
   ·exact ⟨fun e=>Jbt (hw.1 e) fun _ _ _ h=>J4h hk h,fun e=>J4h hk (hw.2 e)⟩
   ·rename_i vs
    cases vs
    ·exact J4h hk hw
    ·exact hw.elim
 | .hop o ps t,s,h,n,hw=>by
  simp only [J7s] at hw ⊢
  cases hg:o.g with
  | none=>rw [hg] at hw;exact Jbt hw fun _ _ _ h=>⟨h.1,J4h hk h.2⟩
  | some p=>
   obtain ⟨j,want⟩:=p
   rw [hg] at hw
   simp only at hw ⊢
   cases hs:s j <;> rw [hs] at hw <;> try exact hw.elim
   ·exact ⟨fun e=>Jbt (hw.1 e) fun _ _ _ h=>⟨h.1,J4h hk h.2⟩,fun e=>J4h hk (hw.2 e)⟩
   ·rename_i vs
    cases vs
    ·exact J4h hk hw
    ·exact hw.elim
theorem Jdk {P:Program} : ∀ {a:AC}{s:Env}{h:Heap}{n:Nat}{Q Q':Fin},awp P a s h n Q→(∀ e s h n,Q e s h n→Q' e s h n)→awp P a s h n Q':=by
 intro a
 induction a with
 | skip=>intro s h n Q Q' hw hq;exact hq _ _ _ _ hw
 | reg os=>intro s h n Q Q' hw hq;exact J8y (hq .normal) hw
 | seq a b iha ihb=>
  intro s h n Q Q' hw hq
  refine iha hw fun e s h n hh => ?_
  cases e
  ·exact ihb hh hq
  ·exact hq _ _ _ _ hh
  ·exact hq _ _ _ _ hh
 | cond c a b iha ihb=>
  intro s h n Q Q' hw hq
  simp only [awp] at hw ⊢
  split at hw
  ·exact ⟨fun e=>iha (hw.1 e) hq,fun e=>ihb (hw.2 e) hq⟩
  ·exact hw.elim
 | blk id a iha=>
  intro s h n Q Q' hw hq
  refine iha hw fun e s h n hh => ?_
  cases e
  ·exact hq _ _ _ _ hh
  ·simp only at hh ⊢;split
   ·rename_i hx;rw [if_pos hx] at hh;exact hq _ _ _ _ hh
   ·rename_i hx;rw [if_neg hx] at hh;exact hq _ _ _ _ hh
  ·exact hq _ _ _ _ hh
 | loop a iha=>
  intro s h n Q Q' hw hq
  obtain ⟨I,h0,hs⟩:=hw
  refine ⟨I,h0,fun k s h n hi=>iha (hs k s h n hi) fun e s h n hh => ?_⟩
  cases e
  ·exact hh
  ·exact hq _ _ _ _ hh
  ·exact hq _ _ _ _ hh
 | exit id=>intro s h n Q Q' hw hq;exact hq _ _ _ _ hw
 | ret=>intro s h n Q Q' hw hq;exact hq _ _ _ _ hw
 | draw t=>intro s h n Q Q' hw hq;exact J4h (hq .normal) hw
@[simp ↓ high] theorem Jhr {P:Program}{ks:List Kt}{s:Env}{h:Heap}{n:Nat}{Q:Fin}{c:Opd}{a b:AC}(hc:ev s c = .bool true):rC P (.cond c a b) ks s h n Q=rC P a ks s h n Q:=by
 rw [Jaq,hc];simp [gd]
@[simp ↓ high] theorem Jmg {P:Program}{ks:List Kt}{s:Env}{h:Heap}{n:Nat}{Q:Fin}{c:Opd}{a b:AC}(hc:ev s c = .bool false):rC P (.cond c a b) ks s h n Q=rC P b ks s h n Q:=by
 rw [Jaq,hc];simp [gd]
section
variable {P:Program}{s:Env}{h:Heap}{n:Nat}{ks:List Kt}{Q:Fin}{a:AC}
def K2y (P:Program) (ks:List Kt) (Q:Fin) (keep:List Nat) (s0:Env) (ic i:Nat) (J:Nat→Env→Heap→Nat→Prop):Fin:=fun e s h n=>match e with
 | .normal=>(∀ j∈keep,s j=s0 j)∧s ic = .int .i64 ((i:Int)+1)∧J (i+1) s h n
 | e=>J2f P ks e s h n Q
def K4u (P:Program) (ks:List Kt) (Q:Fin):Fin:=fun e s h n=>match e with
 | .normal=>False
 | e=>J2f P ks e s h n Q
@[simp ↓] theorem Jvg {keep:List Nat}{s0 s':Env}{ic i:Nat}{J:Nat→Env→Heap→Nat→Prop}{h':Heap}{n':Nat} : K2y P ks Q keep s0 ic i J .normal s' h' n'=((∀ j∈keep,s' j=s0 j)∧s' ic = .int .i64 ((i:Int)+1)∧J (i+1) s' h' n'):=propext Iff.rfl
@[simp ↓] theorem K3h {keep:List Nat}{s0 s':Env}{ic i:Nat}{J:Nat→Env→Heap→Nat→Prop}{h':Heap}{n':Nat} : K2y P ks Q keep s0 ic i J .ret s' h' n'=J2f P ks .ret s' h' n' Q:=propext Iff.rfl
@[simp ↓] theorem K1u {keep:List Nat}{s0 s':Env}{ic i x:Nat}{J:Nat→Env→Heap→Nat→Prop}{h':Heap}{n':Nat} : K2y P ks Q keep s0 ic i J (.exit x) s' h' n'=J2f P ks (.exit x) s' h' n' Q:=propext Iff.rfl
@[simp ↓] theorem K4b {s':Env}{h':Heap}{n':Nat} : K4u P ks Q .ret s' h' n'=J2f P ks .ret s' h' n' Q:=propext Iff.rfl
@[simp ↓] theorem K19 {x:Nat}{s':Env}{h':Heap}{n':Nat} : K4u P ks Q (.exit x) s' h' n'=J2f P ks (.exit x) s' h' n' Q:=propext Iff.rfl
theorem Jnz (keep:List Nat) (ic N:Nat) (J:Nat→Env→Heap→Nat→Prop) (hN:N≤LIM) (hi0:s ic = .int .i64 0) (hJ0:J 0 s h n)
 (hstep:∀ i s' h' n',i<N→¬N≤i→(∀ j∈keep,s' j=s j)→s' ic = .int .i64 (i:Int)→IntKind.i64.wrap ((i:Int)+1)=(i:Int)+1→J i s' h' n'→rC P a [] s' h' n' (K2y P ks Q keep s ic i J))
 (hend:∀ s' h' n',(∀ j∈keep,s' j=s j)→s' ic = .int .i64 (N:Int)→J N s' h' n'→rC P a [] s' h' n' (K4u P ks Q)):rL P a ks s h n Q:=by
 refine Jdh (fun k s' h' n'=>∃ i:Nat,k=N - i∧i≤N∧(∀ j∈keep,s' j=s j)∧s' ic = .int .i64 (i:Int)∧J i s' h' n') N ⟨0,by simp,Nat.zero_le _,fun _ _=>rfl,hi0,hJ0⟩ ?_
 rintro k s' h' n' ⟨i,rfl,hi,hk,hic,hJ⟩
 unfold LIM at hN
 by_cases hlt:i<N
 ·have:=hstep i s' h' n' hlt (by omega) hk hic (J1h (by omega)) hJ
  unfold rC at this ⊢
  refine Jdk this ?_
  intro e s2 h2 n2 hq
  cases e
  ·obtain ⟨q1,q2,q3⟩:=hq
   exact ⟨N - (i+1),by omega,i+1,rfl,by omega,q1,q2,q3⟩
  ·exact hq
  ·exact hq
 ·have hiN:i=N:=by omega
  subst hiN
  have:=hend s' h' n' hk hic hJ
  unfold rC at this ⊢
  refine Jdk this ?_
  intro e s2 h2 n2 hq
  cases e
  ·exact hq.elim
  ·exact hq
  ·exact hq
theorem Juj (keep:List Nat) (ic N:Nat) (J:Nat→Env→Prop) (hN:N≤LIM) (hi0:s ic = .int .i64 0) (hJ0:J 0 s)
 (hstep:∀ i s',i<N→¬N≤i→(∀ j∈keep,s' j=s j)→s' ic = .int .i64 (i:Int)→IntKind.i64.wrap ((i:Int)+1)=(i:Int)+1→J i s'→rC P a [] s' h n (K2y P ks Q keep s ic i fun i s' h' n'=>J i s'∧h'=h∧n'=n))
 (hend:∀ s',(∀ j∈keep,s' j=s j)→s' ic = .int .i64 (N:Int)→J N s'→rC P a [] s' h n (K4u P ks Q)):rL P a ks s h n Q:=by
 refine Jnz keep ic N (fun i s' h' n'=>J i s'∧h'=h∧n'=n) hN hi0 ⟨hJ0,rfl,rfl⟩ ?_ ?_
 ·rintro i s' h' n' hi hg hk hic hw ⟨hJ,rfl,rfl⟩;exact hstep i s' hi hg hk hic hw hJ
 ·rintro s' h' n' hk hic ⟨hJ,rfl,rfl⟩;exact hend s' hk hic hJ
theorem J0n (keep:List Nat) (ic N:Nat) (J:Nat→Env→Heap→Nat→Prop) (hN:N≤LIM) (hi0:s ic = .int .i64 0) (hJ0:J 0 s h n)
 (hstep:∀ i s' h' n' (R:Fin),i<N→¬N≤i→(∀ j∈keep,s' j=s j)→s' ic = .int .i64 (i:Int)→IntKind.i64.wrap ((i:Int)+1)=(i:Int)+1→J i s' h' n' →
  (∀ s'' h'' n'',(∀ j∈keep,s'' j=s j)→s'' ic = .int .i64 ((i:Int)+1)→J (i+1) s'' h'' n''→R .normal s'' h'' n'') →
  (∀ s'' h'' n'',J2f P ks .ret s'' h'' n'' Q→R .ret s'' h'' n'')→(∀ x s'' h'' n'',J2f P ks (.exit x) s'' h'' n'' Q→R (.exit x) s'' h'' n'')→rC P a [] s' h' n' R)
 (hend:∀ s' h' n' (R:Fin),(∀ j∈keep,s' j=s j)→s' ic = .int .i64 (N:Int)→J N s' h' n' →
  (∀ s'' h'' n'',J2f P ks .ret s'' h'' n'' Q→R .ret s'' h'' n'')→(∀ x s'' h'' n'',J2f P ks (.exit x) s'' h'' n'' Q→R (.exit x) s'' h'' n'')→rC P a [] s' h' n' R):rL P a ks s h n Q:=by
 refine Jnz keep ic N J hN hi0 hJ0 ?_ ?_
 ·intro i s' h' n' hi hg hk hic hw hJ
  exact hstep i s' h' n' _ hi hg hk hic hw hJ (fun _ _ _ h1 h2 h3=>⟨h1,h2,h3⟩) (fun _ _ _ h=>h) (fun _ _ _ _ h=>h)
 ·intro s' h' n' hk hic hJ
  exact hend s' h' n' _ hk hic hJ (fun _ _ _ h=>h) (fun _ _ _ _ h=>h)
theorem J4k (keep:List Nat) (ic N:Nat) (J:Nat→Env→Prop) (hN:N≤LIM) (hi0:s ic = .int .i64 0) (hJ0:J 0 s)
 (hstep:∀ i s' h' (R:Fin),i<N→¬N≤i→(∀ j∈keep,s' j=s j)→s' ic = .int .i64 (i:Int)→IntKind.i64.wrap ((i:Int)+1)=(i:Int)+1→J i s'→(∀ id,h' id=h id) →
  (∀ s'',(∀ j∈keep,s'' j=s j)→s'' ic = .int .i64 ((i:Int)+1)→J (i+1) s''→R .normal s'' h' n) →
  (∀ s'' h'' n'',J2f P ks .ret s'' h'' n'' Q→R .ret s'' h'' n'')→(∀ x s'',J2f P ks (.exit x) s'' h n Q→R (.exit x) s'' h' n)→rC P a [] s' h' n R)
 (hend:∀ s' h' (R:Fin),(∀ j∈keep,s' j=s j)→s' ic = .int .i64 (N:Int)→J N s'→(∀ id,h' id=h id) →
  (∀ s'' h'' n'',J2f P ks .ret s'' h'' n'' Q→R .ret s'' h'' n'')→(∀ x s'',J2f P ks (.exit x) s'' h n Q→R (.exit x) s'' h' n)→rC P a [] s' h' n R):rL P a ks s h n Q:=by
 refine Juj keep ic N J hN hi0 hJ0 ?_ ?_
 ·intro i s' hi hg hk hic hw hJ
  exact hstep i s' h _ hi hg hk hic hw hJ (fun _=>rfl) (fun _ h1 h2 h3=>⟨h1,h2,h3,rfl,rfl⟩) (fun _ _ _ h=>h) (fun _ _ h=>h)
 ·intro s' hk hic hJ
  exact hend s' h _ hk hic hJ (fun _=>rfl) (fun _ _ _ h=>h) (fun _ _ h=>h)
end
end Go.Proofs.YtoclolkigjbcgaaGreat
namespace Go.Proofs.YtoclolkigjbcgaaGreat
set_option linter.all false
open Go Go.RowKit
open Go Go.RowKit
abbrev Tree:=AV×AV×List Nat
open Go Go.RowKit
def cL {α:Type}(c:α→Nat):List α→Nat
 | []=>0
 | x::l=>c x+cL c l
open Go Go.RowKit
end Go.Proofs.YtoclolkigjbcgaaGreat

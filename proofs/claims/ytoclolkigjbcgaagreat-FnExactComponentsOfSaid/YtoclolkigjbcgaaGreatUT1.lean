/- The types of the program, as data: read form (A), own form (U), weight (w). -/
import Derived.Test.YtoclolkigjbcgaaGreatURD
namespace Go.Proofs.YtoclolkigjbcgaaGreat
set_option linter.all false
open Go Go.RowKit Go.Proofs
structure DLin where
 Const:Int
 Coeffs:List Int
deriving DecidableEq
def J12 (x:DLin):List AV:=[i64 x.Const,.sl 1 (J38 x.Coeffs)]
def J1b (x:DLin):List AV:=[i64 x.Const,.us 1 (J38 x.Coeffs)]
@[simp] theorem Jmt (x:DLin):drl (J1b x)=J12 x:=by simp [J1b,J12]
@[simp] theorem Juj (l:List (DLin)):drr (l.map J1b)=l.map J12:=by rw [J48,List.map_map];exact List.map_congr_left fun x _=>Jmt x
@[simp] theorem Jrn (x:DLin):J25 (J1b x)=true:=by simp [J1b]
@[simp] theorem Jqe (l:List (DLin)):J2q (l.map J1b)=true:=by rw [J23];simp
@[simp] theorem Jvp (x:DLin):(J12 x).length=2:=by simp [J12]
@[simp] theorem Jzz (x:DLin) (h:Heap):bwl (J12 x) h=some (J12 x):=by simp [J12]
@[simp] theorem K1p (x:DLin):(J12 x)[0]? = some (i64 x.Const):=rfl
@[simp] theorem K14 (x:DLin) (h:0<(J12 x).length):(J12 x)[0]=i64 x.Const:=rfl
@[simp] theorem K1a (x:DLin):(J12 x)[1]? = some (.sl 1 (J38 x.Coeffs)):=rfl
@[simp] theorem K0t (x:DLin) (h:1<(J12 x).length):(J12 x)[1] = .sl 1 (J38 x.Coeffs):=rfl
@[simp] theorem tALin (x:DLin):List.take 2 (J12 x)=J12 x:=rfl
@[simp] theorem K12 (x:DLin):(J1b x)[0]? = some (i64 x.Const):=rfl
@[simp] theorem K0z (x:DLin) (h:0<(J1b x).length):(J1b x)[0]=i64 x.Const:=rfl
@[simp] theorem K08 (x:DLin):(J1b x)[1]? = some (.us 1 (J38 x.Coeffs)):=rfl
@[simp] theorem K0x (x:DLin) (h:1<(J1b x).length):(J1b x)[1] = .us 1 (J38 x.Coeffs):=rfl
@[simp] theorem tULin (x:DLin):List.take 2 (J1b x)=J1b x:=rfl
def Jer (l:List Int):Nat:=l.length
def Ja7 (x:DLin):Nat:=Jer x.Coeffs
def J90 (l:List DLin):Nat:=wL Ja7 l
structure DTerm where
 Coeff:Int
 Name:Str
deriving DecidableEq
def J0l (x:DTerm):List AV:=[i64 x.Coeff,.str x.Name]
def J2v (x:DTerm):List AV:=[i64 x.Coeff,.str x.Name]
@[simp] theorem Jkz (x:DTerm):drl (J2v x)=J0l x:=by simp [J2v,J0l]
@[simp] theorem Jru (l:List (DTerm)):drr (l.map J2v)=l.map J0l:=by rw [J48,List.map_map];exact List.map_congr_left fun x _=>Jkz x
@[simp] theorem Jpb (x:DTerm):J25 (J2v x)=true:=by simp [J2v]
@[simp] theorem Jnp (l:List (DTerm)):J2q (l.map J2v)=true:=by rw [J23];simp
@[simp] theorem Jxu (x:DTerm):(J0l x)[0]? = some (i64 x.Coeff):=rfl
@[simp] theorem Jxc (x:DTerm) (h:0<(J0l x).length):(J0l x)[0]=i64 x.Coeff:=rfl
@[simp] theorem Jyk (x:DTerm):(J0l x)[1]? = some (.str x.Name):=rfl
@[simp] theorem Jyh (x:DTerm) (h:1<(J0l x).length):(J0l x)[1] = .str x.Name:=rfl
@[simp] theorem K1m (x:DTerm):List.take 2 (J0l x)=J0l x:=rfl
@[simp] theorem Jyw (x:DTerm):(J2v x)[0]? = some (i64 x.Coeff):=rfl
@[simp] theorem Jzl (x:DTerm) (h:0<(J2v x).length):(J2v x)[0]=i64 x.Coeff:=rfl
@[simp] theorem Jz2 (x:DTerm):(J2v x)[1]? = some (.str x.Name):=rfl
@[simp] theorem Jy8 (x:DTerm) (h:1<(J2v x).length):(J2v x)[1] = .str x.Name:=rfl
@[simp] theorem K1e (x:DTerm):List.take 2 (J2v x)=J2v x:=rfl
def J5o (x:DTerm):Nat:=x.Name.length
def Jae (l:List DTerm):Nat:=wL J5o l
structure DSum where
 Const:Int
 Terms:List DTerm
deriving DecidableEq
def J10 (x:DSum):List AV:=[i64 x.Const,.sl 2 (x.Terms.map J0l)]
def J3s (x:DSum):List AV:=[i64 x.Const,.us 2 (x.Terms.map J2v)]
@[simp] theorem Jm9 (x:DSum):drl (J3s x)=J10 x:=by simp [J3s,J10]
@[simp] theorem Jtw (l:List (DSum)):drr (l.map J3s)=l.map J10:=by rw [J48,List.map_map];exact List.map_congr_left fun x _=>Jm9 x
@[simp] theorem Jrx (x:DSum):J25 (J3s x)=true:=by simp [J3s]
@[simp] theorem Jqp (l:List (DSum)):J2q (l.map J3s)=true:=by rw [J23];simp
@[simp] theorem Juz (x:DSum):(J10 x).length=2:=by simp [J10]
@[simp] theorem Jxm (x:DSum) (h:Heap):bwl (J10 x) h=some (J10 x):=by simp [J10]
@[simp] theorem K0j (x:DSum):(J10 x)[0]? = some (i64 x.Const):=rfl
@[simp] theorem K1r (x:DSum) (h:0<(J10 x).length):(J10 x)[0]=i64 x.Const:=rfl
@[simp] theorem K0h (x:DSum):(J10 x)[1]? = some (.sl 2 (x.Terms.map J0l)):=rfl
@[simp] theorem K0c (x:DSum) (h:1<(J10 x).length):(J10 x)[1] = .sl 2 (x.Terms.map J0l):=rfl
@[simp] theorem tASum (x:DSum):List.take 2 (J10 x)=J10 x:=rfl
@[simp] theorem K17 (x:DSum):(J3s x)[0]? = some (i64 x.Const):=rfl
@[simp] theorem K0e (x:DSum) (h:0<(J3s x).length):(J3s x)[0]=i64 x.Const:=rfl
@[simp] theorem K11 (x:DSum):(J3s x)[1]? = some (.us 2 (x.Terms.map J2v)):=rfl
@[simp] theorem K19 (x:DSum) (h:1<(J3s x).length):(J3s x)[1] = .us 2 (x.Terms.map J2v):=rfl
@[simp] theorem tUSum (x:DSum):List.take 2 (J3s x)=J3s x:=rfl
def J8j (x:DSum):Nat:=Jae x.Terms
def J4u (l:List DSum):Nat:=wL J8j l
structure DArg where
 Lst:Bool
 Heads:List DSum
 Base:Str
deriving DecidableEq
def J0o (x:DArg):List AV:=[.bool x.Lst,.sl 2 (x.Heads.map J10),.str x.Base]
def J3t (x:DArg):List AV:=[.bool x.Lst,.us 2 (x.Heads.map J3s),.str x.Base]
@[simp] theorem Jm1 (x:DArg):drl (J3t x)=J0o x:=by simp [J3t,J0o]
@[simp] theorem Jug (l:List (DArg)):drr (l.map J3t)=l.map J0o:=by rw [J48,List.map_map];exact List.map_congr_left fun x _=>Jm1 x
@[simp] theorem Js0 (x:DArg):J25 (J3t x)=true:=by simp [J3t]
@[simp] theorem Joy (l:List (DArg)):J2q (l.map J3t)=true:=by rw [J23];simp
@[simp] theorem Jwc (x:DArg):(J0o x).length=3:=by simp [J0o]
@[simp] theorem Jz0 (x:DArg) (h:Heap):bwl (J0o x) h=some (J0o x):=by simp [J0o]
@[simp] theorem K0w (x:DArg):(J0o x)[0]? = some (.bool x.Lst):=rfl
@[simp] theorem K1n (x:DArg) (h:0<(J0o x).length):(J0o x)[0] = .bool x.Lst:=rfl
@[simp] theorem K0n (x:DArg):(J0o x)[1]? = some (.sl 2 (x.Heads.map J10)):=rfl
@[simp] theorem K0a (x:DArg) (h:1<(J0o x).length):(J0o x)[1] = .sl 2 (x.Heads.map J10):=rfl
@[simp] theorem K0q (x:DArg):(J0o x)[2]? = some (.str x.Base):=rfl
@[simp] theorem K0p (x:DArg) (h:2<(J0o x).length):(J0o x)[2] = .str x.Base:=rfl
@[simp] theorem tAArg (x:DArg):List.take 3 (J0o x)=J0o x:=rfl
@[simp] theorem K1j (x:DArg):(J3t x)[0]? = some (.bool x.Lst):=rfl
@[simp] theorem K1t (x:DArg) (h:0<(J3t x).length):(J3t x)[0] = .bool x.Lst:=rfl
@[simp] theorem K1h (x:DArg):(J3t x)[1]? = some (.us 2 (x.Heads.map J3s)):=rfl
@[simp] theorem K1l (x:DArg) (h:1<(J3t x).length):(J3t x)[1] = .us 2 (x.Heads.map J3s):=rfl
@[simp] theorem K0r (x:DArg):(J3t x)[2]? = some (.str x.Base):=rfl
@[simp] theorem K16 (x:DArg) (h:2<(J3t x).length):(J3t x)[2] = .str x.Base:=rfl
@[simp] theorem tUArg (x:DArg):List.take 3 (J3t x)=J3t x:=rfl
def J7w (x:DArg):Nat:=J4u x.Heads+x.Base.length
def Jc1 (l:List DArg):Nat:=wL J7w l
structure DFunction where
 Name:Str
 Params:List Str
 ListResult:Bool
 Pre:List DLin
deriving DecidableEq
def J04 (x:DFunction):List AV:=[.str x.Name,.sl 1 (J05 x.Params),.bool x.ListResult,.sl 2 (x.Pre.map J12)]
def J0b (x:DFunction):List AV:=[.str x.Name,.us 1 (J05 x.Params),.bool x.ListResult,.us 2 (x.Pre.map J1b)]
@[simp] theorem Jdr (x:DFunction):drl (J0b x)=J04 x:=by simp [J0b,J04]
@[simp] theorem Jli (l:List (DFunction)):drr (l.map J0b)=l.map J04:=by rw [J48,List.map_map];exact List.map_congr_left fun x _=>Jdr x
@[simp] theorem Jl4 (x:DFunction):J25 (J0b x)=true:=by simp [J0b]
@[simp] theorem Jj1 (l:List (DFunction)):J2q (l.map J0b)=true:=by rw [J23];simp
@[simp] theorem Jlg (x:DFunction):(J04 x).all J0s=true:=by simp [J04]
@[simp] theorem Jn2 (x:DFunction):(J04 x).length=4:=by simp [J04]
@[simp] theorem Jo2 (x:DFunction) (h:Heap):bwl (J04 x) h=some (J04 x):=by simp [J04]
@[simp] theorem Jom (x:DFunction):(J04 x)[0]? = some (.str x.Name):=rfl
@[simp] theorem Joz (x:DFunction) (h:0<(J04 x).length):(J04 x)[0] = .str x.Name:=rfl
@[simp] theorem Jpy (x:DFunction):(J04 x)[1]? = some (.sl 1 (J05 x.Params)):=rfl
@[simp] theorem Joc (x:DFunction) (h:1<(J04 x).length):(J04 x)[1] = .sl 1 (J05 x.Params):=rfl
@[simp] theorem Jon (x:DFunction):(J04 x)[2]? = some (.bool x.ListResult):=rfl
@[simp] theorem Jpz (x:DFunction) (h:2<(J04 x).length):(J04 x)[2] = .bool x.ListResult:=rfl
@[simp] theorem Jqz (x:DFunction):(J04 x)[3]? = some (.sl 2 (x.Pre.map J12)):=rfl
@[simp] theorem Jqm (x:DFunction) (h:3<(J04 x).length):(J04 x)[3] = .sl 2 (x.Pre.map J12):=rfl
@[simp] theorem Jrs (x:DFunction):List.take 4 (J04 x)=J04 x:=rfl
@[simp] theorem Jpi (x:DFunction):(J0b x)[0]? = some (.str x.Name):=rfl
@[simp] theorem Jqs (x:DFunction) (h:0<(J0b x).length):(J0b x)[0] = .str x.Name:=rfl
@[simp] theorem Jr1 (x:DFunction):(J0b x)[1]? = some (.us 1 (J05 x.Params)):=rfl
@[simp] theorem Joe (x:DFunction) (h:1<(J0b x).length):(J0b x)[1] = .us 1 (J05 x.Params):=rfl
@[simp] theorem Jpk (x:DFunction):(J0b x)[2]? = some (.bool x.ListResult):=rfl
@[simp] theorem Jq9 (x:DFunction) (h:2<(J0b x).length):(J0b x)[2] = .bool x.ListResult:=rfl
@[simp] theorem Jph (x:DFunction):(J0b x)[3]? = some (.us 2 (x.Pre.map J1b)):=rfl
@[simp] theorem Jqd (x:DFunction) (h:3<(J0b x).length):(J0b x)[3] = .us 2 (x.Pre.map J1b):=rfl
@[simp] theorem Jrf (x:DFunction):List.take 4 (J0b x)=J0b x:=rfl
def J33 (l:List Str):Nat:=wL List.length l
def J0j (x:DFunction):Nat:=x.Name.length+J33 x.Params+J90 x.Pre
def J17 (l:List DFunction):Nat:=wL J0j l
structure DPattern where
 Lst:Str
 Cons:Bool
 Head:Str
 Tail:Str
deriving DecidableEq
def J06 (x:DPattern):List AV:=[.str x.Lst,.bool x.Cons,.str x.Head,.str x.Tail]
def J0m (x:DPattern):List AV:=[.str x.Lst,.bool x.Cons,.str x.Head,.str x.Tail]
@[simp] theorem Jey (x:DPattern):drl (J0m x)=J06 x:=by simp [J0m,J06]
@[simp] theorem Jlo (l:List (DPattern)):drr (l.map J0m)=l.map J06:=by rw [J48,List.map_map];exact List.map_congr_left fun x _=>Jey x
@[simp] theorem Jld (x:DPattern):J25 (J0m x)=true:=by simp [J0m]
@[simp] theorem Jl2 (l:List (DPattern)):J2q (l.map J0m)=true:=by rw [J23];simp
@[simp] theorem Jny (x:DPattern):(J06 x).length=4:=by simp [J06]
@[simp] theorem Js3 (x:DPattern):(J06 x)[0]? = some (.str x.Lst):=rfl
@[simp] theorem Jrj (x:DPattern) (h:0<(J06 x).length):(J06 x)[0] = .str x.Lst:=rfl
@[simp] theorem Js5 (x:DPattern):(J06 x)[1]? = some (.bool x.Cons):=rfl
@[simp] theorem Js6 (x:DPattern) (h:1<(J06 x).length):(J06 x)[1] = .bool x.Cons:=rfl
@[simp] theorem Jr7 (x:DPattern):(J06 x)[2]? = some (.str x.Head):=rfl
@[simp] theorem Jrp (x:DPattern) (h:2<(J06 x).length):(J06 x)[2] = .str x.Head:=rfl
@[simp] theorem Jra (x:DPattern):(J06 x)[3]? = some (.str x.Tail):=rfl
@[simp] theorem Jrc (x:DPattern) (h:3<(J06 x).length):(J06 x)[3] = .str x.Tail:=rfl
@[simp] theorem Jua (x:DPattern):List.take 4 (J06 x)=J06 x:=rfl
@[simp] theorem Jry (x:DPattern):(J0m x)[0]? = some (.str x.Lst):=rfl
@[simp] theorem Jr3 (x:DPattern) (h:0<(J0m x).length):(J0m x)[0] = .str x.Lst:=rfl
@[simp] theorem Jrr (x:DPattern):(J0m x)[1]? = some (.bool x.Cons):=rfl
@[simp] theorem Jsb (x:DPattern) (h:1<(J0m x).length):(J0m x)[1] = .bool x.Cons:=rfl
@[simp] theorem Jrl (x:DPattern):(J0m x)[2]? = some (.str x.Head):=rfl
@[simp] theorem Jrq (x:DPattern) (h:2<(J0m x).length):(J0m x)[2] = .str x.Head:=rfl
@[simp] theorem Jrw (x:DPattern):(J0m x)[3]? = some (.str x.Tail):=rfl
@[simp] theorem Js1 (x:DPattern) (h:3<(J0m x).length):(J0m x)[3] = .str x.Tail:=rfl
@[simp] theorem Jt1 (x:DPattern):List.take 4 (J0m x)=J0m x:=rfl
def J1w (x:DPattern):Nat:=x.Lst.length+x.Head.length+x.Tail.length
def J1s (l:List DPattern):Nat:=wL J1w l
structure DCall where
 Bind:Str
 Func:Str
 Args:List DArg
deriving DecidableEq
def J0t (x:DCall):List AV:=[.str x.Bind,.str x.Func,.sl 3 (x.Args.map J0o)]
def J2a (x:DCall):List AV:=[.str x.Bind,.str x.Func,.us 3 (x.Args.map J3t)]
@[simp] theorem Jks (x:DCall):drl (J2a x)=J0t x:=by simp [J2a,J0t]
@[simp] theorem Jrz (l:List (DCall)):drr (l.map J2a)=l.map J0t:=by rw [J48,List.map_map];exact List.map_congr_left fun x _=>Jks x
@[simp] theorem Jqh (x:DCall):J25 (J2a x)=true:=by simp [J2a]
@[simp] theorem Jo1 (l:List (DCall)):J2q (l.map J2a)=true:=by rw [J23];simp
@[simp] theorem Jt5 (x:DCall):(J0t x).length=3:=by simp [J0t]
@[simp] theorem Jvo (x:DCall) (h:Heap):bwl (J0t x) h=some (J0t x):=by simp [J0t]
@[simp] theorem Jy4 (x:DCall):(J0t x)[0]? = some (.str x.Bind):=rfl
@[simp] theorem Jz5 (x:DCall) (h:0<(J0t x).length):(J0t x)[0] = .str x.Bind:=rfl
@[simp] theorem Jxl (x:DCall):(J0t x)[1]? = some (.str x.Func):=rfl
@[simp] theorem Jyc (x:DCall) (h:1<(J0t x).length):(J0t x)[1] = .str x.Func:=rfl
@[simp] theorem Jzo (x:DCall):(J0t x)[2]? = some (.sl 3 (x.Args.map J0o)):=rfl
@[simp] theorem Jzg (x:DCall) (h:2<(J0t x).length):(J0t x)[2] = .sl 3 (x.Args.map J0o):=rfl
@[simp] theorem K1b (x:DCall):List.take 3 (J0t x)=J0t x:=rfl
@[simp] theorem Jy2 (x:DCall):(J2a x)[0]? = some (.str x.Bind):=rfl
@[simp] theorem Jzf (x:DCall) (h:0<(J2a x).length):(J2a x)[0] = .str x.Bind:=rfl
@[simp] theorem Jyr (x:DCall):(J2a x)[1]? = some (.str x.Func):=rfl
@[simp] theorem K04 (x:DCall) (h:1<(J2a x).length):(J2a x)[1] = .str x.Func:=rfl
@[simp] theorem Jzm (x:DCall):(J2a x)[2]? = some (.us 3 (x.Args.map J3t)):=rfl
@[simp] theorem Jyy (x:DCall) (h:2<(J2a x).length):(J2a x)[2] = .us 3 (x.Args.map J3t):=rfl
@[simp] theorem K1d (x:DCall):List.take 3 (J2a x)=J2a x:=rfl
def J4f (x:DCall):Nat:=x.Bind.length+x.Func.length+Jc1 x.Args
def J64 (l:List DCall):Nat:=wL J4f l
structure DRule where
 Func:Str
 Patterns:List DPattern
 Guards:List DSum
 Calls:List DCall
 Result:DArg
deriving DecidableEq
def J0a (x:DRule):List AV:=[.str x.Func,.sl 4 (x.Patterns.map J06),.sl 2 (x.Guards.map J10),.sl 3 (x.Calls.map J0t),.bool x.Result.Lst,.sl 2 (x.Result.Heads.map J10),.str x.Result.Base]
def J18 (x:DRule):List AV:=[.str x.Func,.us 4 (x.Patterns.map J0m),.us 2 (x.Guards.map J3s),.us 3 (x.Calls.map J2a),.bool x.Result.Lst,.us 2 (x.Result.Heads.map J3s),.str x.Result.Base]
@[simp] theorem Jkr (x:DRule):drl (J18 x)=J0a x:=by simp [J18,J0a]
@[simp] theorem Jr4 (l:List (DRule)):drr (l.map J18)=l.map J0a:=by rw [J48,List.map_map];exact List.map_congr_left fun x _=>Jkr x
@[simp] theorem Jp8 (x:DRule):J25 (J18 x)=true:=by simp [J18]
@[simp] theorem Jnq (l:List (DRule)):J2q (l.map J18)=true:=by rw [J23];simp
@[simp] theorem Jt3 (x:DRule):(J0a x).length=7:=by simp [J0a]
@[simp] theorem Jv0 (x:DRule) (h:Heap):bwl (J0a x) h=some (J0a x):=by simp [J0a]
@[simp] theorem Jzb (x:DRule):(J0a x)[0]? = some (.str x.Func):=rfl
@[simp] theorem Jxy (x:DRule) (h:0<(J0a x).length):(J0a x)[0] = .str x.Func:=rfl
@[simp] theorem Jyz (x:DRule):(J0a x)[1]? = some (.sl 4 (x.Patterns.map J06)):=rfl
@[simp] theorem Jyf (x:DRule) (h:1<(J0a x).length):(J0a x)[1] = .sl 4 (x.Patterns.map J06):=rfl
@[simp] theorem Jyg (x:DRule):(J0a x)[2]? = some (.sl 2 (x.Guards.map J10)):=rfl
@[simp] theorem Jys (x:DRule) (h:2<(J0a x).length):(J0a x)[2] = .sl 2 (x.Guards.map J10):=rfl
@[simp] theorem Jz3 (x:DRule):(J0a x)[3]? = some (.sl 3 (x.Calls.map J0t)):=rfl
@[simp] theorem Jyo (x:DRule) (h:3<(J0a x).length):(J0a x)[3] = .sl 3 (x.Calls.map J0t):=rfl
@[simp] theorem Jzh (x:DRule):(J0a x)[4]? = some (.bool x.Result.Lst):=rfl
@[simp] theorem Jyi (x:DRule) (h:4<(J0a x).length):(J0a x)[4] = .bool x.Result.Lst:=rfl
@[simp] theorem Jy7 (x:DRule):(J0a x)[5]? = some (.sl 2 (x.Result.Heads.map J10)):=rfl
@[simp] theorem Jxb (x:DRule) (h:5<(J0a x).length):(J0a x)[5] = .sl 2 (x.Result.Heads.map J10):=rfl
@[simp] theorem Jyq (x:DRule):(J0a x)[6]? = some (.str x.Result.Base):=rfl
@[simp] theorem Jzq (x:DRule) (h:6<(J0a x).length):(J0a x)[6] = .str x.Result.Base:=rfl
@[simp] theorem K15 (x:DRule):List.take 7 (J0a x)=J0a x:=rfl
@[simp] theorem Jls (x:DRule):List.take 3 (List.drop 4 (J0a x))=J0o x.Result:=rfl
@[simp] theorem Jxi (x:DRule):(J18 x)[0]? = some (.str x.Func):=rfl
@[simp] theorem Jyt (x:DRule) (h:0<(J18 x).length):(J18 x)[0] = .str x.Func:=rfl
@[simp] theorem Jxt (x:DRule):(J18 x)[1]? = some (.us 4 (x.Patterns.map J0m)):=rfl
@[simp] theorem Jyb (x:DRule) (h:1<(J18 x).length):(J18 x)[1] = .us 4 (x.Patterns.map J0m):=rfl
@[simp] theorem K02 (x:DRule):(J18 x)[2]? = some (.us 2 (x.Guards.map J3s)):=rfl
@[simp] theorem K03 (x:DRule) (h:2<(J18 x).length):(J18 x)[2] = .us 2 (x.Guards.map J3s):=rfl
@[simp] theorem Jza (x:DRule):(J18 x)[3]? = some (.us 3 (x.Calls.map J2a)):=rfl
@[simp] theorem Jym (x:DRule) (h:3<(J18 x).length):(J18 x)[3] = .us 3 (x.Calls.map J2a):=rfl
@[simp] theorem Jy1 (x:DRule):(J18 x)[4]? = some (.bool x.Result.Lst):=rfl
@[simp] theorem Jxw (x:DRule) (h:4<(J18 x).length):(J18 x)[4] = .bool x.Result.Lst:=rfl
@[simp] theorem Jx7 (x:DRule):(J18 x)[5]? = some (.us 2 (x.Result.Heads.map J3s)):=rfl
@[simp] theorem Jz8 (x:DRule) (h:5<(J18 x).length):(J18 x)[5] = .us 2 (x.Result.Heads.map J3s):=rfl
@[simp] theorem Jxx (x:DRule):(J18 x)[6]? = some (.str x.Result.Base):=rfl
@[simp] theorem Jxf (x:DRule) (h:6<(J18 x).length):(J18 x)[6] = .str x.Result.Base:=rfl
@[simp] theorem K1g (x:DRule):List.take 7 (J18 x)=J18 x:=rfl
@[simp] theorem Jmu (x:DRule):List.take 3 (List.drop 4 (J18 x))=J3t x.Result:=rfl
def J3f (x:DRule):Nat:=x.Func.length+J1s x.Patterns+J4u x.Guards+J64 x.Calls+J7w x.Result
def J6z (l:List DRule):Nat:=wL J3f l
structure DProgram where
 Functions:List DFunction
 Rules:List DRule
deriving DecidableEq
def J00 (x:DProgram):List AV:=[.sl 4 (x.Functions.map J04),.sl 7 (x.Rules.map J0a)]
def J1g (x:DProgram):List AV:=[.us 4 (x.Functions.map J0b),.us 7 (x.Rules.map J18)]
@[simp] theorem Jnn (x:DProgram):drl (J1g x)=J00 x:=by simp [J1g,J00]
@[simp] theorem Jn9 (x:DProgram):(J1g x).all J0s=true:=by simp [J1g]
@[simp] theorem Jlk (x:DProgram):(J00 x).all J0s=true:=by simp [J00]
@[simp] theorem J5s (x:DProgram):(J1g x).length=2:=by simp [J1g]
@[simp] theorem Jo3 (x:DProgram):(J00 x).length=2:=by simp [J00]
@[simp] theorem Jp3 (x:DProgram) (h:Heap):bwl (J00 x) h=some (J00 x):=by simp [J00]
@[simp] theorem Jrb (x:DProgram):(J00 x)[0]? = some (.sl 4 (x.Functions.map J04)):=rfl
@[simp] theorem Jrg (x:DProgram) (h:0<(J00 x).length):(J00 x)[0] = .sl 4 (x.Functions.map J04):=rfl
@[simp] theorem Jr6 (x:DProgram):(J00 x)[1]? = some (.sl 7 (x.Rules.map J0a)):=rfl
@[simp] theorem Jrd (x:DProgram) (h:1<(J00 x).length):(J00 x)[1] = .sl 7 (x.Rules.map J0a):=rfl
@[simp] theorem Jte (x:DProgram):List.take 2 (J00 x)=J00 x:=rfl
@[simp] theorem Jr8 (x:DProgram):(J1g x)[0]? = some (.us 4 (x.Functions.map J0b)):=rfl
@[simp] theorem Jrv (x:DProgram) (h:0<(J1g x).length):(J1g x)[0] = .us 4 (x.Functions.map J0b):=rfl
@[simp] theorem Jrh (x:DProgram):(J1g x)[1]? = some (.us 7 (x.Rules.map J18)):=rfl
@[simp] theorem Jsa (x:DProgram) (h:1<(J1g x).length):(J1g x)[1] = .us 7 (x.Rules.map J18):=rfl
@[simp] theorem Jsf (x:DProgram):List.take 2 (J1g x)=J1g x:=rfl
def J0d (x:DProgram):Nat:=J17 x.Functions+J6z x.Rules
structure DEdge where
 Rule:Int
 Call:Int
deriving DecidableEq
def J3r (x:DEdge):List AV:=[i64 x.Rule,i64 x.Call]
def J2f (x:DEdge):List AV:=[i64 x.Rule,i64 x.Call]
@[simp] theorem Jol (x:DEdge):J25 (J2f x)=true:=by simp [J2f]
@[simp] theorem Jnd (l:List (DEdge)):J2q (l.map J2f)=true:=by rw [J23];simp
@[simp] theorem Jzt (x:DEdge):(J3r x)[0]? = some (i64 x.Rule):=rfl
@[simp] theorem Jy0 (x:DEdge) (h:0<(J3r x).length):(J3r x)[0]=i64 x.Rule:=rfl
@[simp] theorem Jxn (x:DEdge):(J3r x)[1]? = some (i64 x.Call):=rfl
@[simp] theorem Jxz (x:DEdge) (h:1<(J3r x).length):(J3r x)[1]=i64 x.Call:=rfl
@[simp] theorem K1z (x:DEdge):List.take 2 (J3r x)=J3r x:=rfl
@[simp] theorem Jze (x:DEdge):(J2f x)[0]? = some (i64 x.Rule):=rfl
@[simp] theorem Jxr (x:DEdge) (h:0<(J2f x).length):(J2f x)[0]=i64 x.Rule:=rfl
@[simp] theorem Jya (x:DEdge):(J2f x)[1]? = some (i64 x.Call):=rfl
@[simp] theorem Jzr (x:DEdge) (h:1<(J2f x).length):(J2f x)[1]=i64 x.Call:=rfl
@[simp] theorem K1v (x:DEdge):List.take 2 (J2f x)=J2f x:=rfl
end Go.Proofs.YtoclolkigjbcgaaGreat
namespace Go.Proofs.YtoclolkigjbcgaaGreat
set_option linter.all false
open Go Go.RowKit
attribute [simp] Jt4 Jgt J4e
mutual
def Jlt:AV→Prop
 | .sl _ rows=>rows.length≤LIM
 | .us _ rows=>rows.length≤LIM
 | .str l=>l.length≤LIM
 | .agg cs=>Jnm cs
 | .tup cs=>Jnm cs
 | .undef | .int .. | .bool _ | .nil _ | .nilp | .ptr .. | .fptr .. | .ref .. | .fn .. | .mp _=>True
def Jnm:List AV→Prop
 | []=>True
 | a::as=>Jlt a∧Jnm as
end
section
variable {w:World}{L:Nat→Option Loc}{N:Nat}
mutual
theorem Jtv:∀ (a:AV) (v:Value) (S:List Nat),VR w L N a v S→Jlt a
 | .sl ..,_,_,h=>by
  simp only [VR] at h
  obtain ⟨⟨A,cap,vals,_,hl,_⟩,_⟩:=h
  simp only [Jlt];exact hl.1
 | .us ..,_,_,h=>by simp only [VR] at h;simp only [Jlt];exact h.1
 | .str _,_,_,h=>by
  simp only [VR] at h
  obtain ⟨⟨b,_,_,hl⟩,_⟩:=h
  simp only [Jlt];exact hl
 | .agg cs,_,_,h=>by simp only [VR] at h;obtain ⟨vs,_,h⟩:=h;simp only [Jlt];exact Je3 cs _ _ h
 | .tup cs,_,_,h=>by simp only [VR] at h;obtain ⟨vs,_,h⟩:=h;simp only [Jlt];exact Je3 cs _ _ h
 | .undef,_,_,_ | .int ..,_,_,_ | .bool _,_,_,_ | .nil _,_,_,_ | .nilp,_,_,_ | .ptr ..,_,_,_ | .fptr ..,_,_,_ | .ref ..,_,_,_ | .fn ..,_,_,_ | .mp _,_,_,_=>by simp only [Jlt]
theorem Je3:∀ (as:List AV) (vs:List Value) (S:List Nat),VRl w L N as vs S→Jnm as
 | [],_,_,_=>by simp only [Jnm]
 | a::as,_,_,h=>by
  simp only [VRl] at h
  obtain ⟨v,vs',S1,S2,_,_,h1,h2⟩:=h
  simp only [Jnm];exact ⟨Jtv a _ _ h1,Je3 as _ _ h2⟩
end
end
theorem J1f {P:Program}{f:FuncId}{fn:Func}{as:List AV}{Q:AV→Prop}(hf:P.funcs[f]? = some fn) (hb:fn.body.isSome=true) (hn:(fn.name == "runtime.NumGoroutine")=false) (h:Jnm as→Holds P f as Q):Holds P f as Q:=
 ⟨by simp [J5b,hf,hb,hn],fun w vs hv=>(h (Je3 as vs [] hv)).2 w vs hv⟩
attribute [simp] Jlt Jnm
theorem J7g {P:Program}{K K':Env→Heap→Nat→Prop}(hk:∀ s h n,K s h n→K' s h n):∀ {os:List AO}{s:Env}{h:Heap}{n:Nat},Jdx P os s h n K→Jdx P os s h n K'
 | [],s,h,n,hw=>hk s h n hw
 | o::os,s,h,n,hw=>by
  simp only [Jdx] at hw ⊢
  cases hg:o.g with
  | none=>rw [hg] at hw;exact J6v hw fun _ _ _ h=>J7g hk h
  | some p=>
   obtain ⟨j,want⟩:=p
   rw [hg] at hw
   simp only at hw ⊢
   cases hs:s j <;> rw [hs] at hw <;> try exact hw.elim
   ·exact ⟨fun e=>J6v (hw.1 e) fun _ _ _ h=>J7g hk h,fun e=>J7g hk (hw.2 e)⟩
   ·rename_i vs
    cases vs
    ·exact J7g hk hw
    ·exact hw.elim
theorem J8y {P:Program}{s:Env}{h:Heap}{n:Nat}{K K':AV→Heap→Nat→Prop}{op:AOp}(hw:J4j P s h n K op) (hk:∀ r h n,K r h n→K' r h n):J4j P s h n K' op:=by
 unfold J4j at hw ⊢
 split at hw
 ·split at hw
  ·rename_i hf;try simp only [hf]
   exact J1u.mono hw fun _ _ _ h=>⟨h.1,hk _ _ _ h.2⟩
  ·exact hw.elim
 ·split at hw
  ·exact hk _ _ _ hw
  ·exact hk _ _ _ hw
  ·exact ⟨hw.1,hk _ _ _ hw.2⟩
  ·exact hk _ _ _ hw
  ·exact hw.elim
 ·exact J6v hw hk
theorem J3g {P:Program}{K K':Env→Heap→Nat→Prop}(hk:∀ s h n,K s h n→K' s h n):∀ {t:DT}{s:Env}{h:Heap}{n:Nat},J6c P t s h n K→J6c P t s h n K'
 | .fin,s,h,n,hw=>hk s h n hw
 | .stuck,_,_,_,hw=>hw.elim
 | .both a b,s,h,n,hw=>⟨J3g hk hw.1,J3g hk hw.2⟩
 | .op o t,s,h,n,hw=>by
  simp only [J6c] at hw ⊢
  cases hg:o.g with
  | none=>rw [hg] at hw;exact J8y hw fun _ _ _ h=>J3g hk h
  | some p=>
   obtain ⟨j,want⟩:=p
   rw [hg] at hw
   simp only at hw ⊢
   cases hs:s j <;> rw [hs] at hw <;> try exact hw.elim
   ·exact ⟨fun e=>J8y (hw.1 e) fun _ _ _ h=>J3g hk h,fun e=>J3g hk (hw.2 e)⟩
   ·rename_i vs
    cases vs
    ·exact J3g hk hw
    ·exact hw.elim
 | .hop o ps t,s,h,n,hw=>by
  simp only [J6c] at hw ⊢
  cases hg:o.g with
  | none=>rw [hg] at hw;exact J8y hw fun _ _ _ h=>⟨h.1,J3g hk h.2⟩
  | some p=>
   obtain ⟨j,want⟩:=p
   rw [hg] at hw
   simp only at hw ⊢
   cases hs:s j <;> rw [hs] at hw <;> try exact hw.elim
   ·exact ⟨fun e=>J8y (hw.1 e) fun _ _ _ h=>⟨h.1,J3g hk h.2⟩,fun e=>J3g hk (hw.2 e)⟩
   ·rename_i vs
    cases vs
    ·exact J3g hk hw
    ·exact hw.elim
theorem Jau {P:Program} : ∀ {a:AC}{s:Env}{h:Heap}{n:Nat}{Q Q':Fin},awp P a s h n Q→(∀ e s h n,Q e s h n→Q' e s h n)→awp P a s h n Q':=by
 intro a
 induction a with
 | skip=>intro s h n Q Q' hw hq;exact hq _ _ _ _ hw
 | reg os=>intro s h n Q Q' hw hq;exact J7g (hq .normal) hw
 | seq a b iha ihb=>
  intro s h n Q Q' hw hq
  refine iha hw fun e s h n hh => ?_
  cases e
  ·exact ihb hh hq
  ·exact hq _ _ _ _ hh
  ·exact hq _ _ _ _ hh
 | cond c a b iha ihb=>
  intro s h n Q Q' hw hq
  simp only [awp] at hw ⊢
  split at hw
  ·exact ⟨fun e=>iha (hw.1 e) hq,fun e=>ihb (hw.2 e) hq⟩
  ·exact hw.elim
 | blk id a iha=>
  intro s h n Q Q' hw hq
  refine iha hw fun e s h n hh => ?_
  cases e
  ·exact hq _ _ _ _ hh
  ·simp only at hh ⊢;split
   ·rename_i hx;rw [if_pos hx] at hh;exact hq _ _ _ _ hh
   ·rename_i hx;rw [if_neg hx] at hh;exact hq _ _ _ _ hh
  ·exact hq _ _ _ _ hh
 | loop a iha=>
  intro s h n Q Q' hw hq
  obtain ⟨I,h0,hs⟩:=hw
  refine ⟨I,h0,fun k s h n hi=>iha (hs k s h n hi) fun e s h n hh => ?_⟩
  cases e
  ·exact hh
  ·exact hq _ _ _ _ hh
  ·exact hq _ _ _ _ hh
 | exit id=>intro s h n Q Q' hw hq;exact hq _ _ _ _ hw
 | ret=>intro s h n Q Q' hw hq;exact hq _ _ _ _ hw
 | draw t=>intro s h n Q Q' hw hq;exact J3g (hq .normal) hw
@[simp ↓ high] theorem Jvt {P:Program}{ks:List Kt}{s:Env}{h:Heap}{n:Nat}{Q:Fin}{c:Opd}{a b:AC}(hc:ev s c = .bool true):rC P (.cond c a b) ks s h n Q=rC P a ks s h n Q:=by
 rw [J8b,hc];simp [gd]
@[simp ↓ high] theorem Jwe {P:Program}{ks:List Kt}{s:Env}{h:Heap}{n:Nat}{Q:Fin}{c:Opd}{a b:AC}(hc:ev s c = .bool false):rC P (.cond c a b) ks s h n Q=rC P b ks s h n Q:=by
 rw [J8b,hc];simp [gd]
section
variable {P:Program}{s:Env}{h:Heap}{n:Nat}{ks:List Kt}{Q:Fin}{a:AC}
def Jt6 (P:Program) (ks:List Kt) (Q:Fin) (keep:List Nat) (s0:Env) (ic i:Nat) (J:Nat→Env→Heap→Nat→Prop):Fin:=fun e s h n=>match e with
 | .normal=>(∀ j∈keep,s j=s0 j)∧s ic = .int .i64 ((i:Int)+1)∧J (i+1) s h n
 | e=>J40 P ks e s h n Q
def Jvh (P:Program) (ks:List Kt) (Q:Fin):Fin:=fun e s h n=>match e with
 | .normal=>False
 | e=>J40 P ks e s h n Q
@[simp ↓] theorem Jpp {keep:List Nat}{s0 s':Env}{ic i:Nat}{J:Nat→Env→Heap→Nat→Prop}{h':Heap}{n':Nat} : Jt6 P ks Q keep s0 ic i J .normal s' h' n'=((∀ j∈keep,s' j=s0 j)∧s' ic = .int .i64 ((i:Int)+1)∧J (i+1) s' h' n'):=propext Iff.rfl
@[simp ↓] theorem Jwx {keep:List Nat}{s0 s':Env}{ic i:Nat}{J:Nat→Env→Heap→Nat→Prop}{h':Heap}{n':Nat} : Jt6 P ks Q keep s0 ic i J .ret s' h' n'=J40 P ks .ret s' h' n' Q:=propext Iff.rfl
@[simp ↓] theorem Jts {keep:List Nat}{s0 s':Env}{ic i x:Nat}{J:Nat→Env→Heap→Nat→Prop}{h':Heap}{n':Nat} : Jt6 P ks Q keep s0 ic i J (.exit x) s' h' n'=J40 P ks (.exit x) s' h' n' Q:=propext Iff.rfl
@[simp ↓] theorem Jwa {s':Env}{h':Heap}{n':Nat} : Jvh P ks Q .ret s' h' n'=J40 P ks .ret s' h' n' Q:=propext Iff.rfl
@[simp ↓] theorem Juq {x:Nat}{s':Env}{h':Heap}{n':Nat} : Jvh P ks Q (.exit x) s' h' n'=J40 P ks (.exit x) s' h' n' Q:=propext Iff.rfl
theorem Jjf (keep:List Nat) (ic N:Nat) (J:Nat→Env→Heap→Nat→Prop) (hN:N≤LIM) (hi0:s ic = .int .i64 0) (hJ0:J 0 s h n)
 (hstep:∀ i s' h' n',i<N→¬N≤i→(∀ j∈keep,s' j=s j)→s' ic = .int .i64 (i:Int)→IntKind.i64.wrap ((i:Int)+1)=(i:Int)+1→J i s' h' n'→rC P a [] s' h' n' (Jt6 P ks Q keep s ic i J))
 (hend:∀ s' h' n',(∀ j∈keep,s' j=s j)→s' ic = .int .i64 (N:Int)→J N s' h' n'→rC P a [] s' h' n' (Jvh P ks Q)):rL P a ks s h n Q:=by
 refine Jak (fun k s' h' n'=>∃ i:Nat,k=N - i∧i≤N∧(∀ j∈keep,s' j=s j)∧s' ic = .int .i64 (i:Int)∧J i s' h' n') N ⟨0,by simp,Nat.zero_le _,fun _ _=>rfl,hi0,hJ0⟩ ?_
 rintro k s' h' n' ⟨i,rfl,hi,hk,hic,hJ⟩
 unfold LIM at hN
 by_cases hlt:i<N
 ·have:=hstep i s' h' n' hlt (by omega) hk hic (J0w (by omega)) hJ
  unfold rC at this ⊢
  refine Jau this ?_
  intro e s2 h2 n2 hq
  cases e
  ·obtain ⟨q1,q2,q3⟩:=hq
   exact ⟨N - (i+1),by omega,i+1,rfl,by omega,q1,q2,q3⟩
  ·exact hq
  ·exact hq
 ·have hiN:i=N:=by omega
  subst hiN
  have:=hend s' h' n' hk hic hJ
  unfold rC at this ⊢
  refine Jau this ?_
  intro e s2 h2 n2 hq
  cases e
  ·exact hq.elim
  ·exact hq
  ·exact hq
theorem Jnu (keep:List Nat) (ic N:Nat) (J:Nat→Env→Prop) (hN:N≤LIM) (hi0:s ic = .int .i64 0) (hJ0:J 0 s)
 (hstep:∀ i s',i<N→¬N≤i→(∀ j∈keep,s' j=s j)→s' ic = .int .i64 (i:Int)→IntKind.i64.wrap ((i:Int)+1)=(i:Int)+1→J i s'→rC P a [] s' h n (Jt6 P ks Q keep s ic i fun i s' h' n'=>J i s'∧h'=h∧n'=n))
 (hend:∀ s',(∀ j∈keep,s' j=s j)→s' ic = .int .i64 (N:Int)→J N s'→rC P a [] s' h n (Jvh P ks Q)):rL P a ks s h n Q:=by
 refine Jjf keep ic N (fun i s' h' n'=>J i s'∧h'=h∧n'=n) hN hi0 ⟨hJ0,rfl,rfl⟩ ?_ ?_
 ·rintro i s' h' n' hi hg hk hic hw ⟨hJ,rfl,rfl⟩;exact hstep i s' hi hg hk hic hw hJ
 ·rintro s' h' n' hk hic ⟨hJ,rfl,rfl⟩;exact hend s' hk hic hJ
theorem J0h (keep:List Nat) (ic N:Nat) (J:Nat→Env→Heap→Nat→Prop) (hN:N≤LIM) (hi0:s ic = .int .i64 0) (hJ0:J 0 s h n)
 (hstep:∀ i s' h' n' (R:Fin),i<N→¬N≤i→(∀ j∈keep,s' j=s j)→s' ic = .int .i64 (i:Int)→IntKind.i64.wrap ((i:Int)+1)=(i:Int)+1→J i s' h' n' →
  (∀ s'' h'' n'',(∀ j∈keep,s'' j=s j)→s'' ic = .int .i64 ((i:Int)+1)→J (i+1) s'' h'' n''→R .normal s'' h'' n'') →
  (∀ s'' h'' n'',J40 P ks .ret s'' h'' n'' Q→R .ret s'' h'' n'')→(∀ x s'' h'' n'',J40 P ks (.exit x) s'' h'' n'' Q→R (.exit x) s'' h'' n'')→rC P a [] s' h' n' R)
 (hend:∀ s' h' n' (R:Fin),(∀ j∈keep,s' j=s j)→s' ic = .int .i64 (N:Int)→J N s' h' n' →
  (∀ s'' h'' n'',J40 P ks .ret s'' h'' n'' Q→R .ret s'' h'' n'')→(∀ x s'' h'' n'',J40 P ks (.exit x) s'' h'' n'' Q→R (.exit x) s'' h'' n'')→rC P a [] s' h' n' R):rL P a ks s h n Q:=by
 refine Jjf keep ic N J hN hi0 hJ0 ?_ ?_
 ·intro i s' h' n' hi hg hk hic hw hJ
  exact hstep i s' h' n' _ hi hg hk hic hw hJ (fun _ _ _ h1 h2 h3=>⟨h1,h2,h3⟩) (fun _ _ _ h=>h) (fun _ _ _ _ h=>h)
 ·intro s' h' n' hk hic hJ
  exact hend s' h' n' _ hk hic hJ (fun _ _ _ h=>h) (fun _ _ _ _ h=>h)
theorem J5e (keep:List Nat) (ic N:Nat) (J:Nat→Env→Prop) (hN:N≤LIM) (hi0:s ic = .int .i64 0) (hJ0:J 0 s)
 (hstep:∀ i s' h' (R:Fin),i<N→¬N≤i→(∀ j∈keep,s' j=s j)→s' ic = .int .i64 (i:Int)→IntKind.i64.wrap ((i:Int)+1)=(i:Int)+1→J i s'→(∀ id,h' id=h id) →
  (∀ s'',(∀ j∈keep,s'' j=s j)→s'' ic = .int .i64 ((i:Int)+1)→J (i+1) s''→R .normal s'' h' n) →
  (∀ s'' h'' n'',J40 P ks .ret s'' h'' n'' Q→R .ret s'' h'' n'')→(∀ x s'',J40 P ks (.exit x) s'' h n Q→R (.exit x) s'' h' n)→rC P a [] s' h' n R)
 (hend:∀ s' h' (R:Fin),(∀ j∈keep,s' j=s j)→s' ic = .int .i64 (N:Int)→J N s'→(∀ id,h' id=h id) →
  (∀ s'' h'' n'',J40 P ks .ret s'' h'' n'' Q→R .ret s'' h'' n'')→(∀ x s'',J40 P ks (.exit x) s'' h n Q→R (.exit x) s'' h' n)→rC P a [] s' h' n R):rL P a ks s h n Q:=by
 refine Jnu keep ic N J hN hi0 hJ0 ?_ ?_
 ·intro i s' hi hg hk hic hw hJ
  exact hstep i s' h _ hi hg hk hic hw hJ (fun _=>rfl) (fun _ h1 h2 h3=>⟨h1,h2,h3,rfl,rfl⟩) (fun _ _ _ h=>h) (fun _ _ h=>h)
 ·intro s' hk hic hJ
  exact hend s' h _ hk hic hJ (fun _=>rfl) (fun _ _ _ h=>h) (fun _ _ h=>h)
end
end Go.Proofs.YtoclolkigjbcgaaGreat
namespace Go.Proofs.YtoclolkigjbcgaaGreat
set_option linter.all false
open Go Go.RowKit
mutual
def dS:AV→Nat→AV×List Blk
 | .us sz rows,n=>(.ref n 0 rows.length,⟨true,sz,(dSr rows (n+1)).1⟩::(dSr rows (n+1)).2)
 | .agg cs,n=>(.agg (dSl cs n).1,(dSl cs n).2)
 | .tup cs,n=>(.tup (dSl cs n).1,(dSl cs n).2)
 | a,_=>(a,[])
def dSl:List AV→Nat→List AV×List Blk
 | [],_=>([],[])
 | a::as,n=>((dS a n).1::(dSl as (n+(dS a n).2.length)).1,(dS a n).2++(dSl as (n+(dS a n).2.length)).2)
def dSr:List (List AV)→Nat→List (List AV)×List Blk
 | [],_=>([],[])
 | r::rs,n=>((dSl r n).1::(dSr rs (n+(dSl r n).2.length)).1,(dSl r n).2++(dSr rs (n+(dSl r n).2.length)).2)
end
theorem Jd8:∀ (as:List AV) (n:Nat),(dSl as n).1.length=as.length
 | [],_=>rfl
 | a::as,n=>by simp [dSl,Jd8 as]
theorem J9m:∀ (rs:List (List AV)) (n:Nat),(dSr rs n).1.length=rs.length
 | [],_=>rfl
 | r::rs,n=>by simp [dSr,J9m rs]
theorem Jhh:∀ (rs:List (List AV)) (n:Nat),∀ r'∈(dSr rs n).1,∃ r∈rs,r'.length=r.length
 | [],_,r',h=>by simp [dSr] at h
 | r::rs,n,r',h=>by
  simp only [dSr,List.mem_cons] at h
  rcases h with rfl|h
  ·exact ⟨r,by simp,Jd8 r n⟩
  ·obtain ⟨x,hx,e⟩:=Jhh rs _ r' h
   exact ⟨x,by simp [hx],e⟩
mutual
def TR (h:Heap):AV→AV→List Nat→Prop
 | .us sz rows,a,I=>∃ id rows' I',a = .ref id 0 rows.length∧I=id::I'∧h id=some ⟨true,sz,rows'⟩∧TRr h rows rows' I'
 | .agg cs,a,I=>∃ cs',a = .agg cs'∧TRl h cs cs' I
 | .tup cs,a,I=>∃ cs',a = .tup cs'∧TRl h cs cs' I
 | .int k n,a,I=>a = .int k n∧I=[]
 | .bool b,a,I=>a = .bool b∧I=[]
 | .str s,a,I=>a = .str s∧I=[]
 | .nilp,a,I=>a = .nilp∧I=[]
 | _,_,_=>False
def TRl (h:Heap):List AV→List AV→List Nat→Prop
 | [],as,I=>as=[]∧I=[]
 | c::cs,as,I=>∃ a as' I1 I2,as=a::as'∧I=I1++I2∧TR h c a I1∧TRl h cs as' I2
def TRr (h:Heap):List (List AV)→List (List AV)→List Nat→Prop
 | [],rs,I=>rs=[]∧I=[]
 | r::rows,rs,I=>∃ a rs' I1 I2,rs=a::rs'∧I=I1++I2∧TRl h r a I1∧TRr h rows rs' I2
end
section
variable {h h':Heap}
mutual
theorem J91:∀ (t:AV) {a:AV}{I:List Nat},(∀ id∈I,h' id=h id)→TR h t a I→TR h' t a I
 | .us sz rows,a,I,hf,ht=>by
  simp only [TR] at ht ⊢
  obtain ⟨id,rows',I',e1,rfl,e2,e3⟩:=ht
  exact ⟨id,rows',I',e1,rfl,(hf id (by simp)).trans e2,Jc4 rows (fun id hi=>hf id (by simp [hi])) e3⟩
 | .agg cs,a,I,hf,ht=>by
  simp only [TR] at ht ⊢
  obtain ⟨cs',e1,e2⟩:=ht
  exact ⟨cs',e1,J76 cs hf e2⟩
 | .tup cs,a,I,hf,ht=>by
  simp only [TR] at ht ⊢
  obtain ⟨cs',e1,e2⟩:=ht
  exact ⟨cs',e1,J76 cs hf e2⟩
 | .int ..,_,_,_,ht | .bool _,_,_,_,ht | .str _,_,_,_,ht | .nilp,_,_,_,ht=>by simpa only [TR] using ht
 | .undef,_,_,_,ht | .nil _,_,_,_,ht | .ptr ..,_,_,_,ht | .fptr ..,_,_,_,ht | .ref ..,_,_,_,ht | .sl ..,_,_,_,ht | .fn ..,_,_,_,ht | .mp _,_,_,_,ht=>by simp only [TR] at ht
theorem J76:∀ (ts:List AV) {as:List AV}{I:List Nat},(∀ id∈I,h' id=h id)→TRl h ts as I→TRl h' ts as I
 | [],as,I,hf,ht=>by simpa only [TRl] using ht
 | t::ts,as,I,hf,ht=>by
  simp only [TRl] at ht ⊢
  obtain ⟨a,as',I1,I2,e1,rfl,e2,e3⟩:=ht
  exact ⟨a,as',I1,I2,e1,rfl,J91 t (fun id hi=>hf id (by simp [hi])) e2,J76 ts (fun id hi=>hf id (by simp [hi])) e3⟩
theorem Jc4:∀ (ts:List (List AV)) {as:List (List AV)}{I:List Nat},(∀ id∈I,h' id=h id)→TRr h ts as I→TRr h' ts as I
 | [],as,I,hf,ht=>by simpa only [TRr] using ht
 | t::ts,as,I,hf,ht=>by
  simp only [TRr] at ht ⊢
  obtain ⟨a,as',I1,I2,e1,rfl,e2,e3⟩:=ht
  exact ⟨a,as',I1,I2,e1,rfl,J76 t (fun id hi=>hf id (by simp [hi])) e2,Jc4 ts (fun id hi=>hf id (by simp [hi])) e3⟩
end
theorem J9x:∀ {ts as:List AV}{I:List Nat},TRl h ts as I→as.length=ts.length
 | [],as,I,ht=>by simp only [TRl] at ht;rw [ht.1]
 | t::ts,as,I,ht=>by
  simp only [TRl] at ht
  obtain ⟨a,as',I1,I2,rfl,_,_,e3⟩:=ht
  simp [J9x e3]
theorem Jd2:∀ {ts as:List (List AV)}{I:List Nat},TRr h ts as I→as.length=ts.length
 | [],as,I,ht=>by simp only [TRr] at ht;rw [ht.1]
 | t::ts,as,I,ht=>by
  simp only [TRr] at ht
  obtain ⟨a,as',I1,I2,rfl,_,_,e3⟩:=ht
  simp [Jd2 e3]
theorem Jhl:∀ {ts as:List (List AV)}{I:List Nat},TRr h ts as I→∀ r∈ts,∃ r'∈as,r'.length=r.length
 | [],as,I,ht,r,hr=>by simp at hr
 | t::ts,as,I,ht,r,hr=>by
  simp only [TRr] at ht
  obtain ⟨a,as',I1,I2,rfl,_,e2,e3⟩:=ht
  rcases List.mem_cons.1 hr with rfl|hr
  ·exact ⟨a,by simp,J9x e2⟩
  ·obtain ⟨r',h1,h2⟩:=Jhl e3 r hr
   exact ⟨r',by simp [h1],h2⟩
theorem Jfh:∀ {ts as:List (List AV)}{I:List Nat}{i:Nat}{t:List AV},TRr h ts as I→ts[i]? = some t →
 ∃ a I1 I2 I3,as[i]? = some a∧I=I1++(I2++I3)∧TRl h t a I2 ∧
  ∀ (h':Heap) t' a',(∀ id∈I1++I3,h' id=h id)→TRl h' t' a' I2→TRr h' (ts.set i t') (as.set i a') I
 | [],as,I,i,t,ht,hi=>by simp at hi
 | x::ts,as,I,i,t,ht,hi=>by
  simp only [TRr] at ht
  obtain ⟨a,as',J1,J2,rfl,rfl,e2,e3⟩:=ht
  cases i with
  | zero=>
   simp only [List.getElem?_cons_zero,Option.some.injEq] at hi;subst hi
   refine ⟨a,[],J1,J2,rfl,rfl,e2,?_⟩
   intro h' t' a' hf ht'
   simp only [List.set_cons_zero,TRr]
   exact ⟨a',as',J1,J2,rfl,rfl,ht',Jc4 ts (fun id hi=>hf id (by simpa using hi)) e3⟩
  | succ i=>
   simp only [List.getElem?_cons_succ] at hi
   obtain ⟨b,I1,I2,I3,g1,rfl,g3,g4⟩:=Jfh e3 hi
   refine ⟨b,J1++I1,I2,I3,by simpa using g1,by simp,g3,?_⟩
   intro h' t' a' hf ht'
   simp only [List.set_cons_succ,TRr]
   exact ⟨a,_,J1,_,rfl,rfl,J76 x (fun id hi=>hf id (by simp [hi])) e2,g4 h' t' a' (fun id hi=>hf id (by simp at hi ⊢;rcases hi with hi|hi <;> simp [hi])) ht'⟩
end
def Jqq:Loc→List Nat
 | .at b _ _=>[b]
 | .none=>[]
structure DD (w:World) (bs:List Blk) (ls:List Loc) (S:List Nat) (n:Nat):Prop where
 len:ls.length=bs.length
 S:S=(ls.map Jqq).flatten
 brel:∀ (L:Nat→Option Loc) (n':Nat),n+bs.length≤n'→(∀ (i:Nat) l,ls[i]? = some l→L (n+i)=some l)→∀ (i:Nat) B l,bs[i]? = some B→ls[i]? = some l→Jay w L n' B l []
theorem DD.nil (w:World) (n:Nat):DD w [] [] [] n:=⟨rfl,rfl,by simp⟩
theorem DD.append {w:World}{bs bs':List Blk}{ls ls':List Loc}{S S':List Nat}{n:Nat}(d:DD w bs ls S n) (d':DD w bs' ls' S' (n+bs.length)) :
 DD w (bs++bs') (ls++ls') (S++S') n:=by
 refine ⟨by simp [d.len,d'.len],by simp [d.S,d'.S],?_⟩
 intro L n' hn hL i B l hB hl
 simp only [List.length_append] at hn
 by_cases hi:i<bs.length
 ·rw [List.getElem?_append_left hi] at hB
  rw [List.getElem?_append_left (by rw [d.len];exact hi)] at hl
  refine d.brel L n' (by omega) (fun j l' hj=>hL j l' ?_) i B l hB hl
  rw [List.getElem?_append_left (List.getElem?_eq_some_iff.1 hj).1];exact hj
 ·rw [List.getElem?_append_right (by omega)] at hB
  rw [List.getElem?_append_right (by rw [d.len];omega),d.len] at hl
  refine d'.brel L n' (by omega) (fun j l' hj => ?_) _ B l hB hl
  have:=hL (bs.length+j) l' (by rw [List.getElem?_append_right (by rw [d.len];omega),d.len,Nat.add_sub_cancel_left];exact hj)
  rw [←this];congr 1;omega
section
variable {w:World}
mutual
theorem Jki:∀ (r:AV) (n:Nat) (v:Value) (S:List Nat),J16 r=true→VR w Lo 0 r v S →
 ∃ ls,DD w (dS r n).2 ls S n∧∀ (L:Nat→Option Loc) (n':Nat),n+(dS r n).2.length≤n'→(∀ (i:Nat) l,ls[i]? = some l→L (n+i)=some l)→VR w L n' (dS r n).1 v []
 | .undef,_,_,_,c,_ | .nil _,_,_,_,c,_ | .ptr ..,_,_,_,c,_ | .fptr ..,_,_,_,c,_ | .ref ..,_,_,_,c,_ | .sl ..,_,_,_,c,_ | .fn ..,_,_,_,c,_ | .mp ..,_,_,_,c,_=>by simp [J16] at c
 | .int ..,n,v,S,c,h=>by
  simp only [VR] at h;obtain ⟨rfl,rfl⟩:=h
  exact ⟨[],DD.nil w n,fun L n' _ _=>by simp [dS,VR]⟩
 | .bool _,n,v,S,c,h=>by
  simp only [VR] at h;obtain ⟨rfl,rfl⟩:=h
  exact ⟨[],DD.nil w n,fun L n' _ _=>by simp [dS,VR]⟩
 | .str _,n,v,S,c,h=>by
  simp only [VR] at h;obtain ⟨h1,rfl⟩:=h
  exact ⟨[],DD.nil w n,fun L n' _ _=>by simp only [dS,VR];exact ⟨h1,trivial⟩⟩
 | .nilp,n,v,S,c,h=>by
  simp only [VR] at h;obtain ⟨rfl,rfl⟩:=h
  exact ⟨[],DD.nil w n,fun L n' _ _=>by simp [dS,VR]⟩
 | .us sz rows,n,v,S,c,h=>by
  simp only [VR,J16] at h c
  obtain ⟨hl,h⟩:=h
  rcases h with ⟨rfl,rfl,rfl⟩|⟨b,cap,cur,t,vals,rest,S',rfl,rfl,ho,hb,h1,h2,h3,h4,h5,h6,h6',h7⟩
  ·refine ⟨[.none],⟨rfl,rfl,?_⟩,?_⟩
   ·intro L n' hn hL i B l g1 g2
    cases i with
    | zero=>simp only [dS,dSr,List.getElem?_cons_zero,Option.some.injEq] at g1 g2;subst g1 g2;exact ⟨rfl,rfl⟩
    | succ i=>simp [dS,dSr] at g1
   ·intro L n' hn hL
    have hL0:L n=some .none:=hL 0 _ rfl
    simp only [dS,VR]
    refine ⟨⟨by simp [dS] at hn;omega,rfl,?_⟩,trivial⟩
    intro l hl'
    rw [hL0] at hl';cases hl'
    exact ⟨Nat.zero_le _,rfl,rfl,rfl⟩
  ·obtain ⟨ls,d,k⟩:=Jhv rows (n+1) vals S' c h7
   refine ⟨.at b sz cap::ls,⟨by simp [dS,d.len],by simp [Jqq,d.S],?_⟩,?_⟩
   ·intro L n' hn hL i B l g1 g2
    simp only [dS,List.length_cons] at hn
    have hL':∀ (i:Nat) l,ls[i]? = some l→L (n+1+i)=some l:=fun i l hi=>by
     have:=hL (i+1) l (by simpa using hi)
     rw [←this];congr 1;omega
    cases i with
    | zero=>
     simp only [dS,List.getElem?_cons_zero,Option.some.injEq] at g1 g2;subst g1 g2
     refine Jay.of ⟨rfl,fun _=>rfl,cur,t,vals,rest,hb,h1,h2,h3,h5,by rw [J9m];exact h4,by rw [J9m];exact hl,?_,h6',?_⟩
     ·intro r hr
      obtain ⟨x,hx,e⟩:=Jhh _ _ r hr
      rw [e];exact h6 x hx
     ·simp only [if_true]
      exact k L n' (by omega) hL'
    | succ i=>
     simp only [dS,List.getElem?_cons_succ] at g1 g2
     exact d.brel L n' (by omega) hL' i B l g1 g2
   ·intro L n' hn hL
    have hL0:L n=some (.at b sz cap):=hL 0 _ rfl
    simp only [dS,VR]
    refine ⟨⟨by simp [dS] at hn;omega,rfl,?_⟩,trivial⟩
    intro l hl'
    rw [hL0] at hl';cases hl'
    exact ⟨hl,some ⟨b,0,Option.none⟩,by simp,by simp,by omega⟩
 | .agg cs,n,v,S,c,h=>by
  simp only [VR,J16] at h c
  obtain ⟨vs,rfl,h⟩:=h
  obtain ⟨ls,h1,h2⟩:=Jas cs n _ _ c h
  exact ⟨ls,h1,fun L n' hn hL=>by simp only [dS,VR];exact ⟨vs,rfl,h2 L n' hn hL⟩⟩
 | .tup cs,n,v,S,c,h=>by
  simp only [VR,J16] at h c
  obtain ⟨vs,rfl,h⟩:=h
  obtain ⟨ls,h1,h2⟩:=Jas cs n _ _ c h
  exact ⟨ls,h1,fun L n' hn hL=>by simp only [dS,VR];exact ⟨vs,rfl,h2 L n' hn hL⟩⟩
theorem Jas:∀ (rs:List AV) (n:Nat) (vs:List Value) (S:List Nat),J25 rs=true→VRl w Lo 0 rs vs S →
 ∃ ls,DD w (dSl rs n).2 ls S n∧∀ (L:Nat→Option Loc) (n':Nat),n+(dSl rs n).2.length≤n'→(∀ (i:Nat) l,ls[i]? = some l→L (n+i)=some l)→VRl w L n' (dSl rs n).1 vs []
 | [],n,vs,S,c,h=>by
  simp only [VRl] at h;obtain ⟨rfl,rfl⟩:=h
  exact ⟨[],DD.nil w n,fun L n' _ _=>by simp [dSl,VRl]⟩
 | a::as,n,vs,S,c,h=>by
  simp only [J25,Bool.and_eq_true] at c
  simp only [VRl] at h
  obtain ⟨v,vs',S1,S2,rfl,rfl,h1,h2⟩:=h
  obtain ⟨l1,d1,k1⟩:=Jki a n v S1 c.1 h1
  obtain ⟨l2,d2,k2⟩:=Jas as (n+(dS a n).2.length) vs' S2 c.2 h2
  refine ⟨l1++l2,d1.append d2,?_⟩
  intro L n' hn hL
  simp only [dSl,List.length_append] at hn
  simp only [dSl]
  refine J0g.2 ⟨v,vs',rfl,k1 L n' (by omega) ?_,k2 L n' (by omega) ?_⟩
  ·intro i p hp
   refine hL i p ?_
   rw [List.getElem?_append_left (List.getElem?_eq_some_iff.1 hp).1];exact hp
  ·intro i p hp
   have:=hL ((dS a n).2.length+i) p (by rw [←d1.len,List.getElem?_append_right (by omega),Nat.add_sub_cancel_left];exact hp)
   rw [←this];congr 1;omega
theorem Jhv:∀ (rs:List (List AV)) (n:Nat) (vs:List Value) (S:List Nat),J2q rs=true→VRr w Lo 0 rs vs S →
 ∃ ls,DD w (dSr rs n).2 ls S n∧∀ (L:Nat→Option Loc) (n':Nat),n+(dSr rs n).2.length≤n'→(∀ (i:Nat) l,ls[i]? = some l→L (n+i)=some l)→VRr w L n' (dSr rs n).1 vs []
 | [],n,vs,S,c,h=>by
  simp only [VRr] at h;obtain ⟨rfl,rfl⟩:=h
  exact ⟨[],DD.nil w n,fun L n' _ _=>by simp [dSr,VRr]⟩
 | a::as,n,vs,S,c,h=>by
  simp only [J2q,Bool.and_eq_true] at c
  simp only [VRr] at h
  obtain ⟨v,vs',S1,S2,rfl,rfl,h1,h2⟩:=h
  obtain ⟨l1,d1,k1⟩:=Jas a n v S1 c.1 h1
  obtain ⟨l2,d2,k2⟩:=Jhv as (n+(dSl a n).2.length) vs' S2 c.2 h2
  refine ⟨l1++l2,d1.append d2,?_⟩
  intro L n' hn hL
  simp only [dSr,List.length_append] at hn
  simp only [dSr,VRr]
  refine ⟨v,vs',[],[],rfl,rfl,k1 L n' (by omega) ?_,k2 L n' (by omega) ?_⟩
  ·intro i p hp
   refine hL i p ?_
   rw [List.getElem?_append_left (List.getElem?_eq_some_iff.1 hp).1];exact hp
  ·intro i p hp
   have:=hL ((dSl a n).2.length+i) p (by rw [←d1.len,List.getElem?_append_right (by omega),Nat.add_sub_cancel_left];exact hp)
   rw [←this];congr 1;omega
end
end
def Jle (h:Heap) (n:Nat) (bs:List Blk):Heap:=fun id=>if n≤id then (match bs[id - n]? with|some B=>some B|Option.none=>h id) else h id
theorem HRel.takeD {base:Nat}{w0 w1 w:World}{L:Nat→Option Loc}{N:Nat}{F:Nat→List Nat}{h:Heap}{r:AV}{v:Value}{S:List Nat}
 (H:HRel base w0 w1 L N F [] h) (hb:Below w1.heap.size w1 w) (hc:J16 r=true) (hv:VR w Lo 0 r v S) (hn:S.Nodup) (hS:∀ b∈S,w1.heap.size≤b∧b<w.heap.size) :
 ∃ L' F',HRel base w0 w L' (N+(dS r N).2.length) F' [] (Jle h N (dS r N).2)∧VR w L' (N+(dS r N).2.length) (dS r N).1 v []∧Ext w1 L N w L' (N+(dS r N).2.length):=by
 obtain ⟨ls,d,k⟩:=Jki r N v S hc hv
 generalize hbs:(dS r N).2=bs at *
 let L':Nat→Option Loc:=fun id=>if N≤id then (match ls[id - N]? with|some p=>some p|Option.none=>L id) else L id
 let F':Nat→List Nat:=fun id=>if N≤id then [] else F id
 have hLN:∀ id,N≤id→L id=Option.none:=fun id hid=>by
  cases hl:L id with
  | none=>rfl
  | some l=>exact absurd (H.lt id l hl) (by omega)
 have Lold:∀ id,id<N→L' id=L id:=fun id hid=>by show (if N≤id then _ else _)=_;rw [if_neg (by omega)]
 have Fold:∀ id,id<N→F' id=F id:=fun id hid=>by show (if N≤id then _ else _)=_;rw [if_neg (by omega)]
 have Lnew:∀ (i:Nat) p,ls[i]? = some p→L' (N+i)=some p:=fun i p hp=>by
  show (if N≤N+i then _ else _)=_;rw [if_pos (by omega),Nat.add_sub_cancel_left,hp]
 have Fcase:∀ id b,b∈F' id→id<N∧b∈F id:=fun id b hm=>by
  by_cases hid:N≤id
  ·have:F' id=[]:=by show (if N≤id then _ else _)=_;rw [if_pos hid]
   rw [this] at hm;cases hm
  ·rw [Fold id (by omega)] at hm;exact ⟨by omega,hm⟩
 have Lcase:∀ id l,L' id=some l→(id<N∧L id=some l)∨∃ i:Nat,id=N+i∧ls[i]? = some l:=fun id l hl=>by
  by_cases hid:N≤id
  ·cases hp:ls[id - N]? with
   | none=>
    have:L' id=L id:=by show (if N≤id then _ else _)=_;rw [if_pos hid,hp]
    rw [this,hLN id hid] at hl;cases hl
   | some p=>
    right
    have:=Lnew (id - N) p hp
    rw [show N+(id - N)=id by omega] at this
    rw [this] at hl;cases hl
    exact ⟨id - N,by omega,hp⟩
  ·left;rw [Lold id (by omega)] at hl;exact ⟨by omega,hl⟩
 have hnd:(ls.map Jqq).flatten.Nodup:=d.S ▸ hn
 have hatb:∀ (i b sz cap:Nat),ls[i]? = some (Loc.at b sz cap)→b∈S:=fun i b sz cap hp=>by
  rw [d.S];exact List.mem_flatten.2 ⟨Jqq (.at b sz cap),List.mem_map.2 ⟨_,List.mem_of_getElem? hp,rfl⟩,by simp [Jqq]⟩
 have ownL':∀ b,Own L' b→Own L b∨b∈S:=by
  rintro b ⟨id,sz,cap,hid⟩
  rcases Lcase id _ hid with ⟨_,hl⟩|⟨i,rfl,hp⟩
  ·exact .inl ⟨id,sz,cap,hl⟩
  ·exact .inr (hatb i b sz cap hp)
 have e:Ext w1 L N w L' (N+bs.length):=by
  refine ⟨by omega,?_,hb.size,?_⟩
  ·intro id l hid hl;rw [Lold id hid] at hl;exact hl
  ·intro b hlt ho
   refine ⟨hb.block b hlt,fun h' => ?_⟩
   rcases ownL' b h' with h'|h'
   ·exact ho h'
   ·have:=(hS b h').1;omega
 have hlen:=d.len
 refine ⟨L',F',⟨H.below.trans (hb.mono H.bsz),Nat.le_trans H.bsz hb.size,?_,?_,?_,?_,?_,?_,?_,by simp,?_,List.nodup_nil,?_,by simp⟩,k L' _ (Nat.le_refl _) Lnew,e⟩
 ·intro id hid
  unfold Jle at hid
  by_cases hN:N≤id
  ·rw [if_pos hN] at hid
   cases hr:bs[id - N]? with
   | none=>
    rw [hr] at hid
    have hls:ls[id - N]? = Option.none:=by rw [List.getElem?_eq_none_iff] at hr ⊢;omega
    show (if N≤id then _ else _)=_
    rw [if_pos hN,hls];exact hLN id hN
   | some r'=>rw [hr] at hid;cases hid
  ·rw [if_neg hN] at hid
   rw [Lold id (by omega)];exact H.dom id hid
 ·intro id hid
  unfold Jle
  by_cases hN:N≤id
  ·rw [if_pos hN]
   cases hr:bs[id - N]? with
   | none=>exact H.mod id (hLN id hN)
   | some r'=>
    have:id - N<ls.length:=by rw [hlen];exact (List.getElem?_eq_some_iff.1 hr).1
    have:=Lnew (id - N) _ (List.getElem?_eq_getElem this)
    rw [show N+(id - N)=id by omega,hid] at this;cases this
  ·rw [if_neg hN];rw [Lold id (by omega)] at hid;exact H.mod id hid
 ·intro id l hl
  rcases Lcase id l hl with ⟨h1,_⟩|⟨i,rfl,hp⟩
  ·omega
  ·have:=(List.getElem?_eq_some_iff.1 hp).1;omega
 ·intro id id' b sz cap sz' cap' h1 h2
  rcases Lcase id _ h1 with ⟨_,h1⟩|⟨i,rfl,hp⟩
  ·rcases Lcase id' _ h2 with ⟨_,h2⟩|⟨i',rfl,hp'⟩
   ·exact H.inj id id' b _ _ _ _ h1 h2
   ·have g1:=H.own_lt ⟨id,sz,cap,h1⟩
    have g2:=(hS b (hatb i' b sz' cap' hp')).1
    omega
  ·rcases Lcase id' _ h2 with ⟨_,h2⟩|⟨i',rfl,hp'⟩
   ·have g1:=H.own_lt ⟨id',sz',cap',h2⟩
    have g2:=(hS b (hatb i b sz cap hp)).1
    omega
   ·rw [J3p hnd i i' b _ _ (by rw [List.getElem?_map,hp];rfl) (by rw [List.getElem?_map,hp'];rfl) (by simp [Jqq]) (by simp [Jqq])]
 ·intro b ho
  rcases ownL' b ho with h'|h'
  ·exact H.lo b h'
  ·exact Nat.le_trans H.bsz (hS b h').1
 ·intro id B l h1 h2
  rcases Lcase id l h2 with ⟨hid,hl⟩|⟨i,rfl,hp⟩
  ·unfold Jle at h1
   rw [if_neg (by omega)] at h1
   rw [Fold id hid]
   exact (H.blk id B l h1 hl).ext e fun b sz cap hl'=>hb.block b (H.own_lt ⟨id,sz,cap,hl' ▸ hl⟩)
  ·have hF:F' (N+i)=[]:=by show (if N≤N+i then _ else _)=_;rw [if_pos (by omega)]
   rw [hF]
   unfold Jle at h1
   rw [if_pos (by omega),Nat.add_sub_cancel_left] at h1
   have hi:i<bs.length:=by have:=(List.getElem?_eq_some_iff.1 hp).1;omega
   rw [List.getElem?_eq_getElem hi] at h1
   simp only [Option.some.injEq] at h1
   subst h1
   exact d.brel L' _ (Nat.le_refl _) Lnew i _ l (List.getElem?_eq_getElem hi) hp
 ·intro id b hm
  obtain ⟨_,h1⟩:=Fcase id b hm
  obtain ⟨g1,g2,g3⟩:=H.fp id b h1
  exact ⟨(e.block b g3 g1).2,g2,Nat.lt_of_lt_of_le g3 hb.size⟩
 ·intro id
  by_cases hid:N≤id
  ·have:F' id=[]:=by show (if N≤id then _ else _)=_;rw [if_pos hid]
   rw [this];exact List.nodup_nil
  ·rw [Fold id (by omega)];exact H.nd id
 ·intro id id' b h1 h2
  exact H.dj id id' b (Fcase id b h1).2 (Fcase id' b h2).2
section
variable {h:Heap}
mutual
theorem Ju2:∀ (r:AV) (n:Nat),J16 r=true→(∀ (i:Nat) B,(dS r n).2[i]? = some B→h (n+i)=some B)→TR h r (dS r n).1 (List.range' n (dS r n).2.length)
 | .undef,_,c,_ | .nil _,_,c,_ | .ptr ..,_,c,_ | .fptr ..,_,c,_ | .ref ..,_,c,_ | .sl ..,_,c,_ | .fn ..,_,c,_ | .mp ..,_,c,_=>by simp [J16] at c
 | .int ..,n,c,hh | .bool _,n,c,hh | .str _,n,c,hh | .nilp,n,c,hh=>by simp [dS,TR]
 | .us sz rows,n,c,hh=>by
  simp only [J16] at c
  simp only [dS,TR,List.length_cons]
  refine ⟨n,(dSr rows (n+1)).1,List.range' (n+1) (dSr rows (n+1)).2.length,rfl,by rw [List.range'_succ],by simpa using hh 0 _ (by simp [dS]),Jo4 rows (n+1) c ?_⟩
  intro i B hB
  have:=hh (i+1) B (by simpa [dS] using hB)
  rw [←this];congr 1;omega
 | .agg cs,n,c,hh=>by
  simp only [J16] at c
  simp only [dS,TR]
  exact ⟨_,rfl,Jhd cs n c (by simpa only [dS] using hh)⟩
 | .tup cs,n,c,hh=>by
  simp only [J16] at c
  simp only [dS,TR]
  exact ⟨_,rfl,Jhd cs n c (by simpa only [dS] using hh)⟩
theorem Jhd:∀ (rs:List AV) (n:Nat),J25 rs=true→(∀ (i:Nat) B,(dSl rs n).2[i]? = some B→h (n+i)=some B)→TRl h rs (dSl rs n).1 (List.range' n (dSl rs n).2.length)
 | [],n,c,hh=>by simp [dSl,TRl]
 | a::as,n,c,hh=>by
  simp only [J25,Bool.and_eq_true] at c
  simp only [dSl,TRl]
  refine ⟨_,_,List.range' n (dS a n).2.length,List.range' (n+(dS a n).2.length) (dSl as (n+(dS a n).2.length)).2.length,rfl,?_,Ju2 a n c.1 ?_,Jhd as _ c.2 ?_⟩
  ·rw [List.length_append,List.range'_append_1]
  ·intro i B hB
   refine hh i B ?_
   simp only [dSl]
   rw [List.getElem?_append_left (List.getElem?_eq_some_iff.1 hB).1];exact hB
  ·intro i B hB
   have:=hh ((dS a n).2.length+i) B (by simp only [dSl];rw [List.getElem?_append_right (by omega),Nat.add_sub_cancel_left];exact hB)
   rw [←this];congr 1;omega
theorem Jo4:∀ (rs:List (List AV)) (n:Nat),J2q rs=true→(∀ (i:Nat) B,(dSr rs n).2[i]? = some B→h (n+i)=some B)→TRr h rs (dSr rs n).1 (List.range' n (dSr rs n).2.length)
 | [],n,c,hh=>by simp [dSr,TRr]
 | a::as,n,c,hh=>by
  simp only [J2q,Bool.and_eq_true] at c
  simp only [dSr,TRr]
  refine ⟨_,_,List.range' n (dSl a n).2.length,List.range' (n+(dSl a n).2.length) (dSr as (n+(dSl a n).2.length)).2.length,rfl,?_,Jhd a n c.1 ?_,Jo4 as _ c.2 ?_⟩
  ·rw [List.length_append,List.range'_append_1]
  ·intro i B hB
   refine hh i B ?_
   simp only [dSr]
   rw [List.getElem?_append_left (List.getElem?_eq_some_iff.1 hB).1];exact hB
  ·intro i B hB
   have:=hh ((dSl a n).2.length+i) B (by simp only [dSr];rw [List.getElem?_append_right (by omega),Nat.add_sub_cancel_left];exact hB)
   rw [←this];congr 1;omega
end
end
section
variable {base:Nat}{w0 w:World}{L:Nat→Option Loc}{N:Nat}{F:Nat→List Nat}{E:List Nat}{h:Heap}
mutual
theorem Jja (H:HRel base w0 w L N F E h):∀ (t:AV) {a:AV}{I:List Nat}{v:Value}{M:Nat},TR h t a I→VR w L M a v []→VR w Lo 0 (dr t) v []
 | .undef,_,_,_,_,ht,_ | .nil _,_,_,_,_,ht,_ | .ptr ..,_,_,_,_,ht,_ | .fptr ..,_,_,_,_,ht,_ | .ref ..,_,_,_,_,ht,_ | .sl ..,_,_,_,_,ht,_ | .fn ..,_,_,_,_,ht,_ | .mp _,_,_,_,_,ht,_=>by simp only [TR] at ht
 | .int ..,a,I,v,M,ht,hv=>by simp only [TR] at ht;obtain ⟨rfl,_⟩:=ht;simpa only [VR,dr] using hv
 | .bool _,a,I,v,M,ht,hv=>by simp only [TR] at ht;obtain ⟨rfl,_⟩:=ht;simpa only [VR,dr] using hv
 | .str _,a,I,v,M,ht,hv=>by simp only [TR] at ht;obtain ⟨rfl,_⟩:=ht;simpa only [VR,dr] using hv
 | .nilp,a,I,v,M,ht,hv=>by simp only [TR] at ht;obtain ⟨rfl,_⟩:=ht;simpa only [VR,dr] using hv
 | .agg cs,a,I,v,M,ht,hv=>by
  simp only [TR] at ht;obtain ⟨cs',rfl,ht⟩:=ht
  simp only [VR,dr] at hv ⊢
  obtain ⟨vs,rfl,hv⟩:=hv
  exact ⟨vs,rfl,Jat H cs ht hv⟩
 | .tup cs,a,I,v,M,ht,hv=>by
  simp only [TR] at ht;obtain ⟨cs',rfl,ht⟩:=ht
  simp only [VR,dr] at hv ⊢
  obtain ⟨vs,rfl,hv⟩:=hv
  exact ⟨vs,rfl,Jat H cs ht hv⟩
 | .us sz rows,a,I,v,M,ht,hv=>by
  simp only [TR] at ht
  obtain ⟨id,rows',I',rfl,rfl,hB,hR⟩:=ht
  have hlr:=Jd2 hR
  have hlenT:(drr rows).length=rows.length:=by rw [J48];simp
  cases hl:L id with
  | none=>rw [H.mod id hl] at hB;cases hB
  | some l=>
   simp only [VR] at hv
   have hr:=hv.1.2.2 l hl
   have hbr:=H.blk id _ l hB hl
   cases l with
   | none=>
    obtain ⟨hrows,_⟩:=hbr
    simp only at hrows
    obtain ⟨_,_,hl0,rfl⟩:=hr
    have hr0:rows=[]:=List.eq_nil_of_length_eq_zero hl0
    subst hr0
    simp only [VR,dr,drr]
    exact ⟨⟨_,_,[],rfl,⟨Nat.zero_le _,Nat.le_refl _⟩,⟨rfl,rfl⟩,.inl trivial⟩,trivial⟩
   | «at» b sz' cap=>
    obtain ⟨hlim,A,rfl,hA,hcap⟩:=hr
    obtain ⟨rfl,hF,cur,t,vals,rest,h1,h2,h3,h4,h5,h6,h7,h8,h9,h10⟩:=hbr.cells hcap.2
    simp only [if_true] at h10
    rw [hF rfl] at h10
    have g:=Jhg H rows hR h10
    simp only [VR,dr,hlenT]
    refine ⟨⟨A,_,vals,rfl,⟨hlim,by omega⟩,g,?_⟩,trivial⟩
    right
    refine ⟨b,0,by simpa using hA (.inr rfl),J2e b,J1k h1,?_,?_,h9⟩
    ·intro r hr
     rw [J48] at hr
     obtain ⟨r',hr',rfl⟩:=List.mem_map.1 hr
     rw [J9h,List.length_map]
     obtain ⟨x,hx,e⟩:=Jhl hR r' hr'
     rw [←e];exact h8 x hx
    ·exact J3d (pre:=[]) (vals:=vals) (rest:=rest) h1 (by rw [h2];simp)
theorem Jat (H:HRel base w0 w L N F E h):∀ (ts:List AV) {as:List AV}{I:List Nat}{vs:List Value}{M:Nat},TRl h ts as I→VRl w L M as vs []→VRl w Lo 0 (drl ts) vs []
 | [],as,I,vs,M,ht,hv=>by
  simp only [TRl] at ht;obtain ⟨rfl,_⟩:=ht
  simpa only [VRl,drl] using hv
 | t::ts,as,I,vs,M,ht,hv=>by
  simp only [TRl] at ht;obtain ⟨a,as',I1,I2,rfl,_,h1,h2⟩:=ht
  obtain ⟨v,vs',rfl,g1,g2⟩:=J0g.1 hv
  simp only [drl]
  exact J0g.2 ⟨v,vs',rfl,Jja H t h1 g1,Jat H ts h2 g2⟩
theorem Jhg (H:HRel base w0 w L N F E h):∀ (ts:List (List AV)) {as:List (List AV)}{I:List Nat}{vs:List Value}{M:Nat},TRr h ts as I→VRr w L M as vs []→VRr w Lo 0 (drr ts) vs []
 | [],as,I,vs,M,ht,hv=>by
  simp only [TRr] at ht;obtain ⟨rfl,_⟩:=ht
  simpa only [VRr,drr] using hv
 | t::ts,as,I,vs,M,ht,hv=>by
  simp only [TRr] at ht;obtain ⟨a,as',I1,I2,rfl,_,h1,h2⟩:=ht
  simp only [VRr] at hv
  obtain ⟨v1,v2,S1,S2,rfl,hS,g1,g2⟩:=hv
  obtain ⟨rfl,rfl⟩:=List.append_eq_nil_iff.1 hS.symm
  simp only [drr,VRr]
  exact ⟨v1,v2,[],[],rfl,rfl,Jat H t h1 g1,Jhg H ts h2 g2⟩
end
end
def Lent (h:Heap) (a t:AV):Prop:=bw a h=some t∨∃ t' I,TR h t' a I∧dr t'=t
def Jj6 (h:Heap):List AV→List AV→Prop
 | [],[]=>True
 | a::as,t::ts=>Lent h a t∧Jj6 h as ts
 | _,_=>False
theorem J8a {base:Nat}{w0 w:World}{L:Nat→Option Loc}{N:Nat}{F:Nat→List Nat}{E:List Nat}{h:Heap}(H:HRel base w0 w L N F E h) :
 ∀ {as ts:List AV}{vs:List Value},Jj6 h as ts→VRl w L N as vs []→VRl w Lo 0 ts vs []
 | [],[],vs,_,hv=>by simpa only [VRl] using hv
 | a::as,t::ts,vs,hl,hv=>by
  obtain ⟨v,vs',rfl,g1,g2⟩:=J0g.1 hv
  refine J0g.2 ⟨v,vs',rfl,?_,J8a H hl.2 g2⟩
  rcases hl.1 with hb|⟨t',I,ht,rfl⟩
  ·exact Ji8 H a g1 hb
  ·exact Jja H t' ht g1
 | [],_::_,_,hl,_=>hl.elim
 | _::_,[],_,hl,_=>hl.elim
section
variable {P:Program}
theorem J88 {f:FuncId}{as as':List AV}{h:Heap}{n:Nat}{Q:AV→Prop}{K:AV→Heap→Nat→Prop}(hh:Holds P f as' Q) (hb:Jj6 h as as')
 (hK:∀ r a h' n' I,Q r→TR h' r a I→I.Nodup→(∀ id∈I,n≤id∧id<n')→n≤n'→(∀ id,id<n→h' id=h id)→K a h' n'):J1u P f as h n fun r h' n'=>J65 h h'∧K r h' n':=by
 refine ⟨hh.1,fun base w0 w L F vs H hv => ?_⟩
 refine (hh.2 w vs (J8a H hb hv)).mono ?_
 rintro e w' ⟨v,r,S,rfl,hq,hcl,hbel,hr,hnd,hS⟩
 obtain ⟨L',F',g1,g2,g3⟩:=H.takeD hbel hcl hr hnd hS
 have hold:∀ id,id<n→Jle h n (dS r n).2 id=h id:=fun id hid=>by unfold Jle;rw [if_neg (by omega)]
 refine ⟨v,_,L',_,F',_,rfl,g1,g3,g2,fun id B hB => ?_,hK r _ _ _ (List.range' n (dS r n).2.length) hq (Ju2 r n hcl ?_) List.nodup_range' (fun id hid=>by simpa using hid) (by omega) hold⟩
 ·have hlt:id<n:=by
   cases hl:L id with
   | none=>rw [H.mod id hl] at hB;cases hB
   | some l=>exact H.lt id l hl
  rw [hold id hlt];exact hB
 ·intro i B hB
  unfold Jle
  rw [if_pos (by omega),Nat.add_sub_cancel_left,hB]
def J8d (P:Program) (f:FuncId) (t:AV) (k:Int) (t':AV) (k':Int):Prop:=
 ∀ (h:Heap) (n:Nat) (a:AV) (I:List Nat) (K:AV→Heap→Nat→Prop),TR h t a I→I.Nodup→(∀ id∈I,id<n) →
  (∀ h' n',n≤n'→(∀ id,id<n→id∉I→h' id=h id)→TR h' t' a I→K (i64 k') h' n')→J1u P f [a,i64 k] h n K
end
open Go Go.RowKit
abbrev Tree:=AV×AV×List Nat
def J9k (h:Heap) (n:Nat):List Tree→Prop
 | []=>True
 | x::T=>TR h x.1 x.2.1 x.2.2∧x.2.2.Nodup∧(∀ id∈x.2.2,id<n)∧(∀ y∈T,∀ id∈x.2.2,id∉y.2.2)∧J9k h n T
section
variable {h h':Heap}{n n':Nat}
theorem J9k.ids:∀ {T:List Tree},J9k h n T→∀ x∈T,TR h x.1 x.2.1 x.2.2∧x.2.2.Nodup∧∀ id∈x.2.2,id<n
 | y::T,hL,x,hx=>by
  obtain ⟨h1,h2,h3,_,h5⟩:=hL
  rcases List.mem_cons.1 hx with rfl|hx
  ·exact ⟨h1,h2,h3⟩
  ·exact J9k.ids h5 x hx
theorem J9k.up:∀ {T:List Tree},J9k h n T→n≤n'→(∀ id,id<n→h' id=h id)→J9k h' n' T
 | [],_,_,_=>trivial
 | x::T,⟨h1,h2,h3,h4,h5⟩,hn,hh=>⟨J91 x.1 (fun id hi=>hh id (h3 id hi)) h1,h2,fun id hi=>Nat.lt_of_lt_of_le (h3 id hi) hn,h4,J9k.up h5 hn hh⟩
theorem J9k.turn {t t' a:AV}{I:List Nat}{T2:List Tree} : ∀ {T1:List Tree},J9k h n (T1++(t,a,I)::T2)→n≤n'→(∀ id,id<n→id∉I→h' id=h id)→TR h' t' a I→J9k h' n' (T1++(t',a,I)::T2)
 | [],⟨h1,h2,h3,h4,h5⟩,hn,hh,ht=>by
  refine ⟨ht,h2,fun id hi=>Nat.lt_of_lt_of_le (h3 id hi) hn,h4,?_⟩
  have:∀ (T:List Tree),(∀ y∈T,∀ id∈I,id∉y.2.2)→J9k h n T→J9k h' n' T:=by
   intro T
   induction T with
   | nil=>intros;trivial
   | cons y T ih=>
    rintro hd ⟨g1,g2,g3,g4,g5⟩
    exact ⟨J91 y.1 (fun id hi=>hh id (g3 id hi) fun hI=>hd y (by simp) id hI hi) g1,g2,fun id hi=>Nat.lt_of_lt_of_le (g3 id hi) hn,g4,ih (fun z hz=>hd z (by simp [hz])) g5⟩
  exact this T2 h4 h5
 | x::T1,⟨h1,h2,h3,h4,h5⟩,hn,hh,ht=>by
  have hx:∀ id∈x.2.2,id∉I:=h4 (t,a,I) (by simp)
  refine ⟨J91 x.1 (fun id hi=>hh id (h3 id hi) (hx id hi)) h1,h2,fun id hi=>Nat.lt_of_lt_of_le (h3 id hi) hn,?_,J9k.turn h5 hn hh ht⟩
  intro y hy
  rcases List.mem_append.1 hy with hy|hy
  ·exact h4 y (by simp [hy])
  ·rcases List.mem_cons.1 hy with rfl|hy
   ·exact hx
   ·exact h4 y (by simp [hy])
def Jxo (T:List Tree) (a t:AV):Prop:=(∀ h,bw a h=some t)∨∃ x∈T,x.2.1=a∧dr x.1=t
def J5n (T:List Tree):List AV→List AV→Prop
 | [],[]=>True
 | a::as,t::ts=>Jxo T a t∧J5n T as ts
 | _,_=>False
theorem J5n.ok {T:List Tree}(hL:J9k h n T):∀ {as ts:List AV},J5n T as ts→Jj6 h as ts
 | [],[],_=>trivial
 | a::as,t::ts,⟨h1,h2⟩=>by
  refine ⟨?_,J5n.ok hL h2⟩
  rcases h1 with h1|⟨x,hx,rfl,rfl⟩
  ·exact .inl (h1 h)
  ·exact .inr ⟨x.1,x.2.2,(hL.ids x hx).1,rfl⟩
 | [],_::_,hl=>hl.elim
 | _::_,[],hl=>hl.elim
variable {P:Program}{f:FuncId}{as as':List AV}{T:List Tree}{K:AV→Heap→Nat→Prop}
theorem Jq7 {c:AV}{n:Nat}(hc:Jex c=true):dS c n=(c,[]):=by
 unfold Jex at hc
 split at hc
 ·rfl
 ·rfl
 ·rfl
 ·simp [dS,dSl]
 ·cases hc
theorem Jlv (h:Heap) (n:Nat):Jle h n []=h:=by funext id;unfold Jle;split <;> simp
theorem Jc5 {c:AV}(hh:Holds P f as' (fun r=>r=c)) (hc:Jex c=true) (hb:Jj6 h as as') (hk:K c h n):J1u P f as h n fun r h' n'=>J65 h h'∧K r h' n':=by
 refine ⟨hh.1,fun base w0 w L F vs H hv => ?_⟩
 refine (hh.2 w vs (J8a H hb hv)).mono ?_
 rintro e w' ⟨v,r,S,rfl,rfl,hcl,hbel,hr,hnd,hS⟩
 obtain ⟨L',F',g1,g2,g3⟩:=H.takeD hbel hcl hr hnd hS
 rw [Jq7 hc] at g1 g2 g3
 simp only [Jlv,List.length_nil,Nat.add_zero] at g1 g2 g3
 exact ⟨v,_,L',_,F',_,rfl,g1,g3,g2,J65.refl _,hk⟩
theorem Jjr {c:AV}(hh:Holds P f as' (fun r=>r=c)) (hL:J9k h n T) (hc:Jex c=true) (hb:J5n T as as') (hk:K c h n):J1u P f as h n K:=
 J1u.mono (Jc5 hh hc (hb.ok hL) hk) fun _ _ _ h=>h.2
theorem Jig {c:AV}(hh:Holds P f as' (fun r=>r=c)) (hL:J9k h n T) (hc:Jex c=true) (hb:J5n T as as') (hk:K c h n):J1u P f as h n (hK h K):=Jc5 hh hc (hb.ok hL) hk
theorem Jrm {t:AV}(hh:Holds P f as' (fun r=>r=t)) (hL:J9k h n T) (hb:J5n T as as')
 (hk:∀ a h' n' I,J9k h' n' ((t,a,I)::T)→n≤n'→(∀ id,id<n→h' id=h id)→TR h' t a I→K a h' n'):J1u P f as h n fun r h' n'=>J65 h h'∧K r h' n':=
 J88 hh (hb.ok hL) fun r a h' n' I hr h1 h2 h3 h4 h5=>by
  subst hr
  refine hk a h' n' I ⟨h1,h2,fun id hi=>(h3 id hi).2,?_,hL.up h4 h5⟩ h4 h5 h1
  intro y hy id hi hi'
  have:=(hL.ids y hy).2.2 id hi'
  have:=(h3 id hi).1
  omega
theorem Jfy {t t' a:AV}{k k':Int}{I:List Nat}{T1 T2:List Tree}(hm:J8d P f t k t' k') (hL:J9k h n (T1++(t,a,I)::T2))
 (hk:∀ h' n',J9k h' n' (T1++(t',a,I)::T2)→n≤n'→(∀ id,id<n→id∉I→h' id=h id)→K (i64 k') h' n'):J1u P f [a,i64 k] h n K:=by
 obtain ⟨h1,h2,h3⟩:=hL.ids (t,a,I) (by simp)
 exact hm h n a I K h1 h2 h3 fun h' n' hn hh ht=>hk h' n' (hL.turn hn hh ht) hn hh
end
open Go Go.RowKit
def mkL {α:Type}(m:α→Int→α) (c:α→Nat):List α→Int→List α
 | [],_=>[]
 | x::l,k=>m x k::mkL m c l (k+c x)
def cL {α:Type}(c:α→Nat):List α→Nat
 | []=>0
 | x::l=>c x+cL c l
theorem Jkj {α:Type} : ∀ l:List α,cL (fun _=>1) l=l.length
 | []=>rfl
 | x::l=>by simp [cL,Jkj l];omega
section
variable {h:Heap}
theorem Jox {A B as:List (List AV)}{r:List AV}{I:List Nat}(ht:TRr h (A++r::B) as I) :
 ∃ a I1 I2 I3,as[A.length]? = some a∧I=I1++(I2++I3)∧TRl h r a I2 ∧
  ∀ (h':Heap) r' a',(∀ id∈I1++I3,h' id=h id)→TRl h' r' a' I2→TRr h' (A++r'::B) (as.set A.length a') I:=by
 obtain ⟨a,I1,I2,I3,g1,g2,g3,g4⟩:=Jfh (i:=A.length) (t:=r) ht (by simp)
 exact ⟨a,I1,I2,I3,g1,g2,g3,fun h' r' a' hf hr=>by have:=g4 h' r' a' hf hr;simpa using this⟩
theorem J7e {k:IntKind}{n:Int}{ts as:List AV}{I:List Nat} : TRl h (.int k n::ts) as I↔∃ as',as = .int k n::as'∧TRl h ts as' I:=by
 simp only [TRl,TR]
 constructor
 ·rintro ⟨a,as',I1,I2,rfl,rfl,⟨rfl,rfl⟩,h2⟩;exact ⟨as',rfl,h2⟩
 ·rintro ⟨as',rfl,h2⟩;exact ⟨_,as',[],I,rfl,rfl,⟨rfl,rfl⟩,h2⟩
theorem J5w {b:Bool}{ts as:List AV}{I:List Nat} : TRl h (.bool b::ts) as I↔∃ as',as = .bool b::as'∧TRl h ts as' I:=by
 simp only [TRl,TR]
 constructor
 ·rintro ⟨a,as',I1,I2,rfl,rfl,⟨rfl,rfl⟩,h2⟩;exact ⟨as',rfl,h2⟩
 ·rintro ⟨as',rfl,h2⟩;exact ⟨_,as',[],I,rfl,rfl,⟨rfl,rfl⟩,h2⟩
theorem J2c {b:List UInt8}{ts as:List AV}{I:List Nat} : TRl h (.str b::ts) as I↔∃ as',as = .str b::as'∧TRl h ts as' I:=by
 simp only [TRl,TR]
 constructor
 ·rintro ⟨a,as',I1,I2,rfl,rfl,⟨rfl,rfl⟩,h2⟩;exact ⟨as',rfl,h2⟩
 ·rintro ⟨as',rfl,h2⟩;exact ⟨_,as',[],I,rfl,rfl,⟨rfl,rfl⟩,h2⟩
theorem J1y {as:List AV}{I:List Nat} : TRl h [] as I↔as=[]∧I=[]:=by simp only [TRl]
theorem J62 {sz:Nat}{rows:List (List AV)}{ts as:List AV}{I:List Nat}(hh:TRl h (.us sz rows::ts) as I):∃ id len as' I1 I2,as = .ref id 0 len::as'∧I=I1++I2∧len=rows.length∧TR h (.us sz rows) (.ref id 0 len) I1∧TRl h ts as' I2:=by
 simp only [TRl] at hh
 obtain ⟨a,as',I1,I2,rfl,rfl,h1,h2⟩:=hh
 have h1':=h1
 simp only [TR] at h1
 obtain ⟨id,rows',I',rfl,_⟩:=h1
 exact ⟨id,_,as',I1,I2,rfl,rfl,rfl,h1',h2⟩
theorem J3l {t a:AV}{ts as:List AV}{I1 I2:List Nat}(h1:TR h t a I1) (h2:TRl h ts as I2):TRl h (t::ts) (a::as) (I1++I2):=by
 simp only [TRl];exact ⟨_,as,I1,I2,rfl,rfl,h1,h2⟩
theorem Jsc {ts:List AV}{a:AV}{I:List Nat} : TR h (.agg ts) a I↔∃ as,a = .agg as∧TRl h ts as I:=by simp only [TR]
theorem Jow {ts as:List AV}{I:List Nat} : TR h (.agg ts) (.agg as) I↔TRl h ts as I:=by
 simp only [TR,AV.agg.injEq]
 exact ⟨fun ⟨_,e,h⟩=>e ▸ h,fun h=>⟨_,rfl,h⟩⟩
theorem J9y {sz:Nat}{rows:List (List AV)}{a:AV}{I:List Nat}(ht:TR h (.us sz rows) a I):∃ id rows' I',a = .ref id 0 rows.length∧I=id::I'∧h id=some ⟨true,sz,rows'⟩∧TRr h rows rows' I':=by
 simpa only [TR] using ht
end
theorem J5i {h:Heap}{sz id off len:Nat}{rows:List (List AV)}{I:List Nat}(ht:TR h (.us sz rows) (.ref id off len) I):(h id).isSome=true:=by
 obtain ⟨id',rows',I',q1,rfl,q2,q3⟩:=J9y ht
 simp only [AV.ref.injEq] at q1
 obtain ⟨rfl,_,_⟩:=q1
 rw [q2];rfl
def MJ {α:Type}(m:α→Int→α) (c:α→Nat) (rU:α→List AV) (sz:Nat) (h0:Heap) (n0:Nat) (id:Nat) (I:List Nat) (l:List α) (k:Int) (i:Nat) (s1:AV) (h:Heap) (n:Nat):Prop:=
 ∃ (A rest:List α) (ki:Int),A.length=i∧A.length+rest.length=l.length∧mkL m c l k=A++mkL m c rest ki∧k≤ki∧ki+cL c rest=k+cL c l∧s1=i64 ki∧n0≤n∧(∀ j,j<n0→j∉I→h j=h0 j) ∧
  TR h (.us sz ((A++rest).map rU)) (.ref id 0 l.length) I
section
variable {α:Type}{m:α→Int→α}{c:α→Nat}{rU:α→List AV}{sz:Nat}{h0 h:Heap}{n0 n id:Nat}{I:List Nat}{l:List α}{k:Int}{i:Nat}{s1:AV}
theorem MJ.start (ht:TR h (.us sz (l.map rU)) (.ref id 0 l.length) I):MJ m c rU sz h n id I l k 0 (i64 k) h n:=
 ⟨[],l,k,rfl,by simp,rfl,Int.le_refl _,rfl,rfl,Nat.le_refl _,fun _ _ _=>rfl,by simpa using ht⟩
theorem MJ.fin (hJ:MJ m c rU sz h0 n0 id I l k l.length s1 h n):s1=i64 (k+cL c l)∧n0≤n∧(∀ j,j<n0→j∉I→h j=h0 j)∧TR h (.us sz ((mkL m c l k).map rU)) (.ref id 0 l.length) I:=by
 obtain ⟨A,rest,ki,e1,e2,e3,e4,e5,rfl,e6,e7,e8⟩:=hJ
 have hr:rest=[]:=List.eq_nil_of_length_eq_zero (by omega)
 subst hr
 simp only [mkL,List.append_nil] at e3 e8
 simp only [cL] at e5
 refine ⟨by rw [←e5];simp,e6,e7,by rw [e3];exact e8⟩
theorem MJ.step (hI:I.Nodup) (hn0:∀ j∈I,j<n0) (hi:i<l.length) (hJ:MJ m c rU sz h0 n0 id I l k i s1 h n) :
 ∃ (x:α) (ki:Int) (rows:List (List AV)) (cells:List AV) (I2:List Nat),s1=i64 ki∧k≤ki∧ki+c x≤k+cL c l∧h id=some ⟨true,sz,rows⟩∧i<rows.length∧(∀ hl:i<rows.length,rows[i]'hl=cells)∧TRl h (rU x) cells I2∧I2.Nodup∧id∉I2 ∧
  id<n∧(∀ j∈I2,j<n)∧n0≤n∧∀ (h':Heap) (n':Nat) (cells':List AV) (s':AV),n≤n'→(∀ j,j<n→j≠id→j∉I2→h' j=h j)→h' id=some ⟨true,sz,rows.set i cells'⟩→TRl h' (rU (m x ki)) cells' I2→s'=i64 (ki+c x) →
   MJ m c rU sz h0 n0 id I l k (i+1) s' h' n':=by
 obtain ⟨A,rest,ki,rfl,e2,e3,e4,e5,rfl,e6,e7,e8⟩:=hJ
 cases rest with
 | nil=>simp at e2;omega
 | cons x rest=>
  obtain ⟨id',rows,I',q1,rfl,q2,q3⟩:=J9y e8
  simp only [AV.ref.injEq] at q1
  obtain ⟨rfl,_,_⟩:=q1
  rw [List.map_append,List.map_cons] at q3
  obtain ⟨a,I1,I2,I3,g1,rfl,g3,g4⟩:=Jox q3
  rw [List.length_map] at g1 g4
  simp only [cL] at e5
  simp only [mkL] at e3
  have hlen:A.length<rows.length:=(List.getElem?_eq_some_iff.1 g1).1
  simp only [List.nodup_cons,List.mem_append,List.nodup_append] at hI
  obtain ⟨d1,d2,⟨d3,d4,d5⟩,d6⟩:=hI
  refine ⟨x,ki,rows,a,I2,rfl,e4,by omega,q2,hlen,fun hl=>by rw [List.getElem?_eq_getElem hl] at g1;exact Option.some.inj g1,g3,d3,fun hm=>d1 (.inr (.inl hm)),Nat.lt_of_lt_of_le (hn0 _ (by simp)) e6,fun j hj=>Nat.lt_of_lt_of_le (hn0 j (by simp [hj])) e6,e6,?_⟩
  ·intro h' n' cells' s' hn hf hid hc hs
   refine ⟨A++[m x ki],rest,ki+c x,by simp,by simp at e2 ⊢;omega,by rw [e3];simp,by omega,by omega,hs,Nat.le_trans e6 hn,?_,?_⟩
   ·intro j hj hjI
    simp only [List.mem_cons,List.mem_append,not_or] at hjI
    rw [hf j (by omega) hjI.1 hjI.2.2.1]
    exact e7 j hj (by simp [hjI])
   ·simp only [TR]
    refine ⟨id,rows.set A.length cells',I1++(I2++I3),by simp at e2 ⊢;omega,rfl,hid,?_⟩
    rw [List.append_assoc,List.map_append,List.singleton_append,List.map_cons]
    refine g4 h' _ cells' (fun j hj => ?_) hc
    rw [List.mem_append] at hj
    refine hf j ?_ ?_ ?_
    ·have:=hn0 j (by rcases hj with hj|hj <;> simp [hj]);omega
    ·rintro rfl;exact d1 (by rcases hj with hj|hj <;> simp [hj])
    ·intro hm
     rcases hj with hj|hj
     ·exact d6 j hj j (by simp [hm]) rfl
     ·exact d5 j hm j hj rfl
end
theorem J9k.frame {h h':Heap}{n n':Nat} : ∀ {T:List Tree},J9k h n T→n≤n'→(∀ x∈T,∀ j∈x.2.2,h' j=h j)→J9k h' n' T
 | [],_,_,_=>trivial
 | x::T,⟨h1,h2,h3,h4,h5⟩,hn,hh=>⟨J91 x.1 (fun id hi=>hh x (by simp) id hi) h1,h2,fun id hi=>Nat.lt_of_lt_of_le (h3 id hi) hn,h4,J9k.frame h5 hn fun y hy=>hh y (by simp [hy])⟩
structure Kids (h:Heap) (n:Nat) (T:List Tree) (I:List Nat):Prop where
 live:J9k h n T
 sub:∀ x∈T,∀ j∈x.2.2,j∈I
theorem Kids.nil {h:Heap}{n:Nat}{I:List Nat} : Kids h n [] I:=⟨trivial,by simp⟩
theorem Kids.cons {h:Heap}{n:Nat}{T:List Tree}{t a:AV}{J I:List Nat}(ht:TR h t a J) (hd:(J++I).Nodup) (hn:∀ j∈J++I,j<n) (hk:I.Nodup→(∀ j∈I,j<n)→Kids h n T I):Kids h n ((t,a,J)::T) (J++I):=by
 obtain ⟨d1,d2,d3⟩:=List.nodup_append.1 hd
 have hk:=hk d2 (fun j hj=>hn j (by simp [hj]))
 refine ⟨⟨ht,d1,fun j hj=>hn j (by simp [hj]),fun y hy j hj hj'=>d3 j hj j (hk.sub y hy j hj') rfl,hk.live⟩,?_⟩
 intro y hy j hj
 rcases List.mem_cons.1 hy with rfl|hy
 ·exact List.mem_append_left _ hj
 ·exact List.mem_append_right _ (hk.sub y hy j hj)
structure RS (sz:Nat) (id:Nat) (I:List Nat) (h1:Heap) (n1:Nat) (rows:List (List AV)) (i:Nat) (cells:List AV) (T:List Tree) (h:Heap) (n:Nat):Prop where
 live:J9k h n T
 sub:∀ x∈T,∀ j∈x.2.2,j∈I
 out:id∉I
 lt:id<n1
 le:n1≤n
 e:h id=some ⟨true,sz,rows.set i cells⟩
 old:∀ j,j<n1→j≠id→j∉I→h j=h1 j
section
variable {sz id:Nat}{I:List Nat}{h1 h:Heap}{n1 n:Nat}{rows:List (List AV)}{i:Nat}{cells cells':List AV}{T:List Tree}
theorem RS.start (hk:Kids h1 n1 T I) (ho:id∉I) (hl:id<n1) (hi:i<rows.length) (e:h1 id=some ⟨true,sz,rows⟩) (hr:∀ hl:i<rows.length,rows[i]'hl=cells):RS sz id I h1 n1 rows i cells T h1 n1:=
 ⟨hk.live,hk.sub,ho,hl,Nat.le_refl _,by rw [e,←hr hi,List.set_getElem_self],fun _ _ _ _=>rfl⟩
theorem RS.store (S:RS sz id I h1 n1 rows i cells T h n):RS sz id I h1 n1 rows i cells' T (upd h id (some ⟨true,sz,rows.set i cells'⟩)) n:=
 ⟨S.live.frame (Nat.le_refl _) fun x hx j hj=>by rw [J0k];rintro rfl;exact S.out (S.sub x hx j hj),S.sub,S.out,S.lt,S.le,J13 _ _ _,fun j h1 h2 h3=>by rw [J0k _ _ _ _ h2];exact S.old j h1 h2 h3⟩
theorem RS.mark {P:Program}{f:FuncId}{K:AV→Heap→Nat→Prop}{t t' a:AV}{k k':Int}{J:List Nat}{T1 T2:List Tree}(hm:J8d P f t k t' k') (S:RS sz id I h1 n1 rows i cells (T1++(t,a,J)::T2) h n)
 (hk:∀ h' n',RS sz id I h1 n1 rows i cells (T1++(t',a,J)::T2) h' n'→K (i64 k') h' n'):J1u P f [a,i64 k] h n K:=by
 refine Jfy hm S.live fun h' n' hL hn hh=>hk h' n' ⟨hL,?_,S.out,S.lt,Nat.le_trans S.le hn,?_,?_⟩
 ·intro x hx j hj
  simp only [List.mem_append,List.mem_cons] at hx
  rcases hx with hx|rfl|hx
  ·exact S.sub x (by simp [hx]) j hj
  ·exact S.sub (t,a,J) (by simp) j hj
  ·exact S.sub x (by simp [hx]) j hj
 ·rw [hh id (Nat.lt_of_lt_of_le S.lt S.le) fun hi=>S.out (S.sub (t,a,J) (by simp) id hi)];exact S.e
 ·intro j h1 h2 h3
  rw [hh j (Nat.lt_of_lt_of_le h1 S.le) fun hi=>h3 (S.sub (t,a,J) (by simp) j hi)];exact S.old j h1 h2 h3
end
theorem Kids.frame {h h':Heap}{n n':Nat}{T:List Tree}{I:List Nat}(k:Kids h n T I) (hn:n≤n') (hh:∀ j∈I,h' j=h j):Kids h' n' T I:=
 ⟨k.live.frame hn fun x hx j hj=>hh j (k.sub x hx j hj),k.sub⟩
theorem RS.box {sz:Nat}{I:List Nat}{h:Heap}{n:Nat}{cells:List AV}{T:List Tree}(hk:Kids h n T I) (hI:∀ j∈I,j<n) :
 RS sz n I (upd h n (some ⟨true,sz,[cells]⟩)) (n+1) [cells] 0 cells T (upd h n (some ⟨true,sz,[cells]⟩)) (n+1):=
 RS.start (hk.frame (Nat.le_succ n) fun j hj=>J0k _ _ _ _ (by have:=hI j hj;omega)) (fun hm=>Nat.lt_irrefl _ (hI n hm)) (Nat.lt_succ_self n) (by simp) (J13 _ _ _) (fun _=>rfl)
theorem RS.unbox {sz:Nat}{I:List Nat}{h h':Heap}{n n':Nat}{B:Option Blk}{rows:List (List AV)}{i:Nat}{cells:List AV}{T:List Tree}(S:RS sz n I (upd h n B) (n+1) rows i cells T h' n'):n≤n'∧∀ j,j<n→j∉I→h' j=h j:=
 ⟨by have:=S.le;omega,fun j hj hI=>by rw [S.old j (by omega) (by omega) hI,J0k _ _ _ _ (by omega)]⟩
theorem MJ.step2 {α:Type}{m:α→Int→α}{c:α→Nat}{rU:α→List AV}{sz:Nat}{h0 h:Heap}{n0 n id:Nat}{I:List Nat}{l:List α}{k:Int}{i:Nat}{s1:AV}(hI:I.Nodup) (hn0:∀ j∈I,j<n0) (hi:i<l.length) (hJ:MJ m c rU sz h0 n0 id I l k i s1 h n) :
 ∃ (x:α) (ki:Int) (rows:List (List AV)) (cells:List AV) (I2:List Nat),s1=i64 ki∧k≤ki∧ki+c x≤k+cL c l∧i<rows.length∧TRl h (rU x) cells I2∧I2.Nodup∧(∀ j∈I2,j<n) ∧
  (∀ T,Kids h n T I2→RS sz id I2 h n rows i cells T h n)∧∀ (h':Heap) (n':Nat) (cells':List AV) (s':AV) (T:List Tree),RS sz id I2 h n rows i cells' T h' n'→TRl h' (rU (m x ki)) cells' I2→s'=i64 (ki+c x) →
   MJ m c rU sz h0 n0 id I l k (i+1) s' h' n':=by
 obtain ⟨x,ki,rows,cells,I2,q1,q2,q3,q4,q5,q6,q7,q8,q9,q10,q11,q12,q13⟩:=hJ.step hI hn0 hi
 exact ⟨x,ki,rows,cells,I2,q1,q2,q3,q5,q7,q8,q11,fun T hk=>RS.start hk q9 q10 q5 q4 q6,fun h' n' cells' s' T S hc hs=>q13 h' n' cells' s' S.le S.old S.e hc hs⟩
def HJ {α:Type}(m:α→Int→α) (c:α→Nat) (M:List α) (l:List α) (k:Int) (i:Nat) (s1:AV):Prop:=
 ∃ (rest:List α) (ki:Int),M.drop i=mkL m c rest ki∧k≤ki∧ki+cL c rest=k+cL c l∧s1=i64 ki
theorem HJ.start {α:Type}{m:α→Int→α}{c:α→Nat}{l:List α}{k:Int} : HJ m c (mkL m c l k) l k 0 (i64 k):=⟨l,k,rfl,Int.le_refl _,rfl,rfl⟩
theorem HJ.fin {α:Type}{m:α→Int→α}{c:α→Nat}{M l:List α}{k:Int}{i:Nat}{s1:AV}(hi:M.length≤i) (hJ:HJ m c M l k i s1):s1=i64 (k+cL c l):=by
 obtain ⟨rest,ki,e1,e2,e3,rfl⟩:=hJ
 rw [List.drop_eq_nil_of_le hi] at e1
 cases rest with
 | nil=>simp only [cL] at e3;rw [←e3];simp
 | cons x rest=>simp [mkL] at e1
theorem HJ.step {α:Type}{m:α→Int→α}{c:α→Nat}{M l:List α}{k:Int}{i:Nat}{s1:AV}(hi:i<M.length) (hJ:HJ m c M l k i s1) :
 ∃ x ki,s1=i64 ki∧k≤ki∧ki+c x≤k+cL c l∧(∀ hl:i<M.length,M[i]'hl=m x ki)∧∀ s',s'=i64 (ki+c x)→HJ m c M l k (i+1) s':=by
 obtain ⟨rest,ki,e1,e2,e3,rfl⟩:=hJ
 rw [List.drop_eq_getElem_cons hi] at e1
 cases rest with
 | nil=>simp [mkL] at e1;omega
 | cons x rest=>
  simp only [mkL,List.cons.injEq] at e1
  simp only [cL] at e3
  exact ⟨x,ki,rfl,e2,by omega,fun _=>e1.1,fun s' hs=>⟨rest,ki+c x,e1.2,by omega,by omega,hs⟩⟩
section
variable {P:Program}
theorem J3a {f:FuncId}{fn:Func}{id off len:Nat}{as:List AV}{h:Heap}{n:Nat}{K:AV→Heap→Nat→Prop}(hf:P.funcs[f]? = some fn) (hb:fn.body.isSome=true) (hn:(fn.name == "runtime.NumGoroutine")=false)
 (hB:h id≠Option.none) (hA:len≤LIM→J1u P f (.ref id off len::as) h n K):J1u P f (.ref id off len::as) h n K:=by
 refine ⟨by simp [J5b,hf,hb,hn],fun base w0 w L F vs H hv => ?_⟩
 have hlen:len≤LIM:=by
  obtain ⟨v,vs',_,h1,_⟩:=J0g.1 hv
  simp only [VR] at h1
  cases hl:L id with
  | none=>exact absurd (H.mod id hl) hB
  | some l=>exact (h1.1.2.2 l hl).1
 exact (hA hlen).2 base w0 w L F vs H hv
end
open Go Go.RowKit
def Bx (h:Heap) (n:Nat) (T:List Tree):List (Nat×Blk)→Prop
 | []=>True
 | p::B=>(h p.1=some p.2∧p.1<n∧(∀ x∈T,p.1∉x.2.2)∧∀ q∈B,q.1<p.1)∧Bx h n T B
def bxE (h:Heap):List (Nat×Blk)→Prop
 | []=>True
 | p::B=>h p.1=some p.2∧bxE h B
def bxN (n:Nat):List (Nat×Blk)→Prop
 | []=>True
 | p::B=>¬p.1=n∧bxN n B
structure LS (h:Heap) (n:Nat) (B:List (Nat×Blk)) (T:List Tree):Prop where
 live:J9k h n T
 bx:Bx h n T B
theorem Bx.map {h h':Heap}{n n':Nat}{T T':List Tree} : ∀ {B:List (Nat×Blk)},Bx h n T B→(∀ id v,h id=some v→id<n→(∀ x∈T,id∉x.2.2)→h' id=some v∧id<n'∧∀ x∈T',id∉x.2.2)→Bx h' n' T' B
 | [],_,_=>trivial
 | p::B,⟨⟨h1,h2,h3,h3'⟩,h4⟩,hm=>by
  obtain ⟨g1,g2,g3⟩:=hm p.1 p.2 h1 h2 h3
  exact ⟨⟨g1,g2,g3,h3'⟩,Bx.map h4 hm⟩
theorem Bx.lt {h:Heap}{n:Nat}{T:List Tree} : ∀ {B:List (Nat×Blk)},Bx h n T B→∀ q∈B,q.1<n∧h q.1=some q.2
 | p::B,⟨⟨h1,h2,_⟩,h4⟩,q,hq=>by
  rcases List.mem_cons.1 hq with rfl|hq
  ·exact ⟨h2,h1⟩
  ·exact Bx.lt h4 q hq
section
variable {h h':Heap}{n n':Nat}{B:List (Nat×Blk)}{T T1 T2:List Tree}
theorem LS.eqs (S:LS h n B T):bxE h B:=by
 have:=S.bx
 revert this
 induction B with
 | nil=>exact fun _=>trivial
 | cons p B ih=>exact fun hb=>⟨hb.1.1,ih ⟨S.live,hb.2⟩ hb.2⟩
theorem LS.nes (S:LS h n B T):bxN n B:=by
 have:=S.bx
 revert this
 induction B with
 | nil=>exact fun _=>trivial
 | cons p B ih=>exact fun hb=>⟨by have:=hb.1.2.1;omega,ih ⟨S.live,hb.2⟩ hb.2⟩
theorem LS.start {h:Heap}{n:Nat} : LS h n [] []:=⟨trivial,trivial⟩
theorem LS.newbox {y:Blk}(S:LS h n B T) (ho:∀ j,j<n→h' j=h j) (hy:h' n=some y):LS h' (n+1) ((n,y)::B) T:=
 ⟨S.live.up (Nat.le_succ n) ho,⟨hy,Nat.lt_succ_self n,fun x hx hi=>Nat.lt_irrefl _ ((S.live.ids x hx).2.2 n hi),fun q hq=>(S.bx.lt q hq).1⟩,S.bx.map fun id v h1 h2 h3=>⟨(ho id h2).trans h1,by omega,h3⟩⟩
theorem LS.push {y:Blk}(S:LS h n B T):LS (upd h n (some y)) (n+1) ((n,y)::B) T:=S.newbox (fun j hj=>J0k _ _ _ _ (by omega)) (J13 _ _ _)
theorem LS.grow {t a:AV}{I:List Nat}(S:LS h n B T) (ht:TR h' t a I) (hd:I.Nodup) (hI:∀ id∈I,n≤id∧id<n') (hn:n≤n') (ho:∀ id,id<n→h' id=h id):LS h' n' B ((t,a,I)::T):=by
 refine ⟨⟨ht,hd,fun id hi=>(hI id hi).2,?_,S.live.up hn ho⟩,S.bx.map fun id v h1 h2 h3=>⟨(ho id h2).trans h1,by omega,?_⟩⟩
 ·intro y hy id hi hi'
  have:=(S.live.ids y hy).2.2 id hi'
  have:=(hI id hi).1
  omega
 ·intro x hx
  rcases List.mem_cons.1 hx with rfl|hx
  ·intro hi;have:=(hI id hi).1;omega
  ·exact h3 x hx
variable {P:Program}{f:FuncId}{as as':List AV}{K:AV→Heap→Nat→Prop}
theorem J9u {c:AV}(hh:Holds P f as' (fun r=>r=c)) (S:LS h n B T) (hc:Jex c=true) (hb:J5n T as as') (hk:K c h n):J1u P f as h n K:=Jjr hh S.live hc hb hk
theorem J7i {c:AV}(hh:Holds P f as' (fun r=>r=c)) (S:LS h n B T) (hc:Jex c=true) (hb:J5n T as as') (hk:K c h n):J1u P f as h n (hK h K):=Jig hh S.live hc hb hk
theorem Jq6 {h:Heap} : ∀ {t a:AV}{I:List Nat},TR h t a I→J0s t=true→J0s a=true:=by
 intro t a I ht hc
 cases t <;> simp only [TR] at ht <;> simp only [J0s,Bool.false_eq_true] at hc
 case int=>rw [ht.1];rfl
 case bool=>rw [ht.1];rfl
 case str=>rw [ht.1];rfl
 case nilp=>rw [ht.1];rfl
 case us=>obtain ⟨id,rows',I',rfl,_⟩:=ht;rfl
theorem Jev {h:Heap} : ∀ {ts as:List AV}{I:List Nat},TRl h ts as I→ts.all J0s=true→as.all J0s=true
 | [],as,I,ht,_=>by simp only [TRl] at ht;rw [ht.1];rfl
 | t::ts,as,I,ht,hc=>by
  simp only [TRl] at ht
  obtain ⟨a,as',I1,I2,rfl,_,h1,h2⟩:=ht
  simp only [List.all_cons,Bool.and_eq_true] at hc ⊢
  exact ⟨Jq6 h1 hc.1,Jev h2 hc.2⟩
theorem Jnh {sz len:Nat}{rows:List (List AV)}(hh:Holds P f as' (fun r=>r = .us sz rows)) (S:LS h n B T) (hlen:rows.length=len) (hb:J5n T as as')
 (hk:∀ d h' n' J,LS h' n' B ((.us sz rows,.ref d 0 len,J)::T)→K (.ref d 0 len) h' n'):J1u P f as h n fun r h' n'=>J65 h h'∧K r h' n':=
 J88 hh (hb.ok S.live) fun r a h' n' I hr h1 h2 h3 h4 h5=>by
  subst hr;try subst hlen
  have h1':=h1
  simp only [TR] at h1
  obtain ⟨d,rows',I',rfl,_⟩:=h1
  exact hk d h' n' I (S.grow h1' h2 h3 h4 h5)
theorem Jpq {sz len:Nat}{rows:List (List AV)}(hh:Holds P f as' (fun r=>r = .us sz rows)) (S:LS h n B T) (hlen:rows.length=len) (hb:J5n T as as')
 (hk:∀ d h' n' J,LS h' n' B ((.us sz rows,.ref d 0 len,J)::T)→K (.ref d 0 len) h' n'):J1u P f as h n K:=J1u.mono (Jnh hh S hlen hb hk) fun _ _ _ h=>h.2
theorem Jjb {sz len:Nat}{rows:List (List AV)}(hh:Holds P f as' (fun r=>r = .us sz rows)) (S:LS h n B T) (hlen:rows.length=len) (hb:J5n T as as')
 (hk:∀ d h' n' J,LS h' n' B ((.us sz rows,.ref d 0 len,J)::T)→K (.ref d 0 len) h' n'):J1u P f as h n (hK h K):=Jnh hh S hlen hb hk
theorem Jju {ts:List AV}(hh:Holds P f as' (fun r=>r = .agg ts)) (S:LS h n B T) (hc:ts.all J0s=true) (hb:J5n T as as')
 (hk:∀ cs h' n' J,LS h' n' B ((.agg ts,.agg cs,J)::T)→cs.length=ts.length→cs.all J0s=true→K (.agg cs) h' n'):J1u P f as h n fun r h' n'=>J65 h h'∧K r h' n':=
 J88 hh (hb.ok S.live) fun r a h' n' I hr h1 h2 h3 h4 h5=>by
  subst hr;try subst hlen
  have h1':=h1
  simp only [TR] at h1
  obtain ⟨cs,rfl,g⟩:=h1
  exact hk cs h' n' I (S.grow h1' h2 h3 h4 h5) (J9x g) (Jev g hc)
theorem Ji4 {ts:List AV}(hh:Holds P f as' (fun r=>r = .agg ts)) (S:LS h n B T) (hc:ts.all J0s=true) (hb:J5n T as as')
 (hk:∀ cs h' n' J,LS h' n' B ((.agg ts,.agg cs,J)::T)→cs.length=ts.length→cs.all J0s=true→K (.agg cs) h' n'):J1u P f as h n K:=J1u.mono (Jju hh S hc hb hk) fun _ _ _ h=>h.2
theorem Je6 {ts:List AV}(hh:Holds P f as' (fun r=>r = .agg ts)) (S:LS h n B T) (hc:ts.all J0s=true) (hb:J5n T as as')
 (hk:∀ cs h' n' J,LS h' n' B ((.agg ts,.agg cs,J)::T)→cs.length=ts.length→cs.all J0s=true→K (.agg cs) h' n'):J1u P f as h n (hK h K):=Jju hh S hc hb hk
theorem Jkt {t t' a:AV}{k k':Int}{I:List Nat}(hm:J8d P f t k t' k') (S:LS h n B (T1++(t,a,I)::T2))
 (hk:∀ h' n',LS h' n' B (T1++(t',a,I)::T2)→K (i64 k') h' n'):J1u P f [a,i64 k] h n K:=by
 refine Jfy hm S.live fun h' n' hL hn hh=>hk h' n' ⟨hL,S.bx.map fun id v h1 h2 h3=>⟨?_,by omega,?_⟩⟩
 ·rw [hh id h2 (h3 (t,a,I) (by simp))];exact h1
 ·intro x hx
  simp only [List.mem_append,List.mem_cons] at hx
  rcases hx with hx|rfl|hx
  ·exact h3 x (by simp [hx])
  ·exact h3 (t,a,I) (by simp)
  ·exact h3 x (by simp [hx])
end
end Go.Proofs.YtoclolkigjbcgaaGreat

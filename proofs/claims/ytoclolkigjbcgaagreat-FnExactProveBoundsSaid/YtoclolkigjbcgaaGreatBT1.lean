/- The types of the program, as data: read form (A), own form (U), weight (w). -/
import Derived.Test.YtoclolkigjbcgaaGreatBRD
namespace Go.Proofs.YtoclolkigjbcgaaGreat
set_option linter.all false
open Go Go.RowKit Go.Proofs
structure Jc where
 Const:Int
 Coeffs:List Int
deriving DecidableEq
def Ja(x:Jc):List AV:=[i64 x.Const,.sl 1 (Jg x.Coeffs)]
def J9(x:Jc):List AV:=[i64 x.Const,.us 1 (Jg x.Coeffs)]
@[simp] theorem Jfv(x:Jc):Yu (J9 x)=Ja x:=by simp[J9,Ja]
@[simp] theorem Jrd(l:List (Jc)):Yh (l.map J9)=l.map Ja:=by rw[V7,List.map_map];exact List.map_congr_left λx _=>Jfv x
@[simp] theorem Jpq(x:Jc):Us (J9 x)=true:=by simp[J9]
@[simp] theorem J8j(l:List (Jc)):Wc (l.map J9)=true:=by rw[O9];simp
@[simp] theorem Jr7(x:Jc):(Ja x).all K8=true:=by simp[Ja]
@[simp] theorem Jtj(x:Jc):(J9 x).length=2:=by simp[J9]
@[simp] theorem Jv2(x:Jc):(Ja x).length=2:=by simp[Ja]
@[simp] theorem Jya(x:Jc)(h:J8):U0 (Ja x) h=some (Ja x):=by simp[Ja]
@[simp] theorem K1c(x:Jc):(Ja x)[0]? = some (i64 x.Const):=rfl
@[simp] theorem K13(x:Jc)(h:0<(Ja x).length):(Ja x)[0]=i64 x.Const:=rfl
@[simp] theorem K17(x:Jc):(Ja x)[1]? = some (.sl 1 (Jg x.Coeffs)):=rfl
@[simp] theorem K0l(x:Jc)(h:1<(Ja x).length):(Ja x)[1] = .sl 1 (Jg x.Coeffs):=rfl
@[simp] theorem K1s(x:Jc):List.take 2 (Ja x)=Ja x:=rfl
@[simp] theorem K04(x:Jc):(J9 x)[0]? = some (i64 x.Const):=rfl
@[simp] theorem K1f(x:Jc)(h:0<(J9 x).length):(J9 x)[0]=i64 x.Const:=rfl
@[simp] theorem K0y(x:Jc):(J9 x)[1]? = some (.us 1 (Jg x.Coeffs)):=rfl
@[simp] theorem K1k(x:Jc)(h:1<(J9 x).length):(J9 x)[1] = .us 1 (Jg x.Coeffs):=rfl
@[simp] theorem K22(x:Jc):List.take 2 (J9 x)=J9 x:=rfl
def Em(l:List Int):Nat:=l.length
def U9(x:Jc):Nat:=Em x.Coeffs
def W5(l:List Jc):Nat:=wL U9 l
def Ea(l:List Jc):List AV:=[.sl 2 (l.map Ja)]
def Yg(l:List Jc):List AV:=[.us 2 (l.map J9)]
@[simp] theorem Je5(x:List Jc):Yu (Yg x)=Ea x:=by simp[Yg,Ea]
@[simp] theorem Jpi(l:List (List Jc)):Yh (l.map Yg)=l.map Ea:=by rw[V7,List.map_map];exact List.map_congr_left λx _=>Je5 x
@[simp] theorem Jod(x:List Jc):Us (Yg x)=true:=by simp[Yg]
@[simp] theorem Jk3(l:List (List Jc)):Wc (l.map Yg)=true:=by rw[O9];simp
structure Xm where
 N:Int
 Rows:List Jc
deriving DecidableEq
def Kv(x:Xm):List AV:=[i64 x.N,.sl 2 (x.Rows.map Ja)]
def Wb(x:Xm):List AV:=[i64 x.N,.us 2 (x.Rows.map J9)]
@[simp] theorem Jk9(x:Xm):(Kv x).all K8=true:=by simp[Kv]
@[simp] theorem Jni(x:Xm):(Kv x).length=2:=by simp[Kv]
@[simp] theorem Jpn(x:Xm)(h:J8):U0 (Kv x) h=some (Kv x):=by simp[Kv]
@[simp] theorem Jsf(x:Xm):(Kv x)[0]? = some (i64 x.N):=rfl
@[simp] theorem Jrj(x:Xm)(h:0<(Kv x).length):(Kv x)[0]=i64 x.N:=rfl
@[simp] theorem Jrf(x:Xm):(Kv x)[1]? = some (.sl 2 (x.Rows.map Ja)):=rfl
@[simp] theorem Jsx(x:Xm)(h:1<(Kv x).length):(Kv x)[1] = .sl 2 (x.Rows.map Ja):=rfl
@[simp] theorem Jti(x:Xm):List.take 2 (Kv x)=Kv x:=rfl
@[simp] theorem Jsj(x:Xm):(Wb x)[0]? = some (i64 x.N):=rfl
@[simp] theorem Jrc(x:Xm)(h:0<(Wb x).length):(Wb x)[0]=i64 x.N:=rfl
@[simp] theorem Jrr(x:Xm):(Wb x)[1]? = some (.us 2 (x.Rows.map J9)):=rfl
@[simp] theorem Jrl(x:Xm)(h:1<(Wb x).length):(Wb x)[1] = .us 2 (x.Rows.map J9):=rfl
@[simp] theorem Ju3(x:Xm):List.take 2 (Wb x)=Wb x:=rfl
structure Xz where
 Scale:Int
 Mult:List Int
deriving DecidableEq
def Up(x:Xz):List AV:=[i64 x.Scale,.sl 1 (Jg x.Mult)]
def Y9(x:Xz):List AV:=[i64 x.Scale,.us 1 (Jg x.Mult)]
@[simp] theorem J8r(x:Xz):Yu (Y9 x)=Up x:=by simp[Y9,Up]
@[simp] theorem Jju(l:List (Xz)):Yh (l.map Y9)=l.map Up:=by rw[V7,List.map_map];exact List.map_congr_left λx _=>J8r x
@[simp] theorem Jj3(x:Xz):Us (Y9 x)=true:=by simp[Y9]
@[simp] theorem Jfk(l:List (Xz)):Wc (l.map Y9)=true:=by rw[O9];simp
@[simp] theorem Joe(x:Xz):(Up x).length=2:=by simp[Up]
@[simp] theorem Jsv(x:Xz):(Up x)[0]? = some (i64 x.Scale):=rfl
@[simp] theorem Jsk(x:Xz)(h:0<(Up x).length):(Up x)[0]=i64 x.Scale:=rfl
@[simp] theorem Jr9(x:Xz):(Up x)[1]? = some (.sl 1 (Jg x.Mult)):=rfl
@[simp] theorem Jrk(x:Xz)(h:1<(Up x).length):(Up x)[1] = .sl 1 (Jg x.Mult):=rfl
@[simp] theorem Jtz(x:Xz):List.take 2 (Up x)=Up x:=rfl
@[simp] theorem Jrt(x:Xz):(Y9 x)[0]? = some (i64 x.Scale):=rfl
@[simp] theorem Jsw(x:Xz)(h:0<(Y9 x).length):(Y9 x)[0]=i64 x.Scale:=rfl
@[simp] theorem Js3(x:Xz):(Y9 x)[1]? = some (.us 1 (Jg x.Mult)):=rfl
@[simp] theorem Jrp(x:Xz)(h:1<(Y9 x).length):(Y9 x)[1] = .us 1 (Jg x.Mult):=rfl
@[simp] theorem Jtf(x:Xz):List.take 2 (Y9 x)=Y9 x:=rfl
structure Yb where
 Coeff:Int
 Name:Je
deriving DecidableEq
def Xe(x:Yb):List AV:=[i64 x.Coeff,.str x.Name]
def Wr(x:Yb):List AV:=[i64 x.Coeff,.str x.Name]
@[simp] theorem Jdy(x:Yb):Yu (Wr x)=Xe x:=by simp[Wr,Xe]
@[simp] theorem Jp2(l:List (Yb)):Yh (l.map Wr)=l.map Xe:=by rw[V7,List.map_map];exact List.map_congr_left λx _=>Jdy x
@[simp] theorem Jo6(x:Yb):Us (Wr x)=true:=by simp[Wr]
@[simp] theorem Jjx(l:List (Yb)):Wc (l.map Wr)=true:=by rw[O9];simp
@[simp] theorem Jyq(x:Yb):(Xe x)[0]? = some (i64 x.Coeff):=rfl
@[simp] theorem Jx9(x:Yb)(h:0<(Xe x).length):(Xe x)[0]=i64 x.Coeff:=rfl
@[simp] theorem Jzc(x:Yb):(Xe x)[1]? = some (.str x.Name):=rfl
@[simp] theorem Jzb(x:Yb)(h:1<(Xe x).length):(Xe x)[1] = .str x.Name:=rfl
@[simp] theorem K0c(x:Yb):List.take 2 (Xe x)=Xe x:=rfl
@[simp] theorem Jxy(x:Yb):(Wr x)[0]? = some (i64 x.Coeff):=rfl
@[simp] theorem Jy3(x:Yb)(h:0<(Wr x).length):(Wr x)[0]=i64 x.Coeff:=rfl
@[simp] theorem Jxk(x:Yb):(Wr x)[1]? = some (.str x.Name):=rfl
@[simp] theorem Jz5(x:Yb)(h:1<(Wr x).length):(Wr x)[1] = .str x.Name:=rfl
@[simp] theorem K1j(x:Yb):List.take 2 (Wr x)=Wr x:=rfl
def Vg(x:Yb):Nat:=x.Name.length
def F9(l:List Yb):Nat:=wL Vg l
structure Xb where
 Const:Int
 Terms:List Yb
deriving DecidableEq
def Kq(x:Xb):List AV:=[i64 x.Const,.sl 2 (x.Terms.map Xe)]
def Uc(x:Xb):List AV:=[i64 x.Const,.us 2 (x.Terms.map Wr)]
@[simp] theorem Jgw(x:Xb):Yu (Uc x)=Kq x:=by simp[Uc,Kq]
@[simp] theorem Js7(l:List (Xb)):Yh (l.map Uc)=l.map Kq:=by rw[V7,List.map_map];exact List.map_congr_left λx _=>Jgw x
@[simp] theorem Joh(x:Xb):Us (Uc x)=true:=by simp[Uc]
@[simp] theorem Jnh(l:List (Xb)):Wc (l.map Uc)=true:=by rw[O9];simp
@[simp] theorem Jvl(x:Xb):(Kq x).length=2:=by simp[Kq]
@[simp] theorem Jy0(x:Xb)(h:J8):U0 (Kq x) h=some (Kq x):=by simp[Kq]
@[simp] theorem K19(x:Xb):(Kq x)[0]? = some (i64 x.Const):=rfl
@[simp] theorem K0x(x:Xb)(h:0<(Kq x).length):(Kq x)[0]=i64 x.Const:=rfl
@[simp] theorem K0s(x:Xb):(Kq x)[1]? = some (.sl 2 (x.Terms.map Xe)):=rfl
@[simp] theorem K05(x:Xb)(h:1<(Kq x).length):(Kq x)[1] = .sl 2 (x.Terms.map Xe):=rfl
@[simp] theorem K21(x:Xb):List.take 2 (Kq x)=Kq x:=rfl
@[simp] theorem K15(x:Xb):(Uc x)[0]? = some (i64 x.Const):=rfl
@[simp] theorem K0v(x:Xb)(h:0<(Uc x).length):(Uc x)[0]=i64 x.Const:=rfl
@[simp] theorem K16(x:Xb):(Uc x)[1]? = some (.us 2 (x.Terms.map Wr)):=rfl
@[simp] theorem K14(x:Xb)(h:1<(Uc x).length):(Uc x)[1] = .us 2 (x.Terms.map Wr):=rfl
@[simp] theorem K1x(x:Xb):List.take 2 (Uc x)=Uc x:=rfl
def Uw(x:Xb):Nat:=F9 x.Terms
def Wl(l:List Xb):Nat:=wL Uw l
structure X8 where
 Lst:Bool
 Heads:List Xb
 Base:Je
deriving DecidableEq
def Kf(x:X8):List AV:=[.bool x.Lst,.sl 2 (x.Heads.map Kq),.str x.Base]
def Uk(x:X8):List AV:=[.bool x.Lst,.us 2 (x.Heads.map Uc),.str x.Base]
@[simp] theorem Jft(x:X8):Yu (Uk x)=Kf x:=by simp[Uk,Kf]
@[simp] theorem Js9(l:List (X8)):Yh (l.map Uk)=l.map Kf:=by rw[V7,List.map_map];exact List.map_congr_left λx _=>Jft x
@[simp] theorem Jpl(x:X8):Us (Uk x)=true:=by simp[Uk]
@[simp] theorem Jnw(l:List (X8)):Wc (l.map Uk)=true:=by rw[O9];simp
@[simp] theorem Juc(x:X8):(Kf x).length=3:=by simp[Kf]
@[simp] theorem Jz2(x:X8)(h:J8):U0 (Kf x) h=some (Kf x):=by simp[Kf]
@[simp] theorem K1i(x:X8):(Kf x)[0]? = some (.bool x.Lst):=rfl
@[simp] theorem K07(x:X8)(h:0<(Kf x).length):(Kf x)[0] = .bool x.Lst:=rfl
@[simp] theorem K0r(x:X8):(Kf x)[1]? = some (.sl 2 (x.Heads.map Kq)):=rfl
@[simp] theorem K00(x:X8)(h:1<(Kf x).length):(Kf x)[1] = .sl 2 (x.Heads.map Kq):=rfl
@[simp] theorem K09(x:X8):(Kf x)[2]? = some (.str x.Base):=rfl
@[simp] theorem K0h(x:X8)(h:2<(Kf x).length):(Kf x)[2] = .str x.Base:=rfl
@[simp] theorem K1t(x:X8):List.take 3 (Kf x)=Kf x:=rfl
@[simp] theorem K06(x:X8):(Uk x)[0]? = some (.bool x.Lst):=rfl
@[simp] theorem K0f(x:X8)(h:0<(Uk x).length):(Uk x)[0] = .bool x.Lst:=rfl
@[simp] theorem K1b(x:X8):(Uk x)[1]? = some (.us 2 (x.Heads.map Uc)):=rfl
@[simp] theorem K0d(x:X8)(h:1<(Uk x).length):(Uk x)[1] = .us 2 (x.Heads.map Uc):=rfl
@[simp] theorem K1d(x:X8):(Uk x)[2]? = some (.str x.Base):=rfl
@[simp] theorem K11(x:X8)(h:2<(Uk x).length):(Uk x)[2] = .str x.Base:=rfl
@[simp] theorem K23(x:X8):List.take 3 (Uk x)=Uk x:=rfl
def Yz(x:X8):Nat:=Wl x.Heads+x.Base.length
def G1(l:List X8):Nat:=wL Yz l
structure K3 where
 Name:Je
 Params:List Je
 ListResult:Bool
 Pre:List Jc
deriving DecidableEq
def K5(x:K3):List AV:=[.str x.Name,.sl 1 (Ji x.Params),.bool x.ListResult,.sl 2 (x.Pre.map Ja)]
def Xk(x:K3):List AV:=[.str x.Name,.us 1 (Ji x.Params),.bool x.ListResult,.us 2 (x.Pre.map J9)]
@[simp] theorem J5i(x:K3):Yu (Xk x)=K5 x:=by simp[Xk,K5]
@[simp] theorem Jfg(l:List (K3)):Yh (l.map Xk)=l.map K5:=by rw[V7,List.map_map];exact List.map_congr_left λx _=>J5i x
@[simp] theorem Jfe(x:K3):Us (Xk x)=true:=by simp[Xk]
@[simp] theorem Jbr(l:List (K3)):Wc (l.map Xk)=true:=by rw[O9];simp
@[simp] theorem Jff(x:K3):(K5 x).all K8=true:=by simp[K5]
@[simp] theorem Jiz(x:K3):(K5 x).length=4:=by simp[K5]
@[simp] theorem Jjs(x:K3)(h:J8):U0 (K5 x) h=some (K5 x):=by simp[K5]
@[simp] theorem Jo9(x:K3):(K5 x)[0]? = some (.str x.Name):=rfl
@[simp] theorem Jnj(x:K3)(h:0<(K5 x).length):(K5 x)[0] = .str x.Name:=rfl
@[simp] theorem Jnq(x:K3):(K5 x)[1]? = some (.sl 1 (Ji x.Params)):=rfl
@[simp] theorem Jof(x:K3)(h:1<(K5 x).length):(K5 x)[1] = .sl 1 (Ji x.Params):=rfl
@[simp] theorem Jnl(x:K3):(K5 x)[2]? = some (.bool x.ListResult):=rfl
@[simp] theorem Jo5(x:K3)(h:2<(K5 x).length):(K5 x)[2] = .bool x.ListResult:=rfl
@[simp] theorem Joa(x:K3):(K5 x)[3]? = some (.sl 2 (x.Pre.map Ja)):=rfl
@[simp] theorem Jo3(x:K3)(h:3<(K5 x).length):(K5 x)[3] = .sl 2 (x.Pre.map Ja):=rfl
@[simp] theorem Jpt(x:K3):List.take 4 (K5 x)=K5 x:=rfl
@[simp] theorem Jnv(x:K3):(Xk x)[0]? = some (.str x.Name):=rfl
@[simp] theorem Jns(x:K3)(h:0<(Xk x).length):(Xk x)[0] = .str x.Name:=rfl
@[simp] theorem Jo8(x:K3):(Xk x)[1]? = some (.us 1 (Ji x.Params)):=rfl
@[simp] theorem Jo1(x:K3)(h:1<(Xk x).length):(Xk x)[1] = .us 1 (Ji x.Params):=rfl
@[simp] theorem Jnn(x:K3):(Xk x)[2]? = some (.bool x.ListResult):=rfl
@[simp] theorem Jnz(x:K3)(h:2<(Xk x).length):(Xk x)[2] = .bool x.ListResult:=rfl
@[simp] theorem Job(x:K3):(Xk x)[3]? = some (.us 2 (x.Pre.map J9)):=rfl
@[simp] theorem Joc(x:K3)(h:3<(Xk x).length):(Xk x)[3] = .us 2 (x.Pre.map J9):=rfl
@[simp] theorem Joq(x:K3):List.take 4 (Xk x)=Xk x:=rfl
def Ir(l:List Je):Nat:=wL List.length l
def Ys(x:K3):Nat:=x.Name.length+Ir x.Params+W5 x.Pre
def I4(l:List K3):Nat:=wL Ys l
structure X2 where
 Lst:Je
 Cons:Bool
 Head:Je
 Tail:Je
deriving DecidableEq
def Kb(x:X2):List AV:=[.str x.Lst,.bool x.Cons,.str x.Head,.str x.Tail]
def Ue(x:X2):List AV:=[.str x.Lst,.bool x.Cons,.str x.Head,.str x.Tail]
@[simp] theorem J72(x:X2):Yu (Ue x)=Kb x:=by simp[Ue,Kb]
@[simp] theorem Jiq(l:List (X2)):Yh (l.map Ue)=l.map Kb:=by rw[V7,List.map_map];exact List.map_congr_left λx _=>J72 x
@[simp] theorem Jfi(x:X2):Us (Ue x)=true:=by simp[Ue]
@[simp] theorem Jfd(l:List (X2)):Wc (l.map Ue)=true:=by rw[O9];simp
@[simp] theorem Jjr(x:X2):(Kb x).length=4:=by simp[Kb]
@[simp] theorem Jox(x:X2):(Kb x)[0]? = some (.str x.Lst):=rfl
@[simp] theorem Jou(x:X2)(h:0<(Kb x).length):(Kb x)[0] = .str x.Lst:=rfl
@[simp] theorem Jps(x:X2):(Kb x)[1]? = some (.bool x.Cons):=rfl
@[simp] theorem Jom(x:X2)(h:1<(Kb x).length):(Kb x)[1] = .bool x.Cons:=rfl
@[simp] theorem Joo(x:X2):(Kb x)[2]? = some (.str x.Head):=rfl
@[simp] theorem Jot(x:X2)(h:2<(Kb x).length):(Kb x)[2] = .str x.Head:=rfl
@[simp] theorem Jp5(x:X2):(Kb x)[3]? = some (.str x.Tail):=rfl
@[simp] theorem Jpg(x:X2)(h:3<(Kb x).length):(Kb x)[3] = .str x.Tail:=rfl
@[simp] theorem Jrg(x:X2):List.take 4 (Kb x)=Kb x:=rfl
@[simp] theorem Jpf(x:X2):(Ue x)[0]? = some (.str x.Lst):=rfl
@[simp] theorem Jp4(x:X2)(h:0<(Ue x).length):(Ue x)[0] = .str x.Lst:=rfl
@[simp] theorem Joz(x:X2):(Ue x)[1]? = some (.bool x.Cons):=rfl
@[simp] theorem Jp9(x:X2)(h:1<(Ue x).length):(Ue x)[1] = .bool x.Cons:=rfl
@[simp] theorem Jpa(x:X2):(Ue x)[2]? = some (.str x.Head):=rfl
@[simp] theorem Joy(x:X2)(h:2<(Ue x).length):(Ue x)[2] = .str x.Head:=rfl
@[simp] theorem Jpd(x:X2):(Ue x)[3]? = some (.str x.Tail):=rfl
@[simp] theorem Jor(x:X2)(h:3<(Ue x).length):(Ue x)[3] = .str x.Tail:=rfl
@[simp] theorem Jro(x:X2):List.take 4 (Ue x)=Ue x:=rfl
def Qf(x:X2):Nat:=x.Lst.length+x.Head.length+x.Tail.length
def O6(l:List X2):Nat:=wL Qf l
structure Xf where
 Bind:Je
 Func:Je
 Args:List X8
deriving DecidableEq
def Kx(x:Xf):List AV:=[.str x.Bind,.str x.Func,.sl 3 (x.Args.map Kf)]
def Ux(x:Xf):List AV:=[.str x.Bind,.str x.Func,.us 3 (x.Args.map Uk)]
@[simp] theorem Jf5(x:Xf):Yu (Ux x)=Kx x:=by simp[Ux,Kx]
@[simp] theorem Jpb(l:List (Xf)):Yh (l.map Ux)=l.map Kx:=by rw[V7,List.map_map];exact List.map_congr_left λx _=>Jf5 x
@[simp] theorem Jno(x:Xf):Us (Ux x)=true:=by simp[Ux]
@[simp] theorem Jjw(l:List (Xf)):Wc (l.map Ux)=true:=by rw[O9];simp
@[simp] theorem Jop(x:Xf):(Kx x).all K8=true:=by simp[Kx]
@[simp] theorem Jsg(x:Xf):(Kx x).length=3:=by simp[Kx]
@[simp] theorem Juz(x:Xf)(h:J8):U0 (Kx x) h=some (Kx x):=by simp[Kx]
@[simp] theorem Jyg(x:Xf):(Kx x)[0]? = some (.str x.Bind):=rfl
@[simp] theorem Jwx(x:Xf)(h:0<(Kx x).length):(Kx x)[0] = .str x.Bind:=rfl
@[simp] theorem Jyx(x:Xf):(Kx x)[1]? = some (.str x.Func):=rfl
@[simp] theorem Jze(x:Xf)(h:1<(Kx x).length):(Kx x)[1] = .str x.Func:=rfl
@[simp] theorem Jxu(x:Xf):(Kx x)[2]? = some (.sl 3 (x.Args.map Kf)):=rfl
@[simp] theorem Jyy(x:Xf)(h:2<(Kx x).length):(Kx x)[2] = .sl 3 (x.Args.map Kf):=rfl
@[simp] theorem K1a(x:Xf):List.take 3 (Kx x)=Kx x:=rfl
@[simp] theorem Jz9(x:Xf):(Ux x)[0]? = some (.str x.Bind):=rfl
@[simp] theorem Jys(x:Xf)(h:0<(Ux x).length):(Ux x)[0] = .str x.Bind:=rfl
@[simp] theorem Jzj(x:Xf):(Ux x)[1]? = some (.str x.Func):=rfl
@[simp] theorem Jxi(x:Xf)(h:1<(Ux x).length):(Ux x)[1] = .str x.Func:=rfl
@[simp] theorem Jx6(x:Xf):(Ux x)[2]? = some (.us 3 (x.Args.map Uk)):=rfl
@[simp] theorem Jxx(x:Xf)(h:2<(Ux x).length):(Ux x)[2] = .us 3 (x.Args.map Uk):=rfl
@[simp] theorem K0n(x:Xf):List.take 3 (Ux x)=Ux x:=rfl
def Ub(x:Xf):Nat:=x.Bind.length+x.Func.length+G1 x.Args
def Iw(l:List Xf):Nat:=wL Ub l
structure Jy where
 Func:Je
 Patterns:List X2
 Guards:List Xb
 Calls:List Xf
 Result:X8
deriving DecidableEq
def Jr(x:Jy):List AV:=[.str x.Func,.sl 4 (x.Patterns.map Kb),.sl 2 (x.Guards.map Kq),.sl 3 (x.Calls.map Kx),.bool x.Result.Lst,.sl 2 (x.Result.Heads.map Kq),.str x.Result.Base]
def Ya(x:Jy):List AV:=[.str x.Func,.us 4 (x.Patterns.map Ue),.us 2 (x.Guards.map Uc),.us 3 (x.Calls.map Ux),.bool x.Result.Lst,.us 2 (x.Result.Heads.map Uc),.str x.Result.Base]
@[simp] theorem Jdm(x:Jy):Yu (Ya x)=Jr x:=by simp[Ya,Jr]
@[simp] theorem Jp6(l:List (Jy)):Yh (l.map Ya)=l.map Jr:=by rw[V7,List.map_map];exact List.map_congr_left λx _=>Jdm x
@[simp] theorem Jo2(x:Jy):Us (Ya x)=true:=by simp[Ya]
@[simp] theorem Jjt(l:List (Jy)):Wc (l.map Ya)=true:=by rw[O9];simp
@[simp] theorem Jov(x:Jy):(Jr x).all K8=true:=by simp[Jr]
@[simp] theorem Js0(x:Jy):(Jr x).length=7:=by simp[Jr]
@[simp] theorem Juf(x:Jy)(h:J8):U0 (Jr x) h=some (Jr x):=by simp[Jr]
@[simp] theorem Jyz(x:Jy):(Jr x)[0]? = some (.str x.Func):=rfl
@[simp] theorem Jxe(x:Jy)(h:0<(Jr x).length):(Jr x)[0] = .str x.Func:=rfl
@[simp] theorem Jyf(x:Jy):(Jr x)[1]? = some (.sl 4 (x.Patterns.map Kb)):=rfl
@[simp] theorem Jxr(x:Jy)(h:1<(Jr x).length):(Jr x)[1] = .sl 4 (x.Patterns.map Kb):=rfl
@[simp] theorem Jy2(x:Jy):(Jr x)[2]? = some (.sl 2 (x.Guards.map Kq)):=rfl
@[simp] theorem Jyl(x:Jy)(h:2<(Jr x).length):(Jr x)[2] = .sl 2 (x.Guards.map Kq):=rfl
@[simp] theorem Jxw(x:Jy):(Jr x)[3]? = some (.sl 3 (x.Calls.map Kx)):=rfl
@[simp] theorem Jyu(x:Jy)(h:3<(Jr x).length):(Jr x)[3] = .sl 3 (x.Calls.map Kx):=rfl
@[simp] theorem Jz4(x:Jy):(Jr x)[4]? = some (.bool x.Result.Lst):=rfl
@[simp] theorem Jxt(x:Jy)(h:4<(Jr x).length):(Jr x)[4] = .bool x.Result.Lst:=rfl
@[simp] theorem Jx3(x:Jy):(Jr x)[5]? = some (.sl 2 (x.Result.Heads.map Kq)):=rfl
@[simp] theorem Jx2(x:Jy)(h:5<(Jr x).length):(Jr x)[5] = .sl 2 (x.Result.Heads.map Kq):=rfl
@[simp] theorem Jxa(x:Jy):(Jr x)[6]? = some (.str x.Result.Base):=rfl
@[simp] theorem Jz6(x:Jy)(h:6<(Jr x).length):(Jr x)[6] = .str x.Result.Base:=rfl
@[simp] theorem K0t(x:Jy):List.take 7 (Jr x)=Jr x:=rfl
@[simp] theorem Jig(x:Jy):List.take 3 (List.drop 4 (Jr x))=Kf x.Result:=rfl
@[simp] theorem Jyk(x:Jy):(Ya x)[0]? = some (.str x.Func):=rfl
@[simp] theorem Jxz(x:Jy)(h:0<(Ya x).length):(Ya x)[0] = .str x.Func:=rfl
@[simp] theorem Jyn(x:Jy):(Ya x)[1]? = some (.us 4 (x.Patterns.map Ue)):=rfl
@[simp] theorem Jyp(x:Jy)(h:1<(Ya x).length):(Ya x)[1] = .us 4 (x.Patterns.map Ue):=rfl
@[simp] theorem Jxg(x:Jy):(Ya x)[2]? = some (.us 2 (x.Guards.map Uc)):=rfl
@[simp] theorem Jzd(x:Jy)(h:2<(Ya x).length):(Ya x)[2] = .us 2 (x.Guards.map Uc):=rfl
@[simp] theorem Jyj(x:Jy):(Ya x)[3]? = some (.us 3 (x.Calls.map Ux)):=rfl
@[simp] theorem Jyr(x:Jy)(h:3<(Ya x).length):(Ya x)[3] = .us 3 (x.Calls.map Ux):=rfl
@[simp] theorem Jxn(x:Jy):(Ya x)[4]? = some (.bool x.Result.Lst):=rfl
@[simp] theorem Jxp(x:Jy)(h:4<(Ya x).length):(Ya x)[4] = .bool x.Result.Lst:=rfl
@[simp] theorem Jye(x:Jy):(Ya x)[5]? = some (.us 2 (x.Result.Heads.map Uc)):=rfl
@[simp] theorem Jxc(x:Jy)(h:5<(Ya x).length):(Ya x)[5] = .us 2 (x.Result.Heads.map Uc):=rfl
@[simp] theorem Jyc(x:Jy):(Ya x)[6]? = some (.str x.Result.Base):=rfl
@[simp] theorem Jym(x:Jy)(h:6<(Ya x).length):(Ya x)[6] = .str x.Result.Base:=rfl
@[simp] theorem K0i(x:Jy):List.take 7 (Ya x)=Ya x:=rfl
@[simp] theorem Jiv(x:Jy):List.take 3 (List.drop 4 (Ya x))=Uk x.Result:=rfl
def Y0(x:Jy):Nat:=x.Func.length+O6 x.Patterns+Wl x.Guards+Iw x.Calls+Yz x.Result
def G4(l:List Jy):Nat:=wL Y0 l
structure Jq where
 Functions:List K3
 Rules:List Jy
deriving DecidableEq
def Jh(x:Jq):List AV:=[.sl 4 (x.Functions.map K5),.sl 7 (x.Rules.map Jr)]
def Qv(x:Jq):List AV:=[.us 4 (x.Functions.map Xk),.us 7 (x.Rules.map Ya)]
@[simp] theorem Jk1(x:Jq):Yu (Qv x)=Jh x:=by simp[Qv,Jh]
@[simp] theorem Jid(x:Jq):(Qv x).all K8=true:=by simp[Qv]
@[simp] theorem Jij(x:Jq):(Jh x).all K8=true:=by simp[Jh]
@[simp] theorem Rh(x:Jq):(Qv x).length=2:=by simp[Qv]
@[simp] theorem Jk8(x:Jq):(Jh x).length=2:=by simp[Jh]
@[simp] theorem Jnt(x:Jq)(h:J8):U0 (Jh x) h=some (Jh x):=by simp[Jh]
@[simp] theorem Jph(x:Jq):(Jh x)[0]? = some (.sl 4 (x.Functions.map K5)):=rfl
@[simp] theorem Jok(x:Jq)(h:0<(Jh x).length):(Jh x)[0] = .sl 4 (x.Functions.map K5):=rfl
@[simp] theorem Jow(x:Jq):(Jh x)[1]? = some (.sl 7 (x.Rules.map Jr)):=rfl
@[simp] theorem Jpo(x:Jq)(h:1<(Jh x).length):(Jh x)[1] = .sl 7 (x.Rules.map Jr):=rfl
@[simp] theorem Jrw(x:Jq):List.take 2 (Jh x)=Jh x:=rfl
@[simp] theorem Jol(x:Jq):(Qv x)[0]? = some (.us 4 (x.Functions.map Xk)):=rfl
@[simp] theorem Jpc(x:Jq)(h:0<(Qv x).length):(Qv x)[0] = .us 4 (x.Functions.map Xk):=rfl
@[simp] theorem Jp3(x:Jq):(Qv x)[1]? = some (.us 7 (x.Rules.map Ya)):=rfl
@[simp] theorem Jpk(x:Jq)(h:1<(Qv x).length):(Qv x)[1] = .us 7 (x.Rules.map Ya):=rfl
@[simp] theorem Jsl(x:Jq):List.take 2 (Qv x)=Qv x:=rfl
def Ks(x:Jq):Nat:=I4 x.Functions+G4 x.Rules
structure X9 where
 System:Xm
 Params:List Jc
 Args:List (List Jc)
 Result:Jc
deriving DecidableEq
def Xn(x:X9):List AV:=[i64 x.System.N,.sl 2 (x.System.Rows.map Ja),.sl 2 (x.Params.map Ja),.sl 1 (x.Args.map Ea),i64 x.Result.Const,.sl 1 (Jg x.Result.Coeffs)]
def U4(x:X9):List AV:=[i64 x.System.N,.us 2 (x.System.Rows.map J9),.us 2 (x.Params.map J9),.us 1 (x.Args.map Yg),i64 x.Result.Const,.us 1 (Jg x.Result.Coeffs)]
@[simp] theorem Joj(x:X9):Yu (U4 x)=Xn x:=by simp[U4,Xn]
@[simp] theorem Jny(x:X9):(Xn x).all K8=true:=by simp[Xn]
@[simp] theorem Jpp(x:X9):(Xn x).length=6:=by simp[Xn]
@[simp] theorem Jr8(x:X9)(h:J8):U0 (Xn x) h=some (Xn x):=by simp[Xn]
@[simp] theorem Jv3(x:X9):(Xn x)[0]? = some (i64 x.System.N):=rfl
@[simp] theorem Jtk(x:X9)(h:0<(Xn x).length):(Xn x)[0]=i64 x.System.N:=rfl
@[simp] theorem Jud(x:X9):(Xn x)[1]? = some (.sl 2 (x.System.Rows.map Ja)):=rfl
@[simp] theorem Jtq(x:X9)(h:1<(Xn x).length):(Xn x)[1] = .sl 2 (x.System.Rows.map Ja):=rfl
@[simp] theorem Jvk(x:X9):(Xn x)[2]? = some (.sl 2 (x.Params.map Ja)):=rfl
@[simp] theorem Jte(x:X9)(h:2<(Xn x).length):(Xn x)[2] = .sl 2 (x.Params.map Ja):=rfl
@[simp] theorem Ju1(x:X9):(Xn x)[3]? = some (.sl 1 (x.Args.map Ea)):=rfl
@[simp] theorem Jt0(x:X9)(h:3<(Xn x).length):(Xn x)[3] = .sl 1 (x.Args.map Ea):=rfl
@[simp] theorem Jtc(x:X9):(Xn x)[4]? = some (i64 x.Result.Const):=rfl
@[simp] theorem Jvd(x:X9)(h:4<(Xn x).length):(Xn x)[4]=i64 x.Result.Const:=rfl
@[simp] theorem Jtw(x:X9):(Xn x)[5]? = some (.sl 1 (Jg x.Result.Coeffs)):=rfl
@[simp] theorem Jt6(x:X9)(h:5<(Xn x).length):(Xn x)[5] = .sl 1 (Jg x.Result.Coeffs):=rfl
@[simp] theorem Jxb(x:X9):List.take 6 (Xn x)=Xn x:=rfl
@[simp] theorem Jfh(x:X9):List.take 2 (Xn x)=Kv x.System:=rfl
@[simp] theorem Jfl(x:X9):List.take 2 (List.drop 4 (Xn x))=Ja x.Result:=rfl
@[simp] theorem Juq(x:X9):(U4 x)[0]? = some (i64 x.System.N):=rfl
@[simp] theorem Jto(x:X9)(h:0<(U4 x).length):(U4 x)[0]=i64 x.System.N:=rfl
@[simp] theorem Jvc(x:X9):(U4 x)[1]? = some (.us 2 (x.System.Rows.map J9)):=rfl
@[simp] theorem Juu(x:X9)(h:1<(U4 x).length):(U4 x)[1] = .us 2 (x.System.Rows.map J9):=rfl
@[simp] theorem Jt4(x:X9):(U4 x)[2]? = some (.us 2 (x.Params.map J9)):=rfl
@[simp] theorem Jv8(x:X9)(h:2<(U4 x).length):(U4 x)[2] = .us 2 (x.Params.map J9):=rfl
@[simp] theorem Jux(x:X9):(U4 x)[3]? = some (.us 1 (x.Args.map Yg)):=rfl
@[simp] theorem Ju7(x:X9)(h:3<(U4 x).length):(U4 x)[3] = .us 1 (x.Args.map Yg):=rfl
@[simp] theorem Jtv(x:X9):(U4 x)[4]? = some (i64 x.Result.Const):=rfl
@[simp] theorem Jv0(x:X9)(h:4<(U4 x).length):(U4 x)[4]=i64 x.Result.Const:=rfl
@[simp] theorem Jtp(x:X9):(U4 x)[5]? = some (.us 1 (Jg x.Result.Coeffs)):=rfl
@[simp] theorem Jtn(x:X9)(h:5<(U4 x).length):(U4 x)[5] = .us 1 (Jg x.Result.Coeffs):=rfl
@[simp] theorem Jyd(x:X9):List.take 6 (U4 x)=U4 x:=rfl
@[simp] theorem Jfm(x:X9):List.take 2 (U4 x)=Wb x.System:=rfl
@[simp] theorem Jfj(x:X9):List.take 2 (List.drop 4 (U4 x))=J9 x.Result:=rfl
structure X5 where
 System:Xm
 Target:Jc
deriving DecidableEq
def Wu(x:X5):List AV:=[i64 x.System.N,.sl 2 (x.System.Rows.map Ja),i64 x.Target.Const,.sl 1 (Jg x.Target.Coeffs)]
def Km(x:X5):List AV:=[i64 x.System.N,.us 2 (x.System.Rows.map J9),i64 x.Target.Const,.us 1 (Jg x.Target.Coeffs)]
@[simp] theorem J3q(x:X5):Yu (Km x)=Wu x:=by simp[Km,Wu]
@[simp] theorem Jbs(l:List (X5)):Yh (l.map Km)=l.map Wu:=by rw[V7,List.map_map];exact List.map_congr_left λx _=>J3q x
@[simp] theorem Jbq(x:X5):Us (Km x)=true:=by simp[Km]
@[simp] theorem J1g(l:List (X5)):Wc (l.map Km)=true:=by rw[O9];simp
@[simp] theorem Jiu(x:X5):(Wu x)[0]? = some (i64 x.System.N):=rfl
@[simp] theorem Jj4(x:X5)(h:0<(Wu x).length):(Wu x)[0]=i64 x.System.N:=rfl
@[simp] theorem Jip(x:X5):(Wu x)[1]? = some (.sl 2 (x.System.Rows.map Ja)):=rfl
@[simp] theorem Jio(x:X5)(h:1<(Wu x).length):(Wu x)[1] = .sl 2 (x.System.Rows.map Ja):=rfl
@[simp] theorem Jix(x:X5):(Wu x)[2]? = some (i64 x.Target.Const):=rfl
@[simp] theorem Jiw(x:X5)(h:2<(Wu x).length):(Wu x)[2]=i64 x.Target.Const:=rfl
@[simp] theorem Jj2(x:X5):(Wu x)[3]? = some (.sl 1 (Jg x.Target.Coeffs)):=rfl
@[simp] theorem Jiy(x:X5)(h:3<(Wu x).length):(Wu x)[3] = .sl 1 (Jg x.Target.Coeffs):=rfl
@[simp] theorem Jk5(x:X5):List.take 4 (Wu x)=Wu x:=rfl
@[simp] theorem J91(x:X5):List.take 2 (Wu x)=Kv x.System:=rfl
@[simp] theorem J8z(x:X5):List.take 2 (List.drop 2 (Wu x))=Ja x.Target:=rfl
@[simp] theorem Jih(x:X5):(Km x)[0]? = some (i64 x.System.N):=rfl
@[simp] theorem Jit(x:X5)(h:0<(Km x).length):(Km x)[0]=i64 x.System.N:=rfl
@[simp] theorem Jii(x:X5):(Km x)[1]? = some (.us 2 (x.System.Rows.map J9)):=rfl
@[simp] theorem Jim(x:X5)(h:1<(Km x).length):(Km x)[1] = .us 2 (x.System.Rows.map J9):=rfl
@[simp] theorem Jif(x:X5):(Km x)[2]? = some (i64 x.Target.Const):=rfl
@[simp] theorem Jil(x:X5)(h:2<(Km x).length):(Km x)[2]=i64 x.Target.Const:=rfl
@[simp] theorem Jj1(x:X5):(Km x)[3]? = some (.us 1 (Jg x.Target.Coeffs)):=rfl
@[simp] theorem Jik(x:X5)(h:3<(Km x).length):(Km x)[3] = .us 1 (Jg x.Target.Coeffs):=rfl
@[simp] theorem Jk7(x:X5):List.take 4 (Km x)=Km x:=rfl
@[simp] theorem J90(x:X5):List.take 2 (Km x)=Wb x.System:=rfl
@[simp] theorem J92(x:X5):List.take 2 (List.drop 2 (Km x))=J9 x.Target:=rfl
structure X0 where
 Kind:Int
 Lins:List Jc
deriving DecidableEq
def Kr(x:X0):List AV:=[i64 x.Kind,.sl 2 (x.Lins.map Ja)]
def Qo(x:X0):List AV:=[i64 x.Kind,.us 2 (x.Lins.map J9)]
@[simp] theorem Jo4(x:X0):Yu (Qo x)=Kr x:=by simp[Qo,Kr]
@[simp] theorem Jk0(x:X0):(Qo x).all K8=true:=by simp[Qo]
@[simp] theorem Jjz(x:X0):(Kr x).all K8=true:=by simp[Kr]
@[simp] theorem St(x:X0):(Qo x).length=2:=by simp[Qo]
@[simp] theorem Jo0(x:X0):(Kr x).length=2:=by simp[Kr]
@[simp] theorem Jp7(x:X0)(h:J8):U0 (Kr x) h=some (Kr x):=by simp[Kr]
@[simp] theorem Jrz(x:X0):(Kr x)[0]? = some (i64 x.Kind):=rfl
@[simp] theorem Jrv(x:X0)(h:0<(Kr x).length):(Kr x)[0]=i64 x.Kind:=rfl
@[simp] theorem Jsh(x:X0):(Kr x)[1]? = some (.sl 2 (x.Lins.map Ja)):=rfl
@[simp] theorem Jsa(x:X0)(h:1<(Kr x).length):(Kr x)[1] = .sl 2 (x.Lins.map Ja):=rfl
@[simp] theorem Jug(x:X0):List.take 2 (Kr x)=Kr x:=rfl
@[simp] theorem Jrs(x:X0):(Qo x)[0]? = some (i64 x.Kind):=rfl
@[simp] theorem Jri(x:X0)(h:0<(Qo x).length):(Qo x)[0]=i64 x.Kind:=rfl
@[simp] theorem Jrn(x:X0):(Qo x)[1]? = some (.us 2 (x.Lins.map J9)):=rfl
@[simp] theorem Jsq(x:X0)(h:1<(Qo x).length):(Qo x)[1] = .us 2 (x.Lins.map J9):=rfl
@[simp] theorem Jur(x:X0):List.take 2 (Qo x)=Qo x:=rfl
def Bg(x:X0):Nat:=W5 x.Lins
structure Yl where
 Rule:Int
 Call:Int
deriving DecidableEq
def U2(x:Yl):List AV:=[i64 x.Rule,i64 x.Call]
def Wy(x:Yl):List AV:=[i64 x.Rule,i64 x.Call]
@[simp] theorem Jeg(x:Yl):Yu (Wy x)=U2 x:=by simp[Wy,U2]
@[simp] theorem Jpr(l:List (Yl)):Yh (l.map Wy)=l.map U2:=by rw[V7,List.map_map];exact List.map_congr_left λx _=>Jeg x
@[simp] theorem Jnm(x:Yl):Us (Wy x)=true:=by simp[Wy]
@[simp] theorem Jk6(l:List (Yl)):Wc (l.map Wy)=true:=by rw[O9];simp
@[simp] theorem Jpm(x:Yl):(U2 x).all K8=true:=by simp[U2]
@[simp] theorem Jsu(x:Yl):(U2 x).length=2:=by simp[U2]
@[simp] theorem Jub(x:Yl)(h:J8):U0 (U2 x) h=some (U2 x):=by simp[U2]
@[simp] theorem Jy6(x:Yl):(U2 x)[0]? = some (i64 x.Rule):=rfl
@[simp] theorem Jyh(x:Yl)(h:0<(U2 x).length):(U2 x)[0]=i64 x.Rule:=rfl
@[simp] theorem Jy8(x:Yl):(U2 x)[1]? = some (i64 x.Call):=rfl
@[simp] theorem Jxo(x:Yl)(h:1<(U2 x).length):(U2 x)[1]=i64 x.Call:=rfl
@[simp] theorem K0m(x:Yl):List.take 2 (U2 x)=U2 x:=rfl
@[simp] theorem Jx4(x:Yl):(Wy x)[0]? = some (i64 x.Rule):=rfl
@[simp] theorem Jy5(x:Yl)(h:0<(Wy x).length):(Wy x)[0]=i64 x.Rule:=rfl
@[simp] theorem Jxh(x:Yl):(Wy x)[1]? = some (i64 x.Call):=rfl
@[simp] theorem Jyb(x:Yl)(h:1<(Wy x).length):(Wy x)[1]=i64 x.Call:=rfl
@[simp] theorem K0g(x:Yl):List.take 2 (Wy x)=Wy x:=rfl
end Go.Proofs.YtoclolkigjbcgaaGreat
namespace Go.Proofs.YtoclolkigjbcgaaGreat
set_option linter.all false
open Go Go.RowKit
attribute [simp] Ng Fs G6
@[simp] theorem Jzi{h:J8}{K:AV->J8->Nat->Prop}{r:AV}{n:Nat} : hK h K r h n=K r h n:=by simp[hK,Xy.refl]
mutual
def Dz:AV->Prop
 | .sl _ rows=>rows.length<=Jb
 | .us _ rows=>rows.length<=Jb
 | .str l=>l.length<=Jb
 | .agg cs=>F0 cs
 | .tup cs=>F0 cs
 | .undef | .int .. | .bool _ | .nil _ | .nilp | .ptr .. | .fptr .. | .ref .. | .fn .. | .mp _=>True
def F0:List AV->Prop
 | []=>True
 |a::as=>Dz a/\F0 as
end
section
variable {w:World}{L:Nat->Option K0}{N:Nat}
mutual
theorem Jqb:∀(a:AV) (v:Value) (S:List Nat),VR w L N a v S->Dz a
 | .sl ..,_,_,h=>by
  simp only[VR]at h;obtain⟨⟨A,cap,vals,_,hl,_⟩,_⟩:=h
  simp only[Dz];exact hl.1
 | .us ..,_,_,h=>by simp only[VR]at h;simp only[Dz];exact h.1
 | .str _,_,_,h=>by
  simp only[VR]at h;obtain⟨⟨b,_,_,hl⟩,_⟩:=h
  simp only[Dz];exact hl
 | .agg cs,_,_,h=>by simp only[VR]at h;obtain⟨vs,_,h⟩:=h;simp only[Dz];exact Pp cs _ _ h
 | .tup cs,_,_,h=>by simp only[VR]at h;obtain⟨vs,_,h⟩:=h;simp only[Dz];exact Pp cs _ _ h
 | .undef,_,_,_ | .int ..,_,_,_ | .bool _,_,_,_ | .nil _,_,_,_ | .nilp,_,_,_ | .ptr ..,_,_,_ | .fptr ..,_,_,_ | .ref ..,_,_,_ | .fn ..,_,_,_ | .mp _,_,_,_=>by simp only[Dz]
theorem Pp:∀(as:List AV) (vs:List Value) (S:List Nat),Jx w L N as vs S->F0 as
 | [],_,_,_=>by simp only[F0]
 |a::as,_,_,h=>by simp only[Jx]at h;obtain⟨v,vs',S1,S2,_,_,h1,h2⟩:=h;simp only[F0];exact⟨Jqb a _ _ h1,Pp as _ _ h2⟩
end
end
theorem Vv{P:Program}{f:FuncId}{fn:Func}{as:List AV}{Q:AV->Prop}(hf:P.funcs[f]? = some fn)(hb:fn.body.isSome=true) (hn:(fn.name == "runtime.NumGoroutine")=false) (h:F0 as->Holds P f as Q):Holds P f as Q:=
 ⟨by simp[Dn,hf,hb,hn],λw vs hv=>(h (Pp as vs [] hv)).2 w vs hv⟩
attribute [simp] Dz F0
theorem Nl{P:Program}{K K':Jm->J8->Nat->Prop}(hk:∀s h n,K s h n->K' s h n):∀{os:List AO}{s:Jm}{h:J8}{n:Nat},Qn P os s h n K->Qn P os s h n K'
 | [],s,h,n,hw=>hk s h n hw
 |o::os,s,h,n,hw=>by
  simp only[Qn]at hw⊢
  cases hg:o.g with
  |none=>rw[hg]at hw;exact Fo hw λ_ _ _ h=>Nl hk h
  |some p=>
   obtain⟨j,want⟩:=p;rw[hg]at hw;simp only at hw⊢;cases hs:s j <;>rw[hs]at hw <;>try exact hw.elim
   ·exact⟨λe=>Fo (hw.1 e) λ_ _ _ h=>Nl hk h,λe=>Nl hk (hw.2 e)⟩
   ·rename_i vs;cases vs
    ·exact Nl hk hw
    ·exact hw.elim
theorem Rf{P:Program}{s:Jm}{h:J8}{n:Nat}{K K':AV->J8->Nat->Prop}{op:Xx}(hw:Xr P s h n K op)(hk:∀r h n,K r h n->K' r h n):Xr P s h n K' op:=by
 unfold Xr at hw⊢;split at hw
 ·split at hw
  ·rename_i hf;try simp only[hf]
   exact X7.mono hw λ_ _ _ h=>⟨h.1,hk _ _ _ h.2⟩
  ·exact hw.elim
 ·split at hw
  ·exact hk _ _ _ hw
  ·exact hk _ _ _ hw
  ·exact⟨hw.1,hk _ _ _ hw.2⟩
  ·exact hk _ _ _ hw
  ·exact hw.elim
 ·exact Fo hw hk
theorem Ba{P:Program}{K K':Jm->J8->Nat->Prop}(hk:∀s h n,K s h n->K' s h n):∀{t:DT}{s:Jm}{h:J8}{n:Nat},Yj P t s h n K->Yj P t s h n K'
 | .fin,s,h,n,hw=>hk s h n hw
 | .stuck,_,_,_,hw=>hw.elim
 | .both a b,s,h,n,hw=>⟨Ba hk hw.1,Ba hk hw.2⟩
 | .op o t,s,h,n,hw=>by
  simp only[Yj]at hw⊢
  cases hg:o.g with
  |none=>rw[hg]at hw;exact Rf hw λ_ _ _ h=>Ba hk h
  |some p=>
   obtain⟨j,want⟩:=p;rw[hg]at hw;simp only at hw⊢;cases hs:s j <;>rw[hs]at hw <;>try exact hw.elim
   ·exact⟨λe=>Rf (hw.1 e) λ_ _ _ h=>Ba hk h,λe=>Ba hk (hw.2 e)⟩
   ·rename_i vs;cases vs
    ·exact Ba hk hw
    ·exact hw.elim
 | .hop o ps t,s,h,n,hw=>by
  simp only[Yj]at hw⊢
  cases hg:o.g with
  |none=>rw[hg]at hw;exact Rf hw λ_ _ _ h=>⟨h.1,Ba hk h.2⟩
  |some p=>
   obtain⟨j,want⟩:=p;rw[hg]at hw;simp only at hw⊢;cases hs:s j <;>rw[hs]at hw <;>try exact hw.elim
   ·exact⟨λe=>Rf (hw.1 e) λ_ _ _ h=>⟨h.1,Ba hk h.2⟩,λe=>Ba hk (hw.2 e)⟩
   ·rename_i vs;cases vs
    ·exact Ba hk hw
    ·exact hw.elim
theorem Ph{P:Program} : ∀{a:AC}{s:Jm}{h:J8}{n:Nat}{Q Q':Xc},Ig P a s h n Q->(∀e s h n,Q e s h n->Q' e s h n)->Ig P a s h n Q':=by
 intro a
 induction a with
 |skip=>intro s h n Q Q' hw hq;exact hq _ _ _ _ hw
 |reg os=>intro s h n Q Q' hw hq;exact Nl (hq .normal) hw
 |seq a b iha ihb=>
  intro s h n Q Q' hw hq;refine iha hw λe s h n hh=>?_
  cases e
  ·exact ihb hh hq
  ·exact hq _ _ _ _ hh
  ·exact hq _ _ _ _ hh
 |cond c a b iha ihb=>
  intro s h n Q Q' hw hq;simp only[Ig]at hw⊢;split at hw
  ·exact⟨λe=>iha (hw.1 e) hq,λe=>ihb (hw.2 e) hq⟩
  ·exact hw.elim
 |blk id a iha=>
  intro s h n Q Q' hw hq;refine iha hw λe s h n hh=>?_
  cases e
  ·exact hq _ _ _ _ hh
  ·simp only at hh⊢;split
   ·rename_i hx;rw[if_pos hx]at hh;exact hq _ _ _ _ hh
   ·rename_i hx;rw[if_neg hx]at hh;exact hq _ _ _ _ hh
  ·exact hq _ _ _ _ hh
 |loop a iha=>
  intro s h n Q Q' hw hq;obtain⟨I,h0,hs⟩:=hw;refine⟨I,h0,λk s h n hi=>iha (hs k s h n hi) λe s h n hh=>?_⟩;cases e
  ·exact hh
  ·exact hq _ _ _ _ hh
  ·exact hq _ _ _ _ hh
 |exit id=>intro s h n Q Q' hw hq;exact hq _ _ _ _ hw
 |ret=>intro s h n Q Q' hw hq;exact hq _ _ _ _ hw
 |draw t=>intro s h n Q Q' hw hq;exact Ba (hq .normal) hw
@[simp ↓ high] theorem J56{P:Program}{ks:List Kt}{s:Jm}{h:J8}{n:Nat}{Q:Xc}{c:Jz}{a b:AC}(hc:ev s c = .bool true):rC P (.cond c a b) ks s h n Q=rC P a ks s h n Q:=by rw[C1,hc];simp
@[simp ↓ high] theorem J9a{P:Program}{ks:List Kt}{s:Jm}{h:J8}{n:Nat}{Q:Xc}{c:Jz}{a b:AC}(hc:ev s c = .bool false):rC P (.cond c a b) ks s h n Q=rC P b ks s h n Q:=by rw[C1,hc];simp
section
variable {P:Program}{s:Jm}{h:J8}{n:Nat}{ks:List Kt}{Q:Xc}{a:AC}
def Nk(P:Program)(ks:List Kt)(Q:Xc)(keep:List Nat)(s0:Jm)(ic i:Nat)(J:Nat->Jm->J8->Nat->Prop):Xc:=λe s h n=>match e with
 | .normal=>(∀j∈keep,s j=s0 j)/\s ic = .int .i64 ((i:Int)+1)/\J (i+1) s h n
 |e=>Ju P ks e s h n Q
def Sp(P:Program)(ks:List Kt)(Q:Xc):Xc:=λe s h n=>match e with
 | .normal=>False
 |e=>Ju P ks e s h n Q
@[simp ↓] theorem Jnu{keep:List Nat}{s0 s':Jm}{ic i:Nat}{J:Nat->Jm->J8->Nat->Prop}{h':J8}{n':Nat} : Nk P ks Q keep s0 ic i J .normal s' h' n'=((∀j∈keep,s' j=s0 j)/\s' ic = .int .i64 ((i:Int)+1)/\J (i+1) s' h' n'):=propext Iff.rfl
@[simp ↓] theorem Jt9{keep:List Nat}{s0 s':Jm}{ic i:Nat}{J:Nat->Jm->J8->Nat->Prop}{h':J8}{n':Nat} : Nk P ks Q keep s0 ic i J .ret s' h' n'=Ju P ks .ret s' h' n' Q:=propext Iff.rfl
@[simp ↓] theorem Jru{keep:List Nat}{s0 s':Jm}{ic i x:Nat}{J:Nat->Jm->J8->Nat->Prop}{h':J8}{n':Nat} : Nk P ks Q keep s0 ic i J (.exit x) s' h' n'=Ju P ks (.exit x) s' h' n' Q:=propext Iff.rfl
@[simp ↓] theorem Ju6{s':Jm}{h':J8}{n':Nat} : Sp P ks Q .ret s' h' n'=Ju P ks .ret s' h' n' Q:=propext Iff.rfl
@[simp ↓] theorem Jsn{x:Nat}{s':Jm}{h':J8}{n':Nat} : Sp P ks Q (.exit x) s' h' n'=Ju P ks (.exit x) s' h' n' Q:=propext Iff.rfl
theorem Pi(keep:List Nat)(ic N:Nat)(J:Nat->Jm->J8->Nat->Prop)(hN:N<=Jb)(hi0:s ic = .int .i64 0)(hJ0:J 0 s h n)
 (hstep:∀i s' h' n',i<N->¬N<=i->(∀j∈keep,s' j=s j)->s' ic = .int .i64 (i:Int)->IntKind.i64.wrap ((i:Int)+1)=(i:Int)+1->J i s' h' n'->rC P a [] s' h' n' (Nk P ks Q keep s ic i J))
 (hend:∀s' h' n',(∀j∈keep,s' j=s j)->s' ic = .int .i64 (N:Int)->J N s' h' n'->rC P a [] s' h' n' (Sp P ks Q)):rL P a ks s h n Q:=by
 refine Oe (λk s' h' n'=>∃i:Nat,k=N - i/\i<=N/\(∀j∈keep,s' j=s j)/\s' ic = .int .i64 (i:Int)/\J i s' h' n') N ⟨0,by simp,Nat.zero_le _,λ_ _=>rfl,hi0,hJ0⟩ ?_;rintro k s' h' n' ⟨i,rfl,hi,hk,hic,hJ⟩;unfold Jb at hN;by_cases hlt:i<N
 ·have:=hstep i s' h' n' hlt (by omega) hk hic (Kk (by omega)) hJ;unfold rC at this⊢;refine Ph this ?_;intro e s2 h2 n2 hq;cases e
  ·obtain⟨q1,q2,q3⟩:=hq;exact⟨N - (i+1),by omega,i+1,rfl,by omega,q1,q2,q3⟩
  ·exact hq
  ·exact hq
 ·have hiN:i=N:=by omega
  subst hiN;have:=hend s' h' n' hk hic hJ;unfold rC at this⊢;refine Ph this ?_;intro e s2 h2 n2 hq;cases e
  ·exact hq.elim
  ·exact hq
  ·exact hq
theorem Jji(keep:List Nat)(ic N:Nat)(J:Nat->Jm->Prop)(hN:N<=Jb)(hi0:s ic = .int .i64 0)(hJ0:J 0 s)
 (hstep:∀i s',i<N->¬N<=i->(∀j∈keep,s' j=s j)->s' ic = .int .i64 (i:Int)->IntKind.i64.wrap ((i:Int)+1)=(i:Int)+1->J i s'->rC P a [] s' h n (Nk P ks Q keep s ic i λi s' h' n'=>J i s'/\h'=h/\n'=n))
 (hend:∀s',(∀j∈keep,s' j=s j)->s' ic = .int .i64 (N:Int)->J N s'->rC P a [] s' h n (Sp P ks Q)):rL P a ks s h n Q:=by
 refine Pi keep ic N (λi s' h' n'=>J i s'/\h'=h/\n'=n) hN hi0 ⟨hJ0,rfl,rfl⟩ ?_ ?_
 ·rintro i s' h' n' hi hg hk hic hw ⟨hJ,rfl,rfl⟩;exact hstep i s' hi hg hk hic hw hJ
 ·rintro s' h' n' hk hic ⟨hJ,rfl,rfl⟩;exact hend s' hk hic hJ
theorem Ki(keep:List Nat)(ic N:Nat)(J:Nat->Jm->J8->Nat->Prop)(hN:N<=Jb)(hi0:s ic = .int .i64 0)(hJ0:J 0 s h n)
 (hstep:∀i s' h' n' (R:Xc),i<N->¬N<=i->(∀j∈keep,s' j=s j)->s' ic = .int .i64 (i:Int)->IntKind.i64.wrap ((i:Int)+1)=(i:Int)+1->J i s' h' n' ->
  (∀s'' h'' n'',(∀j∈keep,s'' j=s j)->s'' ic = .int .i64 ((i:Int)+1)->J (i+1) s'' h'' n''->R .normal s'' h'' n'') ->
  (∀s'' h'' n'',Ju P ks .ret s'' h'' n'' Q->R .ret s'' h'' n'')->(∀x s'' h'' n'',Ju P ks (.exit x) s'' h'' n'' Q->R (.exit x) s'' h'' n'')->rC P a [] s' h' n' R)
 (hend:∀s' h' n' (R:Xc),(∀j∈keep,s' j=s j)->s' ic = .int .i64 (N:Int)->J N s' h' n' ->
  (∀s'' h'' n'',Ju P ks .ret s'' h'' n'' Q->R .ret s'' h'' n'')->(∀x s'' h'' n'',Ju P ks (.exit x) s'' h'' n'' Q->R (.exit x) s'' h'' n'')->rC P a [] s' h' n' R):rL P a ks s h n Q:=by
 refine Pi keep ic N J hN hi0 hJ0 ?_ ?_
 ·intro i s' h' n' hi hg hk hic hw hJ;exact hstep i s' h' n' _ hi hg hk hic hw hJ (λ_ _ _ h1 h2 h3=>⟨h1,h2,h3⟩) (λ_ _ _ h=>h) (λ_ _ _ _ h=>h)
 ·intro s' h' n' hk hic hJ;exact hend s' h' n' _ hk hic hJ (λ_ _ _ h=>h) (λ_ _ _ _ h=>h)
theorem Qm(keep:List Nat)(ic N:Nat)(J:Nat->Jm->Prop)(hN:N<=Jb)(hi0:s ic = .int .i64 0)(hJ0:J 0 s)
 (hstep:∀i s' h' (R:Xc),i<N->¬N<=i->(∀j∈keep,s' j=s j)->s' ic = .int .i64 (i:Int)->IntKind.i64.wrap ((i:Int)+1)=(i:Int)+1->J i s'->(∀id,h' id=h id) ->
  (∀s'',(∀j∈keep,s'' j=s j)->s'' ic = .int .i64 ((i:Int)+1)->J (i+1) s''->R .normal s'' h' n) ->
  (∀s'' h'' n'',Ju P ks .ret s'' h'' n'' Q->R .ret s'' h'' n'')->(∀x s'',Ju P ks (.exit x) s'' h n Q->R (.exit x) s'' h' n)->rC P a [] s' h' n R)
 (hend:∀s' h' (R:Xc),(∀j∈keep,s' j=s j)->s' ic = .int .i64 (N:Int)->J N s'->(∀id,h' id=h id) ->
  (∀s'' h'' n'',Ju P ks .ret s'' h'' n'' Q->R .ret s'' h'' n'')->(∀x s'',Ju P ks (.exit x) s'' h n Q->R (.exit x) s'' h' n)->rC P a [] s' h' n R):rL P a ks s h n Q:=by
 refine Jji keep ic N J hN hi0 hJ0 ?_ ?_
 ·intro i s' hi hg hk hic hw hJ;exact hstep i s' h _ hi hg hk hic hw hJ (λ_=>rfl) (λ_ h1 h2 h3=>⟨h1,h2,h3,rfl,rfl⟩) (λ_ _ _ h=>h) (λ_ _ h=>h)
 ·intro s' hk hic hJ;exact hend s' h _ hk hic hJ (λ_=>rfl) (λ_ _ _ h=>h) (λ_ _ h=>h)
end
end Go.Proofs.YtoclolkigjbcgaaGreat

/- The types of the program, as data: read form (A), own form (U), weight (w). -/
import Derived.Test.YtoclolkigjbcgaaGreatARD
namespace Go.Proofs.YtoclolkigjbcgaaGreat
set_option linter.all false
open Go Go.RowKit Go.Proofs
structure Jc where
 Const:Int
 Coeffs:List Int
deriving DecidableEq
def Jb(x:Jc):List AV:=[i64 x.Const,.sl 1 (Ji x.Coeffs)]
def Ja(x:Jc):List AV:=[i64 x.Const,.us 1 (Ji x.Coeffs)]
@[simp] theorem Jh9(x:Jc):Yw (Ja x)=Jb x:=by simp[Ja,Jb]
@[simp] theorem K0s(l:List (Jc)):Yl (l.map Ja)=l.map Jb:=by rw[Wx,List.map_map];exact List.map_congr_left λx _=>Jh9 x
@[simp] theorem Jwp(x:Jc):Uy (Ja x)=true:=by simp[Ja]
@[simp] theorem Jun(l:List (Jc)):Wi (l.map Ja)=true:=by rw[Og];simp
@[simp] theorem K0c(x:Jc):(Jb x).all Kb=true:=by simp[Jb]
@[simp] theorem K1r(x:Jc):(Ja x).length=2:=by simp[Ja]
@[simp] theorem K3o(x:Jc):(Jb x).length=2:=by simp[Jb]
@[simp] theorem Kbz(x:Jc)(h:J8):U5 (Jb x) h=some (Jb x):=by simp[Jb]
@[simp] theorem Kd5(x:Jc):(Jb x)[0]? = some (i64 x.Const):=rfl
@[simp] theorem Kds(x:Jc)(h:0<(Jb x).length):(Jb x)[0]=i64 x.Const:=rfl
@[simp] theorem Kcs(x:Jc):(Jb x)[1]? = some (.sl 1 (Ji x.Coeffs)):=rfl
@[simp] theorem Kdu(x:Jc)(h:1<(Jb x).length):(Jb x)[1] = .sl 1 (Ji x.Coeffs):=rfl
@[simp] theorem Kep(x:Jc):List.take 2 (Jb x)=Jb x:=rfl
@[simp] theorem Kdi(x:Jc):(Ja x)[0]? = some (i64 x.Const):=rfl
@[simp] theorem Kdj(x:Jc)(h:0<(Ja x).length):(Ja x)[0]=i64 x.Const:=rfl
@[simp] theorem Kco(x:Jc):(Ja x)[1]? = some (.us 1 (Ji x.Coeffs)):=rfl
@[simp] theorem Kdt(x:Jc)(h:1<(Ja x).length):(Ja x)[1] = .us 1 (Ji x.Coeffs):=rfl
@[simp] theorem Keq(x:Jc):List.take 2 (Ja x)=Ja x:=rfl
def Dk(l:List Int):Nat:=l.length
def Uf(x:Jc):Nat:=Dk x.Coeffs
def U9(l:List Jc):Nat:=wL Uf l
def Uo(l:List Jc):List AV:=[.sl 2 (l.map Jb)]
def Y3(l:List Jc):List AV:=[.us 2 (l.map Ja)]
@[simp] theorem Jg7(x:List Jc):Yw (Y3 x)=Uo x:=by simp[Y3,Uo]
@[simp] theorem Jvf(l:List (List Jc)):Yl (l.map Y3)=l.map Uo:=by rw[Wx,List.map_map];exact List.map_congr_left λx _=>Jg7 x
@[simp] theorem Jui(x:List Jc):Uy (Y3 x)=true:=by simp[Y3]
@[simp] theorem Jla(l:List (List Jc)):Wi (l.map Y3)=true:=by rw[Og];simp
structure Xx where
 N:Int
 Rows:List Jc
deriving DecidableEq
def Ky(x:Xx):List AV:=[i64 x.N,.sl 2 (x.Rows.map Jb)]
def I7(x:Xx):List AV:=[i64 x.N,.us 2 (x.Rows.map Ja)]
@[simp] theorem Jl6(x:Xx):(Ky x).all Kb=true:=by simp[Ky]
@[simp] theorem Juq(x:Xx):(Ky x).length=2:=by simp[Ky]
@[simp] theorem Jw6(x:Xx)(h:J8):U5 (Ky x) h=some (Ky x):=by simp[Ky]
@[simp] theorem K03(x:Xx):(Ky x)[0]? = some (i64 x.N):=rfl
@[simp] theorem K0b(x:Xx)(h:0<(Ky x).length):(Ky x)[0]=i64 x.N:=rfl
@[simp] theorem K05(x:Xx):(Ky x)[1]? = some (.sl 2 (x.Rows.map Jb)):=rfl
@[simp] theorem Jzr(x:Xx)(h:1<(Ky x).length):(Ky x)[1] = .sl 2 (x.Rows.map Jb):=rfl
@[simp] theorem K17(x:Xx):List.take 2 (Ky x)=Ky x:=rfl
@[simp] theorem K10(x:Xx):(I7 x)[0]? = some (i64 x.N):=rfl
@[simp] theorem K02(x:Xx)(h:0<(I7 x).length):(I7 x)[0]=i64 x.N:=rfl
@[simp] theorem K07(x:Xx):(I7 x)[1]? = some (.us 2 (x.Rows.map Ja)):=rfl
@[simp] theorem Jzm(x:Xx)(h:1<(I7 x).length):(I7 x)[1] = .us 2 (x.Rows.map Ja):=rfl
@[simp] theorem K1a(x:Xx):List.take 2 (I7 x)=I7 x:=rfl
structure Y7 where
 Scale:Int
 Mult:List Int
deriving DecidableEq
def Uu(x:Y7):List AV:=[i64 x.Scale,.sl 1 (Ji x.Mult)]
def Ye(x:Y7):List AV:=[i64 x.Scale,.us 1 (Ji x.Mult)]
@[simp] theorem J9v(x:Y7):Yw (Ye x)=Uu x:=by simp[Ye,Uu]
@[simp] theorem Jkx(l:List (Y7)):Yl (l.map Ye)=l.map Uu:=by rw[Wx,List.map_map];exact List.map_congr_left λx _=>J9v x
@[simp] theorem Jjh(x:Y7):Uy (Ye x)=true:=by simp[Ye]
@[simp] theorem Jgq(l:List (Y7)):Wi (l.map Ye)=true:=by rw[Og];simp
@[simp] theorem Jv9(x:Y7):(Uu x).length=2:=by simp[Uu]
@[simp] theorem K0m(x:Y7):(Uu x)[0]? = some (i64 x.Scale):=rfl
@[simp] theorem Jzz(x:Y7)(h:0<(Uu x).length):(Uu x)[0]=i64 x.Scale:=rfl
@[simp] theorem K0w(x:Y7):(Uu x)[1]? = some (.sl 1 (Ji x.Mult)):=rfl
@[simp] theorem Jzn(x:Y7)(h:1<(Uu x).length):(Uu x)[1] = .sl 1 (Ji x.Mult):=rfl
@[simp] theorem K2z(x:Y7):List.take 2 (Uu x)=Uu x:=rfl
@[simp] theorem Jzq(x:Y7):(Ye x)[0]? = some (i64 x.Scale):=rfl
@[simp] theorem K11(x:Y7)(h:0<(Ye x).length):(Ye x)[0]=i64 x.Scale:=rfl
@[simp] theorem K14(x:Y7):(Ye x)[1]? = some (.us 1 (Ji x.Mult)):=rfl
@[simp] theorem Jzu(x:Y7)(h:1<(Ye x).length):(Ye x)[1] = .us 1 (Ji x.Mult):=rfl
@[simp] theorem K1x(x:Y7):List.take 2 (Ye x)=Ye x:=rfl
structure Yj where
 Coeff:Int
 Name:J9
deriving DecidableEq
def Xh(x:Yj):List AV:=[i64 x.Coeff,.str x.Name]
def Wm(x:Yj):List AV:=[i64 x.Coeff,.str x.Name]
@[simp] theorem Jes(x:Yj):Yw (Wm x)=Xh x:=by simp[Wm,Xh]
@[simp] theorem Jvs(l:List (Yj)):Yl (l.map Wm)=l.map Xh:=by rw[Wx,List.map_map];exact List.map_congr_left λx _=>Jes x
@[simp] theorem Jur(x:Yj):Uy (Wm x)=true:=by simp[Wm]
@[simp] theorem Jl9(l:List (Yj)):Wi (l.map Wm)=true:=by rw[Og];simp
@[simp] theorem K9m(x:Yj):(Xh x)[0]? = some (i64 x.Coeff):=rfl
@[simp] theorem Kaw(x:Yj)(h:0<(Xh x).length):(Xh x)[0]=i64 x.Coeff:=rfl
@[simp] theorem K9v(x:Yj):(Xh x)[1]? = some (.str x.Name):=rfl
@[simp] theorem Kb5(x:Yj)(h:1<(Xh x).length):(Xh x)[1] = .str x.Name:=rfl
@[simp] theorem Kcx(x:Yj):List.take 2 (Xh x)=Xh x:=rfl
@[simp] theorem Kam(x:Yj):(Wm x)[0]? = some (i64 x.Coeff):=rfl
@[simp] theorem Kb3(x:Yj)(h:0<(Wm x).length):(Wm x)[0]=i64 x.Coeff:=rfl
@[simp] theorem Kc0(x:Yj):(Wm x)[1]? = some (.str x.Name):=rfl
@[simp] theorem Kav(x:Yj)(h:1<(Wm x).length):(Wm x)[1] = .str x.Name:=rfl
@[simp] theorem Kcq(x:Yj):List.take 2 (Wm x)=Wm x:=rfl
def Vi(x:Yj):Nat:=x.Name.length
def Ey(l:List Yj):Nat:=wL Vi l
structure Xg where
 Const:Int
 Terms:List Yj
deriving DecidableEq
def Ks(x:Xg):List AV:=[i64 x.Const,.sl 2 (x.Terms.map Xh)]
def Ul(x:Xg):List AV:=[i64 x.Const,.us 2 (x.Terms.map Wm)]
@[simp] theorem Jit(x:Xg):Yw (Ul x)=Ks x:=by simp[Ul,Ks]
@[simp] theorem K0e(l:List (Xg)):Yl (l.map Ul)=l.map Ks:=by rw[Wx,List.map_map];exact List.map_congr_left λx _=>Jit x
@[simp] theorem Jvw(x:Xg):Uy (Ul x)=true:=by simp[Ul]
@[simp] theorem Jup(l:List (Xg)):Wi (l.map Ul)=true:=by rw[Og];simp
@[simp] theorem K1v(x:Xg):(Ks x).length=2:=by simp[Ks]
@[simp] theorem Kae(x:Xg)(h:J8):U5 (Ks x) h=some (Ks x):=by simp[Ks]
@[simp] theorem Kdl(x:Xg):(Ks x)[0]? = some (i64 x.Const):=rfl
@[simp] theorem Kd9(x:Xg)(h:0<(Ks x).length):(Ks x)[0]=i64 x.Const:=rfl
@[simp] theorem Kdg(x:Xg):(Ks x)[1]? = some (.sl 2 (x.Terms.map Xh)):=rfl
@[simp] theorem Ke1(x:Xg)(h:1<(Ks x).length):(Ks x)[1] = .sl 2 (x.Terms.map Xh):=rfl
@[simp] theorem Ken(x:Xg):List.take 2 (Ks x)=Ks x:=rfl
@[simp] theorem Ke0(x:Xg):(Ul x)[0]? = some (i64 x.Const):=rfl
@[simp] theorem Kdf(x:Xg)(h:0<(Ul x).length):(Ul x)[0]=i64 x.Const:=rfl
@[simp] theorem Kct(x:Xg):(Ul x)[1]? = some (.us 2 (x.Terms.map Wm)):=rfl
@[simp] theorem Kd3(x:Xg)(h:1<(Ul x).length):(Ul x)[1] = .us 2 (x.Terms.map Wm):=rfl
@[simp] theorem Kel(x:Xg):List.take 2 (Ul x)=Ul x:=rfl
def W1(x:Xg):Nat:=Ey x.Terms
def Wq(l:List Xg):Nat:=wL W1 l
structure Xe where
 Lst:Bool
 Heads:List Xg
 Base:J9
deriving DecidableEq
def Kn(x:Xe):List AV:=[.bool x.Lst,.sl 2 (x.Heads.map Ks),.str x.Base]
def Us(x:Xe):List AV:=[.bool x.Lst,.us 2 (x.Heads.map Ul),.str x.Base]
@[simp] theorem Jim(x:Xe):Yw (Us x)=Kn x:=by simp[Us,Kn]
@[simp] theorem K0v(l:List (Xe)):Yl (l.map Us)=l.map Kn:=by rw[Wx,List.map_map];exact List.map_congr_left λx _=>Jim x
@[simp] theorem Jwc(x:Xe):Uy (Us x)=true:=by simp[Us]
@[simp] theorem Juu(l:List (Xe)):Wi (l.map Us)=true:=by rw[Og];simp
@[simp] theorem K36(x:Xe):(Kn x).length=3:=by simp[Kn]
@[simp] theorem Kbp(x:Xe)(h:J8):U5 (Kn x) h=some (Kn x):=by simp[Kn]
@[simp] theorem Kd0(x:Xe):(Kn x)[0]? = some (.bool x.Lst):=rfl
@[simp] theorem Kdw(x:Xe)(h:0<(Kn x).length):(Kn x)[0] = .bool x.Lst:=rfl
@[simp] theorem Ke2(x:Xe):(Kn x)[1]? = some (.sl 2 (x.Heads.map Ks)):=rfl
@[simp] theorem Kcp(x:Xe)(h:1<(Kn x).length):(Kn x)[1] = .sl 2 (x.Heads.map Ks):=rfl
@[simp] theorem Kck(x:Xe):(Kn x)[2]? = some (.str x.Base):=rfl
@[simp] theorem Kdd(x:Xe)(h:2<(Kn x).length):(Kn x)[2] = .str x.Base:=rfl
@[simp] theorem Ker(x:Xe):List.take 3 (Kn x)=Kn x:=rfl
@[simp] theorem Kcl(x:Xe):(Us x)[0]? = some (.bool x.Lst):=rfl
@[simp] theorem Kcu(x:Xe)(h:0<(Us x).length):(Us x)[0] = .bool x.Lst:=rfl
@[simp] theorem Kdz(x:Xe):(Us x)[1]? = some (.us 2 (x.Heads.map Ul)):=rfl
@[simp] theorem Kdy(x:Xe)(h:1<(Us x).length):(Us x)[1] = .us 2 (x.Heads.map Ul):=rfl
@[simp] theorem Kcm(x:Xe):(Us x)[2]? = some (.str x.Base):=rfl
@[simp] theorem Kd6(x:Xe)(h:2<(Us x).length):(Us x)[2] = .str x.Base:=rfl
@[simp] theorem Kei(x:Xe):List.take 3 (Us x)=Us x:=rfl
def Uh(x:Xe):Nat:=Wq x.Heads+x.Base.length
def Bv(l:List Xe):Nat:=wL Uh l
structure K3 where
 Name:J9
 Params:List J9
 ListResult:Bool
 Pre:List Jc
deriving DecidableEq
def K5(x:K3):List AV:=[.str x.Name,.sl 1 (Jf x.Params),.bool x.ListResult,.sl 2 (x.Pre.map Jb)]
def Xr(x:K3):List AV:=[.str x.Name,.us 1 (Jf x.Params),.bool x.ListResult,.us 2 (x.Pre.map Ja)]
@[simp] theorem J66(x:K3):Yw (Xr x)=K5 x:=by simp[Xr,K5]
@[simp] theorem Jgp(l:List (K3)):Yl (l.map Xr)=l.map K5:=by rw[Wx,List.map_map];exact List.map_congr_left λx _=>J66 x
@[simp] theorem Jgo(x:K3):Uy (Xr x)=true:=by simp[Xr]
@[simp] theorem Jct(l:List (K3)):Wi (l.map Xr)=true:=by rw[Og];simp
@[simp] theorem Jgs(x:K3):(K5 x).all Kb=true:=by simp[K5]
@[simp] theorem Jjn(x:K3):(K5 x).length=4:=by simp[K5]
@[simp] theorem Jl1(x:K3)(h:J8):U5 (K5 x) h=some (K5 x):=by simp[K5]
@[simp] theorem Jul(x:K3):(K5 x)[0]? = some (.str x.Name):=rfl
@[simp] theorem Jv1(x:K3)(h:0<(K5 x).length):(K5 x)[0] = .str x.Name:=rfl
@[simp] theorem Juy(x:K3):(K5 x)[1]? = some (.sl 1 (Jf x.Params)):=rfl
@[simp] theorem Jv5(x:K3)(h:1<(K5 x).length):(K5 x)[1] = .sl 1 (Jf x.Params):=rfl
@[simp] theorem Jv7(x:K3):(K5 x)[2]? = some (.bool x.ListResult):=rfl
@[simp] theorem Jv4(x:K3)(h:2<(K5 x).length):(K5 x)[2] = .bool x.ListResult:=rfl
@[simp] theorem Jus(x:K3):(K5 x)[3]? = some (.sl 2 (x.Pre.map Jb)):=rfl
@[simp] theorem Juw(x:K3)(h:3<(K5 x).length):(K5 x)[3] = .sl 2 (x.Pre.map Jb):=rfl
@[simp] theorem Jwb(x:K3):List.take 4 (K5 x)=K5 x:=rfl
@[simp] theorem Juv(x:K3):(Xr x)[0]? = some (.str x.Name):=rfl
@[simp] theorem Juc(x:K3)(h:0<(Xr x).length):(Xr x)[0] = .str x.Name:=rfl
@[simp] theorem Jux(x:K3):(Xr x)[1]? = some (.us 1 (Jf x.Params)):=rfl
@[simp] theorem Jug(x:K3)(h:1<(Xr x).length):(Xr x)[1] = .us 1 (Jf x.Params):=rfl
@[simp] theorem Jv2(x:K3):(Xr x)[2]? = some (.bool x.ListResult):=rfl
@[simp] theorem Juj(x:K3)(h:2<(Xr x).length):(Xr x)[2] = .bool x.ListResult:=rfl
@[simp] theorem Juo(x:K3):(Xr x)[3]? = some (.us 2 (x.Pre.map Ja)):=rfl
@[simp] theorem Jv8(x:K3)(h:3<(Xr x).length):(Xr x)[3] = .us 2 (x.Pre.map Ja):=rfl
@[simp] theorem Jwf(x:K3):List.take 4 (Xr x)=Xr x:=rfl
def It(l:List J9):Nat:=wL List.length l
def Yr(x:K3):Nat:=x.Name.length+It x.Params+U9 x.Pre
def Qb(l:List K3):Nat:=wL Yr l
structure X4 where
 Lst:J9
 Cons:Bool
 Head:J9
 Tail:J9
deriving DecidableEq
def Kd(x:X4):List AV:=[.str x.Lst,.bool x.Cons,.str x.Head,.str x.Tail]
def Um(x:X4):List AV:=[.str x.Lst,.bool x.Cons,.str x.Head,.str x.Tail]
@[simp] theorem J7r(x:X4):Yw (Um x)=Kd x:=by simp[Um,Kd]
@[simp] theorem Jk1(l:List (X4)):Yl (l.map Um)=l.map Kd:=by rw[Wx,List.map_map];exact List.map_congr_left λx _=>J7r x
@[simp] theorem Jgx(x:X4):Uy (Um x)=true:=by simp[Um]
@[simp] theorem Jgn(l:List (X4)):Wi (l.map Um)=true:=by rw[Og];simp
@[simp] theorem Jky(x:X4):(Kd x).length=4:=by simp[Kd]
@[simp] theorem Jwe(x:X4):(Kd x)[0]? = some (.str x.Lst):=rfl
@[simp] theorem Jvz(x:X4)(h:0<(Kd x).length):(Kd x)[0] = .str x.Lst:=rfl
@[simp] theorem Jw5(x:X4):(Kd x)[1]? = some (.bool x.Cons):=rfl
@[simp] theorem Jw8(x:X4)(h:1<(Kd x).length):(Kd x)[1] = .bool x.Cons:=rfl
@[simp] theorem Jvg(x:X4):(Kd x)[2]? = some (.str x.Head):=rfl
@[simp] theorem Jvv(x:X4)(h:2<(Kd x).length):(Kd x)[2] = .str x.Head:=rfl
@[simp] theorem Jwh(x:X4):(Kd x)[3]? = some (.str x.Tail):=rfl
@[simp] theorem Jvp(x:X4)(h:3<(Kd x).length):(Kd x)[3] = .str x.Tail:=rfl
@[simp] theorem K0k(x:X4):List.take 4 (Kd x)=Kd x:=rfl
@[simp] theorem Jw1(x:X4):(Um x)[0]? = some (.str x.Lst):=rfl
@[simp] theorem Jvy(x:X4)(h:0<(Um x).length):(Um x)[0] = .str x.Lst:=rfl
@[simp] theorem Jwg(x:X4):(Um x)[1]? = some (.bool x.Cons):=rfl
@[simp] theorem Jve(x:X4)(h:1<(Um x).length):(Um x)[1] = .bool x.Cons:=rfl
@[simp] theorem Jvd(x:X4):(Um x)[2]? = some (.str x.Head):=rfl
@[simp] theorem Jw2(x:X4)(h:2<(Um x).length):(Um x)[2] = .str x.Head:=rfl
@[simp] theorem Jvr(x:X4):(Um x)[3]? = some (.str x.Tail):=rfl
@[simp] theorem Jwr(x:X4)(h:3<(Um x).length):(Um x)[3] = .str x.Tail:=rfl
@[simp] theorem K0u(x:X4):List.take 4 (Um x)=Um x:=rfl
def Qw(x:X4):Nat:=x.Lst.length+x.Head.length+x.Tail.length
def O9(l:List X4):Nat:=wL Qw l
structure Xq where
 Bind:J9
 Func:J9
 Args:List Xe
deriving DecidableEq
def X8(x:Xq):List AV:=[.str x.Bind,.str x.Func,.sl 3 (x.Args.map Kn)]
def W2(x:Xq):List AV:=[.str x.Bind,.str x.Func,.us 3 (x.Args.map Us)]
@[simp] theorem Jfg(x:Xq):Yw (W2 x)=X8 x:=by simp[W2,X8]
@[simp] theorem Jwq(l:List (Xq)):Yl (l.map W2)=l.map X8:=by rw[Wx,List.map_map];exact List.map_congr_left λx _=>Jfg x
@[simp] theorem Jv0(x:Xq):Uy (W2 x)=true:=by simp[W2]
@[simp] theorem Jld(l:List (Xq)):Wi (l.map W2)=true:=by rw[Og];simp
@[simp] theorem K0l(x:Xq):(X8 x).length=3:=by simp[X8]
@[simp] theorem K2a(x:Xq)(h:J8):U5 (X8 x) h=some (X8 x):=by simp[X8]
@[simp] theorem Kbi(x:Xq):(X8 x)[0]? = some (.str x.Bind):=rfl
@[simp] theorem Kbx(x:Xq)(h:0<(X8 x).length):(X8 x)[0] = .str x.Bind:=rfl
@[simp] theorem Kb9(x:Xq):(X8 x)[1]? = some (.str x.Func):=rfl
@[simp] theorem Kbv(x:Xq)(h:1<(X8 x).length):(X8 x)[1] = .str x.Func:=rfl
@[simp] theorem Kb1(x:Xq):(X8 x)[2]? = some (.sl 3 (x.Args.map Kn)):=rfl
@[simp] theorem Kb2(x:Xq)(h:2<(X8 x).length):(X8 x)[2] = .sl 3 (x.Args.map Kn):=rfl
@[simp] theorem Kdb(x:Xq):List.take 3 (X8 x)=X8 x:=rfl
@[simp] theorem K9u(x:Xq):(W2 x)[0]? = some (.str x.Bind):=rfl
@[simp] theorem K9e(x:Xq)(h:0<(W2 x).length):(W2 x)[0] = .str x.Bind:=rfl
@[simp] theorem Kbf(x:Xq):(W2 x)[1]? = some (.str x.Func):=rfl
@[simp] theorem Ka0(x:Xq)(h:1<(W2 x).length):(W2 x)[1] = .str x.Func:=rfl
@[simp] theorem K9z(x:Xq):(W2 x)[2]? = some (.us 3 (x.Args.map Us)):=rfl
@[simp] theorem Kby(x:Xq)(h:2<(W2 x).length):(W2 x)[2] = .us 3 (x.Args.map Us):=rfl
@[simp] theorem Kcn(x:Xq):List.take 3 (W2 x)=W2 x:=rfl
def Wh(x:Xq):Nat:=x.Bind.length+x.Func.length+Bv x.Args
def Gv(l:List Xq):Nat:=wL Wh l
structure K0 where
 Func:J9
 Patterns:List X4
 Guards:List Xg
 Calls:List Xq
 Result:Xe
deriving DecidableEq
def Ju(x:K0):List AV:=[.str x.Func,.sl 4 (x.Patterns.map Kd),.sl 2 (x.Guards.map Ks),.sl 3 (x.Calls.map X8),.bool x.Result.Lst,.sl 2 (x.Result.Heads.map Ks),.str x.Result.Base]
def Yh(x:K0):List AV:=[.str x.Func,.us 4 (x.Patterns.map Um),.us 2 (x.Guards.map Ul),.us 3 (x.Calls.map W2),.bool x.Result.Lst,.us 2 (x.Result.Heads.map Ul),.str x.Result.Base]
@[simp] theorem Jf9(x:K0):Yw (Yh x)=Ju x:=by simp[Yh,Ju]
@[simp] theorem Jvu(l:List (K0)):Yl (l.map Yh)=l.map Ju:=by rw[Wx,List.map_map];exact List.map_congr_left λx _=>Jf9 x
@[simp] theorem Juf(x:K0):Uy (Yh x)=true:=by simp[Yh]
@[simp] theorem Jle(l:List (K0)):Wi (l.map Yh)=true:=by rw[Og];simp
@[simp] theorem Jvc(x:K0):(Ju x).all Kb=true:=by simp[Ju]
@[simp] theorem K0q(x:K0):(Ju x).length=7:=by simp[Ju]
@[simp] theorem K33(x:K0)(h:J8):U5 (Ju x) h=some (Ju x):=by simp[Ju]
@[simp] theorem K9d(x:K0):(Ju x)[0]? = some (.str x.Func):=rfl
@[simp] theorem Kai(x:K0)(h:0<(Ju x).length):(Ju x)[0] = .str x.Func:=rfl
@[simp] theorem Kbd(x:K0):(Ju x)[1]? = some (.sl 4 (x.Patterns.map Kd)):=rfl
@[simp] theorem Kan(x:K0)(h:1<(Ju x).length):(Ju x)[1] = .sl 4 (x.Patterns.map Kd):=rfl
@[simp] theorem Kb0(x:K0):(Ju x)[2]? = some (.sl 2 (x.Guards.map Ks)):=rfl
@[simp] theorem K9c(x:K0)(h:2<(Ju x).length):(Ju x)[2] = .sl 2 (x.Guards.map Ks):=rfl
@[simp] theorem K9o(x:K0):(Ju x)[3]? = some (.sl 3 (x.Calls.map X8)):=rfl
@[simp] theorem K9x(x:K0)(h:3<(Ju x).length):(Ju x)[3] = .sl 3 (x.Calls.map X8):=rfl
@[simp] theorem Kbn(x:K0):(Ju x)[4]? = some (.bool x.Result.Lst):=rfl
@[simp] theorem Ka1(x:K0)(h:4<(Ju x).length):(Ju x)[4] = .bool x.Result.Lst:=rfl
@[simp] theorem Kbm(x:K0):(Ju x)[5]? = some (.sl 2 (x.Result.Heads.map Ks)):=rfl
@[simp] theorem K9h(x:K0)(h:5<(Ju x).length):(Ju x)[5] = .sl 2 (x.Result.Heads.map Ks):=rfl
@[simp] theorem Kad(x:K0):(Ju x)[6]? = some (.str x.Result.Base):=rfl
@[simp] theorem K9r(x:K0)(h:6<(Ju x).length):(Ju x)[6] = .str x.Result.Base:=rfl
@[simp] theorem Kd2(x:K0):List.take 7 (Ju x)=Ju x:=rfl
@[simp] theorem Jk6(x:K0):List.take 3 (List.drop 4 (Ju x))=Kn x.Result:=rfl
@[simp] theorem K9k(x:K0):(Yh x)[0]? = some (.str x.Func):=rfl
@[simp] theorem Kay(x:K0)(h:0<(Yh x).length):(Yh x)[0] = .str x.Func:=rfl
@[simp] theorem Kac(x:K0):(Yh x)[1]? = some (.us 4 (x.Patterns.map Um)):=rfl
@[simp] theorem Kbr(x:K0)(h:1<(Yh x).length):(Yh x)[1] = .us 4 (x.Patterns.map Um):=rfl
@[simp] theorem Kbu(x:K0):(Yh x)[2]? = some (.us 2 (x.Guards.map Ul)):=rfl
@[simp] theorem Kbe(x:K0)(h:2<(Yh x).length):(Yh x)[2] = .us 2 (x.Guards.map Ul):=rfl
@[simp] theorem Kaq(x:K0):(Yh x)[3]? = some (.us 3 (x.Calls.map W2)):=rfl
@[simp] theorem Kbh(x:K0)(h:3<(Yh x).length):(Yh x)[3] = .us 3 (x.Calls.map W2):=rfl
@[simp] theorem K9q(x:K0):(Yh x)[4]? = some (.bool x.Result.Lst):=rfl
@[simp] theorem Kau(x:K0)(h:4<(Yh x).length):(Yh x)[4] = .bool x.Result.Lst:=rfl
@[simp] theorem Kal(x:K0):(Yh x)[5]? = some (.us 2 (x.Result.Heads.map Ul)):=rfl
@[simp] theorem Kaf(x:K0)(h:5<(Yh x).length):(Yh x)[5] = .us 2 (x.Result.Heads.map Ul):=rfl
@[simp] theorem Kb8(x:K0):(Yh x)[6]? = some (.str x.Result.Base):=rfl
@[simp] theorem Kaz(x:K0)(h:6<(Yh x).length):(Yh x)[6] = .str x.Result.Base:=rfl
@[simp] theorem Kd1(x:K0):List.take 7 (Yh x)=Yh x:=rfl
@[simp] theorem Jjz(x:K0):List.take 3 (List.drop 4 (Yh x))=Us x.Result:=rfl
def Ub(x:K0):Nat:=x.Func.length+O9 x.Patterns+Wq x.Guards+Gv x.Calls+Uh x.Result
def Gx(l:List K0):Nat:=wL Ub l
structure Jo where
 Functions:List K3
 Rules:List K0
deriving DecidableEq
def Jg(x:Jo):List AV:=[.sl 4 (x.Functions.map K5),.sl 7 (x.Rules.map Ju)]
def Qh(x:Jo):List AV:=[.us 4 (x.Functions.map Xr),.us 7 (x.Rules.map Yh)]
@[simp] theorem Jl2(x:Jo):Yw (Qh x)=Jg x:=by simp[Qh,Jg]
@[simp] theorem Jk4(x:Jo):(Qh x).all Kb=true:=by simp[Qh]
@[simp] theorem Jju(x:Jo):(Jg x).all Kb=true:=by simp[Jg]
@[simp] theorem Rh(x:Jo):(Qh x).length=2:=by simp[Qh]
@[simp] theorem Jlc(x:Jo):(Jg x).length=2:=by simp[Jg]
@[simp] theorem Jut(x:Jo)(h:J8):U5 (Jg x) h=some (Jg x):=by simp[Jg]
@[simp] theorem Jvq(x:Jo):(Jg x)[0]? = some (.sl 4 (x.Functions.map K5)):=rfl
@[simp] theorem Jvk(x:Jo)(h:0<(Jg x).length):(Jg x)[0] = .sl 4 (x.Functions.map K5):=rfl
@[simp] theorem Jvl(x:Jo):(Jg x)[1]? = some (.sl 7 (x.Rules.map Ju)):=rfl
@[simp] theorem Jw4(x:Jo)(h:1<(Jg x).length):(Jg x)[1] = .sl 7 (x.Rules.map Ju):=rfl
@[simp] theorem K0r(x:Jo):List.take 2 (Jg x)=Jg x:=rfl
@[simp] theorem Jvo(x:Jo):(Qh x)[0]? = some (.us 4 (x.Functions.map Xr)):=rfl
@[simp] theorem Jvx(x:Jo)(h:0<(Qh x).length):(Qh x)[0] = .us 4 (x.Functions.map Xr):=rfl
@[simp] theorem Jw3(x:Jo):(Qh x)[1]? = some (.us 7 (x.Rules.map Yh)):=rfl
@[simp] theorem Jwo(x:Jo)(h:1<(Qh x).length):(Qh x)[1] = .us 7 (x.Rules.map Yh):=rfl
@[simp] theorem Jzt(x:Jo):List.take 2 (Qh x)=Qh x:=rfl
def X2(x:Jo):Nat:=Qb x.Functions+Gx x.Rules
structure X5 where
 System:Xx
 Params:List Jc
 Args:List (List Jc)
 Result:Jc
deriving DecidableEq
def Kz(x:X5):List AV:=[i64 x.System.N,.sl 2 (x.System.Rows.map Jb),.sl 2 (x.Params.map Jb),.sl 1 (x.Args.map Uo),i64 x.Result.Const,.sl 1 (Ji x.Result.Coeffs)]
def Ug(x:X5):List AV:=[i64 x.System.N,.us 2 (x.System.Rows.map Ja),.us 2 (x.Params.map Ja),.us 1 (x.Args.map Y3),i64 x.Result.Const,.us 1 (Ji x.Result.Coeffs)]
@[simp] theorem Jws(x:X5):Yw (Ug x)=Kz x:=by simp[Ug,Kz]
@[simp] theorem Jv3(x:X5):(Kz x).all Kb=true:=by simp[Kz]
@[simp] theorem Jvb(x:X5):(Kz x).length=6:=by simp[Kz]
@[simp] theorem K09(x:X5)(h:J8):U5 (Kz x) h=some (Kz x):=by simp[Kz]
@[simp] theorem K32(x:X5):(Kz x)[0]? = some (i64 x.System.N):=rfl
@[simp] theorem K1o(x:X5)(h:0<(Kz x).length):(Kz x)[0]=i64 x.System.N:=rfl
@[simp] theorem K1w(x:X5):(Kz x)[1]? = some (.sl 2 (x.System.Rows.map Jb)):=rfl
@[simp] theorem K3w(x:X5)(h:1<(Kz x).length):(Kz x)[1] = .sl 2 (x.System.Rows.map Jb):=rfl
@[simp] theorem K1g(x:X5):(Kz x)[2]? = some (.sl 2 (x.Params.map Jb)):=rfl
@[simp] theorem K19(x:X5)(h:2<(Kz x).length):(Kz x)[2] = .sl 2 (x.Params.map Jb):=rfl
@[simp] theorem K3u(x:X5):(Kz x)[3]? = some (.sl 1 (x.Args.map Uo)):=rfl
@[simp] theorem K3h(x:X5)(h:3<(Kz x).length):(Kz x)[3] = .sl 1 (x.Args.map Uo):=rfl
@[simp] theorem K27(x:X5):(Kz x)[4]? = some (i64 x.Result.Const):=rfl
@[simp] theorem K1u(x:X5)(h:4<(Kz x).length):(Kz x)[4]=i64 x.Result.Const:=rfl
@[simp] theorem K3e(x:X5):(Kz x)[5]? = some (.sl 1 (Ji x.Result.Coeffs)):=rfl
@[simp] theorem K1m(x:X5)(h:5<(Kz x).length):(Kz x)[5] = .sl 1 (Ji x.Result.Coeffs):=rfl
@[simp] theorem Ka8(x:X5):List.take 6 (Kz x)=Kz x:=rfl
@[simp] theorem Jgt(x:X5):List.take 2 (Kz x)=Ky x.System:=rfl
@[simp] theorem Jgv(x:X5):List.take 2 (List.drop 4 (Kz x))=Jb x.Result:=rfl
@[simp] theorem K2w(x:X5):(Ug x)[0]? = some (i64 x.System.N):=rfl
@[simp] theorem K1q(x:X5)(h:0<(Ug x).length):(Ug x)[0]=i64 x.System.N:=rfl
@[simp] theorem K22(x:X5):(Ug x)[1]? = some (.us 2 (x.System.Rows.map Ja)):=rfl
@[simp] theorem K2h(x:X5)(h:1<(Ug x).length):(Ug x)[1] = .us 2 (x.System.Rows.map Ja):=rfl
@[simp] theorem K1d(x:X5):(Ug x)[2]? = some (.us 2 (x.Params.map Ja)):=rfl
@[simp] theorem K38(x:X5)(h:2<(Ug x).length):(Ug x)[2] = .us 2 (x.Params.map Ja):=rfl
@[simp] theorem K25(x:X5):(Ug x)[3]? = some (.us 1 (x.Args.map Y3)):=rfl
@[simp] theorem K3p(x:X5)(h:3<(Ug x).length):(Ug x)[3] = .us 1 (x.Args.map Y3):=rfl
@[simp] theorem K1k(x:X5):(Ug x)[4]? = some (i64 x.Result.Const):=rfl
@[simp] theorem K3s(x:X5)(h:4<(Ug x).length):(Ug x)[4]=i64 x.Result.Const:=rfl
@[simp] theorem K2y(x:X5):(Ug x)[5]? = some (.us 1 (Ji x.Result.Coeffs)):=rfl
@[simp] theorem K2u(x:X5)(h:5<(Ug x).length):(Ug x)[5] = .us 1 (Ji x.Result.Coeffs):=rfl
@[simp] theorem K9y(x:X5):List.take 6 (Ug x)=Ug x:=rfl
@[simp] theorem Jgu(x:X5):List.take 2 (Ug x)=I7 x.System:=rfl
@[simp] theorem Jgr(x:X5):List.take 2 (List.drop 4 (Ug x))=Ja x.Result:=rfl
def D3(l:List (List Jc)):Nat:=wL U9 l
structure X1 where
 System:Xx
 Target:Jc
deriving DecidableEq
def Wr(x:X1):List AV:=[i64 x.System.N,.sl 2 (x.System.Rows.map Jb),i64 x.Target.Const,.sl 1 (Ji x.Target.Coeffs)]
def Kv(x:X1):List AV:=[i64 x.System.N,.us 2 (x.System.Rows.map Ja),i64 x.Target.Const,.us 1 (Ji x.Target.Coeffs)]
@[simp] theorem J44(x:X1):Yw (Kv x)=Wr x:=by simp[Kv,Wr]
@[simp] theorem Jcu(l:List (X1)):Yl (l.map Kv)=l.map Wr:=by rw[Wx,List.map_map];exact List.map_congr_left λx _=>J44 x
@[simp] theorem Jcs(x:X1):Uy (Kv x)=true:=by simp[Kv]
@[simp] theorem J1k(l:List (X1)):Wi (l.map Kv)=true:=by rw[Og];simp
@[simp] theorem Jjq(x:X1):(Wr x)[0]? = some (i64 x.System.N):=rfl
@[simp] theorem Jk0(x:X1)(h:0<(Wr x).length):(Wr x)[0]=i64 x.System.N:=rfl
@[simp] theorem Jk3(x:X1):(Wr x)[1]? = some (.sl 2 (x.System.Rows.map Jb)):=rfl
@[simp] theorem Jjv(x:X1)(h:1<(Wr x).length):(Wr x)[1] = .sl 2 (x.System.Rows.map Jb):=rfl
@[simp] theorem Jk7(x:X1):(Wr x)[2]? = some (i64 x.Target.Const):=rfl
@[simp] theorem Jjw(x:X1)(h:2<(Wr x).length):(Wr x)[2]=i64 x.Target.Const:=rfl
@[simp] theorem Jjo(x:X1):(Wr x)[3]? = some (.sl 1 (Ji x.Target.Coeffs)):=rfl
@[simp] theorem Jjx(x:X1)(h:3<(Wr x).length):(Wr x)[3] = .sl 1 (Ji x.Target.Coeffs):=rfl
@[simp] theorem Jl3(x:X1):List.take 4 (Wr x)=Wr x:=rfl
@[simp] theorem Ja2(x:X1):List.take 2 (Wr x)=Ky x.System:=rfl
@[simp] theorem Ja5(x:X1):List.take 2 (List.drop 2 (Wr x))=Jb x.Target:=rfl
@[simp] theorem Jk8(x:X1):(Kv x)[0]? = some (i64 x.System.N):=rfl
@[simp] theorem Jk5(x:X1)(h:0<(Kv x).length):(Kv x)[0]=i64 x.System.N:=rfl
@[simp] theorem Jjy(x:X1):(Kv x)[1]? = some (.us 2 (x.System.Rows.map Ja)):=rfl
@[simp] theorem Jjt(x:X1)(h:1<(Kv x).length):(Kv x)[1] = .us 2 (x.System.Rows.map Ja):=rfl
@[simp] theorem Jk2(x:X1):(Kv x)[2]? = some (i64 x.Target.Const):=rfl
@[simp] theorem Jjg(x:X1)(h:2<(Kv x).length):(Kv x)[2]=i64 x.Target.Const:=rfl
@[simp] theorem Jjk(x:X1):(Kv x)[3]? = some (.us 1 (Ji x.Target.Coeffs)):=rfl
@[simp] theorem Jji(x:X1)(h:3<(Kv x).length):(Kv x)[3] = .us 1 (Ji x.Target.Coeffs):=rfl
@[simp] theorem Jlf(x:X1):List.take 4 (Kv x)=Kv x:=rfl
@[simp] theorem Ja4(x:X1):List.take 2 (Kv x)=I7 x.System:=rfl
@[simp] theorem Ja3(x:X1):List.take 2 (List.drop 2 (Kv x))=Ja x.Target:=rfl
structure Rx where
 Kind:Int
 Lins:List Jc
deriving DecidableEq
structure Xn where
 Rule:Int
 Call:Int
deriving DecidableEq
def Kr(x:Xn):List AV:=[i64 x.Rule,i64 x.Call]
def Yd(x:Xn):List AV:=[i64 x.Rule,i64 x.Call]
@[simp] theorem Jf2(x:Xn):Yw (Yd x)=Kr x:=by simp[Yd,Kr]
@[simp] theorem Jvn(l:List (Xn)):Yl (l.map Yd)=l.map Kr:=by rw[Wx,List.map_map];exact List.map_congr_left λx _=>Jf2 x
@[simp] theorem Jud(x:Xn):Uy (Yd x)=true:=by simp[Yd]
@[simp] theorem Jlb(l:List (Xn)):Wi (l.map Yd)=true:=by rw[Og];simp
@[simp] theorem Jvh(x:Xn):(Kr x).all Kb=true:=by simp[Kr]
@[simp] theorem K0g(x:Xn):(Kr x).length=2:=by simp[Kr]
@[simp] theorem K39(x:Xn)(h:J8):U5 (Kr x) h=some (Kr x):=by simp[Kr]
@[simp] theorem Kba(x:Xn):(Kr x)[0]? = some (i64 x.Rule):=rfl
@[simp] theorem Kbw(x:Xn)(h:0<(Kr x).length):(Kr x)[0]=i64 x.Rule:=rfl
@[simp] theorem Kaj(x:Xn):(Kr x)[1]? = some (i64 x.Call):=rfl
@[simp] theorem K9p(x:Xn)(h:1<(Kr x).length):(Kr x)[1]=i64 x.Call:=rfl
@[simp] theorem Kdo(x:Xn):List.take 2 (Kr x)=Kr x:=rfl
@[simp] theorem Kbb(x:Xn):(Yd x)[0]? = some (i64 x.Rule):=rfl
@[simp] theorem K9j(x:Xn)(h:0<(Yd x).length):(Yd x)[0]=i64 x.Rule:=rfl
@[simp] theorem Ka6(x:Xn):(Yd x)[1]? = some (i64 x.Call):=rfl
@[simp] theorem K9g(x:Xn)(h:1<(Yd x).length):(Yd x)[1]=i64 x.Call:=rfl
@[simp] theorem Kd7(x:Xn):List.take 2 (Yd x)=Yd x:=rfl
structure Xk where
 Levels:List (List Jc)
 Edges:List Int
deriving DecidableEq
def X3(x:Xk):List AV:=[.sl 1 (x.Levels.map Uo),.sl 1 (Ji x.Edges)]
def Qx(x:Xk):List AV:=[.us 1 (x.Levels.map Y3),.us 1 (Ji x.Edges)]
@[simp] theorem Jl8(x:Xk):Yw (Qx x)=X3 x:=by simp[Qx,X3]
@[simp] theorem Jjs(x:Xk):(Qx x).all Kb=true:=by simp[Qx]
@[simp] theorem Jjl(x:Xk):(X3 x).all Kb=true:=by simp[X3]
@[simp] theorem Sk(x:Xk):(Qx x).length=2:=by simp[Qx]
@[simp] theorem Jl7(x:Xk):(X3 x).length=2:=by simp[X3]
@[simp] theorem Juz(x:Xk)(h:J8):U5 (X3 x) h=some (X3 x):=by simp[X3]
@[simp] theorem Jwt(x:Xk):(X3 x)[0]? = some (.sl 1 (x.Levels.map Uo)):=rfl
@[simp] theorem Jw7(x:Xk)(h:0<(X3 x).length):(X3 x)[0] = .sl 1 (x.Levels.map Uo):=rfl
@[simp] theorem Jwu(x:Xk):(X3 x)[1]? = some (.sl 1 (Ji x.Edges)):=rfl
@[simp] theorem Jw0(x:Xk)(h:1<(X3 x).length):(X3 x)[1] = .sl 1 (Ji x.Edges):=rfl
@[simp] theorem K0z(x:Xk):List.take 2 (X3 x)=X3 x:=rfl
@[simp] theorem Jvt(x:Xk):(Qx x)[0]? = some (.us 1 (x.Levels.map Y3)):=rfl
@[simp] theorem Jwd(x:Xk)(h:0<(Qx x).length):(Qx x)[0] = .us 1 (x.Levels.map Y3):=rfl
@[simp] theorem Jvm(x:Xk):(Qx x)[1]? = some (.us 1 (Ji x.Edges)):=rfl
@[simp] theorem Jwk(x:Xk)(h:1<(Qx x).length):(Qx x)[1] = .us 1 (Ji x.Edges):=rfl
@[simp] theorem K01(x:Xk):List.take 2 (Qx x)=Qx x:=rfl
def Gw(x:Xk):Nat:=D3 x.Levels+Dk x.Edges
end Go.Proofs.YtoclolkigjbcgaaGreat
namespace Go.Proofs.YtoclolkigjbcgaaGreat
set_option linter.all false
open Go Go.RowKit
attribute [simp] Nn C4 G2
@[simp] theorem Kb6{h:J8}{K:AV->J8->Nat->Prop}{r:AV}{n:Nat} : hK h K r h n=K r h n:=by simp[hK,Y6.refl]
mutual
def Ei:AV->Prop
 | .sl _ rows=>rows.length<=Jd
 | .us _ rows=>rows.length<=Jd
 | .str l=>l.length<=Jd
 | .agg cs=>Ev cs
 | .tup cs=>Ev cs
 | .undef | .int .. | .bool _ | .nil _ | .nilp | .ptr .. | .fptr .. | .ref .. | .fn .. | .mp _=>True
def Ev:List AV->Prop
 | []=>True
 |a::as=>Ei a/\Ev as
end
section
variable {w:World}{L:Nat->Option Jz}{N:Nat}
mutual
theorem Jzb:∀(a:AV) (v:Value) (S:List Nat),VR w L N a v S->Ei a
 | .sl ..,_,_,h=>by
  simp only[VR]at h;obtain⟨⟨A,cap,vals,_,hl,_⟩,_⟩:=h
  simp only[Ei];exact hl.1
 | .us ..,_,_,h=>by simp only[VR]at h;simp only[Ei];exact h.1
 | .str _,_,_,h=>by
  simp only[VR]at h;obtain⟨⟨b,_,_,hl⟩,_⟩:=h
  simp only[Ei];exact hl
 | .agg cs,_,_,h=>by simp only[VR]at h;obtain⟨vs,_,h⟩:=h;simp only[Ei];exact R3 cs _ _ h
 | .tup cs,_,_,h=>by simp only[VR]at h;obtain⟨vs,_,h⟩:=h;simp only[Ei];exact R3 cs _ _ h
 | .undef,_,_,_ | .int ..,_,_,_ | .bool _,_,_,_ | .nil _,_,_,_ | .nilp,_,_,_ | .ptr ..,_,_,_ | .fptr ..,_,_,_ | .ref ..,_,_,_ | .fn ..,_,_,_ | .mp _,_,_,_=>by simp only[Ei]
theorem R3:∀(as:List AV) (vs:List Value) (S:List Nat),Jw w L N as vs S->Ev as
 | [],_,_,_=>by simp only[Ev]
 |a::as,_,_,h=>by simp only[Jw]at h;obtain⟨v,vs',S1,S2,_,_,h1,h2⟩:=h;simp only[Ev];exact⟨Jzb a _ _ h1,R3 as _ _ h2⟩
end
end
theorem Vm{P:Program}{f:FuncId}{fn:Func}{as:List AV}{Q:AV->Prop}(hf:P.funcs[f]? = some fn)(hb:fn.body.isSome=true) (hn:(fn.name == "runtime.NumGoroutine")=false) (h:Ev as->Holds P f as Q):Holds P f as Q:=
 ⟨by simp[Eg,hf,hb,hn],λw vs hv=>(h (R3 as vs [] hv)).2 w vs hv⟩
attribute [simp] Ei Ev
theorem P8{P:Program}{K K':Jm->J8->Nat->Prop}(hk:∀s h n,K s h n->K' s h n):∀{os:List AO}{s:Jm}{h:J8}{n:Nat},Qm P os s h n K->Qm P os s h n K'
 | [],s,h,n,hw=>hk s h n hw
 |o::os,s,h,n,hw=>by
  simp only[Qm]at hw⊢
  cases hg:o.g with
  |none=>rw[hg]at hw;exact Fm hw λ_ _ _ h=>P8 hk h
  |some p=>
   obtain⟨j,want⟩:=p;rw[hg]at hw;simp only at hw⊢;cases hs:s j <;>rw[hs]at hw <;>try exact hw.elim
   ·exact⟨λe=>Fm (hw.1 e) λ_ _ _ h=>P8 hk h,λe=>P8 hk (hw.2 e)⟩
   ·rename_i vs;cases vs
    ·exact P8 hk hw
    ·exact hw.elim
theorem So{P:Program}{s:Jm}{h:J8}{n:Nat}{K K':AV->J8->Nat->Prop}{op:Y2}(hw:Xv P s h n K op)(hk:∀r h n,K r h n->K' r h n):Xv P s h n K' op:=by
 unfold Xv at hw⊢;split at hw
 ·split at hw
  ·rename_i hf;try simp only[hf]
   exact X9.mono hw λ_ _ _ h=>⟨h.1,hk _ _ _ h.2⟩
  ·exact hw.elim
 ·split at hw
  ·exact hk _ _ _ hw
  ·exact hk _ _ _ hw
  ·exact⟨hw.1,hk _ _ _ hw.2⟩
  ·exact hk _ _ _ hw
  ·exact hw.elim
 ·exact Fm hw hk
theorem Bi{P:Program}{K K':Jm->J8->Nat->Prop}(hk:∀s h n,K s h n->K' s h n):∀{t:DT}{s:Jm}{h:J8}{n:Nat},Yp P t s h n K->Yp P t s h n K'
 | .fin,s,h,n,hw=>hk s h n hw
 | .stuck,_,_,_,hw=>hw.elim
 | .both a b,s,h,n,hw=>⟨Bi hk hw.1,Bi hk hw.2⟩
 | .op o t,s,h,n,hw=>by
  simp only[Yp]at hw⊢
  cases hg:o.g with
  |none=>rw[hg]at hw;exact So hw λ_ _ _ h=>Bi hk h
  |some p=>
   obtain⟨j,want⟩:=p;rw[hg]at hw;simp only at hw⊢;cases hs:s j <;>rw[hs]at hw <;>try exact hw.elim
   ·exact⟨λe=>So (hw.1 e) λ_ _ _ h=>Bi hk h,λe=>Bi hk (hw.2 e)⟩
   ·rename_i vs;cases vs
    ·exact Bi hk hw
    ·exact hw.elim
 | .hop o ps t,s,h,n,hw=>by
  simp only[Yp]at hw⊢
  cases hg:o.g with
  |none=>rw[hg]at hw;exact So hw λ_ _ _ h=>⟨h.1,Bi hk h.2⟩
  |some p=>
   obtain⟨j,want⟩:=p;rw[hg]at hw;simp only at hw⊢;cases hs:s j <;>rw[hs]at hw <;>try exact hw.elim
   ·exact⟨λe=>So (hw.1 e) λ_ _ _ h=>⟨h.1,Bi hk h.2⟩,λe=>Bi hk (hw.2 e)⟩
   ·rename_i vs;cases vs
    ·exact Bi hk hw
    ·exact hw.elim
theorem Pj{P:Program} : ∀{a:AC}{s:Jm}{h:J8}{n:Nat}{Q Q':Xb},Ie P a s h n Q->(∀e s h n,Q e s h n->Q' e s h n)->Ie P a s h n Q':=by
 intro a
 induction a with
 |skip=>intro s h n Q Q' hw hq;exact hq _ _ _ _ hw
 |reg os=>intro s h n Q Q' hw hq;exact P8 (hq .normal) hw
 |seq a b iha ihb=>
  intro s h n Q Q' hw hq;refine iha hw λe s h n hh=>?_
  cases e
  ·exact ihb hh hq
  ·exact hq _ _ _ _ hh
  ·exact hq _ _ _ _ hh
 |cond c a b iha ihb=>
  intro s h n Q Q' hw hq;simp only[Ie]at hw⊢;split at hw
  ·exact⟨λe=>iha (hw.1 e) hq,λe=>ihb (hw.2 e) hq⟩
  ·exact hw.elim
 |blk id a iha=>
  intro s h n Q Q' hw hq;refine iha hw λe s h n hh=>?_
  cases e
  ·exact hq _ _ _ _ hh
  ·simp only at hh⊢;split
   ·rename_i hx;rw[if_pos hx]at hh;exact hq _ _ _ _ hh
   ·rename_i hx;rw[if_neg hx]at hh;exact hq _ _ _ _ hh
  ·exact hq _ _ _ _ hh
 |loop a iha=>
  intro s h n Q Q' hw hq;obtain⟨I,h0,hs⟩:=hw;refine⟨I,h0,λk s h n hi=>iha (hs k s h n hi) λe s h n hh=>?_⟩;cases e
  ·exact hh
  ·exact hq _ _ _ _ hh
  ·exact hq _ _ _ _ hh
 |exit id=>intro s h n Q Q' hw hq;exact hq _ _ _ _ hw
 |ret=>intro s h n Q Q' hw hq;exact hq _ _ _ _ hw
 |draw t=>intro s h n Q Q' hw hq;exact Bi (hq .normal) hw
@[simp ↓ high] theorem J5w{P:Program}{ks:List Kt}{s:Jm}{h:J8}{n:Nat}{Q:Xb}{c:Jy}{a b:AC}(hc:ev s c = .bool true):rC P (.cond c a b) ks s h n Q=rC P a ks s h n Q:=by rw[C5,hc];simp
@[simp ↓ high] theorem Jbj{P:Program}{ks:List Kt}{s:Jm}{h:J8}{n:Nat}{Q:Xb}{c:Jy}{a b:AC}(hc:ev s c = .bool false):rC P (.cond c a b) ks s h n Q=rC P b ks s h n Q:=by rw[C5,hc];simp
section
variable {P:Program}{s:Jm}{h:J8}{n:Nat}{ks:List Kt}{Q:Xb}{a:AC}
def N5(P:Program)(ks:List Kt)(Q:Xb)(keep:List Nat)(s0:Jm)(ic i:Nat)(J:Nat->Jm->J8->Nat->Prop):Xb:=λe s h n=>match e with
 | .normal=>(∀j∈keep,s j=s0 j)/\s ic = .int .i64 ((i:Int)+1)/\J (i+1) s h n
 |e=>Jt P ks e s h n Q
def Td(P:Program)(ks:List Kt)(Q:Xb):Xb:=λe s h n=>match e with
 | .normal=>False
 |e=>Jt P ks e s h n Q
@[simp ↓] theorem Juh{keep:List Nat}{s0 s':Jm}{ic i:Nat}{J:Nat->Jm->J8->Nat->Prop}{h':J8}{n':Nat} : N5 P ks Q keep s0 ic i J .normal s' h' n'=((∀j∈keep,s' j=s0 j)/\s' ic = .int .i64 ((i:Int)+1)/\J (i+1) s' h' n'):=propext Iff.rfl
@[simp ↓] theorem K1j{keep:List Nat}{s0 s':Jm}{ic i:Nat}{J:Nat->Jm->J8->Nat->Prop}{h':J8}{n':Nat} : N5 P ks Q keep s0 ic i J .ret s' h' n'=Jt P ks .ret s' h' n' Q:=propext Iff.rfl
@[simp ↓] theorem K0h{keep:List Nat}{s0 s':Jm}{ic i x:Nat}{J:Nat->Jm->J8->Nat->Prop}{h':J8}{n':Nat} : N5 P ks Q keep s0 ic i J (.exit x) s' h' n'=Jt P ks (.exit x) s' h' n' Q:=propext Iff.rfl
@[simp ↓] theorem K26{s':Jm}{h':J8}{n':Nat} : Td P ks Q .ret s' h' n'=Jt P ks .ret s' h' n' Q:=propext Iff.rfl
@[simp ↓] theorem Jzy{x:Nat}{s':Jm}{h':J8}{n':Nat} : Td P ks Q (.exit x) s' h' n'=Jt P ks (.exit x) s' h' n' Q:=propext Iff.rfl
theorem Jec(keep:List Nat)(ic N:Nat)(J:Nat->Jm->J8->Nat->Prop)(hN:N<=Jd)(hi0:s ic = .int .i64 0)(hJ0:J 0 s h n)
 (hstep:∀i s' h' n',i<N->¬N<=i->(∀j∈keep,s' j=s j)->s' ic = .int .i64 (i:Int)->IntKind.i64.wrap ((i:Int)+1)=(i:Int)+1->J i s' h' n'->rC P a [] s' h' n' (N5 P ks Q keep s ic i J))
 (hend:∀s' h' n',(∀j∈keep,s' j=s j)->s' ic = .int .i64 (N:Int)->J N s' h' n'->rC P a [] s' h' n' (Td P ks Q)):rL P a ks s h n Q:=by
 refine O0 (λk s' h' n'=>∃i:Nat,k=N - i/\i<=N/\(∀j∈keep,s' j=s j)/\s' ic = .int .i64 (i:Int)/\J i s' h' n') N ⟨0,by simp,Nat.zero_le _,λ_ _=>rfl,hi0,hJ0⟩ ?_;rintro k s' h' n' ⟨i,rfl,hi,hk,hic,hJ⟩;unfold Jd at hN;by_cases hlt:i<N
 ·have:=hstep i s' h' n' hlt (by omega) hk hic (Km (by omega)) hJ;unfold rC at this⊢;refine Pj this ?_;intro e s2 h2 n2 hq;cases e
  ·obtain⟨q1,q2,q3⟩:=hq;exact⟨N - (i+1),by omega,i+1,rfl,by omega,q1,q2,q3⟩
  ·exact hq
  ·exact hq
 ·have hiN:i=N:=by omega
  subst hiN;have:=hend s' h' n' hk hic hJ;unfold rC at this⊢;refine Pj this ?_;intro e s2 h2 n2 hq;cases e
  ·exact hq.elim
  ·exact hq
  ·exact hq
theorem Jkq(keep:List Nat)(ic N:Nat)(J:Nat->Jm->Prop)(hN:N<=Jd)(hi0:s ic = .int .i64 0)(hJ0:J 0 s)
 (hstep:∀i s',i<N->¬N<=i->(∀j∈keep,s' j=s j)->s' ic = .int .i64 (i:Int)->IntKind.i64.wrap ((i:Int)+1)=(i:Int)+1->J i s'->rC P a [] s' h n (N5 P ks Q keep s ic i λi s' h' n'=>J i s'/\h'=h/\n'=n))
 (hend:∀s',(∀j∈keep,s' j=s j)->s' ic = .int .i64 (N:Int)->J N s'->rC P a [] s' h n (Td P ks Q)):rL P a ks s h n Q:=by
 refine Jec keep ic N (λi s' h' n'=>J i s'/\h'=h/\n'=n) hN hi0 ⟨hJ0,rfl,rfl⟩ ?_ ?_
 ·rintro i s' h' n' hi hg hk hic hw ⟨hJ,rfl,rfl⟩;exact hstep i s' hi hg hk hic hw hJ
 ·rintro s' h' n' hk hic ⟨hJ,rfl,rfl⟩;exact hend s' hk hic hJ
theorem Ka(keep:List Nat)(ic N:Nat)(J:Nat->Jm->J8->Nat->Prop)(hN:N<=Jd)(hi0:s ic = .int .i64 0)(hJ0:J 0 s h n)
 (hstep:∀i s' h' n' (R:Xb),i<N->¬N<=i->(∀j∈keep,s' j=s j)->s' ic = .int .i64 (i:Int)->IntKind.i64.wrap ((i:Int)+1)=(i:Int)+1->J i s' h' n' ->
  (∀s'' h'' n'',(∀j∈keep,s'' j=s j)->s'' ic = .int .i64 ((i:Int)+1)->J (i+1) s'' h'' n''->R .normal s'' h'' n'') ->
  (∀s'' h'' n'',Jt P ks .ret s'' h'' n'' Q->R .ret s'' h'' n'')->(∀x s'' h'' n'',Jt P ks (.exit x) s'' h'' n'' Q->R (.exit x) s'' h'' n'')->rC P a [] s' h' n' R)
 (hend:∀s' h' n' (R:Xb),(∀j∈keep,s' j=s j)->s' ic = .int .i64 (N:Int)->J N s' h' n' ->
  (∀s'' h'' n'',Jt P ks .ret s'' h'' n'' Q->R .ret s'' h'' n'')->(∀x s'' h'' n'',Jt P ks (.exit x) s'' h'' n'' Q->R (.exit x) s'' h'' n'')->rC P a [] s' h' n' R):rL P a ks s h n Q:=by
 refine Jec keep ic N J hN hi0 hJ0 ?_ ?_
 ·intro i s' h' n' hi hg hk hic hw hJ;exact hstep i s' h' n' _ hi hg hk hic hw hJ (λ_ _ _ h1 h2 h3=>⟨h1,h2,h3⟩) (λ_ _ _ h=>h) (λ_ _ _ _ h=>h)
 ·intro s' h' n' hk hic hJ;exact hend s' h' n' _ hk hic hJ (λ_ _ _ h=>h) (λ_ _ _ _ h=>h)
theorem O7(keep:List Nat)(ic N:Nat)(J:Nat->Jm->Prop)(hN:N<=Jd)(hi0:s ic = .int .i64 0)(hJ0:J 0 s)
 (hstep:∀i s' h' (R:Xb),i<N->¬N<=i->(∀j∈keep,s' j=s j)->s' ic = .int .i64 (i:Int)->IntKind.i64.wrap ((i:Int)+1)=(i:Int)+1->J i s'->(∀id,h' id=h id) ->
  (∀s'',(∀j∈keep,s'' j=s j)->s'' ic = .int .i64 ((i:Int)+1)->J (i+1) s''->R .normal s'' h' n) ->
  (∀s'' h'' n'',Jt P ks .ret s'' h'' n'' Q->R .ret s'' h'' n'')->(∀x s'',Jt P ks (.exit x) s'' h n Q->R (.exit x) s'' h' n)->rC P a [] s' h' n R)
 (hend:∀s' h' (R:Xb),(∀j∈keep,s' j=s j)->s' ic = .int .i64 (N:Int)->J N s'->(∀id,h' id=h id) ->
  (∀s'' h'' n'',Jt P ks .ret s'' h'' n'' Q->R .ret s'' h'' n'')->(∀x s'',Jt P ks (.exit x) s'' h n Q->R (.exit x) s'' h' n)->rC P a [] s' h' n R):rL P a ks s h n Q:=by
 refine Jkq keep ic N J hN hi0 hJ0 ?_ ?_
 ·intro i s' hi hg hk hic hw hJ;exact hstep i s' h _ hi hg hk hic hw hJ (λ_=>rfl) (λ_ h1 h2 h3=>⟨h1,h2,h3,rfl,rfl⟩) (λ_ _ _ h=>h) (λ_ _ h=>h)
 ·intro s' hk hic hJ;exact hend s' h _ hk hic hJ (λ_=>rfl) (λ_ _ _ h=>h) (λ_ _ h=>h)
end
end Go.Proofs.YtoclolkigjbcgaaGreat

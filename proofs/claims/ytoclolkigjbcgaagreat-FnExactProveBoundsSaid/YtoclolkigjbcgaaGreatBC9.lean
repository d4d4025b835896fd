/- Contracts: expressions carried over a call; differences. -/
import Derived.Test.YtoclolkigjbcgaaGreatBC1
import Derived.Test.YtoclolkigjbcgaaGreatBC13
namespace Go.Proofs.YtoclolkigjbcgaaGreat
open Tryz(prog)
open List(map_cons mem_cons mem_map append_nil foldl_cons mem_cons_self mem_cons_of_mem all_eq_true mem_replicate range_succ nil_append map_nil replicate_succ take_of_length_le append_assoc nodup_cons length_cons mem_append_left mem_append drop_eq_nil_of_le drop_eq_getElem_cons nodup_append)
set_option maxRecDepth 40000
set_option maxHeartbeats 4000000
open Go Go.RowKit Go.Proofs
set_option linter.all false
def a191:Jk:= ⟨29,[(.c 6 true 2),.t 7],(Zq [ZB 3 0,Zo 6 (.box [(.int .i64 0),(.nil 1)]),Zt 7 false] (.seq (Zq [Zv 8 1,Zn 9 8,Zk 10 .gtr 9 0] (.cond (.t 10) (Zq [Zl 11 true 2 3,Zv 12 1,Zc 13 272 [.t 11,.t 12],Ze 14 13 0,Ze 15 13 1,⟨no,.st 2 (.t 6) (.t 14),no⟩,Zv 7 15] .ret) .skip)) (.seq (Zq [Zl 16 true 2 3,Zc 17 146 [.t 16,(.k (.int .i64 0))],ZN 18 17,Zv 19 18,Zg 20 19 false (.mv (.t 2)),Zg 21 19 false (.call (.k (.fn (.func 102) [] [])) [.t 20,(.k (.int .i64 0)),(.k (.int .i64 8))]),Zg 22 19 false (.un .not (.t 21)),ZP 23 19 22] (.cond (.t 23) (Zq [Zo 24 (.build [(.int .i64 0),(.nil 1)] []),⟨no,.st 2 (.t 6) (.t 24),no⟩,Zt 7 false] .ret) .skip)) (Zq [Zf 25 0 3,Zl 26 false 1 25,Zv 27 2,Zc 28 178 [.t 26,.t 27],⟨no,.st 2 (.t 6) (.t 28),no⟩,Zt 7 true] .ret))))⟩
theorem a191_ok:Jf prog Tryz.f191=some a191:=by kernel_rfl
def a185:Jk:= ⟨36,[(.c 6 true 2),.t 7],(Zq [ZB 3 0,ZB 4 1,Zo 6 (.box [(.int .i64 0),(.nil 1)]),Zt 7 false] (.seq (Zq [Zv 9 2,Zn 10 9,Zk 11 .gtr 10 0] (.cond (.t 11) (Zq [Zl 12 true 2 4,Zv 13 2,Zc 14 269 [.t 12,.t 13],Ze 15 14 0,Ze 16 14 1,⟨no,.st 2 (.t 6) (.t 15),no⟩,Zv 7 16] .ret) .skip)) (Zq [Zf 17 0 4,Zl 18 false 1 17,Zf 19 0 3,Zf 20 0 19,Zl 21 false 1 20,Zc 22 99 [.t 18,.t 21],Zo 8 (.box [(.int .i64 0),(.nil 1)]),⟨no,.st 2 (.t 8) (.t 22),no⟩] (.seq (Zq [Zl 23 true 2 4,Zc 24 179 [.t 23,(.k (.int .i64 0))],ZN 25 24,Zv 26 25,Zg 27 26 false (.ld true 2 (.t 8)),Zg 28 26 false (.fld 0 (.t 3)),Zg 29 26 false (.fld 0 (.t 28)),Zg 30 26 false (.ld false 1 (.t 29)),Zg 31 26 false (.call (.k (.fn (.func 179) [] [])) [.t 27,.t 30]),Zg 32 26 false (.un .not (.t 31)),ZP 33 26 32] (.cond (.t 33) (Zq [Zo 34 (.build [(.int .i64 0),(.nil 1)] []),⟨no,.st 2 (.t 6) (.t 34),no⟩,Zt 7 false] .ret) .skip)) (Zq [Zl 35 true 2 8,⟨no,.st 2 (.t 6) (.t 35),no⟩,Zt 7 true] .ret)))))⟩
theorem a185_ok:Jf prog Tryz.f185=some a185:=by kernel_rfl
def a177:Jk:= ⟨28,[(.c 6 true 2),.t 7],(Zq [ZB 3 0,ZB 4 1,Zo 6 (.box [(.int .i64 0),(.nil 1)]),Zt 7 false] (.seq (Zq [Zv 8 2,Zf 9 3 3,Zl 10 false 1 9,Zn 11 10,Zk 12 .sub 11 1,Zc 13 102 [.t 8,(.k (.int .i64 0)),.t 12],ZN 14 13] (.cond (.t 14) (Zq [Zo 15 (.build [(.int .i64 0),(.nil 1)] []),⟨no,.st 2 (.t 6) (.t 15),no⟩,Zt 7 false] .ret) .skip)) (.seq (.draw (.op (Zl 16 true 2 4) (.op (Zf 17 3 3) (.op (Zl 18 false 1 17) (.op (Zv 19 2) (.op (Zx 20 1 18 19) (.op (Zl 21 false 1 20) (.op (Zf 22 0 3) (.op (Zf 23 0 22) (.op (Zl 24 false 1 23) (.op (Zc 25 191 [.t 16,.t 21,.t 24]) (.op (Ze 26 25 0) (.op (Ze 27 25 1) (.hop ⟨no,.st 2 (.t 6) (.t 26),no⟩ [] (.op (Zv 7 27) .fin))))))))))))))) .ret)))⟩
theorem a177_ok:Jf prog Tryz.f177=some a177:=by kernel_rfl
def a174:Jk:= ⟨26,[(.c 6 true 2),.t 7],(Zq [ZB 3 0,ZB 4 1,Zo 6 (.box [(.int .i64 0),(.nil 1)]),Zt 7 false] (.seq (Zq [Zv 8 2,Zf 9 3 3,Zl 10 false 1 9,Zn 11 10,Zk 12 .sub 11 1,Zc 13 183 [.t 8,(.k (.int .i64 0)),.t 12],ZN 14 13] (.cond (.t 14) (Zq [Zo 15 (.build [(.int .i64 0),(.nil 1)] []),⟨no,.st 2 (.t 6) (.t 15),no⟩,Zt 7 false] .ret) .skip)) (.seq (.draw (.op (Zl 16 true 6 3) (.op (Zl 17 true 2 4) (.op (Zf 18 3 3) (.op (Zl 19 false 1 18) (.op (Zv 20 2) (.op (Zx 21 1 19 20) (.op (Zl 22 false 1 21) (.op (Zc 23 185 [.t 16,.t 17,.t 22]) (.op (Ze 24 23 0) (.op (Ze 25 23 1) (.hop ⟨no,.st 2 (.t 6) (.t 24),no⟩ [] (.op (Zv 7 25) .fin))))))))))))) .ret)))⟩
theorem a174_ok:Jf prog Tryz.f174=some a174:=by kernel_rfl
def Wj(l:Jc)(args:List Jc)(n:Int):Option Jc:=
 if 0<args.length then Vu l args else if K4 l 0&&K9 n 0 8 then some (Jo l.Const n)else Option.none
def Yr(m:X9)(l:Jc)(call:Int):Option Jc:=
 if K9 call 0 ((m.Args.length:Int) - 1)then Wj l (m.Args.getD call.toNat []) m.System.N else Option.none
theorem Nc(l:Jc)(args:List Jc)(n:Int):Holds prog 191 [.agg (Ja l),.sl 2 (args.map Ja),i64 n] (λr=>r=X1 (Wj l args n)):=by
 refine Jp Tryz.func191 a191_ok rfl (by simp[a191]) ?_;simp[a191,Ja];unfold Wj;intro _;by_cases h:0<args.length
 ·have hne:¬args=[]:=by rintro rfl;simp at h
  simp[h,hne];refine Jd (J2g l args) (by simp[Ja]) ?_;rintro r rfl;simp[Xd,J9]
 have hne:args=[]:=List.eq_nil_of_length_eq_zero (by omega);subst hne;simp;refine Jd (Gx l 0) (by simp[Ja]) ?_;rintro r rfl;cases h1:K4 l 0
 ·simp[X1,Jl,J9,Jg]
 simp;refine Jd (O0 n 0 8) (by simp) ?_;rintro r rfl;cases h2:K9 n 0 8
 ·simp[X1,Jl,J9,Jg]
 simp;refine Jd (On l.Const n) (by simp) ?_;rintro r rfl;simp[X1,J9]
theorem P6(m:X9)(l:Jc)(args:List Jc):Holds prog 185 [.agg (Xn m),.agg (Ja l),.sl 2 (args.map Ja)] (λr=>r=X1 (Wj l args m.System.N)):=by
 refine Jp Tryz.func185 a185_ok rfl (by simp[a185]) ?_;simp[a185,Ja,Xn];unfold Wj;intro _;by_cases h:0<args.length
 ·have hne:¬args=[]:=by rintro rfl;simp at h
  simp[h,hne];refine Jd (J1v l args) (by simp[Ja]) ?_;rintro r rfl;simp[Xd,J9]
 have hne:args=[]:=List.eq_nil_of_length_eq_zero (by omega);subst hne;simp;refine Jd (O4 l.Const m.System.N) (by simp) ?_;rintro r rfl;simp[J9];refine Jd (Ge l 0) (by simp[Ja]) ?_;rintro r rfl;cases h1:K4 l 0
 ·simp[X1,Jl,J9,Jg]
 simp;refine Jd (Ge (Jo l.Const m.System.N) m.System.N) (by simp[Ja]) ?_;rintro r rfl
 have hv:K4 (Jo l.Const m.System.N) m.System.N=K9 m.System.N 0 8:=by
  cases h2:K9 m.System.N 0 8
  ·simp[K4,h2]
  ·have h3:0<=m.System.N/\m.System.N<=8:=by simpa[K9]using h2
   have:=(Eg (n:=m.System.N.toNat) (Pb h1) (by omega)).2;rwa[show((m.System.N.toNat:Nat):Int)=m.System.N by omega]at this
 rw[hv];cases h2:K9 m.System.N 0 8
 ·simp[X1,Jl,J9,Jg]
 simp[X1,J9]
theorem P2(m:X9)(l:Jc)(call:Int):Holds prog 177 [.agg (Xn m),.agg (Ja l),i64 call] (λr=>r=X1 (Yr m l call)):=by
 refine Vv Tryz.func177 rfl rfl λhlm=>?_
 simp[Ja,Xn]at hlm;refine Jp Tryz.func177 a177_ok rfl (by simp[a177]) ?_;simp[a177,Ja,Xn];intro hl;unfold Jb at hl;rw[Kk (by omega)];unfold Yr;refine Jd (O0 call 0 ((m.Args.length:Int) - 1)) (by simp) ?_;rintro r rfl;cases h1:K9 call 0 ((m.Args.length:Int) - 1)
 ·simp[X1,Jl,J9,Jg]
 have hc:0<=call/\call<=(m.Args.length:Int) - 1:=by simpa[K9]using h1
 obtain⟨c,rfl⟩:∃c:Nat,call=c:=⟨call.toNat,by omega⟩;have hcl:c<m.Args.length:=by omega
 simp[hcl,Ea];refine Jw (Nc l (m.Args[c]'hcl) m.System.N) (by simp[Ja]) ?_;rintro r rfl;simp[Xd,J9]
theorem N3(m:X9)(l:Jc)(call:Int):Holds prog 174 [.agg (Xn m),.agg (Ja l),i64 call] (λr=>r=X1 (Yr m l call)):=by
 refine Vv Tryz.func174 rfl rfl λhlm=>?_
 simp[Ja,Xn]at hlm;refine Jp Tryz.func174 a174_ok rfl (by simp[a174]) ?_;simp[a174,Ja,Xn];intro hl;unfold Jb at hl;rw[Kk (by omega)];unfold Yr;refine Jd (Hh call 0 ((m.Args.length:Int) - 1)) (by simp) ?_;rintro r rfl;cases h1:K9 call 0 ((m.Args.length:Int) - 1)
 ·simp[X1,Jl,J9,Jg]
 have hc:0<=call/\call<=(m.Args.length:Int) - 1:=by simpa[K9]using h1
 obtain⟨c,rfl⟩:∃c:Nat,call=c:=⟨call.toNat,by omega⟩;have hcl:c<m.Args.length:=by omega
 simp[hcl,Ea];refine Jw (P6 m l (m.Args[c]'hcl)) (by simp[Ja,Xn]) ?_;rintro r rfl;simp[Xd,J9]
theorem Jbi(l:Jc)(args:List Jc)(n:Int):En ((Wj l args n).getD Jl)<=8:=by
 unfold Wj;split
 ·exact Jds l args
 ·split
  ·unfold En;rw[Ds];exact J24 _ _
  ·unfold En;rw[Ds];simp[Jl]
theorem Jgl(m:X9)(l:Jc)(call:Int):En ((Yr m l call).getD Jl)<=8:=by
 unfold Yr;split
 ·exact Jbi _ _ _
 ·unfold En;rw[Ds];simp[Jl]
abbrev Xl:=List (Je×Jc)
def Kp(d:Jc)(E:Xl)(x:Je):Jc:=((E.find? λe=>e.1==x).map (·.2)).getD d
def Ow:Xl->Je->Jc->Xl
 | [],x,l=>[(x,l)]
 |e::E,x,l=>if e.1=x then(x,l)::E else e::Ow E x l
def Ka(i n:Int):Jc:=if K9 n 0 8&&K9 i 0 (n - 1)then⟨0,(List.replicate n.toNat 0).set i.toNat 1⟩else Jl
def Yn(a:Jc)(k:Int)(b:Jc):Jc:=(Kg a k b).getD Jl
def Jw4:Xb:=⟨0,[]⟩
structure MS where
 E:Xl
 nx:Nat
 rows:List Jc
 pars:List Jc
 args:List (List Jc)
def Q6(E:Xl)(n:Nat)(s:Xb):Jc:=s.Terms.foldl (λo t=>Yn o t.Coeff (Kp Jl E t.Name)) (Jo s.Const n)
def Q8(E:Xl)(n:Nat)(a:X8):Jc:=
 if a.Lst then(if a.Base=[]then Jo a.Heads.length n else Yn (Jo a.Heads.length n) 1 (Kp Jl E a.Base))else Q6 E n (a.Heads.getD 0 Jw4)
def W3(n:Nat)(st:MS)(x:Je):MS:=
 ⟨Ow st.E x (Ka st.nx n),st.nx+1,st.rows++(if Xh x then [Ka st.nx n]else []),st.pars++[Ka st.nx n],st.args⟩
def Nx(ps:List Jc)(n:Nat):List Jc->Option (List Jc)
 | []=>some []
 |l::ls=>match Wj l ps n with
  |Option.none=>Option.none
  |some x=>(Nx ps n ls).map (x :: ·)
def Ca(n:Nat)(st:MS)(q:X2):Xl:=Ow st.E q.Head (Ka st.nx n)
def Gn(n:Nat)(st:MS)(q:X2):Jc:=(U6 (Kp Jl (Ca n st q) q.Lst) (-1)).getD Jl
def Wp(n:Nat)(st:MS)(q:X2):MS:=
 if q.Cons then⟨Ow (Ca n st q) q.Tail (Gn n st q),st.nx+1,st.rows++[Gn n st q],st.pars,st.args⟩
 else⟨st.E,st.nx,st.rows++[Yn (Jo 0 n) (-1) (Kp Jl st.E q.Lst)],st.pars,st.args⟩
def Bz(p:Jq)(n:Nat)(st:MS)(c:Xf):MS:=
 ⟨Ow st.E c.Bind (Ka st.nx n),st.nx+1,st.rows++(if ((Kw p.Functions c.Func).getD Yf).ListResult then [Ka st.nx n]else []),st.pars,st.args++[c.Args.map (Q8 st.E n)]⟩
def Y8(l:List X2):Nat:=(l.filter (·.Cons)).length
def K7(r:Jy)(f:K3):Nat:=f.Params.length+r.Calls.length+Y8 r.Patterns
def Jv(r:Jy)(f:K3):MS:=f.Params.foldl (W3 (K7 r f)) ⟨[],0,[],[],[]⟩
def Kl(r:Jy)(f:K3)(pre:List Jc):MS:=
 r.Patterns.foldl (Wp (K7 r f)) ⟨(Jv r f).E,(Jv r f).nx,(Jv r f).rows++pre,(Jv r f).pars,(Jv r f).args⟩
def Y7(s:MS)(l:List Jc):MS:=⟨s.E,s.nx,s.rows++l,s.pars,s.args⟩
def Ur(p:Jq)(r:Jy)(f:K3)(pre:List Jc):MS:=
 r.Calls.foldl (Bz p (K7 r f)) (Y7 (Kl r f pre) (r.Guards.map (Q6 (Kl r f pre).E (K7 r f))))
def Cs(n:Nat)(s:MS)(res:Jc):X9:=⟨⟨n,s.rows⟩,s.pars,s.args,res⟩
def Pw(p:Jq)(r:Jy)(f:K3):Option X9:=
 match Nx (Jv r f).pars (K7 r f) f.Pre with
 |Option.none=>Option.none
 |some pre=>some (Cs (K7 r f) (Ur p r f pre) (Q8 (Ur p r f pre).E (K7 r f) r.Result))
def Ho(E:Xl)(n:Nat):List Yb->Jc->Option Jc
 | [],o=>some o
 |t::ts,o=>match Kg o t.Coeff (Kp (Jo 0 n) E t.Name)with
  |Option.none=>Option.none
  |some o'=>Ho E n ts o'
def F8(E:Xl)(n:Nat)(s:Xb):Option Jc:=Ho E n s.Terms (Jo s.Const n)
def C0(E:Xl)(n:Nat)(a:X8):Option Jc:=
 if a.Lst then(if a.Base=[]then some (Jo a.Heads.length n)else Kg (Jo a.Heads.length n) 1 (Kp (Jo 0 n) E a.Base))else F8 E n (a.Heads.getD 0 Jw4)
def Q9(E:Xl)(n:Nat)(a:X8):Jc:=(C0 E n a).getD Jl
def V3(E:Xl)(n:Nat)(s:Xb):Jc:=(F8 E n s).getD Jl
def Vs(l:Jc)(k:Int):Jc:=⟨IntKind.i64.wrap (l.Const - k),l.Coeffs⟩
def Yc(n:Nat)(l:Jc):Jc:=⟨l.Const,l.Coeffs++List.replicate (n - l.Coeffs.length) 0⟩
def Ii(n:Nat):List Je->Nat->List Jc
 | [],_=>[]
 |x::xs,i=>(if Xh x then [Ka i n]else [])++Ii n xs (i+1)
def Wk(f:K3)(n:Nat):List Jc:=Ii n f.Params 0++f.Pre.map (Yc n)
def Yv(n:Nat)(st:MS)(x:Je):MS:=⟨st.E++[(x,Ka st.nx n)],st.nx+1,st.rows,st.pars++[Ka st.nx n],st.args⟩
def Ei(n:Nat)(st:MS)(q:X2):Jc:=Vs (Kp (Jo 0 n) st.E q.Lst) 1
def Xp(n:Nat)(st:MS)(q:X2):MS:=
 if q.Cons then⟨st.E++[(q.Head,Ka st.nx n),(q.Tail,Ei n st q)],st.nx+1,st.rows++[Ei n st q],st.pars,st.args⟩
 else⟨st.E,st.nx,st.rows++[Yn (Jo 0 n) (-1) (Kp (Jo 0 n) st.E q.Lst)],st.pars,st.args⟩
def Wn(n:Nat)(st:MS)(c:Xf):MS:=
 ⟨st.E++[(c.Bind,Ka st.nx n)],st.nx+1,st.rows++(if Xh c.Bind then [Ka st.nx n]else []),st.pars,st.args++[c.Args.map (Q9 st.E n)]⟩
def Ud(r:Jy)(f:K3):MS:=f.Params.foldl (Yv (K7 r f)) ⟨[],0,Wk f (K7 r f),[],[]⟩
def Wf(s:MS)(k:Nat):MS:=⟨s.E,k,s.rows,s.pars,s.args⟩
def Y2(r:Jy)(f:K3):MS:=r.Patterns.foldl (Xp (K7 r f)) (Wf (Ud r f) f.Params.length)
def V5(r:Jy)(f:K3):MS:=
 r.Calls.foldl (Wn (K7 r f)) (Y7 (Wf (Y2 r f) (f.Params.length+Y8 r.Patterns)) (r.Guards.map (V3 (Y2 r f).E (K7 r f))))
def Vf(r:Jy)(f:K3):X9:=Cs (K7 r f) (V5 r f) (Q9 (V5 r f).E (K7 r f) r.Result)
def Kj(E:Xl):List Je:=E.map (·.1)
theorem Mv{x:Je}{l:Jc} : ∀{E:Xl},x∉Kj E->Ow E x l=E++[(x,l)]
 | [],_=>rfl
 |e::E,h=>by simp only[Kj,map_cons,mem_cons,not_or]at h;simp only[Ow,List.cons_append];rw[if_neg (λg=>h.1 g.symm),Mv (E:=E) h.2]
theorem Jgu{E:Xl}{x:Je}(h:x∈Kj E):∃l,E.find? (λe=>e.1==x)=some (x,l)/\(x,l)∈E:=by
 obtain⟨e,he,rfl⟩:=mem_map.1 h;have:(E.find? λe'=>e'.1==e.1).isSome=true:=by rw[List.find?_isSome];exact⟨e,he,by simp⟩
 obtain⟨⟨y,l⟩,hy⟩:=Option.isSome_iff_exists.1 this;have h1:=List.find?_some hy;have h2:=List.mem_of_find?_eq_some hy;simp only[beq_iff_eq]at h1;subst h1;exact⟨l,hy,h2⟩
theorem N2{E:Xl}{x:Je}(d:Jc)(h:x∈Kj E):∃l,(x,l)∈E/\∀d F,Kp d (E++F) x=l:=by obtain⟨l,h1,h2⟩:=Jgu h;exact⟨l,h2,λd F=>by unfold Kp;rw[List.find?_append,h1];rfl⟩
theorem J9p{E:Xl}{x:Je}(d d':Jc)(h:x∈Kj E):Kp d E x=Kp d' E x:=by obtain⟨l,_,h2⟩:=N2 d h;rw[<-append_nil E,h2,h2]
def Ox(n:Nat)(E:Xl):Prop:=∀e∈E,e.2.Coeffs.length=n/\n≠0
theorem Ox.get {n:Nat}{E:Xl}{x:Je}(H:Ox n E) (d:Jc) (h:x∈Kj E):(Kp d E x).Coeffs.length=n:=by obtain⟨l,h1,h2⟩:=N2 d h;have:=h2 d [];rw[append_nil]at this;rw[this];exact(H _ h1).1
theorem Ml{i n:Nat}(hn:n<=8)(hi:i<n):Ka i n=⟨0,(List.replicate n 0).set i 1⟩:=by unfold Ka;rw[if_pos (by simp[K9];omega)];simp
theorem Ce{i n:Nat}(hn:n<=8)(hi:i<n):(Ka i n).Coeffs.length=n:=by rw[Ml hn hi];simp
theorem Jfr{c:Int}{b:Jc}(h:b.Coeffs.length≠0):Yn Jl c b=Jl:=by
 unfold Yn Kg
 have:K4 b (Jl.Coeffs.length:Nat)=false:=by rw[Bool.eq_false_iff];intro g;have:=W0 g;simp[Jl]at this;exact h (by simp[this])
 rw[this];simp
theorem Ja9{n:Nat}{E:Xl}(H:Ox n E):∀{ts:List Yb},(∀t∈ts,t.Name∈Kj E)->(ts≠[]->n≠0)->ts.foldl (λo t=>Yn o t.Coeff (Kp Jl E t.Name)) Jl=Jl
 | [],_,_=>rfl
 |t::ts,h,hn=>by simp only[foldl_cons];rw[Jfr (by rw[H.get Jl (h t mem_cons_self)];exact hn (by simp))];exact Ja9 H (λu hu=>h u (mem_cons_of_mem _ hu)) (λ_=>hn (by simp))
theorem J96{n:Nat}{E:Xl}(H:Ox n E):∀{ts:List Yb}{o:Jc},(∀t∈ts,t.Name∈Kj E)->(ts≠[]->n≠0)->ts.foldl (λo t=>Yn o t.Coeff (Kp Jl E t.Name)) o=(Ho E n ts o).getD Jl
 | [],_,_,_=>rfl
 |t::ts,o,h,hn=>by
  have h':∀u∈ts,u.Name∈Kj E:=λu hu=>h u (mem_cons_of_mem _ hu)
  have hn':ts≠[]->n≠0:=λ_=>hn (by simp)
  simp only[foldl_cons,Ho];rw[J9p Jl (Jo 0 n) (h t mem_cons_self)]
  cases ha:Kg o t.Coeff (Kp (Jo 0 n) E t.Name)with
  |none=>
   have:Yn o t.Coeff (Kp (Jo 0 n) E t.Name)=Jl:=by unfold Yn;rw[ha];rfl
   rw[this]
   exact Ja9 H h' hn'
  |some o'=>
   have:Yn o t.Coeff (Kp (Jo 0 n) E t.Name)=o':=by unfold Yn;rw[ha];rfl
   rw[this];exact J96 H h' hn'
theorem Ox.ne {n:Nat}{E:Xl}(H:Ox n E) (h:E≠[]):n≠0:=by obtain⟨e,l,rfl⟩:=List.exists_cons_of_ne_nil h;exact(H e mem_cons_self).2
theorem Jjd{n:Nat}{E:Xl}(H:Ox n E){s:Xb}(h:∀t∈s.Terms,t.Name∈Kj E):Q6 E n s=V3 E n s:=by
 unfold Q6 V3 F8;refine J96 H h λht=>H.ne ?_
 rintro rfl;obtain⟨t,ts,he⟩:=List.exists_cons_of_ne_nil ht;have:=h t (by rw[he];exact mem_cons_self);simp[Kj]at this
def Jwo(E:Xl)(a:X8):Prop:=(∀s∈a.Heads,∀t∈s.Terms,t.Name∈Kj E)/\(a.Base≠[]->a.Base∈Kj E)
theorem Jj5{n:Nat}{E:Xl}(H:Ox n E){a:X8}(h:Jwo E a):Q8 E n a=Q9 E n a:=by
 unfold Q8 Q9 C0;cases a.Lst
 ·simp only[Bool.false_eq_true,if_false];refine Jjd H ?_;intro t ht
  cases hh:a.Heads with
  |nil=>rw[hh]at ht;simp[Jw4]at ht
  |cons s l=>rw[hh]at ht;simp at ht;exact h.1 s (by rw[hh];exact mem_cons_self) t ht
 ·simp only[if_true];by_cases hb:a.Base=[]
  ·rw[if_pos hb,if_pos hb];rfl
  ·rw[if_neg hb,if_neg hb,J9p Jl (Jo 0 n) (h.2 hb)];rfl
theorem J62{x k:Int}(hx:Ky x=true)(hk:Ky k=true):U1 x k 0=some x:=by
 have h0:Ky 0=true:=by decide
 unfold U1 Xw Uv;simp[hx,hk,h0]
theorem Jdr{k:Int}(hk:Ky k=true):U1 0 k 1=some k:=by
 have h0:Ky 0=true:=by decide
 have h1:Ky 1=true:=by decide
 unfold U1 Xw Uv;simp[hk,h0,h1]
theorem J7p{xs:List Int}{c k:Int}{i n:Nat}(hn:n<=8)(hi:i<n)(hx:xs.length=n)(hok:xs.all Ky=true)(hc:Ky c=true)(hk:Ky k=true)(h0:xs[i]? = some 0) :
 Kg ⟨c,xs⟩ k (Ka i n)=some ⟨c,xs.set i k⟩:=by
 have hz0:Ky 0=true:=by decide
 have hz1:Ky 1=true:=by decide
 have hv:K4 (Ka i n) (xs.length:Nat)=true:=by
  rw[Ml hn hi];unfold K4;simp only[Bool.and_eq_true,decide_eq_true_eq,all_eq_true];refine⟨⟨⟨by simp[K9];omega,by simp[hx]⟩,hz0⟩,?_⟩;intro y hy;rcases List.mem_or_eq_of_mem_set hy with hy|rfl
  ·rw[(mem_replicate.1 hy).2];exact hz0
  ·exact hz1
 have ho:K4 ⟨c,xs⟩ (xs.length:Nat)=true:=by unfold K4;simp only[Bool.and_eq_true,decide_eq_true_eq];exact⟨⟨⟨by simp[K9];omega,by simp⟩,hc⟩,hok⟩
 have hZ:Yy ⟨c,xs⟩ k (Ka i n)=(xs.set i k).map some:=by
  rw[Ml hn hi];unfold Yy;refine List.ext_getElem (by simp[hx]) λj h1 h2=>?_
  have hj:j<xs.length:=by simp at h2;exact h2
  simp only[List.getElem_zipWith,List.getElem_map];by_cases he:i=j
  ·subst he;have:xs[i]=0:=by rw[List.getElem?_eq_getElem hj]at h0;exact Option.some.inj h0
   simp[this,Jdr hk]
  ·rw[List.getElem_set_ne he,List.getElem_set_ne he,List.getElem_replicate];exact J62 (all_eq_true.1 hok _ (List.getElem_mem hj)) hk
 have hcc:U1 c k (Ka i n).Const=some c:=by rw[Ml hn hi];exact J62 hc hk
 unfold Kg Dh;simp only[hv,ho,hk,hcc,hZ,Bool.and_self,Bool.true_and,Option.isSome_some];have hA:((xs.set i k).map some).all Option.isSome=true:=by rw[all_eq_true];intro x hx;obtain⟨y,_,rfl⟩:=mem_map.1 hx;rfl
 rw[if_pos hA];simp[List.map_map,Function.comp_def]
theorem Jcv{n:Nat} : (List.replicate n (0:Int)).all Ky=true:=by rw[all_eq_true];intro x hx;rw[(mem_replicate.1 hx).2];decide
theorem Jf8{l:Jc}{n:Int}(h:K4 l n=true):∀x∈l.Coeffs,Ky x=true:=by unfold K4 at h;simp only[Bool.and_eq_true,all_eq_true]at h;exact h.2
theorem J2t{l:Jc}{m n:Nat}(hm:m<=2)(hmn:m<=n)(hn:n<=8)(hl:K4 l m=true):Wj l ((List.range m).map λi:Nat=>Ka i n) n=some (Yc n l):=by
 have hc:=Pb hl;have hlen:l.Coeffs.length=m:=by have:=(W0 hl).1;omega
 have hall:=Jf8 hl;obtain⟨c0,h1⟩:=Eg (n:=n) hc (by omega);unfold Wj
 match m,hm,hlen with
 |0,_,hlen=>
  have he:l.Coeffs=[]:=List.eq_nil_of_length_eq_zero hlen;have hl':K4 l 0=true:=hl;rw[if_neg (by simp),if_pos (by rw[hl'];simp[K9];omega),c0]
  simp[Yc,he]
 |1,_,hlen=>
  obtain⟨a,ha⟩:=List.length_eq_one_iff.1 hlen;have hl':K4 l 1=true:=hl;have hka:=hall a (by rw[ha];simp);have hz0:(List.replicate n (0:Int))[0]? = some 0:=by rw[List.getElem?_replicate,if_pos (by omega)]
  rw[if_pos (by simp)];unfold Vu;have hN:Ql ((List.range 1).map λi:Nat=>Ka i n)=n:=by simp[Ql,range_succ];exact Ce (i:=0) hn (by omega)
  rw[hN,h1,c0];simp only[List.length_map,List.length_range];rw[if_pos (by simp[hl']),ha];simp only[range_succ,List.range_zero,nil_append,map_cons,map_nil,List.zip_cons_cons,List.zip_nil_right,Qd];rw[J7p (i:=0) hn (by omega) (by simp) Jcv hc hka hz0];simp only[Yc,ha];obtain⟨k,rfl⟩:∃k,n=k+1:=⟨n - 1,by omega⟩
  simp[replicate_succ]
 |2,_,hlen=>
  obtain⟨a,b,hab⟩:∃a b,l.Coeffs=[a,b]:=by
   match hh:l.Coeffs,hlen with
   | [a,b],_=>exact⟨a,b,rfl⟩
  have hl':K4 l 2=true:=hl;have hka:=hall a (by rw[hab];simp);have hkb:=hall b (by rw[hab];simp);have hz0:(List.replicate n (0:Int))[0]? = some 0:=by rw[List.getElem?_replicate,if_pos (by omega)]
  rw[if_pos (by simp)];unfold Vu;have hN:Ql ((List.range 2).map λi:Nat=>Ka i n)=n:=by simp[Ql,range_succ];exact Ce (i:=0) hn (by omega)
  rw[hN,h1,c0];simp only[List.length_map,List.length_range];rw[if_pos (by simp[hl']),hab];simp only[range_succ,List.range_zero,nil_append,map_cons,map_nil,List.zip_cons_cons,List.zip_nil_right,List.cons_append,Qd];rw[J7p (i:=0) hn (by omega) (by simp) Jcv hc hka hz0];obtain⟨k,rfl⟩:∃k,n=k+2:=⟨n - 2,by omega⟩;simp only
  rw[J7p (i:=1) hn (by omega) (by simp) (by
   rw[all_eq_true];intro x hx;rcases List.mem_or_eq_of_mem_set hx with hx|rfl
   ·rw[(mem_replicate.1 hx).2];decide
   ·exact hka) hc hkb (by simp[replicate_succ])]
  simp[Yc,hab,replicate_succ]
theorem Jaq{l:Jc}{n:Nat}(h:l.Coeffs.length=n):Yc n l=l:=by unfold Yc;rw[h,Nat.sub_self];simp
theorem T9{ps:List Jc}{n:Nat} : ∀{ls:List Jc},(∀l∈ls,Wj l ps n=some (Yc n l))->Nx ps n ls=some (ls.map (Yc n))
 | [],_=>rfl
 |l::ls,h=>by simp only[Nx];rw[h l mem_cons_self,T9 λx hx=>h x (mem_cons_of_mem _ hx)];rfl
def a203:Jk:= ⟨24,[(.c 4 true 2)],(Zq [Zo 4 (.box [(.int .i64 0),(.nil 1)])] (.seq (Zq [Zv 6 1,Zc 7 102 [.t 6,(.k (.int .i64 0)),(.k (.int .i64 8))],ZN 8 7,Zv 9 8,Zg 10 9 false (.mv (.t 0)),Zg 11 9 false (.mv (.t 1)),Zg 12 9 false (.bin .sub (.t 11) (.k (.int .i64 1))),Zg 13 9 false (.call (.k (.fn (.func 102) [] [])) [.t 10,(.k (.int .i64 0)),.t 12]),Zg 14 9 false (.un .not (.t 13)),ZP 15 9 14] (.cond (.t 15) (Zq [Zo 16 (.build [(.int .i64 0),(.nil 1)] []),⟨no,.st 2 (.t 4) (.t 16),no⟩] .ret) .skip)) (Zq [Zv 17 1,Zc 18 178 [(.k (.int .i64 0)),.t 17],Zo 5 (.box [(.int .i64 0),(.nil 1)]),⟨no,.st 2 (.t 5) (.t 18),no⟩] (Zq [Zf 19 1 5,Zl 20 false 1 19,Zv 21 0,Zx 22 1 20 21,⟨no,.st 1 (.t 22) (.k (.int .i64 1)),no⟩] (Zq [Zl 23 true 2 5,⟨no,.st 2 (.t 4) (.t 23),no⟩] .ret)))))⟩
theorem a203_ok:Jf prog Tryz.f203=some a203:=by kernel_rfl
def a261:Jk:= ⟨25,[(.c 4 true 2)],(Zq [Zo 4 (.box [(.int .i64 0),(.nil 1)])] (.seq (Zq [Zv 6 1,Zc 7 183 [.t 6,(.k (.int .i64 0)),(.k (.int .i64 8))],ZN 8 7,Zv 9 8,Zg 10 9 false (.mv (.t 0)),Zg 11 9 false (.mv (.t 1)),Zg 12 9 false (.bin .sub (.t 11) (.k (.int .i64 1))),Zg 13 9 false (.call (.k (.fn (.func 183) [] [])) [.t 10,(.k (.int .i64 0)),.t 12]),Zg 14 9 false (.un .not (.t 13)),ZP 15 9 14] (.cond (.t 15) (Zq [Zo 16 (.build [(.int .i64 0),(.nil 1)] []),⟨no,.st 2 (.t 4) (.t 16),no⟩] .ret) .skip)) (Zq [Zv 17 1,Zo 18 (.mks 8 [(.int .i64 0)] (.t 17) (.t 17)),Zo 19 (.build [(.int .i64 0),(.nil 1)] [(1,(1,(.t 18)))]),Zo 5 (.box [(.int .i64 0),(.nil 1)]),⟨no,.st 2 (.t 5) (.t 19),no⟩] (Zq [Zf 20 1 5,Zl 21 false 1 20,Zv 22 0,Zx 23 1 21 22,⟨no,.st 1 (.t 23) (.k (.int .i64 1)),no⟩] (Zq [Zl 24 true 2 5,⟨no,.st 2 (.t 4) (.t 24),no⟩] .ret)))))⟩
theorem a261_ok:Jf prog Tryz.f261=some a261:=by kernel_rfl
def a306:Jk:= ⟨14,[(.c 4 true 2)],(Zq [ZB 2 0,Zo 4 (.box [(.int .i64 0),(.nil 1)])] (Zq [Zl 6 true 2 2,Zc 7 82 [.t 6],Zo 5 (.box [(.int .i64 0),(.nil 1)]),⟨no,.st 2 (.t 5) (.t 7),no⟩] (Zq [Zf 8 0 5,Zl 9 false 1 8,Zv 10 1,Zb 11 .sub 9 10,Zf 12 0 5,⟨no,.st 1 (.t 12) (.t 11),no⟩] (Zq [Zl 13 true 2 5,⟨no,.st 2 (.t 4) (.t 13),no⟩] .ret))))⟩
theorem a306_ok:Jf prog Tryz.f306=some a306:=by kernel_rfl
def a262:Jk:= ⟨29,[(.c 4 true 2)],(Zq [ZB 2 0,Zo 4 (.box [(.int .i64 0),(.nil 1)])] (.seq (.draw (.op (Zf 7 0 2) (.op (Zl 8 false 1 7) (.op (Zv 9 1) (.both (.op (Zo 10 (.mks 8 [(.int .i64 0)] (.t 9) (.t 9))) (.op (Zo 11 (.build [(.int .i64 0),(.nil 1)] [(0,(1,(.t 8))),(1,(1,(.t 10)))])) (.op (Zo 5 (.box [(.int .i64 0),(.nil 1)])) (.hop ⟨no,.st 2 (.t 5) (.t 11),no⟩ [] .fin)))) (.op (Zo 5 (.box [(.int .i64 0),(.nil 1)])) (.op (Zo 10 (.mks 8 [(.int .i64 0)] (.t 9) (.t 9))) (.op (Zo 11 (.build [(.int .i64 0),(.nil 1)] [(0,(1,(.t 8))),(1,(1,(.t 10)))])) (.hop ⟨no,.st 2 (.t 5) (.t 11),no⟩ [] .fin))))))))) (.seq (Zq [Zi 6 0] (.blk 0 (.loop (.seq (Zq [Zv 12 6,Zf 13 1 2,Zl 14 false 1 13,Zn 15 14,Zb 16 .lss 12 15] (Zw 16 0)) (.seq (.blk 1 (.draw (.op (Zf 19 1 5) (.op (Zl 20 false 1 19) (.op (Zv 21 6) (.op (Zf 22 1 2) (.op (Zl 23 false 1 22) (.op (Zv 24 6) (.op (Zx 25 1 23 24) (.op (Zl 26 false 1 25) (.op (Zx 27 1 20 21) (.hop ⟨no,.st 1 (.t 27) (.t 26),no⟩ [] .fin)))))))))))) (.reg [Zv 17 6,Zk 18 .add 17 1,Zv 6 18])))))) (Zq [Zl 28 true 2 5,⟨no,.st 2 (.t 4) (.t 28),no⟩] .ret))))⟩
theorem a262_ok:Jf prog Tryz.f262=some a262:=by kernel_rfl
theorem J5d(i n:Int):Holds prog 203 [i64 i,i64 n] (λr=>r = .agg (J9 (Ka i n))):=by
 refine Jp Tryz.func203 a203_ok rfl (by simp[a203]) ?_;simp[a203];refine Jd (O0 n 0 8) (by simp) ?_;rintro r rfl;unfold Ka;cases h1:K9 n 0 8
 ·simp[J9,Jg,Jl]
 have hn:0<=n/\n<=8:=by simpa[K9]using h1
 have hw:IntKind.i64.wrap (n - 1)=n - 1:=Kk (by omega);simp[hw];refine Jd (O0 i 0 (n - 1)) (by simp) ?_;rintro r rfl;cases h2:K9 i 0 (n - 1)
 ·simp[J9,Jg,Jl]
 have hi:0<=i/\i<=n - 1:=by simpa[K9]using h2
 obtain⟨m,rfl⟩:∃m:Nat,n=m:=⟨n.toNat,by omega⟩;obtain⟨j,rfl⟩:∃j:Nat,i=j:=⟨i.toNat,by omega⟩;have hj:j<m:=by omega
 have hc:Jo 0 m=⟨0,List.replicate m 0⟩:=(Eg (by decide) (by omega)).1;simp;refine Jd (On 0 m) (by simp) ?_;rintro r rfl;simp[hc,J9,hj];have e:(List.replicate m [AV.int .i64 0]).set j [AV.int .i64 1]=Jg ((List.replicate m 0).set j 1):=by rw[<-J2o,J6t]
 rw[e,take_of_length_le (by simp)];simp
theorem Mo(i n:Int):Holds prog 261 [i64 i,i64 n] (λr=>r = .agg (J9 (Ka i n))):=by
 refine Jp Tryz.func261 a261_ok rfl (by simp[a261]) ?_;simp[a261];refine Jd (Hh n 0 8) (by simp) ?_;rintro r rfl;unfold Ka;cases h1:K9 n 0 8
 ·simp[J9,Jg,Jl]
 have hn:0<=n/\n<=8:=by simpa[K9]using h1
 have hw:IntKind.i64.wrap (n - 1)=n - 1:=Kk (by omega);simp[hw];refine Jd (Hh i 0 (n - 1)) (by simp) ?_;rintro r rfl;cases h2:K9 i 0 (n - 1)
 ·simp[J9,Jg,Jl]
 have hi:0<=i/\i<=n - 1:=by simpa[K9]using h2
 obtain⟨m,rfl⟩:∃m:Nat,n=m:=⟨n.toNat,by omega⟩;obtain⟨j,rfl⟩:∃j:Nat,i=j:=⟨i.toNat,by omega⟩;have hj:j<m:=by omega
 have hm:(m:Int)*8<=Jb:=by unfold Jb;omega
 simp[hj,hm,J9];have e:(List.replicate m [AV.int .i64 0]).set j [AV.int .i64 1]=Jg ((List.replicate m 0).set j 1):=by rw[<-J2o,J6t]
 rw[e,take_of_length_le (by simp)];simp
theorem J38(x:Jc)(k:Int)(hl:x.Coeffs.length<=1048576):Holds prog 306 [.agg (Ja x),i64 k] (λr=>r = .agg (J9 (Vs x k))):=by refine Jp Tryz.func306 a306_ok rfl (by simp[a306]) ?_;simp[a306,Ja];refine Jd (E7 x hl) (by simp[Ja]) ?_;rintro r rfl;simp[J9,Vs]
def Dc(l:List Int)(n i:Nat):List Int:=l.take i++List.replicate (n - i) 0
theorem J9b{l:List Int}{n i:Nat}(hi:i<l.length)(hn:l.length<=n):(Dc l n i).set i l[i]=Dc l n (i+1):=by
 unfold Dc;rw[List.set_append_right i l[i] (by simp;omega)];have h1:i - (l.take i).length=0:=by simp;omega
 obtain⟨k,hk⟩:∃k,n - i=k+1:=⟨n - i - 1,by omega⟩;rw[h1,hk,List.take_succ_eq_append_getElem hi,append_assoc];have:n - (i+1)=k:=by omega
 rw[this];simp[replicate_succ]
theorem Jg6{l:List Int}{n i:Nat}(hi:i<=l.length)(hn:l.length<=n):(Dc l n i).length=n:=by unfold Dc;simp;omega
theorem J89(x:Jc)(n:Nat)(hxn:x.Coeffs.length<=n)(hn:n<=1048576):Holds prog 262 [.agg (Ja x),i64 n] (λr=>r = .agg (J9 (Yc n x))):=by
 have hm:(n:Int)*8<=Jb:=by unfold Jb;omega
 refine Jp Tryz.func262 a262_ok rfl (by simp[a262]) ?_;simp[a262,Ja,hm];refine⟨?_,?_⟩
 all_goals
  refine Ki [1,2,4] 6 x.Coeffs.length (λi s h m=>∃a b,((a=2/\b=3)\/(a=3/\b=2))/\3<m/\s 5 = .ptr b 0 0/\h 0=some ⟨true,2,[[.int .i64 x.Const,.sl 1 (Jg x.Coeffs)]]⟩/\h 1=some ⟨true,2,[[.int .i64 0,.nil 1]]⟩/\h b=some ⟨true,2,[[.int .i64 x.Const,.ref a 0 n]]⟩/\h a=some ⟨false,1,Jg (Dc x.Coeffs n i)⟩) (by unfold Jb;omega) (by simp) ?_ ?_ ?_
  ·first
   |(refine⟨2,3,.inl ⟨rfl,rfl⟩,?_⟩;simp[Dc];done)
   |(refine⟨3,2,.inr ⟨rfl,rfl⟩,?_⟩;simp[Dc];done)
  ·rintro i s h m R hi hg hk s6 hw ⟨a,b,hab,hm3,s5,e0,e1,eb,ea⟩ hR _ _;simp at hk;have hpl:=Jg6 (l:=x.Coeffs) (n:=n) (Nat.le_of_lt hi) hxn;have hin:i<n:=by omega
   rcases hab with ⟨rfl,rfl⟩|⟨rfl,rfl⟩
   ·simp[hk,s6,s5,hi,e0,eb,ea,hin,hw,hpl];intro _;refine hR _ _ _ (by simp[hk]) (by simp) ⟨2,3,.inl ⟨rfl,rfl⟩,by omega,by simp[s5],by simp[e0],by simp[e1],by simp[eb],?_⟩;simp[<-J9b hi hxn]
   ·simp[hk,s6,s5,hi,e0,eb,ea,hin,hw,hpl];intro _;refine hR _ _ _ (by simp[hk]) (by simp) ⟨3,2,.inr ⟨rfl,rfl⟩,by omega,by simp[s5],by simp[e0],by simp[e1],by simp[eb],?_⟩;simp[<-J9b hi hxn]
  ·rintro s h m R hk s6 ⟨a,b,hab,hm3,s5,e0,e1,eb,ea⟩ _ hX;simp at hk;have hpe:Dc x.Coeffs n x.Coeffs.length=(Yc n x).Coeffs:=by simp[Dc,Yc]
   have hwl:(Yc n x).Coeffs.length=n:=by simp[Yc];omega
   have hwc:(Yc n x).Const=x.Const:=rfl;rw[hpe]at ea;rcases hab with ⟨rfl,rfl⟩|⟨rfl,rfl⟩
   ·simp[hk,s6,s5,e0,eb];intro _;refine hX _ _ _ _ ?_;simp[hk,s5,e1,eb,ea,J9,hwl,hwc,take_of_length_le]
   ·simp[hk,s6,s5,e0,eb];intro _;refine hX _ _ _ _ ?_;simp[hk,s5,e1,eb,ea,J9,hwl,hwc,take_of_length_le]
def Kn(b z:Nat)(rows:List (List AV))(v:AV)(h:J8)(n:Nat):Prop:=(rows=[]/\v = .nil z)\/∃id,b<id/\id<n/\v = .ref id 0 rows.length/\h id=some ⟨false,z,rows⟩
theorem Kn.keep {b z:Nat}{rows:List (List AV)}{v:AV}{h h':J8}{n n':Nat}(x:Kn b z rows v h n) (hn:n<=n') (hh:∀id,b<id->id<n->v = .ref id 0 rows.length->h' id=h id):Kn b z rows v h' n':=
 x.imp (λy=>y) λ⟨i,h1,h2,h3,h4⟩=>⟨i,h1,by omega,h3,by rw[hh i h1 h2 h3];exact h4⟩
theorem Kn.dt {b z:Nat}{rows:List (List AV)}{v:AV}{h:J8}{n:Nat}(x:Kn b z rows v h n):∃h',Go.Proofs.YtoclolkigjbcgaaGreat.dt v h=some (.us z rows,h')/\∀id,(∀l,v ≠ .ref id 0 l)->h' id=h id:=by
 rcases x with ⟨rfl,rfl⟩|⟨i,_,_,rfl,hb⟩
 ·exact⟨h,by simp,λ_ _=>rfl⟩
 ·refine⟨upd h i Option.none,by simp[hb],λid hid=>?_⟩;have:¬id=i:=λe=>hid rows.length (by rw[e])
  simp[this]
theorem Kn.cell {b z:Nat}{rows:List (List AV)}{v:AV}{h:J8}{n:Nat}(x:Kn b z rows v h n):K8 v=true:=by rcases x with ⟨_,rfl⟩|⟨i,_,_,rfl,_⟩ <;>rfl
theorem Kn.ne_sz {b z z':Nat}{rows rows':List (List AV)}{v v':AV}{h:J8}{n id l l':Nat}(x:Kn b z rows v h n) (y:Kn b z' rows' v' h n) (hz:z≠z') (e:v = .ref id 0 l) (e':v' = .ref id 0 l'):False:=by
 rcases x with ⟨_,rfl⟩|⟨i,_,_,rfl,hi⟩
 ·cases e
 rcases y with ⟨_,rfl⟩|⟨j,_,_,rfl,hj⟩
 ·cases e'
 simp only[AV.ref.injEq]at e e';rw[e.1]at hi;rw[e'.1,hi]at hj;simp at hj;exact hz hj.1
theorem Kn.ne_ge {b z:Nat}{rows:List (List AV)}{v:AV}{h:J8}{n q l:Nat}(x:Kn b z rows v h n) (hq:n<=q) (e:v = .ref q 0 l):False:=by
 rcases x with ⟨_,rfl⟩|⟨i,_,hi,rfl,_⟩
 ·cases e
 ·simp only[AV.ref.injEq]at e;omega
theorem J1t{k:IntKind}{n:Int} : K8 (.int k n)=true:=rfl
theorem J4y{i o l:Nat} : K8 (.ref i o l)=true:=rfl
theorem No{l:List Je}{s:Je} : X3 l s=true↔s∈l:=by simp[X3]
theorem J59{l:List Je}{s:Je} : X3 l s=false↔s∉l:=by rw[<-Bool.not_eq_true,No]
theorem Jdu{N:List Je} : ∀{S:List Je},S.Nodup->(∀x∈S,x∈N)->S.length<=N.length:=by
 induction N with
 |nil=>
  intro S _ h
  cases S with
  |nil=>exact Nat.le_refl _
  |cons x S=>have:=h x (mem_cons_self ..);cases this
 |cons y N ih=>
  intro S hS h
  have:=ih (S:=S.filter (· != y)) (hS.sublist List.filter_sublist) (λx hx=>by
   rw[List.mem_filter]at hx;rcases mem_cons.1 (h x hx.1)with rfl|h'
   ·simp at hx
   ·exact h')
  have hc:S.length<=(S.filter (· != y)).length+1:=by
   clear this ih h
   induction S with
   |nil=>simp
   |cons x S ih=>
    rw[nodup_cons]at hS;by_cases hx:x=y
    ·subst hx;have hf:S.filter (· != x)=S:=List.filter_eq_self.2 λz hz=>by simp;rintro rfl;exact hS.1 hz
     simp[hf]
    ·have hx':(x != y)=true:=by simpa using hx
     simp only[List.filter_cons,hx',if_true,length_cons];have:=ih hS.2;omega
  simp only[length_cons];omega
theorem J7w:∀{l met:List Je},O3 met l=true->l.Nodup/\∀x∈l,x∉met
 | [],_,_=>⟨List.nodup_nil,λ_ h=>by cases h⟩
 |s::l,met,h=>by
  simp only[O3,Bool.and_eq_true,Bool.not_eq_true']at h;obtain⟨h1,h2⟩:=J7w h.2;have h3:=J59.1 h.1;refine⟨nodup_cons.2 ⟨λhs=>h2 s hs (by simp),h1⟩,?_⟩;intro x hx;rcases mem_cons.1 hx with rfl|hx
  ·exact h3
  ·exact λhm=>h2 x hx (mem_append_left _ hm)
def G7(n:Nat):List Je->Nat->Xl
 | [],_=>[]
 |x::xs,i=>(x,Ka i n)::G7 n xs (i+1)
def Gs(n:Nat):List Je->Nat->List Jc
 | [],_=>[]
 |_::xs,i=>Ka i n::Gs n xs (i+1)
theorem J2s{n:Nat} : ∀{xs:List Je}{i:Nat},Kj (G7 n xs i)=xs
 | [],_=>rfl
 |x::xs,i=>by have:=J2s (n:=n) (xs:=xs) (i:=i+1);unfold Kj at this⊢;simp[G7,this]
theorem J5g{n:Nat} : ∀{xs:List Je}{i:Nat}{e:Je×Jc},e∈G7 n xs i->∃j,i<=j/\j<i+xs.length/\e.2=Ka j n
 | [],_,_,h=>by cases h
 |x::xs,i,e,h=>by
  rcases mem_cons.1 h with rfl|h
  ·exact⟨i,Nat.le_refl _,by simp,rfl⟩
  ·obtain⟨j,h1,h2,h3⟩:=J5g h;exact⟨j,by omega,by simp;omega,h3⟩
theorem Jee{n:Nat}(hn:n<=8){xs:List Je}(h:xs.length<=n):Ox n (G7 n xs 0):=by intro e he;obtain⟨j,_,h2,h3⟩:=J5g he;rw[h3];exact⟨Ce hn (by omega),by omega⟩
theorem J7r{n:Nat}{xs:List Je}(h:xs.length<=2):Gs n xs 0=(List.range xs.length).map λi:Nat=>Ka i n:=by
 match xs,h with
 | [],_=>rfl
 | [_],_=>simp[Gs,range_succ]
 | [_,_],_=>simp[Gs,range_succ]
theorem Ss(E:Xl)(x:Je)(l:Jc):Kj (E++[(x,l)])=Kj E++[x]:=by simp[Kj]
theorem Td{n:Nat} : ∀{xs:List Je}{a b:MS},a.E=b.E->a.nx=b.nx->a.pars=b.pars->a.args=b.args->xs.Nodup->(∀x∈xs,x∉Kj a.E) ->
 (xs.foldl (W3 n) a).E=a.E++G7 n xs a.nx/\(xs.foldl (Yv n) b).E=a.E++G7 n xs a.nx/\(xs.foldl (W3 n) a).nx=a.nx+xs.length/\(xs.foldl (W3 n) a).pars=a.pars++Gs n xs a.nx/\(xs.foldl (Yv n) b).pars=a.pars++Gs n xs a.nx /\
 (xs.foldl (W3 n) a).args=a.args/\(xs.foldl (Yv n) b).args=a.args/\(xs.foldl (W3 n) a).rows=a.rows++Ii n xs a.nx/\(xs.foldl (Yv n) b).rows=b.rows
 | [],a,b,h1,h2,h3,h4,_,_=>by simp[G7,Gs,Ii,h1,h3,h4]
 |x::xs,a,b,h1,h2,h3,h4,hd,hk=>by
  obtain⟨hx,hd'⟩:=nodup_cons.1 hd;have he:=Mv (l:=Ka a.nx n) (hk x mem_cons_self);simp only[foldl_cons]
  have ih:=Td (n:=n) (xs:=xs) (a:=W3 n a x) (b:=Yv n b x) (by show Ow a.E x (Ka a.nx n)=b.E++[(x,Ka b.nx n)];rw[he,h1,h2]) (by simp[W3,Yv,h2]) (by simp[W3,Yv,h2,h3]) (by simp[W3,Yv,h4]) hd' (by
   intro y hy;have:(W3 n a x).E=a.E++[(x,Ka a.nx n)]:=he;rw[this,Ss];intro hm;rcases mem_append.1 hm with hm|hm
   ·exact hk y (mem_cons_of_mem _ hy) hm
   ·simp at hm;subst hm;exact hx hy)
  obtain⟨g1,g2,g3,g4,g5,g6,g7,g8,g9⟩:=ih;refine⟨?_,?_,?_,?_,?_,?_,?_,?_,?_⟩
  ·rw[g1];simp[W3,he,G7]
  ·rw[g2];simp[W3,he,G7]
  ·rw[g3];simp[W3];omega
  ·rw[g4];simp[W3,Gs]
  ·rw[g5];simp[W3,Gs]
  ·rw[g6];rfl
  ·rw[g7];rfl
  ·rw[g8];simp[W3,Ii]
  ·rw[g9];rfl
theorem Jdi{n j:Nat}(hn:n<=8)(hj:j<n):(U6 (Ka j n) (-1)).getD Jl=Vs (Ka j n) 1:=by
 rw[Ml hn hj]
 have h1:K4 ⟨0,(List.replicate n 0).set j 1⟩ (((List.replicate n (0:Int)).set j 1).length:Nat)=true:=by
  unfold K4;simp only[Bool.and_eq_true,decide_eq_true_eq,all_eq_true];refine⟨⟨⟨by simp[K9];omega,by simp⟩,by decide⟩,?_⟩;intro y hy;rcases List.mem_or_eq_of_mem_set hy with hy|rfl
  ·rw[(mem_replicate.1 hy).2];decide
  ·decide
 unfold U6 Vs;simp only[h1];have h2:Uv 0 (-1)=(-1,true):=by decide
 have h3:IntKind.i64.wrap (0 - 1) = -1:=by decide
 simp only[h2,h3];simp
theorem Tm{n:Nat}(hn:n<=8){ps:List Je}(hps:ps.length<=n):∀{qs:List X2}{a:MS}{F:Xl},a.E=G7 n ps 0++F->(∀q∈qs,q.Lst∈ps)->(Ui qs).Nodup->(∀x∈Ui qs,x∉Kj a.E)->a.nx+Y8 qs<=n->Ox n a.E ->
 qs.foldl (Wp n) a=qs.foldl (Xp n) a/\Kj (qs.foldl (Xp n) a).E=Kj a.E++Ui qs/\(qs.foldl (Xp n) a).nx=a.nx+Y8 qs/\Ox n (qs.foldl (Xp n) a).E
 | [],a,F,_,_,_,_,_,hE=>by simp[Ui,Y8,hE]
 |q::qs,a,F,hF,hl,hd,hk,hx,hE=>by
  have hq:q.Lst∈Kj (G7 n ps 0):=by rw[J2s];exact hl q mem_cons_self
  obtain⟨l,hm,hg⟩:=N2 Jl hq;obtain⟨j,_,hj,hl2⟩:=J5g hm;simp only at hl2;have hj':j<n:=by omega
  have hget:∀d F,Kp d (G7 n ps 0++F) q.Lst=Ka j n:=λd F=>by rw[hg,hl2]
  simp only[foldl_cons];cases hc:q.Cons
  ·have hpn:Ui (q::qs)=Ui qs:=by simp[Ui,hc]
   have hcn:Y8 (q::qs)=Y8 qs:=by simp[Y8,hc]
   rw[hpn]at hd hk⊢;rw[hcn]at hx⊢
   have he:Wp n a q=Xp n a q:=by unfold Wp Xp;rw[hc,hF,hget,hget];rfl
   have hsE:(Xp n a q).E=a.E:=by unfold Xp;rw[hc];rfl
   have hsx:(Xp n a q).nx=a.nx:=by unfold Xp;rw[hc];rfl
   rw[he];have ih:=Tm hn hps (qs:=qs) (a:=Xp n a q) (F:=F) (by rw[hsE,hF]) (λr hr=>hl r (mem_cons_of_mem _ hr)) hd (by rw[hsE];exact hk) (by rw[hsx];exact hx) (by rw[hsE];exact hE);rw[hsE,hsx]at ih;exact ih
  ·have hpn:Ui (q::qs)=q.Head::q.Tail::Ui qs:=by simp[Ui,hc]
   have hcn:Y8 (q::qs)=Y8 qs+1:=by simp[Y8,hc]
   rw[hpn]at hd hk⊢;rw[hcn]at hx⊢;obtain⟨d1,hd⟩:=nodup_cons.1 hd;obtain⟨d2,hd⟩:=nodup_cons.1 hd;simp only[mem_cons,not_or]at d1;have hEh:Ca n a q=a.E++[(q.Head,Ka a.nx n)]:=Mv (hk _ mem_cons_self)
   have hLI:Gn n a q=Vs (Ka j n) 1:=by unfold Gn;rw[hEh,hF,append_assoc,hget];exact Jdi hn hj'
   have hLS:Ei n a q=Vs (Ka j n) 1:=by unfold Ei;rw[hF,hget]
   have hE2:Ow (a.E++[(q.Head,Ka a.nx n)]) q.Tail (Vs (Ka j n) 1)=a.E++[(q.Head,Ka a.nx n),(q.Tail,Vs (Ka j n) 1)]:=by
    rw[Mv,append_assoc]
    ·rfl
    ·rw[Ss];intro hm;rcases mem_append.1 hm with hm|hm
     ·exact hk q.Tail (by simp) hm
     ·simp at hm;exact d1.1 hm.symm
   have he:Wp n a q=Xp n a q:=by unfold Wp Xp;rw[hc,hLI,hLS,hEh,hE2];rfl
   have hsE:(Xp n a q).E=a.E++[(q.Head,Ka a.nx n),(q.Tail,Vs (Ka j n) 1)]:=by unfold Xp;rw[hc,hLS];rfl
   have hsx:(Xp n a q).nx=a.nx+1:=by unfold Xp;rw[hc];rfl
   have hsk:Kj (Xp n a q).E=Kj a.E++[q.Head,q.Tail]:=by rw[hsE];simp[Kj]
   rw[he]
   have ih:=Tm hn hps (qs:=qs) (a:=Xp n a q) (F:=F++[(q.Head,Ka a.nx n),(q.Tail,Vs (Ka j n) 1)]) (by rw[hsE,hF,append_assoc]) (λr hr=>hl r (mem_cons_of_mem _ hr)) hd (by
    intro x hxm;rw[hsk];intro hm;rcases mem_append.1 hm with hm|hm
    ·exact hk x (by simp[hxm]) hm
    ·simp at hm;rcases hm with rfl|rfl
     ·exact d1.2 hxm
     ·exact d2 hxm) (by rw[hsx];omega) (by
    rw[hsE];intro e he;rcases mem_append.1 he with he|he
    ·exact hE e he
    ·simp at he;rcases he with rfl|rfl
     ·exact⟨Ce hn (by omega),by omega⟩
     ·exact⟨Ce (i:=j) hn hj',by omega⟩)
   obtain⟨g1,g2,g3,g4⟩:=ih;refine⟨g1,?_,?_,g4⟩
   ·rw[g2,hsk,append_assoc];rfl
   ·rw[g3,hsx];omega
def Jjq(K:List Je)(a:X8):Prop:=(∀s∈a.Heads,∀t∈s.Terms,t.Name∈K)/\(a.Base≠[]->a.Base∈K)
def J7q(p:Jq)(K:List Je):List Xf->Prop
 | []=>True
 |c::cs=>(∀a∈c.Args,Jjq K a)/\((Kw p.Functions c.Func).getD Yf).ListResult=Xh c.Bind/\c.Bind∉K/\J7q p (K++[c.Bind]) cs
theorem J64{p:Jq}{n:Nat}(hn:n<=8):∀{cs:List Xf}{a:MS},J7q p (Kj a.E) cs->a.nx+cs.length<=n->Ox n a.E ->
 cs.foldl (Bz p n) a=cs.foldl (Wn n) a/\Kj (cs.foldl (Wn n) a).E=Kj a.E++cs.map (·.Bind)/\Ox n (cs.foldl (Wn n) a).E
 | [],a,_,_,hE=>by simp[hE]
 |c::cs,a,h,hx,hE=>by
  obtain⟨h1,h2,h3,h4⟩:=h;simp only[length_cons]at hx;simp only[foldl_cons];have hb:Ow a.E c.Bind (Ka a.nx n)=a.E++[(c.Bind,Ka a.nx n)]:=Mv h3;have ha:c.Args.map (Q8 a.E n)=c.Args.map (Q9 a.E n):=List.map_congr_left λx hx=>Jj5 hE (h1 x hx)
  have he:Bz p n a c=Wn n a c:=by unfold Bz Wn;rw[hb,ha,h2]
  have hsE:(Wn n a c).E=a.E++[(c.Bind,Ka a.nx n)]:=rfl;rw[he]
  have ih:=J64 (p:=p) hn (cs:=cs) (a:=Wn n a c) (by rw[hsE,Ss];exact h4) (by show a.nx+1+_<=_;omega) (by
   rw[hsE];intro e he;rcases mem_append.1 he with he|he
   ·exact hE e he
   ·simp at he;subst he;exact⟨Ce hn (by omega),by omega⟩)
  obtain⟨g1,g2,g3⟩:=ih;refine⟨g1,?_,g3⟩;rw[g2,hsE,Ss];simp
theorem Ja7{a:X8}{b:Bool}{K:List Je}(h:Ws a b K=true):Jjq K a:=by
 unfold Ws at h;simp only[Bool.and_eq_true]at h;have h2:=h.2;rw[J3k]at h2;unfold Hg at h2;rw[all_eq_true]at h2
 have hs:∀(l:List Xb) (s:Xb),s∈l->∀t∈s.Terms,t.Name∈It l:=by
  intro l
  induction l with
  |nil=>intro s hs;cases hs
  |cons x l ih=>
   intro s hs t ht;simp only[It];rcases mem_cons.1 hs with rfl|hs
   ·exact mem_append_left _ (mem_map.2 ⟨t,ht,rfl⟩)
   ·exact List.mem_append_right _ (ih s hs t ht)
 refine⟨λs hs' t ht=>No.1 (h2 _ ?_),λhb=>No.1 (h2 _ ?_)⟩
 ·exact mem_append_left _ (hs _ s hs' t ht)
 ·refine List.mem_append_right _ ?_;rw[if_neg hb];exact mem_cons_self
theorem J47{K:List Je} : ∀{l:List X8}{m:List Je},Gi K l m=true->l.length=m.length->∀a∈l,∃b,Ws a b K=true
 | [],_,_,_,_,h=>by cases h
 |a::l,[],_,hl,_,_=>by simp at hl
 |a::l,s::m,h,hl,x,hx=>by
  simp only[Gi,Bool.and_eq_true]at h;rcases mem_cons.1 hx with rfl|hx
  ·exact⟨_,h.1⟩
  ·exact J47 h.2 (by simpa using hl) x hx
theorem J9z{p:Jq}{c:Xf}{K:List Je}(h:If p c K=true):(∀a∈c.Args,∃b,Ws a b K=true)/\((Kw p.Functions c.Func).getD Yf).ListResult=Xh c.Bind:=by
 unfold If at h;simp only[Bool.and_eq_true,decide_eq_true_eq]at h;obtain⟨⟨⟨_,h1⟩,h2⟩,h3⟩:=h;refine⟨J47 h3 h1,?_⟩;cases hr:((Kw p.Functions c.Func).getD Yf).ListResult
 ·rw[hr]at h2;simp only[Bool.false_eq_true,if_false,W7,Bool.and_eq_true,Bool.not_eq_true']at h2;exact h2.2.symm
 ·rw[hr]at h2;simp only[if_true]at h2;exact h2.symm
theorem Cq{p:Jq}{r:Jy}{f:K3}(hf:Kw p.Functions r.Func=some f){k:Nat}(hk:k<=r.Calls.length):Uf p r k=f.Params++Ui r.Patterns++(r.Calls.take k).map (·.Bind):=by unfold Uf;rw[hf];rw[if_pos (by simp[K9];omega)];simp
theorem J25{p:Jq}{r:Jy}{f:K3}(hf:Kw p.Functions r.Func=some f)(hd:(f.Params++Ui r.Patterns++r.Calls.map (·.Bind)).Nodup) :
 ∀{m k:Nat},k+m=r.Calls.length->Qy p r k (r.Calls.drop k)=true->J7q p (Uf p r k) (r.Calls.drop k)
 |0,k,hm,_=>by rw[drop_eq_nil_of_le (by omega)];trivial
 |m+1,k,hm,h=>by
  have hk:k<r.Calls.length:=by omega
  have hsk:Uf p r (k+1:Nat)=Uf p r k++[(r.Calls[k]).Bind]:=by rw[Cq hf (by omega),Cq hf (by omega),List.take_succ_eq_append_getElem hk,List.map_append,<-append_assoc];rfl
  rw[drop_eq_getElem_cons hk]at h⊢;simp only[Qy,Bool.and_eq_true]at h;obtain⟨g1,g2⟩:=J9z h.1;refine⟨λa ha=>?_,g2,?_,?_⟩
  ·obtain⟨b,hb⟩:=g1 a ha;exact Ja7 hb
  ·rw[Cq hf (by omega)];intro hmem
   have hsub:(f.Params++Ui r.Patterns++(r.Calls.take k).map (·.Bind)++[(r.Calls[k]).Bind]).Nodup:=by
    refine hd.sublist ?_;rw[append_assoc];refine List.Sublist.append_left ?_ _;have:(r.Calls.take k).map (·.Bind)++[(r.Calls[k]).Bind]=(r.Calls.take (k+1)).map (·.Bind):=by rw[List.take_succ_eq_append_getElem hk,List.map_append];rfl
    rw[this];exact(List.take_sublist _ _).map _
   rw[nodup_append]at hsub;exact hsub.2.2 _ hmem _ (by simp) rfl
  ·rw[<-hsk];exact J25 hf hd (m:=m) (by omega) h.2
theorem Jco{ps:List Je} : ∀{qs:List X2}{met:List Je},Iv ps met qs=true->(∀q∈qs,q.Lst∈ps)/\(qs.map (·.Lst)).Nodup/\∀q∈qs,q.Lst∉met
 | [],_,_=>by simp
 |q::qs,met,h=>by
  simp only[Iv,Bool.and_eq_true,Bool.not_eq_true']at h;obtain⟨⟨h1,h2⟩,h3⟩:=h;obtain⟨g1,g2,g3⟩:=Jco h3;unfold Ew at h1;simp only[Bool.and_eq_true]at h1;have h1':=No.1 h1.1.1;have h2':=J59.1 h2;refine⟨?_,?_,?_⟩
  ·intro x hx;rcases mem_cons.1 hx with rfl|hx
   ·exact h1'
   ·exact g1 x hx
  ·rw[map_cons,nodup_cons];refine⟨?_,g2⟩;intro hm;obtain⟨y,hy,he⟩:=mem_map.1 hm;exact g3 y hy (by rw[he];simp)
  ·intro x hx;rcases mem_cons.1 hx with rfl|hx
   ·exact h2'
   ·exact λhm=>g3 x hx (mem_append_left _ hm)
theorem Es{p:Jq}{name:Je}{f:K3}(hp:Ym p=true)(hf:Kw p.Functions name=some f):f.Params.length<=2/\f.Params.Nodup/\(∀l∈f.Pre,K4 l f.Params.length=true)/\f.Pre.length<=2:=by unfold Ym at hp;simp only[Bool.and_eq_true,Sh,all_eq_true]at hp;have:=hp.1.1.2.1 f (List.mem_of_find?_eq_some hf);unfold Ok Q5 at this;simp only[Bool.and_eq_true,decide_eq_true_eq,all_eq_true]at this;obtain⟨⟨⟨⟨_,h2⟩,_,h3⟩,h4⟩,h5⟩:=this;exact⟨h2,(J7w h3).1,h5,h4⟩
structure Ev (p:Jq) (r:Jy) (f:K3):Prop where
 par:f.Params.length<=2
 pre:∀l∈f.Pre,K4 l f.Params.length=true
 npre:f.Pre.length<=2
 pats:∀q∈r.Patterns,q.Lst∈f.Params
 npats:r.Patterns.length<=f.Params.length
 nd:(f.Params++Ui r.Patterns++r.Calls.map (·.Bind)).Nodup
 ncalls:r.Calls.length<=2
 nguards:r.Guards.length<=2
 guards:∀g∈r.Guards,Qt (f.Params++Ui r.Patterns) g=true
 calls:Qy p r 0 r.Calls=true
 res:Ws r.Result f.ListResult (f.Params++Ui r.Patterns++r.Calls.map (·.Bind))=true
theorem Eu{p:Jq}{r:Jy}(hp:Ym p=true)(hr:r∈p.Rules):∃f,Kw p.Functions r.Func=some f/\Ev p r f:=by
 have hp':=hp;unfold Ym at hp';simp only[Bool.and_eq_true,all_eq_true]at hp';have h:=hp'.2 r hr;unfold G0 at h;simp only[Bool.and_eq_true,decide_eq_true_eq]at h;obtain⟨⟨⟨⟨⟨⟨⟨g1,g2⟩,g3⟩,g4⟩,g5⟩,g6⟩,g7⟩,g8⟩:=h;obtain⟨f,hf⟩:=Option.isSome_iff_exists.1 g1;rw[hf]at g2 g7;simp only[Option.getD_some]at g2 g7;obtain⟨k1,k2,k3,k4⟩:=Es hp hf;obtain⟨q1,q2,_⟩:=Jco g2;have hs0:=Cq (p:=p) (r:=r) hf (k:=0) (Nat.zero_le _);have hsa:=Cq (p:=p) (r:=r) hf (k:=r.Calls.length) (Nat.le_refl _);rw[List.take_length]at hsa;simp only[List.take_zero,map_nil,append_nil]at hs0;rw[hsa]at g7 g8;rw[show((0:Nat):Int)=0 from rfl]at hs0;rw[hs0,all_eq_true]at g4;refine⟨f,hf,k1,k3,k4,q1,?_,(J7w g8).1,g5,g3,g4,g6,g7⟩
 have:=Jdu q2 (N:=f.Params) (by intro x hx;obtain⟨q,hq,rfl⟩:=mem_map.1 hx;exact q1 q hq)
 simpa using this
theorem Jac(l:List X2):Y8 l<=l.length:=List.length_filter_le _ _
theorem Ev.size {p:Jq}{r:Jy}{f:K3}(R:Ev p r f):K7 r f<=6:=by have:=Jac r.Patterns;have:=R.par;have:=R.npats;have:=R.ncalls;unfold K7;omega
theorem Ji3{p:Jq}{r:Jy}{f:K3}(hf:Kw p.Functions r.Func=some f)(R:Ev p r f):Pw p r f=some (Vf r f):=by
 have h6:=R.size;have hn:K7 r f<=8:=by omega
 have hpn:f.Params.length<=K7 r f:=by unfold K7;omega
 have hd:=R.nd;rw[append_assoc,nodup_append]at hd;obtain⟨hd1,hd2,hd3⟩:=hd;rw[nodup_append]at hd2;obtain⟨hd4,hd5,hd6⟩:=hd2;obtain⟨a1,a2,a3,a4,a5,a6,a7,a8,a9⟩:=Td (n:=K7 r f) (xs:=f.Params) (a:=⟨[],0,[],[],[]⟩) (b:=⟨[],0,Wk f (K7 r f),[],[]⟩) rfl rfl rfl rfl hd1 (by simp[Kj]);simp only[nil_append,Nat.zero_add]at a1 a2 a3 a4 a5 a6 a7 a8 a9
 have hpre:Nx (Jv r f).pars (K7 r f) f.Pre=some (f.Pre.map (Yc (K7 r f))):=by
  refine T9 λl hl=>?_
  unfold Jv;rw[a4,J7r R.par];exact J2t R.par hpn hn (R.pre l hl)
 unfold Pw Vf;rw[hpre];simp only
 have e1:(⟨(Jv r f).E,(Jv r f).nx,(Jv r f).rows++f.Pre.map (Yc (K7 r f)),(Jv r f).pars,(Jv r f).args⟩:MS)=Wf (Ud r f) f.Params.length:=by unfold Jv Ud Wf;rw[a1,a2,a3,a4,a5,a6,a7,a8,a9];rfl
 have b0:(Wf (Ud r f) f.Params.length).E=G7 (K7 r f) f.Params 0++[]:=by rw[append_nil];exact a2
 have b1:Kj (Wf (Ud r f) f.Params.length).E=f.Params:=by rw[b0,append_nil,J2s]
 have b2:Ox (K7 r f) (Wf (Ud r f) f.Params.length).E:=by rw[b0,append_nil];exact Jee hn hpn
 obtain⟨c1,c2,c3,c4⟩:=Tm hn hpn (qs:=r.Patterns) (a:=Wf (Ud r f) f.Params.length) b0 R.pats hd4 (by rw[b1];intro x hx hm;exact hd3 x hm x (mem_append_left _ hx) rfl) (by show f.Params.length+Y8 r.Patterns<=K7 r f;unfold K7;omega) b2
 rw[b1]at c2;have e3:Kl r f (f.Pre.map (Yc (K7 r f)))=Y2 r f:=by unfold Kl Y2;rw[e1,c1]
 have hg:r.Guards.map (Q6 (Y2 r f).E (K7 r f))=r.Guards.map (V3 (Y2 r f).E (K7 r f)):=by
  refine List.map_congr_left λg hg=>Jjd c4 λt ht=>?_
  have:=R.guards g hg;unfold Qt Hg at this;simp only[Bool.and_eq_true,all_eq_true]at this;have:=No.1 (this.2 t.Name (mem_map.2 ⟨t,ht,rfl⟩));show t.Name∈Kj (Y2 r f).E
  unfold Y2;rw[c2];exact this
 have e4:Y7 (Y2 r f) (r.Guards.map (Q6 (Y2 r f).E (K7 r f)))=Y7 (Wf (Y2 r f) (f.Params.length+Y8 r.Patterns)) (r.Guards.map (V3 (Y2 r f).E (K7 r f))):=by rw[hg];unfold Y7 Wf;have:(Y2 r f).nx=f.Params.length+Y8 r.Patterns:=c3;rw[this]
 have hk0:Kj (Y7 (Wf (Y2 r f) (f.Params.length+Y8 r.Patterns)) (r.Guards.map (V3 (Y2 r f).E (K7 r f)))).E=f.Params++Ui r.Patterns:=c2;have hci:=J25 (p:=p) (r:=r) hf R.nd (m:=r.Calls.length) (k:=0) (by omega) R.calls;have hs0:=Cq (p:=p) (r:=r) hf (k:=0) (Nat.zero_le _);simp only[List.take_zero,map_nil,append_nil]at hs0;rw[hs0,List.drop_zero]at hci
 obtain⟨d1,d2,d3⟩:=J64 (p:=p) hn (cs:=r.Calls) (a:=Y7 (Wf (Y2 r f) (f.Params.length+Y8 r.Patterns)) (r.Guards.map (V3 (Y2 r f).E (K7 r f)))) (by rw[hk0];exact hci) (by show f.Params.length+Y8 r.Patterns+r.Calls.length<=K7 r f;unfold K7;omega) c4
 have e5:Ur p r f (f.Pre.map (Yc (K7 r f)))=V5 r f:=by unfold Ur V5;rw[e3,e4,d1]
 rw[e5]
 have er:Q8 (V5 r f).E (K7 r f) r.Result=Q9 (V5 r f).E (K7 r f) r.Result:=by
  refine Jj5 d3 ?_;have h1:=Ja7 R.res;have h2:Kj (V5 r f).E=f.Params++Ui r.Patterns++r.Calls.map (·.Bind):=by unfold V5;rw[d2,hk0]
  rw[<-h2]at h1;exact h1
 rw[er]
theorem Jfy{p:Jq}{name:Je}{f:K3}(hp:Ym p=true)(hf:Kw p.Functions name=some f):Wk f f.Params.length=Ii f.Params.length f.Params 0++f.Pre:=by
 obtain⟨_,_,h,_⟩:=Es hp hf;unfold Wk;congr 1
 conv=>rhs;rw[<-List.map_id f.Pre]
 refine List.map_congr_left λl hl=>Jaq ?_
 have:=(W0 (h l hl)).1;omega
def a206:Jk:= ⟨34,[(.c 6 true 2)],(Zq [ZB 4 1,Zo 6 (.box [(.int .i64 0),(.nil 1)])] (Zq [Zf 10 0 4,Zl 11 false 1 10,Zv 12 2,Zc 13 178 [.t 11,.t 12],Zo 7 (.box [(.int .i64 0),(.nil 1)]),⟨no,.st 2 (.t 7) (.t 13),no⟩] (.seq (Zq [Zf 14 1 4,Zl 15 false 1 14,Zn 16 15,Zi 17 0] (.blk 0 (.loop (Zq [Zb 18 .lss 17 16] (.seq (Zw 18 0) (.seq (.blk 1 (Zq [Zx 19 2 15 17,Zl 20 true 2 19,Zo 9 (.box [(.int .i64 0),(.str [])]),⟨no,.st 2 (.t 9) (.t 20),no⟩] (.reg [Zl 22 true 2 7,Zf 23 0 9,Zl 24 false 1 23,Zv 25 0,Zf 26 1 9,Zl 27 false 1 26,Zo 28 (.mget (.agg [(.int .i64 0),(.nil 1)]) (.t 25) (.t 27)),Zc 29 193 [.t 22,.t 24,.t 28],Zv 21 29,Ze 30 21 0,Ze 31 21 1,⟨no,.st 2 (.t 7) (.t 30),no⟩]))) (.reg [Zk 32 .add 17 1,Zv 17 32]))))))) (Zq [Zl 33 true 2 7,⟨no,.st 2 (.t 6) (.t 33),no⟩] .ret))))⟩
theorem a206_ok:Jf prog Tryz.f206=some a206:=by kernel_rfl
def a207:Jk:= ⟨36,[(.c 6 true 2)],(Zq [ZB 4 1,Zo 6 (.box [(.int .i64 0),(.nil 1)])] (.seq (Zq [Zf 8 0 4,Zl 9 false 1 8,ZN 10 9] (.cond (.t 10) (Zq [Zv 11 0,Zf 12 1 4,Zl 13 false 1 12,Zo 14 (.ixa 2 (.t 13) (.k (.int .i64 0))),Zl 15 true 2 14,Zv 16 2,Zc 17 206 [.t 11,.t 15,.t 16],⟨no,.st 2 (.t 6) (.t 17),no⟩] .ret) .skip)) (Zq [Zf 18 1 4,Zl 19 false 1 18,Zn 20 19,Zv 21 2,Zc 22 178 [.t 20,.t 21],Zo 7 (.box [(.int .i64 0),(.nil 1)]),⟨no,.st 2 (.t 7) (.t 22),no⟩] (.seq (Zq [Zf 23 2 4,Zl 24 false 1 23,Zo 25 (.bin .neq (.t 24) (.k (.str [])))] (.cond (.t 25) (.reg [Zl 27 true 2 7,Zv 28 0,Zf 29 2 4,Zl 30 false 1 29,Zo 31 (.mget (.agg [(.int .i64 0),(.nil 1)]) (.t 28) (.t 30)),Zc 32 193 [.t 27,(.k (.int .i64 1)),.t 31],Zv 26 32,Ze 33 26 0,Ze 34 26 1,⟨no,.st 2 (.t 7) (.t 33),no⟩]) .skip)) (Zq [Zl 35 true 2 7,⟨no,.st 2 (.t 6) (.t 35),no⟩] .ret)))))⟩
theorem a207_ok:Jf prog Tryz.f207=some a207:=by kernel_rfl
theorem J2v{P:Program}{f:FuncId}{xs:List AV}{h:J8}{n:Nat}{K:AV->J8->Nat->Prop}
 (hA:X7 P f xs h n λr h' n'=>(∀id,id<n->h' id=h id)/\K r h' n'):X7 P f xs h n (hK h K):=by
 refine⟨hA.1,λbase w0 w L F vs H hv=>?_⟩;refine(hA.2 base w0 w L F vs H hv).mono ?_;rintro e w' ⟨v,r,L',n',F',h',rfl,H',hx,hr,hh,hk⟩;refine⟨v,r,L',n',F',h',rfl,H',hx,hr,λid B hB=>?_,hk⟩
 have hlt:id<n:=by
  cases hl:L id with
  |none=>rw[H.mod id hl]at hB;cases hB
  |some l=>exact H.lt id l hl
 rw[hh id hlt];exact hB
def Id(l:Jc)(q:Nat):AV := .agg [i64 l.Const,.ref q 0 l.Coeffs.length]
structure Va where
 k:Je
 l:Jc
 q:Nat
def Va.row (e:Va):List AV:=[.str e.k,Id e.l e.q]
def C7(es:List Va):Xl:=es.map λe=>(e.k,e.l)
def D7:List Va->Je->Jc->Nat->List Va
 | [],k,l,q=>[⟨k,l,q⟩]
 |e::es,k,l,q=>if e.k=k then⟨k,l,q⟩::es else e::D7 es k l q
theorem J9i{k:Je}{l:Jc}{q:Nat} : ∀{es:List Va},C7 (D7 es k l q)=Ow (C7 es) k l
 | []=>rfl
 |e::es=>by
  have ih:=J9i (k:=k) (l:=l) (q:=q) (es:=es);simp only[D7,C7,map_cons,Ow]at ih⊢;split
  ·rfl
  ·rw[map_cons,ih]
theorem Su{k:Je}{l:Jc}{q:Nat} : ∀{es:List Va},Bd (es.map Va.row) k (Id l q)=(D7 es k l q).map Va.row
 | []=>rfl
 |e::es=>by
  have ih:=Su (k:=k) (l:=l) (q:=q) (es:=es);simp only[map_cons,Va.row,Bd,D7]at ih⊢;split
  ·rfl
  ·simp only[map_cons,Va.row,List.cons.injEq,true_and];exact ih
theorem J4g{k:Je}{l:Jc}{q:Nat} : ∀{es:List Va}{e:Va},e∈D7 es k l q->e∈es\/e=⟨k,l,q⟩
 | [],e,h=>by simp[D7]at h;exact .inr h
 |a::es,e,h=>by
  simp only[D7]at h;split at h
  ·rcases mem_cons.1 h with h|h
   ·exact .inr h
   ·exact .inl (mem_cons_of_mem _ h)
  ·rcases mem_cons.1 h with rfl|h
   ·exact .inl mem_cons_self
   ·rcases J4g h with h|h
    ·exact .inl (mem_cons_of_mem _ h)
    ·exact .inr h
theorem J1m{k:Je} : ∀{es:List Va},(Od (es.map Va.row) k=Option.none/\∀d,Kp d (C7 es) k=d)\/∃e∈es,Od (es.map Va.row) k=some (Id e.l e.q)/\∀d,Kp d (C7 es) k=e.l
 | []=>.inl ⟨rfl,λ_=>rfl⟩
 |a::es=>by
  simp only[map_cons,Va.row,Od,C7,Kp,List.find?_cons];by_cases h:a.k=k
  ·exact .inr ⟨a,mem_cons_self,by rw[if_pos h],λd=>by simp[h]⟩
  ·rw[if_neg h];have hb:(a.k==k)=false:=by simpa using h
   rcases J1m (k:=k) (es:=es)with ⟨h1,h2⟩|⟨e,he,h1,h2⟩
   ·exact .inl ⟨h1,λd=>by rw[hb];exact h2 d⟩
   ·exact .inr ⟨e,mem_cons_of_mem _ he,h1,λd=>by rw[hb];exact h2 d⟩
def G8(d:Nat)(E:Xl)(h:J8)(n:Nat):Prop:=∃es:List Va,C7 es=E/\h d=some ⟨true,0,es.map Va.row⟩/\∀e∈es,e.q<n/\h e.q=some ⟨false,1,Jg e.l.Coeffs⟩
theorem G8.keep {d:Nat}{E:Xl}{h h':J8}{n n':Nat}(M:G8 d E h n) (hd:d<n) (hn:n<=n') (hh:∀id,id<n->h' id=h id):G8 d E h' n':=by obtain⟨es,h1,h2,h3⟩:=M;exact⟨es,h1,by rw[hh d hd,h2],λe he=>⟨by have:=(h3 e he).1;omega,by rw[hh _ (h3 e he).1];exact(h3 e he).2⟩⟩
theorem G8.get {d:Nat}{E:Xl}{h:J8}{n:Nat}(M:G8 d E h n) (x:Je):∃rows w,h d=some ⟨true,0,rows⟩/\(Od rows x).getD (.agg [.int .i64 0,.nil 1]) = .agg [.int .i64 (Kp Jl E x).Const,w]/\bw w h=some (.sl 1 (Jg (Kp Jl E x).Coeffs)):=by
 obtain⟨es,rfl,h2,h3⟩:=M;refine⟨es.map Va.row,?_⟩;rcases J1m (k:=x) (es:=es)with ⟨g1,g2⟩|⟨e,he,g1,g2⟩
 ·exact⟨.nil 1,h2,by rw[g1,g2];rfl,by rw[g2];rfl⟩
 ·refine⟨.ref e.q 0 e.l.Coeffs.length,h2,by rw[g1,g2];rfl,?_⟩;rw[g2];simp[bw,(h3 e he).2]
theorem G8.get2 {d:Nat}{E:Xl}{h:J8}{n:Nat}(M:G8 d E h n) (x:Je):∃rows w,h d=some ⟨true,0,rows⟩/\(Od rows x).getD (.agg [.int .i64 0,.nil 1]) = .agg [.int .i64 (Kp Jl E x).Const,w] /\
 ((w = .nil 1/\(Kp Jl E x).Coeffs=[])\/∃q,q<n/\w = .ref q 0 (Kp Jl E x).Coeffs.length/\h q=some ⟨false,1,Jg (Kp Jl E x).Coeffs⟩):=by
 obtain⟨es,rfl,h2,h3⟩:=M;refine⟨es.map Va.row,?_⟩;rcases J1m (k:=x) (es:=es)with ⟨g1,g2⟩|⟨e,he,g1,g2⟩
 ·exact⟨.nil 1,h2,by rw[g1,g2];rfl,.inl ⟨rfl,by rw[g2];rfl⟩⟩
 ·refine⟨.ref e.q 0 e.l.Coeffs.length,h2,by rw[g1,g2];rfl,.inr ⟨e.q,(h3 e he).1,by rw[g2],by rw[g2];exact(h3 e he).2⟩⟩
theorem J2c{d:Nat}{E:Xl}{h:J8}{n N:Nat}{s:Xb}(hs:s.Terms.length<=1048576)(M:G8 d E h n)(hd:d<n){K:AV->J8->Nat->Prop}
 (hK:∀q h' n',n<=q->q<n'->(∀id,id<n->h' id=h id)->h' q=some ⟨false,1,Jg (Q6 E N s).Coeffs⟩->K (Id (Q6 E N s) q) h' n') :
 X7 prog 206 [.mp d,.agg (Kq s),i64 N] h n K:=by
 refine U8 Tryz.func206 a206_ok rfl (by simp[a206]) ?_;have z0:¬n=n+1:=by omega
 have z1:¬n+1=n:=by omega
 have z2:¬n=n+1+1:=by omega
 have z3:¬n=n+1+1+1:=by omega
 have z4:¬n+1=n+1+1:=by omega
 have z5:¬n+1=n+1+1+1:=by omega
 have z6:¬n+1+1=n:=by omega
 have z7:¬n+1+1+1=n:=by omega
 simp[a206,Kq];refine Jd (On s.Const N) (by simp) ?_;rintro r rfl;simp[J9,z2,z3];intro _;unfold Q6 at hK;generalize hT:s.Terms.foldl (λo t=>Yn o t.Coeff (Kp Jl E t.Name)) (Jo s.Const N)=T at hK
 refine Ki [0,2,4,6,7,15,16] 17 s.Terms.length (λi st h' m=>n+3<m/\(∀id,id<n->h' id=h id)/\h' n=some ⟨true,2,[[.int .i64 s.Const,.sl 2 (s.Terms.map Xe)]]⟩/\h' (n+1)=some ⟨true,2,[[.int .i64 0,.nil 1]]⟩ /\
  ∃(o:Jc) (q:Nat),h' (n+3)=some ⟨true,2,[[.int .i64 o.Const,.ref q 0 o.Coeffs.length]]⟩/\h' q=some ⟨false,1,Jg o.Coeffs⟩/\(q=n+2\/n+3<q)/\q<m/\(s.Terms.drop i).foldl (λo t=>Yn o t.Coeff (Kp Jl E t.Name)) o=T) (by unfold Jb;omega) (by simp) ?_ ?_ ?_
 ·refine⟨by omega,?_,by simp[z2,z3],by simp,Jo s.Const N,n+2,by simp,by simp,.inl rfl,by omega,hT⟩;intro id hid;have y0:¬id=n:=by omega
  have y1:¬id=n+1:=by omega
  have y2:¬id=n+1+1:=by omega
  have y3:¬id=n+1+1+1:=by omega
  have y4:¬id=n+2:=by omega
  have y5:¬id=n+3:=by omega
  simp[y0,y1,y2,y3]
 ·rintro i st h' m R hi hg hk s17 hw ⟨hm,hfr,e0,e1,o,q,eb,eq,hq,hqm,hJ⟩ hR _ _;simp at hk;rw[drop_eq_getElem_cons hi,foldl_cons]at hJ;refine Js [0,2,4,6,7,15,16,17] (λs=>s 18 = .bool true) (by simp[hk,s17,hi]) ?_;intro Jv hk1 s18;simp at hk1;refine W9 s18 (Jn (Xg ?_));refine Xo [0,2,4,6,7,15,16,17] (λst2 h2 m2=>m2=m+1/\st2 9 = .ptr m 0 0/\h2 m=some ⟨true,2,[Xe s.Terms[i]]⟩/\∀id,id<m->h2 id=h' id) ?_ ?_
  ·simp[hk1,hk,s17,hi,Xe];intro id hid;have:¬id=m:=by omega
   simp[this]
  rintro st2 h2 m2 hk2 ⟨rfl,s9,em,hfr2⟩;simp at hk2;have M2:G8 d E h2 (m+1):=M.keep hd (by omega) λid hid=>by rw[hfr2 id (by omega),hfr id hid]
  obtain⟨rows,w,hdr,hv,hbw⟩:=M2.get (s.Terms[i]).Name;have eb2:=hfr2 (n+3) (by omega);have eq2:=hfr2 q (by omega);rw[eb]at eb2;rw[eq]at eq2;simp[hk2,hk1,hk,s9,em,eb2,Xe,hdr,hv];refine Jd (Ih o (s.Terms[i]'hi).Coeff (Kp Jl E (s.Terms[i]'hi).Name)) (by simp[Ja,eq2,hbw]) ?_;rintro r rfl;rw[Xd];have hadd:(Kg o (s.Terms[i]).Coeff (Kp Jl E (s.Terms[i]).Name)).getD Jl=Yn o (s.Terms[i]).Coeff (Kp Jl E (s.Terms[i]).Name):=rfl;rw[hadd];generalize Yn o (s.Terms[i]).Coeff (Kp Jl E (s.Terms[i]).Name)=o' at *;have b1:¬n+3=m+1:=by omega
  have b2:¬m+1=n+3:=by omega
  have b3:¬n=m+1:=by omega
  have b4:¬n+1=m+1:=by omega
  have b5:¬n+1+1=m:=by omega
  have b6:¬m=n+1+1:=by omega
  have b7:¬m=n+2:=by omega
  have b8:¬n+2=m:=by omega
  simp[hk2,hk1,hk,s17,hw,J9,eb2,b5];refine hR _ _ _ (by simp[hk2,hk1,hk]) (by simp) ⟨by omega,?_,?_,?_,o',m+1,by simp,by simp[b6],.inr (by omega),by omega,hJ⟩
  ·intro id hid;have y0:¬id=n+3:=by omega
   have y1:¬id=m+1:=by omega
   simp[y0,y1,hfr2 id (by omega),hfr id hid]
  ·simp[b3,hfr2 n (by omega),e0,z3]
  ·have:¬n+1=n+3:=by omega
   simp[hfr2 (n+1) (by omega),e1];try omega
 ·rintro st h' m R hk s17 ⟨hm,hfr,e0,e1,o,q,eb,eq,hq,hqm,hJ⟩ hret hX;simp at hk;rw[drop_eq_nil_of_le (by omega)]at hJ;simp only[List.foldl_nil]at hJ;subst hJ;refine Js [6,7] (λs=>s 18 = .bool false) (by simp[hk,s17]) ?_;intro Jv hk1 s18;simp at hk1;refine Ut s18 ?_;refine hX _ _ _ _ ?_;have c1:¬q=n+1:=by omega
  simp[hk1,hk,eb,e1];refine hK q _ _ (by omega) hqm ?_ (by simp[c1,eq]);intro id hid;have y0:¬id=n+1:=by omega
  simp[y0,hfr id hid]
theorem J26{d:Nat}{E:Xl}{h:J8}{n N:Nat}{a:X8}(hs:∀s∈a.Heads,s.Terms.length<=1048576)(hne:a.Lst=false->0<a.Heads.length)(M:G8 d E h n)(hd:d<n){K:AV->J8->Nat->Prop}
 (hK:∀q h' n',n<=q->q<n'->(∀id,id<n->h' id=h id)->h' q=some ⟨false,1,Jg (Q8 E N a).Coeffs⟩->K (Id (Q8 E N a) q) h' n') :
 X7 prog 207 [.mp d,.agg (Kf a),i64 N] h n K:=by
 refine U8 Tryz.func207 a207_ok rfl (by simp[a207]) ?_;have z0:¬n=n+1:=by omega
 have z1:¬n+1=n:=by omega
 have z2:¬n=n+1+1:=by omega
 have z3:¬n=n+1+1+1:=by omega
 have z4:¬n+1=n+1+1:=by omega
 have z5:¬n+1=n+1+1+1:=by omega
 have z6:¬n+1+1=n:=by omega
 have z7:¬n+1+1+1=n:=by omega
 unfold Q8 at hK
 have M2:G8 d E (upd (upd h n (some ⟨true,3,[Kf a]⟩)) (n+1) (some ⟨true,2,[[.int .i64 0,.nil 1]]⟩)) (n+2):=M.keep hd (by omega) λid hid=>by
  have y0:¬id=n:=by omega
  have y1:¬id=n+1:=by omega
  simp[y0,y1]
 cases hL:a.Lst
 ·rw[hL]at hK;have hz:=hne hL
  obtain⟨s,l,hsl⟩:∃s l,a.Heads=s::l:=by
   cases hh:a.Heads with
   |nil=>rw[hh]at hz;cases hz
   |cons s l=>exact⟨s,l,rfl⟩
  have hs0:=hs s (by rw[hsl];exact mem_cons_self);simp[hsl]at hK;simp[a207,Kf,hL,hsl];refine J2c (E:=E) hs0 (by simpa[Kf,hL,hsl]using M2) (by omega) ?_;intro q h' n' hq hq' hfr hqb;have f1:=hfr (n+1) (by omega);simp at f1;simp[Id,f1];have y2:¬q=n+1:=by omega
  refine hK q _ _ (by omega) hq' ?_ (by simp[y2,hqb]);intro id hid;have y0:¬id=n:=by omega
  have y1:¬id=n+1:=by omega
  simp[y0,y1,hfr id (by omega)]
 ·rw[hL]at hK;simp at hK;simp[a207,Kf,hL];intro _;refine Jd (On a.Heads.length N) (by simp) ?_;rintro r rfl;obtain⟨rows,w,hdr,hv,hw⟩:=M.get2 a.Base;have d0:¬d=n:=by omega
  have d1:¬d=n+1:=by omega
  have d2:¬d=n+1+1:=by omega
  have d3:¬d=n+1+1+1:=by omega
  have d4:¬n+1=n+3:=by omega
  have d5:¬n+1+1=n+3:=by omega
  have fr:∀id,id<n->¬id=n/\¬id=n+1/\¬id=n+1+1/\¬id=n+1+1+1/\¬id=n+2/\¬id=n+3/\¬id=n+1+1+1+1/\¬id=n+4:=λid hid=>by omega
  simp[J9,z2,z3];constructor
  ·intro hb;rw[if_neg hb]at hK;simp[d0,d1,d2,d3,hdr,hv];unfold Yn at hK;rcases hw with ⟨rfl,hc⟩|⟨q,hq,rfl,hqb⟩
   ·have hl:Kp Jl E a.Base=⟨(Kp Jl E a.Base).Const,[]⟩:=by rw[<-hc]
    generalize(Kp Jl E a.Base).Const=cc at *;rw[hl]at hK;have en:Jg []=[]:=rfl;refine Jd (Ih (Jo a.Heads.length N) 1 ⟨cc,[]⟩) (by simp[Ja,en]) ?_;rintro r rfl;rw[Xd];generalize(Kg (Jo a.Heads.length N) 1 ⟨cc,[]⟩).getD Jl=o' at *;simp[J9];refine hK (n+4) _ _ (by omega) (by omega) (λid hid=>by simp[fr id hid]) (by simp)
   ·obtain⟨q0,q1,q2,q3,q4,q5,q6,q7⟩:=fr q hq;refine Jd (Ih (Jo a.Heads.length N) 1 (Kp Jl E a.Base)) (by simp[Ja,hqb,q0,q1,q2,q3]) ?_;rintro r rfl;rw[Xd];generalize(Kg (Jo a.Heads.length N) 1 (Kp Jl E a.Base)).getD Jl=o' at *;simp[J9];refine hK (n+4) _ _ (by omega) (by omega) (λid hid=>by simp[fr id hid]) (by simp)
  ·intro hb;rw[if_pos hb]at hK;refine hK (n+2) _ _ (by omega) (by omega) (λid hid=>by simp[fr id hid]) (by simp)
def a230:Jk:= ⟨10,[.t 2],(Zq [Zt 2 false] (.seq (Zq [Zv 3 0] (.blk 0 (.seq (Zq [Zo 5 (.bin .eql (.t 3) (.k (.str [102,117,110]))),Zv 4 5] (.cond (.t 4) .skip (Zq [Zo 6 (.bin .eql (.t 3) (.k (.str [112,114,101]))),Zv 4 6] (.cond (.t 4) .skip (Zq [Zo 7 (.bin .eql (.t 3) (.k (.str [114,117,108,101]))),Zv 4 7] (.cond (.t 4) .skip (Zq [Zo 8 (.bin .eql (.t 3) (.k (.str [114,101,116,117,114,110]))),Zv 4 8] (.cond (.t 4) .skip (.reg [Zo 9 (.bin .eql (.t 3) (.k (.str [110,105,108]))),Zv 4 9]))))))))) (.cond (.t 4) (Zq [Zt 2 true] .ret) .skip)))) (Zq [Zt 2 false] .ret)))⟩
theorem a230_ok:Jf prog Tryz.f230=some a230:=by kernel_rfl
def a224:Jk:= ⟨18,[.t 4],(Zq [Zt 4 false] (.seq (Zq [Zi 5 0] (.blk 0 (.loop (.seq (Zq [Zv 6 5,Zv 7 0,Zn 8 7,Zb 9 .lss 6 8] (Zw 9 0)) (.seq (.blk 1 (Zq [Zv 12 0,Zv 13 5,Zx 14 1 12 13,Zl 15 false 1 14,Zv 16 1,Zb 17 .eql 15 16] (.cond (.t 17) (Zq [Zt 4 true] .ret) .skip))) (.reg [Zv 10 5,Zk 11 .add 10 1,Zv 5 11])))))) (Zq [Zt 4 false] .ret)))⟩
theorem a224_ok:Jf prog Tryz.f224=some a224:=by kernel_rfl
def a153:Jk:= ⟨19,[.t 4],(Zq [Zi 4 0] (.seq (Zq [Zv 6 0,Zn 7 6,Zi 8 0] (.blk 0 (.loop (Zq [Zb 9 .lss 8 7] (.seq (Zw 9 0) (.seq (.blk 1 (Zq [Zv 10 8,Zv 5 10] (Zq [Zv 11 1,Zv 12 0,Zv 13 5,Zx 14 1 12 13,Zl 15 false 1 14,Zb 16 .eql 11 15] (.cond (.t 16) (Zq [Zv 17 5,Zv 4 17] .ret) .skip)))) (.reg [Zk 18 .add 8 1,Zv 8 18]))))))) (Zq [Zi 4 (-1)] .ret)))⟩
theorem a153_ok:Jf prog Tryz.f153=some a153:=by kernel_rfl
def a72:Jk:= ⟨9,[.t 4],(Zq [Zt 4 false] (Zq [Zv 5 0,Zv 6 1,Zc 7 153 [.t 5,.t 6],Zk 8 .geq 7 0,Zv 4 8] .ret))⟩
theorem a72_ok:Jf prog Tryz.f72=some a72:=by kernel_rfl
def a63:Jk:= ⟨19,[.t 4],(Zq [Zi 4 0] (.seq (Zq [Zi 5 0] (.blk 0 (.loop (.seq (Zq [Zv 6 5,Zv 7 0,Zn 8 7,Zb 9 .lss 6 8] (Zw 9 0)) (.seq (.blk 1 (Zq [Zv 12 0,Zv 13 5,Zx 14 1 12 13,Zl 15 false 1 14,Zv 16 1,Zb 17 .eql 15 16] (.cond (.t 17) (Zq [Zv 18 5,Zv 4 18] .ret) .skip))) (.reg [Zv 10 5,Zk 11 .add 10 1,Zv 5 11])))))) (Zq [Zi 4 (-1)] .ret)))⟩
theorem a63_ok:Jf prog Tryz.f63=some a63:=by kernel_rfl
def a333:Jk:= ⟨2,[.t 0],(Zq [Zo 0 (.mv (.k (.nil 1)))] (Zq [Zo 1 (.bsl 1 [(.k (.str [102,117,110])),(.k (.str [112,114,101])),(.k (.str [114,117,108,101])),(.k (.str [114,101,116,117,114,110])),(.k (.str [110,105,108]))]),Zv 0 1] .ret))⟩
theorem a333_ok:Jf prog Tryz.f333=some a333:=by kernel_rfl
def a317:Jk:= ⟨6,[.t 2],(Zq [Zt 2 false] (Zq [Zc 3 333 [],Zv 4 0,Zc 5 224 [.t 3,.t 4],Zv 2 5] .ret))⟩
theorem a317_ok:Jf prog Tryz.f317=some a317:=by kernel_rfl
def a143:Jk:= ⟨50,[.t 2],(Zq [Zt 2 false] (.seq (Zq [Zv 6 0,Zo 7 (.len true (.t 6)),Zc 8 102 [.t 7,(.k (.int .i64 1)),(.k (.int .i64 8))],ZN 9 8,Zv 10 9,Zg 11 10 false (.mv (.t 0)),Zg 12 10 false (.call (.k (.fn (.func 230) [] [])) [.t 11]),ZP 13 10 12] (.cond (.t 13) (Zq [Zt 2 false] .ret) .skip)) (.seq (Zq [Zi 3 0] (.blk 0 (.loop (.seq (Zq [Zv 14 3,Zv 15 0,Zo 16 (.len true (.t 15)),Zb 17 .lss 14 16] (Zw 17 0)) (.seq (.blk 1 (Zq [Zv 20 0,Zv 21 3,Zo 22 (.ixs (.t 20) (.t 21)),Zo 23 (.bin .geq (.t 22) (.k (.int .u8 97))),Zv 24 23,Zg 25 24 true (.mv (.t 0)),Zg 26 24 true (.mv (.t 3)),Zg 27 24 true (.ixs (.t 25) (.t 26)),Zg 28 24 true (.bin .leq (.t 27) (.k (.int .u8 122))),ZQ 29 24 28,Zv 4 29] (Zq [Zv 30 0,Zv 31 3,Zo 32 (.ixs (.t 30) (.t 31)),Zo 33 (.bin .geq (.t 32) (.k (.int .u8 48))),Zv 34 33,Zg 35 34 true (.mv (.t 0)),Zg 36 34 true (.mv (.t 3)),Zg 37 34 true (.ixs (.t 35) (.t 36)),Zg 38 34 true (.bin .leq (.t 37) (.k (.int .u8 57))),ZQ 39 34 38,Zv 5 39] (Zq [Zv 40 4,ZN 41 40,Zv 42 41,Zg 43 42 true (.mv (.t 5)),Zg 44 42 true (.mv (.t 43)),Zg 45 44 true (.mv (.t 3)),Zg 46 44 true (.bin .gtr (.t 45) (.k (.int .i64 0))),Zg 47 42 true (.pick (.t 44) (.t 46) (.k (.bool false))),Zg 48 42 true (.un .not (.t 47)),ZQ 49 42 48] (.cond (.t 49) (Zq [Zt 2 false] .ret) .skip))))) (.reg [Zv 18 3,Zk 19 .add 18 1,Zv 3 19])))))) (Zq [Zt 2 true] .ret))))⟩
theorem a143_ok:Jf prog Tryz.f143=some a143:=by kernel_rfl
def a316:Jk:= ⟨45,[.t 2],(Zq [Zt 2 false] (.seq (Zq [Zi 3 0] (.blk 0 (.loop (.seq (Zq [Zv 6 3,Zv 7 0,Zo 8 (.len true (.t 7)),Zb 9 .lss 6 8] (Zw 9 0)) (.seq (.blk 1 (Zq [Zv 12 0,Zv 13 3,Zo 14 (.ixs (.t 12) (.t 13)),Zo 15 (.bin .geq (.t 14) (.k (.int .u8 97))),Zv 16 15,Zg 17 16 true (.mv (.t 0)),Zg 18 16 true (.mv (.t 3)),Zg 19 16 true (.ixs (.t 17) (.t 18)),Zg 20 16 true (.bin .leq (.t 19) (.k (.int .u8 122))),ZQ 21 16 20,Zv 4 21] (Zq [Zv 22 0,Zv 23 3,Zo 24 (.ixs (.t 22) (.t 23)),Zo 25 (.bin .geq (.t 24) (.k (.int .u8 48))),Zv 26 25,Zg 27 26 true (.mv (.t 0)),Zg 28 26 true (.mv (.t 3)),Zg 29 26 true (.ixs (.t 27) (.t 28)),Zg 30 26 true (.bin .leq (.t 29) (.k (.int .u8 57))),ZQ 31 26 30,Zv 5 31] (Zq [Zv 32 4,ZN 33 32,Zv 34 33,Zg 35 34 true (.mv (.t 3)),Zg 36 34 true (.bin .eql (.t 35) (.k (.int .i64 0))),Zg 37 34 true (.mv (.t 36)),Zg 38 37 false (.mv (.t 5)),Zg 39 37 false (.un .not (.t 38)),Zg 40 34 true (.pick (.t 37) (.k (.bool true)) (.t 39)),ZQ 41 34 40] (.cond (.t 41) (Zq [Zt 2 false] .ret) .skip))))) (.reg [Zv 10 3,Zk 11 .add 10 1,Zv 3 11])))))) (Zq [Zv 42 0,Zo 43 (.len true (.t 42)),Zk 44 .gtr 43 0,Zv 2 44] .ret)))⟩
theorem a316_ok:Jf prog Tryz.f316=some a316:=by kernel_rfl
def a285:Jk:= ⟨15,[.t 2],(Zq [Zt 2 false] (Zq [Zv 3 0,Zc 4 316 [.t 3],Zv 5 4,Zg 6 5 true (.mv (.t 0)),Zg 7 5 true (.len true (.t 6)),Zg 8 5 true (.bin .leq (.t 7) (.k (.int .i64 8))),ZQ 9 5 8,Zv 10 9,Zg 11 10 true (.mv (.t 0)),Zg 12 10 true (.call (.k (.fn (.func 317) [] [])) [.t 11]),Zg 13 10 true (.un .not (.t 12)),ZQ 14 10 13,Zv 2 14] .ret))⟩
theorem a285_ok:Jf prog Tryz.f285=some a285:=by kernel_rfl
def a205:Jk:= ⟨13,[.t 2],(Zq [Zt 2 false] (Zq [Zv 3 0,Zc 4 143 [.t 3],Zv 5 4,Zg 6 5 true (.mv (.t 0)),Zg 7 5 true (.mv (.t 0)),Zg 8 5 true (.len true (.t 7)),Zg 9 5 true (.bin .sub (.t 8) (.k (.int .i64 1))),Zg 10 5 true (.ixs (.t 6) (.t 9)),Zg 11 5 true (.bin .eql (.t 10) (.k (.int .u8 115))),ZQ 12 5 11,Zv 2 12] .ret))⟩
theorem a205_ok:Jf prog Tryz.f205=some a205:=by kernel_rfl
def a140:Jk:= ⟨10,[.t 2],(Zq [Zt 2 false] (Zq [Zv 3 0,Zc 4 143 [.t 3],Zv 5 4,Zg 6 5 true (.mv (.t 0)),Zg 7 5 true (.call (.k (.fn (.func 205) [] [])) [.t 6]),Zg 8 5 true (.un .not (.t 7)),ZQ 9 5 8,Zv 2 9] .ret))⟩
theorem a140_ok:Jf prog Tryz.f140=some a140:=by kernel_rfl
def a260:Jk:= ⟨13,[.t 2],(Zq [Zt 2 false] (Zq [Zv 3 0,Zc 4 285 [.t 3],Zv 5 4,Zg 6 5 true (.mv (.t 0)),Zg 7 5 true (.mv (.t 0)),Zg 8 5 true (.len true (.t 7)),Zg 9 5 true (.bin .sub (.t 8) (.k (.int .i64 1))),Zg 10 5 true (.ixs (.t 6) (.t 9)),Zg 11 5 true (.bin .eql (.t 10) (.k (.int .u8 115))),ZQ 12 5 11,Zv 2 12] .ret))⟩
theorem a260_ok:Jf prog Tryz.f260=some a260:=by kernel_rfl
def a216:Jk:= ⟨10,[.t 2],(Zq [Zt 2 false] (Zq [Zv 3 0,Zc 4 285 [.t 3],Zv 5 4,Zg 6 5 true (.mv (.t 0)),Zg 7 5 true (.call (.k (.fn (.func 260) [] [])) [.t 6]),Zg 8 5 true (.un .not (.t 7)),ZQ 9 5 8,Zv 2 9] .ret))⟩
theorem a216_ok:Jf prog Tryz.f216=some a216:=by kernel_rfl
theorem J7a(s:Je):Holds prog 230 [.str s] (λr=>r = .bool (Hm s)):=by
 by_cases e1:s=[102,117,110]
 ·subst e1;refine Jp Tryz.func230 a230_ok rfl (by simp[a230]) ?_;simp[a230,Hm,X3,Bs]
 by_cases e2:s=[112,114,101]
 ·subst e2;refine Jp Tryz.func230 a230_ok rfl (by simp[a230]) ?_;simp[a230,Hm,X3,Bs]
 by_cases e3:s=[114,117,108,101]
 ·subst e3;refine Jp Tryz.func230 a230_ok rfl (by simp[a230]) ?_;simp[a230,Hm,X3,Bs]
 by_cases e4:s=[114,101,116,117,114,110]
 ·subst e4;refine Jp Tryz.func230 a230_ok rfl (by simp[a230]) ?_;simp[a230,Hm,X3,Bs]
 by_cases e5:s=[110,105,108]
 ·subst e5;refine Jp Tryz.func230 a230_ok rfl (by simp[a230]) ?_;simp[a230,Hm,X3,Bs]
 have hr:Hm s=false:=by simp[Hm,X3,Bs,Ne.symm e1,Ne.symm e2,Ne.symm e3,Ne.symm e4,Ne.symm e5]
 rw[hr];refine Jp Tryz.func230 a230_ok rfl (by simp[a230]) ?_;simp[a230,e1,e2,e3,e4,e5]
theorem Je7{l:List Je}{s:Je}{i:Nat}(hi:i<l.length):X3 (l.drop i) s=((l[i]==s)||X3 (l.drop (i+1)) s):=by rw[drop_eq_getElem_cons hi];rfl
theorem J53(l:List Je)(s:Je):Holds prog 224 [.sl 1 (Ji l),.str s] (λr=>r = .bool (X3 l s)):=by
 refine Vv Tryz.func224 rfl rfl λhl=>?_
 simp at hl;refine Jp Tryz.func224 a224_ok rfl (by simp[a224]) ?_;simp[a224];generalize hB:X3 l s=B;refine Qm [0,1] 5 l.length (λi _=>X3 (l.drop i) s=B) hl.1 (by simp) (by simpa using hB) ?_ ?_
 ·rintro i st h R hi hg hk s5 hw hJ hh hR hret _;simp at hk;rw[Je7 hi]at hJ;simp[hk,s5,hi];intro _;by_cases hx:l[i]=s
  ·simp[hx]at hJ;simp[hx];refine hret _ _ _ ?_;simp[hJ]
  ·have:(l[i]==s)=false:=by simpa using hx
   rw[this,Bool.false_or]at hJ;simp[hx,hw];exact hR _ (by simp[hk]) (by simp) hJ
 ·rintro st h R hk s5 hJ hh _ hX;simp at hk;rw[drop_eq_nil_of_le (by omega)]at hJ;simp[hk,s5];intro _;refine hX _ _ ?_;simp[<-hJ,X3]
theorem Jll(l:List Je)(s:Je):Holds prog 153 [.sl 1 (Ji l),.str s] (λr=>r=i64 (Y6 (λx=>x==s) l 0)):=by
 refine Vv Tryz.func153 rfl rfl λhl=>?_
 simp at hl;refine Jp Tryz.func153 a153_ok rfl (by simp[a153]) ?_;simp[a153];intro _;generalize hB:Y6 (λx=>x==s) l 0=B;refine Qm [0,1,7] 8 l.length (λi _=>Y6 (λx=>x==s) (l.drop i) i=B) hl.1 (by simp) (by simpa using hB) ?_ ?_
 ·rintro i st h R hi hg hk s8 hw hJ hh hR hret _;simp at hk;rw[drop_eq_getElem_cons hi]at hJ;simp only[Y6]at hJ;simp[hk,s8,hi];by_cases hx:s=l[i]
  ·rw[if_pos (by simp[hx])]at hJ;simp[hx];refine hret _ _ _ ?_;simp[hJ]
  ·rw[if_neg (by simpa using λh=>hx h.symm)]at hJ;simp[hx,hw];exact hR _ (by simp[hk]) (by simp) hJ
 ·rintro st h R hk s8 hJ hh _ hX;simp at hk;rw[drop_eq_nil_of_le (by omega)]at hJ;simp[hk,s8];refine hX _ _ ?_;simp[<-hJ,Y6]
theorem J1j(l:List Je)(s:Je):Holds prog 72 [.sl 1 (Ji l),.str s] (λr=>r = .bool (X3 l s)):=by refine Jp Tryz.func72 a72_ok rfl (by simp[a72]) ?_;simp[a72];refine Jd (Jll l s) (by simp) ?_;rintro r rfl;have:=Th (p:=λx=>x==s) (l:=l) (i:=0);simp only[ge_iff_le]at this;simp[this,X3]
theorem N4(l:List Je)(s:Je):Holds prog 63 [.sl 1 (Ji l),.str s] (λr=>r=i64 (Y6 (λx=>x==s) l 0)):=by
 refine Vv Tryz.func63 rfl rfl λhl=>?_
 simp at hl;refine Jp Tryz.func63 a63_ok rfl (by simp[a63]) ?_;simp[a63];generalize hB:Y6 (λx=>x==s) l 0=B;refine Qm [0,1] 5 l.length (λi _=>Y6 (λx=>x==s) (l.drop i) i=B) hl.1 (by simp) (by simpa using hB) ?_ ?_
 ·rintro i st h R hi hg hk s5 hw hJ hh hR hret _;simp at hk;rw[drop_eq_getElem_cons hi]at hJ;simp only[Y6]at hJ;simp[hk,s5,hi];intro _;by_cases hx:l[i]=s
  ·rw[if_pos (by simp[hx])]at hJ;simp[hx];refine hret _ _ _ ?_;simp[hJ]
  ·rw[if_neg (by simpa using hx)]at hJ;simp[hx,hw];exact hR _ (by simp[hk]) (by simp) hJ
 ·rintro st h R hk s5 hJ hh _ hX;simp at hk;rw[drop_eq_nil_of_le (by omega)]at hJ;simp[hk,s5];intro _;refine hX _ _ ?_;simp[<-hJ,Y6]
theorem J5v:Holds prog 333 [] (λr=>r = .us 1 (Ji Bs)):=by refine Jp Tryz.func333 a333_ok rfl (by simp[a333]) ?_;simp[a333];simp[Ji,Bs]
theorem J5o(s:Je):Holds prog 317 [.str s] (λr=>r = .bool (Hm s)):=by refine Jp Tryz.func317 a317_ok rfl (by simp[a317]) ?_;simp[a317];refine Jd (J5v) (by simp) ?_;rintro r rfl;simp;refine Jd (J53 Bs s) (by simp) ?_;rintro r rfl;simp[Hm]
theorem J4r{s:Je}{i:Nat}(hi:i<s.length):Hb i (s.drop i)=((P7 s[i]||(decide (i≠0)&&Pg s[i]))&&Hb (i+1) (s.drop (i+1))):=by rw[drop_eq_getElem_cons hi];rfl
theorem J05(s:Je):Holds prog 143 [.str s] (λr=>r = .bool (W8 s)):=by
 refine Jp Tryz.func143 a143_ok rfl (by simp[a143]) ?_;simp[a143];intro hl;refine Jd (O0 s.length 1 8) (by simp) ?_;rintro r rfl;unfold W8;cases h1:K9 s.length 1 8
 ·simp
 simp;refine Jd (J7a s) (by simp) ?_;rintro r rfl;cases h2:Hm s
 case true=>simp
 simp;generalize hB:Hb 0 s=B;refine Qm [0] 3 s.length (λi _=>Hb i (s.drop i)=B) hl (by simp) (by simpa using hB) ?_ ?_
 ·rintro i st h R hi hg hk s3 hw hJ hh hR hret _;simp at hk;rw[J4r hi]at hJ;have hgd:s[i]?.getD 0=s[i]:=by simp[hi]
  unfold P7 Pg at hJ;obtain⟨m,hm⟩:∃m:Int,((s[i]).toNat:Int)=m:=⟨_,rfl⟩;rw[hm]at hJ;refine Js [0,3] (λ_=>True) (by simp[hk,s3,hi]) ?_;intro s1 hk1 _;simp at hk1;refine Jn (Xg (Js [0,3] (λs=>s 4 = .bool (decide (97<=m)&&decide (m<=122))) ?_ ?_))
  ·by_cases u1:97<=m <;>by_cases u2:m<=122 <;>simp[hk,s3,hk1,hi,hm,u1,u2]
  intro s2 hk2 s4;simp at hk2;refine Js [0,3,4] (λs=>s 5 = .bool (decide (48<=m)&&decide (m<=57))) ?_ ?_
  ·by_cases u1:48<=m <;>by_cases u2:m<=57 <;>simp[hk,s3,hk1,hk2,hi,hm,u1,u2]
  intro s5 hk5 s55;simp at hk5;generalize(decide (97<=m)&&decide (m<=122))=L at *;generalize(decide (48<=m)&&decide (m<=57))=D at *;cases L
  ·cases D
   ·rw[Bool.and_false,Bool.or_false,Bool.false_and]at hJ;simp[s3,hk1,hk2,hk5,s4,s55];refine hret _ _ _ ?_;simp[hJ]
   ·by_cases h0:i=0
    ·subst h0;simp at hJ;simp[s3,hk1,hk2,hk5,s4,s55];refine hret _ _ _ ?_;simp[hJ]
    ·simp[h0]at hJ;simp[s3,hk1,hk2,hk5,s4,s55,hw,(by omega:0<i)];exact hR _ (by simp[hk,hk1,hk2,hk5]) (by simp) hJ
  ·simp at hJ;simp[s3,hk1,hk2,hk5,s4,hw];exact hR _ (by simp[hk,hk1,hk2,hk5]) (by simp) hJ
 ·rintro st h R hk s3 hJ hh _ hX;simp at hk;rw[drop_eq_nil_of_le (by omega)]at hJ;simp[hk,s3];intro _;refine hX _ _ ?_;simp[<-hJ,Hb]
set_option maxHeartbeats 1000000 in
theorem Jax(s:Je):Holds prog 316 [.str s] (λr=>r = .bool (Hb 0 s&&decide (0<s.length))):=by
 refine Vv Tryz.func316 rfl rfl λhl=>?_
 simp at hl;refine Jp Tryz.func316 a316_ok rfl (by simp[a316]) ?_;simp[a316];generalize hB:Hb 0 s=B;refine Qm [0] 3 s.length (λi _=>Hb i (s.drop i)=B) hl (by simp) (by simpa using hB) ?_ ?_
 ·rintro i st h R hi hg hk s3 hw hJ hh hR hret _;simp at hk;rw[J4r hi]at hJ;have hgd:s[i]?.getD 0=s[i]:=by simp[hi]
  unfold P7 Pg at hJ;obtain⟨m,hm⟩:∃m:Int,((s[i]).toNat:Int)=m:=⟨_,rfl⟩;rw[hm]at hJ;refine Js [0,3] (λ_=>True) (by simp[hk,s3,hi]) ?_;intro s1 hk1 _;simp at hk1;refine Jn (Xg (Js [0,3] (λs=>s 4 = .bool (decide (97<=m)&&decide (m<=122))) ?_ ?_))
  ·by_cases u1:97<=m <;>by_cases u2:m<=122 <;>simp[hk,s3,hk1,hi,hm,u1,u2]
  intro s2 hk2 s4;simp at hk2;refine Js [0,3,4] (λs=>s 5 = .bool (decide (48<=m)&&decide (m<=57))) ?_ ?_
  ·by_cases u1:48<=m <;>by_cases u2:m<=57 <;>simp[hk,s3,hk1,hk2,hi,hm,u1,u2]
  intro s5 hk5 s55;simp at hk5;generalize(decide (97<=m)&&decide (m<=122))=L at *;generalize(decide (48<=m)&&decide (m<=57))=D at *;cases L
  ·cases D
   ·rw[Bool.and_false,Bool.or_false,Bool.false_and]at hJ;subst hJ;by_cases h0:i=0
    ·subst h0;simp[s3,hk1,hk2,hk5,s4,s55];refine hret _ _ _ ?_;simp
    ·simp[s3,hk1,hk2,hk5,s4,s55,h0];refine hret _ _ _ ?_;simp
   ·by_cases h0:i=0
    ·subst h0;simp at hJ;subst hJ;simp[s3,hk1,hk2,hk5,s4,s55];refine hret _ _ _ ?_;simp
    ·simp[h0]at hJ;simp[s3,hk1,hk2,hk5,s4,s55,hw,h0];exact hR _ (by simp[hk,hk1,hk2,hk5]) (by simp) hJ
  ·simp at hJ;simp[s3,hk1,hk2,hk5,s4,hw];exact hR _ (by simp[hk,hk1,hk2,hk5]) (by simp) hJ
 ·rintro st h R hk s3 hJ hh _ hX;simp at hk;rw[drop_eq_nil_of_le (by omega)]at hJ;refine Js [] (λ_=>False) ?_ (λ_ _ h=>h.elim);simp[hk,s3];intro _;refine hX _ _ ?_;subst hJ;simp[hk,Hb]
theorem Rl(s:Je):Holds prog 285 [.str s] (λr=>r = .bool (W8 s)):=by
 refine Jp Tryz.func285 a285_ok rfl (by simp[a285]) ?_;simp[a285];refine Jd (Jax s) (by simp) ?_;rintro r rfl;unfold W8 K9;cases h1:Hb 0 s
 ·simp
 by_cases h2:0<s.length
 case neg=>
  have:s.length=0:=by omega
  simp[this]
 have h2':(1:Int)<=s.length:=by omega
 simp[h2,h2'];intro _;by_cases h3:s.length<=8
 case neg=>
  have h3':¬(s.length:Int)<=8:=by omega
  simp[h3']
 have h3':(s.length:Int)<=8:=by omega
 simp[h3',Int.not_lt.2 h3'];refine Jd (J5o s) (by simp) ?_;rintro r rfl;simp
theorem Jjj(c:UInt8):((c.toNat:Int)==115)=(c==115):=by
 rw[Bool.eq_iff_iff];simp only[beq_iff_eq];constructor
 ·intro h;exact UInt8.toNat_inj.1 (by simp;omega)
 ·rintro rfl;rfl
theorem Dv(s:Je):Holds prog 205 [.str s] (λr=>r = .bool (Xh s)):=by
 refine Jp Tryz.func205 a205_ok rfl (by simp[a205]) ?_;simp[a205];refine Jd (J05 s) (by simp) ?_;rintro r rfl;unfold Xh;cases h1:W8 s
 ·simp
 obtain⟨h2,h3⟩:=J4z h1;simp;intro _;rw[Kk (by omega)];have e:((s.length:Int) - 1).toNat=s.length - 1:=by omega
 simp[e];refine⟨by omega,by omega,?_⟩;exact Jjj _
theorem Sc(s:Je):Holds prog 140 [.str s] (λr=>r = .bool (W7 s)):=by
 refine Jp Tryz.func140 a140_ok rfl (by simp[a140]) ?_;simp[a140];refine Jd (J05 s) (by simp) ?_;rintro r rfl;unfold W7;cases h1:W8 s
 ·simp
 simp;refine Jd (Dv s) (by simp) ?_;rintro r rfl;simp
theorem Bp(s:Je):Holds prog 260 [.str s] (λr=>r = .bool (Xh s)):=by
 refine Jp Tryz.func260 a260_ok rfl (by simp[a260]) ?_;simp[a260];refine Jd (Rl s) (by simp) ?_;rintro r rfl;unfold Xh;cases h1:W8 s
 ·simp
 obtain⟨h2,h3⟩:=J4z h1;simp;intro _;rw[Kk (by omega)];have e:((s.length:Int) - 1).toNat=s.length - 1:=by omega
 simp[e];refine⟨by omega,by omega,?_⟩;exact Jjj _
theorem J02(s:Je):Holds prog 216 [.str s] (λr=>r = .bool (W7 s)):=by
 refine Jp Tryz.func216 a216_ok rfl (by simp[a216]) ?_;simp[a216];refine Jd (Rl s) (by simp) ?_;rintro r rfl;unfold W7;cases h1:W8 s
 ·simp
 simp;refine Jd (Bp s) (by simp) ?_;rintro r rfl;simp
end Go.Proofs.YtoclolkigjbcgaaGreat

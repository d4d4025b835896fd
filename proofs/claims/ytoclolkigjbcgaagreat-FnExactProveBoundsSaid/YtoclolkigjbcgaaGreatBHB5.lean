/- Contracts: the obligation of a rule, of the reference. -/
import Derived.Test.YtoclolkigjbcgaaGreatBHB2
import Derived.Test.YtoclolkigjbcgaaGreatBFF9
import Derived.Test.YtoclolkigjbcgaaGreatBE1
import Derived.Test.YtoclolkigjbcgaaGreatBT1
import Derived.Test.YtoclolkigjbcgaaGreatProg
namespace Go.Proofs.YtoclolkigjbcgaaGreat
open Tryz(prog)
open List(getElem_mem drop_eq_nil_of_le length_append ext_getElem?)
set_option maxRecDepth 40000
set_option maxHeartbeats 4000000
open Go Go.RowKit Go.Proofs
set_option linter.all false
def Jvs:AC:=(.draw (.op (Zl 63 true 6 8) (.op (Zl 64 true 2 3) (.op (Zf 65 1 4) (.op (Zl 66 false 1 65) (.op (Zf 67 3 9) (.op (Zl 68 false 1 67) (.op (Zv 69 12) (.op (Zx 70 3 68 69) (.op (Zf 71 1 70) (.op (Zl 72 false 1 71) (.op (Zv 74 12) (.both (.op (Zc 73 186 [.t 64,.t 66,.t 72]) (.both (.op (Zc 75 174 [.t 63,.t 73,.t 74]) (.op (Zv 62 75) (.op (Ze 76 62 0) (.op (Ze 77 62 1) (.op (Zo 13 (.box [(.int .i64 0),(.nil 1)])) (.hop ⟨no,.st 2 (.t 13) (.t 76),no⟩ [] (.op (Zv 14 77) .fin))))))) (.op (Zo 13 (.box [(.int .i64 0),(.nil 1)])) (.op (Zc 75 174 [.t 63,.t 73,.t 74]) (.op (Zv 62 75) (.op (Ze 76 62 0) (.op (Ze 77 62 1) (.hop ⟨no,.st 2 (.t 13) (.t 76),no⟩ [] (.op (Zv 14 77) .fin))))))))) (.op (Zo 13 (.box [(.int .i64 0),(.nil 1)])) (.op (Zc 73 186 [.t 64,.t 66,.t 72]) (.op (Zc 75 174 [.t 63,.t 73,.t 74]) (.op (Zv 62 75) (.op (Ze 76 62 0) (.op (Ze 77 62 1) (.hop ⟨no,.st 2 (.t 13) (.t 76),no⟩ [] (.op (Zv 14 77) .fin)))))))))))))))))))))
def Sv:AC:=(.reg [Zl 82 true 2 10,Zl 83 true 2 13,Zc 84 98 [.t 82,(.k (.int .i64 (-1))),.t 83],Zv 81 84,Ze 85 81 0,Ze 86 81 1,⟨no,.st 2 (.t 10) (.t 85),no⟩,Zv 11 86])
def uy0:AC:=(.reg [ZB 3 0,ZB 4 1,Zo 6 (.box [(.int .i64 0),(.nil 2),(.int .i64 0),(.nil 1)]),Zt 7 false])
def uy1:AC:=(.reg [Zl 15 true 2 3,Zv 16 2,Zc 17 184 [.t 15,.t 16],Zo 8 (.box [(.int .i64 0),(.nil 2),(.nil 2),(.nil 1),(.int .i64 0),(.nil 1)]),⟨no,.st 6 (.t 8) (.t 17),no⟩])
def uy2:AC:=(.reg [Zf 18 1 3,Zl 19 false 1 18,Zv 20 2,Zx 21 7 19 20,Zl 22 true 7 21,Zo 9 (.box [(.str []),(.nil 4),(.nil 2),(.nil 3),(.bool false),(.nil 2),(.str [])]),⟨no,.st 7 (.t 9) (.t 22),no⟩])
def uy3:AC:=(.draw (.op (Zl 24 true 6 8) (.op (Zl 25 true 2 3) (.op (Zf 26 1 4) (.op (Zl 27 false 1 26) (.op (Zf 28 0 9) (.op (Zl 29 false 1 28) (.op (Zf 31 2 8) (.op (Zl 32 false 1 31) (.both (.op (Zc 30 186 [.t 25,.t 27,.t 29]) (.both (.op (Zc 33 185 [.t 24,.t 30,.t 32]) (.op (Zv 23 33) (.op (Ze 34 23 0) (.op (Ze 35 23 1) (.op (Zo 10 (.box [(.int .i64 0),(.nil 1)])) (.hop ⟨no,.st 2 (.t 10) (.t 34),no⟩ [] (.op (Zv 11 35) .fin))))))) (.op (Zo 10 (.box [(.int .i64 0),(.nil 1)])) (.op (Zc 33 185 [.t 24,.t 30,.t 32]) (.op (Zv 23 33) (.op (Ze 34 23 0) (.op (Ze 35 23 1) (.hop ⟨no,.st 2 (.t 10) (.t 34),no⟩ [] (.op (Zv 11 35) .fin))))))))) (.op (Zo 10 (.box [(.int .i64 0),(.nil 1)])) (.op (Zc 30 186 [.t 25,.t 27,.t 29]) (.op (Zc 33 185 [.t 24,.t 30,.t 32]) (.op (Zv 23 33) (.op (Ze 34 23 0) (.op (Ze 35 23 1) (.hop ⟨no,.st 2 (.t 10) (.t 34),no⟩ [] (.op (Zv 11 35) .fin))))))))))))))))))
def uy4:AC:=(Zq [Zv 36 11,ZN 37 36] (.cond (.t 37) (Zq [Zo 38 (.build [(.int .i64 0),(.nil 2),(.int .i64 0),(.nil 1)] []),⟨no,.st 4 (.t 6) (.t 38),no⟩,Zt 7 false] .ret) .skip))
def uy5:AC:=(.draw (.op (Zl 40 true 2 10) (.op (Zl 41 true 7 9) (.op (Zf 42 0 4) (.op (Zl 43 false 1 42) (.op (Zf 45 0 8) (.op (Zf 46 0 45) (.op (Zl 47 false 1 46) (.op (Zc 44 187 [.t 41,.t 43]) (.op (Zc 48 99 [.t 44,.t 47]) (.op (Zc 49 98 [.t 40,(.k (.int .i64 (-1))),.t 48]) (.op (Zv 39 49) (.op (Ze 50 39 0) (.op (Ze 51 39 1) (.hop ⟨no,.st 2 (.t 10) (.t 50),no⟩ [] (.op (Zv 11 51) .fin))))))))))))))))
def uy6:AC:=(Zq [Zi 12 0] (.blk 0 (.loop (.seq (Zq [Zv 52 12,Zf 53 3 9,Zl 54 false 1 53,Zn 55 54,Zb 56 .lss 52 55,Zv 57 56,Zg 58 57 true (.mv (.t 11)),ZQ 59 57 58] (Zw 59 0)) (.seq (.blk 1 (.seq Jvs (.seq (Zq [Zv 78 14,ZN 79 78] (.cond (.t 79) (Zq [Zo 80 (.build [(.int .i64 0),(.nil 2),(.int .i64 0),(.nil 1)] []),⟨no,.st 4 (.t 6) (.t 80),no⟩,Zt 7 false] .ret) .skip))  Sv))) (.reg [Zv 60 12,Zk 61 .add 60 1,Zv 12 61]))))))
def uy7:AC:=(.reg [Zf 87 0 8,Zl 88 true 2 87,Zl 89 true 2 10,Zo 90 (.build [(.int .i64 0),(.nil 2),(.int .i64 0),(.nil 1)] [(0,(2,(.t 88))),(2,(2,(.t 89)))]),Zv 91 11,⟨no,.st 4 (.t 6) (.t 90),no⟩,Zv 7 91])
def a100:Jk:=⟨92,[(.c 6 true 4),.t 7],(.seq uy0 (.seq uy1 (.seq uy2 (.seq uy3 (.seq uy4 (.seq uy5 (.seq uy6 (.seq uy7 .ret))))))))⟩
theorem a100_ok:Jf prog Tryz.f100=some a100:=by kernel_rfl
section
variable {ks:List Kt}{s:Jm}{h h':J8}{n:Nat}{Q:Xc}
theorem Jmo{p:Jq}(hp:Ks p<=1048576)(hpo:Ym p=true){i:Nat}(hi:i<p.Rules.length){md:X9}(hmd:Vf p.Rules[i] (Im p p.Rules[i])=md)(s2:s 2 = .int .i64 i)(s3:s 3 = .ptr 0 0 0)(e0:h 0=some ⟨true,2,[Jh p]⟩)
 (hK:∀s' h',(∀j∈[2,3,4,6],s' j=s j)->s' 8 = .ptr (n+4) 0 0->Is md n h'->(∀id,id<n->h' id=h id)->Ju prog ks .normal s' h' (n+5) Q):rC prog uy1 ks s h n Q:=by
 simp[uy1,s2,s3,e0];refine Jd (J3g p hp hpo hi) (by simp[Jh]) ?_;rintro r rfl;rw[hmd];simp[U4];refine hK _ _ (by simp) (by simp) ?_ ?_
 ·have:¬n=n+1+1+1/\¬n=n+1+1:=by omega
  simp[Is,this]
 ·intro id hid;have:¬id=n/\¬id=n+1/\¬id=n+2/\¬id=n+3/\¬id=n+4:=by omega
  simp[this]
theorem Jm8{p:Jq}(hp:Ks p<=1048576){b:X0}{md:X9}{r:Jy}{k9 q:Nat}(hf:(Kw p.Functions r.Func).isSome=true)(hb:b.Lins.length=p.Functions.length)(s3:s 3 = .ptr 0 0 0)(s4:s 4 = .ptr 1 0 0)(s9:s 9 = .ptr k9 0 0)(s8:s 8 = .ptr (q+4) 0 0)(e0:h 0=some ⟨true,2,[Jh p]⟩)(e1:h 1=some ⟨true,2,[Kr b]⟩)(e9:h k9=some ⟨true,7,[Jr r]⟩)(M:Is md q h)(hq:q+4<n)(h1:1<n)(h9:k9<n)
 (hK:∀s' h',(∀j∈[2,3,4,6,8,9],s' j=s j)->s' 11 = .bool (Wj (Uq p b r.Func) md.Params md.System.N).isSome->(∃k q,s' 10 = .ptr k 0 0/\n<=k/\n<=q/\k<n+2/\q<n+2/\Yo ((Wj (Uq p b r.Func) md.Params md.System.N).getD Jl) k q h')->(∀id,id<n->h' id=h id)->Ju prog ks .normal s' h' (n+2) Q):rC prog uy3 ks s h n Q:=by
 obtain⟨m1,m2,m3,m4,m5⟩:=M;have fr:∀id,id<n->¬id=n/\¬id=n+1:=by intro id _;omega
 have ne:¬n=n+1/\¬n+1=n:=by omega
 have ne2:¬0=n/\¬1=n/\¬k9=n/\¬q=n/\¬q+1=n/\¬q+2=n/\¬q+3=n/\¬q+4=n:=by omega
 simp[uy3,s3,s4,s8,s9,e0,e1,e9,m1,Kr,Jr];constructor
 ·refine Pj hp hf hb ?_;generalize Uq p b r.Func=l at *;simp[Ja];constructor
  ·skip;refine Jw (P6 md l md.Params) (by simp[m2,m3,m4,m5,Ja,Xn]) ?_;rintro r rfl;rw[Xd];generalize Wj l md.Params md.System.N=T at *;simp[J9];exact hK _ _ (by simp) (by simp) ⟨n+1,n,by simp,by omega,by omega,by omega,by omega,by simp[Yo]⟩ λid hid=>by simp[fr id hid]
  ·skip;refine Jw (P6 md l md.Params) (by simp[m2,m3,m4,m5,Ja,Xn,ne2]) ?_;rintro r rfl;rw[Xd];generalize Wj l md.Params md.System.N=T at *;simp[J9];exact hK _ _ (by simp) (by simp) ⟨n,n+1,by simp,by omega,by omega,by omega,by omega,by simp[Yo]⟩ λid hid=>by simp[fr id hid]
 ·refine Pj hp hf hb ?_;generalize Uq p b r.Func=l at *;simp[Ja];refine Jw (P6 md l md.Params) (by simp[m2,m3,m4,m5,Ja,Xn,ne2]) ?_;rintro r rfl;rw[Xd];generalize Wj l md.Params md.System.N=T at *;simp[J9];exact hK _ _ (by simp) (by simp) ⟨n,n+1,by simp,by omega,by omega,by omega,by omega,by simp[Yo]⟩ λid hid=>by simp[fr id hid]
theorem Jl9{b:X0}{r:Jy}{md:X9}{t:Jc}{k9 k q e:Nat}(hw:Y0 r<=1048576)(ht:K4 t md.System.N=true)(s4:s 4 = .ptr 1 0 0)(s8:s 8 = .ptr (e+4) 0 0)(s9:s 9 = .ptr k9 0 0)(s10:s 10 = .ptr k 0 0)(e1:h 1=some ⟨true,2,[Kr b]⟩)(e9:h k9=some ⟨true,7,[Jr r]⟩)(M:Is md e h)(B:Yo t k q h)(hk:k<n)(hq:q<n)
 (hK:∀s' h' n' q',(∀j∈[2,3,4,6,8,9,10],s' j=s j)->s' 11 = .bool (U6 t (-(V9 r b.Kind))).isSome->Yo ((U6 t (-(V9 r b.Kind))).getD Jl) k q' h'->n<=n'->n<=q'->q'<n'->(∀id,id<n->id≠k->h' id=h id)->Ju prog ks .normal s' h' n' Q):rC prog uy5 ks s h n Q:=by
 obtain⟨b1,b2⟩:=B;obtain⟨m1,m2,m3,m4,m5⟩:=M;have fr:∀id,id<n->¬id=n/\¬id=n+1:=by intro id _;omega
 have ne:¬k=n/\¬n=k/\¬k=n+1/\¬n+1=k/\¬q=n:=by omega
 have hc:=Jd4 (r:=r) (k:=b.Kind) hw;have hma:=J6p (k:=V9 r b.Kind) ht hc;simp[uy5,s4,s8,s9,s10,e1,e9,b1,m1,Kr];refine Jw (J86 r b.Kind hw) (by simp) ?_;rintro r rfl;simp;refine Jw (O4 (V9 r b.Kind) md.System.N) (by simp) ?_;rintro r rfl;generalize Jo (V9 r b.Kind) md.System.N=c at *;simp[J9];refine Jw (Ve t (-1) c) (by simp[b2,Ja,ne]) ?_;rintro r rfl;rw[hma,Xd];generalize U6 t (-(V9 r b.Kind))=T at *;simp[J9,ne,b1,s10];refine hK _ _ _ (n+1) (by simp) (by simp) ?_ (by omega) (by omega) (by omega) λid hid hne=>by simp[fr id hid,hne]
 simp[Yo,ne]
theorem Jh7{p:Jq}(hp:Ks p<=1048576){b:X0}{md:X9}{r:Jy}{k9 q j:Nat}(hj:j<r.Calls.length)(hf:(Kw p.Functions (r.Calls[j]).Func).isSome=true)(hb:b.Lins.length=p.Functions.length)(s3:s 3 = .ptr 0 0 0)(s4:s 4 = .ptr 1 0 0)(s9:s 9 = .ptr k9 0 0)(s12:s 12 = .int .i64 j)(s8:s 8 = .ptr (q+4) 0 0)(e0:h 0=some ⟨true,2,[Jh p]⟩)(e1:h 1=some ⟨true,2,[Kr b]⟩)(e9:h k9=some ⟨true,7,[Jr r]⟩)(M:Is md q h)(hq:q+4<n)(h1:1<n)(h9:k9<n)
 (hK:∀s' h',(∀j∈[2,3,4,6,8,9,10,11,12],s' j=s j)->s' 14 = .bool (Yr md (Uq p b (r.Calls[j]).Func) j).isSome->(∃k q,s' 13 = .ptr k 0 0/\n<=k/\n<=q/\k<n+2/\q<n+2/\Yo ((Yr md (Uq p b (r.Calls[j]).Func) j).getD Jl) k q h')->(∀id,id<n->h' id=h id)->Ju prog ks .normal s' h' (n+2) Q):rC prog Jvs ks s h n Q:=by
 obtain⟨m1,m2,m3,m4,m5⟩:=M;have fr:∀id,id<n->¬id=n/\¬id=n+1:=by intro id _;omega
 have ne:¬n=n+1/\¬n+1=n:=by omega
 have ne2:¬0=n/\¬1=n/\¬k9=n/\¬q=n/\¬q+1=n/\¬q+2=n/\¬q+3=n/\¬q+4=n:=by omega
 simp[Jvs,s3,s4,s8,s9,s12,e0,e1,e9,m1,Kr,Jr,Kx,hj];constructor
 ·refine Pj hp hf hb ?_;generalize Uq p b (r.Calls[j]).Func=l at *;simp[Ja];constructor
  ·skip;refine Jw (N3 md l (j:Int)) (by simp[m2,m3,m4,m5,Ja,Xn]) ?_;rintro r rfl;rw[Xd];generalize Yr md l (j:Int)=T at *;simp[J9];exact hK _ _ (by simp) (by simp) ⟨n+1,n,by simp,by omega,by omega,by omega,by omega,by simp[Yo]⟩ λid hid=>by simp[fr id hid]
  ·skip;refine Jw (N3 md l (j:Int)) (by simp[m2,m3,m4,m5,Ja,Xn,ne2]) ?_;rintro r rfl;rw[Xd];generalize Yr md l (j:Int)=T at *;simp[J9];exact hK _ _ (by simp) (by simp) ⟨n,n+1,by simp,by omega,by omega,by omega,by omega,by simp[Yo]⟩ λid hid=>by simp[fr id hid]
 ·refine Pj hp hf hb ?_;generalize Uq p b (r.Calls[j]).Func=l at *;simp[Ja];refine Jw (N3 md l (j:Int)) (by simp[m2,m3,m4,m5,Ja,Xn,ne2]) ?_;rintro r rfl;rw[Xd];generalize Yr md l (j:Int)=T at *;simp[J9];exact hK _ _ (by simp) (by simp) ⟨n,n+1,by simp,by omega,by omega,by omega,by omega,by simp[Yo]⟩ λid hid=>by simp[fr id hid]
theorem Jfx{t x:Jc}{k q k5 q5:Nat}(s10:s 10 = .ptr k 0 0)(s13:s 13 = .ptr k5 0 0)(B:Yo t k q h)(B5:Yo x k5 q5 h)(hk:k<n)(hq:q<n)
 (hK:∀s' h',(∀j∈[2,3,4,6,8,9,10,12],s' j=s j)->s' 11 = .bool (Kg t (-1) x).isSome->Yo ((Kg t (-1) x).getD Jl) k n h'->(∀id,id<n->id≠k->h' id=h id)->Ju prog ks .normal s' h' (n+1) Q):rC prog Sv ks s h n Q:=by
 obtain⟨b1,b2⟩:=B;obtain⟨b3,b4⟩:=B5;have fr:∀id,id<n->¬id=n:=by intro id _;omega
 have ne:¬k=n/\¬n=k:=by omega
 simp[Sv,s10,s13,b1,b3];refine Jd (Ve t (-1) x) (by simp[b2,b4,Ja]) ?_;rintro r rfl;rw[Xd];generalize Kg t (-1) x=T at *;simp[J9,ne,b1,s10];refine hK _ _ (by simp) (by simp) ?_ λid hid hne=>by simp[fr id hid,hne]
 simp[Yo,ne]
end
theorem Jci{p:Jq}{md:X9}{F T:Option Jc}{st:Jm}{h:J8}{m k q:Nat}(x6:st 6 = .ptr 2 0 0)(x8:st 8 = .ptr 7 0 0)(x10:st 10 = .ptr k 0 0)(x11:st 11 = .bool T.isSome)(e2:h 2=some ⟨true,4,[[.int .i64 0,.nil 2,.int .i64 0,.nil 1]]⟩)(M:Is md 3 h)(B:Yo (T.getD Jl) k q h)(hq:7<q)(hT:T=F) :
 rC prog uy7 [Kt.seq .ret] st h m (Cv [RV.c 6 true 4,RV.t 7] (Ez md F)):=by
 subst hT;obtain⟨m1,m2,m3,m4,m5⟩:=M;obtain⟨b1,b2⟩:=B;have nq:¬3=q/\¬q=3/\¬q=2:=by omega
 simp[uy7,x8,x10,x6,x11,m1,m2,b1,b2,e2,nq,Ez];exact⟨⟨md.System,T.getD Jl⟩,by simp[Km],λt ht=>by subst ht;rfl⟩
theorem Jao(p:Jq)(hp:Ks p<=1048576)(b:X0)(hB:W1 p b=true){i:Nat}(hi:i<p.Rules.length) :
 Holds prog 100 [.agg (Jh p),.agg (Kr b),i64 i] (Ez (Wh p i) (Om p b (Wh p i) p.Rules[i])):=by
 obtain⟨hpo,hin,hb⟩:=F7 hB;obtain⟨f,hff,RI⟩:=Eu hpo (getElem_mem hi);have hfc:=J54 RI.calls;have hcl:=RI.ncalls;have hf:(Kw p.Functions (p.Rules[i]).Func).isSome=true:=by rw[hff];rfl
 have hwr:Y0 p.Rules[i]<=1048576:=by have:=W6 (w:=Y0) (getElem_mem hi);unfold Ks G4 at hp;omega
 obtain⟨t0,ht0,hok0⟩:=Jet hB hi
 have hmd:Vf p.Rules[i] (Im p p.Rules[i])=Wh p i:=by rw[Jjf hpo hi hff];unfold Im;rw[hff];rfl
 refine Jp Tryz.func100 a100_ok rfl (by simp[a100]) ?_;simp[a100,uy0];refine Jmo hp hpo hi hmd (by simp) (by simp) (by simp) ?_;clear hmd;intro Jv h1 hk1 s8 M hf1;simp at hk1;generalize Wh p i=md at *;have f0:=hf1 0 (by omega);have f1:=hf1 1 (by omega);have f2:=hf1 2 (by omega);simp at f0 f1 f2;simp;rw[<-Gg];refine Xo [2,3,4,6,8] (λs h2 n2=>n2=9/\s 9 = .ptr 8 0 0/\h2 8=some ⟨true,7,[Jr (p.Rules[i]'hi)]⟩/\∀id,id<8->h2 id=h1 id) ?_ ?_
 ·simp[uy2,hk1,f0,Jh,hi];intro id hid;have:¬id=8:=by omega
  simp[this]
 rintro st2 h2 _ hk2 ⟨rfl,s9,e8,hf2⟩;simp at hk2;generalize p.Rules[i]=r at *;have g0:=hf2 0 (by omega);have g1:=hf2 1 (by omega);have g2:=hf2 2 (by omega);rw[f0]at g0;rw[f1]at g1;rw[f2]at g2;obtain⟨m1,m2,m3,m4,m5⟩:=M;have M2:Is md 3 h2:=⟨by rw[hf2 7 (by omega)];exact m1,by rw[hf2 3 (by omega)];exact m2,by rw[hf2 4 (by omega)];exact m3,by rw[hf2 5 (by omega)];exact m4,by rw[hf2 6 (by omega)];exact m5⟩;clear m1 m2 m3 m4 m5;refine Jn (Jm8 hp (p:=p) (b:=b) (md:=md) (r:=r) (k9:=8) (q:=3) hf hb (by simp[hk2,hk1]) (by simp[hk2,hk1]) s9 (by simp[hk2,s8]) g0 g1 e8 M2 (by omega) (by omega) (by omega) ?_);rintro Kl h3 hk3 s11 ⟨k10,q10,s10,hk10,hq10,hk10',hq10',B3⟩ hf3;simp at hk3;rw[ht0]at s11 B3;simp at s11 B3;have j1:=hf3 1 (by omega);have j8:=hf3 8 (by omega);rw[g1]at j1;rw[e8]at j8;obtain⟨m1,m2,m3,m4,m5⟩:=M2;have M3:Is md 3 h3:=⟨by rw[hf3 7 (by omega)];exact m1,by rw[hf3 3 (by omega)];exact m2,by rw[hf3 4 (by omega)];exact m3,by rw[hf3 5 (by omega)];exact m4,by rw[hf3 6 (by omega)];exact m5⟩;simp[uy4,s11];refine Jl9 (b:=b) (r:=r) (md:=md) (t:=t0) (k9:=8) (k:=k10) (q:=q10) (e:=3) hwr hok0 (by simp[hk3,hk2,hk1]) (by simp[hk3,hk2,s8]) (by simp[hk3,s9]) (by simp[s10]) j1 j8 M3 B3 hk10' hq10' ?_;intro st4 h4 n4 q4 hk4 s11' B4 hn4 hq4 hq4' hf4;simp at hk4
 have hr0:Om p b md r=Oy p b md 0 r.Calls (U6 t0 (-(V9 r b.Kind))):=by unfold Om Jc0;rw[ht0];rfl
 rw[hr0];clear hr0;generalize U6 t0 (-(V9 r b.Kind))=T0 at *;have low:∀id,id<9->h4 id=h2 id:=λid hid=>by rw[hf4 id (by omega) (by omega),hf3 id hid]
 have M4:Is md 3 h4:=⟨by rw[low 7 (by omega)];exact m1,by rw[low 3 (by omega)];exact m2,by rw[low 4 (by omega)];exact m3,by rw[low 5 (by omega)];exact m4,by rw[low 6 (by omega)];exact m5⟩;clear m1 m2 m3 m4 m5 M3;have l0:=low 0 (by omega);have l1:=low 1 (by omega);have l2:=low 2 (by omega);have l8:=low 8 (by omega);rw[g0]at l0;rw[g1]at l1;rw[g2]at l2;rw[e8]at l8;have x3:st4 3 = .ptr 0 0 0:=by simp[hk4,hk3,hk2,hk1]
 have x4:st4 4 = .ptr 1 0 0:=by simp[hk4,hk3,hk2,hk1]
 have x6:st4 6 = .ptr 2 0 0:=by simp[hk4,hk3,hk2,hk1]
 have x8:st4 8 = .ptr 7 0 0:=by simp[hk4,hk3,hk2,s8]
 have x9:st4 9 = .ptr 8 0 0:=by simp[hk4,hk3,s9]
 have x10:st4 10 = .ptr k10 0 0:=by simp[hk4,s10]
 clear hk4 hk3 hk2 hk1 hf4 hf3 hf2 low;simp[uy6];generalize hF:Oy p b md 0 r.Calls T0=F at *;refine Ki [3,4,6,8,9,10] 12 r.Calls.length (λj s h m=>8<m/\k10<m/\h 0=some ⟨true,2,[Jh p]⟩/\h 1=some ⟨true,2,[Kr b]⟩/\h 2=some ⟨true,4,[[.int .i64 0,.nil 2,.int .i64 0,.nil 1]]⟩/\h 8=some ⟨true,7,[Jr r]⟩/\Is md 3 h/\∃T q,8<q/\q≠k10/\q<m/\s 11 = .bool T.isSome/\Yo (T.getD Jl) k10 q h/\Oy p b md j (r.Calls.drop j) T=F) (by unfold Jb;omega) (by simp) ⟨by omega,by omega,l0,l1,l2,l8,M4,T0,q4,by omega,by omega,by omega,by simp[s11'],B4,by simpa using hF⟩ ?_ ?_
 ·rintro j st h m R hj hg hk s12 hw' ⟨m8,mk,e0,e1,e2,e8,M,T,q,hq8,hqk,hqm,s11,B,hJ⟩ hR hret hX;simp at hk
  cases T with
  |none=>
   rw[Nr]at hJ;refine Jn (Js [3,4,6,8,9,10,11,12] (λs=>s 59 = .bool false) (by simp[hk,x9,s12,s11,e8,Jr,hj]) ?_);intro Jv hk1 s59;simp at hk1;refine U3 s59 ?_;refine hX _ _ _ _ ?_;simp
   exact Jci (p:=p) (T:=Option.none) (k:=k10) (q:=q) (by simp[hk1,hk,x6]) (by simp[hk1,hk,x8]) (by simp[hk1,hk,x10]) (by simp[hk1,s11]) e2 M B (by omega) hJ
  |some t=>
  rw[List.drop_eq_getElem_cons hj]at hJ;simp only[Oy,Option.bind_some]at hJ;have hfj:=hfc _ (getElem_mem hj);refine Jn (Js [3,4,6,8,9,10,11,12] (λs=>s 59 = .bool true) (by simp[hk,x9,s12,s11,e8,Jr,hj]) ?_);intro Jv hk1 s59;simp at hk1;refine Uh s59 (Jn (Xg ?_));obtain⟨m1,m2,m3,m4,m5⟩:=M;refine Jn (Jh7 hp (p:=p) (b:=b) (md:=md) (r:=r) (k9:=8) (q:=3) (j:=j) hj hfj hb (by simp[hk1,hk,x3]) (by simp[hk1,hk,x4]) (by simp[hk1,hk,x9]) (by simp[hk1,s12]) (by simp[hk1,hk,x8]) e0 e1 e8 ⟨m1,m2,m3,m4,m5⟩ (by omega) (by omega) (by omega) ?_);rintro Kl h3 hk3 s14 ⟨k13,q13,s13,hk13,hq13,hk13',hq13',B13⟩ hfr3;simp at hk3;have B3:Yo t k10 q h3:=⟨by rw[hfr3 k10 mk];exact B.1,by rw[hfr3 q hqm];exact B.2⟩;have z2:=hfr3 2 (by omega);rw[e2]at z2;have y6:Kl 6 = .ptr 2 0 0:=by simp[hk3,hk1,hk,x6]
  have y10:Kl 10 = .ptr k10 0 0:=by simp[hk3,hk1,hk,x10]
  generalize r.Calls[j]=c at *;generalize hX':Yr md (Uq p b c.Func) (j:Int)=X at *
  cases X with
  |none=>
   simp only[Option.bind_none,Nr]at hJ;subst hJ;simp[y6,z2,s14];refine hret _ _ _ ?_;simp[Ez,y6]
   exact⟨⟨⟨0,[]⟩,⟨0,[]⟩⟩,by simp[Km,Jg]⟩
  |some x=>
   simp only[Option.bind_some]at hJ;simp at B13;simp[s14];refine Jfx (t:=t) (x:=x) (k:=k10) (q:=q) (k5:=k13) (q5:=q13) (by simp[y10]) (by simp[s13]) B3 B13 (by omega) (by omega) ?_;intro st4 h4 hk4 t11 B4 hfr4;simp at hk4;simp[hk4,hk3,hk1,s12,hw'];have low4:∀id,id<9->h4 id=h id:=λid hid=>by rw[hfr4 id (by omega) (by omega),hfr3 id (by omega)]
   refine hR _ _ _ (by simp[hk4,hk3,hk1,hk]) (by simp) ⟨by omega,by omega,by rw[low4 0 (by omega),e0],by rw[low4 1 (by omega),e1],by rw[low4 2 (by omega),e2],by rw[low4 8 (by omega),e8],⟨by rw[low4 7 (by omega)];exact m1,by rw[low4 3 (by omega)];exact m2,by rw[low4 4 (by omega)];exact m3,by rw[low4 5 (by omega)];exact m4,by rw[low4 6 (by omega)];exact m5⟩,_,m+2,by omega,by omega,by omega,by simp[t11],B4,hJ⟩
 ·rintro st h m R hk s12 ⟨m8,mk,e0,e1,e2,e8,M,T,q,hq8,hqk,hqm,s11,B,hJ⟩ _ hX;simp at hk;rw[drop_eq_nil_of_le (by omega)]at hJ;simp only[Oy]at hJ;refine Jn (Js [3,4,6,8,9,10,11] (λs=>s 59 = .bool false) (by simp[hk,x9,s12,s11,e8,Jr]) ?_);intro Jv hk1 s59;simp at hk1;refine U3 s59 ?_;refine hX _ _ _ _ ?_;simp;exact Jci (p:=p) (T:=T) (k:=k10) (q:=q) (by simp[hk1,hk,x6]) (by simp[hk1,hk,x8]) (by simp[hk1,hk,x10]) (by simp[hk1,s11]) e2 M B (by omega) hJ
def Jwd:AC:=(.draw (.op (Zl 33 true 2 2) (.op (Zf 34 0 2) (.op (Zl 35 false 1 34) (.op (Zv 36 8) (.op (Zx 37 4 35 36) (.op (Zf 38 0 37) (.op (Zl 39 false 1 38) (.both (.op (Zc 40 97 [.t 33,.t 39]) (.op (Zv 32 40) (.op (Ze 41 32 0) (.op (Ze 42 32 1) (.op (Zo 9 (.box [(.int .i64 0),(.nil 2)])) (.hop ⟨no,.st 2 (.t 9) (.t 41),no⟩ [] (.op (Zv 10 42) .fin))))))) (.op (Zo 9 (.box [(.int .i64 0),(.nil 2)])) (.op (Zc 40 97 [.t 33,.t 39]) (.op (Zv 32 40) (.op (Ze 41 32 0) (.op (Ze 42 32 1) (.hop ⟨no,.st 2 (.t 9) (.t 41),no⟩ [] (.op (Zv 10 42) .fin))))))))))))))))
def Jvr:AC:=(.draw (.op (Zf 44 1 3) (.op (Zl 45 false 1 44) (.op (Zv 46 8) (.op (Zx 47 2 45 46) (.op (Zl 48 true 2 47) (.op (Zv 49 7) (.op (Zf 50 0 9) (.op (Zl 51 false 1 50) (.both (.op (Zc 52 99 [.t 49,.t 51]) (.both (.op (Zc 53 98 [.t 48,(.k (.int .i64 (-1))),.t 52]) (.op (Zv 43 53) (.op (Ze 54 43 0) (.op (Ze 55 43 1) (.op (Zo 11 (.box [(.int .i64 0),(.nil 1)])) (.hop ⟨no,.st 2 (.t 11) (.t 54),no⟩ [] (.op (Zv 12 55) .fin))))))) (.op (Zo 11 (.box [(.int .i64 0),(.nil 1)])) (.op (Zc 53 98 [.t 48,(.k (.int .i64 (-1))),.t 52]) (.op (Zv 43 53) (.op (Ze 54 43 0) (.op (Ze 55 43 1) (.hop ⟨no,.st 2 (.t 11) (.t 54),no⟩ [] (.op (Zv 12 55) .fin))))))))) (.op (Zo 11 (.box [(.int .i64 0),(.nil 1)])) (.op (Zc 52 99 [.t 49,.t 51]) (.op (Zc 53 98 [.t 48,(.k (.int .i64 (-1))),.t 52]) (.op (Zv 43 53) (.op (Ze 54 43 0) (.op (Ze 55 43 1) (.hop ⟨no,.st 2 (.t 11) (.t 54),no⟩ [] (.op (Zv 12 55) .fin))))))))))))))))))
def Jvv:AC:=(.reg [Zv 59 6,Zl 60 true 2 9,Zl 61 true 2 11,Zo 62 (.build [(.int .i64 0),(.nil 2),(.int .i64 0),(.nil 1)] [(0,(2,(.t 60))),(2,(2,(.t 61)))]),Zo 63 (.bsl 4 [.t 62]),ZA 64 64 4 59 63,Zv 6 64])
def Jw5:AC:=(.reg [Zl 73 true 2 2,Zl 74 true 2 3,Zv 75 13,Zc 76 100 [.t 73,.t 74,.t 75],Zv 72 76,Ze 77 72 0,Ze 78 72 1,Zo 14 (.box [(.int .i64 0),(.nil 2),(.int .i64 0),(.nil 1)]),⟨no,.st 4 (.t 14) (.t 77),no⟩,Zv 15 78])
def Jwh:AC:=(.reg [Zv 82 6,Zl 83 true 4 14,Zo 84 (.bsl 4 [.t 83]),ZA 85 64 4 82 84,Zv 6 85])
def ub0:AC:=(.reg [ZB 2 0,ZB 3 1,Zo 4 (.mv (.k (.nil 4))),Zt 5 false])
def ub1:AC:=(Zq [Zl 16 true 2 2,Zl 17 true 2 3,Zc 18 96 [.t 16,.t 17],ZN 19 18] (.cond (.t 19) (Zq [Zo 20 (.bsl 4 []),Zv 4 20,Zt 5 false] .ret) .skip))
def ub2:AC:=(.reg [Zo 21 (.bsl 4 []),Zv 6 21])
def ub3:AC:=(.reg [Zi 7 0])
def ub4:AC:=(Zq [Zf 22 0 3,Zl 23 false 1 22,Zk 24 .eql 23 1] (.cond (.t 24) (.reg [Zi 7 1]) .skip))
def Tx:AC:=(Zq [Zi 8 0] (.blk 0 (.loop (.seq (Zq [Zv 25 8,Zf 26 0 2,Zl 27 false 1 26,Zn 28 27,Zb 29 .lss 25 28] (Zw 29 0)) (.seq (.blk 1 (.seq Jwd (.seq Jvr (.seq (Zq [Zv 56 12,ZN 57 56] (.cond (.t 57) (Zq [Zo 58 (.bsl 4 []),Zv 4 58,Zt 5 false] .ret) .skip))  Jvv)))) (.reg [Zv 30 8,Zk 31 .add 30 1,Zv 8 31]))))))
def ub6:AC:=(Zq [Zi 13 0] (.blk 2 (.loop (.seq (Zq [Zv 65 13,Zf 66 1 2,Zl 67 false 1 66,Zn 68 67,Zb 69 .lss 65 68] (Zw 69 2)) (.seq (.blk 3 (.seq  Jw5 (.seq (Zq [Zv 79 15,ZN 80 79] (.cond (.t 80) (Zq [Zo 81 (.bsl 4 []),Zv 4 81,Zt 5 false] .ret) .skip))  Jwh))) (.reg [Zv 70 13,Zk 71 .add 70 1,Zv 13 71]))))))
def ub7:AC:=(.reg [Zv 86 6,Zv 4 86,Zt 5 true])
def a31:Jk:=⟨87,[.t 4,.t 5],(.seq ub0 (.seq ub1 (.seq ub2 (.seq ub3 (.seq ub4 (.seq Tx (.seq ub6 (.seq ub7 .ret))))))))⟩
theorem a31_ok:Jf prog Tryz.f31=some a31:=by kernel_rfl
section
variable {ks:List Kt}{s:Jm}{h h':J8}{n:Nat}{Q:Xc}
theorem Jht{p:Jq}(hp:Ks p<=1048576){i:Nat}(hi:i<p.Functions.length)(s8:s 8 = .int .i64 i)(s2:s 2 = .ptr 0 0 0)(e0:h 0=some ⟨true,2,[Jh p]⟩)
 (hK:∀s' h',(∀j∈[2,3,4,5,6,7,8],s' j=s j)->(∀id,id<n->h' id=h id)->(∃k q,s' 9 = .ptr k 0 0/\n<=k/\n<=q/\k<n+2/\q<n+2/\h' k=some ⟨true,2,[[.int .i64 (Wd p (p.Functions[i]).Name).N,.ref q 0 (Wd p (p.Functions[i]).Name).Rows.length]]⟩/\h' q=some ⟨false,2,(Wd p (p.Functions[i]).Name).Rows.map J9⟩)->Ju prog ks .normal s' h' (n+2) Q):rC prog Jwd ks s h n Q:=by
 have fr:∀id,id<n->¬id=n/\¬id=n+1:=by intro id _;omega
 have ne:¬n=n+1/\¬n+1=n:=by omega
 simp[Jwd,s2,s8,e0,hi,Jh,K5];generalize hnm:(p.Functions[i]).Name=nm at *;constructor
 ·skip;refine Jw (J33 p hp nm) (by simp[Jh]) ?_;rintro r rfl;unfold Gm;rw[show(Br p nm).getD Bm=Wd p nm from rfl];generalize Wd p nm=S at *;simp[Wb];exact hK _ _ (by simp) (λid hid=>by simp[fr id hid]) ⟨n+1,n,by simp,by omega,by omega,by omega,by omega,by simp,by simp⟩
 ·skip;refine Jw (J33 p hp nm) (by simp[Jh]) ?_;rintro r rfl;unfold Gm;rw[show(Br p nm).getD Bm=Wd p nm from rfl];generalize Wd p nm=S at *;simp[Wb];exact hK _ _ (by simp) (λid hid=>by simp[fr id hid]) ⟨n,n+1,by simp,by omega,by omega,by omega,by omega,by simp,by simp⟩
theorem Jfu{b:X0}{i k9:Nat}{S:Xm}{v:AV}{F:Option Jc}(hb:i<b.Lins.length)(hF:Kg b.Lins[i] (-1) (Jo (Vj b.Kind) S.N)=F)(s8:s 8 = .int .i64 i)(s3:s 3 = .ptr 1 0 0)(s7:s 7 = .int .i64 (Vj b.Kind))(s9:s 9 = .ptr k9 0 0)(e1:h 1=some ⟨true,2,[Kr b]⟩)(e9:h k9=some ⟨true,2,[[.int .i64 S.N,v]]⟩)(h1:1<n)(h9:k9<n)
 (hK:∀s' h' n',(∀j∈[2,3,4,5,6,7,8,9],s' j=s j)->(∀id,id<n->h' id=h id)->s' 12 = .bool F.isSome->(∃k q,s' 11 = .ptr k 0 0/\n<=k/\n<=q/\k<n'/\q<n'/\Yo (F.getD Jl) k q h')->n<=n'->Ju prog ks .normal s' h' n' Q):rC prog Jvr ks s h n Q:=by
 have fr:∀id,id<n->¬id=n/\¬id=n+1/\¬id=n+2:=by intro id _;omega
 have ne:¬n=n+1/\¬n+1=n/\¬n=n+2/\¬n+2=n/\¬n+1=n+2/\¬n+2=n+1/\¬n=n+1+1/\¬n+1+1=n:=by omega
 simp[Jvr,s3,s7,s8,s9,e1,e9,hb,Kr];constructor
 ·refine D5 (O4 (Vj b.Kind) S.N) (by simp) ?_;rintro _ rfl;generalize Jo (Vj b.Kind) S.N=c at *;simp;constructor
  ·skip;refine Jw (Ve (b.Lins[i]'hb) (-1) c) (by simp[Ja]) ?_;rintro r rfl;rw[hF,Xd];simp[J9];exact hK _ _ _ (by simp) (λid hid=>by simp[fr id hid]) (by simp) ⟨n+1,n,by simp,by omega,by omega,by omega,by omega,by simp[Yo]⟩ (by omega)
  ·skip;refine Jw (Ve (b.Lins[i]'hb) (-1) c) (by simp[Ja]) ?_;rintro r rfl;rw[hF,Xd];simp[J9];exact hK _ _ _ (by simp) (λid hid=>by simp[fr id hid]) (by simp) ⟨n,n+1,by simp,by omega,by omega,by omega,by omega,by simp[Yo]⟩ (by omega)
 ·refine D5 (O4 (Vj b.Kind) S.N) (by simp) ?_;rintro _ rfl;generalize Jo (Vj b.Kind) S.N=c at *;simp;refine Jw (Ve (b.Lins[i]'hb) (-1) c) (by simp[Ja]) ?_;rintro r rfl;rw[hF,Xd];simp[J9];exact hK _ _ _ (by simp) (λid hid=>by simp[fr id hid]) (by simp) ⟨n,n+1,by simp,by omega,by omega,by omega,by omega,by simp[Yo]⟩ (by omega)
theorem Jh8{p:Jq}(hp:Ks p<=1048576){b:X0}(hB:W1 p b=true){i:Nat}(hi:i<p.Rules.length)(s2:s 2 = .ptr 0 0 0)(s3:s 3 = .ptr 1 0 0)(s13:s 13 = .int .i64 i)(e0:h 0=some ⟨true,2,[Jh p]⟩)(e1:h 1=some ⟨true,2,[Kr b]⟩)
 (hK:∀s' h' o,(∀j∈[2,3,4,5,6,13],s' j=s j)->s' 15 = .bool (Om p b (Wh p i) p.Rules[i]).isSome->s' 14 = .ptr (n+2) 0 0->Et o n h'->(∀t,Om p b (Wh p i) p.Rules[i]=some t->o=⟨(Wh p i).System,t⟩)->(∀id,id<n->h' id=h id)->Ju prog ks .normal s' h' (n+3) Q):rC prog Jw5 ks s h n Q:=by
 simp[Jw5,s2,s3,s13,e0,e1];refine Jd (Jao p hp b hB hi) (by simp) ?_;rintro _ ⟨o,rfl,ho⟩;generalize Om p b (Wh p i) p.Rules[i]=T at *;simp[Km];refine hK _ _ o (by simp) (by simp) (by simp) (by simp[Et]) ho ?_;intro id hid;have:¬id=n/\¬id=n+1/\¬id=n+2:=by omega
 simp[this]
theorem Ji0{acc:List X5}{S:Xm}{t:Jc}{v:AV}{m k q k1 q1:Nat}(s6:s 6=v)(s9:s 9 = .ptr k 0 0)(s11:s 11 = .ptr k1 0 0)(b1:h k=some ⟨true,2,[[.int .i64 S.N,.ref q 0 S.Rows.length]]⟩)(b2:h q=some ⟨false,2,S.Rows.map J9⟩)(B5:Yo t k1 q1 h)(B:Kn 1 4 (acc.map Km) v h m)(hm:m<=n)(hk:m<=k/\k<n)(hq:m<=q/\q<n)(hk1:m<=k1/\k1<n)(hq1:m<=q1/\q1<n)(hqq:¬q=q1)(hl:acc.length<=3000000)
 (hK:∀s' h' n',(∀j∈[2,3,4,5,7,8,13],s' j=s j)->n<=n'->(∀id z rows,id<m->h id=some ⟨true,z,rows⟩->h' id=h id)->Kn 1 4 ((acc++[(⟨S,t⟩:X5)]).map Km) (s' 6) h' n'->Ju prog ks .normal s' h' n' Q):rC prog Jvv ks s h n Q:=by
 obtain⟨b3,b4⟩:=B5;have fr:∀id,id<m->¬id=n/\¬id=q/\¬id=q1:=by intro id _;omega
 have ne:¬q=q1/\¬q1=q:=by omega
 simp[Jvv,s6,s9,s11,b1,b2,b3,b4,ne];refine Vw (rows:=acc.map Km) (rows2:=[[.int .i64 S.N,.us 2 (S.Rows.map J9),.int .i64 t.Const,.us 1 (Jg t.Coeffs)]]) (B.keep (n':=n+1) (by omega) λid _ hid e=>by simp[fr id hid]) (by simp) (λl e=>by have:=(B.lt e).2.1;omega) (by omega) (by simp;unfold Jb;omega) ?_;intro h1 f1 f2;simp;refine hK _ _ _ (by simp) (by omega) ?_ ?_
 ·intro id z rows h1' h3';rw[f2 id (by omega) (by omega) λl e=>B.not_box h3' e];simp[fr id h1']
 ·simp;exact .inr ⟨n+1,by omega,by omega,by simp,by simp[f1,Km]⟩
theorem Jhi{acc:List X5}{o:X5}{v:AV}{q:Nat}(s8:s 14 = .ptr (q+2) 0 0)(s6:s 6=v)(O:Et o q h)(B:Kn 1 4 (acc.map Km) v h q)(hq:n=q+3)(hl:acc.length<=3000000)
 (hK:∀s' h' n',(∀j∈[2,3,4,5,13],s' j=s j)->n<=n'->(∀id z rows,id<q->h id=some ⟨true,z,rows⟩->h' id=h id)->Kn 1 4 ((acc++[o]).map Km) (s' 6) h' n'->Ju prog ks .normal s' h' n' Q):rC prog Jwh ks s h n Q:=by
 subst hq;obtain⟨o1,o2,o3⟩:=O;have fr:∀id,id<q->¬id=q/\¬id=q+1/\¬id=q+3:=by intro id _;omega
 simp[Jwh,s6,s8,o1,o2,o3];refine Vw (rows:=acc.map Km) (rows2:=[[.int .i64 o.System.N,.us 2 (o.System.Rows.map J9),.int .i64 o.Target.Const,.us 1 (Jg o.Target.Coeffs)]]) (B.keep (n':=q+3+1) (by omega) λid _ hid e=>by simp[fr id hid]) (by simp) (λl e=>by have:=(B.lt e).2.1;omega) (by omega) (by simp;unfold Jb;omega) ?_;intro h1 f1 f2;simp;refine hK _ _ _ (by simp) (by omega) ?_ ?_
 ·intro id z rows h1' h3';rw[f2 id (by omega) (by omega) λl e=>B.not_box h3' e];simp[fr id h1']
 ·simp;exact .inr ⟨q+4,by omega,by omega,by simp,by simp[f1,Km]⟩
theorem Jmw{p:Jq}(hp:Ks p<=1048576){b:X0}(hB:W1 p b=true){l2:List (Option X5)}{F:Option (List X5)}(hn:1<n)(s2:s 2 = .ptr 0 0 0)(s3:s 3 = .ptr 1 0 0)(s7:s 7 = .int .i64 (Vj b.Kind))(B0:Kn 1 4 [] (s 6) h n)(e0:h 0=some ⟨true,2,[Jh p]⟩)(e1:h 1=some ⟨true,2,[Kr b]⟩)(hF:We [] (Il p b++l2)=F)
 (hret:F=Option.none->∀s' h' n' k,s' 4 = .ref k 0 0->h' k=some ⟨false,4,[]⟩->s' 5 = .bool false->Ju prog ks .ret s' h' n' Q)
 (hK:∀s' h' n',(∀j∈[2,3],s' j=s j)->1<n'->h' 0=some ⟨true,2,[Jh p]⟩->h' 1=some ⟨true,2,[Kr b]⟩->(∃acc,acc.length<=3/\Kn 1 4 (acc.map Km) (s' 6) h' n'/\We acc l2=F)->Ju prog ks .normal s' h' n' Q):rC prog Tx ks s h n Q:=by
 obtain⟨hpo,hin,hb⟩:=F7 hB;have hfl:=(Cj hpo).2.2.1;simp[Tx];refine Ki [2,3,7] 8 p.Functions.length (λi s h m=>1<m/\h 0=some ⟨true,2,[Jh p]⟩/\h 1=some ⟨true,2,[Kr b]⟩/\∃acc,acc.length=i/\Kn 1 4 (acc.map Km) (s 6) h m/\We acc ((Il p b).drop i++l2)=F) (by unfold Jb;omega) (by simp) ⟨hn,e0,e1,[],rfl,by simpa using B0,by simpa using hF⟩ ?_ ?_
 ·rintro i st h m R hi hg hk s8 hw' ⟨m1,e0,e1,acc,hal,B,hJ⟩ hR hrt _;simp at hk;have hib:i<b.Lins.length:=by omega
  rw[Ja6 hi hb,List.cons_append]at hJ;refine Jn (Js [2,3,6,7,8] (λs=>s 29 = .bool true) (by simp[hk,s2,e0,Jh,s8,hi]) ?_);intro Jv hk1 s29;simp at hk1;refine Uh s29 (Jn (Xg ?_));refine Jn (Jht hp hi (by simp[hk1,s8]) (by simp[hk1,hk,s2]) e0 ?_);rintro st2 h2 hk2 hf2 ⟨k9,q9,s9,hk9,hq9,hk9',hq9',b1,b2⟩;simp at hk2;have f0:=hf2 0 (by omega);have f1:=hf2 1 (by omega);rw[e0]at f0;rw[e1]at f1;refine Ua (Jn (Jfu (b:=b) (i:=i) (k9:=k9) (S:=Wd p (p.Functions[i]).Name) (F:=Vp b b.Lins[i]) hib (Jlk hB hi hib) (by simp[hk2,hk1,s8]) (by simp[hk2,hk1,hk,s3]) (by simp[hk2,hk1,hk,s7]) s9 f1 b1 (by omega) hk9' ?_));rintro Kl h3 n3 hk3 hf3 s12 ⟨k11,q11,s11,hk11,hq11,hk11',hq11',B5⟩ hn3;simp at hk3;have b1':=hf3 k9 hk9';have b2':=hf3 q9 hq9';rw[b1]at b1';rw[b2]at b2';generalize hT:Vp b b.Lins[i]=T at *
  cases T with
  |none=>
   simp only[Option.map_none,We]at hJ;simp[s12]
   exact hrt _ _ _ (hret hJ.symm _ _ _ n3 (by simp) (by simp) (by simp))
  |some t=>
   simp only[Option.map_some,We]at hJ;simp at B5;simp[s12];refine Ji0 (acc:=acc) (S:=Wd p (p.Functions[i]).Name) (t:=t) (v:=st 6) (m:=m) (k:=k9) (q:=q9) (k1:=k11) (q1:=q11) (by simp[hk3,hk2,hk1]) (by simp[hk3,s9]) (by simp[s11]) b1' b2' B5 (B.keep (Nat.le_refl _) λid _ hid _=>by rw[hf3 id (by omega),hf2 id hid]) (by omega) ⟨hk9,by omega⟩ ⟨hq9,by omega⟩ ⟨by omega,hk11'⟩ ⟨by omega,hq11'⟩ (by omega) (by omega) ?_;intro st4 h4 n4 hk4 hn4 bx4 B4;simp at hk4;have g0:=hf3 0 (by omega);have g1:=hf3 1 (by omega);rw[f0]at g0;rw[f1]at g1;simp[hk4,hk3,hk2,hk1,s8,hw'];refine hR _ _ _ (by simp[hk4,hk3,hk2,hk1,hk]) (by simp) ⟨by omega,by rw[bx4 0 _ _ (by omega) g0,g0],by rw[bx4 1 _ _ (by omega) g1,g1],acc++[⟨Wd p (p.Functions[i]).Name,t⟩],by simp[hal],?_,hJ⟩;simpa using B4
 ·rintro st h m R hk s8 ⟨m1,e0,e1,acc,hal,B,hJ⟩ _ hX;simp at hk;rw[drop_eq_nil_of_le (by simp[Il]),List.nil_append]at hJ;refine Jn (Js [2,3,6] (λs=>s 29 = .bool false) (by simp[hk,s2,e0,Jh,s8]) ?_);intro Jv hk1 s29;simp at hk1;refine U3 s29 ?_;refine hX _ _ _ _ ?_;simp;refine hK _ _ _ (by simp[hk1,hk]) m1 e0 e1 ⟨acc,by omega,?_,hJ⟩;rw[hk1.2.2];exact B
theorem Jmh{p:Jq}(hp:Ks p<=1048576){b:X0}(hB:W1 p b=true){acc0:List X5}{F:Option (List X5)}(hn:1<n)(s2:s 2 = .ptr 0 0 0)(s3:s 3 = .ptr 1 0 0)(e0:h 0=some ⟨true,2,[Jh p]⟩)(e1:h 1=some ⟨true,2,[Kr b]⟩)(hal0:acc0.length<=3)(B0:Kn 1 4 (acc0.map Km) (s 6) h n)(hF:We acc0 (Qs p b)=F)
 (hret:F=Option.none->∀s' h' n' k,s' 4 = .ref k 0 0->h' k=some ⟨false,4,[]⟩->s' 5 = .bool false->Ju prog ks .ret s' h' n' Q)
 (hK:∀s' h' n' acc,Kn 1 4 (acc.map Km) (s' 6) h' n'->some acc=F->Ju prog ks .normal s' h' n' Q):rC prog ub6 ks s h n Q:=by
 obtain⟨hpo,hin,hb⟩:=F7 hB;have hrl:=(Cj hpo).2.2.2;simp[ub6];refine Ki [2,3] 13 p.Rules.length (λi s h m=>1<m/\h 0=some ⟨true,2,[Jh p]⟩/\h 1=some ⟨true,2,[Kr b]⟩/\∃acc,acc.length=acc0.length+i/\Kn 1 4 (acc.map Km) (s 6) h m/\We acc ((Qs p b).drop i)=F) (by unfold Jb;omega) (by simp) ⟨hn,e0,e1,acc0,rfl,by simpa using B0,by simpa using hF⟩ ?_ ?_
 ·rintro i st h m R hi hg hk s13 hw' ⟨m1,e0,e1,acc,hal,B,hJ⟩ hR hrt _;simp at hk;rw[J9v hi]at hJ;refine Jn (Js [2,3,6,13] (λs=>s 69 = .bool true) (by simp[hk,s2,e0,Jh,s13,hi]) ?_);intro Jv hk1 s69;simp at hk1;refine Uh s69 (Jn (Xg ?_));refine Jn (Jh8 hp (b:=b) hB hi (by simp[hk1,hk,s2]) (by simp[hk1,hk,s3]) (by simp[hk1,s13]) e0 e1 ?_);intro Kl h3 o hk3 s15 s14 O ho hfr;simp at hk3;generalize hT:Om p b (Wh p i) p.Rules[i]=T at *
  cases T with
  |none=>
   simp only[Option.map_none,We]at hJ;simp[s15]
   exact hrt _ _ _ (hret hJ.symm _ _ _ (m+3) (by simp) (by simp) (by simp))
  |some t=>
   simp only[Option.map_some,We]at hJ;obtain rfl:=ho t rfl;simp[s15];refine Jhi (acc:=acc) (o:=⟨(Wh p i).System,t⟩) (v:=st 6) (q:=m) (by simp[s14]) (by simp[hk3,hk1]) O (B.keep (Nat.le_refl _) λid _ hid _=>hfr id hid) rfl (by omega) ?_;intro st4 h4 n4 hk4 hn4 bx4 B4;simp at hk4;have g0:=hfr 0 (by omega);have g1:=hfr 1 (by omega);rw[e0]at g0;rw[e1]at g1;simp[hk4,hk3,hk1,s13,hw'];refine hR _ _ _ (by simp[hk4,hk3,hk1,hk]) (by simp) ⟨by omega,by rw[bx4 0 _ _ (by omega) g0,g0],by rw[bx4 1 _ _ (by omega) g1,g1],acc++[⟨(Wh p i).System,t⟩],by simp[hal];omega,?_,hJ⟩;simpa using B4
 ·rintro st h m R hk s13 ⟨m1,e0,e1,acc,hal,B,hJ⟩ _ hX;simp at hk;rw[drop_eq_nil_of_le (by simp[Qs])]at hJ;refine Jn (Js [2,3,6] (λs=>s 69 = .bool false) (by simp[hk,s2,e0,Jh,s13]) ?_);intro Jv hk1 s69;simp at hk1;refine U3 s69 ?_;refine hX _ _ _ _ ?_;simp;refine hK _ _ _ acc ?_ hJ;rw[hk1.2.2];exact B
end
theorem J0u(p:Jq)(hp:Ks p<=1048576)(b:X0):Holds prog 31 [.agg (Jh p),.agg (Kr b)] (λx=>x=Ob (Uz p b)):=by
 refine Jp Tryz.func31 a31_ok rfl (by simp[a31]) ?_;simp[a31,ub0];rw[<-Gg];refine Xo [2,3,4,5] (λs h2 n2=>W1 p b=true/\n2=2/\h2 0=some ⟨true,2,[Jh p]⟩/\h2 1=some ⟨true,2,[Kr b]⟩) ?_ ?_
 ·simp[ub1];refine Jd (Jat p hp b) (by simp) ?_;rintro r rfl;cases hB:W1 p b
  ·have:Uz p b=Option.none:=by simp[Uz,hB]
   simp[this,Ob]
  simp
 rintro Jv h1 _ hk1 ⟨hB,rfl,e0,e1⟩;simp at hk1;have hbo:Uz p b=We [] (Il p b++Qs p b):=by simp[Uz,hB]
 rw[hbo];clear hbo;generalize hF:We [] (Il p b++Qs p b)=F;refine Xo [2,3] (λs h2 n2=>n2=3/\s 6 = .ref 2 0 0/\h2 2=some ⟨false,4,[]⟩/\h2 0=some ⟨true,2,[Jh p]⟩/\h2 1=some ⟨true,2,[Kr b]⟩) ?_ ?_
 ·simp[ub2,e0,e1]
 rintro st2 h2 _ hk2 ⟨rfl,s6,e2,f0,f1⟩;simp at hk2;refine Js [2,3,6] (λs=>s 7 = .int .i64 0) (by simp[ub3]) ?_;intro Kl hk3 s7;simp at hk3;refine Js [2,3,6] (λs=>s 7 = .int .i64 (Vj b.Kind)) ?_ ?_
 ·unfold Vj;by_cases hk:b.Kind=1
  ·simp[ub4,hk3,hk2,hk1,f1,Kr,hk]
  ·simp[ub4,hk3,hk2,hk1,f1,Kr,hk,s7]
 intro st4 hk4 s7';simp at hk4;refine Jn (Jmw hp hB (F:=F) (l2:=Qs p b) (by omega) (by simp[hk4,hk3,hk2,hk1]) (by simp[hk4,hk3,hk2,hk1]) s7' (.inr ⟨2,by omega,by omega,by simp[hk4,hk3,s6],e2⟩) f0 f1 hF ?_ ?_)
 ·rintro rfl s' h' n' k s4 ek s5;simp[s4,s5,ek,Ob]
 rintro Ur h5 n5 hk5 hn5 g0 g1 ⟨acc,hal,B,hJ⟩;simp at hk5;refine Ua (Jn (Jmh hp hB (F:=F) hn5 (by simp[hk5,hk4,hk3,hk2,hk1]) (by simp[hk5,hk4,hk3,hk2,hk1]) g0 g1 hal B hJ ?_ ?_))
 ·rintro rfl s' h' n' k s4 ek s5;simp[s4,s5,ek,Ob]
 rintro st6 h6 n6 acc6 B6 rfl;obtain⟨h7,d1,_⟩:=B6.dt;simp[ub7,-dt,-Wq,Ob];simp[dt,Wq,d1]
def qo0:AC:=(.reg [ZB 1 0,Zo 2 (.mv (.k (.nil 4)))])
def qo1:AC:=(.reg [Zo 13 (.bsl 4 []),Zv 3 13])
def qo2:AC:=(.reg [Zl 14 true 2 1,Zc 15 122 [.t 14],Zv 4 15])
def Jwi:AC:=(.draw (.op (Zl 23 true 2 1) (.op (Zv 24 4) (.op (Zv 25 5) (.op (Zx 26 2 24 25) (.op (Zf 27 0 26) (.op (Zl 28 false 1 27) (.both (.op (Zc 29 171 [.t 23,.t 28]) (.op (Zv 22 29) (.op (Ze 30 22 0) (.op (Ze 31 22 1) (.op (Zo 6 (.box [(.int .i64 0),(.nil 2),(.nil 2),(.nil 1),(.int .i64 0),(.nil 1)])) (.hop ⟨no,.st 6 (.t 6) (.t 30),no⟩ [] (.op (Zv 7 31) .fin))))))) (.op (Zo 6 (.box [(.int .i64 0),(.nil 2),(.nil 2),(.nil 1),(.int .i64 0),(.nil 1)])) (.op (Zc 29 171 [.t 23,.t 28]) (.op (Zv 22 29) (.op (Ze 30 22 0) (.op (Ze 31 22 1) (.hop ⟨no,.st 6 (.t 6) (.t 30),no⟩ [] (.op (Zv 7 31) .fin)))))))))))))))
def Jw6:AC:=(.draw (.op (Zl 33 true 2 1) (.op (Zl 34 true 2 1) (.op (Zv 35 4) (.op (Zv 36 5) (.op (Zx 37 2 35 36) (.op (Zl 38 true 2 37) (.both (.op (Zc 39 173 [.t 34,.t 38]) (.both (.op (Zc 40 172 [.t 33,.t 39]) (.op (Zv 32 40) (.op (Ze 41 32 0) (.op (Ze 42 32 1) (.op (Zo 8 (.box [(.str []),(.nil 1),(.bool false),(.nil 2)])) (.hop ⟨no,.st 4 (.t 8) (.t 41),no⟩ [] (.op (Zv 9 42) .fin))))))) (.op (Zo 8 (.box [(.str []),(.nil 1),(.bool false),(.nil 2)])) (.op (Zc 40 172 [.t 33,.t 39]) (.op (Zv 32 40) (.op (Ze 41 32 0) (.op (Ze 42 32 1) (.hop ⟨no,.st 4 (.t 8) (.t 41),no⟩ [] (.op (Zv 9 42) .fin))))))))) (.op (Zo 8 (.box [(.str []),(.nil 1),(.bool false),(.nil 2)])) (.op (Zc 39 173 [.t 34,.t 38]) (.op (Zc 40 172 [.t 33,.t 39]) (.op (Zv 32 40) (.op (Ze 41 32 0) (.op (Ze 42 32 1) (.hop ⟨no,.st 4 (.t 8) (.t 41),no⟩ [] (.op (Zv 9 42) .fin))))))))))))))))
def Jwc:AC:=(.draw (.op (Zl 51 true 6 6) (.op (Zf 52 3 8) (.op (Zl 53 false 1 52) (.op (Zv 54 10) (.op (Zx 55 2 53 54) (.op (Zl 56 true 2 55) (.op (Zv 57 4) (.op (Zv 58 5) (.op (Zx 59 2 57 58) (.op (Zf 60 1 59) (.op (Zl 61 false 1 60) (.both (.op (Zc 62 174 [.t 51,.t 56,.t 61]) (.op (Zv 50 62) (.op (Ze 63 50 0) (.op (Ze 64 50 1) (.op (Zo 11 (.box [(.int .i64 0),(.nil 1)])) (.hop ⟨no,.st 2 (.t 11) (.t 63),no⟩ [] (.op (Zv 12 64) .fin))))))) (.op (Zo 11 (.box [(.int .i64 0),(.nil 1)])) (.op (Zc 62 174 [.t 51,.t 56,.t 61]) (.op (Zv 50 62) (.op (Ze 63 50 0) (.op (Ze 64 50 1) (.hop ⟨no,.st 2 (.t 11) (.t 63),no⟩ [] (.op (Zv 12 64) .fin))))))))))))))))))))
def Jw3:AC:=(.draw (.op (Zv 71 3) (.op (Zf 72 0 6) (.op (Zl 73 true 2 72) (.op (Zl 75 true 2 11) (.op (Zc 74 175 [.t 73]) (.op (Zo 76 (.build [(.int .i64 0),(.nil 2),(.int .i64 0),(.nil 1)] [(0,(2,(.t 74))),(2,(2,(.t 75)))])) (.hop (Zo 77 (.bsl 4 [.t 76])) [] (.hop (ZA 78 64 4 71 77) [] (.hop (Zv 3 78) [] .fin))))))))))
def Tz:AC:=(Zq [Zi 10 0] (.blk 2 (.loop (.seq (Zq [Zv 43 10,Zf 44 3 8,Zl 45 false 1 44,Zn 46 45,Zb 47 .lss 43 46] (Zw 47 2)) (.seq (.blk 3 (.seq Jwc (.seq (Zq [Zv 65 12,ZN 66 65] (.cond (.t 66) (.reg [Zf 67 0 6,Zf 68 0 67,Zl 69 false 1 68,Zc 70 99 [(.k (.int .i64 (-1))),.t 69],⟨no,.st 2 (.t 11) (.t 70),no⟩]) .skip)) Jw3))) (.reg [Zv 48 10,Zk 49 .add 48 1,Zv 10 49]))))))
def qo3:AC:=(Zq [Zi 5 0] (.blk 0 (.loop (.seq (Zq [Zv 16 5,Zv 17 4,Zn 18 17,Zb 19 .lss 16 18] (Zw 19 0)) (.seq (.blk 1 (.seq Jwi (.seq Jw6 Tz))) (.reg [Zv 20 5,Zk 21 .add 20 1,Zv 5 21]))))))
def qo4:AC:=(.reg [Zv 79 3,Zv 2 79])
def a92:Jk:=⟨80,[.t 2],(.seq qo0 (.seq qo1 (.seq qo2 (.seq qo3 (.seq qo4 .ret)))))⟩
theorem a92_ok:Jf prog Tryz.f92=some a92:=by kernel_rfl
section
variable {ks:List Kt}{s:Jm}{h h':J8}{n:Nat}{Q:Xc}
theorem Jh9{md:X9}{t:Jc}{acc:List X5}{v:AV}{k6 k11:Nat}(s3:s 3=v)(s6:s 6 = .ptr k6 0 0)(s11:s 11 = .ptr k11 0 0)(e6:h k6=some ⟨true,6,[Xn md]⟩)(L:I9 t k11 h n)(B:Kn 0 4 (acc.map Km) v h n)(hw:W5 md.System.Rows<=1048576)(hl:acc.length<=3000000)
 (hK:∀s' h' n',(∀j∈[1,2,4,5,6,8,10],s' j=s j)->n<=n'->(∀id z rows,id<n->h id=some ⟨true,z,rows⟩->h' id=h id)->Kn 0 4 ((acc++[(⟨md.System,t⟩:X5)]).map Km) (s' 3) h' n'->Ju prog ks .normal s' h' n' Q):rC prog Jw3 ks s h n Q:=by
 obtain⟨q,hkn,hqn,hkb,hqb⟩:=L;have ne:¬q=n/\¬n=q/\¬n=n+1/\¬n+1=n/\¬n+1=q/\¬q=n+1:=by omega
 have fr:∀id,id<n->¬id=n/\¬id=n+1/\¬id=n+1+1:=by intro id _;omega
 have hqv:∀l,v ≠ .ref q 0 l:=λl e=>by have:=(B.lt e).2.2.1;rw[hqb]at this;simp at this
 simp[Jw3,s3,s6,s11,e6,hkb];refine Jw (Jdl md.System hw) (by simp) ?_;rintro r rfl;simp[Wb,hqb,ne];refine Vw (rows:=acc.map Km) (rows2:=[[.int .i64 md.System.N,.us 2 (md.System.Rows.map J9),.int .i64 t.Const,.us 1 (Jg t.Coeffs)]]) (B.keep (n':=n+1+1) (by omega) λid _ hid e=>?_) (by simp) (λl e=>by have:=(B.lt e).2.1;omega) (by omega) (by simp;unfold Jb;omega) ?_
 ·have:¬id=q:=λe'=>hqv _ (by rw[<-e'];exact e)
  simp[fr id hid,this]
 intro h1 f1 f2;simp;refine hK _ _ _ (by simp) (by omega) ?_ ?_
 ·intro id z rows h1' h3';have:¬id=q:=by rintro rfl;rw[hqb]at h3';simp at h3'
  rw[f2 id (by omega) (by omega) λl e=>B.not_box h3' e];simp[fr id h1',this]
 ·simp;exact .inr ⟨n+2,by omega,by omega,by simp,by simp[f1,Km]⟩
theorem Jhd{p:Jq}(hp:Ks p<=1048576){i x y:Nat}(hi:i<(Yi p).length)(he:(Yi p)[i]=⟨x,y⟩)(s1:s 1 = .ptr 0 0 0)(s4:s 4 = .sl 2 ((Yi p).map U2))(s5:s 5 = .int .i64 i)(e0:h 0=some ⟨true,2,[Jh p]⟩)
 (hK:∀s' h' ,(∀j∈[1,2,3,4,5],s' j=s j)->s' 6 = .ptr n 0 0->h' n=some ⟨true,6,[Xn (V6 p ⟨x,y⟩)]⟩->(∀id,id<n->h' id=h id)->Ju prog ks .normal s' h' (n+1) Q):rC prog Jwi ks s h n Q:=by
 have hmd:(Ie p x).getD Og=V6 p ⟨x,y⟩:=rfl;simp[Jwi,s1,s4,s5,e0,hi,he,U2];have fr:∀id,id<n->¬id=n:=by intro id _;omega
 constructor
 ·refine D5 (J4k p hp x) (by simp) ?_;rintro _ rfl;unfold H4;rw[hmd];generalize V6 p ⟨x,y⟩=md at *;simp;exact hK _ _ (by simp) (by simp) (by simp) λid hid=>by simp[fr id hid]
 ·refine D5 (J4k p hp x) (by simp) ?_;rintro _ rfl;unfold H4;rw[hmd];generalize V6 p ⟨x,y⟩=md at *;simp;exact hK _ _ (by simp) (by simp) (by simp) λid hid=>by simp[fr id hid]
theorem Jhv{p:Jq}(hp:Ks p<=1048576){i x y:Nat}(hi:i<(Yi p).length)(he:(Yi p)[i]=⟨x,y⟩)(hx:x<p.Rules.length)(hy:y<(p.Rules[x]).Calls.length)(s1:s 1 = .ptr 0 0 0)(s4:s 4 = .sl 2 ((Yi p).map U2))(s5:s 5 = .int .i64 i)(e0:h 0=some ⟨true,2,[Jh p]⟩)
 (hK:∀s' h' ,(∀j∈[1,2,3,4,5,6],s' j=s j)->s' 8 = .ptr n 0 0->h' n=some ⟨true,4,[K5 ((Kw p.Functions ((p.Rules[x]).Calls[y]).Func).getD Yf)]⟩->(∀id,id<n->h' id=h id)->Ju prog ks .normal s' h' (n+1) Q):rC prog Jw6 ks s h n Q:=by
 have fr:∀id,id<n->¬id=n:=by intro id _;omega
 simp[Jw6,s1,s4,s5,e0,hi,he];constructor
 ·skip;refine Jw (Jaj p hx hy) (by simp[Jh]) ?_;rintro r rfl;generalize((p.Rules[x]).Calls[y]).Func=nm at *;simp;constructor
  ·refine D5 (Ej p nm hp) (by simp) ?_;rintro _ rfl;unfold Q7;generalize(Kw p.Functions nm).getD Yf=g at *;simp;exact hK _ _ (by simp) (by simp) (by simp) λid hid=>by simp[fr id hid]
  ·refine D5 (Ej p nm hp) (by simp) ?_;rintro _ rfl;unfold Q7;generalize(Kw p.Functions nm).getD Yf=g at *;simp;exact hK _ _ (by simp) (by simp) (by simp) λid hid=>by simp[fr id hid]
 ·skip;refine Jw (Jaj p hx hy) (by simp[Jh]) ?_;rintro r rfl;generalize((p.Rules[x]).Calls[y]).Func=nm at *;simp
  ·refine D5 (Ej p nm hp) (by simp) ?_;rintro _ rfl;unfold Q7;generalize(Kw p.Functions nm).getD Yf=g at *;simp;exact hK _ _ (by simp) (by simp) (by simp) λid hid=>by simp[fr id hid]
theorem Jgv{md:X9}{l:Jc}{g:K3}{el:List Yl}{i j k6 k8:Nat}(hi:i<el.length)(hj:j<g.Pre.length)(s4:s 4 = .sl 2 (el.map U2))(s5:s 5 = .int .i64 i)(s6:s 6 = .ptr k6 0 0)(s8:s 8 = .ptr k8 0 0)(s10:s 10 = .int .i64 j)(e6:h k6=some ⟨true,6,[Xn md]⟩)(e8:h k8=some ⟨true,4,[K5 g]⟩)(hl:g.Pre[j]=l)
 (hK:∀s' h' n',(∀j∈[1,2,3,4,5,6,8,10],s' j=s j)->n<=n'->s' 12 = .bool (Yr md l (el[i]).Call).isSome->(∃k,s' 11 = .ptr k 0 0/\n<=k/\I9 ((Yr md l (el[i]).Call).getD Jl) k h' n')->(∀id,id<n->h' id=h id)->Ju prog ks .normal s' h' n' Q):rC prog Jwc ks s h n Q:=by
 have fr:∀id,id<n->¬id=n/\¬id=n+1:=by intro id _;omega
 have ne:¬n=n+1/\¬n+1=n:=by omega
 subst hl;simp[Jwc,s4,s5,s6,s8,s10,e6,e8,hi,hj,U2,K5];generalize el[i]=e at *;constructor
 ·skip;refine Jw (N3 md (g.Pre[j]'hj) e.Call) (by simp) ?_;rintro r rfl;rw[Xd];generalize(Yr md g.Pre[j] e.Call).getD Jl=t at *;generalize(Yr md g.Pre[j] e.Call).isSome=b at *;simp[J9];exact hK _ _ _ (by simp) (by omega) (by simp) ⟨n+1,by simp,by omega,n,by omega,by omega,by simp,by simp⟩ λid hid=>by simp[fr id hid]
 ·skip;refine Jw (N3 md (g.Pre[j]'hj) e.Call) (by simp) ?_;rintro r rfl;rw[Xd];generalize(Yr md g.Pre[j] e.Call).getD Jl=t at *;generalize(Yr md g.Pre[j] e.Call).isSome=b at *;simp[J9];exact hK _ _ _ (by simp) (by omega) (by simp) ⟨n,by simp,by omega,n+1,by omega,by omega,by simp,by simp⟩ λid hid=>by simp[fr id hid]
theorem Jkv{md:X9}{el:List Yl}{i:Nat}{g:K3}{acc0 T:List X5}{k6 k8:Nat}{pr:List (List AV)}(hi:i<el.length)(s1:s 1 = .ptr 0 0 0)(s4:s 4 = .sl 2 (el.map U2))(s5:s 5 = .int .i64 i)(s6:s 6 = .ptr k6 0 0)(s8:s 8 = .ptr k8 0 0)(hk6:k6<n)(hk8:k8<n)(hk0:0<n)(e0:h 0=some ⟨true,2,pr⟩)(e6:h k6=some ⟨true,6,[Xn md]⟩)(e8:h k8=some ⟨true,4,[K5 g]⟩)
 (B:Kn 0 4 (acc0.map Km) (s 3) h n) (hw:W5 md.System.Rows<=1048576) (hT:acc0++g.Pre.map (λl=>Oq md l (el[i]).Call)=T) (hTl:T.length<=2097152) (hgl:g.Pre.length<=1048576)
 (hK:∀s' h' n',(∀j∈[1,2,4,5],s' j=s j)->0<n'->h' 0=some ⟨true,2,pr⟩->Kn 0 4 (T.map Km) (s' 3) h' n'->Ju prog ks .normal s' h' n' Q):rC prog Tz ks s h n Q:=by
 simp[Tz]
 refine Ki [1,2,4,5,6,8] 10 g.Pre.length (λj s h m=>k6<m/\k8<m/\0<m/\h 0=some ⟨true,2,pr⟩/\h k8=some ⟨true,4,[K5 g]⟩/\h k6=some ⟨true,6,[Xn md]⟩/\∃acc,Kn 0 4 (acc.map Km) (s 3) h m/\acc++(g.Pre.drop j).map (λl=>Oq md l (el[i]).Call)=T) (by unfold Jb;omega) (by simp)
  ⟨hk6,hk8,hk0,e0,e8,e6,acc0,by simpa using B,by simpa using hT⟩ ?_ ?_
 ·rintro j st h m R hj hg hk s10 hw' ⟨m6,m8,m0,e0,e8,e6,acc,B,hJ⟩ hR _ _;simp at hk;rw[List.drop_eq_getElem_cons hj,List.map_cons]at hJ;have hal:=congrArg List.length hJ;simp at hal;refine Jn (Js [1,2,3,4,5,6,8,10] (λs=>s 47 = .bool true) (by simp[hk,s8,s10,e8,K5,hj]) ?_);intro Jv hk1 s47;simp at hk1;refine Uh s47 (Jn (Xg ?_));generalize hl:g.Pre[j]=l at *;refine Jn (Jgv (md:=md) (l:=l) (g:=g) (el:=el) (i:=i) (j:=j) (k6:=k6) (k8:=k8) hi hj (by simp[hk1,hk,s4]) (by simp[hk1,hk,s5]) (by simp[hk1,hk,s6]) (by simp[hk1,hk,s8]) (by simp[hk1,s10]) e6 e8 hl ?_);rintro Kl h3 n3 hk3 hn3 s12 ⟨k11,s11,hk11,q,y1,y2,y3,y4⟩ hfr3;simp at hk3;generalize(el[i]).Call=cl at *;have z6:Kl 6 = .ptr k6 0 0:=by simp[hk3,hk1,hk,s6]
  have d6:=hfr3 k6 m6;rw[e6]at d6;refine Ua (Xo [1,2,3,4,5,6,8,10,11] (λs h4 n4=>n3<=n4/\I9 ((Yr md l cl).getD (Jo (-1) md.System.N)) k11 h4 n4/\∀id,id<m->h4 id=h id) ?_ ?_)
  ·cases ht:Yr md l cl with
   |some t=>
    rw[ht]at s12 y3 y4;simp[s12]
    exact⟨⟨q,y1,y2,y3,y4⟩,hfr3⟩
   |none=>
    rw[ht]at s12;simp only[Option.isSome_none]at s12;have nk:¬k11=n3/\¬n3=k11:=by omega
    simp[s12,z6,d6,Xn];refine Jd (O4 (-1) md.System.N) (by simp) ?_;rintro r rfl;generalize Jo (-1) md.System.N=t;simp[J9,s11,nk,y3];refine⟨⟨n3,by omega,by omega,by simp,by simp[nk]⟩,λid hid=>?_⟩;have:¬id=k11/\¬id=n3:=by omega
    simp[this,hfr3 id hid]
  rintro st4 h4 n4 hk4 ⟨hn4,L4,hfr4⟩;simp at hk4;have B4:Kn 0 4 (acc.map Km) (st 3) h4 n4:=B.keep (by omega) λid _ hid _=>hfr4 id hid
  refine Jh9 (md:=md) (t:=(Yr md l cl).getD (Jo (-1) md.System.N)) (acc:=acc) (v:=st 3) (k6:=k6) (k11:=k11) (by simp[hk4,hk3,hk1]) (by simp[hk4,z6]) (by simp[hk4,s11]) (by rw[hfr4 k6 m6,e6]) L4 B4 hw (by omega) ?_;intro Ur h5 n5 hk5 hn5 bx5 B5;simp at hk5;simp[hk5,hk4,hk3,hk1,s10,hw'];have f0:=hfr4 0 m0;have f8:=hfr4 k8 m8;have f6:=hfr4 k6 m6;rw[e0]at f0;rw[e8]at f8;rw[e6]at f6;refine hR _ _ _ (by simp[hk5,hk4,hk3,hk1,hk]) (by simp) ⟨by omega,by omega,by omega,by rw[bx5 0 _ _ (by omega) f0,f0],by rw[bx5 k8 _ _ (by omega) f8,f8],by rw[bx5 k6 _ _ (by omega) f6,f6],acc++[Oq md l cl],?_,by simpa using hJ⟩;simp;simpa[Oq]using B5
 ·rintro st h m R hk s10 ⟨m6,m8,m0,e0,e8,e6,acc,B,hJ⟩ _ hX;simp at hk;rw[drop_eq_nil_of_le (by omega)]at hJ;simp at hJ;subst hJ;refine Jn (Js [1,2,3,4,5] (λs=>s 47 = .bool false) (by simp[hk,s8,s10,e8,K5]) ?_);intro Jv hk1 s47;simp at hk1;refine U3 s47 ?_;refine hX _ _ _ _ ?_;simp;refine hK _ _ _ (by simp[hk1,hk]) m0 e0 ?_;rw[hk1.2.2.1];exact B
end
theorem J1u(p:Jq)(hp:Ks p<=1048576):Holds prog 92 [.agg (Jh p)] (λx=>x = .us 4 ((Qx p).map Km)):=by
 have hTl:=Cm p hp;have hel:=J0m p hp;refine Jp Tryz.func92 a92_ok rfl (by simp[a92]) ?_;simp[a92,qo0,qo1,qo2,Jh];refine Cw (Jaz p hp) (by simp[Jh]) ?_;rintro _ rfl;simp[qo3];unfold Qx at hTl⊢;generalize hT:(Yi p).flatMap (O8 p)=T at *;refine Ki [1,4] 5 (Yi p).length (λi s h m=>0<m/\h 0=some ⟨true,2,[Jh p]⟩/\∃acc,Kn 0 4 (acc.map Km) (s 3) h m/\acc++((Yi p).drop i).flatMap (O8 p)=T) (by unfold Jb;omega) (by simp) ⟨by simp,by simp[Jh],[],.inr ⟨1,by omega,by omega,by simp,by simp⟩,by simpa using hT⟩ ?_ ?_
 ·rintro i st h m R hi hg hk s5 hw' ⟨m0,e0,acc,B,hJ⟩ hR _ _;simp at hk;have hpo:=Jc9 hi;rw[List.drop_eq_getElem_cons hi,List.flatMap_cons]at hJ;obtain⟨x,y,hx,hy,he,hf,ht0⟩:=J4h hi;rw[<-List.append_assoc]at hJ;generalize hrest:List.flatMap (O8 p) (List.drop (i+1) (Yi p))=rest at hJ;have hal:=congrArg List.length hJ;simp only[length_append]at hal;refine Jn (Js [1,3,4,5] (λs=>s 19 = .bool true) (by simp[hk,s5,hi]) ?_);intro Jv hk1 s19;simp at hk1;refine Uh s19 (Jn (Xg ?_));have hedge:(O8 p (Yi p)[i])=((Gq p ⟨x,y⟩).map λl=>Oq (V6 p ⟨x,y⟩) l (y:Int)):=by rw[he];rfl
  rw[hedge]at hJ hal;have hpa:Gq p ⟨x,y⟩=((Kw p.Functions ((p.Rules[x]).Calls[y]).Func).getD Yf).Pre:=by unfold Gq;rw[ht0]
  have hgl:(Gq p ⟨x,y⟩).length<=1048576:=by
   rw[hpa]
   cases hfn:Kw p.Functions ((p.Rules[x]).Calls[y]).Func with
   |none=>simp[Yf]
   |some g=>have:=(Es hpo hfn).2.2.2;simp only[Option.getD_some];omega
  have hmsz:=Jct hpo (k:=y) hx;have hcall:((Yi p)[i]).Call=(y:Int):=by rw[he]
  refine Jn (Jhd hp hi he (by simp[hk1,hk]) (by simp[hk1,hk]) (by simp[hk1,s5]) e0 ?_);intro st2 h2 hk2 s6 em hfr2;simp at hk2;refine Ua (Jn (Jhv hp hi he hx hy (by simp[hk2,hk1,hk]) (by simp[hk2,hk1,hk]) (by simp[hk2,hk1,s5]) (by rw[hfr2 0 m0,e0]) ?_));intro Kl h3 hk3 s8 e8 hfr3;simp at hk3;refine Ua (Jkv (md:=V6 p ⟨x,y⟩) (el:=Yi p) (i:=i) (g:=(Kw p.Functions ((p.Rules[x]).Calls[y]).Func).getD Yf) (acc0:=acc) (T:=acc++(Gq p ⟨x,y⟩).map λl=>Oq (V6 p ⟨x,y⟩) l (y:Int)) (k6:=m) (k8:=m+1) (pr:=[Jh p]) hi (by simp[hk3,hk2,hk1,hk]) (by simp[hk3,hk2,hk1,hk]) (by simp[hk3,hk2,hk1,s5]) (by simp[hk3,s6]) s8 (by omega) (by omega) (by omega) (by rw[hfr3 0 (by omega),hfr2 0 m0,e0]) (by rw[hfr3 m (by omega),em]) e8 ?_ (by omega) (by rw[hpa,hcall]) (by simp only[length_append];omega) (by rw[<-hpa];exact hgl) ?_)
  ·have:Kl 3=st 3:=by simp[hk3,hk2,hk1]
   rw[this];exact B.keep (by omega) λid _ hid _=>by rw[hfr3 id (by omega),hfr2 id hid]
  intro st6 h6 n6 hk6 hn6 e06 B6;simp at hk6;simp[hk6,hk3,hk2,hk1,s5,hw'];refine hR _ _ _ (by simp[hk6,hk3,hk2,hk1,hk]) (by simp) ⟨by omega,e06,_,?_,by rw[hrest];exact hJ⟩;simp only[Cn (show ¬3=5 by omega),Cn (show ¬3=20 by omega),Cn (show ¬3=21 by omega)];exact B6
 ·rintro st h m R hk s5 ⟨m0,e0,acc,B,hJ⟩ _ hX;simp at hk;rw[drop_eq_nil_of_le (by omega)]at hJ;simp at hJ;subst hJ;refine Jn (Js [3] (λs=>s 19 = .bool false) (by simp[hk,s5]) ?_);intro Jv hk1 s19;simp at hk1;refine U3 s19 ?_;refine hX _ _ _ _ ?_;obtain⟨h2,d1,_⟩:=B.dt;simp[qo4,hk1,-dt,-Wq,d1]
theorem Jld{p:Jq} : (Yi p).length<=16:=by
 unfold Yi;split
 ·rename_i hp
  have hf:p.Rules.length<=8/\∀r∈p.Rules,r.Calls.length<=2:=by
   refine⟨?_,λr hr=>?_⟩
   ·unfold Ym at hp;simp only[Bool.and_eq_true,decide_eq_true_eq]at hp;exact hp.1.2
   ·obtain⟨f,_,R⟩:=Eu hp hr;exact R.ncalls
  have key:∀(l:List Jy) (i:Nat),(∀r∈l,r.Calls.length<=2)->(Qp i l).length<=2*l.length:=by
   intro l
   induction l with
   |nil=>intro i _;simp[Qp]
   |cons r l ih=>
    intro i h;have h1:=ih (i+1) λx hx=>h x (List.mem_cons_of_mem _ hx)
    have h2:=h r List.mem_cons_self;have h3:(Oj i r).length=r.Calls.length:=by simp[Oj]
    simp only[Qp,length_append,List.length_cons,h3];omega
  have:=key p.Rules 0 hf.2;unfold B8;omega
 ·simp
theorem Jg3(md:X9)(l:Jc)(c:Int)(n:Int):((Yr md l c).getD (Jo (-1) n)).Coeffs.length<=8:=by
 cases h:Yr md l c with
 |none=>exact Cl _ _
 |some t=>
  have:=Jgl md l c;rw[h]at this;unfold En at this;rw[Ds]at this;exact this
theorem Jev{p:Jq}(h1:Ym p=true){i k:Nat}(hi:i<p.Rules.length):(V6 p ⟨i,k⟩).System.Rows.length<=10/\∀l∈(V6 p ⟨i,k⟩).System.Rows,l.Coeffs.length<=8:=by
 obtain⟨f,hf,R⟩:=Eu h1 (getElem_mem hi);have hg:p.Rules.getD (i:Int).toNat Er=p.Rules[i]:=by simp[hi]
 have hin:K9 (i:Int) 0 ((p.Rules.length:Int) - 1)=true:=by simp[K9];omega
 have hfa:Im p p.Rules[i]=f:=by unfold Im;rw[hf];rfl
 have:V6 p ⟨i,k⟩=Vf p.Rules[i] f:=by unfold V6 Ie;simp only[h1,hin,hg,hfa,Bool.and_self,if_true,Option.getD_some]
 rw[this];obtain⟨q1,q2,_⟩:=J69 h1 R;exact⟨q1,q2⟩
theorem J8x(p:Jq):(Qx p).length<=32/\∀o∈Qx p,J0d o<=100:=by
 have h1:=Jld (p:=p)
 have h2:∀l:List Yl,(∀e∈l,(O8 p e).length<=2)->(l.flatMap (O8 p)).length<=2*l.length:=by
  intro l
  induction l with
  |nil=>intro _;simp
  |cons e l ih=>
   intro h;have g1:=ih λx hx=>h x (List.mem_cons_of_mem _ hx)
   have g2:=h e List.mem_cons_self;simp only[List.flatMap_cons,length_append,List.length_cons];omega
 have hok:∀e∈Yi p,Ym p=true:=λe he=>by
  unfold Yi at he;split at he
  ·assumption
  ·cases he
 refine⟨?_,?_⟩
 ·have h3:=h2 (Yi p) λe he=>by
   simp only[O8,List.length_map,Gq]
   cases hf:Kw p.Functions (Fp p e)with
   |none=>simp[Yf]
   |some g=>exact(Es (hok e he) hf).2.2.2
  unfold Qx;omega
 ·intro o ho;unfold Qx at ho;obtain⟨e,he,ho⟩:=List.mem_flatMap.1 ho;have hpo:=hok e he;obtain⟨l,_,rfl⟩:=List.mem_map.1 ho;have he':e∈B8 p:=by unfold Yi at he;rw[hpo]at he;exact he
  obtain⟨i,k,hi,hk,rfl⟩:=J1r he';obtain⟨q1,q2⟩:=Jev hpo (k:=k) hi;have q3:=Jg3 (V6 p ⟨i,k⟩) l (k:Int) (V6 p ⟨i,k⟩).System.N;have q4:=Jfq _ q2;show J0d (Oq (V6 p ⟨i,k⟩) l (k:Int))<=100
  unfold J0d Oq;simp only[Ds];omega
def a80:Jk:= ⟨12,[.t 4],(Zq [Zi 4 0] (Zq [Zv 5 1,Zv 6 0,Zn 7 6,Zb 8 .sub 5 7,Zv 1 8] (.seq (Zq [Zv 9 1,Zk 10 .lss 9 0] (.cond (.t 10) (Zq [Zi 4 (-1)] .ret) .skip)) (Zq [Zv 11 1,Zv 4 11] .ret))))⟩
theorem a80_ok:Jf prog Tryz.f80=some a80:=by kernel_rfl
def a83:Jk:= ⟨22,[.t 2],(Zq [Zo 2 (.mv (.k (.nil 1)))] (Zq [Zv 5 0,Zn 6 5,Zo 7 (.mks 8 [(.int .i64 0)] (.t 6) (.t 6)),Zv 3 7] (.seq (Zq [Zi 4 0] (.blk 0 (.loop (.seq (Zq [Zv 8 4,Zv 9 0,Zn 10 9,Zb 11 .lss 8 10] (Zw 11 0)) (.seq (.blk 1 (.reg [Zv 14 3,Zv 15 4,Zv 16 0,Zv 17 4,Zx 18 1 16 17,Zl 19 false 1 18,Zx 20 1 14 15,⟨no,.st 1 (.t 20) (.t 19),no⟩])) (.reg [Zv 12 4,Zk 13 .add 12 1,Zv 4 13])))))) (Zq [Zv 21 3,Zv 2 21] .ret))))⟩
theorem a83_ok:Jf prog Tryz.f83=some a83:=by kernel_rfl
def a87:Jk:= ⟨26,[.t 4],(Zq [Zt 4 false] (.seq (Zq [Zv 6 0,Zn 7 6,Zv 8 1,Zn 9 8,Zb 10 .neq 7 9] (.cond (.t 10) (Zq [Zt 4 false] .ret) .skip)) (.seq (Zq [Zi 5 0] (.blk 0 (.loop (.seq (Zq [Zv 11 5,Zv 12 0,Zn 13 12,Zb 14 .lss 11 13] (Zw 14 0)) (.seq (.blk 1 (.seq (.draw (.op (Zv 17 0) (.op (Zv 18 5) (.op (Zx 19 1 17 18) (.op (Zl 20 false 1 19) (.op (Zv 21 1) (.op (Zv 22 5) (.op (Zx 23 1 21 22) (.op (Zl 24 false 1 23) (.op (Zb 25 .neq 20 24) .fin)))))))))) (.cond (.t 25) (Zq [Zt 4 false] .ret) .skip))) (.reg [Zv 15 5,Zk 16 .add 15 1,Zv 5 16])))))) (Zq [Zt 4 true] .ret))))⟩
theorem a87_ok:Jf prog Tryz.f87=some a87:=by kernel_rfl
def a211:Jk:= ⟨28,[.t 4],(Zq [Zi 4 0] (Zq [Zv 6 1,Zv 7 0,Zn 8 7,Zb 9 .sub 6 8,Zv 1 9] (.seq (Zq [Zv 10 1,Zk 11 .lss 10 0] (.cond (.t 11) (Zq [Zi 4 (-1)] .ret) .skip)) (.seq (Zq [Zi 5 0] (.blk 0 (.loop (.seq (Zq [Zv 12 5,Zv 13 0,Zn 14 13,Zb 15 .lss 12 14] (Zw 15 0)) (.seq (.blk 1 (Zq [Zv 18 1,Zv 19 0,Zv 20 5,Zx 21 1 19 20,Zl 22 false 1 21,Zo 23 (.len true (.t 22)),Zb 24 .sub 18 23,Zv 1 24] (Zq [Zv 25 1,Zk 26 .lss 25 0] (.cond (.t 26) (Zq [Zi 4 (-1)] .ret) .skip)))) (.reg [Zv 16 5,Zk 17 .add 16 1,Zv 5 17])))))) (Zq [Zv 27 1,Zv 4 27] .ret)))))⟩
theorem a211_ok:Jf prog Tryz.f211=some a211:=by kernel_rfl
def a225:Jk:= ⟨22,[.t 2],(Zq [Zo 2 (.mv (.k (.nil 1)))] (Zq [Zv 5 0,Zn 6 5,Zo 7 (.mks 16 [(.str [])] (.t 6) (.t 6)),Zv 3 7] (.seq (Zq [Zi 4 0] (.blk 0 (.loop (.seq (Zq [Zv 8 4,Zv 9 0,Zn 10 9,Zb 11 .lss 8 10] (Zw 11 0)) (.seq (.blk 1 (.reg [Zv 14 3,Zv 15 4,Zv 16 0,Zv 17 4,Zx 18 1 16 17,Zl 19 false 1 18,Zx 20 1 14 15,⟨no,.st 1 (.t 20) (.t 19),no⟩])) (.reg [Zv 12 4,Zk 13 .add 12 1,Zv 4 13])))))) (Zq [Zv 21 3,Zv 2 21] .ret))))⟩
theorem a225_ok:Jf prog Tryz.f225=some a225:=by kernel_rfl
def a73:Jk:= ⟨26,[.t 4],(Zq [Zt 4 false] (.seq (Zq [Zv 6 0,Zn 7 6,Zv 8 1,Zn 9 8,Zb 10 .neq 7 9] (.cond (.t 10) (Zq [Zt 4 false] .ret) .skip)) (.seq (Zq [Zi 5 0] (.blk 0 (.loop (.seq (Zq [Zv 11 5,Zv 12 0,Zn 13 12,Zb 14 .lss 11 13] (Zw 14 0)) (.seq (.blk 1 (.seq (.draw (.op (Zv 17 0) (.op (Zv 18 5) (.op (Zx 19 1 17 18) (.op (Zl 20 false 1 19) (.op (Zv 21 1) (.op (Zv 22 5) (.op (Zx 23 1 21 22) (.op (Zl 24 false 1 23) (.op (Zb 25 .neq 20 24) .fin)))))))))) (.cond (.t 25) (Zq [Zt 4 false] .ret) .skip))) (.reg [Zv 15 5,Zk 16 .add 15 1,Zv 5 16])))))) (Zq [Zt 4 true] .ret))))⟩
theorem a73_ok:Jf prog Tryz.f73=some a73:=by kernel_rfl
def a21:Jk:= ⟨12,[.t 4],(Zq [ZB 2 0,Zi 4 0] (Zq [Zf 5 1 2,Zl 6 false 1 5,Zv 7 1,Zc 8 80 [.t 6,.t 7],Zv 1 8] (.seq (Zq [Zv 9 1,Zk 10 .lss 9 0] (.cond (.t 10) (Zq [Zi 4 (-1)] .ret) .skip)) (Zq [Zv 11 1,Zv 4 11] .ret))))⟩
theorem a21_ok:Jf prog Tryz.f21=some a21:=by kernel_rfl
def a23:Jk:= ⟨12,[(.c 2 true 2)],(Zq [ZB 1 0,Zo 2 (.box [(.int .i64 0),(.nil 1)])] (Zq [Zo 3 (.box [(.int .i64 0),(.nil 1)])] (Zq [Zf 4 0 1,Zl 5 false 1 4,Zf 6 0 3,⟨no,.st 1 (.t 6) (.t 5),no⟩] (Zq [Zf 7 1 1,Zl 8 false 1 7,Zc 9 83 [.t 8],Zf 10 1 3,⟨no,.st 1 (.t 10) (.t 9),no⟩] (Zq [Zl 11 true 2 3,⟨no,.st 2 (.t 2) (.t 11),no⟩] .ret)))))⟩
theorem a23_ok:Jf prog Tryz.f23=some a23:=by kernel_rfl
def a25:Jk:= ⟨16,[.t 4],(Zq [ZB 2 0,ZB 3 1,Zt 4 false] (.seq (Zq [Zf 5 0 2,Zl 6 false 1 5,Zf 7 0 3,Zl 8 false 1 7,Zb 9 .neq 6 8] (.cond (.t 9) (Zq [Zt 4 false] .ret) .skip)) (.seq (Zq [Zf 10 1 2,Zl 11 false 1 10,Zf 12 1 3,Zl 13 false 1 12,Zc 14 87 [.t 11,.t 13],ZN 15 14] (.cond (.t 15) (Zq [Zt 4 false] .ret) .skip)) (Zq [Zt 4 true] .ret))))⟩
theorem a25_ok:Jf prog Tryz.f25=some a25:=by kernel_rfl
def a116:Jk:= ⟨16,[.t 4],(Zq [ZB 2 0,ZB 3 1,Zt 4 false] (.seq (Zq [Zf 5 0 2,Zl 6 false 1 5,Zf 7 0 3,Zl 8 false 1 7,Zb 9 .neq 6 8] (.cond (.t 9) (Zq [Zt 4 false] .ret) .skip)) (.seq (Zq [Zf 10 1 2,Zl 11 false 1 10,Zf 12 1 3,Zl 13 false 1 12,Zc 14 87 [.t 11,.t 13],ZN 15 14] (.cond (.t 15) (Zq [Zt 4 false] .ret) .skip)) (Zq [Zt 4 true] .ret))))⟩
theorem a116_ok:Jf prog Tryz.f116=some a116:=by kernel_rfl
theorem Jgf(l:List Int)(left:Int)(h0:0<=left/\left<=4611686018427387904):Holds prog 80 [.sl 1 (Jg l),i64 left] (λr=>r=i64 (Ku left (Em l))):=by refine Jp Tryz.func80 a80_ok rfl (by simp[a80]) ?_;simp[a80];unfold Jb;intro h1;rw[Kk (by omega)];unfold Ku Em;exact⟨λh=>by rw[if_pos h],λh=>by rw[if_neg (by omega)]⟩
theorem Jgk(a:List Int)(hw:Em a<=1048576):Holds prog 83 [.sl 1 (Jg a)] (λr=>r = .us 1 (Jg a)):=by
 unfold Em at hw;refine Jp Tryz.func83 a83_ok rfl (by simp[a83]) ?_;simp[a83];intro h1
 refine⟨by unfold Jb;omega,Oe (λk s h n=>∃(i:Nat) (rows:List (List AV)),k=a.length - i/\i<=a.length/\s 0=Mr a/\s 3 = .ref 0 0 a.length/\s 4=i64 i/\h=upd Ga 0 (some ⟨false,1,rows⟩)/\n=1 /\
  rows.length=a.length/\(∀j,j<i->rows[j]? = (Jg a)[j]?)/\(∀j (hj:j<rows.length),rows[j].length=1)) a.length ⟨0,List.replicate a.length [i64 0],by simp⟩ ?_⟩
 rintro k s h n ⟨i,rows,rfl,hi,s0,s3,s4,rfl,rfl,hr,hj,hc⟩;by_cases hlt:i<a.length
 ·have hm:=hc i (by omega);have htl:rows[i].tail=[]:=List.eq_nil_of_length_eq_zero (by simp[hm]);simp[s0,s3,s4,hlt,hr,hm];intro _;refine⟨a.length - (i+1),by omega,i+1,rfl,by omega,by rw[Kk (by omega)];rfl,rows.set i [i64 a[i]],by simp[htl],by simp[hr],λj hj'=>?_,λj hj'=>?_⟩
  ·rw[List.getElem?_set];by_cases hji:i=j
   ·subst hji;simp[hr,hlt]
   ·rw[if_neg hji];simpa using hj j (by omega)
  ·rw[List.getElem_set];split
   ·rfl
   ·exact hc j (by simpa using hj')
 ·simp[s0,s3,s4,hlt,hr];intro _
  have:rows=Jg a:=ext_getElem? λj=>by
   by_cases hji:j<i
   ·exact hj j hji
   ·rw[List.getElem?_eq_none (by omega),List.getElem?_eq_none (by simp;omega)]
  subst this;simp[List.take_of_length_le]
theorem Jab(a b:List Int):Holds prog 87 [.sl 1 (Jg a),.sl 1 (Jg b)] (λr=>r = .bool (decide (a=b))):=by
 refine Jp Tryz.func87 a87_ok rfl (by simp[a87]) ?_;simp[a87];intro h1 h2;refine⟨λh e=>h (by rw[e]),λhl=>Oe (λk s h n=>∃i:Nat,k=a.length - i/\i<=a.length/\s 0=Mr a/\s 1=Mr b/\s 5=i64 i/\(∀j,j<i->a[j]? = b[j]?)/\h=Ga/\n=0) a.length ⟨0,by simp⟩ ?_⟩;rintro k s h n ⟨i,rfl,hi,s0,s1,s5,hj,rfl,rfl⟩;have hl:a.length=b.length:=by omega
 by_cases hlt:i<a.length
 ·have hlt':i<b.length:=by omega
  unfold Jb at h1;simp[s0,s1,s5,hlt,hlt'];intro _;refine⟨λh e=>h (by subst e;rfl),λe=>⟨a.length - (i+1),by omega,i+1,rfl,by omega,by rw[Kk (by omega)];rfl,λj hj'=>?_⟩⟩;by_cases hji:j=i
  ·subst hji;simp[hlt,hlt',e]
  ·exact hj j (by omega)
 ·simp[s0,s1,s5,hlt];intro _;refine ext_getElem? λj=>?_
  by_cases hji:j<i
  ·exact hj j hji
  ·rw[List.getElem?_eq_none (by omega),List.getElem?_eq_none (by omega)]
theorem J81(l:List Je)(left:Int)(h0:0<=left/\left<=4611686018427387904):Holds prog 211 [.sl 1 (Ji l),i64 left] (λr=>r=i64 (Ku left (Ir l))):=by
 rw[show Ir l=wL List.length l from rfl,<-Dy (w:=List.length) (g:=λx lf=>Ku lf x.length) (λ_ _ _=>rfl) l left h0.1];refine Jp Tryz.func211 a211_ok rfl (by simp[a211]) ?_;simp[a211];intro h1;unfold Jb at h1;unfold E5;rw[Kk (by omega)];refine⟨λh=>by rw[if_pos (by omega)],λh=>Oe (λk s h n=>∃(i:Nat) (lf:Int),k=l.length - i/\i<=l.length/\s 0=strs l/\s 1=i64 lf/\s 5=i64 i/\0<=lf/\lf<=left/\Gk (λ(x:Je) lf=>Ku lf x.length) (l.drop i) lf=Gk (λ(x:Je) lf=>Ku lf x.length) l (left - l.length)/\h=Ga/\n=0) l.length ⟨0,left - l.length,by simp;omega⟩ ?_⟩;rintro k s h n ⟨i,lf,rfl,hi,s0,s1,s5,hf,hlf,hj,rfl,rfl⟩;rw[if_neg (by omega),<-hj];by_cases hlt:i<l.length
 ·rw[List.drop_eq_getElem_cons hlt]at hj⊢;simp only[Gk]at hj⊢;simp[s0,s1,s5,hlt];intro _ h2;unfold Jb at h2;rw[Kk (by omega)];by_cases hx:lf - (l[i].length:Int)<0
  ·rw[Ps hx];simp;exact λh=>by omega
  ·rw[J9n hx]at hj⊢;rw[if_neg hx]at hj⊢;refine⟨λh=>by omega,λ_=>⟨l.length - (i+1),by omega,i+1,rfl,by omega,by rw[Kk (by omega)];rfl,by omega,by omega,rfl⟩⟩
 ·rw[drop_eq_nil_of_le (by omega)]at hj⊢;simp[s0,s1,s5,hlt,Gk]
theorem J8y(a:List Je)(hw:Ir a<=1048576):Holds prog 225 [.sl 1 (Ji a)] (λr=>r = .us 1 (Ji a)):=by
 have hw:=Nat.le_trans (Yk _ _) hw;refine Jp Tryz.func225 a225_ok rfl (by simp[a225]) ?_;simp[a225];intro h1
 refine⟨by unfold Jb;omega,Oe (λk s h n=>∃(i:Nat) (rows:List (List AV)),k=a.length - i/\i<=a.length/\s 0=strs a/\s 3 = .ref 0 0 a.length/\s 4=i64 i/\h=upd Ga 0 (some ⟨false,1,rows⟩)/\n=1 /\
  rows.length=a.length/\(∀j,j<i->rows[j]? = (Ji a)[j]?)/\(∀j (hj:j<rows.length),rows[j].length=1)) a.length ⟨0,List.replicate a.length [.str []],by simp⟩ ?_⟩
 rintro k s h n ⟨i,rows,rfl,hi,s0,s3,s4,rfl,rfl,hr,hj,hc⟩;by_cases hlt:i<a.length
 ·have hm:=hc i (by omega);have htl:rows[i].tail=[]:=List.eq_nil_of_length_eq_zero (by simp[hm]);simp[s0,s3,s4,hlt,hr,hm];intro _;refine⟨a.length - (i+1),by omega,i+1,rfl,by omega,by rw[Kk (by omega)];rfl,rows.set i [.str a[i]],by simp[htl],by simp[hr],λj hj'=>?_,λj hj'=>?_⟩
  ·rw[List.getElem?_set];by_cases hji:i=j
   ·subst hji;simp[hr,hlt]
   ·rw[if_neg hji];simpa using hj j (by omega)
  ·rw[List.getElem_set];split
   ·rfl
   ·exact hc j (by simpa using hj')
 ·simp[s0,s3,s4,hlt,hr];intro _
  have:rows=Ji a:=ext_getElem? λj=>by
   by_cases hji:j<i
   ·exact hj j hji
   ·rw[List.getElem?_eq_none (by omega),List.getElem?_eq_none (by simp;omega)]
  subst this;simp[List.take_of_length_le]
theorem J8h(a b:List Je):Holds prog 73 [.sl 1 (Ji a),.sl 1 (Ji b)] (λr=>r = .bool (decide (a=b))):=by
 refine Jp Tryz.func73 a73_ok rfl (by simp[a73]) ?_;simp[a73];intro h1 h2;refine⟨λh e=>h (by rw[e]),λhl=>Oe (λk s h n=>∃i:Nat,k=a.length - i/\i<=a.length/\s 0=strs a/\s 1=strs b/\s 5=i64 i/\(∀j,j<i->a[j]? = b[j]?)/\h=Ga/\n=0) a.length ⟨0,by simp⟩ ?_⟩;rintro k s h n ⟨i,rfl,hi,s0,s1,s5,hj,rfl,rfl⟩;have hl:a.length=b.length:=by omega
 by_cases hlt:i<a.length
 ·have hlt':i<b.length:=by omega
  unfold Jb at h1;simp[s0,s1,s5,hlt,hlt'];intro _;refine⟨λh e=>h (by subst e;rfl),λe=>⟨a.length - (i+1),by omega,i+1,rfl,by omega,by rw[Kk (by omega)];rfl,λj hj'=>?_⟩⟩;by_cases hji:j=i
  ·subst hji;simp[hlt,hlt',e]
  ·exact hj j (by omega)
 ·simp[s0,s1,s5,hlt];intro _;refine ext_getElem? λj=>?_
  by_cases hji:j<i
  ·exact hj j hji
  ·rw[List.getElem?_eq_none (by omega),List.getElem?_eq_none (by omega)]
theorem Jlf(x:Jc)(left:Int)(h0:0<=left/\left<=4611686018427387904):Holds prog 21 [.agg (Ja x),i64 left] (λr=>r=i64 (Ku left (U9 x))):=by
 refine Jp Tryz.func21 a21_ok rfl (by simp[a21]) ?_;simp[a21,Ja];have e0:U9 x=U9 x:=rfl
 conv at e0=>rhs;unfold U9
 refine Jd (Jgf x.Coeffs left (by omega)) (by simp) ?_;rintro r rfl;by_cases h1:left - (Em x.Coeffs:Nat)<0
 case pos=>
  have q:left - (U9 x:Int)<0:=by omega
  simp[Ku,h1,q];try first|omega|(constructor <;>intros <;>omega)
 simp[Ku,h1];try(rw[if_neg (by omega)];omega)
theorem Jm0(x:Jc)(_hw:U9 x<=1048576):Holds prog 23 [.agg (Ja x)] (λr=>r = .agg (J9 x)):=by have hw:=_hw;unfold U9 at hw;refine Jp Tryz.func23 a23_ok rfl (by simp[a23]) ?_;simp[a23,Ja];refine Jd (Jgk x.Coeffs (by omega)) (by simp[]) ?_;rintro r rfl;simp[];try simp[J9]
theorem Jms(x y:Jc):Holds prog 25 [.agg (Ja x),.agg (Ja y)] (λr=>r = .bool (decide (x=y))):=by
 refine Jp Tryz.func25 a25_ok rfl (by simp[a25]) ?_;simp[a25,Ja];by_cases h0:x.Const=y.Const
 case neg=>simp[h0];try exact λe=>h0 (by rw[e])
 simp[h0];refine Jd (Jab x.Coeffs y.Coeffs) (by simp[]) ?_;rintro r rfl;by_cases h1:x.Coeffs=y.Coeffs
 case neg=>simp[h1];try exact λe=>h1 (by rw[e])
 simp[h1];cases x;cases y;simp_all
theorem a95_ok:Jf prog Tryz.f95=some (Bj true 2 21):=by kernel_rfl
theorem J9o(l:List Jc)(left:Int)(h0:0<=left/\left<=4611686018427387904):Holds prog 95 [.sl 2 (l.map Ja),i64 left] (λr=>r=i64 (Ku left (W5 l))):=by rw[show W5 l=wL U9 l from rfl,<-Dy (w:=U9) (g:=λx lf=>Ku lf (U9 x)) (λ_ _ _=>rfl) l left h0.1];exact Ey Tryz.func95 a95_ok rfl (rowOf:=Ja) (eltOf:=(λx=>.agg (Ja x))) (λx=>by simp[Ja]) (λx h=>by simp[Ja]) (λx lf h=>F4 h) l left h0 (λx lf _ hl=>Jlf x lf hl)
theorem a101_ok:Jf prog Tryz.f101=some (Bi true 2 32 23 [.int .i64 0,.nil 1]):=by kernel_rfl
theorem J97(l:List Jc)(hw:W5 l<=1048576):Holds prog 101 [.sl 2 (l.map Ja)] (λr=>r = .us 2 (l.map J9)):=
 Ef Tryz.func101 a101_ok rfl (rowOf:=Ja) (eltOf:=(λx=>.agg (Ja x))) (eltU:=(λx=>.agg (J9 x))) (λx=>by simp[Ja]) (λx h=>by simp[Ja]) (λx=>by simp) (λx=>by simp[J9]) (λx=>by simp[J9]) rfl l (by have:=Yk U9 l;unfold W5 at hw;unfold Jb;omega) (λx h=>Jm0 x (by have:=W6 (w:=U9) h;unfold W5 at hw;omega))
theorem a107_ok:Jf prog Tryz.f107=some (H6 true 2 25):=by kernel_rfl
theorem Ja0(l m:List Jc):Holds prog 107 [.sl 2 (l.map Ja),.sl 2 (m.map Ja)] (λr=>r = .bool (decide (l=m))):=by rw[<-Dg];exact E8 Tryz.func107 a107_ok rfl (rowOf:=Ja) (eltOf:=(λx=>.agg (Ja x))) (λx=>by simp[Ja]) (λx h=>by simp[Ja]) l m (λx y _ _=>Jms x y)
theorem Jbl(x y:Xz):Holds prog 116 [.agg (Up x),.agg (Up y)] (λr=>r = .bool (decide (x=y))):=by
 refine Jp Tryz.func116 a116_ok rfl (by simp[a116]) ?_;simp[a116,Up];by_cases h0:x.Scale=y.Scale
 case neg=>simp[h0];try exact λe=>h0 (by rw[e])
 simp[h0];refine Jd (Jab x.Mult y.Mult) (by simp[]) ?_;rintro r rfl;by_cases h1:x.Mult=y.Mult
 case neg=>simp[h1];try exact λe=>h1 (by rw[e])
 simp[h1];cases x;cases y;simp_all
theorem a43_ok:Jf prog Tryz.f43=some (H6 true 2 116):=by kernel_rfl
theorem Tg(l m:List Xz):Holds prog 43 [.sl 2 (l.map Up),.sl 2 (m.map Up)] (λr=>r = .bool (decide (l=m))):=by rw[<-Dg];exact E8 Tryz.func43 a43_ok rfl (rowOf:=Up) (eltOf:=(λx=>.agg (Up x))) (λx=>by simp[Up]) (λx h=>by simp[Up]) l m (λx y _ _=>Jbl x y)
end Go.Proofs.YtoclolkigjbcgaaGreat

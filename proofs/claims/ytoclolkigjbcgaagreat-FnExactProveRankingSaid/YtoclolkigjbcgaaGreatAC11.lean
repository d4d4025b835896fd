/- Contracts: copies of functions; the function of a name. -/
import Derived.Test.YtoclolkigjbcgaaGreatAC1
import Derived.Test.YtoclolkigjbcgaaGreatARE
namespace Go.Proofs.YtoclolkigjbcgaaGreat
open Tryz
open Tryz(prog)
open List(getElem_mem take_take drop_eq_getElem_cons drop_eq_nil_of_le length_append append_nil)
set_option maxRecDepth 40000
set_option maxHeartbeats 4000000
open Go Go.RowKit Go.Proofs
set_option linter.all false
theorem Js3:Jh prog f162=some (Bl true 4):=by kernel_rfl
def K6w:Jl:= ⟨8,[.t 2],(Zq [Zz 2 1] (.seq (Zq [Zv 3 0,Zo 4 (.inil false (.t 3))] (.cond (.t 4) (Zq [Zz 2 1] .ret) .skip)) (Zq [Zo 5 (.bsl 1 []),Zv 6 0,ZA 7 16 1 5 6,Zv 2 7] .ret)))⟩
theorem Jno:Jh prog f252=some K6w:=by kernel_rfl
def K76:Jl:= ⟨19,[.t 2],(Zq [Zz 2 2] (Zq [Zz 3 2] (.seq (Zq [Zv 6 0,Zn 7 6,Zi 8 0] (.blk 0 (.loop (Zq [Zb 9 .lss 8 7] (.seq (Zw 9 0) (.seq (.blk 1 (Zq [Zx 10 2 6 8,Zl 11 true 2 10,ZR 5,Zs 2 5 11] (.reg [Zv 12 3,Zl 13 true 2 5,Zc 14 86 [.t 13],ZS 15 2 14,ZA 16 32 2 12 15,Zv 3 16]))) (.reg [Zk 17 .add 8 1,Zv 8 17]))))))) (Zq [Zv 18 3,Zv 2 18] .ret))))⟩
theorem Jph:Jh prog f209=some K76:=by kernel_rfl
def K68:Jl:= ⟨14,[(.c 2 true 4)],(Zq [ZB 1 0,ZU 2] (.seq (.draw (.op (Zf 3 0 1) (.op (Zl 4 false 1 3) (.op (Zf 5 1 1) (.op (Zl 6 false 1 5) (.op (Zf 8 2 1) (.op (Zl 9 false 1 8) (.op (Zf 10 3 1) (.op (Zl 11 false 1 10) (.op (Zc 7 252 [.t 6]) (.op (Zc 12 209 [.t 11]) (.op (Zo 13 (.build [(.str []),(.nil 1),(.bool false),(.nil 2)] [(0,(1,(.t 4))),(1,(1,(.t 7))),(2,(1,(.t 9))),(3,(1,(.t 12)))])) (.hop (Zs 4 2 13) [] .fin))))))))))))) .ret))⟩
theorem Jn2:Jh prog f164=some K68:=by kernel_rfl
def K63:Jl:= ⟨8,[.t 3],(Zq [ZB 2 0,Zt 3 false] (Zq [Zf 4 0 2,Zl 5 false 1 4,Zl 6 false 1 1,Zb 7 .eql 5 6,Zv 3 7] .ret))⟩
theorem Jmc:Jh prog f163=some K63:=by kernel_rfl
def a84:Jl:= ⟨9,[.t 4],(Zq [ZB 2 0,ZB 3 1,Zi 4 0] (Zq [Zf 5 0 2,Zl 6 false 1 5,Zo 7 (.mkf (.func 163) [] [.t 3]),Zc 8 162 [.t 6,.t 7],Zv 4 8] .ret))⟩
theorem Jyf:Jh prog f84=some a84:=by kernel_rfl
def K7k:Jl:= ⟨19,[(.c 4 true 4),.t 5],(Zq [ZB 2 0,ZU 4,Zt 5 false] (Zq [Zl 7 true 2 2,Zv 8 1,Zc 9 84 [.t 7,.t 8],Zv 6 9] (.seq (Zq [Zv 10 6,Zk 11 .lss 10 0] (.cond (.t 11) (Zq [Zo 12 (.build [(.str []),(.nil 1),(.bool false),(.nil 2)] []),Zs 4 4 12,Zt 5 false] .ret) .skip)) (Zq [Zf 13 0 2,Zl 14 false 1 13,Zv 15 6,Zx 16 4 14 15,Zl 17 true 4 16,Zc 18 164 [.t 17],Zs 4 4 18,Zt 5 true] .ret))))⟩
theorem Js4:Jh prog f176=some K7k:=by kernel_rfl
def K4g:Jl:= ⟨33,[(.c 2 true 4)],(Zq [ZB 1 0,ZU 2] (.seq (.draw (.op (Zf 5 0 1) (.op (Zl 6 false 1 5) (.op (Zf 8 1 1) (.op (Zl 9 false 1 8) (.op (Zf 11 2 1) (.op (Zl 12 false 1 11) (.both (.hop (Zo 7 (.bsl 1 [])) [(.ld false 1 (.t 11)),(.fld 2 (.t 1)),(.ld false 1 (.t 8)),(.fld 1 (.t 1)),(.ld false 1 (.t 5)),(.fld 0 (.t 1))] (.both (.hop (ZA 10 16 1 7 9) [(.ld false 1 (.t 11)),(.fld 2 (.t 1)),(.ld false 1 (.t 5)),(.fld 0 (.t 1))] (.op (Zo 13 (.build [(.str []),(.nil 1),(.bool false),(.nil 2)] [(0,(1,(.t 6))),(1,(1,(.t 10))),(2,(1,(.t 12)))])) (.op (ZU 3) (.hop (Zs 4 3 13) [] .fin)))) (.op (ZU 3) (.hop (ZA 10 16 1 7 9) [(.ld false 1 (.t 11)),(.fld 2 (.t 1)),(.ld false 1 (.t 5)),(.fld 0 (.t 1))] (.op (Zo 13 (.build [(.str []),(.nil 1),(.bool false),(.nil 2)] [(0,(1,(.t 6))),(1,(1,(.t 10))),(2,(1,(.t 12)))])) (.hop (Zs 4 3 13) [] .fin)))))) (.op (ZU 3) (.hop (Zo 7 (.bsl 1 [])) [(.ld false 1 (.t 11)),(.fld 2 (.t 1)),(.ld false 1 (.t 8)),(.fld 1 (.t 1)),(.ld false 1 (.t 5)),(.fld 0 (.t 1))] (.hop (ZA 10 16 1 7 9) [(.ld false 1 (.t 11)),(.fld 2 (.t 1)),(.ld false 1 (.t 5)),(.fld 0 (.t 1))] (.op (Zo 13 (.build [(.str []),(.nil 1),(.bool false),(.nil 2)] [(0,(1,(.t 6))),(1,(1,(.t 10))),(2,(1,(.t 12)))])) (.hop (Zs 4 3 13) [] .fin))))))))))))) (.seq (Zq [Zi 4 0] (.blk 0 (.loop (.seq (Zq [Zv 14 4,Zf 15 3 1,Zl 16 false 1 15,Zn 17 16,Zb 18 .lss 14 17] (Zw 18 0)) (.seq (.blk 1 (.draw (.op (Zf 21 3 3) (.op (Zl 22 false 1 21) (.op (Zf 23 3 1) (.op (Zl 24 false 1 23) (.op (Zv 25 4) (.op (Zx 26 2 24 25) (.op (Zl 27 true 2 26) (.op (Zc 28 82 [.t 27]) (.hop (ZS 29 2 28) [(.ld false 1 (.t 21)),(.fld 3 (.t 3))] (.hop (ZA 30 32 2 22 29) [] (.op (Zf 31 3 3) (.hop (Zs 1 31 30) [] .fin)))))))))))))) (.reg [Zv 19 4,Zk 20 .add 19 1,Zv 4 20])))))) (Zq [Zl 32 true 4 3,Zs 4 2 32] .ret))))⟩
theorem Jry:Jh prog f160=some K4g:=by kernel_rfl
def K6y:Jl:= ⟨29,[(.c 4 true 4),.t 5],(Zq [ZB 2 0,ZU 4,Zt 5 false] (.seq (Zq [Zi 6 0] (.blk 0 (.loop (.seq (Zq [Zv 7 6,Zf 8 0 2,Zl 9 false 1 8,Zn 10 9,Zb 11 .lss 7 10] (Zw 11 0)) (.seq (.blk 1 (Zq [Zf 14 0 2,Zl 15 false 1 14,Zv 16 6,Zx 17 4 15 16,Zf 18 0 17,Zl 19 false 1 18,Zv 20 1,Zb 21 .eql 19 20] (.cond (.t 21) (Zq [Zf 22 0 2,Zl 23 false 1 22,Zv 24 6,Zx 25 4 23 24,Zl 26 true 4 25,Zc 27 160 [.t 26],Zs 4 4 27,Zt 5 true] .ret) .skip))) (.reg [Zv 12 6,Zk 13 .add 12 1,Zv 6 13])))))) (Zq [Zo 28 (.build [(.str []),(.nil 1),(.bool false),(.nil 2)] []),Zs 4 4 28,Zt 5 false] .ret)))⟩
theorem Jol:Jh prog f172=some K6y:=by kernel_rfl
theorem J56(l:List J9)(hl:l.length<=1048576):Holds prog 252 [.sl 1 (Jf l)] (λr=>r = .us 1 (Jf l)):=by refine Jp func252 Jno rfl (by simp[K6w]) ?_;simp[K6w];unfold Jd;omega
theorem J4j(l:List Jc)(hw:U9 l<=1048576):Holds prog 209 [.sl 2 (l.map Jb)] (λr=>r = .us 2 (l.map Ja)):=by
 have hlen:l.length<=1048576:=Nat.le_trans (Yn Uf l) hw;refine Jp func209 Jph rfl (by simp[K76]) ?_;simp[K76];intro hlm;refine Ka [6,7] 8 l.length (λi s h n=>(i=0/\s 3 = .nil 2)\/∃id,id<n/\s 3 = .ref id 0 i/\h id=some ⟨false,2,(l.map Ja).take i⟩) hlm (by simp) (by simp) ?_ ?_
 ·rintro i s h n R hi hg hk s8 hw8 hJ hR _ _;simp at hk
  have hwi:(l[i]).Coeffs.length<=1048576:=by have:=Wn (w:=Uf) (getElem_mem hi);unfold U9 at hw;rw[show Uf l[i]=(l[i]).Coeffs.length from rfl]at this;omega
  have htk:(l.map Ja).take (i+1)=(l.map Ja).take i++[Ja l[i]]:=by rw[List.take_succ_eq_append_getElem (by simpa using hi)];simp
  rcases hJ with ⟨rfl,s3⟩|⟨id,hid,s3,eid⟩
  ·simp[hk,s8,hi,s3,Jb];refine Je (N2 (l[0]'hi) hwi) (by simp[Jb]) ?_;rintro r rfl;simp[s8,Ja];refine⟨by unfold Jd;omega,?_⟩;exact hR _ _ _ (by simp[hk]) (by simp;exact Km (by omega)) (.inr ⟨n+3,by omega,by simp,by simp[htk,Ja]⟩)
  ·have n0:¬id=n:=by omega
   have n1:¬id=n+1:=by omega
   have n2:¬id=n+1+1:=by omega
   have n3:¬n+1+1=id:=by omega
   have n4:¬n+1=id:=by omega
   simp[hk,s8,hi,s3,Jb];refine Je (N2 (l[i]'hi) hwi) (by simp[Jb]) ?_;rintro r rfl;simp[s8,hw8,Ja,eid,n0,n1,n2,n3];refine⟨by omega,by unfold Jd;omega,?_⟩;exact hR _ _ _ (by simp[hk]) (by simp) (.inr ⟨n+3,by omega,by simp,by simp[htk,Ja,take_take]⟩)
 ·rintro s h n R hk s8 hJ hret hX;simp at hk;simp[hk,s8];refine hX _ _ _ _ ?_;rcases hJ with ⟨h0,s3⟩|⟨id,hid,s3,eid⟩
  ·have:l=[]:=List.eq_nil_of_length_eq_zero h0;subst this;simp[s3]
  ·simp[s3,eid]
theorem J4f(f:K3)(hw:Yr f<=1048576):Holds prog 164 [.agg (K5 f)] (λr=>r = .agg (Xr f)):=by
 have hw':=hw;unfold Yr at hw';have hl:f.Params.length<=1048576:=by have:=Yn List.length f.Params;unfold It at hw';omega
 refine Jp func164 Jn2 rfl (by simp[K68]) ?_;simp[K68,K5];refine Jx (J56 f.Params hl) (by simp) ?_;rintro r rfl;simp;refine Jx (J4j f.Pre (by omega)) (by simp) ?_;rintro r rfl;simp[Xr]
def Xc(l:List K3)(name:J9):Option K3:=l.find? λf=>f.Name==name
def Yt:K3:=⟨[],[],false,[]⟩
def Qz(o:Option K3):AV := .tup [.agg (Xr (o.getD Yt)),.bool o.isSome]
theorem J0d{α:Type}{p:α->Bool} : ∀{l:List α}{k:Nat},(l.find? p=Option.none/\Xi p l k = -1)\/∃j:Nat,∃hj:j<l.length,Xi p l k=(k:Int)+j/\l.find? p=some l[j]
 | [],k=>.inl ⟨rfl,rfl⟩
 |x::l,k=>by
  simp only[Xi];cases hp:p x
  ·simp only[Bool.false_eq_true,if_false,List.find?_cons,hp];rcases J0d (p:=p) (l:=l) (k:=k+1)with ⟨h1,h2⟩|⟨j,hj,h1,h2⟩
   ·exact .inl ⟨h1,h2⟩
   ·exact .inr ⟨j+1,by simp;omega,by rw[h1];omega,by simpa using h2⟩
  ·exact .inr ⟨0,by simp,by simp,by simp[hp]⟩
theorem J93{h:J8}{n id:Nat}{name:J9}(x:K3)(hv:h id=some ⟨true,1,[[.str name]]⟩)(hid:id<n):Dt prog 163 [] [.ptr id 0 0] h n (.agg (K5 x)) (.bool (x.Name==name)):=by
 intro K hK;refine Cr ?_;refine U8 func163 Jmc rfl (by simp[K63]) ?_;have n1:¬id=n:=by omega
 simp[K63,hv,n1,K5,Vk,hK];intro j hj hj';omega
theorem Cw(p:Jo)(name:J9):Holds prog 84 [.agg (Jg p),.str name] (λr=>r=i64 (Xi (λf=>f.Name==name) p.Functions 0)):=by
 refine Jp func84 Jyf rfl (by simp[a84]) ?_;simp[a84,Jg]
 refine J0a (p:=λf=>f.Name==name) (rowOf:=K5) (eltOf:=λx=>.agg (K5 x)) func162 Js3 rfl (λx=>by simp) p.Functions
  (λx _=>J93 x (by simp) (by omega)) ?_
 simp
theorem Cm(p:Jo)(name:J9)(hw:X2 p<=1048576):Holds prog 176 [.agg (Jg p),.str name] (λr=>r=Qz (Xc p.Functions name)):=by
 have hw':=hw;unfold X2 Qb at hw';refine Jp func176 Js4 rfl (by simp[K7k]) ?_;simp[K7k,Jg];refine Je (Cw p name) (by simp[Jg]) ?_;rintro r rfl;unfold Qz Xc;rcases J0d (p:=λf:K3=>f.Name==name) (l:=p.Functions) (k:=0)with ⟨h1,h2⟩|⟨j,hj,h1,h2⟩
 ·rw[h1,h2];simp[Yt,Xr,Jf]
 ·rw[h1,h2];have hwf:Yr p.Functions[j]<=1048576:=by have:=Wn (w:=Yr) (getElem_mem hj);omega
  simp[hj];refine Je (J4f (p.Functions[j]'hj) hwf) (by simp) ?_;rintro r rfl;simp[Xr]
set_option maxHeartbeats 1000000 in
theorem J4g(f:K3)(hw:Yr f<=1048576):Holds prog 160 [.agg (K5 f)] (λr=>r = .agg (Xr f)):=by
 have hw':=hw;unfold Yr U9 at hw';have hl:f.Params.length<=1048576:=by have:=Yn List.length f.Params;unfold It at hw';omega
 have hlp:f.Pre.length<=1048576:=by have:=Yn Uf f.Pre;omega
 refine Jp func160 Jry rfl (by simp[K4g]) ?_;simp[K4g,K5];have hA:f.Params.length*16<=Jd:=by unfold Jd;omega
 refine⟨⟨⟨hA,?_⟩,hA,?_⟩,hA,?_⟩
 ·skip
  refine Ka [1,2] 4 f.Pre.length (λi s h n=>h 0=some ⟨true,4,[[.str f.Name,.sl 1 (Jf f.Params),.bool f.ListResult,.sl 2 (f.Pre.map Jb)]]⟩/\h 1=some ⟨true,4,[[.str [],.nil 1,.bool false,.nil 2]]⟩/\4<n/\s 3 = .ptr 4 0 0 /\
   h 3=some ⟨false,1,Jf f.Params⟩/\((i=0/\h 4=some ⟨true,4,[[.str f.Name,.ref 3 0 f.Params.length,.bool f.ListResult,.nil 2]]⟩)\/∃id,4<id/\id<n/\h 4=some ⟨true,4,[[.str f.Name,.ref 3 0 f.Params.length,.bool f.ListResult,.ref id 0 i]]⟩/\h id=some ⟨false,2,(f.Pre.map Ja).take i⟩))
   (by unfold Jd;omega) (by simp) ⟨by simp,by simp,by simp,by simp,by simp,.inl ⟨rfl,by simp⟩⟩ ?_ ?_
  ·rintro i s h n R hi hg hk s4 hw4 ⟨e0,e1,hn,s3,ep,hJ⟩ hR _ _;simp at hk
   have hwi:(f.Pre[i]).Coeffs.length<=1048576:=by have:=Wn (w:=Uf) (getElem_mem hi);rw[show Uf f.Pre[i]=(f.Pre[i]).Coeffs.length from rfl]at this;omega
   have htk:(f.Pre.map Ja).take (i+1)=(f.Pre.map Ja).take i++[Ja f.Pre[i]]:=by rw[List.take_succ_eq_append_getElem (by simpa using hi)];simp
   have n0:¬0=n:=by omega
   have n1:¬1=n:=by omega
   have n2:¬4=n:=by omega
   have n3:¬3=n:=by omega
   have m0:¬0=n+1:=by omega
   have m1:¬1=n+1:=by omega
   have m2:¬4=n+1:=by omega
   have m3:¬3=n+1:=by omega
   have q0:¬0=n+1+1:=by omega
   have q1:¬1=n+1+1:=by omega
   have q2:¬4=n+1+1:=by omega
   have q3:¬3=n+1+1:=by omega
   have z0:¬n=0:=by omega
   have z1:¬n=1:=by omega
   have z2:¬n=2:=by omega
   have z3:¬n=3:=by omega
   have z4:¬n=4:=by omega
   rcases hJ with ⟨rfl,eb⟩|⟨id,hid4,hid,eb,eid⟩
   ·simp[hk,s4,s3,hi,e0,eb];intro _;refine Jx (Dw (f.Pre[0]'hi) hwi) (by simp) ?_;rintro r rfl;simp[s4,s3,Ja,eb,n2,m2,q2];refine⟨by unfold Jd;omega,?_⟩;exact hR _ _ _ (by simp[hk]) (by simp;exact Km (by omega)) ⟨by simp[e0,n0,z0],by simp[e1,n1,z0],by omega,by simp[s3],by simp[ep,n3,m3,q3],.inr ⟨n+2,by omega,by omega,by simp,by simp[htk,Ja,z2]⟩⟩
   ·have i0:¬0=id:=by omega
    have i1:¬1=id:=by omega
    have i2:¬4=id:=by omega
    have i3:¬3=id:=by omega
    have i4:¬id=n:=by omega
    have i5:¬id=n+1:=by omega
    have i6:¬id=n+1+1:=by omega
    have i7:¬n=id:=by omega
    have i8:¬n+1=id:=by omega
    have i9:¬n+1+1=id:=by omega
    have j2:¬id=2:=by omega
    have j3:¬id=3:=by omega
    have j4:¬id=4:=by omega
    simp[hk,s4,s3,hi,e0,eb];intro _;refine Jx (Dw (f.Pre[i]'hi) hwi) (by simp) ?_;rintro r rfl;simp[s4,s3,hw4,Ja,eb,eid,n2,m2,q2,i2,i4,i5,i8];refine⟨by omega,by unfold Jd;omega,?_⟩;exact hR _ _ _ (by simp[hk]) (by simp) ⟨by simp[e0,n0,z0,i0],by simp[e1,n1,z0,i1],by omega,by simp[s3],by simp[ep,n3,m3,q3,i3],.inr ⟨n+2,by omega,by omega,by simp,by simp[htk,Ja,take_take,z2]⟩⟩
  ·rintro s h n R hk s4 ⟨e0,e1,hn,s3,ep,hJ⟩ hret hX;simp at hk;simp[hk,s4,e0];intro _;refine hX _ _ _ _ ?_;rcases hJ with ⟨h0,eb⟩|⟨id,hid4,hid,eb,eid⟩
   ·have:f.Pre=[]:=List.eq_nil_of_length_eq_zero h0;simp[hk,s3,eb,e1,ep,this,Xr]
   ·have i1:¬1=id:=by omega
    have i3:¬3=id:=by omega
    have i4:¬id=1:=by omega
    have i5:¬id=3:=by omega
    simp[hk,s3,eb,e1,ep,eid,Xr,i4,i5]
 ·skip
  refine Ka [1,2] 4 f.Pre.length (λi s h n=>h 0=some ⟨true,4,[[.str f.Name,.sl 1 (Jf f.Params),.bool f.ListResult,.sl 2 (f.Pre.map Jb)]]⟩/\h 1=some ⟨true,4,[[.str [],.nil 1,.bool false,.nil 2]]⟩/\4<n/\s 3 = .ptr 3 0 0 /\
   h 4=some ⟨false,1,Jf f.Params⟩/\((i=0/\h 3=some ⟨true,4,[[.str f.Name,.ref 4 0 f.Params.length,.bool f.ListResult,.nil 2]]⟩)\/∃id,4<id/\id<n/\h 3=some ⟨true,4,[[.str f.Name,.ref 4 0 f.Params.length,.bool f.ListResult,.ref id 0 i]]⟩/\h id=some ⟨false,2,(f.Pre.map Ja).take i⟩))
   (by unfold Jd;omega) (by simp) ⟨by simp,by simp,by simp,by simp,by simp,.inl ⟨rfl,by simp⟩⟩ ?_ ?_
  ·rintro i s h n R hi hg hk s4 hw4 ⟨e0,e1,hn,s3,ep,hJ⟩ hR _ _;simp at hk
   have hwi:(f.Pre[i]).Coeffs.length<=1048576:=by have:=Wn (w:=Uf) (getElem_mem hi);rw[show Uf f.Pre[i]=(f.Pre[i]).Coeffs.length from rfl]at this;omega
   have htk:(f.Pre.map Ja).take (i+1)=(f.Pre.map Ja).take i++[Ja f.Pre[i]]:=by rw[List.take_succ_eq_append_getElem (by simpa using hi)];simp
   have n0:¬0=n:=by omega
   have n1:¬1=n:=by omega
   have n2:¬3=n:=by omega
   have n3:¬4=n:=by omega
   have m0:¬0=n+1:=by omega
   have m1:¬1=n+1:=by omega
   have m2:¬3=n+1:=by omega
   have m3:¬4=n+1:=by omega
   have q0:¬0=n+1+1:=by omega
   have q1:¬1=n+1+1:=by omega
   have q2:¬3=n+1+1:=by omega
   have q3:¬4=n+1+1:=by omega
   have z0:¬n=0:=by omega
   have z1:¬n=1:=by omega
   have z2:¬n=2:=by omega
   have z3:¬n=3:=by omega
   have z4:¬n=4:=by omega
   rcases hJ with ⟨rfl,eb⟩|⟨id,hid4,hid,eb,eid⟩
   ·simp[hk,s4,s3,hi,e0,eb];intro _;refine Jx (Dw (f.Pre[0]'hi) hwi) (by simp) ?_;rintro r rfl;simp[s4,s3,Ja,eb,n2,m2,q2];refine⟨by unfold Jd;omega,?_⟩;exact hR _ _ _ (by simp[hk]) (by simp;exact Km (by omega)) ⟨by simp[e0,n0,z0],by simp[e1,n1,z0],by omega,by simp[s3],by simp[ep,n3,m3,q3],.inr ⟨n+2,by omega,by omega,by simp,by simp[htk,Ja,z1]⟩⟩
   ·have i0:¬0=id:=by omega
    have i1:¬1=id:=by omega
    have i2:¬3=id:=by omega
    have i3:¬4=id:=by omega
    have i4:¬id=n:=by omega
    have i5:¬id=n+1:=by omega
    have i6:¬id=n+1+1:=by omega
    have i7:¬n=id:=by omega
    have i8:¬n+1=id:=by omega
    have i9:¬n+1+1=id:=by omega
    have j2:¬id=2:=by omega
    have j3:¬id=3:=by omega
    have j4:¬id=4:=by omega
    simp[hk,s4,s3,hi,e0,eb];intro _;refine Jx (Dw (f.Pre[i]'hi) hwi) (by simp) ?_;rintro r rfl;simp[s4,s3,hw4,Ja,eb,eid,n2,m2,q2,i2,i4,i5,i8];refine⟨by omega,by unfold Jd;omega,?_⟩;exact hR _ _ _ (by simp[hk]) (by simp) ⟨by simp[e0,n0,z0,i0],by simp[e1,n1,z0,i1],by omega,by simp[s3],by simp[ep,n3,m3,q3,i3],.inr ⟨n+2,by omega,by omega,by simp,by simp[htk,Ja,take_take,z1]⟩⟩
  ·rintro s h n R hk s4 ⟨e0,e1,hn,s3,ep,hJ⟩ hret hX;simp at hk;simp[hk,s4,e0];intro _;refine hX _ _ _ _ ?_;rcases hJ with ⟨h0,eb⟩|⟨id,hid4,hid,eb,eid⟩
   ·have:f.Pre=[]:=List.eq_nil_of_length_eq_zero h0;simp[hk,s3,eb,e1,ep,this,Xr]
   ·have i1:¬1=id:=by omega
    have i3:¬4=id:=by omega
    have i4:¬id=1:=by omega
    have i5:¬id=4:=by omega
    simp[hk,s3,eb,e1,ep,eid,Xr,i4,i5]
 ·skip
  refine Ka [1,2] 4 f.Pre.length (λi s h n=>h 0=some ⟨true,4,[[.str f.Name,.sl 1 (Jf f.Params),.bool f.ListResult,.sl 2 (f.Pre.map Jb)]]⟩/\h 1=some ⟨true,4,[[.str [],.nil 1,.bool false,.nil 2]]⟩/\4<n/\s 3 = .ptr 2 0 0 /\
   h 4=some ⟨false,1,Jf f.Params⟩/\((i=0/\h 2=some ⟨true,4,[[.str f.Name,.ref 4 0 f.Params.length,.bool f.ListResult,.nil 2]]⟩)\/∃id,4<id/\id<n/\h 2=some ⟨true,4,[[.str f.Name,.ref 4 0 f.Params.length,.bool f.ListResult,.ref id 0 i]]⟩/\h id=some ⟨false,2,(f.Pre.map Ja).take i⟩))
   (by unfold Jd;omega) (by simp) ⟨by simp,by simp,by simp,by simp,by simp,.inl ⟨rfl,by simp⟩⟩ ?_ ?_
  ·rintro i s h n R hi hg hk s4 hw4 ⟨e0,e1,hn,s3,ep,hJ⟩ hR _ _;simp at hk
   have hwi:(f.Pre[i]).Coeffs.length<=1048576:=by have:=Wn (w:=Uf) (getElem_mem hi);rw[show Uf f.Pre[i]=(f.Pre[i]).Coeffs.length from rfl]at this;omega
   have htk:(f.Pre.map Ja).take (i+1)=(f.Pre.map Ja).take i++[Ja f.Pre[i]]:=by rw[List.take_succ_eq_append_getElem (by simpa using hi)];simp
   have n0:¬0=n:=by omega
   have n1:¬1=n:=by omega
   have n2:¬2=n:=by omega
   have n3:¬4=n:=by omega
   have m0:¬0=n+1:=by omega
   have m1:¬1=n+1:=by omega
   have m2:¬2=n+1:=by omega
   have m3:¬4=n+1:=by omega
   have q0:¬0=n+1+1:=by omega
   have q1:¬1=n+1+1:=by omega
   have q2:¬2=n+1+1:=by omega
   have q3:¬4=n+1+1:=by omega
   have z0:¬n=0:=by omega
   have z1:¬n=1:=by omega
   have z2:¬n=2:=by omega
   have z3:¬n=3:=by omega
   have z4:¬n=4:=by omega
   rcases hJ with ⟨rfl,eb⟩|⟨id,hid4,hid,eb,eid⟩
   ·simp[hk,s4,s3,hi,e0,eb];intro _;refine Jx (Dw (f.Pre[0]'hi) hwi) (by simp) ?_;rintro r rfl;simp[s4,s3,Ja,eb,n2,m2,z0];refine⟨by unfold Jd;omega,?_⟩;exact hR _ _ _ (by simp[hk]) (by simp;exact Km (by omega)) ⟨by simp[e0,n0,z0],by simp[e1,n1,z0],by omega,by simp[s3],by simp[ep,n3,m3,q3],.inr ⟨n+2,by omega,by omega,by simp,by simp[htk,Ja,z0]⟩⟩
   ·have i0:¬0=id:=by omega
    have i1:¬1=id:=by omega
    have i2:¬2=id:=by omega
    have i3:¬4=id:=by omega
    have i4:¬id=n:=by omega
    have i5:¬id=n+1:=by omega
    have i6:¬id=n+1+1:=by omega
    have i7:¬n=id:=by omega
    have i8:¬n+1=id:=by omega
    have i9:¬n+1+1=id:=by omega
    have j2:¬id=2:=by omega
    have j3:¬id=3:=by omega
    have j4:¬id=4:=by omega
    simp[hk,s4,s3,hi,e0,eb];intro _;refine Jx (Dw (f.Pre[i]'hi) hwi) (by simp) ?_;rintro r rfl;simp[s4,s3,hw4,Ja,eb,eid,n2,m2,z0,i2,i4,i5,i8];refine⟨by omega,by unfold Jd;omega,?_⟩;exact hR _ _ _ (by simp[hk]) (by simp) ⟨by simp[e0,n0,z0,i0],by simp[e1,n1,z0,i1],by omega,by simp[s3],by simp[ep,n3,m3,q3,i3],.inr ⟨n+2,by omega,by omega,by simp,by simp[htk,Ja,take_take,z0]⟩⟩
  ·rintro s h n R hk s4 ⟨e0,e1,hn,s3,ep,hJ⟩ hret hX;simp at hk;simp[hk,s4,e0];intro _;refine hX _ _ _ _ ?_;rcases hJ with ⟨h0,eb⟩|⟨id,hid4,hid,eb,eid⟩
   ·have:f.Pre=[]:=List.eq_nil_of_length_eq_zero h0;simp[hk,s3,eb,e1,ep,this,Xr]
   ·have i1:¬1=id:=by omega
    have i3:¬4=id:=by omega
    have i4:¬id=1:=by omega
    have i5:¬id=4:=by omega
    simp[hk,s3,eb,e1,ep,eid,Xr,i4,i5]
theorem C7(p:Jo)(name:J9)(hw:X2 p<=1048576):Holds prog 172 [.agg (Jg p),.str name] (λr=>r=Qz (Xc p.Functions name)):=by
 have hw':=hw;unfold X2 Qb at hw';have hl:p.Functions.length<=Jd:=by have:=Yn Yr p.Functions;unfold Jd;omega
 refine Jp func172 Jol rfl (by simp[K6y]) ?_;simp[K6y,Jg];generalize hG:Xc p.Functions name=G;refine O7 [1,2,4] 6 p.Functions.length (λi _=>(p.Functions.drop i).find? (λf=>f.Name==name)=G) hl (by simp) (by simpa[Xc]using hG) ?_ ?_
 ·rintro i s h R hi hg hk s6 hw6 hJ hh hR hret _;simp at hk hh;rw[drop_eq_getElem_cons hi,List.find?_cons]at hJ;have hwf:Yr p.Functions[i]<=1048576:=by have:=Wn (w:=Yr) (getElem_mem hi);omega
  simp[hk,s6,hi,hh,hw6,K5];intro _;by_cases hn:(p.Functions[i]).Name=name
  ·simp[hn]at hJ;simp[hn];refine Je (J4g (p.Functions[i]'hi) hwf) (by simp[K5,hn]) ?_;rintro r rfl;simp[Xr,hk,hh];refine hret _ _ _ ?_;simp[hk,<-hJ,Qz,Xr]
  ·have hn':((p.Functions[i]).Name==name)=false:=by simpa using hn
   simp only[hn']at hJ;simp[hn];exact hR _ (by simp[hk]) (by simp) hJ
 ·rintro s h R hk s6 hJ hh _ hX;simp at hk hh;rw[drop_eq_nil_of_le (by omega)]at hJ;simp only[List.find?_nil]at hJ;simp[hk,s6,hh];intro _;refine hX _ _ ?_;simp[hk,<-hJ,Qz,Yt,Xr,Jf]
def K4o:Jl:= ⟨66,[.t 6],(Zq [ZB 3 0,ZB 4 1,Zz 6 1] (Zq [Zl 15 true 2 3,Zf 16 0 4,Zl 17 false 1 16,Zc 18 176 [.t 15,.t 17],Zv 14 18,Ze 19 14 0,Ze 20 14 1,ZU 7,Zs 4 7 19,Zv 8 20] (.seq (Zq [Zv 21 8,ZN 22 21,Zv 23 22,Zg 24 23 false (.mv (.t 2)),Zg 25 23 false (.fld 3 (.t 4)),Zg 26 23 false (.ld false 1 (.t 25)),Zg 27 23 false (.len false (.t 26)),Zg 28 23 false (.call (.k (.fn (.func 102) [] [])) [.t 24,(.k (.int .i64 0)),.t 27]),Zg 29 23 false (.un .not (.t 28)),ZP 30 23 29] (.cond (.t 30) (Zq [Zz 6 1] .ret) .skip)) (Zq [Zf 31 1 7,Zl 32 false 1 31,Zv 9 32] (.seq (Zq [Zf 33 1 4,Zl 34 false 1 33,Zn 35 34,Zi 36 0] (.blk 0 (.loop (Zq [Zb 37 .lss 36 35] (.seq (Zw 37 0) (.seq (.blk 1 (Zq [Zx 38 4 34 36,Zl 39 true 4 38,Zo 11 (.box [(.str []),(.bool false),(.str []),(.str [])]),Zs 4 11 39] (Zq [Zf 40 1 11,Zl 41 false 1 40] (.cond (.t 41) (.reg [Zv 42 9,Zf 43 2 11,Zl 44 false 1 43,Zf 45 3 11,Zl 46 false 1 45,Zo 47 (.bsl 1 [.t 44,.t 46]),ZA 48 16 1 42 47,Zv 9 48]) .skip)))) (.reg [Zk 49 .add 36 1,Zv 36 49]))))))) (.seq (Zq [Zf 50 3 4,Zl 51 false 1 50,Zv 52 2,Zo 53 (.slc false 3 (.t 51) Option.none (some (.t 52))),Zn 54 53,Zi 55 0] (.blk 2 (.loop (Zq [Zb 56 .lss 55 54] (.seq (Zw 56 2) (.seq (.blk 3 (Zq [Zx 57 3 53 55,Zl 58 true 3 57,Zo 13 (.box [(.str []),(.str []),(.nil 3)]),Zs 3 13 58] (.reg [Zv 59 9,Zf 60 0 13,Zl 61 false 1 60,ZS 62 1 61,ZA 63 16 1 59 62,Zv 9 63]))) (.reg [Zk 64 .add 55 1,Zv 55 64]))))))) (Zq [Zv 65 9,Zv 6 65] .ret)))))))⟩
theorem Jnt:Jh prog f240=some K4o:=by kernel_rfl
def K4e:Jl:= ⟨78,[.t 6],(Zq [ZB 3 0,ZB 4 1,Zz 6 1] (Zq [Zl 13 true 2 3,Zf 14 0 4,Zl 15 false 1 14,Zc 16 172 [.t 13,.t 15],Zv 12 16,Ze 17 12 0,Ze 18 12 1,ZU 7,Zs 4 7 17,Zv 8 18] (Zq [Zo 19 (.bsl 1 []),Zv 9 19] (.seq (Zq [Zv 20 8,ZN 21 20,Zv 22 21,Zg 23 22 false (.mv (.t 2)),Zg 24 22 false (.fld 3 (.t 4)),Zg 25 22 false (.ld false 1 (.t 24)),Zg 26 22 false (.len false (.t 25)),Zg 27 22 false (.call (.k (.fn (.func 183) [] [])) [.t 23,(.k (.int .i64 0)),.t 26]),Zg 28 22 false (.un .not (.t 27)),ZP 29 22 28] (.cond (.t 29) (Zq [Zv 30 9,Zv 6 30] .ret) .skip)) (Zq [Zv 31 9,Zf 32 1 7,Zl 33 false 1 32,ZA 34 16 1 31 33,Zv 9 34] (.seq (Zq [Zi 10 0] (.blk 0 (.loop (.seq (Zq [Zv 35 10,Zf 36 1 4,Zl 37 false 1 36,Zn 38 37,Zb 39 .lss 35 38] (Zw 39 0)) (.seq (.blk 1 (Zq [Zf 42 1 4,Zl 43 false 1 42,Zv 44 10,Zx 45 4 43 44,Zf 46 1 45,Zl 47 false 1 46] (.cond (.t 47) (.draw (.op (Zv 48 9) (.op (Zf 49 1 4) (.op (Zl 50 false 1 49) (.op (Zv 51 10) (.op (Zx 52 4 50 51) (.op (Zf 53 2 52) (.op (Zl 54 false 1 53) (.op (Zf 55 1 4) (.op (Zl 56 false 1 55) (.op (Zv 57 10) (.op (Zx 58 4 56 57) (.op (Zf 59 3 58) (.op (Zl 60 false 1 59) (.hop (Zo 61 (.bsl 1 [.t 54,.t 60])) [] (.hop (ZA 62 16 1 48 61) [] (.hop (Zv 9 62) [] .fin))))))))))))))))) .skip))) (.reg [Zv 40 10,Zk 41 .add 40 1,Zv 10 41])))))) (.seq (Zq [Zi 11 0] (.blk 2 (.loop (.seq (Zq [Zv 63 11,Zv 64 2,Zb 65 .lss 63 64] (Zw 65 2)) (.seq (.blk 3 (.reg [Zv 68 9,Zf 69 3 4,Zl 70 false 1 69,Zv 71 11,Zx 72 3 70 71,Zf 73 0 72,Zl 74 false 1 73,ZS 75 1 74,ZA 76 16 1 68 75,Zv 9 76])) (.reg [Zv 66 11,Zk 67 .add 66 1,Zv 11 67])))))) (Zq [Zv 77 9,Zv 6 77] .ret))))))))⟩
theorem Jpa:Jh prog f221=some K4e:=by kernel_rfl
def Up:List X4->List J9
 | []=>[]
 |q::l=>(if q.Cons then [q.Head,q.Tail]else [])++Up l
def Ui(p:Jo)(r:K0)(n:Int):List J9:=
 if (Xc p.Functions r.Func).isSome&&Kh n 0 r.Calls.length then((Xc p.Functions r.Func).getD Yt).Params++Up r.Patterns++(r.Calls.take n.toNat).map (·.Bind)else []
theorem J5q:∀l:List X4,(Up l).length<=2*l.length
 | []=>Nat.le_refl _
 |q::l=>by have:=J5q l;simp only[Up,length_append,List.length_cons];split <;>simp <;>omega
theorem J72(p:Jo)(r:K0)(hp:X2 p<=1048576)(hr:Ub r<=1048576):((Xc p.Functions r.Func).getD Yt).Params.length<=1048576/\r.Patterns.length<=1048576/\r.Calls.length<=1048576:=by
 have h1:=Yn Qw r.Patterns;have h2:=Yn Wh r.Calls;unfold Ub O9 Gv at hr;refine⟨?_,by omega,by omega⟩
 cases hf:Xc p.Functions r.Func with
 |none=>simp[Yt]
 |some f=>
  have h3:=Wn (w:=Yr) (List.mem_of_find?_eq_some hf);have h4:=Yn List.length f.Params;unfold X2 Qb at hp;rw[show Yr f=f.Name.length+It f.Params+U9 f.Pre from rfl]at h3;unfold It at h3;simp only[Option.getD_some];omega
set_option maxHeartbeats 1000000 in
theorem J2s(p:Jo)(r:K0)(k:Int)(hp:X2 p<=1048576)(hr:Ub r<=1048576):Holds prog 240 [.agg (Jg p),.agg (Ju r),i64 k] (λx=>x = .us 1 (Jf (Ui p r k))):=by
 obtain⟨hl1,hl2,hl3⟩:=J72 p r hp hr;refine Jp func240 Jnt rfl (by simp[K4o]) ?_;simp[K4o,Jg,Ju];refine Je (Cm p r.Func hp) (by simp[Jg]) ?_;rintro r rfl;unfold Ui;generalize hG:(Xc p.Functions r.Func).getD Yt=G at *;simp only[Qz,hG];generalize hb1:(Xc p.Functions r.Func).isSome=b1;simp[Xr];cases b1
 ·simp[Jf]
 simp;intro _;refine Je (O4 k 0 r.Calls.length) (by simp) ?_;rintro r rfl;cases h2:Kh k 0 r.Calls.length
 ·simp[Jf]
 have hk0:0<=k/\k<=r.Calls.length:=by simpa[Kh]using h2
 obtain⟨m,rfl⟩:∃m:Nat,k=m:=⟨k.toNat,by omega⟩;simp;intro _;have hpl:=J5q r.Patterns;generalize hT1:G.Params++Up r.Patterns=T1;have hT1l:T1.length<=3145728:=by rw[<-hT1];simp;omega
 refine Ka [1,2,4,34,35] 36 r.Patterns.length (λi s h n=>h 1=some ⟨true,7,[Ju r]⟩/\4<n/\∃(acc:List J9) (id:Nat),s 9 = .ref id 0 acc.length/\h id=some ⟨false,1,Jf acc⟩/\(id=2\/4<id)/\id<n/\acc++Up (r.Patterns.drop i)=T1)
  (by unfold Jd;omega) (by simp) ⟨by simp[Ju],by simp,G.Params,2,by simp,by simp,by omega,by omega,by simpa using hT1⟩ ?_ ?_
 ·rintro i s h n R hi hg hk s36 hw ⟨e1,hn,acc,id,s9,eid,hid2,hidn,hJ⟩ hR _ _;simp at hk;rw[drop_eq_getElem_cons hi]at hJ;simp only[Up]at hJ;have hal:=congrArg List.length hJ;simp only[length_append]at hal;have n0:¬id=n:=by omega
  have n1:¬1=n:=by omega
  have n2:¬id=n+1:=by omega
  have n3:¬1=n+1:=by omega
  have n4:¬1=n+1+1:=by omega
  have n5:¬1=id:=by omega
  have n6:¬n=0:=by omega
  have n7:¬n+1=id:=by omega
  have n8:¬n=id:=by omega
  have n9:¬id=n+1+1:=by omega
  simp[hk,s36,hi,hw,Kd];cases hc:(r.Patterns[i]).Cons
  ·rw[hc]at hJ;simp only[Bool.false_eq_true,if_false,List.nil_append]at hJ;simp;exact hR _ _ _ (by simp[hk]) (by simp) ⟨by simp[e1,n1],by omega,acc,id,by simp[s9],by simp[eid,n0],hid2,by omega,hJ⟩
  ·rw[hc]at hJ hal;simp only[if_true]at hJ hal;simp[s9,eid,n0,n2,n7,s36,hw];refine⟨by simp at hal;unfold Jd;omega,?_⟩;exact hR _ _ _ (by simp[hk]) (by simp) ⟨by simp[e1,n1,n5,n6],by omega,acc++[(r.Patterns[i]).Head,(r.Patterns[i]).Tail],n+2,by simp,by simp[Jf],by omega,by omega,by rw[List.append_assoc];exact hJ⟩
 ·rintro s h n R hk s36 ⟨e1,hn,acc,id,s9,eid,hid2,hidn,hJ⟩ hret hX;simp at hk;rw[drop_eq_nil_of_le (by omega)]at hJ;simp only[Up,append_nil]at hJ;subst hJ;simp[hk,s36];refine hX _ _ _ _ ?_;have hm:m<=r.Calls.length:=by omega
  simp[hk,e1,Ju,U0,Vz,Nat.min_eq_left hm,hm];intro _;generalize hT2:G.Params++(Up r.Patterns++List.take m (List.map (λx=>x.Bind) r.Calls))=T2;have hT2l:T2.length<=4194304:=by rw[<-hT2];simp;omega
  refine Ka [53,54] 55 m (λi s h n=>∃(acc:List J9) (id:Nat),s 9 = .ref id 0 acc.length/\h id=some ⟨false,1,Jf acc⟩/\id<n/\acc++((r.Calls.map (·.Bind)).take m).drop i=T2)
   (by unfold Jd;omega) (by simp) ⟨acc,id,by simp[s9],by simp[eid],hidn,by rw[<-hT2,<-hT1];simp⟩ ?_ ?_
  ·rintro i s h n R hi hg hk s55 hw ⟨acc,id,s9,eid,hidn,hJ⟩ hR _ _;simp at hk;have hir:i<r.Calls.length:=by omega
   rw[drop_eq_getElem_cons (by simp;omega)]at hJ;have hal:=congrArg List.length hJ;simp at hJ hal;have n0:¬id=n:=by omega
   have n2:¬id=n+1:=by omega
   have n7:¬n+1=id:=by omega
   have n8:¬n=id:=by omega
   simp[hk,s55,hi,hw,hir,X8,s9,eid,n0,n2,n7];refine⟨by omega,by unfold Jd;omega,?_⟩;exact hR _ _ _ (by simp[hk]) (by simp) ⟨acc++[(r.Calls[i]).Bind],n+2,by simp,by simp[Jf],by omega,by simpa using hJ⟩
  ·rintro s h n R hk s55 ⟨acc,id,s9,eid,hidn,hJ⟩ hret hX;simp at hk;rw[drop_eq_nil_of_le (by simp;omega),append_nil]at hJ;subst hJ;simp[hk,s55];refine hX _ _ _ _ ?_;simp[s9,eid]
set_option maxHeartbeats 1000000 in
theorem J1l(p:Jo)(r:K0)(k:Int)(hp:X2 p<=1048576)(hr:Ub r<=1048576):Holds prog 221 [.agg (Jg p),.agg (Ju r),i64 k] (λx=>x = .us 1 (Jf (Ui p r k))):=by
 obtain⟨hl1,hl2,hl3⟩:=J72 p r hp hr;refine Jp func221 Jpa rfl (by simp[K4e]) ?_;simp[K4e,Jg,Ju];refine Je (C7 p r.Func hp) (by simp[Jg]) ?_;rintro r rfl;unfold Ui;generalize hG:(Xc p.Functions r.Func).getD Yt=G at *;simp only[Qz,hG];generalize hb1:(Xc p.Functions r.Func).isSome=b1;simp[Xr];cases b1
 ·simp[Jf]
 simp;intro _;refine Je (Gb k 0 r.Calls.length) (by simp) ?_;rintro r rfl;cases h2:Kh k 0 r.Calls.length
 ·simp[Jf]
 have hk0:0<=k/\k<=r.Calls.length:=by simpa[Kh]using h2
 obtain⟨m,rfl⟩:∃m:Nat,k=m:=⟨k.toNat,by omega⟩;simp;refine⟨by unfold Jd;omega,?_⟩;have hpl:=J5q r.Patterns;generalize hT1:G.Params++Up r.Patterns=T1;have hT1l:T1.length<=3145728:=by rw[<-hT1];simp;omega
 refine Ka [1,2,4] 10 r.Patterns.length (λi s h n=>h 1=some ⟨true,7,[Ju r]⟩/\4<n/\∃(acc:List J9) (id:Nat),s 9 = .ref id 0 acc.length/\h id=some ⟨false,1,Jf acc⟩/\4<id/\id<n/\acc++Up (r.Patterns.drop i)=T1)
  (by unfold Jd;omega) (by simp) ⟨by simp[Ju],by simp,G.Params,6,by simp,by simp,by omega,by omega,by simpa using hT1⟩ ?_ ?_
 ·rintro i s h n R hi hg hk s10 hw ⟨e1,hn,acc,id,s9,eid,hid2,hidn,hJ⟩ hR _ _;simp at hk;rw[drop_eq_getElem_cons hi]at hJ;simp only[Up]at hJ;have hal:=congrArg List.length hJ;simp only[length_append]at hal;have n0:¬id=n:=by omega
  have n1:¬1=n:=by omega
  have n2:¬id=n+1:=by omega
  have n3:¬1=n+1:=by omega
  have n5:¬1=id:=by omega
  have n5':¬id=1:=by omega
  have n6:¬n=0:=by omega
  have n7:¬n+1=id:=by omega
  have n8:¬n=id:=by omega
  simp[hk,s10,hi,hw,Kd,e1,Ju];intro _;cases hc:(r.Patterns[i]).Cons
  ·rw[hc]at hJ;simp only[Bool.false_eq_true,if_false,List.nil_append]at hJ;simp;exact hR _ _ _ (by simp[hk]) (by simp) ⟨by simp[e1],by omega,acc,id,by simp[s9],by simp[eid],hid2,by omega,hJ⟩
  ·rw[hc]at hJ hal;simp only[if_true]at hJ hal;simp[s9,eid,n0,n8,s10,hw];refine⟨by simp at hal;unfold Jd;omega,?_⟩;exact hR _ _ _ (by simp[hk]) (by simp) ⟨by simp[e1,n1,n5,n6],by omega,acc++[(r.Patterns[i]).Head,(r.Patterns[i]).Tail],n+1,by simp,by simp[Jf],by omega,by omega,by rw[List.append_assoc];exact hJ⟩
 ·rintro s h n R hkk s10 ⟨e1,hn,acc,id,s9,eid,hid2,hidn,hJ⟩ hret hX;simp at hkk;rw[drop_eq_nil_of_le (by omega)]at hJ;simp only[Up,append_nil]at hJ;subst hJ;simp[hkk,s10,e1,Ju];intro _;refine hX _ _ _ _ ?_;have hm:m<=r.Calls.length:=by omega
  simp;generalize hT2:G.Params++(Up r.Patterns++List.take m (List.map (λx=>x.Bind) r.Calls))=T2;have hT2l:T2.length<=4194304:=by rw[<-hT2];simp;omega
  refine Ka [2,4] 11 m (λi s h n=>h 1=some ⟨true,7,[Ju r]⟩/\4<n/\∃(acc:List J9) (id:Nat),s 9 = .ref id 0 acc.length/\h id=some ⟨false,1,Jf acc⟩/\4<id/\id<n/\acc++((r.Calls.map (·.Bind)).take m).drop i=T2)
   (by unfold Jd;omega) (by simp) ⟨by simp[e1],hn,acc,id,by simp[s9],by simp[eid],hid2,hidn,by rw[<-hT2,<-hT1];simp⟩ ?_ ?_
  ·rintro i s h n R hi hg hk s11 hw ⟨e1,hn,acc,id,s9,eid,hid2,hidn,hJ⟩ hR _ _;simp at hk;have hir:i<r.Calls.length:=by omega
   rw[drop_eq_getElem_cons (by simp;omega)]at hJ;have hal:=congrArg List.length hJ;simp at hJ hal;have n0:¬id=n:=by omega
   have n1:¬1=n:=by omega
   have n2:¬id=n+1:=by omega
   have n3:¬1=n+1:=by omega
   have n5:¬1=id:=by omega
   have n5':¬id=1:=by omega
   have n6:¬n=0:=by omega
   have n7:¬n+1=id:=by omega
   have n8:¬n=id:=by omega
   simp[hk,hkk,s11,hi,hw,hir,e1,Ju,X8,s9,eid,n0,n8];refine⟨by unfold Jd;omega,?_⟩;exact hR _ _ _ (by simp[hk,hkk]) (by simp) ⟨by simp[e1,Ju,n1,n5,n6],by omega,acc++[(r.Calls[i]).Bind],n+1,by simp,by simp[Jf],by omega,by omega,by simpa using hJ⟩
  ·rintro s h n R hk s11 ⟨e1,hn,acc,id,s9,eid,hid2,hidn,hJ⟩ hret hX;simp at hk;rw[drop_eq_nil_of_le (by simp;omega),append_nil]at hJ;subst hJ;simp[hk,hkk,s11];refine hX _ _ _ _ ?_;simp[s9,eid]
end Go.Proofs.YtoclolkigjbcgaaGreat

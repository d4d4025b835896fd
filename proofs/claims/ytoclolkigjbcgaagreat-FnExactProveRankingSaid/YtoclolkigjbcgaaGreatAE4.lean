/- Contracts: ReachableFrom of the reference. -/
import Derived.Test.YtoclolkigjbcgaaGreatAH2
import Derived.Test.YtoclolkigjbcgaaGreatAC1
namespace Go.Proofs.YtoclolkigjbcgaaGreat
open Tryz
open Tryz(prog)
open List(mem_singleton mem_append drop_eq_getElem_cons length_append length_cons drop_eq_nil_of_le take_of_length_le mem_map getElem_mem map_cons flatMap_cons mem_cons_self all_cons)
set_option maxRecDepth 40000
set_option maxHeartbeats 4000000
open Go Go.RowKit Go.Proofs
set_option linter.all false
def a60:Jl:= ⟨23,[.t 2],(Zq [ZB 1 0,Zz 2 1] (Zq [Zo 5 (.bsl 1 []),Zv 3 5] (.seq (Zq [Zi 4 0] (.blk 0 (.loop (.seq (Zq [Zv 6 4,Zf 7 0 1,Zl 8 false 1 7,Zn 9 8,Zb 10 .lss 6 9] (Zw 10 0)) (.seq (.blk 1 (.reg [Zv 13 3,Zf 14 0 1,Zl 15 false 1 14,Zv 16 4,Zx 17 4 15 16,Zf 18 0 17,Zl 19 false 1 18,ZS 20 1 19,ZA 21 16 1 13 20,Zv 3 21])) (.reg [Zv 11 4,Zk 12 .add 11 1,Zv 4 12])))))) (Zq [Zv 22 3,Zv 2 22] .ret))))⟩
theorem Jym:Jh prog f60=some a60:=by kernel_rfl
def K8h:Jl:= ⟨93,[.t 4],(Zq [ZB 2 0,Zz 4 1] (Zq [Zl 12 true 2 2,Zc 13 60 [.t 12],Zv 5 13] (Zq [Zl 14 true 2 2,Zc 15 122 [.t 14],Zv 6 15] (Zq [Zo 16 (.bsl 1 []),Zv 7 16] (.seq (Zq [Zl 17 true 2 2,Zc 18 61 [.t 17],ZN 19 18,Zv 20 19,Zg 21 20 false (.mv (.t 5)),Zg 22 20 false (.mv (.t 1)),Zg 23 20 false (.call (.k (.fn (.func 63) [] [])) [.t 21,.t 22]),Zg 24 20 false (.bin .lss (.t 23) (.k (.int .i64 0))),ZP 25 20 24] (.cond (.t 25) (Zq [Zv 26 7,Zv 4 26] .ret) .skip)) (Zq [Zv 27 1,ZS 28 1 27,Zv 8 28] (.seq (Zq [Zi 9 0] (.blk 0 (.loop (.seq (Zq [Zv 29 9,Zv 30 8,Zn 31 30,Zb 32 .lss 29 31] (Zw 32 0)) (.seq (.blk 1 (Zq [Zi 10 0] (.blk 2 (.loop (.seq (Zq [Zv 35 10,Zv 36 6,Zn 37 36,Zb 38 .lss 35 37] (Zw 38 2)) (.seq (.blk 3 (.seq (.draw (.op (Zl 41 true 2 2) (.op (Zv 42 6) (.op (Zv 43 10) (.op (Zx 44 2 42 43) (.op (Zl 45 true 2 44) (.op (Zv 47 8) (.op (Zv 48 9) (.op (Zx 49 1 47 48) (.op (Zl 50 false 1 49) (.op (Zc 46 199 [.t 41,.t 45]) (.op (Zb 51 .eql 46 50) (.op (Zv 52 51) (.op (Zg 53 52 true (.mv (.t 8))) (.op (Zg 54 52 true (.ld true 2 (.t 2))) (.op (Zg 55 52 true (.mv (.t 6))) (.op (Zg 56 52 true (.mv (.t 10))) (.op (Zg 57 52 true (.ixa 2 (.t 55) (.t 56))) (.op (Zg 58 52 true (.ld true 2 (.t 57))) (.op (Zg 59 52 true (.call (.k (.fn (.func 173) [] [])) [.t 54,.t 58])) (.op (Zg 60 52 true (.call (.k (.fn (.func 63) [] [])) [.t 53,.t 59])) (.op (Zg 61 52 true (.bin .lss (.t 60) (.k (.int .i64 0)))) (.op (ZQ 62 52 61) .fin))))))))))))))))))))))) (.cond (.t 62) (.draw (.op (Zv 63 8) (.op (Zl 64 true 2 2) (.op (Zv 65 6) (.op (Zv 66 10) (.op (Zx 67 2 65 66) (.op (Zl 68 true 2 67) (.op (Zc 69 173 [.t 64,.t 68]) (.hop (ZS 70 1 69) [] (.hop (ZA 71 16 1 63 70) [] (.hop (Zv 8 71) [] .fin))))))))))) .skip))) (.reg [Zv 39 10,Zk 40 .add 39 1,Zv 10 40]))))))) (.reg [Zv 33 9,Zk 34 .add 33 1,Zv 9 34])))))) (.seq (Zq [Zi 11 0] (.blk 4 (.loop (.seq (Zq [Zv 72 11,Zv 73 5,Zn 74 73,Zb 75 .lss 72 74] (Zw 75 4)) (.seq (.blk 5 (Zq [Zv 78 8,Zv 79 5,Zv 80 11,Zx 81 1 79 80,Zl 82 false 1 81,Zc 83 63 [.t 78,.t 82],Zk 84 .geq 83 0] (.cond (.t 84) (.reg [Zv 85 7,Zv 86 5,Zv 87 11,Zx 88 1 86 87,Zl 89 false 1 88,ZS 90 1 89,ZA 91 16 1 85 90,Zv 7 91]) .skip))) (.reg [Zv 76 11,Zk 77 .add 76 1,Zv 11 77])))))) (Zq [Zv 92 7,Zv 4 92] .ret)))))))))⟩
theorem Jsv:Jh prog f136=some K8h:=by kernel_rfl
def Hj(E:List (J9×J9))(N:List J9)(a:J9)(M:List J9)(i:Nat):Prop:=
 M.Nodup/\(∀x∈M,x∈N/\RT E a x)/\a∈M/\i<=M.length/\∀x∈M.take i,∀y,(x,y)∈E->y∈M
theorem Hj.len {E:List (J9×J9)}{N:List J9}{a:J9}{M:List J9}{i:Nat}(h:Hj E N a M i):M.length<=N.length:=J37 h.1 λx hx=>(h.2.1 x hx).1
theorem Hj.add {E:List (J9×J9)}{N:List J9}{a c y:J9}{M:List J9}{i:Nat}(h:Hj E N a M i) (hc:c∈M) (hy:(c,y)∈E) (hyN:y∈N) (hyM:y∉M):Hj E N a (M++[y]) i:=by
 obtain⟨h1,h2,h3,h4,h5⟩:=h;refine⟨?_,?_,List.mem_append_left _ h3,by simp;omega,?_⟩
 ·rw[List.nodup_append];exact⟨h1,by simp,λx hx z hz hxz=>hyM (by rw[<-mem_singleton.1 hz,<-hxz];exact hx)⟩
 ·intro x hx;rcases mem_append.1 hx with hx|hx
  ·exact h2 x hx
  ·rw[mem_singleton.1 hx];exact⟨hyN,(h2 c hc).2.step hy⟩
 ·intro x hx z hz;rw[List.take_append_of_le_length h4]at hx;exact List.mem_append_left _ (h5 x hx z hz)
theorem Hj.next {E:List (J9×J9)}{N:List J9}{a c:J9}{M:List J9}{i:Nat}(h:Hj E N a M i) (hc:M[i]? = some c) (hE:∀e∈E,e.1=c->e.2∈M):Hj E N a M (i+1):=by
 obtain⟨h1,h2,h3,h4,h5⟩:=h;obtain⟨hi,hci⟩:=List.getElem?_eq_some_iff.1 hc;refine⟨h1,h2,h3,hi,?_⟩;intro x hx y hy;rw[List.take_succ_eq_append_getElem hi,hci]at hx;rcases mem_append.1 hx with hx|hx
 ·exact h5 x hx y hy
 ·rw[mem_singleton.1 hx]at hy;exact hE _ hy rfl
theorem Hj.done {E:List (J9×J9)}{N:List J9}{a:J9}{M:List J9}(h:Hj E N a M M.length) (x:J9):x∈M↔RT E a x:=by obtain⟨h1,h2,h3,h4,h5⟩:=h;rw[List.take_length]at h5;exact⟨λhx=>(h2 x hx).2,λhx=>hx.closed (S:=λz=>z∈M) h3 λu v huv hu=>h5 u hu v huv⟩
theorem Jmx(l:List J9)(s:J9):decide (Xi (λx=>x==s) l 0<0) = !K6 l s:=by
 rw[<-T4 l s];by_cases h:Xi (λx=>x==s) l 0<0
 ·have h3:¬(0<=Xi (λx=>x==s) l 0):=by omega
  simp[h,h3]
 ·have h3:0<=Xi (λx=>x==s) l 0:=by omega
  simp[h,h3]
theorem J1w{p:Jo}{j:Nat}(hj:j<(K1 p).length):((K1 p).take (j+1)).map (Di p)=((K1 p).take j).map (Di p)++[Di p (K1 p)[j]]:=by rw[List.take_succ_eq_append_getElem hj,List.map_append];rfl
theorem J3k(p:Jo)(hp:X2 p<=1048576):Holds prog 60 [.agg (Jg p)] (λx=>x = .us 1 (Jf (X7 p))):=by
 have hfl:p.Functions.length<=1048576:=by have:=Yn Yr p.Functions;unfold X2 Qb at hp;omega
 refine Jp func60 Jym rfl (by simp[a60]) ?_;simp[a60,Jg];generalize hT:X7 p=T;have hTl:T.length=p.Functions.length:=by rw[<-hT];simp[X7]
 refine Ka [1] 4 p.Functions.length (λi s h n=>h 0=some ⟨true,2,[Jg p]⟩/\∃(acc:List J9) (id:Nat),acc++T.drop i=T/\0<id/\id<n/\s 3 = .ref id 0 acc.length/\h id=some ⟨false,1,Jf acc⟩) (by unfold Jd;omega) (by simp) ⟨by simp[Jg],[],1,by simp,by simp,by simp,by simp,by simp[Jf]⟩ ?_ ?_
 ·rintro i st h n R hi hg hk s4 hw ⟨e0,acc,id,hJ,hid0,hid,s3,eid⟩ hR hret _;simp at hk;have hin:i<T.length:=by omega
  have hni:T[i]=(p.Functions[i]).Name:=by subst hT;simp[X7]
  rw[drop_eq_getElem_cons hin,hni]at hJ;have hal:=congrArg List.length hJ;simp only[length_append,length_cons]at hal;have z0:¬id=n:=by omega
  have z1:¬id=n+1:=by omega
  have z2:¬n+1=id:=by omega
  have z3:¬n=id:=by omega
  have z4:¬0=id:=by omega
  have z5:¬0=n:=by omega
  have z6:¬n=0:=by omega
  have z7:¬id=0:=by omega
  simp[hk,s4,hi,e0,Jg,K5,s3,eid,z0,z3,hw];intro _;refine⟨by unfold Jd;omega,?_⟩;exact hR _ _ _ (by simp[hk]) (by simp) ⟨by simp[e0,z4,z5,z6,Jg],acc++[(p.Functions[i]).Name],n+1,by simpa using hJ,by omega,by omega,by simp,by simp[Jf]⟩
 rintro st h n R hk s4 ⟨e0,acc,id,hJ,hid0,hid,s3,eid⟩ hret hX;simp at hk;rw[drop_eq_nil_of_le (by omega),List.append_nil]at hJ;subst hJ;simp[hk,s4,e0,Jg];intro _;refine hX _ _ _ _ ?_;simp[s3,eid]
theorem J2m(p:Jo)(hp:X2 p<=1048576)(name:J9):Holds prog 136 [.agg (Jg p),.str name] (λx=>x = .us 1 (Jf (Ut p name))):=by
 have hel:=Sa p hp;have hNl:(X7 p).length=p.Functions.length:=by simp[X7]
 refine Jp func136 Jsv rfl (by simp[K8h]) ?_;simp[K8h,Jg];refine Je (J3k p hp) (by simp[Jg]) ?_;rintro r rfl;simp;refine Je (Sz p hp) (by simp[Jg]) ?_;rintro r rfl;simp;refine Je (T0 p hp) (by simp[Jg]) ?_;rintro r rfl;unfold Ut;cases h1:Ym p
 ·simp[Jf]
 simp;have ht:List.take p.Functions.length (Jf (X7 p))=Jf (X7 p):=take_of_length_le (by simp[Jf,X7]);have ht':List.take (X7 p).length (Jf (X7 p))=Jf (X7 p):=take_of_length_le (by simp[Jf]);refine Je (E3 (X7 p) name) (by simp[ht,hNl]) ?_;rintro r rfl;have g1:=T4 (X7 p) name;cases h2:K6 (X7 p) name
 ·rw[h2]at g1;simp at g1;simp[g1,Jf]
 rw[h2]at g1;simp at g1;have g2:¬Xi (λx=>x==name) (X7 p) 0<0:=by omega
 simp[g2];obtain⟨f1,f2,f3,f4⟩:=J24 h1;have hEE:Vt p=(K1 p).map (Di p):=by rw[J1s];unfold K1;rw[h1];rfl
 have hE2:∀e∈Vt p,e.2∈X7 p:=λe he=>(f2 e he).2
 have hnm:name∈X7 p:=Qu.1 h2;generalize hRN:G9 (Vt p) (X7 p) name=T;refine J6x (λm s h n=>3<n/\s 2 = .ptr 0 0 0/\s 5 = .ref 1 0 (X7 p).length/\s 6 = .ref 2 0 (K1 p).length/\s 7 = .ref 3 0 0/\h 0=some ⟨true,2,[Jg p]⟩/\h 1=some ⟨false,1,Jf (X7 p)⟩/\h 2=some ⟨false,2,(K1 p).map Yd⟩/\h 3=some ⟨false,1,[]⟩/\∃(M:List J9) (i id:Nat),m=(X7 p).length - i/\Hj (Vt p) (X7 p) name M i/\s 9 = .int .i64 i/\3<id/\id<n/\s 8 = .ref id 0 M.length/\h id=some ⟨false,1,Jf M⟩) ((X7 p).length) ?_ ?_
 ·refine⟨by simp,by simp,by simp,by simp,by simp,by simp[Jg],by simp,by simp,by simp,[name],0,4,by simp,?_,by simp,by simp,by simp,by simp,by simp[Jf]⟩;exact⟨by simp,λx hx=>by rw[mem_singleton.1 hx];exact⟨hnm,.refl _⟩,by simp,by simp,by simp⟩
 rintro m st h n R ⟨hn,s2,s5,s6,s7,e0,e1,e2,e3,M,i,id,rfl,hS,s9,hid3,hid,s8,eid⟩ hR hret hX;have hMl:=hS.len;by_cases hi:i<M.length
 ·refine Jn (Jq [2,5,6,7,8,9] (λs=>s 32 = .bool true) (by simp[s9,s8,eid,hi]) ?_);intro Jv hk1 s32;simp at hk1;refine U2 s32 (Jn (Xd ?_));simp;have hw0:IntKind.i64.wrap ((i:Int)+1)=(i:Int)+1:=Km (by omega);refine Ka [2,5,6,7,9] 10 (K1 p).length (λj s h' n'=>3<n'/\h' 0=some ⟨true,2,[Jg p]⟩/\h' 1=some ⟨false,1,Jf (X7 p)⟩/\h' 2=some ⟨false,2,(K1 p).map Yd⟩/\h' 3=some ⟨false,1,[]⟩/\∃(X:List J9) (id':Nat),Hj (Vt p) (X7 p) name X i/\X[i]? = some M[i]/\(∀e∈((K1 p).take j).map (Di p),e.1=M[i]->e.2∈X)/\3<id'/\id'<n'/\s 8 = .ref id' 0 X.length/\h' id'=some ⟨false,1,Jf X⟩) (by unfold Jd;omega) (by simp) ⟨hn,e0,e1,e2,e3,M,id,hS,List.getElem?_eq_getElem hi,by simp,hid3,hid,by simp[hk1,s8],eid⟩ ?_ ?_
  ·rintro j st2 h2 n2 R2 hj hjg hk2 s10 hw ⟨hn2,b0,b1,b2,b3,X,id',hSX,hXi,hXE,hid3',hid',s8',eid'⟩ hR2 hret2 _;simp at hk2;obtain⟨a,b,ha,hb,he,hf,ht0⟩:=Sc hj;obtain⟨hiX,hXv⟩:=List.getElem?_eq_some_iff.1 hXi;have hpe:Di p (K1 p)[j]=((p.Rules[a]).Func,((p.Rules[a]).Calls[b]).Func):=by rw[he];unfold Di;rw[hf,ht0]
   have hpm:((p.Rules[a]).Func,((p.Rules[a]).Calls[b]).Func)∈Vt p:=by rw[hEE];exact mem_map.2 ⟨_,getElem_mem hj,hpe⟩
   have htX:List.take X.length (Jf X)=Jf X:=take_of_length_le (by simp[Jf]);refine Jn (Jq [2,5,6,7,8,9,10] (λs=>s 38 = .bool true) (by simp[hk2,hk1,s6,s10,hj,b2]) ?_);intro Kq hk3 s38;simp at hk3;refine U2 s38 (Jn (Xd ?_));refine Jq [2,5,6,7,8,9,10] (λs=>s 62 = .bool (decide ((p.Rules[a]).Func=M[i]) && !K6 X ((p.Rules[a]).Calls[b]).Func)) ?_ ?_
   ·simp[hk3,hk2,hk1,s2,s6,s10,s9,s8',hj,b2,b0,eid',hiX,hXv,he,Yd,Jg];refine Jx (Tp p ha (k:=b)) (by simp[Jg,Kr]) ?_;rintro r rfl;by_cases c1:(p.Rules[a]).Func=M[i]
    ·simp[c1,hk3,hk2,hk1,s2,s6,s10,s9,s8',hj,b2,b0,he,Yd,Jg];refine Jx (Fq p ha hb) (by simp[Jg,Kr]) ?_;rintro r rfl;simp;refine Jx (E3 X ((p.Rules[a]).Calls[b]).Func) (by simp[htX,eid']) ?_;rintro r rfl;have g3:=Jmx X ((p.Rules[a]).Calls[b]).Func;simp[g3]
    ·simp[c1,hk3,hk2,hk1,s2,s6,s10,s9,s8',hj,b2,b0,he,Yd,Jg]
   intro st4 hk4 s62;simp at hk4;have z0:¬id'=n2:=by omega
   have z1:¬id'=n2+1:=by omega
   have z2:¬n2+1=id':=by omega
   have z3:¬n2=id':=by omega
   have q0:¬0=n2:=by omega
   have q1:¬1=n2:=by omega
   have q2:¬2=n2:=by omega
   have q3:¬3=n2:=by omega
   have q4:¬n2=0:=by omega
   have q5:¬n2=1:=by omega
   have q6:¬n2=2:=by omega
   have q7:¬n2=3:=by omega
   have r0:¬0=id':=by omega
   have r1:¬1=id':=by omega
   have r2:¬2=id':=by omega
   have r3:¬3=id':=by omega
   by_cases c1:(p.Rules[a]).Func=M[i]
   ·cases c2:K6 X ((p.Rules[a]).Calls[b]).Func
    ·rw[c2,decide_eq_true c1]at s62;simp at s62;have hXN:=hSX.len;have hfl3:(X7 p).length<=3:=by omega
     simp[hk4,hk3,hk2,hk1,s62,s2,s6,s10,s8',hj,b2,b0,he,Yd,Jg];refine Jx (Fq p ha hb) (by simp[Jg,Kr]) ?_;rintro r rfl;simp[hk4,hk3,eid',s10,hw,z0,z3];refine⟨by unfold Jd;omega,?_⟩;refine hR2 _ _ _ (by simp[hk4,hk3,hk2,hk1]) (by simp) ⟨by omega,by simp[b0,q0,q4,r0,Jg],by simp[b1,q1,r1,q4],by simp[b2,q2,r2,q5],by simp[b3,q3,r3,q6],X++[((p.Rules[a]).Calls[b]).Func],n2+1,hSX.add (c:=M[i]) (by rw[<-hXv];exact getElem_mem hiX) (by rw[<-c1];exact hpm) (hE2 _ hpm) (N1.1 c2),by rw[List.getElem?_append_left hiX];exact hXi,?_,by omega,by omega,by simp,by simp[Jf]⟩;intro e hm hc;rw[J1w hj,hpe]at hm;rcases mem_append.1 hm with hm|hm
     ·exact List.mem_append_left _ (hXE e hm hc)
     ·rw[mem_singleton.1 hm];simp
    ·rw[c2]at s62;simp at s62;simp[hk4,hk3,s62,s10,hw];refine hR2 _ _ _ (by simp[hk4,hk3,hk2,hk1]) (by simp) ⟨hn2,b0,b1,b2,b3,X,id',hSX,hXi,?_,hid3',hid',by simp[hk4,hk3,s8'],eid'⟩;intro e hm hc;rw[J1w hj,hpe]at hm;rcases mem_append.1 hm with hm|hm
     ·exact hXE e hm hc
     ·rw[mem_singleton.1 hm];exact Qu.1 c2
   ·rw[decide_eq_false c1]at s62;simp at s62;simp[hk4,hk3,s62,s10,hw];refine hR2 _ _ _ (by simp[hk4,hk3,hk2,hk1]) (by simp) ⟨hn2,b0,b1,b2,b3,X,id',hSX,hXi,?_,hid3',hid',by simp[hk4,hk3,s8'],eid'⟩;intro e hm hc;rw[J1w hj,hpe]at hm;rcases mem_append.1 hm with hm|hm
    ·exact hXE e hm hc
    ·rw[mem_singleton.1 hm]at hc;exact absurd hc c1
  rintro st2 h2 n2 R2 hk2 s10 ⟨hn2,b0,b1,b2,b3,X,id',hSX,hXi,hXE,hid3',hid',s8',eid'⟩ hret2 hX2;simp at hk2;rw[take_of_length_le (by omega),<-hEE]at hXE;refine Jn (Jq [2,5,6,7,8,9] (λs=>s 38 = .bool false) (by simp[hk2,hk1,s6,s10,b2]) ?_);intro Kq hk3 s38;simp at hk3;refine U1 s38 ?_;refine hX2 _ _ _ _ ?_;simp[hk3,hk2,hk1,s9,hw0];exact hR ((X7 p).length - (i+1)) _ _ _ (by omega) ⟨hn2,by simp[hk3,hk2,hk1,s2],by simp[hk3,hk2,hk1,s5],by simp[hk3,hk2,hk1,s6],by simp[hk3,hk2,hk1,s7],b0,b1,b2,b3,X,i+1,id',rfl,hSX.next hXi hXE,by simp,hid3',hid',by simp[hk3,s8'],eid'⟩
 have hiM:i=M.length:=by have:=hS.2.2.2.1;omega
 subst hiM;have hT:(X7 p).filter (K6 M)=T:=by rw[<-hRN];exact Jey hE2 hnm hS.done
 have hTn:T.length<=(X7 p).length:=by rw[<-hT];exact List.length_filter_le _ _
 have hfl3:(X7 p).length<=3:=by omega
 refine Jn (Jq [5,7,8] (λs=>s 32 = .bool false) (by simp[s9,s8,eid]) ?_);intro Jv hk1 s32;simp at hk1;refine U1 s32 ?_;refine hX _ _ _ _ ?_;simp;have htM:List.take M.length (Jf M)=Jf M:=take_of_length_le (by simp[Jf]);refine Ka [5,8] 11 (X7 p).length (λi s h' n'=>id<n'/\3<n'/\h' 1=some ⟨false,1,Jf (X7 p)⟩/\h' id=some ⟨false,1,Jf M⟩/\∃(acc:List J9) (ic:Nat),acc++((X7 p).drop i).filter (K6 M)=T/\ic≠1/\ic≠id/\ic<n'/\s 7 = .ref ic 0 acc.length/\h' ic=some ⟨false,1,Jf acc⟩) (by unfold Jd;omega) (by simp) ⟨hid,hn,e1,eid,[],3,by simpa using hT,by simp,by omega,hn,by simp[hk1,s7],by simp[e3,Jf]⟩ ?_ ?_
 ·rintro i st2 h2 n2 R2 hi hg hk2 s11 hw ⟨hn2,hn3,b1,bM,acc,ic,hJ,hc1,hcM,hic,s7',eic⟩ hR2 hret2 _;simp at hk2;rw[drop_eq_getElem_cons hi,List.filter_cons]at hJ;refine Jn (Jq [5,7,8,11] (λs=>s 75 = .bool true) (by simp[hk2,hk1,s5,s11,hi,b1]) ?_);intro Kq hk3 s75;simp at hk3;refine U2 s75 (Jn (Xd ?_));refine Jq [5,7,8,11] (λs=>s 84 = .bool (K6 M (X7 p)[i])) ?_ ?_
  ·simp[hk3,hk2,hk1,s5,s8,s11,hi,b1];refine Je (E3 M ((X7 p)[i]'hi)) (by simp[htM,bM]) ?_;rintro r rfl;have g3:=T4 M (X7 p)[i];simp[g3]
  intro st4 hk4 s84;simp at hk4;have z0:¬ic=n2:=by omega
  have z1:¬ic=n2+1:=by omega
  have z2:¬n2+1=ic:=by omega
  have z3:¬n2=ic:=by omega
  have q1:¬1=n2:=by omega
  have q5:¬n2=1:=by omega
  have q4:¬n2=0:=by omega
  have r1:¬1=ic:=λe=>hc1 e.symm
  have w0:¬id=n2:=by omega
  have w1:¬id=n2+1:=by omega
  have w2:¬id=ic:=λe=>hcM e.symm
  cases c1:K6 M (X7 p)[i]
  ·rw[c1]at hJ s84;simp only[Bool.false_eq_true,if_false]at hJ;simp[hk4,hk3,s84,s11,hw];exact hR2 _ _ _ (by simp[hk4,hk3,hk2,hk1]) (by simp) ⟨hn2,hn3,b1,bM,acc,ic,hJ,hc1,hcM,hic,by simp[hk4,hk3,s7'],eic⟩
  rw[c1]at hJ s84;simp only[if_true]at hJ;have hal:=congrArg List.length hJ;simp only[length_append,length_cons]at hal;simp[hk4,hk3,hk2,hk1,s84,s11,hi,hw,s5,s7',eic,b1,z0,z3];refine⟨by unfold Jd;omega,?_⟩;exact hR2 _ _ _ (by simp[hk4,hk3,hk2,hk1]) (by simp) ⟨by omega,by omega,by simp[b1,q1,r1,q4],by simp[bM,w0,w1,w2],acc++[(X7 p)[i]],n2+1,by simpa using hJ,by omega,by omega,by omega,by simp,by simp[Jf]⟩
 rintro st2 h2 n2 R2 hk2 s11 ⟨hn2,hn3,b1,bM,acc,ic,hJ,hc1,hcM,hic,s7',eic⟩ hret2 hX2;simp at hk2;rw[drop_eq_nil_of_le (by omega)]at hJ;simp at hJ;subst hJ;refine Jn (Jq [7] (λs=>s 75 = .bool false) (by simp[hk2,hk1,s5,s11,b1]) ?_);intro Kq hk3 s75;simp at hk3;refine U1 s75 ?_;refine hX2 _ _ _ _ ?_;simp[hk3,s7',eic]
def K6g:Jl:= ⟨10,[.t 4],(Zq [Zi 4 0] (.seq (Zq [Zv 5 0,Zv 6 1,Zb 7 .gtr 5 6] (.cond (.t 7) (Zq [Zv 8 0,Zv 4 8] .ret) .skip)) (Zq [Zv 9 1,Zv 4 9] .ret)))⟩
theorem Jtt:Jh prog f270=some K6g:=by kernel_rfl
def K59:Jl:= ⟨15,[(.c 6 true 2)],(Zq [ZB 3 0,ZR 6] (Zq [Zv 7 1,Zl 8 true 2 3,Zc 9 60 [.t 8],Zv 10 2,Zc 11 63 [.t 9,.t 10],Zc 12 270 [.t 11,(.k (.int .i64 0))],Zx 13 2 7 12,Zl 14 true 2 13,Zs 2 6 14] .ret))⟩
theorem Jna:Jh prog f186=some K59:=by kernel_rfl
theorem Jx6{p:Jo}(h1:Ym p=true){i:Nat}(hi:i<p.Rules.length){f:K3}(hf:Xc p.Functions (p.Rules[i]).Func=some f):mdR p i=Qj p.Rules[i] f:=by
 have hg:p.Rules.getD (i:Int).toNat Fg=p.Rules[i]:=by simp[hi]
 have hin:Kh (i:Int) 0 ((p.Rules.length:Int) - 1)=true:=by simp[Kh];omega
 have hfa:Iv p p.Rules[i]=f:=by unfold Iv;rw[hf];rfl
 unfold mdR Hf;simp only[h1,hin,hg,hfa,Bool.and_self,if_true,Option.getD_some]
theorem Jb1(x y:Int):Holds prog 270 [i64 x,i64 y] (λr=>r=i64 (if x>y then x else y)):=by refine Jp func270 Jtt rfl (by simp[K6g]) ?_;simp[K6g];refine⟨λ_ _=>by omega,λ_ _=>by omega⟩
theorem Jda{name:J9} : ∀{l:List K3}{k:Nat},Xi (λx=>x==name) (l.map (·.Name)) k=Xi (λf:K3=>f.Name==name) l k
 | [],_=>rfl
 |f::l,k=>by simp only[map_cons,Xi];rw[Jda]
theorem Jfa{P:Program}{f:FuncId}{xs:List AV}{h:J8}{n:Nat}{K:AV->J8->Nat->Prop}
 (hA:X9 P f xs h n λr h' _=>idb n r/\(∀id,id<n->h' id=h id)/\K r h n):X9 P f xs h n K:=by
 refine⟨hA.1,λbase w0 w L F vs H hv=>?_⟩;refine(hA.2 base w0 w L F vs H hv).mono ?_;rintro e w' ⟨v,r,L',n',F',h',rfl,H',Y6,hr,hs,hh,hk⟩;refine⟨v,r,Dy n L',n,_,h,rfl,H.cut H' hh,?_,D9 (Xf.cut _ _ _) _ _ _ (Pv _ _ _ hr hs),hk⟩;exact⟨Nat.le_refl _,λid l hid hl=>Y6.old id l hid (F8 hl).2,Y6.size,λb hb ho=>⟨(Y6.block b hb ho).1,λh=>(Y6.block b hb ho).2 h.cut⟩⟩
theorem Jh8{p:Jo}(hp:X2 p<=1048576){b:Rx}{name:J9}(hf:(Xc p.Functions name).isSome=true)(hb:b.Lins.length=p.Functions.length){h:J8}{n:Nat}{K:AV->J8->Nat->Prop}
 (hK:K (.agg (Jb (U6 p b name))) h n):X9 prog 186 [.agg (Jg p),.sl 2 (b.Lins.map Jb),.str name] h n K:=by
 obtain⟨j,hj,hji⟩:=Jkc hf;have hjl:j<b.Lins.length:=by omega
 have hl:U6 p b name=b.Lins[j]:=by unfold U6;rw[hji];simp[hjl]
 rw[hl]at hK;have ne:¬n=n+1/\¬n+1=n/\¬n=n+1+1/\¬n+1=n+1+1:=by omega
 have fr:∀id,id<n->¬id=n/\¬id=n+1/\¬id=n+1+1:=by intro id _;omega
 refine Jfa (U8 func186 Jna rfl (by simp[K59]) ?_);simp[K59,Jg];refine Je (J3k p hp) (by simp[Jg]) ?_;rintro r rfl;simp;refine Je (E3 (X7 p) name) (by simp) ?_;rintro r rfl;have hx:Xi (λx=>x==name) (X7 p) 0=(j:Int):=by unfold X7;rw[Jda,hji]
 simp[hx];refine Je (Jb1 (j:Int) 0) (by simp) ?_;rintro r rfl;have hm:(if (j:Int)>0 then(j:Int)else 0)=j:=by split <;>omega
 rw[hm];simp[hjl,Jb];refine⟨by simp[idb,I9],?_,hK⟩;intro id hid;simp[fr id hid]
theorem Mf{p:Jo}(hp:X2 p<=1048576){b:Rx}{name:J9}(hf:(Xc p.Functions name).isSome=true)(hb:b.Lins.length=p.Functions.length){h:J8}{n:Nat}{K:AV->J8->Nat->Prop}
 (hk:K (.agg (Jb (U6 p b name))) h n):X9 prog 186 [.agg (Jg p),.sl 2 (b.Lins.map Jb),.str name] h n (hK h K):=Jh8 hp hf hb (by simpa using hk)
def Ke7:AC:=(.draw (.op (Zl 33 true 2 2) (.op (Zf 34 0 2) (.op (Zl 35 false 1 34) (.op (Zv 36 8) (.op (Zx 37 4 35 36) (.op (Zf 38 0 37) (.op (Zl 39 false 1 38) (.both (.op (Zc 40 97 [.t 33,.t 39]) (.op (Zv 32 40) (.op (Ze 41 32 0) (.op (Ze 42 32 1) (.op (Zo 9 (.box [(.int .i64 0),(.nil 2)])) (.hop (Zs 2 9 41) [] (.op (Zv 10 42) .fin))))))) (.op (Zo 9 (.box [(.int .i64 0),(.nil 2)])) (.op (Zc 40 97 [.t 33,.t 39]) (.op (Zv 32 40) (.op (Ze 41 32 0) (.op (Ze 42 32 1) (.hop (Zs 2 9 41) [] (.op (Zv 10 42) .fin))))))))))))))))
def Keb:AC:=(.draw (.op (Zf 44 1 3) (.op (Zl 45 false 1 44) (.op (Zv 46 8) (.op (Zx 47 2 45 46) (.op (Zl 48 true 2 47) (.op (Zv 49 7) (.op (Zf 50 0 9) (.op (Zl 51 false 1 50) (.both (.op (Zc 52 99 [.t 49,.t 51]) (.both (.op (Zc 53 98 [.t 48,(.k (.int .i64 (-1))),.t 52]) (.op (Zv 43 53) (.op (Ze 54 43 0) (.op (Ze 55 43 1) (.op (ZR 11) (.hop (Zs 2 11 54) [] (.op (Zv 12 55) .fin))))))) (.op (ZR 11) (.op (Zc 53 98 [.t 48,(.k (.int .i64 (-1))),.t 52]) (.op (Zv 43 53) (.op (Ze 54 43 0) (.op (Ze 55 43 1) (.hop (Zs 2 11 54) [] (.op (Zv 12 55) .fin))))))))) (.op (ZR 11) (.op (Zc 52 99 [.t 49,.t 51]) (.op (Zc 53 98 [.t 48,(.k (.int .i64 (-1))),.t 52]) (.op (Zv 43 53) (.op (Ze 54 43 0) (.op (Ze 55 43 1) (.hop (Zs 2 11 54) [] (.op (Zv 12 55) .fin))))))))))))))))))
def Ke6:AC:=(.reg [Zv 59 6,Zl 60 true 2 9,Zl 61 true 2 11,Zo 62 (.build [(.int .i64 0),(.nil 2),(.int .i64 0),(.nil 1)] [(0,(2,(.t 60))),(2,(2,(.t 61)))]),ZS 63 4 62,ZA 64 64 4 59 63,Zv 6 64])
def Keg:AC:=(.reg [Zl 73 true 2 2,Zl 74 true 2 3,Zv 75 13,Zc 76 100 [.t 73,.t 74,.t 75],Zv 72 76,Ze 77 72 0,Ze 78 72 1,Zo 14 (.box [(.int .i64 0),(.nil 2),(.int .i64 0),(.nil 1)]),Zs 4 14 77,Zv 15 78])
def Ke9:AC:=(.reg [Zv 82 6,Zl 83 true 4 14,ZS 84 4 83,ZA 85 64 4 82 84,Zv 6 85])
def ub0:AC:=(.reg [ZB 2 0,ZB 3 1,Zz 4 4,Zt 5 false])
def ub1:AC:=(Zq [Zl 16 true 2 2,Zl 17 true 2 3,Zc 18 96 [.t 16,.t 17],ZN 19 18] (.cond (.t 19) (Zq [Zo 20 (.bsl 4 []),Zv 4 20,Zt 5 false] .ret) .skip))
def ub2:AC:=(.reg [Zo 21 (.bsl 4 []),Zv 6 21])
def ub3:AC:=(.reg [Zi 7 0])
def ub4:AC:=(Zq [Zf 22 0 3,Zl 23 false 1 22,Zk 24 .eql 23 1] (.cond (.t 24) (.reg [Zi 7 1]) .skip))
def ub5:AC:=(Zq [Zi 8 0] (.blk 0 (.loop (.seq (Zq [Zv 25 8,Zf 26 0 2,Zl 27 false 1 26,Zn 28 27,Zb 29 .lss 25 28] (Zw 29 0)) (.seq (.blk 1 (.seq Ke7 (.seq Keb (.seq (Zq [Zv 56 12,ZN 57 56] (.cond (.t 57) (Zq [Zo 58 (.bsl 4 []),Zv 4 58,Zt 5 false] .ret) .skip))  Ke6)))) (.reg [Zv 30 8,Zk 31 .add 30 1,Zv 8 31]))))))
def ub6:AC:=(Zq [Zi 13 0] (.blk 2 (.loop (.seq (Zq [Zv 65 13,Zf 66 1 2,Zl 67 false 1 66,Zn 68 67,Zb 69 .lss 65 68] (Zw 69 2)) (.seq (.blk 3 (.seq  Keg (.seq (Zq [Zv 79 15,ZN 80 79] (.cond (.t 80) (Zq [Zo 81 (.bsl 4 []),Zv 4 81,Zt 5 false] .ret) .skip))  Ke9))) (.reg [Zv 70 13,Zk 71 .add 70 1,Zv 13 71]))))))
def ub7:AC:=(.reg [Zv 86 6,Zv 4 86,Zt 5 true])
def a31:Jl:=⟨87,[.t 4,.t 5],(.seq ub0 (.seq ub1 (.seq ub2 (.seq ub3 (.seq ub4 (.seq ub5 (.seq ub6 (.seq ub7 .ret))))))))⟩
def qo0:AC:=(.reg [ZB 1 0,Zz 2 4])
def qo1:AC:=(.reg [Zo 13 (.bsl 4 []),Zv 3 13])
def qo2:AC:=(.reg [Zl 14 true 2 1,Zc 15 122 [.t 14],Zv 4 15])
def K6m:AC:=(.draw (.op (Zl 23 true 2 1) (.op (Zv 24 4) (.op (Zv 25 5) (.op (Zx 26 2 24 25) (.op (Zf 27 0 26) (.op (Zl 28 false 1 27) (.both (.op (Zc 29 171 [.t 23,.t 28]) (.op (Zv 22 29) (.op (Ze 30 22 0) (.op (Ze 31 22 1) (.op (ZV 6) (.hop (Zs 6 6 30) [] (.op (Zv 7 31) .fin))))))) (.op (ZV 6) (.op (Zc 29 171 [.t 23,.t 28]) (.op (Zv 22 29) (.op (Ze 30 22 0) (.op (Ze 31 22 1) (.hop (Zs 6 6 30) [] (.op (Zv 7 31) .fin)))))))))))))))
def K6j:AC:=(.draw (.op (Zl 33 true 2 1) (.op (Zl 34 true 2 1) (.op (Zv 35 4) (.op (Zv 36 5) (.op (Zx 37 2 35 36) (.op (Zl 38 true 2 37) (.both (.op (Zc 39 173 [.t 34,.t 38]) (.both (.op (Zc 40 172 [.t 33,.t 39]) (.op (Zv 32 40) (.op (Ze 41 32 0) (.op (Ze 42 32 1) (.op (ZU 8) (.hop (Zs 4 8 41) [] (.op (Zv 9 42) .fin))))))) (.op (ZU 8) (.op (Zc 40 172 [.t 33,.t 39]) (.op (Zv 32 40) (.op (Ze 41 32 0) (.op (Ze 42 32 1) (.hop (Zs 4 8 41) [] (.op (Zv 9 42) .fin))))))))) (.op (ZU 8) (.op (Zc 39 173 [.t 34,.t 38]) (.op (Zc 40 172 [.t 33,.t 39]) (.op (Zv 32 40) (.op (Ze 41 32 0) (.op (Ze 42 32 1) (.hop (Zs 4 8 41) [] (.op (Zv 9 42) .fin))))))))))))))))
def K8p:AC:=(.draw (.op (Zl 51 true 6 6) (.op (Zf 52 3 8) (.op (Zl 53 false 1 52) (.op (Zv 54 10) (.op (Zx 55 2 53 54) (.op (Zl 56 true 2 55) (.op (Zv 57 4) (.op (Zv 58 5) (.op (Zx 59 2 57 58) (.op (Zf 60 1 59) (.op (Zl 61 false 1 60) (.both (.op (Zc 62 174 [.t 51,.t 56,.t 61]) (.op (Zv 50 62) (.op (Ze 63 50 0) (.op (Ze 64 50 1) (.op (ZR 11) (.hop (Zs 2 11 63) [] (.op (Zv 12 64) .fin))))))) (.op (ZR 11) (.op (Zc 62 174 [.t 51,.t 56,.t 61]) (.op (Zv 50 62) (.op (Ze 63 50 0) (.op (Ze 64 50 1) (.hop (Zs 2 11 63) [] (.op (Zv 12 64) .fin))))))))))))))))))))
def K5h:AC:=(.draw (.op (Zv 71 3) (.op (Zf 72 0 6) (.op (Zl 73 true 2 72) (.op (Zl 75 true 2 11) (.op (Zc 74 175 [.t 73]) (.op (Zo 76 (.build [(.int .i64 0),(.nil 2),(.int .i64 0),(.nil 1)] [(0,(2,(.t 74))),(2,(2,(.t 75)))])) (.hop (ZS 77 4 76) [] (.hop (ZA 78 64 4 71 77) [] (.hop (Zv 3 78) [] .fin))))))))))
def qoi:AC:=(Zq [Zi 10 0] (.blk 2 (.loop (.seq (Zq [Zv 43 10,Zf 44 3 8,Zl 45 false 1 44,Zn 46 45,Zb 47 .lss 43 46] (Zw 47 2)) (.seq (.blk 3 (.seq K8p (.seq (Zq [Zv 65 12,ZN 66 65] (.cond (.t 66) (.reg [Zf 67 0 6,Zf 68 0 67,Zl 69 false 1 68,Zc 70 99 [(.k (.int .i64 (-1))),.t 69],Zs 2 11 70]) .skip)) K5h))) (.reg [Zv 48 10,Zk 49 .add 48 1,Zv 10 49]))))))
def qo3:AC:=(Zq [Zi 5 0] (.blk 0 (.loop (.seq (Zq [Zv 16 5,Zv 17 4,Zn 18 17,Zb 19 .lss 16 18] (Zw 19 0)) (.seq (.blk 1 (.seq K6m (.seq K6j qoi))) (.reg [Zv 20 5,Zk 21 .add 20 1,Zv 5 21]))))))
def qo4:AC:=(.reg [Zv 79 3,Zv 2 79])
def a92:Jl:=⟨80,[.t 2],(.seq qo0 (.seq qo1 (.seq qo2 (.seq qo3 (.seq qo4 .ret)))))⟩
theorem Jyw:Jh prog f92=some a92:=by kernel_rfl
section
variable {ks:List Kt}{s:Jm}{h h':J8}{n:Nat}{Q:Xb}
theorem Jiy{md:X5}{t:Jc}{acc:List X1}{v:AV}{k6 k11:Nat}(s3:s 3=v)(s6:s 6 = .ptr k6 0 0)(s11:s 11 = .ptr k11 0 0)(e6:h k6=some ⟨true,6,[Kz md]⟩)(L:V3 t k11 h n)(B:Kj 0 4 (acc.map Kv) v h n)(hw:U9 md.System.Rows<=1048576)(hl:acc.length<=3000000)
 (hK:∀s' h' n',(∀j∈[1,2,4,5,6,8,10],s' j=s j)->n<=n'->(∀id z rows,id<n->h id=some ⟨true,z,rows⟩->h' id=h id)->Kj 0 4 ((acc++[(⟨md.System,t⟩:X1)]).map Kv) (s' 3) h' n'->Jt prog ks .normal s' h' n' Q):rC prog K5h ks s h n Q:=by
 obtain⟨q,hkn,hqn,hkb,hqb⟩:=L;have ne:¬q=n/\¬n=q/\¬n=n+1/\¬n+1=n/\¬n+1=q/\¬q=n+1:=by omega
 have fr:∀id,id<n->¬id=n/\¬id=n+1/\¬id=n+1+1:=by intro id _;omega
 have hqv:∀l,v ≠ .ref q 0 l:=λl e=>by have:=(B.lt e).2.2.1;rw[hqb]at this;simp at this
 simp[K5h,s3,s6,s11,e6,hkb];refine Jx (J6u md.System hw) (by simp) ?_;rintro r rfl;simp[I7,hqb,ne];refine Q7 (rows:=acc.map Kv) (rows2:=[[.int .i64 md.System.N,.us 2 (md.System.Rows.map Ja),.int .i64 t.Const,.us 1 (Ji t.Coeffs)]]) (B.keep (n':=n+1+1) (by omega) λid _ hid e=>?_) (by simp) (λl e=>by have:=(B.lt e).2.1;omega) (by omega) (by simp;unfold Jd;omega) ?_
 ·have:¬id=q:=λe'=>hqv _ (by rw[<-e'];exact e)
  simp[fr id hid,this]
 intro h1 f1 f2;simp;refine hK _ _ _ (by simp) (by omega) ?_ ?_
 ·intro id z rows h1' h3';have:¬id=q:=by rintro rfl;rw[hqb]at h3';simp at h3'
  rw[f2 id (by omega) (by omega) λl e=>B.not_box h3' e];simp[fr id h1',this]
 ·simp;exact .inr ⟨n+2,by omega,by omega,by simp,by simp[f1,Kv]⟩
theorem Ji3{p:Jo}(hp:X2 p<=1048576){i x y:Nat}(hi:i<(K1 p).length)(he:(K1 p)[i]=⟨x,y⟩)(s1:s 1 = .ptr 0 0 0)(s4:s 4 = .sl 2 ((K1 p).map Kr))(s5:s 5 = .int .i64 i)(e0:h 0=some ⟨true,2,[Jg p]⟩)
 (hK:∀s' h' ,(∀j∈[1,2,3,4,5],s' j=s j)->s' 6 = .ptr n 0 0->h' n=some ⟨true,6,[Kz (Uc p ⟨x,y⟩)]⟩->(∀id,id<n->h' id=h id)->Jt prog ks .normal s' h' (n+1) Q):rC prog K6m ks s h n Q:=by
 have hmd:(Hf p x).getD Dd=Uc p ⟨x,y⟩:=rfl;simp[K6m,s1,s4,s5,e0,hi,he,Kr];have fr:∀id,id<n->¬id=n:=by intro id _;omega
 constructor
 ·refine Ez (J58 p hp x) (by simp) ?_;rintro _ rfl;unfold Hp;rw[hmd];generalize Uc p ⟨x,y⟩=md at *;simp;exact hK _ _ (by simp) (by simp) (by simp) λid hid=>by simp[fr id hid]
 ·refine Ez (J58 p hp x) (by simp) ?_;rintro _ rfl;unfold Hp;rw[hmd];generalize Uc p ⟨x,y⟩=md at *;simp;exact hK _ _ (by simp) (by simp) (by simp) λid hid=>by simp[fr id hid]
theorem Jj4{p:Jo}(hp:X2 p<=1048576){i x y:Nat}(hi:i<(K1 p).length)(he:(K1 p)[i]=⟨x,y⟩)(hx:x<p.Rules.length)(hy:y<(p.Rules[x]).Calls.length)(s1:s 1 = .ptr 0 0 0)(s4:s 4 = .sl 2 ((K1 p).map Kr))(s5:s 5 = .int .i64 i)(e0:h 0=some ⟨true,2,[Jg p]⟩)
 (hK:∀s' h' ,(∀j∈[1,2,3,4,5,6],s' j=s j)->s' 8 = .ptr n 0 0->h' n=some ⟨true,4,[K5 ((Xc p.Functions ((p.Rules[x]).Calls[y]).Func).getD Yt)]⟩->(∀id,id<n->h' id=h id)->Jt prog ks .normal s' h' (n+1) Q):rC prog K6j ks s h n Q:=by
 have fr:∀id,id<n->¬id=n:=by intro id _;omega
 simp[K6j,s1,s4,s5,e0,hi,he];constructor
 ·skip;refine Jx (Fq p hx hy) (by simp[Jg]) ?_;rintro r rfl;generalize((p.Rules[x]).Calls[y]).Func=nm at *;simp;constructor
  ·refine Ez (C7 p nm hp) (by simp) ?_;rintro _ rfl;unfold Qz;generalize(Xc p.Functions nm).getD Yt=g at *;simp;exact hK _ _ (by simp) (by simp) (by simp) λid hid=>by simp[fr id hid]
  ·refine Ez (C7 p nm hp) (by simp) ?_;rintro _ rfl;unfold Qz;generalize(Xc p.Functions nm).getD Yt=g at *;simp;exact hK _ _ (by simp) (by simp) (by simp) λid hid=>by simp[fr id hid]
 ·skip;refine Jx (Fq p hx hy) (by simp[Jg]) ?_;rintro r rfl;generalize((p.Rules[x]).Calls[y]).Func=nm at *;simp
  ·refine Ez (C7 p nm hp) (by simp) ?_;rintro _ rfl;unfold Qz;generalize(Xc p.Functions nm).getD Yt=g at *;simp;exact hK _ _ (by simp) (by simp) (by simp) λid hid=>by simp[fr id hid]
theorem Jiv{md:X5}{l:Jc}{g:K3}{el:List Xn}{i j k6 k8:Nat}(hi:i<el.length)(hj:j<g.Pre.length)(s4:s 4 = .sl 2 (el.map Kr))(s5:s 5 = .int .i64 i)(s6:s 6 = .ptr k6 0 0)(s8:s 8 = .ptr k8 0 0)(s10:s 10 = .int .i64 j)(e6:h k6=some ⟨true,6,[Kz md]⟩)(e8:h k8=some ⟨true,4,[K5 g]⟩)(hl:g.Pre[j]=l)
 (hK:∀s' h' n',(∀j∈[1,2,3,4,5,6,8,10],s' j=s j)->n<=n'->s' 12 = .bool (Y9 md l (el[i]).Call).isSome->(∃k,s' 11 = .ptr k 0 0/\n<=k/\V3 ((Y9 md l (el[i]).Call).getD Jj) k h' n')->(∀id,id<n->h' id=h id)->Jt prog ks .normal s' h' n' Q):rC prog K8p ks s h n Q:=by
 have fr:∀id,id<n->¬id=n/\¬id=n+1:=by intro id _;omega
 have ne:¬n=n+1/\¬n+1=n:=by omega
 subst hl;simp[K8p,s4,s5,s6,s8,s10,e6,e8,hi,hj,Kr,K5];generalize el[i]=e at *;constructor
 ·skip;refine Jx (Tu md (g.Pre[j]'hj) e.Call) (by simp) ?_;rintro r rfl;rw[Xm];generalize(Y9 md g.Pre[j] e.Call).getD Jj=t at *;generalize(Y9 md g.Pre[j] e.Call).isSome=b at *;simp[Ja];exact hK _ _ _ (by simp) (by omega) (by simp) ⟨n+1,by simp,by omega,n,by omega,by omega,by simp,by simp⟩ λid hid=>by simp[fr id hid]
 ·skip;refine Jx (Tu md (g.Pre[j]'hj) e.Call) (by simp) ?_;rintro r rfl;rw[Xm];generalize(Y9 md g.Pre[j] e.Call).getD Jj=t at *;generalize(Y9 md g.Pre[j] e.Call).isSome=b at *;simp[Ja];exact hK _ _ _ (by simp) (by omega) (by simp) ⟨n,by simp,by omega,n+1,by omega,by omega,by simp,by simp⟩ λid hid=>by simp[fr id hid]
theorem Jrv{md:X5}{el:List Xn}{i:Nat}{g:K3}{acc0 T:List X1}{k6 k8:Nat}{pr:List (List AV)}(hi:i<el.length)(s1:s 1 = .ptr 0 0 0)(s4:s 4 = .sl 2 (el.map Kr))(s5:s 5 = .int .i64 i)(s6:s 6 = .ptr k6 0 0)(s8:s 8 = .ptr k8 0 0)(hk6:k6<n)(hk8:k8<n)(hk0:0<n)(e0:h 0=some ⟨true,2,pr⟩)(e6:h k6=some ⟨true,6,[Kz md]⟩)(e8:h k8=some ⟨true,4,[K5 g]⟩)
 (B:Kj 0 4 (acc0.map Kv) (s 3) h n) (hw:U9 md.System.Rows<=1048576) (hT:acc0++g.Pre.map (λl=>Ok md l (el[i]).Call)=T) (hTl:T.length<=2097152) (hgl:g.Pre.length<=1048576)
 (hK:∀s' h' n',(∀j∈[1,2,4,5],s' j=s j)->0<n'->h' 0=some ⟨true,2,pr⟩->Kj 0 4 (T.map Kv) (s' 3) h' n'->Jt prog ks .normal s' h' n' Q):rC prog qoi ks s h n Q:=by
 simp[qoi]
 refine Ka [1,2,4,5,6,8] 10 g.Pre.length (λj s h m=>k6<m/\k8<m/\0<m/\h 0=some ⟨true,2,pr⟩/\h k8=some ⟨true,4,[K5 g]⟩/\h k6=some ⟨true,6,[Kz md]⟩/\∃acc,Kj 0 4 (acc.map Kv) (s 3) h m/\acc++(g.Pre.drop j).map (λl=>Ok md l (el[i]).Call)=T) (by unfold Jd;omega) (by simp)
  ⟨hk6,hk8,hk0,e0,e8,e6,acc0,by simpa using B,by simpa using hT⟩ ?_ ?_
 ·rintro j st h m R hj hg hk s10 hw' ⟨m6,m8,m0,e0,e8,e6,acc,B,hJ⟩ hR _ _;simp at hk;rw[drop_eq_getElem_cons hj,map_cons]at hJ;have hal:=congrArg List.length hJ;simp at hal;refine Jn (Jq [1,2,3,4,5,6,8,10] (λs=>s 47 = .bool true) (by simp[hk,s8,s10,e8,K5,hj]) ?_);intro Jv hk1 s47;simp at hk1;refine U2 s47 (Jn (Xd ?_));generalize hl:g.Pre[j]=l at *;refine Jn (Jiv (md:=md) (l:=l) (g:=g) (el:=el) (i:=i) (j:=j) (k6:=k6) (k8:=k8) hi hj (by simp[hk1,hk,s4]) (by simp[hk1,hk,s5]) (by simp[hk1,hk,s6]) (by simp[hk1,hk,s8]) (by simp[hk1,s10]) e6 e8 hl ?_);rintro Kq h3 n3 hk3 hn3 s12 ⟨k11,s11,hk11,q,y1,y2,y3,y4⟩ hfr3;simp at hk3;generalize(el[i]).Call=cl at *;have z6:Kq 6 = .ptr k6 0 0:=by simp[hk3,hk1,hk,s6]
  have d6:=hfr3 k6 m6;rw[e6]at d6;refine W0 (Xu [1,2,3,4,5,6,8,10,11] (λs h4 n4=>n3<=n4/\V3 ((Y9 md l cl).getD (Jr (-1) md.System.N)) k11 h4 n4/\∀id,id<m->h4 id=h id) ?_ ?_)
  ·cases ht:Y9 md l cl with
   |some t=>
    rw[ht]at s12 y3 y4;simp[s12]
    exact⟨⟨q,y1,y2,y3,y4⟩,hfr3⟩
   |none=>
    rw[ht]at s12;simp only[Option.isSome_none]at s12;have nk:¬k11=n3/\¬n3=k11:=by omega
    simp[s12,z6,d6,Kz];refine Je (Gi (-1) md.System.N) (by simp) ?_;rintro r rfl;generalize Jr (-1) md.System.N=t;simp[Ja,s11,nk,y3];refine⟨⟨n3,by omega,by omega,by simp,by simp[nk]⟩,λid hid=>?_⟩;have:¬id=k11/\¬id=n3:=by omega
    simp[this,hfr3 id hid]
  rintro st4 h4 n4 hk4 ⟨hn4,L4,hfr4⟩;simp at hk4;have B4:Kj 0 4 (acc.map Kv) (st 3) h4 n4:=B.keep (by omega) λid _ hid _=>hfr4 id hid
  refine Jiy (md:=md) (t:=(Y9 md l cl).getD (Jr (-1) md.System.N)) (acc:=acc) (v:=st 3) (k6:=k6) (k11:=k11) (by simp[hk4,hk3,hk1]) (by simp[hk4,z6]) (by simp[hk4,s11]) (by rw[hfr4 k6 m6,e6]) L4 B4 hw (by omega) ?_;intro Yz h5 n5 hk5 hn5 bx5 B5;simp at hk5;simp[hk5,hk4,hk3,hk1,s10,hw'];have f0:=hfr4 0 m0;have f8:=hfr4 k8 m8;have f6:=hfr4 k6 m6;rw[e0]at f0;rw[e8]at f8;rw[e6]at f6;refine hR _ _ _ (by simp[hk5,hk4,hk3,hk1,hk]) (by simp) ⟨by omega,by omega,by omega,by rw[bx5 0 _ _ (by omega) f0,f0],by rw[bx5 k8 _ _ (by omega) f8,f8],by rw[bx5 k6 _ _ (by omega) f6,f6],acc++[Ok md l cl],?_,by simpa using hJ⟩;simp;simpa[Ok]using B5
 ·rintro st h m R hk s10 ⟨m6,m8,m0,e0,e8,e6,acc,B,hJ⟩ _ hX;simp at hk;rw[drop_eq_nil_of_le (by omega)]at hJ;simp at hJ;subst hJ;refine Jn (Jq [1,2,3,4,5] (λs=>s 47 = .bool false) (by simp[hk,s8,s10,e8,K5]) ?_);intro Jv hk1 s47;simp at hk1;refine U1 s47 ?_;refine hX _ _ _ _ ?_;simp;refine hK _ _ _ (by simp[hk1,hk]) m0 e0 ?_;rw[hk1.2.2.1];exact B
end
theorem J1z(p:Jo)(hp:X2 p<=1048576):Holds prog 92 [.agg (Jg p)] (λx=>x = .us 4 ((Qi p).map Kv)):=by
 have hTl:=Mj p hp;have hel:=Sa p hp;refine Jp func92 Jyw rfl (by simp[a92]) ?_;simp[a92,qo0,qo1,qo2,Jg];refine E2 (Sz p hp) (by simp[Jg]) ?_;rintro _ rfl;simp[qo3];unfold Qi at hTl⊢;generalize hT:(K1 p).flatMap (Of p)=T at *;refine Ka [1,4] 5 (K1 p).length (λi s h m=>0<m/\h 0=some ⟨true,2,[Jg p]⟩/\∃acc,Kj 0 4 (acc.map Kv) (s 3) h m/\acc++((K1 p).drop i).flatMap (Of p)=T) (by unfold Jd;omega) (by simp) ⟨by simp,by simp[Jg],[],.inr ⟨1,by omega,by omega,by simp,by simp⟩,by simpa using hT⟩ ?_ ?_
 ·rintro i st h m R hi hg hk s5 hw' ⟨m0,e0,acc,B,hJ⟩ hR _ _;simp at hk;have hpo:=Je4 hi;rw[drop_eq_getElem_cons hi,flatMap_cons]at hJ;obtain⟨x,y,hx,hy,he,hf,ht0⟩:=Sc hi;rw[<-List.append_assoc]at hJ;generalize hrest:List.flatMap (Of p) (List.drop (i+1) (K1 p))=rest at hJ;have hal:=congrArg List.length hJ;simp only[length_append]at hal;refine Jn (Jq [1,3,4,5] (λs=>s 19 = .bool true) (by simp[hk,s5,hi]) ?_);intro Jv hk1 s19;simp at hk1;refine U2 s19 (Jn (Xd ?_));have hedge:(Of p (K1 p)[i])=((Gp p ⟨x,y⟩).map λl=>Ok (Uc p ⟨x,y⟩) l (y:Int)):=by rw[he];rfl
  rw[hedge]at hJ hal;have hpa:Gp p ⟨x,y⟩=((Xc p.Functions ((p.Rules[x]).Calls[y]).Func).getD Yt).Pre:=by unfold Gp;rw[ht0]
  have hgl:(Gp p ⟨x,y⟩).length<=1048576:=by
   rw[hpa]
   cases hfn:Xc p.Functions ((p.Rules[x]).Calls[y]).Func with
   |none=>simp[Yt]
   |some g=>have:=(Mc hpo hfn).2.2.2;simp only[Option.getD_some];omega
  have hmsz:=Sn hpo (k:=y) hx;have hcall:((K1 p)[i]).Call=(y:Int):=by rw[he]
  refine Jn (Ji3 hp hi he (by simp[hk1,hk]) (by simp[hk1,hk]) (by simp[hk1,s5]) e0 ?_);intro st2 h2 hk2 s6 em hfr2;simp at hk2;refine W0 (Jn (Jj4 hp hi he hx hy (by simp[hk2,hk1,hk]) (by simp[hk2,hk1,hk]) (by simp[hk2,hk1,s5]) (by rw[hfr2 0 m0,e0]) ?_));intro Kq h3 hk3 s8 e8 hfr3;simp at hk3;refine W0 (Jrv (md:=Uc p ⟨x,y⟩) (el:=K1 p) (i:=i) (g:=(Xc p.Functions ((p.Rules[x]).Calls[y]).Func).getD Yt) (acc0:=acc) (T:=acc++(Gp p ⟨x,y⟩).map λl=>Ok (Uc p ⟨x,y⟩) l (y:Int)) (k6:=m) (k8:=m+1) (pr:=[Jg p]) hi (by simp[hk3,hk2,hk1,hk]) (by simp[hk3,hk2,hk1,hk]) (by simp[hk3,hk2,hk1,s5]) (by simp[hk3,s6]) s8 (by omega) (by omega) (by omega) (by rw[hfr3 0 (by omega),hfr2 0 m0,e0]) (by rw[hfr3 m (by omega),em]) e8 ?_ (by omega) (by rw[hpa,hcall]) (by simp only[length_append];omega) (by rw[<-hpa];exact hgl) ?_)
  ·have:Kq 3=st 3:=by simp[hk3,hk2,hk1]
   rw[this];exact B.keep (by omega) λid _ hid _=>by rw[hfr3 id (by omega),hfr2 id hid]
  intro st6 h6 n6 hk6 hn6 e06 B6;simp at hk6;simp[hk6,hk3,hk2,hk1,s5,hw'];refine hR _ _ _ (by simp[hk6,hk3,hk2,hk1,hk]) (by simp) ⟨by omega,e06,_,?_,by rw[hrest];exact hJ⟩;simp only[Fh (show ¬3=5 by omega),Fh (show ¬3=20 by omega),Fh (show ¬3=21 by omega)];exact B6
 ·rintro st h m R hk s5 ⟨m0,e0,acc,B,hJ⟩ _ hX;simp at hk;rw[drop_eq_nil_of_le (by omega)]at hJ;simp at hJ;subst hJ;refine Jn (Jq [3] (λs=>s 19 = .bool false) (by simp[hk,s5]) ?_);intro Jv hk1 s19;simp at hk1;refine U1 s19 ?_;refine hX _ _ _ _ ?_;obtain⟨h2,d1,_⟩:=B.dt;simp[qo4,hk1,-dt,-Va,d1]
theorem Fb{p:Jo} : (K1 p).length<=16:=by
 unfold K1;split
 ·rename_i hp
  have hf:p.Rules.length<=8/\∀r∈p.Rules,r.Calls.length<=2:=by
   refine⟨?_,λr hr=>?_⟩
   ·unfold Ym at hp;simp only[Bool.and_eq_true,decide_eq_true_eq]at hp;exact hp.1.2
   ·obtain⟨f,_,R⟩:=Fk hp hr;exact R.ncalls
  have key:∀(l:List K0) (i:Nat),(∀r∈l,r.Calls.length<=2)->(Qt i l).length<=2*l.length:=by
   intro l
   induction l with
   |nil=>intro i _;simp[Qt]
   |cons r l ih=>
    intro i h;have h1:=ih (i+1) λx hx=>h x (List.mem_cons_of_mem _ hx)
    have h2:=h r mem_cons_self;have h3:(Ol i r).length=r.Calls.length:=by simp[Ol]
    simp only[Qt,length_append,length_cons,h3];omega
  have:=key p.Rules 0 hf.2;unfold Ii;omega
 ·simp
theorem Ji6(md:X5)(l:Jc)(c:Int)(n:Int):((Y9 md l c).getD (Jr (-1) n)).Coeffs.length<=8:=by
 cases h:Y9 md l c with
 |none=>exact Mn _ _
 |some t=>
  have:=Jhn md l c;rw[h]at this;unfold F0 at this;rw[Ea]at this;exact this
theorem Jfe{p:Jo}(h1:Ym p=true){i k:Nat}(hi:i<p.Rules.length):(Uc p ⟨i,k⟩).System.Rows.length<=10/\∀l∈(Uc p ⟨i,k⟩).System.Rows,l.Coeffs.length<=8:=by
 obtain⟨f,hf,R⟩:=Fk h1 (getElem_mem hi);have hg:p.Rules.getD (i:Int).toNat Fg=p.Rules[i]:=by simp[hi]
 have hin:Kh (i:Int) 0 ((p.Rules.length:Int) - 1)=true:=by simp[Kh];omega
 have hfa:Iv p p.Rules[i]=f:=by unfold Iv;rw[hf];rfl
 have:Uc p ⟨i,k⟩=Qj p.Rules[i] f:=by unfold Uc Hf;simp only[h1,hin,hg,hfa,Bool.and_self,if_true,Option.getD_some]
 rw[this];obtain⟨q1,q2,_⟩:=J6v h1 R;exact⟨q1,q2⟩
theorem J99(p:Jo):(Qi p).length<=32/\∀o∈Qi p,J0f o<=100:=by
 have h1:=Fb (p:=p)
 have h2:∀l:List Xn,(∀e∈l,(Of p e).length<=2)->(l.flatMap (Of p)).length<=2*l.length:=by
  intro l
  induction l with
  |nil=>intro _;simp
  |cons e l ih=>
   intro h;have g1:=ih λx hx=>h x (List.mem_cons_of_mem _ hx)
   have g2:=h e mem_cons_self;simp only[flatMap_cons,length_append,length_cons];omega
 have hok:∀e∈K1 p,Ym p=true:=λe he=>by
  unfold K1 at he;split at he
  ·assumption
  ·cases he
 refine⟨?_,?_⟩
 ·have h3:=h2 (K1 p) λe he=>by
   simp only[Of,List.length_map,Gp]
   cases hf:Xc p.Functions (Ob p e)with
   |none=>simp[Yt]
   |some g=>exact(Mc (hok e he) hf).2.2.2
  unfold Qi;omega
 ·intro o ho;unfold Qi at ho;obtain⟨e,he,ho⟩:=List.mem_flatMap.1 ho;have hpo:=hok e he;obtain⟨l,_,rfl⟩:=mem_map.1 ho;have he':e∈Ii p:=by unfold K1 at he;rw[hpo]at he;exact he
  obtain⟨i,k,hi,hk,rfl⟩:=Nq he';obtain⟨q1,q2⟩:=Jfe hpo (k:=k) hi;have q3:=Ji6 (Uc p ⟨i,k⟩) l (k:Int) (Uc p ⟨i,k⟩).System.N;have q4:=Jhb _ q2;show J0f (Ok (Uc p ⟨i,k⟩) l (k:Int))<=100
  unfold J0f Ok;simp only[Ea];omega
def K5b:Jl:= ⟨62,[(.c 10 true 2),.t 11],(Zq [ZB 5 0,ZB 6 1,ZB 8 3,ZR 10,Zt 11 false] (Zq [Zl 19 true 2 6,Zf 20 2 5,Zl 21 false 1 20,Zf 22 0 5,Zf 23 0 22,Zl 24 false 1 23,Zc 25 191 [.t 19,.t 21,.t 24],Zv 18 25,Ze 26 18 0,Ze 27 18 1,ZR 12,Zs 2 12 26,Zv 13 27] (Zq [Zl 29 true 6 5,Zl 30 true 2 8,Zv 31 2,Zc 32 177 [.t 29,.t 30,.t 31],Zv 28 32,Ze 33 28 0,Ze 34 28 1,ZR 14,Zs 2 14 33,Zv 15 34] (.seq (Zq [Zv 35 13,ZN 36 35,Zv 37 36,Zg 38 37 false (.mv (.t 15)),Zg 39 37 false (.un .not (.t 38)),ZP 40 37 39,Zv 41 40,Zg 42 41 false (.mv (.t 4)),Zg 43 41 false (.call (.k (.fn (.func 232) [] [])) [.t 42]),Zg 44 41 false (.un .not (.t 43)),ZP 45 41 44] (.cond (.t 45) (Zq [Zo 46 (.build [(.int .i64 0),(.nil 1)] []),Zs 2 10 46,Zt 11 false] .ret) .skip)) (Zq [Zl 48 true 2 12,Zl 49 true 2 14,Zc 50 193 [.t 48,(.k (.int .i64 (-1))),.t 49],Zv 47 50,Ze 51 47 0,Ze 52 47 1,ZR 16,Zs 2 16 51,Zv 17 52] (.seq (Zq [Zv 53 17,ZN 54 53] (.cond (.t 54) (Zq [Zo 55 (.build [(.int .i64 0),(.nil 1)] []),Zs 2 10 55,Zt 11 false] .ret) .skip)) (Zq [Zl 56 true 2 16,Zv 57 4,Zo 58 (.un .neg (.t 57)),Zc 59 189 [.t 56,.t 58],Ze 60 59 0,Ze 61 59 1,Zs 2 10 60,Zv 11 61] .ret)))))))⟩
theorem Jml:Jh prog f208=some K5b:=by kernel_rfl
def K7n:Jl:= ⟨68,[(.c 10 true 2),.t 11],(Zq [ZB 5 0,ZB 6 1,ZB 8 3,ZR 10,Zt 11 false] (Zq [Zl 21 true 6 5,Zl 22 true 2 6,Zf 23 2 5,Zl 24 false 1 23,Zc 25 185 [.t 21,.t 22,.t 24],Zv 20 25,Ze 26 20 0,Ze 27 20 1,ZR 12,Zs 2 12 26,Zv 13 27] (Zq [Zl 29 true 6 5,Zl 30 true 2 8,Zv 31 2,Zc 32 174 [.t 29,.t 30,.t 31],Zv 28 32,Ze 33 28 0,Ze 34 28 1,ZR 14,Zs 2 14 33,Zv 15 34] (Zq [Zl 36 true 2 12,Zl 37 true 2 14,Zc 38 98 [.t 36,(.k (.int .i64 (-1))),.t 37],Zv 35 38,Ze 39 35 0,Ze 40 35 1,ZR 16,Zs 2 16 39,Zv 17 40] (.seq (.draw (.op (Zl 42 true 2 16) (.op (Zv 43 4) (.op (Zf 44 1 16) (.op (Zl 45 false 1 44) (.op (Zn 46 45) (.both (.op (Zo 47 (.mks 8 [(.int .i64 0)] (.t 46) (.t 46))) (.op (Zo 48 (.build [(.int .i64 0),(.nil 1)] [(0,(1,(.t 43))),(1,(1,(.t 47)))])) (.both (.op (Zc 49 98 [.t 42,(.k (.int .i64 (-1))),.t 48]) (.op (Zv 41 49) (.op (Ze 50 41 0) (.op (Ze 51 41 1) (.op (ZR 18) (.hop (Zs 2 18 50) [] (.op (Zv 19 51) .fin))))))) (.op (ZR 18) (.op (Zc 49 98 [.t 42,(.k (.int .i64 (-1))),.t 48]) (.op (Zv 41 49) (.op (Ze 50 41 0) (.op (Ze 51 41 1) (.hop (Zs 2 18 50) [] (.op (Zv 19 51) .fin)))))))))) (.op (ZR 18) (.op (Zo 47 (.mks 8 [(.int .i64 0)] (.t 46) (.t 46))) (.op (Zo 48 (.build [(.int .i64 0),(.nil 1)] [(0,(1,(.t 43))),(1,(1,(.t 47)))])) (.op (Zc 49 98 [.t 42,(.k (.int .i64 (-1))),.t 48]) (.op (Zv 41 49) (.op (Ze 50 41 0) (.op (Ze 51 41 1) (.hop (Zs 2 18 50) [] (.op (Zv 19 51) .fin)))))))))))))))) (.seq (Zq [Zv 52 13,ZN 53 52,Zv 54 53,Zg 55 54 false (.mv (.t 15)),Zg 56 54 false (.un .not (.t 55)),ZP 57 54 56,Zv 58 57,Zg 59 58 false (.mv (.t 17)),Zg 60 58 false (.un .not (.t 59)),ZP 61 58 60,Zv 62 61,Zg 63 62 false (.mv (.t 19)),Zg 64 62 false (.un .not (.t 63)),ZP 65 62 64] (.cond (.t 65) (Zq [Zo 66 (.build [(.int .i64 0),(.nil 1)] []),Zs 2 10 66,Zt 11 false] .ret) .skip)) (Zq [Zl 67 true 2 18,Zs 2 10 67,Zt 11 true] .ret)))))))⟩
theorem Jmm:Jh prog f200=some K7n:=by kernel_rfl
@[simp] theorem Kb7(m:Nat):Yl (List.replicate m [AV.int .i64 0])=List.replicate m [AV.int .i64 0]:=by rw[Wx];simp[Yw,dr]
theorem Jq3(z:Jc)(k:Int):K9 z (-1) ⟨k,List.replicate z.Coeffs.length 0⟩=if Kx k then Vs z (-k)else Option.none:=by
 cases hz:K8 z z.Coeffs.length
 ·unfold K9 Vs;simp[hz]
 have hl:=Wj hz;cases hk:Kx k
 ·have hb:K8 ⟨k,List.replicate z.Coeffs.length 0⟩ z.Coeffs.length=false:=by simp[K8,hk]
  unfold K9;simp[hb]
 have hm1:Kx (-1)=true:=by decide
 have hk':Kx (-k)=true:=by rw[Oh]at hk⊢;omega
 have hall:z.Coeffs.all Kx=true:=by unfold K8 at hz;simp only[Bool.and_eq_true]at hz;exact hz.2
 have hmul:Y1 (-1) k=(-k,true):=by
  have h:(-1:Int)*k = -k:=by omega
  unfold Y1;rw[h,hm1,hk,hk'];rfl
 have h1:U3 z.Const (-1) k=if (Uz z.Const (-k)).2 then some (Uz z.Const (-k)).1 else Option.none:=by unfold U3;rw[hmul];simp
 have hb:K8 ⟨k,List.replicate z.Coeffs.length 0⟩ z.Coeffs.length=true:=by simp[K8,Kh,hk];exact⟨by omega,.inr (by decide)⟩
 have h0:Kx 0=true:=by decide
 have hzero:∀c,Kx c=true->U3 c (-1) 0=some c:=λc hc=>by
  have hmul0:Y1 (-1) 0=(0,true):=by decide
  unfold U3;rw[hmul0];simp[Uz,hc,h0]
 have hZ:U4 z (-1) ⟨k,List.replicate z.Coeffs.length 0⟩=z.Coeffs.map some:=by
  unfold U4;refine List.ext_getElem (by simp) λi h1 h2=>?_
  simp;exact hzero _ (List.all_eq_true.1 hall _ (getElem_mem _))
 have hO:Dg z (-1) ⟨k,List.replicate z.Coeffs.length 0⟩=true:=by unfold Dg;rw[hZ];simp
 unfold K9 Vs;rw[hz,hb,hO,hZ,hm1];simp only[h1];cases(Uz z.Const (-k)).2 <;>simp[Function.comp_def]
set_option maxHeartbeats 1000000 in
theorem J7n(m:X5)(a:Jc)(call:Int)(b:Jc)(k:Int):Holds prog 208 [.agg (Kz m),.agg (Jb a),i64 call,.agg (Jb b),i64 k] (λr=>r=Ku (Ib m a call b k)):=by
 refine Jp func208 Jml rfl (by simp[K5b]) ?_;simp[K5b,Jb,Kz];unfold Ib;refine Je (Ta a m.Params m.System.N) (by simp[Jb]) ?_;rintro r rfl;rw[Xm (Yb a m.Params m.System.N)];generalize hb1:(Yb a m.Params m.System.N).isSome=b1;simp[Ja];refine Je (J3x m b call) (by simp[Jb,Kz]) ?_;rintro r rfl;rw[Xm (Y9 m b call)];generalize hb2:(Y9 m b call).isSome=b2;simp[Ja];cases b1
 ·simp[Ku,Jj,Ja,Ji]
 cases b2
 ·simp[Ku,Jj,Ja,Ji]
 simp;refine Je (Gr k) (by simp) ?_;rintro r rfl;cases h3:Kx k
 ·simp[Ku,Jj,Ja,Ji]
 simp;refine Je (If ((Yb a m.Params m.System.N).getD Jj) (-1) ((Y9 m b call).getD Jj)) (by simp[Jb]) ?_;rintro r rfl;rw[Xm (K9 ((Yb a m.Params m.System.N).getD Jj) (-1) ((Y9 m b call).getD Jj))];generalize hb4:(K9 ((Yb a m.Params m.System.N).getD Jj) (-1) ((Y9 m b call).getD Jj)).isSome=b4;simp[Ja];cases b4
 ·simp[Ku,Jj,Ja,Ji]
 rw[Oh]at h3;simp;rw[Km (by omega)];refine Je (Jcy ((K9 ((Yb a m.Params m.System.N).getD Jj) (-1) ((Y9 m b call).getD Jj)).getD Jj) (-k)) (by simp[Jb]) ?_;rintro r rfl;simp[Xm,Ja]
def Jlo(m:X5)(a:Jc)(call:Int)(b:Jc)(k:Int):Option Jc:=
 K9 ((K9 ((Yb a m.Params m.System.N).getD Jj) (-1) ((Y9 m b call).getD Jj)).getD Jj) (-1)
  ⟨k,List.replicate ((K9 ((Yb a m.Params m.System.N).getD Jj) (-1) ((Y9 m b call).getD Jj)).getD Jj).Coeffs.length 0⟩
theorem Jpo(m:X5)(a:Jc)(call:Int)(b:Jc)(k:Int):Ib m a call b k =
 if (Yb a m.Params m.System.N).isSome&&(Y9 m b call).isSome&&(K9 ((Yb a m.Params m.System.N).getD Jj) (-1) ((Y9 m b call).getD Jj)).isSome then Jlo m a call b k else Option.none:=by
 unfold Ib Jlo;rw[Jq3];cases(Yb a m.Params m.System.N).isSome <;>cases(Y9 m b call).isSome <;>cases Kx k <;>cases(K9 ((Yb a m.Params m.System.N).getD Jj) (-1) ((Y9 m b call).getD Jj)).isSome <;>simp
theorem Jzd(o:Option Jc)(h:∀r,o=some r->r.Coeffs.length<=8):(o.getD Jj).Coeffs.length<=8:=by
 cases o with
 |none=>simp[Jj]
 |some r=>exact h r rfl
theorem J48(a b:Jc)(k:Int):((K9 a k b).getD Jj).Coeffs.length<=8:=by
 refine Jzd _ λr hr=>?_
 rw[(Mx hr).1];unfold K9 at hr;split at hr
 ·rename_i hc;simp only[Bool.and_eq_true]at hc;have:=Wj hc.1.1.1.1;omega
 ·cases hr
def Jx0:AC:=(.seq (Zq [Zv 52 13,ZN 53 52,Zv 54 53,Zg 55 54 false (.mv (.t 15)),Zg 56 54 false (.un .not (.t 55)),ZP 57 54 56,Zv 58 57,Zg 59 58 false (.mv (.t 17)),Zg 60 58 false (.un .not (.t 59)),ZP 61 58 60,Zv 62 61,Zg 63 62 false (.mv (.t 19)),Zg 64 62 false (.un .not (.t 63)),ZP 65 62 64] (.cond (.t 65) (Zq [Zo 66 (.build [(.int .i64 0),(.nil 1)] []),Zs 2 10 66,Zt 11 false] .ret) .skip)) (Zq [Zl 67 true 2 18,Zs 2 10 67,Zt 11 true] .ret))
theorem J35{b1 b2 b3 b5:Bool}{G:Jc}{s:Jm}{h:J8}{n id bid:Nat}{Q:AV->Prop}(s10:s 10 = .ptr 3 0 0)(s13:s 13 = .bool b1)(s15:s 15 = .bool b2)(s17:s 17 = .bool b3)(s18:s 18 = .ptr bid 0 0)(s19:s 19 = .bool b5)
 (h3:h 3=some ⟨true,2,[[.int .i64 0,.nil 1]]⟩) (hb:h bid=some ⟨true,2,[[.int .i64 G.Const,.ref id 0 G.Coeffs.length]]⟩) (hi:h id=some ⟨false,1,Ji G.Coeffs⟩) (n1:¬bid=3) (n2:¬id=3)
 (hQ:Q (if b1&&b2&&b3&&b5 then .tup [.agg (Ja G),.bool true]else .tup [.agg (Ja Jj),.bool false])):Jt prog [Kt.seq Jx0] .normal s h n (Cv [(.c 10 true 2),.t 11] Q):=by
 unfold Jx0;have n1':¬3=bid:=λe=>n1 e.symm
 have n2':¬3=id:=λe=>n2 e.symm
 cases b1
 ·simp[s10,s13,h3];simpa[Ja,Jj,Ji]using hQ
 cases b2
 ·simp[s10,s13,s15,h3];simpa[Ja,Jj,Ji]using hQ
 cases b3
 ·simp[s10,s13,s15,s17,h3];simpa[Ja,Jj,Ji]using hQ
 cases b5
 ·simp[s10,s13,s15,s17,s19,h3];simpa[Ja,Jj,Ji]using hQ
 simp[s10,s13,s15,s17,s18,s19,h3,hb,hi,n2];simpa[Ja]using hQ
set_option maxHeartbeats 1000000 in
theorem J67(m:X5)(a:Jc)(call:Int)(b:Jc)(k:Int):Holds prog 200 [.agg (Kz m),.agg (Jb a),i64 call,.agg (Jb b),i64 k] (λr=>r=Ku (Ib m a call b k)):=by
 refine Jp func200 Jmm rfl (by simp[K7n]) ?_;simp[K7n,Jb,Kz];rw[Jpo];refine Je (J0q m a m.Params) (by simp[Jb,Kz]) ?_;rintro r rfl;rw[Xm (Yb a m.Params m.System.N)];generalize hb1:(Yb a m.Params m.System.N).isSome=b1;simp[Ja];refine Je (Tu m b call) (by simp[Jb,Kz]) ?_;rintro r rfl;rw[Xm (Y9 m b call)];generalize hb2:(Y9 m b call).isSome=b2;simp[Ja];refine Je (Vp ((Yb a m.Params m.System.N).getD Jj) (-1) ((Y9 m b call).getD Jj)) (by simp[Jb]) ?_;rintro r rfl;rw[Xm (K9 ((Yb a m.Params m.System.N).getD Jj) (-1) ((Y9 m b call).getD Jj))];have hlen:=J48 ((Yb a m.Params m.System.N).getD Jj) ((Y9 m b call).getD Jj) (-1);unfold Jlo;generalize hb3:(K9 ((Yb a m.Params m.System.N).getD Jj) (-1) ((Y9 m b call).getD Jj)).isSome=b3;generalize hZ:(K9 ((Yb a m.Params m.System.N).getD Jj) (-1) ((Y9 m b call).getD Jj)).getD Jj=Z at *;simp[Ja];have hL:(Z.Coeffs.length:Int)*8<=(Jd:Int):=by unfold Jd;omega
 refine⟨⟨hL,?_,?_⟩,hL,?_⟩
 ·skip;refine Jx (Vp Z (-1) ⟨k,List.replicate Z.Coeffs.length 0⟩) (by simp[Jb]) ?_;rintro r rfl;generalize hV:K9 Z (-1) ⟨k,List.replicate Z.Coeffs.length 0⟩=V;rw[Xm V];generalize hb5:V.isSome=b5;generalize hG:V.getD Jj=G;generalize hKS:(List.cons (Kt.seq _) _:List Kt)=KS;simp[Ja];subst hKS;refine J35 (b1:=b1) (b2:=b2) (b3:=b3) (b5:=b5) (G:=G) (bid:=12) (id:=11) (by simp) (by simp) (by simp) (by simp) (by simp) (by simp) (by simp) (by simp) (by simp) (by decide) (by decide) ?_;subst hG hb5;cases V <;>cases b1 <;>cases b2 <;>cases b3 <;>simp[Ku]
 ·skip;refine Jx (Vp Z (-1) ⟨k,List.replicate Z.Coeffs.length 0⟩) (by simp[Jb]) ?_;rintro r rfl;generalize hV:K9 Z (-1) ⟨k,List.replicate Z.Coeffs.length 0⟩=V;rw[Xm V];generalize hb5:V.isSome=b5;generalize hG:V.getD Jj=G;generalize hKS:(List.cons (Kt.seq _) _:List Kt)=KS;simp[Ja];subst hKS;refine J35 (b1:=b1) (b2:=b2) (b3:=b3) (b5:=b5) (G:=G) (bid:=11) (id:=12) (by simp) (by simp) (by simp) (by simp) (by simp) (by simp) (by simp) (by simp) (by simp) (by decide) (by decide) ?_;subst hG hb5;cases V <;>cases b1 <;>cases b2 <;>cases b3 <;>simp[Ku]
 ·skip;refine Jx (Vp Z (-1) ⟨k,List.replicate Z.Coeffs.length 0⟩) (by simp[Jb]) ?_;rintro r rfl;generalize hV:K9 Z (-1) ⟨k,List.replicate Z.Coeffs.length 0⟩=V;rw[Xm V];generalize hb5:V.isSome=b5;generalize hG:V.getD Jj=G;generalize hKS:(List.cons (Kt.seq _) _:List Kt)=KS;simp[Ja];subst hKS;refine J35 (b1:=b1) (b2:=b2) (b3:=b3) (b5:=b5) (G:=G) (bid:=10) (id:=12) (by simp) (by simp) (by simp) (by simp) (by simp) (by simp) (by simp) (by simp) (by simp) (by decide) (by decide) ?_;subst hG hb5;cases V <;>cases b1 <;>cases b2 <;>cases b3 <;>simp[Ku]
def a68:Jl:= ⟨27,[.t 4],(Zq [ZB 2 0,Zz 4 1] (Zq [Zz 5 1] (.seq (Zq [Zl 8 true 2 2,Zv 9 1,Zc 10 70 [.t 8,.t 9],Zn 11 10,Zi 12 0] (.blk 0 (.loop (Zq [Zb 13 .lss 12 11] (.seq (Zw 13 0) (.seq (.blk 1 (Zq [Zx 14 1 10 12,Zl 15 false 1 14,Zv 7 15] (Zq [Zl 16 true 2 2,Zv 17 7,Zc 18 70 [.t 16,.t 17],Zv 19 1,Zc 20 72 [.t 18,.t 19]] (.cond (.t 20) (.reg [Zv 21 5,Zv 22 7,ZS 23 1 22,ZA 24 16 1 21 23,Zv 5 24]) .skip)))) (.reg [Zk 25 .add 12 1,Zv 12 25]))))))) (Zq [Zv 26 5,Zv 4 26] .ret))))⟩
theorem Jyc:Jh prog f68=some a68:=by kernel_rfl
theorem Jch(p:Jo)(name:J9)(hp:X2 p<=1048576):(Ut p name).length<=1048576:=by
 have hfl:p.Functions.length<=1048576:=by have:=Yn Yr p.Functions;unfold X2 Qb at hp;omega
 unfold Ut;split
 ·have h2:(G9 (Vt p) (X7 p) name).length<=(X7 p).length:=List.length_filter_le _ _;have h3:(X7 p).length=p.Functions.length:=by simp[X7]
  omega
 ·simp
def Tk(p:Jo)(name g:J9):Bool:=K6 (Ut p g) name
theorem Jew(p:Jo)(name:J9):E5 p name=(Ut p name).filter (Tk p name):=rfl
theorem J69(p:Jo)(hp:X2 p<=1048576)(name:J9):Holds prog 68 [.agg (Jg p),.str name] (λx=>x = .us 1 (Jf (E5 p name))):=by
 have hrl:=Jch p name hp;refine Jp func68 Jyc rfl (by simp[a68]) ?_;simp[a68,Jg];refine Je (J0h p hp name) (by simp[Jg]) ?_;rintro r rfl;simp;intro _;rw[Jew];generalize hT:(Ut p name).filter (Tk p name)=T;have hTl:T.length<=1048576:=by rw[<-hT];exact Nat.le_trans (List.length_filter_le _ _) hrl
 refine Ka [1,2,10,11] 12 (Ut p name).length (λi s h n=>1<n/\h 0=some ⟨true,2,[Jg p]⟩/\h 1=some ⟨false,1,Jf (Ut p name)⟩/\∃acc:List J9,acc++((Ut p name).drop i).filter (Tk p name)=T/\D0 1 1 (Jf acc) (s 5) h n) (by unfold Jd;omega) (by simp) ⟨by simp,by simp[Jg],by simp,[],by simpa using hT,.inl (by simp[Jf])⟩ ?_ ?_
 ·rintro i st h n R hi hg hk s12 hw ⟨hn,e0,e1,acc,hJ,hA⟩ hR hret _;simp at hk;rw[drop_eq_getElem_cons hi,List.filter_cons,Tk]at hJ;have z0:¬0=n:=by omega
  have z1:¬1=n:=by omega
  have z2:¬n=0:=by omega
  have z3:¬n=1:=by omega
  refine Jq [1,2,5,10,11,12] (λs=>s 13 = .bool true) (by simp[hk,s12,hi]) ?_;intro Jv hk1 s13;simp at hk1;refine W3 s13 (Jn (Xd ?_));refine Jq [1,2,5,10,11,12] (λs=>s 7 = .str (Ut p name)[i]) (by simp[hk,hk1,s12,hi,e1]) ?_;intro st2 hk2 s7;simp at hk2;generalize(Ut p name)[i]=g at *;have ht:List.take (Ut p g).length (Jf (Ut p g))=Jf (Ut p g):=take_of_length_le (by simp[Jf]);refine Xu [1,2,5,7,10,11,12] (λs h' n'=>n'=n+1/\s 20 = .bool (K6 (Ut p g) name)/\h' 0=some ⟨true,2,[Jg p]⟩/\h' 1=some ⟨false,1,Jf (Ut p name)⟩/\D0 1 1 (Jf acc) (st 5) h' n) ?_ ?_
  ·simp[hk2,hk1,hk,e0,s7,Jg];refine Je (J0h p hp g) (by simp[Jg]) ?_;rintro r rfl;simp[hk2,hk1,hk];refine Je (Nl (Ut p g) name) (by simp[ht]) ?_;rintro r rfl;simp[hk2,hk1,hk,s7,e0,e1,z0,z1,Jg];exact hA.keep _
  rintro Kq h3 n3 hk3 ⟨rfl,s20,e0',e1',hA'⟩;simp at hk3;have y0:¬0=n+1:=by omega
  have y1:¬1=n+1:=by omega
  have y2:¬0=n+1+1:=by omega
  have y3:¬1=n+1+1:=by omega
  cases c1:K6 (Ut p g) name
  ·rw[c1]at hJ s20;simp only[Bool.false_eq_true,if_false]at hJ;simp[hk3,hk2,hk1,s20,s12,hw];exact hR _ _ _ (by simp[hk3,hk2,hk1,hk]) (by simp) ⟨by omega,e0',e1',acc,hJ,by simpa[hk3,hk2,hk1]using hA'.mono (Nat.le_succ n)⟩
  rw[c1]at hJ s20;simp only[if_true]at hJ;have hal:=congrArg List.length hJ;simp only[length_append,length_cons]at hal;rcases hA' with ⟨hz,hv⟩|⟨id,hid,hid',hv,hc⟩
  ·have hz':acc=[]:=by simpa[Jf]using hz
   subst hz';simp[hk3,hk2,hk1,hv,s7,s20,s12,hw];refine⟨by unfold Jd;omega,?_⟩;exact hR _ _ _ (by simp[hk3,hk2,hk1,hk]) (by simp) ⟨by omega,by simp[e0',z2],by simp[e1',z2],[g],by simpa using hJ,.inr ⟨n+1+1,by omega,by omega,by simp[Jf],by simp[Jf]⟩⟩
  ·simp[Jf]at hv;have x0:¬id=n:=by omega
   have x1:¬id=n+1:=by omega
   have x2:¬n+1=id:=by omega
   have x3:¬n=id:=by omega
   have x4:¬1=id:=by omega
   have x5:¬0=id:=by omega
   simp[hk3,hk2,hk1,hv,hc,s7,s20,s12,hw,x1,x2];refine⟨by unfold Jd;omega,?_⟩;exact hR _ _ _ (by simp[hk3,hk2,hk1,hk]) (by simp) ⟨by omega,by simp[e0',z2,x5],by simp[e1',z2,x4],acc++[g],by simpa using hJ,.inr ⟨n+1+1,by omega,by omega,by simp[Jf],by simp[Jf]⟩⟩
 rintro st h n R hk s12 ⟨hn,e0,e1,acc,hJ,hA⟩ hret hX;simp at hk;rw[drop_eq_nil_of_le (by omega)]at hJ;simp at hJ;subst hJ;refine Jq [5] (λs=>s 13 = .bool false) (by simp[hk,s12]) ?_;intro Jv hk1 s13;simp at hk1;refine Uv s13 ?_;refine hX _ _ _ _ ?_;rcases hA with ⟨hz,hv⟩|⟨id,hid,hid',hv,hc⟩
 ·simp[hk1,hv,hz]
 ·simp at hv;simp[hk1,hv,hc]
def Tx:Jl:= ⟨19,[.t 4],(Zq [ZB 3 1,Zi 4 0] (.seq (Zq [Zv 6 0,Zn 7 6,Zi 8 0] (.blk 0 (.loop (Zq [Zb 9 .lss 8 7] (.seq (Zw 9 0) (.seq (.blk 1 (Zq [Zv 10 8,Zv 5 10] (.seq (.draw (.op (Zl 11 true 2 3) (.op (Zv 12 0) (.op (Zv 13 5) (.op (Zx 14 2 12 13) (.op (Zl 15 true 2 14) (.op (Zo 16 (.aeq false [0,0] (.t 11) (.t 15))) .fin))))))) (.cond (.t 16) (Zq [Zv 17 5,Zv 4 17] .ret) .skip)))) (.reg [Zk 18 .add 8 1,Zv 8 18]))))))) (Zq [Zi 4 (-1)] .ret)))⟩
theorem Joc:Jh prog f311=some Tx:=by kernel_rfl
def K7z:Jl:= ⟨9,[.t 4],(Zq [ZB 3 1,Zt 4 false] (Zq [Zv 5 0,Zl 6 true 2 3,Zc 7 311 [.t 5,.t 6],Zk 8 .geq 7 0,Zv 4 8] .ret))⟩
theorem Jn1:Jh prog f280=some K7z:=by kernel_rfl
def K61:Jl:= ⟨15,[.t 4],(Zq [ZB 2 0,ZB 3 1,Zt 4 false] (.seq (.draw (.op (Zl 5 true 2 2) (.op (Zl 6 true 2 2) (.op (Zl 7 true 2 3) (.op (Zl 10 true 2 2) (.op (Zl 11 true 2 3) (.op (Zc 8 173 [.t 6,.t 7]) (.op (Zc 9 136 [.t 5,.t 8]) (.op (Zc 12 199 [.t 10,.t 11]) (.op (Zc 13 63 [.t 9,.t 12]) (.op (Zk 14 .geq 13 0) (.op (Zv 4 14) .fin)))))))))))) .ret))⟩
theorem Jrt:Jh prog f198=some K61:=by kernel_rfl
def K4a:Jl:= ⟨23,[.t 4],(Zq [ZB 2 0,ZB 3 1,Zt 4 false] (.seq (.seq (.draw (.op (Zl 7 true 2 2) (.op (Zl 9 true 2 3) (.op (Zc 8 125 [.t 7]) (.op (Zc 10 280 [.t 8,.t 9]) (.op (ZN 11 10) .fin)))))) (.cond (.t 11) (Zq [Zt 4 false] .ret) .skip)) (Zq [Zl 13 true 2 2,Zl 14 true 2 3,Zc 15 152 [.t 13,.t 14],Zv 12 15,Ze 16 12 0,Ze 17 12 1,Zv 5 16,Zv 6 17] (Zq [Zl 18 true 2 2,Zv 19 5,Zc 20 68 [.t 18,.t 19],Zv 21 6,Zc 22 72 [.t 20,.t 21],Zv 4 22] .ret))))⟩
theorem Jrr:Jh prog f201=some K4a:=by kernel_rfl
theorem Jbz{p:Jo}(h:Ym p=true){e:Xn}(he:e∈K1 p):K6 (E5 p (Bq p e)) (Ob p e)=Db p e:=by
 obtain⟨f1,f2,f3,f4⟩:=J24 h;have hE2:∀e∈Vt p,e.2∈X7 p:=λe he=>(f2 e he).2
 have hm:(Bq p e,Ob p e)∈Vt p:=by rw[J1s];unfold K1 at he;rw[h]at he;exact mem_map.2 ⟨e,he,rfl⟩
 have hF:=(f2 _ hm).1;have hT:=(f2 _ hm).2;have hr:Ut p (Ob p e)=G9 (Vt p) (X7 p) (Ob p e):=by unfold Ut;rw[h,Qu.2 hT];rfl
 unfold Db;rw[hr,Jiz h hF,Bool.eq_iff_iff,Qu,Qu,Jfy hE2 hF,Pp hE2 hT];exact⟨λ⟨_,_,g⟩=>⟨hF,g⟩,λ⟨_,g⟩=>⟨hT,(RT.refl _).step hm,g⟩⟩
theorem Jje(l:List Xn)(e:Xn):Holds prog 311 [.sl 2 (l.map Kr),.agg (Kr e)] (λr=>r=i64 (Xi (λx=>decide (x=e)) l 0)):=by
 refine Vm func311 rfl rfl λhl=>?_
 simp at hl;refine Jp func311 Joc rfl (by simp[Tx]) ?_;simp[Tx,Kr];intro _;generalize hB:Xi (λx=>decide (x=e)) l 0=B;refine Ka [0,3,7] 8 l.length (λi s h n=>0<n/\h 0=some ⟨true,2,[Kr e]⟩/\Xi (λx=>decide (x=e)) (l.drop i) i=B) (by exact hl.1) (by simp) ⟨by simp,by simp[Kr],by simpa using hB⟩ ?_ ?_
 ·rintro i st h n R hi hg hk s8 hw ⟨hn,e0,hJ⟩ hR hret _;simp at hk;rw[drop_eq_getElem_cons hi]at hJ;simp only[Xi]at hJ;by_cases hx:l[i]=e
  ·rw[if_pos (by simp[hx])]at hJ;simp[hk,s8,hi,e0,Kr,hx];refine hret _ _ _ ?_;simp[hJ]
  ·rw[if_neg (by simpa using hx)]at hJ;simp[hk,s8,hi,e0,Kr];refine⟨λg1 g2=>(hx ?_).elim,λ_=>?_⟩
   ·generalize l[i]=q at g1 g2;cases q;cases e;simp_all
   simp[hw];exact hR _ _ _ (by simp[hk]) (by simp) ⟨hn,e0,hJ⟩
 rintro st h n R hk s8 ⟨hn,e0,hJ⟩ hret hX;simp at hk;rw[drop_eq_nil_of_le (by omega)]at hJ;simp[hk,s8];refine hX _ _ _ _ ?_;simp[<-hJ,Xi]
theorem J9a(l:List Xn)(e:Xn):Holds prog 280 [.sl 2 (l.map Kr),.agg (Kr e)] (λr=>r = .bool (decide (e∈l))):=by refine Jp func280 Jn1 rfl (by simp[K7z]) ?_;simp[K7z,Kr];refine Je (Jje l e) (by simp[Kr]) ?_;rintro r rfl;have:=Mm (p:=λx=>decide (x=e)) (l:=l) (i:=0);simp only[ge_iff_le]at this;simp[this];rw[Bool.eq_iff_iff];simp
theorem J9i(p:Jo)(hp:X2 p<=1048576){a b:Nat}(ha:a<p.Rules.length)(hb:b<(p.Rules[a]).Calls.length):Holds prog 198 [.agg (Jg p),.agg (Kr ⟨a,b⟩)] (λr=>r = .bool (Db p ⟨a,b⟩)):=by
 refine Jp func198 Jrt rfl (by simp[K61]) ?_;simp[K61,Jg,Kr];refine Jx (Fq p ha hb) (by simp[Jg,Kr]) ?_;rintro r rfl;simp;refine Jx (J2m p hp ((p.Rules[a]).Calls[b]).Func) (by simp[Jg]) ?_;rintro r rfl;simp;refine Jx (Tp p ha (k:=b)) (by simp[Jg,Kr]) ?_;rintro r rfl;simp;have ht:∀l:List J9,List.take l.length (Jf l)=Jf l:=λl=>take_of_length_le (by simp[Jf])
 refine Jx (E3 (Ut p ((p.Rules[a]).Calls[b]).Func) (p.Rules[a]).Func) (by simp[ht]) ?_;rintro r rfl;have g:=T4 (Ut p ((p.Rules[a]).Calls[b]).Func) (p.Rules[a]).Func;simp[g,Db,Ml ha,P3 ha hb]
theorem Jgm(p:Jo)(hp:X2 p<=1048576)(e:Xn):Holds prog 201 [.agg (Jg p),.agg (Kr e)] (λr=>r = .bool (Sf p e)):=by
 refine Jp func201 Jrr rfl (by simp[K4a]) ?_;simp[K4a,Jg,Kr];refine Jx (Rn p hp) (by simp[Jg]) ?_;rintro r rfl;have ht:List.take (K1 p).length ((K1 p).map Yd)=(K1 p).map Yd:=take_of_length_le (by simp);simp;refine Jx (J9a (K1 p) e) (by simp[Kr,ht]) ?_;rintro r rfl;unfold Sf;by_cases hm:e∈K1 p
 case neg=>simp[hm]
 have hpo:Ym p=true:=by
  unfold K1 at hm;split at hm
  ·assumption
  ·cases hm
 obtain⟨i,hi,rfl⟩:=List.getElem_of_mem hm;obtain⟨a,b,ha,hb,he,hf,ht0⟩:=Sc hi;have hin:=Jbz hpo hm;rw[he]at hm hin⊢;rw[hf,ht0]at hin;simp[hm];refine Je (Na p ha hb) (by simp[Jg,Kr]) ?_;rintro r rfl;simp;have ht1:List.take (E5 p (p.Rules[a]).Func).length (Jf (E5 p (p.Rules[a]).Func))=Jf (E5 p (p.Rules[a]).Func):=take_of_length_le (by simp[Jf]);refine Je (J69 p hp (p.Rules[a]).Func) (by simp[Jg]) ?_;rintro r rfl;simp;refine Je (Nl (E5 p (p.Rules[a]).Func) ((p.Rules[a]).Calls[b]).Func) (by simp[ht1]) ?_;rintro r rfl;simp[hin]
def Uj(l:List Jc):Rx:=⟨1,l⟩
def Wt(p:Jo)(n:Nat)(e:Xn)(k:Int):Bool:=if Db p e then Kh k 1 n else decide (k=0)
def Gc(p:Jo)(x:Xk):Bool:=Ym p&&decide (x.Levels.length<=3)&&decide (x.Edges.length=(K1 p).length)&&(x.Levels.all (Qc p.Functions)&&((K1 p).zip x.Edges).all λy=>Wt p x.Levels.length y.1 y.2)
def Mi(p:Jo)(md:X5)(e:Xn)(l:List Jc)(k:Int):Option X1:=(Ib md (U6 p (Uj l) (Bq p e)) e.Call (U6 p (Uj l) (Ob p e)) k).map λt=>⟨md.System,t⟩
def My(p:Jo)(md:X5)(e:Xn)(l:List Jc):Option X1:=(Yb (U6 p (Uj l) (Bq p e)) md.Params md.System.N).map λt=>⟨md.System,t⟩
def Ix(p:Jo)(md:X5)(e:Xn)(Ls:List (List Jc))(n:Int)(i:Nat):List (Option X1):=
 if (i:Int)+1=n then [Mi p md e (Ls.getD i []) 1,My p md e (Ls.getD i [])]else [Mi p md e (Ls.getD i []) 0]
def Il(p:Jo)(Ls:List (List Jc))(e:Xn)(n:Int):List (Option X1):=(List.range n.toNat).flatMap (Ix p (Uc p e) e Ls n)
def C6(p:Jo)(x:Xk):List (Option X1):=((K1 p).zip x.Edges).flatMap λy=>Il p x.Levels y.1 y.2
def Vb(p:Jo)(x:Xk):Option (List X1):=if Gc p x then Yo [] (C6 p x)else Option.none
theorem J31:∀{l:List (Option X1)}{acc:List X1},Yo acc l=(Yo [] l).map (acc ++ ·)
 | [],acc=>by simp[Yo]
 |Option.none::_,_=>by simp[Yo]
 |some x::l,acc=>by simp only[Yo,List.nil_append];rw[J31 (acc:=acc++[x]),J31 (acc:=[x])];cases Yo [] l <;>simp
theorem Jnk{l1 l2:List (Option X1)}{acc:List X1} : Yo acc (l1++l2)=(Yo acc l1).bind λa=>Yo a l2:=by
 induction l1 generalizing acc with
 |nil=>simp[Yo]
 |cons o l1 ih=>cases o <;>simp[Yo,ih]
theorem Te{p:Jo}{x:Xk}(h:Gc p x=true):Ym p=true/\x.Levels.length<=3/\x.Edges.length=(K1 p).length/\(∀l∈x.Levels,Qc p.Functions l=true)/\∀y∈(K1 p).zip x.Edges,Wt p x.Levels.length y.1 y.2=true:=by unfold Gc at h;simp only[Bool.and_eq_true,decide_eq_true_eq,List.all_eq_true]at h;exact⟨h.1.1.1,h.1.1.2,h.1.2,h.2.1,h.2.2⟩
theorem Jkp{p:Jo}{m:Nat}{e:Xn}{k:Int}(h:Wt p m e k=true):0<=k/\k<=m:=by
 unfold Wt at h;split at h
 ·simp[Kh]at h;omega
 ·simp at h;omega
theorem Jpt{p:Jo}{md:X5}{e:Xn}{Ls:List (List Jc)}{n:Int}{i:Nat} : (Ix p md e Ls n i).length<=2:=by unfold Ix;split <;>simp
theorem Jq4{p:Jo}{Ls:List (List Jc)}{e:Xn}{n:Int} : (Il p Ls e n).length<=2*n.toNat:=by
 have key:∀l:List Nat,(l.flatMap (Ix p (Uc p e) e Ls n)).length<=2*l.length:=by
  intro l
  induction l with
  |nil=>simp
  |cons i l ih=>
   have:=Jpt (p:=p) (md:=Uc p e) (e:=e) (Ls:=Ls) (n:=n) (i:=i);simp only[flatMap_cons,length_append,length_cons];omega
 have:=key (List.range n.toNat);unfold Il;simpa using this
theorem J9b{p:Jo}{x:Xk}(h:Gc p x=true):(C6 p x).length<=96:=by
 obtain⟨hpo,h1,h2,h3,h4⟩:=Te h
 have key:∀l:List (Xn×Int),(∀y∈l,Wt p x.Levels.length y.1 y.2=true)->(l.flatMap λy=>Il p x.Levels y.1 y.2).length<=6*l.length:=by
  intro l
  induction l with
  |nil=>simp
  |cons y l ih=>
   intro hl;have g1:=ih λz hz=>hl z (List.mem_cons_of_mem _ hz)
   have g2:=Jkp (hl y mem_cons_self);have g3:=Jq4 (p:=p) (Ls:=x.Levels) (e:=y.1) (n:=y.2);simp only[flatMap_cons,length_append,length_cons];omega
 have:=key _ h4;have h5:=Fb (p:=p);have h6:((K1 p).zip x.Edges).length<=16:=by simp;omega
 unfold C6;omega
theorem P1(p:Jo)(x:Xk):((Vb p x).getD []).length<=96:=by
 cases h:Vb p x with
 |none=>simp
 |some o=>
  unfold Vb at h;split at h
  case isFalse=>cases h
  rename_i hB;have h1:=Jdq h;have h2:=J9b hB;simp at h1⊢;omega
theorem J5d{p:Jo}{e:Xn}(h:e∈K1 p):Ym p=true/\∃i k:Nat,∃hi:i<p.Rules.length,k<(p.Rules[i]).Calls.length/\e=⟨(i:Int),(k:Int)⟩:=by
 unfold K1 at h;split at h
 ·exact⟨by assumption,Nq h⟩
 ·cases h
def K4l:Jl:= ⟨39,[(.c 10 true 2),.t 11],(Zq [ZB 5 0,ZB 6 1,ZB 7 2,ZR 10,Zt 11 false] (Zq [Zl 15 true 2 5,Zl 16 true 2 7,Zc 17 152 [.t 15,.t 16],Zv 14 17,Ze 18 14 0,Ze 19 14 1,Zv 12 18,Zv 13 19] (.seq (.draw (.op (Zl 20 true 6 6) (.op (Zv 21 3) (.op (Zl 22 true 2 5) (.op (Zv 23 12) (.op (Zf 27 1 7) (.op (Zl 28 false 1 27) (.op (Zv 29 3) (.op (Zl 30 true 2 5) (.op (Zv 31 13) (.op (Zv 35 4) (.op (Zc 24 84 [.t 22,.t 23]) (.op (Zx 25 2 21 24) (.op (Zl 26 true 2 25) (.op (Zc 32 84 [.t 30,.t 31]) (.op (Zx 33 2 29 32) (.op (Zl 34 true 2 33) (.op (Zc 36 208 [.t 20,.t 26,.t 28,.t 34,.t 35]) (.op (Ze 37 36 0) (.op (Ze 38 36 1) (.hop (Zs 2 10 37) [] (.op (Zv 11 38) .fin)))))))))))))))))))))) .ret)))⟩
theorem Jsp:Jh prog f127=some K4l:=by kernel_rfl
def K8v:Jl:= ⟨32,[(.c 8 true 2),.t 9],(Zq [ZB 4 0,ZB 5 1,ZB 6 2,ZR 8,Zt 9 false] (Zq [Zl 13 true 2 4,Zl 14 true 2 6,Zc 15 152 [.t 13,.t 14],Zv 12 15,Ze 16 12 0,Ze 17 12 1,Zv 10 16,Zv 11 17] (.seq (.draw (.op (Zv 18 3) (.op (Zl 19 true 2 4) (.op (Zv 20 10) (.op (Zf 24 2 5) (.op (Zl 25 false 1 24) (.op (Zf 26 0 5) (.op (Zf 27 0 26) (.op (Zl 28 false 1 27) (.op (Zc 21 84 [.t 19,.t 20]) (.op (Zx 22 2 18 21) (.op (Zl 23 true 2 22) (.op (Zc 29 191 [.t 23,.t 25,.t 28]) (.op (Ze 30 29 0) (.op (Ze 31 29 1) (.hop (Zs 2 8 30) [] (.op (Zv 9 31) .fin))))))))))))))))) .ret)))⟩
theorem Jr4:Jh prog f129=some K8v:=by kernel_rfl
theorem Jd0{p:Jo}{lv:List Jc}{name:J9}(hl:lv.length=p.Functions.length)(hf:(Xc p.Functions name).isSome=true):∃j:Nat,∃hj:j<lv.length,Xi (λf=>f.Name==name) p.Functions 0=(j:Int)/\U6 p (Uj lv) name=lv[j]:=by
 obtain⟨j,hj,hji⟩:=Jkc hf;have hjl:j<lv.length:=by omega
 exact⟨j,hjl,hji,by unfold U6 Uj;rw[hji];simp[hjl]⟩
theorem J2n(p:Jo)(md:X5){i k:Nat}(hi:i<p.Rules.length)(hk:k<(p.Rules[i]).Calls.length)(lv:List Jc)(hl:lv.length=p.Functions.length)(hf:(Xc p.Functions (p.Rules[i]).Func).isSome=true)(hg:(Xc p.Functions ((p.Rules[i]).Calls[k]).Func).isSome=true)(K:Int) :
 Holds prog 127 [.agg (Jg p),.agg (Kz md),.agg (Kr ⟨i,k⟩),.sl 2 (lv.map Jb),i64 K] (λr=>r=Ku (Ib md (U6 p (Uj lv) (p.Rules[i]).Func) k (U6 p (Uj lv) ((p.Rules[i]).Calls[k]).Func) K)):=by
 obtain⟨j1,h1,g1,e1⟩:=Jd0 hl hf;obtain⟨j2,h2,g2,e2⟩:=Jd0 hl hg;rw[e1,e2];refine Jp func127 Jsp rfl (by simp[K4l]) ?_;simp[K4l,Jg,Kz,Kr];refine Je (Na p hi hk) (by simp[Jg,Kr]) ?_;rintro r rfl;simp;refine Jx (Cw p (p.Rules[i]).Func) (by simp[Jg]) ?_;rintro r rfl;rw[g1];simp[h1];refine Jx (Cw p ((p.Rules[i]).Calls[k]).Func) (by simp[Jg]) ?_;rintro r rfl;rw[g2];simp[h2,Jb];refine Jx (J7n md (lv[j1]'h1) k (lv[j2]'h2) K) (by simp[Kz,Jb]) ?_;rintro r rfl;rw[Xm];generalize Ib md (lv[j1]'h1) k (lv[j2]'h2) K=T;simp[Ja]
theorem Jge(p:Jo)(md:X5){i k:Nat}(hi:i<p.Rules.length)(hk:k<(p.Rules[i]).Calls.length)(lv:List Jc)(hl:lv.length=p.Functions.length)(hf:(Xc p.Functions (p.Rules[i]).Func).isSome=true) :
 Holds prog 129 [.agg (Jg p),.agg (Kz md),.agg (Kr ⟨i,k⟩),.sl 2 (lv.map Jb)] (λr=>r=Ku (Yb (U6 p (Uj lv) (p.Rules[i]).Func) md.Params md.System.N)):=by
 obtain⟨j1,h1,g1,e1⟩:=Jd0 hl hf;rw[e1];refine Jp func129 Jr4 rfl (by simp[K8v]) ?_;simp[K8v,Jg,Kz,Kr];refine Je (Na p hi hk) (by simp[Jg,Kr]) ?_;rintro r rfl;simp;refine Jx (Cw p (p.Rules[i]).Func) (by simp[Jg]) ?_;rintro r rfl;rw[g1];simp[h1,Jb];refine Jx (Ta (lv[j1]'h1) md.Params md.System.N) (by simp[Jb]) ?_;rintro r rfl;rw[Xm];generalize Yb (lv[j1]'h1) md.Params md.System.N=T;simp[Ja]
def rg0:AC:=(.reg [ZB 2 0,ZB 3 1,Zt 4 false])
def rg1:AC:=(.reg [Zl 10 true 2 2,Zc 11 125 [.t 10],Zv 5 11])
def rg2:AC:=(Zq [Zl 12 true 2 2,Zc 13 67 [.t 12],ZN 14 13,Zv 15 14,Zg 16 15 false (.fld 0 (.t 3)),Zg 17 15 false (.ld false 1 (.t 16)),Zg 18 15 false (.len false (.t 17)),Zg 19 15 false (.bin .gtr (.t 18) (.k (.int .i64 3))),ZP 20 15 19,Zv 21 20,Zg 22 21 false (.fld 1 (.t 3)),Zg 23 21 false (.ld false 1 (.t 22)),Zg 24 21 false (.len false (.t 23)),Zg 25 21 false (.mv (.t 5)),Zg 26 21 false (.len false (.t 25)),Zg 27 21 false (.bin .neq (.t 24) (.t 26)),ZP 28 21 27] (.cond (.t 28) (Zq [Zt 4 false] .ret) .skip))
def rg3:AC:=(Zq [Zf 29 0 3,Zl 30 false 1 29,Zn 31 30,Zi 32 0] (.blk 0 (.loop (Zq [Zb 33 .lss 32 31] (.seq (Zw 33 0) (.seq (.blk 1 (Zq [Zx 34 1 30 32,Zl 35 false 1 34,Zv 7 35] (Zq [Zl 36 true 2 2,Zv 37 7,Zc 38 103 [.t 36,.t 37],ZN 39 38] (.cond (.t 39) (Zq [Zt 4 false] .ret) .skip)))) (.reg [Zk 40 .add 32 1,Zv 32 40])))))))
def rg4:AC:=(Zq [Zv 41 5,Zn 42 41,Zi 43 0] (.blk 2 (.loop (Zq [Zb 44 .lss 43 42] (.seq (Zw 44 2) (.seq (.blk 3 (Zq [Zv 45 43,Zx 46 2 41 43,Zl 47 true 2 46,Zo 9 (.box [(.int .i64 0),(.int .i64 0)]),Zv 8 45,Zs 2 9 47] (Zq [Zl 48 true 2 2,Zl 49 true 2 9,Zc 50 201 [.t 48,.t 49]] (.cond (.t 50) (.seq (.draw (.op (Zf 51 1 3) (.op (Zl 52 false 1 51) (.op (Zv 53 8) (.op (Zx 54 1 52 53) (.op (Zl 55 false 1 54) (.op (Zf 56 0 3) (.op (Zl 57 false 1 56) (.op (Zn 58 57) (.op (Zc 59 102 [.t 55,(.k (.int .i64 1)),.t 58]) (.op (ZN 60 59) .fin))))))))))) (.cond (.t 60) (Zq [Zt 4 false] .ret) .skip)) (Zq [Zf 61 1 3,Zl 62 false 1 61,Zv 63 8,Zx 64 1 62 63,Zl 65 false 1 64,Zk 66 .neq 65 0] (.cond (.t 66) (Zq [Zt 4 false] .ret) .skip)))))) (.reg [Zk 67 .add 43 1,Zv 43 67])))))))
def rg5:AC:=(.reg [Zt 4 true])
def K4y:Jl:=⟨68,[.t 4],(.seq rg0 (.seq rg1 (.seq rg2 (.seq rg3 (.seq rg4 (.seq rg5 .ret))))))⟩
theorem Jtp:Jh prog f124=some K4y:=by kernel_rfl
theorem J3p{p:Jo}{es:List Xn}{ks:List Int}{n i:Nat}(hi:i<es.length)(hk:ks.length=es.length):((es.drop i).zip (ks.drop i)).all (λy=>Wt p n y.1 y.2)=(Wt p n es[i] (ks[i]'(by omega))&&((es.drop (i+1)).zip (ks.drop (i+1))).all (λy=>Wt p n y.1 y.2)):=by rw[drop_eq_getElem_cons hi,drop_eq_getElem_cons (show i<ks.length by omega),List.zip_cons_cons,all_cons]
theorem Jcn{p:Jo}{e:Xn}(h:e∈K1 p):Sf p e=Db p e:=by unfold Sf;rw[decide_eq_true h,Bool.true_and]
section
variable {ks:List Kt}{s:Jm}{h h':J8}{n:Nat}{Q:Xb}
theorem Jsj{p:Jo}{x:Xk}(hn:2<n)(s2:s 2 = .ptr 0 0 0)(s3:s 3 = .ptr 1 0 0)(e0:h 0=some ⟨true,2,[Jg p]⟩)(e1:h 1=some ⟨true,2,[X3 x]⟩)(hL:x.Levels.length<=3)
 (hret:x.Levels.all (Qc p.Functions)=false->∀s' h' n',s' 4 = .bool false->Jt prog ks .ret s' h' n' Q)
 (hK:∀s',(∀j∈[2,3,5],s' j=s j)->x.Levels.all (Qc p.Functions)=true->Jt prog ks .normal s' h n Q):rC prog rg3 ks s h n Q:=by
 generalize hF:x.Levels.all (Qc p.Functions)=F at *;simp[rg3,s3,e1,X3];intro _;refine Ka [2,3,5,30,31] 32 x.Levels.length (λi s h' m=>h'=h/\m=n/\(x.Levels.drop i).all (Qc p.Functions)=F) (by unfold Jd;omega) (by simp) ⟨rfl,rfl,by simpa using hF⟩ ?_ ?_
 ·rintro i st h1 m1 R hi hgi hk s32 hw ⟨rfl,rfl,hJ⟩ hR hrt _;simp at hk;rw[drop_eq_getElem_cons hi,all_cons]at hJ;simp[hk,s32,hi,s2,e0,Uo];refine Je (Jhq p (x.Levels[i]'hi)) (by simp) ?_;rintro r rfl;cases hc:Qc p.Functions x.Levels[i]
  ·rw[hc,Bool.false_and]at hJ;simp;exact hrt _ _ _ (hret hJ.symm _ _ _ (by simp))
  ·rw[hc,Bool.true_and]at hJ;simp[s32,hw];exact hR _ _ _ (by simp[hk]) (by simp) ⟨rfl,rfl,hJ⟩
 ·rintro st h1 m1 R hk s32 ⟨rfl,rfl,hJ⟩ hrt hX;simp at hk;rw[drop_eq_nil_of_le (by omega)]at hJ;simp[hk,s32];refine hX _ _ _ _ ?_;simp;exact hK _ (by simp[hk]) (by rw[<-hJ];rfl)
theorem Jok{p:Jo}(hp:X2 p<=1048576){x:Xk}(hn:2<n)(s2:s 2 = .ptr 0 0 0)(s3:s 3 = .ptr 1 0 0)(s5:s 5 = .ref 2 0 (K1 p).length)(e0:h 0=some ⟨true,2,[Jg p]⟩)(e1:h 1=some ⟨true,2,[X3 x]⟩)(e2:h 2=some ⟨false,2,(K1 p).map Yd⟩)(hL:x.Levels.length<=3)(hE:x.Edges.length=(K1 p).length)
 (hret:(((K1 p).zip x.Edges).all λy=>Wt p x.Levels.length y.1 y.2)=false->∀s' h' n',s' 4 = .bool false->Jt prog ks .ret s' h' n' Q)
 (hK:∀s' h' n',(((K1 p).zip x.Edges).all λy=>Wt p x.Levels.length y.1 y.2)=true->Jt prog ks .normal s' h' n' Q):rC prog rg4 ks s h n Q:=by
 have h16:=Fb (p:=p);generalize hF:(((K1 p).zip x.Edges).all λy=>Wt p x.Levels.length y.1 y.2)=F at *;simp[rg4,s5,e2];intro _;refine Ka [2,3,41,42] 43 (K1 p).length (λi s h' m=>n<=m/\(∀id,id<n->h' id=h id)/\(((K1 p).drop i).zip (x.Edges.drop i)).all (λy=>Wt p x.Levels.length y.1 y.2)=F) (by unfold Jd;omega) (by simp) ⟨Nat.le_refl _,λ_ _=>rfl,by simpa using hF⟩ ?_ ?_
 ·rintro i st h1 m1 R hi hgi hk s43 hw ⟨hm1,hf,hJ⟩ hR hrt _;simp at hk;rw[J3p hi hE]at hJ;have hie:i<x.Edges.length:=by omega
  have z0:h1 0=some ⟨true,2,[Jg p]⟩:=by rw[hf 0 (by omega),e0]
  have z1:h1 1=some ⟨true,2,[X3 x]⟩:=by rw[hf 1 (by omega),e1]
  have z2:h1 2=some ⟨false,2,(K1 p).map Yd⟩:=by rw[hf 2 (by omega),e2]
  have ne:¬0=m1/\¬1=m1/\¬2=m1:=by omega
  have fr:∀id,id<n->¬id=m1:=by intro id _;omega
  have hin:=Jcn (getElem_mem hi);have hf':∀H:J8,H=upd h1 m1 (some ⟨true,2,[Kr (K1 p)[i]]⟩)->∀id,id<n->H id=h id:=λH hH id hid=>by rw[hH];simp[fr id hid,hf id hid]
  simp[hk,s43,hi,s2,z0,z2,ne,Yd];refine Je (Jgm p hp ((K1 p)[i]'hi)) (by simp[Kr]) ?_;rintro r rfl;rw[hin];cases hc:Db p (K1 p)[i]
  ·have hev:Wt p x.Levels.length (K1 p)[i] (x.Edges[i]'hie)=decide ((x.Edges[i]'hie)=0):=by unfold Wt;rw[hc];rfl
   rw[hev]at hJ;by_cases hz:(x.Edges[i]'hie)=0
   ·simp[hz]at hJ;simp[hk,s3,z1,ne,X3,hie,hz,s43,hw];exact hR _ _ _ (by simp[hk]) (by simp) ⟨by omega,λid hid=>by simp[fr id hid,hf id hid],by simpa using hJ⟩
   ·simp[hz]at hJ;simp[hk,s3,z1,ne,X3,hie,hz];exact hrt _ _ _ (hret hJ _ _ _ (by simp))
  ·have hev:Wt p x.Levels.length (K1 p)[i] (x.Edges[i]'hie)=Kh (x.Edges[i]'hie) 1 x.Levels.length:=by unfold Wt;rw[hc];rfl
   rw[hev]at hJ;simp[hk,s3,z1,ne,X3,hie];refine Jx (O4 (x.Edges[i]'hie) 1 x.Levels.length) (by simp) ?_;rintro r rfl;cases hz:Kh (x.Edges[i]'hie) 1 x.Levels.length
   ·rw[hz,Bool.false_and]at hJ;simp;exact hrt _ _ _ (hret hJ.symm _ _ _ (by simp))
   ·rw[hz,Bool.true_and]at hJ;simp[s43,hw];exact hR _ _ _ (by simp[hk]) (by simp) ⟨by omega,λid hid=>by simp[fr id hid,hf id hid],hJ⟩
 ·rintro st h1 m1 R hk s43 ⟨hm1,hf,hJ⟩ hrt hX;simp at hk;rw[drop_eq_nil_of_le (by omega)]at hJ;simp[hk,s43];refine hX _ _ _ _ ?_;simp;exact hK _ _ _ (by rw[<-hJ];rfl)
end
theorem J8w(p:Jo)(hp:X2 p<=1048576)(x:Xk):Holds prog 124 [.agg (Jg p),.agg (X3 x)] (λr=>r = .bool (Gc p x)):=by
 have h16:=Fb (p:=p);refine Jp func124 Jtp rfl (by simp[K4y]) ?_;simp[K4y,rg0,rg1];refine Je (Rn p hp) (by simp) ?_;rintro r rfl;simp[rg2];refine Je (Sm p hp) (by simp) ?_;rintro r rfl;have hrk:Gc p x=(Ym p&&decide (x.Levels.length<=3)&&decide (x.Edges.length=(K1 p).length)&&(x.Levels.all (Qc p.Functions)&&((K1 p).zip x.Edges).all λy=>Wt p x.Levels.length y.1 y.2)):=rfl;cases h1:Ym p
 ·rw[h1]at hrk;simp at hrk;simp[hrk]
 rw[h1]at hrk;by_cases h2:x.Levels.length<=3
 case neg=>
  have h2':(3:Int)<x.Levels.length:=by omega
  have h2'':3<x.Levels.length:=by omega
  simp[h2]at hrk;simp[X3,h2',hrk]
 have h2':¬(3:Int)<x.Levels.length:=by omega
 have h2'':¬3<x.Levels.length:=by omega
 by_cases h3:x.Edges.length=(K1 p).length
 case neg=>
  have h3':¬(x.Edges.length:Int)=(K1 p).length:=by omega
  simp[h3]at hrk;simp[X3,h2',h3',hrk]
 simp[h2,h3]at hrk;simp[X3,h2',h3];intros;refine Jsj (p:=p) (x:=x) (by omega) (by simp) (by simp) (by simp) (by simp[X3]) h2 ?_ ?_
 ·intro hF s' h' n' s4;rw[hF]at hrk;simp at hrk;simp[s4,hrk]
 ·intro s' hk' hF;simp at hk';rw[hF]at hrk;simp;refine Jok hp (x:=x) (by omega) (by simp[hk']) (by simp[hk']) (by simp[hk']) (by simp) (by simp[X3]) (by simp) h2 h3 ?_ ?_
  ·intro hF2 s' h' n' s4;rw[hF2]at hrk;simp at hrk;simp[s4,hrk]
  ·intro s' h' n' hF2;rw[hF2]at hrk;simp at hrk;simp[rg5,hrk]
end Go.Proofs.YtoclolkigjbcgaaGreat

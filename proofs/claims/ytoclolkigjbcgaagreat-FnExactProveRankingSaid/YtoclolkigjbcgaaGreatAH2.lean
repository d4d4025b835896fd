/- Contracts: the domain of a function, of both. -/
import Derived.Test.YtoclolkigjbcgaaGreatAC13
import Derived.Test.YtoclolkigjbcgaaGreatAV5
import Derived.Test.YtoclolkigjbcgaaGreatAHS9
import Derived.Test.YtoclolkigjbcgaaGreatARE
import Derived.Test.YtoclolkigjbcgaaGreatAT1
import Derived.Test.YtoclolkigjbcgaaGreatProg
namespace Go.Proofs.YtoclolkigjbcgaaGreat
open Tryz
open Tryz(prog)
open List(length_append length_cons drop_eq_getElem_cons nil_append drop_eq_nil_of_le map_cons getElem_mem foldl_cons mem_append mem_cons not_mem_nil mem_cons_of_mem mem_cons_self mem_map sum_cons)
set_option maxRecDepth 40000
set_option maxHeartbeats 4000000
open Go Go.RowKit Go.Proofs
set_option linter.all false
def K73:Jl:= ⟨46,[.t 4],(Zq [ZB 2 0,Zz 4 2] (Zq [Zo 8 (.bsl 2 []),Zv 5 8] (.seq (Zq [Zi 6 0] (.blk 0 (.loop (.seq (Zq [Zv 9 6,Zf 10 1 2,Zl 11 false 1 10,Zn 12 11,Zb 13 .lss 9 12] (Zw 13 0)) (.seq (.blk 1 (Zq [Zf 16 1 2,Zl 17 false 1 16,Zv 18 6,Zx 19 1 17 18,Zl 20 false 1 19,Zc 21 260 [.t 20]] (.cond (.t 21) (.reg [Zv 22 5,Zv 23 6,Zv 24 1,Zc 25 261 [.t 23,.t 24],ZS 26 2 25,ZA 27 32 2 22 26,Zv 5 27]) .skip))) (.reg [Zv 14 6,Zk 15 .add 14 1,Zv 6 15])))))) (.seq (Zq [Zi 7 0] (.blk 2 (.loop (.seq (Zq [Zv 28 7,Zf 29 3 2,Zl 30 false 1 29,Zn 31 30,Zb 32 .lss 28 31] (Zw 32 2)) (.seq (.blk 3 (.reg [Zv 35 5,Zf 36 3 2,Zl 37 false 1 36,Zv 38 7,Zx 39 2 37 38,Zl 40 true 2 39,Zv 41 1,Zc 42 262 [.t 40,.t 41],ZS 43 2 42,ZA 44 32 2 35 43,Zv 5 44])) (.reg [Zv 33 7,Zk 34 .add 33 1,Zv 7 34])))))) (Zq [Zv 45 5,Zv 4 45] .ret)))))⟩
theorem Jt5:Jh prog f180=some K73:=by kernel_rfl
theorem Rd{n:Nat} : ∀{xs:List J9}{i:Nat},(Ho n xs i).length<=xs.length
 | [],_=>Nat.le_refl _
 |x::xs,i=>by have:=Rd (n:=n) (xs:=xs) (i:=i+1);simp only[Ho,length_append,length_cons];split <;>simp <;>omega
theorem Jxe{f:K3}(hw:Yr f<=1048576):f.Params.length<=1048576/\f.Pre.length<=1048576/\∀l∈f.Pre,l.Coeffs.length<=1048576:=by have h3:Yr f=f.Name.length+It f.Params+U9 f.Pre:=rfl;have h4:=Yn List.length f.Params;have h5:=Yn Uf f.Pre;unfold It U9 at h3;refine⟨by omega,by omega,λl hl=>?_⟩;have:=Wn (w:=Uf) hl;rw[show Uf l=l.Coeffs.length from rfl]at this;omega
theorem Kec{p:Jo}{name:J9}{f:K3}(hp:X2 p<=1048576)(hf:Xc p.Functions name=some f):Yr f<=1048576:=by have h3:=Wn (w:=Yr) (List.mem_of_find?_eq_some hf);unfold X2 Qb at hp;omega
theorem J7y(f:K3)(n:Nat)(hw:Yr f<=1048576)(hn:n<=1048576)(hpre:∀l∈f.Pre,l.Coeffs.length<=n):Holds prog 180 [.agg (K5 f),i64 n] (λr=>r = .us 2 ((V1 f n).map Ja)):=by
 obtain⟨hl1,hl2,hl3⟩:=Jxe hw;have hr0:=Rd (n:=n) (xs:=f.Params) (i:=0);refine Jp func180 Jt5 rfl (by simp[K73]) ?_;simp[K73,K5];generalize hT1:Ho n f.Params 0=T1;rw[hT1]at hr0;have hdom:V1 f n=T1++f.Pre.map (Yv n):=by unfold V1;rw[hT1]
 refine Ka [1,2] 6 f.Params.length (λi s h m=>1<m/\h 0=some ⟨true,4,[K5 f]⟩/\∃(acc:List Jc) (id:Nat),acc++Ho n (f.Params.drop i) i=T1/\id≠0/\id<m/\s 5 = .ref id 0 acc.length/\h id=some ⟨false,2,acc.map Ja⟩) (by unfold Jd;omega) (by simp) ⟨by simp,by simp[K5],[],1,by simpa using hT1,by simp,by simp,by simp,by simp⟩ ?_ ?_
 ·rintro i st h m R hi hg hk s6 hw ⟨hm,e0,acc,id,hJ,hid0,hid,s5,eid⟩ hR _ _;simp at hk;rw[drop_eq_getElem_cons hi]at hJ;simp only[Ho]at hJ;refine Jn (Jq [1,2,5,6] (λs=>s 13 = .bool true) (by simp[hk,s6,hi,e0,K5]) ?_);intro Jv hk1 s13;simp at hk1;refine U2 s13 (Jn (Xd ?_));refine Jq [1,2,5,6] (λs=>s 21 = .bool (Xp f.Params[i])) ?_ ?_
  ·simp[hk1,hk,s6,hi,e0,K5];refine Je (Dv (f.Params[i]'hi)) (by simp) ?_;rintro r rfl;simp
  intro st2 hk2 s21;simp at hk2;have z0:¬0=m:=by omega
  have z1:¬m=0:=by omega
  have z2:¬id=m:=by omega
  have z3:¬m=id:=by omega
  have z4:¬0=id:=by omega
  have z5:¬0=m+1:=by omega
  have z6:¬id=m+1:=by omega
  have z7:¬m+1=id:=by omega
  have z8:¬0=m+2:=by omega
  have z9:¬0=m+1+1:=by omega
  cases c1:Xp f.Params[i]
  ·rw[c1]at hJ s21;simp only[Bool.false_eq_true,if_false,nil_append]at hJ;simp[hk2,hk1,s21,s6,hw];exact hR _ _ _ (by simp[hk2,hk1,hk]) (by simp) ⟨hm,e0,acc,id,hJ,hid0,hid,by simp[hk2,hk1,s5],eid⟩
  ·rw[c1]at hJ s21;simp only[if_true]at hJ;have hal:=congrArg List.length hJ;simp only[length_append,length_cons,List.length_nil]at hal;simp[hk2,hk1,hk,s21,s6];refine Je (P5 i n) (by simp) ?_;rintro r rfl;simp[hk2,hk1,s6,hw,eid,s5,Ja,z2,z6,z7];refine⟨by unfold Jd;omega,?_⟩;exact hR _ _ _ (by simp[hk2,hk1,hk]) (by simp) ⟨by omega,by simp[e0,z0,z4],acc++[Ki i n],m+2,by simpa using hJ,by omega,by omega,by simp,by simp[Ja]⟩
 rintro st h m R hk s6 ⟨hm,e0,acc,id,hJ,hid0,hid,s5,eid⟩ hret hX;simp at hk;rw[drop_eq_nil_of_le (by omega)]at hJ;simp only[Ho,List.append_nil]at hJ;subst hJ;refine Jn (Jq [1,2,5] (λs=>s 13 = .bool false) (by simp[hk,s6,e0,K5]) ?_);intro Jv hk1 s13;simp at hk1;refine U1 s13 ?_;refine hX _ _ _ _ ?_;simp;generalize hT2:acc++f.Pre.map (Yv n)=T2;refine Ka [1,2] 7 f.Pre.length (λi s h m=>1<m/\h 0=some ⟨true,4,[K5 f]⟩/\∃(acc:List Jc) (id:Nat),acc++(f.Pre.drop i).map (Yv n)=T2/\id≠0/\id<m/\s 5 = .ref id 0 acc.length/\h id=some ⟨false,2,acc.map Ja⟩) (by unfold Jd;omega) (by simp) ⟨hm,e0,acc,id,by simpa using hT2,hid0,hid,by simp[hk1,s5],eid⟩ ?_ ?_
 ·rintro i tt h m R hi hg hl s7 hw ⟨hm,e0,acc,id,hJ,hid0,hid,s5,eid⟩ hR _ _;simp[hk1,hk]at hl;rw[drop_eq_getElem_cons hi,map_cons]at hJ;refine Jn (Jq [1,2,5,7] (λs=>s 32 = .bool true) (by simp[hl,s7,hi,e0,K5]) ?_);intro tt1 hl1 s32;simp at hl1;refine U2 s32 (Jn (Xd ?_));have z0:¬0=m:=by omega
  have z1:¬m=0:=by omega
  have z2:¬id=m:=by omega
  have z3:¬m=id:=by omega
  have z4:¬0=id:=by omega
  have z5:¬0=m+1:=by omega
  have z6:¬id=m+1:=by omega
  have z7:¬m+1=id:=by omega
  have z8:¬0=m+2:=by omega
  have z9:¬0=m+1+1:=by omega
  have hal:=congrArg List.length hJ;simp only[length_append,length_cons,List.length_map,List.length_drop]at hal;have hT2l:T2.length<=3000000:=by rw[<-hT2];simp;omega
  simp[hl1,hl,s7,hi,e0,K5];refine Je (J8v (f.Pre[i]'hi) n (hpre _ (getElem_mem hi)) hn) (by simp) ?_;rintro r rfl;simp[hl1,s7,hw,eid,s5,Ja,z2,z6,z7];refine⟨by unfold Jd;omega,?_⟩;exact hR _ _ _ (by simp[hl1,hl,hk1,hk]) (by simp) ⟨by omega,by simp[e0,z0,z4],acc++[Yv n f.Pre[i]],m+2,by simpa using hJ,by omega,by omega,by simp,by simp[Ja]⟩
 rintro tt h m R hl s7 ⟨hm,e0,acc,id,hJ,hid0,hid,s5,eid⟩ hret hX;simp[hk1,hk]at hl;rw[drop_eq_nil_of_le (by omega)]at hJ;simp only[List.map_nil,List.append_nil]at hJ;subst hJ;refine Jn (Jq [1,2,5] (λs=>s 32 = .bool false) (by simp[hl,s7,e0,K5]) ?_);intro tt1 hl1 s32;simp at hl1;refine U1 s32 ?_;refine hX _ _ _ _ ?_;simp[hl1,s5,eid,hdom,hT2]
def K46:Jl:= ⟨22,[(.c 4 true 6),.t 5],(Zq [ZB 2 0,ZV 4,Zt 5 false] (.seq (Zq [Zl 6 true 2 2,Zc 7 61 [.t 6],ZN 8 7,Zv 9 8,Zg 10 9 false (.mv (.t 1)),Zg 11 9 false (.fld 1 (.t 2)),Zg 12 9 false (.ld false 1 (.t 11)),Zg 13 9 false (.len false (.t 12)),Zg 14 9 false (.bin .sub (.t 13) (.k (.int .i64 1))),Zg 15 9 false (.call (.k (.fn (.func 183) [] [])) [.t 10,(.k (.int .i64 0)),.t 14]),Zg 16 9 false (.un .not (.t 15)),ZP 17 9 16] (.cond (.t 17) (Zq [Zo 18 (.build [(.int .i64 0),(.nil 2),(.nil 2),(.nil 1),(.int .i64 0),(.nil 1)] []),Zs 6 4 18,Zt 5 false] .ret) .skip)) (Zq [Zl 19 true 2 2,Zv 20 1,Zc 21 184 [.t 19,.t 20],Zs 6 4 21,Zt 5 true] .ret)))⟩
theorem Jqh:Jh prog f171=some K46:=by kernel_rfl
theorem J38{n:Nat} : ∀{xs:List J9}{a:MS},(xs.foldl (U7 n) a).nx=a.nx+xs.length/\(xs.foldl (U7 n) a).E.length=a.E.length+xs.length/\(xs.foldl (U7 n) a).args=a.args/\(xs.foldl (U7 n) a).rows=a.rows/\Kl (xs.foldl (U7 n) a).E=Kl a.E++xs
 | [],a=>by simp
 |x::xs,a=>by obtain⟨h1,h2,h3,h4,h5⟩:=J38 (n:=n) (xs:=xs) (a:=U7 n a x);simp only[foldl_cons,length_cons];refine⟨by rw[h1];show a.nx+1+_=_;omega,by rw[h2];simp[U7];omega,by rw[h3];rfl,by rw[h4];rfl,by rw[h5];simp[U7,Kl]⟩
theorem Jae{n:Nat}(hn:n<=8):∀{xs:List J9}{a:MS},(∀e∈a.E,e.2.Coeffs.length<=8)->∀e∈(xs.foldl (U7 n) a).E,e.2.Coeffs.length<=8
 | [],_,h=>h
 |x::xs,a,h=>by
  simp only[foldl_cons];refine Jae hn ?_;intro e he;rcases mem_append.1 he with he|he
  ·exact h e he
  ·simp at he;subst he;exact H7 n hn
theorem Su{n:Nat} : ∀{xs:List X4}{a:MS},(xs.foldl (Xs n) a).rows.length=a.rows.length+xs.length/\(xs.foldl (Xs n) a).E.length<=a.E.length+2*xs.length/\(xs.foldl (Xs n) a).args=a.args/\(xs.foldl (Xs n) a).nx=a.nx+Yf xs
 | [],a=>by simp[Yf]
 |x::xs,a=>by
  obtain⟨h1,h2,h3,h4⟩:=Su (n:=n) (xs:=xs) (a:=Xs n a x);simp only[foldl_cons,length_cons];have g1:(Xs n a x).rows.length=a.rows.length+1:=by unfold Xs;split <;>simp
  have g2:(Xs n a x).E.length<=a.E.length+2:=by unfold Xs;split <;>simp
  have g3:(Xs n a x).args=a.args:=by unfold Xs;split <;>rfl
  have g4:(Xs n a x).nx=a.nx+(if x.Cons then 1 else 0):=by unfold Xs;cases x.Cons <;>simp
  exact⟨by omega,by omega,by rw[h3,g3],by rw[h4,g4,J5c];omega⟩
theorem J4y{n:Nat} : ∀{xs:List Xq}{a:MS},(xs.foldl (Wl n) a).E.length=a.E.length+xs.length
 | [],a=>by simp
 |x::xs,a=>by have h1:=J4y (n:=n) (xs:=xs) (a:=Wl n a x);simp only[foldl_cons,length_cons];rw[h1];simp[Wl];omega
theorem J3c(p:Jo)(hp:X2 p<=1048576)(h1:Ym p=true){j:Nat}(hj:j<p.Rules.length):Holds prog 184 [.agg (Jg p),i64 j] (λx=>x = .agg (Ug (Qj (p.Rules[j]) (Iv p (p.Rules[j]))))):=by
 refine Jp func184 Jo6 rfl (by simp[K8b]) ?_;obtain⟨f,hf,R⟩:=Fk h1 (getElem_mem hj);have hfa:Iv p p.Rules[j]=f:=by unfold Iv;rw[hf];rfl
 simp[K8b,lm0,lm1,lm2,Jg,hj];refine Je (C7 p (p.Rules[j]).Func hp) (by simp[Jg]) ?_;rintro r rfl;rw[hfa,hf];have hwf:=Kec hp hf;have hpar:=R.par;have hnpre:=R.npre;have hnp:=R.npats;have hnc:=R.ncalls;have h6:=R.size;have hrargs:=R.args h1;have hrres:=P2 (J5h R.res);generalize p.Rules[j]=r at *;simp[Qz,Xr,Ju,lm3,lm4];intro _;refine Jx (Jbt r.Patterns) (by simp) ?_;rintro _ rfl;have hcl:=Jb9 r.Patterns;have hw1:IntKind.i64.wrap ((f.Params.length:Int)+(Yf r.Patterns:Int))=(f.Params.length:Int)+(Yf r.Patterns:Int):=Km (by omega);have hw2:IntKind.i64.wrap ((f.Params.length:Int)+(Yf r.Patterns:Int)+(r.Calls.length:Int))=(Kc r f:Int):=by rw[Km (by omega)];unfold Kc;omega
 have hpl:∀l∈f.Pre,l.Coeffs.length<=Kc r f:=λl hl=>by
  have h1:=(Wj (R.pre l hl)).1;have h2:f.Params.length<=Kc r f:=by unfold Kc;omega
  omega
 simp[hw1,hw2,lm5];have hkE:=J38 (n:=Kc r f) (xs:=f.Params) (a:=⟨[],0,V1 f (Kc r f),[],[]⟩);have hvE:=Jae (n:=Kc r f) (by omega) (xs:=f.Params) (a:=⟨[],0,V1 f (Kc r f),[],[]⟩) (by simp)
 have hdl:(V1 f (Kc r f)).length<=4:=by unfold V1;have:=Rd (n:=Kc r f) (xs:=f.Params) (i:=0);simp;omega
 rw[<-show W6 r f=f.Params.foldl (U7 (Kc r f)) ⟨[],0,V1 f (Kc r f),[],[]⟩from rfl]at hkE hvE;have hsz:r.Calls.length<=Kc r f/\f.Params.length+Yf r.Patterns=Kc r f - r.Calls.length:=by unfold Kc;omega
 have ss3d:Yg r f=r.Patterns.foldl (Xs (Kc r f)) (We (W6 r f) f.Params.length):=rfl;have hp3:=Su (n:=Kc r f) (xs:=r.Patterns) (a:=We (W6 r f) f.Params.length);rw[<-ss3d]at hp3;have ss5d:Vy r f=r.Calls.foldl (Wl (Kc r f)) (Yc (We (Yg r f) (f.Params.length+Yf r.Patterns)) (r.Guards.map (V5 (Yg r f).E (Kc r f)))):=rfl;have hc5:=J4y (n:=Kc r f) (xs:=r.Calls) (a:=Yc (We (Yg r f) (f.Params.length+Yf r.Patterns)) (r.Guards.map (V5 (Yg r f).E (Kc r f))));rw[<-ss5d]at hc5;have hmS:Qj r f=M0 (Kc r f) (Vy r f) (Q9 (Vy r f).E (Kc r f) r.Result):=rfl;rw[hmS]
 have hrr:(r.Patterns.foldl (Xs (Kc r f)) ⟨(W6 r f).E,f.Params.length,[],[],[]⟩).rows.length<=100000:=by have:=(Su (n:=Kc r f) (xs:=r.Patterns) (a:=⟨(W6 r f).E,f.Params.length,[],[],[]⟩)).1;rw[this];simp;omega
 generalize hN:Kc r f=N at *;refine Je (J7y f N hwf (by omega) hpl) (by simp[K5]) ?_;rintro r rfl;simp[lm6];refine Jr5 (r:=r) (f:=f) (N:=N) (R0:=V1 f N) (by simp) (by simp) (by simp) (by simp) (by simp) ?_ hpar ?_
 ·refine⟨by simp,by simp[Ju],by simp,by simp,by omega,.nil 1,.nil 2,.ref 6 0 (V1 f N).length,.nil 2,.nil 1,by simp,by simp[Xj],?_,?_⟩
  ·intro x hx;simp only[mem_cons,not_mem_nil,or_false]at hx;rcases hx with rfl|rfl|rfl|rfl|rfl
   ·exact .inl (by simp[Kl,Jf])
   ·exact .inl (by simp[Y8])
   ·exact .inr ⟨6,by omega,by omega,by simp,by simp⟩
   ·exact .inl (by simp)
   ·exact .inl (by simp)
  ·simp only[List.pairwise_cons,mem_cons,not_mem_nil,or_false,forall_eq_or_imp,forall_eq];refine⟨⟨?_,?_,?_,?_⟩,⟨?_,?_,?_⟩,⟨?_,?_⟩,?_,by simp⟩ <;>intro i k l e1 e2 <;>first|cases e1;done|(cases e2;done)
 intro s1 h1' n1 hk1 M1;simp at hk1;rw[show f.Params.foldl (U7 N) ⟨[],0,V1 f N,[],[]⟩=W6 r f by unfold W6;rw[hN]]at M1;refine W0 (Jhs (m:=f.Params.length) (by simp[hk1]) (by simp[hk1]) (by simp[hk1]) (by simp[hk1]) (by simp[hk1]) M1 (by omega) (by omega) (by rw[hkE.2.1];simp;omega) (by omega) (by rw[hkE.2.2.2.1];show(V1 f N).length<=_;omega) ?_ hvE hrr ?_)
 ·intro q hq;rw[hkE.2.2.2.2];simpa[Kl]using R.pats q hq
 intro s2 h2 n2 hk2 M2;simp at hk2;rw[<-ss3d]at M2
 have hE3:(Yg r f).E.length<=1000:=by
  have e1:(We (W6 r f) f.Params.length).E.length=f.Params.length:=by show(W6 r f).E.length=_;rw[hkE.2.1];simp
  omega
 have hR3:(Yg r f).rows.length<=1000:=by
  have e1:(We (W6 r f) f.Params.length).rows.length=(V1 f N).length:=by show(W6 r f).rows.length=_;rw[hkE.2.2.2.1]
  omega
 refine Jn (Jik (by simp[hk2,hk1]) (by simp[hk2,hk1]) (by simp[hk2,hk1]) (by simp[hk2,hk1]) M2 (by omega) R.nguards (λg hg=>?_) (by omega) ?_)
 ·have:=R.guards g hg;unfold Qo I8 at this;simp only[Bool.and_eq_true,decide_eq_true_eq]at this;omega
 intro s3 h3 n3 hk3 M3;simp at hk3;have M3':SM r f N (Yc (We (Yg r f) (f.Params.length+Yf r.Patterns)) (r.Guards.map (V5 (Yg r f).E N))) h3 n3:=M3;refine W0 (Jn (Ji5 (by simp[hk3,hk2,hk1]) (by simp[hk3,hk2,hk1]) (by simp[hk3,hk2,hk1]) (by simp[hk3,hk2,hk1]) M3' (by omega) (by show(Yg r f).E.length<=_;omega) hnc (by omega) (by show f.Params.length+Yf r.Patterns=_;omega) (by have:=R.nguards;show((Yg r f).rows++_).length<=_;simp;omega) ?_ (λc hc=>⟨(hrargs c hc).1,λx hx=>P2 ((hrargs c hc).2 x hx)⟩) ?_))
 ·show(Yg r f).args.length<=_
  rw[hp3.2.2.1];show(W6 r f).args.length<=_
  rw[hkE.2.2.1];simp
 intro s4 h4 n4 hk4 M4;simp at hk4;rw[<-ss5d]at M4
 have hE5:(Vy r f).E.length<=2000:=by
  rw[hc5];show(Yg r f).E.length+_<=_
  omega
 generalize Vy r f=ms at *;obtain⟨vN,vL,e8,hbw⟩:=M4.bws;obtain⟨b1,b2⟩:=hbw h4 λ_ _=>rfl
 have l4:=M4.lt;refine W0 ?_;simp[Kc5,hk4,hk3,hk2,hk1,e8,M4.hr,Ju];refine Je (J1n ms.E (by omega) r.Result (λx hx=>by have:=hrres.1 x hx;omega) hrres.2 N) (by simp[G1,b1,b2,Kn]) ?_;rintro r rfl;rw[Xm,show(Fx ms.E N r.Result).getD Jj=Q9 ms.E N r.Result from rfl];generalize Q9 ms.E N r.Result=res at *;obtain⟨vN2,vL2,vR,vP,vA,e8',e7,AS⟩:=M4.acc;obtain⟨AS1,AS2⟩:=AS;simp only[List.pairwise_cons,mem_cons,not_mem_nil,or_false,forall_eq_or_imp,forall_eq]at AS2;obtain⟨_,_,⟨d8,d9⟩,d10,_⟩:=AS2;have k2:=AS1 (2,ms.rows.map Ja,vR) (by simp);have k3:=AS1 (2,ms.pars.map Ja,vP) (by simp);have k4:=AS1 (1,ms.args.map Y3,vA) (by simp);have cR:=k2.cell;have cP:=k3.cell;have cA:=k4.cell;have ne:¬7=n4/\¬1=n4/\¬n4=7/\¬n4=1:=by omega
 simp[Ja,hk4,hk3,hk2,hk1,e7,Xj,Kca,M4.hz,ne,-dt,-Va,-Kb,J1r,J4k,cR,cP,cA];generalize hH:upd (upd (upd h4 n4 _) 7 _) 1 _=H
 have fH:∀id,5<id->id<n4->id≠7->H id=h4 id:=by
  intro id hid _ _;have:¬id=1/\¬id=7/\¬id=n4:=by omega
  rw[<-hH];simp[this]
 have nb:∀{z:Nat}{rows:List (List AV)}{v:AV}(x:Kj 5 z rows v h4 n4),Kj 5 z rows v H n4:=λx=>x.keep (Nat.le_refl _) λid hb hid e=>fH id hb hid λe'=>x.not_box e7 (by rw[<-e'];exact e)
 have m2:=nb k2;have m3:=nb k3;have m4:=nb k4;have kq:H n4=some ⟨false,1,Ji res.Coeffs⟩:=by rw[<-hH];simp[ne]
 obtain⟨H1,dd1,e1⟩:=m2.dt;have m3':Kj 5 2 (ms.pars.map Ja) vP H1 n4:=m3.keep (Nat.le_refl _) λid hb hid e=>e1 id λl el=>d8 id _ _ el e
 obtain⟨H2,dd2,e2⟩:=m3'.dt
 have m4':Kj 5 1 (ms.args.map Y3) vA H2 n4:=m4.keep (Nat.le_refl _) λid hb hid e=>by rw[e2 id λl el=>d10 id _ _ el e,e1 id λl el=>d9 id _ _ el e]
 obtain⟨H3,dd3,e3⟩:=m4'.dt
 have kq3:H3 n4=some ⟨false,1,Ji res.Coeffs⟩:=by rw[e3 n4 λl el=>m4.ne_ge (Nat.le_refl _) el,e2 n4 λl el=>m3.ne_ge (Nat.le_refl _) el,e1 n4 λl el=>m2.ne_ge (Nat.le_refl _) el,kq]
 simp[dd1,dd2,dd3,kq3,Ug,M0]
theorem J58(p:Jo)(hp:X2 p<=1048576)(k:Int):Holds prog 171 [.agg (Jg p),i64 k] (λr=>r=Hp (Hf p k)):=by
 refine Jp func171 Jqh rfl (by simp[K46]) ?_;simp[K46,Jg];refine Je (T0 p hp) (by simp[Jg]) ?_;rintro r rfl;unfold Hf;cases h1:Ym p
 ·simp[Hp,Dd,Ug,Ji]
 simp;intro hrl;have hw:IntKind.i64.wrap ((p.Rules.length:Int) - 1)=(p.Rules.length:Int) - 1:=Km (by unfold Jd at hrl;omega);rw[hw];refine Je (Gb k 0 ((p.Rules.length:Int) - 1)) (by simp) ?_;rintro r rfl;cases h2:Kh k 0 ((p.Rules.length:Int) - 1)
 ·simp[Hp,Dd,Ug,Ji]
 have hk0:0<=k/\k<=(p.Rules.length:Int) - 1:=by simpa[Kh]using h2
 obtain⟨j,rfl⟩:∃j:Nat,k=j:=⟨k.toNat,by omega⟩;have hj:j<p.Rules.length:=by omega
 have hgd:p.Rules.getD ((j:Int).toNat) Fg=p.Rules[j]:=by simp[hj]
 simp[hj];refine Je (J3c p hp h1 hj) (by simp[Jg]) ?_;rintro r rfl;generalize Qj (p.Rules[j]) (Iv p (p.Rules[j]))=md;simp[Hp,Ug]
theorem Jhb:∀(l:List Jc),(∀x∈l,x.Coeffs.length<=8)->H5 l<=9*l.length:=by
 intro l
 induction l with
 |nil=>intro _;simp[H5,cL]
 |cons e l ih=>
  intro h;have h1:=ih λx hx=>h x (mem_cons_of_mem _ hx)
  have h2:=h e mem_cons_self;unfold H5 at *;simp only[cL,F7,Ea,length_cons];omega
theorem Jsy{a b o:Jc}{k:Int}(h:K9 a k b=some o):o.Coeffs.length<=8:=by have:=Ck (a:=a) (k:=k) (b:=b);unfold Ys at this;rw[h]at this;exact this
theorem Jdv{E:Xo}{n:Nat} : ∀{ts:List Yj}{o r:Jc},o.Coeffs.length<=8->Ba E n ts o=some r->r.Coeffs.length<=8
 | [],o,r,ho,h=>by cases h;exact ho
 |t::ts,o,r,ho,h=>by
  simp only[Ba]at h;split at h
  ·cases h
  ·rename_i o' ha;exact Jdv (Jsy ha) h
theorem Jao{E:Xo}{n:Nat}{s:Xg} : (V5 E n s).Coeffs.length<=8:=by
 unfold V5 Er
 cases h:Ba E n s.Terms (Jr s.Const n)with
 |none=>simp[Jj]
 |some r=>exact Jdv (Mn _ _) h
theorem Jat{E:Xo}{n:Nat}{a:Xe} : (Q9 E n a).Coeffs.length<=8:=by
 unfold Q9 Fx;split
 ·split
  ·exact Mn _ _
  ·exact Ck
 ·exact Jao
theorem Jnd{E:Xo}{x:J9}{n:Int}(h:∀e∈E,e.2.Coeffs.length<=8):(Kp (Jr 0 n) E x).Coeffs.length<=8:=by
 by_cases hx:x∈Kl E
 ·exact Jai h hx
 ·have:E.find? (λe=>e.1==x)=Option.none:=by
   rw[List.find?_eq_none];intro e he hb;exact hx (mem_map.2 ⟨e,he,by simpa using hb⟩)
  unfold Kp;rw[this];exact Mn _ _
structure Vf (ms:MS):Prop where
 E:∀e∈ms.E,e.2.Coeffs.length<=8
 R:∀l∈ms.rows,l.Coeffs.length<=8
 P:∀l∈ms.pars,l.Coeffs.length<=8
theorem Mr{α:Type}{l:List α}{x:α}{p:α->Prop}(h:∀y∈l,p y)(hx:p x):∀y∈l++[x],p y:=by
 intro y hy;rcases mem_append.1 hy with hy|hy
 ·exact h y hy
 ·simp at hy;subst hy;exact hx
theorem Vf.par {n:Nat}(hn:n<=8) {ms:MS}(M:Vf ms) (x:J9):Vf (U7 n ms x):=
 ⟨Mr M.E (H7 n hn),M.R,Mr M.P (H7 n hn)⟩
theorem Vf.pat {n:Nat}(hn:n<=8) {ms:MS}(M:Vf ms) (q:X4):Vf (Xs n ms q):=by
 have hl:(F6 n ms q).Coeffs.length<=8:=by unfold F6 Vn;exact Jnd M.E
 unfold Xs;split
 ·refine⟨?_,Mr M.R hl,M.P⟩;intro e he;rcases mem_append.1 he with he|he
  ·exact M.E e he
  ·simp at he;rcases he with rfl|rfl
   ·exact H7 n hn
   ·exact hl
 ·exact⟨M.E,Mr M.R Ck,M.P⟩
theorem Vf.call {n:Nat}(hn:n<=8) {ms:MS}(M:Vf ms) (c:Xq):Vf (Wl n ms c):=by
 refine⟨Mr M.E (H7 n hn),?_,M.P⟩;intro l hl;rcases mem_append.1 hl with hl|hl
 ·exact M.R l hl
 ·split at hl
  ·simp at hl;subst hl;exact H7 n hn
  ·cases hl
theorem Vf.fold {α:Type}{g:MS->α->MS}(hg:∀ms x,Vf ms->Vf (g ms x)):∀{l:List α}{ms:MS},Vf ms->Vf (l.foldl g ms)
 | [],_,h=>h
 |x::l,ms,h=>Vf.fold hg (l:=l) (hg ms x h)
theorem J7j{n:Nat} : ∀{xs:List Xq}{a:MS},(xs.foldl (Wl n) a).rows.length<=a.rows.length+xs.length/\(xs.foldl (Wl n) a).pars=a.pars/\(xs.foldl (Wl n) a).args.length=a.args.length+xs.length /\
 ∀l∈(xs.foldl (Wl n) a).args,l∈a.args\/(∃c∈xs,l.length=c.Args.length/\∀y∈l,y.Coeffs.length<=8)
 | [],a=>by simp
 |x::xs,a=>by
  obtain⟨h1,h2,h3,h4⟩:=J7j (n:=n) (xs:=xs) (a:=Wl n a x);simp only[foldl_cons,length_cons];have g1:(Wl n a x).rows.length<=a.rows.length+1:=by unfold Wl;simp only[length_append];split <;>simp
  have g3:(Wl n a x).args.length=a.args.length+1:=by simp[Wl]
  refine⟨by omega,by rw[h2];rfl,by omega,?_⟩;intro l hl;rcases h4 l hl with h|⟨c,hc,h⟩
  ·rcases mem_append.1 h with h|h
   ·exact .inl h
   ·simp at h;refine .inr ⟨x,mem_cons_self,by rw[h];simp,?_⟩;intro y hy;rw[h]at hy;obtain⟨z,_,rfl⟩:=mem_map.1 hy;exact Jat
  ·exact .inr ⟨c,mem_cons_of_mem _ hc,h⟩
theorem J6y{n:Nat} : ∀{xs:List J9}{a:MS},(xs.foldl (U7 n) a).pars.length=a.pars.length+xs.length
 | [],a=>by simp
 |x::xs,a=>by have h1:=J6y (n:=n) (xs:=xs) (a:=U7 n a x);simp only[foldl_cons,length_cons];rw[h1];simp[U7];omega
theorem J6m{n:Nat} : ∀{xs:List X4}{a:MS},(xs.foldl (Xs n) a).pars=a.pars
 | [],a=>rfl
 |x::xs,a=>by simp only[foldl_cons];rw[J6m];unfold Xs;split <;>rfl
theorem J6v{p:Jo}{r:K0}{f:K3}(hp:Ym p=true)(R:C9 p r f):(Qj r f).System.Rows.length<=10/\(∀l∈(Qj r f).System.Rows,l.Coeffs.length<=8)/\(Qj r f).Params.length<=2/\(∀l∈(Qj r f).Params,l.Coeffs.length<=8) /\
 (Qj r f).Args.length<=2/\(∀l∈(Qj r f).Args,l.length<=2/\∀y∈l,y.Coeffs.length<=8)/\(Qj r f).Result.Coeffs.length<=8/\(Qj r f).System.N<=6/\0<=(Qj r f).System.N:=by
 have hn:Kc r f<=8:=by have:=R.size;omega
 have hpar:=R.par;have hnp:=R.npats;have hnc:=R.ncalls;have hng:=R.nguards;have hpre:=R.npre
 have hdl:(V1 f (Kc r f)).length<=4/\∀l∈V1 f (Kc r f),l.Coeffs.length<=8:=by
  have hlr:=Rd (n:=Kc r f) (xs:=f.Params) (i:=0);refine⟨by unfold V1;simp;omega,?_⟩;intro l hl;rcases mem_append.1 hl with hl|hl
  ·have:∀(xs:List J9) (i:Nat),∀l∈Ho (Kc r f) xs i,l.Coeffs.length<=8:=by
    intro xs
    induction xs with
    |nil=>intro i l hl;cases hl
    |cons x xs ih=>
     intro i l hl;rcases mem_append.1 hl with hl|hl
     ·split at hl
      ·simp at hl;subst hl;exact H7 _ hn
      ·cases hl
     ·exact ih _ l hl
   exact this _ _ l hl
  ·obtain⟨x,hx,rfl⟩:=mem_map.1 hl;have h1:=(Wj (R.pre x hx)).1;have h2:f.Params.length<=Kc r f:=by unfold Kc;omega
   simp[Yv];omega
 have m1:Vf (W6 r f):=Vf.fold (λms x h=>h.par hn x) ⟨by simp,hdl.2,by simp⟩;have m1':Vf (We (W6 r f) f.Params.length):=⟨m1.E,m1.R,m1.P⟩;have m3:Vf (Yg r f):=Vf.fold (λms x h=>h.pat hn x) m1'
 have m4:Vf (Yc (We (Yg r f) (f.Params.length+Yf r.Patterns)) (r.Guards.map (V5 (Yg r f).E (Kc r f)))):=by
  refine⟨m3.E,?_,m3.P⟩;intro l hl;rcases mem_append.1 hl with hl|hl
  ·exact m3.R l hl
  ·obtain⟨g,_,rfl⟩:=mem_map.1 hl;exact Jao
 have m5:Vf (Vy r f):=Vf.fold (λms x h=>h.call hn x) m4;obtain⟨c1,c2,c3,c4⟩:=J7j (n:=Kc r f) (xs:=r.Calls) (a:=Yc (We (Yg r f) (f.Params.length+Yf r.Patterns)) (r.Guards.map (V5 (Yg r f).E (Kc r f))));have d3:=Su (n:=Kc r f) (xs:=r.Patterns) (a:=We (W6 r f) f.Params.length);have d1:=J38 (n:=Kc r f) (xs:=f.Params) (a:=⟨[],0,V1 f (Kc r f),[],[]⟩);have e1:=J6y (n:=Kc r f) (xs:=f.Params) (a:=⟨[],0,V1 f (Kc r f),[],[]⟩);have e3:=J6m (n:=Kc r f) (xs:=r.Patterns) (a:=We (W6 r f) f.Params.length);have hrows1:(W6 r f).rows=V1 f (Kc r f):=d1.2.2.2.1
 have hargs3:(Yg r f).args=[]:=by have:(Yg r f).args=(We (W6 r f) f.Params.length).args:=d3.2.2.1;rw[this];exact d1.2.2.1
 have hr3:(Yg r f).rows.length=(V1 f (Kc r f)).length+r.Patterns.length:=by have:(Yg r f).rows.length=(We (W6 r f) f.Params.length).rows.length+r.Patterns.length:=d3.1;rw[this];show(W6 r f).rows.length+_=_;rw[hrows1]
 have hp5:(Vy r f).pars.length=f.Params.length:=by
  have h1:(Vy r f).pars=(Yg r f).pars:=c2;have h2:(Yg r f).pars=(W6 r f).pars:=e3;rw[h1,h2];have:(W6 r f).pars.length=f.Params.length:=by rw[show(W6 r f)=f.Params.foldl (U7 (Kc r f)) ⟨[],0,V1 f (Kc r f),[],[]⟩from rfl,e1];simp
  exact this
 refine⟨?_,m5.R,?_,m5.P,?_,?_,Jat,?_,?_⟩
 ·have:(Vy r f).rows.length<=(Yg r f).rows.length+r.Guards.length+r.Calls.length:=by
   refine Nat.le_trans c1 ?_;show((Yg r f).rows++_).length+_<=_
   simp
  show(Vy r f).rows.length<=10
  omega
 ·show(Vy r f).pars.length<=2;omega
 ·have:(Vy r f).args.length=(Yg r f).args.length+r.Calls.length:=c3;rw[hargs3]at this;simp at this;show(Vy r f).args.length<=2;omega
 ·intro l hl;rcases c4 l hl with h|⟨c,hc,h1,h2⟩
  ·have:l∈(Yg r f).args:=h;rw[hargs3]at this;cases this
  ·exact⟨by rw[h1];exact(R.args hp c hc).1,h2⟩
 ·show((Kc r f:Nat):Int)<=6;have:=R.size;omega
 ·show(0:Int)<=((Kc r f:Nat):Int);omega
def Ee(i:Nat)(k:Nat):Xn:=⟨i,k⟩
def Ol(i:Nat)(r:K0):List Xn:=(List.range r.Calls.length).map (Ee i)
def Qt:Nat->List K0->List Xn
 |_,[]=>[]
 |i,r::l=>Ol i r++Qt (i+1) l
def Ii(p:Jo):List Xn:=Qt 0 p.Rules
def K1(p:Jo):List Xn:=if Ym p then Ii p else []
def Bq(p:Jo)(e:Xn):J9:=match p.Rules[e.Rule.toNat]? with|some r=>r.Func|Option.none=>[]
def Ob(p:Jo)(e:Xn):J9:=match p.Rules[e.Rule.toNat]? with|some r=>(match r.Calls[e.Call.toNat]? with|some c=>c.Func|Option.none=>[])|Option.none=>[]
def Vt(p:Jo):List (J9×J9):=(Ii p).map λe=>(Bq p e,Ob p e)
def X7(p:Jo):List J9:=p.Functions.map (·.Name)
theorem J1h{e:Xn} : ∀{l:List K0}{i:Nat},e∈Qt i l->∃j k:Nat,∃hj:j<l.length,k<(l[j]).Calls.length/\e=⟨((i+j:Nat):Int),k⟩
 | [],_,h=>by cases h
 |r::l,i,h=>by
  simp only[Qt]at h;rcases mem_append.1 h with h|h
  ·simp only[Ol,mem_map,List.mem_range,Ee]at h;obtain⟨k,hk,rfl⟩:=h;exact⟨0,k,by simp,by simpa using hk,by simp⟩
  ·obtain⟨j,k,hj,hk,rfl⟩:=J1h h;exact⟨j+1,k,by simpa using hj,by simpa using hk,by congr 1;omega⟩
theorem Nq{p:Jo}{e:Xn}(h:e∈Ii p):∃i k:Nat,∃hi:i<p.Rules.length,k<(p.Rules[i]).Calls.length/\e=⟨(i:Int),(k:Int)⟩:=by obtain⟨j,k,hj,hk,rfl⟩:=J1h h;exact⟨j,k,hj,hk,by congr 1;omega⟩
theorem Ml{p:Jo}{i k:Nat}(hi:i<p.Rules.length):Bq p ⟨(i:Int),(k:Int)⟩=(p.Rules[i]).Func:=by simp only[Bq,Int.toNat_natCast,List.getElem?_eq_getElem hi]
theorem P3{p:Jo}{i k:Nat}(hi:i<p.Rules.length)(hk:k<(p.Rules[i]).Calls.length):Ob p ⟨(i:Int),(k:Int)⟩=((p.Rules[i]).Calls[k]).Func:=by simp only[Ob,Int.toNat_natCast,List.getElem?_eq_getElem hi,List.getElem?_eq_getElem hk]
theorem J1g:∀(l:List K0) (i:Nat),(Qt i l).length<=wL Ub l
 | [],_=>Nat.zero_le _
 |r::l,i=>by
  have h1:=J1g l (i+1);have h2:=Yn Wh r.Calls;have h3:(Ol i r).length=r.Calls.length:=by simp[Ol]
  have h4:r.Calls.length<=Ub r:=by unfold Ub Gv;omega
  simp only[Qt,length_append,h3];unfold wL at h1⊢;simp only[map_cons,sum_cons,length_cons];omega
theorem R4(p:Jo)(hw:X2 p<=1048576):(Ii p).length<=1048576:=by have:=J1g p.Rules 0;unfold X2 Gx at hw;unfold Ii;omega
theorem J3e{l:List K3}{s:J9}(h:(Xc l s).isSome=true):s∈l.map (·.Name):=by unfold Xc at h;rw[List.find?_isSome]at h;obtain⟨f,hf,hn⟩:=h;exact mem_map.2 ⟨f,hf,by simpa using hn⟩
theorem J3g:∀{l met:List J9},O3 met l=true->l.Nodup/\∀x∈l,x∉met
 | [],_,_=>⟨List.nodup_nil,λ_ h=>(by cases h)⟩
 |s::l,met,h=>by
  simp only[O3,Bool.and_eq_true,Bool.not_eq_true']at h;obtain⟨h1,h2⟩:=J3g h.2;have h3:=N1.1 h.1;refine⟨List.nodup_cons.2 ⟨λhs=>h2 s hs (by simp),h1⟩,?_⟩;intro x hx;rcases mem_cons.1 hx with rfl|hx
  ·exact h3
  ·exact λhm=>h2 x hx (List.mem_append_left _ hm)
theorem J1i{p:Jo}{r:K0} : ∀{l:List Xq}{k:Nat},Qe p r k l=true->∀c∈l,∃s,Ik p c s=true
 | [],_,_,_,h=>by cases h
 |c::l,k,h,d,hd=>by
  simp only[Qe,Bool.and_eq_true]at h;rcases mem_cons.1 hd with rfl|hd
  ·exact⟨_,h.1⟩
  ·exact J1i h.2 d hd
theorem J24{p:Jo}(h:Ym p=true):(X7 p).Nodup/\(∀e∈Vt p,e.1∈X7 p/\e.2∈X7 p)/\p.Functions.length<=3/\p.Rules.length<=8:=by
 unfold Ym at h;simp only[Bool.and_eq_true,decide_eq_true_eq,Sh]at h;obtain⟨⟨⟨h1,h2⟩,h3⟩,h4⟩:=h;have h1':p.Functions.length<=3:=by unfold Kh at h1;simp at h1;omega
 refine⟨(J3g h2.2).1,?_,h1',h3⟩;intro e he;obtain⟨x,hx,rfl⟩:=mem_map.1 he;obtain⟨i,k,hi,hk,rfl⟩:=Nq hx;have hr:=List.all_eq_true.1 h4 _ (getElem_mem hi);unfold G8 at hr;simp only[Bool.and_eq_true,decide_eq_true_eq]at hr;obtain⟨⟨⟨⟨⟨⟨⟨g1,g2⟩,g3⟩,g4⟩,g5⟩,g6⟩,g7⟩,g8⟩:=hr;rw[Ml hi,P3 hi hk];refine⟨J3e g1,?_⟩;obtain⟨s,hs⟩:=J1i g6 _ (getElem_mem hk);unfold Ik at hs;simp only[Bool.and_eq_true]at hs;exact J3e hs.1.1.1
def Ut(p:Jo)(name:J9):List J9:=if Ym p&&K6 (X7 p) name then G9 (Vt p) (X7 p) name else []
def E5(p:Jo)(name:J9):List J9:=(Ut p name).filter λg=>K6 (Ut p g) name
theorem Jiz{p:Jo}{name:J9}(h:Ym p=true)(hn:name∈X7 p):E5 p name=R9 (Vt p) (X7 p) name:=by
 unfold E5 R9;rw[show Ut p name=G9 (Vt p) (X7 p) name by unfold Ut;rw[h,Qu.2 hn];rfl];refine List.filter_congr λg hg=>?_
 have hgn:g∈X7 p:=(List.mem_filter.1 hg).1;rw[show Ut p g=G9 (Vt p) (X7 p) g by unfold Ut;rw[h,Qu.2 hgn];rfl]
def Db(p:Jo)(e:Xn):Bool:=K6 (Ut p (Ob p e)) (Bq p e)
def Sf(p:Jo)(e:Xn):Bool:=decide (e∈K1 p)&&Db p e
def K72:Jl:= ⟨30,[.t 2],(Zq [ZB 1 0,Zz 2 2] (Zq [Zz 3 2] (.seq (Zq [Zf 7 1 1,Zl 8 false 1 7,Zn 9 8,Zi 10 0] (.blk 0 (.loop (Zq [Zb 11 .lss 10 9] (.seq (Zw 11 0) (.seq (.blk 1 (Zq [Zv 12 10,Zx 13 7 8 10,Zl 14 true 7 13,Zo 5 (.box [(.str []),(.nil 4),(.nil 2),(.nil 3),(.bool false),(.nil 2),(.str [])]),Zv 4 12,Zs 7 5 14] (Zq [Zf 15 3 5,Zl 16 false 1 15,Zn 17 16,Zi 18 0] (.blk 2 (.loop (Zq [Zb 19 .lss 18 17] (.seq (Zw 19 2) (.seq (.blk 3 (Zq [Zv 20 18,Zv 6 20] (.reg [Zv 21 3,Zv 22 4,Zv 23 6,Zo 24 (.build [(.int .i64 0),(.int .i64 0)] [(0,(1,(.t 22))),(1,(1,(.t 23)))]),ZS 25 2 24,ZA 26 16 2 21 25,Zv 3 26]))) (.reg [Zk 27 .add 18 1,Zv 18 27]))))))))) (.reg [Zk 28 .add 10 1,Zv 10 28]))))))) (Zq [Zv 29 3,Zv 2 29] .ret))))⟩
theorem Jsm:Jh prog f151=some K72:=by kernel_rfl
def K6k:Jl:= ⟨8,[.t 2],(Zq [ZB 1 0,Zz 2 2] (.seq (Zq [Zl 3 true 2 1,Zc 4 67 [.t 3],ZN 5 4] (.cond (.t 5) (Zq [Zz 2 2] .ret) .skip)) (Zq [Zl 6 true 2 1,Zc 7 151 [.t 6],Zv 2 7] .ret)))⟩
theorem Jss:Jh prog f125=some K6k:=by kernel_rfl
def K8m:Jl:= ⟨36,[.t 2],(Zq [ZB 1 0,Zz 2 2] (Zq [Zo 6 (.bsl 2 []),Zv 3 6] (.seq (Zq [Zl 7 true 2 1,Zc 8 61 [.t 7],ZN 9 8] (.cond (.t 9) (Zq [Zv 10 3,Zv 2 10] .ret) .skip)) (.seq (Zq [Zi 4 0] (.blk 0 (.loop (.seq (Zq [Zv 11 4,Zf 12 1 1,Zl 13 false 1 12,Zn 14 13,Zb 15 .lss 11 14] (Zw 15 0)) (.seq (.blk 1 (Zq [Zi 5 0] (.blk 2 (.loop (.seq (Zq [Zv 18 5,Zf 19 1 1,Zl 20 false 1 19,Zv 21 4,Zx 22 7 20 21,Zf 23 3 22,Zl 24 false 1 23,Zn 25 24,Zb 26 .lss 18 25] (Zw 26 2)) (.seq (.blk 3 (.reg [Zv 29 3,Zv 30 4,Zv 31 5,Zo 32 (.build [(.int .i64 0),(.int .i64 0)] [(0,(1,(.t 30))),(1,(1,(.t 31)))]),ZS 33 2 32,ZA 34 16 2 29 33,Zv 3 34])) (.reg [Zv 27 5,Zk 28 .add 27 1,Zv 5 28]))))))) (.reg [Zv 16 4,Zk 17 .add 16 1,Zv 4 17])))))) (Zq [Zv 35 3,Zv 2 35] .ret)))))⟩
theorem Jqd:Jh prog f122=some K8m:=by kernel_rfl
def Acc(z:Nat)(rows:List (List AV))(v:AV)(h:J8)(n:Nat):Prop:=(rows=[]/\v = .nil z)\/∃id,id<n/\v = .ref id 0 rows.length/\h id=some ⟨false,z,rows⟩
theorem J0k{l:List K0}{i k:Nat}(hi:i<l.length):Qt k (l.drop i)=Ol k l[i]++Qt (k+1) (l.drop (i+1)):=by rw[drop_eq_getElem_cons hi];rfl
theorem J0i{r:K0}{i j:Nat}(hj:j<r.Calls.length):(Ol i r).drop j=Ee i j::(Ol i r).drop (j+1):=by rw[drop_eq_getElem_cons (by simp[Ol,hj])];simp[Ol]
theorem J18(i:Nat)(r:K0):(Ol i r).length=r.Calls.length:=by simp[Ol]
theorem J78(p:Jo)(hp:X2 p<=1048576):Holds prog 151 [.agg (Jg p)] (λx=>x = .us 2 ((Ii p).map Yd)):=by
 have hTl:=R4 p hp;refine Jp func151 Jsm rfl (by simp[K72]) ?_;simp[K72,Jg];intro hlr;unfold Ii at *;generalize hT:Qt 0 p.Rules=T at *;refine Ka [8,9] 10 p.Rules.length (λi s h n=>∃acc:List Xn,acc++Qt i (p.Rules.drop i)=T/\Acc 2 (acc.map Yd) (s 3) h n) hlr (by simp) ⟨[],by simpa using hT,.inl (by simp)⟩ ?_ ?_
 ·rintro i st h n R hi hg hk s10 hw ⟨acc,hJ,hA⟩ hR hret _;simp at hk;rw[J0k hi]at hJ;refine Jq [3,8,9,10] (λs=>s 11 = .bool true) (by simp[hk,s10,hi]) ?_;intro Jv hk1 s11;simp at hk1;refine W3 s11 (Jn (Xd ?_));refine Xu [3,8,9,10] (λs h' n'=>s 4 = .int .i64 i/\s 5 = .ptr n 0 0/\n'=n+1/\h' n=some ⟨true,7,[Ju p.Rules[i]]⟩/\Acc 2 (acc.map Yd) (s 3) h' n') ?_ ?_
  ·simp[hk,hk1,s10,hi,Ju];rcases hA with ⟨ha,hv⟩|⟨id,hid,hv,he⟩
   ·exact .inl ⟨ha,hv⟩
   ·have z0:¬id=n:=by omega
    exact .inr ⟨id,by omega,hv,by simp[he,z0]⟩
  rintro st2 h2 n2 hk2 ⟨s4,s5,rfl,en,hA⟩;simp at hk2;refine Jn ?_;simp[s5,en,Ju];intro hlc;refine Ka [4,8,9,10,17] 18 (p.Rules[i]).Calls.length (λj s h n=>∃acc:List Xn,acc++((Ol i p.Rules[i]).drop j++Qt (i+1) (p.Rules.drop (i+1)))=T/\Acc 2 (acc.map Yd) (s 3) h n) hlc (by simp) ⟨acc,by simpa using hJ,by simpa using hA⟩ ?_ ?_
  ·rintro j stj hj nj Rj hji hjg hkj s18 hwj ⟨accj,hJj,hAj⟩ hRj hretj _;simp at hkj;rw[J0i hji]at hJj;have hal:=congrArg List.length hJj;simp at hal;rcases hAj with ⟨ha,hv⟩|⟨id,hid,hv,he⟩
   ·simp at ha;subst ha;simp[hkj,s4,s18,hji,hv,hwj];refine⟨by unfold Jd;omega,?_⟩;refine hRj _ _ _ (by simp[hkj]) (by simp) ⟨[Ee i j],by simpa using hJj,.inr ⟨nj+1,by omega,by simp,by simp[Yd,Ee]⟩⟩
   ·simp at hv;have z0:¬id=nj:=by omega
    have z1:¬id=nj+1:=by omega
    have z2:¬nj+1=id:=by omega
    have z3:¬nj=id:=by omega
    simp[hkj,s4,s18,hji,hv,he,z0,z3,hwj];refine⟨by unfold Jd;omega,?_⟩;refine hRj _ _ _ (by simp[hkj]) (by simp) ⟨accj++[Ee i j],by simpa using hJj,.inr ⟨nj+1,by omega,by simp,by simp[Yd,Ee]⟩⟩
  rintro stj hj nj Rj hkj s18 ⟨accj,hJj,hAj⟩ hretj hXj;simp at hkj;rw[drop_eq_nil_of_le (by rw[J18];omega),nil_append]at hJj;refine Jq [3,4,8,9,10,17] (λs=>s 19 = .bool false) (by simp[hkj,s18]) ?_;intro stk hkk s19;simp at hkk;refine Uv s19 ?_;refine hXj _ _ _ _ ?_;simp[hk1,hk2,hkj,hkk,s10,hw];exact hR _ _ _ (by simp[hk,hk1,hk2,hkj,hkk]) (by simp) ⟨accj,hJj,by simpa[hkk]using hAj⟩
 rintro st h n R hk s10 ⟨acc,hJ,hA⟩ hret hX;simp at hk;rw[drop_eq_nil_of_le (by omega)]at hJ;simp[Qt]at hJ;subst hJ;refine Jq [3] (λs=>s 11 = .bool false) (by simp[hk,s10]) ?_;intro Jv hk1 s11;simp at hk1;refine Uv s11 ?_;refine hX _ _ _ _ ?_;rcases hA with ⟨ha,hv⟩|⟨id,hid,hv,he⟩
 ·simp at ha;simp[hk1,hv,ha]
 ·simp at hv;simp[hk1,hv,he]
theorem Rn(p:Jo)(hp:X2 p<=1048576):Holds prog 125 [.agg (Jg p)] (λx=>x = .us 2 ((K1 p).map Yd)):=by
 refine Jp func125 Jss rfl (by simp[K6k]) ?_;simp[K6k,Jg];refine Je (Sm p hp) (by simp[Jg]) ?_;rintro r rfl;unfold K1;cases h1:Ym p
 ·simp
 simp;refine Je (J78 p hp) (by simp[Jg]) ?_;rintro r rfl;simp
theorem Sz(p:Jo)(hp:X2 p<=1048576):Holds prog 122 [.agg (Jg p)] (λx=>x = .us 2 ((K1 p).map Yd)):=by
 have hTl:=R4 p hp;have hlr:p.Rules.length<=1048576:=by have:=Yn Ub p.Rules;unfold X2 Gx at hp;omega
 have hlc:∀i,∀hi:i<p.Rules.length,(p.Rules[i]).Calls.length<=1048576:=λi hi=>by have h1:=J5v hp _ (getElem_mem hi);exact(J0v h1).2.2.2.2.1
 refine Jp func122 Jqd rfl (by simp[K8m]) ?_;simp[K8m,Jg];refine Je (T0 p hp) (by simp[Jg]) ?_;rintro r rfl;unfold K1;cases h1:Ym p
 ·simp
 simp;unfold Ii at *;generalize hT:Qt 0 p.Rules=T at *;refine Ka [1] 4 p.Rules.length (λi s h n=>0<n/\h 0=some ⟨true,2,[Jg p]⟩/\∃(acc:List Xn) (id:Nat),acc++Qt i (p.Rules.drop i)=T/\0<id/\id<n/\s 3 = .ref id 0 acc.length/\h id=some ⟨false,2,acc.map Yd⟩) (by unfold Jd;omega) (by simp) ⟨by simp,by simp[Jg],[],1,by simpa using hT,by omega,by omega,by simp,by simp⟩ ?_ ?_
 ·rintro i st h n R hi hg hk s4 hw ⟨hn,e0,acc,id,hJ,hid0,hid,s3,eid⟩ hR hret _;simp at hk;rw[J0k hi]at hJ;refine Jn (Jq [1,3,4] (λs=>s 15 = .bool true) (by simp[hk,s4,hi,e0,Jg]) ?_);intro Jv hk1 s15;simp at hk1;refine U2 s15 (Jn (Xd (Jn ?_)));simp;refine Ka [1,4] 5 (p.Rules[i]).Calls.length (λj s h n=>0<n/\h 0=some ⟨true,2,[Jg p]⟩/\∃(acc:List Xn) (id:Nat),acc++((Ol i p.Rules[i]).drop j++Qt (i+1) (p.Rules.drop (i+1)))=T/\0<id/\id<n/\s 3 = .ref id 0 acc.length/\h id=some ⟨false,2,acc.map Yd⟩) (by have:=hlc i hi;unfold Jd;omega) (by simp) ⟨hn,by simpa using e0,acc,id,by simpa using hJ,hid0,hid,by simp[hk1,s3],by simpa using eid⟩ ?_ ?_
  ·rintro j stj hj nj Rj hji hjg hkj s5 hwj ⟨hnj,e0j,accj,idj,hJj,hid0j,hidj,s3j,eidj⟩ hRj hretj _;simp at hkj;rw[J0i hji]at hJj;have hal:=congrArg List.length hJj;simp at hal;have z0:¬idj=nj:=by omega
   have z1:¬idj=nj+1:=by omega
   have z2:¬nj+1=idj:=by omega
   have z3:¬nj=idj:=by omega
   have z4:¬0=idj:=by omega
   have z5:¬0=nj:=by omega
   have z6:¬0=nj+1:=by omega
   have z7:¬idj=0:=by omega
   have z8:¬nj=0:=by omega
   refine Jn (Jq [1,3,4,5] (λs=>s 26 = .bool true) (by simp[hk,hkj,hk1,s4,s5,hi,hji,e0j,Jg,Ju]) ?_);intro stk hkk s26;simp at hkk;refine U2 s26 ?_;simp[hkj,hk1,hkk,s4,s5,s3j,eidj,z0,z3,hwj];refine⟨by unfold Jd;omega,?_⟩;exact hRj _ _ _ (by simp[hkj,hkk]) (by simp) ⟨by omega,by simp[e0j,z4,z5,z8],accj++[Ee i j],nj+1,by simpa using hJj,by omega,by omega,by simp,by simp[Yd,Ee]⟩
  rintro stj hj nj Rj hkj s5 ⟨hnj,e0j,accj,idj,hJj,hid0j,hidj,s3j,eidj⟩ hretj hXj;simp at hkj;rw[drop_eq_nil_of_le (by rw[J18];omega),nil_append]at hJj;refine Jn (Jq [1,3,4] (λs=>s 26 = .bool false) (by simp[hk,hkj,hk1,s4,s5,hi,e0j,Jg,Ju]) ?_);intro stk hkk s26;simp at hkk;refine U1 s26 ?_;simp;refine hXj _ _ _ _ ?_;simp[hk1,hkj,hkk,s4,hw];exact hR _ _ _ (by simp[hk,hk1,hkj,hkk]) (by simp) ⟨hnj,e0j,accj,idj,hJj,hid0j,hidj,by simp[hkk,s3j],eidj⟩
 rintro st h n R hk s4 ⟨hn,e0,acc,id,hJ,hid0,hid,s3,eid⟩ hret hX;simp at hk;rw[drop_eq_nil_of_le (by omega)]at hJ;simp[Qt]at hJ;subst hJ;refine Jn (Jq [3] (λs=>s 15 = .bool false) (by simp[hk,s4,e0,Jg]) ?_);intro Jv hk1 s15;simp at hk1;refine U1 s15 ?_;refine hX _ _ _ _ ?_;simp[hk1,s3,eid]
def K6u:Jl:= ⟨22,[.t 4,.t 5],(Zq [ZB 2 0,ZB 3 1,Zo 4 (.mv (.k (.str []))),Zo 5 (.mv (.k (.str [])))] (Zq [Zf 7 1 2,Zl 8 false 1 7,Zf 9 0 3,Zl 10 false 1 9,Zx 11 7 8 10,Zl 12 true 7 11,Zo 6 (.box [(.str []),(.nil 4),(.nil 2),(.nil 3),(.bool false),(.nil 2),(.str [])]),Zs 7 6 12] (.seq (.draw (.op (Zf 13 0 6) (.op (Zl 14 false 1 13) (.op (Zf 15 3 6) (.op (Zl 16 false 1 15) (.op (Zf 17 1 3) (.op (Zl 18 false 1 17) (.op (Zx 19 3 16 18) (.op (Zf 20 1 19) (.op (Zl 21 false 1 20) (.op (Zv 4 14) (.op (Zv 5 21) .fin)))))))))))) .ret)))⟩
theorem Jsf:Jh prog f152=some K6u:=by kernel_rfl
def K6o:Jl:= ⟨12,[.t 4],(Zq [ZB 2 0,ZB 3 1,Zo 4 (.mv (.k (.str [])))] (Zq [Zf 5 1 2,Zl 6 false 1 5,Zf 7 0 3,Zl 8 false 1 7,Zx 9 7 6 8,Zf 10 0 9,Zl 11 false 1 10,Zv 4 11] .ret))⟩
theorem Ju7:Jh prog f199=some K6o:=by kernel_rfl
def K6b:Jl:= ⟨17,[.t 4],(Zq [ZB 2 0,ZB 3 1,Zo 4 (.mv (.k (.str [])))] (.seq (.draw (.op (Zf 5 1 2) (.op (Zl 6 false 1 5) (.op (Zf 7 0 3) (.op (Zl 8 false 1 7) (.op (Zx 9 7 6 8) (.op (Zf 10 3 9) (.op (Zl 11 false 1 10) (.op (Zf 12 1 3) (.op (Zl 13 false 1 12) (.op (Zx 14 3 11 13) (.op (Zf 15 1 14) (.op (Zl 16 false 1 15) (.op (Zv 4 16) .fin)))))))))))))) .ret))⟩
theorem Jtb:Jh prog f173=some K6b:=by kernel_rfl
theorem Na(p:Jo){i k:Nat}(hi:i<p.Rules.length)(hk:k<(p.Rules[i]).Calls.length):Holds prog 152 [.agg (Jg p),.agg (Kr ⟨i,k⟩)] (λx=>x = .tup [.str (p.Rules[i]).Func,.str ((p.Rules[i]).Calls[k]).Func]):=by refine Jp func152 Jsf rfl (by simp[K6u]) ?_;simp[K6u,Jg,Kr,hi,hk,Ju,X8]
theorem Tp(p:Jo){i k:Nat}(hi:i<p.Rules.length):Holds prog 199 [.agg (Jg p),.agg (Kr ⟨i,k⟩)] (λx=>x = .str (p.Rules[i]).Func):=by refine Jp func199 Ju7 rfl (by simp[K6o]) ?_;simp[K6o,Jg,Kr,hi,Ju]
theorem Fq(p:Jo){i k:Nat}(hi:i<p.Rules.length)(hk:k<(p.Rules[i]).Calls.length):Holds prog 173 [.agg (Jg p),.agg (Kr ⟨i,k⟩)] (λx=>x = .str ((p.Rules[i]).Calls[k]).Func):=by refine Jp func173 Jtb rfl (by simp[K6b]) ?_;simp[K6b,Jg,Kr,hi,hk,Ju,X8]
def D0(b z:Nat)(rows:List (List AV))(v:AV)(h:J8)(n:Nat):Prop:=(rows=[]/\v = .nil z)\/∃id,b<id/\id<n/\v = .ref id 0 rows.length/\h id=some ⟨false,z,rows⟩
theorem D0.mono {b z:Nat}{rows:List (List AV)}{v:AV}{h:J8}{n m:Nat}(a:D0 b z rows v h n) (hm:n<=m):D0 b z rows v h m:=a.imp id λ⟨i,h1,h2,h3⟩=>⟨i,h1,by omega,h3⟩
theorem Sc{p:Jo}{j:Nat}(hj:j<(K1 p).length):∃i k:Nat,∃hi:i<p.Rules.length,∃hk:k<(p.Rules[i]).Calls.length,(K1 p)[j]=⟨(i:Int),(k:Int)⟩/\Bq p ⟨(i:Int),(k:Int)⟩=(p.Rules[i]).Func/\Ob p ⟨(i:Int),(k:Int)⟩=((p.Rules[i]).Calls[k]).Func:=by
 have hm:(K1 p)[j]∈Ii p:=by
  have h0:(K1 p)[j]∈K1 p:=getElem_mem hj;generalize(K1 p)[j]=e at h0;unfold K1 at h0;split at h0
  ·exact h0
  ·cases h0
 obtain⟨i,k,hi,hk,he⟩:=Nq hm;exact⟨i,k,hi,hk,he,Ml hi,P3 hi hk⟩
theorem Sa(p:Jo)(hp:X2 p<=1048576):(K1 p).length<=1048576:=by
 have:=R4 p hp;unfold K1;split
 ·exact this
 ·simp
theorem T4(l:List J9)(s:J9):decide (0<=Xi (λx=>x==s) l 0)=K6 l s:=by have:=Mm (p:=λx=>x==s) (l:=l) (i:=0);simp only[ge_iff_le]at this;simp[this,K6]
def K5d:Jl:= ⟨9,[(.c 2 true 2)],(Zq [ZB 1 0,Zo 2 (.box [(.int .i64 0),(.nil 2)])] (.seq (.draw (.op (Zf 3 0 1) (.op (Zl 4 false 1 3) (.op (Zf 5 1 1) (.op (Zl 6 false 1 5) (.op (Zc 7 209 [.t 6]) (.op (Zo 8 (.build [(.int .i64 0),(.nil 2)] [(0,(1,(.t 4))),(1,(1,(.t 7)))])) (.hop (Zs 2 2 8) [] .fin)))))))) .ret))⟩
theorem Jnh:Jh prog f128=some K5d:=by kernel_rfl
def K6c:Jl:= ⟨27,[(.c 2 true 2)],(Zq [ZB 1 0,Zo 2 (.box [(.int .i64 0),(.nil 2)])] (Zq [Zf 5 0 1,Zl 6 false 1 5,Zo 7 (.build [(.int .i64 0),(.nil 2)] [(0,(1,(.t 6)))]),Zo 3 (.box [(.int .i64 0),(.nil 2)]),Zs 2 3 7] (.seq (Zq [Zi 4 0] (.blk 0 (.loop (.seq (Zq [Zv 8 4,Zf 9 1 1,Zl 10 false 1 9,Zn 11 10,Zb 12 .lss 8 11] (Zw 12 0)) (.seq (.blk 1 (.draw (.op (Zf 15 1 3) (.op (Zl 16 false 1 15) (.op (Zf 17 1 1) (.op (Zl 18 false 1 17) (.op (Zv 19 4) (.op (Zx 20 2 18 19) (.op (Zl 21 true 2 20) (.op (Zc 22 82 [.t 21]) (.hop (ZS 23 2 22) [(.ld false 1 (.t 15)),(.fld 1 (.t 3))] (.hop (ZA 24 32 2 16 23) [] (.op (Zf 25 1 3) (.hop (Zs 1 25 24) [] .fin)))))))))))))) (.reg [Zv 13 4,Zk 14 .add 13 1,Zv 4 14])))))) (Zq [Zl 26 true 2 3,Zs 2 2 26] .ret))))⟩
theorem Jrb:Jh prog f175=some K6c:=by kernel_rfl
def po0:AC:=(.reg [ZB 1 0,Zz 2 4])
def po1:AC:=(.reg [Zz 3 4])
def pod:AC:=(.draw (.op (Zv 63 3) (.op (Zf 64 0 6) (.op (Zl 65 true 2 64) (.op (Zl 67 true 2 14) (.op (Zc 66 128 [.t 65]) (.op (Zo 68 (.build [(.int .i64 0),(.nil 2),(.int .i64 0),(.nil 1)] [(0,(2,(.t 66))),(2,(2,(.t 67)))])) (.hop (ZS 69 4 68) [] (.hop (ZA 70 64 4 63 69) [] (.hop (Zv 3 70) [] .fin))))))))))
def poi:AC:=(Zq [Zf 42 3 10,Zl 43 false 1 42,Zn 44 43,Zi 45 0] (.blk 2 (.loop (Zq [Zb 46 .lss 45 44] (.seq (Zw 46 2) (.seq (.blk 3 (Zq [Zx 47 2 43 45,Zl 48 true 2 47,ZR 13,Zs 2 13 48] (Zq [Zl 50 true 6 6,Zl 51 true 2 13,Zf 52 1 5,Zl 53 false 1 52,Zc 54 177 [.t 50,.t 51,.t 53],Zv 49 54,Ze 55 49 0,Ze 56 49 1,ZR 14,Zs 2 14 55,Zv 15 56] (.seq (Zq [Zv 57 15,ZN 58 57] (.cond (.t 58) (.reg [Zf 59 0 6,Zf 60 0 59,Zl 61 false 1 60,Zc 62 178 [(.k (.int .i64 (-1))),.t 61],Zs 2 14 62]) .skip)) pod)))) (.reg [Zk 71 .add 45 1,Zv 45 71])))))))
def po2:AC:=(Zq [Zl 16 true 2 1,Zc 17 125 [.t 16],Zn 18 17,Zi 19 0] (.blk 0 (.loop (Zq [Zb 20 .lss 19 18] (.seq (Zw 20 0) (.seq (.blk 1 (Zq [Zx 21 2 17 19,Zl 22 true 2 21,Zo 5 (.box [(.int .i64 0),(.int .i64 0)]),Zs 2 5 22] (Zq [Zl 24 true 2 1,Zf 25 0 5,Zl 26 false 1 25,Zc 27 126 [.t 24,.t 26],Zv 23 27,Ze 28 23 0,Ze 29 23 1,ZV 6,Zs 6 6 28,Zv 7 29] (Zq [Zl 31 true 2 1,Zl 32 true 2 5,Zc 33 152 [.t 31,.t 32],Zv 30 33,Ze 34 30 0,Ze 35 30 1,Zv 8 34,Zv 9 35] (Zq [Zl 37 true 2 1,Zv 38 9,Zc 39 176 [.t 37,.t 38],Zv 36 39,Ze 40 36 0,Ze 41 36 1,ZU 10,Zs 4 10 40,Zv 11 41] poi))))) (.reg [Zk 72 .add 19 1,Zv 19 72])))))))
def po3:AC:=(.reg [Zv 73 3,Zv 2 73])
def a94:Jl:=⟨74,[.t 2],(.seq po0 (.seq po1 (.seq po2 (.seq po3 .ret))))⟩
theorem Jxt:Jh prog f94=some a94:=by kernel_rfl
theorem Jib{l:List Jc}(h:∀x∈l,x.Coeffs.length<=8):U9 l<=9*l.length:=by
 unfold U9 wL
 have:((l.map Uf).sum)<=8*l.length:=by
  induction l with
  |nil=>simp
  |cons e l ih=>
   have h1:=ih λx hx=>h x (mem_cons_of_mem _ hx)
   have h2:=h e mem_cons_self;simp only[map_cons,sum_cons,length_cons];rw[show Uf e=e.Coeffs.length from rfl];omega
 omega
theorem J2h(x:Xx)(hw:U9 x.Rows<=1048576):Holds prog 128 [.agg (Ky x)] (λr=>r = .agg (I7 x)):=by refine Jp func128 Jnh rfl (by simp[K5d]) ?_;simp[K5d,Ky];refine Jx (J4j x.Rows hw) (by simp) ?_;rintro r rfl;simp[I7]
theorem J6u(x:Xx)(hw:U9 x.Rows<=1048576):Holds prog 175 [.agg (Ky x)] (λr=>r = .agg (I7 x)):=by
 have hl:=Yn Uf x.Rows
 have hcl:∀l∈x.Rows,l.Coeffs.length<=1048576:=λl hl=>by have:=Wn (w:=Uf) hl;rw[show Uf l=l.Coeffs.length from rfl]at this;unfold U9 at hw;omega
 unfold U9 at hw;refine Jp func175 Jrb rfl (by simp[K6c]) ?_;simp[K6c,Ky]
 refine Ka [1,2,3] 4 x.Rows.length (λi s h m=>2<m/\h 0=some ⟨true,2,[Ky x]⟩/\h 1=some ⟨true,2,[[.int .i64 0,.nil 2]]⟩/\∃v,h 2=some ⟨true,2,[[.int .i64 x.N,v]]⟩/\Kj 2 2 ((x.Rows.take i).map Ja) v h m) (by unfold Jd;omega) (by simp)
  ⟨by simp,by simp[Ky],by simp,.nil 2,by simp,.inl (by simp)⟩ ?_ ?_
 ·rintro i st h m R hi hg hk s4 hw' ⟨hm,e0,e1,v,e2,B⟩ hR _ _;simp at hk;have hcl:=hcl _ (getElem_mem hi);refine Jn (Jq [1,2,3,4] (λs=>s 12 = .bool true) (by simp[hk,s4,hi,e0,Ky]) ?_);intro Jv hk1 s12;simp at hk1;refine U2 s12 (Jn (Xd ?_));have ne:¬0=m/\¬1=m/\¬2=m/\¬m=2/\¬m=1/\¬m=0/\¬m+1=2/\¬m=m+1/\¬m+1=m:=by omega
  have fr:∀id,id<m->¬id=m/\¬id=m+1:=by intro id _;omega
  simp[hk1,hk,s4,hi,e0,e2,Ky];refine Jx (Dw (x.Rows[i]'hi) hcl) (by simp) ?_;rintro r rfl;simp[Ja,e2,ne,hk1,hk];refine Q7 (rows:=(x.Rows.take i).map Ja) (rows2:=[[.int .i64 (x.Rows[i]).Const,.us 1 (Ji (x.Rows[i]).Coeffs)]]) (B.keep (n':=m+1+1) (by omega) λid _ hid _=>by simp[fr id hid]) (by simp) (λl e=>by have:=(B.lt e).2.1;omega) (by omega) (by simp;unfold Jd;omega) ?_;intro h1 f1 f2
  have bx:∀id z rows,id<m->h id=some ⟨true,z,rows⟩->h1 id=h id:=by intro id z rows h1' h3';rw[f2 id (by omega) (by omega) λl e=>B.not_box h3' e];simp[fr id h1']
  have g0:=bx 0 _ _ (by omega) e0;have g1:=bx 1 _ _ (by omega) e1;have g2:=bx 2 _ _ (by omega) e2;simp[g2,e2,s4,hw',hk1,hk];refine hR _ _ _ (by simp[hk1,hk]) (by simp) ⟨by omega,by simp[g0,e0],by simp[g1,e1],.ref (m+2) 0 (i+1),?_,.inr ⟨m+2,by omega,by omega,by simp;omega,?_⟩⟩
  ·simp;omega
  ·simp[ne,f1];have hi':i<(x.Rows.map Ja).length:=by simpa using hi
   rw[List.take_succ_eq_append_getElem hi'];simp[Ja]
 ·rintro st h m R hk s4 ⟨hm,e0,e1,v,e2,B⟩ _ hX;simp at hk;rw[List.take_length]at B;refine Jn (Jq [1,2,3] (λs=>s 12 = .bool false) (by simp[hk,s4,e0,Ky]) ?_);intro Jv hk1 s12;simp at hk1;refine U1 s12 ?_;refine hX _ _ _ _ ?_;have cB:=B.cell;simp[hk1,hk,e2,e1,-dt,-Va,-Kb,J1r,cB]
  have B':Kj 2 2 (x.Rows.map Ja) v (upd h 1 (some ⟨true,2,[[.int .i64 x.N,v]]⟩)) m:=B.keep (Nat.le_refl _) λid hb hid e=>by
   have:¬id=1:=by omega
   simp[this]
  obtain⟨h2,d1,_⟩:=B'.dt;simp[d1,I7]
def Ok(md:X5)(l:Jc)(call:Int):X1:=⟨md.System,(Y9 md l call).getD (Jr (-1) md.System.N)⟩
def Uc(p:Jo)(e:Xn):X5:=(Hf p e.Rule).getD Dd
def Gp(p:Jo)(e:Xn):List Jc:=((Xc p.Functions (Ob p e)).getD Yt).Pre
def Of(p:Jo)(e:Xn):List X1:=(Gp p e).map λl=>Ok (Uc p e) l e.Call
def Qi(p:Jo):List X1:=(K1 p).flatMap (Of p)
theorem Mj(p:Jo)(hp:X2 p<=1048576):(Qi p).length<=2097152:=by
 have h1:=Sa p hp
 have h2:∀l:List Xn,(∀e∈l,(Of p e).length<=2)->(l.flatMap (Of p)).length<=2*l.length:=by
  intro l
  induction l with
  |nil=>intro _;simp
  |cons e l ih=>
   intro h;have g1:=ih λx hx=>h x (mem_cons_of_mem _ hx)
   have g2:=h e mem_cons_self;simp only[List.flatMap_cons,length_append,length_cons];omega
 have h3:=h2 (K1 p) λe he=>by
  have hpo:Ym p=true:=by
   unfold K1 at he;split at he
   ·assumption
   ·cases he
  simp only[Of,List.length_map,Gp]
  cases hf:Xc p.Functions (Ob p e)with
  |none=>simp[Yt]
  |some g=>exact(Mc hpo hf).2.2.2
 unfold Qi;omega
def K4m:Jl:= ⟨31,[.t 4],(Zq [ZB 2 0,Zt 4 false] (.seq (Zq [Zv 7 1,Zn 8 7,Zf 9 0 2,Zl 10 false 1 9,Zn 11 10,Zb 12 .neq 8 11] (.cond (.t 12) (Zq [Zt 4 false] .ret) .skip)) (.seq (Zq [Zv 13 1,Zn 14 13,Zi 15 0] (.blk 0 (.loop (Zq [Zb 16 .lss 15 14] (.seq (Zw 16 0) (.seq (.blk 1 (Zq [Zv 17 15,Zx 18 2 13 15,Zl 19 true 2 18,ZR 6,Zv 5 17,Zs 2 6 19] (.seq (.draw (.op (Zl 20 true 2 6) (.op (Zf 21 0 2) (.op (Zl 22 false 1 21) (.op (Zv 23 5) (.op (Zx 24 4 22 23) (.op (Zf 25 1 24) (.op (Zl 26 false 1 25) (.op (Zn 27 26) (.op (Zc 28 146 [.t 20,.t 27]) (.op (ZN 29 28) .fin))))))))))) (.cond (.t 29) (Zq [Zt 4 false] .ret) .skip)))) (.reg [Zk 30 .add 15 1,Zv 15 30]))))))) (Zq [Zt 4 true] .ret))))⟩
theorem Ju1:Jh prog f103=some K4m:=by kernel_rfl
def Qc(fs:List K3)(ls:List Jc):Bool:=decide (ls.length=fs.length)&&(ls.zip fs).all λx=>K8 x.1 x.2.Params.length
theorem Jhq(p:Jo)(ls:List Jc):Holds prog 103 [.agg (Jg p),.sl 2 (ls.map Jb)] (λx=>x = .bool (Qc p.Functions ls)):=by
 refine Jp func103 Ju1 rfl (by simp[K4m]) ?_;simp[K4m,Jg];unfold Qc;by_cases hl:ls.length=p.Functions.length
 case neg=>
  have hl':¬(ls.length:Int)=p.Functions.length:=by omega
  simp[hl,hl']
 simp[hl];intro hlm;refine Ka [2,13,14] 15 ls.length (λi s h n=>0<n/\h 0=some ⟨true,2,[Jg p]⟩/\((ls.drop i).zip (p.Functions.drop i)).all (λx=>K8 x.1 x.2.Params.length)=(ls.zip p.Functions).all (λx=>K8 x.1 x.2.Params.length)) (by omega) (by simp) ⟨by simp,by simp[Jg],rfl⟩ ?_ ?_
 ·rintro i s h n R hi hg hk s15 hw ⟨hn,e0,hJ⟩ hR hret _;have hi':i<p.Functions.length:=by omega
  simp at hk;rw[drop_eq_getElem_cons hi,drop_eq_getElem_cons hi',List.zip_cons_cons,List.all_cons]at hJ;have hn':¬0=n:=by omega
  simp[hk,s15,hi,hi',e0,hn',Jb,Jg,K5];refine Jx (Gz (ls[i]'hi) (p.Functions[i]'hi').Params.length) (by simp[Jb]) ?_;rintro r rfl;cases h0:K8 ls[i] (p.Functions[i]).Params.length
  ·rw[h0]at hJ;have hJ:(ls.zip p.Functions).all (λx=>K8 x.1 x.2.Params.length)=false:=by rw[<-hJ];rfl
   simp;refine hret _ _ _ ?_;simp[hJ]
  ·rw[h0,Bool.true_and]at hJ;simp[s15,hw];exact hR _ _ _ (by simp[hk]) (by simp) ⟨by omega,by simp[hn',e0,Jg],hJ⟩
 ·rintro s h n R hk s15 ⟨hn,e0,hJ⟩ hret hX;simp at hk;rw[drop_eq_nil_of_le (Nat.le_refl _)]at hJ;simp[hk,s15,hl];refine hX _ _ _ _ ?_;rw[<-hJ];simp
theorem Sn{p:Jo}(h1:Ym p=true){i k:Nat}(hi:i<p.Rules.length):U9 (Uc p ⟨i,k⟩).System.Rows<=1000:=by
 obtain⟨f,hf,R⟩:=Fk h1 (getElem_mem hi);have hg:p.Rules.getD (i:Int).toNat Fg=p.Rules[i]:=by simp[hi]
 have hin:Kh (i:Int) 0 ((p.Rules.length:Int) - 1)=true:=by simp[Kh];omega
 have hfa:Iv p p.Rules[i]=f:=by unfold Iv;rw[hf];rfl
 have:Uc p ⟨i,k⟩=Qj p.Rules[i] f:=by unfold Uc Hf;simp only[h1,hin,hg,hfa,Bool.and_self,if_true,Option.getD_some]
 rw[this];obtain⟨q1,q2,_⟩:=J6v h1 R;have:=Jib q2;omega
theorem Je4{p:Jo}{j:Nat}(hj:j<(K1 p).length):Ym p=true:=by
 unfold K1 at hj;split at hj
 ·assumption
 ·simp at hj
section
variable {ks:List Kt}{s:Jm}{h h':J8}{n:Nat}{Q:Xb}
theorem Jrh{md:X5}{t:Jc}{acc:List X1}{v:AV}{k6 k14:Nat}(s3:s 3=v)(s6:s 6 = .ptr k6 0 0)(s14:s 14 = .ptr k14 0 0)(e6:h k6=some ⟨true,6,[Kz md]⟩)(L:V3 t k14 h n)(B:Kj 0 4 (acc.map Kv) v h n)(hw:U9 md.System.Rows<=1048576)(hl:acc.length<=3000000)
 (hK:∀s' h' n',(∀j∈[1,2,5,6,17,18,19,43,44,45],s' j=s j)->n<=n'->(∀id z rows,id<n->h id=some ⟨true,z,rows⟩->h' id=h id)->Kj 0 4 ((acc++[(⟨md.System,t⟩:X1)]).map Kv) (s' 3) h' n'->Jt prog ks .normal s' h' n' Q):rC prog pod ks s h n Q:=by
 obtain⟨q,hkn,hqn,hkb,hqb⟩:=L;have ne:¬q=n/\¬n=q/\¬n=n+1/\¬n+1=n/\¬n+1=q/\¬q=n+1:=by omega
 have fr:∀id,id<n->¬id=n/\¬id=n+1/\¬id=n+1+1:=by intro id _;omega
 have hqv:∀l,v ≠ .ref q 0 l:=λl e=>by have:=(B.lt e).2.2.1;rw[hqb]at this;simp at this
 simp[pod,s3,s6,s14,e6,hkb];refine Jx (J2h md.System hw) (by simp) ?_;rintro r rfl;simp[I7,hqb,ne];refine Q7 (rows:=acc.map Kv) (rows2:=[[.int .i64 md.System.N,.us 2 (md.System.Rows.map Ja),.int .i64 t.Const,.us 1 (Ji t.Coeffs)]]) (B.keep (n':=n+1+1) (by omega) λid _ hid e=>?_) (by simp) (λl e=>by have:=(B.lt e).2.1;omega) (by omega) (by simp;unfold Jd;omega) ?_
 ·have:¬id=q:=λe'=>hqv _ (by rw[<-e'];exact e)
  simp[fr id hid,this]
 intro h1 f1 f2;simp;refine hK _ _ _ (by simp) (by omega) ?_ ?_
 ·intro id z rows h1' h3';have:¬id=q:=by rintro rfl;rw[hqb]at h3';simp at h3'
  rw[f2 id (by omega) (by omega) λl e=>B.not_box h3' e];simp[fr id h1',this]
 ·simp;exact .inr ⟨n+2,by omega,by omega,by simp,by simp[f1,Kv]⟩
theorem Jst{md:X5}{e:Xn}{g:K3}{acc0 T:List X1}{k5 k6 k10:Nat}{pr:List (List AV)}(s1:s 1 = .ptr 0 0 0)(s5:s 5 = .ptr k5 0 0)(s6:s 6 = .ptr k6 0 0)(s10:s 10 = .ptr k10 0 0)(hk5:k5<n)(hk6:k6<n)(hk0:0<n)(e0:h 0=some ⟨true,2,pr⟩)(e5:h k5=some ⟨true,2,[Kr e]⟩)(e6:h k6=some ⟨true,6,[Kz md]⟩)(e10:h k10=some ⟨true,4,[K5 g]⟩)
 (B:Kj 0 4 (acc0.map Kv) (s 3) h n) (hw:U9 md.System.Rows<=1048576) (hT:acc0++g.Pre.map (λl=>Ok md l e.Call)=T) (hTl:T.length<=2097152) (hgl:g.Pre.length<=1048576)
 (hK:∀s' h' n',(∀j∈[1,2,17,18,19],s' j=s j)->0<n'->h' 0=some ⟨true,2,pr⟩->Kj 0 4 (T.map Kv) (s' 3) h' n'->Jt prog ks .normal s' h' n' Q):rC prog poi ks s h n Q:=by
 simp[poi,s10,e10,K5];intro _
 refine Ka [1,2,5,6,17,18,19,43,44] 45 g.Pre.length (λi s h m=>k5<m/\k6<m/\0<m/\h 0=some ⟨true,2,pr⟩/\h k5=some ⟨true,2,[Kr e]⟩/\h k6=some ⟨true,6,[Kz md]⟩/\∃acc,Kj 0 4 (acc.map Kv) (s 3) h m/\acc++(g.Pre.drop i).map (λl=>Ok md l e.Call)=T) (by unfold Jd;omega) (by simp)
  ⟨hk5,hk6,hk0,e0,e5,e6,acc0,by simpa using B,by simpa using hT⟩ ?_ ?_
 ·rintro i st h m R hi hg hk s45 hw' ⟨m5,m6,m0,e0,e5,e6,acc,B,hJ⟩ hR _ _;simp at hk;rw[drop_eq_getElem_cons hi,map_cons]at hJ;have hal:=congrArg List.length hJ;simp at hal;refine Jq [1,2,3,5,6,17,18,19,43,44,45] (λs=>s 46 = .bool true) (by simp[hk,s45,hi]) ?_;intro Jv hk1 s46;simp at hk1;refine W3 s46 (Jn (Xd ?_));have fr:∀id,id<m->¬id=m:=by intro id _;omega
  refine Xu [1,2,3,5,6,17,18,19,43,44,45] (λs h2 n2=>n2=m+1/\s 13 = .ptr m 0 0/\h2 m=some ⟨true,2,[Jb (g.Pre[i]'hi)]⟩/\∀id,id<m->h2 id=h id) ?_ ?_
  ·simp[hk1,hk,s45,hi];exact λid hid=>by simp[fr id hid]
  rintro st2 h2 n2 hk2 ⟨rfl,s13,em,hfr2⟩;simp at hk2;generalize g.Pre[i]=l at *;have c5:=hfr2 k5 m5;have c6:=hfr2 k6 m6;rw[e5]at c5;rw[e6]at c6;have x5:st2 5 = .ptr k5 0 0:=by simp[hk2,hk1,hk,s5]
  have x6:st2 6 = .ptr k6 0 0:=by simp[hk2,hk1,hk,s6]
  refine Xu [1,2,3,5,6,17,18,19,43,44,45] (λs h3 n3=>m+1<n3/\s 15 = .bool (Y9 md l e.Call).isSome/\(∃k,s 14 = .ptr k 0 0/\m<k/\V3 ((Y9 md l e.Call).getD Jj) k h3 n3)/\∀id,id<m->h3 id=h id) ?_ ?_
  ·simp[x5,x6,s13,em,c5,c6,Kr];refine Je (J3x md l e.Call) (by simp) ?_;rintro r rfl;rw[Xm];generalize(Y9 md l e.Call).getD Jj=t;generalize(Y9 md l e.Call).isSome=b;simp[Ja];refine⟨⟨by omega,m+1,by omega,by omega,by simp,by simp⟩,λid hid=>?_⟩;have:¬id=m+1/\¬id=m+1+1:=by omega
   simp[this,hfr2 id hid]
  rintro Kq h3 n3 hk3 ⟨hn3,s15,⟨k14,s14,hk14,q,y1,y2,y3,y4⟩,hfr3⟩;simp at hk3;have z6:Kq 6 = .ptr k6 0 0:=by rw[hk3.2.2.2.2.1,x6]
  have d6:=hfr3 k6 m6;rw[e6]at d6;refine Xu [1,2,3,5,6,14,17,18,19,43,44,45] (λs h4 n4=>n3<=n4/\V3 ((Y9 md l e.Call).getD (Jr (-1) md.System.N)) k14 h4 n4/\∀id,id<m->h4 id=h id) ?_ ?_
  ·cases ht:Y9 md l e.Call with
   |some t=>
    rw[ht]at s15 y3 y4;simp[s15]
    exact⟨⟨q,y1,y2,y3,y4⟩,hfr3⟩
   |none=>
    rw[ht]at s15;simp only[Option.isSome_none]at s15;have nk:¬k14=n3/\¬n3=k14:=by omega
    simp[s15,z6,d6,Kz];refine Je (On (-1) md.System.N) (by simp) ?_;rintro r rfl;generalize Jr (-1) md.System.N=t;simp[Ja,s14,nk,y3];refine⟨⟨n3,by omega,by omega,by simp,by simp[nk]⟩,λid hid=>?_⟩;have:¬id=k14/\¬id=n3:=by omega
    simp[this,hfr3 id hid]
  rintro st4 h4 n4 hk4 ⟨hn4,L4,hfr4⟩;simp at hk4;have B4:Kj 0 4 (acc.map Kv) (st 3) h4 n4:=B.keep (by omega) λid _ hid _=>hfr4 id hid
  refine Jrh (md:=md) (t:=(Y9 md l e.Call).getD (Jr (-1) md.System.N)) (acc:=acc) (v:=st 3) (k6:=k6) (k14:=k14) (by simp[hk4,hk3,hk2,hk1]) (by simp[hk4,z6]) (by simp[hk4,s14]) (by rw[hfr4 k6 m6,e6]) L4 B4 hw (by omega) ?_;intro Yz h5 n5 hk5 hn5 bx5 B5;simp at hk5;simp[hk5,hk4,hk3,hk2,hk1,s45,hw'];have f0:=hfr4 0 m0;have f5:=hfr4 k5 m5;have f6:=hfr4 k6 m6;rw[e0]at f0;rw[e5]at f5;rw[e6]at f6;refine hR _ _ _ (by simp[hk5,hk4,hk3,hk2,hk1,hk]) (by simp) ⟨by omega,by omega,by omega,by rw[bx5 0 _ _ (by omega) f0,f0],by rw[bx5 k5 _ _ (by omega) f5,f5],by rw[bx5 k6 _ _ (by omega) f6,f6],acc++[Ok md l e.Call],?_,by simpa using hJ⟩;simp;simpa[Ok]using B5
 ·rintro st h m R hk s45 ⟨m5,m6,m0,e0,e5,e6,acc,B,hJ⟩ _ hX;simp at hk;rw[drop_eq_nil_of_le (by omega)]at hJ;simp at hJ;subst hJ;refine Jq [1,2,3,17,18,19] (λs=>s 46 = .bool false) (by simp[hk,s45]) ?_;intro Jv hk1 s46;simp at hk1;refine Uv s46 ?_;refine hX _ _ _ _ ?_;simp;refine hK _ _ _ (by simp[hk1,hk]) m0 e0 ?_;rw[hk1.2.2.1];exact B
end
theorem J0c(p:Jo)(hp:X2 p<=1048576):Holds prog 94 [.agg (Jg p)] (λx=>x = .us 4 ((Qi p).map Kv)):=by
 have hTl:=Mj p hp;have hel:=Sa p hp;refine Jp func94 Jxt rfl (by simp[a94]) ?_;simp[a94,po0,po1,po2,Jg];refine E2 (Rn p hp) (by simp[Jg]) ?_;rintro _ rfl;simp;intro _;unfold Qi at hTl⊢;generalize hT:(K1 p).flatMap (Of p)=T at *;refine Ka [1,17,18] 19 (K1 p).length (λi s h m=>0<m/\h 0=some ⟨true,2,[Jg p]⟩/\∃acc,Kj 0 4 (acc.map Kv) (s 3) h m/\acc++((K1 p).drop i).flatMap (Of p)=T) (by unfold Jd;omega) (by simp) ⟨by simp,by simp[Jg],[],.inl (by simp),by simpa using hT⟩ ?_ ?_
 ·rintro i st h m R hi hg hk s19 hw' ⟨m0,e0,acc,B,hJ⟩ hR _ _;simp at hk;have hpo:=Je4 hi;rw[drop_eq_getElem_cons hi,List.flatMap_cons]at hJ;obtain⟨x,y,hx,hy,he,hf,ht0⟩:=Sc hi;rw[<-List.append_assoc]at hJ;generalize hrest:List.flatMap (Of p) (List.drop (i+1) (K1 p))=rest at hJ;have hal:=congrArg List.length hJ;simp only[length_append]at hal;refine Jq [1,3,17,18,19] (λs=>s 20 = .bool true) (by simp[hk,s19,hi]) ?_;intro Jv hk1 s20;simp at hk1;refine W3 s20 (Jn (Xd ?_));have fr:∀id,id<m->¬id=m/\¬id=m+1/\¬id=m+1+1:=by intro id _;omega
  have hedge:(Of p (K1 p)[i])=((Gp p ⟨x,y⟩).map λl=>Ok (Uc p ⟨x,y⟩) l (y:Int)):=by rw[he];rfl
  rw[hedge]at hJ hal;have hpa:Gp p ⟨x,y⟩=((Xc p.Functions ((p.Rules[x]).Calls[y]).Func).getD Yt).Pre:=by unfold Gp;rw[ht0]
  have hgl:(Gp p ⟨x,y⟩).length<=1048576:=by
   rw[hpa]
   cases hfn:Xc p.Functions ((p.Rules[x]).Calls[y]).Func with
   |none=>simp[Yt]
   |some g=>have:=(Mc hpo hfn).2.2.2;simp only[Option.getD_some];omega
  have hmsz:=Sn hpo (k:=y) hx;refine Xu [1,2,3,17,18,19] (λs h2 n2=>n2=m+1/\s 5 = .ptr m 0 0/\h2 m=some ⟨true,2,[Kr ⟨x,y⟩]⟩/\∀id,id<m->h2 id=h id) ?_ ?_
  ·simp[hk1,hk,s19,hi,he];exact λid hid=>by simp[fr id hid]
  rintro st2 h2 n2 hk2 ⟨rfl,s5,em,hfr2⟩;simp at hk2;have c0:=hfr2 0 m0;rw[e0]at c0;have x1:st2 1 = .ptr 0 0 0:=by simp[hk2,hk1,hk]
  refine Xu [1,2,3,5,17,18,19] (λs h3 n3=>n3=m+1+1/\s 6 = .ptr (m+1) 0 0/\h3 (m+1)=some ⟨true,6,[Kz (Uc p ⟨x,y⟩)]⟩/\h3 m=some ⟨true,2,[Kr ⟨x,y⟩]⟩/\∀id,id<m->h3 id=h id) ?_ ?_
  ·simp[x1,c0,s5,em,Kr];refine E2 (J7e p hp x) (by simp[Jg]) ?_;rintro _ rfl;have hmd:(Hf p x).getD Dd=Uc p ⟨x,y⟩:=rfl;unfold Hp;rw[hmd];generalize Uc p ⟨x,y⟩=md;simp;refine⟨by simp[em,Kr],λid hid=>by simp[fr id hid,hfr2 id hid]⟩
  rintro Kq h3 n3 hk3 ⟨rfl,s6,e6,e5,hfr3⟩;simp at hk3;have c0':=hfr3 0 m0;rw[e0]at c0';refine Jq [1,2,3,5,6,17,18,19] (λs=>s 9 = .str ((p.Rules[x]).Calls[y]).Func) ?_ ?_
  ·simp[hk3,x1,c0',s5,e5];refine Je (Na p hx hy) (by simp[Jg]) ?_;rintro r rfl;simp[hk3,s5]
  intro st4 hk4 s9;simp at hk4;refine Xu [1,2,3,5,6,17,18,19] (λs h5 n5=>n5=m+1+1+1/\s 10 = .ptr (m+1+1) 0 0/\h5 (m+1+1)=some ⟨true,4,[K5 ((Xc p.Functions ((p.Rules[x]).Calls[y]).Func).getD Yt)]⟩/\∀id,id<m+1+1->h5 id=h3 id) ?_ ?_
  ·simp[hk4,hk3,x1,c0',s9];refine E2 (Cm p ((p.Rules[x]).Calls[y]).Func hp) (by simp[Jg]) ?_;rintro _ rfl;unfold Qz;generalize(Xc p.Functions ((p.Rules[x]).Calls[y]).Func).getD Yt=g;simp;intro id hid;have:¬id=m+1+1:=by omega
   simp[this]
  rintro Yz h5 n5 hk5 ⟨rfl,s10,e10,hfr5⟩;simp at hk5;refine Jst (md:=Uc p ⟨x,y⟩) (e:=⟨x,y⟩) (g:=(Xc p.Functions ((p.Rules[x]).Calls[y]).Func).getD Yt) (acc0:=acc) (T:=acc++(Gp p ⟨x,y⟩).map λl=>Ok (Uc p ⟨x,y⟩) l (y:Int)) (k5:=m) (k6:=m+1) (k10:=m+1+1) (pr:=[Jg p]) (by simp[hk5,hk4,hk3,x1]) (by simp[hk5,hk4,hk3,s5]) (by simp[hk5,hk4,s6]) s10 (by omega) (by omega) (by omega) (by rw[hfr5 0 (by omega),c0']) (by rw[hfr5 m (by omega),e5]) (by rw[hfr5 (m+1) (by omega),e6]) e10 ?_ (by omega) (by rw[hpa]) (by simp only[length_append];omega) (by rw[<-hpa];exact hgl) ?_
  ·have:Yz 3=st 3:=by simp[hk5,hk4,hk3,hk2,hk1]
   rw[this];exact B.keep (by omega) λid _ hid _=>by rw[hfr5 id (by omega),hfr3 id hid]
  intro st6 h6 n6 hk6 hn6 e06 B6;simp at hk6;simp[hk6,hk5,hk4,hk3,hk2,hk1,s19,hw'];refine hR _ _ _ (by simp[hk6,hk5,hk4,hk3,hk2,hk1,hk]) (by simp) ⟨by omega,e06,_,?_,by rw[hrest];exact hJ⟩;simp only[Fh (show ¬3=19 by omega),Fh (show ¬3=72 by omega)];exact B6
 ·rintro st h m R hk s19 ⟨m0,e0,acc,B,hJ⟩ _ hX;simp at hk;rw[drop_eq_nil_of_le (by omega)]at hJ;simp at hJ;subst hJ;refine Jq [3] (λs=>s 20 = .bool false) (by simp[hk,s19]) ?_;intro Jv hk1 s20;simp at hk1;refine Uv s20 ?_;refine hX _ _ _ _ ?_;obtain⟨h2,d1,_⟩:=B.dt;simp[po3,hk1,-dt,-Va,d1]
def U6(p:Jo)(b:Rx)(name:J9):Jc:=b.Lins.getD (Xi (λf=>f.Name==name) p.Functions 0).toNat Jj
theorem Jkc{p:Jo}{name:J9}(h:(Xc p.Functions name).isSome=true):∃j:Nat,j<p.Functions.length/\Xi (λf=>f.Name==name) p.Functions 0=(j:Int):=by
 rcases J0d (p:=λf:K3=>f.Name==name) (l:=p.Functions) (k:=0)with ⟨h1,_⟩|⟨j,hj,h1,_⟩
 ·unfold Xc at h;rw[h1]at h;simp at h
 ·exact⟨j,hj,by simpa using h1⟩
theorem Jag{p:Jo}{r:K0} : ∀{l:List Xq}{k:Nat},Qe p r k l=true->∀c∈l,(Xc p.Functions c.Func).isSome=true
 | [],_,_,_,h=>by cases h
 |c::l,k,h,x,hx=>by
  simp only[Qe,Bool.and_eq_true]at h;rcases mem_cons.1 hx with rfl|hx
  ·have:=h.1;unfold Ik at this;simp only[Bool.and_eq_true]at this;exact this.1.1.1
  ·exact Jag h.2 x hx
def bo2:AC:=(.reg [Zz 6 4])
def Yo:List X1->List (Option X1)->Option (List X1)
 |acc,[]=>some acc
 |_,Option.none::_=>Option.none
 |acc,some x::l=>Yo (acc++[x]) l
def mdR(p:Jo)(i:Int):X5:=(Hf p i).getD Dd
theorem Jdq:∀{l:List (Option X1)}{acc o:List X1},Yo acc l=some o->o.length=acc.length+l.length
 | [],acc,o,h=>by simp only[Yo,Option.some.injEq]at h;subst h;simp
 |Option.none::_,_,_,h=>by simp[Yo]at h
 |some x::l,acc,o,h=>by simp only[Yo]at h;have:=Jdq h;simp at this⊢;omega
def a70:Jl:= ⟨68,[.t 4],(Zq [ZB 2 0,Zz 4 1] (.seq (Zq [Zl 13 true 2 2,Zc 14 67 [.t 13],ZN 15 14,Zv 16 15,Zg 17 16 false (.ld true 2 (.t 2)),Zg 18 16 false (.mv (.t 1)),Zg 19 16 false (.call (.k (.fn (.func 84) [] [])) [.t 17,.t 18]),Zg 20 16 false (.bin .lss (.t 19) (.k (.int .i64 0))),ZP 21 16 20] (.cond (.t 21) (Zq [Zz 4 1] .ret) .skip)) (Zq [Zo 22 (.mmk),Zv 23 1,⟨no,.mput (.t 22) (.t 23) (.k (.bool true)),no⟩,Zv 24 22,Zv 5 24] (.seq (Zq [Zf 25 0 2,Zl 26 false 1 25,Zn 27 26,Zi 28 0] (.blk 0 (.loop (Zq [Zb 29 .lss 28 27] (.seq (Zw 29 0) (.seq (.blk 1 (Zq [Zl 30 true 2 2,Zc 31 151 [.t 30],Zn 32 31,Zi 33 0] (.blk 2 (.loop (Zq [Zb 34 .lss 33 32] (.seq (Zw 34 2) (.seq (.blk 3 (Zq [Zx 35 2 31 33,Zl 36 true 2 35,Zo 7 (.box [(.int .i64 0),(.int .i64 0)]),Zs 2 7 36] (Zq [Zl 38 true 2 2,Zl 39 true 2 7,Zc 40 152 [.t 38,.t 39],Zv 37 40,Ze 41 37 0,Ze 42 37 1,Zv 8 41,Zv 9 42] (Zq [Zv 43 5,Zv 44 8,Zo 45 (.mget (.bool false) (.t 43) (.t 44))] (.cond (.t 45) (.reg [Zv 46 5,Zv 47 9,⟨no,.mput (.t 46) (.t 47) (.k (.bool true)),no⟩]) .skip))))) (.reg [Zk 48 .add 33 1,Zv 33 48])))))))) (.reg [Zk 49 .add 28 1,Zv 28 49]))))))) (Zq [Zz 10 1] (.seq (Zq [Zf 50 0 2,Zl 51 false 1 50,Zn 52 51,Zi 53 0] (.blk 4 (.loop (Zq [Zb 54 .lss 53 52] (.seq (Zw 54 4) (.seq (.blk 5 (Zq [Zx 55 4 51 53,Zl 56 true 4 55,ZU 12,Zs 4 12 56] (Zq [Zv 57 5,Zf 58 0 12,Zl 59 false 1 58,Zo 60 (.mget (.bool false) (.t 57) (.t 59))] (.cond (.t 60) (.reg [Zv 61 10,Zf 62 0 12,Zl 63 false 1 62,ZS 64 1 63,ZA 65 16 1 61 64,Zv 10 65]) .skip)))) (.reg [Zk 66 .add 53 1,Zv 53 66]))))))) (Zq [Zv 67 10,Zv 4 67] .ret)))))))⟩
theorem Jxa:Jh prog f70=some a70:=by kernel_rfl
def Hg(M:List J9):List (List AV):=M.map λk=>[.str k,.bool true]
theorem J1q:∀(M:List J9) (key:J9),(I4 (Hg M) key).getD (.bool false) = .bool (K6 M key)
 | [],key=>rfl
 |k::M,key=>by
  have ih:=J1q M key;by_cases h:k=key
  ·simp[Hg,I4,h,K6]
  ·unfold Hg K6 at *;simp only[map_cons,I4,if_neg h,List.any_cons];rw[ih];simp[h]
theorem J6n:∀(M:List J9) (key:J9),Oq (Hg M) key (.bool true)=Hg (if K6 M key then M else M++[key])
 | [],key=>rfl
 |k::M,key=>by
  have ih:=J6n M key;by_cases h:k=key
  ·simp[Hg,Oq,h,K6]
  ·have hh:K6 (k::M) key=K6 M key:=by simp[K6,h]
   rw[hh];simp only[Hg,map_cons,Oq,if_neg h]at *;rw[ih];split <;>simp
theorem Jf4(p:Jo)(name:J9):decide (Xi (λf=>f.Name==name) p.Functions 0<0) = !K6 (X7 p) name:=by
 have:=Mm (p:=λf:K3=>f.Name==name) (l:=p.Functions) (i:=0);have h2:K6 (X7 p) name=p.Functions.any (λf=>f.Name==name):=by simp[K6,X7,List.any_map,Function.comp_def]
 rw[h2,<-this];by_cases h:Xi (λf:K3=>f.Name==name) p.Functions 0<0
 ·have h3:¬(Xi (λf:K3=>f.Name==name) p.Functions 0>=0):=by omega
  simp[h,h3]
 ·have h3:Xi (λf:K3=>f.Name==name) p.Functions 0>=0:=by omega
  simp[h,h3]
theorem D0.keep {b z:Nat}{rows:List (List AV)}{v:AV}{h:J8}{n:Nat}(a:D0 b z rows v h n) (x:Option Yi):D0 b z rows v (upd h n x) n:=a.imp id λ⟨i,h1,h2,h3,h4⟩=>⟨i,h1,h2,h3,by rw[Fh (by omega)];exact h4⟩
def Di(p:Jo)(e:Xn):J9×J9:=(Bq p e,Ob p e)
theorem J1s(p:Jo):Vt p=(Ii p).map (Di p):=rfl
theorem Jfu{p:Jo}{j:Nat}(hj:j<(Ii p).length):∃i k:Nat,∃hi:i<p.Rules.length,∃hk:k<(p.Rules[i]).Calls.length,(Ii p)[j]=⟨(i:Int),(k:Int)⟩/\Bq p ⟨(i:Int),(k:Int)⟩=(p.Rules[i]).Func/\Ob p ⟨(i:Int),(k:Int)⟩=((p.Rules[i]).Calls[k]).Func:=by obtain⟨i,k,hi,hk,he⟩:=Nq (getElem_mem hj);exact⟨i,k,hi,hk,he,Ml hi,P3 hi hk⟩
theorem J0h(p:Jo)(hp:X2 p<=1048576)(name:J9):Holds prog 70 [.agg (Jg p),.str name] (λx=>x = .us 1 (Jf (Ut p name))):=by
 have hTl:=R4 p hp;have hfl:p.Functions.length<=1048576:=by have:=Yn Yr p.Functions;unfold X2 Qb at hp;omega
 refine Jp func70 Jxa rfl (by simp[a70]) ?_;simp[a70,Jg];refine Je (Sm p hp) (by simp[Jg]) ?_;rintro r rfl;unfold Ut;cases h1:Ym p
 ·simp[Jf]
 simp;refine Je (Cw p name) (by simp[Jg]) ?_;rintro r rfl;have g1:=Jf4 p name;cases h2:K6 (X7 p) name
 ·rw[h2]at g1;simp at g1;simp[g1,Jf]
 rw[h2]at g1;simp at g1;have g2:¬Xi (λf:K3=>f.Name==name) p.Functions 0<0:=by omega
 simp[g2,Oq];intro _;generalize hS:Gh (Vt p) p.Functions.length [name]=S
 have hre:G9 (Vt p) (X7 p) name=(X7 p).filter (K6 S):=by unfold G9;rw[show(X7 p).length=p.Functions.length by simp[X7],hS]
 rw[hre];refine Ka [2,5,27] 28 p.Functions.length (λi s h n=>1<n/\h 0=some ⟨true,2,[Jg p]⟩/\∃M:List J9,h 1=some ⟨true,0,Hg M⟩/\Gh (Vt p) (p.Functions.length - i) M=S) (by unfold Jd;omega) (by simp) ⟨by simp,by simp[Jg],[name],by simp[Hg],by simpa using hS⟩ ?_ ?_
 ·rintro i st h n R hi hg hk s28 hw ⟨hn,e0,M,e1,hJ⟩ hR hret _;simp at hk;refine Jq [2,5,27,28] (λs=>s 29 = .bool true) (by simp[hk,s28,hi]) ?_;intro Jv hk1 s29;simp at hk1;refine W3 s29 (Jn (Xd ?_));simp[hk,hk1,e0,Jg];refine Je (J78 p hp) (by simp[Jg]) ?_;rintro r rfl;simp;intro hle;have z0:¬0=n:=by omega
  have z1:¬1=n:=by omega
  have z2:¬n=0:=by omega
  have hJ':Gh (Vt p) (p.Functions.length - (i+1)) (Io (Vt p) M)=S:=by rw[<-hJ,show p.Functions.length - i=(p.Functions.length - (i+1))+1 by omega];rfl
  generalize hM2:Io (Vt p) M=M2 at hJ';refine Ka [2,5,27,28,31,32] 33 (Ii p).length (λj s h' n'=>n<n'/\h' 0=some ⟨true,2,[Jg p]⟩/\h' n=some ⟨false,2,(Ii p).map Yd⟩/\∃X:List J9,h' 1=some ⟨true,0,Hg X⟩/\(((Ii p).drop j).map (Di p)).foldl Qa X=M2) hle (by simp) ⟨by omega,by simp[e0,z0,Jg],by simp,M,by simp[e1,z1],by rw[<-hM2,J1s];simp[Io]⟩ ?_ ?_
  ·rintro j st2 h2 n2 R2 hj hjg hk2 s33 hw2 ⟨hn2,f0,fn,X,f1,hX⟩ hR2 hret2 _;simp at hk2;obtain⟨a,b,ha,hb,he,hf,ht⟩:=Jfu hj;rw[drop_eq_getElem_cons hj,map_cons,foldl_cons,he,Di,hf,ht]at hX;have y0:¬0=n2:=by omega
   have y1:¬1=n2:=by omega
   have y2:¬n=n2:=by omega
   have y3:¬n2=n:=by omega
   have y4:¬n2=1:=by omega
   have y5:¬n2=0:=by omega
   have y6:¬n=1:=by omega
   refine Jq [2,5,27,28,31,32,33] (λs=>s 34 = .bool true) (by simp[hk2,s33,hj]) ?_;intro Kq hk3 s34;simp at hk3;refine W3 s34 (Jn (Xd ?_));simp[hk2,hk3,hk1,hk,s33,hj,f0,fn,he,Yd,Jg,y0];refine Je (Na p ha hb) (by simp[Jg,Kr]) ?_;rintro r rfl;simp[hk2,hk3,hk1,hk,f1,J1q,y1];cases c1:K6 X (p.Rules[a]).Func
   ·rw[Qa,c1]at hX;simp at hX;simp[s33,hw2];exact hR2 _ _ _ (by simp[hk2,hk3,hk1,hk]) (by simp) ⟨by omega,by simp[f0,y0,Jg],by simp[fn,y2],X,by simp[f1,y1],by simpa using hX⟩
   ·rw[Qa,c1]at hX;simp only[if_true]at hX;simp[s33,hw2,J6n];exact hR2 _ _ _ (by simp[hk2,hk3,hk1,hk]) (by simp) ⟨by omega,by simp[f0,y0,Jg],by simp[fn,y2,y6],(if K6 X ((p.Rules[a]).Calls[b]).Func then X else X++[((p.Rules[a]).Calls[b]).Func]),by simp,by simpa using hX⟩
  rintro st2 h2 n2 R2 hk2 s33 ⟨hn2,f0,fn,X,f1,hX⟩ hret2 hX2;simp at hk2;rw[drop_eq_nil_of_le (by omega)]at hX;simp at hX;subst hX;refine Jq [2,5,27,28] (λs=>s 34 = .bool false) (by simp[hk2,s33]) ?_;intro Kq hk3 s34;simp at hk3;refine Uv s34 ?_;refine hX2 _ _ _ _ ?_;simp[hk1,hk2,hk3,s28,hw];exact hR _ _ _ (by simp[hk,hk1,hk2,hk3]) (by simp) ⟨by omega,f0,X,f1,hJ'⟩
 rintro st h n R hk s28 ⟨hn,e0,M,e1,hJ⟩ hret hX;simp at hk;rw[Nat.sub_self]at hJ;simp only[Gh]at hJ;subst hJ;refine Jq [2,5] (λs=>s 29 = .bool false) (by simp[hk,s28]) ?_;intro Jv hk1 s29;simp at hk1;refine Uv s29 ?_;refine hX _ _ _ _ ?_;simp[hk,hk1,e0,Jg];intro _;generalize hT:(X7 p).filter (K6 M)=T;have hTn:T.length<=p.Functions.length:=by rw[<-hT];refine Nat.le_trans (List.length_filter_le _ _) (by simp[X7])
 refine Ka [5,51,52] 53 p.Functions.length (λi s h n=>1<n/\h 1=some ⟨true,0,Hg M⟩/\∃acc:List J9,acc++((X7 p).drop i).filter (K6 M)=T/\D0 1 1 (Jf acc) (s 10) h n) (by unfold Jd;omega) (by simp) ⟨hn,by simpa using e1,[],by simpa using hT,.inl (by simp[Jf])⟩ ?_ ?_
 ·rintro i st2 h2 n2 R2 hi hg hk2 s53 hw ⟨hn2,f1,acc,hJ,hA⟩ hR2 hret2 _;simp at hk2;have hin:i<(X7 p).length:=by simpa[X7]using hi
  have hni:(X7 p)[i]=(p.Functions[i]).Name:=by simp[X7]
  rw[drop_eq_getElem_cons hin,List.filter_cons,hni]at hJ;have y0:¬1=n2:=by omega
  have y1:¬n2=1:=by omega
  have y2:¬1=n2+1:=by omega
  have y3:¬1=n2+1+1:=by omega
  have y4:¬n2=0:=by omega
  refine Jq [5,10,51,52,53] (λs=>s 54 = .bool true) (by simp[hk2,s53,hi]) ?_;intro Kq hk3 s54;simp at hk3;refine W3 s54 (Jn (Xd ?_));refine Xu [5,10,51,52,53] (λs h' n'=>s 12 = .ptr n2 0 0/\n'=n2+1/\h' n2=some ⟨true,4,[K5 p.Functions[i]]⟩/\h' 1=some ⟨true,0,Hg M⟩/\D0 1 1 (Jf acc) (st2 10) h' n2) ?_ ?_
  ·simp[hk2,hk3,hk1,hk,s53,hi,K5,f1,y0];exact hA.keep _
  rintro st4 h4 n4 hk4 ⟨s12,rfl,en,f1',hA'⟩;simp at hk4;refine Jq [5,10,12,51,52,53] (λs=>s 60 = .bool (K6 M (p.Functions[i]).Name)) ?_ ?_
  ·simp[hk4,hk2,hk3,hk1,hk,s12,en,K5,f1',J1q]
  intro Yz hk5 s60;simp at hk5;cases c1:K6 M (p.Functions[i]).Name
  ·rw[c1]at hJ s60;simp only[Bool.false_eq_true,if_false]at hJ;simp[hk5,hk4,hk3,s53,s60,hw];exact hR2 _ _ _ (by simp[hk5,hk4,hk2,hk3,hk1,hk]) (by simp) ⟨by omega,f1',acc,hJ,by simpa[hk5,hk4,hk3]using hA'.mono (Nat.le_succ _)⟩
  rw[c1]at hJ s60;simp only[if_true]at hJ;have hal:=congrArg List.length hJ;simp only[length_append,length_cons]at hal;rcases hA' with ⟨hz,hv⟩|⟨id,hid,hid',hv,hc⟩
  ·have hz':acc=[]:=by simpa[Jf]using hz
   subst hz';simp[hk5,hk4,hk3,hv,s12,s60,en,K5,s53,hw];refine⟨by unfold Jd;omega,?_⟩;exact hR2 _ _ _ (by simp[hk5,hk4,hk2,hk3,hk1,hk]) (by simp) ⟨by omega,by simp[f1',y4],[(p.Functions[i]).Name],by simpa using hJ,.inr ⟨n2+1+1,by omega,by omega,by simp[Jf],by simp[Jf]⟩⟩
  ·simp[Jf]at hv;have x0:¬id=n2:=by omega
   have x1:¬id=n2+1:=by omega
   have x2:¬n2+1=id:=by omega
   have x3:¬n2=id:=by omega
   have x4:¬1=id:=by omega
   simp[hk5,hk4,hk3,hv,hc,s12,s60,en,K5,s53,hw,x1,x2];refine⟨by unfold Jd;omega,?_⟩;exact hR2 _ _ _ (by simp[hk5,hk4,hk2,hk3,hk1,hk]) (by simp) ⟨by omega,by simp[f1',y4,x4],acc++[(p.Functions[i]).Name],by simpa using hJ,.inr ⟨n2+1+1,by omega,by omega,by simp[Jf],by simp[Jf]⟩⟩
 rintro st2 h2 n2 R2 hk2 s53 ⟨hn2,f1,acc,hJ,hA⟩ hret2 hX2;simp at hk2;rw[drop_eq_nil_of_le (by simp[X7])]at hJ;simp at hJ;subst hJ;refine Jq [10] (λs=>s 54 = .bool false) (by simp[hk2,s53]) ?_;intro Kq hk3 s54;simp at hk3;refine Uv s54 ?_;refine hX2 _ _ _ _ ?_;rcases hA with ⟨hz,hv⟩|⟨id,hid,hid',hv,hc⟩
 ·simp[hk3,hv,hz]
 ·simp at hv;simp[hk3,hv,hc]
end Go.Proofs.YtoclolkigjbcgaaGreat

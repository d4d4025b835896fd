/- Contracts: a variable eliminated (program), the pairs. -/
import Derived.Test.YtoclolkigjbcgaaGreatAFF0
namespace Go.Proofs.YtoclolkigjbcgaaGreat
open Tryz
open Tryz(prog)
open List(drop_eq_getElem_cons getElem_mem length_append drop_eq_nil_of_le)
set_option maxRecDepth 40000
set_option maxHeartbeats 4000000
open Go Go.RowKit Go.Proofs
set_option linter.all false
def Gy(v:Nat)(a b:Ke):Option Ke:=if -(Kf v b)<=0 then Option.none else Gf v a b
theorem Jeh{v:Nat}{l:List Ke}{a:Ke}(h:¬Kf v a<=0):O8 v l a=l.filterMap (Gy v a):=by unfold O8;rw[if_neg h];rfl
section
variable {ks:List Kt}{s:Jm}{h h':J8}{n:Nat}{Q:Xb}
theorem Jz2{a b:Ke}{ra rb:List AV}{N m k9 k12:Nat}{p q g:Int}(ga:GD N m a)(gb:GD N m b)(hm:m<=20)(hp:0<=p/\p<=1000000000)(hq:0<=q/\q<=1000000000)(hg0:0<g)(hg:g<=1000000000)(s9:s 9 = .ptr k9 0 0)(s12:s 12 = .ptr k12 0 0)(s10:s 10 = .int .i64 p)(s13:s 13 = .int .i64 q)(s14:s 14 = .int .i64 g)
 (e9:h k9=some ⟨true,4,[ra]⟩) (e12:h k12=some ⟨true,4,[rb]⟩) (hra:X0 a ra h n) (hrb:X0 b rb h n)
 (hK:∀s' h' n' k o r,(∀j∈[0,1,5,9,10,17,18,19,35,36,37,49,50,51],s' j=s j)->n<=n'->(∀id,id<n->h' id=h id)->s' 16 = .bool (Qn a (q.tdiv g) b (p.tdiv g)).isSome->s' 15 = .ptr k 0 0->n<=k->k<n'->h' k=some ⟨true,4,[r]⟩->X0 o r h' n'->(∀d,Qn a (q.tdiv g) b (p.tdiv g)=some d->o=d)->Jt prog ks .normal s' h' n' Q):rC prog wj ks s h n Q:=by
 have w1:=Cn (g:=g) hp.1 hp.2 (by omega);have w2:=Cn (g:=g) hq.1 hq.2 (by omega);have v1:IntKind.i64.wrap (p.tdiv g)=p.tdiv g:=Km (by omega);have v2:IntKind.i64.wrap (q.tdiv g)=q.tdiv g:=Km (by omega);have hgn:¬g=0:=by omega
 have c1:=hra.cells;have c2:=hrb.cells;obtain⟨va,ma,rfl,A1,A2⟩:=hra;obtain⟨vb,mb,rfl,B1,B2⟩:=hrb;have hml:b.mult.length=a.mult.length:=by rw[ga.len,gb.len]
 have hm20:a.mult.length<=20:=by rw[ga.len];exact hm
 have fr:∀id,id<n->¬id=n:=by intro id _;omega
 simp[wj,s9,s10,s12,s13,s14,e9,e12,hgn,v1,v2];constructor
 ·refine Tm (J16 hml hm20 A1 A2 B1 B2 ?_);intro h' n' o r hn hf hr ho;refine⟨hf,?_⟩;obtain⟨vo,mo,rfl,O1,O2⟩:=id hr;have k1:=O1.cell;have k2:=O2.cell;simp[-Kb,k1,k2];simp[Kb];have fr':∀id,id<n'->¬id=n':=by intro id _;omega
  refine hK _ _ _ n' o _ (by simp) (by omega) (λid hid=>by simp[fr' id (by omega),hf id hid]) (by simp) (by simp) (by omega) (by omega) (by simp) (hr.keep (by omega) (Ko.of λid hid=>by simp[fr' id hid])) ho
 ·have kp:Ko h (upd h n (some ⟨true,4,[[.int .i64 0,.nil 1,.nil 1,.int .i64 0]]⟩)) n:=Ko.of λid hid=>by simp[fr id hid]
  refine Tm (J16 hml hm20 (A1.keep (Nat.le_succ n) kp) (A2.keep (Nat.le_succ n) kp) (B1.keep (Nat.le_succ n) kp) (B2.keep (Nat.le_succ n) kp) ?_);intro h' n' o r hn hf hr ho;refine⟨hf,?_⟩;obtain⟨vo,mo,rfl,O1,O2⟩:=id hr;have k1:=O1.cell;have k2:=O2.cell;have en:=hf n (Nat.lt_succ_self n);simp at en;simp[-Kb,k1,k2,en];simp[Kb];have hx:∀id,id<n->h' id=h id:=λid hid=>by rw[hf id (by omega)];simp[fr id hid]
  have kp2:Ko h' (upd h' n (some ⟨true,4,[[.int .i64 o.l.Const,vo,mo,.int .i64 o.scale]]⟩)) n':=λid z rows hid e=>by
   have:¬id=n:=by rintro rfl;rw[en]at e;simp at e
   simp[this,e]
  refine hK _ _ _ n o _ (by simp) (by omega) (λid hid=>by simp[fr id hid,hx id hid]) (by simp) (by simp) (by omega) (by omega) (by simp) (hr.keep (Nat.le_refl _) kp2) ho
theorem Jnx{ds:List Ke}{vl:AV}{a:Ke}{ra:List AV}{N m v n0 k9:Nat}{h0:J8}{acc0 T:List Ke}(hg:∀d∈ds,GD N m d)(ga:GD N m a)(hm:m<=20)(hv:v<N)(hd:ds.length<=60)(hap:¬Kf v a<=0)(L:K7 X0 4 0 ds vl h0 n0)(hn0:n0<=n)(hk9:n0<=k9/\k9<n)
 (s1:s 1 = .int .i64 v) (s9:s 9 = .ptr k9 0 0) (s10:s 10 = .int .i64 (Kf v a)) (s49:s 49=vl) (s50:s 50 = .int .i64 ds.length) (s51:s 51 = .int .i64 0)
 (hf:∀id,id<n0->h id=h0 id) (e9:h k9=some ⟨true,4,[ra]⟩) (hra:X0 a ra h n) (B0:K7 X0 4 n0 acc0 (s 5) h n) (hne0:∀k,s 5 ≠ .ref k9 0 k) (hT:acc0++ds.filterMap (Gy v a)=T) (hTl:T.length<=4000)
 (hK:∀s' h' n',(∀j∈[0,1,17,18,19,35,36,37],s' j=s j)->n<=n'->(∀id,id<n0->h' id=h0 id)->K7 X0 4 n0 T (s' 5) h' n'->Jt prog ks .normal s' h' n' Q):rC prog win ks s h n Q:=by
 have keepL:∀{h' m'},n0<=m'->(∀id,id<n0->h' id=h0 id)->K7 X0 4 0 ds vl h' m':=λhm hh=>K7.keep (R:=X0) (λ_ _ _ _ _ _=>X0.keep) L hm (Ko.of hh) λid rows _ hid _ e=>by rw[hh id hid,e]
 have hpa:=Oh.1 (ga.coef hv);refine Xd ?_;rw[J8f];refine Ka [0,1,9,10,17,18,19,35,36,37,49,50] 51 ds.length (λi s h m'=>n<=m'/\(∀id,id<n0->h id=h0 id)/\h k9=some ⟨true,4,[ra]⟩/\X0 a ra h m'/\(∀k,s 5 ≠ .ref k9 0 k)/\∃acc,K7 X0 4 n0 acc (s 5) h m'/\acc++(ds.drop i).filterMap (Gy v a)=T) (by unfold Jd;omega) (by simp[s51]) ⟨Nat.le_refl _,hf,e9,hra,hne0,acc0,B0,by simpa using hT⟩ ?_ ?_
 ·rintro i st h1 m1 R hi hgi hk s51 hw ⟨hm1,hf1,e9,hra,hne,acc,B,hJ⟩ hR hret _;simp at hk;rw[drop_eq_getElem_cons hi,List.filterMap_cons]at hJ;have gb:=hg _ (getElem_mem hi);refine Jq [0,1,5,9,10,17,18,19,35,36,37,49,50,51] (λs=>s 52 = .bool true) (by simp[hk,s51,hi,s50]) ?_;intro Jv hk1 s52;simp at hk1;refine W3 s52 (Jn (Xd ?_));refine Jn (Jlv (.inr (.inr ⟨rfl,rfl,rfl,rfl⟩)) (keepL (by omega) hf1) hi (by simp[hk1,hk,s49]) (by simp[hk1,s51]) ?_);intro st2 h2 r hk2 hk2b hf2 s12 e12 hr;simp at hk2 hk2b;rw[Wd];have B2:K7 X0 4 n0 acc (st 5) h2 (m1+1):=K7.keep (R:=X0) (λ_ _ _ _ _ _=>X0.keep) B (Nat.le_succ m1) (Ko.of hf2) λid rows _ hid _ e=>by rw[hf2 id hid,e]
  have e92:h2 k9=some ⟨true,4,[ra]⟩:=by rw[hf2 k9 (by omega),e9]
  have hra2:=hra.keep (Nat.le_succ m1) (Ko.of hf2);refine Jn (Jlq (.inr (.inr ⟨rfl,rfl,rfl⟩)) gb hv s12 (by simp[hk2,hk1,hk,s1]) e12 hr ?_);intro Kq hk3 _ _ hx;obtain⟨s13,s10'⟩:=hx rfl;simp at hk3;rw[Wd];by_cases hq : -(Kf v ds[i])<=0
  ·have hJ0:Gy v a ds[i]=Option.none:=by unfold Gy;rw[if_pos hq]
   rw[hJ0]at hJ;simp[s13,hq,hk3,hk2,hk1,s51,hw];exact hR _ _ _ (by simp[hk3,hk2,hk1,hk,hk2b,s10']) (by simp) ⟨by omega,λid hid=>by rw[hf2 id (by omega),hf1 id hid],e92,hra2,by simpa[hk3,hk2,hk1]using hne,acc,by simpa[hk3,hk2,hk1]using B2,hJ⟩
  ·have hpb:=Oh.1 (gb.coef hv);have hJ1:Gy v a ds[i]=Gf v a ds[i]:=by unfold Gy;rw[if_neg hq]
   rw[hJ1]at hJ;have hpn:((Kf v a).toNat:Int)=Kf v a:=by omega
   have hqn:((-(Kf v ds[i])).toNat:Int) = -(Kf v ds[i]):=by omega
   have hg1:0<Gm (Kf v a) (-(Kf v ds[i])):=Jax (by omega);have hg2:=Jdc (p:=Kf v a) (q := -(Kf v ds[i])) (by omega) (by omega);simp[s13,hq,hk3,hk2,hk1,s51,hw];have s10'':Kq 10 = .int .i64 (Kf v a):=by rw[s10',hk2b.2,hk1.2.2.2.2.1,hk.2.2.2.1,s10]
   rw[<-Eo];refine Jq [0,1,5,9,10,12,13,17,18,19,35,36,37,49,50,51] (λs=>s 14 = .int .i64 (Gm (Kf v a) (-(Kf v ds[i])):Nat)) ?_ ?_
   ·simp[wi,s10'',s13];have:=Jxh (Kf v a).toNat (-(Kf v ds[i])).toNat (by omega) (by omega);rw[hpn,hqn]at this;refine Je this (by simp) ?_;rintro r rfl;simp[Gm]
   intro st4 hk4 s14;simp at hk4;refine Jn (Jz2 (a:=a) (b:=ds[i]) (ra:=ra) (rb:=r) (k9:=k9) (k12:=m1) ga gb hm (p:=Kf v a) (q := -(Kf v ds[i])) (g:=(Gm (Kf v a) (-(Kf v ds[i])):Nat)) (by omega) (by omega) (by omega) (by omega) (by simp[hk4,hk3,hk2b,hk1,hk,s9]) (by simp[hk4,hk3,s12]) (by simp[hk4,s10'']) (by simp[hk4,s13]) s14 e92 e12 hra2 hr ?_);intro Yz h5 m5 k15 o ro hk5 hm5 hf5 s16 s15 hk15 hk15b e15 hro ho;simp at hk5;rw[show Qn a ((-(Kf v ds[i])).tdiv ((Gm (Kf v a) (-(Kf v ds[i])):Nat):Int)) ds[i] ((Kf v a).tdiv ((Gm (Kf v a) (-(Kf v ds[i])):Nat):Int))=Gf v a ds[i]from rfl]at s16 ho;have B5:K7 X0 4 n0 acc (st 5) h5 m5:=K7.keep (R:=X0) (λ_ _ _ _ _ _=>X0.keep) B2 hm5 (Ko.of hf5) λid rows _ hid _ e=>by rw[hf5 id hid,e]
   have hf50:∀id,id<n0->h5 id=h0 id:=λid hid=>by rw[hf5 id (by omega),hf2 id (by omega),hf1 id hid]
   have e95:h5 k9=some ⟨true,4,[ra]⟩:=by rw[hf5 k9 (by omega),e92]
   have hra5:=hra2.keep hm5 (Ko.of hf5);have hal:=congrArg List.length hJ;simp only[length_append]at hal;rw[Wd]
   cases hj:Gf v a ds[i]with
   |none=>
    rw[hj]at s16 hJ;simp at s16 hJ;simp[s16,hk5,hk4,hk3,hk2,hk1,s51,hw]
    refine hR _ _ _ (by simp[hk5,hk4,hk3,hk2,hk1,hk,hk2b,s10'',s10]) (by simp) ⟨by omega,hf50,e95,hra5,by simpa[hk5,hk4,hk3,hk2,hk1]using hne,acc,by simpa[hk5,hk4,hk3,hk2,hk1]using B5,hJ⟩
   |some d=>
    rw[hj]at s16 hJ;have ho:=ho d hj;subst ho;simp at s16 hJ;simp[s16];refine Kcf (acc:=acc) (d:=o) (v:=st 5) (q:=k15) (.inr ⟨rfl,rfl⟩) (by simp[s15]) (by simp[hk5,hk4,hk3,hk2,hk1]) e15 hk15b hro B5 (by omega) (by omega) ?_;intro st6 h6 m6 hk6 hm6 kp6 hf6 hnew B6;simp at hk6;simp[hk6,hk5,hk4,hk3,hk2,hk1,s51,hw];refine hR _ _ _ (by simp[hk6,hk5,hk4,hk3,hk2,hk1,hk,hk2b,s10'',s10]) (by simp) ⟨by omega,λid hid=>?_,?_,hra5.keep hm6 kp6,?_,acc++[o],by simpa using B6,by simpa using hJ⟩
    ·rw[hf6 id (by omega) λk e=>?_,hf50 id hid];have:=B.from id k e;omega
    ·rw[hf6 k9 (by omega) hne,e95]
    ·intro k e;have:=hnew k9 k (by simpa using e);omega
 ·rintro st h1 m1 R hk s51 ⟨hm1,hf1,e9,hra,hne,acc,B,hJ⟩ hret hX;simp at hk;rw[drop_eq_nil_of_le (by omega)]at hJ;simp at hJ;subst hJ;refine Jq [0,1,5,17,18,19,35,36,37] (λs=>s 52 = .bool false) (by simp[hk,s51,s50]) ?_;intro Jv hk1 s52;simp at hk1;refine Uv s52 ?_;refine hX _ _ _ _ ?_;simp;exact hK _ _ _ (by simp[hk1,hk]) hm1 hf1 (by simpa[hk1]using B)
end
def el0:AC:=(.reg [Zz 4 3])
def el1:AC:=(.reg [Zo 11 (.bslb 3 []),Zv 5 11])
def ea:AC:=(.reg [Zv 18 0,Zv 19 6,Zx 20 3 18 19,Zf 21 0 20,Zf 22 1 21,Zl 23 false 1 22,Zv 24 1,Zx 25 1 23 24,Zl 26 false 1 25,Zk 27 .eql 26 0])
def eb:AC:=(.reg [Zv 28 5,Zv 29 0,Zv 30 6,Zx 31 3 29 30,Zl 32 true 3 31,Zo 33 (.bslb 3 [.t 32]),Zo 34 (.appb 56 3 (.t 28) (.t 33)),Zv 5 34])
def el2:AC:=(Zq [Zi 6 0] (.blk 0 (.loop (.seq (Zq [Zv 12 6,Zv 13 0,Zn 14 13,Zb 15 .lss 12 14] (Zw 15 0)) (.seq (.blk 1 (.seq  ea (.cond (.t 27)  eb .skip))) (.reg [Zv 16 6,Zk 17 .add 16 1,Zv 6 17]))))))
def eh:AC:=(.reg [Zv 41 8,Zv 42 0,Zn 43 42,Zb 44 .lss 41 43,Zv 45 44,Zg 46 45 true (.mv (.t 0)),Zg 47 45 true (.mv (.t 7)),Zg 48 45 true (.ixa 3 (.t 46) (.t 47)),Zg 49 45 true (.fld 0 (.t 48)),Zg 50 45 true (.fld 1 (.t 49)),Zg 51 45 true (.ld false 1 (.t 50)),Zg 52 45 true (.mv (.t 1)),Zg 53 45 true (.ixa 1 (.t 51) (.t 52)),Zg 54 45 true (.ld false 1 (.t 53)),Zg 55 45 true (.bin .gtr (.t 54) (.k (.int .i64 0))),ZQ 56 45 55])
def ec:AC:=(.reg [Zv 59 0,Zv 60 8,Zx 61 3 59 60,Zf 62 0 61,Zf 63 1 62,Zl 64 false 1 63,Zv 65 1,Zx 66 1 64 65,Zl 67 false 1 66,Zk 68 .geq 67 0])
def ed:AC:=(.draw (.op (Zv 70 0) (.op (Zv 71 7) (.op (Zx 72 3 70 71) (.op (Zl 73 true 3 72) (.op (Zv 74 0) (.op (Zv 75 8) (.op (Zx 76 3 74 75) (.op (Zl 77 true 3 76) (.op (Zv 78 1) (.both (.op (Zc 79 304 [.t 73,.t 77,.t 78]) (.op (Zv 69 79) (.op (Ze 80 69 0) (.op (Ze 81 69 1) (.op (Zo 9 (.box [(.int .i64 0),(.nil 1),(.nil 1)])) (.hop (Zs 3 9 80) [] (.op (Zv 10 81) .fin))))))) (.op (Zo 9 (.box [(.int .i64 0),(.nil 1),(.nil 1)])) (.op (Zc 79 304 [.t 73,.t 77,.t 78]) (.op (Zv 69 79) (.op (Ze 80 69 0) (.op (Ze 81 69 1) (.hop (Zs 3 9 80) [] (.op (Zv 10 81) .fin))))))))))))))))))
def ee:AC:=(.reg [Zv 83 5,Zl 84 true 3 9,Zo 85 (.bslb 3 [.t 84]),Zo 86 (.appb 56 3 (.t 83) (.t 85)),Zv 5 86])
def ein:AC:=(.blk 4 (.loop (.seq (.seq  eh (Zw 56 4)) (.seq (.blk 5 (.seq (.seq  ec (.cond (.t 68) (.exit 5) .skip)) (.seq ed (Zq [Zv 82 10] (.cond (.t 82)  ee .skip))))) (.reg [Zv 57 8,Zk 58 .add 57 1,Zv 8 58])))))
def el3:AC:=(Zq [Zi 7 0] (.blk 2 (.loop (.seq (Zq [Zv 35 7,Zv 36 0,Zn 37 36,Zb 38 .lss 35 37] (Zw 38 2)) (.seq (.blk 3 (Zq [Zi 8 0] ein)) (.reg [Zv 39 7,Zk 40 .add 39 1,Zv 7 40]))))))
def el4:AC:=(.reg [Zv 87 5,Zv 4 87])
def K5k:Jl:=⟨88,[.t 4],(.seq el0 (.seq el1 (.seq el2 (.seq el3 (.seq el4 .ret)))))⟩
theorem Jsc:Gd true prog f259=some K5k:=by kernel_rfl
section
variable {ks:List Kt}{s:Jm}{h h':J8}{n:Nat}{Q:Xb}
theorem Jyb{ds:List Ke}{vl:AV}{N m v i lo:Nat}(L:K7 Xa 3 lo ds vl h n)(hg:∀d∈ds,GD N m d)(hv:v<N)(hi:i<ds.length)(s0:s 0=vl)(s1:s 1 = .int .i64 v)(s6:s 6 = .int .i64 i)
 (hK:∀s',(∀j∈[0,1,5,6],s' j=s j)->s' 27 = .bool (Kf v ds[i]==0)->Jt prog ks .normal s' h n Q):rC prog ea ks s h n Q:=by
 have g:=hg _ (getElem_mem hi);have hvl:v<ds[i].l.Coeffs.length:=by rw[g.cl];exact hv
 have hc:ds[i].l.Coeffs[v]=Kf v ds[i]:=by simp[Kf,hvl]
 simp[ea,s0,s6];refine Dx L hi ?_;intro id rows r hid e hl hr hD;obtain⟨v1,v2,rfl,g1,g2⟩:=hD;simp[e,hl,hr,s1];refine F4 g1 hvl ?_;intro w1 hw1;simp;refine hw1 _ ?_;rw[hc];simp;refine hK _ (by simp) (by simp[BEq.beq])
theorem Jxg{ds acc:List Ke}{vl v:AV}{i lo lo2:Nat}(L:K7 Xa 3 lo ds vl h n)(hi:i<ds.length)(s0:s 0=vl)(s6:s 6 = .int .i64 i)(s5:s 5=v)(B:K7 Xa 3 lo2 acc v h n)(hlo:lo2<=n)(hl:acc.length<=4000)
 (hK:∀s' h' n',(∀j∈[0,1,6],s' j=s j)->n<=n'->Ko h h' n->(∀id,id<n->(∀k,v ≠ .ref id 0 k)->h' id=h id)->K7 Xa 3 lo2 (acc++[ds[i]]) (s' 5) h' n'->Jt prog ks .normal s' h' n' Q):rC prog eb ks s h n Q:=by
 have fr:∀j,j<n->¬j=n:=by intro j _;omega
 simp[-Kb,eb,s0,s5,s6];refine Dx L hi ?_;intro id rows r hid e hlr hr hD;have hD':=hD;obtain⟨v1,v2,rfl,g1,g2⟩:=hD;have c1:=g1.cell;have c2:=g2.cell;have kp:Ko h (upd h n (some ⟨true,3,[[.int .i64 ds[i].l.Const,v1,v2]]⟩)) n:=Ko.of λj hj=>by simp[fr j hj]
 have B':=K7.keep (R:=Xa) (h':=upd h n (some ⟨true,3,[[.int .i64 ds[i].l.Const,v1,v2]]⟩)) (n':=n+1) (λ_ _ _ _ _ _=>Xa.keep) B (Nat.le_succ n) kp λid rows _ hid _ e=>by simp[fr id hid,e]
 simp[-Kb,e,hlr,hr,c1,c2];simp[Kb];refine Fp (R:=Xa) (λ_ _ _ _ _ _=>Xa.keep) B' (r:=[.int .i64 ds[i].l.Const,v1,v2]) (d:=ds[i]) (by simp[Is]) (hD'.keep (Nat.le_succ n) kp) (by omega) (by unfold Jd;omega) ?_;intro h' k1 k2 k3;simp;exact hK _ _ _ (by simp) (by omega) (kp.trans k1 (Nat.le_succ n)) (λid hid hv=>by rw[k2 id (by omega) hv];simp[fr id hid]) (by simpa using k3)
theorem Jxk{acc:List Ke}{d:Ke}{r:List AV}{v:AV}{q lo:Nat}(s9:s 9 = .ptr q 0 0)(s5:s 5=v)(eb:h q=some ⟨true,3,[r]⟩)(hqn:q<n)(hr:Xa d r h n)(B:K7 Xa 3 lo acc v h n)(hlo:lo<=n)(hl:acc.length<=4000)
 (hK:∀s' h' n',(∀j∈[0,1,7,8],s' j=s j)->n<=n'->Ko h h' n->(∀id,id<n->(∀k,v ≠ .ref id 0 k)->h' id=h id)->K7 Xa 3 lo (acc++[d]) (s' 5) h' n'->Jt prog ks .normal s' h' n' Q):rC prog ee ks s h n Q:=by
 have hR':=hr;obtain⟨v1,v2,rfl,g1,g2⟩:=hr;have c1:=g1.cell;have c2:=g2.cell;have fr:∀j,j<n->¬j=n:=by intro j _;omega
 have kp:Ko h (upd h n (some ⟨true,3,[[.int .i64 d.l.Const,v1,v2]]⟩)) n:=Ko.of λj hj=>by simp[fr j hj]
 have B':=K7.keep (R:=Xa) (h':=upd h n (some ⟨true,3,[[.int .i64 d.l.Const,v1,v2]]⟩)) (n':=n+1) (λ_ _ _ _ _ _=>Xa.keep) B (Nat.le_succ n) kp λid rows _ hid _ e=>by simp[fr id hid,e]
 simp[-Kb,ee,s9,s5,eb,c1,c2];simp[Kb];refine Fp (R:=Xa) (λ_ _ _ _ _ _=>Xa.keep) B' (r:=[.int .i64 d.l.Const,v1,v2]) (d:=d) (by simp[Is]) (hR'.keep (Nat.le_succ n) kp) (by omega) (by unfold Jd;omega) ?_;intro h' k1 k2 k3;simp;exact hK _ _ _ (by simp) (by omega) (kp.trans k1 (Nat.le_succ n)) (λid hid hv=>by rw[k2 id (by omega) hv];simp[fr id hid]) (by simpa using k3)
theorem Jtk{ds:List Ke}{vl:AV}{N m v n0:Nat}{h0:J8}(hg:∀d∈ds,GD N m d)(hv:v<N)(hd:ds.length<=60)(hn0:n0<=n)(hf:∀id,id<n0->h id=h0 id)(L:K7 Xa 3 0 ds vl h0 n0)(s0:s 0=vl)(s1:s 1 = .int .i64 v)(B0:K7 Xa 3 n0 [] (s 5) h n)
 (hK:∀s' h' n',(∀j∈[0,1],s' j=s j)->n<=n'->(∀id,id<n0->h' id=h0 id)->K7 Xa 3 n0 (ds.filter λd=>Kf v d==0) (s' 5) h' n'->Jt prog ks .normal s' h' n' Q):rC prog el2 ks s h n Q:=by
 have keepL:∀{h' m'},n0<=m'->(∀id,id<n0->h' id=h0 id)->K7 Xa 3 0 ds vl h' m':=λhm hh=>K7.keep (R:=Xa) (λ_ _ _ _ _ _=>Xa.keep) L hm (Ko.of hh) λid rows _ hid _ e=>by rw[hh id hid,e]
 generalize hT:(ds.filter λd=>Kf v d==0)=T at *;have hTl:T.length<=60:=by rw[<-hT];exact Nat.le_trans (List.length_filter_le _ _) hd
 simp[el2];refine Ka [0,1] 6 ds.length (λi s h m'=>n<=m'/\(∀id,id<n0->h id=h0 id)/\∃acc,K7 Xa 3 n0 acc (s 5) h m'/\acc++((ds.drop i).filter λd=>Kf v d==0)=T) (by unfold Jd;omega) (by simp) ⟨Nat.le_refl _,hf,[],by simpa using B0,by simpa using hT⟩ ?_ ?_
 ·rintro i st h1 m1 R hi hgi hk s6 hw ⟨hm1,hf1,acc,B,hJ⟩ hR hret _;simp at hk;rw[drop_eq_getElem_cons hi,List.filter_cons]at hJ;have hal:=congrArg List.length hJ;simp only[length_append]at hal;refine Jn (Jq [0,1,5,6] (λs=>s 15 = .bool true) ?_ ?_)
  ·simp[hk,s0];refine Gq (keepL (by omega) hf1) (by unfold Jd;omega) ?_;simp[hk,s6,hi]
  intro Jv hk1 s15;simp at hk1;refine U2 s15 (Jn (Xd ?_));refine Jn (Jyb (keepL (by omega) hf1) hg hv hi (by simp[hk1,hk,s0]) (by simp[hk1,hk,s1]) (by simp[hk1,s6]) ?_);intro st2 hk2 s27;simp at hk2;rw[Wd];cases hc:(Kf v ds[i]==0)
  ·rw[hc]at hJ s27;simp only[Bool.false_eq_true,if_false]at hJ;simp[s27,hk2,hk1,s6,hw];exact hR _ _ _ (by simp[hk2,hk1,hk]) (by simp) ⟨by omega,hf1,acc,by simpa[hk2,hk1]using B,hJ⟩
  ·rw[hc]at hJ s27;simp only[if_true]at hJ;simp[s27];refine Jxg (acc:=acc) (v:=st 5) (keepL (by omega) hf1) hi (by simp[hk2,hk1,hk,s0]) (by simp[hk2,hk1,s6]) (by simp[hk2,hk1]) B (by omega) (by omega) ?_;intro st4 h4 m4 hk4 hm4 kp4 hf4 B4;simp at hk4;simp[hk4,hk2,hk1,s6,hw];refine hR _ _ _ (by simp[hk4,hk2,hk1,hk]) (by simp) ⟨by omega,λid hid=>?_,acc++[ds[i]],by simpa using B4,by simpa using hJ⟩;rw[hf4 id (by omega) λk e=>?_,hf1 id hid];have:=B.from id k e;omega
 ·rintro st h1 m1 R hk s6 ⟨hm1,hf1,acc,B,hJ⟩ hret hX;simp at hk;rw[drop_eq_nil_of_le (by omega)]at hJ;simp at hJ;subst hJ;refine Jn (Jq [0,1,5] (λs=>s 15 = .bool false) ?_ ?_)
  ·simp[hk,s0];refine Gq (keepL (by omega) hf1) (by unfold Jd;omega) ?_;simp[hk,s6]
  intro Jv hk1 s15;simp at hk1;refine U1 s15 ?_;refine hX _ _ _ _ ?_;simp;exact hK _ _ _ (by simp[hk1,hk]) hm1 hf1 (by simpa[hk1]using B)
end
section
variable {ks:List Kt}{s:Jm}{h h':J8}{n:Nat}{Q:Xb}
theorem Jcv{ds:List Ke}{vl:AV}{N m v i j lo:Nat}(L:K7 Xa 3 lo ds vl h n)(hd:ds.length<=60)(hg:∀d∈ds,GD N m d)(hv:v<N)(hi:i<ds.length)(hj:j<=ds.length)(s0:s 0=vl)(s1:s 1 = .int .i64 v)(s7:s 7 = .int .i64 i)(s8:s 8 = .int .i64 j)
 (hK:∀s',(∀j∈[0,1,5,7,8],s' j=s j)->s' 56 = .bool (decide (j<ds.length)&&decide (0<Kf v ds[i]))->Jt prog ks .normal s' h n Q):rC prog eh ks s h n Q:=by
 have g:=hg _ (getElem_mem hi);have hvl:v<ds[i].l.Coeffs.length:=by rw[g.cl];exact hv
 have hc:ds[i].l.Coeffs[v]=Kf v ds[i]:=by simp[Kf,hvl]
 simp[eh,s0,s8];refine Gq L (by unfold Jd;omega) ?_;by_cases hjl:j<ds.length
 ·simp[hjl,s0,s7];refine Dx L hi ?_;intro id rows r hid e hl hr hD;obtain⟨v1,v2,rfl,g1,g2⟩:=hD;simp[e,hl,hr,s1];refine F4 g1 hvl ?_;intro w1 hw1;simp;refine hw1 _ ?_;rw[hc];simp;exact hK _ (by simp[s0,s1,s7,s8]) (by simp[hjl])
 ·simp[hjl];exact hK _ (by simp[s0,s8]) (by simp[hjl])
theorem Jxn{ds:List Ke}{vl:AV}{N m v j lo:Nat}(L:K7 Xa 3 lo ds vl h n)(hg:∀d∈ds,GD N m d)(hv:v<N)(hj:j<ds.length)(s0:s 0=vl)(s1:s 1 = .int .i64 v)(s8:s 8 = .int .i64 j)
 (hK:∀s',(∀j∈[0,1,5,7,8],s' j=s j)->s' 68 = .bool (decide (0<=Kf v ds[j]))->Jt prog ks .normal s' h n Q):rC prog ec ks s h n Q:=by
 have g:=hg _ (getElem_mem hj);have hvl:v<ds[j].l.Coeffs.length:=by rw[g.cl];exact hv
 have hc:ds[j].l.Coeffs[v]=Kf v ds[j]:=by simp[Kf,hvl]
 simp[ec,s0,s8];refine Dx L hj ?_;intro id rows r hid e hl hr hD;obtain⟨v1,v2,rfl,g1,g2⟩:=hD;simp[e,hl,hr,s1];refine F4 g1 hvl ?_;intro w1 hw1;simp;refine hw1 _ ?_;rw[hc];simp;exact hK _ (by simp[s0,s1,s8]) (by simp)
theorem Jxm{ds:List Ke}{vl:AV}{N m v i j lo:Nat}(L:K7 Xa 3 lo ds vl h n)(hg:∀d∈ds,GD N m d)(hm:m<=20)(hv:v<N)(hi:i<ds.length)(hj:j<ds.length)(hp:0<Kf v ds[i])(hq:Kf v ds[j]<0)(s0:s 0=vl)(s1:s 1 = .int .i64 v)(s7:s 7 = .int .i64 i)(s8:s 8 = .int .i64 j)
 (hK:∀s' h' n' k r,(∀j∈[0,1,5,7,8],s' j=s j)->n<=n'->(∀id,id<n->h' id=h id)->s' 10 = .bool (Gf v ds[i] ds[j]).isSome->s' 9 = .ptr k 0 0->n<=k->k<n'->h' k=some ⟨true,3,[r]⟩->(∀d,Gf v ds[i] ds[j]=some d->Xa d r h' n')->Jt prog ks .normal s' h' n' Q):rC prog ed ks s h n Q:=by
 have ga:=hg _ (getElem_mem hi);have gb:=hg _ (getElem_mem hj);have fr:∀id,id<n->¬id=n:=by intro id _;omega
 simp[ed,s0,s7];refine Dx L hi ?_;intro id rows r hid e hl hr hD;obtain⟨va,ma,rfl,A1,A2⟩:=hD;simp[e,hl,hr,s0,s8];refine Dx L hj ?_;intro id2 rows2 r2 hid2 e2 hl2 hr2 hD2;obtain⟨vb,mb,rfl,B1,B2⟩:=hD2;simp[e2,hl2,hr2,s1];constructor
 ·refine Tm (J3f ga gb hm hv hp hq A1 A2 B1 B2 ?_);intro h' n' c k1 l1 k2 l2 hn hf hr;refine⟨hf,?_⟩;have fr':∀id,id<n'->¬id=n':=by intro id _;omega
  simp;refine hK _ _ _ n' [.int .i64 c,.ref k1 0 l1,.ref k2 0 l2] (by simp[s0,s1,s7,s8]) (by omega) (λid hid=>by simp[fr' id (by omega),hf id hid]) (by simp) (by simp) (by omega) (by omega) (by simp) (λd hd=>(hr d hd).keep (by omega) (Ko.of λid hid=>by simp[fr' id hid]))
 ·have kp:Ko h (upd h n (some ⟨true,3,[[.int .i64 0,.nil 1,.nil 1]]⟩)) n:=Ko.of λid hid=>by simp[fr id hid]
  refine Tm (J3f ga gb hm hv hp hq (A1.keep (Nat.le_succ n) kp) (A2.keep (Nat.le_succ n) kp) (B1.keep (Nat.le_succ n) kp) (B2.keep (Nat.le_succ n) kp) ?_);intro h' n' c k1 l1 k2 l2 hn hf hr;refine⟨hf,?_⟩;have en:=hf n (Nat.lt_succ_self n);simp at en;have hx:∀id,id<n->h' id=h id:=λid hid=>by rw[hf id (by omega)];simp[fr id hid]
  have kp2:∀B,Ko h' (upd h' n B) n':=λB id z rows hid e=>by
   have:¬id=n:=by rintro rfl;rw[en]at e;simp at e
   simp[this,e]
  simp[en];refine hK _ _ _ n [.int .i64 c,.ref k1 0 l1,.ref k2 0 l2] (by simp[s0,s1,s7,s8]) (by omega) (λid hid=>by simp[fr id hid,hx id hid]) (by simp) (by simp) (by omega) (by omega) (by simp) (λd hd=>(hr d hd).keep (Nat.le_refl _) (kp2 _))
theorem Jpf{v:Nat}{a b:Ke}(h:Kf v b<0):Gy v a b=Gf v a b:=by unfold Gy;rw[if_neg (by omega)]
theorem Jqc{v:Nat}{a b:Ke}(h:¬Kf v b<0):Gy v a b=Option.none:=by unfold Gy;rw[if_pos (by omega)]
theorem Jrm{ds:List Ke}{vl:AV}{N m v n0 i:Nat}{h0:J8}{acc0 T:List Ke}(hg:∀d∈ds,GD N m d)(hm:m<=20)(hv:v<N)(hd:ds.length<=60)(hi:i<ds.length)(L:K7 Xa 3 0 ds vl h0 n0)(hn0:n0<=n)
 (s0:s 0=vl) (s1:s 1 = .int .i64 v) (s7:s 7 = .int .i64 i) (s8:s 8 = .int .i64 0) (hf:∀id,id<n0->h id=h0 id) (B0:K7 Xa 3 n0 acc0 (s 5) h n) (hT:acc0++O8 v ds ds[i]=T) (hTl:T.length<=4000)
 (hK:∀s' h' n',(∀j∈[0,1,7],s' j=s j)->n<=n'->(∀id,id<n0->h' id=h0 id)->K7 Xa 3 n0 T (s' 5) h' n'->Jt prog ks .normal s' h' n' Q):rC prog ein ks s h n Q:=by
 have keepL:∀{h' m'},n0<=m'->(∀id,id<n0->h' id=h0 id)->K7 Xa 3 0 ds vl h' m':=λhm hh=>K7.keep (R:=Xa) (λ_ _ _ _ _ _=>Xa.keep) L hm (Ko.of hh) λid rows _ hid _ e=>by rw[hh id hid,e]
 refine Xd ?_;rw[J8f];by_cases hp:0<Kf v ds[i]
 ·rw[Jeh (by omega)]at hT;refine Ka [0,1,7] 8 ds.length (λj s h m'=>n<=m'/\(∀id,id<n0->h id=h0 id)/\∃acc,K7 Xa 3 n0 acc (s 5) h m'/\acc++(ds.drop j).filterMap (Gy v ds[i])=T) (by unfold Jd;omega) (by simp[s8]) ⟨Nat.le_refl _,hf,acc0,B0,by simpa using hT⟩ ?_ ?_
  ·rintro j st h1 m1 R hj hgj hk s8 hw ⟨hm1,hf1,acc,B,hJ⟩ hR hret _;simp at hk;rw[drop_eq_getElem_cons hj,List.filterMap_cons]at hJ;refine Jn (Jn (Jcv (keepL (by omega) hf1) hd hg hv hi (by omega) (by simp[hk,s0]) (by simp[hk,s1]) (by simp[hk,s7]) s8 ?_));intro Jv hk1 s56;simp at hk1;rw[Wd];refine U2 (by simpa[hj,hp]using s56) (Jn (Xd (Jn (Jn (Jxn (keepL (by omega) hf1) hg hv hj (by simp[hk1,hk,s0]) (by simp[hk1,hk,s1]) (by simp[hk1,s8]) ?_)))));intro st2 hk2 s68;simp at hk2;rw[Wd];by_cases hq:Kf v ds[j]<0
   ·have hq':¬0<=Kf v ds[j]:=by omega
    rw[Jpf hq]at hJ;simp[s68,hq'];refine Jxm (keepL (by omega) hf1) hg hm hv hi hj hp hq (by simp[hk2,hk1,hk,s0]) (by simp[hk2,hk1,hk,s1]) (by simp[hk2,hk1,hk,s7]) (by simp[hk2,hk1,s8]) ?_;intro Yz h5 m5 k9 r hk5 hm5 hf5 s10 s9 hk9 hk9b e9 hr;simp at hk5;have B5:K7 Xa 3 n0 acc (st 5) h5 m5:=K7.keep (R:=Xa) (λ_ _ _ _ _ _=>Xa.keep) B hm5 (Ko.of hf5) λid rows _ hid _ e=>by rw[hf5 id hid,e]
    have hf50:∀id,id<n0->h5 id=h0 id:=λid hid=>by rw[hf5 id (by omega),hf1 id hid]
    have hal:=congrArg List.length hJ;simp only[length_append]at hal;rw[Wd]
    cases hjn:Gf v ds[i] ds[j]with
    |none=>
     rw[hjn]at s10 hJ;simp at s10 hJ;simp[s10,hk5,hk2,hk1,s8,hw]
     exact hR _ _ _ (by simp[hk5,hk2,hk1,hk]) (by simp) ⟨by omega,hf50,acc,by simpa[hk5,hk2,hk1]using B5,hJ⟩
    |some d=>
     rw[hjn]at s10 hJ;have hrd:=hr d hjn;simp at s10 hJ;simp[s10];refine Jxk (acc:=acc) (d:=d) (v:=st 5) (q:=k9) (by simp[s9]) (by simp[hk5,hk2,hk1]) e9 hk9b hrd B5 (by omega) (by omega) ?_;intro st6 h6 m6 hk6 hm6 kp6 hf6 B6;simp at hk6;simp[hk6,hk5,hk2,hk1,s8,hw];refine hR _ _ _ (by simp[hk6,hk5,hk2,hk1,hk]) (by simp) ⟨by omega,λid hid=>?_,acc++[d],by simpa using B6,by simpa using hJ⟩;rw[hf6 id (by omega) λk e=>?_,hf50 id hid];have:=B.from id k e;omega
   ·have hq':0<=Kf v ds[j]:=by omega
    rw[Jqc hq]at hJ;simp[s68,hq',hk2,hk1,s8,hw];exact hR _ _ _ (by simp[hk2,hk1,hk]) (by simp) ⟨by omega,hf1,acc,by simpa[hk2,hk1]using B,hJ⟩
  ·rintro st h1 m1 R hk s8 ⟨hm1,hf1,acc,B,hJ⟩ hret hX;simp at hk;rw[drop_eq_nil_of_le (by omega)]at hJ;simp at hJ;subst hJ;refine Jn (Jn (Jcv (keepL (by omega) hf1) hd hg hv hi (Nat.le_refl _) (by simp[hk,s0]) (by simp[hk,s1]) (by simp[hk,s7]) s8 ?_));intro Jv hk1 s56;simp at hk1;rw[Wd];refine U1 (by simpa using s56) ?_;refine hX _ _ _ _ ?_;simp;exact hK _ _ _ (by simp[hk1,hk]) hm1 hf1 (by simpa[hk1]using B)
 ·have hj0:O8 v ds ds[i]=[]:=by unfold O8;rw[if_pos (by omega)]
  rw[hj0,List.append_nil]at hT;subst hT;refine O0 (λk s' h' m'=>s'=s/\h'=h/\m'=n) 0 ⟨rfl,rfl,rfl⟩ ?_;rintro k s' h' m' ⟨rfl,rfl,rfl⟩;refine Jn (Jn (Jcv (keepL hn0 hf) hd hg hv hi (j:=0) (by omega) s0 s1 s7 (by simpa using s8) ?_));intro Jv hk1 s56;simp at hk1;rw[Wd];refine U1 (by simpa[hp]using s56) ?_;simp;exact hK _ _ _ (by simp[hk1]) (Nat.le_refl _) hf (by simpa[hk1]using B0)
end
section
variable {ks:List Kt}{s:Jm}{h h':J8}{n:Nat}{Q:Xb}
theorem Jnz{ds:List Ke}{vl:AV}{N m v n0:Nat}{h0:J8}{acc0 T:List Ke}(hg:∀d∈ds,GD N m d)(hm:m<=20)(hv:v<N)(hd:ds.length<=60)(L:K7 Xa 3 0 ds vl h0 n0)(hn0:n0<=n)
 (s0:s 0=vl) (s1:s 1 = .int .i64 v) (hf:∀id,id<n0->h id=h0 id) (B0:K7 Xa 3 n0 acc0 (s 5) h n) (hT:acc0++ds.flatMap (O8 v ds)=T) (hTl:T.length<=4000)
 (hK:∀s' h' n',n<=n'->(∀id,id<n0->h' id=h0 id)->K7 Xa 3 n0 T (s' 5) h' n'->Jt prog ks .normal s' h' n' Q):rC prog el3 ks s h n Q:=by
 have keepL:∀{h' m'},n0<=m'->(∀id,id<n0->h' id=h0 id)->K7 Xa 3 0 ds vl h' m':=λhm hh=>K7.keep (R:=Xa) (λ_ _ _ _ _ _=>Xa.keep) L hm (Ko.of hh) λid rows _ hid _ e=>by rw[hh id hid,e]
 simp[el3];refine Ka [0,1] 7 ds.length (λi s h m'=>n<=m'/\(∀id,id<n0->h id=h0 id)/\∃acc,K7 Xa 3 n0 acc (s 5) h m'/\acc++(ds.drop i).flatMap (O8 v ds)=T) (by unfold Jd;omega) (by simp) ⟨Nat.le_refl _,hf,acc0,by simpa using B0,by simpa using hT⟩ ?_ ?_
 ·rintro i st h1 m1 R hi hgi hk s7 hw ⟨hm1,hf1,acc,B,hJ⟩ hR hret _;simp at hk;rw[drop_eq_getElem_cons hi,List.flatMap_cons,<-List.append_assoc]at hJ;have hal:=congrArg List.length hJ;simp only[length_append]at hal;refine Jn (Jq [0,1,5,7] (λs=>s 38 = .bool true) ?_ ?_)
  ·simp[hk,s0];refine Gq (keepL (by omega) hf1) (by unfold Jd;omega) ?_;simp[hk,s7,hi]
  intro Jv hk1 s38;simp at hk1;refine U2 s38 (Jn (Xd ?_));simp;refine Jrm (acc0:=acc) hg hm hv hd hi L (by omega) (by simp[hk1,hk,s0]) (by simp[hk1,hk,s1]) (by simp[hk1,s7]) (by simp) hf1 (by simpa[hk1]using B) rfl (by simp;omega) ?_;intro st4 h4 m4 hk4 hm4 hf4 B4;simp at hk4;simp[hk4,hk1,s7,hw];exact hR _ _ _ (by simp[hk4,hk1,hk]) (by simp) ⟨by omega,hf4,_,by simpa using B4,hJ⟩
 ·rintro st h1 m1 R hk s7 ⟨hm1,hf1,acc,B,hJ⟩ hret hX;simp at hk;rw[drop_eq_nil_of_le (by omega)]at hJ;simp at hJ;subst hJ;refine Jn (Jq [5] (λs=>s 38 = .bool false) ?_ ?_)
  ·simp[hk,s0];refine Gq (keepL (by omega) hf1) (by unfold Jd;omega) ?_;simp[s7]
  intro Jv hk1 s38;simp at hk1;refine U1 s38 ?_;refine hX _ _ _ _ ?_;simp;exact hK _ _ _ hm1 hf1 (by simpa[hk1]using B)
end
theorem J2l{ds:List Ke}{vl:AV}{N m v:Nat}{h:J8}{n:Nat}{K:AV->J8->Nat->Prop}(hg:∀d∈ds,GD N m d)(hm:m<=20)(hv:v<N)(hd:ds.length<=60)(L:K7 Xa 3 0 ds vl h n)
 (hK:∀a h' n',n<=n'->(∀id,id<n->h' id=h id)->K7 Xa 3 n (V9 v ds) a h' n'->K a h' n'):X9 prog 259 [vl,i64 v] h n K:=by
 refine U8 func259 Jsc rfl (by simp[K5k]) ?_;simp[K5k,el0,el1];have fr:∀id,id<n->¬id=n:=by intro id _;omega
 refine Jtk (n0:=n) (h0:=h) hg hv hd (Nat.le_succ n) (λid hid=>by simp[fr id hid]) L (by simp) (by simp) (.inr ⟨n,[],Nat.le_refl n,Nat.lt_succ_self n,by simp,by simp,rfl,by simp⟩) ?_;intro s1 h1 n1 hk1 hn1 hf1 B1;simp at hk1;simp;have hl:=Po (v:=v) (l:=ds);have h60:ds.length*ds.length<=60*60:=Nat.mul_le_mul hd hd;refine Jnz (n0:=n) (h0:=h) hg hm hv hd L (by omega) (by simp[hk1]) (by simp[hk1]) hf1 B1 (show _=V9 v ds from rfl) (by omega) ?_;intro s2 h2 n2 hn2 hf2 B2;simp[el4];exact hK _ _ _ (by omega) hf2 B2
section
variable {ks:List Kt}{s:Jm}{h h':J8}{n:Nat}{Q:Xb}
theorem Jqw{ds:List Ke}{vl:AV}{N m v n0:Nat}{h0:J8}{acc0 T:List Ke}(hg:∀d∈ds,GD N m d)(hm:m<=20)(hv:v<N)(hd:ds.length<=60)(L:K7 X0 4 0 ds vl h0 n0)(hn0:n0<=n)
 (s0:s 0=vl) (s1:s 1 = .int .i64 v) (hf:∀id,id<n0->h id=h0 id) (B0:K7 X0 4 n0 acc0 (s 5) h n) (hT:acc0++ds.flatMap (O8 v ds)=T) (hTl:T.length<=4000)
 (hK:∀s' h' n',n<=n'->(∀id,id<n0->h' id=h0 id)->K7 X0 4 n0 T (s' 5) h' n'->Jt prog ks .normal s' h' n' Q):rC prog wo3 ks s h n Q:=by
 have keepL:∀{h' m'},n0<=m'->(∀id,id<n0->h' id=h0 id)->K7 X0 4 0 ds vl h' m':=λhm hh=>K7.keep (R:=X0) (λ_ _ _ _ _ _=>X0.keep) L hm (Ko.of hh) λid rows _ hid _ e=>by rw[hh id hid,e]
 simp[wo3,s0];refine Gq (keepL hn0 hf) (by unfold Jd;omega) ?_;simp;refine Ka [0,1,35,36] 37 ds.length (λi s h m'=>n<=m'/\(∀id,id<n0->h id=h0 id)/\∃acc,K7 X0 4 n0 acc (s 5) h m'/\acc++(ds.drop i).flatMap (O8 v ds)=T) (by unfold Jd;omega) (by simp) ⟨Nat.le_refl _,hf,acc0,B0,by simpa using hT⟩ ?_ ?_
 ·rintro i st h1 m1 R hi hgi hk s37 hw ⟨hm1,hf1,acc,B,hJ⟩ hR hret _;simp at hk;rw[drop_eq_getElem_cons hi,List.flatMap_cons]at hJ;have ga:=hg _ (getElem_mem hi);refine Jq [0,1,5,35,36,37] (λs=>s 38 = .bool true) (by simp[hk,s37,hi]) ?_;intro Jv hk1 s38;simp at hk1;refine W3 s38 (Jn (Xd ?_));refine Jn (Jlv (.inr (.inl ⟨rfl,rfl,rfl,rfl⟩)) (keepL (by omega) hf1) hi (by simp[hk1,hk]) (by simp[hk1,s37]) ?_);intro st2 h2 r hk2 _ hf2 s9 e9 hr;simp at hk2;rw[Wd];have B2:K7 X0 4 n0 acc (st 5) h2 (m1+1):=K7.keep (R:=X0) (λ_ _ _ _ _ _=>X0.keep) B (Nat.le_succ m1) (Ko.of hf2) λid rows _ hid _ e=>by rw[hf2 id hid,e]
  have hf20:∀id,id<n0->h2 id=h0 id:=λid hid=>by rw[hf2 id (by omega),hf1 id hid]
  refine Jn (Jlq (.inr (.inl ⟨rfl,rfl,rfl⟩)) ga hv s9 (by simp[hk2,hk1,hk,s1]) e9 hr ?_);intro Kq hk3 _ hx _;have s10:=hx rfl;simp at hk3;rw[Wd];by_cases hp:Kf v ds[i]<=0
  ·have hj:O8 v ds ds[i]=[]:=by unfold O8;rw[if_pos hp]
   rw[hj,List.nil_append]at hJ;simp[s10,hp,hk3,hk2,hk1,s37,hw];exact hR _ _ _ (by simp[hk3,hk2,hk1,hk]) (by simp) ⟨by omega,hf20,acc,by simpa[hk3,hk2,hk1]using B2,hJ⟩
  ·rw[Jeh hp,<-List.append_assoc]at hJ;have hal:=congrArg List.length hJ;simp only[length_append]at hal;simp[s10,hp,hk3,hk2,hk1,hk,s0];refine Gq (keepL (by omega) hf20) (by unfold Jd;omega) ?_;simp;refine Jnx (ds:=ds) (vl:=vl) (a:=ds[i]) (ra:=r) (k9:=m1) (acc0:=acc) (v:=v) hg ga hm hv hd hp L (by omega) (by omega) (by simp[hk3,hk2,hk1,hk,s1]) (by simp[hk3,s9]) (by simp[s10]) (by simp) (by simp) (by simp) hf20 e9 hr (by simpa[hk3,hk2,hk1]using B2) (by simpa[hk3,hk2,hk1]using B.below (Nat.le_refl m1)) rfl (by simp;omega) ?_;intro st4 h4 m4 hk4 hm4 hf4 B4;simp at hk4;simp[hk4,hk3,hk2,hk1,s37,hw];exact hR _ _ _ (by simp[hk4,hk3,hk2,hk1,hk]) (by simp) ⟨by omega,hf4,_,by simpa using B4,hJ⟩
 ·rintro st h1 m1 R hk s37 ⟨hm1,hf1,acc,B,hJ⟩ hret hX;simp at hk;rw[drop_eq_nil_of_le (by omega)]at hJ;simp at hJ;subst hJ;refine Jq [5] (λs=>s 38 = .bool false) (by simp[hk,s37]) ?_;intro Jv hk1 s38;simp at hk1;refine Uv s38 ?_;refine hX _ _ _ _ ?_;simp;exact hK _ _ _ hm1 hf1 (by simpa[hk1]using B)
end
theorem J7t{ds:List Ke}{vl:AV}{N m v:Nat}{h:J8}{n:Nat}{K:AV->J8->Nat->Prop}(hg:∀d∈ds,GD N m d)(hm:m<=20)(hv:v<N)(hd:ds.length<=60)(L:K7 X0 4 0 ds vl h n)
 (hK:∀a h' n',n<=n'->(∀id,id<n->h' id=h id)->K7 X0 4 n (V9 v ds) a h' n'->K a h' n'):X9 prog 281 [vl,i64 v] h n K:=by
 refine U8 func281 Jmn rfl (by simp[K5i]) ?_;simp[K5i,wo0,wo1];refine Jrl (n0:=n) (h0:=h) hg hv hd (Nat.le_refl n) (λ_ _=>rfl) L (by simp) (by simp) (by simp) ?_;intro s1 h1 n1 hk1 hn1 hf1 B1;simp at hk1;simp;have hl:=Po (v:=v) (l:=ds);have h60:ds.length*ds.length<=60*60:=Nat.mul_le_mul hd hd;refine Jqw (n0:=n) (h0:=h) hg hm hv hd L hn1 (by simp[hk1]) (by simp[hk1]) hf1 B1 (show _=V9 v ds from rfl) (by omega) ?_;intro s2 h2 n2 hn2 hf2 B2;simp[wo4];exact hK _ _ _ (by omega) hf2 B2
def fk0:AC:=(.reg [ZB 2 0,ZB 3 1,ZR 4,Zt 5 false])
def fk1:AC:=(Zq [Zl 16 true 2 2,Zc 17 277 [.t 16],ZN 18 17,Zv 19 18,Zg 20 19 false (.ld true 2 (.t 3)),Zg 21 19 false (.fld 0 (.t 2)),Zg 22 19 false (.ld false 1 (.t 21)),Zg 23 19 false (.call (.k (.fn (.func 146) [] [])) [.t 20,.t 22]),Zg 24 19 false (.un .not (.t 23)),ZP 25 19 24] (.cond (.t 25) (Zq [Zo 26 (.build [(.int .i64 0),(.nil 1)] []),Zs 2 4 26,Zt 5 false] .ret) .skip))
def fk2:AC:=(.draw (.op (Zf 28 0 2) (.op (Zl 29 false 1 28) (.op (Zl 31 true 2 3) (.both (.op (Zc 30 178 [(.k (.int .i64 (-1))),.t 29]) (.both (.op (Zc 32 193 [.t 30,(.k (.int .i64 (-1))),.t 31]) (.op (Zv 27 32) (.op (Ze 33 27 0) (.op (Ze 34 27 1) (.op (ZR 6) (.hop (Zs 2 6 33) [] (.op (Zv 7 34) .fin))))))) (.op (ZR 6) (.op (Zc 32 193 [.t 30,(.k (.int .i64 (-1))),.t 31]) (.op (Zv 27 32) (.op (Ze 33 27 0) (.op (Ze 34 27 1) (.hop (Zs 2 6 33) [] (.op (Zv 7 34) .fin))))))))) (.op (ZR 6) (.op (Zc 30 178 [(.k (.int .i64 (-1))),.t 29]) (.op (Zc 32 193 [.t 30,(.k (.int .i64 (-1))),.t 31]) (.op (Zv 27 32) (.op (Ze 33 27 0) (.op (Ze 34 27 1) (.hop (Zs 2 6 33) [] (.op (Zv 7 34) .fin)))))))))))))
def fk3:AC:=(Zq [Zv 35 7,ZN 36 35] (.cond (.t 36) (Zq [Zo 37 (.build [(.int .i64 0),(.nil 1)] []),Zs 2 4 37,Zt 5 false] .ret) .skip))
def fk4:AC:=(.reg [Zz 8 4])
def fa:AC:=(.reg [Zv 43 41,Zx 44 2 39 41,Zl 45 true 2 44,ZR 10,Zv 9 43,Zs 2 10 45])
def fb:AC:=(.reg [Zf 46 1 2,Zl 47 false 1 46,Zn 48 47,Zo 49 (.mks 8 [(.int .i64 0)] (.t 48) (.t 48)),Zv 11 49])
def fc:AC:=(.reg [Zv 50 11,Zv 51 9,Zx 52 1 50 51,⟨no,.st 1 (.t 52) (.k (.int .i64 1)),no⟩])
def fd:AC:=(.reg [Zv 53 8,Zl 54 true 2 10,Zv 55 11,Zo 56 (.build [(.int .i64 0),(.nil 1),(.nil 1),(.int .i64 0)] [(0,(2,(.t 54))),(2,(1,(.t 55))),(3,(1,(.k (.int .i64 0))))]),Zo 57 (.bslb 4 [.t 56]),Zo 58 (.appb 64 4 (.t 53) (.t 57)),Zv 8 58])
def fk5:AC:=(Zq [Zf 38 1 2,Zl 39 false 1 38,Zn 40 39,Zi 41 0] (.blk 0 (.loop (Zq [Zb 42 .lss 41 40] (.seq (Zw 42 0) (.seq (.blk 1 (.seq  fa (.seq  fb (.seq  fc  fd)))) (.reg [Zk 59 .add 41 1,Zv 41 59])))))))
def fk6:AC:=(.draw (.op (Zv 60 8) (.op (Zl 61 true 2 6) (.op (Zf 62 1 2) (.op (Zl 63 false 1 62) (.op (Zn 64 63) (.op (Zo 65 (.mks 8 [(.int .i64 0)] (.t 64) (.t 64))) (.op (Zo 66 (.build [(.int .i64 0),(.nil 1),(.nil 1),(.int .i64 0)] [(0,(2,(.t 61))),(2,(1,(.t 65))),(3,(1,(.k (.int .i64 1))))])) (.hop (Zo 67 (.bslb 4 [.t 66])) [] (.hop (Zo 68 (.appb 64 4 (.t 60) (.t 67))) [] (.hop (Zv 8 68) [] .fin)))))))))))
def fk7:AC:=(Zq [Zi 12 0] (.blk 2 (.loop (.seq (Zq [Zv 69 12,Zf 70 0 2,Zl 71 false 1 70,Zb 72 .lss 69 71] (Zw 72 2)) (.seq (.blk 3 (Zq [Zv 75 8,Zv 76 12,Zc 77 281 [.t 75,.t 76],Zv 8 77] (Zq [Zv 78 8,Zn 79 78,Zk 80 .gtr 79 60] (.cond (.t 80) (Zq [Zo 81 (.build [(.int .i64 0),(.nil 1)] []),Zs 2 4 81,Zt 5 false] .ret) .skip)))) (.reg [Zv 73 12,Zk 74 .add 73 1,Zv 12 74]))))))
def ga:AC:=(.reg [Zx 86 4 82 84,Zl 87 true 4 86,Zo 14 (.box [(.int .i64 0),(.nil 1),(.nil 1),(.int .i64 0)]),Zs 4 14 87])
def gb:AC:=(Zq [Zf 92 3 14,Zl 93 false 1 92,Zf 94 2 14,Zl 95 false 1 94,Zo 96 (.build [(.int .i64 0),(.nil 1)] [(0,(1,(.t 93))),(1,(1,(.t 95)))]),ZR 15,Zs 2 15 96] (.seq (Zq [Zl 97 true 2 2,Zl 98 true 2 3,Zl 99 true 2 15,Zc 100 196 [.t 97,.t 98,.t 99],ZN 101 100] (.cond (.t 101) (Zq [Zo 102 (.build [(.int .i64 0),(.nil 1)] []),Zs 2 4 102,Zt 5 false] .ret) .skip)) (Zq [Zl 103 true 2 15,Zs 2 4 103,Zt 5 true] .ret)))
def fk8:AC:=(Zq [Zv 82 8,Zn 83 82,Zi 84 0] (.blk 4 (.loop (Zq [Zb 85 .lss 84 83] (.seq (Zw 85 4) (.seq (.blk 5 (.seq  ga (Zq [Zf 88 0 14,Zf 89 0 88,Zl 90 false 1 89,Zk 91 .lss 90 0] (.cond (.t 91) gb .skip)))) (.reg [Zk 104 .add 84 1,Zv 84 104])))))))
def fk9:AC:=(.reg [Zo 105 (.build [(.int .i64 0),(.nil 1)] []),Zs 2 4 105,Zt 5 false])
def K7c:Jl:=⟨106,[(.c 4 true 2),.t 5],(.seq fk0 (.seq fk1 (.seq fk2 (.seq fk3 (.seq fk4 (.seq fk5 (.seq fk6 (.seq fk7 (.seq fk8 (.seq fk9 .ret))))))))))⟩
theorem Jr7:Gd true prog f210=some K7c:=by kernel_rfl
theorem Ri{x:Xx}{t:Jc}(h:(Q3 x&&K8 t x.N)=false):Oi x t=Option.none:=by unfold Oi;rw[h];rfl
theorem Jdl{x:Xx}{t:Jc}(h:K9 (Jr (-1) x.N) (-1) t=Option.none):Oi x t=Option.none:=by unfold Oi;rw[h];split <;>rfl
theorem Jdy{x:Xx}{t last:Jc}(h0:(Q3 x&&K8 t x.N)=true)(h:K9 (Jr (-1) x.N) (-1) t=some last):Oi x t=(Q4 0 x.N.toNat (Hr x.Rows last)).bind (Q1 x t):=by unfold Oi;rw[h0,h];simp only[if_true];cases Q4 0 x.N.toNat (Hr x.Rows last) <;>rfl
theorem J77{m k:Nat} : (List.replicate m [i64 0]).set k [i64 1]=Ji (Qg m k):=by unfold Qg Ji;rw[List.map_set,List.map_replicate]
theorem Jft{m:Nat} : List.replicate m [i64 0]=Ji (List.replicate m 0):=by unfold Ji;rw[List.map_replicate]
section
variable {ks:List Kt}{s:Jm}{h h':J8}{n:Nat}{Q:Xb}
theorem Jnp{x:Xx}{t:Jc}(s2:s 2 = .ptr 0 0 0)(s3:s 3 = .ptr 1 0 0)(e0:h 0=some ⟨true,2,[Ky x]⟩)(e1:h 1=some ⟨true,2,[Jb t]⟩)
 (hK:∀s' h' n' k q,(∀i∈[2,3,4],s' i=s i)->n<=n'->(∀id,id<n->h' id=h id)->s' 7 = .bool (K9 (Jr (-1) x.N) (-1) t).isSome->s' 6 = .ptr k 0 0->Bg ((K9 (Jr (-1) x.N) (-1) t).getD Jj) k q h' n n'->Jt prog ks .normal s' h' n' Q):rC prog fk2 ks s h n Q:=by
 have fr:∀id,id<n->¬id=n/\¬id=n+1/\¬id=n+2/\¬id=n+1+1:=by intro id _;omega
 have ne:¬n=n+1/\¬n+1=n/\¬n=n+1+1/\¬n+1+1=n/\¬n+1=n+1+1/\¬n+1+1=n+1:=by omega
 simp[fk2,s2,s3,e0,e1,Ky,Jb];refine⟨?_,?_⟩
 ·skip;refine Jx (On (-1) x.N) (by simp) ?_;rintro r rfl;simp[Ja];refine⟨?_,?_⟩
  ·skip;refine Jx (If (Jr (-1) x.N) (-1) t) (by simp[Jb]) ?_;rintro r rfl;rw[Xm];generalize K9 (Jr (-1) x.N) (-1) t=T at *;simp[Ja];exact hK _ _ _ (n+1+1) (n+1) (by simp) (by omega) (λid hid=>by simp[fr id hid]) (by simp) (by simp) ⟨by omega,by omega,by omega,by omega,by omega,by simp,by simp⟩
  ·skip;refine Jx (If (Jr (-1) x.N) (-1) t) (by simp[Jb]) ?_;rintro r rfl;rw[Xm];generalize K9 (Jr (-1) x.N) (-1) t=T at *;simp[Ja];exact hK _ _ _ (n+1) (n+1+1) (by simp) (by omega) (λid hid=>by simp[fr id hid]) (by simp) (by simp) ⟨by omega,by omega,by omega,by omega,by omega,by simp,by simp⟩
 ·skip;refine Jx (On (-1) x.N) (by simp) ?_;rintro r rfl;simp[Ja];refine Jx (If (Jr (-1) x.N) (-1) t) (by simp[Jb]) ?_;rintro r rfl;rw[Xm];generalize K9 (Jr (-1) x.N) (-1) t=T at *;simp[Ja,ne];exact hK _ _ _ n (n+1+1) (by simp) (by omega) (λid hid=>by simp[fr id hid]) (by simp) (by simp) ⟨by omega,by omega,by omega,by omega,by omega,by simp,by simp[ne]⟩
theorem Jgy{x:Xx}{acc:List Ke}{i lo:Nat}(hi:i<x.Rows.length)(hm:x.Rows.length<=20)(s2:s 2 = .ptr 0 0 0)(s39:s 39 = .sl 2 (x.Rows.map Jb))(s41:s 41 = .int .i64 i)(e0:h 0=some ⟨true,2,[Ky x]⟩)(h0:0<n)(hlo:lo<=n)(B:K7 X0 4 lo acc (s 8) h n)(hl:acc.length<=4000)
 (hK:∀s' h' n',(∀j∈[2,3,4,6,39,40,41],s' j=s j)->n<=n'->Ko h h' n->(∀id,id<n->(∀k,s 8 ≠ .ref id 0 k)->h' id=h id)->K7 X0 4 lo (acc++[⟨x.Rows[i],Qg x.Rows.length i,0⟩]) (s' 8) h' n'->Jt prog ks .normal s' h' n' Q):rC prog (.seq fa (.seq fb (.seq fc fd))) ks s h n Q:=by
 have ne:¬n=n+1/\¬n+1=n/\¬n=n+1+1/\¬n+1+1=n/\¬n+1=n+1+1/\¬n+1+1=n+1/\¬0=n/\¬0=n+1:=by omega
 have fr:∀id,id<n->¬id=n/\¬id=n+1/\¬id=n+1+1:=by intro id _;omega
 have hlim:(x.Rows.length:Int)*8<=Jd:=by unfold Jd;omega
 simp[fa,fb,fc,s2,s39,s41,e0,hi,ne,Ky,Jb];intro _;refine⟨by unfold Jd at *;omega,?_⟩;have hu:=J77 (m:=x.Rows.length) (k:=i);simp only[i64]at hu;rw[hu];have kp:Ko h (upd (upd h n (some ⟨true,2,[[.int .i64 x.Rows[i].Const,.sl 1 (Ji x.Rows[i].Coeffs)]]⟩)) (n+1) (some ⟨false,1,Ji (Qg x.Rows.length i)⟩)) n:=Ko.of λid hid=>by simp[fr id hid]
 have hul:(Qg x.Rows.length i).length=x.Rows.length:=by simp[Qg]
 simp[fd];have kp2:Ko h (upd (upd (upd h n (some ⟨true,2,[[.int .i64 x.Rows[i].Const,.sl 1 (Ji x.Rows[i].Coeffs)]]⟩)) (n+1) (some ⟨false,1,Ji (Qg x.Rows.length i)⟩)) (n+1+1) (some ⟨true,4,[[.int .i64 x.Rows[i].Const,.sl 1 (Ji x.Rows[i].Coeffs),.ref (n+1) 0 x.Rows.length,.int .i64 0]]⟩)) n:=Ko.of λid hid=>by simp[fr id hid]
 have B':=K7.keep (R:=X0) (n':=n+1+1+1) (λ_ _ _ _ _ _=>X0.keep) B (by omega) kp2 λid rows _ hid _ e=>by simp[fr id hid,e]
 refine Fp (R:=X0) (λ_ _ _ _ _ _=>X0.keep) B' (r:=[.int .i64 x.Rows[i].Const,.sl 1 (Ji x.Rows[i].Coeffs),.ref (n+1) 0 x.Rows.length,.int .i64 0]) (d:=⟨x.Rows[i],Qg x.Rows.length i,0⟩) (by simp[Is]) ⟨_,_,rfl,.inl rfl,.inr ⟨n+1,by omega,by rw[hul],by simp⟩⟩ (by omega) (by unfold Jd;omega) ?_;intro h' k1 k2 k3;simp;refine hK _ _ _ (by simp) (by omega) (kp2.trans k1 (by omega)) (λid hid hv=>by rw[k2 id (by omega) hv];simp[fr id hid]) (by simpa using k3)
def Ww(rows:List Jc):List Ke:=(List.range rows.length).map λk=>(⟨rows.getD k Jj,Qg rows.length k,0⟩:Ke)
theorem Jar{rows:List Jc}{i:Nat}(hi:i<rows.length):(Ww rows).take (i+1)=(Ww rows).take i++[⟨rows[i],Qg rows.length i,0⟩]:=by
 have hl:i<(Ww rows).length:=by simpa[Ww]using hi
 rw[List.take_succ_eq_append_getElem hl];congr 2;simp[Ww,hi]
theorem Jtd{x:Xx}{n0:Nat}{h0:J8}(hm:x.Rows.length<=20)(s2:s 2 = .ptr 0 0 0)(s8:s 8 = .nil 4)(e0:h0 0=some ⟨true,2,[Ky x]⟩)(hn0:0<n0)(hn:n0<=n)(hf:∀id,id<n0->h id=h0 id)
 (hK:∀s' h' n',(∀j∈[2,3,4,6],s' j=s j)->n0<=n'->(∀id,id<n0->h' id=h0 id)->K7 X0 4 n0 (Ww x.Rows) (s' 8) h' n'->Jt prog ks .normal s' h' n' Q):rC prog fk5 ks s h n Q:=by
 have e0':h 0=some ⟨true,2,[[.int .i64 x.N,.sl 2 (x.Rows.map Jb)]]⟩:=by rw[hf 0 hn0,e0];rfl
 simp[fk5,s2,e0'];intro _;refine Ka [2,3,4,6,39,40] 41 x.Rows.length (λi s h m=>n0<=m/\(∀id,id<n0->h id=h0 id)/\K7 X0 4 n0 ((Ww x.Rows).take i) (s 8) h m) (by unfold Jd;omega) (by simp) ⟨hn,hf,.inl ⟨by simp[s8],by simp⟩⟩ ?_ ?_
 ·rintro i st h1 m1 R hi hgi hk s41 hw ⟨hm1,hf1,B⟩ hR hret _;simp at hk;refine Jq [2,3,4,6,8,39,40,41] (λs=>s 42 = .bool true) (by simp[hk,s41,hi]) ?_;intro Jv hk1 s42;simp at hk1;refine W3 s42 (Jn (Xd ?_));refine Jgy (acc:=(Ww x.Rows).take i) (lo:=n0) hi hm (by simp[hk1,hk,s2]) (by simp[hk1,hk]) (by simp[hk1,s41]) (by rw[hf1 0 hn0,e0]) (by omega) hm1 (by simpa[hk1]using B) (by simp[Ww];omega) ?_;intro st2 h2 m2 hk2 hm2 kp2 hf2 B2;simp at hk2;simp[hk2,hk1,s41,hw];refine hR _ _ _ (by simp[hk2,hk1,hk]) (by simp) ⟨by omega,λid hid=>?_,?_⟩
  ·rw[hf2 id (by omega) λk e=>?_,hf1 id hid];have:=B.from id k (by simpa[hk1]using e);omega
  ·rw[Jar hi];simpa using B2
 ·rintro st h1 m1 R hk s41 ⟨hm1,hf1,B⟩ hret hX;simp at hk;have ht:(Ww x.Rows).take x.Rows.length=Ww x.Rows:=List.take_of_length_le (by simp[Ww]);rw[ht]at B;refine Jq [2,3,4,6,8] (λs=>s 42 = .bool false) (by simp[hk,s41]) ?_;intro Jv hk1 s42;simp at hk1;refine Uv s42 ?_;refine hX _ _ _ _ ?_;simp;exact hK _ _ _ (by simp[hk1,hk]) hm1 hf1 (by simpa[hk1]using B)
end
section
variable {ks:List Kt}{s:Jm}{h h':J8}{n:Nat}{Q:Xb}
theorem Jua{x:Xx}{last:Jc}{acc:List Ke}{lo k6 q6:Nat}(hm:x.Rows.length<=20)(s2:s 2 = .ptr 0 0 0)(s6:s 6 = .ptr k6 0 0)(e0:h 0=some ⟨true,2,[Ky x]⟩)(h0:0<n)(L:Bg last k6 q6 h 3 n)(hlo:lo<=n)(B:K7 X0 4 lo acc (s 8) h n)(hl:acc.length<=4000)
 (hK:∀s' h' n',(∀j∈[2,3,4],s' j=s j)->n<=n'->(∀id,id<n->(∀k,s 8 ≠ .ref id 0 k)->h' id=h id)->K7 X0 4 lo (acc++[⟨last,List.replicate x.Rows.length 0,1⟩]) (s' 8) h' n'->Jt prog ks .normal s' h' n' Q):rC prog fk6 ks s h n Q:=by
 obtain⟨q1,q2,q3,q4,q5,e6,eq⟩:=L;have ne:¬n=n+1/\¬n+1=n/\¬n=n+1+1/\¬n+1+1=n/\¬n+1=n+1+1/\¬n+1+1=n+1/\¬0=n/\¬0=n+1:=by omega
 have fr:∀id,id<n->¬id=n/\¬id=n+1/\¬id=n+1+1:=by intro id _;omega
 have hz:=Jft (m:=x.Rows.length);simp only[i64]at hz;simp[fk6,s2,s6,e0,e6,Ky];rw[hz];refine⟨by unfold Jd;omega,?_⟩;have kp2:Ko h (upd (upd h n (some ⟨false,1,Ji (List.replicate x.Rows.length 0)⟩)) (n+1) (some ⟨true,4,[[.int .i64 last.Const,.ref q6 0 last.Coeffs.length,.ref n 0 x.Rows.length,.int .i64 1]]⟩)) n:=Ko.of λid hid=>by simp[fr id hid]
 have B':=K7.keep (R:=X0) (n':=n+1+1) (λ_ _ _ _ _ _=>X0.keep) B (by omega) kp2 λid rows _ hid _ e=>by simp[fr id hid,e]
 refine Fp (R:=X0) (λ_ _ _ _ _ _=>X0.keep) B' (r:=[.int .i64 last.Const,.ref q6 0 last.Coeffs.length,.ref n 0 x.Rows.length,.int .i64 1]) (d:=⟨last,List.replicate x.Rows.length 0,1⟩) (by simp[Is]) ⟨_,_,rfl,.inr (.inr ⟨q6,by omega,rfl,by simp[fr q6 q4,eq]⟩),.inr ⟨n,by omega,by simp,by simp⟩⟩ (by omega) (by unfold Jd;omega) ?_;intro h' k1 k2 k3;simp;exact hK _ _ _ (by simp) (by omega) (λid hid hv=>by rw[k2 id (by omega) hv];simp[fr id hid]) (by simpa using k3)
theorem Jb3{v n:Nat}{l:List Ke}(h:¬(V9 v l).length<=60):Q4 v (n+1) l=Option.none:=by simp only[Q4];rw[if_neg h]
theorem Jaf{v n:Nat}{l:List Ke}(h:(V9 v l).length<=60):Q4 v (n+1) l=Q4 (v+1) n (V9 v l):=by simp only[Q4];rw[if_pos h]
theorem Jnl{x:Xx}{m n0:Nat}{h0:J8}{F:Option (List Ke)}{l0:List Ke}(hm:m<=20)(hx:0<=x.N/\x.N<=8)(s2:s 2 = .ptr 0 0 0)(s4:s 4 = .ptr 2 0 0)(e0:h0 0=some ⟨true,2,[Ky x]⟩)(e2:h0 2=some ⟨true,2,[[.int .i64 0,.nil 1]]⟩)(hn0:2<n0)(hn:n0<=n)(hf:∀id,id<n0->h id=h0 id)
 (hg0:∀d∈l0,GD x.N.toNat m d) (hl0:l0.length<=60) (B0:K7 X0 4 n0 l0 (s 8) h n) (hF:Q4 0 x.N.toNat l0=F)
 (hret:F=Option.none->∀s' h' n',s' 4 = .ptr 2 0 0->s' 5 = .bool false->h' 2=some ⟨true,2,[[.int .i64 0,.nil 1]]⟩->Jt prog ks .ret s' h' n' Q)
 (hK:∀s' h' n' L,(∀j∈[2,3,4],s' j=s j)->n0<=n'->(∀id,id<n0->h' id=h0 id)->F=some L->L.length<=60->K7 X0 4 n0 L (s' 8) h' n'->Jt prog ks .normal s' h' n' Q):rC prog fk7 ks s h n Q:=by
 have e0':∀{h':J8},(∀id,id<n0->h' id=h0 id)->h' 0=some ⟨true,2,[[.int .i64 x.N,.sl 2 (x.Rows.map Jb)]]⟩:=λhh=>by rw[hh 0 (by omega),e0];rfl
 have hN:((x.N.toNat:Nat):Int)=x.N:=by omega
 simp[fk7];refine Ka [2,3,4] 12 x.N.toNat (λi s h m'=>n0<=m'/\(∀id,id<n0->h id=h0 id)/\∃l,(∀d∈l,GD x.N.toNat m d)/\l.length<=60/\K7 X0 4 n0 l (s 8) h m'/\Q4 i (x.N.toNat - i) l=F) (by unfold Jd;omega) (by simp) ⟨hn,hf,l0,hg0,hl0,by simpa using B0,by simpa using hF⟩ ?_ ?_
 ·rintro i st h1 m1 R hi hgi hk s12 hw ⟨hm1,hf1,l,hg,hl,B,hJ⟩ hR hrt _;simp at hk;have hiN:(i:Int)<x.N:=by omega
  refine Jn (Jq [2,3,4,8,12] (λs=>s 72 = .bool true) (by simp[hk,s12,s2,e0' hf1,hiN]) ?_);intro Jv hk1 s72;simp at hk1;refine U2 s72 (Jn (Xd ?_));have hl2:=Po (v:=i) (l:=l);have h60:l.length*l.length<=60*60:=Nat.mul_le_mul hl hl;refine Xu [2,3,4,12] (λs h' m'=>m1<=m'/\(∀id,id<m1->h' id=h1 id)/\K7 X0 4 m1 (V9 i l) (s 8) h' m') ?_ ?_
  ·simp[hk1,s12];refine J7t hg hm hi hl (B.low (Nat.zero_le _)) ?_;intro a h' n' g1 g2 g3;simp;exact⟨g1,g2,g3⟩
  rintro st2 h2 m2 hk2 ⟨hm2,hf2,B2⟩;simp at hk2;have hf20:∀id,id<n0->h2 id=h0 id:=λid hid=>by rw[hf2 id (by omega),hf1 id hid]
  have hs:x.N.toNat - i=(x.N.toNat - (i+1))+1:=by omega
  rw[hs]at hJ;refine Jq [2,3,4,8,12] (λs=>s 80 = .bool (decide (60<(V9 i l).length))) ?_ ?_
  ·simp;refine Gq B2 (by unfold Jd;omega) ?_;simp;omega
  intro Kq hk3 s80;simp at hk3;by_cases h6:(V9 i l).length<=60
  ·rw[Jaf h6]at hJ;have h6':¬60<(V9 i l).length:=by omega
   simp[s80,h6',hk3,hk2,hk1,s12,hw];exact hR _ _ _ (by simp[hk3,hk2,hk1,hk]) (by simp) ⟨by omega,hf20,_,J5f hg,h6,by simpa[hk3]using B2.low hm1,hJ⟩
  ·rw[Jb3 h6]at hJ;have h6':60<(V9 i l).length:=by omega
   have x4:h2 2=some ⟨true,2,[[.int .i64 0,.nil 1]]⟩:=by rw[hf20 2 hn0,e2]
   simp[s80,h6',hk3,hk2,hk1,hk,s4,x4];refine hrt _ _ _ (hret hJ.symm _ _ _ (by simp[hk3,hk2,hk1,hk,s4]) (by simp) (by simp))
 ·rintro st h1 m1 R hk s12 ⟨hm1,hf1,l,hg,hl,B,hJ⟩ hrt hX;simp at hk;rw[Nat.sub_self]at hJ;simp only[Q4]at hJ;have hiN:¬((x.N.toNat:Nat):Int)<x.N:=by omega
  refine Jn (Jq [2,3,4,8] (λs=>s 72 = .bool false) (by simp[hk,s12,s2,e0' hf1];omega) ?_);intro Jv hk1 s72;simp at hk1;refine U1 s72 ?_;refine hX _ _ _ _ ?_;simp;exact hK _ _ _ l (by simp[hk1,hk]) hm1 hf1 hJ.symm hl (by simpa[hk1]using B)
end
section
variable {ks:List Kt}{s:Jm}{h h':J8}{n:Nat}{Q:Xb}
def Dn(o:Option Y7)(s:Jm)(h:J8)(n:Nat):Prop:=s 4 = .ptr 2 0 0/\s 5 = .bool o.isSome/\∃vm,h 2=some ⟨true,2,[[.int .i64 (o.getD Gk).Scale,vm]]⟩/\Ve (o.getD Gk).Mult vm h n
theorem Dn.fin {o:Option Y7}(x:Dn o s h n):Cv [.c 4 true 2,.t 5] (λr=>r=Iy o) .ret s h n:=by
 obtain⟨s4,s5,vm,e,hv⟩:=x;rcases hv with ⟨rfl,hz⟩|⟨id,_,rfl,ei⟩
 ·simp[s4,s5,e,Iy,Ye,hz,Ji]
 ·simp[s4,s5,e,ei,Iy,Ye]
theorem Dn.no (s4:s 4 = .ptr 2 0 0) (s5:s 5 = .bool false) (e:h 2=some ⟨true,2,[[.int .i64 0,.nil 1]]⟩):Dn Option.none s h n:=⟨s4,s5,.nil 1,e,.inl ⟨rfl,rfl⟩⟩
theorem Jn5{x:Xx}{t:Jc}{L:List Ke}{n0:Nat}(hL:L.length<=60)(hn0:2<n0)(hn:n0<=n)(s2:s 2 = .ptr 0 0 0)(s3:s 3 = .ptr 1 0 0)(s4:s 4 = .ptr 2 0 0)(e0:h 0=some ⟨true,2,[Ky x]⟩)(e1:h 1=some ⟨true,2,[Jb t]⟩)(e2:h 2=some ⟨true,2,[[.int .i64 0,.nil 1]]⟩)(B0:K7 X0 4 n0 L (s 8) h n)
 (hret:∀s' h' n',Dn (Q1 x t L) s' h' n'->Jt prog ks .ret s' h' n' Q)
 (hK:∀s' h' n',Q1 x t L=Option.none->s' 4 = .ptr 2 0 0->h' 2=some ⟨true,2,[[.int .i64 0,.nil 1]]⟩->Jt prog ks .normal s' h' n' Q):rC prog fk8 ks s h n Q:=by
 simp[fk8];refine Gq B0 (by unfold Jd;omega) ?_;simp;refine Ka [2,3,4,82,83] 84 L.length (λi s h' m=>n<=m/\(∀id,id<n->h' id=h id)/\Q1 x t (L.drop i)=Q1 x t L) (by unfold Jd;omega) (by simp) ⟨Nat.le_refl _,λ_ _=>rfl,by simp⟩ ?_ ?_
 ·rintro i st h1 m1 R hi hgi hk s84 hw ⟨hm1,hf1,hJ⟩ hR hrt _;simp at hk;rw[drop_eq_getElem_cons hi]at hJ
  have B1:K7 X0 4 n0 L (st 82) h1 m1:=by rw[hk.2.2.2.1];exact K7.keep (R:=X0) (λ_ _ _ _ _ _=>X0.keep) B0 hm1 (Ko.of hf1) λid rows _ hid _ e=>by rw[hf1 id hid,e]
  refine Jq [2,3,4,82,83,84] (λs=>s 85 = .bool true) (by simp[hk,s84,hi]) ?_;intro Jv hk1 s85;simp at hk1;refine W3 s85 (Jn (Xd ?_));have fr:∀id,id<m1->¬id=m1:=by intro id _;omega
  refine Xu [2,3,4,82,83,84] (λs h' m'=>m'=m1+1/\s 14 = .ptr m1 0 0/\(∀id,id<m1->h' id=h1 id)/\∃r,h' m1=some ⟨true,4,[r]⟩/\X0 L[i] r h' (m1+1)) ?_ ?_
  ·simp[-Kb,ga,hk1,s84];refine Dx B1 hi ?_;intro id rows r hid e hl hr hD;have hne:¬id=m1:=by omega
   have hD':=hD;obtain⟨v1,v2,rfl,g1,g2⟩:=hD;have c1:=g1.cell;have c2:=g2.cell;simp[-Kb,e,hl,hr,c1,c2];simp[Kb];exact⟨λid hid=>by simp[fr id hid],hD'.keep (Nat.le_succ m1) (Ko.of λid hid=>by simp[fr id hid])⟩
  rintro st2 h2 m2 hk2 ⟨rfl,s14,hf2,r,e14,hD⟩;simp at hk2;have hf20:∀id,id<n->h2 id=h id:=λid hid=>by rw[hf2 id (by omega),hf1 id hid]
  have e0':h2 0=some ⟨true,2,[Ky x]⟩:=by rw[hf20 0 (by omega),e0]
  have e1':h2 1=some ⟨true,2,[Jb t]⟩:=by rw[hf20 1 (by omega),e1]
  have e2':h2 2=some ⟨true,2,[[.int .i64 0,.nil 1]]⟩:=by rw[hf20 2 (by omega),e2]
  obtain⟨v1,vm,rfl,g1,g2⟩:=hD;have c2:=g2.cell;have n2:¬2=m1+1/\¬1=m1+1/\¬0=m1+1/\¬m1=0:=by omega
  by_cases hc:(L[i]).l.Const<0
  ·have hfind:Q1 x t (L[i]::L.drop (i+1))=if I6 x t ⟨L[i].scale,L[i].mult⟩then some ⟨L[i].scale,L[i].mult⟩else Option.none:=by
    unfold Q1;rw[List.find?_cons,decide_eq_true hc]
   rw[hfind]at hJ;have g2':Ve L[i].mult vm (upd h2 (m1+1) (some ⟨true,2,[[.int .i64 L[i].scale,vm]]⟩)) (m1+1+1):=g2.keep (Nat.le_succ _) (Ko.of λid hid=>by rw[Yk];omega)
   have hcall:∀{K:AV->J8->Nat->Prop},K (.bool (I6 x t ⟨L[i].scale,L[i].mult⟩)) (upd h2 (m1+1) (some ⟨true,2,[[.int .i64 L[i].scale,vm]]⟩)) (m1+1+1)->X9 prog 196 [.agg (Ky x),.agg (Jb t),.agg [.int .i64 L[i].scale,vm]] (upd h2 (m1+1) (some ⟨true,2,[[.int .i64 L[i].scale,vm]]⟩)) (m1+1+1) K:=by
    intro K hk;have hb:=g2'.bw;refine Je (J04 x t ⟨L[i].scale,L[i].mult⟩) ?_ ?_
    ·simp only[U5,bw];rw[hb];simp[Ky,Jb,Uu]
    ·rintro r rfl;simpa using hk
   have fin:∀{st':Jm}{h':J8}{m':Nat},st' 4 = .ptr 2 0 0->st' 5 = .bool (I6 x t ⟨L[i].scale,L[i].mult⟩)->(I6 x t ⟨L[i].scale,L[i].mult⟩=true->Ve L[i].mult vm h' m'/\h' 2=some ⟨true,2,[[.int .i64 L[i].scale,vm]]⟩)->(I6 x t ⟨L[i].scale,L[i].mult⟩=false->h' 2=some ⟨true,2,[[.int .i64 0,.nil 1]]⟩)->R .ret st' h' m':=by
    intro st' h' m' x4 x5 y1 y2;refine hrt _ _ _ (hret _ _ _ ?_);rw[<-hJ];cases hch:I6 x t ⟨L[i].scale,L[i].mult⟩
    ·rw[hch]at x5;exact Dn.no x4 x5 (y2 hch)
    ·rw[hch]at x5;exact⟨x4,x5,vm,(y1 hch).2,(y1 hch).1⟩
   have kp2:∀B,Ko (upd h2 (m1+1) (some ⟨true,2,[[.int .i64 L[i].scale,vm]]⟩)) (upd (upd h2 (m1+1) (some ⟨true,2,[[.int .i64 L[i].scale,vm]]⟩)) 2 B) (m1+1+1):=λB id z rows hid e=>by
    have:¬id=2:=by rintro rfl;simp[n2,e2']at e
    rw[Yk _ _ _ _ this];exact e
   have hcase:vm = .nil 1\/∃id l,vm = .ref id 0 l:=by
    rcases g2 with ⟨rfl,_⟩|⟨id,_,rfl,_⟩
    ·exact .inl rfl
    ·exact .inr ⟨_,_,rfl⟩
   rcases hcase with rfl|⟨id',l',rfl⟩
   all_goals
    simp[gb,s14,e14,hc,hk2,hk1,hk,s2,s3,e0',e1',n2,Ky,Jb];refine hcall ?_;cases hch:I6 x t ⟨L[i].scale,L[i].mult⟩
    ·simp[hk2,hk1,hk,s4,e2',n2];exact fin (by simp[hk2,hk1,hk,s4]) (by simp[hch]) (λe=>by rw[hch]at e;cases e) (λ_=>by simp)
    ·simp[hk2,hk1,hk,s4,e2',n2];exact fin (by simp[hk2,hk1,hk,s4]) (by simp[hch]) (λ_=>⟨g2'.keep (Nat.le_refl _) (kp2 _),by simp⟩) (λe=>by rw[hch]at e;cases e)
  ·have hfind:Q1 x t (L[i]::L.drop (i+1))=Q1 x t (L.drop (i+1)):=by
    unfold Q1;rw[List.find?_cons,decide_eq_false hc]
   rw[hfind]at hJ;simp[s14,e14,hc,hk2,hk1,s84,hw];exact hR _ _ _ (by simp[hk2,hk1,hk]) (by simp) ⟨by omega,hf20,hJ⟩
 ·rintro st h1 m1 R hk s84 ⟨hm1,hf1,hJ⟩ hrt hX;simp at hk;rw[drop_eq_nil_of_le (by omega)]at hJ;refine Jq [2,3,4,82,83] (λs=>s 85 = .bool false) (by simp[hk,s84]) ?_;intro Jv hk1 s85;simp at hk1;refine Uv s85 ?_;refine hX _ _ _ _ ?_;simp;exact hK _ _ _ hJ.symm (by simp[hk1,hk,s4]) (by rw[hf1 2 (by omega),e2])
end
theorem J7q(x:Xx)(t:Jc):Holds prog 210 [.agg (Ky x),.agg (Jb t)] (λr=>r=Iy (Oi x t)):=by
 refine Jp func210 Jr7 rfl (by simp[K7c]) ?_;simp[K7c,fk0,fk1];refine Je (J00 x) (by simp) ?_;rintro r rfl;generalize hF:Oi x t=F;cases h1:Q3 x
 ·have:=Ri (x:=x) (t:=t) (by rw[h1];rfl);rw[this]at hF;subst hF;simp[Iy,Gk,Ye,Ji]
 simp[Ky];refine Je (Gz t x.N) (by simp) ?_;rintro r rfl;cases h2:K8 t x.N
 ·have:=Ri (x:=x) (t:=t) (by rw[h1,h2];rfl);rw[this]at hF;subst hF;simp[Iy,Gk,Ye,Ji]
 simp;refine Jnp (x:=x) (t:=t) (by simp) (by simp) (by simp[Ky]) (by simp[Jb]) ?_;intro s1 h3 n1 k6 q6 hk1 hn1 hf1 s7 s6 L6;simp at hk1;have hf1:∀id,id<3->h3 id=_:=hf1;have z0:h3 0=some ⟨true,2,[Ky x]⟩:=by rw[hf1 0 (by omega)];simp[Ky]
 have z1:h3 1=some ⟨true,2,[Jb t]⟩:=by rw[hf1 1 (by omega)];simp[Jb]
 have z2:h3 2=some ⟨true,2,[[.int .i64 0,.nil 1]]⟩:=by rw[hf1 2 (by omega)];simp
 cases hT:K9 (Jr (-1) x.N) (-1) t with
 |none=>
  rw[Jdl hT]at hF;subst hF
  simp[fk3,s7,hT,hk1,z2,Iy,Gk,Ye,Ji]
 |some last=>
  rw[Jdy (by rw[h1,h2];rfl) hT]at hF;rw[hT]at s7 L6;simp only[Option.getD_some]at L6;have hsys:=Nb h1;simp[fk3,s7,fk4];refine Jtd (n0:=n1) (h0:=h3) hsys.1 (by simp[hk1]) (by simp) z0 (by omega) (Nat.le_refl _) (λ_ _=>rfl) ?_;intro s4 h4 n4 hk4 hn4 hf4 B4;simp at hk4;simp
  have L6':Bg last k6 q6 h4 3 n4:=by obtain⟨q1,q2,q3,q4,q5,e6,eq⟩:=L6;exact⟨q1,by omega,q3,by omega,q5,by rw[hf4 k6 q2,e6],by rw[hf4 q6 q4,eq]⟩
  refine Jua (last:=last) hsys.1 (by simp[hk4,hk1]) (by simp[hk4,s6]) (by rw[hf4 0 (by omega),z0]) (by omega) L6' hn4 B4 (by simp[Ww];omega) ?_;intro s5 h5 n5 hk5 hn5 hf5 B5;simp at hk5;simp
  have hf50:∀id,id<n1->h5 id=h3 id:=λid hid=>by rw[hf5 id (by omega) λk e=>?_,hf4 id hid];have:=B4.from id k e;omega
  rw[show Ww x.Rows++[⟨last,List.replicate x.Rows.length 0,1⟩]=Hr x.Rows last from rfl]at B5;refine Jnl (x:=x) (n0:=n1) (h0:=h3) (F:=Q4 0 x.N.toNat (Hr x.Rows last)) hsys.1 hsys.2.1 (by simp[hk5,hk4,hk1]) (by simp[hk5,hk4,hk1]) z0 z2 (by omega) (by omega) hf50 (Sy h1 hT) (by rw[J4n];omega) B5 rfl ?_ ?_
  ·intro hn s' h' n' x4 x5 x2;rw[hn]at hF;simp at hF;subst hF;simp only[T7,Sj];exact(Dn.no (n:=n') x4 x5 x2).fin
  ·intro s7' h7 n7 L hk7 hn7 hf7 hL hLl B7;rw[hL]at hF;simp only[Option.bind_some]at hF;simp at hk7;simp;refine Jn5 (x:=x) (t:=t) (n0:=n1) hLl (by omega) hn7 (by simp[hk7,hk5,hk4,hk1]) (by simp[hk7,hk5,hk4,hk1]) (by simp[hk7,hk5,hk4,hk1]) (by rw[hf7 0 (by omega),z0]) (by rw[hf7 1 (by omega),z1]) (by rw[hf7 2 (by omega),z2]) B7 ?_ ?_
   ·intro s' h' n' hr;rw[hF]at hr;simp only[T7,Sj];exact hr.fin
   ·intro s' h' n' hno x4 x2;rw[hno]at hF;subst hF;simp[fk9,x4,x2,Iy,Gk,Ye,Ji]
def sk0:AC:=(.reg [ZB 2 0,ZB 3 1,ZR 4,Zt 5 false])
def sk1:AC:=(Zq [Zl 16 true 2 2,Zc 17 258 [.t 16],ZN 18 17,Zv 19 18,Zg 20 19 false (.ld true 2 (.t 3)),Zg 21 19 false (.fld 0 (.t 2)),Zg 22 19 false (.ld false 1 (.t 21)),Zg 23 19 false (.call (.k (.fn (.func 179) [] [])) [.t 20,.t 22]),Zg 24 19 false (.un .not (.t 23)),ZP 25 19 24] (.cond (.t 25) (Zq [Zo 26 (.build [(.int .i64 0),(.nil 1)] []),Zs 2 4 26,Zt 5 false] .ret) .skip))
def sk2:AC:=(.reg [Zf 27 1 2,Zl 28 false 1 27,Zn 29 28,Zv 6 29])
def sk3:AC:=(.reg [Zo 30 (.bslb 3 []),Zv 7 30])
def ska:AC:=(.reg [Zv 36 6,Zk 37 .add 36 1,Zo 38 (.mks 8 [(.int .i64 0)] (.t 37) (.t 37)),Zv 9 38])
def skb:AC:=(.reg [Zv 39 9,Zv 40 8,Zx 41 1 39 40,⟨no,.st 1 (.t 41) (.k (.int .i64 1)),no⟩])
def skc:AC:=(.reg [Zv 42 7,Zf 43 1 2,Zl 44 false 1 43,Zv 45 8,Zx 46 2 44 45,Zl 47 true 2 46,Zv 48 9,Zo 49 (.build [(.int .i64 0),(.nil 1),(.nil 1)] [(0,(2,(.t 47))),(2,(1,(.t 48)))]),Zo 50 (.bslb 3 [.t 49]),Zo 51 (.appb 56 3 (.t 42) (.t 50)),Zv 7 51])
def sk4:AC:=(Zq [Zi 8 0] (.blk 0 (.loop (.seq (Zq [Zv 31 8,Zv 32 6,Zb 33 .lss 31 32] (Zw 33 0)) (.seq (.blk 1 (.seq  ska (.seq  skb  skc))) (.reg [Zv 34 8,Zk 35 .add 34 1,Zv 8 35]))))))
def sk5:AC:=(.draw (.op (Zf 53 0 2) (.op (Zl 54 false 1 53) (.op (Zl 56 true 2 3) (.both (.op (Zc 55 99 [(.k (.int .i64 (-1))),.t 54]) (.both (.op (Zc 57 98 [.t 55,(.k (.int .i64 (-1))),.t 56]) (.op (Zv 52 57) (.op (Ze 58 52 0) (.op (Ze 59 52 1) (.op (ZR 10) (.hop (Zs 2 10 58) [] (.op (Zv 11 59) .fin))))))) (.op (ZR 10) (.op (Zc 57 98 [.t 55,(.k (.int .i64 (-1))),.t 56]) (.op (Zv 52 57) (.op (Ze 58 52 0) (.op (Ze 59 52 1) (.hop (Zs 2 10 58) [] (.op (Zv 11 59) .fin))))))))) (.op (ZR 10) (.op (Zc 55 99 [(.k (.int .i64 (-1))),.t 54]) (.op (Zc 57 98 [.t 55,(.k (.int .i64 (-1))),.t 56]) (.op (Zv 52 57) (.op (Ze 58 52 0) (.op (Ze 59 52 1) (.hop (Zs 2 10 58) [] (.op (Zv 11 59) .fin)))))))))))))
def sk6:AC:=(Zq [Zv 60 11,ZN 61 60] (.cond (.t 61) (Zq [Zo 62 (.build [(.int .i64 0),(.nil 1)] []),Zs 2 4 62,Zt 5 false] .ret) .skip))
def sk7:AC:=(.reg [Zv 63 6,Zk 64 .add 63 1,Zo 65 (.mks 8 [(.int .i64 0)] (.t 64) (.t 64)),Zv 12 65])
def sk8:AC:=(.reg [Zv 66 12,Zv 67 6,Zx 68 1 66 67,⟨no,.st 1 (.t 68) (.k (.int .i64 1)),no⟩])
def sk9:AC:=(.reg [Zv 69 7,Zl 70 true 2 10,Zv 71 12,Zo 72 (.build [(.int .i64 0),(.nil 1),(.nil 1)] [(0,(2,(.t 70))),(2,(1,(.t 71)))]),Zo 73 (.bslb 3 [.t 72]),Zo 74 (.appb 56 3 (.t 69) (.t 73)),Zv 7 74])
def K7s:AC:=(Zq [Zi 13 0] (.blk 2 (.loop (.seq (Zq [Zv 75 13,Zf 76 0 2,Zl 77 false 1 76,Zb 78 .lss 75 77] (Zw 78 2)) (.seq (.blk 3 (Zq [Zv 81 7,Zv 82 13,Zc 83 259 [.t 81,.t 82],Zv 7 83] (Zq [Zv 84 7,Zn 85 84,Zk 86 .gtr 85 60] (.cond (.t 86) (Zq [Zo 87 (.build [(.int .i64 0),(.nil 1)] []),Zs 2 4 87,Zt 5 false] .ret) .skip)))) (.reg [Zv 79 13,Zk 80 .add 79 1,Zv 13 80]))))))
def skg:AC:=(.reg [Zv 94 7,Zv 95 14,Zx 96 3 94 95,Zf 97 0 96,Zf 98 0 97,Zl 99 false 1 98,Zk 100 .lss 99 0])
def skh:AC:=(.draw (.op (Zv 101 7) (.op (Zv 102 14) (.op (Zx 103 3 101 102) (.op (Zf 104 2 103) (.op (Zl 105 false 1 104) (.op (Zv 106 6) (.op (Zx 107 1 105 106) (.op (Zl 108 false 1 107) (.op (Zv 110 7) (.op (Zv 111 14) (.op (Zx 112 3 110 111) (.op (Zf 113 2 112) (.op (Zl 114 false 1 113) (.op (Zv 115 6) (.op (Zo 116 (.slc false 1 (.t 114) Option.none (some (.t 115)))) (.both (.hop (Zo 109 (.bsl 1 [])) [(.slc false 1 (.t 114) Option.none (some (.t 115))),(.ld false 1 (.t 113)),(.fld 2 (.t 112)),(.ixa 3 (.t 110) (.t 111)),(.ld false 1 (.t 107)),(.ixa 1 (.t 105) (.t 106)),(.ld false 1 (.t 104)),(.fld 2 (.t 103)),(.ixa 3 (.t 101) (.t 102))] (.both (.hop (ZA 117 8 1 109 116) [(.ld false 1 (.t 107)),(.ixa 1 (.t 105) (.t 106)),(.ld false 1 (.t 104)),(.fld 2 (.t 103)),(.ixa 3 (.t 101) (.t 102))] (.op (Zo 118 (.build [(.int .i64 0),(.nil 1)] [(0,(1,(.t 108))),(1,(1,(.t 117)))])) (.op (ZR 15) (.hop (Zs 2 15 118) [] .fin)))) (.op (ZR 15) (.hop (ZA 117 8 1 109 116) [(.ld false 1 (.t 107)),(.ixa 1 (.t 105) (.t 106)),(.ld false 1 (.t 104)),(.fld 2 (.t 103)),(.ixa 3 (.t 101) (.t 102))] (.op (Zo 118 (.build [(.int .i64 0),(.nil 1)] [(0,(1,(.t 108))),(1,(1,(.t 117)))])) (.hop (Zs 2 15 118) [] .fin)))))) (.op (ZR 15) (.hop (Zo 109 (.bsl 1 [])) [(.slc false 1 (.t 114) Option.none (some (.t 115))),(.ld false 1 (.t 113)),(.fld 2 (.t 112)),(.ixa 3 (.t 110) (.t 111)),(.ld false 1 (.t 107)),(.ixa 1 (.t 105) (.t 106)),(.ld false 1 (.t 104)),(.fld 2 (.t 103)),(.ixa 3 (.t 101) (.t 102))] (.hop (ZA 117 8 1 109 116) [(.ld false 1 (.t 107)),(.ixa 1 (.t 105) (.t 106)),(.ld false 1 (.t 104)),(.fld 2 (.t 103)),(.ixa 3 (.t 101) (.t 102))] (.op (Zo 118 (.build [(.int .i64 0),(.nil 1)] [(0,(1,(.t 108))),(1,(1,(.t 117)))])) (.hop (Zs 2 15 118) [] .fin))))))))))))))))))))))
def ski:AC:=(.seq skh (.seq (Zq [Zl 119 true 2 2,Zl 120 true 2 3,Zl 121 true 2 15,Zc 122 195 [.t 119,.t 120,.t 121],ZN 123 122] (.cond (.t 123) (Zq [Zo 124 (.build [(.int .i64 0),(.nil 1)] []),Zs 2 4 124,Zt 5 false] .ret) .skip)) (Zq [Zl 125 true 2 15,Zs 2 4 125,Zt 5 true] .ret)))
def K4t:AC:=(Zq [Zi 14 0] (.blk 4 (.loop (.seq (Zq [Zv 88 14,Zv 89 7,Zn 90 89,Zb 91 .lss 88 90] (Zw 91 4)) (.seq (.blk 5 (.seq  skg (.cond (.t 100) ski .skip))) (.reg [Zv 92 14,Zk 93 .add 92 1,Zv 14 93]))))))
def Kcb:AC:=(.reg [Zo 126 (.build [(.int .i64 0),(.nil 1)] []),Zs 2 4 126,Zt 5 false])
def K8g:Jl:=⟨127,[(.c 4 true 2),.t 5],(.seq sk0 (.seq sk1 (.seq sk2 (.seq sk3 (.seq sk4 (.seq sk5 (.seq sk6 (.seq sk7 (.seq sk8 (.seq sk9 (.seq K7s (.seq K4t (.seq Kcb .ret)))))))))))))⟩
theorem Jmt:Gd true prog f170=some K8g:=by kernel_rfl
theorem Jio{m k:Nat}(hk:k<m):(List.replicate (m+1) (0:Int)).set k 1=Qg m k++[0]:=by rw[List.replicate_succ',List.set_append_left _ _ (by simpa using hk)];rfl
theorem Ji9{m:Nat} : (List.replicate (m+1) (0:Int)).set m 1=List.replicate m 0++[1]:=by rw[List.replicate_succ',List.set_append_right _ _ (by simp)];simp
theorem Jak{m k:Nat} : (List.replicate m [i64 0]).set k [i64 1]=Ji ((List.replicate m 0).set k 1):=J77
section
variable {ks:List Kt}{s:Jm}{h h':J8}{n:Nat}{Q:Xb}
theorem Job{x:Xx}{t:Jc}(s2:s 2 = .ptr 0 0 0)(s3:s 3 = .ptr 1 0 0)(e0:h 0=some ⟨true,2,[Ky x]⟩)(e1:h 1=some ⟨true,2,[Jb t]⟩)
 (hK:∀s' h' n' k q,(∀i∈[2,3,4,6,7],s' i=s i)->n<=n'->(∀id,id<n->h' id=h id)->s' 11 = .bool (K9 (Jr (-1) x.N) (-1) t).isSome->s' 10 = .ptr k 0 0->Bg ((K9 (Jr (-1) x.N) (-1) t).getD Jj) k q h' n n'->Jt prog ks .normal s' h' n' Q):rC prog sk5 ks s h n Q:=by
 have fr:∀id,id<n->¬id=n/\¬id=n+1/\¬id=n+2/\¬id=n+1+1:=by intro id _;omega
 have ne:¬n=n+1/\¬n+1=n/\¬n=n+1+1/\¬n+1+1=n/\¬n+1=n+1+1/\¬n+1+1=n+1:=by omega
 simp[sk5,s2,s3,e0,e1,Ky,Jb];refine⟨?_,?_⟩
 ·skip;refine Jx (Gi (-1) x.N) (by simp) ?_;rintro r rfl;simp[Ja];refine⟨?_,?_⟩
  ·skip;refine Jx (Vp (Jr (-1) x.N) (-1) t) (by simp[Jb]) ?_;rintro r rfl;rw[Xm];generalize K9 (Jr (-1) x.N) (-1) t=T at *;simp[Ja];exact hK _ _ _ (n+1+1) (n+1) (by simp) (by omega) (λid hid=>by simp[fr id hid]) (by simp) (by simp) ⟨by omega,by omega,by omega,by omega,by omega,by simp,by simp⟩
  ·skip;refine Jx (Vp (Jr (-1) x.N) (-1) t) (by simp[Jb]) ?_;rintro r rfl;rw[Xm];generalize K9 (Jr (-1) x.N) (-1) t=T at *;simp[Ja];exact hK _ _ _ (n+1) (n+1+1) (by simp) (by omega) (λid hid=>by simp[fr id hid]) (by simp) (by simp) ⟨by omega,by omega,by omega,by omega,by omega,by simp,by simp⟩
 ·skip;refine Jx (Gi (-1) x.N) (by simp) ?_;rintro r rfl;simp[Ja];refine Jx (Vp (Jr (-1) x.N) (-1) t) (by simp[Jb]) ?_;rintro r rfl;rw[Xm];generalize K9 (Jr (-1) x.N) (-1) t=T at *;simp[Ja,ne];exact hK _ _ _ n (n+1+1) (by simp) (by omega) (λid hid=>by simp[fr id hid]) (by simp) (by simp) ⟨by omega,by omega,by omega,by omega,by omega,by simp,by simp[ne]⟩
theorem Ji2{x:Xx}{acc:List Ke}{i lo:Nat}(hi:i<x.Rows.length)(hm:x.Rows.length<=20)(s2:s 2 = .ptr 0 0 0)(s6:s 6 = .int .i64 x.Rows.length)(s8:s 8 = .int .i64 i)(e0:h 0=some ⟨true,2,[Ky x]⟩)(h0:0<n)(hlo:lo<=n)(B:K7 Xa 3 lo acc (s 7) h n)(hl:acc.length<=4000)
 (hK:∀s' h' n',(∀j∈[2,3,4,6,8],s' j=s j)->n<=n'->Ko h h' n->(∀id,id<n->(∀k,s 7 ≠ .ref id 0 k)->h' id=h id)->K7 Xa 3 lo (acc++[⟨x.Rows[i],Qg x.Rows.length i,0⟩]) (s' 7) h' n'->Jt prog ks .normal s' h' n' Q):rC prog (.seq ska (.seq skb skc)) ks s h n Q:=by
 have ne:¬n=n+1/\¬n+1=n/\¬n=n+1+1/\¬n+1+1=n/\¬n+1=n+1+1/\¬n+1+1=n+1/\¬0=n/\¬0=n+1:=by omega
 have fr:∀id,id<n->¬id=n/\¬id=n+1/\¬id=n+1+1:=by intro id _;omega
 have hw:IntKind.i64.wrap ((x.Rows.length:Int)+1)=(x.Rows.length:Int)+1:=Km (by omega);have hi2:i<x.Rows.length+1:=by omega
 have hnn:¬((x.Rows.length:Int)+1<0):=by omega
 have hi3:(i:Int)<(x.Rows.length:Int)+1:=by omega
 simp[ska,skb,s6,s8,hw,List.getElem?_replicate,hi3];refine⟨by omega,by unfold Jd;omega,by omega,?_⟩;have hu:=Jak (m:=x.Rows.length+1) (k:=i);rw[Jio hi]at hu;simp only[i64]at hu;rw[hu];have kp:Ko h (upd h n (some ⟨false,1,Ji (Qg x.Rows.length i++[0])⟩)) n:=Ko.of λid hid=>by simp[fr id hid]
 have hul:(Qg x.Rows.length i++[0]).length=x.Rows.length+1:=by simp[Qg]
 simp[skc,ne,s2,s8,e0,hi,Ky,Jb];have kp2:Ko h (upd (upd h n (some ⟨false,1,Ji (Qg x.Rows.length i++[0])⟩)) (n+1) (some ⟨true,3,[[.int .i64 x.Rows[i].Const,.sl 1 (Ji x.Rows[i].Coeffs),.ref n 0 (x.Rows.length+1)]]⟩)) n:=Ko.of λid hid=>by simp[fr id hid]
 have B':=K7.keep (R:=Xa) (n':=n+1+1) (λ_ _ _ _ _ _=>Xa.keep) B (by omega) kp2 λid rows _ hid _ e=>by simp[fr id hid,e]
 refine Fp (R:=Xa) (λ_ _ _ _ _ _=>Xa.keep) B' (r:=[.int .i64 x.Rows[i].Const,.sl 1 (Ji x.Rows[i].Coeffs),.ref n 0 (x.Rows.length+1)]) (d:=⟨x.Rows[i],Qg x.Rows.length i,0⟩) (by simp[Is]) ⟨_,_,rfl,.inl rfl,.inr ⟨n,by omega,by rw[hul],by simp⟩⟩ (by omega) (by unfold Jd;omega) ?_;intro h' k1 k2 k3;simp;refine hK _ _ _ (by simp) (by omega) (kp2.trans k1 (by omega)) (λid hid hv=>by rw[k2 id (by omega) hv];simp[fr id hid]) (by simpa using k3)
theorem Jro{x:Xx}{n0:Nat}{h0:J8}(hm:x.Rows.length<=20)(s2:s 2 = .ptr 0 0 0)(s6:s 6 = .int .i64 x.Rows.length)(e0:h0 0=some ⟨true,2,[Ky x]⟩)(hn0:0<n0)(hn:n0<=n)(hf:∀id,id<n0->h id=h0 id)(B0:K7 Xa 3 n0 [] (s 7) h n)
 (hK:∀s' h' n',(∀j∈[2,3,4,6],s' j=s j)->n0<=n'->(∀id,id<n0->h' id=h0 id)->K7 Xa 3 n0 (Ww x.Rows) (s' 7) h' n'->Jt prog ks .normal s' h' n' Q):rC prog sk4 ks s h n Q:=by
 simp[sk4];refine Ka [2,3,4,6] 8 x.Rows.length (λi s h m=>n0<=m/\(∀id,id<n0->h id=h0 id)/\K7 Xa 3 n0 ((Ww x.Rows).take i) (s 7) h m) (by unfold Jd;omega) (by simp) ⟨hn,hf,by simpa using B0⟩ ?_ ?_
 ·rintro i st h1 m1 R hi hgi hk s8 hw ⟨hm1,hf1,B⟩ hR hret _;simp at hk;refine Jn (Jq [2,3,4,6,7,8] (λs=>s 33 = .bool true) (by simp[hk,s8,hi,s6]) ?_);intro Jv hk1 s33;simp at hk1;refine U2 s33 (Jn (Xd ?_));refine Ji2 (acc:=(Ww x.Rows).take i) (lo:=n0) hi hm (by simp[hk1,hk,s2]) (by simp[hk1,hk,s6]) (by simp[hk1,s8]) (by rw[hf1 0 hn0,e0]) (by omega) hm1 (by simpa[hk1]using B) (by simp[Ww];omega) ?_;intro st2 h2 m2 hk2 hm2 kp2 hf2 B2;simp at hk2;simp[hk2,hk1,s8,hw];refine hR _ _ _ (by simp[hk2,hk1,hk]) (by simp) ⟨by omega,λid hid=>?_,?_⟩
  ·rw[hf2 id (by omega) λk e=>?_,hf1 id hid];have:=B.from id k (by simpa[hk1]using e);omega
  ·rw[Jar hi];simpa using B2
 ·rintro st h1 m1 R hk s8 ⟨hm1,hf1,B⟩ hret hX;simp at hk;have ht:(Ww x.Rows).take x.Rows.length=Ww x.Rows:=List.take_of_length_le (by simp[Ww]);rw[ht]at B;refine Jn (Jq [2,3,4,6,7] (λs=>s 33 = .bool false) (by simp[hk,s8,s6]) ?_);intro Jv hk1 s33;simp at hk1;refine U1 s33 ?_;refine hX _ _ _ _ ?_;simp;exact hK _ _ _ (by simp[hk1,hk]) hm1 hf1 (by simpa[hk1]using B)
theorem Jfn{b:AC}{x:Xx}{last:Jc}{acc:List Ke}{lo k10 q10 l3:Nat}(hm:x.Rows.length<=20)(s6:s 6 = .int .i64 x.Rows.length)(s10:s 10 = .ptr k10 0 0)(L:Bg last k10 q10 h l3 n)(hlo:lo<=n)(B:K7 Xa 3 lo acc (s 7) h n)(hl:acc.length<=4000)
 (hK:∀s' h' n',(∀j∈[2,3,4,6],s' j=s j)->n<=n'->(∀id,id<n->(∀k,s 7 ≠ .ref id 0 k)->h' id=h id)->K7 Xa 3 lo (acc++[⟨last,List.replicate x.Rows.length 0,1⟩]) (s' 7) h' n'->rC prog b ks s' h' n' Q):rC prog (.seq sk7 (.seq sk8 (.seq sk9 b))) ks s h n Q:=by
 obtain⟨q1,q2,q3,q4,q5,e6,eq⟩:=L;have ne:¬n=n+1/\¬n+1=n/\¬n=n+1+1/\¬n+1+1=n/\¬n+1=n+1+1/\¬n+1+1=n+1/\¬k10=n:=by omega
 have fr:∀id,id<n->¬id=n/\¬id=n+1/\¬id=n+1+1:=by intro id _;omega
 have hw:IntKind.i64.wrap ((x.Rows.length:Int)+1)=(x.Rows.length:Int)+1:=Km (by omega);have hi3:(x.Rows.length:Int)<(x.Rows.length:Int)+1:=by omega
 simp[sk7,sk8,s6,hw,List.getElem?_replicate,hi3];refine⟨by omega,by unfold Jd;omega,by omega,?_⟩;have hu:=Jak (m:=x.Rows.length+1) (k:=x.Rows.length);rw[Ji9]at hu;simp only[i64]at hu;rw[hu];have hul:(List.replicate x.Rows.length (0:Int)++[1]).length=x.Rows.length+1:=by simp
 simp[sk9,ne,s10,e6];have kp2:Ko h (upd (upd h n (some ⟨false,1,Ji (List.replicate x.Rows.length 0++[1])⟩)) (n+1) (some ⟨true,3,[[.int .i64 last.Const,.ref q10 0 last.Coeffs.length,.ref n 0 (x.Rows.length+1)]]⟩)) n:=Ko.of λid hid=>by simp[fr id hid]
 have B':=K7.keep (R:=Xa) (n':=n+1+1) (λ_ _ _ _ _ _=>Xa.keep) B (by omega) kp2 λid rows _ hid _ e=>by simp[fr id hid,e]
 refine Fp (R:=Xa) (λ_ _ _ _ _ _=>Xa.keep) B' (r:=[.int .i64 last.Const,.ref q10 0 last.Coeffs.length,.ref n 0 (x.Rows.length+1)]) (d:=⟨last,List.replicate x.Rows.length 0,1⟩) (by simp[Is]) ⟨_,_,rfl,.inr (.inr ⟨q10,by omega,rfl,by simp[fr q10 q4,eq]⟩),.inr ⟨n,by omega,by rw[hul],by simp⟩⟩ (by omega) (by unfold Jd;omega) ?_;intro h' k1 k2 k3;simp;exact hK _ _ _ (by simp) (by omega) (λid hid hv=>by rw[k2 id (by omega) hv];simp[fr id hid]) (by simpa using k3)
end
end Go.Proofs.YtoclolkigjbcgaaGreat

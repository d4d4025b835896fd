/- The rows of patterns of the reference: the loop, the call. -/
import Derived.Test.YtoclolkigjbcgaaGreatBV7
namespace Go.Proofs.YtoclolkigjbcgaaGreat
open Tryz(prog)
open List(drop_eq_getElem_cons foldl_cons getElem_mem drop_eq_nil_of_le foldl_nil pairwise_cons mem_cons not_mem_nil)
set_option maxRecDepth 40000
set_option maxHeartbeats 4000000
open Go Go.RowKit Go.Proofs
set_option linter.all false
section
variable {ks:List Kt}{s:Jm}{h:J8}{n N:Nat}{Q:Xc}{b n0:Nat}{vN0 vL0:AV}{h0:J8}{r:Jy}
def RJ(N b n0:Nat)(vN0 vL0:AV)(h0:J8)(r:Jy)(E0:Xl)(T:MS)(i:Nat)(s:Jm)(h:J8)(m:Nat):Prop:=
 ∃ms:MS,(r.Patterns.drop i).foldl (Xp N) ms=T/\s 2 = .int .i64 ms.nx/\RI b n0 vN0 vL0 h0 r (Kj ms.E) (Y4 ms.E) ms.rows (s 10) h m/\ms.nx<=1000+i/\ms.E.length<=1000+2*i/\ms.rows.length<=i/\(∀x∈Kj E0,x∈Kj ms.E)/\∀e∈ms.E,e.2.Coeffs.length<=8
theorem Je9(E F:Xl):Kj (E++F)=Kj E++Kj F:=by simp[Kj]
theorem J9f{E:Xl}{x:Je}{d:Jc}(h:∀e∈E,e.2.Coeffs.length<=8)(hx:x∈Kj E):(Kp d E x).Coeffs.length<=8:=by obtain⟨l,h1,h2⟩:=N2 d hx;have:=h2 d [];rw[List.append_nil]at this;rw[this];exact h _ h1
theorem Jla{E0:Xl}{T:MS}(s3:s 3 = .int .i64 N)(s4:s 4 = .ptr n0 0 0)(s5:s 5 = .ptr (n0+1) 0 0)(hb:b<n0)(hN:N<=8)(hp:r.Patterns.length<=100)(hin:∀q∈r.Patterns,q.Lst∈Kj E0)(J:RJ N b n0 vN0 vL0 h0 r E0 T 0 s h n)
 (hK:∀s' h' m,(∀j∈[3,4,5,8,9],s' j=s j)->RI b n0 vN0 vL0 h0 r (Kj T.E) (Y4 T.E) T.rows (s' 10) h' m->Ju prog ks .normal s' h' m Q):rC prog ro2 ks s h n Q:=by
 simp[ro2];refine Ki [3,4,5,8,9] 11 r.Patterns.length (RJ N b n0 vN0 vL0 h0 r E0 T) (by unfold Jb;omega) (by simp) (by simpa[RJ]using J) ?_ ?_
 ·rintro i st h' m R hi hg hk s11 hw ⟨ms,hJ,t2,M,hb1,hb2,hb3,hb4,hb5⟩ hR _ _;simp at hk;rw[drop_eq_getElem_cons hi,foldl_cons]at hJ;have hin:=hin _ (getElem_mem hi);have l1:=M.lt;refine Jn (Js [2,3,4,5,8,9,10,11] (λs=>s 21 = .bool true) (by simp[hk,s11,s5,M.hr,Jr,hi]) ?_);intro Jv hk1 s21;simp at hk1;refine Uh s21 (Jn (Xg ?_));refine Xo [2,3,4,5,8,9,10,11] (λs h2 m2=>m2=m+1/\s 12 = .ptr m 0 0/\h2 m=some ⟨true,4,[Kb (r.Patterns[i]'hi)]⟩/\∀id,id<m->h2 id=h' id) ?_ ?_
  ·have fr:∀id,id<m->¬id=m:=by intro id _;omega
   simp[hk1,hk,s11,s5,M.hr,Jr,Kb,hi];exact λid hid=>by simp[fr id hid]
  rintro st2 h2 m2 hk2 ⟨rfl,s12,em,hfr2⟩;simp at hk2;generalize r.Patterns[i]=q at *;have M2:=M.frame (h':=h2) (m':=m+1) (by omega) hfr2;have u10:st2 10=st 10:=by rw[hk2.2.2.2.2.2.2.1,hk1.2.2.2.2.2.2.1]
  have hx:q.Lst∈Kj ms.E:=hb4 _ hin;have hl8:=J9f (d:=Jo 0 N) hb5 hx;have hsl:Ei N ms q=Vs (Kp (Jo 0 N) ms.E q.Lst) 1:=rfl
  have hsp:Xp N ms q=if q.Cons then⟨ms.E++[(q.Head,Ka ms.nx N),(q.Tail,Vs (Kp (Jo 0 N) ms.E q.Lst) 1)],ms.nx+1,ms.rows++[Vs (Kp (Jo 0 N) ms.E q.Lst) 1],ms.pars,ms.args⟩
   else⟨ms.E,ms.nx,ms.rows++[Yn (Jo 0 N) (-1) (Kp (Jo 0 N) ms.E q.Lst)],ms.pars,ms.args⟩:=rfl
  rw[hsp]at hJ;refine Xo [2,3,4,5,8,9,10,11,12] (λs h3 m3=>∃k,s 13 = .ptr k 0 0/\m+1<=k/\k<m3/\h3 k=some ⟨true,2,[Ja (Kp (Jo 0 N) ms.E q.Lst)]⟩/\h3 m=some ⟨true,4,[Kb q]⟩/\RI b n0 vN0 vL0 h0 r (Kj ms.E) (Y4 ms.E) ms.rows (st 10) h3 m3) ?_ ?_
  ·obtain⟨vN,vL,e1,e2,e3,e4,e5⟩:=M2.env;have w4:st2 4 = .ptr n0 0 0:=by rw[hk2.2.2.1,hk1.2.2.1,hk.2.1,s4]
   have w3:st2 3 = .int .i64 N:=by rw[hk2.2.1,hk1.2.1,hk.1,s3]
   simp[w4,w3,s12,em,e1,Kb];refine J8i (d:=Jo 0 N) (.inr ⟨b,e2.1 (1,Ji (Kj ms.E),vN) (by simp)⟩) (.inr ⟨b,e2.1 (2,(Y4 ms.E).map Ja,vL) (by simp)⟩) hx ?_;intro h3 m3 hm3 hfr3;have fr:∀id,id<m3->¬id=m3:=by intro id _;omega
   have em3:=hfr3 m (by omega);rw[em]at em3;simp;exact⟨by omega,by simp[fr m (by omega),em3,Kb],M2.frame (by omega) λid hid=>by simp[fr id (by omega),hfr3 id hid]⟩
  rintro Kl h3 m3 hk3 ⟨k,s13,hkm,hkn,hkb,em3,M3⟩;simp at hk3;generalize Kp (Jo 0 N) ms.E q.Lst=l0 at *;have v3:Kl 3 = .int .i64 N:=by rw[hk3.2.1,hk2.2.1,hk1.2.1,hk.1,s3]
  have v4:Kl 4 = .ptr n0 0 0:=by rw[hk3.2.2.1,hk2.2.2.1,hk1.2.2.1,hk.2.1,s4]
  have v12:Kl 12 = .ptr m 0 0:=by rw[hk3.2.2.2.2.2.2.2.2,s12]
  have v10:Kl 10=st 10:=by rw[hk3.2.2.2.2.2.2.1,u10]
  have kk:Kl 2=st 2/\Kl 3=st 3/\Kl 4=st 4/\Kl 5=st 5/\Kl 8=st 8/\Kl 9=st 9/\Kl 11=st 11:=by simp[hk3,hk2,hk1]
  rw[<-v10]at M3;refine Jn ?_;refine Js [2,3,4,5,8,9,10,11,12,13] (λs=>s 36 = .bool (!q.Cons)) (by simp[v12,em3,Kb]) ?_;intro st4 hk4 s36;simp at hk4;cases hc:q.Cons
  ·rw[hc]at hJ s36;simp only[Bool.false_eq_true,if_false]at hJ;rw[J56 (show ev st4 (.t 36) = .bool true from s36)];refine Jn (Jh3 (l0:=l0) (k:=k) (by rw[hk4.2.1,v3]) (by rw[hk4.2.2.2.2.2.2.2.2.2,s13]) hkn hkb ?_);rintro Ur h5 m5 hk5 ⟨k5,q5,s14,o5,p5,x5,y5,z5,w5⟩ hm5 hfr5;simp at hk5;have M5:=M3.frame hm5 hfr5;have l5:=M5.lt;obtain⟨vN,vL,e1,e2,e3,e4,e5⟩:=M5.env;have y1:=e2.1 (2,ms.rows.map J9,Kl 10) (by simp);have g10:Ur 10=Kl 10:=by rw[hk5.2.2.2.2.2.2.1,hk4.2.2.2.2.2.2.1]
   have hqv:∀l,Kl 10 ≠ .ref q5 0 l:=λl e=>by have:=(y1.lt e).2.2.1;rw[w5]at this;simp at this
   generalize Yn (Jo 0 N) (-1) l0=lr at *;have frn:∀id,id<m5->¬id=m5:=by intro id _;omega
   refine Ua ?_;simp[g10,s14,z5,w5];generalize hv3:Kl 10=v3' at *;refine Vw (rows:=ms.rows.map J9) (rows2:=[[.int .i64 lr.Const,.us 1 (Jg lr.Coeffs)]]) (y1.keep (n':=m5+1) (by omega) λid _ hid e=>?_) (by simp) (λl e=>by have:=(y1.lt e).2.1;omega) (by omega) (by simp;unfold Jb;omega) ?_
   ·have:¬id=q5:=λe'=>hqv _ (by rw[<-e'];exact e)
    simp[frn id hid,this]
   intro h6 f1 f2;simp[hk5,hk4,kk,s11,hw];refine hR _ _ _ (by simp[hk5,hk4,kk,hk]) (by simp) ⟨_,hJ,by simp[hk5,hk4,kk,t2],?_,by show ms.nx<=_;omega,by show ms.E.length<=_;omega,by show(ms.rows++[_]).length<=_;simp;omega,hb4,hb5⟩;simp;refine M3.rows (by omega) (.inr ⟨m5+1,by omega,by omega,by simp,by simp[f1,J9]⟩) (λi k e=>by simp only[AV.ref.injEq]at e;omega) ?_;intro id h1 h2;have:¬id=q5:=by omega
   rw[f2 id (by omega) (by omega) h2];simp[this,frn id (by omega),hfr5 id h1]
  ·rw[hc]at hJ s36;simp only[if_true]at hJ;rw[J9a (show ev st4 (.t 36) = .bool false from s36),Jc4];refine Ua ?_;have l3:=M3.lt;obtain⟨vN,vL,e1,e2,e3,e4,e5⟩:=M3.env;have y1:=e2.1 (2,ms.rows.map J9,Kl 10) (by simp);have x13:st4 13 = .ptr k 0 0:=by rw[hk4.2.2.2.2.2.2.2.2.2,s13]
   have x10:st4 10=Kl 10:=by rw[hk4.2.2.2.2.2.2.1]
   have frn:∀id,id<m3->¬id=m3/\¬id=m3+1:=by intro id _;omega
   refine Xo [2,3,4,5,8,9,11,12,13] (λs h5 m5=>m3<=m5/\h5 k=some ⟨true,2,[Ja l0]⟩/\h5 m=some ⟨true,4,[Kb q]⟩/\RI b n0 vN0 vL0 h0 r (Kj ms.E) (Y4 ms.E) (ms.rows++[Vs l0 1]) (s 10) h5 m5) ?_ ?_
   ·simp[x10,x13,hkb];refine Jd (J38 l0 1 (by omega)) (by simp) ?_;rintro r rfl;generalize Vs l0 1=lm at *;simp[J9];generalize hv3:Kl 10=v3' at *;refine Vw (rows:=ms.rows.map J9) (rows2:=[[.int .i64 lm.Const,.us 1 (Jg lm.Coeffs)]]) (y1.keep (n':=m3+1+1) (by omega) λid _ hid e=>by simp[frn id hid]) (by simp) (λl e=>by have:=(y1.lt e).2.1;omega) (by omega) (by simp;unfold Jb;omega) ?_;intro h6 f1 f2
    have bx:∀id z rows,id<m3->h3 id=some ⟨true,z,rows⟩->h6 id=h3 id:=by intro id z rows h1' h3';rw[f2 id (by omega) (by omega) λl e=>y1.not_box h3' e];simp[frn id h1']
    simp;refine⟨by omega,by rw[bx k _ _ hkn hkb,hkb],by rw[bx m _ _ (by omega) em3,em3],M3.rows (by omega) (.inr ⟨m3+2,by omega,by omega,by simp,by simp[f1,J9]⟩) (λi k e=>by simp only[AV.ref.injEq]at e;omega) ?_⟩;intro id h1 h2;rw[f2 id (by omega) (by omega) h2];simp[frn id (by omega)]
   rintro Ur h5 m5 hk5 ⟨hm5,hkb5,em5,M5⟩;simp at hk5
   have hkl:ms.E.length<=100000:=by have:i<r.Patterns.length:=hi;omega
   have hkn0:k≠n0:=by omega
   refine Jn (Jhw (q:=q) (k:=m) (by rw[hk5.2.2.1,hk4.2.2.1,v4]) (by rw[hk5.2.2.2.2.2.2.2.1,hk4.2.2.2.2.2.2.2.2.1,v12]) M5 hb (by omega) em5 (by simp[Kj];omega) ?_);intro st6 h6 m6 hk6 hm6 bx6 M6;simp at hk6;refine Ua (Jn (Jgd (ls:=Y4 ms.E) (l0:=l0) (k:=k) (at':=ms.nx) (by rw[hk6.1,hk5.1,hk4.1,kk.1,t2]) (by rw[hk6.2.1,hk5.2.1,hk4.2.1,v3]) (by rw[hk6.2.2.2.2.2.2.2.2.2,hk5.2.2.1,hk4.2.2.1,v4]) (by rw[hk6.2.2.2.2.2.2.2.2.1,hk5.2.2.2.2.2.2.2.2,x13]) M6 hb (by omega) (by rw[bx6 k _ _ (by omega) hkn0 hkb5,hkb5]) hkn0 (by simp[Y4];omega) (by omega) ?_));intro st7 h7 m7 hk7 hm7 bx7 M7;simp at hk7;have hw2:IntKind.i64.wrap ((ms.nx:Int)+1)=(ms.nx:Int)+1:=Kk (by omega);have z2:st7 2 = .int .i64 ms.nx:=by rw[hk7.1,hk6.1,hk5.1,hk4.1,kk.1,t2]
   simp[hk7,hk6,hk5,hk4,kk,s11,hw,t2,hw2];refine hR _ _ _ (by simp[hk7,hk6,hk5,hk4,kk,hk]) (by simp) ⟨_,hJ,by simp,?_,by show ms.nx+1<=_;omega,by show(ms.E++_).length<=_;simp;omega,by show(ms.rows++[_]).length<=_;simp;omega,?_,?_⟩
   ·have hkE:Kj (ms.E++[(q.Head,Ka ms.nx N),(q.Tail,Vs l0 1)])=Kj ms.E++[q.Head,q.Tail]:=by simp[Kj]
    have hvE:Y4 (ms.E++[(q.Head,Ka ms.nx N),(q.Tail,Vs l0 1)])=Y4 ms.E++[Ka ms.nx N,Vs l0 1]:=by simp[Y4]
    simp only;rw[hkE,hvE];have:st7 10=Ur 10:=by rw[hk7.2.2.2.2.2.1,hk6.2.2.2.2.2.1]
    simp;rw[this];exact M7
   ·intro x hx;show x∈Kj (ms.E++_)
    rw[Je9];exact List.mem_append_left _ (hb4 x hx)
   ·intro e he;rcases List.mem_append.1 he with he|he
    ·exact hb5 e he
    ·simp at he;rcases he with rfl|rfl
     ·exact H9 N (by omega)
     ·exact hl8
 ·rintro st h' m R hk s11 ⟨ms,hJ,t2,M,hb1,hb2,hb3,hb4,hb5⟩ _ hX;simp at hk;rw[drop_eq_nil_of_le (by omega)]at hJ;simp only[foldl_nil]at hJ;subst hJ;refine Jn (Js [3,4,5,8,9,10] (λs=>s 21 = .bool false) (by simp[hk,s11,s5,M.hr,Jr]) ?_);intro Jv hk1 s21;simp at hk1;refine U3 s21 ?_;refine hX _ _ _ _ ?_;simp;refine hK _ _ _ (by simp[hk1,hk]) ?_;rw[hk1.2.2.2.2.2];exact M
end
section
variable {h h':J8}{n n' N:Nat}{b:Nat}{r:Jy}
theorem Vr.keepB {l:List (Nat×List (List AV)×AV)}(A:Vr b l h n) (hn:n<=n') (hh:∀id,b<id->id<n->(∃z rows,h id=some ⟨false,z,rows⟩)->h' id=h id):Vr b l h' n':=
 ⟨λx hx=>(A.1 x hx).keep hn λid hb hid e=>hh id hb hid ⟨_,_,((A.1 x hx).lt e).2.2.1⟩,A.2⟩
theorem Je1{E0:Xl}{vN0 vL0:AV}{at':Nat}(A:Vr b [(1,Ji (Kj E0),vN0),(2,(Y4 E0).map Ja,vL0)] h n)(hb:b<n)(hN:N<=8)(hat:at'<=1000)(hE:E0.length<=1000)(hp:r.Patterns.length<=100)(hin:∀q∈r.Patterns,q.Lst∈Kj E0)(hv:∀e∈E0,e.2.Coeffs.length<=8)
 {K:AV->J8->Nat->Prop}(hK:∀vN vL vR h' n',n<=n'->(∀id,id<n->(∀k,vN0 ≠ .ref id 0 k)->(∀k,vL0 ≠ .ref id 0 k)->h' id=h id) ->
  Vr b [(1,Ji (Kj (r.Patterns.foldl (Xp N) ⟨E0,at',[],[],[]⟩).E),vN),(2,(Y4 (r.Patterns.foldl (Xp N) ⟨E0,at',[],[],[]⟩).E).map Ja,vL),(2,(r.Patterns.foldl (Xp N) ⟨E0,at',[],[],[]⟩).rows.map J9,vR)] h' n' ->
  Bn vN0 vN n->Bn vL0 vL n->Bn (.nil 2) vR n->K (.tup [.agg [vN,vL],vR]) h' n') :
 X7 prog 266 [.agg [vN0,vL0],.agg (Jr r),i64 at',i64 N] h n K:=by
 refine U8 Tryz.func266 a266_ok rfl (by simp[a266]) ?_;have cN:=(A.1 (1,Ji (Kj E0),vN0) (by simp)).cell;have cL:=(A.1 (2,(Y4 E0).map Ja,vL0) (by simp)).cell;have ne:¬n=n+1/\¬n+1=n/\¬n=n+1+1/\¬n=n+1+1+1/\¬n+1=n+1+1/\¬n+1=n+1+1+1/\¬n+1+1=n+1+1+1/\¬n+2=n+1+1+1/\¬n+3=n:=by omega
 have fr:∀id,id<n->¬id=n/\¬id=n+1/\¬id=n+1+1/\¬id=n+1+1+1/\¬id=n+2/\¬id=n+3:=by intro id _;omega
 simp[a266,ro0,ro1,-K8,cN,cL];generalize hT:r.Patterns.foldl (Xp N) ⟨E0,at',[],[],[]⟩=T at hK;refine Jla (E0:=E0) (T:=T) (b:=b) (n0:=n) (vN0:=vN0) (vL0:=vL0) (h0:=h) (r:=r) (N:=N) (by simp) (by simp) (by simp) hb hN hp hin ?_ ?_
 ·refine⟨⟨E0,at',[],[],[]⟩,by simpa using hT,by simp,⟨by omega,by simp,by simp,λid h1 _ _=>by simp[fr id h1],vN0,vL0,by simp[ne],?_,.inl rfl,.inl rfl,?_⟩,by omega,by simpa using hE,by simp,λx hx=>hx,hv⟩
  ·obtain⟨A1,A2⟩:=A;simp only[pairwise_cons,mem_cons,not_mem_nil,or_false,forall_eq]at A2;have y1:=A1 (1,Ji (Kj E0),vN0) (by simp);have y2:=A1 (2,(Y4 E0).map Ja,vL0) (by simp);refine⟨?_,?_⟩
   ·intro x hx;simp only[mem_cons,not_mem_nil,or_false]at hx;rcases hx with rfl|rfl|rfl
    ·exact y1.keep (by omega) λid _ hid _=>by simp[fr id hid]
    ·exact y2.keep (by omega) λid _ hid _=>by simp[fr id hid]
    ·simp;exact .inr ⟨n+3,by omega,by omega,by simp,by simp⟩
   ·simp only[pairwise_cons,mem_cons,not_mem_nil,or_false,forall_eq_or_imp,forall_eq];refine⟨⟨A2.1,?_⟩,?_,?_⟩
    ·intro i k l e1 e2;simp at e2;have:=(y1.lt e1).2.1;omega
    ·intro i k l e1 e2;simp at e2;have:=(y2.lt e1).2.1;omega
    ·simp
  ·simp;exact .fresh (by omega)
 intro s' h1 m hk1 M;simp at hk1;have l1:=M.lt;obtain⟨vN,vL,e1,e2,e3,e4,e5⟩:=M.env;have dN:=(e2.1 (1,Ji (Kj T.E),vN) (by simp)).cell;have dL:=(e2.1 (2,(Y4 T.E).map Ja,vL) (by simp)).cell;have M8:=M.hz;refine Ua ?_;simp[ro3,hk1,e1,-K8,dN,dL,M8];refine hK _ _ _ _ _ (by omega) ?_ ?_ e3 e4 e5
 ·intro id h1' h2 h3;simp[fr id h1',M.fr id h1' h2 h3]
 ·refine e2.keepB (Nat.le_refl _) λid _ _ hf=>?_
  have:¬id=n+2:=by rintro rfl;obtain⟨z,rows,hf⟩:=hf;rw[M8]at hf;simp at hf
  simp[this]
end
def lm0:AC:=(.reg [ZB 2 0,Zo 4 (.box [(.int .i64 0),(.nil 2),(.nil 2),(.nil 1),(.int .i64 0),(.nil 1)])])
def lm1:AC:=(.reg [Zf 23 1 2,Zl 24 false 1 23,Zv 25 1,Zx 26 7 24 25,Zl 27 true 7 26,Zo 5 (.box [(.str []),(.nil 4),(.nil 2),(.nil 3),(.bool false),(.nil 2),(.str [])]),⟨no,.st 7 (.t 5) (.t 27),no⟩])
def lm2:AC:=(.reg [Zl 29 true 2 2,Zf 30 0 5,Zl 31 false 1 30,Zc 32 172 [.t 29,.t 31],Zv 28 32,Ze 33 28 0,Ze 34 28 1,Zo 6 (.box [(.str []),(.nil 1),(.bool false),(.nil 2)]),⟨no,.st 4 (.t 6) (.t 33),no⟩,Zv 7 34])
def lm3:AC:=(.reg [Zf 35 1 6,Zl 36 false 1 35,Zn 37 36,Zv 8 37])
def lm4:AC:=(.draw (.op (Zv 38 8) (.op (Zf 39 1 5) (.op (Zl 40 false 1 39) (.op (Zf 43 3 5) (.op (Zl 44 false 1 43) (.op (Zn 45 44) (.op (Zc 41 265 [.t 40]) (.op (Zb 42 .add 38 41) (.op (Zb 46 .add 42 45) (.op (Zv 9 46) .fin)))))))))))
def lm5:AC:=(.reg [Zv 47 9,Zl 48 true 4 6,Zv 49 9,Zc 50 180 [.t 48,.t 49],Zo 51 (.build [(.int .i64 0),(.nil 2)] [(0,(1,(.t 47))),(1,(1,(.t 50)))]),Zo 52 (.build [(.int .i64 0),(.nil 2),(.nil 2),(.nil 1),(.int .i64 0),(.nil 1)] [(0,(2,(.t 51)))]),Zo 10 (.box [(.int .i64 0),(.nil 2),(.nil 2),(.nil 1),(.int .i64 0),(.nil 1)]),⟨no,.st 6 (.t 10) (.t 52),no⟩])
def lm6:AC:=(.reg [Zo 53 (.build [(.nil 1),(.nil 2)] []),Zo 11 (.box [(.nil 1),(.nil 2)]),⟨no,.st 2 (.t 11) (.t 53),no⟩])
def Jvp:AC:=(.draw (.op (Zf 59 0 11) (.op (Zl 60 false 1 59) (.op (Zf 61 1 6) (.op (Zl 62 false 1 61) (.op (Zv 63 12) (.op (Zx 64 1 62 63) (.op (Zl 65 false 1 64) (.hop (Zo 66 (.bsl 1 [.t 65])) [(.ld false 1 (.t 59)),(.fld 0 (.t 11))] (.hop (ZA 67 16 1 60 66) [] (.op (Zf 68 0 11) (.hop ⟨no,.st 1 (.t 68) (.t 67),no⟩ [] .fin))))))))))))
def Jwa:AC:=(.draw (.op (Zf 69 1 11) (.op (Zl 70 false 1 69) (.op (Zv 71 12) (.op (Zv 72 9) (.op (Zc 73 261 [.t 71,.t 72]) (.hop (Zo 74 (.bsl 2 [.t 73])) [(.ld false 1 (.t 69)),(.fld 1 (.t 11))] (.hop (ZA 75 32 2 70 74) [] (.op (Zf 76 1 11) (.hop ⟨no,.st 1 (.t 76) (.t 75),no⟩ [] .fin))))))))))
def Tv:AC:=(.draw (.op (Zf 77 2 10) (.op (Zl 78 false 1 77) (.op (Zv 79 12) (.op (Zv 80 9) (.op (Zc 81 261 [.t 79,.t 80]) (.hop (Zo 82 (.bsl 2 [.t 81])) [(.ld false 1 (.t 77)),(.fld 2 (.t 10))] (.hop (ZA 83 32 2 78 82) [] (.op (Zf 84 2 10) (.hop ⟨no,.st 1 (.t 84) (.t 83),no⟩ [] .fin))))))))))
def lm7:AC:=(Zq [Zi 12 0] (.blk 0 (.loop (.seq (Zq [Zv 54 12,Zv 55 8,Zb 56 .lss 54 55] (Zw 56 0)) (.seq (.blk 1 (.seq Jvp (.seq Jwa Tv))) (.reg [Zv 57 12,Zk 58 .add 57 1,Zv 12 58]))))))
def lm8:AC:=(.reg [Zl 86 true 2 11,Zl 87 true 7 5,Zv 88 8,Zv 89 9,Zc 90 266 [.t 86,.t 87,.t 88,.t 89],Zv 85 90,Ze 91 85 0,Ze 92 85 1,⟨no,.st 2 (.t 11) (.t 91),no⟩,Zv 13 92])
def lm9:AC:=(.reg [Zf 93 0 10,Zf 94 1 93,Zl 95 false 1 94,Zv 96 13,ZA 97 32 2 95 96,Zf 98 0 10,Zf 99 1 98,⟨no,.st 1 (.t 99) (.t 97),no⟩])
def Jkr:AC:=(.draw (.op (Zl 108 true 2 11) (.op (Zf 109 2 5) (.op (Zl 110 false 1 109) (.op (Zv 111 14) (.op (Zx 112 2 110 111) (.op (Zl 113 true 2 112) (.op (Zv 114 9) (.both (.op (Zc 115 267 [.t 108,.t 113,.t 114]) (.op (Zv 107 115) (.op (Ze 116 107 0) (.op (Ze 117 107 1) (.op (Zo 15 (.box [(.int .i64 0),(.nil 1)])) (.hop ⟨no,.st 2 (.t 15) (.t 116),no⟩ [] (.op (Zv 16 117) .fin))))))) (.op (Zo 15 (.box [(.int .i64 0),(.nil 1)])) (.op (Zc 115 267 [.t 108,.t 113,.t 114]) (.op (Zv 107 115) (.op (Ze 116 107 0) (.op (Ze 117 107 1) (.hop ⟨no,.st 2 (.t 15) (.t 116),no⟩ [] (.op (Zv 16 117) .fin))))))))))))))))
def Jku:AC:=(.reg [Zf 118 0 10,Zf 119 1 118,Zl 120 false 1 119,Zl 121 true 2 15,Zo 122 (.bsl 2 [.t 121]),ZA 123 32 2 120 122,Zf 124 0 10,Zf 125 1 124,⟨no,.st 1 (.t 125) (.t 123),no⟩])
def Jvx:AC:=(Zq [Zi 14 0] (.blk 2 (.loop (.seq (Zq [Zv 100 14,Zf 101 2 5,Zl 102 false 1 101,Zn 103 102,Zb 104 .lss 100 103] (Zw 104 2)) (.seq (.blk 3 (.seq Jkr  Jku)) (.reg [Zv 105 14,Zk 106 .add 105 1,Zv 14 106]))))))
def Tt:AC:=(.draw (.op (Zl 146 true 2 11) (.op (Zf 147 3 5) (.op (Zl 148 false 1 147) (.op (Zv 149 17) (.op (Zx 150 3 148 149) (.op (Zf 151 2 150) (.op (Zl 152 false 1 151) (.op (Zv 153 19) (.op (Zx 154 3 152 153) (.op (Zl 155 true 3 154) (.op (Zv 156 9) (.both (.op (Zc 157 268 [.t 146,.t 155,.t 156]) (.op (Zv 145 157) (.op (Ze 158 145 0) (.op (Ze 159 145 1) (.op (Zo 20 (.box [(.int .i64 0),(.nil 1)])) (.hop ⟨no,.st 2 (.t 20) (.t 158),no⟩ [] (.op (Zv 21 159) .fin))))))) (.op (Zo 20 (.box [(.int .i64 0),(.nil 1)])) (.op (Zc 157 268 [.t 146,.t 155,.t 156]) (.op (Zv 145 157) (.op (Ze 158 145 0) (.op (Ze 159 145 1) (.hop ⟨no,.st 2 (.t 20) (.t 158),no⟩ [] (.op (Zv 21 159) .fin))))))))))))))))))))
def Jpy:AC:=(.reg [Zv 160 18,Zl 161 true 2 20,Zo 162 (.bsl 2 [.t 161]),ZA 163 32 2 160 162,Zv 18 163])
def Jkq:AC:=(Zq [Zi 19 0] (.blk 6 (.loop (.seq (Zq [Zv 134 19,Zf 135 3 5,Zl 136 false 1 135,Zv 137 17,Zx 138 3 136 137,Zf 139 2 138,Zl 140 false 1 139,Zn 141 140,Zb 142 .lss 134 141] (Zw 142 6)) (.seq (.blk 7 (.seq Tt  Jpy)) (.reg [Zv 143 19,Zk 144 .add 143 1,Zv 19 144]))))))
def Tu:AC:=(.reg [Zf 164 3 10,Zl 165 false 1 164,Zv 166 18,Zo 167 (.bsl 1 [.t 166]),ZA 168 24 1 165 167,Zf 169 3 10,⟨no,.st 1 (.t 169) (.t 168),no⟩])
def Jkg:AC:=(.draw (.op (Zf 179 0 11) (.op (Zl 180 false 1 179) (.op (Zf 181 3 5) (.op (Zl 182 false 1 181) (.op (Zv 183 17) (.op (Zx 184 3 182 183) (.op (Zf 185 0 184) (.op (Zl 186 false 1 185) (.hop (Zo 187 (.bsl 1 [.t 186])) [(.ld false 1 (.t 179)),(.fld 0 (.t 11))] (.hop (ZA 188 16 1 180 187) [] (.op (Zf 189 0 11) (.hop ⟨no,.st 1 (.t 189) (.t 188),no⟩ [] .fin)))))))))))))
def Jkb:AC:=(.reg [Zf 190 1 11,Zl 191 false 1 190,Zl 192 true 2 22,Zo 193 (.bsl 2 [.t 192]),ZA 194 32 2 191 193,Zf 195 1 11,⟨no,.st 1 (.t 195) (.t 194),no⟩])
def Jke:AC:=(.draw (.op (Zf 203 0 10) (.op (Zf 204 1 203) (.op (Zl 205 false 1 204) (.op (Zl 206 true 2 22) (.op (Zc 207 82 [.t 206]) (.hop (Zo 208 (.bsl 2 [.t 207])) [(.ld false 1 (.t 204)),(.fld 1 (.t 203)),(.fld 0 (.t 10))] (.hop (ZA 209 32 2 205 208) [] (.op (Zf 210 0 10) (.op (Zf 211 1 210) (.hop ⟨no,.st 1 (.t 211) (.t 209),no⟩ [] .fin)))))))))))
def Jwb:AC:=(Zq [Zi 17 0] (.blk 4 (.loop (.seq (Zq [Zv 126 17,Zf 127 3 5,Zl 128 false 1 127,Zn 129 128,Zb 130 .lss 126 129] (Zw 130 4)) (.seq (.blk 5 (Zq [Zo 133 (.bsl 2 []),Zv 18 133] (.seq Jkq (.seq  Tu (Zq [Zv 170 9,Zf 171 3 5,Zl 172 false 1 171,Zn 173 172,Zb 174 .sub 170 173,Zv 175 17,Zb 176 .add 174 175,Zv 177 9,Zc 178 261 [.t 176,.t 177],Zo 22 (.box [(.int .i64 0),(.nil 1)]),⟨no,.st 2 (.t 22) (.t 178),no⟩] (.seq Jkg (.seq  Jkb (Zq [Zf 196 3 5,Zl 197 false 1 196,Zv 198 17,Zx 199 3 197 198,Zf 200 0 199,Zl 201 false 1 200,Zc 202 260 [.t 201]] (.cond (.t 202) Jke .skip))))))))) (.reg [Zv 131 17,Zk 132 .add 131 1,Zv 17 132]))))))
def Jzk:AC:=(.reg [Zl 213 true 2 11,Zf 214 4 5,Zl 215 true 3 214,Zv 216 9,Zc 217 268 [.t 213,.t 215,.t 216],Zv 212 217,Ze 218 212 0,Ze 219 212 1,Zf 220 4 10,⟨no,.st 2 (.t 220) (.t 218),no⟩])
def Jzq:AC:=(.reg [Zl 221 true 6 10,⟨no,.st 6 (.t 4) (.t 221),no⟩])
def a184:Jk:=⟨222,[(.c 4 true 6)],(.seq lm0 (.seq lm1 (.seq lm2 (.seq lm3 (.seq lm4 (.seq lm5 (.seq lm6 (.seq lm7 (.seq lm8 (.seq lm9 (.seq Jvx (.seq Jwb (.seq Jzk (.seq Jzq .ret))))))))))))))⟩
theorem a184_ok:Jf prog Tryz.f184=some a184:=by kernel_rfl
def K1p(N:Nat)(nm:List Je)(ls R P:List Jc)(A:List (List Jc))(h:J8)(n:Nat):Prop:=∃vN vL vR vP vA,h 8=some ⟨true,2,[[vN,vL]]⟩/\h 7=some ⟨true,6,[Xj N vR vP vA]⟩ /\
 Vr 5 [(1,Ji nm,vN),(2,ls.map Ja,vL),(2,R.map J9,vR),(2,P.map J9,vP),(1,A.map Yg,vA)] h n
structure SI (r:Jy) (f:K3) (N:Nat) (nm:List Je) (ls R P:List Jc) (A:List (List Jc)) (h:J8) (n:Nat):Prop where
 hz:h 1=some ⟨true,6,[[.int .i64 0,.nil 2,.nil 2,.nil 1,.int .i64 0,.nil 1]]⟩
 hr:h 2=some ⟨true,7,[Jr r]⟩
 h3:h 3=some ⟨false,1,Ji f.Params⟩
 hf:h 5=some ⟨true,4,[[.str f.Name,.ref 3 0 f.Params.length,.bool f.ListResult,.ref 4 0 f.Pre.length]]⟩
 lt:8<n
 acc:K1p N nm ls R P A h n
section
variable {r:Jy}{f:K3}{N:Nat}{nm nm':List Je}{ls R P ls' R' P':List Jc}{A A':List (List Jc)}{h H:J8}{n n':Nat}
theorem SI.frame (M:SI r f N nm ls R P A h n) (hn:n<=n') (hh:∀id,id<n->H id=h id):SI r f N nm ls R P A H n':=by have l1:=M.lt;obtain⟨vN,vL,vR,vP,vA,e8,e7,AS⟩:=M.acc;exact⟨by rw[hh _ (by omega),M.hz],by rw[hh _ (by omega),M.hr],by rw[hh _ (by omega),M.h3],by rw[hh _ (by omega),M.hf],by omega,vN,vL,vR,vP,vA,by rw[hh _ (by omega),e8],by rw[hh _ (by omega),e7],AS.frame hn λid _ hid=>hh id hid⟩
theorem SI.app (M:SI r f N nm ls R P A h n) {vN vL vR vP vA vN' vL' vR' vP' vA':AV}{l1 l2:List (Nat×List (List AV)×AV)}{x x':Nat×List (List AV)×AV}(hn:n<=n') (e8:h 8=some ⟨true,2,[[vN,vL]]⟩) (e7:h 7=some ⟨true,6,[Xj N vR vP vA]⟩)
 (AS:Vr 5 (l1++x::l2) h n) (e8':H 8=some ⟨true,2,[[vN',vL']]⟩) (e7':H 7=some ⟨true,6,[Xj N vR' vP' vA']⟩) (hx:Kn 5 x'.1 x'.2.1 x'.2.2 H n') (hnew:∀i k,x'.2.2 = .ref i 0 k->n<=i)
 (hH:∀id,id<n->id≠7->id≠8->(∀k,x.2.2 ≠ .ref id 0 k)->H id=h id)
 (hl:l1++x'::l2=[(1,Ji nm',vN'),(2,ls'.map Ja,vL'),(2,R'.map J9,vR'),(2,P'.map J9,vP'),(1,A'.map Yg,vA')]):SI r f N nm' ls' R' P' A' H n':=by
 have l1':=M.lt
 have low:∀id,id<=5->H id=h id:=by
  intro id hid;refine hH id (by omega) (by omega) (by omega) λk e=>?_
  have:=((AS.1 x (by simp)).lt e).1;omega
 refine⟨by rw[low _ (by omega),M.hz],by rw[low _ (by omega),M.hr],by rw[low _ (by omega),M.h3],by rw[low _ (by omega),M.hf],by omega,vN',vL',vR',vP',vA',e8',e7',?_⟩;rw[<-hl];refine AS.step hx hnew hn λid hb hid hf hne=>hH id hid ?_ ?_ hne
 ·rintro rfl;obtain⟨z,rows,hf⟩:=hf;rw[e7]at hf;simp at hf
 ·rintro rfl;obtain⟨z,rows,hf⟩:=hf;rw[e8]at hf;simp at hf
end
section
variable {ks:List Kt}{s:Jm}{h h':J8}{n N:Nat}{Q:Xc}{r:Jy}{f:K3}{nm:List Je}{ls R P:List Jc}{A:List (List Jc)}
theorem Jfs{i:Nat}(hi:i<f.Params.length)(s6:s 6 = .ptr 5 0 0)(s11:s 11 = .ptr 8 0 0)(s12:s 12 = .int .i64 i)(M:SI r f N nm ls R P A h n)(hl:nm.length<=1048576)
 (hK:∀s' h' n',(∀j,j<59->s' j=s j)->SI r f N (nm++[f.Params[i]]) ls R P A h' n'->Ju prog ks .normal s' h' n' Q):rC prog Jvp ks s h n Q:=by
 have l1:=M.lt;obtain⟨vN,vL,vR,vP,vA,e8,e7,AS⟩:=M.acc;have y1:=AS.1 (1,Ji nm,vN) (by simp);have ne:¬8=n/\¬7=n/\¬n=7/\¬n=6/\¬n=8/\¬8=n+1/\¬7=n+1/\¬n+1=8:=by omega
 have frn:∀id,id<n->¬id=n/\¬id=n+1:=by intro id _;omega
 have kp:∀j,j<59->¬j=59/\¬j=60/\¬j=61/\¬j=62/\¬j=63/\¬j=64/\¬j=65/\¬j=66/\¬j=67/\¬j=68:=by intro j _;omega
 simp[Jvp,s6,s11,s12,e8,M.hf,M.h3,hi,ne];refine Vw (rows:=Ji nm) (rows2:=[[.str f.Params[i]]]) (y1.keep (n':=n+1) (by omega) λid _ hid _=>by simp[frn id hid]) (by simp) (λl e=>by have:=(y1.lt e).2.1;omega) (by omega) (by simp[Ji];unfold Jb;omega) ?_;intro h1 f1 f2;have g8:h1 8=some ⟨true,2,[[vN,vL]]⟩:=by rw[f2 8 (by omega) (by omega) λl e=>y1.not_box e8 e];simp[ne,e8]
 have g7:h1 7=some ⟨true,6,[Xj N vR vP vA]⟩:=by rw[f2 7 (by omega) (by omega) λl e=>y1.not_box e7 e];simp[ne,e7]
 simp[g8,s11];refine hK _ _ _ (λj hj=>by simp[kp j hj]) (M.app (l1:=[]) (x:=(1,Ji nm,vN)) (x':=(1,Ji (nm++[f.Params[i]]),.ref (n+1) 0 (nm.length+1))) (l2:=[(2,ls.map Ja,vL),(2,R.map J9,vR),(2,P.map J9,vP),(1,A.map Yg,vA)]) (by omega) e8 e7 AS (by simp) (by simp[g7]) (.inr ⟨n+1,by omega,by omega,by simp[Ji],by simp[ne,f1,Ji]⟩) (λi k e=>by simp only[AV.ref.injEq]at e;omega) ?_ rfl);intro id h1' h2' h3' h4';simp[h3',f2 id (by omega) (by omega) h4',frn id h1']
theorem Jhm{i:Nat}(s9:s 9 = .int .i64 N)(s11:s 11 = .ptr 8 0 0)(s12:s 12 = .int .i64 i)(M:SI r f N nm ls R P A h n)(hl:ls.length<=1048576)
 (hK:∀s' h' n',(∀j,j<59->s' j=s j)->SI r f N nm (ls++[Ka i N]) R P A h' n'->Ju prog ks .normal s' h' n' Q):rC prog Jwa ks s h n Q:=by
 have l1:=M.lt;obtain⟨vN,vL,vR,vP,vA,e8,e7,AS⟩:=M.acc;have y1:=AS.1 (2,ls.map Ja,vL) (by simp);have ne:¬8=n/\¬7=n/\¬n=7/\¬n=6/\¬n=8/\¬8=n+1/\¬7=n+1/\¬n+1=8:=by omega
 have frn:∀id,id<n->¬id=n/\¬id=n+1:=by intro id _;omega
 have kp:∀j,j<59->¬j=69/\¬j=70/\¬j=71/\¬j=72/\¬j=73/\¬j=74/\¬j=75/\¬j=76:=by intro j _;omega
 simp[Jwa,s9,s11,s12,e8];refine D5 (Mo i N) (by simp) ?_;rintro _ rfl;simp[e8,ne,s11];refine Vw (rows:=ls.map Ja) (rows2:=[Ja (Ka i N)]) (y1.keep (n':=n+1) (by omega) λid _ hid _=>by simp[frn id hid]) (by simp) (λl e=>by have:=(y1.lt e).2.1;omega) (by omega) (by simp;unfold Jb;omega) ?_;intro h1 f1 f2;have g8:h1 8=some ⟨true,2,[[vN,vL]]⟩:=by rw[f2 8 (by omega) (by omega) λl e=>y1.not_box e8 e];simp[ne,e8]
 have g7:h1 7=some ⟨true,6,[Xj N vR vP vA]⟩:=by rw[f2 7 (by omega) (by omega) λl e=>y1.not_box e7 e];simp[ne,e7]
 simp[g8,s11];refine hK _ _ _ (λj hj=>by simp[kp j hj]) (M.app (l1:=[(1,Ji nm,vN)]) (x:=(2,ls.map Ja,vL)) (x':=(2,(ls++[Ka i N]).map Ja,.ref (n+1) 0 (ls.length+1))) (l2:=[(2,R.map J9,vR),(2,P.map J9,vP),(1,A.map Yg,vA)]) (by omega) e8 e7 AS (by simp) (by simp[g7]) (.inr ⟨n+1,by omega,by omega,by simp,by simp[ne,f1]⟩) (λi k e=>by simp only[AV.ref.injEq]at e;omega) ?_ rfl);intro id h1' h2' h3' h4';simp[h3',f2 id (by omega) (by omega) h4',frn id h1']
theorem Jfp{i:Nat}(s9:s 9 = .int .i64 N)(s10:s 10 = .ptr 7 0 0)(s12:s 12 = .int .i64 i)(M:SI r f N nm ls R P A h n)(hl:P.length<=1048576)
 (hK:∀s' h' n',(∀j,j<59->s' j=s j)->SI r f N nm ls R (P++[Ka i N]) A h' n'->Ju prog ks .normal s' h' n' Q):rC prog Tv ks s h n Q:=by
 have l1:=M.lt;obtain⟨vN,vL,vR,vP,vA,e8,e7,AS⟩:=M.acc;have y1:=AS.1 (2,P.map J9,vP) (by simp);have ne:¬8=n/\¬7=n/\¬n=7/\¬n=6/\¬n=8/\¬8=n+1/\¬7=n+1/\¬n+1=8/\¬n+1=7/\¬n=n+1/\¬n+1=n/\¬n=5:=by omega
 have frn:∀id,id<n->¬id=n/\¬id=n+1/\¬id=n+2:=by intro id _;omega
 have kp:∀j,j<59->¬j=77/\¬j=78/\¬j=79/\¬j=80/\¬j=81/\¬j=82/\¬j=83/\¬j=84:=by intro j _;omega
 simp[Tv,s9,s10,s12,e7,Xj];refine Jw (Mo i N) (by simp) ?_;rintro r rfl;generalize Ka i N=l at *;simp[J9,e7,ne,s10,Xj];refine Vw (rows:=P.map J9) (rows2:=[[.int .i64 l.Const,.us 1 (Jg l.Coeffs)]]) (y1.keep (n':=n+1+1) (by omega) λid _ hid _=>by simp[frn id hid]) (by simp) (λl e=>by have:=(y1.lt e).2.1;omega) (by omega) (by simp;unfold Jb;omega) ?_;intro h1 f1 f2;have g8:h1 8=some ⟨true,2,[[vN,vL]]⟩:=by rw[f2 8 (by omega) (by omega) λl e=>y1.not_box e8 e];simp[ne,e8]
 have g7:h1 7=some ⟨true,6,[Xj N vR vP vA]⟩:=by rw[f2 7 (by omega) (by omega) λl e=>y1.not_box e7 e];simp[ne,e7]
 simp[g7,s10,Xj];refine hK _ _ _ (λj hj=>by simp[kp j hj]) (M.app (l1:=[(1,Ji nm,vN),(2,ls.map Ja,vL),(2,R.map J9,vR)]) (x:=(2,P.map J9,vP)) (x':=(2,(P++[l]).map J9,.ref (n+2) 0 (P.length+1))) (l2:=[(1,A.map Yg,vA)]) (by omega) e8 e7 AS (by simp[g8]) (by simp[Xj]) (.inr ⟨n+2,by omega,by omega,by simp,by simp[ne,f1,J9]⟩) (λi k e=>by simp only[AV.ref.injEq]at e;omega) ?_ rfl);intro id h1' h2' h3' h4';simp[h2',f2 id (by omega) (by omega) h4',frn id h1']
end
section
variable {ks:List Kt}{s:Jm}{h h':J8}{n N:Nat}{Q:Xc}{r:Jy}{f:K3}{nm:List Je}{ls R P:List Jc}{A:List (List Jc)}
def SM(r:Jy)(f:K3)(N:Nat)(ms:MS)(h:J8)(n:Nat):Prop:=SI r f N (Kj ms.E) (Y4 ms.E) ms.rows ms.pars ms.args h n
theorem Jn2{R0:List Jc}(s6:s 6 = .ptr 5 0 0)(s8:s 8 = .int .i64 f.Params.length)(s9:s 9 = .int .i64 N)(s10:s 10 = .ptr 7 0 0)(s11:s 11 = .ptr 8 0 0)(M:SM r f N ⟨[],0,R0,[],[]⟩ h n)(hp2:f.Params.length<=2)
 (hK:∀s' h' n',(∀j∈[2,4,5,6,8,9,10,11],s' j=s j)->SM r f N (f.Params.foldl (Yv N) ⟨[],0,R0,[],[]⟩) h' n'->Ju prog ks .normal s' h' n' Q):rC prog lm7 ks s h n Q:=by
 simp[lm7];generalize hT:f.Params.foldl (Yv N) ⟨[],0,R0,[],[]⟩=T at hK
 refine Ki [2,4,5,6,8,9,10,11] 12 f.Params.length (λi s h m=>∃ms:MS,(f.Params.drop i).foldl (Yv N) ms=T/\SM r f N ms h m/\ms.nx=i/\ms.E.length<=i/\ms.pars.length<=i) (by unfold Jb;omega) (by simp)
  ⟨_,by simpa using hT,M,rfl,by simp,by simp⟩ ?_ ?_
 ·rintro i st h' m Rr hi hg hk s12 hw ⟨ms,hJ,M,hb1,hb2,hb3⟩ hR _ _;simp at hk;rw[drop_eq_getElem_cons hi,foldl_cons]at hJ;refine Jn (Js [2,4,5,6,8,9,10,11,12] (λs=>s 56 = .bool true) (by simp[hk,s12,s8,hi]) ?_);intro Jv hk1 s56;simp at hk1;refine Uh s56 (Jn (Xg ?_));refine Jn (Jfs (i:=i) hi (by simp[hk1,hk,s6]) (by simp[hk1,hk,s11]) (by simp[hk1,s12]) M (by simp[Kj];omega) ?_);intro st2 h2 m2 hk2 M2;refine Ua (Jn (Jhm (i:=i) (by simp[hk2 9 (by omega),hk1,hk,s9]) (by simp[hk2 11 (by omega),hk1,hk,s11]) (by simp[hk2 12 (by omega),hk1,s12]) M2 (by simp[Y4];omega) ?_));intro Kl h3 m3 hk3 M3;refine Ua (Jfp (i:=i) (by simp[hk3 9 (by omega),hk2 9 (by omega),hk1,hk,s9]) (by simp[hk3 10 (by omega),hk2 10 (by omega),hk1,hk,s10]) (by simp[hk3 12 (by omega),hk2 12 (by omega),hk1,s12]) M3 (by omega) ?_);intro st4 h4 m4 hk4 M4
  have kp:∀j∈[2,4,5,6,8,9,10,11,12],st4 j=st j:=by simp[hk4 2 (by omega),hk4 4 (by omega),hk4 5 (by omega),hk4 6 (by omega),hk4 8 (by omega),hk4 9 (by omega),hk4 10 (by omega),hk4 11 (by omega),hk4 12 (by omega),hk3 2 (by omega),hk3 4 (by omega),hk3 5 (by omega),hk3 6 (by omega),hk3 8 (by omega),hk3 9 (by omega),hk3 10 (by omega),hk3 11 (by omega),hk3 12 (by omega),hk2 2 (by omega),hk2 4 (by omega),hk2 5 (by omega),hk2 6 (by omega),hk2 8 (by omega),hk2 9 (by omega),hk2 10 (by omega),hk2 11 (by omega),hk2 12 (by omega),hk1]
  simp at kp;simp[kp,s12,hw];refine hR _ _ _ (by simp[kp,hk]) (by simp) ⟨Yv N ms f.Params[i],hJ,?_,by show ms.nx+1=_;omega,by show(ms.E++_).length<=_;simp;omega,by show(ms.pars++_).length<=_;simp;omega⟩;have e1:Kj (Yv N ms f.Params[i]).E=Kj ms.E++[f.Params[i]]:=by simp[Yv,Kj]
  have e2:Y4 (Yv N ms f.Params[i]).E=Y4 ms.E++[Ka i N]:=by simp[Yv,Y4,hb1]
  have e3:(Yv N ms f.Params[i]).pars=ms.pars++[Ka i N]:=by simp[Yv,hb1]
  unfold SM;rw[e1,e2,e3];exact M4
 ·rintro st h' m Rr hk s12 ⟨ms,hJ,M,hb1,hb2,hb3⟩ _ hX;simp at hk;rw[drop_eq_nil_of_le (by omega)]at hJ;simp only[foldl_nil]at hJ;subst hJ;refine Jn (Js [2,4,5,6,8,9,10,11] (λs=>s 56 = .bool false) (by simp[hk,s12,s8]) ?_);intro Jv hk1 s56;simp at hk1;refine U3 s56 ?_;refine hX _ _ _ _ ?_;simp;exact hK _ _ _ (by simp[hk1,hk]) M
theorem Jn8{N:Nat} : ∀{qs:List X2}{E:Xl}{k:Nat}{R0 P:List Jc}{A:List (List Jc)},(qs.foldl (Xp N) ⟨E,k,R0,P,A⟩)=⟨(qs.foldl (Xp N) ⟨E,k,[],[],[]⟩).E,(qs.foldl (Xp N) ⟨E,k,[],[],[]⟩).nx,R0++(qs.foldl (Xp N) ⟨E,k,[],[],[]⟩).rows,P,A⟩:=by
 intro qs
 induction qs with
 |nil=>intro E k R0 P A;simp
 |cons q qs ih=>
  intro E k R0 P A;simp only[foldl_cons]
  have h1:∀(R0 P:List Jc) (A:List (List Jc)),Xp N ⟨E,k,R0,P,A⟩ q=⟨(Xp N ⟨E,k,[],[],[]⟩ q).E,(Xp N ⟨E,k,[],[],[]⟩ q).nx,R0++(Xp N ⟨E,k,[],[],[]⟩ q).rows,P,A⟩:=by intro R0 P A;unfold Xp Ei;cases q.Cons <;>simp
  rw[h1 R0 P A,ih,h1 [] [] []];generalize Xp N ⟨E,k,[],[],[]⟩ q=x;rw[ih (R0:=[]++x.rows)];simp
theorem Jdx{b z bytes:Nat}{rows rows2:List (List AV)}{v y:AV}{h:J8}{n:Nat}{K:AV->J8->Nat->Prop}(B1:Kn b z rows v h n)(B2:Kn b z rows2 y h n)(hd:Dj v y)
 (hlen:(rows.length+rows2.length)*bytes<=Jb)
 (hK:∀h',h' n=some ⟨false,z,rows++rows2⟩->(∀id,id≠n->(∀l,v ≠ .ref id 0 l)->(∀l,y ≠ .ref id 0 l)->h' id=h id)->K (.ref n 0 (rows.length+rows2.length)) h' (n+1)) :
 F3 bytes z v y h n K:=by
 rcases B2 with ⟨rfl,rfl⟩|⟨k,_,hkn,rfl,hkb⟩
 ·rcases B1 with ⟨rfl,rfl⟩|⟨i,_,hin,rfl,hib⟩
  ·simp;simp at hK;exact hK _ (by simp) λid h1=>by simp[h1]
  ·have hne:¬i=n:=by omega
   simp[hib];refine⟨by simpa using hlen,?_⟩
   have:=hK (upd (upd h i Option.none) n (some ⟨false,z,rows⟩)) (by simp) λid h1 h2 _=>by
    have:¬id=i:=λe=>h2 rows.length (by rw[e])
    simp[h1,this]
   simpa[List.take_of_length_le]using this
 ·refine Vw B1 hkb (λl e=>hd k l _ e rfl) hkn hlen λh' e1 e2=>hK h' e1 λid h1 h2 h3=>e2 id h1 (λe=>h3 rows2.length (by rw[e])) h2
end
theorem Vr.step2 {b:Nat}{l1 l2:List (Nat×List (List AV)×AV)}{x x':Nat×List (List AV)×AV}{y:AV}{h h':J8}{n n':Nat}(A:Vr b (l1++x::l2) h n) (hy:∀c∈l1++x::l2,Dj c.2.2 y) (hx:Kn b x'.1 x'.2.1 x'.2.2 h' n') (hnew:∀i k,x'.2.2 = .ref i 0 k->n<=i) (hn:n<=n')
 (hh:∀id,b<id->id<n->(∃z rows,h id=some ⟨false,z,rows⟩)->(∀k,x.2.2 ≠ .ref id 0 k)->(∀k,y ≠ .ref id 0 k)->h' id=h id):Vr b (l1++x'::l2) h' n':=by
 obtain⟨A1,A2⟩:=A;rw[List.pairwise_append,pairwise_cons]at A2;obtain⟨p1,⟨p2,p3⟩,p4⟩:=A2;refine⟨?_,?_⟩
 ·intro c hc;rcases List.mem_append.1 hc with hc|hc
  ·have hm:c∈l1++x::l2:=List.mem_append_left _ hc;refine(A1 c hm).keep hn λid hb hid e=>hh id hb hid ⟨_,_,((A1 c hm).lt e).2.2.1⟩ (λk ek=>p4 c hc x List.mem_cons_self id _ k e ek) λk ek=>hy c hm id _ k e ek
  ·rcases mem_cons.1 hc with rfl|hc
   ·exact hx
   ·have hm:c∈l1++x::l2:=List.mem_append_right _ (List.mem_cons_of_mem _ hc);refine(A1 c hm).keep hn λid hb hid e=>hh id hb hid ⟨_,_,((A1 c hm).lt e).2.2.1⟩ (λk ek=>p2 c hc id k _ ek e) λk ek=>hy c hm id _ k e ek
 ·rw[List.pairwise_append,pairwise_cons];refine⟨p1,⟨λc hc i k l e1 e2=>?_,p3⟩,λc hc w hw i k l e1 e2=>?_⟩
  ·have g1:=hnew i k e1;have g2:=((A1 c (List.mem_append_right _ (List.mem_cons_of_mem _ hc))).lt e2).2.1;omega
  ·have g2:=((A1 c (List.mem_append_left _ hc)).lt e1).2.1;rcases mem_cons.1 hw with rfl|hw
   ·have g1:=hnew i l e2;omega
   ·exact p4 c hc w (List.mem_cons_of_mem _ hw) i k l e1 e2
theorem Dj.symm {v w:AV}(d:Dj v w):Dj w v:=λi k l e1 e2=>d i l k e2 e1
theorem Bn.dj {v0 v w:AV}{n0 b z:Nat}{rows:List (List AV)}{h:J8}(o:Bn v0 v n0) (d:Dj v0 w) (x:Kn b z rows w h n0):Dj v w:=by
 intro i k l e1 e2;rcases o with rfl|g
 ·exact d i k l e1 e2
 ·have:=g i k e1;have:=(x.lt e2).2.1;omega
section
variable {ks:List Kt}{s:Jm}{h h':J8}{n N:Nat}{Q:Xc}{r:Jy}{f:K3}
theorem Jhz{ms:MS}{c:AC}{m:Nat}(s5:s 5 = .ptr 2 0 0)(s8:s 8 = .int .i64 m)(s9:s 9 = .int .i64 N)(s10:s 10 = .ptr 7 0 0)(s11:s 11 = .ptr 8 0 0)(M:SM r f N ms h n)(hN:N<=8)(hat:m<=1000)(hE:ms.E.length<=1000)(hp:r.Patterns.length<=100)(hR:ms.rows.length<=100000)
 (hin:∀q∈r.Patterns,q.Lst∈Kj ms.E) (hv:∀e∈ms.E,e.2.Coeffs.length<=8) (hRr:(r.Patterns.foldl (Xp N) ⟨ms.E,m,[],[],[]⟩).rows.length<=100000)
 (hK:∀s' h' n',(∀j∈[2,4,5,6,8,9,10,11],s' j=s j)->SM r f N (r.Patterns.foldl (Xp N) (Wf ms m)) h' n'->rC prog c ks s' h' n' Q):rC prog (.seq lm8 (.seq lm9 c)) ks s h n Q:=by
 have hfold:=Jn8 (N:=N) (qs:=r.Patterns) (E:=ms.E) (k:=m) (R0:=ms.rows) (P:=ms.pars) (A:=ms.args);have hatd:Wf ms m=⟨ms.E,m,ms.rows,ms.pars,ms.args⟩:=rfl;rw[hatd,hfold]at hK;generalize hT:r.Patterns.foldl (Xp N) ⟨ms.E,m,[],[],[]⟩=T at *;have l1:=M.lt;obtain⟨vN,vL,vR,vP,vA,e8,e7,AS⟩:=M.acc;obtain⟨AS1,AS2⟩:=AS;simp only[pairwise_cons,mem_cons,not_mem_nil,or_false,forall_eq_or_imp,forall_eq]at AS2;obtain⟨⟨d1,d2,d3,d4⟩,⟨d5,d6,d7⟩,⟨d8,d9⟩,d10,_⟩:=AS2;have yN:=AS1 (1,Ji (Kj ms.E),vN) (by simp);have yL:=AS1 (2,(Y4 ms.E).map Ja,vL) (by simp);have yR:=AS1 (2,ms.rows.map J9,vR) (by simp);have yP:=AS1 (2,ms.pars.map J9,vP) (by simp);have yA:=AS1 (1,ms.args.map Yg,vA) (by simp)
 refine Xo [2,4,5,6,8,9,10,11] (λs' h' n'=>∃vN' vL' vRr,s' 13=vRr/\n<=n'/\(∀id,id<=5->h' id=h id)/\h' 8=some ⟨true,2,[[vN',vL']]⟩/\h' 7=some ⟨true,6,[Xj N vR vP vA]⟩ /\
  Vr 5 [(1,Ji (Kj T.E),vN'),(2,(Y4 T.E).map Ja,vL'),(2,ms.rows.map J9,vR),(2,ms.pars.map J9,vP),(1,ms.args.map Yg,vA)] h' n'/\Kn 5 2 (T.rows.map J9) vRr h' n' /\
  ∀x∈[(1,Ji (Kj T.E),vN'),(2,(Y4 T.E).map Ja,vL'),(2,ms.rows.map J9,vR),(2,ms.pars.map J9,vP),(1,ms.args.map Yg,vA)],Dj x.2.2 vRr) ?_ ?_
 ·simp[lm8,s11,e8,s5,M.hr,s8,s9];refine Je1 (b:=5) (E0:=ms.E) (vN0:=vN) (vL0:=vL) ⟨λx hx=>?_,by simpa using d1⟩ (by omega) hN hat hE hp hin hv ?_
  ·simp only[mem_cons,not_mem_nil,or_false]at hx;rcases hx with rfl|rfl
   ·exact yN
   ·exact yL
  rw[hT];intro vN' vL' vRr h1 n1 hn1 hfr1 B o1 o2 o3;obtain⟨B1,B2⟩:=B;simp only[pairwise_cons,mem_cons,not_mem_nil,or_false,forall_eq_or_imp,forall_eq]at B2;obtain⟨⟨b1,b2⟩,b3,_⟩:=B2;have zN:=B1 (1,Ji (Kj T.E),vN') (by simp);have zL:=B1 (2,(Y4 T.E).map Ja,vL') (by simp);have zR:=B1 (2,T.rows.map J9,vRr) (by simp);have cN:=zN.cell;have cL:=zL.cell;have g8:h1 8=some ⟨true,2,[[vN,vL]]⟩:=by rw[hfr1 8 (by omega) (λk e=>yN.not_box e8 e) (λk e=>yL.not_box e8 e),e8]
  have g7:h1 7=some ⟨true,6,[Xj N vR vP vA]⟩:=by rw[hfr1 7 (by omega) (λk e=>yN.not_box e7 e) (λk e=>yL.not_box e7 e),e7]
  simp[s11,g8,-K8,cN,cL];have dR1:Dj vN' vR:=o1.dj d2 yR;have dR2:Dj vN' vP:=o1.dj d3 yP;have dR3:Dj vN' vA:=o1.dj d4 yA;have dL1:Dj vL' vR:=o2.dj d5 yR;have dL2:Dj vL' vP:=o2.dj d6 yP;have dL3:Dj vL' vA:=o2.dj d7 yA;have nilD:∀w,Dj (.nil 2) w:=λw i k l e1 _=>by cases e1
  have dr1:Dj vRr vR:=o3.dj (nilD _) yR;have dr2:Dj vRr vP:=o3.dj (nilD _) yP;have dr3:Dj vRr vA:=o3.dj (nilD _) yA
  have up8:∀{z:Nat}{rows:List (List AV)}{v:AV},Kn 5 z rows v h1 n1->Kn 5 z rows v (upd h1 8 (some ⟨true,2,[[vN',vL']]⟩)) n1:=by
   intro z rows v x;refine x.keep (Nat.le_refl _) λid _ _ e=>?_
   have:¬id=8:=by rintro rfl;exact x.not_box g8 e
   simp[this]
  have mv:∀{z:Nat}{rows:List (List AV)}{v:AV},Kn 5 z rows v h n->Dj vN v->Dj vL v->Kn 5 z rows v h1 n1:=λx p q=>x.keep hn1 λid _ hid e=>hfr1 id hid (λk e'=>p id k _ e' e) λk e'=>q id k _ e' e
  refine⟨hn1,?_,vN',vL',⟨⟨rfl,rfl⟩,by simpa using g7,⟨?_,?_⟩,up8 zR,?_⟩⟩
  ·intro id hid;have:¬id=8:=by omega
   simp[this];exact hfr1 id (by omega) (λk e=>by have:=(yN.lt e).1;omega) λk e=>by have:=(yL.lt e).1;omega
  ·intro x hx;simp only[mem_cons,not_mem_nil,or_false]at hx;rcases hx with rfl|rfl|rfl|rfl|rfl
   ·exact up8 zN
   ·exact up8 zL
   ·exact up8 (mv yR d2 d5)
   ·exact up8 (mv yP d3 d6)
   ·exact up8 (mv yA d4 d7)
  ·simp only[pairwise_cons,mem_cons,not_mem_nil,or_false,forall_eq_or_imp,forall_eq];exact⟨⟨b1,dR1,dR2,dR3⟩,⟨dL1,dL2,dL3⟩,⟨d8,d9⟩,d10,by simp⟩
  ·exact⟨b2,b3,dr1.symm,dr2.symm,dr3.symm⟩
 rintro s1 h1 n1 hk1 ⟨vN',vL',vRr,s13,hn1,low,f8,f7,B,zR,hdj⟩;simp at hk1;have u10:s1 10 = .ptr 7 0 0:=by rw[hk1.2.2.2.2.2.2.1,s10]
 have wR:=B.1 (2,ms.rows.map J9,vR) (by simp);refine Jn ?_;simp[lm9,u10,f7,Xj,s13];refine Jdx (rows:=ms.rows.map J9) (rows2:=T.rows.map J9) wR zR (hdj (2,ms.rows.map J9,vR) (by simp)) (by simp;unfold Jb;omega) ?_;intro h2 q1 q2;have ne:¬7=n1/\¬8=n1/\¬n1=7/\¬n1=8:=by omega
 have k7:h2 7=some ⟨true,6,[Xj N vR vP vA]⟩:=by rw[q2 7 (by omega) (λl e=>wR.not_box f7 e) (λl e=>zR.not_box f7 e),f7]
 have k8:h2 8=some ⟨true,2,[[vN',vL']]⟩:=by rw[q2 8 (by omega) (λl e=>wR.not_box f8 e) (λl e=>zR.not_box f8 e),f8]
 simp[k7,u10,Xj];refine hK _ _ _ (by simp[hk1]) ?_
 have low2:∀id,id<=5->upd h2 7 (some ⟨true,6,[Xj N (.ref n1 0 (ms.rows.length+T.rows.length)) vP vA]⟩) id=h id:=by
  intro id hid;have:¬id=7:=by omega
  rw[<-low id hid];simp[this];exact q2 id (by omega) (λk e=>by have:=(wR.lt e).1;omega) λk e=>by have:=(zR.lt e).1;omega
 simp only[Xj]at low2;refine⟨by rw[low2 1 (by omega),M.hz],by rw[low2 2 (by omega),M.hr],by rw[low2 3 (by omega),M.h3],by rw[low2 5 (by omega),M.hf],by omega,vN',vL',.ref n1 0 (ms.rows.length+T.rows.length),vP,vA,by simp[k8],by simp[Xj],?_⟩;refine Vr.step2 (l1:=[(1,Ji (Kj T.E),vN'),(2,(Y4 T.E).map Ja,vL')]) (x:=(2,ms.rows.map J9,vR)) (x':=(2,(ms.rows++T.rows).map J9,.ref n1 0 (ms.rows.length+T.rows.length))) (l2:=[(2,ms.pars.map J9,vP),(1,ms.args.map Yg,vA)]) (y:=vRr) B hdj (.inr ⟨n1,by omega,by omega,by simp,by simp[ne,q1]⟩) (λi k e=>by simp only[AV.ref.injEq]at e;omega) (by omega) ?_;intro id hb hid hf h3 h4
 have:¬id=7:=by rintro rfl;obtain⟨z,rows,hf⟩:=hf;rw[f7]at hf;simp at hf
 simp[this];exact q2 id (by omega) h3 h4
end
section
variable {ks:List Kt}{s:Jm}{h h' h0:J8}{n n0 N:Nat}{Q:Xc}{r:Jy}{f:K3}{nm:List Je}{ls R P:List Jc}{A:List (List Jc)}
theorem SM.bws {ms:MS}(M:SM r f N ms h n):∃vN vL,h 8=some ⟨true,2,[[vN,vL]]⟩/\∀h',(∀id,id<n->h' id=h id)->bw vN h'=some (.sl 1 (Ji (Kj ms.E)))/\bw vL h'=some (.sl 2 ((Y4 ms.E).map Ja)):=by
 obtain⟨vN,vL,vR,vP,vA,e8,e7,AS⟩:=M.acc;refine⟨vN,vL,e8,λh' hh=>⟨?_,?_⟩⟩
 ·exact((AS.1 (1,Ji (Kj ms.E),vN) (by simp)).keep (Nat.le_refl _) λid _ hid _=>hh id hid).bwS
 ·exact((AS.1 (2,(Y4 ms.E).map Ja,vL) (by simp)).keep (Nat.le_refl _) λid _ hid _=>hh id hid).bwA
def J51(l:Jc)(v:AV)(h:J8)(n n':Nat):Prop:=∃k q,v = .ptr k 0 0/\n<=k/\n<=q/\k<n'/\q<n'/\h k=some ⟨true,2,[[.int .i64 l.Const,.ref q 0 l.Coeffs.length]]⟩/\h q=some ⟨false,1,Jg l.Coeffs⟩
theorem Jf3{ms:MS}{i:Nat}(hi:i<r.Guards.length)(s5:s 5 = .ptr 2 0 0)(s9:s 9 = .int .i64 N)(s11:s 11 = .ptr 8 0 0)(s14:s 14 = .int .i64 i)(M:SM r f N ms h n)(hE:ms.E.length<=1048576)(hx:(r.Guards[i]).Terms.length<=1048576)
 (hK:∀s' h' n',(∀j∈[2,4,5,6,8,9,10,11,14],s' j=s j)->n<=n'->(∀id,id<n->h' id=h id)->J51 (V3 ms.E N r.Guards[i]) (s' 15) h' n n'->Ju prog ks .normal s' h' n' Q):rC prog Jkr ks s h n Q:=by
 obtain⟨vN,vL,e8,hb⟩:=M.bws;obtain⟨b1,b2⟩:=hb h λ_ _=>rfl
 have b3:∀x,bw vN (upd h n x)=some (.sl 1 (Ji (Kj ms.E)))/\bw vL (upd h n x)=some (.sl 2 ((Y4 ms.E).map Ja)):=λx=>hb _ λid hid=>by
  have:¬id=n:=by omega
  simp[this]
 have fr:∀id,id<n->¬id=n/\¬id=n+1:=by intro id _;omega
 have ne:¬n=n+1/\¬n+1=n:=by omega
 simp[Jkr,s5,s9,s11,s14,e8,M.hr,Jr,hi];have hd:∀g,(F8 ms.E N g).getD Jl=V3 ms.E N g:=λ_=>rfl
 constructor
 ·skip;refine Jw (J2w ms.E hE (r.Guards[i]'hi) hx N) (by simp[G2,b1,b2]) ?_;rintro r rfl;rw[Xd,hd];generalize V3 ms.E N r.Guards[i]=l at *;simp[J9];exact hK _ _ _ (by simp) (by omega) (λid hid=>by simp[fr id hid]) ⟨n+1,n,by simp,by omega,by omega,by omega,by omega,by simp,by simp⟩
 ·skip;refine Jw (J2w ms.E hE (r.Guards[i]'hi) hx N) (by simp[G2,b3]) ?_;rintro r rfl;rw[Xd,hd];generalize V3 ms.E N r.Guards[i]=l at *;simp[J9];exact hK _ _ _ (by simp) (by omega) (λid hid=>by simp[fr id hid]) ⟨n,n+1,by simp,by omega,by omega,by omega,by omega,by simp,by simp⟩
theorem Jfb{l:Jc}(s10:s 10 = .ptr 7 0 0)(M:SI r f N nm ls R P A h0 n0)(hn:n0<=n)(hfr:∀id,id<n0->h id=h0 id)(L:J51 l (s 15) h n0 n)(hl:R.length<=1000000)
 (hK:∀s' h' n',(∀j∈[2,4,5,6,8,9,10,11,14],s' j=s j)->SI r f N nm ls (R++[l]) P A h' n'->Ju prog ks .normal s' h' n' Q):rC prog Jku ks s h n Q:=by
 have l1:=M.lt;obtain⟨k,q,s15,x1,x2,x3,x4,x5,x6⟩:=L;obtain⟨vN,vL,vR,vP,vA,e8,e7,AS⟩:=M.acc;have y1:=AS.1 (2,R.map J9,vR) (by simp);have e7':h 7=some ⟨true,6,[Xj N vR vP vA]⟩:=by rw[hfr 7 (by omega),e7]
 have ne:¬8=n/\¬7=n/\¬n=7/\¬n=6/\¬n=8/\¬8=n+1/\¬7=n+1/\¬n+1=8/\¬n+1=7/\¬n=n+1/\¬n+1=n/\¬q=n/\¬q=7/\¬q=8/\¬7=q/\¬8=q:=by omega
 have frn:∀id,id<n0->¬id=n/\¬id=n+1/\¬id=q:=by intro id _;omega
 simp[Jku,s10,s15,e7',Xj,x5,x6];refine Vw (rows:=R.map J9) (rows2:=[[.int .i64 l.Const,.us 1 (Jg l.Coeffs)]]) (y1.keep (n':=n+1) (by omega) λid _ hid _=>by simp[frn id hid,hfr id hid]) (by simp) (λl e=>by have:=(y1.lt e).2.1;omega) (by omega) (by simp;unfold Jb;omega) ?_;intro h1 f1 f2;have g8:h1 8=some ⟨true,2,[[vN,vL]]⟩:=by rw[f2 8 (by omega) (by omega) λl e=>y1.not_box e8 e];simp[ne,hfr 8 (by omega),e8]
 have g7:h1 7=some ⟨true,6,[Xj N vR vP vA]⟩:=by rw[f2 7 (by omega) (by omega) λl e=>y1.not_box e7 e];simp[ne,hfr 7 (by omega),e7]
 simp[g7,s10,Xj];refine hK _ _ _ (by simp) (M.app (l1:=[(1,Ji nm,vN),(2,ls.map Ja,vL)]) (x:=(2,R.map J9,vR)) (x':=(2,(R++[l]).map J9,.ref (n+1) 0 (R.length+1))) (l2:=[(2,P.map J9,vP),(1,A.map Yg,vA)]) (by omega) e8 e7 AS (by simp[g8]) (by simp[Xj]) (.inr ⟨n+1,by omega,by omega,by simp,by simp[ne,f1,J9]⟩) (λi k e=>by simp only[AV.ref.injEq]at e;omega) ?_ rfl);intro id h1' h2' h3' h4';simp[h2',f2 id (by omega) (by omega) h4',frn id h1',hfr id h1']
theorem Jhj{ma:MS}(s5:s 5 = .ptr 2 0 0)(s9:s 9 = .int .i64 N)(s10:s 10 = .ptr 7 0 0)(s11:s 11 = .ptr 8 0 0)(M:SM r f N ma h n)(hE:ma.E.length<=1048576)(hg2:r.Guards.length<=2)(hts:∀g∈r.Guards,g.Terms.length<=1048576)(hR:ma.rows.length<=100000)
 (hK:∀s' h' n',(∀j∈[2,4,5,6,8,9,10,11],s' j=s j)->SM r f N (Y7 ma (r.Guards.map (V3 ma.E N))) h' n'->Ju prog ks .normal s' h' n' Q):rC prog Jvx ks s h n Q:=by
 simp[Jvx];refine Ki [2,4,5,6,8,9,10,11] 14 r.Guards.length (λi s h m=>SM r f N (Y7 ma ((r.Guards.map (V3 ma.E N)).take i)) h m) (by unfold Jb;omega) (by simp) (by simpa[Y7]using M) ?_ ?_
 ·rintro i st h' m Rr hi hg hk s14 hw M hR2 _ _;simp at hk;have hts:=hts _ (getElem_mem hi);have hM:=M.hr;refine Jn (Js [2,4,5,6,8,9,10,11,14] (λs=>s 104 = .bool true) (by simp[hk,s14,s5,hM,Jr,hi]) ?_);intro Jv hk1 s104;simp at hk1;refine Uh s104 (Jn (Xg ?_));refine Jn (Jf3 (i:=i) hi (by simp[hk1,hk,s5]) (by simp[hk1,hk,s9]) (by simp[hk1,hk,s11]) (by simp[hk1,s14]) M hE hts ?_);intro st2 h2 m2 hk2 hm2 hfr2 L2;simp at hk2;refine Ua (Jfb (by simp[hk2,hk1,hk,s10]) M hm2 hfr2 L2 (by simp[Y7];omega) ?_);intro Kl h3 m3 hk3 M3;simp at hk3;simp[hk3,hk2,hk1,s14,hw];refine hR2 _ _ _ (by simp[hk3,hk2,hk1,hk]) (by simp) ?_;rw[List.take_succ_eq_append_getElem (by simpa using hi)];have:(Y7 ma ((r.Guards.map (V3 ma.E N)).take i++[(r.Guards.map (V3 ma.E N))[i]'(by simpa using hi)])).rows=(Y7 ma ((r.Guards.map (V3 ma.E N)).take i)).rows++[V3 ma.E N r.Guards[i]]:=by simp[Y7]
  unfold SM;rw[this];exact M3
 ·rintro st h' m Rr hk s14 M _ hX;simp at hk;have hM:=M.hr;rw[List.take_of_length_le (by simp)]at M;refine Jn (Js [2,4,5,6,8,9,10,11] (λs=>s 104 = .bool false) (by simp[hk,s14,s5,hM,Jr]) ?_);intro Jv hk1 s104;simp at hk1;refine U3 s104 ?_;refine hX _ _ _ _ ?_;simp;exact hK _ _ _ (by simp[hk1,hk]) M
end
section
variable {ks:List Kt}{s:Jm}{h h' h0:J8}{n n0 N:Nat}{Q:Xc}{r:Jy}{f:K3}{nm:List Je}{ls R P:List Jc}{A:List (List Jc)}
theorem Jel{ms:MS}{i j:Nat}(hi:i<r.Calls.length)(hj:j<(r.Calls[i]).Args.length)(s5:s 5 = .ptr 2 0 0)(s9:s 9 = .int .i64 N)(s11:s 11 = .ptr 8 0 0)(s17:s 17 = .int .i64 i)(s19:s 19 = .int .i64 j)(M:SM r f N ms h n)(hE:ms.E.length<=1048576)
 (hx:∀y∈((r.Calls[i]).Args[j]).Heads,y.Terms.length<=1048576) (hne:((r.Calls[i]).Args[j]).Lst=false->0<((r.Calls[i]).Args[j]).Heads.length)
 (hK:∀s' h' n',(∀j∈[2,4,5,6,8,9,10,11,17,18,19],s' j=s j)->n<=n'->(∀id,id<n->h' id=h id)->J51 (Q9 ms.E N ((r.Calls[i]).Args[j])) (s' 20) h' n n'->Ju prog ks .normal s' h' n' Q):rC prog Tt ks s h n Q:=by
 obtain⟨vN,vL,e8,hb⟩:=M.bws;obtain⟨b1,b2⟩:=hb h λ_ _=>rfl
 have b3:∀x,bw vN (upd h n x)=some (.sl 1 (Ji (Kj ms.E)))/\bw vL (upd h n x)=some (.sl 2 ((Y4 ms.E).map Ja)):=λx=>hb _ λid hid=>by
  have:¬id=n:=by omega
  simp[this]
 have fr:∀id,id<n->¬id=n/\¬id=n+1:=by intro id _;omega
 have ne:¬n=n+1/\¬n+1=n:=by omega
 simp[Tt,s5,s9,s11,s17,s19,e8,M.hr,Jr,Kx,hi,hj];have hd:∀g,(C0 ms.E N g).getD Jl=Q9 ms.E N g:=λ_=>rfl
 constructor
 ·skip;refine Jw (J1o ms.E hE ((r.Calls[i]'hi).Args[j]'hj) hx hne N) (by simp[G2,b1,b2]) ?_;rintro r rfl;rw[Xd,hd];generalize Q9 ms.E N ((r.Calls[i]).Args[j])=l at *;simp[J9];exact hK _ _ _ (by simp) (by omega) (λid hid=>by simp[fr id hid]) ⟨n+1,n,by simp,by omega,by omega,by omega,by omega,by simp,by simp⟩
 ·skip;refine Jw (J1o ms.E hE ((r.Calls[i]'hi).Args[j]'hj) hx hne N) (by simp[G2,b3]) ?_;rintro r rfl;rw[Xd,hd];generalize Q9 ms.E N ((r.Calls[i]).Args[j])=l at *;simp[J9];exact hK _ _ _ (by simp) (by omega) (λid hid=>by simp[fr id hid]) ⟨n,n+1,by simp,by omega,by omega,by omega,by omega,by simp,by simp⟩
theorem Jem{ms:MS}{i:Nat}(hi:i<r.Calls.length)(s5:s 5 = .ptr 2 0 0)(s9:s 9 = .int .i64 N)(s11:s 11 = .ptr 8 0 0)(s17:s 17 = .int .i64 i)(M:SM r f N ms h0 n0)(hn:n0<=n)(hfr:∀id,id<n0->h id=h0 id)(hE:ms.E.length<=1048576)(hal:(r.Calls[i]).Args.length<=100)
 (B:Kn (n0 - 1) 2 [] (s 18) h n) (hx:∀x∈(r.Calls[i]).Args,∀y∈x.Heads,y.Terms.length<=1048576) (hne:∀x∈(r.Calls[i]).Args,x.Lst=false->0<x.Heads.length)
 (hK:∀s' h' n',(∀j∈[2,4,5,6,8,9,10,11,17],s' j=s j)->n0<=n'->(∀id,id<n0->h' id=h0 id)->Kn (n0 - 1) 2 (((r.Calls[i]).Args.map (Q9 ms.E N)).map J9) (s' 18) h' n'->Ju prog ks .normal s' h' n' Q):rC prog Jkq ks s h n Q:=by
 simp[Jkq];have l1:=M.lt;have hM:∀(h':J8),(∀id,id<n0->h' id=h0 id)->h' 2=some ⟨true,7,[Jr r]⟩:=λh' hh=>by rw[hh 2 (by omega),M.hr]
 generalize hT:(r.Calls[i]).Args.map (Q9 ms.E N)=T at hK
 refine Ki [2,4,5,6,8,9,10,11,17] 19 (r.Calls[i]).Args.length (λj s h m=>n0<=m/\(∀id,id<n0->h id=h0 id)/\∃acc:List Jc,Kn (n0 - 1) 2 (acc.map J9) (s 18) h m/\acc++((r.Calls[i]).Args.drop j).map (Q9 ms.E N)=T/\acc.length<=j) (by unfold Jb;omega) (by simp)
  ⟨hn,hfr,[],by simpa using B,by simpa using hT,by simp⟩ ?_ ?_
 ·rintro j st h' m Rr hj hg hk s19 hw ⟨hm,hfr',acc,hA,hJ,hacc⟩ hR _ _;simp at hk;rw[drop_eq_getElem_cons hj,List.map_cons]at hJ;have hx:=hx _ (getElem_mem hj);have hne:=hne _ (getElem_mem hj);refine Jn (Js [2,4,5,6,8,9,10,11,17,18,19] (λs=>s 142 = .bool true) (by simp[hk,s19,s5,s17,hM h' hfr',Jr,Kx,hi,hj]) ?_);intro Jv hk1 s142;simp at hk1;refine Uh s142 (Jn (Xg ?_));have M1:SM r f N ms h' m:=SI.frame M hm hfr';refine Jn (Jel (i:=i) (j:=j) hi hj (by simp[hk1,hk,s5]) (by simp[hk1,hk,s9]) (by simp[hk1,hk,s11]) (by simp[hk1,hk,s17]) (by simp[hk1,s19]) M1 hE hx hne ?_);intro st2 h2 m2 hk2 hm2 hfr2 L2;simp at hk2;obtain⟨k,q,s20,x1,x2,x3,x4,x5,x6⟩:=L2;generalize Q9 ms.E N ((r.Calls[i]).Args[j])=l at *;have u18:st2 18=st 18:=by rw[hk2.2.2.2.2.2.2.2.2.2.1,hk1.2.2.2.2.2.2.2.2.2.1]
  refine Ua ?_;have nq:¬q=m2:=by omega
  have frn:∀id,id<m->¬id=m2/\¬id=m2+1/\¬id=q:=by intro id _;omega
  simp[Jpy,u18,s20,x5,x6];generalize hv18:st 18=v18 at *;refine Vw (rows:=acc.map J9) (rows2:=[[.int .i64 l.Const,.us 1 (Jg l.Coeffs)]]) (hA.keep (n':=m2+1) (by omega) λid _ hid _=>by simp[frn id hid,hfr2 id hid]) (by simp) (λl e=>by have:=(hA.lt e).2.1;omega) (by omega) (by simp;unfold Jb;omega) ?_;intro h3 f1 f2;simp[hk2,hk1,s19,hw];refine hR _ _ _ (by simp[hk2,hk1,hk]) (by simp) ⟨by omega,?_,acc++[l],?_,by simpa using hJ,by simp;omega⟩
  ·intro id hid;rw[f2 id (by omega) (by omega) λk e=>by have:=(hA.lt e).1;omega];simp[frn id (by omega),hfr2 id (by omega),hfr' id hid]
  ·simp;exact .inr ⟨m2+1,by omega,by omega,by simp,by simp[f1,J9]⟩
 ·rintro j st h' Rr hk s19 ⟨hm,hfr',acc,hA,hJ,hacc⟩ _ hX;simp at hk;rw[drop_eq_nil_of_le (by omega)]at hJ;simp at hJ;subst hJ;refine Jn (Js [2,4,5,6,8,9,10,11,17,18] (λs=>s 142 = .bool false) (by simp[hk,s19,s5,s17,hM _ hfr',Jr,Kx,hi]) ?_);intro Jv hk1 s142;simp at hk1;refine U3 s142 ?_;refine hX _ _ _ _ ?_;simp;refine hK _ _ _ (by simp[hk1,hk]) hm hfr' ?_;rw[hk1.2.2.2.2.2.2.2.2.2];exact hA
theorem Jeq{xs':List Jc}(s10:s 10 = .ptr 7 0 0)(M:SI r f N nm ls R P A h0 n0)(hn:n0<=n)(hfr:∀id,id<n0->h id=h0 id)(B:Kn (n0 - 1) 2 (xs'.map J9) (s 18) h n)(hl:A.length<=1000000)(hl2:xs'.length<=1000000)
 (hK:∀s' h' n',(∀j∈[2,4,5,6,8,9,10,11,17],s' j=s j)->SI r f N nm ls R P (A++[xs']) h' n'->Ju prog ks .normal s' h' n' Q):rC prog Tu ks s h n Q:=by
 have l1:=M.lt;obtain⟨vN,vL,vR,vP,vA,e8,e7,AS⟩:=M.acc;have y1:=AS.1 (1,A.map Yg,vA) (by simp);have e7':h 7=some ⟨true,6,[Xj N vR vP vA]⟩:=by rw[hfr 7 (by omega),e7]
 have ne:¬8=n/\¬7=n/\¬n=7/\¬n=6/\¬n=8/\¬8=n+1/\¬7=n+1/\¬n+1=8/\¬n+1=7/\¬n=n+1/\¬n+1=n:=by omega
 obtain⟨hd,dt1,fd⟩:=B.dt;have fdn:∀id,id<n0->hd id=h0 id:=λid hid=>by rw[fd id λl e=>by have:=(B.lt e).1;omega,hfr id hid]
 have frn:∀id,id<n0->¬id=n/\¬id=n+1:=by intro id _;omega
 have cB:=B.cell;simp[Tu,s10,e7',Xj,dt1];refine Vw (rows:=A.map Yg) (rows2:=[[.us 2 (xs'.map J9)]]) (y1.keep (n':=n+1) (by omega) λid _ hid _=>by simp[frn id hid,fdn id hid]) (by simp) (λl e=>by have:=(y1.lt e).2.1;omega) (by omega) (by simp;unfold Jb;omega) ?_;intro h1 f1 f2;have g8:h1 8=some ⟨true,2,[[vN,vL]]⟩:=by rw[f2 8 (by omega) (by omega) λl e=>y1.not_box e8 e];simp[ne,fdn 8 (by omega),e8]
 have g7:h1 7=some ⟨true,6,[Xj N vR vP vA]⟩:=by rw[f2 7 (by omega) (by omega) λl e=>y1.not_box e7 e];simp[ne,fdn 7 (by omega),e7]
 simp[g7,s10,Xj];refine hK _ _ _ (by simp) (M.app (l1:=[(1,Ji nm,vN),(2,ls.map Ja,vL),(2,R.map J9,vR),(2,P.map J9,vP)]) (x:=(1,A.map Yg,vA)) (x':=(1,(A++[xs']).map Yg,.ref (n+1) 0 (A.length+1))) (l2:=[]) (by omega) e8 e7 AS (by simp[g8]) (by simp[Xj]) (.inr ⟨n+1,by omega,by omega,by simp,by simp[ne,f1,Yg]⟩) (λi k e=>by simp only[AV.ref.injEq]at e;omega) ?_ rfl);intro id h1' h2' h3' h4';simp[h2',f2 id (by omega) (by omega) h4',frn id h1',fdn id h1']
end
section
variable {ks:List Kt}{s:Jm}{h h' h0:J8}{n n0 N:Nat}{Q:Xc}{r:Jy}{f:K3}{nm:List Je}{ls R P:List Jc}{A:List (List Jc)}
theorem Jdj{i:Nat}(hi:i<r.Calls.length)(s5:s 5 = .ptr 2 0 0)(s11:s 11 = .ptr 8 0 0)(s17:s 17 = .int .i64 i)(M:SI r f N nm ls R P A h n)(hl:nm.length<=1048576)
 (hK:∀s' h' n',(∀j∈[2,4,5,6,8,9,10,11,17,22],s' j=s j)->n<=n'->(∀id z rows,id<n->id≠8->h id=some ⟨true,z,rows⟩->h' id=h id)->SI r f N (nm++[(r.Calls[i]).Bind]) ls R P A h' n'->Ju prog ks .normal s' h' n' Q):rC prog Jkg ks s h n Q:=by
 have l1:=M.lt;obtain⟨vN,vL,vR,vP,vA,e8,e7,AS⟩:=M.acc;have y1:=AS.1 (1,Ji nm,vN) (by simp);have ne:¬8=n/\¬7=n/\¬n=7/\¬n=6/\¬n=8/\¬8=n+1/\¬7=n+1/\¬n+1=8:=by omega
 have frn:∀id,id<n->¬id=n/\¬id=n+1:=by intro id _;omega
 simp[Jkg,s5,s11,s17,e8,M.hr,Jr,Kx,hi,ne];generalize(r.Calls[i]).Bind=x at *;refine Vw (rows:=Ji nm) (rows2:=[[.str x]]) (y1.keep (n':=n+1) (by omega) λid _ hid _=>by simp[frn id hid]) (by simp) (λl e=>by have:=(y1.lt e).2.1;omega) (by omega) (by simp[Ji];unfold Jb;omega) ?_;intro h1 f1 f2;have g8:h1 8=some ⟨true,2,[[vN,vL]]⟩:=by rw[f2 8 (by omega) (by omega) λl e=>y1.not_box e8 e];simp[ne,e8]
 have g7:h1 7=some ⟨true,6,[Xj N vR vP vA]⟩:=by rw[f2 7 (by omega) (by omega) λl e=>y1.not_box e7 e];simp[ne,e7]
 simp[g8,s11];refine hK _ _ _ (by simp) (by omega) ?_ (M.app (l1:=[]) (x:=(1,Ji nm,vN)) (x':=(1,Ji (nm++[x]),.ref (n+1) 0 (nm.length+1))) (l2:=[(2,ls.map Ja,vL),(2,R.map J9,vR),(2,P.map J9,vP),(1,A.map Yg,vA)]) (by omega) e8 e7 AS (by simp) (by simp[g7]) (.inr ⟨n+1,by omega,by omega,by simp[Ji],by simp[ne,f1,Ji]⟩) (λi k e=>by simp only[AV.ref.injEq]at e;omega) ?_ rfl)
 ·intro id z rows h1' h2' h3';simp[h2',f2 id (by omega) (by omega) λl e=>y1.not_box h3' e,frn id h1']
 intro id h1' h2' h3' h4';simp[h3',f2 id (by omega) (by omega) h4',frn id h1']
theorem Je6{l:Jc}{k:Nat}(s11:s 11 = .ptr 8 0 0)(s22:s 22 = .ptr k 0 0)(hkn:k<n)(hkb:h k=some ⟨true,2,[Ja l]⟩)(M:SI r f N nm ls R P A h n)(hl:ls.length<=1048576)
 (hK:∀s' h' n',(∀j∈[2,4,5,6,8,9,10,11,17,22],s' j=s j)->n<=n'->(∀id z rows,id<n->id≠8->h id=some ⟨true,z,rows⟩->h' id=h id)->SI r f N nm (ls++[l]) R P A h' n'->Ju prog ks .normal s' h' n' Q):rC prog Jkb ks s h n Q:=by
 have l1:=M.lt;obtain⟨vN,vL,vR,vP,vA,e8,e7,AS⟩:=M.acc;have y1:=AS.1 (2,ls.map Ja,vL) (by simp);have ne:¬8=n/\¬7=n/\¬n=7/\¬n=6/\¬n=8/\¬8=n+1/\¬7=n+1/\¬n+1=8:=by omega
 have frn:∀id,id<n->¬id=n/\¬id=n+1:=by intro id _;omega
 simp[Jkb,s11,s22,e8,hkb];refine Vw (rows:=ls.map Ja) (rows2:=[Ja l]) (y1.keep (n':=n+1) (by omega) λid _ hid _=>by simp[frn id hid]) (by simp) (λl e=>by have:=(y1.lt e).2.1;omega) (by omega) (by simp;unfold Jb;omega) ?_;intro h1 f1 f2;have g8:h1 8=some ⟨true,2,[[vN,vL]]⟩:=by rw[f2 8 (by omega) (by omega) λl e=>y1.not_box e8 e];simp[ne,e8]
 have g7:h1 7=some ⟨true,6,[Xj N vR vP vA]⟩:=by rw[f2 7 (by omega) (by omega) λl e=>y1.not_box e7 e];simp[ne,e7]
 simp[g8,s11];refine hK _ _ _ (by simp) (by omega) ?_ (M.app (l1:=[(1,Ji nm,vN)]) (x:=(2,ls.map Ja,vL)) (x':=(2,(ls++[l]).map Ja,.ref (n+1) 0 (ls.length+1))) (l2:=[(2,R.map J9,vR),(2,P.map J9,vP),(1,A.map Yg,vA)]) (by omega) e8 e7 AS (by simp) (by simp[g7]) (.inr ⟨n+1,by omega,by omega,by simp,by simp[ne,f1]⟩) (λi k e=>by simp only[AV.ref.injEq]at e;omega) ?_ rfl)
 ·intro id z rows h1' h2' h3';simp[h2',f2 id (by omega) (by omega) λl e=>y1.not_box h3' e,frn id h1']
 intro id h1' h2' h3' h4';simp[h3',f2 id (by omega) (by omega) h4',frn id h1']
theorem Jdz{l:Jc}{k:Nat}(s10:s 10 = .ptr 7 0 0)(s22:s 22 = .ptr k 0 0)(hkb:h k=some ⟨true,2,[Ja l]⟩)(M:SI r f N nm ls R P A h n)(hl:R.length<=1048576)(hl0:l.Coeffs.length<=1048576)
 (hK:∀s' h' n',(∀j∈[2,4,5,6,8,9,10,11,17],s' j=s j)->SI r f N nm ls (R++[l]) P A h' n'->Ju prog ks .normal s' h' n' Q):rC prog Jke ks s h n Q:=by
 have l1:=M.lt;obtain⟨vN,vL,vR,vP,vA,e8,e7,AS⟩:=M.acc;have y1:=AS.1 (2,R.map J9,vR) (by simp);have ne:¬8=n/\¬7=n/\¬n=7/\¬n=6/\¬n=8/\¬8=n+1/\¬7=n+1/\¬n+1=8/\¬n+1=7/\¬n=n+1/\¬n+1=n/\¬n=5:=by omega
 have frn:∀id,id<n->¬id=n/\¬id=n+1/\¬id=n+2:=by intro id _;omega
 simp[Jke,s10,s22,e7,Xj,hkb];refine Jw (E7 l hl0) (by simp) ?_;rintro r rfl;simp[J9,e7,ne,s10,Xj];refine Vw (rows:=R.map J9) (rows2:=[[.int .i64 l.Const,.us 1 (Jg l.Coeffs)]]) (y1.keep (n':=n+1+1) (by omega) λid _ hid _=>by simp[frn id hid]) (by simp) (λl e=>by have:=(y1.lt e).2.1;omega) (by omega) (by simp;unfold Jb;omega) ?_;intro h1 f1 f2;have g8:h1 8=some ⟨true,2,[[vN,vL]]⟩:=by rw[f2 8 (by omega) (by omega) λl e=>y1.not_box e8 e];simp[ne,e8]
 have g7:h1 7=some ⟨true,6,[Xj N vR vP vA]⟩:=by rw[f2 7 (by omega) (by omega) λl e=>y1.not_box e7 e];simp[ne,e7]
 simp[g7,s10,Xj];refine hK _ _ _ (by simp) (M.app (l1:=[(1,Ji nm,vN),(2,ls.map Ja,vL)]) (x:=(2,R.map J9,vR)) (x':=(2,(R++[l]).map J9,.ref (n+2) 0 (R.length+1))) (l2:=[(2,P.map J9,vP),(1,A.map Yg,vA)]) (by omega) e8 e7 AS (by simp[g8]) (by simp[Xj]) (.inr ⟨n+2,by omega,by omega,by simp,by simp[ne,f1,J9]⟩) (λi k e=>by simp only[AV.ref.injEq]at e;omega) ?_ rfl);intro id h1' h2' h3' h4';simp[h2',f2 id (by omega) (by omega) h4',frn id h1']
def okA(x:X8):Prop:=(∀y∈x.Heads,y.Terms.length<=4)/\(x.Lst=false->0<x.Heads.length)
theorem Jhu{ma:MS}(s5:s 5 = .ptr 2 0 0)(s9:s 9 = .int .i64 N)(s10:s 10 = .ptr 7 0 0)(s11:s 11 = .ptr 8 0 0)(M:SM r f N ma h n)(hN:N<=8)(hE:ma.E.length<=100000)(hc2:r.Calls.length<=2)(hcN:r.Calls.length<=N)(hnx:ma.nx=N - r.Calls.length)(hR:ma.rows.length<=100000)(hA:ma.args.length<=10)
 (hargs:∀c∈r.Calls,c.Args.length<=2/\∀x∈c.Args,okA x)
 (hK:∀s' h' n',(∀j∈[2,4,5,6,8,9,10,11],s' j=s j)->SM r f N (r.Calls.foldl (Wn N) ma) h' n'->Ju prog ks .normal s' h' n' Q):rC prog Jwb ks s h n Q:=by
 simp[Jwb];generalize hT:r.Calls.foldl (Wn N) ma=T at hK
 refine Ki [2,4,5,6,8,9,10,11] 17 r.Calls.length (λi s h m=>∃ms:MS,(r.Calls.drop i).foldl (Wn N) ms=T/\SM r f N ms h m/\ms.nx=N - r.Calls.length+i/\ms.E.length<=100000+i/\ms.rows.length<=100000+i/\ms.args.length<=10+i) (by unfold Jb;omega) (by simp)
  ⟨ma,by simpa using hT,M,by omega,by omega,by omega,by omega⟩ ?_ ?_
 ·rintro i st h' m Rr hi hg hk s17 hw ⟨ms,hJ,M,hb1,hb2,hb3,hb4⟩ hR2 _ _;simp at hk;rw[drop_eq_getElem_cons hi,foldl_cons]at hJ;obtain⟨ha1,ha2⟩:=hargs _ (getElem_mem hi);have hM:=M.hr;have l1:=M.lt;refine Jn (Js [2,4,5,6,8,9,10,11,17] (λs=>s 130 = .bool true) (by simp[hk,s17,s5,hM,Jr,hi]) ?_);intro Jv hk1 s130;simp at hk1;refine Uh s130 (Jn (Xg ?_));refine Xo [2,4,5,6,8,9,10,11,17] (λs h2 n2=>m<=n2/\(∀id,id<m->h2 id=h' id)/\Kn (m - 1) 2 [] (s 18) h2 n2) ?_ ?_
  ·simp;refine⟨λid hid=>?_,.inr ⟨m,by omega,by omega,by simp,by simp⟩⟩;have:¬id=m:=by omega
   simp[this]
  rintro st2 h2 m2 hk2 ⟨hm2,hfr2,B2⟩;simp at hk2;refine Jn (Jem (ms:=ms) (i:=i) hi (by simp[hk2,hk1,hk,s5]) (by simp[hk2,hk1,hk,s9]) (by simp[hk2,hk1,hk,s11]) (by simp[hk2,hk1,s17]) M hm2 hfr2 (by omega) (by omega) B2 (λx hx y hy=>by have:=(ha2 x hx).1 y hy;omega) (λx hx=>(ha2 x hx).2) ?_);intro Kl h3 m3 hk3 hm3 hfr3 B3;simp at hk3;refine Ua (Jn (Jeq (by simp[hk3,hk2,hk1,hk,s10]) M hm3 hfr3 B3 (by omega) (by simp;omega) ?_));intro st4 h4 m4 hk4 M4;simp at hk4;generalize hargsL:(r.Calls[i]).Args.map (Q9 ms.E N)=AL at *;have k4:∀j∈[2,4,5,6,8,9,10,11,17],st4 j=st j:=by simp[hk4,hk3,hk2,hk1]
  simp at k4;have hM4:=M4.hr;have hw1:IntKind.i64.wrap ((N:Int) - (r.Calls.length:Int))=((N - r.Calls.length:Nat):Int):=by rw[Kk (by omega)];omega
  have hw2:IntKind.i64.wrap (((N - r.Calls.length:Nat):Int)+(i:Int))=(ms.nx:Int):=by rw[Kk (by omega)];omega
  refine Ua (Xo [2,4,5,6,8,9,10,11,17] (λs h5 n5=>∃k,s 22 = .ptr k 0 0/\k<n5/\k≠8/\h5 k=some ⟨true,2,[Ja (Ka ms.nx N)]⟩/\SI r f N (Kj ms.E) (Y4 ms.E) ms.rows ms.pars (ms.args++[AL]) h5 n5) ?_ ?_)
  ·simp[k4,hk,s9,s5,hM4,Jr,s17,hw1,hw2];intro _;refine Cw (Mo ms.nx N) ?_ ?_
   ·simp
   rintro _ rfl;have fr:∀id,id<m4->¬id=m4:=by intro id _;omega
   have l4:=M4.lt;simp;exact⟨by omega,M4.frame (by omega) λid hid=>by simp[fr id hid]⟩
  rintro Ur h5 m5 hk5 ⟨k,s22,hkn,hk8,hkb,M5⟩;simp at hk5;refine Jn (Jdj (i:=i) hi (by simp[hk5,k4,hk,s5]) (by simp[hk5,k4,hk,s11]) (by simp[hk5,k4,s17]) M5 (by simp[Kj];omega) ?_);intro st6 h6 m6 hk6 hm6 bx6 M6;simp at hk6;have hkb6:h6 k=some ⟨true,2,[Ja (Ka ms.nx N)]⟩:=by rw[bx6 k _ _ hkn hk8 hkb,hkb]
  refine Ua (Jn (Je6 (l:=Ka ms.nx N) (k:=k) (by simp[hk6,hk5,k4,hk,s11]) (by simp[hk6,s22]) (by omega) hkb6 M6 (by simp[Y4];omega) ?_));intro st7 h7 m7 hk7 hm7 bx7 M7;simp at hk7;have hkb7:h7 k=some ⟨true,2,[Ja (Ka ms.nx N)]⟩:=by rw[bx7 k _ _ (by omega) hk8 hkb6,hkb6]
  have hM7:=M7.hr;refine Ua (Js [2,4,5,6,8,9,10,11,17,22] (λs=>s 202 = .bool (Xh (r.Calls[i]).Bind)) ?_ ?_)
  ·simp[hk7,hk6,hk5,k4,hk,s5,s17,hM7,Jr,Kx,hi];refine Jd (Bp (r.Calls[i]'hi).Bind) (by simp) ?_;rintro r rfl;simp
  intro st8 hk8' s202;simp at hk8';have hsc:Wn N ms r.Calls[i]=⟨ms.E++[((r.Calls[i]).Bind,Ka ms.nx N)],ms.nx+1,ms.rows++(if Xh (r.Calls[i]).Bind then [Ka ms.nx N]else []),ms.pars,ms.args++[AL]⟩:=by unfold Wn;rw[hargsL]
  rw[hsc]at hJ;have hl8:=H9 (i:=ms.nx) N hN;have hkE:Kj (ms.E++[((r.Calls[i]).Bind,Ka ms.nx N)])=Kj ms.E++[(r.Calls[i]).Bind]:=by simp[Kj]
  have hvE:Y4 (ms.E++[((r.Calls[i]).Bind,Ka ms.nx N)])=Y4 ms.E++[Ka ms.nx N]:=by simp[Y4]
  cases c1:Xh (r.Calls[i]).Bind
  ·rw[c1]at s202 hJ;simp[s202,hk8',hk7,hk6,hk5,k4,s17,hw];refine hR2 _ _ _ (by simp[hk8',hk7,hk6,hk5,k4,hk]) (by simp) ⟨_,hJ,?_,by simp only;omega,by simp;omega,by simp;omega,by simp;omega⟩;unfold SM;simp only[hkE,hvE,Bool.false_eq_true,if_false,List.append_nil];exact M7
  ·rw[c1]at s202 hJ;rw[J56 (show ev st8 (.t 202) = .bool true from s202)];refine Jdz (l:=Ka ms.nx N) (k:=k) (by simp[hk8',hk7,hk6,hk5,k4,hk,s10]) (by simp[hk8',hk7,hk6,s22]) hkb7 M7 (by omega) (by omega) ?_;intro st9 h9 m9 hk9 M9;simp at hk9;simp[hk9,hk8',hk7,hk6,hk5,k4,s17,hw];refine hR2 _ _ _ (by simp[hk9,hk8',hk7,hk6,hk5,k4,hk]) (by simp) ⟨_,hJ,?_,by simp only;omega,by simp;omega,by simp;omega,by simp;omega⟩;unfold SM;simp only[hkE,hvE,if_true];exact M9
 ·rintro st h' m Rr hk s17 ⟨ms,hJ,M,hb1,hb2,hb3,hb4⟩ _ hX;simp at hk;rw[drop_eq_nil_of_le (by omega)]at hJ;simp only[foldl_nil]at hJ;subst hJ;have hM:=M.hr;refine Jn (Js [2,4,5,6,8,9,10,11] (λs=>s 130 = .bool false) (by simp[hk,s17,s5,hM,Jr]) ?_);intro Jv hk1 s130;simp at hk1;refine U3 s130 ?_;refine hX _ _ _ _ ?_;simp;exact hK _ _ _ (by simp[hk1,hk]) M
end
section
variable {p:Jq}{r:Jy}{f:K3}{N:Nat}{I:Hs}{ks:List Kt}{s:Jm}{h:J8}{n:Nat}{Q:Xc}
theorem Vm.of {s':Jm}(S:Vm I s) (hk:s' 2=s 2/\s' 4=s 4/\s' 6=s 6/\s' 7=s 7/\s' 9=s 9/\s' 12=s 12/\s' 13=s 13/\s' 15=s 15/\s' 16=s 16):Vm I s':=S.keep (by simpa[Ns]using hk)
theorem Kn.bw {b:Nat}{l:List Jc}{v:AV}(x:Kn b 2 (l.map J9) v h n):Go.Proofs.YtoclolkigjbcgaaGreat.bw v h=some (.sl 2 (l.map Ja)):=by
 rcases x with ⟨h1,rfl⟩|⟨i,_,_,rfl,hb⟩
 ·have:l=[]:=by simpa using h1
  subst this;simp
 ·simp[hb,List.take_of_length_le]
def Hy(N:Nat)(l:List Jc)(i:Nat):List Jc:=(l.take i).map (Yc N)
theorem Jfc{l:List Jc}{i:Nat}(hi:i<l.length):Hy N l (i+1)=Hy N l i++[Yc N (l[i]'hi)]:=by unfold Hy;rw[List.take_succ_eq_append_getElem hi,List.map_append];rfl
theorem Jfo{l:List Jc} : Hy N l l.length=l.map (Yc N):=by unfold Hy;rw[List.take_length]
theorem Ji8{ma:MS}(S:Vm I s)(M:MI p r f N I ma h n)(hl2:f.Pre.length<=2)(hr2:ma.rows.length<=100)(hpl:∀l∈f.Pre,Wj l ma.pars N=some (Yc N l))(hwl:∀l∈f.Pre,(Yc N l).Coeffs.length<=1048576)
 (hK:∀s' h' n',Vm I s'->MI p r f N I (Y7 ma (f.Pre.map (Yc N))) h' n'->Ju prog ks .normal s' h' n' Q):rC prog Jvy ks s h n Q:=by
 have S0:=S;obtain⟨s2,s4,s6,s7,s9,s12,s13,s15,s16⟩:=S0;simp[Jvy,s7,M.hf,M.h4];intro _;refine Ki [2,4,6,7,9,12,13,15,16,114,115] 116 f.Pre.length (λi s' h' n'=>MI p r f N I (Y7 ma (Hy N f.Pre i)) h' n') (by unfold Jb;omega) (by simp) (by simpa[Y7,Hy]using M) ?_ ?_
 ·rintro i st h' m R hi hg hk s116 hw M hR _ _;simp at hk;rw[Jfc hi]at hR;have hpl:=hpl _ (getElem_mem hi);have hwl:=hwl _ (getElem_mem hi);refine Js [2,4,6,7,9,12,13,15,16,114,115,116] (λs=>s 117 = .bool true) (by simp[hk,s116,hi]) ?_;intro Jv hk1 s117;simp at hk1;refine W9 s117 (Jn (Xg ?_));refine Xo [2,4,6,7,9,12,13,15,16,114,115,116] (λs h' n'=>∃k,s 21 = .ptr k 0 0/\k<n'/\h' k=some ⟨true,2,[Ja (f.Pre[i]'hi)]⟩/\MI p r f N I (Y7 ma (Hy N f.Pre i)) h' n') ?_ ?_
  ·have fr:∀id,id<m->¬id=m:=by intro id _;omega
   simp[hk1,hk,s116,hi,M.h4];exact M.frame (by omega) λid hid=>by simp[fr id hid]
  rintro st2 h2 n2 hk2 ⟨k,s21,hkn,hkb,M2⟩;simp at hk2;generalize f.Pre[i]=l at *;generalize hms:Y7 ma (Hy N f.Pre i)=ms at *;have hmp:ms.pars=ma.pars:=by rw[<-hms];rfl
  have hmr:ms.rows.length<=102:=by rw[<-hms];simp[Y7,Hy];omega
  obtain⟨vR,vP,vA,g1,g2,g3,g4,g6,g5⟩:=M2.acc;have hbP:=g3.bw;rw[hmp]at hbP;refine Xo [2,4,6,7,9,12,13,15,16,114,115,116] (λs h' n'=>s 23 = .bool true/\∃k,s 22 = .ptr k 0 0/\I9 (Yc N l) k h' n'/\MI p r f N I ms h' n') ?_ ?_
  ·have fr:∀id,id<n2->¬id=n2/\¬id=n2+1:=by intro id _;omega
   have S2:Vm I st2:=S.of (by simp[hk2,hk1,hk]);obtain⟨t2,t4,t6,t7,t9,t12,t13,t15,t16⟩:=S2;simp[s21,hkb,t12,g1,Xj,t9,M2.hn];refine Jd (Nc l ma.pars N) (by simp[Ja,hbP]) ?_;rintro r rfl;rw[hpl];simp[X1,J9];exact⟨⟨n2,by omega,by omega,by simp,by simp⟩,M2.frame (by omega) λid hid=>by simp[fr id hid]⟩
  rintro Kl h3 n3 hk3 ⟨s23,k3,s22,L3,M3⟩;simp at hk3;have S3:Vm I Kl:=S.of (by simp[hk3,hk2,hk1,hk]);obtain⟨t2,t4,t6,t7,t9,t12,t13,t15,t16⟩:=S3;obtain⟨q,hkn,hqn,hkb,hqb⟩:=L3;simp[s23,t16,s22,hkb];refine C9 M3 (l:=Yc N l) (q:=q) hwl hqn hqb (by omega) ?_;intro h6 n6 hn6 _ M6;simp[hk3,hk2,hk1,s116,hw];refine hR _ _ _ (by simp[hk3,hk2,hk1,hk]) (by simp) ?_;have:Ik ms (Yc N l)=Y7 ma (Hy N f.Pre i++[Yc N l]):=by rw[<-hms];simp[Ik,Y7]
  rw[<-this];exact M6
 ·rintro st h' m R hk s116 M _ hX;simp at hk;rw[Jfo]at M;refine Js [2,4,6,7,9,12,13,15,16] (λs=>s 117 = .bool false) (by simp[hk,s116]) ?_;intro Jv hk1 s117;simp at hk1;refine Ut s117 ?_;refine hX _ _ _ _ ?_;simp;exact hK _ _ _ (S.of (by simp[hk1,hk])) M
theorem G8.bw2 {d:Nat}{E:Xl}(M:G8 d E h n) (x:Je):∃rows w,h d=some ⟨true,0,rows⟩/\(Od rows x).getD (.agg [.int .i64 0,.nil 1]) = .agg [.int .i64 (Kp Jl E x).Const,w] /\
 ∀h',(∀id,id<n->h' id=h id)->Go.Proofs.YtoclolkigjbcgaaGreat.bw w h'=some (.sl 1 (Jg (Kp Jl E x).Coeffs)):=by
 obtain⟨rows,w,h1,h2,h3⟩:=M.get2 x;refine⟨rows,w,h1,h2,λh' hh=>?_⟩;rcases h3 with ⟨rfl,hc⟩|⟨q,hq,rfl,hb⟩
 ·rw[hc];rfl
 ·rw[<-hh q hq]at hb;simp[hb]
theorem Jdo{ms:MS}{q:X2}{k:Nat}(s9:s 9 = .ptr 6 0 0)(s13:s 13 = .ptr I.s 0 0)(s25:s 25 = .ptr k 0 0)(M:MI p r f N I ms h n)(hkb:h k=some ⟨true,4,[Kb q]⟩)
 (hK:∀s' h' n',(∀j,j<145->j≠26->j≠27->s' j=s j)->(∃k,s' 26 = .ptr k 0 0/\I9 (Yn (Jo 0 N) (-1) (Kp Jl ms.E q.Lst)) k h' n')->MI p r f N I ms h' n'->Ju prog ks .normal s' h' n' Q):rC prog Jko ks s h n Q:=by
 obtain⟨l1,l2,l3,l4,l5⟩:=M.lt;obtain⟨rows,w,hdr,hv,hbw⟩:=M.map.bw2 q.Lst;have fr:∀id,id<n->¬id=n/\¬id=n+1/\¬id=n+1+1/\¬id=n+2:=by intro id _;omega
 have hb1:∀x,Go.Proofs.YtoclolkigjbcgaaGreat.bw w (upd h n x)=some (.sl 1 (Jg (Kp Jl ms.E q.Lst).Coeffs)):=λx=>hbw _ λid hid=>by simp[fr id hid]
 have hb2:∀x y,Go.Proofs.YtoclolkigjbcgaaGreat.bw w (upd (upd h n x) (n+1) y)=some (.sl 1 (Jg (Kp Jl ms.E q.Lst).Coeffs)):=λx y=>hbw _ λid hid=>by simp[fr id hid]
 have kp:∀j,j<145->¬j=145/\¬j=146/\¬j=147/\¬j=148/\¬j=149/\¬j=150/\¬j=151/\¬j=152/\¬j=153/\¬j=154:=by intro j _;omega
 have ne:¬n=n+1/\¬n+1=n/\¬n=n+1+1/\¬n+1+1=n/\¬n+1=n+1+1/\¬n+1+1=n+1:=by omega
 simp[Jko,s9,s13,s25,M.hn,M.hmp,hkb,hdr,Kb,hv];constructor
 ·skip;refine Jw (On 0 N) (by simp) ?_;rintro r rfl;simp[J9];constructor
  ·skip;refine Jw (Ih (Jo 0 N) (-1) (Kp Jl ms.E q.Lst)) (by simp[Ja,hb1]) ?_;rintro r rfl;rw[Xd];have hadd:(Kg (Jo 0 N) (-1) (Kp Jl ms.E q.Lst)).getD Jl=Yn (Jo 0 N) (-1) (Kp Jl ms.E q.Lst):=rfl;rw[hadd];generalize Yn (Jo 0 N) (-1) (Kp Jl ms.E q.Lst)=l at *;simp[J9];refine hK _ _ _ (λj hj h26 h27=>by simp[kp j hj,h26,h27]) ⟨n+2,by simp,n+1,by omega,by omega,by simp,by simp⟩ (M.frame (by omega) λid hid=>by simp[fr id hid])
  ·skip;refine Jw (Ih (Jo 0 N) (-1) (Kp Jl ms.E q.Lst)) (by simp[Ja,hb2]) ?_;rintro r rfl;rw[Xd];have hadd:(Kg (Jo 0 N) (-1) (Kp Jl ms.E q.Lst)).getD Jl=Yn (Jo 0 N) (-1) (Kp Jl ms.E q.Lst):=rfl;rw[hadd];generalize Yn (Jo 0 N) (-1) (Kp Jl ms.E q.Lst)=l at *;simp[J9];refine hK _ _ _ (λj hj h26 h27=>by simp[kp j hj,h26,h27]) ⟨n+1,by simp,n+2,by omega,by omega,by simp,by simp⟩ (M.frame (by omega) λid hid=>by simp[fr id hid])
 ·skip;refine Jw (On 0 N) (by simp) ?_;rintro r rfl;simp[J9]
  ·skip;refine Jw (Ih (Jo 0 N) (-1) (Kp Jl ms.E q.Lst)) (by simp[Ja,hb2]) ?_;rintro r rfl;rw[Xd];have hadd:(Kg (Jo 0 N) (-1) (Kp Jl ms.E q.Lst)).getD Jl=Yn (Jo 0 N) (-1) (Kp Jl ms.E q.Lst):=rfl;rw[hadd];generalize Yn (Jo 0 N) (-1) (Kp Jl ms.E q.Lst)=l at *;simp[J9,ne];refine hK _ _ _ (λj hj h26 h27=>by simp[kp j hj,h26,h27]) ⟨n,by simp,n+2,by omega,by omega,by simp,by simp⟩ (M.frame (by omega) λid hid=>by simp[fr id hid])
end
section
variable {p:Jq}{r:Jy}{f:K3}{N:Nat}{I:Hs}{ks:List Kt}{s:Jm}{h:J8}{n:Nat}{Q:Xc}
theorem Cc{a b:Jc}{k:Int} : (Yn a k b).Coeffs.length<=8:=by
 unfold Yn
 cases ha:Kg a k b with
 |none=>simp[Jl]
 |some o=>
  have h1:=(Rc ha).1;unfold Kg at ha;split at ha
  ·rename_i hc;simp only[Bool.and_eq_true]at hc;have h2:=W0 hc.1.1.1.1;simp only[Option.getD_some];omega
  ·cases ha
theorem Jef{a:Jc}{k:Int} : ((U6 a k).getD Jl).Coeffs.length<=8:=by
 unfold U6;split
 ·rename_i hc;simp only[Bool.and_eq_true]at hc;have h2:=W0 hc.2;simp only[Option.getD_some];omega
 ·simp[Jl]
theorem MI.ne_m {ms:MS}(M:MI p r f N I ms h n) {k z:Nat}{rows:List (List AV)}(hk:h k=some ⟨true,z,rows⟩) (hz:z≠6):k≠I.m:=by rintro rfl;obtain⟨vR,vP,vA,g1,_⟩:=M.acc;rw[hk]at g1;simp at g1;exact hz g1.1
theorem MI.ne_d {ms:MS}(M:MI p r f N I ms h n) {k z:Nat}{rows:List (List AV)}(hk:h k=some ⟨true,z,rows⟩) (hz:z≠0):k≠I.d:=by rintro rfl;obtain⟨es,_,g1,_⟩:=M.map;rw[hk]at g1;simp at g1;exact hz g1.1
theorem MI.ne_x {ms:MS}(M:MI p r f N I ms h n) {k z:Nat}{rows:List (List AV)}(hk:h k=some ⟨true,z,rows⟩) (hz:z≠1):k≠I.x:=by rintro rfl;rw[M.hnx]at hk;simp at hk;exact hz hk.1.symm
theorem Jgz{ma:MS}(S:Vm I s)(M:MI p r f N I ma h n)(hl2:r.Patterns.length<=2)(hx2:ma.nx<=100)(hr2:ma.rows.length<=100)(hN:N<=8)
 (hK:∀s' h' n',Vm I s'->MI p r f N I (r.Patterns.foldl (Wp N) ma) h' n'->Ju prog ks .normal s' h' n' Q):rC prog Jw0 ks s h n Q:=by
 have S0:=S;obtain⟨s2,s4,s6,s7,s9,s12,s13,s15,s16⟩:=S0;simp[Jw0,s6,M.hr,Jr];intro _;generalize hT:r.Patterns.foldl (Wp N) ma=T at hK
 refine Ki [2,4,6,7,9,12,13,15,16,136,137] 138 r.Patterns.length (λi s' h' n'=>∃ms:MS,MI p r f N I ms h' n'/\(r.Patterns.drop i).foldl (Wp N) ms=T/\ms.nx<=100+i/\ms.rows.length<=100+i) (by unfold Jb;omega) (by simp)
  ⟨_,M,by simpa using hT,by omega,by omega⟩ ?_ ?_
 ·rintro i st h' m R hi hg hk s138 hw ⟨ms,M,hJ,hb1,hb2⟩ hR _ _;simp at hk;rw[drop_eq_getElem_cons hi,foldl_cons]at hJ;obtain⟨l1,l2,l3,l4,l5⟩:=M.lt;refine Js [2,4,6,7,9,12,13,15,16,136,137,138] (λs=>s 139 = .bool true) (by simp[hk,s138,hi]) ?_;intro Jv hk1 s139;simp at hk1;refine W9 s139 (Jn (Xg ?_));refine Xo [2,4,6,7,9,12,13,15,16,136,137,138] (λs h' n'=>∃k,s 25 = .ptr k 0 0/\k<n'/\h' k=some ⟨true,4,[Kb (r.Patterns[i]'hi)]⟩/\MI p r f N I ms h' n') ?_ ?_
  ·have fr:∀id,id<m->¬id=m:=by intro id _;omega
   simp[hk1,hk,s138,hi,Kb];exact M.frame (by omega) λid hid=>by simp[fr id hid]
  rintro st2 h2 n2 hk2 ⟨k,s25,hkn,hkb,M2⟩;simp at hk2;generalize r.Patterns[i]=q at *;have S2:Vm I st2:=S.of (by simp[hk2,hk1,hk]);obtain⟨t2,t4,t6,t7,t9,t12,t13,t15,t16⟩:=S2;have kk:∀j∈[2,4,6,7,9,12,13,15,16,136,137,138],st2 j=st j:=by simp[hk2,hk1]
  simp at kk;cases hc:q.Cons
  ·have hiP:Wp N ms q=Ik ms (Yn (Jo 0 N) (-1) (Kp Jl ms.E q.Lst)):=by unfold Wp;rw[hc];rfl
   rw[hiP]at hJ;refine Jn ?_;refine Js [2,4,6,7,9,12,13,15,16,136,137,138,25] (λs=>s 144 = .bool true) (by simp[s25,hkb,Kb,hc]) ?_;intro Kl hk3 s144;simp at hk3;rw[J56 (show ev Kl (.t 144) = .bool true from s144)];refine Jn (Jdo (q:=q) (k:=k) (by rw[hk3.2.2.2.2.1,t9]) (by rw[hk3.2.2.2.2.2.2.1,t13]) (by rw[hk3.2.2.2.2.2.2.2.2.2.2.2.2,s25]) M2 hkb ?_);rintro st4 h4 n4 hk4 ⟨k4,s26,q4,hkn4,hqn4,hkb4,hqb4⟩ M4
   have kp:∀j∈[2,4,6,7,9,12,13,15,16,136,137,138],st4 j=st j:=by simp[hk4 2 (by omega) (by omega) (by omega),hk4 4 (by omega) (by omega) (by omega),hk4 6 (by omega) (by omega) (by omega),hk4 7 (by omega) (by omega) (by omega),hk4 9 (by omega) (by omega) (by omega),hk4 12 (by omega) (by omega) (by omega),hk4 13 (by omega) (by omega) (by omega),hk4 15 (by omega) (by omega) (by omega),hk4 16 (by omega) (by omega) (by omega),hk4 136 (by omega) (by omega) (by omega),hk4 137 (by omega) (by omega) (by omega),hk4 138 (by omega) (by omega) (by omega),hk3,kk]
   simp at kp;have u16:st4 16 = .fn (.func 204) [] [.ptr I.m 0 0]:=by rw[kp.2.2.2.2.2.2.2.2.1,<-kk.2.2.2.2.2.2.2.2.1,t16]
   refine Ua ?_;simp[u16,s26,hkb4];refine C9 M4 (q:=q4) (by have:=Cc (a:=Jo 0 N) (k := -1) (b:=Kp Jl ms.E q.Lst);omega) hqn4 hqb4 (by omega) ?_;intro h6 n6 hn6 _ M6;simp[kp,s138,hw];exact hR _ _ _ (by simp[kp,hk]) (by simp) ⟨_,M6,hJ,by show ms.nx<=_;omega,by show(ms.rows++[_]).length<=_;simp;omega⟩
  ·have hlx:(Ka ms.nx N).Coeffs.length<=8:=H9 N (by omega);have hiP:Wp N ms q=Ik (Qu (Qu ms q.Head (Ka ms.nx N) (ms.nx+1)) q.Tail (Gn N ms q) (ms.nx+1)) (Gn N ms q):=by unfold Wp;rw[hc];rfl
   rw[hiP]at hJ;refine Jn ?_;refine Js [2,4,6,7,9,12,13,15,16,136,137,138,25] (λs=>s 144 = .bool false) (by simp[s25,hkb,Kb,hc]) ?_;intro Kl hk3 s144;simp at hk3;rw[J9a (show ev Kl (.t 144) = .bool false from s144),Jc4];refine Ua ?_;have e25:Kl 25 = .ptr k 0 0:=by rw[hk3.2.2.2.2.2.2.2.2.2.2.2.2,s25]
   have e15:Kl 15 = .fn (.func 202) [] [.ptr I.x 0 0,.ptr 6 0 0,.ptr I.s 0 0]:=by rw[hk3.2.2.2.2.2.2.2.1,t15]
   have nd:=M2.ne_d hkb (by omega);have nx:=M2.ne_x hkb (by omega);refine Xo [2,4,6,7,9,12,13,15,16,136,137,138,25] (λs h' n'=>MI p r f N I (Qu ms q.Head (Ka ms.nx N) (ms.nx+1)) h' n'/\k<n'/\h' k=some ⟨true,4,[Kb q]⟩) ?_ ?_
   ·simp[e25,e15,hkb,Kb];refine J1p M2 q.Head (by omega) ?_;intro q' h1 n1 hq hq1 hfr hqb M1;simp;exact⟨M1,by omega,by rw[hfr k hkn nd nx,hkb];rfl⟩
   rintro st4 h4 n4 hk4 ⟨M4,hkn4,hkb4⟩;simp at hk4;have e13:st4 13 = .ptr I.s 0 0:=by rw[hk4.2.2.2.2.2.2.1,hk3.2.2.2.2.2.2.1,t13]
   have f25:st4 25 = .ptr k 0 0:=by rw[hk4.2.2.2.2.2.2.2.2.2.2.2.2,e25]
   have hpE:(Qu ms q.Head (Ka ms.nx N) (ms.nx+1)).E=Ca N ms q:=rfl;refine Xo [2,4,6,7,9,12,13,15,16,136,137,138,25] (λs h' n'=>MI p r f N I (Qu ms q.Head (Ka ms.nx N) (ms.nx+1)) h' n'/\k<n'/\h' k=some ⟨true,4,[Kb q]⟩/\∃k,s 28 = .ptr k 0 0/\I9 (Gn N ms q) k h' n') ?_ ?_
   ·obtain⟨rows,w,hdr,hv,hbw⟩:=M4.map.get q.Lst;rw[hpE]at hv hbw;simp[e13,f25,hkb4,Kb,M4.hmp,hdr,hv];refine Jd (Cf (Kp Jl (Ca N ms q) q.Lst) (-1)) (by simp[Ja,hbw]) ?_;rintro r rfl;rw[Xd,show(U6 (Kp Jl (Ca N ms q) q.Lst) (-1)).getD Jl=Gn N ms q from rfl];generalize Gn N ms q=l at *;have fr:∀id,id<n4->¬id=n4/\¬id=n4+1:=by intro id _;omega
    have ne:¬n4=n4+1/\¬n4+1=n4:=by omega
    simp[J9];exact⟨M4.frame (by omega) λid hid=>by simp[fr id hid],by omega,by simp[fr k hkn4,hkb4,Kb],n4,by omega,by omega,by simp,by simp⟩
   rintro Ur h5 n5 hk5 ⟨M5,hkn5,hkb5,k5,s28,q5,w5,b5,c5,d5⟩;simp at hk5;have g13:Ur 13 = .ptr I.s 0 0:=by rw[hk5.2.2.2.2.2.2.1,e13]
   have g25:Ur 25 = .ptr k 0 0:=by rw[hk5.2.2.2.2.2.2.2.2.2.2.2.2,f25]
   have hpl8:(Gn N ms q).Coeffs.length<=8:=Jef;refine Xo [2,4,6,7,9,12,13,15,16,136,137,138,28] (λs h' n'=>MI p r f N I (Qu (Qu ms q.Head (Ka ms.nx N) (ms.nx+1)) q.Tail (Gn N ms q) (ms.nx+1)) h' n'/\I9 (Gn N ms q) k5 h' n') ?_ ?_
   ·obtain⟨es,hE,hd,hes⟩:=M5.map;have n5d:=M5.ne_d c5 (by omega);have n5x:=M5.ne_x c5 (by omega);have q5d:¬q5=I.d:=by rintro rfl;rw[d5]at hd;simp at hd
    have ldx:¬I.x=I.d:=by omega
    simp[g13,g25,hkb5,Kb,M5.hmp,s28,c5,hd];refine⟨M5.upd_map (x:=q.Tail) (l:=Gn N ms q) (q:=q5) rfl rfl rfl rfl (Nat.le_refl _) b5 (by simp[q5d,d5]) (by simp[ldx,M5.hnx,Qu]) (λid hid h1 h2=>by simp[h1]) ?_,q5,w5,b5,by simp[n5d,c5],by simp[q5d,d5]⟩;intro es' hd';rw[hd]at hd';simp only[Option.some.injEq,Yd.mk.injEq,true_and]at hd';rw[<-Su,<-hd'];simp[Id]
   rintro st6 h6 n6 hk6 ⟨M6,q6,w6,b6,c6,d6⟩;simp at hk6;have g16:st6 16 = .fn (.func 204) [] [.ptr I.m 0 0]:=by rw[hk6.2.2.2.2.2.2.2.2.1,hk5.2.2.2.2.2.2.2.2.1,hk4.2.2.2.2.2.2.2.2.1,hk3.2.2.2.2.2.2.2.2.1,t16]
   have g28:st6 28 = .ptr k5 0 0:=by rw[hk6.2.2.2.2.2.2.2.2.2.2.2.2,s28]
   simp[g16,g28,c6];refine C9 M6 (q:=q6) (by omega) b6 d6 (by show ms.rows.length<=_;omega) ?_;intro h7 n7 hn7 _ M7;simp[hk6,hk5,hk4,hk3,kk,s138,hw];exact hR _ _ _ (by simp[hk6,hk5,hk4,hk3,kk,hk]) (by simp) ⟨_,M7,hJ,by show ms.nx+1<=_;omega,by show(ms.rows++[_]).length<=_;simp;omega⟩
 ·rintro st h' m R hk s138 ⟨ms,M,hJ,hb1,hb2⟩ _ hX;simp at hk;rw[drop_eq_nil_of_le (by omega)]at hJ;simp only[foldl_nil]at hJ;subst hJ;refine Js [2,4,6,7,9,12,13,15,16] (λs=>s 139 = .bool false) (by simp[hk,s138]) ?_;intro Jv hk1 s139;simp at hk1;refine Ut s139 ?_;refine hX _ _ _ _ ?_;simp;exact hK _ _ _ (S.of (by simp[hk1,hk])) M
end
end Go.Proofs.YtoclolkigjbcgaaGreat

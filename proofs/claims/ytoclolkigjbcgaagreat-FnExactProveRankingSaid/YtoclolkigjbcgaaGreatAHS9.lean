/- The reference's model: guards, calls. -/
import Derived.Test.YtoclolkigjbcgaaGreatAHM2
import Derived.Test.YtoclolkigjbcgaaGreatAV5
namespace Go.Proofs.YtoclolkigjbcgaaGreat
open Tryz
open Tryz(prog)
open List(getElem_mem take_of_length_le drop_eq_getElem_cons map_cons drop_eq_nil_of_le foldl_cons foldl_nil)
set_option maxRecDepth 40000
set_option maxHeartbeats 4000000
open Go Go.RowKit Go.Proofs
set_option linter.all false
section
variable {ks:List Kt}{s:Jm}{h h' h0:J8}{n n0 N:Nat}{Q:Xb}{r:K0}{f:K3}{nm:List J9}{ls R P:List Jc}{A:List (List Jc)}
theorem SM.bws {ms:MS}(M:SM r f N ms h n):∃vN vL,h 8=some ⟨true,2,[[vN,vL]]⟩/\∀h',(∀id,id<n->h' id=h id)->bw vN h'=some (.sl 1 (Jf (Kl ms.E)))/\bw vL h'=some (.sl 2 ((Y8 ms.E).map Jb)):=by
 obtain⟨vN,vL,vR,vP,vA,e8,e7,AS⟩:=M.acc;refine⟨vN,vL,e8,λh' hh=>⟨?_,?_⟩⟩
 ·exact((AS.1 (1,Jf (Kl ms.E),vN) (by simp)).keep (Nat.le_refl _) λid _ hid _=>hh id hid).bwS
 ·exact((AS.1 (2,(Y8 ms.E).map Jb,vL) (by simp)).keep (Nat.le_refl _) λid _ hid _=>hh id hid).bwA
def J5j(l:Jc)(v:AV)(h:J8)(n n':Nat):Prop:=∃k q,v = .ptr k 0 0/\n<=k/\n<=q/\k<n'/\q<n'/\h k=some ⟨true,2,[[.int .i64 l.Const,.ref q 0 l.Coeffs.length]]⟩/\h q=some ⟨false,1,Ji l.Coeffs⟩
theorem Jgk{ms:MS}{i:Nat}(hi:i<r.Guards.length)(s5:s 5 = .ptr 2 0 0)(s9:s 9 = .int .i64 N)(s11:s 11 = .ptr 8 0 0)(s14:s 14 = .int .i64 i)(M:SM r f N ms h n)(hE:ms.E.length<=1048576)(hx:(r.Guards[i]).Terms.length<=1048576)
 (hK:∀s' h' n',(∀j∈[2,4,5,6,8,9,10,11,14],s' j=s j)->n<=n'->(∀id,id<n->h' id=h id)->J5j (V5 ms.E N r.Guards[i]) (s' 15) h' n n'->Jt prog ks .normal s' h' n' Q):rC prog Jlw ks s h n Q:=by
 obtain⟨vN,vL,e8,hb⟩:=M.bws;obtain⟨b1,b2⟩:=hb h λ_ _=>rfl
 have b3:∀x,bw vN (upd h n x)=some (.sl 1 (Jf (Kl ms.E)))/\bw vL (upd h n x)=some (.sl 2 ((Y8 ms.E).map Jb)):=λx=>hb _ λid hid=>by
  have:¬id=n:=by omega
  simp[this]
 have fr:∀id,id<n->¬id=n/\¬id=n+1:=by intro id _;omega
 have ne:¬n=n+1/\¬n+1=n:=by omega
 simp[Jlw,s5,s9,s11,s14,e8,M.hr,Ju,hi];have hd:∀g,(Er ms.E N g).getD Jj=V5 ms.E N g:=λ_=>rfl
 constructor
 ·skip;refine Jx (J2w ms.E hE (r.Guards[i]'hi) hx N) (by simp[G1,b1,b2]) ?_;rintro r rfl;rw[Xm,hd];generalize V5 ms.E N r.Guards[i]=l at *;simp[Ja];exact hK _ _ _ (by simp) (by omega) (λid hid=>by simp[fr id hid]) ⟨n+1,n,by simp,by omega,by omega,by omega,by omega,by simp,by simp⟩
 ·skip;refine Jx (J2w ms.E hE (r.Guards[i]'hi) hx N) (by simp[G1,b3]) ?_;rintro r rfl;rw[Xm,hd];generalize V5 ms.E N r.Guards[i]=l at *;simp[Ja];exact hK _ _ _ (by simp) (by omega) (λid hid=>by simp[fr id hid]) ⟨n,n+1,by simp,by omega,by omega,by omega,by omega,by simp,by simp⟩
theorem Jez{l:Jc}(s10:s 10 = .ptr 7 0 0)(M:SI r f N nm ls R P A h0 n0)(hn:n0<=n)(hfr:∀id,id<n0->h id=h0 id)(L:J5j l (s 15) h n0 n)(hl:R.length<=1000000)
 (hK:∀s' h' n',(∀j∈[2,4,5,6,8,9,10,11,14],s' j=s j)->SI r f N nm ls (R++[l]) P A h' n'->Jt prog ks .normal s' h' n' Q):rC prog Jlm ks s h n Q:=by
 have l1:=M.lt;obtain⟨k,q,s15,x1,x2,x3,x4,x5,x6⟩:=L;obtain⟨vN,vL,vR,vP,vA,e8,e7,AS⟩:=M.acc;have y1:=AS.1 (2,R.map Ja,vR) (by simp);have e7':h 7=some ⟨true,6,[Xj N vR vP vA]⟩:=by rw[hfr 7 (by omega),e7]
 have ne:¬8=n/\¬7=n/\¬n=7/\¬n=6/\¬n=8/\¬8=n+1/\¬7=n+1/\¬n+1=8/\¬n+1=7/\¬n=n+1/\¬n+1=n/\¬q=n/\¬q=7/\¬q=8/\¬7=q/\¬8=q:=by omega
 have frn:∀id,id<n0->¬id=n/\¬id=n+1/\¬id=q:=by intro id _;omega
 simp[Jlm,s10,s15,e7',Xj,x5,x6];refine Q7 (rows:=R.map Ja) (rows2:=[[.int .i64 l.Const,.us 1 (Ji l.Coeffs)]]) (y1.keep (n':=n+1) (by omega) λid _ hid _=>by simp[frn id hid,hfr id hid]) (by simp) (λl e=>by have:=(y1.lt e).2.1;omega) (by omega) (by simp;unfold Jd;omega) ?_;intro h1 f1 f2;have g8:h1 8=some ⟨true,2,[[vN,vL]]⟩:=by rw[f2 8 (by omega) (by omega) λl e=>y1.not_box e8 e];simp[ne,hfr 8 (by omega),e8]
 have g7:h1 7=some ⟨true,6,[Xj N vR vP vA]⟩:=by rw[f2 7 (by omega) (by omega) λl e=>y1.not_box e7 e];simp[ne,hfr 7 (by omega),e7]
 simp[g7,s10,Xj];refine hK _ _ _ (by simp) (M.app (l1:=[(1,Jf nm,vN),(2,ls.map Jb,vL)]) (x:=(2,R.map Ja,vR)) (x':=(2,(R++[l]).map Ja,.ref (n+1) 0 (R.length+1))) (l2:=[(2,P.map Ja,vP),(1,A.map Y3,vA)]) (by omega) e8 e7 AS (by simp[g8]) (by simp[Xj]) (.inr ⟨n+1,by omega,by omega,by simp,by simp[ne,f1,Ja]⟩) (λi k e=>by simp only[AV.ref.injEq]at e;omega) ?_ rfl);intro id h1' h2' h3' h4';simp[h2',f2 id (by omega) (by omega) h4',frn id h1',hfr id h1']
theorem Jik{ma:MS}(s5:s 5 = .ptr 2 0 0)(s9:s 9 = .int .i64 N)(s10:s 10 = .ptr 7 0 0)(s11:s 11 = .ptr 8 0 0)(M:SM r f N ma h n)(hE:ma.E.length<=1048576)(hg2:r.Guards.length<=2)(hts:∀g∈r.Guards,g.Terms.length<=1048576)(hR:ma.rows.length<=100000)
 (hK:∀s' h' n',(∀j∈[2,4,5,6,8,9,10,11],s' j=s j)->SM r f N (Yc ma (r.Guards.map (V5 ma.E N))) h' n'->Jt prog ks .normal s' h' n' Q):rC prog K4k ks s h n Q:=by
 simp[K4k];refine Ka [2,4,5,6,8,9,10,11] 14 r.Guards.length (λi s h m=>SM r f N (Yc ma ((r.Guards.map (V5 ma.E N)).take i)) h m) (by unfold Jd;omega) (by simp) (by simpa[Yc]using M) ?_ ?_
 ·rintro i st h' m Rr hi hg hk s14 hw M hR2 _ _;simp at hk;have hts:=hts _ (getElem_mem hi);have hM:=M.hr;refine Jn (Jq [2,4,5,6,8,9,10,11,14] (λs=>s 104 = .bool true) (by simp[hk,s14,s5,hM,Ju,hi]) ?_);intro Jv hk1 s104;simp at hk1;refine U2 s104 (Jn (Xd ?_));refine Jn (Jgk (i:=i) hi (by simp[hk1,hk,s5]) (by simp[hk1,hk,s9]) (by simp[hk1,hk,s11]) (by simp[hk1,s14]) M hE hts ?_);intro st2 h2 m2 hk2 hm2 hfr2 L2;simp at hk2;refine W0 (Jez (by simp[hk2,hk1,hk,s10]) M hm2 hfr2 L2 (by simp[Yc];omega) ?_);intro Kq h3 m3 hk3 M3;simp at hk3;simp[hk3,hk2,hk1,s14,hw];refine hR2 _ _ _ (by simp[hk3,hk2,hk1,hk]) (by simp) ?_;rw[List.take_succ_eq_append_getElem (by simpa using hi)];have:(Yc ma ((r.Guards.map (V5 ma.E N)).take i++[(r.Guards.map (V5 ma.E N))[i]'(by simpa using hi)])).rows=(Yc ma ((r.Guards.map (V5 ma.E N)).take i)).rows++[V5 ma.E N r.Guards[i]]:=by simp[Yc]
  unfold SM;rw[this];exact M3
 ·rintro st h' m Rr hk s14 M _ hX;simp at hk;have hM:=M.hr;rw[take_of_length_le (by simp)]at M;refine Jn (Jq [2,4,5,6,8,9,10,11] (λs=>s 104 = .bool false) (by simp[hk,s14,s5,hM,Ju]) ?_);intro Jv hk1 s104;simp at hk1;refine U1 s104 ?_;refine hX _ _ _ _ ?_;simp;exact hK _ _ _ (by simp[hk1,hk]) M
end
section
variable {ks:List Kt}{s:Jm}{h h' h0:J8}{n n0 N:Nat}{Q:Xb}{r:K0}{f:K3}{nm:List J9}{ls R P:List Jc}{A:List (List Jc)}
theorem Jer{ms:MS}{i j:Nat}(hi:i<r.Calls.length)(hj:j<(r.Calls[i]).Args.length)(s5:s 5 = .ptr 2 0 0)(s9:s 9 = .int .i64 N)(s11:s 11 = .ptr 8 0 0)(s17:s 17 = .int .i64 i)(s19:s 19 = .int .i64 j)(M:SM r f N ms h n)(hE:ms.E.length<=1048576)
 (hx:∀y∈((r.Calls[i]).Args[j]).Heads,y.Terms.length<=1048576) (hne:((r.Calls[i]).Args[j]).Lst=false->0<((r.Calls[i]).Args[j]).Heads.length)
 (hK:∀s' h' n',(∀j∈[2,4,5,6,8,9,10,11,17,18,19],s' j=s j)->n<=n'->(∀id,id<n->h' id=h id)->J5j (Q9 ms.E N ((r.Calls[i]).Args[j])) (s' 20) h' n n'->Jt prog ks .normal s' h' n' Q):rC prog Jm2 ks s h n Q:=by
 obtain⟨vN,vL,e8,hb⟩:=M.bws;obtain⟨b1,b2⟩:=hb h λ_ _=>rfl
 have b3:∀x,bw vN (upd h n x)=some (.sl 1 (Jf (Kl ms.E)))/\bw vL (upd h n x)=some (.sl 2 ((Y8 ms.E).map Jb)):=λx=>hb _ λid hid=>by
  have:¬id=n:=by omega
  simp[this]
 have fr:∀id,id<n->¬id=n/\¬id=n+1:=by intro id _;omega
 have ne:¬n=n+1/\¬n+1=n:=by omega
 simp[Jm2,s5,s9,s11,s17,s19,e8,M.hr,Ju,X8,hi,hj];have hd:∀g,(Fx ms.E N g).getD Jj=Q9 ms.E N g:=λ_=>rfl
 constructor
 ·skip;refine Jx (J1n ms.E hE ((r.Calls[i]'hi).Args[j]'hj) hx hne N) (by simp[G1,b1,b2]) ?_;rintro r rfl;rw[Xm,hd];generalize Q9 ms.E N ((r.Calls[i]).Args[j])=l at *;simp[Ja];exact hK _ _ _ (by simp) (by omega) (λid hid=>by simp[fr id hid]) ⟨n+1,n,by simp,by omega,by omega,by omega,by omega,by simp,by simp⟩
 ·skip;refine Jx (J1n ms.E hE ((r.Calls[i]'hi).Args[j]'hj) hx hne N) (by simp[G1,b3]) ?_;rintro r rfl;rw[Xm,hd];generalize Q9 ms.E N ((r.Calls[i]).Args[j])=l at *;simp[Ja];exact hK _ _ _ (by simp) (by omega) (λid hid=>by simp[fr id hid]) ⟨n,n+1,by simp,by omega,by omega,by omega,by omega,by simp,by simp⟩
theorem Jev{ms:MS}{i:Nat}(hi:i<r.Calls.length)(s5:s 5 = .ptr 2 0 0)(s9:s 9 = .int .i64 N)(s11:s 11 = .ptr 8 0 0)(s17:s 17 = .int .i64 i)(M:SM r f N ms h0 n0)(hn:n0<=n)(hfr:∀id,id<n0->h id=h0 id)(hE:ms.E.length<=1048576)(hal:(r.Calls[i]).Args.length<=100)
 (B:Kj (n0 - 1) 2 [] (s 18) h n) (hx:∀x∈(r.Calls[i]).Args,∀y∈x.Heads,y.Terms.length<=1048576) (hne:∀x∈(r.Calls[i]).Args,x.Lst=false->0<x.Heads.length)
 (hK:∀s' h' n',(∀j∈[2,4,5,6,8,9,10,11,17],s' j=s j)->n0<=n'->(∀id,id<n0->h' id=h0 id)->Kj (n0 - 1) 2 (((r.Calls[i]).Args.map (Q9 ms.E N)).map Ja) (s' 18) h' n'->Jt prog ks .normal s' h' n' Q):rC prog Jlt ks s h n Q:=by
 simp[Jlt];have l1:=M.lt;have hM:∀(h':J8),(∀id,id<n0->h' id=h0 id)->h' 2=some ⟨true,7,[Ju r]⟩:=λh' hh=>by rw[hh 2 (by omega),M.hr]
 generalize hT:(r.Calls[i]).Args.map (Q9 ms.E N)=T at hK
 refine Ka [2,4,5,6,8,9,10,11,17] 19 (r.Calls[i]).Args.length (λj s h m=>n0<=m/\(∀id,id<n0->h id=h0 id)/\∃acc:List Jc,Kj (n0 - 1) 2 (acc.map Ja) (s 18) h m/\acc++((r.Calls[i]).Args.drop j).map (Q9 ms.E N)=T/\acc.length<=j) (by unfold Jd;omega) (by simp)
  ⟨hn,hfr,[],by simpa using B,by simpa using hT,by simp⟩ ?_ ?_
 ·rintro j st h' m Rr hj hg hk s19 hw ⟨hm,hfr',acc,hA,hJ,hacc⟩ hR _ _;simp at hk;rw[drop_eq_getElem_cons hj,map_cons]at hJ;have hx:=hx _ (getElem_mem hj);have hne:=hne _ (getElem_mem hj);refine Jn (Jq [2,4,5,6,8,9,10,11,17,18,19] (λs=>s 142 = .bool true) (by simp[hk,s19,s5,s17,hM h' hfr',Ju,X8,hi,hj]) ?_);intro Jv hk1 s142;simp at hk1;refine U2 s142 (Jn (Xd ?_));have M1:SM r f N ms h' m:=SI.frame M hm hfr';refine Jn (Jer (i:=i) (j:=j) hi hj (by simp[hk1,hk,s5]) (by simp[hk1,hk,s9]) (by simp[hk1,hk,s11]) (by simp[hk1,hk,s17]) (by simp[hk1,s19]) M1 hE hx hne ?_);intro st2 h2 m2 hk2 hm2 hfr2 L2;simp at hk2;obtain⟨k,q,s20,x1,x2,x3,x4,x5,x6⟩:=L2;generalize Q9 ms.E N ((r.Calls[i]).Args[j])=l at *;have u18:st2 18=st 18:=by rw[hk2.2.2.2.2.2.2.2.2.2.1,hk1.2.2.2.2.2.2.2.2.2.1]
  refine W0 ?_;have nq:¬q=m2:=by omega
  have frn:∀id,id<m->¬id=m2/\¬id=m2+1/\¬id=q:=by intro id _;omega
  simp[Jx1,u18,s20,x5,x6];generalize hv18:st 18=v18 at *;refine Q7 (rows:=acc.map Ja) (rows2:=[[.int .i64 l.Const,.us 1 (Ji l.Coeffs)]]) (hA.keep (n':=m2+1) (by omega) λid _ hid _=>by simp[frn id hid,hfr2 id hid]) (by simp) (λl e=>by have:=(hA.lt e).2.1;omega) (by omega) (by simp;unfold Jd;omega) ?_;intro h3 f1 f2;simp[hk2,hk1,s19,hw];refine hR _ _ _ (by simp[hk2,hk1,hk]) (by simp) ⟨by omega,?_,acc++[l],?_,by simpa using hJ,by simp;omega⟩
  ·intro id hid;rw[f2 id (by omega) (by omega) λk e=>by have:=(hA.lt e).1;omega];simp[frn id (by omega),hfr2 id (by omega),hfr' id hid]
  ·simp;exact .inr ⟨m2+1,by omega,by omega,by simp,by simp[f1,Ja]⟩
 ·rintro j st h' Rr hk s19 ⟨hm,hfr',acc,hA,hJ,hacc⟩ _ hX;simp at hk;rw[drop_eq_nil_of_le (by omega)]at hJ;simp at hJ;subst hJ;refine Jn (Jq [2,4,5,6,8,9,10,11,17,18] (λs=>s 142 = .bool false) (by simp[hk,s19,s5,s17,hM _ hfr',Ju,X8,hi]) ?_);intro Jv hk1 s142;simp at hk1;refine U1 s142 ?_;refine hX _ _ _ _ ?_;simp;refine hK _ _ _ (by simp[hk1,hk]) hm hfr' ?_;rw[hk1.2.2.2.2.2.2.2.2.2];exact hA
theorem Jgb{xs':List Jc}(s10:s 10 = .ptr 7 0 0)(M:SI r f N nm ls R P A h0 n0)(hn:n0<=n)(hfr:∀id,id<n0->h id=h0 id)(B:Kj (n0 - 1) 2 (xs'.map Ja) (s 18) h n)(hl:A.length<=1000000)(hl2:xs'.length<=1000000)
 (hK:∀s' h' n',(∀j∈[2,4,5,6,8,9,10,11,17],s' j=s j)->SI r f N nm ls R P (A++[xs']) h' n'->Jt prog ks .normal s' h' n' Q):rC prog Jm1 ks s h n Q:=by
 have l1:=M.lt;obtain⟨vN,vL,vR,vP,vA,e8,e7,AS⟩:=M.acc;have y1:=AS.1 (1,A.map Y3,vA) (by simp);have e7':h 7=some ⟨true,6,[Xj N vR vP vA]⟩:=by rw[hfr 7 (by omega),e7]
 have ne:¬8=n/\¬7=n/\¬n=7/\¬n=6/\¬n=8/\¬8=n+1/\¬7=n+1/\¬n+1=8/\¬n+1=7/\¬n=n+1/\¬n+1=n:=by omega
 obtain⟨hd,dt1,fd⟩:=B.dt;have fdn:∀id,id<n0->hd id=h0 id:=λid hid=>by rw[fd id λl e=>by have:=(B.lt e).1;omega,hfr id hid]
 have frn:∀id,id<n0->¬id=n/\¬id=n+1:=by intro id _;omega
 have cB:=B.cell;simp[Jm1,s10,e7',Xj,dt1];refine Q7 (rows:=A.map Y3) (rows2:=[[.us 2 (xs'.map Ja)]]) (y1.keep (n':=n+1) (by omega) λid _ hid _=>by simp[frn id hid,fdn id hid]) (by simp) (λl e=>by have:=(y1.lt e).2.1;omega) (by omega) (by simp;unfold Jd;omega) ?_;intro h1 f1 f2;have g8:h1 8=some ⟨true,2,[[vN,vL]]⟩:=by rw[f2 8 (by omega) (by omega) λl e=>y1.not_box e8 e];simp[ne,fdn 8 (by omega),e8]
 have g7:h1 7=some ⟨true,6,[Xj N vR vP vA]⟩:=by rw[f2 7 (by omega) (by omega) λl e=>y1.not_box e7 e];simp[ne,fdn 7 (by omega),e7]
 simp[g7,s10,Xj];refine hK _ _ _ (by simp) (M.app (l1:=[(1,Jf nm,vN),(2,ls.map Jb,vL),(2,R.map Ja,vR),(2,P.map Ja,vP)]) (x:=(1,A.map Y3,vA)) (x':=(1,(A++[xs']).map Y3,.ref (n+1) 0 (A.length+1))) (l2:=[]) (by omega) e8 e7 AS (by simp[g8]) (by simp[Xj]) (.inr ⟨n+1,by omega,by omega,by simp,by simp[ne,f1,Y3]⟩) (λi k e=>by simp only[AV.ref.injEq]at e;omega) ?_ rfl);intro id h1' h2' h3' h4';simp[h2',f2 id (by omega) (by omega) h4',frn id h1',fdn id h1']
end
section
variable {ks:List Kt}{s:Jm}{h h' h0:J8}{n n0 N:Nat}{Q:Xb}{r:K0}{f:K3}{nm:List J9}{ls R P:List Jc}{A:List (List Jc)}
theorem Jgh{i:Nat}(hi:i<r.Calls.length)(s5:s 5 = .ptr 2 0 0)(s11:s 11 = .ptr 8 0 0)(s17:s 17 = .int .i64 i)(M:SI r f N nm ls R P A h n)(hl:nm.length<=1048576)
 (hK:∀s' h' n',(∀j∈[2,4,5,6,8,9,10,11,17,22],s' j=s j)->n<=n'->(∀id z rows,id<n->id≠8->h id=some ⟨true,z,rows⟩->h' id=h id)->SI r f N (nm++[(r.Calls[i]).Bind]) ls R P A h' n'->Jt prog ks .normal s' h' n' Q):rC prog Jm0 ks s h n Q:=by
 have l1:=M.lt;obtain⟨vN,vL,vR,vP,vA,e8,e7,AS⟩:=M.acc;have y1:=AS.1 (1,Jf nm,vN) (by simp);have ne:¬8=n/\¬7=n/\¬n=7/\¬n=6/\¬n=8/\¬8=n+1/\¬7=n+1/\¬n+1=8:=by omega
 have frn:∀id,id<n->¬id=n/\¬id=n+1:=by intro id _;omega
 simp[Jm0,s5,s11,s17,e8,M.hr,Ju,X8,hi,ne];generalize(r.Calls[i]).Bind=x at *;refine Q7 (rows:=Jf nm) (rows2:=[[.str x]]) (y1.keep (n':=n+1) (by omega) λid _ hid _=>by simp[frn id hid]) (by simp) (λl e=>by have:=(y1.lt e).2.1;omega) (by omega) (by simp[Jf];unfold Jd;omega) ?_;intro h1 f1 f2;have g8:h1 8=some ⟨true,2,[[vN,vL]]⟩:=by rw[f2 8 (by omega) (by omega) λl e=>y1.not_box e8 e];simp[ne,e8]
 have g7:h1 7=some ⟨true,6,[Xj N vR vP vA]⟩:=by rw[f2 7 (by omega) (by omega) λl e=>y1.not_box e7 e];simp[ne,e7]
 simp[g8,s11];refine hK _ _ _ (by simp) (by omega) ?_ (M.app (l1:=[]) (x:=(1,Jf nm,vN)) (x':=(1,Jf (nm++[x]),.ref (n+1) 0 (nm.length+1))) (l2:=[(2,ls.map Jb,vL),(2,R.map Ja,vR),(2,P.map Ja,vP),(1,A.map Y3,vA)]) (by omega) e8 e7 AS (by simp) (by simp[g7]) (.inr ⟨n+1,by omega,by omega,by simp[Jf],by simp[ne,f1,Jf]⟩) (λi k e=>by simp only[AV.ref.injEq]at e;omega) ?_ rfl)
 ·intro id z rows h1' h2' h3';simp[h2',f2 id (by omega) (by omega) λl e=>y1.not_box h3' e,frn id h1']
 intro id h1' h2' h3' h4';simp[h3',f2 id (by omega) (by omega) h4',frn id h1']
theorem Jet{l:Jc}{k:Nat}(s11:s 11 = .ptr 8 0 0)(s22:s 22 = .ptr k 0 0)(hkn:k<n)(hkb:h k=some ⟨true,2,[Jb l]⟩)(M:SI r f N nm ls R P A h n)(hl:ls.length<=1048576)
 (hK:∀s' h' n',(∀j∈[2,4,5,6,8,9,10,11,17,22],s' j=s j)->n<=n'->(∀id z rows,id<n->id≠8->h id=some ⟨true,z,rows⟩->h' id=h id)->SI r f N nm (ls++[l]) R P A h' n'->Jt prog ks .normal s' h' n' Q):rC prog Jlh ks s h n Q:=by
 have l1:=M.lt;obtain⟨vN,vL,vR,vP,vA,e8,e7,AS⟩:=M.acc;have y1:=AS.1 (2,ls.map Jb,vL) (by simp);have ne:¬8=n/\¬7=n/\¬n=7/\¬n=6/\¬n=8/\¬8=n+1/\¬7=n+1/\¬n+1=8:=by omega
 have frn:∀id,id<n->¬id=n/\¬id=n+1:=by intro id _;omega
 simp[Jlh,s11,s22,e8,hkb];refine Q7 (rows:=ls.map Jb) (rows2:=[Jb l]) (y1.keep (n':=n+1) (by omega) λid _ hid _=>by simp[frn id hid]) (by simp) (λl e=>by have:=(y1.lt e).2.1;omega) (by omega) (by simp;unfold Jd;omega) ?_;intro h1 f1 f2;have g8:h1 8=some ⟨true,2,[[vN,vL]]⟩:=by rw[f2 8 (by omega) (by omega) λl e=>y1.not_box e8 e];simp[ne,e8]
 have g7:h1 7=some ⟨true,6,[Xj N vR vP vA]⟩:=by rw[f2 7 (by omega) (by omega) λl e=>y1.not_box e7 e];simp[ne,e7]
 simp[g8,s11];refine hK _ _ _ (by simp) (by omega) ?_ (M.app (l1:=[(1,Jf nm,vN)]) (x:=(2,ls.map Jb,vL)) (x':=(2,(ls++[l]).map Jb,.ref (n+1) 0 (ls.length+1))) (l2:=[(2,R.map Ja,vR),(2,P.map Ja,vP),(1,A.map Y3,vA)]) (by omega) e8 e7 AS (by simp) (by simp[g7]) (.inr ⟨n+1,by omega,by omega,by simp,by simp[ne,f1]⟩) (λi k e=>by simp only[AV.ref.injEq]at e;omega) ?_ rfl)
 ·intro id z rows h1' h2' h3';simp[h2',f2 id (by omega) (by omega) λl e=>y1.not_box h3' e,frn id h1']
 intro id h1' h2' h3' h4';simp[h3',f2 id (by omega) (by omega) h4',frn id h1']
theorem Jg5{l:Jc}{k:Nat}(s10:s 10 = .ptr 7 0 0)(s22:s 22 = .ptr k 0 0)(hkb:h k=some ⟨true,2,[Jb l]⟩)(M:SI r f N nm ls R P A h n)(hl:R.length<=1048576)(hl0:l.Coeffs.length<=1048576)
 (hK:∀s' h' n',(∀j∈[2,4,5,6,8,9,10,11,17],s' j=s j)->SI r f N nm ls (R++[l]) P A h' n'->Jt prog ks .normal s' h' n' Q):rC prog Jlk ks s h n Q:=by
 have l1:=M.lt;obtain⟨vN,vL,vR,vP,vA,e8,e7,AS⟩:=M.acc;have y1:=AS.1 (2,R.map Ja,vR) (by simp);have ne:¬8=n/\¬7=n/\¬n=7/\¬n=6/\¬n=8/\¬8=n+1/\¬7=n+1/\¬n+1=8/\¬n+1=7/\¬n=n+1/\¬n+1=n/\¬n=5:=by omega
 have frn:∀id,id<n->¬id=n/\¬id=n+1/\¬id=n+2:=by intro id _;omega
 simp[Jlk,s10,s22,e7,Xj,hkb];refine Jx (Dw l hl0) (by simp) ?_;rintro r rfl;simp[Ja,e7,ne,s10,Xj];refine Q7 (rows:=R.map Ja) (rows2:=[[.int .i64 l.Const,.us 1 (Ji l.Coeffs)]]) (y1.keep (n':=n+1+1) (by omega) λid _ hid _=>by simp[frn id hid]) (by simp) (λl e=>by have:=(y1.lt e).2.1;omega) (by omega) (by simp;unfold Jd;omega) ?_;intro h1 f1 f2;have g8:h1 8=some ⟨true,2,[[vN,vL]]⟩:=by rw[f2 8 (by omega) (by omega) λl e=>y1.not_box e8 e];simp[ne,e8]
 have g7:h1 7=some ⟨true,6,[Xj N vR vP vA]⟩:=by rw[f2 7 (by omega) (by omega) λl e=>y1.not_box e7 e];simp[ne,e7]
 simp[g7,s10,Xj];refine hK _ _ _ (by simp) (M.app (l1:=[(1,Jf nm,vN),(2,ls.map Jb,vL)]) (x:=(2,R.map Ja,vR)) (x':=(2,(R++[l]).map Ja,.ref (n+2) 0 (R.length+1))) (l2:=[(2,P.map Ja,vP),(1,A.map Y3,vA)]) (by omega) e8 e7 AS (by simp[g8]) (by simp[Xj]) (.inr ⟨n+2,by omega,by omega,by simp,by simp[ne,f1,Ja]⟩) (λi k e=>by simp only[AV.ref.injEq]at e;omega) ?_ rfl);intro id h1' h2' h3' h4';simp[h2',f2 id (by omega) (by omega) h4',frn id h1']
def okA(x:Xe):Prop:=(∀y∈x.Heads,y.Terms.length<=4)/\(x.Lst=false->0<x.Heads.length)
theorem Ji5{ma:MS}(s5:s 5 = .ptr 2 0 0)(s9:s 9 = .int .i64 N)(s10:s 10 = .ptr 7 0 0)(s11:s 11 = .ptr 8 0 0)(M:SM r f N ma h n)(hN:N<=8)(hE:ma.E.length<=100000)(hc2:r.Calls.length<=2)(hcN:r.Calls.length<=N)(hnx:ma.nx=N - r.Calls.length)(hR:ma.rows.length<=100000)(hA:ma.args.length<=10)
 (hargs:∀c∈r.Calls,c.Args.length<=2/\∀x∈c.Args,okA x)
 (hK:∀s' h' n',(∀j∈[2,4,5,6,8,9,10,11],s' j=s j)->SM r f N (r.Calls.foldl (Wl N) ma) h' n'->Jt prog ks .normal s' h' n' Q):rC prog K4d ks s h n Q:=by
 simp[K4d];generalize hT:r.Calls.foldl (Wl N) ma=T at hK
 refine Ka [2,4,5,6,8,9,10,11] 17 r.Calls.length (λi s h m=>∃ms:MS,(r.Calls.drop i).foldl (Wl N) ms=T/\SM r f N ms h m/\ms.nx=N - r.Calls.length+i/\ms.E.length<=100000+i/\ms.rows.length<=100000+i/\ms.args.length<=10+i) (by unfold Jd;omega) (by simp)
  ⟨ma,by simpa using hT,M,by omega,by omega,by omega,by omega⟩ ?_ ?_
 ·rintro i st h' m Rr hi hg hk s17 hw ⟨ms,hJ,M,hb1,hb2,hb3,hb4⟩ hR2 _ _;simp at hk;rw[drop_eq_getElem_cons hi,foldl_cons]at hJ;obtain⟨ha1,ha2⟩:=hargs _ (getElem_mem hi);have hM:=M.hr;have l1:=M.lt;refine Jn (Jq [2,4,5,6,8,9,10,11,17] (λs=>s 130 = .bool true) (by simp[hk,s17,s5,hM,Ju,hi]) ?_);intro Jv hk1 s130;simp at hk1;refine U2 s130 (Jn (Xd ?_));refine Xu [2,4,5,6,8,9,10,11,17] (λs h2 n2=>m<=n2/\(∀id,id<m->h2 id=h' id)/\Kj (m - 1) 2 [] (s 18) h2 n2) ?_ ?_
  ·simp;refine⟨λid hid=>?_,.inr ⟨m,by omega,by omega,by simp,by simp⟩⟩;have:¬id=m:=by omega
   simp[this]
  rintro st2 h2 m2 hk2 ⟨hm2,hfr2,B2⟩;simp at hk2;refine Jn (Jev (ms:=ms) (i:=i) hi (by simp[hk2,hk1,hk,s5]) (by simp[hk2,hk1,hk,s9]) (by simp[hk2,hk1,hk,s11]) (by simp[hk2,hk1,s17]) M hm2 hfr2 (by omega) (by omega) B2 (λx hx y hy=>by have:=(ha2 x hx).1 y hy;omega) (λx hx=>(ha2 x hx).2) ?_);intro Kq h3 m3 hk3 hm3 hfr3 B3;simp at hk3;refine W0 (Jn (Jgb (by simp[hk3,hk2,hk1,hk,s10]) M hm3 hfr3 B3 (by omega) (by simp;omega) ?_));intro st4 h4 m4 hk4 M4;simp at hk4;generalize hargsL:(r.Calls[i]).Args.map (Q9 ms.E N)=AL at *;have k4:∀j∈[2,4,5,6,8,9,10,11,17],st4 j=st j:=by simp[hk4,hk3,hk2,hk1]
  simp at k4;have hM4:=M4.hr;have hw1:IntKind.i64.wrap ((N:Int) - (r.Calls.length:Int))=((N - r.Calls.length:Nat):Int):=by rw[Km (by omega)];omega
  have hw2:IntKind.i64.wrap (((N - r.Calls.length:Nat):Int)+(i:Int))=(ms.nx:Int):=by rw[Km (by omega)];omega
  refine W0 (Xu [2,4,5,6,8,9,10,11,17] (λs h5 n5=>∃k,s 22 = .ptr k 0 0/\k<n5/\k≠8/\h5 k=some ⟨true,2,[Jb (Ki ms.nx N)]⟩/\SI r f N (Kl ms.E) (Y8 ms.E) ms.rows ms.pars (ms.args++[AL]) h5 n5) ?_ ?_)
  ·simp[k4,hk,s9,s5,hM4,Ju,s17,hw1,hw2];intro _;refine E2 (P5 ms.nx N) ?_ ?_
   ·simp
   rintro _ rfl;have fr:∀id,id<m4->¬id=m4:=by intro id _;omega
   have l4:=M4.lt;simp;exact⟨by omega,M4.frame (by omega) λid hid=>by simp[fr id hid]⟩
  rintro Yz h5 m5 hk5 ⟨k,s22,hkn,hk8,hkb,M5⟩;simp at hk5;refine Jn (Jgh (i:=i) hi (by simp[hk5,k4,hk,s5]) (by simp[hk5,k4,hk,s11]) (by simp[hk5,k4,s17]) M5 (by simp[Kl];omega) ?_);intro st6 h6 m6 hk6 hm6 bx6 M6;simp at hk6;have hkb6:h6 k=some ⟨true,2,[Jb (Ki ms.nx N)]⟩:=by rw[bx6 k _ _ hkn hk8 hkb,hkb]
  refine W0 (Jn (Jet (l:=Ki ms.nx N) (k:=k) (by simp[hk6,hk5,k4,hk,s11]) (by simp[hk6,s22]) (by omega) hkb6 M6 (by simp[Y8];omega) ?_));intro st7 h7 m7 hk7 hm7 bx7 M7;simp at hk7;have hkb7:h7 k=some ⟨true,2,[Jb (Ki ms.nx N)]⟩:=by rw[bx7 k _ _ (by omega) hk8 hkb6,hkb6]
  have hM7:=M7.hr;refine W0 (Jq [2,4,5,6,8,9,10,11,17,22] (λs=>s 202 = .bool (Xp (r.Calls[i]).Bind)) ?_ ?_)
  ·simp[hk7,hk6,hk5,k4,hk,s5,s17,hM7,Ju,X8,hi];refine Je (Dv (r.Calls[i]'hi).Bind) (by simp) ?_;rintro r rfl;simp
  intro st8 hk8' s202;simp at hk8';have hsc:Wl N ms r.Calls[i]=⟨ms.E++[((r.Calls[i]).Bind,Ki ms.nx N)],ms.nx+1,ms.rows++(if Xp (r.Calls[i]).Bind then [Ki ms.nx N]else []),ms.pars,ms.args++[AL]⟩:=by unfold Wl;rw[hargsL]
  rw[hsc]at hJ;have hl8:=H7 (i:=ms.nx) N hN;have hkE:Kl (ms.E++[((r.Calls[i]).Bind,Ki ms.nx N)])=Kl ms.E++[(r.Calls[i]).Bind]:=by simp[Kl]
  have hvE:Y8 (ms.E++[((r.Calls[i]).Bind,Ki ms.nx N)])=Y8 ms.E++[Ki ms.nx N]:=by simp[Y8]
  cases c1:Xp (r.Calls[i]).Bind
  ·rw[c1]at s202 hJ;simp[s202,hk8',hk7,hk6,hk5,k4,s17,hw];refine hR2 _ _ _ (by simp[hk8',hk7,hk6,hk5,k4,hk]) (by simp) ⟨_,hJ,?_,by simp only;omega,by simp;omega,by simp;omega,by simp;omega⟩;unfold SM;simp only[hkE,hvE,Bool.false_eq_true,if_false,List.append_nil];exact M7
  ·rw[c1]at s202 hJ;rw[J5w (show ev st8 (.t 202) = .bool true from s202)];refine Jg5 (l:=Ki ms.nx N) (k:=k) (by simp[hk8',hk7,hk6,hk5,k4,hk,s10]) (by simp[hk8',hk7,hk6,s22]) hkb7 M7 (by omega) (by omega) ?_;intro st9 h9 m9 hk9 M9;simp at hk9;simp[hk9,hk8',hk7,hk6,hk5,k4,s17,hw];refine hR2 _ _ _ (by simp[hk9,hk8',hk7,hk6,hk5,k4,hk]) (by simp) ⟨_,hJ,?_,by simp only;omega,by simp;omega,by simp;omega,by simp;omega⟩;unfold SM;simp only[hkE,hvE,if_true];exact M9
 ·rintro st h' m Rr hk s17 ⟨ms,hJ,M,hb1,hb2,hb3,hb4⟩ _ hX;simp at hk;rw[drop_eq_nil_of_le (by omega)]at hJ;simp only[foldl_nil]at hJ;subst hJ;have hM:=M.hr;refine Jn (Jq [2,4,5,6,8,9,10,11] (λs=>s 130 = .bool false) (by simp[hk,s17,s5,hM,Ju]) ?_);intro Jv hk1 s130;simp at hk1;refine U1 s130 ?_;refine hX _ _ _ _ ?_;simp;exact hK _ _ _ (by simp[hk1,hk]) M
end
section
variable {p:Jo}{r:K0}{f:K3}{N:Nat}{I:Bt}{ks:List Kt}{s:Jm}{h:J8}{n:Nat}{Q:Xb}
theorem Vd.of {s':Jm}(S:Vd I s) (hk:s' 2=s 2/\s' 4=s 4/\s' 6=s 6/\s' 7=s 7/\s' 9=s 9/\s' 12=s 12/\s' 13=s 13/\s' 15=s 15/\s' 16=s 16):Vd I s':=S.keep (by simpa[Mz]using hk)
theorem Kj.bw {b:Nat}{l:List Jc}{v:AV}(x:Kj b 2 (l.map Ja) v h n):Go.Proofs.YtoclolkigjbcgaaGreat.bw v h=some (.sl 2 (l.map Jb)):=by
 rcases x with ⟨h1,rfl⟩|⟨i,_,_,rfl,hb⟩
 ·have:l=[]:=by simpa using h1
  subst this;simp
 ·simp[hb,take_of_length_le]
def Bc(N:Nat)(l:List Jc)(i:Nat):List Jc:=(l.take i).map (Yv N)
theorem Jgc{l:List Jc}{i:Nat}(hi:i<l.length):Bc N l (i+1)=Bc N l i++[Yv N (l[i]'hi)]:=by unfold Bc;rw[List.take_succ_eq_append_getElem hi,List.map_append];rfl
theorem Jj1{l:List Jc} : Bc N l l.length=l.map (Yv N):=by unfold Bc;rw[List.take_length]
theorem Jip{ma:MS}(S:Vd I s)(M:MI p r f N I ma h n)(hl2:f.Pre.length<=2)(hr2:ma.rows.length<=100)(hpl:∀l∈f.Pre,Yb l ma.pars N=some (Yv N l))(hwl:∀l∈f.Pre,(Yv N l).Coeffs.length<=1048576)
 (hK:∀s' h' n',Vd I s'->MI p r f N I (Yc ma (f.Pre.map (Yv N))) h' n'->Jt prog ks .normal s' h' n' Q):rC prog K5s ks s h n Q:=by
 have S0:=S;obtain⟨s2,s4,s6,s7,s9,s12,s13,s15,s16⟩:=S0;simp[K5s,s7,M.hf,M.h4];intro _;refine Ka [2,4,6,7,9,12,13,15,16,114,115] 116 f.Pre.length (λi s' h' n'=>MI p r f N I (Yc ma (Bc N f.Pre i)) h' n') (by unfold Jd;omega) (by simp) (by simpa[Yc,Bc]using M) ?_ ?_
 ·rintro i st h' m R hi hg hk s116 hw M hR _ _;simp at hk;rw[Jgc hi]at hR;have hpl:=hpl _ (getElem_mem hi);have hwl:=hwl _ (getElem_mem hi);refine Jq [2,4,6,7,9,12,13,15,16,114,115,116] (λs=>s 117 = .bool true) (by simp[hk,s116,hi]) ?_;intro Jv hk1 s117;simp at hk1;refine W3 s117 (Jn (Xd ?_));refine Xu [2,4,6,7,9,12,13,15,16,114,115,116] (λs h' n'=>∃k,s 21 = .ptr k 0 0/\k<n'/\h' k=some ⟨true,2,[Jb (f.Pre[i]'hi)]⟩/\MI p r f N I (Yc ma (Bc N f.Pre i)) h' n') ?_ ?_
  ·have fr:∀id,id<m->¬id=m:=by intro id _;omega
   simp[hk1,hk,s116,hi,M.h4];exact M.frame (by omega) λid hid=>by simp[fr id hid]
  rintro st2 h2 n2 hk2 ⟨k,s21,hkn,hkb,M2⟩;simp at hk2;generalize f.Pre[i]=l at *;generalize hms:Yc ma (Bc N f.Pre i)=ms at *;have hmp:ms.pars=ma.pars:=by rw[<-hms];rfl
  have hmr:ms.rows.length<=102:=by rw[<-hms];simp[Yc,Bc];omega
  obtain⟨vR,vP,vA,g1,g2,g3,g4,g6,g5⟩:=M2.acc;have hbP:=g3.bw;rw[hmp]at hbP;refine Xu [2,4,6,7,9,12,13,15,16,114,115,116] (λs h' n'=>s 23 = .bool true/\∃k,s 22 = .ptr k 0 0/\V3 (Yv N l) k h' n'/\MI p r f N I ms h' n') ?_ ?_
  ·have fr:∀id,id<n2->¬id=n2/\¬id=n2+1:=by intro id _;omega
   have S2:Vd I st2:=S.of (by simp[hk2,hk1,hk]);obtain⟨t2,t4,t6,t7,t9,t12,t13,t15,t16⟩:=S2;simp[s21,hkb,t12,g1,Xj,t9,M2.hn];refine Je (Ta l ma.pars N) (by simp[Jb,hbP]) ?_;rintro r rfl;rw[hpl];simp[Ku,Ja];exact⟨⟨n2,by omega,by omega,by simp,by simp⟩,M2.frame (by omega) λid hid=>by simp[fr id hid]⟩
  rintro Kq h3 n3 hk3 ⟨s23,k3,s22,L3,M3⟩;simp at hk3;have S3:Vd I Kq:=S.of (by simp[hk3,hk2,hk1,hk]);obtain⟨t2,t4,t6,t7,t9,t12,t13,t15,t16⟩:=S3;obtain⟨q,hkn,hqn,hkb,hqb⟩:=L3;simp[s23,t16,s22,hkb];refine Md M3 (l:=Yv N l) (q:=q) hwl hqn hqb (by omega) ?_;intro h6 n6 hn6 _ M6;simp[hk3,hk2,hk1,s116,hw];refine hR _ _ _ (by simp[hk3,hk2,hk1,hk]) (by simp) ?_;have:Ic ms (Yv N l)=Yc ma (Bc N f.Pre i++[Yv N l]):=by rw[<-hms];simp[Ic,Yc]
  rw[<-this];exact M6
 ·rintro st h' m R hk s116 M _ hX;simp at hk;rw[Jj1]at M;refine Jq [2,4,6,7,9,12,13,15,16] (λs=>s 117 = .bool false) (by simp[hk,s116]) ?_;intro Jv hk1 s117;simp at hk1;refine Uv s117 ?_;refine hX _ _ _ _ ?_;simp;exact hK _ _ _ (S.of (by simp[hk1,hk])) M
theorem Ov.bw2 {d:Nat}{E:Xo}(M:Ov d E h n) (x:J9):∃rows w,h d=some ⟨true,0,rows⟩/\(I4 rows x).getD (.agg [.int .i64 0,.nil 1]) = .agg [.int .i64 (Kp Jj E x).Const,w] /\
 ∀h',(∀id,id<n->h' id=h id)->Go.Proofs.YtoclolkigjbcgaaGreat.bw w h'=some (.sl 1 (Ji (Kp Jj E x).Coeffs)):=by
 obtain⟨rows,w,h1,h2,h3⟩:=M.get2 x;refine⟨rows,w,h1,h2,λh' hh=>?_⟩;rcases h3 with ⟨rfl,hc⟩|⟨q,hq,rfl,hb⟩
 ·rw[hc];rfl
 ·rw[<-hh q hq]at hb;simp[hb]
theorem Jeu{ms:MS}{q:X4}{k:Nat}(s9:s 9 = .ptr 6 0 0)(s13:s 13 = .ptr I.s 0 0)(s25:s 25 = .ptr k 0 0)(M:MI p r f N I ms h n)(hkb:h k=some ⟨true,4,[Kd q]⟩)
 (hK:∀s' h' n',(∀j,j<145->j≠26->j≠27->s' j=s j)->(∃k,s' 26 = .ptr k 0 0/\V3 (Ys (Jr 0 N) (-1) (Kp Jj ms.E q.Lst)) k h' n')->MI p r f N I ms h' n'->Jt prog ks .normal s' h' n' Q):rC prog Tv ks s h n Q:=by
 obtain⟨l1,l2,l3,l4,l5⟩:=M.lt;obtain⟨rows,w,hdr,hv,hbw⟩:=M.map.bw2 q.Lst;have fr:∀id,id<n->¬id=n/\¬id=n+1/\¬id=n+1+1/\¬id=n+2:=by intro id _;omega
 have hb1:∀x,Go.Proofs.YtoclolkigjbcgaaGreat.bw w (upd h n x)=some (.sl 1 (Ji (Kp Jj ms.E q.Lst).Coeffs)):=λx=>hbw _ λid hid=>by simp[fr id hid]
 have hb2:∀x y,Go.Proofs.YtoclolkigjbcgaaGreat.bw w (upd (upd h n x) (n+1) y)=some (.sl 1 (Ji (Kp Jj ms.E q.Lst).Coeffs)):=λx y=>hbw _ λid hid=>by simp[fr id hid]
 have kp:∀j,j<145->¬j=145/\¬j=146/\¬j=147/\¬j=148/\¬j=149/\¬j=150/\¬j=151/\¬j=152/\¬j=153/\¬j=154:=by intro j _;omega
 have ne:¬n=n+1/\¬n+1=n/\¬n=n+1+1/\¬n+1+1=n/\¬n+1=n+1+1/\¬n+1+1=n+1:=by omega
 simp[Tv,s9,s13,s25,M.hn,M.hmp,hkb,hdr,Kd,hv];constructor
 ·skip;refine Jx (On 0 N) (by simp) ?_;rintro r rfl;simp[Ja];constructor
  ·skip;refine Jx (If (Jr 0 N) (-1) (Kp Jj ms.E q.Lst)) (by simp[Jb,hb1]) ?_;rintro r rfl;rw[Xm];have hadd:(K9 (Jr 0 N) (-1) (Kp Jj ms.E q.Lst)).getD Jj=Ys (Jr 0 N) (-1) (Kp Jj ms.E q.Lst):=rfl;rw[hadd];generalize Ys (Jr 0 N) (-1) (Kp Jj ms.E q.Lst)=l at *;simp[Ja];refine hK _ _ _ (λj hj h26 h27=>by simp[kp j hj,h26,h27]) ⟨n+2,by simp,n+1,by omega,by omega,by simp,by simp⟩ (M.frame (by omega) λid hid=>by simp[fr id hid])
  ·skip;refine Jx (If (Jr 0 N) (-1) (Kp Jj ms.E q.Lst)) (by simp[Jb,hb2]) ?_;rintro r rfl;rw[Xm];have hadd:(K9 (Jr 0 N) (-1) (Kp Jj ms.E q.Lst)).getD Jj=Ys (Jr 0 N) (-1) (Kp Jj ms.E q.Lst):=rfl;rw[hadd];generalize Ys (Jr 0 N) (-1) (Kp Jj ms.E q.Lst)=l at *;simp[Ja];refine hK _ _ _ (λj hj h26 h27=>by simp[kp j hj,h26,h27]) ⟨n+1,by simp,n+2,by omega,by omega,by simp,by simp⟩ (M.frame (by omega) λid hid=>by simp[fr id hid])
 ·skip;refine Jx (On 0 N) (by simp) ?_;rintro r rfl;simp[Ja]
  ·skip;refine Jx (If (Jr 0 N) (-1) (Kp Jj ms.E q.Lst)) (by simp[Jb,hb2]) ?_;rintro r rfl;rw[Xm];have hadd:(K9 (Jr 0 N) (-1) (Kp Jj ms.E q.Lst)).getD Jj=Ys (Jr 0 N) (-1) (Kp Jj ms.E q.Lst):=rfl;rw[hadd];generalize Ys (Jr 0 N) (-1) (Kp Jj ms.E q.Lst)=l at *;simp[Ja,ne];refine hK _ _ _ (λj hj h26 h27=>by simp[kp j hj,h26,h27]) ⟨n,by simp,n+2,by omega,by omega,by simp,by simp⟩ (M.frame (by omega) λid hid=>by simp[fr id hid])
end
section
variable {p:Jo}{r:K0}{f:K3}{N:Nat}{I:Bt}{ks:List Kt}{s:Jm}{h:J8}{n:Nat}{Q:Xb}
theorem Ck{a b:Jc}{k:Int} : (Ys a k b).Coeffs.length<=8:=by
 unfold Ys
 cases ha:K9 a k b with
 |none=>simp[Jj]
 |some o=>
  have h1:=(Mx ha).1;unfold K9 at ha;split at ha
  ·rename_i hc;simp only[Bool.and_eq_true]at hc;have h2:=Wj hc.1.1.1.1;simp only[Option.getD_some];omega
  ·cases ha
theorem Jf3{a:Jc}{k:Int} : ((Vs a k).getD Jj).Coeffs.length<=8:=by
 unfold Vs;split
 ·rename_i hc;simp only[Bool.and_eq_true]at hc;have h2:=Wj hc.2;simp only[Option.getD_some];omega
 ·simp[Jj]
theorem MI.ne_m {ms:MS}(M:MI p r f N I ms h n) {k z:Nat}{rows:List (List AV)}(hk:h k=some ⟨true,z,rows⟩) (hz:z≠6):k≠I.m:=by rintro rfl;obtain⟨vR,vP,vA,g1,_⟩:=M.acc;rw[hk]at g1;simp at g1;exact hz g1.1
theorem MI.ne_d {ms:MS}(M:MI p r f N I ms h n) {k z:Nat}{rows:List (List AV)}(hk:h k=some ⟨true,z,rows⟩) (hz:z≠0):k≠I.d:=by rintro rfl;obtain⟨es,_,g1,_⟩:=M.map;rw[hk]at g1;simp at g1;exact hz g1.1
theorem MI.ne_x {ms:MS}(M:MI p r f N I ms h n) {k z:Nat}{rows:List (List AV)}(hk:h k=some ⟨true,z,rows⟩) (hz:z≠1):k≠I.x:=by rintro rfl;rw[M.hnx]at hk;simp at hk;exact hz hk.1.symm
theorem Jhk{ma:MS}(S:Vd I s)(M:MI p r f N I ma h n)(hl2:r.Patterns.length<=2)(hx2:ma.nx<=100)(hr2:ma.rows.length<=100)(hN:N<=8)
 (hK:∀s' h' n',Vd I s'->MI p r f N I (r.Patterns.foldl (Wp N) ma) h' n'->Jt prog ks .normal s' h' n' Q):rC prog K87 ks s h n Q:=by
 have S0:=S;obtain⟨s2,s4,s6,s7,s9,s12,s13,s15,s16⟩:=S0;simp[K87,s6,M.hr,Ju];intro _;generalize hT:r.Patterns.foldl (Wp N) ma=T at hK
 refine Ka [2,4,6,7,9,12,13,15,16,136,137] 138 r.Patterns.length (λi s' h' n'=>∃ms:MS,MI p r f N I ms h' n'/\(r.Patterns.drop i).foldl (Wp N) ms=T/\ms.nx<=100+i/\ms.rows.length<=100+i) (by unfold Jd;omega) (by simp)
  ⟨_,M,by simpa using hT,by omega,by omega⟩ ?_ ?_
 ·rintro i st h' m R hi hg hk s138 hw ⟨ms,M,hJ,hb1,hb2⟩ hR _ _;simp at hk;rw[drop_eq_getElem_cons hi,foldl_cons]at hJ;obtain⟨l1,l2,l3,l4,l5⟩:=M.lt;refine Jq [2,4,6,7,9,12,13,15,16,136,137,138] (λs=>s 139 = .bool true) (by simp[hk,s138,hi]) ?_;intro Jv hk1 s139;simp at hk1;refine W3 s139 (Jn (Xd ?_));refine Xu [2,4,6,7,9,12,13,15,16,136,137,138] (λs h' n'=>∃k,s 25 = .ptr k 0 0/\k<n'/\h' k=some ⟨true,4,[Kd (r.Patterns[i]'hi)]⟩/\MI p r f N I ms h' n') ?_ ?_
  ·have fr:∀id,id<m->¬id=m:=by intro id _;omega
   simp[hk1,hk,s138,hi,Kd];exact M.frame (by omega) λid hid=>by simp[fr id hid]
  rintro st2 h2 n2 hk2 ⟨k,s25,hkn,hkb,M2⟩;simp at hk2;generalize r.Patterns[i]=q at *;have S2:Vd I st2:=S.of (by simp[hk2,hk1,hk]);obtain⟨t2,t4,t6,t7,t9,t12,t13,t15,t16⟩:=S2;have kk:∀j∈[2,4,6,7,9,12,13,15,16,136,137,138],st2 j=st j:=by simp[hk2,hk1]
  simp at kk;cases hc:q.Cons
  ·have hiP:Wp N ms q=Ic ms (Ys (Jr 0 N) (-1) (Kp Jj ms.E q.Lst)):=by unfold Wp;rw[hc];rfl
   rw[hiP]at hJ;refine Jn ?_;refine Jq [2,4,6,7,9,12,13,15,16,136,137,138,25] (λs=>s 144 = .bool true) (by simp[s25,hkb,Kd,hc]) ?_;intro Kq hk3 s144;simp at hk3;rw[J5w (show ev Kq (.t 144) = .bool true from s144)];refine Jn (Jeu (q:=q) (k:=k) (by rw[hk3.2.2.2.2.1,t9]) (by rw[hk3.2.2.2.2.2.2.1,t13]) (by rw[hk3.2.2.2.2.2.2.2.2.2.2.2.2,s25]) M2 hkb ?_);rintro st4 h4 n4 hk4 ⟨k4,s26,q4,hkn4,hqn4,hkb4,hqb4⟩ M4
   have kp:∀j∈[2,4,6,7,9,12,13,15,16,136,137,138],st4 j=st j:=by simp[hk4 2 (by omega) (by omega) (by omega),hk4 4 (by omega) (by omega) (by omega),hk4 6 (by omega) (by omega) (by omega),hk4 7 (by omega) (by omega) (by omega),hk4 9 (by omega) (by omega) (by omega),hk4 12 (by omega) (by omega) (by omega),hk4 13 (by omega) (by omega) (by omega),hk4 15 (by omega) (by omega) (by omega),hk4 16 (by omega) (by omega) (by omega),hk4 136 (by omega) (by omega) (by omega),hk4 137 (by omega) (by omega) (by omega),hk4 138 (by omega) (by omega) (by omega),hk3,kk]
   simp at kp;have u16:st4 16 = .fn (.func 204) [] [.ptr I.m 0 0]:=by rw[kp.2.2.2.2.2.2.2.2.1,<-kk.2.2.2.2.2.2.2.2.1,t16]
   refine W0 ?_;simp[u16,s26,hkb4];refine Md M4 (q:=q4) (by have:=Ck (a:=Jr 0 N) (k := -1) (b:=Kp Jj ms.E q.Lst);omega) hqn4 hqb4 (by omega) ?_;intro h6 n6 hn6 _ M6;simp[kp,s138,hw];exact hR _ _ _ (by simp[kp,hk]) (by simp) ⟨_,M6,hJ,by show ms.nx<=_;omega,by show(ms.rows++[_]).length<=_;simp;omega⟩
  ·have hlx:(Ki ms.nx N).Coeffs.length<=8:=H7 N (by omega);have hiP:Wp N ms q=Ic (Qs (Qs ms q.Head (Ki ms.nx N) (ms.nx+1)) q.Tail (Gt N ms q) (ms.nx+1)) (Gt N ms q):=by unfold Wp;rw[hc];rfl
   rw[hiP]at hJ;refine Jn ?_;refine Jq [2,4,6,7,9,12,13,15,16,136,137,138,25] (λs=>s 144 = .bool false) (by simp[s25,hkb,Kd,hc]) ?_;intro Kq hk3 s144;simp at hk3;rw[Jbj (show ev Kq (.t 144) = .bool false from s144),Jdo];refine W0 ?_;have e25:Kq 25 = .ptr k 0 0:=by rw[hk3.2.2.2.2.2.2.2.2.2.2.2.2,s25]
   have e15:Kq 15 = .fn (.func 202) [] [.ptr I.x 0 0,.ptr 6 0 0,.ptr I.s 0 0]:=by rw[hk3.2.2.2.2.2.2.2.1,t15]
   have nd:=M2.ne_d hkb (by omega);have nx:=M2.ne_x hkb (by omega);refine Xu [2,4,6,7,9,12,13,15,16,136,137,138,25] (λs h' n'=>MI p r f N I (Qs ms q.Head (Ki ms.nx N) (ms.nx+1)) h' n'/\k<n'/\h' k=some ⟨true,4,[Kd q]⟩) ?_ ?_
   ·simp[e25,e15,hkb,Kd];refine J1y M2 q.Head (by omega) ?_;intro q' h1 n1 hq hq1 hfr hqb M1;simp;exact⟨M1,by omega,by rw[hfr k hkn nd nx,hkb];rfl⟩
   rintro st4 h4 n4 hk4 ⟨M4,hkn4,hkb4⟩;simp at hk4;have e13:st4 13 = .ptr I.s 0 0:=by rw[hk4.2.2.2.2.2.2.1,hk3.2.2.2.2.2.2.1,t13]
   have f25:st4 25 = .ptr k 0 0:=by rw[hk4.2.2.2.2.2.2.2.2.2.2.2.2,e25]
   have hpE:(Qs ms q.Head (Ki ms.nx N) (ms.nx+1)).E=Cs N ms q:=rfl;refine Xu [2,4,6,7,9,12,13,15,16,136,137,138,25] (λs h' n'=>MI p r f N I (Qs ms q.Head (Ki ms.nx N) (ms.nx+1)) h' n'/\k<n'/\h' k=some ⟨true,4,[Kd q]⟩/\∃k,s 28 = .ptr k 0 0/\V3 (Gt N ms q) k h' n') ?_ ?_
   ·obtain⟨rows,w,hdr,hv,hbw⟩:=M4.map.get q.Lst;rw[hpE]at hv hbw;simp[e13,f25,hkb4,Kd,M4.hmp,hdr,hv];refine Je (Jcy (Kp Jj (Cs N ms q) q.Lst) (-1)) (by simp[Jb,hbw]) ?_;rintro r rfl;rw[Xm,show(Vs (Kp Jj (Cs N ms q) q.Lst) (-1)).getD Jj=Gt N ms q from rfl];generalize Gt N ms q=l at *;have fr:∀id,id<n4->¬id=n4/\¬id=n4+1:=by intro id _;omega
    have ne:¬n4=n4+1/\¬n4+1=n4:=by omega
    simp[Ja];exact⟨M4.frame (by omega) λid hid=>by simp[fr id hid],by omega,by simp[fr k hkn4,hkb4,Kd],n4,by omega,by omega,by simp,by simp⟩
   rintro Yz h5 n5 hk5 ⟨M5,hkn5,hkb5,k5,s28,q5,w5,b5,c5,d5⟩;simp at hk5;have g13:Yz 13 = .ptr I.s 0 0:=by rw[hk5.2.2.2.2.2.2.1,e13]
   have g25:Yz 25 = .ptr k 0 0:=by rw[hk5.2.2.2.2.2.2.2.2.2.2.2.2,f25]
   have hpl8:(Gt N ms q).Coeffs.length<=8:=Jf3;refine Xu [2,4,6,7,9,12,13,15,16,136,137,138,28] (λs h' n'=>MI p r f N I (Qs (Qs ms q.Head (Ki ms.nx N) (ms.nx+1)) q.Tail (Gt N ms q) (ms.nx+1)) h' n'/\V3 (Gt N ms q) k5 h' n') ?_ ?_
   ·obtain⟨es,hE,hd,hes⟩:=M5.map;have n5d:=M5.ne_d c5 (by omega);have n5x:=M5.ne_x c5 (by omega);have q5d:¬q5=I.d:=by rintro rfl;rw[d5]at hd;simp at hd
    have ldx:¬I.x=I.d:=by omega
    simp[g13,g25,hkb5,Kd,M5.hmp,s28,c5,hd];refine⟨M5.upd_map (x:=q.Tail) (l:=Gt N ms q) (q:=q5) rfl rfl rfl rfl (Nat.le_refl _) b5 (by simp[q5d,d5]) (by simp[ldx,M5.hnx,Qs]) (λid hid h1 h2=>by simp[h1]) ?_,q5,w5,b5,by simp[n5d,c5],by simp[q5d,d5]⟩;intro es' hd';rw[hd]at hd';simp only[Option.some.injEq,Yi.mk.injEq,true_and]at hd';rw[<-J2t,<-hd'];simp[Id]
   rintro st6 h6 n6 hk6 ⟨M6,q6,w6,b6,c6,d6⟩;simp at hk6;have g16:st6 16 = .fn (.func 204) [] [.ptr I.m 0 0]:=by rw[hk6.2.2.2.2.2.2.2.2.1,hk5.2.2.2.2.2.2.2.2.1,hk4.2.2.2.2.2.2.2.2.1,hk3.2.2.2.2.2.2.2.2.1,t16]
   have g28:st6 28 = .ptr k5 0 0:=by rw[hk6.2.2.2.2.2.2.2.2.2.2.2.2,s28]
   simp[g16,g28,c6];refine Md M6 (q:=q6) (by omega) b6 d6 (by show ms.rows.length<=_;omega) ?_;intro h7 n7 hn7 _ M7;simp[hk6,hk5,hk4,hk3,kk,s138,hw];exact hR _ _ _ (by simp[hk6,hk5,hk4,hk3,kk,hk]) (by simp) ⟨_,M7,hJ,by show ms.nx+1<=_;omega,by show(ms.rows++[_]).length<=_;simp;omega⟩
 ·rintro st h' m R hk s138 ⟨ms,M,hJ,hb1,hb2⟩ _ hX;simp at hk;rw[drop_eq_nil_of_le (by omega)]at hJ;simp only[foldl_nil]at hJ;subst hJ;refine Jq [2,4,6,7,9,12,13,15,16] (λs=>s 139 = .bool false) (by simp[hk,s138]) ?_;intro Jv hk1 s139;simp at hk1;refine Uv s139 ?_;refine hX _ _ _ _ ?_;simp;exact hK _ _ _ (S.of (by simp[hk1,hk])) M
end
section
variable {p:Jo}{r:K0}{f:K3}{N:Nat}{I:Bt}{ks:List Kt}{s:Jm}{h:J8}{n:Nat}{Q:Xb}
theorem Mn(c:Int)(n:Int):(Jr c n).Coeffs.length<=8:=by
 unfold Jr;split
 ·rename_i h;simp[Kh]at h;simp;omega
 ·simp
theorem Ja8{E:Xo}{x:Xg} : (Q6 E N x).Coeffs.length<=8:=by
 unfold Q6
 have:∀(ts:List Yj) (o:Jc),o.Coeffs.length<=8->(ts.foldl (λo t=>Ys o t.Coeff (Kp Jj E t.Name)) o).Coeffs.length<=8:=by
  intro ts
  induction ts with
  |nil=>intro o h;exact h
  |cons t ts ih=>intro o _;exact ih _ Ck
 exact this _ _ (Mn _ _)
theorem Jii{E:Xo}{x:Xe} : (Qd E N x).Coeffs.length<=8:=by
 unfold Qd;split
 ·split
  ·exact Mn _ _
  ·exact Ck
 ·exact Ja8
def Hw(E:Xo)(N:Nat)(l:List Xg)(i:Nat):List Jc:=(l.take i).map (Q6 E N)
theorem Jhh{E:Xo}{l:List Xg}{i:Nat}(hi:i<l.length):Hw E N l (i+1)=Hw E N l i++[Q6 E N (l[i]'hi)]:=by unfold Hw;rw[List.take_succ_eq_append_getElem hi,List.map_append];rfl
theorem Jtm{E:Xo}{l:List Xg} : Hw E N l l.length=l.map (Q6 E N):=by unfold Hw;rw[List.take_length]
theorem Jj0{ma:MS}(S:Vd I s)(M:MI p r f N I ma h n)(hl2:r.Guards.length<=2)(hr2:ma.rows.length<=1000)(hts:∀g∈r.Guards,g.Terms.length<=1048576)
 (hK:∀s' h' n',Vd I s'->MI p r f N I (Yc ma (r.Guards.map (Q6 ma.E N))) h' n'->Jt prog ks .normal s' h' n' Q):rC prog K5t ks s h n Q:=by
 have S0:=S;obtain⟨s2,s4,s6,s7,s9,s12,s13,s15,s16⟩:=S0;simp[K5t,s6,M.hr,Ju];intro _;refine Ka [2,4,6,7,9,12,13,15,16,179,180] 181 r.Guards.length (λi s' h' n'=>MI p r f N I (Yc ma (Hw ma.E N r.Guards i)) h' n') (by unfold Jd;omega) (by simp) (by simpa[Yc,Hw]using M) ?_ ?_
 ·rintro i st h' m R hi hg hk s181 hw M hR _ _;simp at hk;rw[Jhh hi]at hR;have hts:=hts _ (getElem_mem hi);refine Jq [2,4,6,7,9,12,13,15,16,179,180,181] (λs=>s 182 = .bool true) (by simp[hk,s181,hi]) ?_;intro Jv hk1 s182;simp at hk1;refine W3 s182 (Jn (Xd ?_));refine Xu [2,4,6,7,9,12,13,15,16,179,180,181] (λs h' n'=>∃k,s 31 = .ptr k 0 0/\k<n'/\h' k=some ⟨true,2,[Ks (r.Guards[i]'hi)]⟩/\MI p r f N I (Yc ma (Hw ma.E N r.Guards i)) h' n') ?_ ?_
  ·have fr:∀id,id<m->¬id=m:=by intro id _;omega
   simp[hk1,hk,s181,hi,Ks];exact M.frame (by omega) λid hid=>by simp[fr id hid]
  rintro st2 h2 n2 hk2 ⟨k,s31,hkn,hkb,M2⟩;simp at hk2;generalize r.Guards[i]=g at *;generalize hms:Yc ma (Hw ma.E N r.Guards i)=ms at *;have hmE:ms.E=ma.E:=by rw[<-hms];rfl
  have hmr:ms.rows.length<=1002:=by rw[<-hms];simp[Yc,Hw];omega
  obtain⟨l1,l2,l3,l4,l5⟩:=M2.lt;have S2:Vd I st2:=S.of (by simp[hk2,hk1,hk]);obtain⟨t2,t4,t6,t7,t9,t12,t13,t15,t16⟩:=S2;simp[t16,t13,M2.hmp,s31,hkb,t9,M2.hn];refine J2d (E:=ma.E) hts (by rw[<-hmE];exact M2.map) (by omega) ?_;intro q h3 n3 hq hqn hfr hqb;simp[Id];have M3:=M2.frame (h':=h3) (n':=n3) (by omega) hfr;have hs8:(Q6 ma.E N g).Coeffs.length<=8:=Ja8;refine Md M3 (q:=q) (by omega) hqn hqb (by omega) ?_;intro h6 n6 hn6 _ M6;simp[hk2,hk1,s181,hw];refine hR _ _ _ (by simp[hk2,hk1,hk]) (by simp) ?_;have:Ic ms (Q6 ma.E N g)=Yc ma (Hw ma.E N r.Guards i++[Q6 ma.E N g]):=by rw[<-hms];simp[Ic,Yc]
  rw[<-this];exact M6
 ·rintro st h' m R hk s181 M _ hX;simp at hk;rw[Jtm]at M;refine Jq [2,4,6,7,9,12,13,15,16] (λs=>s 182 = .bool false) (by simp[hk,s181]) ?_;intro Jv hk1 s182;simp at hk1;refine Uv s182 ?_;refine hX _ _ _ _ ?_;simp;exact hK _ _ _ (S.of (by simp[hk1,hk])) M
theorem Jg6{ms:MS}{c:Xq}{k:Nat}(s9:s 9 = .ptr 6 0 0)(s13:s 13 = .ptr I.s 0 0)(s33:s 33 = .ptr k 0 0)(s34:s 34 = .nil 2)(M:MI p r f N I ms h n)(hkn:k<n)(hkb:h k=some ⟨true,3,[X8 c]⟩)
 (hal:c.Args.length<=1048576) (hts:∀a∈c.Args,∀x∈a.Heads,x.Terms.length<=1048576) (hne:∀a∈c.Args,a.Lst=false->0<a.Heads.length)
 (hK:∀s' h' n',(∀j∈[2,4,6,7,9,12,13,15,16,193,194,195,33],s' j=s j)->n<=n'->(∀id,id<n->h' id=h id)->Kj (n - 1) 2 ((c.Args.map (Qd ms.E N)).map Ja) (s' 34) h' n'->Jt prog ks .normal s' h' n' Q):rC prog Jm3 ks s h n Q:=by
 obtain⟨l1,l2,l3,l4,l5⟩:=M.lt;simp[Jm3,s33,hkb,X8];intro _;generalize hT:c.Args.map (Qd ms.E N)=T at hK;have hTl:T.length<=1048576:=by rw[<-hT];simpa using hal
 have hTl2:∀i,i<=c.Args.length->∀acc:List Jc,acc++(c.Args.drop i).map (Qd ms.E N)=T->acc.length<=1048576:=by intro i _ acc h;have:=congrArg List.length h;simp at this;omega
 refine Ka [2,4,6,7,9,12,13,15,16,193,194,195,33,200,201] 202 c.Args.length (λi s' h' n'=>n<=n'/\(∀id,id<n->h' id=h id)/\∃acc:List Jc,Kj (n - 1) 2 (acc.map Ja) (s' 34) h' n'/\acc++(c.Args.drop i).map (Qd ms.E N)=T) (by unfold Jd;omega) (by simp)
  ⟨Nat.le_refl _,λ_ _=>rfl,[],.inl (by simp[s34]),by simpa using hT⟩ ?_ ?_
 ·rintro i st h' m R hi hg hk s202 hw ⟨hm,hfr,acc,hA,hJ⟩ hR _ _;have hal2:=hTl2 i (by omega) acc hJ;simp at hk;rw[drop_eq_getElem_cons hi,map_cons]at hJ;have hts:=hts _ (getElem_mem hi);have hne:=hne _ (getElem_mem hi);refine Jq [2,4,6,7,9,12,13,15,16,193,194,195,33,200,201,202,34] (λs=>s 203 = .bool true) (by simp[hk,s202,hi]) ?_;intro Jv hk1 s203;simp at hk1;refine W3 s203 (Jn (Xd ?_));refine Xu [2,4,6,7,9,12,13,15,16,193,194,195,33,200,201,202,34] (λs h2 n2=>n2=m+1/\s 36 = .ptr m 0 0/\h2 m=some ⟨true,3,[Kn (c.Args[i]'hi)]⟩/\∀id,id<m->h2 id=h' id) ?_ ?_
  ·have fr:∀id,id<m->¬id=m:=by intro id _;omega
   simp[hk1,hk,s202,hi,Kn];exact λid hid=>by simp[fr id hid]
  rintro st2 h2 n2 hk2 ⟨rfl,s36,em,hfr2⟩;simp at hk2;generalize c.Args[i]=x at *;have M2:=M.frame (h':=h2) (n':=m+1) (by omega) λid hid=>by rw[hfr2 id (by omega),hfr id hid]
  have u13:st2 13 = .ptr I.s 0 0:=by simp[hk2,hk1,hk,s13]
  have u9:st2 9 = .ptr 6 0 0:=by simp[hk2,hk1,hk,s9]
  simp[u13,u9,M2.hmp,M2.hn,s36,em];refine J28 (E:=ms.E) hts hne M2.map (by omega) ?_;intro q h3 n3 hq hqn hfr3 hqb;have frm:∀id,id<n->h3 id=h id:=λid hid=>by rw[hfr3 id (by omega),hfr2 id (by omega),hfr id hid]
  have hl8:(Qd ms.E N x).Coeffs.length<=8:=Jii;generalize Qd ms.E N x=l at *;have w34:st2 34=st 34:=by simp[hk2,hk1]
  have ne:¬q=n3/\¬n3=q:=by omega
  have fr:∀id,id<n->¬id=q/\¬id=n3/\¬id=n3+1:=by intro id _;omega
  rcases hA with ⟨hz,hv⟩|⟨id0,hid1,hid2,hv,hid3⟩
  ·have hz':acc=[]:=by simpa using hz
   subst hz';rw[hv]at w34;simp[Id,hqb,w34,hk2,hk1,s202,hw];refine⟨by unfold Jd;omega,?_⟩;exact hR _ _ _ (by simp[hk2,hk1,hk]) (by simp) ⟨by omega,λid hid=>by simp[fr id hid,frm id hid],[l],.inr ⟨n3+1,by omega,by omega,by simp,by simp[Ja]⟩,by simpa using hJ⟩
  ·rw[hv]at w34;have e0:h3 id0=some ⟨false,2,acc.map Ja⟩:=by rw[hfr3 id0 (by omega),hfr2 id0 (by omega),hid3]
   have nid:¬id0=n3/\¬n3=id0/\¬id0=n3+1/\¬n3+1=id0/\¬id0=q/\¬q=id0:=by omega
   have fr0:∀id,id<n->¬id=id0:=by intro id _;omega
   simp[Id,hqb,w34,nid,e0,hk2,hk1,s202,hw];refine⟨by unfold Jd;omega,?_⟩;exact hR _ _ _ (by simp[hk2,hk1,hk]) (by simp) ⟨by omega,λid hid=>by simp[fr id hid,fr0 id hid,frm id hid],acc++[l],.inr ⟨n3+1,by omega,by omega,by simp,by simp[Ja]⟩,by simpa using hJ⟩
 ·rintro st h' m R hk s202 ⟨hm,hfr,acc,hA,hJ⟩ _ hX;simp at hk;rw[drop_eq_nil_of_le (by omega)]at hJ;simp at hJ;subst hJ;refine Jq [2,4,6,7,9,12,13,15,16,193,194,195,33,34] (λs=>s 203 = .bool false) (by simp[hk,s202]) ?_;intro Jv hk1 s203;simp at hk1;refine Uv s203 ?_;refine hX _ _ _ _ ?_;simp;refine hK _ _ _ (by simp[hk1,hk]) hm hfr ?_;rw[hk1.2.2.2.2.2.2.2.2.2.2.2.2.2];exact hA
end
section
variable {p:Jo}{r:K0}{f:K3}{N:Nat}{I:Bt}{ks:List Kt}{s:Jm}{h:J8}{n:Nat}{Q:Xb}
theorem Jdm{l:List (List Jc)}(hl:l≠[])(m:List Int)(h:l.map Y3=Ji m):False:=by
 cases l with
 |nil=>exact hl rfl
 |cons x l=>
  cases m with
  |nil=>simp[Ji]at h
  |cons y m=>simp[Ji,Y3,i64]at h
theorem Jeo{ms:MS}{c:Xq}{k n0:Nat}{h0:J8}{as':List Jc}{v:AV}(s12:s 12 = .ptr I.m 0 0)(s34:s 34=v)(M:MI p r f N I ms h0 n0)(hkn:k<n0)(hkb:h0 k=some ⟨true,3,[X8 c]⟩)(hn:n0<=n)(hfr:∀id,id<n0->h id=h0 id)
 (A:Kj (n0 - 1) 2 (as'.map Ja) v h n) (hal:ms.args.length<=1048576) (hasl:as'.length<=100000000)
 (hK:∀s' h' n',(∀j∈[2,4,6,7,9,12,13,15,16,193,194,195,33],s' j=s j)->MI p r f N I (Vg ms as') h' n'->k<n'->h' k=some ⟨true,3,[X8 c]⟩->Jt prog ks .normal s' h' n' Q):rC prog Jlr ks s h n Q:=by
 obtain⟨l1,l2,l3,l4,l5⟩:=M.lt;obtain⟨vR,vP,vA,g1,g2,g3,g4,g6,g5⟩:=M.acc;have hkm:¬k=I.m:=M.ne_m hkb (by omega);have g1':h I.m=some ⟨true,6,[Xj N vR vP vA]⟩:=by rw[hfr _ (by omega),g1]
 have hkb':h k=some ⟨true,3,[X8 c]⟩:=by rw[hfr _ hkn,hkb]
 have ne:¬I.m=n/\¬I.m=n+1/\¬n=I.m/\¬n+1=I.m/\¬k=n/\¬k=n+1/\¬n=n+1/\¬n+1=n:=by omega
 have fr:∀id,id<n0->¬id=n/\¬id=n+1:=by intro id _;omega
 have fm:∀id,I.x<id->¬id=I.m:=by intro id _;omega
 have hul:Y3 as'=[.us 2 (as'.map Ja)]:=rfl;simp[Jlr,s12,s34,g1',Xj];rcases A with ⟨hz,rfl⟩|⟨j0,hj0,hjn,rfl,hjb⟩
 ·have hz':as'=[]:=by simpa using hz
  subst hz';rcases g4 with ⟨hzA,rfl⟩|⟨iA,hA1,hA2,rfl,hibA⟩
  ·have hz2:ms.args=[]:=by simpa using hzA
   simp[ne,g1',Xj,s12];refine⟨by unfold Jd;omega,?_⟩;refine hK _ _ _ (by simp) (M.upd_acc (st':=Vg ms []) rfl rfl (by omega) (λ_=>False) (λ_ h=>h.elim) ?_ ?_) (by omega) (by simp[ne,hkm,hkb'])
   ·intro id hid hm _;simp[fr id hid,hm,hfr id hid]
   ·refine⟨vR,vP,.ref (n+1) 0 1,by simp[Xj],g2.keep (by omega) λid hb hid _=>by simp[fr id hid,fm id hb,hfr id hid],g3.keep (by omega) λid hb hid _=>by simp[fr id hid,fm id hb,hfr id hid],.inr ⟨n+1,by omega,by omega,by simp[Vg,hz2],by simp[Vg,hz2,ne,Y3]⟩,by simp[Vg],g5⟩
  ·have hibA':h iA=some ⟨false,1,ms.args.map Y3⟩:=by rw[hfr _ hA2,hibA]
   have ni:¬iA=n/\¬iA=n+1/\¬iA=I.m/\¬I.m=iA/\¬n=iA/\¬n+1=iA:=by omega
   have hik:¬k=iA:=by rintro rfl;rw[hkb]at hibA;simp at hibA
   have hne:ms.args≠[]:=λe=>by have:=g6 e;simp at this
   simp[ne,ni,g1',Xj,s12,hibA'];refine⟨by unfold Jd;omega,?_⟩;refine hK _ _ _ (by simp) (M.upd_acc (st':=Vg ms []) rfl rfl (by omega) (λid=>id=iA) (λid e=>⟨by omega,λl hl=>by rw[e,hibA]at hl;simp at hl;exact Jdm hne l hl⟩) ?_ ?_) (by omega) (by simp[ne,hkm,hik,hkb'])
   ·intro id hid hm hii;simp[fr id hid,hm,hii,hfr id hid]
   ·refine⟨vR,vP,.ref (n+1) 0 (ms.args.length+1),by simp[Xj],g2.keep (by omega) λid hb hid e=>?_,g3.keep (by omega) λid hb hid e=>?_,.inr ⟨n+1,by omega,by omega,by simp[Vg],by simp[Vg,ne,Y3]⟩,by simp[Vg],g5⟩
    ·have hii:¬id=iA:=by
      intro e';rcases g2 with ⟨_,e2⟩|⟨j',_,_,e2,hjb⟩
      ·rw[e2]at e;cases e
      ·rw[e2]at e;simp only[AV.ref.injEq]at e;rw[e.1,e',hibA]at hjb;simp at hjb
     simp[fr id hid,fm id hb,hii,hfr id hid]
    ·have hii:¬id=iA:=by
      intro e';rcases g3 with ⟨_,e2⟩|⟨j',_,_,e2,hjb⟩
      ·rw[e2]at e;cases e
      ·rw[e2]at e;simp only[AV.ref.injEq]at e;rw[e.1,e',hibA]at hjb;simp at hjb
     simp[fr id hid,fm id hb,hii,hfr id hid]
 ·have nj:¬j0=n/\¬j0=n+1/\¬n=j0/\¬n+1=j0/\¬j0=I.m/\¬I.m=j0:=by omega
  have fj:¬k=j0/\¬j0=k:=by omega
  have frj:∀id,id<n0->¬id=j0:=by intro id _;omega
  rcases g4 with ⟨hzA,rfl⟩|⟨iA,hA1,hA2,rfl,hibA⟩
  ·have hz2:ms.args=[]:=by simpa using hzA
   simp[ne,g1',Xj,s12,hjb,nj];refine⟨by unfold Jd;omega,?_⟩;refine hK _ _ _ (by simp) (M.upd_acc (st':=Vg ms as') rfl rfl (by omega) (λ_=>False) (λ_ h=>h.elim) ?_ ?_) (by omega) (by simp[ne,hkm,hkb',fj])
   ·intro id hid hm _;simp[fr id hid,hm,hfr id hid,frj id hid]
   ·refine⟨vR,vP,.ref (n+1) 0 1,by simp[Xj],g2.keep (by omega) λid hb hid _=>by simp[fr id hid,fm id hb,hfr id hid,frj id hid],g3.keep (by omega) λid hb hid _=>by simp[fr id hid,fm id hb,hfr id hid,frj id hid],.inr ⟨n+1,by omega,by omega,by simp[Vg,hz2],by simp[Vg,hz2,ne,Y3]⟩,by simp[Vg],g5⟩
  ·have nij:¬iA=j0/\¬j0=iA:=by omega
   have hibA':h iA=some ⟨false,1,ms.args.map Y3⟩:=by rw[hfr _ hA2,hibA]
   have ni:¬iA=n/\¬iA=n+1/\¬iA=I.m/\¬I.m=iA/\¬n=iA/\¬n+1=iA:=by omega
   have hik:¬k=iA:=by rintro rfl;rw[hkb]at hibA;simp at hibA
   have hne:ms.args≠[]:=λe=>by have:=g6 e;simp at this
   simp[ne,ni,g1',Xj,s12,hibA',hjb,nj,nij];refine⟨by unfold Jd;omega,?_⟩;refine hK _ _ _ (by simp) (M.upd_acc (st':=Vg ms as') rfl rfl (by omega) (λid=>id=iA) (λid e=>⟨by omega,λl hl=>by rw[e,hibA]at hl;simp at hl;exact Jdm hne l hl⟩) ?_ ?_) (by omega) (by simp[ne,hkm,hik,hkb',fj])
   ·intro id hid hm hii;simp[fr id hid,hm,hii,hfr id hid,frj id hid]
   ·refine⟨vR,vP,.ref (n+1) 0 (ms.args.length+1),by simp[Xj],g2.keep (by omega) λid hb hid e=>?_,g3.keep (by omega) λid hb hid e=>?_,.inr ⟨n+1,by omega,by omega,by simp[Vg],by simp[Vg,ne,Y3]⟩,by simp[Vg],g5⟩
    ·have hii:¬id=iA:=by
      intro e';rcases g2 with ⟨_,e2⟩|⟨j',_,_,e2,hjb⟩
      ·rw[e2]at e;cases e
      ·rw[e2]at e;simp only[AV.ref.injEq]at e;rw[e.1,e',hibA]at hjb;simp at hjb
     simp[fr id hid,fm id hb,hii,hfr id hid,frj id hid]
    ·have hii:¬id=iA:=by
      intro e';rcases g3 with ⟨_,e2⟩|⟨j',_,_,e2,hjb⟩
      ·rw[e2]at e;cases e
      ·rw[e2]at e;simp only[AV.ref.injEq]at e;rw[e.1,e',hibA]at hjb;simp at hjb
     simp[fr id hid,fm id hb,hii,hfr id hid,frj id hid]
theorem Ji1{ma:MS}(S:Vd I s)(M:MI p r f N I ma h n)(hp:X2 p<=1048576)(hl2:r.Calls.length<=2)(hx2:ma.nx<=1000)(hr2:ma.rows.length<=10000)(ha2:ma.args.length<=10)(hN:N<=8)
 (hargs:∀c∈r.Calls,c.Args.length<=1048576/\(∀a∈c.Args,∀x∈a.Heads,x.Terms.length<=1048576)/\∀a∈c.Args,a.Lst=false->0<a.Heads.length)
 (hK:∀s' h' n',Vd I s'->MI p r f N I (r.Calls.foldl (De p N) ma) h' n'->Jt prog ks .normal s' h' n' Q):rC prog K6r ks s h n Q:=by
 have S0:=S;obtain⟨s2,s4,s6,s7,s9,s12,s13,s15,s16⟩:=S0;simp[K6r,s6,M.hr,Ju];intro _;generalize hT:r.Calls.foldl (De p N) ma=T at hK
 refine Ka [2,4,6,7,9,12,13,15,16,193,194] 195 r.Calls.length (λi s' h' n'=>∃ms:MS,MI p r f N I ms h' n'/\(r.Calls.drop i).foldl (De p N) ms=T/\ms.nx<=1000+i/\ms.rows.length<=10000+i/\ms.args.length<=10+i) (by unfold Jd;omega) (by simp)
  ⟨_,M,by simpa using hT,by omega,by omega,by omega⟩ ?_ ?_
 ·rintro i st h' m R hi hg hk s195 hw ⟨ms,M,hJ,hb1,hb2,hb3⟩ hR _ _;simp at hk;rw[drop_eq_getElem_cons hi,foldl_cons]at hJ;obtain⟨ha1,ha2,ha3⟩:=hargs _ (getElem_mem hi);obtain⟨l1,l2,l3,l4,l5⟩:=M.lt;refine Jq [2,4,6,7,9,12,13,15,16,193,194,195] (λs=>s 196 = .bool true) (by simp[hk,s195,hi]) ?_;intro Jv hk1 s196;simp at hk1;refine W3 s196 (Jn (Xd ?_));refine Xu [2,4,6,7,9,12,13,15,16,193,194,195] (λs h' n'=>∃k,s 33 = .ptr k 0 0/\k<n'/\h' k=some ⟨true,3,[X8 (r.Calls[i]'hi)]⟩/\MI p r f N I ms h' n') ?_ ?_
  ·have fr:∀id,id<m->¬id=m:=by intro id _;omega
   simp[hk1,hk,s195,hi,X8];exact M.frame (by omega) λid hid=>by simp[fr id hid]
  rintro st2 h2 n2 hk2 ⟨k,s33,hkn,hkb,M2⟩;simp at hk2;generalize r.Calls[i]=c at *;refine Jq [2,4,6,7,9,12,13,15,16,193,194,195,33] (λs=>s 34 = .nil 2) (by simp) ?_;intro Kq hk3 s34;simp at hk3;have S3:Vd I Kq:=S.of (by simp[hk3,hk2,hk1,hk]);obtain⟨t2,t4,t6,t7,t9,t12,t13,t15,t16⟩:=S3;refine Jn (Jg6 t9 t13 (by rw[hk3.2.2.2.2.2.2.2.2.2.2.2.2,s33]) s34 M2 hkn hkb ha1 ha2 ha3 ?_);intro st4 h4 n4 hk4 hn4 hfr4 A4;simp at hk4;refine W0 (Jn (Jeo (c:=c) (k:=k) (by rw[hk4.2.2.2.2.2.1,t12]) rfl M2 hkn hkb hn4 hfr4 A4 (by omega) (by simp;omega) ?_));intro Yz h5 n5 hk5 M5 hkn5 hkb5;simp at hk5;generalize hal:c.Args.map (Qd ms.E N)=as' at *;have hlx:(Ki ms.nx N).Coeffs.length<=8:=H7 N (by omega);generalize hLR:((Xc p.Functions c.Func).getD Yt).ListResult=LR at *
  have hiC:De p N ms c=if LR then Ic (Qs (Vg ms as') c.Bind (Ki ms.nx N) (ms.nx+1)) (Ki ms.nx N)else Qs (Vg ms as') c.Bind (Ki ms.nx N) (ms.nx+1):=by unfold De;rw[hal,hLR];cases LR <;>simp[Ic,Qs,Vg]
  rw[hiC]at hJ;have u15:Yz 15 = .fn (.func 202) [] [.ptr I.x 0 0,.ptr 6 0 0,.ptr I.s 0 0]:=by rw[hk5.2.2.2.2.2.2.2.1,hk4.2.2.2.2.2.2.2.1,t15]
  have u33:Yz 33 = .ptr k 0 0:=by rw[hk5.2.2.2.2.2.2.2.2.2.2.2.2,hk4.2.2.2.2.2.2.2.2.2.2.2.2,hk3.2.2.2.2.2.2.2.2.2.2.2.2,s33]
  have nd:=M5.ne_d hkb5 (by omega);have nx:=M5.ne_x hkb5 (by omega);have hnx5:(Vg ms as').nx=ms.nx:=rfl;refine W0 (Xu [2,4,6,7,9,12,13,15,16,193,194,195,33] (λs h' n'=>MI p r f N I (Qs (Vg ms as') c.Bind (Ki ms.nx N) (ms.nx+1)) h' n'/\k<n'/\h' k=some ⟨true,3,[X8 c]⟩/\∃k,s 37 = .ptr k 0 0/\V3 (Ki ms.nx N) k h' n') ?_ ?_)
  ·simp[u33,u15,hkb5,X8];refine J1y M5 c.Bind (by rw[hnx5];omega) ?_;rw[hnx5];intro q' h1 n1 hq hq1 hfr hqb M1;have fr:∀id,id<n1->¬id=n1:=by intro id _;omega
   generalize Ki ms.nx N=l at *;simp[Id];exact⟨M1.frame (by omega) λid hid=>by simp[fr id hid],by omega,by simp[fr k (by omega),hfr k hkn5 nd nx,hkb5,X8],q',by omega,by omega,by simp,by simp[fr q' hq1,hqb]⟩
  rintro st6 h6 n6 hk6 ⟨M6,hkn6,hkb6,k37,s37,q7,x7,y7,z7,w7⟩;simp at hk6;have v2:st6 2 = .ptr 0 0 0:=by rw[hk6.1,hk5.1,hk4.1,t2]
  have v33:st6 33 = .ptr k 0 0:=by rw[hk6.2.2.2.2.2.2.2.2.2.2.2.2,u33]
  refine Xu [2,4,6,7,9,12,13,15,16,193,194,195,37] (λs h' n'=>MI p r f N I (Qs (Vg ms as') c.Bind (Ki ms.nx N) (ms.nx+1)) h' n'/\V3 (Ki ms.nx N) k37 h' n'/\∃k x y z,s 38 = .ptr k 0 0/\h' k=some ⟨true,4,[[x,y,.bool LR,z]]⟩) ?_ ?_
  ·simp[v2,v33,hkb6,X8,M6.hp];refine Je (Cm p c.Func hp) (by simp[Jg]) ?_;rintro r rfl;unfold Qz;rw[<-hLR];generalize(Xc p.Functions c.Func).getD Yt=G at *;have fr:∀id,id<n6->¬id=n6/\¬id=n6+1/\¬id=n6+1+1:=by intro id _;omega
   simp[Xr];exact⟨M6.frame (by omega) λid hid=>by simp[fr id hid],q7,by omega,by omega,by simp[fr k37 x7,z7],by simp[fr q7 y7,w7]⟩
  rintro st7 h7 n7 hk7 ⟨M7,⟨q8,x8,y8,z8,w8⟩,k38,x,y,z,s38,hkb8⟩;simp at hk7;refine Jq [2,4,6,7,9,12,13,15,16,193,194,195,37] (λs=>s 232 = .bool LR) (by simp[s38,hkb8]) ?_;intro st8 hk8 s232;simp at hk8;have kp:∀j∈[2,4,6,7,9,12,13,15,16,193,194,195],st8 j=st j:=by simp[hk8,hk7,hk6,hk5,hk4,hk3,hk2,hk1]
  simp at kp;have g16:st8 16 = .fn (.func 204) [] [.ptr I.m 0 0]:=by rw[hk8.2.2.2.2.2.2.2.2.1,hk7.2.2.2.2.2.2.2.2.1,hk6.2.2.2.2.2.2.2.2.1,hk5.2.2.2.2.2.2.2.2.1,hk4.2.2.2.2.2.2.2.2.1,t16]
  have g37:st8 37 = .ptr k37 0 0:=by rw[hk8.2.2.2.2.2.2.2.2.2.2.2.2,hk7.2.2.2.2.2.2.2.2.2.2.2.2,s37]
  cases LR
  ·simp only[Bool.false_eq_true,if_false]at hJ;simp[s232,kp,s195,hw];exact hR _ _ _ (by simp[kp,hk]) (by simp) ⟨_,M7,hJ,by show ms.nx+1<=_;omega,by show ms.rows.length<=_;omega,by show(ms.args++[_]).length<=_;simp;omega⟩
  ·simp only[if_true]at hJ;simp[s232,g16,g37,z8];refine Md M7 (q:=q8) (by omega) y8 w8 (by show ms.rows.length<=_;omega) ?_;intro h9 n9 hn9 _ M9;simp[kp,s195,hw];exact hR _ _ _ (by simp[kp,hk]) (by simp) ⟨_,M9,hJ,by show ms.nx+1<=_;omega,by show(ms.rows++[_]).length<=_;simp;omega,by show(ms.args++[_]).length<=_;simp;omega⟩
 ·rintro st h' m R hk s195 ⟨ms,M,hJ,hb1,hb2,hb3⟩ _ hX;simp at hk;rw[drop_eq_nil_of_le (by omega)]at hJ;simp only[foldl_nil]at hJ;subst hJ;refine Jq [2,4,6,7,9,12,13,15,16] (λs=>s 196 = .bool false) (by simp[hk,s195]) ?_;intro Jv hk1 s196;simp at hk1;refine Uv s196 ?_;refine hX _ _ _ _ ?_;simp;exact hK _ _ _ (S.of (by simp[hk1,hk])) M
end
def Dd:X5:=⟨⟨0,[]⟩,[],[],⟨0,[]⟩⟩
def Hp(o:Option X5):AV := .tup [.agg (Ug (o.getD Dd)),.bool o.isSome]
def Fg:K0:=⟨[],[],[],[],⟨false,[],[]⟩⟩
def Iv(p:Jo)(r:K0):K3:=(Xc p.Functions r.Func).getD Yt
def Hf(p:Jo)(k:Int):Option X5:=
 if Ym p&&Kh k 0 ((p.Rules.length:Int) - 1)then some (Qj (p.Rules.getD k.toNat Fg) (Iv p (p.Rules.getD k.toNat Fg)))else Option.none
theorem P2{a:Xe}(h:Oo a=true):(∀x∈a.Heads,x.Terms.length<=4)/\(a.Lst=false->0<a.Heads.length):=by
 unfold Oo at h;simp only[Bool.and_eq_true,List.all_eq_true]at h;obtain⟨h1,h2⟩:=h;refine⟨λx hx=>?_,λhL=>?_⟩
 ·have:=h1 x hx;unfold I8 at this;simp only[Bool.and_eq_true,decide_eq_true_eq]at this;exact this.1.2
 ·rw[hL]at h2;simp at h2;omega
theorem J5h{a:Xe}{b:Bool}{K:List J9}(h:Wu a b K=true):Oo a=true:=by unfold Wu at h;simp only[Bool.and_eq_true]at h;exact h.1.1
theorem J1d{p:Jo}{r:K0} : ∀{l:List Xq}{k:Nat},Qe p r k l=true->∀c∈l,∃s,Ik p c s=true
 | [],_,_,_,h=>by cases h
 |c::l,k,h,d,hd=>by
  simp only[Qe,Bool.and_eq_true]at h;rcases List.mem_cons.1 hd with rfl|hd
  ·exact⟨_,h.1⟩
  ·exact J1d h.2 d hd
theorem C9.args {p:Jo}{r:K0}{f:K3}(hp:Ym p=true) (R:C9 p r f):∀c∈r.Calls,c.Args.length<=2/\∀a∈c.Args,Oo a=true:=by
 intro c hc;obtain⟨s,hs⟩:=J1d R.calls c hc;have h1:=(Jbd hs).1;refine⟨?_,λa ha=>?_⟩
 ·unfold Ik at hs;simp only[Bool.and_eq_true,decide_eq_true_eq]at hs;obtain⟨⟨⟨g1,g2⟩,_⟩,_⟩:=hs;obtain⟨g,hg⟩:=Option.isSome_iff_exists.1 g1;rw[hg]at g2;have:=(Mc hp hg).1;simp only[Option.getD_some]at g2;omega
 ·obtain⟨b,hb⟩:=h1 a ha;exact J5h hb
theorem J50{n:Nat} : ∀{xs:List J9}{a:MS},(xs.foldl (W8 n) a).nx=a.nx+xs.length/\(xs.foldl (W8 n) a).rows.length<=a.rows.length+xs.length/\(xs.foldl (W8 n) a).args=a.args
 | [],a=>by simp
 |x::xs,a=>by
  obtain⟨h1,h2,h3⟩:=J50 (n:=n) (xs:=xs) (a:=W8 n a x);simp only[foldl_cons,List.length_cons];refine⟨by rw[h1];show a.nx+1+_=_;omega,?_,by rw[h3];rfl⟩;have:(W8 n a x).rows.length<=a.rows.length+1:=by unfold W8;simp only[List.length_append];split <;>simp
  omega
theorem J4t{n:Nat} : ∀{xs:List X4}{a:MS},(xs.foldl (Wp n) a).nx<=a.nx+xs.length/\(xs.foldl (Wp n) a).rows.length<=a.rows.length+xs.length/\(xs.foldl (Wp n) a).args=a.args/\(xs.foldl (Wp n) a).pars=a.pars
 | [],a=>by simp
 |x::xs,a=>by
  obtain⟨h1,h2,h3,h4⟩:=J4t (n:=n) (xs:=xs) (a:=Wp n a x);simp only[foldl_cons,List.length_cons];have g1:(Wp n a x).rows.length<=a.rows.length+1:=by unfold Wp;split <;>simp
  have g2:(Wp n a x).nx<=a.nx+1:=by unfold Wp;split <;>simp
  have g3:(Wp n a x).args=a.args:=by unfold Wp;split <;>rfl
  have g4:(Wp n a x).pars=a.pars:=by unfold Wp;split <;>rfl
  exact⟨by omega,by omega,by rw[h3,g3],by rw[h4,g4]⟩
theorem J7e(p:Jo)(hp:X2 p<=1048576)(k:Int):Holds prog 126 [.agg (Jg p),i64 k] (λr=>r=Hp (Hf p k)):=by
 refine Jp func126 Jnm rfl (by simp[K69]) ?_;simp[K69,mo0,mo1,Jg];refine Je (Sm p hp) (by simp[Jg]) ?_;rintro r rfl;unfold Hf;cases h1:Ym p
 ·simp[Hp,Dd,Ug,Ji]
 simp;intro hrl;have hw:IntKind.i64.wrap ((p.Rules.length:Int) - 1)=(p.Rules.length:Int) - 1:=Km (by unfold Jd at hrl;omega);rw[hw];refine Je (O4 k 0 ((p.Rules.length:Int) - 1)) (by simp) ?_;rintro r rfl;cases h2:Kh k 0 ((p.Rules.length:Int) - 1)
 ·simp[Hp,Dd,Ug,Ji]
 have hk0:0<=k/\k<=(p.Rules.length:Int) - 1:=by simpa[Kh]using h2
 obtain⟨j,rfl⟩:∃j:Nat,k=j:=⟨k.toNat,by omega⟩;have hj:j<p.Rules.length:=by omega
 have hgd:p.Rules.getD ((j:Int).toNat) Fg=p.Rules[j]:=by simp[hj]
 obtain⟨f,hf,R⟩:=Fk h1 (getElem_mem hj);have hfa:Iv p p.Rules[j]=f:=by unfold Iv;rw[hf];rfl
 have hwr:IntKind.i64.wrap ((f.Params.length:Int)+((p.Rules[j]).Calls.length:Int))=(f.Params.length:Int)+((p.Rules[j]).Calls.length:Int):=by have:=R.par;have:=R.ncalls;exact Km (by omega)
 simp[mo2,mo3,mo4,hj];refine Je (Cm p (p.Rules[j]).Func hp) (by simp[Jg]) ?_;rintro r rfl;rw[hfa,hf];have hmeq:=Jjf hf R;generalize p.Rules[j]=r at *;simp[Qz,Xr,Ju,hwr];intro _ _;have hpar:=R.par;have hnpre:=R.npre;have hnp:=R.npats;have hnc:=R.ncalls;have h6:=R.size;have hrargs:=R.args h1;have hrres:=P2 (J5h R.res);refine Jqr (r:=r) (c:=f.Params.length+r.Calls.length) (by simp) (by simp) (by simp[Ju]) (by simp) (by omega) (by omega) (by omega) ?_;intro s1 h1 n1 hk1 hn1 hfr1 e6
 have hpre:∀l∈f.Pre,Yb l (Jv r f).pars (Kc r f)=some (Yv (Kc r f) l):=by intro l hl;have hd:=R.nd;rw[List.append_assoc,List.nodup_append]at hd;obtain⟨_,_,_,e4,_⟩:=J5r (n:=Kc r f) (xs:=f.Params) (a:=⟨[],0,[],[],[]⟩) (b:=⟨[],0,V1 f (Kc r f),[],[]⟩) rfl rfl rfl rfl hd.1 (by simp[Kl]);unfold Jv;rw[e4];simp only[List.nil_append];rw[Je0 R.par];exact J6p R.par (by unfold Kc;omega) (by omega) (R.pre l hl)
 have hmI:Tl p r f=some (M0 (Kc r f) (Yz p r f (f.Pre.map (Yv (Kc r f)))) (Qd (Yz p r f (f.Pre.map (Yv (Kc r f)))).E (Kc r f) r.Result)):=by unfold Tl;rw[J8s hpre]
 rw[hmeq]at hmI;have hmS:=Option.some.inj hmI;rw[show f.Params.length+r.Calls.length+Yf r.Patterns=Kc r f from rfl]at e6
 have hsc:∀l∈f.Pre,(Yv (Kc r f) l).Coeffs.length<=1048576:=by intro l hl;have:=(Wj (R.pre l hl)).1;simp[Yv];omega
 have st1d:Jv r f=f.Params.foldl (W8 (Kc r f)) ⟨[],0,[],[],[]⟩:=rfl;have st3d:∀pre,Kq r f pre=r.Patterns.foldl (Wp (Kc r f)) (Yc (Jv r f) pre):=λ_=>rfl
 have st5d:∀pre,Yz p r f pre=r.Calls.foldl (De p (Kc r f)) (Yc (Kq r f pre) (r.Guards.map (Q6 (Kq r f pre).E (Kc r f)))):=λ_=>rfl
 have b1:(Jv r f).nx<=2/\(Jv r f).rows.length<=2/\(Jv r f).args=[]:=by obtain⟨g1,g2,g3⟩:=J50 (n:=Kc r f) (xs:=f.Params) (a:=⟨[],0,[],[],[]⟩);rw[<-st1d]at g1 g2 g3;refine⟨by rw[g1];simpa using hpar,?_,g3⟩;simp at g2;omega
 generalize hN:Kc r f=N at *;generalize hpreL:f.Pre.map (Yv N)=preR at *
 have b2:(Kq r f preR).nx<=4/\(Kq r f preR).rows.length<=6/\(Kq r f preR).args=[]:=by
  obtain⟨g1,g2,g3,_⟩:=J4t (n:=N) (xs:=r.Patterns) (a:=Yc (Jv r f) preR);rw[<-st3d]at g1 g2 g3;have hpl:preR.length<=2:=by rw[<-hpreL];simpa using hnpre
  have e1:(Yc (Jv r f) preR).nx=(Jv r f).nx:=rfl;have e2:(Yc (Jv r f) preR).rows.length=(Jv r f).rows.length+preR.length:=by simp[Yc]
  have e3:(Yc (Jv r f) preR).args=(Jv r f).args:=rfl;refine⟨by omega,by omega,by rw[g3,e3];exact b1.2.2⟩
 simp at hk1;have f0:=hfr1 0 (by omega) (by omega);have f1:=hfr1 1 (by omega) (by omega);have f2:=hfr1 2 (by omega) (by omega);have f3:=hfr1 3 (by omega) (by omega);have f4:=hfr1 4 (by omega) (by omega);have f5:=hfr1 5 (by omega) (by omega);simp at f0 f1 f2 f3 f4 f5;have ne:¬0=n1/\¬1=n1/\¬2=n1/\¬3=n1/\¬4=n1/\¬5=n1/\¬6=n1/\¬n1=0/\¬n1=1/\¬n1=2/\¬n1=3/\¬n1=4/\¬n1=5/\¬n1=6/\¬n1=n1+1/\¬n1+1=n1/\¬n1=n1+1+1/\¬n1+1+1=n1/\¬n1=n1+1+1+1/\¬n1+1+1+1=n1/\¬n1+1=n1+1+1/\¬n1+1=n1+1+1+1/\¬n1+1+1=n1+1+1+1:=by omega
 refine W0 ?_;simp[mo6,mo7,mo8,mo9,Kc6,hk1,e6];refine Ji4 (I:=⟨n1,n1+1,n1+1+1,n1+1+1+1⟩) (p:=p) (r:=r) (f:=f) (N:=N) (by simp[Vd,hk1]) ?_ hpar (by omega) ?_
 ·refine⟨by simp[f0,ne,Jg],by simp[f1,ne],by simp[f2,ne,Ju],by simp[f3,ne],by simp[f4,ne],by simp[f5,ne],by simp[e6,ne],by simp only;omega,by simp,by simp,⟨[],rfl,by simp,by simp⟩,.nil 2,.nil 2,.nil 1,by simp[ne,Xj],.inl (by simp),.inl (by simp),.inl (by simp),by simp,by simp⟩
 intro s2 h2 n2 S2 M2;rw[<-st1d]at M2;refine W0 (Jn (Jip S2 M2 hnpre (by omega) hpre hsc ?_));intro s3 h3 n3 S3 M3;rw[hpreL]at M3
 have hw1:(Yc (Jv r f) preR).rows.length<=100:=by
  have hpl:preR.length<=2:=by rw[<-hpreL];simpa using hnpre
  simp[Yc];omega
 refine W0 (Jn (Jhk S3 M3 (by omega) (by show(Jv r f).nx<=_;omega) hw1 (by omega) ?_));intro s4 h4 n4 S4 M4;rw[<-st3d]at M4;refine W0 (Jn (Jj0 S4 M4 R.nguards (by omega) (λg hg=>?_) ?_))
 ·have:=R.guards g hg;unfold Qo I8 at this;simp only[Bool.and_eq_true,decide_eq_true_eq]at this;omega
 intro s5 h5 n5 S5 M5
 have hw2:(Yc (Kq r f preR) (r.Guards.map (Q6 (Kq r f preR).E N))).rows.length<=10000:=by have:=R.nguards;simp[Yc];omega
 refine W0 (Jn (Ji1 S5 M5 hp (by omega) (by show(Kq r f preR).nx<=_;omega) hw2 (by show(Kq r f preR).args.length<=_;rw[b2.2.2];simp) (by omega) (λc hc=>?_) ?_))
 ·obtain⟨g1,g2⟩:=hrargs c hc;refine⟨by omega,λa ha x hx=>?_,λa ha=>(P2 (g2 a ha)).2⟩;have:=(P2 (g2 a ha)).1 x hx;omega
 intro s6 h6' n6 S6 M6;rw[<-st5d]at M6;generalize Yz p r f preR=ms at *;obtain⟨l1,l2,l3,l4,l5⟩:=M6.lt;generalize(⟨n1,n1+1,n1+1+1,n1+1+1+1⟩:Bt)=I at *;obtain⟨s2,s4,s6,s7,s9,s12,s13,s15,s16⟩:=S6;refine W0 ?_;simp[Kc9,s13,s6,s9,M6.hmp,M6.hr,M6.hn,Ju];refine J28 (a:=r.Result) (E:=ms.E) (λx hx=>by have:=hrres.1 x hx;omega) hrres.2 M6.map (by omega) ?_;intro q h7 n7 hq hqn hfr7 hqb;have M7:=M6.frame (h':=h7) (n':=n7) (by omega) hfr7;generalize hres:Qd ms.E N r.Result=res at *;obtain⟨vR,vP,vA,g1,g2,g3,g4,g6,g5⟩:=M6.acc;rw[<-hfr7 I.m (by omega)]at g1;have hqm:¬q=I.m:=by omega
 have cR:=g2.cell;have cP:=g3.cell;have cA:=g4.cell;have n1m:¬1=I.m:=by omega
 simp[Id,s12,g1,Xj,Kc2,s4,M7.hz,n1m,-dt,-Va,-Kb,J1r,J4k,cR,cP,cA];generalize hH:upd (upd h7 I.m _) 1 _=H
 have fH:∀id,I.x<id->id<n7->H id=h7 id:=by
  intro id hid _;have:¬id=1/\¬id=I.m:=by omega
  rw[<-hH];simp[this]
 have k2:Kj I.x 2 (ms.rows.map Ja) vR H n6:=g2.keep (Nat.le_refl _) λid hb hid _=>by rw[fH id hb (by omega),hfr7 id hid]
 have k3:Kj I.x 2 (ms.pars.map Ja) vP H n6:=g3.keep (Nat.le_refl _) λid hb hid _=>by rw[fH id hb (by omega),hfr7 id hid]
 have k4:Kj I.x 1 (ms.args.map Y3) vA H n6:=g4.keep (Nat.le_refl _) λid hb hid _=>by rw[fH id hb (by omega),hfr7 id hid]
 have kq:H q=some ⟨false,1,Ji res.Coeffs⟩:=by rw[fH q (by omega) hqn,hqb]
 obtain⟨H1,d1,e1⟩:=k2.dt;have k3':Kj I.x 2 (ms.pars.map Ja) vP H1 n6:=k3.keep (Nat.le_refl _) λid hb hid e=>e1 id λl el=>g5 id _ id _ el e rfl
 obtain⟨H2,d2,e2⟩:=k3'.dt
 have k4':Kj I.x 1 (ms.args.map Y3) vA H2 n6:=k4.keep (Nat.le_refl _) λid hb hid e=>by rw[e2 id λl el=>k3.ne_sz k4 (by omega) el e,e1 id λl el=>k2.ne_sz k4 (by omega) el e]
 obtain⟨H3,d3,e3⟩:=k4'.dt
 have kq3:H3 q=some ⟨false,1,Ji res.Coeffs⟩:=by rw[e3 q λl el=>k4.ne_ge hq el,e2 q λl el=>k3.ne_ge hq el,e1 q λl el=>k2.ne_ge hq el,kq]
 simp[d1,d2,d3,kq3,Hp,Ug,hmS,M0]
def K5g:Jl:= ⟨69,[.t 2],(Zq [Zt 2 false] (Zq [Zo 7 (.bsl 1 []),Zv 3 7] (.seq (Zq [Zi 4 0] (.blk 0 (.loop (.seq (Zq [Zv 8 4,Zv 9 0,Zn 10 9,Zb 11 .lss 8 10] (Zw 11 0)) (.seq (.blk 1 (Zq [Zv 14 0,Zv 15 4,Zx 16 4 14 15,Zl 17 true 4 16,ZU 5,Zs 4 5 17] (.seq (Zq [Zf 18 0 5,Zl 19 false 1 18,Zc 20 216 [.t 19],ZN 21 20,Zv 22 21,Zg 23 22 false (.fld 1 (.t 5)),Zg 24 22 false (.ld false 1 (.t 23)),Zg 25 22 false (.len false (.t 24)),Zg 26 22 false (.bin .gtr (.t 25) (.k (.int .i64 2))),ZP 27 22 26,Zv 28 27,Zg 29 28 false (.fld 1 (.t 5)),Zg 30 28 false (.ld false 1 (.t 29)),Zg 31 28 false (.call (.k (.fn (.func 217) [] [])) [.t 30]),Zg 32 28 false (.un .not (.t 31)),ZP 33 28 32,Zv 34 33,Zg 35 34 false (.fld 3 (.t 5)),Zg 36 34 false (.ld false 1 (.t 35)),Zg 37 34 false (.len false (.t 36)),Zg 38 34 false (.bin .gtr (.t 37) (.k (.int .i64 2))),ZP 39 34 38] (.cond (.t 39) (Zq [Zt 2 false] .ret) .skip)) (.seq (Zq [Zi 6 0] (.blk 2 (.loop (.seq (Zq [Zv 40 6,Zf 41 3 5,Zl 42 false 1 41,Zn 43 42,Zb 44 .lss 40 43] (Zw 44 2)) (.seq (.blk 3 (.seq (.draw (.op (Zf 47 3 5) (.op (Zl 48 false 1 47) (.op (Zv 49 6) (.op (Zx 50 2 48 49) (.op (Zl 51 true 2 50) (.op (Zf 52 1 5) (.op (Zl 53 false 1 52) (.op (Zn 54 53) (.op (Zc 55 179 [.t 51,.t 54]) (.op (ZN 56 55) .fin))))))))))) (.cond (.t 56) (Zq [Zt 2 false] .ret) .skip))) (.reg [Zv 45 6,Zk 46 .add 45 1,Zv 6 46])))))) (.reg [Zv 57 3,Zf 58 0 5,Zl 59 false 1 58,ZS 60 1 59,ZA 61 16 1 57 60,Zv 3 61]))))) (.reg [Zv 12 4,Zk 13 .add 12 1,Zv 4 13])))))) (Zq [Zv 62 0,Zn 63 62,Zc 64 183 [.t 63,(.k (.int .i64 1)),(.k (.int .i64 3))],Zv 65 64,Zg 66 65 true (.mv (.t 3)),Zg 67 65 true (.call (.k (.fn (.func 218) [] [])) [.t 66]),ZQ 68 65 67,Zv 2 68] .ret))))⟩
theorem Jnc:Jh prog f134=some K5g:=by kernel_rfl
def a61:Jl:= ⟨29,[.t 2],(Zq [ZB 1 0,Zt 2 false] (.seq (Zq [Zf 4 0 1,Zl 5 false 1 4,Zc 6 134 [.t 5],ZN 7 6,Zv 8 7,Zg 9 8 false (.fld 1 (.t 1)),Zg 10 8 false (.ld false 1 (.t 9)),Zg 11 8 false (.len false (.t 10)),Zg 12 8 false (.bin .gtr (.t 11) (.k (.int .i64 8))),ZP 13 8 12] (.cond (.t 13) (Zq [Zt 2 false] .ret) .skip)) (.seq (Zq [Zi 3 0] (.blk 0 (.loop (.seq (Zq [Zv 14 3,Zf 15 1 1,Zl 16 false 1 15,Zn 17 16,Zb 18 .lss 14 17] (Zw 18 0)) (.seq (.blk 1 (.seq (.draw (.op (Zl 21 true 2 1) (.op (Zf 22 1 1) (.op (Zl 23 false 1 22) (.op (Zv 24 3) (.op (Zx 25 7 23 24) (.op (Zl 26 true 7 25) (.op (Zc 27 135 [.t 21,.t 26]) (.op (ZN 28 27) .fin))))))))) (.cond (.t 28) (Zq [Zt 2 false] .ret) .skip))) (.reg [Zv 19 3,Zk 20 .add 19 1,Zv 3 20])))))) (Zq [Zt 2 true] .ret))))⟩
theorem Jzi:Jh prog f61=some a61:=by kernel_rfl
theorem J5u{α:Type}{p:α->Bool}{l:List α}{i:Nat}(hi:i<l.length):(l.drop i).all p=(p l[i]&&(l.drop (i+1)).all p):=by rw[drop_eq_getElem_cons hi,List.all_cons]
theorem Jb4{l:List K3}{i:Nat}(hi:i<=l.length):(Qy l i).length=i:=by simp[Qy];omega
theorem J42(fs:List K3)(hlf:fs.length<=1048576)(hpre:∀f∈fs,f.Pre.length<=1048576):Holds prog 134 [.sl 4 (fs.map K5)] (λx=>x = .bool (fs.all Od&&Kh fs.length 1 3&&Q5 (fs.map (·.Name)))):=by
 refine Jp func134 Jnc rfl (by simp[K5g]) ?_;simp[K5g];generalize hB:fs.all Od=B;refine Ka [0] 4 fs.length (λi s h n=>(fs.drop i).all Od=B/\∃id,id<n/\s 3 = .ref id 0 i/\h id=some ⟨false,1,Jf (Qy fs i)⟩) (by unfold Jd;omega) (by simp) ⟨by simpa using hB,0,by simp,by simp,by simp[Jf,Qy]⟩ ?_ ?_
 ·rintro i st h n R hi hg hk s4 hw ⟨hJ,id,hid,s3,eid⟩ hR hret _;simp at hk;rw[J5u hi]at hJ;have z0:¬id=n:=by omega
  have z1:¬n=id:=by omega
  refine Jn (Jq [0,3,4] (λs=>s 11 = .bool true) (by simp[hk,s4,hi]) ?_);intro Jv hk1 s11;simp at hk1;refine U2 s11 (Jn (Xd ?_));refine Xu [0,3,4] (λs h' n'=>s 5 = .ptr n 0 0/\n'=n+1/\h' n=some ⟨true,4,[K5 fs[i]]⟩/\h' id=some ⟨false,1,Jf (Qy fs i)⟩) (by simp[hk,hk1,s4,hi,K5,eid,z0]) ?_;rintro st2 h2' n2 hk2 ⟨s5,rfl,en,eid'⟩;simp at hk2;have hfp:=hpre _ (getElem_mem hi);generalize hf:fs[i]=f at *;refine Jn (Jq [0,3,4,5] (λs=>s 39 = .bool (!Wb f.Name || !decide (f.Params.length<=2) || !(f.Params.all W7&&Q5 f.Params) || !decide (f.Pre.length<=2))) ?_ ?_)
  ·have hdp:decide (f.Params.length<=2)=decide ((f.Params.length:Int)<=2):=by rw[decide_eq_decide];omega
   have hdq:decide (f.Pre.length<=2)=decide ((f.Pre.length:Int)<=2):=by rw[decide_eq_decide];omega
   obtain⟨E,hE⟩:∃E,E=(f.Params.all W7&&Q5 f.Params):=⟨_,rfl⟩;rw[hdp,hdq,<-hE];simp[s5,en,K5];refine Je (J05 f.Name) (by simp) ?_;rintro r rfl;cases g1:Wb f.Name
   ·simp
   simp[hk,hk1,hk2,s5,en,K5];intro _;by_cases g3:(f.Params.length:Int)<=2
   case neg=>simp[g3,Int.not_le.1 g3]
   simp[g3,Int.not_lt.2 g3];refine Je (Jc6 f.Params) (by simp) ?_;rintro r rfl;rw[<-hE];clear hE;cases E
   ·simp
   simp[hk,hk1,hk2,s5,en,K5];intro _;by_cases g5:(f.Pre.length:Int)<=2
   ·simp[g5,Int.not_lt.2 g5]
   ·simp[g5,Int.not_le.1 g5]
  intro Kq hk3 s39;simp at hk3;generalize hcc:(!Wb f.Name || !decide (f.Params.length<=2) || !(f.Params.all W7&&Q5 f.Params) || !decide (f.Pre.length<=2))=cc at *
  have hbody:Od f=(!cc&&f.Pre.all λl=>K8 l f.Params.length):=by rw[<-hcc];unfold Od;cases Wb f.Name <;>cases decide (f.Params.length<=2) <;>cases f.Params.all W7 <;>cases Q5 f.Params <;>cases decide (f.Pre.length<=2) <;>simp
  rw[hbody]at hJ;clear hbody hcc;cases cc
  case true=>
   simp at hJ;simp[s39];refine hret _ _ _ ?_;simp[hJ]
  refine J5g s39 ?_;simp only[Wd];simp only[Bool.not_false,Bool.true_and]at hJ;simp;generalize hB2:(f.Pre.all λl=>K8 l f.Params.length)=B2 at *;refine Ka [0,3,4,5] 6 f.Pre.length (λj s h' n'=>n<n'/\h' n=some ⟨true,4,[K5 f]⟩/\h' id=some ⟨false,1,Jf (Qy fs i)⟩/\((f.Pre.drop j).all λl=>K8 l f.Params.length)=B2) (by unfold Jd;omega) (by simp) ⟨by omega,by simpa using en,by simpa using eid',by simpa using hB2⟩ ?_ ?_
  ·rintro j stj hj nj Rj hji hjg hkj s6 hwj ⟨hnj,enj,eidj,hJj⟩ hRj hretj _;simp at hkj;rw[J5u hji]at hJj;refine Jn (Jq [0,3,4,5,6] (λs=>s 44 = .bool true) (by simp[hkj,hk3,s5,s6,hji,enj,K5]) ?_);intro stk hkk s44;simp at hkk;refine U2 s44 (Jn (Xd ?_));refine Jq [0,3,4,5,6] (λs=>s 56 = .bool (!K8 f.Pre[j] f.Params.length)) ?_ ?_
   ·simp[hkj,hkk,hk3,s5,s6,hji,enj,K5];refine Jx (Gj (f.Pre[j]'hji) f.Params.length) (by simp) ?_;rintro r rfl;simp
   intro stm hkm s56;simp at hkm;generalize K8 f.Pre[j] f.Params.length=D at *;cases D
   ·rw[Bool.false_and]at hJj;subst hJj;simp at hJ;subst hJ;simp[s56];refine hretj _ _ _ ?_;simp;refine hret _ _ _ ?_;simp
   ·rw[Bool.true_and]at hJj;simp[hkk,hkm,s56,s6,hwj];exact hRj _ _ _ (by simp[hkj,hkk,hkm]) (by simp) ⟨hnj,enj,eidj,hJj⟩
  rintro stj hj nj Rj hkj s6 ⟨hnj,enj,eidj,hJj⟩ hretj hXj;simp at hkj;rw[drop_eq_nil_of_le (by omega)]at hJj;simp at hJj;subst hJj;rw[Bool.true_and]at hJ;refine Jn (Jq [0,3,4,5] (λs=>s 44 = .bool false) (by simp[hkj,hk3,s5,s6,enj,K5]) ?_);intro stk hkk s44;simp at hkk;refine U1 s44 ?_;simp;refine hXj _ _ _ _ ?_;have y0:¬id=nj:=by omega
  have y1:¬nj=id:=by omega
  have y2:¬id=nj+1:=by omega
  have y3:¬nj+1=id:=by omega
  have y4:¬n=nj:=by omega
  have y5:¬nj=n:=by omega
  have hl:=Jb4 (l:=fs) (i:=i) (by omega);simp[hk1,hk2,hk3,hkj,hkk,s3,s4,s5,enj,eidj,K5,y0,y1,hl,hw];refine⟨by unfold Jd;omega,?_⟩;have hs:=J7a hi;rw[hf]at hs;exact hR _ _ _ (by simp[hk,hk1,hk2,hk3,hkj,hkk]) (by simp) ⟨hJ,nj+1,by omega,by simp,by simp[hs,Jf,take_of_length_le,hl]⟩
 rintro st h n R hk s4 ⟨hJ,id,hid,s3,eid⟩ hret hX;simp at hk;rw[drop_eq_nil_of_le (by omega)]at hJ;simp at hJ;subst hJ;refine Jn (Jq [0,3,4] (λs=>s 11 = .bool false) (by simp[hk,s4]) ?_);intro Jv hk1 s11;simp at hk1;refine U1 s11 ?_;refine hX _ _ _ _ ?_;have hnam:Qy fs fs.length=fs.map (·.Name):=by simp[Qy]
 have hnl:=Jb4 (l:=fs) (i:=fs.length) (by omega);rw[hnam]at eid hnl;simp[hk,hk1];intro _;refine Je (Gb fs.length 1 3) (by simp) ?_;rintro r rfl;cases h1:Kh fs.length 1 3
 ·simp
 simp[hk1,s3];have ht:List.take fs.length (Jf (fs.map (·.Name)))=Jf (fs.map (·.Name)):=take_of_length_le (by simp);refine Je (J01 (fs.map (·.Name))) (by simp[eid,ht]) ?_;rintro r rfl;simp
theorem T0(p:Jo)(hp:X2 p<=1048576):Holds prog 61 [.agg (Jg p)] (λx=>x = .bool (Ym p)):=by
 have hlf:p.Functions.length<=1048576:=by have:=Yn Yr p.Functions;unfold X2 Qb at hp;omega
 have hpre:∀f∈p.Functions,f.Pre.length<=1048576:=λf hf=>by have h1:=Wn (w:=Yr) hf;have h2:=Yn Uf f.Pre;unfold X2 Qb at hp;rw[show Yr f=f.Name.length+It f.Params+U9 f.Pre from rfl]at h1;unfold U9 at h1;omega
 have hlr:p.Rules.length<=1048576:=by have:=Yn Ub p.Rules;unfold X2 Gx at hp;omega
 refine Jp func61 Jzi rfl (by simp[a61]) ?_;simp[a61,Jg];refine Je (J42 p.Functions hlf hpre) (by simp) ?_;rintro r rfl
 have hord:Ym p=(p.Functions.all Od&&Kh p.Functions.length 1 3&&Q5 (p.Functions.map (·.Name))&&decide (p.Rules.length<=8)&&p.Rules.all (G8 p)):=by unfold Ym;rw[Sh];unfold Q5;cases Kh p.Functions.length 1 3 <;>cases p.Functions.all Od <;>simp
 rw[hord];generalize(p.Functions.all Od&&Kh p.Functions.length 1 3&&Q5 (p.Functions.map (·.Name)))=E;cases E
 ·simp
 simp;intro _;have hdg:decide (p.Rules.length<=8)=decide ((p.Rules.length:Int)<=8):=by rw[decide_eq_decide];omega
 by_cases h2:(p.Rules.length:Int)<=8
 case neg=>
  have h2n:¬p.Rules.length<=8:=by omega
  simp[h2,h2n,Int.not_le.1 h2]
 have h2n:p.Rules.length<=8:=by omega
 simp[h2,h2n,Int.not_lt.2 h2];generalize hB:p.Rules.all (G8 p)=B;refine Ka [1] 3 p.Rules.length (λi s h n=>0<n/\h 0=some ⟨true,2,[Jg p]⟩/\(p.Rules.drop i).all (G8 p)=B) (by unfold Jd;omega) (by simp) ⟨by simp,by simp[Jg],by simpa using hB⟩ ?_ ?_
 ·rintro i st h n R hi hg hk s3 hw ⟨hn,e0,hJ⟩ hR hret _;simp at hk;rw[J5u hi]at hJ;refine Jn (Jq [1,3] (λs=>s 18 = .bool true) (by simp[hk,s3,hi,e0,Jg]) ?_);intro Jv hk1 s18;simp at hk1;refine U2 s18 (Jn (Xd ?_));refine Jq [1,3] (λs=>s 28 = .bool (!G8 p p.Rules[i])) ?_ ?_
  ·simp[hk,hk1,s3,hi,e0,Jg];refine Jx (J49 p (p.Rules[i]'hi) hp (J5v hp _ (getElem_mem hi))) (by simp[Jg]) ?_;rintro r rfl;simp
  intro st2 hk2 s28;simp at hk2;generalize G8 p p.Rules[i]=D at *;cases D
  ·rw[Bool.false_and]at hJ;subst hJ;simp[s28];refine hret _ _ _ ?_;simp
  ·rw[Bool.true_and]at hJ;simp[hk1,hk2,s28,s3,hw];exact hR _ _ _ (by simp[hk,hk1,hk2]) (by simp) ⟨hn,e0,hJ⟩
 rintro st h n R hk s3 ⟨hn,e0,hJ⟩ hret hX;simp at hk;rw[drop_eq_nil_of_le (by omega)]at hJ;simp at hJ;subst hJ;refine Jn (Jq [1] (λs=>s 18 = .bool false) (by simp[hk,s3,e0,Jg]) ?_);intro Jv hk1 s18;refine U1 s18 ?_;refine hX _ _ _ _ ?_;simp
end Go.Proofs.YtoclolkigjbcgaaGreat

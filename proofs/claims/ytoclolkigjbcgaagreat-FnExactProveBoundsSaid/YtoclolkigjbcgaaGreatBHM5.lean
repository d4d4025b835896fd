/- The program's ModelOf, part by part: guards, arguments of calls. -/
import Derived.Test.YtoclolkigjbcgaaGreatBHS4
import Derived.Test.YtoclolkigjbcgaaGreatBV7
import Derived.Test.YtoclolkigjbcgaaGreatBC9
import Derived.Test.YtoclolkigjbcgaaGreatBRE
namespace Go.Proofs.YtoclolkigjbcgaaGreat
open Tryz(prog)
open List(getElem_mem drop_eq_getElem_cons map_cons drop_eq_nil_of_le foldl_cons mem_cons length_cons length_append nil_append append_nil mem_append not_mem_nil mem_map)
set_option maxRecDepth 40000
set_option maxHeartbeats 4000000
open Go Go.RowKit Go.Proofs
set_option linter.all false
section
variable {p:Jq}{r:Jy}{f:K3}{N:Nat}{I:Hs}{ks:List Kt}{s:Jm}{h:J8}{n:Nat}{Q:Xc}
theorem Cl(c:Int)(n:Int):(Jo c n).Coeffs.length<=8:=by
 unfold Jo;split
 ·rename_i h;simp[K9]at h;simp;omega
 ·simp
theorem J9s{E:Xl}{x:Xb} : (Q6 E N x).Coeffs.length<=8:=by
 unfold Q6
 have:∀(ts:List Yb) (o:Jc),o.Coeffs.length<=8->(ts.foldl (λo t=>Yn o t.Coeff (Kp Jl E t.Name)) o).Coeffs.length<=8:=by
  intro ts
  induction ts with
  |nil=>intro o h;exact h
  |cons t ts ih=>intro o _;exact ih _ Cc
 exact this _ _ (Cl _ _)
theorem Jgt{E:Xl}{x:X8} : (Q8 E N x).Coeffs.length<=8:=by
 unfold Q8;split
 ·split
  ·exact Cl _ _
  ·exact Cc
 ·exact J9s
def Ht(E:Xl)(N:Nat)(l:List Xb)(i:Nat):List Jc:=(l.take i).map (Q6 E N)
theorem Jho{E:Xl}{l:List Xb}{i:Nat}(hi:i<l.length):Ht E N l (i+1)=Ht E N l i++[Q6 E N (l[i]'hi)]:=by unfold Ht;rw[List.take_succ_eq_append_getElem hi,List.map_append];rfl
theorem Jmp{E:Xl}{l:List Xb} : Ht E N l l.length=l.map (Q6 E N):=by unfold Ht;rw[List.take_length]
theorem Jhf{ma:MS}(S:Vm I s)(M:MI p r f N I ma h n)(hl2:r.Guards.length<=2)(hr2:ma.rows.length<=1000)(hts:∀g∈r.Guards,g.Terms.length<=1048576)
 (hK:∀s' h' n',Vm I s'->MI p r f N I (Y7 ma (r.Guards.map (Q6 ma.E N))) h' n'->Ju prog ks .normal s' h' n' Q):rC prog Ti ks s h n Q:=by
 have S0:=S;obtain⟨s2,s4,s6,s7,s9,s12,s13,s15,s16⟩:=S0;simp[Ti,s6,M.hr,Jr];intro _;refine Ki [2,4,6,7,9,12,13,15,16,179,180] 181 r.Guards.length (λi s' h' n'=>MI p r f N I (Y7 ma (Ht ma.E N r.Guards i)) h' n') (by unfold Jb;omega) (by simp) (by simpa[Y7,Ht]using M) ?_ ?_
 ·rintro i st h' m R hi hg hk s181 hw M hR _ _;simp at hk;rw[Jho hi]at hR;have hts:=hts _ (getElem_mem hi);refine Js [2,4,6,7,9,12,13,15,16,179,180,181] (λs=>s 182 = .bool true) (by simp[hk,s181,hi]) ?_;intro Jv hk1 s182;simp at hk1;refine W9 s182 (Jn (Xg ?_));refine Xo [2,4,6,7,9,12,13,15,16,179,180,181] (λs h' n'=>∃k,s 31 = .ptr k 0 0/\k<n'/\h' k=some ⟨true,2,[Kq (r.Guards[i]'hi)]⟩/\MI p r f N I (Y7 ma (Ht ma.E N r.Guards i)) h' n') ?_ ?_
  ·have fr:∀id,id<m->¬id=m:=by intro id _;omega
   simp[hk1,hk,s181,hi,Kq];exact M.frame (by omega) λid hid=>by simp[fr id hid]
  rintro st2 h2 n2 hk2 ⟨k,s31,hkn,hkb,M2⟩;simp at hk2;generalize r.Guards[i]=g at *;generalize hms:Y7 ma (Ht ma.E N r.Guards i)=ms at *;have hmE:ms.E=ma.E:=by rw[<-hms];rfl
  have hmr:ms.rows.length<=1002:=by rw[<-hms];simp[Y7,Ht];omega
  obtain⟨l1,l2,l3,l4,l5⟩:=M2.lt;have S2:Vm I st2:=S.of (by simp[hk2,hk1,hk]);obtain⟨t2,t4,t6,t7,t9,t12,t13,t15,t16⟩:=S2;simp[t16,t13,M2.hmp,s31,hkb,t9,M2.hn];refine J2c (E:=ma.E) hts (by rw[<-hmE];exact M2.map) (by omega) ?_;intro q h3 n3 hq hqn hfr hqb;simp[Id];have M3:=M2.frame (h':=h3) (n':=n3) (by omega) hfr;have hs8:(Q6 ma.E N g).Coeffs.length<=8:=J9s;refine C9 M3 (q:=q) (by omega) hqn hqb (by omega) ?_;intro h6 n6 hn6 _ M6;simp[hk2,hk1,s181,hw];refine hR _ _ _ (by simp[hk2,hk1,hk]) (by simp) ?_;have:Ik ms (Q6 ma.E N g)=Y7 ma (Ht ma.E N r.Guards i++[Q6 ma.E N g]):=by rw[<-hms];simp[Ik,Y7]
  rw[<-this];exact M6
 ·rintro st h' m R hk s181 M _ hX;simp at hk;rw[Jmp]at M;refine Js [2,4,6,7,9,12,13,15,16] (λs=>s 182 = .bool false) (by simp[hk,s181]) ?_;intro Jv hk1 s182;simp at hk1;refine Ut s182 ?_;refine hX _ _ _ _ ?_;simp;exact hK _ _ _ (S.of (by simp[hk1,hk])) M
theorem Jeo{ms:MS}{c:Xf}{k:Nat}(s9:s 9 = .ptr 6 0 0)(s13:s 13 = .ptr I.s 0 0)(s33:s 33 = .ptr k 0 0)(s34:s 34 = .nil 2)(M:MI p r f N I ms h n)(hkn:k<n)(hkb:h k=some ⟨true,3,[Kx c]⟩)
 (hal:c.Args.length<=1048576) (hts:∀a∈c.Args,∀x∈a.Heads,x.Terms.length<=1048576) (hne:∀a∈c.Args,a.Lst=false->0<a.Heads.length)
 (hK:∀s' h' n',(∀j∈[2,4,6,7,9,12,13,15,16,193,194,195,33],s' j=s j)->n<=n'->(∀id,id<n->h' id=h id)->Kn (n - 1) 2 ((c.Args.map (Q8 ms.E N)).map J9) (s' 34) h' n'->Ju prog ks .normal s' h' n' Q):rC prog Jkc ks s h n Q:=by
 obtain⟨l1,l2,l3,l4,l5⟩:=M.lt;simp[Jkc,s33,hkb,Kx];intro _;generalize hT:c.Args.map (Q8 ms.E N)=T at hK;have hTl:T.length<=1048576:=by rw[<-hT];simpa using hal
 have hTl2:∀i,i<=c.Args.length->∀acc:List Jc,acc++(c.Args.drop i).map (Q8 ms.E N)=T->acc.length<=1048576:=by intro i _ acc h;have:=congrArg List.length h;simp at this;omega
 refine Ki [2,4,6,7,9,12,13,15,16,193,194,195,33,200,201] 202 c.Args.length (λi s' h' n'=>n<=n'/\(∀id,id<n->h' id=h id)/\∃acc:List Jc,Kn (n - 1) 2 (acc.map J9) (s' 34) h' n'/\acc++(c.Args.drop i).map (Q8 ms.E N)=T) (by unfold Jb;omega) (by simp)
  ⟨Nat.le_refl _,λ_ _=>rfl,[],.inl (by simp[s34]),by simpa using hT⟩ ?_ ?_
 ·rintro i st h' m R hi hg hk s202 hw ⟨hm,hfr,acc,hA,hJ⟩ hR _ _;have hal2:=hTl2 i (by omega) acc hJ;simp at hk;rw[drop_eq_getElem_cons hi,map_cons]at hJ;have hts:=hts _ (getElem_mem hi);have hne:=hne _ (getElem_mem hi);refine Js [2,4,6,7,9,12,13,15,16,193,194,195,33,200,201,202,34] (λs=>s 203 = .bool true) (by simp[hk,s202,hi]) ?_;intro Jv hk1 s203;simp at hk1;refine W9 s203 (Jn (Xg ?_));refine Xo [2,4,6,7,9,12,13,15,16,193,194,195,33,200,201,202,34] (λs h2 n2=>n2=m+1/\s 36 = .ptr m 0 0/\h2 m=some ⟨true,3,[Kf (c.Args[i]'hi)]⟩/\∀id,id<m->h2 id=h' id) ?_ ?_
  ·have fr:∀id,id<m->¬id=m:=by intro id _;omega
   simp[hk1,hk,s202,hi,Kf];exact λid hid=>by simp[fr id hid]
  rintro st2 h2 n2 hk2 ⟨rfl,s36,em,hfr2⟩;simp at hk2;generalize c.Args[i]=x at *;have M2:=M.frame (h':=h2) (n':=m+1) (by omega) λid hid=>by rw[hfr2 id (by omega),hfr id hid]
  have u13:st2 13 = .ptr I.s 0 0:=by simp[hk2,hk1,hk,s13]
  have u9:st2 9 = .ptr 6 0 0:=by simp[hk2,hk1,hk,s9]
  simp[u13,u9,M2.hmp,M2.hn,s36,em];refine J26 (E:=ms.E) hts hne M2.map (by omega) ?_;intro q h3 n3 hq hqn hfr3 hqb;have frm:∀id,id<n->h3 id=h id:=λid hid=>by rw[hfr3 id (by omega),hfr2 id (by omega),hfr id hid]
  have hl8:(Q8 ms.E N x).Coeffs.length<=8:=Jgt;generalize Q8 ms.E N x=l at *;have w34:st2 34=st 34:=by simp[hk2,hk1]
  have ne:¬q=n3/\¬n3=q:=by omega
  have fr:∀id,id<n->¬id=q/\¬id=n3/\¬id=n3+1:=by intro id _;omega
  rcases hA with ⟨hz,hv⟩|⟨id0,hid1,hid2,hv,hid3⟩
  ·have hz':acc=[]:=by simpa using hz
   subst hz';rw[hv]at w34;simp[Id,hqb,w34,hk2,hk1,s202,hw];refine⟨by unfold Jb;omega,?_⟩;exact hR _ _ _ (by simp[hk2,hk1,hk]) (by simp) ⟨by omega,λid hid=>by simp[fr id hid,frm id hid],[l],.inr ⟨n3+1,by omega,by omega,by simp,by simp[J9]⟩,by simpa using hJ⟩
  ·rw[hv]at w34;have e0:h3 id0=some ⟨false,2,acc.map J9⟩:=by rw[hfr3 id0 (by omega),hfr2 id0 (by omega),hid3]
   have nid:¬id0=n3/\¬n3=id0/\¬id0=n3+1/\¬n3+1=id0/\¬id0=q/\¬q=id0:=by omega
   have fr0:∀id,id<n->¬id=id0:=by intro id _;omega
   simp[Id,hqb,w34,nid,e0,hk2,hk1,s202,hw];refine⟨by unfold Jb;omega,?_⟩;exact hR _ _ _ (by simp[hk2,hk1,hk]) (by simp) ⟨by omega,λid hid=>by simp[fr id hid,fr0 id hid,frm id hid],acc++[l],.inr ⟨n3+1,by omega,by omega,by simp,by simp[J9]⟩,by simpa using hJ⟩
 ·rintro st h' m R hk s202 ⟨hm,hfr,acc,hA,hJ⟩ _ hX;simp at hk;rw[drop_eq_nil_of_le (by omega)]at hJ;simp at hJ;subst hJ;refine Js [2,4,6,7,9,12,13,15,16,193,194,195,33,34] (λs=>s 203 = .bool false) (by simp[hk,s202]) ?_;intro Jv hk1 s203;simp at hk1;refine Ut s203 ?_;refine hX _ _ _ _ ?_;simp;refine hK _ _ _ (by simp[hk1,hk]) hm hfr ?_;rw[hk1.2.2.2.2.2.2.2.2.2.2.2.2.2];exact hA
end
section
variable {p:Jq}{r:Jy}{f:K3}{N:Nat}{I:Hs}{ks:List Kt}{s:Jm}{h:J8}{n:Nat}{Q:Xc}
theorem Jch{l:List (List Jc)}(hl:l≠[])(m:List Int)(h:l.map Yg=Jg m):False:=by
 cases l with
 |nil=>exact hl rfl
 |cons x l=>
  cases m with
  |nil=>simp[Jg]at h
  |cons y m=>simp[Jg,Yg,i64]at h
theorem Jeh{ms:MS}{c:Xf}{k n0:Nat}{h0:J8}{as':List Jc}{v:AV}(s12:s 12 = .ptr I.m 0 0)(s34:s 34=v)(M:MI p r f N I ms h0 n0)(hkn:k<n0)(hkb:h0 k=some ⟨true,3,[Kx c]⟩)(hn:n0<=n)(hfr:∀id,id<n0->h id=h0 id)
 (A:Kn (n0 - 1) 2 (as'.map J9) v h n) (hal:ms.args.length<=1048576) (hasl:as'.length<=100000000)
 (hK:∀s' h' n',(∀j∈[2,4,6,7,9,12,13,15,16,193,194,195,33],s' j=s j)->MI p r f N I (Vn ms as') h' n'->k<n'->h' k=some ⟨true,3,[Kx c]⟩->Ju prog ks .normal s' h' n' Q):rC prog Tb ks s h n Q:=by
 obtain⟨l1,l2,l3,l4,l5⟩:=M.lt;obtain⟨vR,vP,vA,g1,g2,g3,g4,g6,g5⟩:=M.acc;have hkm:¬k=I.m:=M.ne_m hkb (by omega);have g1':h I.m=some ⟨true,6,[Xj N vR vP vA]⟩:=by rw[hfr _ (by omega),g1]
 have hkb':h k=some ⟨true,3,[Kx c]⟩:=by rw[hfr _ hkn,hkb]
 have ne:¬I.m=n/\¬I.m=n+1/\¬n=I.m/\¬n+1=I.m/\¬k=n/\¬k=n+1/\¬n=n+1/\¬n+1=n:=by omega
 have fr:∀id,id<n0->¬id=n/\¬id=n+1:=by intro id _;omega
 have fm:∀id,I.x<id->¬id=I.m:=by intro id _;omega
 have hul:Yg as'=[.us 2 (as'.map J9)]:=rfl;simp[Tb,s12,s34,g1',Xj];rcases A with ⟨hz,rfl⟩|⟨j0,hj0,hjn,rfl,hjb⟩
 ·have hz':as'=[]:=by simpa using hz
  subst hz';rcases g4 with ⟨hzA,rfl⟩|⟨iA,hA1,hA2,rfl,hibA⟩
  ·have hz2:ms.args=[]:=by simpa using hzA
   simp[ne,g1',Xj,s12];refine⟨by unfold Jb;omega,?_⟩;refine hK _ _ _ (by simp) (M.upd_acc (st':=Vn ms []) rfl rfl (by omega) (λ_=>False) (λ_ h=>h.elim) ?_ ?_) (by omega) (by simp[ne,hkm,hkb'])
   ·intro id hid hm _;simp[fr id hid,hm,hfr id hid]
   ·refine⟨vR,vP,.ref (n+1) 0 1,by simp[Xj],g2.keep (by omega) λid hb hid _=>by simp[fr id hid,fm id hb,hfr id hid],g3.keep (by omega) λid hb hid _=>by simp[fr id hid,fm id hb,hfr id hid],.inr ⟨n+1,by omega,by omega,by simp[Vn,hz2],by simp[Vn,hz2,ne,Yg]⟩,by simp[Vn],g5⟩
  ·have hibA':h iA=some ⟨false,1,ms.args.map Yg⟩:=by rw[hfr _ hA2,hibA]
   have ni:¬iA=n/\¬iA=n+1/\¬iA=I.m/\¬I.m=iA/\¬n=iA/\¬n+1=iA:=by omega
   have hik:¬k=iA:=by rintro rfl;rw[hkb]at hibA;simp at hibA
   have hne:ms.args≠[]:=λe=>by have:=g6 e;simp at this
   simp[ne,ni,g1',Xj,s12,hibA'];refine⟨by unfold Jb;omega,?_⟩;refine hK _ _ _ (by simp) (M.upd_acc (st':=Vn ms []) rfl rfl (by omega) (λid=>id=iA) (λid e=>⟨by omega,λl hl=>by rw[e,hibA]at hl;simp at hl;exact Jch hne l hl⟩) ?_ ?_) (by omega) (by simp[ne,hkm,hik,hkb'])
   ·intro id hid hm hii;simp[fr id hid,hm,hii,hfr id hid]
   ·refine⟨vR,vP,.ref (n+1) 0 (ms.args.length+1),by simp[Xj],g2.keep (by omega) λid hb hid e=>?_,g3.keep (by omega) λid hb hid e=>?_,.inr ⟨n+1,by omega,by omega,by simp[Vn],by simp[Vn,ne,Yg]⟩,by simp[Vn],g5⟩
    ·have hii:¬id=iA:=by
      intro e';rcases g2 with ⟨_,e2⟩|⟨j',_,_,e2,hjb⟩
      ·rw[e2]at e;cases e
      ·rw[e2]at e;simp only[AV.ref.injEq]at e;rw[e.1,e',hibA]at hjb;simp at hjb
     simp[fr id hid,fm id hb,hii,hfr id hid]
    ·have hii:¬id=iA:=by
      intro e';rcases g3 with ⟨_,e2⟩|⟨j',_,_,e2,hjb⟩
      ·rw[e2]at e;cases e
      ·rw[e2]at e;simp only[AV.ref.injEq]at e;rw[e.1,e',hibA]at hjb;simp at hjb
     simp[fr id hid,fm id hb,hii,hfr id hid]
 ·have nj:¬j0=n/\¬j0=n+1/\¬n=j0/\¬n+1=j0/\¬j0=I.m/\¬I.m=j0:=by omega
  have fj:¬k=j0/\¬j0=k:=by omega
  have frj:∀id,id<n0->¬id=j0:=by intro id _;omega
  rcases g4 with ⟨hzA,rfl⟩|⟨iA,hA1,hA2,rfl,hibA⟩
  ·have hz2:ms.args=[]:=by simpa using hzA
   simp[ne,g1',Xj,s12,hjb,nj];refine⟨by unfold Jb;omega,?_⟩;refine hK _ _ _ (by simp) (M.upd_acc (st':=Vn ms as') rfl rfl (by omega) (λ_=>False) (λ_ h=>h.elim) ?_ ?_) (by omega) (by simp[ne,hkm,hkb',fj])
   ·intro id hid hm _;simp[fr id hid,hm,hfr id hid,frj id hid]
   ·refine⟨vR,vP,.ref (n+1) 0 1,by simp[Xj],g2.keep (by omega) λid hb hid _=>by simp[fr id hid,fm id hb,hfr id hid,frj id hid],g3.keep (by omega) λid hb hid _=>by simp[fr id hid,fm id hb,hfr id hid,frj id hid],.inr ⟨n+1,by omega,by omega,by simp[Vn,hz2],by simp[Vn,hz2,ne,Yg]⟩,by simp[Vn],g5⟩
  ·have nij:¬iA=j0/\¬j0=iA:=by omega
   have hibA':h iA=some ⟨false,1,ms.args.map Yg⟩:=by rw[hfr _ hA2,hibA]
   have ni:¬iA=n/\¬iA=n+1/\¬iA=I.m/\¬I.m=iA/\¬n=iA/\¬n+1=iA:=by omega
   have hik:¬k=iA:=by rintro rfl;rw[hkb]at hibA;simp at hibA
   have hne:ms.args≠[]:=λe=>by have:=g6 e;simp at this
   simp[ne,ni,g1',Xj,s12,hibA',hjb,nj,nij];refine⟨by unfold Jb;omega,?_⟩;refine hK _ _ _ (by simp) (M.upd_acc (st':=Vn ms as') rfl rfl (by omega) (λid=>id=iA) (λid e=>⟨by omega,λl hl=>by rw[e,hibA]at hl;simp at hl;exact Jch hne l hl⟩) ?_ ?_) (by omega) (by simp[ne,hkm,hik,hkb',fj])
   ·intro id hid hm hii;simp[fr id hid,hm,hii,hfr id hid,frj id hid]
   ·refine⟨vR,vP,.ref (n+1) 0 (ms.args.length+1),by simp[Xj],g2.keep (by omega) λid hb hid e=>?_,g3.keep (by omega) λid hb hid e=>?_,.inr ⟨n+1,by omega,by omega,by simp[Vn],by simp[Vn,ne,Yg]⟩,by simp[Vn],g5⟩
    ·have hii:¬id=iA:=by
      intro e';rcases g2 with ⟨_,e2⟩|⟨j',_,_,e2,hjb⟩
      ·rw[e2]at e;cases e
      ·rw[e2]at e;simp only[AV.ref.injEq]at e;rw[e.1,e',hibA]at hjb;simp at hjb
     simp[fr id hid,fm id hb,hii,hfr id hid,frj id hid]
    ·have hii:¬id=iA:=by
      intro e';rcases g3 with ⟨_,e2⟩|⟨j',_,_,e2,hjb⟩
      ·rw[e2]at e;cases e
      ·rw[e2]at e;simp only[AV.ref.injEq]at e;rw[e.1,e',hibA]at hjb;simp at hjb
     simp[fr id hid,fm id hb,hii,hfr id hid,frj id hid]
theorem Jh2{ma:MS}(S:Vm I s)(M:MI p r f N I ma h n)(hp:Ks p<=1048576)(hl2:r.Calls.length<=2)(hx2:ma.nx<=1000)(hr2:ma.rows.length<=10000)(ha2:ma.args.length<=10)(hN:N<=8)
 (hargs:∀c∈r.Calls,c.Args.length<=1048576/\(∀a∈c.Args,∀x∈a.Heads,x.Terms.length<=1048576)/\∀a∈c.Args,a.Lst=false->0<a.Heads.length)
 (hK:∀s' h' n',Vm I s'->MI p r f N I (r.Calls.foldl (Bz p N) ma) h' n'->Ju prog ks .normal s' h' n' Q):rC prog Jwg ks s h n Q:=by
 have S0:=S;obtain⟨s2,s4,s6,s7,s9,s12,s13,s15,s16⟩:=S0;simp[Jwg,s6,M.hr,Jr];intro _;generalize hT:r.Calls.foldl (Bz p N) ma=T at hK
 refine Ki [2,4,6,7,9,12,13,15,16,193,194] 195 r.Calls.length (λi s' h' n'=>∃ms:MS,MI p r f N I ms h' n'/\(r.Calls.drop i).foldl (Bz p N) ms=T/\ms.nx<=1000+i/\ms.rows.length<=10000+i/\ms.args.length<=10+i) (by unfold Jb;omega) (by simp)
  ⟨_,M,by simpa using hT,by omega,by omega,by omega⟩ ?_ ?_
 ·rintro i st h' m R hi hg hk s195 hw ⟨ms,M,hJ,hb1,hb2,hb3⟩ hR _ _;simp at hk;rw[drop_eq_getElem_cons hi,foldl_cons]at hJ;obtain⟨ha1,ha2,ha3⟩:=hargs _ (getElem_mem hi);obtain⟨l1,l2,l3,l4,l5⟩:=M.lt;refine Js [2,4,6,7,9,12,13,15,16,193,194,195] (λs=>s 196 = .bool true) (by simp[hk,s195,hi]) ?_;intro Jv hk1 s196;simp at hk1;refine W9 s196 (Jn (Xg ?_));refine Xo [2,4,6,7,9,12,13,15,16,193,194,195] (λs h' n'=>∃k,s 33 = .ptr k 0 0/\k<n'/\h' k=some ⟨true,3,[Kx (r.Calls[i]'hi)]⟩/\MI p r f N I ms h' n') ?_ ?_
  ·have fr:∀id,id<m->¬id=m:=by intro id _;omega
   simp[hk1,hk,s195,hi,Kx];exact M.frame (by omega) λid hid=>by simp[fr id hid]
  rintro st2 h2 n2 hk2 ⟨k,s33,hkn,hkb,M2⟩;simp at hk2;generalize r.Calls[i]=c at *;refine Js [2,4,6,7,9,12,13,15,16,193,194,195,33] (λs=>s 34 = .nil 2) (by simp) ?_;intro Kl hk3 s34;simp at hk3;have S3:Vm I Kl:=S.of (by simp[hk3,hk2,hk1,hk]);obtain⟨t2,t4,t6,t7,t9,t12,t13,t15,t16⟩:=S3;refine Jn (Jeo t9 t13 (by rw[hk3.2.2.2.2.2.2.2.2.2.2.2.2,s33]) s34 M2 hkn hkb ha1 ha2 ha3 ?_);intro st4 h4 n4 hk4 hn4 hfr4 A4;simp at hk4;refine Ua (Jn (Jeh (c:=c) (k:=k) (by rw[hk4.2.2.2.2.2.1,t12]) rfl M2 hkn hkb hn4 hfr4 A4 (by omega) (by simp;omega) ?_));intro Ur h5 n5 hk5 M5 hkn5 hkb5;simp at hk5;generalize hal:c.Args.map (Q8 ms.E N)=as' at *;have hlx:(Ka ms.nx N).Coeffs.length<=8:=H9 N (by omega);generalize hLR:((Kw p.Functions c.Func).getD Yf).ListResult=LR at *
  have hiC:Bz p N ms c=if LR then Ik (Qu (Vn ms as') c.Bind (Ka ms.nx N) (ms.nx+1)) (Ka ms.nx N)else Qu (Vn ms as') c.Bind (Ka ms.nx N) (ms.nx+1):=by unfold Bz;rw[hal,hLR];cases LR <;>simp[Ik,Qu,Vn]
  rw[hiC]at hJ;have u15:Ur 15 = .fn (.func 202) [] [.ptr I.x 0 0,.ptr 6 0 0,.ptr I.s 0 0]:=by rw[hk5.2.2.2.2.2.2.2.1,hk4.2.2.2.2.2.2.2.1,t15]
  have u33:Ur 33 = .ptr k 0 0:=by rw[hk5.2.2.2.2.2.2.2.2.2.2.2.2,hk4.2.2.2.2.2.2.2.2.2.2.2.2,hk3.2.2.2.2.2.2.2.2.2.2.2.2,s33]
  have nd:=M5.ne_d hkb5 (by omega);have nx:=M5.ne_x hkb5 (by omega);have hnx5:(Vn ms as').nx=ms.nx:=rfl;refine Ua (Xo [2,4,6,7,9,12,13,15,16,193,194,195,33] (λs h' n'=>MI p r f N I (Qu (Vn ms as') c.Bind (Ka ms.nx N) (ms.nx+1)) h' n'/\k<n'/\h' k=some ⟨true,3,[Kx c]⟩/\∃k,s 37 = .ptr k 0 0/\I9 (Ka ms.nx N) k h' n') ?_ ?_)
  ·simp[u33,u15,hkb5,Kx];refine J1p M5 c.Bind (by rw[hnx5];omega) ?_;rw[hnx5];intro q' h1 n1 hq hq1 hfr hqb M1;have fr:∀id,id<n1->¬id=n1:=by intro id _;omega
   generalize Ka ms.nx N=l at *;simp[Id];exact⟨M1.frame (by omega) λid hid=>by simp[fr id hid],by omega,by simp[fr k (by omega),hfr k hkn5 nd nx,hkb5,Kx],q',by omega,by omega,by simp,by simp[fr q' hq1,hqb]⟩
  rintro st6 h6 n6 hk6 ⟨M6,hkn6,hkb6,k37,s37,q7,x7,y7,z7,w7⟩;simp at hk6;have v2:st6 2 = .ptr 0 0 0:=by rw[hk6.1,hk5.1,hk4.1,t2]
  have v33:st6 33 = .ptr k 0 0:=by rw[hk6.2.2.2.2.2.2.2.2.2.2.2.2,u33]
  refine Xo [2,4,6,7,9,12,13,15,16,193,194,195,37] (λs h' n'=>MI p r f N I (Qu (Vn ms as') c.Bind (Ka ms.nx N) (ms.nx+1)) h' n'/\I9 (Ka ms.nx N) k37 h' n'/\∃k x y z,s 38 = .ptr k 0 0/\h' k=some ⟨true,4,[[x,y,.bool LR,z]]⟩) ?_ ?_
  ·simp[v2,v33,hkb6,Kx,M6.hp];refine Jd (Fg p c.Func hp) (by simp[Jh]) ?_;rintro r rfl;unfold Q7;rw[<-hLR];generalize(Kw p.Functions c.Func).getD Yf=G at *;have fr:∀id,id<n6->¬id=n6/\¬id=n6+1/\¬id=n6+1+1:=by intro id _;omega
   simp[Xk];exact⟨M6.frame (by omega) λid hid=>by simp[fr id hid],q7,by omega,by omega,by simp[fr k37 x7,z7],by simp[fr q7 y7,w7]⟩
  rintro st7 h7 n7 hk7 ⟨M7,⟨q8,x8,y8,z8,w8⟩,k38,x,y,z,s38,hkb8⟩;simp at hk7;refine Js [2,4,6,7,9,12,13,15,16,193,194,195,37] (λs=>s 232 = .bool LR) (by simp[s38,hkb8]) ?_;intro st8 hk8 s232;simp at hk8;have kp:∀j∈[2,4,6,7,9,12,13,15,16,193,194,195],st8 j=st j:=by simp[hk8,hk7,hk6,hk5,hk4,hk3,hk2,hk1]
  simp at kp;have g16:st8 16 = .fn (.func 204) [] [.ptr I.m 0 0]:=by rw[hk8.2.2.2.2.2.2.2.2.1,hk7.2.2.2.2.2.2.2.2.1,hk6.2.2.2.2.2.2.2.2.1,hk5.2.2.2.2.2.2.2.2.1,hk4.2.2.2.2.2.2.2.2.1,t16]
  have g37:st8 37 = .ptr k37 0 0:=by rw[hk8.2.2.2.2.2.2.2.2.2.2.2.2,hk7.2.2.2.2.2.2.2.2.2.2.2.2,s37]
  cases LR
  ·simp only[Bool.false_eq_true,if_false]at hJ;simp[s232,kp,s195,hw];exact hR _ _ _ (by simp[kp,hk]) (by simp) ⟨_,M7,hJ,by show ms.nx+1<=_;omega,by show ms.rows.length<=_;omega,by show(ms.args++[_]).length<=_;simp;omega⟩
  ·simp only[if_true]at hJ;simp[s232,g16,g37,z8];refine C9 M7 (q:=q8) (by omega) y8 w8 (by show ms.rows.length<=_;omega) ?_;intro h9 n9 hn9 _ M9;simp[kp,s195,hw];exact hR _ _ _ (by simp[kp,hk]) (by simp) ⟨_,M9,hJ,by show ms.nx+1<=_;omega,by show(ms.rows++[_]).length<=_;simp;omega,by show(ms.args++[_]).length<=_;simp;omega⟩
 ·rintro st h' m R hk s195 ⟨ms,M,hJ,hb1,hb2,hb3⟩ _ hX;simp at hk;rw[drop_eq_nil_of_le (by omega)]at hJ;simp only[List.foldl_nil]at hJ;subst hJ;refine Js [2,4,6,7,9,12,13,15,16] (λs=>s 196 = .bool false) (by simp[hk,s195]) ?_;intro Jv hk1 s196;simp at hk1;refine Ut s196 ?_;refine hX _ _ _ _ ?_;simp;exact hK _ _ _ (S.of (by simp[hk1,hk])) M
end
def Og:X9:=⟨⟨0,[]⟩,[],[],⟨0,[]⟩⟩
def H4(o:Option X9):AV := .tup [.agg (U4 (o.getD Og)),.bool o.isSome]
def Er:Jy:=⟨[],[],[],[],⟨false,[],[]⟩⟩
def Im(p:Jq)(r:Jy):K3:=(Kw p.Functions r.Func).getD Yf
def Ie(p:Jq)(k:Int):Option X9:=
 if Ym p&&K9 k 0 ((p.Rules.length:Int) - 1)then some (Vf (p.Rules.getD k.toNat Er) (Im p (p.Rules.getD k.toNat Er)))else Option.none
theorem Ni{a:X8}(h:Oo a=true):(∀x∈a.Heads,x.Terms.length<=4)/\(a.Lst=false->0<a.Heads.length):=by
 unfold Oo at h;simp only[Bool.and_eq_true,List.all_eq_true]at h;obtain⟨h1,h2⟩:=h;refine⟨λx hx=>?_,λhL=>?_⟩
 ·have:=h1 x hx;unfold I6 at this;simp only[Bool.and_eq_true,decide_eq_true_eq]at this;exact this.1.2
 ·rw[hL]at h2;simp at h2;omega
theorem J57{a:X8}{b:Bool}{K:List Je}(h:Ws a b K=true):Oo a=true:=by unfold Ws at h;simp only[Bool.and_eq_true]at h;exact h.1.1
theorem J17{p:Jq}{r:Jy} : ∀{l:List Xf}{k:Nat},Qy p r k l=true->∀c∈l,∃s,If p c s=true
 | [],_,_,_,h=>by cases h
 |c::l,k,h,d,hd=>by
  simp only[Qy,Bool.and_eq_true]at h;rcases mem_cons.1 hd with rfl|hd
  ·exact⟨_,h.1⟩
  ·exact J17 h.2 d hd
theorem Ev.args {p:Jq}{r:Jy}{f:K3}(hp:Ym p=true) (R:Ev p r f):∀c∈r.Calls,c.Args.length<=2/\∀a∈c.Args,Oo a=true:=by
 intro c hc;obtain⟨s,hs⟩:=J17 R.calls c hc;have h1:=(J9z hs).1;refine⟨?_,λa ha=>?_⟩
 ·unfold If at hs;simp only[Bool.and_eq_true,decide_eq_true_eq]at hs;obtain⟨⟨⟨g1,g2⟩,_⟩,_⟩:=hs;obtain⟨g,hg⟩:=Option.isSome_iff_exists.1 g1;rw[hg]at g2;have:=(Es hp hg).1;simp only[Option.getD_some]at g2;omega
 ·obtain⟨b,hb⟩:=h1 a ha;exact J57 hb
theorem J4a{n:Nat} : ∀{xs:List Je}{a:MS},(xs.foldl (W3 n) a).nx=a.nx+xs.length/\(xs.foldl (W3 n) a).rows.length<=a.rows.length+xs.length/\(xs.foldl (W3 n) a).args=a.args
 | [],a=>by simp
 |x::xs,a=>by
  obtain⟨h1,h2,h3⟩:=J4a (n:=n) (xs:=xs) (a:=W3 n a x);simp only[foldl_cons,length_cons];refine⟨by rw[h1];show a.nx+1+_=_;omega,?_,by rw[h3];rfl⟩;have:(W3 n a x).rows.length<=a.rows.length+1:=by unfold W3;simp only[length_append];split <;>simp
  omega
theorem J4i{n:Nat} : ∀{xs:List X2}{a:MS},(xs.foldl (Wp n) a).nx<=a.nx+xs.length/\(xs.foldl (Wp n) a).rows.length<=a.rows.length+xs.length/\(xs.foldl (Wp n) a).args=a.args/\(xs.foldl (Wp n) a).pars=a.pars
 | [],a=>by simp
 |x::xs,a=>by
  obtain⟨h1,h2,h3,h4⟩:=J4i (n:=n) (xs:=xs) (a:=Wp n a x);simp only[foldl_cons,length_cons];have g1:(Wp n a x).rows.length<=a.rows.length+1:=by unfold Wp;split <;>simp
  have g2:(Wp n a x).nx<=a.nx+1:=by unfold Wp;split <;>simp
  have g3:(Wp n a x).args=a.args:=by unfold Wp;split <;>rfl
  have g4:(Wp n a x).pars=a.pars:=by unfold Wp;split <;>rfl
  exact⟨by omega,by omega,by rw[h3,g3],by rw[h4,g4]⟩
theorem J6j(p:Jq)(hp:Ks p<=1048576)(k:Int):Holds prog 126 [.agg (Jh p),i64 k] (λr=>r=H4 (Ie p k)):=by
 refine Jp Tryz.func126 a126_ok rfl (by simp[a126]) ?_;simp[a126,mo0,mo1,Jh];refine Jd (Po p hp) (by simp[Jh]) ?_;rintro r rfl;unfold Ie;cases h1:Ym p
 ·simp[H4,Og,U4,Jg]
 simp;intro hrl;have hw:IntKind.i64.wrap ((p.Rules.length:Int) - 1)=(p.Rules.length:Int) - 1:=Kk (by unfold Jb at hrl;omega);rw[hw];refine Jd (O0 k 0 ((p.Rules.length:Int) - 1)) (by simp) ?_;rintro r rfl;cases h2:K9 k 0 ((p.Rules.length:Int) - 1)
 ·simp[H4,Og,U4,Jg]
 have hk0:0<=k/\k<=(p.Rules.length:Int) - 1:=by simpa[K9]using h2
 obtain⟨j,rfl⟩:∃j:Nat,k=j:=⟨k.toNat,by omega⟩;have hj:j<p.Rules.length:=by omega
 have hgd:p.Rules.getD ((j:Int).toNat) Er=p.Rules[j]:=by simp[hj]
 obtain⟨f,hf,R⟩:=Eu h1 (getElem_mem hj);have hfa:Im p p.Rules[j]=f:=by unfold Im;rw[hf];rfl
 have hwr:IntKind.i64.wrap ((f.Params.length:Int)+((p.Rules[j]).Calls.length:Int))=(f.Params.length:Int)+((p.Rules[j]).Calls.length:Int):=by have:=R.par;have:=R.ncalls;exact Kk (by omega)
 simp[mo2,mo3,mo4,hj];refine Jd (Fg p (p.Rules[j]).Func hp) (by simp[Jh]) ?_;rintro r rfl;rw[hfa,hf];have hmeq:=Ji3 hf R;generalize p.Rules[j]=r at *;simp[Q7,Xk,Jr,hwr];intro _ _;have hpar:=R.par;have hnpre:=R.npre;have hnp:=R.npats;have hnc:=R.ncalls;have h6:=R.size;have hrargs:=R.args h1;have hrres:=Ni (J57 R.res);refine Jm5 (r:=r) (c:=f.Params.length+r.Calls.length) (by simp) (by simp) (by simp[Jr]) (by simp) (by omega) (by omega) (by omega) ?_;intro s1 h1 n1 hk1 hn1 hfr1 e6
 have hpre:∀l∈f.Pre,Wj l (Jv r f).pars (K7 r f)=some (Yc (K7 r f) l):=by intro l hl;have hd:=R.nd;rw[List.append_assoc,List.nodup_append]at hd;obtain⟨_,_,_,e4,_⟩:=Td (n:=K7 r f) (xs:=f.Params) (a:=⟨[],0,[],[],[]⟩) (b:=⟨[],0,Wk f (K7 r f),[],[]⟩) rfl rfl rfl rfl hd.1 (by simp[Kj]);unfold Jv;rw[e4];simp only[nil_append];rw[J7r R.par];exact J2t R.par (by unfold K7;omega) (by omega) (R.pre l hl)
 have hmI:Pw p r f=some (Cs (K7 r f) (Ur p r f (f.Pre.map (Yc (K7 r f)))) (Q8 (Ur p r f (f.Pre.map (Yc (K7 r f)))).E (K7 r f) r.Result)):=by unfold Pw;rw[T9 hpre]
 rw[hmeq]at hmI;have hmS:=Option.some.inj hmI;rw[show f.Params.length+r.Calls.length+Y8 r.Patterns=K7 r f from rfl]at e6
 have hsc:∀l∈f.Pre,(Yc (K7 r f) l).Coeffs.length<=1048576:=by intro l hl;have:=(W0 (R.pre l hl)).1;simp[Yc];omega
 have st1d:Jv r f=f.Params.foldl (W3 (K7 r f)) ⟨[],0,[],[],[]⟩:=rfl;have st3d:∀pre,Kl r f pre=r.Patterns.foldl (Wp (K7 r f)) (Y7 (Jv r f) pre):=λ_=>rfl
 have st5d:∀pre,Ur p r f pre=r.Calls.foldl (Bz p (K7 r f)) (Y7 (Kl r f pre) (r.Guards.map (Q6 (Kl r f pre).E (K7 r f)))):=λ_=>rfl
 have b1:(Jv r f).nx<=2/\(Jv r f).rows.length<=2/\(Jv r f).args=[]:=by obtain⟨g1,g2,g3⟩:=J4a (n:=K7 r f) (xs:=f.Params) (a:=⟨[],0,[],[],[]⟩);rw[<-st1d]at g1 g2 g3;refine⟨by rw[g1];simpa using hpar,?_,g3⟩;simp at g2;omega
 generalize hN:K7 r f=N at *;generalize hpreL:f.Pre.map (Yc N)=preR at *
 have b2:(Kl r f preR).nx<=4/\(Kl r f preR).rows.length<=6/\(Kl r f preR).args=[]:=by
  obtain⟨g1,g2,g3,_⟩:=J4i (n:=N) (xs:=r.Patterns) (a:=Y7 (Jv r f) preR);rw[<-st3d]at g1 g2 g3;have hpl:preR.length<=2:=by rw[<-hpreL];simpa using hnpre
  have e1:(Y7 (Jv r f) preR).nx=(Jv r f).nx:=rfl;have e2:(Y7 (Jv r f) preR).rows.length=(Jv r f).rows.length+preR.length:=by simp[Y7]
  have e3:(Y7 (Jv r f) preR).args=(Jv r f).args:=rfl;refine⟨by omega,by omega,by rw[g3,e3];exact b1.2.2⟩
 simp at hk1;have f0:=hfr1 0 (by omega) (by omega);have f1:=hfr1 1 (by omega) (by omega);have f2:=hfr1 2 (by omega) (by omega);have f3:=hfr1 3 (by omega) (by omega);have f4:=hfr1 4 (by omega) (by omega);have f5:=hfr1 5 (by omega) (by omega);simp at f0 f1 f2 f3 f4 f5;have ne:¬0=n1/\¬1=n1/\¬2=n1/\¬3=n1/\¬4=n1/\¬5=n1/\¬6=n1/\¬n1=0/\¬n1=1/\¬n1=2/\¬n1=3/\¬n1=4/\¬n1=5/\¬n1=6/\¬n1=n1+1/\¬n1+1=n1/\¬n1=n1+1+1/\¬n1+1+1=n1/\¬n1=n1+1+1+1/\¬n1+1+1+1=n1/\¬n1+1=n1+1+1/\¬n1+1=n1+1+1+1/\¬n1+1+1=n1+1+1+1:=by omega
 refine Ua ?_;simp[mo6,mo7,mo8,mo9,Jzr,hk1,e6];refine Jic (I:=⟨n1,n1+1,n1+1+1,n1+1+1+1⟩) (p:=p) (r:=r) (f:=f) (N:=N) (by simp[Vm,hk1]) ?_ hpar (by omega) ?_
 ·refine⟨by simp[f0,ne,Jh],by simp[f1,ne],by simp[f2,ne,Jr],by simp[f3,ne],by simp[f4,ne],by simp[f5,ne],by simp[e6,ne],by simp only;omega,by simp,by simp,⟨[],rfl,by simp,by simp⟩,.nil 2,.nil 2,.nil 1,by simp[ne,Xj],.inl (by simp),.inl (by simp),.inl (by simp),by simp,by simp⟩
 intro s2 h2 n2 S2 M2;rw[<-st1d]at M2;refine Ua (Jn (Ji8 S2 M2 hnpre (by omega) hpre hsc ?_));intro s3 h3 n3 S3 M3;rw[hpreL]at M3
 have hw1:(Y7 (Jv r f) preR).rows.length<=100:=by
  have hpl:preR.length<=2:=by rw[<-hpreL];simpa using hnpre
  simp[Y7];omega
 refine Ua (Jn (Jgz S3 M3 (by omega) (by show(Jv r f).nx<=_;omega) hw1 (by omega) ?_));intro s4 h4 n4 S4 M4;rw[<-st3d]at M4;refine Ua (Jn (Jhf S4 M4 R.nguards (by omega) (λg hg=>?_) ?_))
 ·have:=R.guards g hg;unfold Qt I6 at this;simp only[Bool.and_eq_true,decide_eq_true_eq]at this;omega
 intro s5 h5 n5 S5 M5
 have hw2:(Y7 (Kl r f preR) (r.Guards.map (Q6 (Kl r f preR).E N))).rows.length<=10000:=by have:=R.nguards;simp[Y7];omega
 refine Ua (Jn (Jh2 S5 M5 hp (by omega) (by show(Kl r f preR).nx<=_;omega) hw2 (by show(Kl r f preR).args.length<=_;rw[b2.2.2];simp) (by omega) (λc hc=>?_) ?_))
 ·obtain⟨g1,g2⟩:=hrargs c hc;refine⟨by omega,λa ha x hx=>?_,λa ha=>(Ni (g2 a ha)).2⟩;have:=(Ni (g2 a ha)).1 x hx;omega
 intro s6 h6' n6 S6 M6;rw[<-st5d]at M6;generalize Ur p r f preR=ms at *;obtain⟨l1,l2,l3,l4,l5⟩:=M6.lt;generalize(⟨n1,n1+1,n1+1+1,n1+1+1+1⟩:Hs)=I at *;obtain⟨s2,s4,s6,s7,s9,s12,s13,s15,s16⟩:=S6;refine Ua ?_;simp[Jzx,s13,s6,s9,M6.hmp,M6.hr,M6.hn,Jr];refine J26 (a:=r.Result) (E:=ms.E) (λx hx=>by have:=hrres.1 x hx;omega) hrres.2 M6.map (by omega) ?_;intro q h7 n7 hq hqn hfr7 hqb;have M7:=M6.frame (h':=h7) (n':=n7) (by omega) hfr7;generalize hres:Q8 ms.E N r.Result=res at *;obtain⟨vR,vP,vA,g1,g2,g3,g4,g6,g5⟩:=M6.acc;rw[<-hfr7 I.m (by omega)]at g1;have hqm:¬q=I.m:=by omega
 have cR:=g2.cell;have cP:=g3.cell;have cA:=g4.cell;have n1m:¬1=I.m:=by omega
 simp[Id,s12,g1,Xj,Jzp,s4,M7.hz,n1m,-dt,-Wq,-K8,J1t,J4y,cR,cP,cA];generalize hH:upd (upd h7 I.m _) 1 _=H
 have fH:∀id,I.x<id->id<n7->H id=h7 id:=by
  intro id hid _;have:¬id=1/\¬id=I.m:=by omega
  rw[<-hH];simp[this]
 have k2:Kn I.x 2 (ms.rows.map J9) vR H n6:=g2.keep (Nat.le_refl _) λid hb hid _=>by rw[fH id hb (by omega),hfr7 id hid]
 have k3:Kn I.x 2 (ms.pars.map J9) vP H n6:=g3.keep (Nat.le_refl _) λid hb hid _=>by rw[fH id hb (by omega),hfr7 id hid]
 have k4:Kn I.x 1 (ms.args.map Yg) vA H n6:=g4.keep (Nat.le_refl _) λid hb hid _=>by rw[fH id hb (by omega),hfr7 id hid]
 have kq:H q=some ⟨false,1,Jg res.Coeffs⟩:=by rw[fH q (by omega) hqn,hqb]
 obtain⟨H1,d1,e1⟩:=k2.dt;have k3':Kn I.x 2 (ms.pars.map J9) vP H1 n6:=k3.keep (Nat.le_refl _) λid hb hid e=>e1 id λl el=>g5 id _ id _ el e rfl
 obtain⟨H2,d2,e2⟩:=k3'.dt
 have k4':Kn I.x 1 (ms.args.map Yg) vA H2 n6:=k4.keep (Nat.le_refl _) λid hb hid e=>by rw[e2 id λl el=>k3.ne_sz k4 (by omega) el e,e1 id λl el=>k2.ne_sz k4 (by omega) el e]
 obtain⟨H3,d3,e3⟩:=k4'.dt
 have kq3:H3 q=some ⟨false,1,Jg res.Coeffs⟩:=by rw[e3 q λl el=>k4.ne_ge hq el,e2 q λl el=>k3.ne_ge hq el,e1 q λl el=>k2.ne_ge hq el,kq]
 simp[d1,d2,d3,kq3,H4,U4,hmS,Cs]
def a134:Jk:= ⟨69,[.t 2],(Zq [Zt 2 false] (Zq [Zo 7 (.bsl 1 []),Zv 3 7] (.seq (Zq [Zi 4 0] (.blk 0 (.loop (.seq (Zq [Zv 8 4,Zv 9 0,Zn 10 9,Zb 11 .lss 8 10] (Zw 11 0)) (.seq (.blk 1 (Zq [Zv 14 0,Zv 15 4,Zx 16 4 14 15,Zl 17 true 4 16,Zo 5 (.box [(.str []),(.nil 1),(.bool false),(.nil 2)]),⟨no,.st 4 (.t 5) (.t 17),no⟩] (.seq (Zq [Zf 18 0 5,Zl 19 false 1 18,Zc 20 216 [.t 19],ZN 21 20,Zv 22 21,Zg 23 22 false (.fld 1 (.t 5)),Zg 24 22 false (.ld false 1 (.t 23)),Zg 25 22 false (.len false (.t 24)),Zg 26 22 false (.bin .gtr (.t 25) (.k (.int .i64 2))),ZP 27 22 26,Zv 28 27,Zg 29 28 false (.fld 1 (.t 5)),Zg 30 28 false (.ld false 1 (.t 29)),Zg 31 28 false (.call (.k (.fn (.func 217) [] [])) [.t 30]),Zg 32 28 false (.un .not (.t 31)),ZP 33 28 32,Zv 34 33,Zg 35 34 false (.fld 3 (.t 5)),Zg 36 34 false (.ld false 1 (.t 35)),Zg 37 34 false (.len false (.t 36)),Zg 38 34 false (.bin .gtr (.t 37) (.k (.int .i64 2))),ZP 39 34 38] (.cond (.t 39) (Zq [Zt 2 false] .ret) .skip)) (.seq (Zq [Zi 6 0] (.blk 2 (.loop (.seq (Zq [Zv 40 6,Zf 41 3 5,Zl 42 false 1 41,Zn 43 42,Zb 44 .lss 40 43] (Zw 44 2)) (.seq (.blk 3 (.seq (.draw (.op (Zf 47 3 5) (.op (Zl 48 false 1 47) (.op (Zv 49 6) (.op (Zx 50 2 48 49) (.op (Zl 51 true 2 50) (.op (Zf 52 1 5) (.op (Zl 53 false 1 52) (.op (Zn 54 53) (.op (Zc 55 179 [.t 51,.t 54]) (.op (ZN 56 55) .fin))))))))))) (.cond (.t 56) (Zq [Zt 2 false] .ret) .skip))) (.reg [Zv 45 6,Zk 46 .add 45 1,Zv 6 46])))))) (.reg [Zv 57 3,Zf 58 0 5,Zl 59 false 1 58,Zo 60 (.bsl 1 [.t 59]),ZA 61 16 1 57 60,Zv 3 61]))))) (.reg [Zv 12 4,Zk 13 .add 12 1,Zv 4 13])))))) (Zq [Zv 62 0,Zn 63 62,Zc 64 183 [.t 63,(.k (.int .i64 1)),(.k (.int .i64 3))],Zv 65 64,Zg 66 65 true (.mv (.t 3)),Zg 67 65 true (.call (.k (.fn (.func 218) [] [])) [.t 66]),ZQ 68 65 67,Zv 2 68] .ret))))⟩
theorem a134_ok:Jf prog Tryz.f134=some a134:=by kernel_rfl
def a61:Jk:= ⟨29,[.t 2],(Zq [ZB 1 0,Zt 2 false] (.seq (Zq [Zf 4 0 1,Zl 5 false 1 4,Zc 6 134 [.t 5],ZN 7 6,Zv 8 7,Zg 9 8 false (.fld 1 (.t 1)),Zg 10 8 false (.ld false 1 (.t 9)),Zg 11 8 false (.len false (.t 10)),Zg 12 8 false (.bin .gtr (.t 11) (.k (.int .i64 8))),ZP 13 8 12] (.cond (.t 13) (Zq [Zt 2 false] .ret) .skip)) (.seq (Zq [Zi 3 0] (.blk 0 (.loop (.seq (Zq [Zv 14 3,Zf 15 1 1,Zl 16 false 1 15,Zn 17 16,Zb 18 .lss 14 17] (Zw 18 0)) (.seq (.blk 1 (.seq (.draw (.op (Zl 21 true 2 1) (.op (Zf 22 1 1) (.op (Zl 23 false 1 22) (.op (Zv 24 3) (.op (Zx 25 7 23 24) (.op (Zl 26 true 7 25) (.op (Zc 27 135 [.t 21,.t 26]) (.op (ZN 28 27) .fin))))))))) (.cond (.t 28) (Zq [Zt 2 false] .ret) .skip))) (.reg [Zv 19 3,Zk 20 .add 19 1,Zv 3 20])))))) (Zq [Zt 2 true] .ret))))⟩
theorem a61_ok:Jf prog Tryz.f61=some a61:=by kernel_rfl
theorem Tn{α:Type}{p:α->Bool}{l:List α}{i:Nat}(hi:i<l.length):(l.drop i).all p=(p l[i]&&(l.drop (i+1)).all p):=by rw[drop_eq_getElem_cons hi,List.all_cons]
theorem Ja4{l:List K3}{i:Nat}(hi:i<=l.length):(Qk l i).length=i:=by simp[Qk];omega
theorem J3n(fs:List K3)(hlf:fs.length<=1048576)(hpre:∀f∈fs,f.Pre.length<=1048576):Holds prog 134 [.sl 4 (fs.map K5)] (λx=>x = .bool (fs.all Ok&&K9 fs.length 1 3&&Q5 (fs.map (·.Name)))):=by
 refine Jp Tryz.func134 a134_ok rfl (by simp[a134]) ?_;simp[a134];generalize hB:fs.all Ok=B;refine Ki [0] 4 fs.length (λi s h n=>(fs.drop i).all Ok=B/\∃id,id<n/\s 3 = .ref id 0 i/\h id=some ⟨false,1,Ji (Qk fs i)⟩) (by unfold Jb;omega) (by simp) ⟨by simpa using hB,0,by simp,by simp,by simp[Ji,Qk]⟩ ?_ ?_
 ·rintro i st h n R hi hg hk s4 hw ⟨hJ,id,hid,s3,eid⟩ hR hret _;simp at hk;rw[Tn hi]at hJ;have z0:¬id=n:=by omega
  have z1:¬n=id:=by omega
  refine Jn (Js [0,3,4] (λs=>s 11 = .bool true) (by simp[hk,s4,hi]) ?_);intro Jv hk1 s11;simp at hk1;refine Uh s11 (Jn (Xg ?_));refine Xo [0,3,4] (λs h' n'=>s 5 = .ptr n 0 0/\n'=n+1/\h' n=some ⟨true,4,[K5 fs[i]]⟩/\h' id=some ⟨false,1,Ji (Qk fs i)⟩) (by simp[hk,hk1,s4,hi,K5,eid,z0]) ?_;rintro st2 h2' n2 hk2 ⟨s5,rfl,en,eid'⟩;simp at hk2;have hfp:=hpre _ (getElem_mem hi);generalize hf:fs[i]=f at *;refine Jn (Js [0,3,4,5] (λs=>s 39 = .bool (!W7 f.Name || !decide (f.Params.length<=2) || !(f.Params.all W8&&Q5 f.Params) || !decide (f.Pre.length<=2))) ?_ ?_)
  ·have hdp:decide (f.Params.length<=2)=decide ((f.Params.length:Int)<=2):=by rw[decide_eq_decide];omega
   have hdq:decide (f.Pre.length<=2)=decide ((f.Pre.length:Int)<=2):=by rw[decide_eq_decide];omega
   obtain⟨E,hE⟩:∃E,E=(f.Params.all W8&&Q5 f.Params):=⟨_,rfl⟩;rw[hdp,hdq,<-hE];simp[s5,en,K5];refine Jd (J02 f.Name) (by simp) ?_;rintro r rfl;cases g1:W7 f.Name
   ·simp
   simp[hk,hk1,hk2,s5,en,K5];intro _;by_cases g3:(f.Params.length:Int)<=2
   case neg=>simp[g3,Int.not_le.1 g3]
   simp[g3,Int.not_lt.2 g3];refine Jd (Jay f.Params) (by simp) ?_;rintro r rfl;rw[<-hE];clear hE;cases E
   ·simp
   simp[hk,hk1,hk2,s5,en,K5];intro _;by_cases g5:(f.Pre.length:Int)<=2
   ·simp[g5,Int.not_lt.2 g5]
   ·simp[g5,Int.not_le.1 g5]
  intro Kl hk3 s39;simp at hk3;generalize hcc:(!W7 f.Name || !decide (f.Params.length<=2) || !(f.Params.all W8&&Q5 f.Params) || !decide (f.Pre.length<=2))=cc at *
  have hbody:Ok f=(!cc&&f.Pre.all λl=>K4 l f.Params.length):=by rw[<-hcc];unfold Ok;cases W7 f.Name <;>cases decide (f.Params.length<=2) <;>cases f.Params.all W8 <;>cases Q5 f.Params <;>cases decide (f.Pre.length<=2) <;>simp
  rw[hbody]at hJ;clear hbody hcc;cases cc
  case true=>
   simp at hJ;simp[s39];refine hret _ _ _ ?_;simp[hJ]
  refine J5a s39 ?_;simp only[Qb];simp only[Bool.not_false,Bool.true_and]at hJ;simp;generalize hB2:(f.Pre.all λl=>K4 l f.Params.length)=B2 at *;refine Ki [0,3,4,5] 6 f.Pre.length (λj s h' n'=>n<n'/\h' n=some ⟨true,4,[K5 f]⟩/\h' id=some ⟨false,1,Ji (Qk fs i)⟩/\((f.Pre.drop j).all λl=>K4 l f.Params.length)=B2) (by unfold Jb;omega) (by simp) ⟨by omega,by simpa using en,by simpa using eid',by simpa using hB2⟩ ?_ ?_
  ·rintro j stj hj nj Rj hji hjg hkj s6 hwj ⟨hnj,enj,eidj,hJj⟩ hRj hretj _;simp at hkj;rw[Tn hji]at hJj;refine Jn (Js [0,3,4,5,6] (λs=>s 44 = .bool true) (by simp[hkj,hk3,s5,s6,hji,enj,K5]) ?_);intro stk hkk s44;simp at hkk;refine Uh s44 (Jn (Xg ?_));refine Js [0,3,4,5,6] (λs=>s 56 = .bool (!K4 f.Pre[j] f.Params.length)) ?_ ?_
   ·simp[hkj,hkk,hk3,s5,s6,hji,enj,K5];refine Jw (Ge (f.Pre[j]'hji) f.Params.length) (by simp) ?_;rintro r rfl;simp
   intro stm hkm s56;simp at hkm;generalize K4 f.Pre[j] f.Params.length=D at *;cases D
   ·rw[Bool.false_and]at hJj;subst hJj;simp at hJ;subst hJ;simp[s56];refine hretj _ _ _ ?_;simp;refine hret _ _ _ ?_;simp
   ·rw[Bool.true_and]at hJj;simp[hkk,hkm,s56,s6,hwj];exact hRj _ _ _ (by simp[hkj,hkk,hkm]) (by simp) ⟨hnj,enj,eidj,hJj⟩
  rintro stj hj nj Rj hkj s6 ⟨hnj,enj,eidj,hJj⟩ hretj hXj;simp at hkj;rw[drop_eq_nil_of_le (by omega)]at hJj;simp at hJj;subst hJj;rw[Bool.true_and]at hJ;refine Jn (Js [0,3,4,5] (λs=>s 44 = .bool false) (by simp[hkj,hk3,s5,s6,enj,K5]) ?_);intro stk hkk s44;simp at hkk;refine U3 s44 ?_;simp;refine hXj _ _ _ _ ?_;have y0:¬id=nj:=by omega
  have y1:¬nj=id:=by omega
  have y2:¬id=nj+1:=by omega
  have y3:¬nj+1=id:=by omega
  have y4:¬n=nj:=by omega
  have y5:¬nj=n:=by omega
  have hl:=Ja4 (l:=fs) (i:=i) (by omega);simp[hk1,hk2,hk3,hkj,hkk,s3,s4,s5,enj,eidj,K5,y0,y1,hl,hw];refine⟨by unfold Jb;omega,?_⟩;have hs:=J6q hi;rw[hf]at hs;exact hR _ _ _ (by simp[hk,hk1,hk2,hk3,hkj,hkk]) (by simp) ⟨hJ,nj+1,by omega,by simp,by simp[hs,Ji,List.take_of_length_le,hl]⟩
 rintro st h n R hk s4 ⟨hJ,id,hid,s3,eid⟩ hret hX;simp at hk;rw[drop_eq_nil_of_le (by omega)]at hJ;simp at hJ;subst hJ;refine Jn (Js [0,3,4] (λs=>s 11 = .bool false) (by simp[hk,s4]) ?_);intro Jv hk1 s11;simp at hk1;refine U3 s11 ?_;refine hX _ _ _ _ ?_;have hnam:Qk fs fs.length=fs.map (·.Name):=by simp[Qk]
 have hnl:=Ja4 (l:=fs) (i:=fs.length) (by omega);rw[hnam]at eid hnl;simp[hk,hk1];intro _;refine Jd (Hh fs.length 1 3) (by simp) ?_;rintro r rfl;cases h1:K9 fs.length 1 3
 ·simp
 simp[hk1,s3];have ht:List.take fs.length (Ji (fs.map (·.Name)))=Ji (fs.map (·.Name)):=List.take_of_length_le (by simp);refine Jd (T5 (fs.map (·.Name))) (by simp[eid,ht]) ?_;rintro r rfl;simp
theorem Pd(p:Jq)(hp:Ks p<=1048576):Holds prog 61 [.agg (Jh p)] (λx=>x = .bool (Ym p)):=by
 have hlf:p.Functions.length<=1048576:=by have:=Yk Ys p.Functions;unfold Ks I4 at hp;omega
 have hpre:∀f∈p.Functions,f.Pre.length<=1048576:=λf hf=>by have h1:=W6 (w:=Ys) hf;have h2:=Yk U9 f.Pre;unfold Ks I4 at hp;rw[show Ys f=f.Name.length+Ir f.Params+W5 f.Pre from rfl]at h1;unfold W5 at h1;omega
 have hlr:p.Rules.length<=1048576:=by have:=Yk Y0 p.Rules;unfold Ks G4 at hp;omega
 refine Jp Tryz.func61 a61_ok rfl (by simp[a61]) ?_;simp[a61,Jh];refine Jd (J3n p.Functions hlf hpre) (by simp) ?_;rintro r rfl
 have hord:Ym p=(p.Functions.all Ok&&K9 p.Functions.length 1 3&&Q5 (p.Functions.map (·.Name))&&decide (p.Rules.length<=8)&&p.Rules.all (G0 p)):=by unfold Ym;rw[Sh];unfold Q5;cases K9 p.Functions.length 1 3 <;>cases p.Functions.all Ok <;>simp
 rw[hord];generalize(p.Functions.all Ok&&K9 p.Functions.length 1 3&&Q5 (p.Functions.map (·.Name)))=E;cases E
 ·simp
 simp;intro _;have hdg:decide (p.Rules.length<=8)=decide ((p.Rules.length:Int)<=8):=by rw[decide_eq_decide];omega
 by_cases h2:(p.Rules.length:Int)<=8
 case neg=>
  have h2n:¬p.Rules.length<=8:=by omega
  simp[h2,h2n,Int.not_le.1 h2]
 have h2n:p.Rules.length<=8:=by omega
 simp[h2,h2n,Int.not_lt.2 h2];generalize hB:p.Rules.all (G0 p)=B;refine Ki [1] 3 p.Rules.length (λi s h n=>0<n/\h 0=some ⟨true,2,[Jh p]⟩/\(p.Rules.drop i).all (G0 p)=B) (by unfold Jb;omega) (by simp) ⟨by simp,by simp[Jh],by simpa using hB⟩ ?_ ?_
 ·rintro i st h n R hi hg hk s3 hw ⟨hn,e0,hJ⟩ hR hret _;simp at hk;rw[Tn hi]at hJ;refine Jn (Js [1,3] (λs=>s 18 = .bool true) (by simp[hk,s3,hi,e0,Jh]) ?_);intro Jv hk1 s18;simp at hk1;refine Uh s18 (Jn (Xg ?_));refine Js [1,3] (λs=>s 28 = .bool (!G0 p p.Rules[i])) ?_ ?_
  ·simp[hk,hk1,s3,hi,e0,Jh];refine Jw (J3u p (p.Rules[i]'hi) hp (J52 hp _ (getElem_mem hi))) (by simp[Jh]) ?_;rintro r rfl;simp
  intro st2 hk2 s28;simp at hk2;generalize G0 p p.Rules[i]=D at *;cases D
  ·rw[Bool.false_and]at hJ;subst hJ;simp[s28];refine hret _ _ _ ?_;simp
  ·rw[Bool.true_and]at hJ;simp[hk1,hk2,s28,s3,hw];exact hR _ _ _ (by simp[hk,hk1,hk2]) (by simp) ⟨hn,e0,hJ⟩
 rintro st h n R hk s3 ⟨hn,e0,hJ⟩ hret hX;simp at hk;rw[drop_eq_nil_of_le (by omega)]at hJ;simp at hJ;subst hJ;refine Jn (Js [1] (λs=>s 18 = .bool false) (by simp[hk,s3,e0,Jh]) ?_);intro Jv hk1 s18;refine U3 s18 ?_;refine hX _ _ _ _ ?_;simp
def a180:Jk:= ⟨46,[.t 4],(Zq [ZB 2 0,Zo 4 (.mv (.k (.nil 2)))] (Zq [Zo 8 (.bsl 2 []),Zv 5 8] (.seq (Zq [Zi 6 0] (.blk 0 (.loop (.seq (Zq [Zv 9 6,Zf 10 1 2,Zl 11 false 1 10,Zn 12 11,Zb 13 .lss 9 12] (Zw 13 0)) (.seq (.blk 1 (Zq [Zf 16 1 2,Zl 17 false 1 16,Zv 18 6,Zx 19 1 17 18,Zl 20 false 1 19,Zc 21 260 [.t 20]] (.cond (.t 21) (.reg [Zv 22 5,Zv 23 6,Zv 24 1,Zc 25 261 [.t 23,.t 24],Zo 26 (.bsl 2 [.t 25]),ZA 27 32 2 22 26,Zv 5 27]) .skip))) (.reg [Zv 14 6,Zk 15 .add 14 1,Zv 6 15])))))) (.seq (Zq [Zi 7 0] (.blk 2 (.loop (.seq (Zq [Zv 28 7,Zf 29 3 2,Zl 30 false 1 29,Zn 31 30,Zb 32 .lss 28 31] (Zw 32 2)) (.seq (.blk 3 (.reg [Zv 35 5,Zf 36 3 2,Zl 37 false 1 36,Zv 38 7,Zx 39 2 37 38,Zl 40 true 2 39,Zv 41 1,Zc 42 262 [.t 40,.t 41],Zo 43 (.bsl 2 [.t 42]),ZA 44 32 2 35 43,Zv 5 44])) (.reg [Zv 33 7,Zk 34 .add 33 1,Zv 7 34])))))) (Zq [Zv 45 5,Zv 4 45] .ret)))))⟩
theorem a180_ok:Jf prog Tryz.f180=some a180:=by kernel_rfl
def a97:Jk:= ⟨31,[(.c 4 true 2),.t 5],(Zq [ZB 2 0,Zo 4 (.box [(.int .i64 0),(.nil 2)]),Zt 5 false] (Zq [Zl 9 true 2 2,Zv 10 1,Zc 11 172 [.t 9,.t 10],Zv 8 11,Ze 12 8 0,Ze 13 8 1,Zo 6 (.box [(.str []),(.nil 1),(.bool false),(.nil 2)]),⟨no,.st 4 (.t 6) (.t 12),no⟩,Zv 7 13] (.seq (Zq [Zv 14 7,ZN 15 14,Zv 16 15,Zg 17 16 false (.ld true 2 (.t 2)),Zg 18 16 false (.call (.k (.fn (.func 61) [] [])) [.t 17]),Zg 19 16 false (.un .not (.t 18)),ZP 20 16 19] (.cond (.t 20) (Zq [Zo 21 (.build [(.int .i64 0),(.nil 2)] []),⟨no,.st 2 (.t 4) (.t 21),no⟩,Zt 5 false] .ret) .skip)) (.seq (.draw (.op (Zf 22 1 6) (.op (Zl 23 false 1 22) (.op (Zn 24 23) (.op (Zl 25 true 4 6) (.op (Zf 26 1 6) (.op (Zl 27 false 1 26) (.op (Zn 28 27) (.op (Zc 29 180 [.t 25,.t 28]) (.op (Zo 30 (.build [(.int .i64 0),(.nil 2)] [(0,(1,(.t 24))),(1,(1,(.t 29)))])) (.hop ⟨no,.st 2 (.t 4) (.t 30),no⟩ [] (.op (Zt 5 true) .fin)))))))))))) .ret))))⟩
theorem a97_ok:Jf prog Tryz.f97=some a97:=by kernel_rfl
def a188:Jk:= ⟨56,[(.c 4 true 2),.t 5],(Zq [ZB 2 0,Zo 4 (.box [(.int .i64 0),(.nil 2)]),Zt 5 false] (Zq [Zl 12 true 2 2,Zv 13 1,Zc 14 176 [.t 12,.t 13],Zv 11 14,Ze 15 11 0,Ze 16 11 1,Zo 6 (.box [(.str []),(.nil 1),(.bool false),(.nil 2)]),⟨no,.st 4 (.t 6) (.t 15),no⟩,Zv 7 16] (.seq (Zq [Zl 17 true 2 2,Zc 18 67 [.t 17],ZN 19 18,Zv 20 19,Zg 21 20 false (.mv (.t 7)),Zg 22 20 false (.un .not (.t 21)),ZP 23 20 22] (.cond (.t 23) (Zq [Zo 24 (.build [(.int .i64 0),(.nil 2)] []),⟨no,.st 2 (.t 4) (.t 24),no⟩,Zt 5 false] .ret) .skip)) (Zq [Zf 25 1 6,Zl 26 false 1 25,Zn 27 26,Zo 28 (.build [(.int .i64 0),(.nil 2)] [(0,(1,(.t 27)))]),Zo 8 (.box [(.int .i64 0),(.nil 2)]),⟨no,.st 2 (.t 8) (.t 28),no⟩] (.seq (Zq [Zf 29 1 6,Zl 30 false 1 29,Zn 31 30,Zi 32 0] (.blk 0 (.loop (Zq [Zb 33 .lss 32 31] (.seq (Zw 33 0) (.seq (.blk 1 (Zq [Zv 34 32,Zx 35 1 30 32,Zl 36 false 1 35,Zv 9 34,Zv 10 36] (Zq [Zv 37 10,Zc 38 205 [.t 37]] (.cond (.t 38) (.draw (.op (Zf 39 1 8) (.op (Zl 40 false 1 39) (.op (Zv 41 9) (.op (Zf 42 0 8) (.op (Zl 43 false 1 42) (.op (Zc 44 203 [.t 41,.t 43]) (.hop (Zo 45 (.bsl 2 [.t 44])) [(.ld false 1 (.t 39)),(.fld 1 (.t 8))] (.hop (ZA 46 32 2 40 45) [] (.op (Zf 47 1 8) (.hop ⟨no,.st 1 (.t 47) (.t 46),no⟩ [] .fin))))))))))) .skip)))) (.reg [Zk 48 .add 32 1,Zv 32 48]))))))) (Zq [Zf 49 1 8,Zl 50 false 1 49,Zf 51 3 6,Zl 52 false 1 51,ZA 53 32 2 50 52,Zf 54 1 8,⟨no,.st 1 (.t 54) (.t 53),no⟩] (Zq [Zl 55 true 2 8,⟨no,.st 2 (.t 4) (.t 55),no⟩,Zt 5 true] .ret)))))))⟩
theorem a188_ok:Jf prog Tryz.f188=some a188:=by kernel_rfl
theorem Mw{n:Nat} : ∀{xs:List Je}{i:Nat},(Ii n xs i).length<=xs.length
 | [],_=>Nat.le_refl _
 |x::xs,i=>by have:=Mw (n:=n) (xs:=xs) (i:=i+1);simp only[Ii,length_append,length_cons];split <;>simp <;>omega
theorem Jjg{f:K3}(hw:Ys f<=1048576):f.Params.length<=1048576/\f.Pre.length<=1048576/\∀l∈f.Pre,l.Coeffs.length<=1048576:=by have h3:Ys f=f.Name.length+Ir f.Params+W5 f.Pre:=rfl;have h4:=Yk List.length f.Params;have h5:=Yk U9 f.Pre;unfold Ir W5 at h3;refine⟨by omega,by omega,λl hl=>?_⟩;have:=W6 (w:=U9) hl;rw[show U9 l=l.Coeffs.length from rfl]at this;omega
theorem T8{p:Jq}{name:Je}{f:K3}(hp:Ks p<=1048576)(hf:Kw p.Functions name=some f):Ys f<=1048576:=by have h3:=W6 (w:=Ys) (List.mem_of_find?_eq_some hf);unfold Ks I4 at hp;omega
theorem J27(f:K3)(n:Nat)(hw:Ys f<=1048576)(hn:n<=1048576)(hpre:∀l∈f.Pre,l.Coeffs.length<=n):Holds prog 180 [.agg (K5 f),i64 n] (λr=>r = .us 2 ((Wk f n).map J9)):=by
 obtain⟨hl1,hl2,hl3⟩:=Jjg hw;have hr0:=Mw (n:=n) (xs:=f.Params) (i:=0);refine Jp Tryz.func180 a180_ok rfl (by simp[a180]) ?_;simp[a180,K5];generalize hT1:Ii n f.Params 0=T1;rw[hT1]at hr0;have hdom:Wk f n=T1++f.Pre.map (Yc n):=by unfold Wk;rw[hT1]
 refine Ki [1,2] 6 f.Params.length (λi s h m=>1<m/\h 0=some ⟨true,4,[K5 f]⟩/\∃(acc:List Jc) (id:Nat),acc++Ii n (f.Params.drop i) i=T1/\id≠0/\id<m/\s 5 = .ref id 0 acc.length/\h id=some ⟨false,2,acc.map J9⟩) (by unfold Jb;omega) (by simp) ⟨by simp,by simp[K5],[],1,by simpa using hT1,by simp,by simp,by simp,by simp⟩ ?_ ?_
 ·rintro i st h m R hi hg hk s6 hw ⟨hm,e0,acc,id,hJ,hid0,hid,s5,eid⟩ hR _ _;simp at hk;rw[drop_eq_getElem_cons hi]at hJ;simp only[Ii]at hJ;refine Jn (Js [1,2,5,6] (λs=>s 13 = .bool true) (by simp[hk,s6,hi,e0,K5]) ?_);intro Jv hk1 s13;simp at hk1;refine Uh s13 (Jn (Xg ?_));refine Js [1,2,5,6] (λs=>s 21 = .bool (Xh f.Params[i])) ?_ ?_
  ·simp[hk1,hk,s6,hi,e0,K5];refine Jd (Bp (f.Params[i]'hi)) (by simp) ?_;rintro r rfl;simp
  intro st2 hk2 s21;simp at hk2;have z0:¬0=m:=by omega
  have z1:¬m=0:=by omega
  have z2:¬id=m:=by omega
  have z3:¬m=id:=by omega
  have z4:¬0=id:=by omega
  have z5:¬0=m+1:=by omega
  have z6:¬id=m+1:=by omega
  have z7:¬m+1=id:=by omega
  have z8:¬0=m+2:=by omega
  have z9:¬0=m+1+1:=by omega
  cases c1:Xh f.Params[i]
  ·rw[c1]at hJ s21;simp only[Bool.false_eq_true,if_false,nil_append]at hJ;simp[hk2,hk1,s21,s6,hw];exact hR _ _ _ (by simp[hk2,hk1,hk]) (by simp) ⟨hm,e0,acc,id,hJ,hid0,hid,by simp[hk2,hk1,s5],eid⟩
  ·rw[c1]at hJ s21;simp only[if_true]at hJ;have hal:=congrArg List.length hJ;simp only[length_append,length_cons,List.length_nil]at hal;simp[hk2,hk1,hk,s21,s6];refine Jd (Mo i n) (by simp) ?_;rintro r rfl;simp[hk2,hk1,s6,hw,eid,s5,J9,z2,z6,z7];refine⟨by unfold Jb;omega,?_⟩;exact hR _ _ _ (by simp[hk2,hk1,hk]) (by simp) ⟨by omega,by simp[e0,z0,z4],acc++[Ka i n],m+2,by simpa using hJ,by omega,by omega,by simp,by simp[J9]⟩
 rintro st h m R hk s6 ⟨hm,e0,acc,id,hJ,hid0,hid,s5,eid⟩ hret hX;simp at hk;rw[drop_eq_nil_of_le (by omega)]at hJ;simp only[Ii,append_nil]at hJ;subst hJ;refine Jn (Js [1,2,5] (λs=>s 13 = .bool false) (by simp[hk,s6,e0,K5]) ?_);intro Jv hk1 s13;simp at hk1;refine U3 s13 ?_;refine hX _ _ _ _ ?_;simp;generalize hT2:acc++f.Pre.map (Yc n)=T2;refine Ki [1,2] 7 f.Pre.length (λi s h m=>1<m/\h 0=some ⟨true,4,[K5 f]⟩/\∃(acc:List Jc) (id:Nat),acc++(f.Pre.drop i).map (Yc n)=T2/\id≠0/\id<m/\s 5 = .ref id 0 acc.length/\h id=some ⟨false,2,acc.map J9⟩) (by unfold Jb;omega) (by simp) ⟨hm,e0,acc,id,by simpa using hT2,hid0,hid,by simp[hk1,s5],eid⟩ ?_ ?_
 ·rintro i tt h m R hi hg hl s7 hw ⟨hm,e0,acc,id,hJ,hid0,hid,s5,eid⟩ hR _ _;simp[hk1,hk]at hl;rw[drop_eq_getElem_cons hi,map_cons]at hJ;refine Jn (Js [1,2,5,7] (λs=>s 32 = .bool true) (by simp[hl,s7,hi,e0,K5]) ?_);intro tt1 hl1 s32;simp at hl1;refine Uh s32 (Jn (Xg ?_));have z0:¬0=m:=by omega
  have z1:¬m=0:=by omega
  have z2:¬id=m:=by omega
  have z3:¬m=id:=by omega
  have z4:¬0=id:=by omega
  have z5:¬0=m+1:=by omega
  have z6:¬id=m+1:=by omega
  have z7:¬m+1=id:=by omega
  have z8:¬0=m+2:=by omega
  have z9:¬0=m+1+1:=by omega
  have hal:=congrArg List.length hJ;simp only[length_append,length_cons,List.length_map,List.length_drop]at hal;have hT2l:T2.length<=3000000:=by rw[<-hT2];simp;omega
  simp[hl1,hl,s7,hi,e0,K5];refine Jd (J89 (f.Pre[i]'hi) n (hpre _ (getElem_mem hi)) hn) (by simp) ?_;rintro r rfl;simp[hl1,s7,hw,eid,s5,J9,z2,z6,z7];refine⟨by unfold Jb;omega,?_⟩;exact hR _ _ _ (by simp[hl1,hl,hk1,hk]) (by simp) ⟨by omega,by simp[e0,z0,z4],acc++[Yc n f.Pre[i]],m+2,by simpa using hJ,by omega,by omega,by simp,by simp[J9]⟩
 rintro tt h m R hl s7 ⟨hm,e0,acc,id,hJ,hid0,hid,s5,eid⟩ hret hX;simp[hk1,hk]at hl;rw[drop_eq_nil_of_le (by omega)]at hJ;simp only[List.map_nil,append_nil]at hJ;subst hJ;refine Jn (Js [1,2,5] (λs=>s 32 = .bool false) (by simp[hl,s7,e0,K5]) ?_);intro tt1 hl1 s32;simp at hl1;refine U3 s32 ?_;refine hX _ _ _ _ ?_;simp[hl1,s5,eid,hdom,hT2]
def Bm:Xm:=⟨0,[]⟩
def Br(p:Jq)(name:Je):Option Xm:=if Ym p then(Kw p.Functions name).map λf=>⟨f.Params.length,Wk f f.Params.length⟩else Option.none
def Gm(o:Option Xm):AV := .tup [.agg (Wb (o.getD Bm)),.bool o.isSome]
theorem J33(p:Jq)(hp:Ks p<=1048576)(name:Je):Holds prog 97 [.agg (Jh p),.str name] (λr=>r=Gm (Br p name)):=by
 refine Jp Tryz.func97 a97_ok rfl (by simp[a97]) ?_;simp[a97,Jh];refine Jd (Ej p name hp) (by simp[Jh]) ?_;rintro r rfl;unfold Q7 Br
 cases hf:Kw p.Functions name with
 |none=>simp[Gm,Bm,Wb,Xk,Yf]
 |some f=>
  have hwf:=T8 hp hf;simp[Xk];refine Jd (Pd p hp) (by simp[Jh]) ?_;rintro r rfl;cases h1:Ym p
  ·simp[Gm,Bm,Wb]
  obtain⟨k1,_,k3,_⟩:=Es h1 hf;simp;refine Jw (J27 f f.Params.length hwf (by omega) (λl hl=>by have:=(W0 (k3 l hl)).1;omega)) (by simp[K5]) ?_;rintro r rfl;simp[Gm,Wb]
theorem J4u(p:Jq)(hp:Ks p<=1048576)(name:Je):Holds prog 188 [.agg (Jh p),.str name] (λr=>r=Gm (Br p name)):=by
 refine Jp Tryz.func188 a188_ok rfl (by simp[a188]) ?_;simp[a188,Jh];refine Jd (Fg p name hp) (by simp[Jh]) ?_;rintro r rfl;unfold Q7 Br;simp[Xk];refine Jd (Po p hp) (by simp[Jh]) ?_;rintro r rfl;cases h1:Ym p
 ·simp[Gm,Bm,Wb]
 cases hf:Kw p.Functions name with
 |none=>simp[Gm,Bm,Wb,Yf]
 |some f=>
  have hwf:=T8 hp hf;obtain⟨hl1,hl2,hl3⟩:=Jjg hwf;have hself:=Jfy h1 hf;have hr0:=Mw (n:=f.Params.length) (xs:=f.Params) (i:=0);simp;intro _;generalize hT1:Ii f.Params.length f.Params 0=T1;rw[hT1]at hr0 hself
  refine Ki [4,6,8,30,31] 32 f.Params.length (λi s h m=>5<m/\h 1=some ⟨true,2,[[.int .i64 0,.nil 2]]⟩/\h 2=some ⟨false,1,Ji f.Params⟩/\h 3=some ⟨false,2,f.Pre.map J9⟩/\h 4=some ⟨true,4,[[.str f.Name,.ref 2 0 f.Params.length,.bool f.ListResult,.ref 3 0 f.Pre.length]]⟩ /\
   ∃(acc:List Jc) (v:AV),acc++Ii f.Params.length (f.Params.drop i) i=T1/\h 5=some ⟨true,2,[[.int .i64 f.Params.length,v]]⟩/\Kn 5 2 (acc.map J9) v h m) (by unfold Jb;omega) (by simp) ⟨by simp,by simp,by simp,by simp,by simp,[],.nil 2,by simpa using hT1,by simp,.inl (by simp)⟩ ?_ ?_
  ·rintro i st h m R hi hg hk s32 hw ⟨hm,e1,e2,e3,e4,acc,v,hJ,e5,hA⟩ hR _ _;simp at hk;rw[drop_eq_getElem_cons hi]at hJ;simp only[Ii]at hJ;refine Js [4,6,8,30,31,32] (λs=>s 33 = .bool true) (by simp[hk,s32,hi]) ?_;intro Jv hk1 s33;simp at hk1;refine W9 s33 (Jn (Xg ?_));refine Js [4,6,8,30,31,32] (λs=>s 9 = .int .i64 i/\s 10 = .str (f.Params[i]'hi)) (by simp[hk1,hk,s32,hi,e2]) ?_;rintro st2 hk2 ⟨s9,s10⟩;simp at hk2;refine Js [4,6,8,9,30,31,32] (λs=>s 38 = .bool (Xh f.Params[i])) ?_ ?_
   ·simp[s10];refine Jd (Dv (f.Params[i]'hi)) (by simp) ?_;rintro r rfl;simp[hk2,hk1,hk,s9]
   intro Kl hk3 s38;simp at hk3;cases c1:Xh f.Params[i]
   ·rw[c1]at hJ s38;simp only[Bool.false_eq_true,if_false,nil_append]at hJ;simp[hk3,hk2,hk1,s38,s32,hw];exact hR _ _ _ (by simp[hk3,hk2,hk1,hk]) (by simp) ⟨hm,e1,e2,e3,e4,acc,v,hJ,e5,hA⟩
   rw[c1]at hJ s38;simp only[if_true]at hJ;have hal:=congrArg List.length hJ;simp only[length_append,length_cons,List.length_nil]at hal;have z1:¬1=m:=by omega
   have z2:¬2=m:=by omega
   have z3:¬3=m:=by omega
   have z4:¬4=m:=by omega
   have z5:¬5=m:=by omega
   have z6:¬m=5:=by omega
   have w1:¬1=m+1:=by omega
   have w2:¬2=m+1:=by omega
   have w3:¬3=m+1:=by omega
   have w4:¬4=m+1:=by omega
   have w5:¬5=m+1:=by omega
   have w6:¬m=4:=by omega
   have u1:¬1=m+1+1:=by omega
   have u2:¬2=m+1+1:=by omega
   have u3:¬3=m+1+1:=by omega
   have u4:¬4=m+1+1:=by omega
   have u5:¬5=m+1+1:=by omega
   have u6:¬m=3:=by omega
   have u7:¬m=0:=by omega
   have u8:¬m=1:=by omega
   have u9:¬m=2:=by omega
   rcases hA with ⟨hz,rfl⟩|⟨id,hb,hidm,rfl,eid⟩
   ·have hz':acc=[]:=by simpa using hz
    subst hz';simp[hk3,hk2,hk1,hk,s38,s9,e5];refine Jw (J5d i f.Params.length) (by simp) ?_;rintro r rfl;simp[hk3,hk2,hk1,hk,s32,hw,e5,J9,z5,w5,u5];refine⟨by unfold Jb;omega,?_⟩;exact hR _ _ _ (by simp[hk3,hk2,hk1,hk]) (by simp) ⟨by omega,by simp[e1,z1,u7],by simp[e2,z2,w2,u7],by simp[e3,z3,w3,u3],by simp[e4,z4,w4,u4],[Ka i f.Params.length],.ref (m+2) 0 1,by simpa using hJ,by simp,.inr ⟨m+2,by omega,by omega,by simp,by simp[J9,u6]⟩⟩
   ·have i1:¬id=m:=by omega
    have i2:¬id=m+1:=by omega
    have i3:¬id=5:=by omega
    have i4:¬m=id:=by omega
    have i5:¬m+1=id:=by omega
    have i6:¬1=id:=by omega
    have i7:¬2=id:=by omega
    have i8:¬3=id:=by omega
    have i9:¬4=id:=by omega
    have i0:¬5=id:=by omega
    simp[hk3,hk2,hk1,hk,s38,s9,e5];refine Jw (J5d i f.Params.length) (by simp) ?_;rintro r rfl;simp[hk3,hk2,hk1,hk,s32,hw,e5,eid,J9,z5,w5,u5,i1,i2,i5,i0];refine⟨by unfold Jb;omega,?_⟩;exact hR _ _ _ (by simp[hk3,hk2,hk1,hk]) (by simp) ⟨by omega,by simp[e1,z1,u7,i6],by simp[e2,z2,w2,i7,u7],by simp[e3,z3,w3,u3,i8],by simp[e4,z4,w4,u4,i9],acc++[Ka i f.Params.length],.ref (m+2) 0 (acc.length+1),by simpa using hJ,by simp,.inr ⟨m+2,by omega,by omega,by simp,by simp[J9,u6]⟩⟩
  rintro st h m R hk s32 ⟨hm,e1,e2,e3,e4,acc,v,hJ,e5,hA⟩ hret hX;simp at hk;rw[drop_eq_nil_of_le (by omega)]at hJ;simp only[Ii,append_nil]at hJ;subst hJ;refine Js [4,6,8] (λs=>s 33 = .bool false) (by simp[hk,s32]) ?_;intro Jv hk1 s33;simp at hk1;refine Ut s33 ?_;refine hX _ _ _ _ ?_;have z1:¬1=m:=by omega
  have z2:¬2=m:=by omega
  have z3:¬3=m:=by omega
  have z5:¬5=m:=by omega
  have z6:¬m=5:=by omega
  have z7:¬m=1:=by omega
  rcases hA with ⟨hz,rfl⟩|⟨id,hb,hidm,rfl,eid⟩
  ·have hz':acc=[]:=by simpa using hz
   subst hz';simp[hk1,hk,e5,e4,e3,z1,z5,z6,z7,e1];refine⟨by unfold Jb;omega,?_⟩;simp[Gm,Wb,hself]
  ·have i1:¬id=m:=by omega
   have i3:¬id=5:=by omega
   have i4:¬m=id:=by omega
   have i6:¬1=id:=by omega
   have i8:¬3=id:=by omega
   have i9:¬id=3:=by omega
   have i0:¬5=id:=by omega
   simp[hk1,hk,e5,e4,e3,eid,z1,z5,z6,z7,e1,i6,i8,i0];refine⟨by unfold Jb;omega,?_⟩;simp[Gm,Wb,hself];rw[<-List.map_append,List.take_of_length_le (by simp)];exact⟨J8j _,rfl⟩
def a171:Jk:= ⟨22,[(.c 4 true 6),.t 5],(Zq [ZB 2 0,Zo 4 (.box [(.int .i64 0),(.nil 2),(.nil 2),(.nil 1),(.int .i64 0),(.nil 1)]),Zt 5 false] (.seq (Zq [Zl 6 true 2 2,Zc 7 61 [.t 6],ZN 8 7,Zv 9 8,Zg 10 9 false (.mv (.t 1)),Zg 11 9 false (.fld 1 (.t 2)),Zg 12 9 false (.ld false 1 (.t 11)),Zg 13 9 false (.len false (.t 12)),Zg 14 9 false (.bin .sub (.t 13) (.k (.int .i64 1))),Zg 15 9 false (.call (.k (.fn (.func 183) [] [])) [.t 10,(.k (.int .i64 0)),.t 14]),Zg 16 9 false (.un .not (.t 15)),ZP 17 9 16] (.cond (.t 17) (Zq [Zo 18 (.build [(.int .i64 0),(.nil 2),(.nil 2),(.nil 1),(.int .i64 0),(.nil 1)] []),⟨no,.st 6 (.t 4) (.t 18),no⟩,Zt 5 false] .ret) .skip)) (Zq [Zl 19 true 2 2,Zv 20 1,Zc 21 184 [.t 19,.t 20],⟨no,.st 6 (.t 4) (.t 21),no⟩,Zt 5 true] .ret)))⟩
theorem a171_ok:Jf prog Tryz.f171=some a171:=by kernel_rfl
theorem J2m{n:Nat} : ∀{xs:List Je}{a:MS},(xs.foldl (Yv n) a).nx=a.nx+xs.length/\(xs.foldl (Yv n) a).E.length=a.E.length+xs.length/\(xs.foldl (Yv n) a).args=a.args/\(xs.foldl (Yv n) a).rows=a.rows/\Kj (xs.foldl (Yv n) a).E=Kj a.E++xs
 | [],a=>by simp
 |x::xs,a=>by obtain⟨h1,h2,h3,h4,h5⟩:=J2m (n:=n) (xs:=xs) (a:=Yv n a x);simp only[foldl_cons,length_cons];refine⟨by rw[h1];show a.nx+1+_=_;omega,by rw[h2];simp[Yv];omega,by rw[h3];rfl,by rw[h4];rfl,by rw[h5];simp[Yv,Kj]⟩
theorem J98{n:Nat}(hn:n<=8):∀{xs:List Je}{a:MS},(∀e∈a.E,e.2.Coeffs.length<=8)->∀e∈(xs.foldl (Yv n) a).E,e.2.Coeffs.length<=8
 | [],_,h=>h
 |x::xs,a,h=>by
  simp only[foldl_cons];refine J98 hn ?_;intro e he;rcases mem_append.1 he with he|he
  ·exact h e he
  ·simp at he;subst he;exact H9 n hn
theorem Pr{n:Nat} : ∀{xs:List X2}{a:MS},(xs.foldl (Xp n) a).rows.length=a.rows.length+xs.length/\(xs.foldl (Xp n) a).E.length<=a.E.length+2*xs.length/\(xs.foldl (Xp n) a).args=a.args/\(xs.foldl (Xp n) a).nx=a.nx+Y8 xs
 | [],a=>by simp[Y8]
 |x::xs,a=>by
  obtain⟨h1,h2,h3,h4⟩:=Pr (n:=n) (xs:=xs) (a:=Xp n a x);simp only[foldl_cons,length_cons];have g1:(Xp n a x).rows.length=a.rows.length+1:=by unfold Xp;split <;>simp
  have g2:(Xp n a x).E.length<=a.E.length+2:=by unfold Xp;split <;>simp
  have g3:(Xp n a x).args=a.args:=by unfold Xp;split <;>rfl
  have g4:(Xp n a x).nx=a.nx+(if x.Cons then 1 else 0):=by unfold Xp;cases x.Cons <;>simp
  exact⟨by omega,by omega,by rw[h3,g3],by rw[h4,g4,J4e];omega⟩
theorem J4x{n:Nat} : ∀{xs:List Xf}{a:MS},(xs.foldl (Wn n) a).E.length=a.E.length+xs.length
 | [],a=>by simp
 |x::xs,a=>by have h1:=J4x (n:=n) (xs:=xs) (a:=Wn n a x);simp only[foldl_cons,length_cons];rw[h1];simp[Wn];omega
theorem J3g(p:Jq)(hp:Ks p<=1048576)(h1:Ym p=true){j:Nat}(hj:j<p.Rules.length):Holds prog 184 [.agg (Jh p),i64 j] (λx=>x = .agg (U4 (Vf (p.Rules[j]) (Im p (p.Rules[j]))))):=by
 refine Jp Tryz.func184 a184_ok rfl (by simp[a184]) ?_;obtain⟨f,hf,R⟩:=Eu h1 (getElem_mem hj);have hfa:Im p p.Rules[j]=f:=by unfold Im;rw[hf];rfl
 simp[a184,lm0,lm1,lm2,Jh,hj];refine Jd (Ej p (p.Rules[j]).Func hp) (by simp[Jh]) ?_;rintro r rfl;rw[hfa,hf];have hwf:=T8 hp hf;have hpar:=R.par;have hnpre:=R.npre;have hnp:=R.npats;have hnc:=R.ncalls;have h6:=R.size;have hrargs:=R.args h1;have hrres:=Ni (J57 R.res);generalize p.Rules[j]=r at *;simp[Q7,Xk,Jr,lm3,lm4];intro _;refine Jw (Jar r.Patterns) (by simp) ?_;rintro _ rfl;have hcl:=Jac r.Patterns;have hw1:IntKind.i64.wrap ((f.Params.length:Int)+(Y8 r.Patterns:Int))=(f.Params.length:Int)+(Y8 r.Patterns:Int):=Kk (by omega);have hw2:IntKind.i64.wrap ((f.Params.length:Int)+(Y8 r.Patterns:Int)+(r.Calls.length:Int))=(K7 r f:Int):=by rw[Kk (by omega)];unfold K7;omega
 have hpl:∀l∈f.Pre,l.Coeffs.length<=K7 r f:=λl hl=>by
  have h1:=(W0 (R.pre l hl)).1;have h2:f.Params.length<=K7 r f:=by unfold K7;omega
  omega
 simp[hw1,hw2,lm5];have hkE:=J2m (n:=K7 r f) (xs:=f.Params) (a:=⟨[],0,Wk f (K7 r f),[],[]⟩);have hvE:=J98 (n:=K7 r f) (by omega) (xs:=f.Params) (a:=⟨[],0,Wk f (K7 r f),[],[]⟩) (by simp)
 have hdl:(Wk f (K7 r f)).length<=4:=by unfold Wk;have:=Mw (n:=K7 r f) (xs:=f.Params) (i:=0);simp;omega
 rw[<-show Ud r f=f.Params.foldl (Yv (K7 r f)) ⟨[],0,Wk f (K7 r f),[],[]⟩from rfl]at hkE hvE;have hsz:r.Calls.length<=K7 r f/\f.Params.length+Y8 r.Patterns=K7 r f - r.Calls.length:=by unfold K7;omega
 have ss3d:Y2 r f=r.Patterns.foldl (Xp (K7 r f)) (Wf (Ud r f) f.Params.length):=rfl;have hp3:=Pr (n:=K7 r f) (xs:=r.Patterns) (a:=Wf (Ud r f) f.Params.length);rw[<-ss3d]at hp3;have ss5d:V5 r f=r.Calls.foldl (Wn (K7 r f)) (Y7 (Wf (Y2 r f) (f.Params.length+Y8 r.Patterns)) (r.Guards.map (V3 (Y2 r f).E (K7 r f)))):=rfl;have hc5:=J4x (n:=K7 r f) (xs:=r.Calls) (a:=Y7 (Wf (Y2 r f) (f.Params.length+Y8 r.Patterns)) (r.Guards.map (V3 (Y2 r f).E (K7 r f))));rw[<-ss5d]at hc5;have hmS:Vf r f=Cs (K7 r f) (V5 r f) (Q9 (V5 r f).E (K7 r f) r.Result):=rfl;rw[hmS]
 have hrr:(r.Patterns.foldl (Xp (K7 r f)) ⟨(Ud r f).E,f.Params.length,[],[],[]⟩).rows.length<=100000:=by have:=(Pr (n:=K7 r f) (xs:=r.Patterns) (a:=⟨(Ud r f).E,f.Params.length,[],[],[]⟩)).1;rw[this];simp;omega
 generalize hN:K7 r f=N at *;refine Jd (J27 f N hwf (by omega) hpl) (by simp[K5]) ?_;rintro r rfl;simp[lm6];refine Jn2 (r:=r) (f:=f) (N:=N) (R0:=Wk f N) (by simp) (by simp) (by simp) (by simp) (by simp) ?_ hpar ?_
 ·refine⟨by simp,by simp[Jr],by simp,by simp,by omega,.nil 1,.nil 2,.ref 6 0 (Wk f N).length,.nil 2,.nil 1,by simp,by simp[Xj],?_,?_⟩
  ·intro x hx;simp only[mem_cons,not_mem_nil,or_false]at hx;rcases hx with rfl|rfl|rfl|rfl|rfl
   ·exact .inl (by simp[Kj,Ji])
   ·exact .inl (by simp[Y4])
   ·exact .inr ⟨6,by omega,by omega,by simp,by simp⟩
   ·exact .inl (by simp)
   ·exact .inl (by simp)
  ·simp only[List.pairwise_cons,mem_cons,not_mem_nil,or_false,forall_eq_or_imp,forall_eq];refine⟨⟨?_,?_,?_,?_⟩,⟨?_,?_,?_⟩,⟨?_,?_⟩,?_,by simp⟩ <;>intro i k l e1 e2 <;>first|cases e1;done|(cases e2;done)
 intro s1 h1' n1 hk1 M1;simp at hk1;rw[show f.Params.foldl (Yv N) ⟨[],0,Wk f N,[],[]⟩=Ud r f by unfold Ud;rw[hN]]at M1;refine Ua (Jhz (m:=f.Params.length) (by simp[hk1]) (by simp[hk1]) (by simp[hk1]) (by simp[hk1]) (by simp[hk1]) M1 (by omega) (by omega) (by rw[hkE.2.1];simp;omega) (by omega) (by rw[hkE.2.2.2.1];show(Wk f N).length<=_;omega) ?_ hvE hrr ?_)
 ·intro q hq;rw[hkE.2.2.2.2];simpa[Kj]using R.pats q hq
 intro s2 h2 n2 hk2 M2;simp at hk2;rw[<-ss3d]at M2
 have hE3:(Y2 r f).E.length<=1000:=by
  have e1:(Wf (Ud r f) f.Params.length).E.length=f.Params.length:=by show(Ud r f).E.length=_;rw[hkE.2.1];simp
  omega
 have hR3:(Y2 r f).rows.length<=1000:=by
  have e1:(Wf (Ud r f) f.Params.length).rows.length=(Wk f N).length:=by show(Ud r f).rows.length=_;rw[hkE.2.2.2.1]
  omega
 refine Jn (Jhj (by simp[hk2,hk1]) (by simp[hk2,hk1]) (by simp[hk2,hk1]) (by simp[hk2,hk1]) M2 (by omega) R.nguards (λg hg=>?_) (by omega) ?_)
 ·have:=R.guards g hg;unfold Qt I6 at this;simp only[Bool.and_eq_true,decide_eq_true_eq]at this;omega
 intro s3 h3 n3 hk3 M3;simp at hk3;have M3':SM r f N (Y7 (Wf (Y2 r f) (f.Params.length+Y8 r.Patterns)) (r.Guards.map (V3 (Y2 r f).E N))) h3 n3:=M3;refine Ua (Jn (Jhu (by simp[hk3,hk2,hk1]) (by simp[hk3,hk2,hk1]) (by simp[hk3,hk2,hk1]) (by simp[hk3,hk2,hk1]) M3' (by omega) (by show(Y2 r f).E.length<=_;omega) hnc (by omega) (by show f.Params.length+Y8 r.Patterns=_;omega) (by have:=R.nguards;show((Y2 r f).rows++_).length<=_;simp;omega) ?_ (λc hc=>⟨(hrargs c hc).1,λx hx=>Ni ((hrargs c hc).2 x hx)⟩) ?_))
 ·show(Y2 r f).args.length<=_
  rw[hp3.2.2.1];show(Ud r f).args.length<=_
  rw[hkE.2.2.1];simp
 intro s4 h4 n4 hk4 M4;simp at hk4;rw[<-ss5d]at M4
 have hE5:(V5 r f).E.length<=2000:=by
  rw[hc5];show(Y2 r f).E.length+_<=_
  omega
 generalize V5 r f=ms at *;obtain⟨vN,vL,e8,hbw⟩:=M4.bws;obtain⟨b1,b2⟩:=hbw h4 λ_ _=>rfl
 have l4:=M4.lt;refine Ua ?_;simp[Jzk,hk4,hk3,hk2,hk1,e8,M4.hr,Jr];refine Jd (J1o ms.E (by omega) r.Result (λx hx=>by have:=hrres.1 x hx;omega) hrres.2 N) (by simp[G2,b1,b2,Kf]) ?_;rintro r rfl;rw[Xd,show(C0 ms.E N r.Result).getD Jl=Q9 ms.E N r.Result from rfl];generalize Q9 ms.E N r.Result=res at *;obtain⟨vN2,vL2,vR,vP,vA,e8',e7,AS⟩:=M4.acc;obtain⟨AS1,AS2⟩:=AS;simp only[List.pairwise_cons,mem_cons,not_mem_nil,or_false,forall_eq_or_imp,forall_eq]at AS2;obtain⟨_,_,⟨d8,d9⟩,d10,_⟩:=AS2;have k2:=AS1 (2,ms.rows.map J9,vR) (by simp);have k3:=AS1 (2,ms.pars.map J9,vP) (by simp);have k4:=AS1 (1,ms.args.map Yg,vA) (by simp);have cR:=k2.cell;have cP:=k3.cell;have cA:=k4.cell;have ne:¬7=n4/\¬1=n4/\¬n4=7/\¬n4=1:=by omega
 simp[J9,hk4,hk3,hk2,hk1,e7,Xj,Jzq,M4.hz,ne,-dt,-Wq,-K8,J1t,J4y,cR,cP,cA];generalize hH:upd (upd (upd h4 n4 _) 7 _) 1 _=H
 have fH:∀id,5<id->id<n4->id≠7->H id=h4 id:=by
  intro id hid _ _;have:¬id=1/\¬id=7/\¬id=n4:=by omega
  rw[<-hH];simp[this]
 have nb:∀{z:Nat}{rows:List (List AV)}{v:AV}(x:Kn 5 z rows v h4 n4),Kn 5 z rows v H n4:=λx=>x.keep (Nat.le_refl _) λid hb hid e=>fH id hb hid λe'=>x.not_box e7 (by rw[<-e'];exact e)
 have m2:=nb k2;have m3:=nb k3;have m4:=nb k4;have kq:H n4=some ⟨false,1,Jg res.Coeffs⟩:=by rw[<-hH];simp[ne]
 obtain⟨H1,dd1,e1⟩:=m2.dt;have m3':Kn 5 2 (ms.pars.map J9) vP H1 n4:=m3.keep (Nat.le_refl _) λid hb hid e=>e1 id λl el=>d8 id _ _ el e
 obtain⟨H2,dd2,e2⟩:=m3'.dt
 have m4':Kn 5 1 (ms.args.map Yg) vA H2 n4:=m4.keep (Nat.le_refl _) λid hb hid e=>by rw[e2 id λl el=>d10 id _ _ el e,e1 id λl el=>d9 id _ _ el e]
 obtain⟨H3,dd3,e3⟩:=m4'.dt
 have kq3:H3 n4=some ⟨false,1,Jg res.Coeffs⟩:=by rw[e3 n4 λl el=>m4.ne_ge (Nat.le_refl _) el,e2 n4 λl el=>m3.ne_ge (Nat.le_refl _) el,e1 n4 λl el=>m2.ne_ge (Nat.le_refl _) el,kq]
 simp[dd1,dd2,dd3,kq3,U4,Cs]
theorem J4k(p:Jq)(hp:Ks p<=1048576)(k:Int):Holds prog 171 [.agg (Jh p),i64 k] (λr=>r=H4 (Ie p k)):=by
 refine Jp Tryz.func171 a171_ok rfl (by simp[a171]) ?_;simp[a171,Jh];refine Jd (Pd p hp) (by simp[Jh]) ?_;rintro r rfl;unfold Ie;cases h1:Ym p
 ·simp[H4,Og,U4,Jg]
 simp;intro hrl;have hw:IntKind.i64.wrap ((p.Rules.length:Int) - 1)=(p.Rules.length:Int) - 1:=Kk (by unfold Jb at hrl;omega);rw[hw];refine Jd (Hh k 0 ((p.Rules.length:Int) - 1)) (by simp) ?_;rintro r rfl;cases h2:K9 k 0 ((p.Rules.length:Int) - 1)
 ·simp[H4,Og,U4,Jg]
 have hk0:0<=k/\k<=(p.Rules.length:Int) - 1:=by simpa[K9]using h2
 obtain⟨j,rfl⟩:∃j:Nat,k=j:=⟨k.toNat,by omega⟩;have hj:j<p.Rules.length:=by omega
 have hgd:p.Rules.getD ((j:Int).toNat) Er=p.Rules[j]:=by simp[hj]
 simp[hj];refine Jd (J3g p hp h1 hj) (by simp[Jh]) ?_;rintro r rfl;generalize Vf (p.Rules[j]) (Im p (p.Rules[j]))=md;simp[H4,U4]
theorem Jfq:∀(l:List Jc),(∀x∈l,x.Coeffs.length<=8)->D0 l<=9*l.length:=by
 intro l
 induction l with
 |nil=>intro _;simp[D0,cL]
 |cons e l ih=>
  intro h;have h1:=ih λx hx=>h x (List.mem_cons_of_mem _ hx)
  have h2:=h e List.mem_cons_self;unfold D0 at *;simp only[cL,El,Ds,length_cons];omega
theorem Jn0{a b o:Jc}{k:Int}(h:Kg a k b=some o):o.Coeffs.length<=8:=by have:=Cc (a:=a) (k:=k) (b:=b);unfold Yn at this;rw[h]at this;exact this
theorem Jd1{E:Xl}{n:Nat} : ∀{ts:List Yb}{o r:Jc},o.Coeffs.length<=8->Ho E n ts o=some r->r.Coeffs.length<=8
 | [],o,r,ho,h=>by cases h;exact ho
 |t::ts,o,r,ho,h=>by
  simp only[Ho]at h;split at h
  ·cases h
  ·rename_i o' ha;exact Jd1 (Jn0 ha) h
theorem Jad{E:Xl}{n:Nat}{s:Xb} : (V3 E n s).Coeffs.length<=8:=by
 unfold V3 F8
 cases h:Ho E n s.Terms (Jo s.Const n)with
 |none=>simp[Jl]
 |some r=>exact Jd1 (Cl _ _) h
theorem Jah{E:Xl}{n:Nat}{a:X8} : (Q9 E n a).Coeffs.length<=8:=by
 unfold Q9 C0;split
 ·split
  ·exact Cl _ _
  ·exact Cc
 ·exact Jad
theorem Jn1{E:Xl}{x:Je}{n:Int}(h:∀e∈E,e.2.Coeffs.length<=8):(Kp (Jo 0 n) E x).Coeffs.length<=8:=by
 by_cases hx:x∈Kj E
 ·exact J9f h hx
 ·have:E.find? (λe=>e.1==x)=Option.none:=by
   rw[List.find?_eq_none];intro e he hb;exact hx (mem_map.2 ⟨e,he,by simpa using hb⟩)
  unfold Kp;rw[this];exact Cl _ _
structure Vc (ms:MS):Prop where
 E:∀e∈ms.E,e.2.Coeffs.length<=8
 R:∀l∈ms.rows,l.Coeffs.length<=8
 P:∀l∈ms.pars,l.Coeffs.length<=8
theorem Nv{α:Type}{l:List α}{x:α}{p:α->Prop}(h:∀y∈l,p y)(hx:p x):∀y∈l++[x],p y:=by
 intro y hy;rcases mem_append.1 hy with hy|hy
 ·exact h y hy
 ·simp at hy;subst hy;exact hx
theorem Vc.par {n:Nat}(hn:n<=8) {ms:MS}(M:Vc ms) (x:Je):Vc (Yv n ms x):=
 ⟨Nv M.E (H9 n hn),M.R,Nv M.P (H9 n hn)⟩
theorem Vc.pat {n:Nat}(hn:n<=8) {ms:MS}(M:Vc ms) (q:X2):Vc (Xp n ms q):=by
 have hl:(Ei n ms q).Coeffs.length<=8:=by unfold Ei Vs;exact Jn1 M.E
 unfold Xp;split
 ·refine⟨?_,Nv M.R hl,M.P⟩;intro e he;rcases mem_append.1 he with he|he
  ·exact M.E e he
  ·simp at he;rcases he with rfl|rfl
   ·exact H9 n hn
   ·exact hl
 ·exact⟨M.E,Nv M.R Cc,M.P⟩
theorem Vc.call {n:Nat}(hn:n<=8) {ms:MS}(M:Vc ms) (c:Xf):Vc (Wn n ms c):=by
 refine⟨Nv M.E (H9 n hn),?_,M.P⟩;intro l hl;rcases mem_append.1 hl with hl|hl
 ·exact M.R l hl
 ·split at hl
  ·simp at hl;subst hl;exact H9 n hn
  ·cases hl
theorem Vc.fold {α:Type}{g:MS->α->MS}(hg:∀ms x,Vc ms->Vc (g ms x)):∀{l:List α}{ms:MS},Vc ms->Vc (l.foldl g ms)
 | [],_,h=>h
 |x::l,ms,h=>Vc.fold hg (l:=l) (hg ms x h)
theorem J2q{n:Nat} : ∀{xs:List Xf}{a:MS},(xs.foldl (Wn n) a).rows.length<=a.rows.length+xs.length/\(xs.foldl (Wn n) a).pars=a.pars/\(xs.foldl (Wn n) a).args.length=a.args.length+xs.length /\
 ∀l∈(xs.foldl (Wn n) a).args,l∈a.args\/(∃c∈xs,l.length=c.Args.length/\∀y∈l,y.Coeffs.length<=8)
 | [],a=>by simp
 |x::xs,a=>by
  obtain⟨h1,h2,h3,h4⟩:=J2q (n:=n) (xs:=xs) (a:=Wn n a x);simp only[foldl_cons,length_cons];have g1:(Wn n a x).rows.length<=a.rows.length+1:=by unfold Wn;simp only[length_append];split <;>simp
  have g3:(Wn n a x).args.length=a.args.length+1:=by simp[Wn]
  refine⟨by omega,by rw[h2];rfl,by omega,?_⟩;intro l hl;rcases h4 l hl with h|⟨c,hc,h⟩
  ·rcases mem_append.1 h with h|h
   ·exact .inl h
   ·simp at h;refine .inr ⟨x,List.mem_cons_self,by rw[h];simp,?_⟩;intro y hy;rw[h]at hy;obtain⟨z,_,rfl⟩:=mem_map.1 hy;exact Jah
  ·exact .inr ⟨c,List.mem_cons_of_mem _ hc,h⟩
theorem J6e{n:Nat} : ∀{xs:List Je}{a:MS},(xs.foldl (Yv n) a).pars.length=a.pars.length+xs.length
 | [],a=>by simp
 |x::xs,a=>by have h1:=J6e (n:=n) (xs:=xs) (a:=Yv n a x);simp only[foldl_cons,length_cons];rw[h1];simp[Yv];omega
theorem J2r{n:Nat} : ∀{xs:List X2}{a:MS},(xs.foldl (Xp n) a).pars=a.pars
 | [],a=>rfl
 |x::xs,a=>by simp only[foldl_cons];rw[J2r];unfold Xp;split <;>rfl
theorem J69{p:Jq}{r:Jy}{f:K3}(hp:Ym p=true)(R:Ev p r f):(Vf r f).System.Rows.length<=10/\(∀l∈(Vf r f).System.Rows,l.Coeffs.length<=8)/\(Vf r f).Params.length<=2/\(∀l∈(Vf r f).Params,l.Coeffs.length<=8) /\
 (Vf r f).Args.length<=2/\(∀l∈(Vf r f).Args,l.length<=2/\∀y∈l,y.Coeffs.length<=8)/\(Vf r f).Result.Coeffs.length<=8/\(Vf r f).System.N<=6/\0<=(Vf r f).System.N:=by
 have hn:K7 r f<=8:=by have:=R.size;omega
 have hpar:=R.par;have hnp:=R.npats;have hnc:=R.ncalls;have hng:=R.nguards;have hpre:=R.npre
 have hdl:(Wk f (K7 r f)).length<=4/\∀l∈Wk f (K7 r f),l.Coeffs.length<=8:=by
  have hlr:=Mw (n:=K7 r f) (xs:=f.Params) (i:=0);refine⟨by unfold Wk;simp;omega,?_⟩;intro l hl;rcases mem_append.1 hl with hl|hl
  ·have:∀(xs:List Je) (i:Nat),∀l∈Ii (K7 r f) xs i,l.Coeffs.length<=8:=by
    intro xs
    induction xs with
    |nil=>intro i l hl;cases hl
    |cons x xs ih=>
     intro i l hl;rcases mem_append.1 hl with hl|hl
     ·split at hl
      ·simp at hl;subst hl;exact H9 _ hn
      ·cases hl
     ·exact ih _ l hl
   exact this _ _ l hl
  ·obtain⟨x,hx,rfl⟩:=mem_map.1 hl;have h1:=(W0 (R.pre x hx)).1;have h2:f.Params.length<=K7 r f:=by unfold K7;omega
   simp[Yc];omega
 have m1:Vc (Ud r f):=Vc.fold (λms x h=>h.par hn x) ⟨by simp,hdl.2,by simp⟩;have m1':Vc (Wf (Ud r f) f.Params.length):=⟨m1.E,m1.R,m1.P⟩;have m3:Vc (Y2 r f):=Vc.fold (λms x h=>h.pat hn x) m1'
 have m4:Vc (Y7 (Wf (Y2 r f) (f.Params.length+Y8 r.Patterns)) (r.Guards.map (V3 (Y2 r f).E (K7 r f)))):=by
  refine⟨m3.E,?_,m3.P⟩;intro l hl;rcases mem_append.1 hl with hl|hl
  ·exact m3.R l hl
  ·obtain⟨g,_,rfl⟩:=mem_map.1 hl;exact Jad
 have m5:Vc (V5 r f):=Vc.fold (λms x h=>h.call hn x) m4;obtain⟨c1,c2,c3,c4⟩:=J2q (n:=K7 r f) (xs:=r.Calls) (a:=Y7 (Wf (Y2 r f) (f.Params.length+Y8 r.Patterns)) (r.Guards.map (V3 (Y2 r f).E (K7 r f))));have d3:=Pr (n:=K7 r f) (xs:=r.Patterns) (a:=Wf (Ud r f) f.Params.length);have d1:=J2m (n:=K7 r f) (xs:=f.Params) (a:=⟨[],0,Wk f (K7 r f),[],[]⟩);have e1:=J6e (n:=K7 r f) (xs:=f.Params) (a:=⟨[],0,Wk f (K7 r f),[],[]⟩);have e3:=J2r (n:=K7 r f) (xs:=r.Patterns) (a:=Wf (Ud r f) f.Params.length);have hrows1:(Ud r f).rows=Wk f (K7 r f):=d1.2.2.2.1
 have hargs3:(Y2 r f).args=[]:=by have:(Y2 r f).args=(Wf (Ud r f) f.Params.length).args:=d3.2.2.1;rw[this];exact d1.2.2.1
 have hr3:(Y2 r f).rows.length=(Wk f (K7 r f)).length+r.Patterns.length:=by have:(Y2 r f).rows.length=(Wf (Ud r f) f.Params.length).rows.length+r.Patterns.length:=d3.1;rw[this];show(Ud r f).rows.length+_=_;rw[hrows1]
 have hp5:(V5 r f).pars.length=f.Params.length:=by
  have h1:(V5 r f).pars=(Y2 r f).pars:=c2;have h2:(Y2 r f).pars=(Ud r f).pars:=e3;rw[h1,h2];have:(Ud r f).pars.length=f.Params.length:=by rw[show(Ud r f)=f.Params.foldl (Yv (K7 r f)) ⟨[],0,Wk f (K7 r f),[],[]⟩from rfl,e1];simp
  exact this
 refine⟨?_,m5.R,?_,m5.P,?_,?_,Jah,?_,?_⟩
 ·have:(V5 r f).rows.length<=(Y2 r f).rows.length+r.Guards.length+r.Calls.length:=by
   refine Nat.le_trans c1 ?_;show((Y2 r f).rows++_).length+_<=_
   simp
  show(V5 r f).rows.length<=10
  omega
 ·show(V5 r f).pars.length<=2;omega
 ·have:(V5 r f).args.length=(Y2 r f).args.length+r.Calls.length:=c3;rw[hargs3]at this;simp at this;show(V5 r f).args.length<=2;omega
 ·intro l hl;rcases c4 l hl with h|⟨c,hc,h1,h2⟩
  ·have:l∈(Y2 r f).args:=h;rw[hargs3]at this;cases this
  ·exact⟨by rw[h1];exact(R.args hp c hc).1,h2⟩
 ·show((K7 r f:Nat):Int)<=6;have:=R.size;omega
 ·show(0:Int)<=((K7 r f:Nat):Int);omega
def Dr(i:Nat)(k:Nat):Yl:=⟨i,k⟩
def Oj(i:Nat)(r:Jy):List Yl:=(List.range r.Calls.length).map (Dr i)
def Qp:Nat->List Jy->List Yl
 |_,[]=>[]
 |i,r::l=>Oj i r++Qp (i+1) l
def B8(p:Jq):List Yl:=Qp 0 p.Rules
def Yi(p:Jq):List Yl:=if Ym p then B8 p else []
def Sb(p:Jq)(e:Yl):Je:=match p.Rules[e.Rule.toNat]? with|some r=>r.Func|Option.none=>[]
def Fp(p:Jq)(e:Yl):Je:=match p.Rules[e.Rule.toNat]? with|some r=>(match r.Calls[e.Call.toNat]? with|some c=>c.Func|Option.none=>[])|Option.none=>[]
def Jq4(p:Jq):List (Je×Je):=(B8 p).map λe=>(Sb p e,Fp p e)
def D8(p:Jq):List Je:=p.Functions.map (·.Name)
theorem J15{e:Yl} : ∀{l:List Jy}{i:Nat},e∈Qp i l->∃j k:Nat,∃hj:j<l.length,k<(l[j]).Calls.length/\e=⟨((i+j:Nat):Int),k⟩
 | [],_,h=>by cases h
 |r::l,i,h=>by
  simp only[Qp]at h;rcases mem_append.1 h with h|h
  ·simp only[Oj,mem_map,List.mem_range,Dr]at h;obtain⟨k,hk,rfl⟩:=h;exact⟨0,k,by simp,by simpa using hk,by simp⟩
  ·obtain⟨j,k,hj,hk,rfl⟩:=J15 h;exact⟨j+1,k,by simpa using hj,by simpa using hk,by congr 1;omega⟩
theorem J1r{p:Jq}{e:Yl}(h:e∈B8 p):∃i k:Nat,∃hi:i<p.Rules.length,k<(p.Rules[i]).Calls.length/\e=⟨(i:Int),(k:Int)⟩:=by obtain⟨j,k,hj,hk,rfl⟩:=J15 h;exact⟨j,k,hj,hk,by congr 1;omega⟩
theorem Jaa{p:Jq}{i k:Nat}(hi:i<p.Rules.length):Sb p ⟨(i:Int),(k:Int)⟩=(p.Rules[i]).Func:=by simp only[Sb,Int.toNat_natCast,List.getElem?_eq_getElem hi]
theorem Jjb{p:Jq}{i k:Nat}(hi:i<p.Rules.length)(hk:k<(p.Rules[i]).Calls.length):Fp p ⟨(i:Int),(k:Int)⟩=((p.Rules[i]).Calls[k]).Func:=by simp only[Fp,Int.toNat_natCast,List.getElem?_eq_getElem hi,List.getElem?_eq_getElem hk]
theorem J1d:∀(l:List Jy) (i:Nat),(Qp i l).length<=wL Y0 l
 | [],_=>Nat.zero_le _
 |r::l,i=>by
  have h1:=J1d l (i+1);have h2:=Yk Ub r.Calls;have h3:(Oj i r).length=r.Calls.length:=by simp[Oj]
  have h4:r.Calls.length<=Y0 r:=by unfold Y0 Iw;omega
  simp only[Qp,length_append,h3];unfold wL at h1⊢;simp only[map_cons,List.sum_cons,length_cons];omega
theorem J1n(p:Jq)(hw:Ks p<=1048576):(B8 p).length<=1048576:=by have:=J1d p.Rules 0;unfold Ks G4 at hw;unfold B8;omega
theorem J3c{l:List K3}{s:Je}(h:(Kw l s).isSome=true):s∈l.map (·.Name):=by unfold Kw at h;rw[List.find?_isSome]at h;obtain⟨f,hf,hn⟩:=h;exact mem_map.2 ⟨f,hf,by simpa using hn⟩
theorem J3b:∀{l met:List Je},O3 met l=true->l.Nodup/\∀x∈l,x∉met
 | [],_,_=>⟨List.nodup_nil,λ_ h=>(by cases h)⟩
 |s::l,met,h=>by
  simp only[O3,Bool.and_eq_true,Bool.not_eq_true']at h;obtain⟨h1,h2⟩:=J3b h.2;have h3:=J59.1 h.1;refine⟨List.nodup_cons.2 ⟨λhs=>h2 s hs (by simp),h1⟩,?_⟩;intro x hx;rcases mem_cons.1 hx with rfl|hx
  ·exact h3
  ·exact λhm=>h2 x hx (List.mem_append_left _ hm)
theorem J14{p:Jq}{r:Jy} : ∀{l:List Xf}{k:Nat},Qy p r k l=true->∀c∈l,∃s,If p c s=true
 | [],_,_,_,h=>by cases h
 |c::l,k,h,d,hd=>by
  simp only[Qy,Bool.and_eq_true]at h;rcases mem_cons.1 hd with rfl|hd
  ·exact⟨_,h.1⟩
  ·exact J14 h.2 d hd
theorem Cj{p:Jq}(h:Ym p=true):(D8 p).Nodup/\(∀e∈Jq4 p,e.1∈D8 p/\e.2∈D8 p)/\p.Functions.length<=3/\p.Rules.length<=8:=by
 unfold Ym at h;simp only[Bool.and_eq_true,decide_eq_true_eq,Sh]at h;obtain⟨⟨⟨h1,h2⟩,h3⟩,h4⟩:=h;have h1':p.Functions.length<=3:=by unfold K9 at h1;simp at h1;omega
 refine⟨(J3b h2.2).1,?_,h1',h3⟩;intro e he;obtain⟨x,hx,rfl⟩:=mem_map.1 he;obtain⟨i,k,hi,hk,rfl⟩:=J1r hx;have hr:=List.all_eq_true.1 h4 _ (getElem_mem hi);unfold G0 at hr;simp only[Bool.and_eq_true,decide_eq_true_eq]at hr;obtain⟨⟨⟨⟨⟨⟨⟨g1,g2⟩,g3⟩,g4⟩,g5⟩,g6⟩,g7⟩,g8⟩:=hr;rw[Jaa hi,Jjb hi hk];refine⟨J3c g1,?_⟩;obtain⟨s,hs⟩:=J14 g6 _ (getElem_mem hk);unfold If at hs;simp only[Bool.and_eq_true]at hs;exact J3c hs.1.1.1
end Go.Proofs.YtoclolkigjbcgaaGreat

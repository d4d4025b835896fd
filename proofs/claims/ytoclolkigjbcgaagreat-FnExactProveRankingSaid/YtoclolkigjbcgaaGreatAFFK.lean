/- Contracts: FindFarkas of the reference. -/
import Derived.Test.YtoclolkigjbcgaaGreatAFF8
import Derived.Test.YtoclolkigjbcgaaGreatAHM2
import Derived.Test.YtoclolkigjbcgaaGreatAT1
import Derived.Test.YtoclolkigjbcgaaGreatProg
import Derived.Test.YtoclolkigjbcgaaGreatAN6
import Derived.Test.YtoclolkigjbcgaaGreatAE4
namespace Go.Proofs.YtoclolkigjbcgaaGreat
open Tryz
open Tryz(prog)
open List(drop_eq_getElem_cons drop_eq_nil_of_le take_of_length_le ext_getElem?)
set_option maxRecDepth 40000
set_option maxHeartbeats 4000000
open Go Go.RowKit Go.Proofs
set_option linter.all false
section
variable {ks:List Kt}{s:Jm}{h h':J8}{n:Nat}{Q:Xb}
theorem Jj7{x:Xx}{m n0:Nat}{h0:J8}{F:Option (List Ke)}{l0:List Ke}(hm:m<=20)(hx:0<=x.N/\x.N<=8)(s2:s 2 = .ptr 0 0 0)(s4:s 4 = .ptr 2 0 0)(e0:h0 0=some ⟨true,2,[Ky x]⟩)(e2:h0 2=some ⟨true,2,[[.int .i64 0,.nil 1]]⟩)(hn0:2<n0)(hn:n0<=n)(hf:∀id,id<n0->h id=h0 id)
 (hg0:∀d∈l0,GD x.N.toNat m d) (hl0:l0.length<=60) (B0:K7 Xa 3 n0 l0 (s 7) h n) (hF:Q4 0 x.N.toNat l0=F)
 (hret:F=Option.none->∀s' h' n',s' 4 = .ptr 2 0 0->s' 5 = .bool false->h' 2=some ⟨true,2,[[.int .i64 0,.nil 1]]⟩->Jt prog ks .ret s' h' n' Q)
 (hK:∀s' h' n' L,(∀j∈[2,3,4,6],s' j=s j)->n0<=n'->(∀id,id<n0->h' id=h0 id)->F=some L->L.length<=60->K7 Xa 3 n0 L (s' 7) h' n'->Jt prog ks .normal s' h' n' Q):rC prog K7s ks s h n Q:=by
 have e0':∀{h':J8},(∀id,id<n0->h' id=h0 id)->h' 0=some ⟨true,2,[[.int .i64 x.N,.sl 2 (x.Rows.map Jb)]]⟩:=λhh=>by rw[hh 0 (by omega),e0];rfl
 have hN:((x.N.toNat:Nat):Int)=x.N:=by omega
 simp[K7s];refine Ka [2,3,4,6] 13 x.N.toNat (λi s h m'=>n0<=m'/\(∀id,id<n0->h id=h0 id)/\∃l,(∀d∈l,GD x.N.toNat m d)/\l.length<=60/\K7 Xa 3 n0 l (s 7) h m'/\Q4 i (x.N.toNat - i) l=F) (by unfold Jd;omega) (by simp) ⟨hn,hf,l0,hg0,hl0,by simpa using B0,by simpa using hF⟩ ?_ ?_
 ·rintro i st h1 m1 R hi hgi hk s13 hw ⟨hm1,hf1,l,hg,hl,B,hJ⟩ hR hrt _;simp at hk;have hiN:(i:Int)<x.N:=by omega
  refine Jn (Jq [2,3,4,6,7,13] (λs=>s 78 = .bool true) (by simp[hk,s13,s2,e0' hf1,hiN]) ?_);intro Jv hk1 s78;simp at hk1;refine U2 s78 (Jn (Xd ?_));have hl2:=Po (v:=i) (l:=l);have h60:l.length*l.length<=60*60:=Nat.mul_le_mul hl hl;refine Xu [2,3,4,6,13] (λs h' m'=>m1<=m'/\(∀id,id<m1->h' id=h1 id)/\K7 Xa 3 m1 (V9 i l) (s 7) h' m') ?_ ?_
  ·simp[hk1,s13];refine J2l hg hm hi hl (B.low (Nat.zero_le _)) ?_;intro a h' n' g1 g2 g3;simp;exact⟨g1,g2,g3⟩
  rintro st2 h2 m2 hk2 ⟨hm2,hf2,B2⟩;simp at hk2;have hf20:∀id,id<n0->h2 id=h0 id:=λid hid=>by rw[hf2 id (by omega),hf1 id hid]
  have hs:x.N.toNat - i=(x.N.toNat - (i+1))+1:=by omega
  rw[hs]at hJ;refine Jq [2,3,4,6,7,13] (λs=>s 86 = .bool (decide (60<(V9 i l).length))) ?_ ?_
  ·simp;refine Gq B2 (by unfold Jd;omega) ?_;simp;omega
  intro Kq hk3 s86;simp at hk3;by_cases h6:(V9 i l).length<=60
  ·rw[Jaf h6]at hJ;have h6':¬60<(V9 i l).length:=by omega
   simp[s86,h6',hk3,hk2,hk1,s13,hw];exact hR _ _ _ (by simp[hk3,hk2,hk1,hk]) (by simp) ⟨by omega,hf20,_,J5f hg,h6,by simpa[hk3]using B2.low hm1,hJ⟩
  ·rw[Jb3 h6]at hJ;have h6':60<(V9 i l).length:=by omega
   have x4:h2 2=some ⟨true,2,[[.int .i64 0,.nil 1]]⟩:=by rw[hf20 2 hn0,e2]
   simp[s86,h6',hk3,hk2,hk1,hk,s4,x4];refine hrt _ _ _ (hret hJ.symm _ _ _ (by simp[hk3,hk2,hk1,hk,s4]) (by simp) (by simp))
 ·rintro st h1 m1 R hk s13 ⟨hm1,hf1,l,hg,hl,B,hJ⟩ hrt hX;simp at hk;rw[Nat.sub_self]at hJ;simp only[Q4]at hJ;have hiN:¬((x.N.toNat:Nat):Int)<x.N:=by omega
  refine Jn (Jq [2,3,4,6,7] (λs=>s 78 = .bool false) (by simp[hk,s13,s2,e0' hf1];omega) ?_);intro Jv hk1 s78;simp at hk1;refine U1 s78 ?_;refine hX _ _ _ _ ?_;simp;exact hK _ _ _ l (by simp[hk1,hk]) hm1 hf1 hJ.symm hl (by simpa[hk1]using B)
theorem Jsx{L:List Ke}{v:AV}{i lo:Nat}(B:K7 Xa 3 lo L v h n)(hi:i<L.length)(h20:L[i].mult.length<=20)(s7:s 7=v)(s14:s 14 = .int .i64 i)(s6:s 6 = .int .i64 L[i].mult.length)
 (hK:∀s' h' n' k q,(∀j∈[2,3,4,6,7,14],s' j=s j)->n<=n'->(∀id,id<n->h' id=h id)->s' 15 = .ptr k 0 0->n<=k->k<n'->n<=q->q<n'->¬k=q->h' k=some ⟨true,2,[[.int .i64 L[i].scale,.ref q 0 L[i].mult.length]]⟩->h' q=some ⟨false,1,Ji L[i].mult⟩->Jt prog ks .normal s' h' n' Q):rC prog skh ks s h n Q:=by
 have fr:∀id,id<n->¬id=n/\¬id=n+1/\¬id=n+1+1:=by intro id _;omega
 have ne:¬n=n+1/\¬n+1=n/\¬n=n+1+1/\¬n+1+1=n/\¬n+1=n+1+1/\¬n+1+1=n+1:=by omega
 rcases B with ⟨_,rfl⟩|⟨id,rows,_,hid,rfl,e,hl,hx⟩
 ·simp at hi
 obtain⟨r,g1,v1,v2,rfl,_,g2⟩:=hx i L[i] (List.getElem?_eq_getElem hi);have hir:i<rows.length:=by omega
 rw[List.getElem?_eq_getElem hir]at g1;have hr:=Option.some.inj g1;rcases g2 with ⟨_,hz⟩|⟨im,him,rfl,eim⟩
 ·simp at hz
 generalize hmu:L[i].mult=mu at *;generalize hsc:L[i].scale=sc at *;have f1:=fr id hid;have f2:=fr im him;have hii:¬im=id:=by rintro rfl;rw[e]at eim;simp at eim
 have hlt:(mu.length:Int)<(mu.length:Int)+1:=by omega
 have ht:List.take mu.length (Ji (mu++[sc]))=Ji mu:=by simp[Ji]
 have hii2:¬id=im:=λe=>hii e.symm
 have f3:¬n=im/\¬n+1=im/\¬n+1+1=im:=by omega
 have hl8:mu.length*8<=Jd:=by unfold Jd;omega
 have hl9:(mu.length:Int)<=(mu.length:Int)+1:=by omega
 have hfr:∀j,(if j=im then some (⟨false,1,Ji (mu++[sc])⟩:Yi)else h j)=h j:=λj=>by
  by_cases hj:j=im
  ·subst hj;simp[eim]
  ·simp[hj]
 simp[skh,s7,s14,s6,e,hi,hir,hr,eim,U0,hlt,f1,f2,f3,hii2,ht,ne,hl8,hl9];refine⟨⟨?_,?_⟩,?_⟩
 ·exact hK _ _ _ (n+1+1) (n+1) (by simp[s7,s14,s6]) (by omega) (λj hj=>by simp[fr j hj,hfr j]) (by simp) (by omega) (by omega) (by omega) (by omega) (by omega) (by simp) (by simp)
 ·exact hK _ _ _ (n+1) (n+1+1) (by simp[s7,s14,s6]) (by omega) (λj hj=>by simp[fr j hj,hfr j]) (by simp) (by omega) (by omega) (by omega) (by omega) (by omega) (by simp) (by simp)
 ·exact hK _ _ _ n (n+1+1) (by simp[s7,s14,s6]) (by omega) (λj hj=>by simp[fr j hj,hfr j]) (by simp) (by omega) (by omega) (by omega) (by omega) (by omega) (by simp) (by simp[ne])
theorem Jhl{x:Xx}{t:Jc}{L:List Ke}{n0:Nat}(hgL:∀d∈L,d.mult.length=x.Rows.length)(hm:x.Rows.length<=20)(hL:L.length<=60)(hn0:2<n0)(hn:n0<=n)(s2:s 2 = .ptr 0 0 0)(s3:s 3 = .ptr 1 0 0)(s4:s 4 = .ptr 2 0 0)(s6:s 6 = .int .i64 x.Rows.length)(e0:h 0=some ⟨true,2,[Ky x]⟩)(e1:h 1=some ⟨true,2,[Jb t]⟩)(e2:h 2=some ⟨true,2,[[.int .i64 0,.nil 1]]⟩)(B0:K7 Xa 3 n0 L (s 7) h n)
 (hret:∀s' h' n',Dn (Q1 x t L) s' h' n'->Jt prog ks .ret s' h' n' Q)
 (hK:∀s' h' n',Q1 x t L=Option.none->s' 4 = .ptr 2 0 0->h' 2=some ⟨true,2,[[.int .i64 0,.nil 1]]⟩->Jt prog ks .normal s' h' n' Q):rC prog K4t ks s h n Q:=by
 simp[K4t];refine Ka [2,3,4,6,7] 14 L.length (λi s h' m=>h'=h/\m=n/\Q1 x t (L.drop i)=Q1 x t L) (by unfold Jd;omega) (by simp) ⟨rfl,rfl,by simp⟩ ?_ ?_
 ·rintro i st h1 m1 R hi hgi hk s14 hw ⟨rfl,rfl,hJ⟩ hR hrt _;simp at hk;rw[drop_eq_getElem_cons hi]at hJ;have hmi:=hgL _ (List.getElem_mem hi);refine Jn (Jq [2,3,4,6,7,14] (λs=>s 91 = .bool true) ?_ ?_)
  ·simp[hk,s14];refine Gq B0 (by unfold Jd;omega) ?_;simp[hk,s14,hi]
  intro Jv hk1 s91;simp at hk1;refine U2 s91 (Jn (Xd ?_));refine Jq [2,3,4,6,7,14] (λs=>s 100 = .bool (decide ((L[i]).l.Const<0))) ?_ ?_
  ·simp[skg,hk1,hk,s14];refine Dx B0 hi ?_;intro id rows r hid e hl hr hD;obtain⟨v1,v2,rfl,g1,g2⟩:=hD;simp[e,hl,hr]
  intro st2 hk2 s100;simp at hk2;by_cases hc:(L[i]).l.Const<0
  ·have hfind:Q1 x t (L[i]::L.drop (i+1))=if I6 x t ⟨L[i].scale,L[i].mult⟩then some ⟨L[i].scale,L[i].mult⟩else Option.none:=by
    unfold Q1;rw[List.find?_cons,decide_eq_true hc]
   rw[hfind]at hJ;simp[s100,hc,ski];refine Jsx B0 hi (by rw[hmi];exact hm) (by simp[hk2,hk1,hk]) (by simp[hk2,hk1,s14]) (by rw[hk2.2.2.2.1,hk1.2.2.2.1,hk.2.2.2.1,s6,hmi]) ?_;intro Kq h3 m3 k q hk3 hm3 hf3 s15 hk15 hkm hq hqm hkq ek eq;simp at hk3;have e0':h3 0=some ⟨true,2,[Ky x]⟩:=by rw[hf3 0 (by omega),e0]
   have e1':h3 1=some ⟨true,2,[Jb t]⟩:=by rw[hf3 1 (by omega),e1]
   have e2':h3 2=some ⟨true,2,[[.int .i64 0,.nil 1]]⟩:=by rw[hf3 2 (by omega),e2]
   have y2:Kq 2 = .ptr 0 0 0:=by rw[hk3.1,hk2.1,hk1.1,hk.1,s2]
   have y3:Kq 3 = .ptr 1 0 0:=by rw[hk3.2.1,hk2.2.1,hk1.2.1,hk.2.1,s3]
   have y4:Kq 4 = .ptr 2 0 0:=by rw[hk3.2.2.1,hk2.2.2.1,hk1.2.2.1,hk.2.2.1,s4]
   have n2:¬k=2:=by omega
   have hb:∀H:J8,H q=some ⟨false,1,Ji L[i].mult⟩->bw (.ref q 0 L[i].mult.length) H=some (.sl 1 (Ji L[i].mult)):=λH hH=>by simp[hH]
   simp[y2,y3,s15,e0',e1',ek,Ky,Jb];refine Je (J4c x t ⟨L[i].scale,L[i].mult⟩) ?_ ?_
   ·simp only[U5,bw];simp[eq,Ky,Jb,Uu]
   rintro r rfl;cases hch:I6 x t ⟨L[i].scale,L[i].mult⟩
   ·rw[hch]at hJ;simp[y4,e2'];refine hrt _ _ _ (hret _ _ _ ?_);rw[<-hJ];exact Dn.no (by simp[y4]) (by simp) (by simp)
   ·rw[hch]at hJ;simp[y4,e2',s15,ek];refine hrt _ _ _ (hret _ _ _ ?_);rw[<-hJ];refine⟨by simp[y4],by simp,.ref q 0 L[i].mult.length,by simp,.inr ⟨q,hqm,rfl,?_⟩⟩;have:¬q=2:=by omega
    simp[this,eq]
  ·have hfind:Q1 x t (L[i]::L.drop (i+1))=Q1 x t (L.drop (i+1)):=by
    unfold Q1;rw[List.find?_cons,decide_eq_false hc]
   rw[hfind]at hJ;simp[s100,hc,hk2,hk1,s14,hw];exact hR _ _ _ (by simp[hk2,hk1,hk]) (by simp) ⟨rfl,rfl,hJ⟩
 ·rintro st h1 m1 R hk s14 ⟨rfl,rfl,hJ⟩ hrt hX;simp at hk;rw[drop_eq_nil_of_le (by omega)]at hJ;refine Jn (Jq [2,3,4] (λs=>s 91 = .bool false) ?_ ?_)
  ·simp[hk,s14];refine Gq B0 (by unfold Jd;omega) ?_;simp[hk]
  intro Jv hk1 s91;simp at hk1;refine U1 s91 ?_;refine hX _ _ _ _ ?_;simp;exact hK _ _ _ hJ.symm (by simp[hk1,hk,s4]) e2
end
theorem J10(x:Xx)(t:Jc):Holds prog 170 [.agg (Ky x),.agg (Jb t)] (λr=>r=Iy (Oi x t)):=by
 refine Jp func170 Jmt rfl (by simp[K8g]) ?_;simp[K8g,sk0,sk1];refine Je (J08 x) (by simp) ?_;rintro r rfl;generalize hF:Oi x t=F;cases h1:Q3 x
 ·have:=Ri (x:=x) (t:=t) (by rw[h1];rfl);rw[this]at hF;subst hF;simp[Iy,Gk,Ye,Ji]
 simp[Ky];refine Je (Gj t x.N) (by simp) ?_;rintro r rfl;cases h2:K8 t x.N
 ·have:=Ri (x:=x) (t:=t) (by rw[h1,h2];rfl);rw[this]at hF;subst hF;simp[Iy,Gk,Ye,Ji]
 have hsys:=Nb h1;simp[sk2,sk3];intro _;refine Jro (x:=x) (n0:=3) (h0:=upd (upd (upd Ot 0 (some ⟨true,2,[Ky x]⟩)) 1 (some ⟨true,2,[Jb t]⟩)) 2 (some ⟨true,2,[[.int .i64 0,.nil 1]]⟩)) hsys.1 (by simp) (by simp) (by simp) (by omega) (by omega) ?_ ?_ ?_
 ·intro id hid;have:¬id=3:=by omega
  simp[this,Ky,Jb]
 ·exact .inr ⟨3,[],Nat.le_refl _,by omega,by simp,by simp,rfl,by simp⟩
 intro s4 h4 n4 hk4 hn4 hf4 B4;simp at hk4;simp;have z0:h4 0=some ⟨true,2,[Ky x]⟩:=by rw[hf4 0 (by omega)];simp
 have z1:h4 1=some ⟨true,2,[Jb t]⟩:=by rw[hf4 1 (by omega)];simp
 have z2:h4 2=some ⟨true,2,[[.int .i64 0,.nil 1]]⟩:=by rw[hf4 2 (by omega)];simp
 refine Job (x:=x) (t:=t) (by simp[hk4]) (by simp[hk4]) z0 z1 ?_;intro s5 h5 n5 k10 q10 hk5 hn5 hf5 s11 s10 L5;simp at hk5;simp;have B5:K7 Xa 3 3 (Ww x.Rows) (s4 7) h5 n5:=K7.keep (R:=Xa) (λ_ _ _ _ _ _=>Xa.keep) B4 hn5 (Ko.of hf5) λid rows _ hid _ e=>by rw[hf5 id hid,e]
 have y0:h5 0=some ⟨true,2,[Ky x]⟩:=by rw[hf5 0 (by omega),z0]
 have y1:h5 1=some ⟨true,2,[Jb t]⟩:=by rw[hf5 1 (by omega),z1]
 have y2:h5 2=some ⟨true,2,[[.int .i64 0,.nil 1]]⟩:=by rw[hf5 2 (by omega),z2]
 cases hT:K9 (Jr (-1) x.N) (-1) t with
 |none=>
  rw[Jdl hT]at hF;subst hF
  simp[sk6,s11,hT,hk5,hk4,y2,Iy,Gk,Ye,Ji]
 |some last=>
  rw[Jdy (by rw[h1,h2];rfl) hT]at hF;rw[hT]at s11 L5;simp only[Option.getD_some]at L5;simp[sk6,s11];rw[<-Eo];refine Jfn (x:=x) (last:=last) (acc:=Ww x.Rows) (lo:=3) hsys.1 (by simp[hk5,hk4]) (by simp[s10]) L5 (by omega) (by simpa[hk5]using B5) (by simp[Ww];omega) ?_;intro s6 h6 n6 hk6 hn6 hf6 B6;simp at hk6;rw[Eo]
  have hne:∀id,id<3->∀k,s5 7 ≠ .ref id 0 k:=λid hid k e=>by have:=B4.from id k (by rw[<-hk5.2.2.2.2];exact e);omega
  have hf60:∀id,id<3->h6 id=h4 id:=λid hid=>by rw[hf6 id (by omega) (by simpa using hne id hid),hf5 id (by omega)]
  rw[show Ww x.Rows++[⟨last,List.replicate x.Rows.length 0,1⟩]=Hr x.Rows last from rfl]at B6;refine Jj7 (x:=x) (n0:=3) (h0:=h4) (F:=Q4 0 x.N.toNat (Hr x.Rows last)) hsys.1 hsys.2.1 (by simp[hk6,hk5,hk4]) (by simp[hk6,hk5,hk4]) z0 z2 (by omega) (by omega) hf60 (Sy h1 hT) (by rw[J4n];omega) B6 rfl ?_ ?_
  ·intro hn s' h' n' x4 x5 x2;rw[hn]at hF;simp at hF;subst hF;simp only[T7,Sj];exact(Dn.no (n:=n') x4 x5 x2).fin
  ·intro s7' h7 n7 L hk7 hn7 hf7 hL hLl B7;have hgd:=Jd5 (Sy h1 hT) hL;rw[hL]at hF;simp only[Option.bind_some]at hF;simp at hk7;simp;refine Jhl (x:=x) (t:=t) (n0:=3) (λd hd=>(hgd d hd).len) hsys.1 hLl (by omega) hn7 (by simp[hk7,hk6,hk5,hk4]) (by simp[hk7,hk6,hk5,hk4]) (by simp[hk7,hk6,hk5,hk4]) (by simp[hk7,hk6,hk5,hk4]) (by rw[hf7 0 (by omega),z0]) (by rw[hf7 1 (by omega),z1]) (by rw[hf7 2 (by omega),z2]) B7 ?_ ?_
   ·intro s' h' n' hr;rw[hF]at hr;simp only[T7,Sj];exact hr.fin
   ·intro s' h' n' hno x4 x2;rw[hno]at hF;subst hF;simp[Kcb,x4,x2,Iy,Gk,Ye,Ji]
def a131:Jl:= ⟨31,[.t 2,.t 3],(Zq [Zz 2 2,Zt 3 false] (Zq [Zz 4 2] (.seq (Zq [Zv 9 0,Zn 10 9,Zi 11 0] (.blk 0 (.loop (Zq [Zb 12 .lss 11 10] (.seq (Zw 12 0) (.seq (.blk 1 (Zq [Zx 13 4 9 11,Zl 14 true 4 13,Zo 6 (.box [(.int .i64 0),(.nil 2),(.int .i64 0),(.nil 1)]),Zs 4 6 14] (Zq [Zf 16 0 6,Zl 17 true 2 16,Zf 18 2 6,Zl 19 true 2 18,Zc 20 210 [.t 17,.t 19],Zv 15 20,Ze 21 15 0,Ze 22 15 1,ZR 7,Zs 2 7 21,Zv 8 22] (.seq (Zq [Zv 23 8,ZN 24 23] (.cond (.t 24) (Zq [Zz 2 2,Zt 3 false] .ret) .skip)) (.reg [Zv 25 4,Zl 26 true 2 7,ZS 27 2 26,ZA 28 32 2 25 27,Zv 4 28]))))) (.reg [Zk 29 .add 11 1,Zv 11 29]))))))) (Zq [Zv 30 4,Zv 2 30,Zt 3 true] .ret))))⟩
theorem Jru:Jh prog f131=some a131:=by kernel_rfl
def a91:Jl:= ⟨37,[.t 2,.t 3],(Zq [Zz 2 2,Zt 3 false] (Zq [Zo 8 (.bsl 2 []),Zv 4 8] (.seq (Zq [Zi 5 0] (.blk 0 (.loop (.seq (Zq [Zv 9 5,Zv 10 0,Zn 11 10,Zb 12 .lss 9 11] (Zw 12 0)) (.seq (.blk 1 (.seq (.draw (.op (Zv 16 0) (.op (Zv 17 5) (.op (Zx 18 4 16 17) (.op (Zf 19 0 18) (.op (Zl 20 true 2 19) (.op (Zv 21 0) (.op (Zv 22 5) (.op (Zx 23 4 21 22) (.op (Zf 24 2 23) (.op (Zl 25 true 2 24) (.both (.op (Zc 26 170 [.t 20,.t 25]) (.op (Zv 15 26) (.op (Ze 27 15 0) (.op (Ze 28 15 1) (.op (ZR 6) (.hop (Zs 2 6 27) [] (.op (Zv 7 28) .fin))))))) (.op (ZR 6) (.op (Zc 26 170 [.t 20,.t 25]) (.op (Zv 15 26) (.op (Ze 27 15 0) (.op (Ze 28 15 1) (.hop (Zs 2 6 27) [] (.op (Zv 7 28) .fin))))))))))))))))))) (.seq (Zq [Zv 29 7,ZN 30 29] (.cond (.t 30) (Zq [Zo 31 (.bsl 2 []),Zv 2 31,Zt 3 false] .ret) .skip)) (.reg [Zv 32 4,Zl 33 true 2 6,ZS 34 2 33,ZA 35 32 2 32 34,Zv 4 35])))) (.reg [Zv 13 5,Zk 14 .add 13 1,Zv 5 14])))))) (Zq [Zv 36 4,Zv 2 36,Zt 3 true] .ret))))⟩
theorem Jyd:Jh prog f91=some a91:=by kernel_rfl
theorem Jbu(os:List X1)(hol:os.length<=3000000):Holds prog 131 [.sl 4 (os.map Wr)] (λr=>r=Eu (Be os)):=by
 refine Jp func131 Jru rfl (by simp[a131]) ?_;simp[a131];intro _;generalize hF:Be os=F;refine Ka [9,10] 11 os.length (λi s h m=>∃acc,acc.length=i/\Kj 0 2 (acc.map Ye) (s 4) h m/\Hx acc (os.drop i)=F) (by unfold Jd;omega) (by simp) ⟨[],rfl,.inl ⟨rfl,by simp⟩,by simpa[Be]using hF⟩ ?_ ?_
 ·rintro i st h m R hi hg hk s11 hw ⟨acc,hal,B,hJ⟩ hR hret _;simp at hk;rw[drop_eq_getElem_cons hi]at hJ;simp only[Hx]at hJ;refine Jq [4,9,10,11] (λs=>s 12 = .bool true) (by simp[hk,s11,hi]) ?_;intro Jv hk1 s12;simp at hk1;refine W3 s12 (Jn (Xd ?_));have fr:∀id,id<m->¬id=m/\¬id=m+1/\¬id=m+1+1/\¬id=m+1+1+1:=by intro id _;omega
  have ne:¬m=m+1/\¬m+1=m/\¬m=m+1+1/\¬m+1+1=m/\¬m+1=m+1+1/\¬m+1+1=m+1/\¬m+1=m+1+1+1/\¬m=m+1+1+1/\¬m+1+1=m+1+1+1:=by omega
  simp[hk1,hk,s11,hi,Wr];refine Je (J7q (os[i]'hi).System (os[i]'hi).Target) (by simp[Ky,Jb]) ?_;rintro r rfl;unfold Iy
  cases hf:Oi (os[i]).System (os[i]).Target with
  |none=>
   rw[hf]at hJ;simp only at hJ;simp[Gk,Ye];refine hret _ _ _ ?_
   simp[<-hJ,Eu]
  |some f=>
   rw[hf]at hJ;simp only at hJ;simp[Ye,hk1];refine Q7 (rows:=acc.map Ye) (rows2:=[[.int .i64 f.Scale,.us 1 (Ji f.Mult)]]) (B.keep (n':=m+1+1+1+1) (by omega) λid _ hid e=>by simp[fr id hid]) (by simp) (λl e=>by have:=(B.lt e).2.1;omega) (by omega) (by simp;unfold Jd;omega) ?_;intro h1 f1 f2;simp[hk1,s11,hw];refine hR _ _ _ (by simp[hk1,hk]) (by simp) ⟨acc++[f],by simp[hal],?_,hJ⟩;simp;exact .inr ⟨m+1+1+1+1,by omega,by omega,by simp,by simp[f1,Ye]⟩
 ·rintro st h m R hk s11 ⟨acc,hal,B,hJ⟩ hret hX;simp at hk;rw[drop_eq_nil_of_le (by omega)]at hJ;simp only[Hx]at hJ;refine Jq [4] (λs=>s 12 = .bool false) (by simp[hk,s11]) ?_;intro Jv hk1 s12;simp at hk1;refine Uv s12 ?_;refine hX _ _ _ _ ?_;obtain⟨h',hd,_⟩:=B.dt;rw[<-hJ];simp[hk1,hd,Eu]
theorem J9z(os:List X1)(hol:os.length<=3000000):Holds prog 91 [.sl 4 (os.map Wr)] (λr=>r=Eu (Be os)):=by
 refine Jp func91 Jyd rfl (by simp[a91]) ?_;simp[a91];generalize hF:Be os=F;refine Ka [0] 5 os.length (λi s h m=>∃acc,acc.length=i/\(∃id,id<m/\s 4 = .ref id 0 acc.length/\h id=some ⟨false,2,acc.map Ye⟩)/\Hx acc (os.drop i)=F) (by unfold Jd;omega) (by simp) ⟨[],rfl,⟨0,by simp,by simp,by simp⟩,by simpa[Be]using hF⟩ ?_ ?_
 ·rintro i st h m R hi hg hk s5 hw ⟨acc,hal,⟨id,hid,s4,eid⟩,hJ⟩ hR hret _;simp at hk;rw[drop_eq_getElem_cons hi]at hJ;simp only[Hx]at hJ;refine Jn (Jq [0,4,5] (λs=>s 12 = .bool true) (by simp[hk,s5,hi];try(intro _;exact hi)) ?_);intro Jv hk1 s12;simp at hk1;refine U2 s12 (Jn (Xd ?_));have ne:¬m=m+1/\¬m+1=m/\¬m=m+1+1/\¬m+1+1=m/\¬m+1=m+1+1/\¬m+1+1=m+1/\¬id=m/\¬id=m+1/\¬id=m+1+1/\¬m=id/\¬m+1=id/\¬m+1+1=id:=by omega
  have ht:List.take acc.length (acc.map Ye)=acc.map Ye:=take_of_length_le (by simp)
  cases hf:Oi (os[i]).System (os[i]).Target with
  |none=>
   rw[hf]at hJ;simp only at hJ;simp[hk1,hk,s5,hi,Wr];refine⟨?_,?_⟩
   all_goals
    first|refine Jx (J10 (os[i]'hi).System (os[i]'hi).Target) (by simp[Ky,Jb]) ?_
    rintro r rfl;unfold Iy;simp[hf,Gk,Ye];refine hret _ _ _ ?_
    simp[<-hJ,Eu]
  |some f=>
   rw[hf]at hJ;simp only at hJ;simp[hk1,hk,s5,hi,Wr];refine⟨?_,?_⟩
   all_goals
    first|refine Jx (J10 (os[i]'hi).System (os[i]'hi).Target) (by simp[Ky,Jb]) ?_
    rintro r rfl;unfold Iy;simp[hf,Ye,hk1,s5,hw,ne,s4,eid,ht];refine⟨by unfold Jd;omega,?_⟩;refine hR _ _ _ (by simp[hk1,hk]) (by simp) ⟨acc++[f],by simp[hal],⟨m+1+1+1,by omega,by simp,by simp[Ye]⟩,hJ⟩
 ·rintro st h m R hk s5 ⟨acc,hal,⟨id,hid,s4,eid⟩,hJ⟩ hret hX;simp at hk;rw[drop_eq_nil_of_le (by omega)]at hJ;simp only[Hx]at hJ;have ht:List.take acc.length (acc.map Ye)=acc.map Ye:=take_of_length_le (by simp);refine Jn (Jq [4] (λs=>s 12 = .bool false) (by simp[hk,s5]) ?_);intro Jv hk1 s12;simp at hk1;refine U1 s12 ?_;refine hX _ _ _ _ ?_;rw[<-hJ];simp[hk1,s4,eid,ht,Eu]
def a80:Jl:= ⟨12,[.t 4],(Zq [Zi 4 0] (Zq [Zv 5 1,Zv 6 0,Zn 7 6,Zb 8 .sub 5 7,Zv 1 8] (.seq (Zq [Zv 9 1,Zk 10 .lss 9 0] (.cond (.t 10) (Zq [Zi 4 (-1)] .ret) .skip)) (Zq [Zv 11 1,Zv 4 11] .ret))))⟩
theorem Jyk:Jh prog f80=some a80:=by kernel_rfl
def a83:Jl:= ⟨22,[.t 2],(Zq [Zz 2 1] (Zq [Zv 5 0,Zn 6 5,Zo 7 (.mks 8 [(.int .i64 0)] (.t 6) (.t 6)),Zv 3 7] (.seq (Zq [Zi 4 0] (.blk 0 (.loop (.seq (Zq [Zv 8 4,Zv 9 0,Zn 10 9,Zb 11 .lss 8 10] (Zw 11 0)) (.seq (.blk 1 (.reg [Zv 14 3,Zv 15 4,Zv 16 0,Zv 17 4,Zx 18 1 16 17,Zl 19 false 1 18,Zx 20 1 14 15,Zs 1 20 19])) (.reg [Zv 12 4,Zk 13 .add 12 1,Zv 4 13])))))) (Zq [Zv 21 3,Zv 2 21] .ret))))⟩
theorem Jy2:Jh prog f83=some a83:=by kernel_rfl
def Ts:Jl:= ⟨26,[.t 4],(Zq [Zt 4 false] (.seq (Zq [Zv 6 0,Zn 7 6,Zv 8 1,Zn 9 8,Zb 10 .neq 7 9] (.cond (.t 10) (Zq [Zt 4 false] .ret) .skip)) (.seq (Zq [Zi 5 0] (.blk 0 (.loop (.seq (Zq [Zv 11 5,Zv 12 0,Zn 13 12,Zb 14 .lss 11 13] (Zw 14 0)) (.seq (.blk 1 (.seq (.draw (.op (Zv 17 0) (.op (Zv 18 5) (.op (Zx 19 1 17 18) (.op (Zl 20 false 1 19) (.op (Zv 21 1) (.op (Zv 22 5) (.op (Zx 23 1 21 22) (.op (Zl 24 false 1 23) (.op (Zb 25 .neq 20 24) .fin)))))))))) (.cond (.t 25) (Zq [Zt 4 false] .ret) .skip))) (.reg [Zv 15 5,Zk 16 .add 15 1,Zv 5 16])))))) (Zq [Zt 4 true] .ret))))⟩
theorem Jz4:Jh prog f87=some Ts:=by kernel_rfl
def K5e:Jl:= ⟨28,[.t 4],(Zq [Zi 4 0] (Zq [Zv 6 1,Zv 7 0,Zn 8 7,Zb 9 .sub 6 8,Zv 1 9] (.seq (Zq [Zv 10 1,Zk 11 .lss 10 0] (.cond (.t 11) (Zq [Zi 4 (-1)] .ret) .skip)) (.seq (Zq [Zi 5 0] (.blk 0 (.loop (.seq (Zq [Zv 12 5,Zv 13 0,Zn 14 13,Zb 15 .lss 12 14] (Zw 15 0)) (.seq (.blk 1 (Zq [Zv 18 1,Zv 19 0,Zv 20 5,Zx 21 1 19 20,Zl 22 false 1 21,Zo 23 (.len true (.t 22)),Zb 24 .sub 18 23,Zv 1 24] (Zq [Zv 25 1,Zk 26 .lss 25 0] (.cond (.t 26) (Zq [Zi 4 (-1)] .ret) .skip)))) (.reg [Zv 16 5,Zk 17 .add 16 1,Zv 5 17])))))) (Zq [Zv 27 1,Zv 4 27] .ret)))))⟩
theorem Jsa:Jh prog f211=some K5e:=by kernel_rfl
def K4j:Jl:= ⟨22,[.t 2],(Zq [Zz 2 1] (Zq [Zv 5 0,Zn 6 5,Zo 7 (.mks 16 [(.str [])] (.t 6) (.t 6)),Zv 3 7] (.seq (Zq [Zi 4 0] (.blk 0 (.loop (.seq (Zq [Zv 8 4,Zv 9 0,Zn 10 9,Zb 11 .lss 8 10] (Zw 11 0)) (.seq (.blk 1 (.reg [Zv 14 3,Zv 15 4,Zv 16 0,Zv 17 4,Zx 18 1 16 17,Zl 19 false 1 18,Zx 20 1 14 15,Zs 1 20 19])) (.reg [Zv 12 4,Zk 13 .add 12 1,Zv 4 13])))))) (Zq [Zv 21 3,Zv 2 21] .ret))))⟩
theorem Jtr:Jh prog f225=some K4j:=by kernel_rfl
def a73:Jl:= ⟨26,[.t 4],(Zq [Zt 4 false] (.seq (Zq [Zv 6 0,Zn 7 6,Zv 8 1,Zn 9 8,Zb 10 .neq 7 9] (.cond (.t 10) (Zq [Zt 4 false] .ret) .skip)) (.seq (Zq [Zi 5 0] (.blk 0 (.loop (.seq (Zq [Zv 11 5,Zv 12 0,Zn 13 12,Zb 14 .lss 11 13] (Zw 14 0)) (.seq (.blk 1 (.seq (.draw (.op (Zv 17 0) (.op (Zv 18 5) (.op (Zx 19 1 17 18) (.op (Zl 20 false 1 19) (.op (Zv 21 1) (.op (Zv 22 5) (.op (Zx 23 1 21 22) (.op (Zl 24 false 1 23) (.op (Zb 25 .neq 20 24) .fin)))))))))) (.cond (.t 25) (Zq [Zt 4 false] .ret) .skip))) (.reg [Zv 15 5,Zk 16 .add 15 1,Zv 5 16])))))) (Zq [Zt 4 true] .ret))))⟩
theorem Jx9:Jh prog f73=some a73:=by kernel_rfl
def a21:Jl:= ⟨12,[.t 4],(Zq [ZB 2 0,Zi 4 0] (Zq [Zf 5 1 2,Zl 6 false 1 5,Zv 7 1,Zc 8 80 [.t 6,.t 7],Zv 1 8] (.seq (Zq [Zv 9 1,Zk 10 .lss 9 0] (.cond (.t 10) (Zq [Zi 4 (-1)] .ret) .skip)) (Zq [Zv 11 1,Zv 4 11] .ret))))⟩
theorem Jxp:Jh prog f21=some a21:=by kernel_rfl
def a23:Jl:= ⟨12,[(.c 2 true 2)],(Zq [ZB 1 0,ZR 2] (Zq [ZR 3] (Zq [Zf 4 0 1,Zl 5 false 1 4,Zf 6 0 3,Zs 1 6 5] (Zq [Zf 7 1 1,Zl 8 false 1 7,Zc 9 83 [.t 8],Zf 10 1 3,Zs 1 10 9] (Zq [Zl 11 true 2 3,Zs 2 2 11] .ret)))))⟩
theorem Jy3:Jh prog f23=some a23:=by kernel_rfl
def a25:Jl:= ⟨16,[.t 4],(Zq [ZB 2 0,ZB 3 1,Zt 4 false] (.seq (Zq [Zf 5 0 2,Zl 6 false 1 5,Zf 7 0 3,Zl 8 false 1 7,Zb 9 .neq 6 8] (.cond (.t 9) (Zq [Zt 4 false] .ret) .skip)) (.seq (Zq [Zf 10 1 2,Zl 11 false 1 10,Zf 12 1 3,Zl 13 false 1 12,Zc 14 87 [.t 11,.t 13],ZN 15 14] (.cond (.t 15) (Zq [Zt 4 false] .ret) .skip)) (Zq [Zt 4 true] .ret))))⟩
theorem Jxy:Jh prog f25=some a25:=by kernel_rfl
def K7g:Jl:= ⟨16,[.t 4],(Zq [ZB 2 0,ZB 3 1,Zt 4 false] (.seq (Zq [Zf 5 0 2,Zl 6 false 1 5,Zf 7 0 3,Zl 8 false 1 7,Zb 9 .neq 6 8] (.cond (.t 9) (Zq [Zt 4 false] .ret) .skip)) (.seq (Zq [Zf 10 1 2,Zl 11 false 1 10,Zf 12 1 3,Zl 13 false 1 12,Zc 14 87 [.t 11,.t 13],ZN 15 14] (.cond (.t 15) (Zq [Zt 4 false] .ret) .skip)) (Zq [Zt 4 true] .ret))))⟩
theorem Jtv:Jh prog f116=some K7g:=by kernel_rfl
theorem Jbo(l:List Int)(left:Int)(h0:0<=left/\left<=4611686018427387904):Holds prog 80 [.sl 1 (Ji l),i64 left] (λr=>r=i64 (Kw left (Dk l))):=by refine Jp func80 Jyk rfl (by simp[a80]) ?_;simp[a80];unfold Jd;intro h1;rw[Km (by omega)];unfold Kw Dk;exact⟨λh=>by rw[if_pos h],λh=>by rw[if_neg (by omega)]⟩
theorem Jb8(a:List Int)(hw:Dk a<=1048576):Holds prog 83 [.sl 1 (Ji a)] (λr=>r = .us 1 (Ji a)):=by
 unfold Dk at hw;refine Jp func83 Jy2 rfl (by simp[a83]) ?_;simp[a83];intro h1
 refine⟨by unfold Jd;omega,O0 (λk s h n=>∃(i:Nat) (rows:List (List AV)),k=a.length - i/\i<=a.length/\s 0=No a/\s 3 = .ref 0 0 a.length/\s 4=i64 i/\h=upd Ot 0 (some ⟨false,1,rows⟩)/\n=1 /\
  rows.length=a.length/\(∀j,j<i->rows[j]? = (Ji a)[j]?)/\(∀j (hj:j<rows.length),rows[j].length=1)) a.length ⟨0,List.replicate a.length [i64 0],by simp⟩ ?_⟩
 rintro k s h n ⟨i,rows,rfl,hi,s0,s3,s4,rfl,rfl,hr,hj,hc⟩;by_cases hlt:i<a.length
 ·have hm:=hc i (by omega);have htl:rows[i].tail=[]:=List.eq_nil_of_length_eq_zero (by simp[hm]);simp[s0,s3,s4,hlt,hr,hm];intro _;refine⟨a.length - (i+1),by omega,i+1,rfl,by omega,by rw[Km (by omega)];rfl,rows.set i [i64 a[i]],by simp[htl],by simp[hr],λj hj'=>?_,λj hj'=>?_⟩
  ·rw[List.getElem?_set];by_cases hji:i=j
   ·subst hji;simp[hr,hlt]
   ·rw[if_neg hji];simpa using hj j (by omega)
  ·rw[List.getElem_set];split
   ·rfl
   ·exact hc j (by simpa using hj')
 ·simp[s0,s3,s4,hlt,hr];intro _
  have:rows=Ji a:=ext_getElem? λj=>by
   by_cases hji:j<i
   ·exact hj j hji
   ·rw[List.getElem?_eq_none (by omega),List.getElem?_eq_none (by simp;omega)]
  subst this;simp[take_of_length_le]
theorem J5y(a b:List Int):Holds prog 87 [.sl 1 (Ji a),.sl 1 (Ji b)] (λr=>r = .bool (decide (a=b))):=by
 refine Jp func87 Jz4 rfl (by simp[Ts]) ?_;simp[Ts];intro h1 h2;refine⟨λh e=>h (by rw[e]),λhl=>O0 (λk s h n=>∃i:Nat,k=a.length - i/\i<=a.length/\s 0=No a/\s 1=No b/\s 5=i64 i/\(∀j,j<i->a[j]? = b[j]?)/\h=Ot/\n=0) a.length ⟨0,by simp⟩ ?_⟩;rintro k s h n ⟨i,rfl,hi,s0,s1,s5,hj,rfl,rfl⟩;have hl:a.length=b.length:=by omega
 by_cases hlt:i<a.length
 ·have hlt':i<b.length:=by omega
  unfold Jd at h1;simp[s0,s1,s5,hlt,hlt'];intro _;refine⟨λh e=>h (by subst e;rfl),λe=>⟨a.length - (i+1),by omega,i+1,rfl,by omega,by rw[Km (by omega)];rfl,λj hj'=>?_⟩⟩;by_cases hji:j=i
  ·subst hji;simp[hlt,hlt',e]
  ·exact hj j (by omega)
 ·simp[s0,s1,s5,hlt];intro _;refine ext_getElem? λj=>?_
  by_cases hji:j<i
  ·exact hj j hji
  ·rw[List.getElem?_eq_none (by omega),List.getElem?_eq_none (by omega)]
theorem J9e(l:List J9)(left:Int)(h0:0<=left/\left<=4611686018427387904):Holds prog 211 [.sl 1 (Jf l),i64 left] (λr=>r=i64 (Kw left (It l))):=by
 rw[show It l=wL List.length l from rfl,<-Dc (w:=List.length) (g:=λx lf=>Kw lf x.length) (λ_ _ _=>rfl) l left h0.1];refine Jp func211 Jsa rfl (by simp[K5e]) ?_;simp[K5e];intro h1;unfold Jd at h1;unfold E8;rw[Km (by omega)];refine⟨λh=>by rw[if_pos (by omega)],λh=>O0 (λk s h n=>∃(i:Nat) (lf:Int),k=l.length - i/\i<=l.length/\s 0=strs l/\s 1=i64 lf/\s 5=i64 i/\0<=lf/\lf<=left/\Gg (λ(x:J9) lf=>Kw lf x.length) (l.drop i) lf=Gg (λ(x:J9) lf=>Kw lf x.length) l (left - l.length)/\h=Ot/\n=0) l.length ⟨0,left - l.length,by simp;omega⟩ ?_⟩;rintro k s h n ⟨i,lf,rfl,hi,s0,s1,s5,hf,hlf,hj,rfl,rfl⟩;rw[if_neg (by omega),<-hj];by_cases hlt:i<l.length
 ·rw[drop_eq_getElem_cons hlt]at hj⊢;simp only[Gg]at hj⊢;simp[s0,s1,s5,hlt];intro _ h2;unfold Jd at h2;rw[Km (by omega)];by_cases hx:lf - (l[i].length:Int)<0
  ·rw[Ti hx];simp;exact λh=>by omega
  ·rw[Jan hx]at hj⊢;rw[if_neg hx]at hj⊢;refine⟨λh=>by omega,λ_=>⟨l.length - (i+1),by omega,i+1,rfl,by omega,by rw[Km (by omega)];rfl,by omega,by omega,rfl⟩⟩
 ·rw[drop_eq_nil_of_le (by omega)]at hj⊢;simp[s0,s1,s5,hlt,Gg]
theorem J90(a:List J9)(hw:It a<=1048576):Holds prog 225 [.sl 1 (Jf a)] (λr=>r = .us 1 (Jf a)):=by
 have hw:=Nat.le_trans (Yn _ _) hw;refine Jp func225 Jtr rfl (by simp[K4j]) ?_;simp[K4j];intro h1
 refine⟨by unfold Jd;omega,O0 (λk s h n=>∃(i:Nat) (rows:List (List AV)),k=a.length - i/\i<=a.length/\s 0=strs a/\s 3 = .ref 0 0 a.length/\s 4=i64 i/\h=upd Ot 0 (some ⟨false,1,rows⟩)/\n=1 /\
  rows.length=a.length/\(∀j,j<i->rows[j]? = (Jf a)[j]?)/\(∀j (hj:j<rows.length),rows[j].length=1)) a.length ⟨0,List.replicate a.length [.str []],by simp⟩ ?_⟩
 rintro k s h n ⟨i,rows,rfl,hi,s0,s3,s4,rfl,rfl,hr,hj,hc⟩;by_cases hlt:i<a.length
 ·have hm:=hc i (by omega);have htl:rows[i].tail=[]:=List.eq_nil_of_length_eq_zero (by simp[hm]);simp[s0,s3,s4,hlt,hr,hm];intro _;refine⟨a.length - (i+1),by omega,i+1,rfl,by omega,by rw[Km (by omega)];rfl,rows.set i [.str a[i]],by simp[htl],by simp[hr],λj hj'=>?_,λj hj'=>?_⟩
  ·rw[List.getElem?_set];by_cases hji:i=j
   ·subst hji;simp[hr,hlt]
   ·rw[if_neg hji];simpa using hj j (by omega)
  ·rw[List.getElem_set];split
   ·rfl
   ·exact hc j (by simpa using hj')
 ·simp[s0,s3,s4,hlt,hr];intro _
  have:rows=Jf a:=ext_getElem? λj=>by
   by_cases hji:j<i
   ·exact hj j hji
   ·rw[List.getElem?_eq_none (by omega),List.getElem?_eq_none (by simp;omega)]
  subst this;simp[take_of_length_le]
theorem J94(a b:List J9):Holds prog 73 [.sl 1 (Jf a),.sl 1 (Jf b)] (λr=>r = .bool (decide (a=b))):=by
 refine Jp func73 Jx9 rfl (by simp[a73]) ?_;simp[a73];intro h1 h2;refine⟨λh e=>h (by rw[e]),λhl=>O0 (λk s h n=>∃i:Nat,k=a.length - i/\i<=a.length/\s 0=strs a/\s 1=strs b/\s 5=i64 i/\(∀j,j<i->a[j]? = b[j]?)/\h=Ot/\n=0) a.length ⟨0,by simp⟩ ?_⟩;rintro k s h n ⟨i,rfl,hi,s0,s1,s5,hj,rfl,rfl⟩;have hl:a.length=b.length:=by omega
 by_cases hlt:i<a.length
 ·have hlt':i<b.length:=by omega
  unfold Jd at h1;simp[s0,s1,s5,hlt,hlt'];intro _;refine⟨λh e=>h (by subst e;rfl),λe=>⟨a.length - (i+1),by omega,i+1,rfl,by omega,by rw[Km (by omega)];rfl,λj hj'=>?_⟩⟩;by_cases hji:j=i
  ·subst hji;simp[hlt,hlt',e]
  ·exact hj j (by omega)
 ·simp[s0,s1,s5,hlt];intro _;refine ext_getElem? λj=>?_
  by_cases hji:j<i
  ·exact hj j hji
  ·rw[List.getElem?_eq_none (by omega),List.getElem?_eq_none (by omega)]
theorem Jpb(x:Jc)(left:Int)(h0:0<=left/\left<=4611686018427387904):Holds prog 21 [.agg (Jb x),i64 left] (λr=>r=i64 (Kw left (Uf x))):=by
 refine Jp func21 Jxp rfl (by simp[a21]) ?_;simp[a21,Jb];have e0:Uf x=Uf x:=rfl
 conv at e0=>rhs;unfold Uf
 refine Je (Jbo x.Coeffs left (by omega)) (by simp) ?_;rintro r rfl;by_cases h1:left - (Dk x.Coeffs:Nat)<0
 case pos=>
  have q:left - (Uf x:Int)<0:=by omega
  simp[Kw,h1,q];try first|omega|(constructor <;>intros <;>omega)
 simp[Kw,h1];try(rw[if_neg (by omega)];omega)
theorem Ju6(x:Jc)(_hw:Uf x<=1048576):Holds prog 23 [.agg (Jb x)] (λr=>r = .agg (Ja x)):=by have hw:=_hw;unfold Uf at hw;refine Jp func23 Jy3 rfl (by simp[a23]) ?_;simp[a23,Jb];refine Je (Jb8 x.Coeffs (by omega)) (by simp[]) ?_;rintro r rfl;simp[];try simp[Ja]
theorem Jot(x y:Jc):Holds prog 25 [.agg (Jb x),.agg (Jb y)] (λr=>r = .bool (decide (x=y))):=by
 refine Jp func25 Jxy rfl (by simp[a25]) ?_;simp[a25,Jb];by_cases h0:x.Const=y.Const
 case neg=>simp[h0];try exact λe=>h0 (by rw[e])
 simp[h0];refine Je (J5y x.Coeffs y.Coeffs) (by simp[]) ?_;rintro r rfl;by_cases h1:x.Coeffs=y.Coeffs
 case neg=>simp[h1];try exact λe=>h1 (by rw[e])
 simp[h1];cases x;cases y;simp_all
theorem Jxz:Jh prog f95=some (H6 true 2 21):=by kernel_rfl
theorem Jb5(l:List Jc)(left:Int)(h0:0<=left/\left<=4611686018427387904):Holds prog 95 [.sl 2 (l.map Jb),i64 left] (λr=>r=i64 (Kw left (U9 l))):=by rw[show U9 l=wL Uf l from rfl,<-Dc (w:=Uf) (g:=λx lf=>Kw lf (Uf x)) (λ_ _ _=>rfl) l left h0.1];exact E6 func95 Jxz rfl (rowOf:=Jb) (eltOf:=(λx=>.agg (Jb x))) (λx=>by simp[Jb]) (λx h=>by simp[Jb]) (λx lf h=>Ec h) l left h0 (λx lf _ hl=>Jpb x lf hl)
theorem Jni:Jh prog f101=some (H9 true 2 32 23 [.int .i64 0,.nil 1]):=by kernel_rfl
theorem Jau(l:List Jc)(hw:U9 l<=1048576):Holds prog 101 [.sl 2 (l.map Jb)] (λr=>r = .us 2 (l.map Ja)):=
 Ef func101 Jni rfl (rowOf:=Jb) (eltOf:=(λx=>.agg (Jb x))) (eltU:=(λx=>.agg (Ja x))) (λx=>by simp[Jb]) (λx h=>by simp[Jb]) (λx=>by simp) (λx=>by simp[Ja]) (λx=>by simp[Ja]) rfl l (by have:=Yn Uf l;unfold U9 at hw;unfold Jd;omega) (λx h=>Ju6 x (by have:=Wn (w:=Uf) h;unfold U9 at hw;omega))
theorem Jsb:Jh prog f107=some (Gu true 2 25):=by kernel_rfl
theorem Jb7(l m:List Jc):Holds prog 107 [.sl 2 (l.map Jb),.sl 2 (m.map Jb)] (λr=>r = .bool (decide (l=m))):=by rw[<-Bs];exact Dl func107 Jsb rfl (rowOf:=Jb) (eltOf:=(λx=>.agg (Jb x))) (λx=>by simp[Jb]) (λx h=>by simp[Jb]) l m (λx y _ _=>Jot x y)
theorem Jr0:Jh prog f117=some (H6 false 1 95):=by kernel_rfl
theorem Jfi(l:List (List Jc))(left:Int)(h0:0<=left/\left<=4611686018427387904):Holds prog 117 [.sl 1 (l.map Uo),i64 left] (λr=>r=i64 (Kw left (D3 l))):=by rw[show D3 l=wL U9 l from rfl,<-Dc (w:=U9) (g:=λx lf=>Kw lf (U9 x)) (λ_ _ _=>rfl) l left h0.1];exact E6 func117 Jr0 rfl (rowOf:=Uo) (eltOf:=(λx=>.sl 2 (x.map Jb))) (λx=>by simp[Uo]) (λx h=>by simp) (λx lf h=>Ec h) l left h0 (λx lf _ hl=>Jb5 x lf hl)
theorem Jm4:Jh prog f119=some (H9 false 1 24 101 [.nil 2]):=by kernel_rfl
theorem Jfx(l:List (List Jc))(hw:D3 l<=1048576):Holds prog 119 [.sl 1 (l.map Uo)] (λr=>r = .us 1 (l.map Y3)):=
 Ef func119 Jm4 rfl (rowOf:=Uo) (eltOf:=(λx=>.sl 2 (x.map Jb))) (eltU:=(λx=>.us 2 (x.map Ja))) (λx=>by simp[Uo]) (λx h=>by simp) (λx=>by simp) (λx=>by simp) (λx=>by simp) rfl l (by have:=Yn U9 l;unfold D3 at hw;unfold Jd;omega) (λx h=>Jau x (by have:=Wn (w:=U9) h;unfold D3 at hw;omega))
theorem Jtx:Jh prog f120=some (Gu false 1 107):=by kernel_rfl
theorem Jg8(l m:List (List Jc)):Holds prog 120 [.sl 1 (l.map Uo),.sl 1 (m.map Uo)] (λr=>r = .bool (decide (l=m))):=by rw[<-Bs];exact Dl func120 Jtx rfl (rowOf:=Uo) (eltOf:=(λx=>.sl 2 (x.map Jb))) (λx=>by simp[Uo]) (λx h=>by simp) l m (λx y _ _=>Jb7 x y)
theorem Jco(x y:Y7):Holds prog 116 [.agg (Uu x),.agg (Uu y)] (λr=>r = .bool (decide (x=y))):=by
 refine Jp func116 Jtv rfl (by simp[K7g]) ?_;simp[K7g,Uu];by_cases h0:x.Scale=y.Scale
 case neg=>simp[h0];try exact λe=>h0 (by rw[e])
 simp[h0];refine Je (J5y x.Mult y.Mult) (by simp[]) ?_;rintro r rfl;by_cases h1:x.Mult=y.Mult
 case neg=>simp[h1];try exact λe=>h1 (by rw[e])
 simp[h1];cases x;cases y;simp_all
theorem Jx3:Jh prog f43=some (Gu true 2 116):=by kernel_rfl
theorem J0p(l m:List Y7):Holds prog 43 [.sl 2 (l.map Uu),.sl 2 (m.map Uu)] (λr=>r = .bool (decide (l=m))):=by rw[<-Bs];exact Dl func43 Jx3 rfl (rowOf:=Uu) (eltOf:=(λx=>.agg (Uu x))) (λx=>by simp[Uu]) (λx h=>by simp[Uu]) l m (λx y _ _=>Jco x y)
def K7e:Jl:= ⟨13,[.t 4],(Zq [ZB 2 0,Zi 4 0] (Zq [Zv 5 1,Zf 6 1 2,Zl 7 false 1 6,Zo 8 (.len true (.t 7)),Zb 9 .sub 5 8,Zv 1 9] (.seq (Zq [Zv 10 1,Zk 11 .lss 10 0] (.cond (.t 11) (Zq [Zi 4 (-1)] .ret) .skip)) (Zq [Zv 12 1,Zv 4 12] .ret))))⟩
theorem Jps:Jh prog f332=some K7e:=by kernel_rfl
def K8i:Jl:= ⟨11,[(.c 2 true 2)],(Zq [ZB 1 0,Zo 2 (.box [(.int .i64 0),(.str [])])] (Zq [Zo 3 (.box [(.int .i64 0),(.str [])])] (Zq [Zf 4 0 1,Zl 5 false 1 4,Zf 6 0 3,Zs 1 6 5] (Zq [Zf 7 1 1,Zl 8 false 1 7,Zf 9 1 3,Zs 1 9 8] (Zq [Zl 10 true 2 3,Zs 2 2 10] .ret)))))⟩
theorem Jnb:Jh prog f334=some K8i:=by kernel_rfl
def K48:Jl:= ⟨15,[.t 4],(Zq [ZB 2 0,ZB 3 1,Zt 4 false] (.seq (Zq [Zf 5 0 2,Zl 6 false 1 5,Zf 7 0 3,Zl 8 false 1 7,Zb 9 .neq 6 8] (.cond (.t 9) (Zq [Zt 4 false] .ret) .skip)) (.seq (Zq [Zf 10 1 2,Zl 11 false 1 10,Zf 12 1 3,Zl 13 false 1 12,Zb 14 .neq 11 13] (.cond (.t 14) (Zq [Zt 4 false] .ret) .skip)) (Zq [Zt 4 true] .ret))))⟩
theorem Jo0:Jh prog f337=some K48:=by kernel_rfl
def K52:Jl:= ⟨12,[.t 4],(Zq [ZB 2 0,Zi 4 0] (Zq [Zf 5 1 2,Zl 6 false 1 5,Zv 7 1,Zc 8 314 [.t 6,.t 7],Zv 1 8] (.seq (Zq [Zv 9 1,Zk 10 .lss 9 0] (.cond (.t 10) (Zq [Zi 4 (-1)] .ret) .skip)) (Zq [Zv 11 1,Zv 4 11] .ret))))⟩
theorem Jpq:Jh prog f283=some K52:=by kernel_rfl
def K6x:Jl:= ⟨12,[(.c 2 true 2)],(Zq [ZB 1 0,Zo 2 (.box [(.int .i64 0),(.nil 2)])] (Zq [Zo 3 (.box [(.int .i64 0),(.nil 2)])] (Zq [Zf 4 0 1,Zl 5 false 1 4,Zf 6 0 3,Zs 1 6 5] (Zq [Zf 7 1 1,Zl 8 false 1 7,Zc 9 320 [.t 8],Zf 10 1 3,Zs 1 10 9] (Zq [Zl 11 true 2 3,Zs 2 2 11] .ret)))))⟩
theorem Jmp:Jh prog f290=some K6x:=by kernel_rfl
def K6v:Jl:= ⟨16,[.t 4],(Zq [ZB 2 0,ZB 3 1,Zt 4 false] (.seq (Zq [Zf 5 0 2,Zl 6 false 1 5,Zf 7 0 3,Zl 8 false 1 7,Zb 9 .neq 6 8] (.cond (.t 9) (Zq [Zt 4 false] .ret) .skip)) (.seq (Zq [Zf 10 1 2,Zl 11 false 1 10,Zf 12 1 3,Zl 13 false 1 12,Zc 14 326 [.t 11,.t 13],ZN 15 14] (.cond (.t 15) (Zq [Zt 4 false] .ret) .skip)) (Zq [Zt 4 true] .ret))))⟩
theorem Joe:Jh prog f301=some K6v:=by kernel_rfl
def Tz:Jl:= ⟨19,[.t 4],(Zq [ZB 2 0,Zi 4 0] (Zq [Zf 5 1 2,Zl 6 false 1 5,Zv 7 1,Zc 8 213 [.t 6,.t 7],Zv 1 8] (.seq (Zq [Zv 9 1,Zk 10 .lss 9 0] (.cond (.t 10) (Zq [Zi 4 (-1)] .ret) .skip)) (Zq [Zv 11 1,Zf 12 2 2,Zl 13 false 1 12,Zo 14 (.len true (.t 13)),Zb 15 .sub 11 14,Zv 1 15] (.seq (Zq [Zv 16 1,Zk 17 .lss 16 0] (.cond (.t 17) (Zq [Zi 4 (-1)] .ret) .skip)) (Zq [Zv 18 1,Zv 4 18] .ret))))))⟩
theorem Jn6:Jh prog f215=some Tz:=by kernel_rfl
def a229:Jl:= ⟨15,[(.c 2 true 3)],(Zq [ZB 1 0,Zo 2 (.box [(.bool false),(.nil 2),(.str [])])] (Zq [Zo 3 (.box [(.bool false),(.nil 2),(.str [])])] (Zq [Zf 4 0 1,Zl 5 false 1 4,Zf 6 0 3,Zs 1 6 5] (Zq [Zf 7 1 1,Zl 8 false 1 7,Zc 9 227 [.t 8],Zf 10 1 3,Zs 1 10 9] (Zq [Zf 11 2 1,Zl 12 false 1 11,Zf 13 2 3,Zs 1 13 12] (Zq [Zl 14 true 3 3,Zs 3 2 14] .ret))))))⟩
theorem Jox:Jh prog f229=some a229:=by kernel_rfl
def K67:Jl:= ⟨21,[.t 4],(Zq [ZB 2 0,ZB 3 1,Zt 4 false] (.seq (Zq [Zf 5 0 2,Zl 6 false 1 5,Zf 7 0 3,Zl 8 false 1 7,Zo 9 (.beq true (.t 6) (.t 8))] (.cond (.t 9) (Zq [Zt 4 false] .ret) .skip)) (.seq (Zq [Zf 10 1 2,Zl 11 false 1 10,Zf 12 1 3,Zl 13 false 1 12,Zc 14 245 [.t 11,.t 13],ZN 15 14] (.cond (.t 15) (Zq [Zt 4 false] .ret) .skip)) (.seq (Zq [Zf 16 2 2,Zl 17 false 1 16,Zf 18 2 3,Zl 19 false 1 18,Zb 20 .neq 17 19] (.cond (.t 20) (Zq [Zt 4 false] .ret) .skip)) (Zq [Zt 4 true] .ret)))))⟩
theorem Jow:Jh prog f247=some K67:=by kernel_rfl
def K6i:Jl:= ⟨27,[.t 4],(Zq [ZB 2 0,Zi 4 0] (Zq [Zv 5 1,Zf 6 0 2,Zl 7 false 1 6,Zo 8 (.len true (.t 7)),Zb 9 .sub 5 8,Zv 1 9] (.seq (Zq [Zv 10 1,Zk 11 .lss 10 0] (.cond (.t 11) (Zq [Zi 4 (-1)] .ret) .skip)) (Zq [Zv 12 1,Zf 13 2 2,Zl 14 false 1 13,Zo 15 (.len true (.t 14)),Zb 16 .sub 12 15,Zv 1 16] (.seq (Zq [Zv 17 1,Zk 18 .lss 17 0] (.cond (.t 18) (Zq [Zi 4 (-1)] .ret) .skip)) (Zq [Zv 19 1,Zf 20 3 2,Zl 21 false 1 20,Zo 22 (.len true (.t 21)),Zb 23 .sub 19 22,Zv 1 23] (.seq (Zq [Zv 24 1,Zk 25 .lss 24 0] (.cond (.t 25) (Zq [Zi 4 (-1)] .ret) .skip)) (Zq [Zv 26 1,Zv 4 26] .ret))))))))⟩
theorem Jql:Jh prog f282=some K6i:=by kernel_rfl
def K8f:Jl:= ⟨17,[(.c 2 true 4)],(Zq [ZB 1 0,Zo 2 (.box [(.str []),(.bool false),(.str []),(.str [])])] (Zq [Zo 3 (.box [(.str []),(.bool false),(.str []),(.str [])])] (Zq [Zf 4 0 1,Zl 5 false 1 4,Zf 6 0 3,Zs 1 6 5] (Zq [Zf 7 1 1,Zl 8 false 1 7,Zf 9 1 3,Zs 1 9 8] (Zq [Zf 10 2 1,Zl 11 false 1 10,Zf 12 2 3,Zs 1 12 11] (Zq [Zf 13 3 1,Zl 14 false 1 13,Zf 15 3 3,Zs 1 15 14] (Zq [Zl 16 true 4 3,Zs 4 2 16] .ret)))))))⟩
theorem Ju8:Jh prog f289=some K8f:=by kernel_rfl
def K8r:Jl:= ⟨25,[.t 4],(Zq [ZB 2 0,ZB 3 1,Zt 4 false] (.seq (Zq [Zf 5 0 2,Zl 6 false 1 5,Zf 7 0 3,Zl 8 false 1 7,Zb 9 .neq 6 8] (.cond (.t 9) (Zq [Zt 4 false] .ret) .skip)) (.seq (Zq [Zf 10 1 2,Zl 11 false 1 10,Zf 12 1 3,Zl 13 false 1 12,Zo 14 (.beq true (.t 11) (.t 13))] (.cond (.t 14) (Zq [Zt 4 false] .ret) .skip)) (.seq (Zq [Zf 15 2 2,Zl 16 false 1 15,Zf 17 2 3,Zl 18 false 1 17,Zb 19 .neq 16 18] (.cond (.t 19) (Zq [Zt 4 false] .ret) .skip)) (.seq (Zq [Zf 20 3 2,Zl 21 false 1 20,Zf 22 3 3,Zl 23 false 1 22,Zb 24 .neq 21 23] (.cond (.t 24) (Zq [Zt 4 false] .ret) .skip)) (Zq [Zt 4 true] .ret))))))⟩
theorem Jqx:Jh prog f300=some K8r:=by kernel_rfl
def K7w:Jl:= ⟨26,[.t 4],(Zq [ZB 2 0,Zi 4 0] (Zq [Zv 5 1,Zf 6 0 2,Zl 7 false 1 6,Zo 8 (.len true (.t 7)),Zb 9 .sub 5 8,Zv 1 9] (.seq (Zq [Zv 10 1,Zk 11 .lss 10 0] (.cond (.t 11) (Zq [Zi 4 (-1)] .ret) .skip)) (Zq [Zv 12 1,Zf 13 1 2,Zl 14 false 1 13,Zo 15 (.len true (.t 14)),Zb 16 .sub 12 15,Zv 1 16] (.seq (Zq [Zv 17 1,Zk 18 .lss 17 0] (.cond (.t 18) (Zq [Zi 4 (-1)] .ret) .skip)) (Zq [Zf 19 2 2,Zl 20 false 1 19,Zv 21 1,Zc 22 315 [.t 20,.t 21],Zv 1 22] (.seq (Zq [Zv 23 1,Zk 24 .lss 23 0] (.cond (.t 24) (Zq [Zi 4 (-1)] .ret) .skip)) (Zq [Zv 25 1,Zv 4 25] .ret))))))))⟩
theorem Jpj:Jh prog f284=some K7w:=by kernel_rfl
def K7o:Jl:= ⟨15,[(.c 2 true 3)],(Zq [ZB 1 0,Zo 2 (.box [(.str []),(.str []),(.nil 3)])] (Zq [Zo 3 (.box [(.str []),(.str []),(.nil 3)])] (Zq [Zf 4 0 1,Zl 5 false 1 4,Zf 6 0 3,Zs 1 6 5] (Zq [Zf 7 1 1,Zl 8 false 1 7,Zf 9 1 3,Zs 1 9 8] (Zq [Zf 10 2 1,Zl 11 false 1 10,Zc 12 321 [.t 11],Zf 13 2 3,Zs 1 13 12] (Zq [Zl 14 true 3 3,Zs 3 2 14] .ret))))))⟩
theorem Jti:Jh prog f291=some K7o:=by kernel_rfl
def K7m:Jl:= ⟨21,[.t 4],(Zq [ZB 2 0,ZB 3 1,Zt 4 false] (.seq (Zq [Zf 5 0 2,Zl 6 false 1 5,Zf 7 0 3,Zl 8 false 1 7,Zb 9 .neq 6 8] (.cond (.t 9) (Zq [Zt 4 false] .ret) .skip)) (.seq (Zq [Zf 10 1 2,Zl 11 false 1 10,Zf 12 1 3,Zl 13 false 1 12,Zb 14 .neq 11 13] (.cond (.t 14) (Zq [Zt 4 false] .ret) .skip)) (.seq (Zq [Zf 15 2 2,Zl 16 false 1 15,Zf 17 2 3,Zl 18 false 1 17,Zc 19 327 [.t 16,.t 18],ZN 20 19] (.cond (.t 20) (Zq [Zt 4 false] .ret) .skip)) (Zq [Zt 4 true] .ret)))))⟩
theorem Js2:Jh prog f302=some K7m:=by kernel_rfl
def K40:Jl:= ⟨37,[.t 4],(Zq [ZB 2 0,Zi 4 0] (Zq [Zv 5 1,Zf 6 0 2,Zl 7 false 1 6,Zo 8 (.len true (.t 7)),Zb 9 .sub 5 8,Zv 1 9] (.seq (Zq [Zv 10 1,Zk 11 .lss 10 0] (.cond (.t 11) (Zq [Zi 4 (-1)] .ret) .skip)) (Zq [Zf 12 1 2,Zl 13 false 1 12,Zv 14 1,Zc 15 212 [.t 13,.t 14],Zv 1 15] (.seq (Zq [Zv 16 1,Zk 17 .lss 16 0] (.cond (.t 17) (Zq [Zi 4 (-1)] .ret) .skip)) (Zq [Zf 18 2 2,Zl 19 false 1 18,Zv 20 1,Zc 21 213 [.t 19,.t 20],Zv 1 21] (.seq (Zq [Zv 22 1,Zk 23 .lss 22 0] (.cond (.t 23) (Zq [Zi 4 (-1)] .ret) .skip)) (Zq [Zf 24 3 2,Zl 25 false 1 24,Zv 26 1,Zc 27 214 [.t 25,.t 26],Zv 1 27] (.seq (Zq [Zv 28 1,Zk 29 .lss 28 0] (.cond (.t 29) (Zq [Zi 4 (-1)] .ret) .skip)) (Zq [Zf 30 4 2,Zl 31 true 3 30,Zv 32 1,Zc 33 215 [.t 31,.t 32],Zv 1 33] (.seq (Zq [Zv 34 1,Zk 35 .lss 34 0] (.cond (.t 35) (Zq [Zi 4 (-1)] .ret) .skip)) (Zq [Zv 36 1,Zv 4 36] .ret))))))))))))⟩
theorem Jt8:Jh prog f133=some K40:=by kernel_rfl
def K5w:Jl:= ⟨24,[(.c 2 true 7)],(Zq [ZB 1 0,Zo 2 (.box [(.str []),(.nil 4),(.nil 2),(.nil 3),(.bool false),(.nil 2),(.str [])])] (Zq [Zo 3 (.box [(.str []),(.nil 4),(.nil 2),(.nil 3),(.bool false),(.nil 2),(.str [])])] (Zq [Zf 4 0 1,Zl 5 false 1 4,Zf 6 0 3,Zs 1 6 5] (Zq [Zf 7 1 1,Zl 8 false 1 7,Zc 9 226 [.t 8],Zf 10 1 3,Zs 1 10 9] (Zq [Zf 11 2 1,Zl 12 false 1 11,Zc 13 227 [.t 12],Zf 14 2 3,Zs 1 14 13] (Zq [Zf 15 3 1,Zl 16 false 1 15,Zc 17 228 [.t 16],Zf 18 3 3,Zs 1 18 17] (Zq [Zf 19 4 1,Zl 20 true 3 19,Zc 21 229 [.t 20],Zf 22 4 3,Zs 3 22 21] (Zq [Zl 23 true 7 3,Zs 7 2 23] .ret))))))))⟩
theorem Ju3:Jh prog f139=some K5w:=by kernel_rfl
def K8q:Jl:= ⟨34,[.t 4],(Zq [ZB 2 0,ZB 3 1,Zt 4 false] (.seq (Zq [Zf 5 0 2,Zl 6 false 1 5,Zf 7 0 3,Zl 8 false 1 7,Zb 9 .neq 6 8] (.cond (.t 9) (Zq [Zt 4 false] .ret) .skip)) (.seq (Zq [Zf 10 1 2,Zl 11 false 1 10,Zf 12 1 3,Zl 13 false 1 12,Zc 14 244 [.t 11,.t 13],ZN 15 14] (.cond (.t 15) (Zq [Zt 4 false] .ret) .skip)) (.seq (Zq [Zf 16 2 2,Zl 17 false 1 16,Zf 18 2 3,Zl 19 false 1 18,Zc 20 245 [.t 17,.t 19],ZN 21 20] (.cond (.t 21) (Zq [Zt 4 false] .ret) .skip)) (.seq (Zq [Zf 22 3 2,Zl 23 false 1 22,Zf 24 3 3,Zl 25 false 1 24,Zc 26 246 [.t 23,.t 25],ZN 27 26] (.cond (.t 27) (Zq [Zt 4 false] .ret) .skip)) (.seq (Zq [Zf 28 4 2,Zl 29 true 3 28,Zf 30 4 3,Zl 31 true 3 30,Zc 32 247 [.t 29,.t 31],ZN 33 32] (.cond (.t 33) (Zq [Zt 4 false] .ret) .skip)) (Zq [Zt 4 true] .ret)))))))⟩
theorem Jmh:Jh prog f155=some K8q:=by kernel_rfl
def K6h:Jl:= ⟨25,[.t 4],(Zq [ZB 2 0,Zi 4 0] (Zq [Zv 5 1,Zf 6 0 2,Zl 7 false 1 6,Zo 8 (.len true (.t 7)),Zb 9 .sub 5 8,Zv 1 9] (.seq (Zq [Zv 10 1,Zk 11 .lss 10 0] (.cond (.t 11) (Zq [Zi 4 (-1)] .ret) .skip)) (Zq [Zf 12 1 2,Zl 13 false 1 12,Zv 14 1,Zc 15 211 [.t 13,.t 14],Zv 1 15] (.seq (Zq [Zv 16 1,Zk 17 .lss 16 0] (.cond (.t 17) (Zq [Zi 4 (-1)] .ret) .skip)) (Zq [Zf 18 3 2,Zl 19 false 1 18,Zv 20 1,Zc 21 95 [.t 19,.t 20],Zv 1 21] (.seq (Zq [Zv 22 1,Zk 23 .lss 22 0] (.cond (.t 23) (Zq [Zi 4 (-1)] .ret) .skip)) (Zq [Zv 24 1,Zv 4 24] .ret))))))))⟩
theorem Jng:Jh prog f132=some K6h:=by kernel_rfl
def K54:Jl:= ⟨19,[(.c 2 true 4)],(Zq [ZB 1 0,ZU 2] (Zq [ZU 3] (Zq [Zf 4 0 1,Zl 5 false 1 4,Zf 6 0 3,Zs 1 6 5] (Zq [Zf 7 1 1,Zl 8 false 1 7,Zc 9 225 [.t 8],Zf 10 1 3,Zs 1 10 9] (Zq [Zf 11 2 1,Zl 12 false 1 11,Zf 13 2 3,Zs 1 13 12] (Zq [Zf 14 3 1,Zl 15 false 1 14,Zc 16 101 [.t 15],Zf 17 3 3,Zs 1 17 16] (Zq [Zl 18 true 4 3,Zs 4 2 18] .ret)))))))⟩
theorem Jo2:Jh prog f138=some K54:=by kernel_rfl
def K50:Jl:= ⟨27,[.t 4],(Zq [ZB 2 0,ZB 3 1,Zt 4 false] (.seq (Zq [Zf 5 0 2,Zl 6 false 1 5,Zf 7 0 3,Zl 8 false 1 7,Zb 9 .neq 6 8] (.cond (.t 9) (Zq [Zt 4 false] .ret) .skip)) (.seq (Zq [Zf 10 1 2,Zl 11 false 1 10,Zf 12 1 3,Zl 13 false 1 12,Zc 14 73 [.t 11,.t 13],ZN 15 14] (.cond (.t 15) (Zq [Zt 4 false] .ret) .skip)) (.seq (Zq [Zf 16 2 2,Zl 17 false 1 16,Zf 18 2 3,Zl 19 false 1 18,Zo 20 (.beq true (.t 17) (.t 19))] (.cond (.t 20) (Zq [Zt 4 false] .ret) .skip)) (.seq (Zq [Zf 21 3 2,Zl 22 false 1 21,Zf 23 3 3,Zl 24 false 1 23,Zc 25 107 [.t 22,.t 24],ZN 26 25] (.cond (.t 26) (Zq [Zt 4 false] .ret) .skip)) (Zq [Zt 4 true] .ret))))))⟩
theorem Jrg:Jh prog f154=some K50:=by kernel_rfl
def a12:Jl:= ⟨18,[.t 4],(Zq [ZB 2 0,Zi 4 0] (Zq [Zf 5 0 2,Zl 6 false 1 5,Zv 7 1,Zc 8 58 [.t 6,.t 7],Zv 1 8] (.seq (Zq [Zv 9 1,Zk 10 .lss 9 0] (.cond (.t 10) (Zq [Zi 4 (-1)] .ret) .skip)) (Zq [Zf 11 1 2,Zl 12 false 1 11,Zv 13 1,Zc 14 59 [.t 12,.t 13],Zv 1 14] (.seq (Zq [Zv 15 1,Zk 16 .lss 15 0] (.cond (.t 16) (Zq [Zi 4 (-1)] .ret) .skip)) (Zq [Zv 17 1,Zv 4 17] .ret))))))⟩
theorem Jx5:Jh prog f12=some a12:=by kernel_rfl
def a14:Jl:= ⟨13,[(.c 2 true 2)],(Zq [ZB 1 0,Zo 2 (.box [(.nil 4),(.nil 7)])] (Zq [Zo 3 (.box [(.nil 4),(.nil 7)])] (Zq [Zf 4 0 1,Zl 5 false 1 4,Zc 6 65 [.t 5],Zf 7 0 3,Zs 1 7 6] (Zq [Zf 8 1 1,Zl 9 false 1 8,Zc 10 66 [.t 9],Zf 11 1 3,Zs 1 11 10] (Zq [Zl 12 true 2 3,Zs 2 2 12] .ret)))))⟩
theorem Jyx:Jh prog f14=some a14:=by kernel_rfl
def a17:Jl:= ⟨17,[.t 4],(Zq [ZB 2 0,ZB 3 1,Zt 4 false] (.seq (Zq [Zf 5 0 2,Zl 6 false 1 5,Zf 7 0 3,Zl 8 false 1 7,Zc 9 74 [.t 6,.t 8],ZN 10 9] (.cond (.t 10) (Zq [Zt 4 false] .ret) .skip)) (.seq (Zq [Zf 11 1 2,Zl 12 false 1 11,Zf 13 1 3,Zl 14 false 1 13,Zc 15 75 [.t 12,.t 14],ZN 16 15] (.cond (.t 16) (Zq [Zt 4 false] .ret) .skip)) (Zq [Zt 4 true] .ret))))⟩
theorem Jxf:Jh prog f17=some a17:=by kernel_rfl
theorem Jhv(x:Yj)(left:Int)(h0:0<=left/\left<=4611686018427387904):Holds prog 332 [.agg (Xh x),i64 left] (λr=>r=i64 (Kw left (Vi x))):=by
 refine Jp func332 Jps rfl (by simp[K7e]) ?_;simp[K7e,Xh];have e0:Vi x=Vi x:=rfl
 conv at e0=>rhs;unfold Vi
 intro hl0;rw[Km (by unfold Jd at hl0;omega)];by_cases h1:left - (x.Name.length:Nat)<0
 case pos=>
  have q:left - (Vi x:Int)<0:=by omega
  simp[Kw,h1,q];try omega
 have g1:(x.Name.length:Nat)<=left:=by omega
 simp[Kw,h1,g1];try(rw[if_neg (by omega)];omega)
theorem Jhu(x:Yj)(_hw:Vi x<=1048576):Holds prog 334 [.agg (Xh x)] (λr=>r = .agg (Wm x)):=by have hw:=_hw;unfold Vi at hw;refine Jp func334 Jnb rfl (by simp[K8i]) ?_;simp[K8i,Xh];try simp[Wm]
theorem Jj9(x y:Yj):Holds prog 337 [.agg (Xh x),.agg (Xh y)] (λr=>r = .bool (decide (x=y))):=by
 refine Jp func337 Jo0 rfl (by simp[K48]) ?_;simp[K48,Xh];by_cases h0:x.Coeff=y.Coeff
 case neg=>simp[h0];try exact λe=>h0 (by rw[e])
 simp[h0];by_cases h1:x.Name=y.Name
 case neg=>simp[h1];try exact λe=>h1 (by rw[e])
 simp[h1];cases x;cases y;simp_all
theorem Jqa:Jh prog f314=some (H6 true 2 332):=by kernel_rfl
theorem Jg1(l:List Yj)(left:Int)(h0:0<=left/\left<=4611686018427387904):Holds prog 314 [.sl 2 (l.map Xh),i64 left] (λr=>r=i64 (Kw left (Ey l))):=by rw[show Ey l=wL Vi l from rfl,<-Dc (w:=Vi) (g:=λx lf=>Kw lf (Vi x)) (λ_ _ _=>rfl) l left h0.1];exact E6 func314 Jqa rfl (rowOf:=Xh) (eltOf:=(λx=>.agg (Xh x))) (λx=>by simp[Xh]) (λx h=>by simp[Xh]) (λx lf h=>Ec h) l left h0 (λx lf _ hl=>Jhv x lf hl)
theorem Jm8:Jh prog f320=some (H9 true 2 24 334 [.int .i64 0,.str []]):=by kernel_rfl
theorem Jfv(l:List Yj)(hw:Ey l<=1048576):Holds prog 320 [.sl 2 (l.map Xh)] (λr=>r = .us 2 (l.map Wm)):=
 Ef func320 Jm8 rfl (rowOf:=Xh) (eltOf:=(λx=>.agg (Xh x))) (eltU:=(λx=>.agg (Wm x))) (λx=>by simp[Xh]) (λx h=>by simp[Xh]) (λx=>by simp) (λx=>by simp[Wm]) (λx=>by simp[Wm]) rfl l (by have:=Yn Vi l;unfold Ey at hw;unfold Jd;omega) (λx h=>Jhu x (by have:=Wn (w:=Vi) h;unfold Ey at hw;omega))
theorem Jnn:Jh prog f326=some (Gu true 2 337):=by kernel_rfl
theorem Jfh(l m:List Yj):Holds prog 326 [.sl 2 (l.map Xh),.sl 2 (m.map Xh)] (λr=>r = .bool (decide (l=m))):=by rw[<-Bs];exact Dl func326 Jnn rfl (rowOf:=Xh) (eltOf:=(λx=>.agg (Xh x))) (λx=>by simp[Xh]) (λx h=>by simp[Xh]) l m (λx y _ _=>Jj9 x y)
theorem Jrz(x:Xg)(left:Int)(h0:0<=left/\left<=4611686018427387904):Holds prog 283 [.agg (Ks x),i64 left] (λr=>r=i64 (Kw left (W1 x))):=by
 refine Jp func283 Jpq rfl (by simp[K52]) ?_;simp[K52,Ks];have e0:W1 x=W1 x:=rfl
 conv at e0=>rhs;unfold W1
 refine Je (Jg1 x.Terms left (by omega)) (by simp) ?_;rintro r rfl;by_cases h1:left - (Ey x.Terms:Nat)<0
 case pos=>
  have q:left - (W1 x:Int)<0:=by omega
  simp[Kw,h1,q];try first|omega|(constructor <;>intros <;>omega)
 simp[Kw,h1];try(rw[if_neg (by omega)];omega)
theorem Jmb(x:Xg)(_hw:W1 x<=1048576):Holds prog 290 [.agg (Ks x)] (λr=>r = .agg (Ul x)):=by have hw:=_hw;unfold W1 at hw;refine Jp func290 Jmp rfl (by simp[K6x]) ?_;simp[K6x,Ks];refine Je (Jfv x.Terms (by omega)) (by simp[]) ?_;rintro r rfl;simp[];try simp[Ul]
theorem Js7(x y:Xg):Holds prog 301 [.agg (Ks x),.agg (Ks y)] (λr=>r = .bool (decide (x=y))):=by
 refine Jp func301 Joe rfl (by simp[K6v]) ?_;simp[K6v,Ks];by_cases h0:x.Const=y.Const
 case neg=>simp[h0];try exact λe=>h0 (by rw[e])
 simp[h0];refine Je (Jfh x.Terms y.Terms) (by simp[]) ?_;rintro r rfl;by_cases h1:x.Terms=y.Terms
 case neg=>simp[h1];try exact λe=>h1 (by rw[e])
 simp[h1];cases x;cases y;simp_all
theorem Jsn:Jh prog f213=some (H6 true 2 283):=by kernel_rfl
theorem Jap(l:List Xg)(left:Int)(h0:0<=left/\left<=4611686018427387904):Holds prog 213 [.sl 2 (l.map Ks),i64 left] (λr=>r=i64 (Kw left (Wq l))):=by rw[show Wq l=wL W1 l from rfl,<-Dc (w:=W1) (g:=λx lf=>Kw lf (W1 x)) (λ_ _ _=>rfl) l left h0.1];exact E6 func213 Jsn rfl (rowOf:=Ks) (eltOf:=(λx=>.agg (Ks x))) (λx=>by simp[Ks]) (λx h=>by simp[Ks]) (λx lf h=>Ec h) l left h0 (λx lf _ hl=>Jrz x lf hl)
theorem Jsr:Jh prog f227=some (H9 true 2 32 290 [.int .i64 0,.nil 2]):=by kernel_rfl
theorem Ja6(l:List Xg)(hw:Wq l<=1048576):Holds prog 227 [.sl 2 (l.map Ks)] (λr=>r = .us 2 (l.map Ul)):=
 Ef func227 Jsr rfl (rowOf:=Ks) (eltOf:=(λx=>.agg (Ks x))) (eltU:=(λx=>.agg (Ul x))) (λx=>by simp[Ks]) (λx h=>by simp[Ks]) (λx=>by simp) (λx=>by simp[Ul]) (λx=>by simp[Ul]) rfl l (by have:=Yn W1 l;unfold Wq at hw;unfold Jd;omega) (λx h=>Jmb x (by have:=Wn (w:=W1) h;unfold Wq at hw;omega))
theorem Jtg:Jh prog f245=some (Gu true 2 301):=by kernel_rfl
theorem Jal(l m:List Xg):Holds prog 245 [.sl 2 (l.map Ks),.sl 2 (m.map Ks)] (λr=>r = .bool (decide (l=m))):=by rw[<-Bs];exact Dl func245 Jtg rfl (rowOf:=Ks) (eltOf:=(λx=>.agg (Ks x))) (λx=>by simp[Ks]) (λx h=>by simp[Ks]) l m (λx y _ _=>Js7 x y)
theorem Jdi(x:Xe)(left:Int)(h0:0<=left/\left<=4611686018427387904):Holds prog 215 [.agg (Kn x),i64 left] (λr=>r=i64 (Kw left (Uh x))):=by
 refine Jp func215 Jn6 rfl (by simp[Tz]) ?_;simp[Tz,Kn];have e0:Uh x=Uh x:=rfl
 conv at e0=>rhs;unfold Uh
 refine Je (Jap x.Heads left (by omega)) (by simp) ?_;rintro r rfl;by_cases h1:left - (Wq x.Heads:Nat)<0
 case pos=>
  have q:left - (Uh x:Int)<0:=by omega
  simp[Kw,h1,q];try first|omega|(constructor <;>intros <;>omega)
 simp[Kw,h1];intro hl1;rw[Km (by unfold Jd at hl1;omega)];by_cases h2:(left - (Wq x.Heads:Nat)) - (x.Base.length:Nat)<0
 case pos=>
  have q:left - (Uh x:Int)<0:=by omega
  simp[h2,q];try omega
 have g2:(x.Base.length:Nat)<=(left - (Wq x.Heads:Nat)):=by omega
 simp[h2,g2];try(rw[if_neg (by omega)];omega)
theorem Jej(x:Xe)(_hw:Uh x<=1048576):Holds prog 229 [.agg (Kn x)] (λr=>r = .agg (Us x)):=by have hw:=_hw;unfold Uh at hw;refine Jp func229 Jox rfl (by simp[a229]) ?_;simp[a229,Kn];refine Je (Ja6 x.Heads (by omega)) (by simp[]) ?_;rintro r rfl;simp[];try simp[Us]
theorem Jdt(x y:Xe):Holds prog 247 [.agg (Kn x),.agg (Kn y)] (λr=>r = .bool (decide (x=y))):=by
 refine Jp func247 Jow rfl (by simp[K67]) ?_;simp[K67,Kn];by_cases h0:x.Lst=y.Lst
 case neg=>simp[h0];try exact λe=>h0 (by rw[e])
 simp[h0];refine Je (Jal x.Heads y.Heads) (by simp[]) ?_;rintro r rfl;by_cases h1:x.Heads=y.Heads
 case neg=>simp[h1];try exact λe=>h1 (by rw[e])
 simp[h1];by_cases h2:x.Base=y.Base
 case neg=>simp[h2];try exact λe=>h2 (by rw[e])
 simp[h2];cases x;cases y;simp_all
theorem Jpk:Jh prog f315=some (H6 true 3 215):=by kernel_rfl
theorem Jih(l:List Xe)(left:Int)(h0:0<=left/\left<=4611686018427387904):Holds prog 315 [.sl 3 (l.map Kn),i64 left] (λr=>r=i64 (Kw left (Bv l))):=by rw[show Bv l=wL Uh l from rfl,<-Dc (w:=Uh) (g:=λx lf=>Kw lf (Uh x)) (λ_ _ _=>rfl) l left h0.1];exact E6 func315 Jpk rfl (rowOf:=Kn) (eltOf:=(λx=>.agg (Kn x))) (λx=>by simp[Kn]) (λx h=>by simp[Kn]) (λx lf h=>Ec h) l left h0 (λx lf _ hl=>Jdi x lf hl)
theorem Jqs:Jh prog f321=some (H9 true 3 48 229 [.bool false,.nil 2,.str []]):=by kernel_rfl
theorem Jix(l:List Xe)(hw:Bv l<=1048576):Holds prog 321 [.sl 3 (l.map Kn)] (λr=>r = .us 3 (l.map Us)):=
 Ef func321 Jqs rfl (rowOf:=Kn) (eltOf:=(λx=>.agg (Kn x))) (eltU:=(λx=>.agg (Us x))) (λx=>by simp[Kn]) (λx h=>by simp[Kn]) (λx=>by simp) (λx=>by simp[Us]) (λx=>by simp[Us]) rfl l (by have:=Yn Uh l;unfold Bv at hw;unfold Jd;omega) (λx h=>Jej x (by have:=Wn (w:=Uh) h;unfold Bv at hw;omega))
theorem Jop:Jh prog f327=some (Gu true 3 247):=by kernel_rfl
theorem Jhd(l m:List Xe):Holds prog 327 [.sl 3 (l.map Kn),.sl 3 (m.map Kn)] (λr=>r = .bool (decide (l=m))):=by rw[<-Bs];exact Dl func327 Jop rfl (rowOf:=Kn) (eltOf:=(λx=>.agg (Kn x))) (λx=>by simp[Kn]) (λx h=>by simp[Kn]) l m (λx y _ _=>Jdt x y)
theorem J9o(x:X4)(left:Int)(h0:0<=left/\left<=4611686018427387904):Holds prog 282 [.agg (Kd x),i64 left] (λr=>r=i64 (Kw left (Qw x))):=by
 refine Jp func282 Jql rfl (by simp[K6i]) ?_;simp[K6i,Kd];have e0:Qw x=Qw x:=rfl
 conv at e0=>rhs;unfold Qw
 intro hl0;rw[Km (by unfold Jd at hl0;omega)];by_cases h1:left - (x.Lst.length:Nat)<0
 case pos=>
  have q:left - (Qw x:Int)<0:=by omega
  simp[Kw,h1,q];try omega
 have g1:(x.Lst.length:Nat)<=left:=by omega
 simp[Kw,h1,g1];intro hl1;rw[Km (by unfold Jd at hl1;omega)];by_cases h2:(left - (x.Lst.length:Nat)) - (x.Head.length:Nat)<0
 case pos=>
  have q:left - (Qw x:Int)<0:=by omega
  simp[h2,q];try omega
 have g2:(x.Head.length:Nat)<=(left - (x.Lst.length:Nat)):=by omega
 simp[h2,g2];intro hl2;rw[Km (by unfold Jd at hl2;omega)];by_cases h3:(left - (x.Lst.length:Nat) - (x.Head.length:Nat)) - (x.Tail.length:Nat)<0
 case pos=>
  have q:left - (Qw x:Int)<0:=by omega
  simp[h3,q];try omega
 have g3:(x.Tail.length:Nat)<=(left - (x.Lst.length:Nat) - (x.Head.length:Nat)):=by omega
 simp[h3,g3];try(rw[if_neg (by omega)];omega)
theorem J9p(x:X4)(_hw:Qw x<=1048576):Holds prog 289 [.agg (Kd x)] (λr=>r = .agg (Um x)):=by have hw:=_hw;unfold Qw at hw;refine Jp func289 Ju8 rfl (by simp[K8f]) ?_;simp[K8f,Kd];try simp[Um]
theorem J9r(x y:X4):Holds prog 300 [.agg (Kd x),.agg (Kd y)] (λr=>r = .bool (decide (x=y))):=by
 refine Jp func300 Jqx rfl (by simp[K8r]) ?_;simp[K8r,Kd];by_cases h0:x.Lst=y.Lst
 case neg=>simp[h0];try exact λe=>h0 (by rw[e])
 simp[h0];by_cases h1:x.Cons=y.Cons
 case neg=>simp[h1];try exact λe=>h1 (by rw[e])
 simp[h1];by_cases h2:x.Head=y.Head
 case neg=>simp[h2];try exact λe=>h2 (by rw[e])
 simp[h2];by_cases h3:x.Tail=y.Tail
 case neg=>simp[h3];try exact λe=>h3 (by rw[e])
 simp[h3];cases x;cases y;simp_all
theorem Jr8:Jh prog f212=some (H6 true 4 282):=by kernel_rfl
theorem J7w(l:List X4)(left:Int)(h0:0<=left/\left<=4611686018427387904):Holds prog 212 [.sl 4 (l.map Kd),i64 left] (λr=>r=i64 (Kw left (O9 l))):=by rw[show O9 l=wL Qw l from rfl,<-Dc (w:=Qw) (g:=λx lf=>Kw lf (Qw x)) (λ_ _ _=>rfl) l left h0.1];exact E6 func212 Jr8 rfl (rowOf:=Kd) (eltOf:=(λx=>.agg (Kd x))) (λx=>by simp[Kd]) (λx h=>by simp[Kd]) (λx lf h=>Ec h) l left h0 (λx lf _ hl=>J9o x lf hl)
theorem Jtn:Jh prog f226=some (H9 true 4 56 289 [.str [],.bool false,.str [],.str []]):=by kernel_rfl
theorem J7k(l:List X4)(hw:O9 l<=1048576):Holds prog 226 [.sl 4 (l.map Kd)] (λr=>r = .us 4 (l.map Um)):=
 Ef func226 Jtn rfl (rowOf:=Kd) (eltOf:=(λx=>.agg (Kd x))) (eltU:=(λx=>.agg (Um x))) (λx=>by simp[Kd]) (λx h=>by simp[Kd]) (λx=>by simp) (λx=>by simp[Um]) (λx=>by simp[Um]) rfl l (by have:=Yn Qw l;unfold O9 at hw;unfold Jd;omega) (λx h=>J9p x (by have:=Wn (w:=Qw) h;unfold O9 at hw;omega))
theorem Jsq:Jh prog f244=some (Gu true 4 300):=by kernel_rfl
theorem J7m(l m:List X4):Holds prog 244 [.sl 4 (l.map Kd),.sl 4 (m.map Kd)] (λr=>r = .bool (decide (l=m))):=by rw[<-Bs];exact Dl func244 Jsq rfl (rowOf:=Kd) (eltOf:=(λx=>.agg (Kd x))) (λx=>by simp[Kd]) (λx h=>by simp[Kd]) l m (λx y _ _=>J9r x y)
theorem Jhx(x:Xq)(left:Int)(h0:0<=left/\left<=4611686018427387904):Holds prog 284 [.agg (X8 x),i64 left] (λr=>r=i64 (Kw left (Wh x))):=by
 refine Jp func284 Jpj rfl (by simp[K7w]) ?_;simp[K7w,X8];have e0:Wh x=Wh x:=rfl
 conv at e0=>rhs;unfold Wh
 intro hl0;rw[Km (by unfold Jd at hl0;omega)];by_cases h1:left - (x.Bind.length:Nat)<0
 case pos=>
  have q:left - (Wh x:Int)<0:=by omega
  simp[Kw,h1,q];try omega
 have g1:(x.Bind.length:Nat)<=left:=by omega
 simp[Kw,h1,g1];intro hl1;rw[Km (by unfold Jd at hl1;omega)];by_cases h2:(left - (x.Bind.length:Nat)) - (x.Func.length:Nat)<0
 case pos=>
  have q:left - (Wh x:Int)<0:=by omega
  simp[h2,q];try omega
 have g2:(x.Func.length:Nat)<=(left - (x.Bind.length:Nat)):=by omega
 simp[h2,g2];refine Je (Jih x.Args (left - (x.Bind.length:Nat) - (x.Func.length:Nat)) (by omega)) (by simp) ?_;rintro r rfl;by_cases h3:(left - (x.Bind.length:Nat) - (x.Func.length:Nat)) - (Bv x.Args:Nat)<0
 case pos=>
  have q:left - (Wh x:Int)<0:=by omega
  simp[Kw,h3,q];try first|omega|(constructor <;>intros <;>omega)
 simp[Kw,h3];try(rw[if_neg (by omega)];omega)
theorem Jjd(x:Xq)(_hw:Wh x<=1048576):Holds prog 291 [.agg (X8 x)] (λr=>r = .agg (W2 x)):=by have hw:=_hw;unfold Wh at hw;refine Jp func291 Jti rfl (by simp[K7o]) ?_;simp[K7o,X8];refine Je (Jix x.Args (by omega)) (by simp[]) ?_;rintro r rfl;simp[];try simp[W2]
theorem Jhf(x y:Xq):Holds prog 302 [.agg (X8 x),.agg (X8 y)] (λr=>r = .bool (decide (x=y))):=by
 refine Jp func302 Js2 rfl (by simp[K7m]) ?_;simp[K7m,X8];by_cases h0:x.Bind=y.Bind
 case neg=>simp[h0];try exact λe=>h0 (by rw[e])
 simp[h0];by_cases h1:x.Func=y.Func
 case neg=>simp[h1];try exact λe=>h1 (by rw[e])
 simp[h1];refine Je (Jhd x.Args y.Args) (by simp[]) ?_;rintro r rfl;by_cases h2:x.Args=y.Args
 case neg=>simp[h2];try exact λe=>h2 (by rw[e])
 simp[h2];cases x;cases y;simp_all
theorem Jme:Jh prog f214=some (H6 true 3 284):=by kernel_rfl
theorem Jfd(l:List Xq)(left:Int)(h0:0<=left/\left<=4611686018427387904):Holds prog 214 [.sl 3 (l.map X8),i64 left] (λr=>r=i64 (Kw left (Gv l))):=by rw[show Gv l=wL Wh l from rfl,<-Dc (w:=Wh) (g:=λx lf=>Kw lf (Wh x)) (λ_ _ _=>rfl) l left h0.1];exact E6 func214 Jme rfl (rowOf:=X8) (eltOf:=(λx=>.agg (X8 x))) (λx=>by simp[X8]) (λx h=>by simp[X8]) (λx lf h=>Ec h) l left h0 (λx lf _ hl=>Jhx x lf hl)
theorem Jtq:Jh prog f228=some (H9 true 3 56 291 [.str [],.str [],.nil 3]):=by kernel_rfl
theorem Jex(l:List Xq)(hw:Gv l<=1048576):Holds prog 228 [.sl 3 (l.map X8)] (λr=>r = .us 3 (l.map W2)):=
 Ef func228 Jtq rfl (rowOf:=X8) (eltOf:=(λx=>.agg (X8 x))) (eltU:=(λx=>.agg (W2 x))) (λx=>by simp[X8]) (λx h=>by simp[X8]) (λx=>by simp) (λx=>by simp[W2]) (λx=>by simp[W2]) rfl l (by have:=Yn Wh l;unfold Gv at hw;unfold Jd;omega) (λx h=>Jjd x (by have:=Wn (w:=Wh) h;unfold Gv at hw;omega))
theorem Jrk:Jh prog f246=some (Gu true 3 302):=by kernel_rfl
theorem Jg2(l m:List Xq):Holds prog 246 [.sl 3 (l.map X8),.sl 3 (m.map X8)] (λr=>r = .bool (decide (l=m))):=by rw[<-Bs];exact Dl func246 Jrk rfl (rowOf:=X8) (eltOf:=(λx=>.agg (X8 x))) (λx=>by simp[X8]) (λx h=>by simp[X8]) l m (λx y _ _=>Jhf x y)
theorem Jgz(x:K0)(left:Int)(h0:0<=left/\left<=4611686018427387904):Holds prog 133 [.agg (Ju x),i64 left] (λr=>r=i64 (Kw left (Ub x))):=by
 refine Jp func133 Jt8 rfl (by simp[K40]) ?_;simp[K40,Ju];have e0:Ub x=Ub x:=rfl
 conv at e0=>rhs;unfold Ub
 intro hl0;rw[Km (by unfold Jd at hl0;omega)];by_cases h1:left - (x.Func.length:Nat)<0
 case pos=>
  have q:left - (Ub x:Int)<0:=by omega
  simp[Kw,h1,q];try omega
 have g1:(x.Func.length:Nat)<=left:=by omega
 simp[Kw,h1,g1];refine Je (J7w x.Patterns (left - (x.Func.length:Nat)) (by omega)) (by simp) ?_;rintro r rfl;by_cases h2:(left - (x.Func.length:Nat)) - (O9 x.Patterns:Nat)<0
 case pos=>
  have q:left - (Ub x:Int)<0:=by omega
  simp[Kw,h2,q];try first|omega|(constructor <;>intros <;>omega)
 simp[Kw,h2];refine Je (Jap x.Guards (left - (x.Func.length:Nat) - (O9 x.Patterns:Nat)) (by omega)) (by simp) ?_;rintro r rfl;by_cases h3:(left - (x.Func.length:Nat) - (O9 x.Patterns:Nat)) - (Wq x.Guards:Nat)<0
 case pos=>
  have q:left - (Ub x:Int)<0:=by omega
  simp[Kw,h3,q];try first|omega|(constructor <;>intros <;>omega)
 simp[Kw,h3];refine Je (Jfd x.Calls (left - (x.Func.length:Nat) - (O9 x.Patterns:Nat) - (Wq x.Guards:Nat)) (by omega)) (by simp) ?_;rintro r rfl;by_cases h4:(left - (x.Func.length:Nat) - (O9 x.Patterns:Nat) - (Wq x.Guards:Nat)) - (Gv x.Calls:Nat)<0
 case pos=>
  have q:left - (Ub x:Int)<0:=by omega
  simp[Kw,h4,q];try first|omega|(constructor <;>intros <;>omega)
 simp[Kw,h4];refine Je (Jdi x.Result (left - (x.Func.length:Nat) - (O9 x.Patterns:Nat) - (Wq x.Guards:Nat) - (Gv x.Calls:Nat)) (by omega)) (by simp[Kn]) ?_;rintro r rfl;by_cases h5:(left - (x.Func.length:Nat) - (O9 x.Patterns:Nat) - (Wq x.Guards:Nat) - (Gv x.Calls:Nat)) - (Uh x.Result:Nat)<0
 case pos=>
  have q:left - (Ub x:Int)<0:=by omega
  simp[Kw,h5,q];try first|omega|(constructor <;>intros <;>omega)
 simp[Kw,h5];try(rw[if_neg (by omega)];omega)
theorem Jja(x:K0)(_hw:Ub x<=1048576):Holds prog 139 [.agg (Ju x)] (λr=>r = .agg (Yh x)):=by have hw:=_hw;unfold Ub at hw;refine Jp func139 Ju3 rfl (by simp[K5w]) ?_;simp[K5w,Ju];refine Je (J7k x.Patterns (by omega)) (by simp[]) ?_;rintro r rfl;simp[];refine Je (Ja6 x.Guards (by omega)) (by simp[]) ?_;rintro r rfl;simp[];refine Je (Jex x.Calls (by omega)) (by simp[]) ?_;rintro r rfl;simp[];refine Je (Jej x.Result (by omega)) (by simp[Kn]) ?_;rintro r rfl;simp[Us];try simp[Yh]
theorem Jhr(x y:K0):Holds prog 155 [.agg (Ju x),.agg (Ju y)] (λr=>r = .bool (decide (x=y))):=by
 refine Jp func155 Jmh rfl (by simp[K8q]) ?_;simp[K8q,Ju];by_cases h0:x.Func=y.Func
 case neg=>simp[h0];try exact λe=>h0 (by rw[e])
 simp[h0];refine Je (J7m x.Patterns y.Patterns) (by simp[]) ?_;rintro r rfl;by_cases h1:x.Patterns=y.Patterns
 case neg=>simp[h1];try exact λe=>h1 (by rw[e])
 simp[h1];refine Je (Jal x.Guards y.Guards) (by simp[]) ?_;rintro r rfl;by_cases h2:x.Guards=y.Guards
 case neg=>simp[h2];try exact λe=>h2 (by rw[e])
 simp[h2];refine Je (Jg2 x.Calls y.Calls) (by simp[]) ?_;rintro r rfl;by_cases h3:x.Calls=y.Calls
 case neg=>simp[h3];try exact λe=>h3 (by rw[e])
 simp[h3];refine Je (Jdt x.Result y.Result) (by simp[Kn]) ?_;rintro r rfl;by_cases h4:x.Result=y.Result
 case neg=>simp[h4];try exact λe=>h4 (by rw[e])
 simp[h4];cases x;cases y;simp_all
theorem Jy7:Jh prog f59=some (H6 true 7 133):=by kernel_rfl
theorem Jfs(l:List K0)(left:Int)(h0:0<=left/\left<=4611686018427387904):Holds prog 59 [.sl 7 (l.map Ju),i64 left] (λr=>r=i64 (Kw left (Gx l))):=by rw[show Gx l=wL Ub l from rfl,<-Dc (w:=Ub) (g:=λx lf=>Kw lf (Ub x)) (λ_ _ _=>rfl) l left h0.1];exact E6 func59 Jy7 rfl (rowOf:=Ju) (eltOf:=(λx=>.agg (Ju x))) (λx=>by simp[Ju]) (λx h=>by simp[Ju]) (λx lf h=>Ec h) l left h0 (λx lf _ hl=>Jgz x lf hl)
theorem Jyu:Jh prog f66=some (H9 true 7 136 139 [.str [],.nil 4,.nil 2,.nil 3,.bool false,.nil 2,.str []]):=by kernel_rfl
theorem Jfo(l:List K0)(hw:Gx l<=1048576):Holds prog 66 [.sl 7 (l.map Ju)] (λr=>r = .us 7 (l.map Yh)):=
 Ef func66 Jyu rfl (rowOf:=Ju) (eltOf:=(λx=>.agg (Ju x))) (eltU:=(λx=>.agg (Yh x))) (λx=>by simp[Ju]) (λx h=>by simp[Ju]) (λx=>by simp) (λx=>by simp[Yh]) (λx=>by simp[Yh]) rfl l (by have:=Yn Ub l;unfold Gx at hw;unfold Jd;omega) (λx h=>Jja x (by have:=Wn (w:=Ub) h;unfold Gx at hw;omega))
theorem Jxb:Jh prog f75=some (Gu true 7 155):=by kernel_rfl
theorem Jf6(l m:List K0):Holds prog 75 [.sl 7 (l.map Ju),.sl 7 (m.map Ju)] (λr=>r = .bool (decide (l=m))):=by rw[<-Bs];exact Dl func75 Jxb rfl (rowOf:=Ju) (eltOf:=(λx=>.agg (Ju x))) (λx=>by simp[Ju]) (λx h=>by simp[Ju]) l m (λx y _ _=>Jhr x y)
theorem J7l(x:K3)(left:Int)(h0:0<=left/\left<=4611686018427387904):Holds prog 132 [.agg (K5 x),i64 left] (λr=>r=i64 (Kw left (Yr x))):=by
 refine Jp func132 Jng rfl (by simp[K6h]) ?_;simp[K6h,K5];have e0:Yr x=Yr x:=rfl
 conv at e0=>rhs;unfold Yr
 intro hl0;rw[Km (by unfold Jd at hl0;omega)];by_cases h1:left - (x.Name.length:Nat)<0
 case pos=>
  have q:left - (Yr x:Int)<0:=by omega
  simp[Kw,h1,q];try omega
 have g1:(x.Name.length:Nat)<=left:=by omega
 simp[Kw,h1,g1];refine Je (J9e x.Params (left - (x.Name.length:Nat)) (by omega)) (by simp) ?_;rintro r rfl;by_cases h2:(left - (x.Name.length:Nat)) - (It x.Params:Nat)<0
 case pos=>
  have q:left - (Yr x:Int)<0:=by omega
  simp[Kw,h2,q];try first|omega|(constructor <;>intros <;>omega)
 simp[Kw,h2];refine Je (Jb5 x.Pre (left - (x.Name.length:Nat) - (It x.Params:Nat)) (by omega)) (by simp) ?_;rintro r rfl;by_cases h3:(left - (x.Name.length:Nat) - (It x.Params:Nat)) - (U9 x.Pre:Nat)<0
 case pos=>
  have q:left - (Yr x:Int)<0:=by omega
  simp[Kw,h3,q];try first|omega|(constructor <;>intros <;>omega)
 simp[Kw,h3];try(rw[if_neg (by omega)];omega)
theorem J7s(x:K3)(_hw:Yr x<=1048576):Holds prog 138 [.agg (K5 x)] (λr=>r = .agg (Xr x)):=by have hw:=_hw;unfold Yr at hw;refine Jp func138 Jo2 rfl (by simp[K54]) ?_;simp[K54,K5];refine Je (J90 x.Params (by omega)) (by simp[]) ?_;rintro r rfl;simp[];refine Je (Jau x.Pre (by omega)) (by simp[]) ?_;rintro r rfl;simp[];try simp[Xr]
theorem J84(x y:K3):Holds prog 154 [.agg (K5 x),.agg (K5 y)] (λr=>r = .bool (decide (x=y))):=by
 refine Jp func154 Jrg rfl (by simp[K50]) ?_;simp[K50,K5];by_cases h0:x.Name=y.Name
 case neg=>simp[h0];try exact λe=>h0 (by rw[e])
 simp[h0];refine Je (J94 x.Params y.Params) (by simp[]) ?_;rintro r rfl;by_cases h1:x.Params=y.Params
 case neg=>simp[h1];try exact λe=>h1 (by rw[e])
 simp[h1];by_cases h2:x.ListResult=y.ListResult
 case neg=>simp[h2];try exact λe=>h2 (by rw[e])
 simp[h2];refine Je (Jb7 x.Pre y.Pre) (by simp[]) ?_;rintro r rfl;by_cases h3:x.Pre=y.Pre
 case neg=>simp[h3];try exact λe=>h3 (by rw[e])
 simp[h3];cases x;cases y;simp_all
theorem Jy1:Jh prog f58=some (H6 true 4 132):=by kernel_rfl
theorem J64(l:List K3)(left:Int)(h0:0<=left/\left<=4611686018427387904):Holds prog 58 [.sl 4 (l.map K5),i64 left] (λr=>r=i64 (Kw left (Qb l))):=by rw[show Qb l=wL Yr l from rfl,<-Dc (w:=Yr) (g:=λx lf=>Kw lf (Yr x)) (λ_ _ _=>rfl) l left h0.1];exact E6 func58 Jy1 rfl (rowOf:=K5) (eltOf:=(λx=>.agg (K5 x))) (λx=>by simp[K5]) (λx h=>by simp[K5]) (λx lf h=>Ec h) l left h0 (λx lf _ hl=>J7l x lf hl)
theorem Jyi:Jh prog f65=some (H9 true 4 72 138 [.str [],.nil 1,.bool false,.nil 2]):=by kernel_rfl
theorem J63(l:List K3)(hw:Qb l<=1048576):Holds prog 65 [.sl 4 (l.map K5)] (λr=>r = .us 4 (l.map Xr)):=
 Ef func65 Jyi rfl (rowOf:=K5) (eltOf:=(λx=>.agg (K5 x))) (eltU:=(λx=>.agg (Xr x))) (λx=>by simp[K5]) (λx h=>by simp[K5]) (λx=>by simp) (λx=>by simp[Xr]) (λx=>by simp[Xr]) rfl l (by have:=Yn Yr l;unfold Qb at hw;unfold Jd;omega) (λx h=>J7s x (by have:=Wn (w:=Yr) h;unfold Qb at hw;omega))
theorem Jxo:Jh prog f74=some (Gu true 4 154):=by kernel_rfl
theorem J6k(l m:List K3):Holds prog 74 [.sl 4 (l.map K5),.sl 4 (m.map K5)] (λr=>r = .bool (decide (l=m))):=by rw[<-Bs];exact Dl func74 Jxo rfl (rowOf:=K5) (eltOf:=(λx=>.agg (K5 x))) (λx=>by simp[K5]) (λx h=>by simp[K5]) l m (λx y _ _=>J84 x y)
theorem J9g(x:Jo)(left:Int)(h0:0<=left/\left<=4611686018427387904):Holds prog 12 [.agg (Jg x),i64 left] (λr=>r=i64 (Kw left (X2 x))):=by
 refine Jp func12 Jx5 rfl (by simp[a12]) ?_;simp[a12,Jg];have e0:X2 x=X2 x:=rfl
 conv at e0=>rhs;unfold X2
 refine Je (J64 x.Functions left (by omega)) (by simp) ?_;rintro r rfl;by_cases h1:left - (Qb x.Functions:Nat)<0
 case pos=>
  have q:left - (X2 x:Int)<0:=by omega
  simp[Kw,h1,q];try first|omega|(constructor <;>intros <;>omega)
 simp[Kw,h1];refine Je (Jfs x.Rules (left - (Qb x.Functions:Nat)) (by omega)) (by simp) ?_;rintro r rfl;by_cases h2:(left - (Qb x.Functions:Nat)) - (Gx x.Rules:Nat)<0
 case pos=>
  have q:left - (X2 x:Int)<0:=by omega
  simp[Kw,h2,q];try first|omega|(constructor <;>intros <;>omega)
 simp[Kw,h2];try(rw[if_neg (by omega)];omega)
theorem Pk(x:Jo)(_hw:X2 x<=1048576):Holds prog 14 [.agg (Jg x)] (λr=>r = .agg (Qh x)):=by have hw:=_hw;unfold X2 at hw;refine Jp func14 Jyx rfl (by simp[a14]) ?_;simp[a14,Jg];refine Je (J63 x.Functions (by omega)) (by simp[]) ?_;rintro r rfl;simp[];refine Je (Jfo x.Rules (by omega)) (by simp[]) ?_;rintro r rfl;simp[];try simp[Qh]
theorem J9h(x y:Jo):Holds prog 17 [.agg (Jg x),.agg (Jg y)] (λr=>r = .bool (decide (x=y))):=by
 refine Jp func17 Jxf rfl (by simp[a17]) ?_;simp[a17,Jg];refine Je (J6k x.Functions y.Functions) (by simp[]) ?_;rintro r rfl;by_cases h0:x.Functions=y.Functions
 case neg=>simp[h0];try exact λe=>h0 (by rw[e])
 simp[h0];refine Je (Jf6 x.Rules y.Rules) (by simp[]) ?_;rintro r rfl;by_cases h1:x.Rules=y.Rules
 case neg=>simp[h1];try exact λe=>h1 (by rw[e])
 simp[h1];cases x;cases y;simp_all
def K4w:Jl:= ⟨30,[.t 4],(Zq [Zt 4 false] (.seq (Zq [Zv 7 0,Zn 8 7,Zv 9 1,Zn 10 9,Zb 11 .neq 8 10] (.cond (.t 11) (Zq [Zt 4 false] .ret) .skip)) (.seq (Zq [Zv 12 0,Zn 13 12,Zi 14 0] (.blk 0 (.loop (Zq [Zb 15 .lss 14 13] (.seq (Zw 15 0) (.seq (.blk 1 (Zq [Zv 16 14,Zx 17 4 12 14,Zl 18 true 4 17,Zo 6 (.box [(.int .i64 0),(.nil 2),(.int .i64 0),(.nil 1)]),Zv 5 16,Zs 4 6 18] (.seq (.draw (.op (Zf 19 0 6) (.op (Zl 20 true 2 19) (.op (Zf 21 2 6) (.op (Zl 22 true 2 21) (.op (Zv 23 1) (.op (Zv 24 5) (.op (Zx 25 2 23 24) (.op (Zl 26 true 2 25) (.op (Zc 27 196 [.t 20,.t 22,.t 26]) (.op (ZN 28 27) .fin))))))))))) (.cond (.t 28) (Zq [Zt 4 false] .ret) .skip)))) (.reg [Zk 29 .add 14 1,Zv 14 29]))))))) (Zq [Zt 4 true] .ret))))⟩
theorem Jrw:Jh prog f115=some K4w:=by kernel_rfl
def J30(os:List X1)(fs:List Y7):Bool:=decide (os.length=fs.length)&&(os.zip fs).all λp=>I6 p.1.System p.1.Target p.2
theorem Jbs(os:List X1)(fs:List Y7):Holds prog 115 [.sl 4 (os.map Wr),.sl 2 (fs.map Uu)] (λr=>r = .bool (J30 os fs)):=by
 refine Jp func115 Jrw rfl (by simp[K4w]) ?_;simp[K4w];intro hl1 hl2;unfold J30;by_cases h1:os.length=fs.length
 case neg=>simp[h1];omega
 simp[h1];have hzl:(os.zip fs).length=os.length:=by simp[h1]
 generalize hB:((os.zip fs).all λp=>I6 p.1.System p.1.Target p.2)=B;intro _;refine Ka [0,1,12,13] 14 fs.length (λi _ _ _=>((os.zip fs).drop i).all (λp=>I6 p.1.System p.1.Target p.2)=B) hl2 (by simp) hB ?_ ?_
 ·rintro i s h n R hi hg hk s14 hw hJ hR hret _;simp at hk;have hif:i<os.length:=by omega
  rw[drop_eq_getElem_cons (by omega:i<(os.zip fs).length),List.all_cons,List.getElem_zip]at hJ;simp[hk,s14,hi,hg,hif];simp[Wr];refine Jx (J04 (os[i]'hif).System (os[i]'hif).Target (fs[i]'hi)) (by simp[Uu,Ky,Jb]) ?_
  rintro r rfl;cases hc:I6 (os[i]).System (os[i]).Target fs[i]
  ·rw[hc,Bool.false_and]at hJ;simp;refine hret _ _ _ ?_;simp[<-hJ]
  ·rw[hc,Bool.true_and]at hJ;simp[hk,s14,hw];exact hR _ _ _ (by simp[hk]) (by simp) hJ
 ·rintro s h n R hk s14 hJ hret hX;simp at hk;rw[drop_eq_nil_of_le (by omega)]at hJ;simp[hk,s14];refine hX _ _ _ _ ?_;simp[<-hJ]
def a53:Jl:= ⟨23,[.t 4,.t 5],(Zq [ZB 2 0,ZB 3 1,Zz 4 2,Zt 5 false] (Zq [Zl 9 true 2 2,Zl 10 true 2 3,Zc 11 33 [.t 9,.t 10],Zv 8 11,Ze 12 8 0,Ze 13 8 1,Zv 6 12,Zv 7 13] (.seq (Zq [Zv 14 7,ZN 15 14] (.cond (.t 15) (Zq [Zz 4 2,Zt 5 false] .ret) .skip)) (Zq [Zl 16 true 2 2,Zc 17 94 [.t 16],Zv 18 6,ZA 19 64 4 17 18,Zc 20 131 [.t 19],Ze 21 20 0,Ze 22 20 1,Zv 4 21,Zv 5 22] .ret))))⟩
theorem Jzf:∀(l:List Y7),(∀f∈l,f.Mult.length<=20)->Ga l<=21*l.length:=by
 intro l
 induction l with
 |nil=>intro _;simp[Ga,cL]
 |cons e l ih=>
  intro h;have h1:=ih λx hx=>h x (List.mem_cons_of_mem _ hx)
  have h2:=h e List.mem_cons_self;have h3:Du e<=21:=by simp only[Du,Ea];omega
  unfold Ga at *;simp only[cL,List.length_cons];omega
theorem J8z(os:List X1):Ga ((Be os).getD [])<=21*os.length:=by obtain⟨h1,h2⟩:=J85 os;have:=Jzf _ h2;omega
end Go.Proofs.YtoclolkigjbcgaaGreat

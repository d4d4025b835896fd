/- R20E-R30 -/
import Derived.Test.YtoclolkigjbcgaaGreatBRC
import Derived.Deep.LoopGhost
import Derived.ProofKit
import Derived.Deep.Slices
import Derived.SizedLaws
namespace Go.Proofs.YtoclolkigjbcgaaGreat
open List(append_nil take_of_length_le all_cons mem_cons mem_append drop_eq_nil_of_le map_cons mem_cons_self mem_map getElem_mem)
set_option linter.all false
open Go Go.RowKit
inductive AC where
 |skip
 |reg (ops:List AO)
 |seq (a b:AC)
 |cond (c:Jz) (a b:AC)
 |blk (id:Nat) (a:AC)
 |loop (a:AC)
 |exit (id:Nat)
 |ret
 |draw (t:DT)
inductive AE where
 |normal
 |exit (id:Nat)
 |ret
def Jpv(F:Jm->J8->Nat->(AE->Jm->J8->Nat->Prop)->Prop)(s:Jm)(h:J8)(n:Nat)(Q:AE->Jm->J8->Nat->Prop):Prop:=
 ∃(I:Nat->Jm->J8->Nat->Prop),(∃k,I k s h n)/\∀k s h n,I k s h n->F s h n λe s' h' n'=>match e with
  | .normal=>∃k',k'<k/\I k' s' h' n'
  |e=>Q e s' h' n'
def Ig(P:Program):AC->Jm->J8->Nat->(AE->Jm->J8->Nat->Prop)->Prop
 | .skip,s,h,n,Q=>Q .normal s h n
 | .reg ops,s,h,n,Q=>Qn P ops s h n (Q .normal)
 | .seq a b,s,h,n,Q=>Ig P a s h n λe s' h' n'=>match e with
  | .normal=>Ig P b s' h' n' Q
  |e=>Q e s' h' n'
 | .cond c a b,s,h,n,Q=>match ev s c with
  | .bool x=>(x=true->Ig P a s h n Q)/\(x=false->Ig P b s h n Q)
  |_=>False
 | .blk id a,s,h,n,Q=>Ig P a s h n λe s' h' n'=>match e with
  | .exit id'=>if id'=id then Q .normal s' h' n' else Q (.exit id') s' h' n'
  |e=>Q e s' h' n'
 | .loop a,s,h,n,Q=>Jpv (Ig P a) s h n Q
 | .exit id,s,h,n,Q=>Q (.exit id) s h n
 | .ret,s,h,n,Q=>Q .ret s h n
 | .draw t,s,h,n,Q=>Yj P t s h n (Q .normal)
def Vx(bx:Bool)(P:Program)(nt:Nat):Code->Option AC
 | .skip=>some .skip
 | .region _ ops draw=>if draw then(Jkd bx P nt ops).map .draw else(ops.toList.mapM (Fq bx P nt ops)).map .reg
 | .seq a b=>(Vx bx P nt a).bind λa'=>(Vx bx P nt b).map λb'=>.seq a' b'
 | .cond c a b=>(Kh P 0 c).bind λc'=>(Vx bx P nt a).bind λa'=>(Vx bx P nt b).map λb'=>.cond c' a' b'
 | .block id a=>(Vx bx P nt a).map (.blk id)
 | .loop a=>(Vx bx P nt a).map .loop
 | .exit id=>some (.exit id)
 | .ret=>some .ret
 |_=>Option.none
section
variable {bx:Bool}{P:Program}{base:Nat}{w0 w1:World}{L1:Nat->Option K0}{n1 nt:Nat}
def Np:AE->Exit->Prop
 | .normal,.normal=>True
 | .exit i,.exit j=>i=j
 | .ret,.ret=>True
 |_,_=>False
def QOf(base:Nat)(w0 w1:World)(L1:Nat->Option K0)(n1 nt:Nat)(Q:AE->Jm->J8->Nat->Prop):Exit->Act->World->Prop:=
 λe a w=>∃ae s h n,Np ae e/\Q3 base w0 w1 L1 n1 nt s h n a w/\Q ae s h n
theorem Jf7:∀(c:Code) (ac:AC),Vx bx P nt c=some ac->∀(s:Jm) (h:J8) (n:Nat) (Q:AE->Jm->J8->Nat->Prop) (a:Act) (w:World),
 Q3 base w0 w1 L1 n1 nt s h n a w->Ig P ac s h n Q->c.wp P (QOf base w0 w1 L1 n1 nt Q) a w:=by
 intro c
 induction c with
 |skip=>
  intro ac hc s h n Q a w hr hK;simp only[Vx,Option.some.injEq]at hc;subst hc
  exact wp_skip ⟨.normal,s,h,n,trivial,hr,hK⟩
 |region id ops draw=>
  intro ac hc s h n Q a w hr hK;simp only[Vx]at hc;split at hc
  ·rename_i hd;subst hd;simp only[Option.map_eq_some_iff]at hc;obtain⟨t,ht,rfl⟩:=hc;exact J87 ht hr hK λs h n a w hr hQ=>⟨.normal,s,h,n,trivial,hr,hQ⟩
  ·rename_i hd;have hd:draw=false:=by simpa using hd
   subst hd;simp only[Option.map_eq_some_iff]at hc;obtain⟨os,hos,rfl⟩:=hc
   exact wp_region_list (Jbf ops ops.toList os hos s h n _ a w _ hr hK λs h n a w hr hQ=>⟨.normal,s,h,n,trivial,hr,hQ⟩)
 |seq x y ihx ihy=>
  intro ac hc s h n Q a w hr hK;simp only[Vx,Option.bind_eq_some_iff,Option.map_eq_some_iff]at hc;obtain⟨x',hx,y',hy,rfl⟩:=hc;refine wp_seq (wp_mono (ihx x' hx s h n _ a w hr hK) ?_);rintro e a w ⟨ae,s,h,n,he,hr,hq⟩;cases ae <;>cases e <;>simp only[Np]at he <;>simp only[Exit.then]
  ·exact ihy y' hy s h n Q a w hr hq
  ·subst he;exact⟨.exit _,s,h,n,rfl,hr,hq⟩
  ·exact⟨.ret,s,h,n,trivial,hr,hq⟩
 |cond c x y ihx ihy=>
  intro ac hc s h n Q a w hr hK;simp only[Vx,Option.bind_eq_some_iff,Option.map_eq_some_iff]at hc;obtain⟨c',hc',x',hx,y',hy,rfl⟩:=hc;have hr':=hr;obtain⟨hdf,hsz,L,F,H,hs,he⟩:=hr';have hv:=Xu hc' hs;simp only[Ig]at hK;split at hK
  ·rename_i b hb;have hv:=Rm hb hv;cases b
   ·exact wp_cond_false hv (ihy y' hy s h n Q a w hr (hK.2 rfl))
   ·exact wp_cond_true hv (ihx x' hx s h n Q a w hr (hK.1 rfl))
  ·exact hK.elim
 |block id x ih=>
  intro ac hc s h n Q a w hr hK;simp only[Vx,Option.map_eq_some_iff]at hc;obtain⟨x',hx,rfl⟩:=hc;refine wp_block (wp_mono (ih x' hx s h n _ a w hr hK) ?_);rintro e a w ⟨ae,s,h,n,he,hr,hq⟩;cases ae <;>cases e <;>simp only[Np]at he <;>simp only[Exit.inBlock]
  ·exact⟨.normal,s,h,n,trivial,hr,hq⟩
  ·subst he;simp only at hq;split
   ·rename_i hi;rw[if_pos hi]at hq;exact⟨.normal,s,h,n,trivial,hr,hq⟩
   ·rename_i hi;rw[if_neg hi]at hq;exact⟨.exit _,s,h,n,rfl,hr,hq⟩
  ·exact⟨.ret,s,h,n,trivial,hr,hq⟩
 |loop x ih=>
  intro ac hc s h n Q a w hr hK;simp only[Vx,Option.map_eq_some_iff]at hc;obtain⟨x',hx,rfl⟩:=hc;obtain⟨I,⟨k,hk⟩,hround⟩:=hK;refine wp_loop_ghost (λk a w=>∃s h n,Q3 base w0 w1 L1 n1 nt s h n a w/\I k s h n) k ⟨s,h,n,hr,hk⟩ ?_;rintro k a w ⟨s,h,n,hr,hk⟩;refine wp_mono (ih x' hx s h n _ a w hr (hround k s h n hk)) ?_;rintro e a w ⟨ae,s,h,n,he,hr,hq⟩;cases ae <;>cases e <;>simp only[Np]at he <;>simp only[Exit.then]
  ·obtain⟨k',hlt,hk'⟩:=hq;exact⟨k',hlt,s,h,n,hr,hk'⟩
  ·subst he;exact⟨.exit _,s,h,n,rfl,hr,hq⟩
  ·exact⟨.ret,s,h,n,trivial,hr,hq⟩
 |exit id=>
  intro ac hc s h n Q a w hr hK;simp only[Vx,Option.some.injEq]at hc;subst hc
  exact wp_exit ⟨.exit id,s,h,n,rfl,hr,hK⟩
 |ret=>
  intro ac hc s h n Q a w hr hK;simp only[Vx,Option.some.injEq]at hc;subst hc
  exact wp_ret ⟨.ret,s,h,n,trivial,hr,hK⟩
 |rangeFunc=>intro ac hc;simp[Vx]at hc
 |scope=>intro ac hc;simp[Vx]at hc
 |label=>intro ac hc;simp[Vx]at hc
 |goto=>intro ac hc;simp[Vx]at hc
 |refuse=>intro ac hc;simp[Vx]at hc
end
open Go Go.RowKit
inductive RV where
 |t (n:Nat)
 |c (n:Nat) (agg:Bool) (sz:Nat)
structure Jk where
 nt:Nat
 res:List RV
 body:AC
def Pm(P:Program):ResultVar->Option RV
 | .tmp t=>some (.t t)
 | .cell a t=>match He P t,P.info? t with
  |some g,some i=>some (.c a g i.size)
  |_,_=>Option.none
def Gh(bx:Bool)(P:Program)(fn:Func):Option Jk:=
 match fn.body with
 |some c=>(Vx bx P fn.ntmps c).bind λb=>(fn.results.toList.mapM (Pm P)).map λr=>⟨fn.ntmps,r,b⟩
 |Option.none=>Option.none
@[reducible] def Jf(P:Program)(fn:Func):Option Jk:=Gh false P fn
def N6(s:Jm)(h:J8):RV->Option AV
 | .t n=>some (s n)
 | .c n g sz=>match s n with
  | .ptr id r c=>match h id with
   |some B=>if r<B.rows.length then Un B.box g (W2 B.rows r) c sz else Option.none
   |Option.none=>Option.none
  |_=>Option.none
def H5(s:Jm)(h:J8):List RV->Option (List AV)
 | []=>some []
 |r::rs=>(N6 s h r).bind λx=>(H5 s h rs).map λxs=>x::xs
def H8(xs:List AV):AV:=match xs with | [x]=>x|xs=>.tup xs
def Fw(as:List AV):Jm:=λi=>as.getD i (.tup [])
def Jwv(P:Program)(f:Jk)(as:List AV)(h:J8)(n:Nat)(K:AV->J8->Nat->Prop):Prop:=
 as.length<=f.nt/\Ig P f.body (Fw as) h n λe s h n=>match e with
  | .exit _=>False
  |_=>Jt (H5 s h f.res) λxs=>K (H8 xs) h n
def Holds(P:Program)(f:FuncId)(as:List AV)(Q:AV->Prop):Prop:=
 Dn P f=true/\∀(w:World) (vs:List Value),Jx w Lo 0 as vs []->Calls P f vs.toArray w λe w'=>
  ∃(v:Value) (r:AV) (S:List Nat),e = .returned v/\Q r/\Xi r=true/\Below w.heap.size w w'/\VR w' Lo 0 r v S/\S.Nodup/\∀b∈S,w.heap.size<=b/\b<w'.heap.size
section
variable {bx:Bool}{P:Program}
theorem Jdp{w:World}{L:Nat->Option K0}{N:Nat}{as:List AV}{vs:List Value}(h:Jx w L N as vs [])(k:Nat):Xs w L N (Fw as) (vs.toArray++Array.replicate k undef):=by
 intro i;unfold Fw;have hl:=Vb h;by_cases hi:i<as.length
 ·obtain⟨v,g1,g2⟩:=Sa h (List.getElem?_eq_getElem hi);rw[List.getD_eq_getElem?_getD,List.getElem?_eq_getElem hi]
  have:(vs.toArray++Array.replicate k undef).getD i undef=v:=by rw[Array.getD_eq_getD_getElem?,Array.getElem?_append_left (by simp;omega)];simp[g1]
  rw[this];exact g2
 ·rw[List.getD_eq_getElem?_getD,List.getElem?_eq_none (by omega)]
  have:(vs.toArray++Array.replicate k undef).getD i undef=undef:=by rw[Array.getD_eq_getD_getElem?,Array.getElem?_append_right (by simp;omega),Array.getElem?_replicate];split <;>rfl
  rw[this];simp[VR,Jx,undef]
theorem J8t{G:ResultVar->Sem Value}{base:Nat}{w0 w:World}{L:Nat->Option K0}{N:Nat}{F:Nat->List Nat}{h:J8}{s:Jm}{tmps:Array Value}(hG1:∀t,G (.tmp t)=pure (tmps.getD t undef))(hG2:∀a t,G (.cell a t)=do loadVar t (<-asAddr (tmps.getD a undef)))(H:K1 base w0 w L N F [] h)(hs:Xs w L N s tmps){rv:ResultVar}{r:RV}{x:AV}
 (hc:Pm P rv=some r) (hx:N6 s h r=some x) :
 ∃v,(G rv).run P w = .ok v w/\VR w L N x v []:=by
 unfold Pm at hc;split at hc
 ·cases hc;simp only[N6,Option.some.injEq]at hx;subst hx;exact⟨_,by rw[hG1];rfl,hs _⟩
 ·split at hc
  ·rename_i a t _ _ g i hg hi;cases hc;simp only[N6]at hx;split at hx
   ·rename_i id r c hev;have hv:=hs a;rw[hev]at hv;split at hx
    ·rename_i B hB;split at hx
     ·rename_i hr;obtain⟨b,o,vs,S',he,g1,g2,g3⟩:=H.row hB hv hr
      have key:∃v,(loadVar t ⟨b,o+c,Option.none⟩).run P w = .ok v w/\VR w L N x v []:=by
       cases hbox:B.box
       ·rw[hbox]at hx g1;simp only[Bool.false_eq_true,if_false]at g1;obtain⟨v,e1,e2⟩:=Nq (P:=P) (L:=L) (N:=0) hg hi rfl (C8 _ _ _ g1) g2 (Jj6 hx);exact⟨v,e1,D3 ⟨Nat.zero_le _,λ_ _ hid=>absurd hid (Nat.not_lt_zero _),Nat.le_refl _,λ_ _ h=>⟨rfl,h⟩⟩ _ _ _ e2⟩
       ·rw[hbox]at hx g1;simp only[if_true]at g1;rw[g3 hbox]at g1;exact Nq hg hi rfl g1 g2 hx
      obtain⟨v,e1,e2⟩:=key;refine⟨v,?_,e2⟩;rw[hG2,he];simp[asAddr,e1]
     ·cases hx
    ·cases hx
   ·cases hx
  ·cases hc
theorem J39{G:ResultVar->Sem Value}{base:Nat}{w0 w:World}{L:Nat->Option K0}{N:Nat}{F:Nat->List Nat}{h:J8}{s:Jm}{tmps:Array Value}(hG1:∀t,G (.tmp t)=pure (tmps.getD t undef))(hG2:∀a t,G (.cell a t)=do loadVar t (<-asAddr (tmps.getD a undef)))(H:K1 base w0 w L N F [] h)(hs:Xs w L N s tmps) :
 ∀{rvs:List ResultVar}{rs:List RV}{xs:List AV},rvs.mapM (Pm P)=some rs->H5 s h rs=some xs ->
 ∃vs,(rvs.mapM G).run P w = .ok vs w/\Jx w L N xs vs []
 | [],rs,xs,hc,hx=>by
  simp at hc;subst hc;simp only[H5,Option.some.injEq]at hx;subst hx
  exact⟨[],by simp,rfl,rfl⟩
 |rv::rvs,rs,xs,hc,hx=>by rw[List.mapM_cons]at hc;simp only[Option.bind_eq_bind,Option.bind_eq_some_iff,Option.pure_def,Option.some.injEq]at hc;obtain⟨r,hr,rs',hrs,rfl⟩:=hc;simp only[H5,Option.bind_eq_some_iff,Option.map_eq_some_iff]at hx;obtain⟨x,hx1,xs',hx2,rfl⟩:=hx;obtain⟨v,e1,e2⟩:=J8t hG1 hG2 H hs hr hx1;obtain⟨vs,k1,k2⟩:=J39 hG1 hG2 H hs hrs hx2;refine⟨v::vs,?_,V1.2 ⟨v,vs,rfl,e2,k2⟩⟩;rw[List.mapM_cons,Sem.run_bind,e1];simp only[Result.andThen_ok,Sem.run_bind,k1];rfl
theorem J10{f:FuncId}{fn:Func}{af:Jk}{as:List AV}{h:J8}{n:Nat}{K:AV->J8->Nat->Prop}(hf:P.funcs[f]? = some fn)(hc:Gh bx P fn=some af) (hn:(fn.name == "runtime.NumGoroutine")=false)
 (hK:Jwv P af as h n K):X7 P f as h n K:=by
 unfold Gh at hc;split at hc
 ·rename_i c hb;simp only[Option.bind_eq_some_iff,Option.map_eq_some_iff]at hc;obtain⟨b,hbc,rs,hrs,rfl⟩:=hc;refine⟨by simp[Dn,hf,hb,hn],λbase w0 w L F vs H hv=>?_⟩;have hl:=Vb hv;obtain⟨hle,hK⟩:=hK;simp only at hle;refine calls_of_wp hf hb ?_
  have hrel:Q3 base w0 w L n fn.ntmps (Fw as) h n { tmps:=vs.toArray++Array.replicate (fn.ntmps - vs.toArray.size) undef,defers:=[] } w:=
   ⟨rfl,by simp;omega,L,F,H,Jdp hv _,Xa.refl _ _ _⟩
  refine wp_mono (Jf7 c b hbc _ _ _ _ _ _ hrel hK) ?_;rintro e a w' ⟨ae,s,h',n',he,⟨hdf,hsz,L',F',H',hs',Xy⟩,hq⟩
  have key:∀xs,H5 s h' rs=some xs->K (H8 xs) h' n'->∃v,(results fn a.tmps).run P w' = .ok v w'/\∃(v':Value) (r:AV) (L':Nat->Option K0) (n':Nat) (F':Nat->List Nat) (h':J8),Ending.returned v = .returned v' /\
   K1 base w0 w' L' n' F' [] h'/\Xa w L n w' L' n'/\VR w' L' n' r v' []/\K r h' n':=by
   intro xs hxs hk
   obtain⟨G,hG1,hG2,hG3⟩:∃G:ResultVar->Sem Value,(∀t,G (.tmp t)=pure (a.tmps.getD t undef))/\(∀a' t,G (.cell a' t)=do loadVar t (<-asAddr (a.tmps.getD a' undef))) /\
    results fn a.tmps=(do let vs <-fn.results.mapM G;pure (if h:vs.size=1 then vs[0]else .tuple vs)):=⟨_,λ_=>rfl,λ_ _=>rfl,rfl⟩
   obtain⟨us,e1,e2⟩:=J39 (P:=P) hG1 hG2 H' hs' hrs hxs
   have hm:(fn.results.mapM G).run P w' = .ok us.toArray w':=by rw[Array.mapM_eq_mapM_toList];simp only[map_eq_pure_bind,Sem.run_bind,e1,Result.andThen_ok,Sem.run_pure]
   have hul:=Vb e2;refine⟨if h:us.toArray.size=1 then us.toArray[0]else .tuple us.toArray,?_,_,H8 xs,L',n',F',h',rfl,H',Xy,?_,hk⟩
   ·rw[hG3,Sem.run_bind,hm];rfl
   ·match xs,us,e2,hul with
    | [],us,e2,hul=>
     have:us=[]:=List.eq_nil_of_length_eq_zero (by simpa using hul);subst this
     simp[H8,VR,Jx]
    | [x],us,e2,hul=>
     obtain⟨u,us',rfl,g1,g2⟩:=V1.1 e2;have:us'=[]:=List.eq_nil_of_length_eq_zero (by simpa using hul);subst this
     simpa[H8]using g1
    |x::y::xs,us,e2,hul=>
     have:¬us.toArray.size=1:=by simp;simp at hul;omega
     rw[dif_neg this];simp only[H8,VR];exact⟨_,rfl,by simpa using e2⟩
  cases ae <;>cases e <;>simp only[Np]at he <;>simp only[bodyPost]
  ·change Jt _ _ at hq;unfold Jt at hq;split at hq
   ·rename_i xs hxs;obtain⟨v,g1,g2⟩:=key xs hxs hq;exact⟨hdf,v,g1,g2⟩
   ·exact hq.elim
  ·exact hq.elim
  ·change Jt _ _ at hq;unfold Jt at hq;split at hq
   ·rename_i xs hxs;obtain⟨v,g1,g2⟩:=key xs hxs hq;exact⟨hdf,v,g1,g2⟩
   ·exact hq.elim
 ·cases hc
def Ga:J8:=λ_=>Option.none
theorem J3w{f:FuncId}{as:List AV}{Q:AV->Prop}(h:X7 P f as Ga 0 λr h _=>Jt (dt r h) λq=>Xi q.1=true/\Q q.1):Holds P f as Q:=by
 refine⟨h.1,λw vs hv=>?_⟩
 have H0:K1 w.heap.size w w Lo 0 (λ_=>[]) [] Ga:=
  ⟨Below.refl _ _,Nat.le_refl _,λ_ _=>rfl,λ_ _=>rfl,(λ_ _ h=>by cases h),(λ_ _ _ _ _ _ _ h=>by cases h),λb h=>absurd h (Ed b),(λ_ _ _ h=>by cases h),by simp,by simp,by simp,by simp,by simp,by simp⟩
 refine(h.2 w.heap.size w w Lo (λ_=>[]) vs H0 hv).mono ?_;rintro e w' ⟨v,r,L',n',F',h',rfl,H',Xy,hr,hq⟩;unfold Jt at hq;split at hq
 ·rename_i q hq';obtain⟨L2,F2,S,g1,g2,g3⟩:=J9m r H' hr hq';rw[append_nil]at g1;exact⟨v,q.1,S,rfl,hq.2,hq.1,H'.below,Tk q.1 v S hq.1 (λb _=>Ed b) g2,g1.ne,λb hb=>⟨(g1.ep b hb).2.1,(g1.ep b hb).2.2⟩⟩
 ·exact hq.elim
theorem J0i{f:FuncId}{as as':List AV}{h:J8}{n:Nat}{Q:AV->Prop}{K:AV->J8->Nat->Prop}(hh:Holds P f as' Q)(hb:U0 as h=some as')
 (hK:∀r,Q r->K (sub r n) (Wm h n (Xv r)) (n+(Xv r).length)):X7 P f as h n K:=by
 refine⟨hh.1,λbase w0 w L F vs H hv=>?_⟩;refine(hh.2 w vs (Eq H as hv hb)).mono ?_;rintro e w' ⟨v,r,S,rfl,hq,hcl,hbel,hr,hnd,hS⟩;obtain⟨L',F',g1,g2,g3⟩:=H.take hbel hcl hr hnd hS;exact⟨v,_,L',_,F',_,rfl,g1,g3,g2,hK r hq⟩
theorem J3o{f:FuncId}{as as':List AV}{h:J8}{n:Nat}{Q:AV->Prop}{K:AV->J8->Nat->Prop}(hh:Holds P f as' Q)(hb:U0 as h=some as')
 (hK:∀r,Q r->K (sub r n) (Wm h n (Xv r)) (n+(Xv r).length)):X7 P f as h n λr h' n'=>Xy h h'/\K r h' n':=by
 refine⟨hh.1,λbase w0 w L F vs H hv=>?_⟩;refine(hh.2 w vs (Eq H as hv hb)).mono ?_;rintro e w' ⟨v,r,S,rfl,hq,hcl,hbel,hr,hnd,hS⟩;obtain⟨L',F',g1,g2,g3⟩:=H.take hbel hcl hr hnd hS;refine⟨v,_,L',_,F',_,rfl,g1,g3,g2,λid B hB=>?_,hK r hq⟩
 have hlt:id<n:=by
  cases hl:L id with
  |none=>rw[H.mod id hl]at hB;cases hB
  |some l=>exact H.lt id l hl
 rw[Ee,if_neg (by omega)];exact hB
end
open Go Go.RowKit
def i64(n:Int):AV := .int .i64 n
def Jg(l:List Int):List (List AV):=l.map λn=>[i64 n]
def Mr(l:List Int):AV := .sl 1 (Jg l)
abbrev Xc:=AE->Jm->J8->Nat->Prop
inductive Kt where
 |seq (b:AC)
 |blk (id:Nat)
def Ju(P:Program):List Kt->AE->Jm->J8->Nat->Xc->Prop
 | [],e,s,h,n,Q=>Q e s h n
 | .seq b::ks,e,s,h,n,Q=>match e with
  | .normal=>Ig P b s h n λe s h n=>Ju P ks e s h n Q
  |e=>Ju P ks e s h n Q
 | .blk id::ks,e,s,h,n,Q=>match e with
  | .exit id'=>if id'=id then Ju P ks .normal s h n Q else Ju P ks (.exit id') s h n Q
  |e=>Ju P ks e s h n Q
def rC(P:Program)(a:AC)(ks:List Kt)(s:Jm)(h:J8)(n:Nat)(Q:Xc):Prop:=Ig P a s h n λe s h n=>Ju P ks e s h n Q
def rO(P:Program)(os:List AO)(ks:List Kt)(s:Jm)(h:J8)(n:Nat)(Q:Xc):Prop:=Qn P os s h n λs h n=>Ju P ks .normal s h n Q
def rD(P:Program)(t:DT)(ks:List Kt)(s:Jm)(h:J8)(n:Nat)(Q:Xc):Prop:=Yj P t s h n λs h n=>Ju P ks .normal s h n Q
def rL(P:Program)(a:AC)(ks:List Kt)(s:Jm)(h:J8)(n:Nat)(Q:Xc):Prop:=Jpv (Ig P a) s h n λe s h n=>Ju P ks e s h n Q
def Mj(P:Program)(os:List AO)(ks:List Kt)(d:Option Nat)(s:Jm)(Q:Xc)(r:AV)(h:J8)(n:Nat):Prop:=rO P os ks (Xq s d r) h n Q
def Na(P:Program)(t:DT)(ks:List Kt)(d:Option Nat)(s:Jm)(Q:Xc)(r:AV)(h:J8)(n:Nat):Prop:=rD P t ks (Xq s d r) h n Q
def Jkm(P:Program)(ps:List Xx)(t:DT)(ks:List Kt)(d:Option Nat)(s:Jm)(h0:J8)(Q:Xc)(r:AV)(h:J8)(n:Nat):Prop:=D9 ps s h0 h/\rD P t ks (Xq s d r) h n Q
def hK(h:J8)(K:AV->J8->Nat->Prop)(r:AV)(h':J8)(n':Nat):Prop:=Xy h h'/\K r h' n'
def Cv(res:List RV)(Q:AV->Prop):Xc:=λe s h _=>match e with
 | .exit _=>False
 |_=>Jt (H5 s h res) λxs=>Jt (dt (H8 xs) h) λq=>Xi q.1=true/\Q q.1
def gd(b want:Bool)(A B:Prop):Prop:=(b=want->A)/\(b = !want->B)
@[simp ↓] theorem K1w{A B:Prop} : gd true true A B=A:=by simp[gd]
@[simp ↓] theorem K20{A B:Prop} : gd false true A B=B:=by simp[gd]
@[simp ↓] theorem K1r{A B:Prop} : gd true false A B=B:=by simp[gd]
@[simp ↓] theorem K1u{A B:Prop} : gd false false A B=A:=by simp[gd]
@[simp] theorem K25{b:Bool}{A B:Prop} : gd b true A B=((b=true->A)/\(b=false->B)):=propext Iff.rfl
@[simp] theorem K24{b:Bool}{A B:Prop} : gd b false A B=((b=false->A)/\(b=true->B)):=propext Iff.rfl
def Jkt(v:AV)(A B:Prop):Prop:=match v with
 | .bool x=>gd x true A B
 |_=>False
@[simp ↓] theorem Jp8{x:Bool}{A B:Prop} : Jkt (.bool x) A B=gd x true A B:=rfl
def Ff(v:AV)(want:Bool)(A B C:Prop):Prop:=match v with
 | .bool b=>gd b want A B
 | .tup []=>C
 |_=>False
@[congr] theorem Jjy{v v':AV}{want:Bool}{A B C:Prop}(h:v=v'):Ff v want A B C=Ff v' want A B C:=by subst h;rfl
@[simp ↓] theorem Jnx{b want:Bool}{A B C:Prop} : Ff (.bool b) want A B C=gd b want A B:=rfl
@[simp ↓] theorem Joi{want:Bool}{A B C:Prop} : Ff (.tup []) want A B C=C:=rfl
section
variable {h:J8}{n:Nat}{K:AV->J8->Nat->Prop}
def Rn(agg:Bool)(sz:Nat)(v:AV)(h:J8)(n:Nat)(K:AV->J8->Nat->Prop):Prop:=match v with
 | .ptr id r c=>Jt (h id) λB=>r<B.rows.length/\Jt (Un B.box agg (W2 B.rows r) c sz) λa=>K a h n
 | .fptr row c=>Jt (Un true agg row c sz) λa=>K a h n
 |_=>False
@[simp ↓] theorem Jy9{agg:Bool}{sz id r c:Nat} : Rn agg sz (.ptr id r c) h n K=Jt (h id) λB=>r<B.rows.length/\Jt (Un B.box agg (W2 B.rows r) c sz) λa=>K a h n:=rfl
@[simp ↓] theorem Jtm{agg:Bool}{sz c:Nat}{row:List AV} : Rn agg sz (.fptr row c) h n K=Jt (Un true agg row c sz) λa=>K a h n:=rfl
def stV(sz:Nat)(v x:AV)(h:J8)(n:Nat)(K:AV->J8->Nat->Prop):Prop:=(cellsOf x).length=sz/\(cellsOf x).all K8=true/\match v with
 | .ptr id r c=>Jt (h id) λB=>
  if B.box then r<B.rows.length/\c+sz<=(W2 B.rows r).length/\K (.tup []) (upd h id (some ⟨true,B.sz,B.rows.set r (Ou (W2 B.rows r) c (cellsOf x))⟩)) n
  else Jt (Wq (cellsOf x) h) λq=>Jt (q.2 id) λB'=>B'.box=false/\r<B'.rows.length/\c+sz<=(W2 B'.rows r).length /\
   K (.tup []) (upd q.2 id (some ⟨false,B'.sz,B'.rows.set r (Ou (W2 B'.rows r) c q.1)⟩)) n
 |_=>False
@[simp ↓] theorem Jwy{sz id r c:Nat}{x:AV} : stV sz (.ptr id r c) x h n K=((cellsOf x).length=sz/\(cellsOf x).all K8=true/\Jt (h id) λB=>
 if B.box then r<B.rows.length/\c+sz<=(W2 B.rows r).length/\K (.tup []) (upd h id (some ⟨true,B.sz,B.rows.set r (Ou (W2 B.rows r) c (cellsOf x))⟩)) n
 else Jt (Wq (cellsOf x) h) λq=>Jt (q.2 id) λB'=>B'.box=false/\r<B'.rows.length/\c+sz<=(W2 B'.rows r).length /\
  K (.tup []) (upd q.2 id (some ⟨false,B'.sz,B'.rows.set r (Ou (W2 B'.rows r) c q.1)⟩)) n):=rfl
def Mt(op:BinOp)(x y:AV)(h:J8)(n:Nat)(K:AV->J8->Nat->Prop):Prop:=match x,y with
 | .int k a,.int k' b=>k=k'/\match op with
  | .quo=>b≠0/\K (.int k (k.wrap (a.tdiv b))) h n
  | .rem=>b≠0/\K (.int k (a.tmod b)) h n
  |_=>Jt (N7 op k a b) λr=>K r h n
 | .str a,.str b=>match op with
  | .add=>a.length+b.length<=Jb/\K (.str (a++b)) h n
  |_=>Jt (Ng op a b) λr=>K r h n
 |_,_=>False
@[congr] theorem Jon{op:BinOp}{x x' y y':AV}(hx:x=x')(hy:y=y'):Mt op x y h n K=Mt op x' y' h n K:=by subst hx hy;rfl
@[simp ↓] theorem Ju0{op:BinOp}{k k':IntKind}{a b:Int} : Mt op (.int k a) (.int k' b) h n K=(k=k'/\match op with
 | .quo=>b≠0/\K (.int k (k.wrap (a.tdiv b))) h n
 | .rem=>b≠0/\K (.int k (a.tmod b)) h n
 |op=>Jt (N7 op k a b) λr=>K r h n):=by cases op <;>rfl
@[simp ↓] theorem Jt5{op:BinOp}{a b:List UInt8} : Mt op (.str a) (.str b) h n K=(match op with
 | .add=>a.length+b.length<=Jb/\K (.str (a++b)) h n
 |op=>Jt (Ng op a b) λr=>K r h n):=by cases op <;>rfl
def Jzy(neg:Bool)(x y:AV)(h:J8)(n:Nat)(K:AV->J8->Nat->Prop):Prop:=match x,y with
 | .bool a,.bool b=>K (.bool (if neg then !(a==b)else a==b)) h n
 |_,_=>False
@[simp ↓] theorem Jre{neg a b:Bool} : Jzy neg (.bool a) (.bool b) h n K=K (.bool (if neg then !(a==b)else a==b)) h n:=rfl
def Tc(op:UnOp)(x:AV)(h:J8)(n:Nat)(K:AV->J8->Nat->Prop):Prop:=match op,x with
 | .not,.bool b=>K (.bool (!b)) h n
 | .neg,.int k a=>K (.int k (k.wrap (0 - a))) h n
 |_,_=>False
@[simp ↓] theorem Jz0{b:Bool} : Tc .not (.bool b) h n K=K (.bool (!b)) h n:=rfl
@[simp ↓] theorem Jy7{k:IntKind}{a:Int} : Tc .neg (.int k a) h n K=K (.int k (k.wrap (0 - a))) h n:=rfl
def Nb(str:Bool)(sz:Nat)(x:AV)(s:Jm)(lo hi:Option Jz)(h:J8)(n:Nat)(K:AV->J8->Nat->Prop):Prop:=match str,x with
 |true,.str l=>Jt (Yx s 0 lo) λa=>Jt (Yx s l.length hi) λb=>0<=a/\a<=b/\b<=l.length/\K (.str ((l.take b.toNat).drop a.toNat)) h n
 |false,.sl sz' rows=>Jt (Yx s 0 lo) λa=>Jt (Yx s rows.length hi) λb=>sz'=sz/\0<=a/\a<=b/\b<=rows.length/\K (.sl sz' ((rows.take b.toNat).drop a.toNat)) h n
 |false,.ref id off len=>Jt (Yx s 0 lo) λa=>Jt (Yx s len hi) λb=>0<=a/\a<=b/\b<=len/\Jt (h id) λB=>B.sz=sz/\K (.ref id (off+a.toNat) (b - a).toNat) h n
 |false,.nil sz'=>Jt (Yx s 0 lo) λa=>Jt (Yx s 0 hi) λb=>a=0/\b=0/\K (.nil sz') h n
 |_,_=>False
@[simp ↓] theorem Jsz{sz:Nat}{l:List UInt8}{s:Jm}{lo hi:Option Jz} : Nb true sz (.str l) s lo hi h n K=Jt (Yx s 0 lo) λa=>Jt (Yx s l.length hi) λb=>0<=a/\a<=b/\b<=l.length/\K (.str ((l.take b.toNat).drop a.toNat)) h n:=rfl
@[simp ↓] theorem Jxj{sz sz':Nat}{rows:List (List AV)}{s:Jm}{lo hi:Option Jz} : Nb false sz (.sl sz' rows) s lo hi h n K=Jt (Yx s 0 lo) λa=>Jt (Yx s rows.length hi) λb=>sz'=sz/\0<=a/\a<=b/\b<=rows.length/\K (.sl sz' ((rows.take b.toNat).drop a.toNat)) h n:=rfl
@[simp ↓] theorem Juj{sz id off len:Nat}{s:Jm}{lo hi:Option Jz} : Nb false sz (.ref id off len) s lo hi h n K=Jt (Yx s 0 lo) λa=>Jt (Yx s len hi) λb=>0<=a/\a<=b/\b<=len/\Jt (h id) λB=>B.sz=sz/\K (.ref id (off+a.toNat) (b - a).toNat) h n:=rfl
@[simp ↓] theorem Juy{sz sz':Nat}{s:Jm}{lo hi:Option Jz} : Nb false sz (.nil sz') s lo hi h n K=Jt (Yx s 0 lo) λa=>Jt (Yx s 0 hi) λb=>a=0/\b=0/\K (.nil sz') h n:=rfl
def Jw8(off:Nat)(x:AV)(h:J8)(n:Nat)(K:AV->J8->Nat->Prop):Prop:=match x with
 | .ptr id r c=>(h id).isSome=true/\K (.ptr id r (c+off)) h n
 | .fptr row c=>K (.fptr row (c+off)) h n
 |_=>False
@[simp ↓] theorem Juv{off id r c:Nat} : Jw8 off (.ptr id r c) h n K=((h id).isSome=true/\K (.ptr id r (c+off)) h n):=rfl
@[simp ↓] theorem Jry{off c:Nat}{row:List AV} : Jw8 off (.fptr row c) h n K=K (.fptr row (c+off)) h n:=rfl
def N0(sz:Nat)(x:AV)(i:Option Int)(h:J8)(n:Nat)(K:AV->J8->Nat->Prop):Prop:=match x,i with
 | .sl sz' rows,some i=>sz'=sz/\0<=i/\i<rows.length/\K (.fptr (W2 rows i.toNat) 0) h n
 | .ref id off len,some i=>0<=i/\i<len/\Jt (h id) λB=>B.sz=sz/\K (.ptr id (off+i.toNat) 0) h n
 |_,_=>False
@[simp ↓] theorem Jx7{sz sz':Nat}{rows:List (List AV)}{i:Int} : N0 sz (.sl sz' rows) (some i) h n K=(sz'=sz/\0<=i/\i<rows.length/\K (.fptr (W2 rows i.toNat) 0) h n):=rfl
@[simp ↓] theorem Jvh{sz id off len:Nat}{i:Int} : N0 sz (.ref id off len) (some i) h n K=(0<=i/\i<len/\Jt (h id) λB=>B.sz=sz/\K (.ptr id (off+i.toNat) 0) h n):=rfl
def Jzv(x:AV)(i:Option Int)(h:J8)(n:Nat)(K:AV->J8->Nat->Prop):Prop:=match x,i with
 | .str l,some i=>0<=i/\i<l.length/\K (.int .u8 (l.getD i.toNat 0).toNat) h n
 |_,_=>False
@[simp ↓] theorem Jvg{l:List UInt8}{i:Int} : Jzv (.str l) (some i) h n K=(0<=i/\i<l.length/\K (.int .u8 (l.getD i.toNat 0).toNat) h n):=rfl
def Jzu(x:AV)(i:Nat)(h:J8)(n:Nat)(K:AV->J8->Nat->Prop):Prop:=match x with
 | .tup vs=>Jt vs[i]? λa=>K a h n
 |_=>False
@[simp ↓] theorem Jv9{vs:List AV}{i:Nat} : Jzu (.tup vs) i h n K=Jt vs[i]? λa=>K a h n:=rfl
def Jkf(P:Program)(v:AV)(as:List AV)(h:J8)(n:Nat)(K:AV->J8->Nat->Prop):Prop:=match v with
 | .fn (.func f) fi ca=>X7 P f (fi++as++ca) h n K
 |_=>False
@[simp ↓] theorem Jua{P:Program}{f:FuncId}{fi ca as:List AV} : Jkf P (.fn (.func f) fi ca) as h n K=X7 P f (fi++as++ca) h n K:=rfl
def Fr(str:Bool)(v:AV)(h:J8)(n:Nat)(K:AV->J8->Nat->Prop):Prop:=match str,v with
 |true,.str l=>l.length<=Jb->K (.int .i64 l.length) h n
 |false,.sl _ rows=>rows.length<=Jb->K (.int .i64 rows.length) h n
 |false,.ref id _ len=>(h id).isSome=true/\(len<=Jb->K (.int .i64 len) h n)
 |false,.nil _=>K (.int .i64 0) h n
 |_,_=>False
@[simp ↓] theorem Jtd{l:List UInt8} : Fr true (.str l) h n K=(l.length<=Jb->K (.int .i64 l.length) h n):=rfl
@[simp ↓] theorem Jzf{sz:Nat}{rows:List (List AV)} : Fr false (.sl sz rows) h n K=(rows.length<=Jb->K (.int .i64 rows.length) h n):=rfl
@[simp ↓] theorem Jga{id off len:Nat} : Fr false (.ref id off len) h n K=((h id).isSome=true/\(len<=Jb->K (.int .i64 len) h n)):=rfl
@[simp ↓] theorem Juo{sz:Nat} : Fr false (.nil sz) h n K=K (.int .i64 0) h n:=rfl
def Cg(str:Bool)(v:AV)(h:J8)(n:Nat)(K:AV->J8->Nat->Prop):Prop:=match str,v with
 |true,.str l=>K (.int .i64 l.length) h n
 |false,.sl _ rows=>K (.int .i64 rows.length) h n
 |false,.ref id _ len=>(h id).isSome=true/\K (.int .i64 len) h n
 |false,.nil _=>K (.int .i64 0) h n
 |_,_=>False
@[simp ↓] theorem Jv6{l:List UInt8} : Cg true (.str l) h n K=K (.int .i64 l.length) h n:=rfl
@[simp ↓] theorem Jz8{sz:Nat}{rows:List (List AV)} : Cg false (.sl sz rows) h n K=K (.int .i64 rows.length) h n:=rfl
@[simp ↓] theorem Jut{id off len:Nat} : Cg false (.ref id off len) h n K=((h id).isSome=true/\K (.int .i64 len) h n):=rfl
@[simp ↓] theorem Jui{sz:Nat} : Cg false (.nil sz) h n K=K (.int .i64 0) h n:=rfl
def Jks(id:Nat)(y:AV):Prop:=match y with | .ref id2 _ _=>id2≠id|_=>True
def F3(bytes sz:Nat)(x y:AV)(h:J8)(n:Nat)(K:AV->J8->Nat->Prop):Prop:=match x with
 | .nil _=>Jt (G6 h y) λp=>p.1=sz/\(p.2.1.length*bytes<=Jb)/\K (.ref n 0 p.2.1.length) (upd p.2.2 n (some ⟨false,sz,p.2.1⟩)) (n+1)
 | .ref id off len=>off=0/\Jt (G6 h y) λp=>Jt (h id) λB=>B.box=false/\B.sz=sz/\len<=B.rows.length/\p.1=sz /\
  Jks id y/\((len+p.2.1.length)*bytes<=Jb) /\
  K (.ref n 0 (len+p.2.1.length)) (upd (upd p.2.2 id Option.none) n (some ⟨false,sz,B.rows.take len++p.2.1⟩)) (n+1)
 |_=>False
@[congr] theorem Jog{bytes sz:Nat}{x x' y y':AV}(hx:x=x')(hy:y=y'):F3 bytes sz x y h n K=F3 bytes sz x' y' h n K:=by subst hx hy;rfl
@[simp ↓] theorem Ju8{bytes sz z:Nat}{y:AV} : F3 bytes sz (.nil z) y h n K=Jt (G6 h y) λp=>p.1=sz/\(p.2.1.length*bytes<=Jb)/\K (.ref n 0 p.2.1.length) (upd p.2.2 n (some ⟨false,sz,p.2.1⟩)) (n+1):=rfl
@[simp ↓] theorem Jt1{bytes sz id off len:Nat}{y:AV} : F3 bytes sz (.ref id off len) y h n K=(off=0/\Jt (G6 h y) λp=>Jt (h id) λB=>B.box=false/\B.sz=sz/\len<=B.rows.length/\p.1=sz /\
 Jks id y/\((len+p.2.1.length)*bytes<=Jb) /\
 K (.ref n 0 (len+p.2.1.length)) (upd (upd p.2.2 id Option.none) n (some ⟨false,sz,B.rows.take len++p.2.1⟩)) (n+1)):=rfl
def Jzl(mx:Bool)(x y:AV)(h:J8)(n:Nat)(K:AV->J8->Nat->Prop):Prop:=match x,y with
 | .int k a,.int k' b=>k=k'/\K (.int k (if mx then(if b>a then b else a)else(if b<a then b else a))) h n
 |_,_=>False
@[simp ↓] theorem Jv4{mx:Bool}{k k':IntKind}{a b:Int} : Jzl mx (.int k a) (.int k' b) h n K=(k=k'/\K (.int k (if mx then(if b>a then b else a)else(if b<a then b else a))) h n):=rfl
def So(neg:Bool)(x:AV)(h:J8)(n:Nat)(K:AV->J8->Nat->Prop):Prop:=match x with
 | .sl _ rows=>(rows=[]->K (.bool (!neg)) h n)/\K (.bool neg) h n
 | .nil _=>K (.bool (!neg)) h n
 | .ref id _ len=>(h id).isSome=true/\(len=0->K (.bool (!neg)) h n)/\K (.bool neg) h n
 |_=>False
@[simp ↓] theorem Jvn{neg:Bool}{sz:Nat}{rows:List (List AV)} : So neg (.sl sz rows) h n K=((rows=[]->K (.bool (!neg)) h n)/\K (.bool neg) h n):=rfl
@[simp ↓] theorem Jsr{neg:Bool}{sz:Nat} : So neg (.nil sz) h n K=K (.bool (!neg)) h n:=rfl
@[simp ↓] theorem Js1{neg:Bool}{id off len:Nat} : So neg (.ref id off len) h n K=((h id).isSome=true/\(len=0->K (.bool (!neg)) h n)/\K (.bool neg) h n):=rfl
def Pf(bytes sz:Nat)(x y:AV)(h:J8)(n:Nat)(K:AV->J8->Nat->Prop):Prop:=match x with
 | .nil _=>Jt (Iq h y) λp=>p.1=sz/\(p.2.length*bytes<=Jb)/\K (.ref n 0 p.2.length) (upd h n (some ⟨true,sz,p.2⟩)) (n+1)
 | .ref id off len=>off=0/\Jt (Iq h y) λp=>Jt (h id) λB=>B.box=true/\B.sz=sz/\len<=B.rows.length/\p.1=sz/\((len+p.2.length)*bytes<=Jb) /\
  K (.ref n 0 (len+p.2.length)) (upd (upd h id Option.none) n (some ⟨true,sz,B.rows.take len++p.2⟩)) (n+1)
 |_=>False
@[simp ↓] theorem Jes{bytes sz z:Nat}{y:AV} : Pf bytes sz (.nil z) y h n K=Jt (Iq h y) λp=>p.1=sz/\(p.2.length*bytes<=Jb)/\K (.ref n 0 p.2.length) (upd h n (some ⟨true,sz,p.2⟩)) (n+1):=rfl
@[simp ↓] theorem Jdh{bytes sz id off len:Nat}{y:AV} : Pf bytes sz (.ref id off len) y h n K=(off=0/\Jt (Iq h y) λp=>Jt (h id) λB=>B.box=true/\B.sz=sz/\len<=B.rows.length/\p.1=sz/\((len+p.2.length)*bytes<=Jb) /\
 K (.ref n 0 (len+p.2.length)) (upd (upd h id Option.none) n (some ⟨true,sz,B.rows.take len++p.2⟩)) (n+1)):=rfl
def Jq0(z x k:AV)(h:J8)(n:Nat)(K:AV->J8->Nat->Prop):Prop:=match x,k with
 | .mp id,.str key=>Jt (h id) λB=>K ((Od B.rows key).getD z) h n
 |_,_=>False
@[simp ↓] theorem Jt7{z:AV}{id:Nat}{key:List UInt8} : Jq0 z (.mp id) (.str key) h n K=Jt (h id) λB=>K ((Od B.rows key).getD z) h n:=rfl
def Jpu(x k v:AV)(h:J8)(n:Nat)(K:AV->J8->Nat->Prop):Prop:=match x,k with
 | .mp id,.str key=>Jt (h id) λB=>K (.tup []) (upd h id (some ⟨true,0,Bd B.rows key v⟩)) n
 |_,_=>False
@[simp ↓] theorem Jvb{v:AV}{id:Nat}{key:List UInt8} : Jpu (.mp id) (.str key) v h n K=Jt (h id) λB=>K (.tup []) (upd h id (some ⟨true,0,Bd B.rows key v⟩)) n:=rfl
variable {P:Program}{s:Jm}
@[simp ↓] theorem Juw{sz:Nat}{ps:List Jz} : Jj P s h n K (.bslb sz ps)=((ps.all λp=>(cellsOf (ev s p)).length==sz&&(cellsOf (ev s p)).all K8)=true /\
 K (.ref n 0 ps.length) (upd h n (some ⟨true,sz,ps.map λp=>cellsOf (ev s p)⟩)) (n+1)):=propext Iff.rfl
@[simp ↓] theorem Jsy{bytes sz:Nat}{x y:Jz} : Jj P s h n K (.appb bytes sz x y)=Pf bytes sz (ev s x) (ev s y) h n K:=propext Iff.rfl
@[simp ↓] theorem Jzh:Jj P s h n K .mmk=K (.mp n) (upd h n (some ⟨true,0,[]⟩)) (n+1):=propext Iff.rfl
@[simp ↓] theorem Juk{z:AV}{x k:Jz} : Jj P s h n K (.mget z x k)=Jq0 z (ev s x) (ev s k) h n K:=propext Iff.rfl
@[simp ↓] theorem Jtl{x k v:Jz} : Jj P s h n K (.mput x k v)=Jpu (ev s x) (ev s k) (ev s v) h n K:=propext Iff.rfl
@[simp ↓] theorem Jtt{neg:Bool}{x:Jz} : Jj P s h n K (.inil neg x)=So neg (ev s x) h n K:=propext Iff.rfl
@[simp ↓] theorem K0k{x:Jz} : Jj P s h n K (.mv x)=K (ev s x) h n:=propext Iff.rfl
@[simp ↓] theorem Jx1{z:List AV} : Jj P s h n K (.box z)=K (.ptr n 0 0) (upd h n (some ⟨true,z.length,[z]⟩)) (n+1):=propext Iff.rfl
@[simp ↓] theorem Jum{x:Jz} : Jj P s h n K (.boxv x)=(0<(cellsOf (ev s x)).length/\(cellsOf (ev s x)).all K8=true/\K (.ptr n 0 0) (upd h n (some ⟨true,(cellsOf (ev s x)).length,[cellsOf (ev s x)]⟩)) (n+1)):=propext Iff.rfl
@[simp ↓] theorem Jsc{z:List AV}{ps:List (Nat×Nat×Jz)} : Jj P s h n K (.build z ps)=((ps.all λp=>(cellsOf (ev s p.2.2)).all K8)=true/\Jt (Fs z (ps.map λp=>(p.1,p.2.1,ev s p.2.2))) λcs=>K (.agg cs) h n):=propext Iff.rfl
@[simp ↓] theorem Jza{sz:Nat}{ps:List Jz} : Jj P s h n K (.bsl sz ps)=Jt (Wq (ps.map (ev s)) h) λq=>(q.1.all λa=>(cellsOf a).length==sz&&(cellsOf a).all K8)=true /\
 K (.ref n 0 ps.length) (upd q.2 n (some ⟨false,sz,q.1.map cellsOf⟩)) (n+1):=propext Iff.rfl
@[simp ↓] theorem K0e{agg:Bool}{sz:Nat}{x:Jz} : Jj P s h n K (.ld agg sz x)=Rn agg sz (ev s x) h n K:=propext Iff.rfl
@[simp ↓] theorem K12{sz:Nat}{a x:Jz} : Jj P s h n K (.st sz a x)=stV sz (ev s a) (ev s x) h n K:=propext Iff.rfl
@[simp ↓] theorem Jx0{op:BinOp}{x y:Jz} : Jj P s h n K (.bin op x y)=Mt op (ev s x) (ev s y) h n K:=propext Iff.rfl
@[simp ↓] theorem Jyw{neg:Bool}{x y:Jz} : Jj P s h n K (.beq neg x y)=Jzy neg (ev s x) (ev s y) h n K:=propext Iff.rfl
@[simp ↓] theorem K0o{op:UnOp}{x:Jz} : Jj P s h n K (.un op x)=Tc op (ev s x) h n K:=propext Iff.rfl
@[simp ↓] theorem Jxs{k:IntKind}{x:Jz} : Jj P s h n K (.cvi k x)=Jt (Vz (ev s x)) λa=>K (.int k (k.wrap a)) h n:=propext Iff.rfl
@[simp ↓] theorem Jyt{x:Jz} : Jj P s h n K (.cvb x)=Jt (G6 h (ev s x)) λp=>Jt (bytesOf p.2.1) λl=>K (.str l) h n:=propext Iff.rfl
@[simp ↓] theorem Jzg{f:Fn}{fi ca:List Jz} : Jj P s h n K (.mkf f fi ca)=K (.fn f (fi.map (ev s)) (ca.map (ev s))) h n:=propext Iff.rfl
@[simp ↓] theorem Jxq{bytes:Nat}{z:List AV}{l c:Jz} : Jj P s h n K (.mks bytes z l c)=Jt (Vz (ev s l)) λl=>Jt (Vz (ev s c)) λc=>0<=l/\l<=c/\c*bytes<=Jb /\
 K (.ref n 0 l.toNat) (upd h n (some ⟨false,z.length,List.replicate l.toNat z⟩)) (n+1):=propext Iff.rfl
@[simp ↓] theorem Jxm{str:Bool}{sz:Nat}{x:Jz}{lo hi:Option Jz} : Jj P s h n K (.slc str sz x lo hi)=Nb str sz (ev s x) s lo hi h n K:=propext Iff.rfl
@[simp ↓] theorem Jy1{off:Nat}{x:Jz} : Jj P s h n K (.fld off x)=Jw8 off (ev s x) h n K:=propext Iff.rfl
@[simp ↓] theorem Jyv{sz:Nat}{x i:Jz} : Jj P s h n K (.ixa sz x i)=N0 sz (ev s x) (Vz (ev s i)) h n K:=propext Iff.rfl
@[simp ↓] theorem Jz7{x i:Jz} : Jj P s h n K (.ixs x i)=Jzv (ev s x) (Vz (ev s i)) h n K:=propext Iff.rfl
@[simp ↓] theorem Jz1{x:Jz}{i:Nat} : Jj P s h n K (.ext x i)=Jzu (ev s x) i h n K:=propext Iff.rfl
@[simp ↓] theorem Jt2{f:Jz}{args:List Jz} : Jj P s h n K (.call f args)=Jkf P (ev s f) (args.map (ev s)) h n K:=propext Iff.rfl
@[simp ↓] theorem Jxl{str:Bool}{x:Jz} : Jj P s h n K (.len str x)=Fr str (ev s x) h n K:=propext Iff.rfl
@[simp ↓] theorem Jx5{bytes sz:Nat}{x y:Jz} : Jj P s h n K (.app bytes sz x y)=F3 bytes sz (ev s x) (ev s y) h n K:=propext Iff.rfl
@[simp ↓] theorem Jxv{mx:Bool}{x y:Jz} : Jj P s h n K (.mnx mx x y)=Jzl mx (ev s x) (ev s y) h n K:=propext Iff.rfl
end
section
variable {P:Program}{s s':Jm}{h h':J8}{n n':Nat}{ks:List Kt}{Q:Xc}
@[congr] theorem Jsb{α:Type}{x x':Option α}{K:α->Prop}(hs:x=x'):Jt x K=Jt x' K:=by subst hs;rfl
@[simp ↓] theorem Jv7{α:Type}{a:α}{K:α->Prop} : Jt (some a) K=K a:=propext Iff.rfl
@[simp ↓] theorem Jt8{α:Type}{K:α->Prop} : Jt Option.none K=False:=propext Iff.rfl
@[simp ↓] theorem Jc4:rC P .skip ks s h n Q=Ju P ks .normal s h n Q:=propext Iff.rfl
@[simp ↓] theorem K08{os:List AO} : rC P (.reg os) ks s h n Q=rO P os ks s h n Q:=propext Iff.rfl
@[simp ↓] theorem Gg{a b:AC} : rC P (.seq a b) ks s h n Q=rC P a (.seq b::ks) s h n Q:=by simp only[rC,Ig];congr
@[simp ↓] theorem Jqm{id:Nat}{a:AC} : rC P (.blk id a) ks s h n Q=rC P a (.blk id::ks) s h n Q:=by simp only[rC,Ig];congr
@[simp ↓] theorem Jd8{a:AC} : rC P (.loop a) ks s h n Q=rL P a ks s h n Q:=propext Iff.rfl
@[simp ↓] theorem Jxf{id:Nat} : rC P (.exit id) ks s h n Q=Ju P ks (.exit id) s h n Q:=propext Iff.rfl
@[simp ↓] theorem K10:rC P .ret ks s h n Q=Ju P ks .ret s h n Q:=propext Iff.rfl
@[simp ↓] theorem Jy4{t:DT} : rC P (.draw t) ks s h n Q=rD P t ks s h n Q:=propext Iff.rfl
@[simp ↓] theorem C1{c:Jz}{a b:AC} : rC P (.cond c a b) ks s h n Q=Jkt (ev s c) (rC P a ks s h n Q) (rC P b ks s h n Q):=propext Iff.rfl
@[simp ↓] theorem Rw{e:AE} : Ju P [] e s h n Q=Q e s h n:=propext Iff.rfl
@[simp ↓] theorem Qb{b:AC} : Ju P (.seq b::ks) .normal s h n Q=rC P b ks s h n Q:=propext Iff.rfl
@[simp ↓] theorem Pv{b:AC} : Ju P (.seq b::ks) .ret s h n Q=Ju P ks .ret s h n Q:=propext Iff.rfl
@[simp ↓] theorem Jj0{b:AC}{i:Nat} : Ju P (.seq b::ks) (.exit i) s h n Q=Ju P ks (.exit i) s h n Q:=propext Iff.rfl
@[simp ↓] theorem Jvj{i:Nat} : Ju P (.blk i::ks) .normal s h n Q=Ju P ks .normal s h n Q:=propext Iff.rfl
@[simp ↓] theorem Jk4{i:Nat} : Ju P (.blk i::ks) .ret s h n Q=Ju P ks .ret s h n Q:=propext Iff.rfl
@[simp ↓] theorem Jin{i j:Nat} : Ju P (.blk i::ks) (.exit j) s h n Q=if j=i then Ju P ks .normal s h n Q else Ju P ks (.exit j) s h n Q:=propext Iff.rfl
@[simp ↓] theorem K01:rO P [] ks s h n Q=Ju P ks .normal s h n Q:=propext Iff.rfl
@[simp ↓] theorem Jz3{d:Option Nat}{op:Xx}{os:List AO} : rO P (⟨d,op,Option.none⟩::os) ks s h n Q=Jj P s h n (Mj P os ks d s Q) op:=propext Iff.rfl
@[simp ↓] theorem Sm{d:Option Nat}{op:Xx}{j:Nat}{want:Bool}{os:List AO} : rO P (⟨d,op,some (j,want)⟩::os) ks s h n Q=Ff (s j) want (Jj P (upd s j (.bool want)) h n (Mj P os ks d (upd s j (.bool want)) Q) op) (rO P os ks (Xq (upd s j (.bool (!want))) d (.tup [])) h n Q) (rO P os ks (Xq s d (.tup [])) h n Q):=propext Iff.rfl
@[simp ↓] theorem Jtu{os:List AO}{d:Option Nat}{r:AV} : Mj P os ks d s Q r h n=rO P os ks (Xq s d r) h n Q:=propext Iff.rfl
@[simp ↓] theorem K0u:rD P .fin ks s h n Q=Ju P ks .normal s h n Q:=propext Iff.rfl
@[simp ↓] theorem Jtr:rD P .stuck ks s h n Q=False:=propext Iff.rfl
@[simp ↓] theorem Jwz{a b:DT} : rD P (.both a b) ks s h n Q=(rD P a ks s h n Q/\rD P b ks s h n Q):=propext Iff.rfl
@[simp ↓] theorem K1v{d:Option Nat}{op:Xx}{t:DT} : rD P (.op ⟨d,op,Option.none⟩ t) ks s h n Q=Xr P s h n (Na P t ks d s Q) op:=propext Iff.rfl
@[simp ↓] theorem P1{d:Option Nat}{op:Xx}{j:Nat}{want:Bool}{t:DT} : rD P (.op ⟨d,op,some (j,want)⟩ t) ks s h n Q=Ff (s j) want (Xr P (upd s j (.bool want)) h n (Na P t ks d (upd s j (.bool want)) Q) op) (rD P t ks (Xq (upd s j (.bool (!want))) d (.tup [])) h n Q) (rD P t ks (Xq s d (.tup [])) h n Q):=propext Iff.rfl
@[simp ↓ high] theorem K0z{d:Option Nat}{op:Xx}{j:Nat}{os:List AO}(hj:s j = .bool true):rO P (⟨d,op,some (j,true)⟩::os) ks s h n Q=Jj P s h n (Mj P os ks d s Q) op:=by rw[Sm,hj];simp[I8 hj]
@[simp ↓ high] theorem K0q{d:Option Nat}{op:Xx}{j:Nat}{t:DT}(hj:s j = .bool true):rD P (.op ⟨d,op,some (j,true)⟩ t) ks s h n Q=Xr P s h n (Na P t ks d s Q) op:=by rw[P1,hj];simp[I8 hj]
@[simp ↓ high] theorem K02{d:Option Nat}{op:Xx}{j:Nat}{os:List AO}(hj:s j = .bool false):rO P (⟨d,op,some (j,true)⟩::os) ks s h n Q=rO P os ks (Xq s d (.tup [])) h n Q:=by rw[Sm,hj];simp[I8 hj]
@[simp ↓ high] theorem K1e{d:Option Nat}{op:Xx}{j:Nat}{t:DT}(hj:s j = .bool false):rD P (.op ⟨d,op,some (j,true)⟩ t) ks s h n Q=rD P t ks (Xq s d (.tup [])) h n Q:=by rw[P1,hj];simp[I8 hj]
@[simp ↓ high] theorem K0j{d:Option Nat}{op:Xx}{j:Nat}{os:List AO}(hj:s j = .bool true):rO P (⟨d,op,some (j,false)⟩::os) ks s h n Q=rO P os ks (Xq s d (.tup [])) h n Q:=by rw[Sm,hj];simp[I8 hj]
@[simp ↓ high] theorem K0a{d:Option Nat}{op:Xx}{j:Nat}{t:DT}(hj:s j = .bool true):rD P (.op ⟨d,op,some (j,false)⟩ t) ks s h n Q=rD P t ks (Xq s d (.tup [])) h n Q:=by rw[P1,hj];simp[I8 hj]
@[simp ↓ high] theorem K0p{d:Option Nat}{op:Xx}{j:Nat}{os:List AO}(hj:s j = .bool false):rO P (⟨d,op,some (j,false)⟩::os) ks s h n Q=Jj P s h n (Mj P os ks d s Q) op:=by rw[Sm,hj];simp[I8 hj]
@[simp ↓ high] theorem K18{d:Option Nat}{op:Xx}{j:Nat}{t:DT}(hj:s j = .bool false):rD P (.op ⟨d,op,some (j,false)⟩ t) ks s h n Q=Xr P s h n (Na P t ks d s Q) op:=by rw[P1,hj];simp[I8 hj]
@[simp ↓] theorem Jzz{d:Option Nat}{op:Xx}{ps:List Xx}{t:DT} : rD P (.hop ⟨d,op,Option.none⟩ ps t) ks s h n Q=Xr P s h n (Jkm P ps t ks d s h Q) op:=propext Iff.rfl
@[simp ↓] theorem Jss{d:Option Nat}{op:Xx}{ps:List Xx}{j:Nat}{want:Bool}{t:DT} : rD P (.hop ⟨d,op,some (j,want)⟩ ps t) ks s h n Q=Ff (s j) want (Xr P (upd s j (.bool want)) h n (Jkm P ps t ks d (upd s j (.bool want)) h Q) op) (rD P t ks (Xq (upd s j (.bool (!want))) d (.tup [])) h n Q) (rD P t ks (Xq s d (.tup [])) h n Q):=propext Iff.rfl
@[simp ↓] theorem Ju5{ps:List Xx}{t:DT}{d:Option Nat}{h0:J8}{r:AV} : Jkm P ps t ks d s h0 Q r h n=(D9 ps s h0 h/\rD P t ks (Xq s d r) h n Q):=propext Iff.rfl
@[simp] theorem Jst{h0:J8} : D9 [] s h0 h=True:=by simp[D9]
@[simp] theorem Jpj{h0:J8}{p:Xx}{ps:List Xx} : D9 (p::ps) s h0 h=(keepL s h0 h p/\D9 ps s h0 h):=by simp[D9]
@[simp ↓] theorem Jtb{t:DT}{d:Option Nat}{r:AV} : Na P t ks d s Q r h n=rD P t ks (Xq s d r) h n Q:=propext Iff.rfl
@[simp ↓] theorem Jv5{res:List RV}{Q:AV->Prop} : Cv res Q .ret s h n=Jt (H5 s h res) λxs=>Jt (dt (H8 xs) h) λq=>Xi q.1=true/\Q q.1:=propext Iff.rfl
@[simp ↓] theorem Jnk{res:List RV}{Q:AV->Prop} : Cv res Q .normal s h n=Jt (H5 s h res) λxs=>Jt (dt (H8 xs) h) λq=>Xi q.1=true/\Q q.1:=propext Iff.rfl
@[simp ↓] theorem Jun{K:AV->J8->Nat->Prop}{c a b:Jz} : Jj P s h n K (.pick c a b)=Jkt (ev s c) (K (ev s a) h n) (K (ev s b) h n):=propext Iff.rfl
theorem Jex{f:Jz}{args:List Jz}{K:AV->J8->Nat->Prop} : Xr P s h n K (.call f args)=Jkf P (ev s f) (args.map (ev s)) h n (hK h K):=propext Iff.rfl
theorem Oe{a:AC}(I:Nat->Jm->J8->Nat->Prop)(k:Nat)(h0:I k s h n)
 (hs:∀k s h n,I k s h n->rC P a [] s h n λe s' h' n'=>match e with | .normal=>∃k',k'<k/\I k' s' h' n'|e=>Ju P ks e s' h' n' Q):rL P a ks s h n Q:=⟨I,⟨k,h0⟩,hs⟩
end
theorem Jp{P:Program}{f:FuncId}{fn:Func}{af:Jk}{as:List AV}{Q:AV->Prop}{bx:Bool}(hf:P.funcs[f]? = some fn)(hc:Gh bx P fn=some af) (hn:(fn.name == "runtime.NumGoroutine")=false) (hl:as.length<=af.nt)
 (hr:rC P af.body [] (Fw as) Ga 0 (Cv af.res Q)):Holds P f as Q:=by
 refine J3w (J10 hf hc hn ⟨hl,?_⟩);unfold rC at hr
 have:(λe s h n=>Ju P [] e s h n (Cv af.res Q))=λe s h n=>match e with
  | .exit _=>False
  |_=>Jt (H5 s h af.res) λxs=>Jt (dt (H8 xs) h) λq=>Xi q.1=true/\Q q.1:=by
  funext e s h n;cases e <;>rfl
 rw[this]at hr;exact hr
theorem Jd{P:Program}{f:FuncId}{xs xs':List AV}{h:J8}{n:Nat}{Q:AV->Prop}{K:AV->J8->Nat->Prop}(hh:Holds P f xs' Q)(hb:U0 xs h=some xs')
 (hK:∀r,Q r->K (sub r n) (Wm h n (Xv r)) (n+(Xv r).length)):X7 P f xs h n K:=J0i hh hb hK
theorem Jw{P:Program}{f:FuncId}{xs xs':List AV}{h:J8}{n:Nat}{Q:AV->Prop}{K:AV->J8->Nat->Prop}(hh:Holds P f xs' Q)(hb:U0 xs h=some xs')
 (hK':∀r,Q r->K (sub r n) (Wm h n (Xv r)) (n+(Xv r).length)):X7 P f xs h n (hK h K):=J3o hh hb hK'
@[simp ↓] theorem Jx8{P:Program}{s:Jm}{h:J8}{n:Nat}{K:AV->J8->Nat->Prop}{x} : Xr P s h n K (.mv x)=Jj P s h n K (.mv x):=propext Iff.rfl
@[simp ↓] theorem Jrq{P:Program}{s:Jm}{h:J8}{n:Nat}{K:AV->J8->Nat->Prop}{c}{a}{b} : Xr P s h n K (.pick c a b)=Jj P s h n K (.pick c a b):=propext Iff.rfl
@[simp ↓] theorem Jtg{P:Program}{s:Jm}{h:J8}{n:Nat}{K:AV->J8->Nat->Prop}{z} : Xr P s h n K (.box z)=Jj P s h n K (.box z):=propext Iff.rfl
@[simp ↓] theorem Jsm{P:Program}{s:Jm}{h:J8}{n:Nat}{K:AV->J8->Nat->Prop}{x} : Xr P s h n K (.boxv x)=Jj P s h n K (.boxv x):=propext Iff.rfl
@[simp ↓] theorem Jos{P:Program}{s:Jm}{h:J8}{n:Nat}{K:AV->J8->Nat->Prop}{z}{ps} : Xr P s h n K (.build z ps)=Jj P s h n K (.build z ps):=propext Iff.rfl
@[simp ↓] theorem Jth{P:Program}{s:Jm}{h:J8}{n:Nat}{K:AV->J8->Nat->Prop}{sz}{ps} : Xr P s h n K (.bsl sz ps)=Jj P s h n K (.bsl sz ps):=propext Iff.rfl
@[simp ↓] theorem Jyo{P:Program}{s:Jm}{h:J8}{n:Nat}{K:AV->J8->Nat->Prop}{g}{sz}{x} : Xr P s h n K (.ld g sz x)=Jj P s h n K (.ld g sz x):=propext Iff.rfl
@[simp ↓] theorem Jyi{P:Program}{s:Jm}{h:J8}{n:Nat}{K:AV->J8->Nat->Prop}{sz}{a}{x} : Xr P s h n K (.st sz a x)=Jj P s h n K (.st sz a x):=propext Iff.rfl
@[simp ↓] theorem Jrm{P:Program}{s:Jm}{h:J8}{n:Nat}{K:AV->J8->Nat->Prop}{x} : Xr P s h n K (.nchk x)=Jj P s h n K (.nchk x):=propext Iff.rfl
@[simp ↓] theorem Jvm{P:Program}{s:Jm}{h:J8}{n:Nat}{K:AV->J8->Nat->Prop}{op}{x}{y} : Xr P s h n K (.bin op x y)=Jj P s h n K (.bin op x y):=propext Iff.rfl
@[simp ↓] theorem Ju9{P:Program}{s:Jm}{h:J8}{n:Nat}{K:AV->J8->Nat->Prop}{g}{x}{y} : Xr P s h n K (.beq g x y)=Jj P s h n K (.beq g x y):=propext Iff.rfl
@[simp ↓] theorem Jxd{P:Program}{s:Jm}{h:J8}{n:Nat}{K:AV->J8->Nat->Prop}{op}{x} : Xr P s h n K (.un op x)=Jj P s h n K (.un op x):=propext Iff.rfl
@[simp ↓] theorem Jts{P:Program}{s:Jm}{h:J8}{n:Nat}{K:AV->J8->Nat->Prop}{k}{x} : Xr P s h n K (.cvi k x)=Jj P s h n K (.cvi k x):=propext Iff.rfl
@[simp ↓] theorem Jv1{P:Program}{s:Jm}{h:J8}{n:Nat}{K:AV->J8->Nat->Prop}{x} : Xr P s h n K (.cvb x)=Jj P s h n K (.cvb x):=propext Iff.rfl
@[simp ↓] theorem Juh{P:Program}{s:Jm}{h:J8}{n:Nat}{K:AV->J8->Nat->Prop}{f}{fi}{ca} : Xr P s h n K (.mkf f fi ca)=Jj P s h n K (.mkf f fi ca):=propext Iff.rfl
@[simp ↓] theorem Jup{P:Program}{s:Jm}{h:J8}{n:Nat}{K:AV->J8->Nat->Prop}{b}{z}{l}{c} : Xr P s h n K (.mks b z l c)=Jj P s h n K (.mks b z l c):=propext Iff.rfl
@[simp ↓] theorem Jt3{P:Program}{s:Jm}{h:J8}{n:Nat}{K:AV->J8->Nat->Prop}{st}{sz}{x}{lo}{hi} : Xr P s h n K (.slc st sz x lo hi)=Jj P s h n K (.slc st sz x lo hi):=propext Iff.rfl
@[simp ↓] theorem Jty{P:Program}{s:Jm}{h:J8}{n:Nat}{K:AV->J8->Nat->Prop}{o}{x} : Xr P s h n K (.fld o x)=Jj P s h n K (.fld o x):=propext Iff.rfl
@[simp ↓] theorem Jvf{P:Program}{s:Jm}{h:J8}{n:Nat}{K:AV->J8->Nat->Prop}{g}{o}{sz}{x} : Xr P s h n K (.prt g o sz x)=Jj P s h n K (.prt g o sz x):=propext Iff.rfl
@[simp ↓] theorem Jvi{P:Program}{s:Jm}{h:J8}{n:Nat}{K:AV->J8->Nat->Prop}{sz}{x}{i} : Xr P s h n K (.ixa sz x i)=Jj P s h n K (.ixa sz x i):=propext Iff.rfl
@[simp ↓] theorem Ju2{P:Program}{s:Jm}{h:J8}{n:Nat}{K:AV->J8->Nat->Prop}{x}{i} : Xr P s h n K (.ixs x i)=Jj P s h n K (.ixs x i):=propext Iff.rfl
@[simp ↓] theorem Jta{P:Program}{s:Jm}{h:J8}{n:Nat}{K:AV->J8->Nat->Prop}{x}{i} : Xr P s h n K (.ext x i)=Jj P s h n K (.ext x i):=propext Iff.rfl
@[simp ↓] theorem Jus{P:Program}{s:Jm}{h:J8}{n:Nat}{K:AV->J8->Nat->Prop}{b}{sz}{x}{y} : Xr P s h n K (.app b sz x y)=Jj P s h n K (.app b sz x y):=propext Iff.rfl
@[simp ↓] theorem Jue{P:Program}{s:Jm}{h:J8}{n:Nat}{K:AV->J8->Nat->Prop}{m}{x}{y} : Xr P s h n K (.mnx m x y)=Jj P s h n K (.mnx m x y):=propext Iff.rfl
@[simp ↓] theorem Jvo{P:Program}{s:Jm}{h:J8}{n:Nat}{K:AV->J8->Nat->Prop}{g}{ks}{x y} : Xr P s h n K (.aeq g ks x y)=Jj P s h n K (.aeq g ks x y):=propext Iff.rfl
@[simp ↓] theorem Jsi{P:Program}{s:Jm}{h:J8}{n:Nat}{K:AV->J8->Nat->Prop}{sz}{ps} : Xr P s h n K (.bslb sz ps)=Jj P s h n K (.bslb sz ps):=propext Iff.rfl
@[simp ↓] theorem Jsp{P:Program}{s:Jm}{h:J8}{n:Nat}{K:AV->J8->Nat->Prop}{b sz}{x y} : Xr P s h n K (.appb b sz x y)=Jj P s h n K (.appb b sz x y):=propext Iff.rfl
@[simp ↓] theorem Jva{P:Program}{s:Jm}{h:J8}{n:Nat}{K:AV->J8->Nat->Prop} : Xr P s h n K .mmk=Jj P s h n K .mmk:=propext Iff.rfl
@[simp ↓] theorem Jrx{P:Program}{s:Jm}{h:J8}{n:Nat}{K:AV->J8->Nat->Prop}{z}{x k} : Xr P s h n K (.mget z x k)=Jj P s h n K (.mget z x k):=propext Iff.rfl
@[simp ↓] theorem Jra{P:Program}{s:Jm}{h:J8}{n:Nat}{K:AV->J8->Nat->Prop}{x k v} : Xr P s h n K (.mput x k v)=Jj P s h n K (.mput x k v):=propext Iff.rfl
@[simp ↓] theorem Jrh{P:Program}{s:Jm}{h:J8}{n:Nat}{K:AV->J8->Nat->Prop}{x} : Xr P s h n K (.mlen x)=Jj P s h n K (.mlen x):=propext Iff.rfl
@[simp ↓] theorem Js4{P:Program}{s:Jm}{h:J8}{n:Nat}{K:AV->J8->Nat->Prop}{g}{x} : Xr P s h n K (.inil g x)=Jj P s h n K (.inil g x):=propext Iff.rfl
@[simp ↓] theorem Jve{P:Program}{s:Jm}{h:J8}{n:Nat}{K:AV->J8->Nat->Prop}{g:Bool}{x:Jz} : Xr P s h n K (.len g x)=Cg g (ev s x) h n K:=propext Iff.rfl
attribute [simp] Wa keepL Gb Ic Wq Xv G9 sub Of Wm bw U0 Us Wc Yu Yh dr Jks Jex ev Xq upd Fw cellsOf K8 W2 Un H5 N6 H8 dt Xi N7 Vz Ou i64 Mr
@[simp] theorem Jk2(l:List Int):(Jg l).length=l.length:=by simp[Jg]
@[simp] theorem Js2(l:List Int)(i:Nat):(Jg l)[i]? = (l[i]?).map λn=>[i64 n]:=by simp[Jg]
@[simp] theorem Jir(l:List Int)(i:Nat)(h:i<(Jg l).length):(Jg l)[i]=[i64 (l[i]'(by simpa using h))]:=by simp[Jg]
@[simp] theorem Jdd(l:List Int):Yh (Jg l)=Jg l:=by rw[V7];simp[Jg,Yu,dr,i64]
@[simp] theorem J8k(l:List Int):Wc (Jg l)=true:=by rw[O9];simp[Jg,Us,Xi,i64]
@[simp] theorem Jl7{α:Type}(f:Nat->α)(k:Nat)(a b:α):upd (upd f k a) k b=upd f k b:=by funext i;simp only[upd];split <;>rfl
@[simp] theorem Jp1(l:List Int):List.take l.length (Jg l)=Jg l:=take_of_length_le (by simp)
theorem Kk{x:Int}(h : -9223372036854775808<=x/\x<9223372036854775808):IntKind.i64.wrap x=x:=by rw[IntKind.wrap_i64];omega
open Go Go.RowKit
def Pz(P:Program):Nat->List Field->Bool
 |_,[]=>true
 |off,f::fl=>Nat.beq f.offset off&&Pz P (off+P.cellsOf f.type) fl
def Fe(P:Program):List Field->Nat
 | []=>0
 |f::fl=>P.cellsOf f.type+Fe P fl
def plain(P:Program):Nat->TypeId->Bool
 |0,_=>false
 |f+1,t=>match P.underlying t with
  |some .bool=>Nat.beq (P.cellsOf t) 1
  |some (.int _)=>Nat.beq (P.cellsOf t) 1
  |some .string=>Nat.beq (P.cellsOf t) 1
  |some (.slice e)=>Nat.beq (P.cellsOf t) 1&&Nat.blt 0 (P.cellsOf e)&&Nat.blt 0 (P.bytesOf e)&&plain P f e
  |some (.struct fs)=>Pz P 0 fs.toList&&Nat.beq (P.cellsOf t) (Fe P fs.toList)&&fs.toList.all λx=>plain P f x.type
  |_=>false
def Bq{α β:Type}(R:α->β->Prop):List α->List β->Prop
 | [],[]=>True
 |a::l,b::m=>R a b/\Bq R l m
 |_,_=>False
def Y3(P:Program):Nat->TypeId->List AV->Prop
 |0,_,_=>False
 |f+1,t,row=>match P.underlying t with
  |some .bool=>∃b,row=[.bool b]
  |some (.int k)=>∃n,row=[.int k n]/\(Lit.int k n).wf=true
  |some .string=>∃l:List UInt8,row=[.str l]/\l.length<=Jb
  |some (.slice e)=>∃rows:List (List AV),row=[.sl (P.cellsOf e) rows]/\rows.length<=Jb/\∀r∈rows,Y3 P f e r
  |some (.struct fs)=>∃parts:List (List AV),row=parts.flatten/\Bq (λ(x:Field) r=>Y3 P f x.type r) fs.toList parts
  |_=>False
section
variable {P:Program}{W:World}{H:Type}{enc:TypeId×Value->H}
theorem Jgx{a:AV}{v:Value}{S:List Nat}(h:VR W Lo 0 a v S)(hc:K8 a=true):v.oneCell'=true:=by
 cases a <;>simp only[K8,Bool.false_eq_true]at hc <;>simp only[VR]at h
 case mp=>exact h.1.2.1
 case int=>rw[h.1];rfl
 case bool=>rw[h.1];rfl
 case str=>obtain⟨⟨b,rfl,_⟩,_⟩:=h;rfl
 case nil=>rw[h.1];rfl
 case nilp=>rw[h.1];rfl
 case ptr=>exact h.1.2.1
 case fptr=>obtain⟨⟨_,_,_,rfl,_⟩,_⟩:=h;rfl
 case ref=>exact h.1.2.1
 case sl=>obtain⟨⟨_,_,_,rfl,_⟩,_⟩:=h;rfl
 case us=>rcases h.2 with ⟨rfl,_⟩|⟨_,_,_,_,_,_,_,rfl,_⟩ <;>rfl
 case fn=>obtain⟨⟨_,_,rfl,_⟩,_⟩:=h;rfl
theorem J61:∀{as:List AV}{vs:List Value}{S:List Nat},Jx W Lo 0 as vs S->as.all K8=true->U5 vs
 | [],_,_,h,_=>by simp only[Jx]at h;rw[h.1];intro v hv;cases hv
 |a::as,_,_,h,hc=>by
  simp only[Jx]at h;obtain⟨v,vs',S1,S2,rfl,rfl,h1,h2⟩:=h;simp only[all_cons,Bool.and_eq_true]at hc;intro u hu;rcases mem_cons.1 hu with rfl|hu
  ·exact Jgx h1 hc.1
  ·exact J61 h2 hc.2 u hu
theorem Pa{a:AV}{v:Value}(h:VR W Lo 0 a v []):Jx W Lo 0 [a] [v] []:=V1.2 ⟨v,[],rfl,h,rfl,rfl⟩
theorem J40{b o:Nat}{xs ys:List Value}(h1:V8 W b o xs)(h2:V8 W b (o+xs.length) ys):V8 W b o (xs++ys):=by
 intro j v hj;by_cases hlt:j<xs.length
 ·rw[List.getElem?_append_left hlt]at hj;exact h1 j v hj
 ·rw[List.getElem?_append_right (by omega)]at hj;have:=h2 (j - xs.length) v hj;rw[show o+xs.length+(j - xs.length)=o+j by omega]at this;exact this
theorem Jea{α β:Type}{f:α->Option β}{l:List α}{m:List β}(h:l.mapM f=some m){i:Nat}{b:β}(hb:m[i]? = some b):∃a,l[i]? = some a/\f a=some b:=by
 obtain⟨h1,h2⟩:=Cy h;have hi:i<l.length:=by rw[<-h1];exact(List.getElem?_eq_some_iff.1 hb).1
 obtain⟨b',h3,h4⟩:=h2 i l[i] (List.getElem?_eq_getElem hi);rw[hb]at h3;cases h3;exact⟨_,List.getElem?_eq_getElem hi,h4⟩
theorem cells?_at {a:Addr}{n:Nat}{cs:List Value}(h:W.cells? 0 a n=some cs):cs.length=n/\V8 W a.block a.off cs/\(0<n->a.spot=Option.none/\a.block<W.heap.size):=by
 unfold World.cells? at h;rw[if_pos (Nat.zero_le _)]at h;have hl:=(Cy h).1;simp only[List.length_range]at hl
 have key:∀i,i<n->∃v,cs[i]? = some v/\W.cell? (a.add i)=some v:=λi hi=>by have hb:cs[i]? = some cs[i]:=List.getElem?_eq_getElem (by omega);obtain⟨i',h1,h2⟩:=Jea h hb;rw[List.getElem?_range hi]at h1;cases h1;exact⟨_,hb,h2⟩
 have spot:0<n->a.spot=Option.none/\a.block<W.heap.size:=λh0=>by
  obtain⟨v,_,h2⟩:=key 0 h0;unfold World.cell? at h2;have:a.add 0=a:=by simp[Addr.add]
  rw[this]at h2;split at h2
  ·rename_i hh;split at h2
   ·cases h2
   ·rename_i hs;exact⟨by cases hsp:a.spot;rfl;simp[hsp]at hs,Ov hh⟩
  ·cases h2
 refine⟨hl,λj v hj=>?_,spot⟩;have hjn:j<n:=by rw[<-hl];exact(List.getElem?_eq_some_iff.1 hj).1
 obtain⟨v',h1,h2⟩:=key j hjn;rw[hj]at h1;cases h1;have hsp:=(spot (by omega)).1
 have:a.add j=⟨a.block,a.off+j,Option.none⟩:=by
  unfold Addr.add;split
  ·rename_i e;subst e;cases a;simp at hsp;subst hsp;simp
  ·simp
 rw[this]at h2;exact h2
theorem J1w{e:TypeId}{d:DataW H} : ∀{l:List (DataW H)},d∈l->∀n∈d.weights P e,n∈DataW.weightsAll P e l
 |x::l,h,n,hn=>by
  simp only[DataW.weightsAll,mem_append];rcases mem_cons.1 h with rfl|h
  ·exact .inl hn
  ·exact .inr (J1w h n hn)
theorem Jcs{e:TypeId}{R:List AV->Prop}{a:Addr}{len:Nat}(hsz:0<P.cellsOf e)
 (hx:∀i,i<len->∃cs row,W.cells? 0 (a.add (i*P.cellsOf e)) (P.cellsOf e)=some cs/\Jx W Lo 0 row cs []/\R row/\row.all K8=true/\row.length=P.cellsOf e) :
 ∀k,k<=len->∃(rows:List (List AV)) (vals:List Value),rows.length=k/\X4 W Lo 0 rows vals []/\vals.length=k*P.cellsOf e/\V8 W a.block a.off vals/\U5 vals/\(∀r∈rows,R r/\r.length=P.cellsOf e)/\(0<k->a.spot=Option.none/\a.block<W.heap.size)
 |0,_=>⟨[],[],rfl,⟨rfl,rfl⟩,by simp,(λj v h=>by simp at h),(λv h=>by cases h),(λr h=>by cases h),λh=>absurd h (Nat.lt_irrefl _)⟩
 |k+1,hk=>by
  obtain⟨rows,vals,h1,h2,h3,h4,h5,h6,h7⟩:=Jcs hsz hx k (by omega);obtain⟨cs,row,g1,g2,g3,g4,g5⟩:=hx k (by omega);obtain⟨q1,q2,q3⟩:=cells?_at g1;have hsp:=q3 hsz
  have hadd:a.add (k*P.cellsOf e)=⟨a.block,a.off+k*P.cellsOf e,a.spot⟩\/(k*P.cellsOf e=0/\a.add (k*P.cellsOf e)=a)\/a.add (k*P.cellsOf e)=⟨a.block,a.off+k*P.cellsOf e,Option.none⟩:=by
   unfold Addr.add;split
   ·rename_i e0;exact .inr (.inl ⟨e0,rfl⟩)
   ·exact .inr (.inr rfl)
  have hblk:(a.add (k*P.cellsOf e)).block=a.block/\(a.add (k*P.cellsOf e)).off=a.off+k*P.cellsOf e:=by
   rcases hadd with h|⟨h0,h⟩|h
   ·rw[h];exact⟨rfl,rfl⟩
   ·rw[h,h0];exact⟨rfl,rfl⟩
   ·rw[h];exact⟨rfl,rfl⟩
  refine⟨rows++[row],vals++cs,by simp[h1],?_,by rw[List.length_append,h3,q1,Nat.succ_mul],J40 h4 ?_,?_,?_,λ_=>?_⟩
  ·rw[Vy]at h2⊢;rw[List.flatten_append,Sl];exact⟨vals,cs,rfl,h2,by simpa using g2⟩
  ·rw[h3,<-hblk.1,<-hblk.2];exact q2
  ·intro v hv;rcases mem_append.1 hv with hv|hv
   ·exact h5 v hv
   ·exact J61 g2 g4 v hv
  ·intro r hr;rcases mem_append.1 hr with hr|hr
   ·exact h6 r hr
   ·simp at hr;subst hr;exact⟨g3,g5⟩
  ·by_cases hk0:k=0
   ·subst hk0;have:a.add (0*P.cellsOf e)=a:=by simp[Addr.add]
    rw[this]at hsp;exact hsp
   ·exact h7 (by omega)
theorem J9x{f:Nat}(ih:∀t,plain P f t=true->∀fuel cs d ps,DataW.trod enc P W 0 (λ_=>true) true fuel t cs=some (d,ps)->(∀n∈d.weights P t,n<=reachBytes) ->
 ∃row,Jx W Lo 0 row cs []/\Y3 P f t row/\row.all K8=true/\row.length=P.cellsOf t) {cs:List Value}{n:Nat} :
 ∀(fl:List Field) (xs:List (DataW H×List MemPlace)) (off:Nat),Pz P off fl=true->(fl.all λx=>plain P f x.type)=true->off+Fe P fl=cs.length->xs.length=fl.length ->
  (∀(i:Nat) (x:Field),fl[i]? = some x->DataW.trod enc P W 0 (λ_=>true) true n x.type ((cs.drop x.offset).take (P.cellsOf x.type))=xs[i]?) ->
  (∀k∈DataW.weightsEach P (fl.map (·.type)) (xs.map (·.1)),k<=reachBytes) ->
  ∃parts:List (List AV),Jx W Lo 0 parts.flatten (cs.drop off) []/\Bq (λ(x:Field) r=>Y3 P f x.type r) fl parts/\parts.flatten.all K8=true/\parts.flatten.length=Fe P fl
 | [],xs,off,_,_,hl,hx,_,_=>by
  refine⟨[],?_,trivial,rfl,rfl⟩;simp only[Fe]at hl;rw[drop_eq_nil_of_le (by omega)]
  exact⟨rfl,rfl⟩
 |x::fl,[],_,_,_,_,hx,_,_=>by simp at hx
 |x::fl,y::xs,off,hc,hp,hl,hx,hf,hw=>by simp only[Pz,Bool.and_eq_true,Nat.beq_eq,all_cons,Fe]at hc hp hl;obtain⟨ho,hc⟩:=hc;have h0:=hf 0 x rfl;simp only[List.getElem?_cons_zero]at h0;simp only[map_cons,DataW.weightsEach,mem_append]at hw;obtain⟨row,r1,r2,r3,r4⟩:=ih x.type hp.1 n _ y.1 y.2 h0 (λk hk=>hw k (.inl hk));obtain⟨parts,p1,p2,p3,p4⟩:=J9x ih fl xs (off+P.cellsOf x.type) hc hp.2 (by rw[<-hl];omega) (by simpa using hx) (λi z hz=>by simpa using hf (i+1) z (by simpa using hz)) (λk hk=>hw k (.inr hk));refine⟨row::parts,?_,⟨r2,p2⟩,by simp[List.all_append,r3,p3],by simp[r4,p4,Fe]⟩;rw[List.flatten_cons,Sl];rw[ho]at r1;refine⟨_,_,?_,r1,p1⟩;rw[<-List.drop_drop,List.take_append_drop]
theorem J0o(P:Program)(W:World):∀(f:Nat) (t:TypeId),plain P f t=true->∀(fuel:Nat) (cs:List Value) (d:DataW H) (ps:List MemPlace),DataW.trod enc P W 0 (λ_=>true) true fuel t cs=some (d,ps)->(∀n∈d.weights P t,n<=reachBytes) ->
 ∃row,Jx W Lo 0 row cs []/\Y3 P f t row/\row.all K8=true/\row.length=P.cellsOf t
 |0,t,hp=>by simp[plain]at hp
 |f+1,t,hp=>by
  intro fuel cs d ps h hw;unfold plain at hp;split at hp
  ·rename_i hu;simp only[Nat.beq_eq]at hp
   cases fuel with
   |zero=>simp[DataW.trod]at h
   |succ fuel=>
    unfold DataW.trod at h;rw[hu]at h;split at h <;>simp_all
    rename_i b;exact⟨[.bool b],Pa (by simp[VR]),by simp[Y3,hu],by simp,by simp⟩
  ·rename_i k hu;simp only[Nat.beq_eq]at hp
   cases fuel with
   |zero=>simp[DataW.trod]at h
   |succ fuel=>
    unfold DataW.trod at h;rw[hu]at h;split at h <;>simp_all
    rename_i k' n hk;subst hk;exact⟨[.int k n],Pa (by simp[VR]),by simpa[Y3,hu]using h.1.2,by simp,by simp⟩
  ·rename_i hu;simp only[Nat.beq_eq]at hp
   cases fuel with
   |zero=>simp[DataW.trod]at h
   |succ fuel=>
    unfold DataW.trod at h;rw[hu]at h;split at h <;>simp_all
    rename_i s;obtain⟨_,hd,_⟩:=h;subst hd
    have hl:s.data.toList.length<=Jb:=by have:=hw s.data.toList.length (by simp[DataW.weights]);unfold reachBytes at this;unfold Jb;omega
    exact⟨[.str s.data.toList],Pa (by simp only[VR];exact⟨⟨s,rfl,rfl,hl⟩,trivial⟩),by simpa[Y3,hu]using hl,by simp,by simp⟩
  ·rename_i e hu;simp only[Bool.and_eq_true,Nat.beq_eq,Nat.blt_eq]at hp;obtain⟨⟨⟨hc,hsz⟩,hby⟩,hpe⟩:=hp;rcases DataW.trod_slice hu h with ⟨rfl,hx⟩|⟨a,len,cap,elems,rest,n,_,rfl,hx,_,hlc,_,hlen,hel,_⟩
   ·refine⟨[.sl (P.cellsOf e) []],?_,by simp[Y3,hu],by simp[K8],by simp[hc]⟩;exact Pa (by simp only[VR];exact⟨⟨Option.none,0,[],rfl,⟨Nat.zero_le _,Nat.le_refl _⟩,⟨rfl,rfl⟩,.inl trivial⟩,trivial⟩)
   ·obtain⟨hd,-⟩:=Prod.mk.inj hx;subst hd;have hwt:=λn hn=>hw n (by simp only[DataW.weights,hu];exact hn)
    have hbig:=hwt _ mem_cons_self
    obtain⟨rows,vals,h1,h2,h3,h4,h5,h6,h7⟩:=Jcs (P:=P) (W:=W) (e:=e) (R:=Y3 P f e) (a:=a) (len:=len) hsz (λi hi=>by
     have hb:=hel i hi;have hi':i<elems.length:=by omega
     rw[List.getElem?_eq_getElem hi']at hb;obtain⟨cs,g1,g2⟩:=Option.bind_eq_some_iff.1 hb;obtain⟨row,r1,r2,r3,r4⟩:=J0o P W f e hpe n cs elems[i].1 elems[i].2 g2 (λk hk=>hwt k (List.mem_cons_of_mem _ (List.mem_append_left _ (J1w (mem_map.2 ⟨elems[i],getElem_mem hi',rfl⟩) k hk))));exact⟨cs,row,g1,r1,r2,r3,r4⟩) len (Nat.le_refl _)
    have hlim:rows.length<=Jb:=by
     rw[h1];have h8:(elems.map (·.1)).length=len:=by simp[hlen]
     have:len*1<=(elems.map (·.1)).length*P.bytesOf e:=by rw[h8];exact Nat.mul_le_mul_left _ hby
     have h9:(elems.map (·.1)).length*P.bytesOf e<=((elems.map (·.1)).length+(rest.map (·.1)).length)*P.bytesOf e:=Nat.mul_le_mul_right _ (Nat.le_add_right _ _);unfold reachBytes at hbig;unfold Jb;omega
    refine⟨[.sl (P.cellsOf e) rows],?_,?_,by simp[K8],by simp[hc]⟩
    ·refine V1.2 ⟨_,[],rfl,?_,⟨rfl,rfl⟩⟩;simp only[VR];refine⟨⟨some a,cap,vals,by rw[h1],⟨hlim,by rw[h1];exact hlc⟩,h2,?_⟩,trivial⟩;by_cases h0:len=0
     ·exact .inl (List.eq_nil_of_length_eq_zero (by omega))
     ·obtain⟨hs,hb⟩:=h7 (by omega);refine .inr ⟨a.block,a.off,by cases a;simp at hs;subst hs;rfl,Ed _,hb,λr hr=>(h6 r hr).2,h4,h5⟩
    ·simp only[Y3,hu];exact⟨rows,rfl,hlim,λr hr=>(h6 r hr).1⟩
  ·rename_i fs hu;simp only[Bool.and_eq_true,Nat.beq_eq]at hp;obtain⟨⟨hc,ht⟩,hpf⟩:=hp;obtain⟨xs,n,_,hx,hlen,hxl,hf⟩:=DataW.trod_struct hu h;obtain⟨hd,-⟩:=Prod.mk.inj hx;subst hd;obtain⟨parts,p1,p2,p3,p4⟩:=J9x (P:=P) (W:=W) (enc:=enc) (λt ht'=>J0o P W f t ht') (cs:=cs) (n:=n) fs.toList xs 0 hc hpf (by omega) (by simp[hxl]) (λi x hi=>hf i x (by simpa using hi)) (λk hk=>hw k (by simp only[DataW.weights,hu];exact hk));exact⟨parts.flatten,by simpa using p1,by simp only[Y3,hu];exact⟨parts,rfl,p2⟩,p3,by rw[p4,ht]⟩
  ·cases hp
end
open Go Go.RowKit Go.ChangeShapes Go.WideShapes
def Dm(P:Program)(f:Nat)(t:TypeId)(a:AV):Prop:=match P.underlying t with
 |some (.struct _)=>∃row,a = .agg row/\Y3 P f t row
 |_=>Y3 P f t [a]
theorem Uo{α β:Type}{R:α->β->Prop}{a:α}{l:List α}{m:List β}(h:Bq R (a::l) m):∃x m',m=x::m'/\R a x/\Bq R l m':=by
 cases m with
 |nil=>exact h.elim
 |cons x m=>exact⟨x,m,rfl,h.1,h.2⟩
theorem Hv{α β:Type}{R:α->β->Prop}{m:List β}(h:Bq R [] m):m=[]:=by
 cases m with
 |nil=>rfl
 |cons x m=>exact h.elim
theorem J5h{P:Program}{f:Nat}{t:TypeId}{r:List AV}(hu:P.underlying t=some .bool)(h:Y3 P (f+1) t r):∃b,r=[.bool b]:=by simpa only[Y3,hu]using h
theorem Nz{P:Program}{f:Nat}{t:TypeId}{r:List AV}{k:IntKind}(hu:P.underlying t=some (.int k))(h:Y3 P (f+1) t r):∃n,r=[.int k n]/\(Lit.int k n).wf=true:=by simpa only[Y3,hu]using h
theorem Db{P:Program}{f:Nat}{t:TypeId}{r:List AV}(hu:P.underlying t=some .string)(h:Y3 P (f+1) t r):∃l:List UInt8,r=[.str l]/\l.length<=Jb:=by simpa only[Y3,hu]using h
theorem Bw{P:Program}{f:Nat}{t e:TypeId}{r:List AV}(hu:P.underlying t=some (.slice e))(h:Y3 P (f+1) t r):∃rows:List (List AV),r=[.sl (P.cellsOf e) rows]/\rows.length<=Jb/\∀r∈rows,Y3 P f e r:=by simpa only[Y3,hu]using h
theorem Bt{P:Program}{f:Nat}{t:TypeId}{fs:Array Field}{r:List AV}(hu:P.underlying t=some (.struct fs))(h:Y3 P (f+1) t r):∃parts:List (List AV),r=parts.flatten/\Bq (λ(x:Field) r=>Y3 P f x.type r) fs.toList parts:=by simpa only[Y3,hu]using h
theorem J20{P:Program}{f:Nat}{t:TypeId}{fs:Array Field}{a:AV}(hu:P.underlying t=some (.struct fs))(h:Dm P f t a):∃row,a = .agg row/\Y3 P f t row:=by simpa only[Dm,hu]using h
theorem Jlr{P:Program}{f:Nat}{t e:TypeId}{r:List AV}(hu:P.underlying t=some (.slice e))(he:P.underlying e=some (.int .i64))(hc:P.cellsOf e=1)(h:Y3 P (f+2) t r):∃l,r=[Mr l]:=by
 obtain⟨rows,rfl,_,hr⟩:=Bw hu h
 have:∃l,rows=Jg l:=by
  clear h
  induction rows with
  |nil=>exact⟨[],rfl⟩
  |cons r rows ih=>
   obtain⟨n,rfl,_⟩:=Nz he (hr r mem_cons_self);obtain⟨l,rfl⟩:=ih (by rename_i h2;simp only[List.length_cons]at h2;omega) λr hr'=>hr r (List.mem_cons_of_mem _ hr')
   exact⟨n::l,rfl⟩
 obtain⟨l,rfl⟩:=this;exact⟨l,by rw[hc];rfl⟩
section
variable {P:Program}{W:World}{H:Type}{enc:TypeId×Value->H}
theorem J85{f:Nat}{t:TypeId}{v:Value}{d:DataW H}{ps:List MemPlace}{base:Nat}(hp:plain P f t=true)(hv:Value.okWide P W .any base t v)(h:DataW.Trod enc P W 0 (λ_=>true) true t v d ps)
 (hw:∀n∈d.weights P t,n<=reachBytes):∃a,VR W Lo 0 a v []/\Dm P f t a:=by
 obtain⟨fuel,h⟩:=h;obtain⟨row,h1,h2,h3,h4⟩:=J0o P W f t hp fuel _ d ps h hw
 have key:(∀fs,P.underlying t≠some (.struct fs))->(∀n e,P.underlying t≠some (.array n e))->v.cells.toList=[v]\/¬(plain P f t=true):=λn1 n2=>by
  left;unfold Value.okWide at hv;split at hv
  ·rename_i hu;exact absurd hu (n1 _)
  ·rename_i hu;exact absurd hu (n2 _ _)
  ·cases v <;>try rfl
   rename_i cs;exfalso;unfold Cell.okWide at hv;split at hv <;>simp_all
   unfold Cell.ok at hv;split at hv <;>simp_all
 cases f with
 |zero=>simp[plain]at hp
 |succ f=>
  unfold Dm;split
  ·rename_i fs hu;unfold Value.okWide at hv;rw[hu]at hv;simp only at hv;obtain⟨cs,rfl,_⟩:=hv;exact⟨.agg row,by simp only[VR];exact⟨cs,rfl,h1⟩,row,rfl,h2⟩
  ·rename_i hns;have na:∀n e,P.underlying t≠some (.array n e):=λn e hu=>by simp[plain,hu]at hp
   rcases key hns na with hc|hc
   ·rw[hc]at h1;have hl:row.length=1:=by have:=Vb h1;simpa using this.symm
    match row,hl with
    | [a],_=>
     obtain⟨v',vs',e,g1,_⟩:=V1.1 h1;cases e;exact⟨a,g1,h2⟩
   ·exact absurd hp hc
theorem J23{f:Nat}{base:Nat} : ∀{ts:List TypeId}{vs:List Value}{ds:List (DataW H)}{ps:List MemPlace},ts.all (λt=>plain P f t)=true->(∀(j:Nat) t v,ts[j]? = some t->vs[j]? = some v->Value.okWide P W .any base t v) ->
 DataW.TrodAll enc P W 0 (λ_=>true) true ts vs ds ps->(∀n∈DataW.weightsEach P ts ds,n<=reachBytes)->∃xs,Jx W Lo 0 xs vs []/\Bq (λt a=>Dm P f t a) ts xs
 | [],[],[],ps,_,_,_,_=>⟨[],⟨rfl,rfl⟩,trivial⟩
 |t::ts,v::vs,d::ds,ps,hp,hv,h,hw=>by
  obtain⟨p,q,h1,h2,rfl⟩:=h;simp only[all_cons,Bool.and_eq_true]at hp;simp only[DataW.weightsEach,mem_append]at hw;obtain⟨a,g1,g2⟩:=J85 hp.1 (hv 0 t v rfl rfl) h1 (λn hn=>hw n (.inl hn));obtain⟨xs,k1,k2⟩:=J23 hp.2 (λj t v ht hv'=>hv (j+1) t v (by simpa using ht) (by simpa using hv')) h2 (λn hn=>hw n (.inr hn))
  exact⟨a::xs,V1.2 ⟨v,vs,rfl,g1,k1⟩,g2,k2⟩
 | [],_::_,_,_,_,_,h,_=>h.elim
 | [],[],_::_,_,_,_,h,_=>h.elim
 |_::_,[],_,_,_,_,h,_=>h.elim
 |_::_,_::_,[],_,_,_,h,_=>h.elim
theorem J1b(hl:laidOutB P=true){W':World}(hb:Below W.heap.size W W'):∀{ts:List TypeId}{vs:List Value}{ds:List (DataW H)}{ps:List MemPlace},ts.all (λt=>P.readableRec t&&Nat.blt t P.types.size)=true ->
 DataW.TrodAll enc P W 0 (λ_=>true) true ts vs ds ps->(∀x∈ps,x.block<W.heap.size)->DataW.TrodAll enc P W' 0 (λb=>decide (b<W.heap.size)) true ts vs ds ps
 | [],[],[],_,_,h,_=>h
 |t::ts,v::vs,d::ds,ps,hr,h,hlt=>by
  obtain⟨p,q,h1,h2,rfl⟩:=h;simp only[all_cons,Bool.and_eq_true,Nat.blt_eq]at hr
  exact⟨p,q,Below.trod hl hr.1.1 hr.1.2 h1 hb (λx hx=>hlt x (List.mem_append_left _ hx)),J1b hl hb hr.2 h2 (λx hx=>hlt x (List.mem_append_right _ hx)),rfl⟩
 | [],_::_,_,_,_,h,_=>h.elim
 | [],[],_::_,_,_,h,_=>h.elim
 |_::_,[],_,_,_,h,_=>h.elim
 |_::_,_::_,[],_,_,h,_=>h.elim
theorem J0g{base:Nat}{sp:Nat->Bool}{hd:Bool} : ∀{ts:List TypeId}{vs:List Value}{ds:List (DataW H)}{ps:List MemPlace},DataW.TrodAll enc P W base sp hd ts vs ds ps->ds.length=ts.length
 | [],[],[],_,_=>rfl
 |t::ts,v::vs,d::ds,ps,h=>by obtain⟨p,q,_,h2,_⟩:=h;simp[J0g h2]
 | [],_::_,_,_,h=>h.elim
 | [],[],_::_,_,h=>h.elim
 |_::_,[],_,_,h=>h.elim
 |_::_,_::_,[],_,h=>h.elim
theorem J7b{f:FuncId}{fn:Func}{s:ChangeSpec}{k:Nat}{tb:TypeId}{apart fresh handsOn:Bool}(hl:laidOutB P=true)(hres:fn.resultTypes = #[tb])(hbool:P.underlying tb=some .bool)
 (hplain:fn.params.toList.all (λt=>plain P k t)=true) (hread:fn.params.toList.all (λt=>P.readableRec t&&Nat.blt t P.types.size)=true) (hvars:s.vars=[])
 (hspec:∀(ds:List (DataW H)),ds.length=fn.params.toList.length->s.fn H ds = { results:=[.lit (.bool true)],args:=ds })
 (hlaw:∀xs,Bq (λt a=>Dm P k t a) fn.params.toList xs->Holds P f xs (λr=>r = .bool true)) (base:Nat) (args:Array Value) (ds gs:List (DataW H)) (before:List MemPlace)
 (hval:∀(j:Nat) t v,fn.params[j]? = some t->args[j]? = some v->Value.okWide P W .any base t v) (hW:DataW.Whole enc P fn.params.toList s.vars apart W args.toList ds gs before)
 (hsz:(DataW.weightsEach P (fn.params.toList++s.plain.varTypes P) (ds++gs)).all (· <= reachBytes)=true) :
 Calls P f args W λe W'=>∃v,e = .returned v/\s.post enc P fn apart fresh handsOn false W args v W':=by
 have hW':=hW;obtain⟨p,q,hA,hV,rfl,_,_⟩:=hW;rw[hvars]at hV
 have hgs:gs=[]/\q=[]:=by
  cases gs with
  |nil=>exact⟨rfl,hV⟩
  |cons=>exact hV.elim
 obtain⟨rfl,rfl⟩:=hgs;have hvt:s.plain.varTypes P=[]:=by simp[ChangeSpec.plain,DataSpec.varTypes,hvars]
 rw[hvt,append_nil,append_nil,List.all_eq_true]at hsz;obtain⟨xs,h1,h2⟩:=J23 hplain (λj t v ht hv=>hval j t v (by simpa using ht) (by simpa using hv)) hA (λn hn=>by simpa using hsz n hn);have hc:=(hlaw xs h2).2 W args.toList h1;refine hc.mono λe W' ⟨v,r,S,he,hr,_,hb,hv,_⟩=>?_
 subst hr;simp only[VR]at hv;obtain⟨rfl,_⟩:=hv;have hlt:∀x∈p,x.block<W.heap.size:=λx hx=>by simpa using hW'.lt x (List.mem_append_left _ hx)
 have hsp:=hspec ds (J0g hA);refine⟨_,he,ds,[],p++[],[],p,[],hW',?_,?_,?_,Below.frame hb _,λh=>by cases h⟩
 ·rw[append_nil,hsp,hres];refine⟨[],[],?_,rfl,rfl⟩;exact shut_bool hbool true
 ·rw[append_nil,hsp];exact J1b hl hb hread hA hlt
 ·rw[append_nil,hsp,hvars];exact rfl
end
open Go Go.RowKit
abbrev no{α:Type} : Option α:=Option.none
abbrev Zo(d:Nat)(x:Xx):AO:=⟨some d,x,no⟩
abbrev Zv(d s:Nat):AO:=⟨some d,.mv (.t s),no⟩
abbrev Zl(d:Nat)(g:Bool)(z s:Nat):AO:=⟨some d,.ld g z (.t s),no⟩
abbrev Zf(d c s:Nat):AO:=⟨some d,.fld c (.t s),no⟩
abbrev Zc(d f:Nat)(l:List Jz):AO:=⟨some d,.call (.k (.fn (.func f) [] [])) l,no⟩
abbrev Zi(d:Nat)(k:Int):AO:=⟨some d,.mv (.k (.int .i64 k)),no⟩
abbrev Zt(d:Nat)(b:Bool):AO:=⟨some d,.mv (.k (.bool b)),no⟩
abbrev Zn(d s:Nat):AO:=⟨some d,.len false (.t s),no⟩
abbrev Ze(d s c:Nat):AO:=⟨some d,.ext (.t s) c,no⟩
abbrev Zx(d z a b:Nat):AO:=⟨some d,.ixa z (.t a) (.t b),no⟩
abbrev Zb(d:Nat)(o:BinOp)(a b:Nat):AO:=⟨some d,.bin o (.t a) (.t b),no⟩
abbrev Zk(d:Nat)(o:BinOp)(a:Nat)(k:Int):AO:=⟨some d,.bin o (.t a) (.k (.int .i64 k)),no⟩
abbrev ZN(d s:Nat):AO:=⟨some d,.un .not (.t s),no⟩
abbrev ZB(d s:Nat):AO:=⟨some d,.boxv (.t s),no⟩
abbrev ZP(d a b:Nat):AO:=⟨some d,.pick (.t a) (.k (.bool true)) (.t b),no⟩
abbrev ZQ(d a b:Nat):AO:=⟨some d,.pick (.t a) (.t b) (.k (.bool false)),no⟩
abbrev ZA(d n z a b:Nat):AO:=⟨some d,.app n z (.t a) (.t b),no⟩
abbrev Zg(d g:Nat)(b:Bool)(x:Xx):AO:=⟨some d,x,some (g,b)⟩
abbrev Zq(l:List AO)(x:AC):AC:=.seq (.reg l) x
abbrev Zw(c e:Nat):AC:=.cond (.t c) .skip (.exit e)
def H6(agg:Bool)(sz g:Nat):Jk:=
⟨27,[.t 4],(.seq
 (.reg [⟨some 4,.mv (.k (.bool false)),no⟩]) (.seq (.seq
 (.reg [⟨some 6,.mv (.t 0),no⟩,⟨some 7,.len false (.t 6),no⟩,⟨some 8,.mv (.t 1),no⟩,⟨some 9,.len false (.t 8),no⟩,⟨some 10,.bin .neq (.t 7) (.t 9),no⟩]) (.cond (.t 10) (.seq
 (.reg [⟨some 4,.mv (.k (.bool false)),no⟩]) .ret) .skip)) (.seq (.seq
 (.reg [⟨some 5,.mv (.k (.int .i64 0)),no⟩]) (.blk 0 (.loop (.seq (.seq
 (.reg [⟨some 11,.mv (.t 5),no⟩,⟨some 12,.mv (.t 0),no⟩,⟨some 13,.len false (.t 12),no⟩,⟨some 14,.bin .lss (.t 11) (.t 13),no⟩]) (.cond (.t 14) .skip (.exit 0))) (.seq (.blk 1 (.seq (.draw (.op ⟨some 17,.mv (.t 0),no⟩ (.op ⟨some 18,.mv (.t 5),no⟩ (.op ⟨some 19,.ixa sz (.t 17) (.t 18),no⟩ (.op ⟨some 20,.ld agg sz (.t 19),no⟩ (.op ⟨some 21,.mv (.t 1),no⟩ (.op ⟨some 22,.mv (.t 5),no⟩ (.op ⟨some 23,.ixa sz (.t 21) (.t 22),no⟩ (.op ⟨some 24,.ld agg sz (.t 23),no⟩ (.op ⟨some 25,.call (.k (.fn (.func g) [] [])) [.t 20,.t 24],no⟩ (.op ⟨some 26,.un .not (.t 25),no⟩ .fin))))))))))) (.cond (.t 26) (.seq
 (.reg [⟨some 4,.mv (.k (.bool false)),no⟩]) .ret) .skip)))
 (.reg [⟨some 15,.mv (.t 5),no⟩,⟨some 16,.bin .add (.t 15) (.k (.int .i64 1)),no⟩,⟨some 5,.mv (.t 16),no⟩])))))) (.seq
 (.reg [⟨some 4,.mv (.k (.bool true)),no⟩]) .ret))))⟩
def Hq{α:Type}(eq:α->α->Bool):List α->List α->Bool
 | [],[]=>true
 |x::a,y::b=>eq x y&&Hq eq a b
 |_,_=>false
theorem J48{α:Type}{eq:α->α->Bool} : ∀{a b:List α},a.length≠b.length->Hq eq a b=false
 | [],[],h=>absurd rfl h
 | [],_::_,_=>rfl
 |_::_,[],_=>rfl
 |x::a,y::b,h=>by simp only[Hq,J48 (a:=a) (b:=b) (by simpa using h),Bool.and_false]
theorem J9d{α:Type}{eq:α->α->Bool} : ∀{a b:List α},a.length=b.length->(∀(i:Nat) x y,a[i]? = some x->b[i]? = some y->eq x y=true)->Hq eq a b=true
 | [],[],_,_=>rfl
 |x::a,y::b,hl,h=>by simp only[Hq,h 0 x y rfl rfl,Bool.true_and];exact J9d (by simpa using hl) λi u v hu hv=>h (i+1) u v (by simpa using hu) (by simpa using hv)
theorem J6l{α:Type}{eq:α->α->Bool} : ∀{a b:List α}{i:Nat}{x y:α},a[i]? = some x->b[i]? = some y->eq x y=false->Hq eq a b=false
 |u::a,v::b,0,x,y,hx,hy,h=>by simp at hx hy;subst hx hy;simp only[Hq,h,Bool.false_and]
 |u::a,v::b,i+1,x,y,hx,hy,h=>by simp only[Hq,J6l (a:=a) (b:=b) (i:=i) (by simpa using hx) (by simpa using hy) h,Bool.and_false]
 | [],_,_,_,_,hx,_,_=>by simp at hx
 |_::_,[],_,_,_,_,hy,_=>by simp at hy
theorem E8{P:Program}{f:FuncId}{fn:Func}{agg:Bool}{sz g:Nat}{α:Type}{rowOf:α->List AV}{eltOf:α->AV}{eq:α->α->Bool}
 (hf:P.funcs[f]? = some fn) (hc:Jf P fn=some (H6 agg sz g)) (hn:(fn.name == "runtime.NumGoroutine")=false)
 (helt:∀x,Un true agg (rowOf x) 0 sz=some (eltOf x)) (hbw:∀x h,bw (eltOf x) h=some (eltOf x)) (a b:List α)
 (hg:∀x y,x∈a->y∈b->Holds P g [eltOf x,eltOf y] (λr=>r = .bool (eq x y))) :
 Holds P f [.sl sz (a.map rowOf),.sl sz (b.map rowOf)] (λr=>r = .bool (Hq eq a b)):=by
 refine Jp hf hc hn (by simp[H6]) ?_;simp[H6,-Un];intro h1 h2;refine⟨λh=>J48 (λe=>h (by rw[e])),λhl=>Oe (λk s h n=>∃i:Nat,k=a.length - i/\i<=a.length/\s 0 = .sl sz (a.map rowOf)/\s 1 = .sl sz (b.map rowOf)/\s 5=i64 i/\(∀(j:Nat) x y,j<i->a[j]? = some x->b[j]? = some y->eq x y=true)/\h=Ga/\n=0) a.length ⟨0,by simp⟩ ?_⟩;rintro k s h n ⟨i,rfl,hi,s0,s1,s5,hj,rfl,rfl⟩;have hl:a.length=b.length:=by omega
 by_cases hlt:i<a.length
 ·have hlt':i<b.length:=by omega
  unfold Jb at h1;simp[s0,s1,s5,hlt,hlt',helt,-Un];intro _;refine Jw (hg a[i] b[i] (getElem_mem _) (getElem_mem _)) (by simp[hbw]) ?_;rintro r rfl;simp[s0,s1,s5];refine⟨λh=>J6l (List.getElem?_eq_getElem hlt) (List.getElem?_eq_getElem hlt') h,λe=>⟨a.length - (i+1),by omega,i+1,rfl,by omega,by rw[Kk (by omega)];rfl,λj x y hj' hx hy=>?_⟩⟩;by_cases hji:j=i
  ·subst hji;rw[List.getElem?_eq_getElem hlt]at hx;rw[List.getElem?_eq_getElem hlt']at hy;cases hx;cases hy;exact e
  ·exact hj j x y (by omega) hx hy
 ·simp[s0,s1,s5,hlt];intro _;refine J9d hl λj x y hx hy=>hj j x y ?_ hx hy
  have:=(List.getElem?_eq_some_iff.1 hx).1;omega
open Go Go.RowKit
def Nn(h:J8)(n:Nat):Prop:=∀id,n<=id->h id=Option.none
theorem Jhl{α:Type}(f:Nat->α){i j:Nat}(a b:α)(h:i≠j):upd (upd f i a) j b=upd (upd f j b) i a:=by funext k;simp only[upd];split <;>split <;>first|rfl|omega
theorem J4f:∀(xs:List (Nat×List (List AV))) (h:J8) (n id:Nat) (v:Option Yd),id<n->upd (Wm h n xs) id v=Wm (upd h id v) n xs
 | [],h,n,id,v,_=>rfl
 |x::xs,h,n,id,v,hlt=>by simp only[Wm];rw[J4f xs _ _ _ _ (by omega),Jhl _ _ _ (by omega)]
theorem J3z{h:J8}{n:Nat}(hf:Nn h n):upd h n Option.none=h:=by
 funext i;simp only[upd];split
 ·rename_i e;rw[e,hf n (Nat.le_refl _)]
 ·rfl
mutual
theorem Jj9:∀(r:AV) (h:J8) (n:Nat) (ys:List (Nat×List (List AV))),Xi r=true->Nn h n->dt (sub r n) (Wm h n (Xv r++ys))=some (r,Wm h (n+(Xv r).length) ys)
 | .us sz rows,h,n,ys,_,hf=>by
  simp only[sub,Xv,List.cons_append,List.nil_append,Wm,dt];have h1:Wm (upd h n (some ⟨false,sz,rows⟩)) (n+1) ys n=some ⟨false,sz,rows⟩:=by rw[Ee,if_neg (by omega)];exact Uu _ _ _
  rw[h1];simp only[Nat.le_refl,and_self,if_true,List.take_length,List.length_cons,List.length_nil,Nat.zero_add]
  rw[J4f _ _ _ _ _ (by omega),Jl7,J3z hf]
 | .agg cs,h,n,ys,hc,hf=>by simp only[Xi]at hc;simp only[sub,Xv,dt,Se cs h n ys hc hf,Option.map_some]
 | .tup cs,h,n,ys,hc,hf=>by simp only[Xi]at hc;simp only[sub,Xv,dt,Se cs h n ys hc hf,Option.map_some]
 | .int ..,h,n,ys,_,_=>by simp[sub,Xv,dt]
 | .bool _,h,n,ys,_,_=>by simp[sub,Xv,dt]
 | .str _,h,n,ys,_,_=>by simp[sub,Xv,dt]
 | .nilp,h,n,ys,_,_=>by simp[sub,Xv,dt]
 | .undef,_,_,_,hc,_=>by simp[Xi]at hc
 | .nil _,_,_,_,hc,_=>by simp[Xi]at hc
 | .ptr ..,_,_,_,hc,_=>by simp[Xi]at hc
 | .fptr ..,_,_,_,hc,_=>by simp[Xi]at hc
 | .ref ..,_,_,_,hc,_=>by simp[Xi]at hc
 | .sl ..,_,_,_,hc,_=>by simp[Xi]at hc
 | .fn ..,_,_,_,hc,_=>by simp[Xi]at hc
 | .mp _,_,_,_,hc,_=>by simp[Xi]at hc
theorem Se:∀(rs:List AV) (h:J8) (n:Nat) (ys:List (Nat×List (List AV))),Us rs=true->Nn h n->Wq (Of rs n) (Wm h n (G9 rs++ys))=some (rs,Wm h (n+(G9 rs).length) ys)
 | [],h,n,ys,_,_=>by simp[Of,G9,Wq]
 |r::rs,h,n,ys,hc,hf=>by simp only[Us,Bool.and_eq_true]at hc;simp only[Of,G9,Wq,List.append_assoc];rw[Jj9 r h n (G9 rs++ys) hc.1 hf];simp only[Option.bind_some];rw[Se rs h (n+(Xv r).length) ys hc.2 (λid hid=>hf id (by omega))];simp only[Option.map_some,List.length_append];rw[Nat.add_assoc]
end
open Go Go.RowKit
theorem J3h:∀(rs:List AV) (n:Nat),(Of rs n).length=rs.length
 | [],_=>rfl
 |r::rs,n=>by simp[Of,J3h rs]
theorem Jb2(r:AV)(n:Nat)(h:K8 r=true):K8 (sub r n)=true:=by cases r <;>simp_all[K8,sub]
theorem J3e:∀(rs:List AV) (n:Nat),rs.all K8=true->(Of rs n).all K8=true
 | [],_,_=>rfl
 |r::rs,n,h=>by simp only[all_cons,Bool.and_eq_true]at h;simp only[Of,all_cons,Bool.and_eq_true];exact⟨Jb2 r n h.1,J3e rs _ h.2⟩
theorem J5y(r:AV)(n:Nat):(cellsOf (sub r n)).length=(cellsOf r).length:=by cases r <;>simp[sub,cellsOf,J3h]
theorem J2f(r:AV)(n:Nat)(h:(cellsOf r).all K8=true):(cellsOf (sub r n)).all K8=true:=by
 cases r with
 |agg cs=>exact J3e cs n h
 |_=>simp_all[sub,cellsOf,K8]
theorem J5k{r:AV}{h:J8}{n:Nat}(hc:Xi r=true)(hf:Nn h n)(hcell:(cellsOf r).all K8=true):Wq (cellsOf (sub r n)) (Wm h n (Xv r))=some (cellsOf r,h):=by
 by_cases ha:∃cs,r = .agg cs
 ·obtain⟨cs,rfl⟩:=ha;have:=Se cs h n [] (by simpa[Xi]using hc) hf;simpa[sub,cellsOf,Xv,Wm]using this
 ·have h1:cellsOf r=[r]:=by cases r <;>first|rfl|exact absurd ⟨_,rfl⟩ ha
  have h2:cellsOf (sub r n)=[sub r n]:=by cases r <;>first|rfl|exact absurd ⟨_,rfl⟩ ha
  have:=Jj9 r h n [] hc hf;rw[h1,h2];simp only[append_nil,Wm]at this;simp[Wq,this]
def Bi(agg:Bool)(sz bytes g:Nat)(z:List AV):Jk:=
⟨23,[.t 2],(.seq
 (.reg [⟨some 2,.mv (.k (.nil sz)),no⟩]) (.seq
 (.reg [⟨some 5,.mv (.t 0),no⟩,⟨some 6,.len false (.t 5),no⟩,⟨some 7,.mks bytes z (.t 6) (.t 6),no⟩,⟨some 3,.mv (.t 7),no⟩]) (.seq (.seq
 (.reg [⟨some 4,.mv (.k (.int .i64 0)),no⟩]) (.blk 0 (.loop (.seq (.seq
 (.reg [⟨some 8,.mv (.t 4),no⟩,⟨some 9,.mv (.t 0),no⟩,⟨some 10,.len false (.t 9),no⟩,⟨some 11,.bin .lss (.t 8) (.t 10),no⟩]) (.cond (.t 11) .skip (.exit 0))) (.seq (.blk 1
 (.reg [⟨some 14,.mv (.t 3),no⟩,⟨some 15,.mv (.t 4),no⟩,⟨some 16,.mv (.t 0),no⟩,⟨some 17,.mv (.t 4),no⟩,⟨some 18,.ixa sz (.t 16) (.t 17),no⟩,⟨some 19,.ld agg sz (.t 18),no⟩,⟨some 20,.call (.k (.fn (.func g) [] [])) [.t 19],no⟩,⟨some 21,.ixa sz (.t 14) (.t 15),no⟩,⟨no,.st sz (.t 21) (.t 20),no⟩]))
 (.reg [⟨some 12,.mv (.t 4),no⟩,⟨some 13,.bin .add (.t 12) (.k (.int .i64 1)),no⟩,⟨some 4,.mv (.t 13),no⟩])))))) (.seq
 (.reg [⟨some 22,.mv (.t 3),no⟩,⟨some 2,.mv (.t 22),no⟩]) .ret))))⟩
theorem Ef{P:Program}{f:FuncId}{fn:Func}{agg:Bool}{sz bytes g:Nat}{z:List AV}{α:Type}{rowOf:α->List AV}{eltOf eltU:α->AV}
 (hf:P.funcs[f]? = some fn) (hc:Jf P fn=some (Bi agg sz bytes g z)) (hn:(fn.name == "runtime.NumGoroutine")=false)
 (helt:∀x,Un true agg (rowOf x) 0 sz=some (eltOf x)) (hbw:∀x h,bw (eltOf x) h=some (eltOf x)) (hcl:∀x,Xi (eltU x)=true) (hcell:∀x,(cellsOf (eltU x)).all K8=true) (hsz:∀x,(cellsOf (eltU x)).length=sz) (hz:z.length=sz)
 (a:List α) (hlen:a.length*bytes<=Jb) (hg:∀x,x∈a->Holds P g [eltOf x] (λr=>r=eltU x)) :
 Holds P f [.sl sz (a.map rowOf)] (λr=>r = .us sz (a.map λx=>cellsOf (eltU x))):=by
 refine Jp hf hc hn (by simp[Bi]) ?_;simp[Bi,-Un,hz];intro h1
 refine⟨by omega,Oe (λk s h n=>∃(i:Nat) (rows:List (List AV)),k=a.length - i/\i<=a.length/\s 0 = .sl sz (a.map rowOf)/\s 3 = .ref 0 0 a.length/\s 4=i64 i/\h=upd Ga 0 (some ⟨false,sz,rows⟩)/\0<n /\
  rows.length=a.length/\(∀j,j<i->rows[j]? = (a.map λx=>cellsOf (eltU x))[j]?)/\(∀j (hj:j<rows.length),rows[j].length=sz)) a.length ⟨0,List.replicate a.length z,by simp[hz]⟩ ?_⟩
 rintro k s h n ⟨i,rows,rfl,hi,s0,s3,s4,rfl,hn0,hr,hj,hcc⟩;have hfr:Nn (upd Ga 0 (some ⟨false,sz,rows⟩)) n:=λid hid=>by rw[Ye _ _ _ _ (by omega)];rfl
 by_cases hlt:i<a.length
 ·have hm:=hcc i (by omega);unfold Jb at h1;simp[s0,s3,s4,hlt,helt,-Un];intro _;refine Jd (hg a[i] (getElem_mem _)) (by simp[hbw]) ?_;rintro r rfl;have h0:Wm (upd Ga 0 (some ⟨false,sz,rows⟩)) n (Xv (eltU a[i])) 0=some ⟨false,sz,rows⟩:=by rw[Ee,if_neg (by omega)];exact Uu _ _ _
  have hd:=J5k (hcl a[i]) hfr (hcell a[i]);have hln:=J5y (eltU a[i]) n;have hci:=J2f (eltU a[i]) n (hcell a[i]);simp[s0,s3,s4,hlt,h0,hd,hln,hci,hsz,hr,-cellsOf];refine⟨by omega,a.length - (i+1),by omega,i+1,rfl,by omega,by rw[Kk (by omega)];rfl,rows.set i (cellsOf (eltU a[i])),by rw[drop_eq_nil_of_le (by omega),append_nil],by omega,by simp[hr],λj hj'=>?_,λj hj'=>?_⟩
  ·show _=(a[j]?).map λx=>cellsOf (eltU x)
   rw[List.getElem?_set];by_cases hji:i=j
   ·subst hji;rw[if_pos rfl,if_pos (by omega),List.getElem?_eq_getElem hlt];rfl
   ·rw[if_neg hji];simpa using hj j (by omega)
  ·rw[List.getElem_set];split
   ·exact hsz _
   ·exact hcc j (by simpa using hj')
 ·simp[s0,s3,s4,hlt,hr];intro _
  have:rows=a.map λx=>cellsOf (eltU x):=List.ext_getElem? λj=>by
   by_cases hji:j<i
   ·exact hj j hji
   ·rw[List.getElem?_eq_none (by omega),List.getElem?_eq_none (by simp;omega)]
  subst this;have ht:List.take a.length (a.map λx=>cellsOf (eltU x))=a.map λx=>cellsOf (eltU x):=take_of_length_le (by simp)
  have hcr:Wc (a.map λx=>cellsOf (eltU x))=true:=by rw[O9,List.all_eq_true];intro r hr';obtain⟨x,_,rfl⟩:=mem_map.1 hr';have:=hcl x;cases hx:eltU x <;>simp_all[Xi,cellsOf,Us]
  rw[ht];exact⟨hcr,rfl⟩
open Go Go.RowKit
def Bj(agg:Bool)(sz g:Nat):Jk:=
⟨27,[.t 4],(.seq
 (.reg [⟨some 4,.mv (.k (.int .i64 0)),no⟩]) (.seq
 (.reg [⟨some 6,.mv (.t 1),no⟩,⟨some 7,.mv (.t 0),no⟩,⟨some 8,.len false (.t 7),no⟩,⟨some 9,.bin .sub (.t 6) (.t 8),no⟩,⟨some 1,.mv (.t 9),no⟩]) (.seq (.seq
 (.reg [⟨some 10,.mv (.t 1),no⟩,⟨some 11,.bin .lss (.t 10) (.k (.int .i64 0)),no⟩]) (.cond (.t 11) (.seq
 (.reg [⟨some 4,.mv (.k (.int .i64 (-1))),no⟩]) .ret) .skip)) (.seq (.seq
 (.reg [⟨some 5,.mv (.k (.int .i64 0)),no⟩]) (.blk 0 (.loop (.seq (.seq
 (.reg [⟨some 12,.mv (.t 5),no⟩,⟨some 13,.mv (.t 0),no⟩,⟨some 14,.len false (.t 13),no⟩,⟨some 15,.bin .lss (.t 12) (.t 14),no⟩]) (.cond (.t 15) .skip (.exit 0))) (.seq (.blk 1 (.seq
 (.reg [⟨some 18,.mv (.t 0),no⟩,⟨some 19,.mv (.t 5),no⟩,⟨some 20,.ixa sz (.t 18) (.t 19),no⟩,⟨some 21,.ld agg sz (.t 20),no⟩,⟨some 22,.mv (.t 1),no⟩,⟨some 23,.call (.k (.fn (.func g) [] [])) [.t 21,.t 22],no⟩,⟨some 1,.mv (.t 23),no⟩]) (.seq
 (.reg [⟨some 24,.mv (.t 1),no⟩,⟨some 25,.bin .lss (.t 24) (.k (.int .i64 0)),no⟩]) (.cond (.t 25) (.seq
 (.reg [⟨some 4,.mv (.k (.int .i64 (-1))),no⟩]) .ret) .skip))))
 (.reg [⟨some 16,.mv (.t 5),no⟩,⟨some 17,.bin .add (.t 16) (.k (.int .i64 1)),no⟩,⟨some 5,.mv (.t 17),no⟩])))))) (.seq
 (.reg [⟨some 26,.mv (.t 1),no⟩,⟨some 4,.mv (.t 26),no⟩]) .ret)))))⟩
def Gk{α:Type}(szE:α->Int->Int):List α->Int->Int
 | [],left=>left
 |x::a,left=>if szE x left<0 then -1 else Gk szE a (szE x left)
def E5{α:Type}(szE:α->Int->Int)(a:List α)(left:Int):Int:=if left - a.length<0 then -1 else Gk szE a (left - a.length)
theorem J6h{α:Type}{szE:α->Int->Int}(hle:∀x left,0<=left->szE x left<=left):∀(a:List α) (left:Int),0<=left->Gk szE a left<=left
 | [],left,_=>Int.le_refl _
 |x::a,left,h=>by
  have:=hle x left h;simp only[Gk];split
  ·omega
  ·have:=J6h hle a (szE x left) (by omega);omega
theorem K03{α:Type}{szE:α->Int->Int}(hle:∀x left,0<=left->szE x left<=left)(a:List α)(left:Int)(h:0<=left):E5 szE a left<=left:=by
 unfold E5;split
 ·omega
 ·have:=J6h hle a (left - a.length) (by omega);omega
theorem Ey{P:Program}{f:FuncId}{fn:Func}{agg:Bool}{sz g:Nat}{α:Type}{rowOf:α->List AV}{eltOf:α->AV}{szE:α->Int->Int}
 (hf:P.funcs[f]? = some fn) (hc:Jf P fn=some (Bj agg sz g)) (hn:(fn.name == "runtime.NumGoroutine")=false)
 (helt:∀x,Un true agg (rowOf x) 0 sz=some (eltOf x)) (hbw:∀x h,bw (eltOf x) h=some (eltOf x)) (hle:∀x left,0<=left->szE x left<=left)
 (a:List α) (left:Int) (h0:0<=left/\left<=4611686018427387904) (hg:∀x left,x∈a->0<=left/\left<=4611686018427387904->Holds P g [eltOf x,i64 left] (λr=>r=i64 (szE x left))) :
 Holds P f [.sl sz (a.map rowOf),i64 left] (λr=>r=i64 (E5 szE a left)):=by
 refine Jp hf hc hn (by simp[Bj]) ?_;simp[Bj,-Un];intro h1;unfold Jb at h1;rw[Kk (by omega)];refine⟨λh=>by unfold E5;rw[if_pos h],λh=>Oe (λk s h n=>∃(i:Nat) (l:Int),k=a.length - i/\i<=a.length/\s 0 = .sl sz (a.map rowOf)/\s 1=i64 l/\s 5=i64 i/\0<=l/\l<=left/\Gk szE (a.drop i) l=E5 szE a left/\h=Ga/\n=0) a.length ⟨0,left - a.length,by simp[E5];omega⟩ ?_⟩;rintro k s h n ⟨i,l,rfl,hi,s0,s1,s5,hl0,hl1,hR,rfl,rfl⟩;by_cases hlt:i<a.length
 ·simp[s0,s1,s5,hlt,helt,-Un];intro _;refine Jd (hg a[i] l (getElem_mem _) (by omega)) (by simp[hbw]) ?_;rintro r rfl;simp[s0,s5];rw[List.drop_eq_getElem_cons hlt]at hR;simp only[Gk]at hR;have:=hle a[i] l hl0;refine⟨λhn=>by rw[if_pos hn]at hR;exact hR,λhp=>⟨a.length - (i+1),by omega,i+1,rfl,by omega,by rw[Kk (by omega)];rfl,hp,by omega,by rw[if_neg (by omega)]at hR;exact hR⟩⟩
 ·simp[s0,s1,s5,hlt];intro _;rw[drop_eq_nil_of_le (by omega)]at hR;exact hR
open Go Go.RowKit
abbrev Je:=List UInt8
def Ji(l:List Je):List (List AV):=l.map λs=>[.str s]
def strs(l:List Je):AV := .sl 1 (Ji l)
attribute [simp] strs
@[simp] theorem Jjv(l:List Je):(Ji l).length=l.length:=by simp[Ji]
@[simp] theorem Js6(l:List Je)(i:Nat):(Ji l)[i]? = (l[i]?).map λn=>[.str n]:=by simp[Ji]
@[simp] theorem Jis(l:List Je)(i:Nat)(h:i<(Ji l).length):(Ji l)[i]=[.str (l[i]'(by simpa using h))]:=by simp[Ji]
@[simp] theorem Jse(l:List Je):Yh (Ji l)=Ji l:=by rw[V7];simp[Ji,Yu,dr]
@[simp] theorem Jnp(l:List Je):Wc (Ji l)=true:=by rw[O9];simp[Ji,Us,Xi]
@[simp] theorem Jpe(l:List Je):List.take l.length (Ji l)=Ji l:=take_of_length_le (by simp)
@[simp] theorem Js5{α β:Type}(f:α->β)(l:List α):List.take l.length (l.map f)=l.map f:=take_of_length_le (by simp)
def Ku(left:Int)(w:Nat):Int:=if left - w<0 then -1 else left - w
theorem Ps{left:Int}{w:Nat}(h:left - w<0):Ku left w = -1:=if_pos h
theorem J9n{left:Int}{w:Nat}(h:¬left - w<0):Ku left w=left - w:=if_neg h
theorem F4{left:Int}{w:Nat}(_h:0<=left):Ku left w<=left:=by unfold Ku;split <;>omega
theorem Jam{left:Int}{v w:Nat}(h:¬left - v<0):Ku (left - v) w=Ku left (v+w):=by
 unfold Ku;by_cases h1:left - v - w<0
 ·rw[if_pos h1,if_pos (by omega)]
 ·rw[if_neg h1,if_neg (by omega)];omega
def wL{α:Type}(w:α->Nat)(l:List α):Nat:=l.length+(l.map w).sum
theorem Yk{α:Type}(w:α->Nat)(l:List α):l.length<=wL w l:=by unfold wL;omega
theorem J7x{α:Type}(w:α->Nat):∀(l:List α) {x:α},x∈l->w x<=(l.map w).sum
 |y::l,x,h=>by
  rcases mem_cons.1 h with rfl|h
  ·simp
  ·have:=J7x w l h;simp;omega
theorem W6{α:Type}{w:α->Nat}{l:List α}{x:α}(h:x∈l):w x<=wL w l:=by have:=J7x w l h;unfold wL;omega
theorem J34{α:Type}{w:α->Nat}{g:α->Int->Int}(hg:∀x left,0<=left->g x left=Ku left (w x)):∀(a:List α) (left:Int),0<=left->Gk g a left=Ku left (a.map w).sum
 | [],left,h=>by simp only[Gk,List.map_nil,List.sum_nil,Ku];rw[if_neg (by omega)];omega
 |x::a,left,h=>by
  simp only[Gk,map_cons,List.sum_cons,hg x left h];by_cases hx:left - w x<0
  ·rw[Ps hx,if_pos (by omega),Ps (by omega)]
  ·rw[J9n hx,if_neg (by omega),J34 hg a _ (by omega),Jam hx]
theorem Dy{α:Type}{w:α->Nat}{g:α->Int->Int}(hg:∀x left,0<=left->g x left=Ku left (w x))(a:List α)(left:Int)(h:0<=left):E5 g a left=Ku left (wL w a):=by
 unfold E5 wL;by_cases hx:left - a.length<0
 ·rw[if_pos hx,Ps (by omega)]
 ·rw[if_neg hx,J34 hg a _ (by omega),Jam hx]
theorem Dg{α:Type}[DecidableEq α]:∀(a b:List α),Hq (λx y=>decide (x=y)) a b=decide (a=b)
 | [],[]=>rfl
 | [],_::_=>rfl
 |_::_,[]=>rfl
 |x::a,y::b=>by simp[Hq,Dg a b]
open Go Go.RowKit
mutual
def idb(n:Nat):AV->Prop
 | .ptr id _ _=>id<n
 | .ref id _ _=>id<n
 | .fn _ fi ca=>I7 n fi/\I7 n ca
 | .agg cs=>I7 n cs
 | .tup cs=>I7 n cs
 | .mp id=>id<n
 | .undef | .int .. | .bool _ | .str _ | .nil _ | .nilp | .fptr .. | .sl .. | .us .. =>True
def I7(n:Nat):List AV->Prop
 | []=>True
 |a::as=>idb n a/\I7 n as
end
section
variable {w:World}{L:Nat->Option K0}{N n:Nat}
mutual
theorem Jjl:∀(a:AV) (v:Value) (S:List Nat),VR w L n a v S->idb n a
 | .ptr ..,_,_,h=>by simp only[VR]at h;simp only[idb];exact h.1.1
 | .ref ..,_,_,h=>by simp only[VR]at h;simp only[idb];exact h.1.1
 | .fn _ fi ca,_,_,h=>by
  simp only[VR]at h;obtain⟨⟨x,y,_,h1,h2⟩,_⟩:=h
  simp only[idb];exact⟨Cb fi _ _ h1,Cb ca _ _ h2⟩
 | .agg cs,_,_,h=>by simp only[VR]at h;obtain⟨vs,_,h⟩:=h;simp only[idb];exact Cb cs _ _ h
 | .tup cs,_,_,h=>by simp only[VR]at h;obtain⟨vs,_,h⟩:=h;simp only[idb];exact Cb cs _ _ h
 | .undef,_,_,_ | .int ..,_,_,_ | .bool _,_,_,_ | .str _,_,_,_ | .nil _,_,_,_ | .nilp,_,_,_ | .fptr ..,_,_,_ | .sl ..,_,_,_ | .us ..,_,_,_=>by simp only[idb]
 | .mp _,_,_,h=>by simp only[VR]at h;simp only[idb];exact h.1.1
theorem Cb:∀(as:List AV) (vs:List Value) (S:List Nat),Jx w L n as vs S->I7 n as
 | [],_,_,_=>by simp only[I7]
 |a::as,_,_,h=>by simp only[Jx]at h;obtain⟨v,vs',S1,S2,_,_,h1,h2⟩:=h;simp only[I7];exact⟨Jjl a _ _ h1,Cb as _ _ h2⟩
end
mutual
theorem Si:∀(a:AV) (v:Value) (S:List Nat),VR w L N a v S->idb n a->VR w L n a v S
 | .ptr ..,_,_,h,hi=>by simp only[VR]at h⊢;simp only[idb]at hi;exact⟨⟨hi,h.1.2⟩,h.2⟩
 | .ref ..,_,_,h,hi=>by simp only[VR]at h⊢;simp only[idb]at hi;exact⟨⟨hi,h.1.2⟩,h.2⟩
 | .fn _ fi ca,_,_,h,hi=>by
  simp only[VR]at h⊢;simp only[idb]at hi;obtain⟨⟨x,y,hv,h1,h2⟩,hS⟩:=h
  exact⟨⟨x,y,hv,Ch fi _ _ h1 hi.1,Ch ca _ _ h2 hi.2⟩,hS⟩
 | .agg cs,_,_,h,hi=>by simp only[VR]at h⊢;simp only[idb]at hi;obtain⟨vs,hv,h⟩:=h;exact⟨vs,hv,Ch cs _ _ h hi⟩
 | .tup cs,_,_,h,hi=>by simp only[VR]at h⊢;simp only[idb]at hi;obtain⟨vs,hv,h⟩:=h;exact⟨vs,hv,Ch cs _ _ h hi⟩
 | .undef,_,_,h,_ | .int ..,_,_,h,_ | .bool _,_,_,h,_ | .str _,_,_,h,_ | .nil _,_,_,h,_ | .nilp,_,_,h,_ | .fptr ..,_,_,h,_ | .sl ..,_,_,h,_ | .us ..,_,_,h,_=>by simp only[VR]at h⊢;exact h
 | .mp _,_,_,h,hi=>by simp only[VR]at h⊢;simp only[idb]at hi;exact⟨⟨hi,h.1.2⟩,h.2⟩
theorem Ch:∀(as:List AV) (vs:List Value) (S:List Nat),Jx w L N as vs S->I7 n as->Jx w L n as vs S
 | [],_,_,h,_=>by simpa only[Jx]using h
 |a::as,_,_,h,hi=>by simp only[Jx]at h⊢;simp only[I7]at hi;obtain⟨v,vs',S1,S2,e1,e2,h1,h2⟩:=h;exact⟨v,vs',S1,S2,e1,e2,Si a _ _ h1 hi.1,Ch as _ _ h2 hi.2⟩
end
end
theorem Qc.idb {w:World}{L:Nat->Option K0}{n:Nat} : ∀{rs:List (List AV)}{es:List MapEntry},Qc w L n rs es->∀r∈rs,I7 n r
 | [],_,_,r,hr=>by cases hr
 |_::_,_,⟨x,es',k,a,h1,h2,h3,h4,h5⟩,r,hr=>by
  rcases mem_cons.1 hr with rfl|hr
  ·subst h2;simp only[I7,Go.Proofs.YtoclolkigjbcgaaGreat.idb];exact⟨trivial,Jjl _ _ _ h4,trivial⟩
  ·exact h5.idb r hr
theorem Qc.lower {w:World}{L:Nat->Option K0}{N n:Nat} : ∀{rs:List (List AV)}{es:List MapEntry},Qc w L N rs es->(∀r∈rs,I7 n r)->Qc w L n rs es
 | [],_,h,_=>h
 |_::_,_,⟨x,es',k,a,h1,h2,h3,h4,h5⟩,hi=>by have h6:=hi _ (mem_cons_self ..);subst h2;simp only[I7]at h6;exact⟨x,es',k,a,h1,rfl,Si _ _ _ h3 h6.1,Si _ _ _ h4 h6.2.1,h5.lower λr hr=>hi r (List.mem_cons_of_mem _ hr)⟩
def Dl(n:Nat)(L:Nat->Option K0):Nat->Option K0:=λid=>if id<n then L id else Option.none
theorem Ec{n:Nat}{L:Nat->Option K0}{id:Nat}{l:K0}(h:Dl n L id=some l):id<n/\L id=some l:=by
 unfold Dl at h;split at h
 ·exact⟨by assumption,h⟩
 ·cases h
theorem Um.cut {n:Nat}{L:Nat->Option K0}{b:Nat}(h:Um (Dl n L) b):Um L b:=by obtain⟨id,sz,cap,h⟩:=h;exact⟨id,sz,cap,(Ec h).2⟩
theorem Xa.cut (w:World) (L:Nat->Option K0) (n:Nat):Xa w L n w (Dl n L) n:=
 ⟨Nat.le_refl _,λ_ _ _ h=>(Ec h).2,Nat.le_refl _,λ_ _ h=>⟨rfl,λh'=>h h'.cut⟩⟩
theorem K1.cut {base:Nat}{w0 w w':World}{L L':Nat->Option K0}{n n':Nat}{F F':Nat->List Nat}{h h':J8}(H0:K1 base w0 w L n F [] h) (H:K1 base w0 w' L' n' F' [] h') (hh:∀id,id<n->h' id=h id) :
 K1 base w0 w' (Dl n L') n (λid=>if id<n then F' id else []) [] h:=by
 have hz:∀id,n<=id->h id=Option.none:=λid hid=>by
  cases hx:h id with
  |none=>rfl
  |some B=>
   cases hl:L id with
   |none=>rw[H0.mod id hl]at hx;cases hx
   |some l=>have:=H0.lt id l hl;omega
 refine⟨H.below,H.bsz,?_,?_,?_,?_,?_,?_,?_,?_,?_,?_,?_,?_⟩
 ·intro id hid;unfold Dl;split
  ·rename_i hlt;exact H.dom id (by rw[hh id hlt];exact hid)
  ·rfl
 ·intro id hid;by_cases hlt:id<n
  ·unfold Dl at hid;rw[if_pos hlt]at hid;rw[<-hh id hlt];exact H.mod id hid
  ·exact hz id (by omega)
 ·intro id l hl;exact(Ec hl).1
 ·intro i i' b sz cap sz' cap' hi hi';exact H.inj i i' b sz cap sz' cap' (Ec hi).2 (Ec hi').2
 ·intro b ho;exact H.lo b ho.cut
 ·intro id B l hB hl;obtain⟨hlt,hl⟩:=Ec hl;have hbr:=H.blk id B l (by rw[hh id hlt];exact hB) hl;rw[if_pos hlt]
  cases l with
  |none=>exact hbr
  | «at» b sz cap=>
   refine⟨hbr.1,hbr.2.1,λhp=>?_,λhz0=>?_⟩
   case refine_2=>
    obtain⟨hbox,es,clock,h1,h2⟩:=hbr.2.2.2 hz0;refine⟨hbox,es,clock,h1,?_⟩
    have hids:∀r∈B.rows,I7 n r:=by
     cases hl0:L id with
     |none=>rw[H0.mod id hl0]at hB;cases hB
     |some l0=>
      have hb0:=H0.blk id B l0 hB hl0
      cases l0 with
      |none=>rw[hb0.1];intro r hr;cases hr
      | «at» b0 sz0 cap0=>
       obtain⟨_,es0,clock0,_,g2⟩:=hb0.2.2.2 (by rw[hb0.1,<-hbr.1];exact hz0);exact g2.idb
    exact(h2.lower hids).ext (Xa.cut w' L' n)
   obtain⟨h0,h0',cur,t,vals,rest,h1,h2,h3,h4,h5,h6,h7,h8,h9,h10⟩:=hbr.cells hp;refine⟨cur,t,vals,rest,h1,h2,h3,h4,h5,h6,h7,h8,h9,?_⟩;cases hbox:B.box
   ·rw[hbox]at h10;simp only[Bool.false_eq_true,if_false]at h10⊢;exact V0 (Xa.cut w' L' n).zero _ _ _ h10
   ·rw[hbox]at h10;simp only[if_true]at h10⊢
    have hids:I7 n B.rows.flatten:=by
     cases hl0:L id with
     |none=>rw[H0.mod id hl0]at hB;cases hB
     |some l0=>
      have hb0:=H0.blk id B l0 hB hl0
      cases l0 with
      |none=>rw[hb0.1];simp[I7]
      | «at» b0 sz0 cap0=>
       obtain⟨_,_,_,_,_,_,_,_,_,_,_,_,_,_,_,g10⟩:=hb0.cells (by rw[hb0.1,<-h0];exact hp);rw[hbox]at g10;simp only[if_true]at g10;exact Cb _ _ _ (Vy.1 g10)
    have h11:=Ch (n:=n) _ _ _ (Vy.1 h10) hids;exact Vy.2 (D2 (Xa.cut w' L' n) _ _ _ h11)
 ·intro id b hb;by_cases hlt:id<n
  ·rw[if_pos hlt]at hb;obtain⟨k1,k2⟩:=H.fp id b hb;exact⟨λh=>k1 h.cut,k2⟩
  ·rw[if_neg hlt]at hb;cases hb
 ·intro b hb;cases hb
 ·intro id;by_cases hlt:id<n
  ·rw[if_pos hlt];exact H.nd id
  ·rw[if_neg hlt];exact List.nodup_nil
 ·exact List.nodup_nil
 ·intro id id' b hb hb';by_cases hlt:id<n
  ·by_cases hlt':id'<n
   ·rw[if_pos hlt]at hb;rw[if_pos hlt']at hb';exact H.dj id id' b hb hb'
   ·rw[if_neg hlt']at hb';cases hb'
  ·rw[if_neg hlt]at hb;cases hb
 ·intro id b _ hb;cases hb
def Vk:AV->Bool
 | .int .. | .bool _ | .str _=>true
 | .tup [.int ..,.bool _]=>true
 |_=>false
theorem Jn6{w:World}{L L':Nat->Option K0}{N N':Nat}{a:AV}{v:Value}(hs:Vk a=true)(h:VR w L N a v []):VR w L' N' a v []:=by
 unfold Vk at hs;split at hs
 ·simpa only[VR]using h
 ·simpa only[VR]using h
 ·simpa only[VR]using h
 ·simp only[VR,Jx]at h⊢;exact h
 ·cases hs
theorem Ck{P:Program}{f:FuncId}{as:List AV}{h:J8}{n:Nat}{K:AV->J8->Nat->Prop}
 (hA:X7 P f as h n λr h' _=>Vk r=true/\(∀id,id<n->h' id=h id)/\K r h n):X7 P f as h n K:=by
 refine⟨hA.1,λbase w0 w L F vs H hv=>?_⟩;refine(hA.2 base w0 w L F vs H hv).mono ?_;rintro e w' ⟨v,r,L',n',F',h',rfl,H',Xy,hr,hs,hh,hk⟩;refine⟨v,r,Dl n L',n,_,h,rfl,H.cut H' hh,?_,Jn6 hs hr,hk⟩;exact⟨Nat.le_refl _,λid l hid hl=>Xy.old id l hid (Ec hl).2,Xy.size,λb hb ho=>⟨(Xy.block b hb ho).1,λh=>(Xy.block b hb ho).2 h.cut⟩⟩
def Bu(P:Program)(f:FuncId)(fi ca:List AV)(h:J8)(n:Nat)(a r:AV):Prop:=∀K:AV->J8->Nat->Prop,K r h n->X7 P f (fi++[a]++ca) h n K
theorem Mn{P:Program}{f:FuncId}{h:J8}{n:Nat}{a r:AV}(hh:Holds P f [a] (λx=>x=r))(hb:bw a h=some a)(hs:Vk r=true):Bu P f [] [] h n a r:=by
 intro K hK;refine J0i hh (by simp[U0,hb]) ?_;rintro _ rfl;unfold Vk at hs;split at hs
 ·simpa[sub,Xv,Wm]using hK
 ·simpa[sub,Xv,Wm]using hK
 ·simpa[sub,Xv,Wm]using hK
 ·simpa[sub,Of,Xv,G9,Wm]using hK
 ·cases hs
def Bf(agg:Bool)(sz:Nat):Jk:=
⟨19,[.t 4],(.seq
 (.reg [⟨some 4,.mv (.k (.int .i64 0)),no⟩]) (.seq (.seq
 (.reg [⟨some 6,.mv (.t 0),no⟩,⟨some 7,.len false (.t 6),no⟩,⟨some 8,.mv (.k (.int .i64 0)),no⟩]) (.blk 0 (.loop (.seq
 (.reg [⟨some 9,.bin .lss (.t 8) (.t 7),no⟩]) (.seq (.cond (.t 9) .skip (.exit 0)) (.seq (.blk 1 (.seq
 (.reg [⟨some 10,.mv (.t 8),no⟩,⟨some 5,.mv (.t 10),no⟩]) (.seq
 (.reg [⟨some 11,.mv (.t 1),no⟩,⟨some 12,.mv (.t 0),no⟩,⟨some 13,.mv (.t 5),no⟩,⟨some 14,.ixa sz (.t 12) (.t 13),no⟩,⟨some 15,.ld agg sz (.t 14),no⟩,⟨some 16,.call (.t 11) [.t 15],no⟩]) (.cond (.t 16) (.seq
 (.reg [⟨some 17,.mv (.t 5),no⟩,⟨some 4,.mv (.t 17),no⟩]) .ret) .skip))))
 (.reg [⟨some 18,.bin .add (.t 8) (.k (.int .i64 1)),no⟩,⟨some 8,.mv (.t 18),no⟩]))))))) (.seq
 (.reg [⟨some 4,.mv (.k (.int .i64 (-1))),no⟩]) .ret)))⟩
def Du(g:Nat):Jk:=
⟨9,[.t 4],(.seq
 (.reg [⟨some 4,.mv (.k (.bool false)),no⟩]) (.seq
 (.reg [⟨some 5,.mv (.t 0),no⟩,⟨some 6,.mv (.t 1),no⟩,⟨some 7,.call (.k (.fn (.func g) [] [])) [.t 5,.t 6],no⟩,⟨some 8,.bin .geq (.t 7) (.k (.int .i64 0)),no⟩,⟨some 4,.mv (.t 8),no⟩]) .ret))⟩
def Y6{α:Type}(p:α->Bool):List α->Nat->Int
 | [],_ => -1
 |x::l,i=>if p x then i else Y6 p l (i+1)
theorem Nf{α:Type}{p:α->Bool} : ∀{l:List α}{i:Nat},Y6 p l i<0↔l.any p=false
 | [],i=>by simp[Y6]
 |x::l,i=>by
  simp only[Y6,List.any_cons];cases hp:p x
  ·simp only[Bool.false_eq_true,if_false,Bool.false_or];exact Nf
  ·simp
theorem Th{α:Type}{p:α->Bool}{l:List α}{i:Nat} : decide (Y6 p l i>=0)=l.any p:=by
 cases h:l.any p
 ·have:=Nf (i:=i).2 h;simp;omega
 ·have:¬Y6 p l i<0:=λh'=>by rw[Nf.1 h']at h;cases h
  simp;omega
section
variable {P:Program}{h:J8}{n:Nat}
theorem U8{f:FuncId}{fn:Func}{af:Jk}{as:List AV}{K:AV->J8->Nat->Prop}{bx:Bool}(hf:P.funcs[f]? = some fn)(hc:Gh bx P fn=some af) (hn:(fn.name == "runtime.NumGoroutine")=false) (hl:as.length<=af.nt)
 (hr:rC P af.body [] (Fw as) h n λe s h n=>match e with | .exit _=>False|_=>Jt (H5 s h af.res) λxs=>K (H8 xs) h n):X7 P f as h n K:=by
 refine J10 hf hc hn ⟨hl,?_⟩;exact hr
theorem J07{f:FuncId}{fn:Func}{agg:Bool}{sz:Nat}{α:Type}{rowOf:α->List AV}{eltOf:α->AV}{p:α->Bool}{g:FuncId}{fi ca:List AV}
 (hf:P.funcs[f]? = some fn) (hc:Jf P fn=some (Bf agg sz)) (hn:(fn.name == "runtime.NumGoroutine")=false)
 (helt:∀x,Un true agg (rowOf x) 0 sz=some (eltOf x)) (a:List α) (hg:∀x∈a,Bu P g fi ca h n (eltOf x) (.bool (p x))) {K:AV->J8->Nat->Prop}(hK:K (.int .i64 (Y6 p a 0)) h n) :
 X7 P f [.sl sz (a.map rowOf),.fn (.func g) fi ca] h n K:=by
 refine U8 hf hc hn (by simp[Bf]) ?_;simp[Bf,-Un];intro h1;refine Oe (λk s h' n'=>∃i:Nat,k=a.length - i/\i<=a.length/\s 0 = .sl sz (a.map rowOf)/\s 1 = .fn (.func g) fi ca/\s 7=i64 a.length/\s 8=i64 i/\Y6 p (a.drop i) i=Y6 p a 0/\h'=h/\n'=n) a.length ⟨0,by simp⟩ ?_;rintro k s h' n' ⟨i,rfl,hi,s0,s1,s7,s8,hj,rfl,rfl⟩;by_cases hlt:i<a.length
 ·unfold Jb at h1;rw[List.drop_eq_getElem_cons hlt]at hj;simp only[Y6]at hj;simp[s0,s1,s7,s8,hlt,helt,-Un];have:=hg a[i] (getElem_mem _);simp only[Bu,List.append_assoc,List.cons_append,List.nil_append]at this;refine this _ ?_;simp[s0,s1,s7,s8];refine⟨λhp=>?_,λhp=>?_⟩ <;>rw[hp]at hj <;>simp at hj
  ·rw[hj];exact hK
  ·exact⟨a.length - (i+1),by omega,i+1,rfl,by omega,by rw[Kk (by omega)];rfl,hj⟩
 ·rw[drop_eq_nil_of_le (by omega)]at hj;simp only[Y6]at hj;simp[s0,s1,s7,s8,hlt];rw[hj];exact hK
theorem Hz{f:FuncId}{fn:Func}{fg:FuncId}{fng:Func}{agg:Bool}{sz:Nat}{α:Type}{rowOf:α->List AV}{eltOf:α->AV}{p:α->Bool}{g:FuncId}{fi ca:List AV}
 (hf:P.funcs[f]? = some fn) (hc:Jf P fn=some (Du fg)) (hn:(fn.name == "runtime.NumGoroutine")=false) (hf':P.funcs[fg]? = some fng) (hc':Jf P fng=some (Bf agg sz)) (hn':(fng.name == "runtime.NumGoroutine")=false)
 (helt:∀x,Un true agg (rowOf x) 0 sz=some (eltOf x)) (a:List α) (hg:∀x∈a,Bu P g fi ca h n (eltOf x) (.bool (p x))) {K:AV->J8->Nat->Prop}(hK:K (.bool (a.any p)) h n) :
 X7 P f [.sl sz (a.map rowOf),.fn (.func g) fi ca] h n K:=by
 refine U8 hf hc hn (by simp[Du]) ?_;simp[Du];refine J07 hf' hc' hn' helt a hg ?_;simp;have:=Th (p:=p) (l:=a) (i:=0);simp only[ge_iff_le]at this;rw[this];exact hK
end
end Go.Proofs.YtoclolkigjbcgaaGreat

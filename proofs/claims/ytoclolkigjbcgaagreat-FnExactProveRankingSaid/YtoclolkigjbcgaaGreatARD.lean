/- R20E-R30 -/
import Derived.Test.YtoclolkigjbcgaaGreatARC
import Derived.Deep.LoopGhost
import Derived.ProofKit
import Derived.Deep.Slices
import Derived.SizedLaws
namespace Go.Proofs.YtoclolkigjbcgaaGreat
open List(append_nil take_of_length_le all_cons mem_cons mem_append drop_eq_nil_of_le map_cons mem_cons_self mem_map getElem_mem)
set_option linter.all false
open Go Go.RowKit
inductive AC where
 |skip
 |reg (ops:List AO)
 |seq (a b:AC)
 |cond (c:Jy) (a b:AC)
 |blk (id:Nat) (a:AC)
 |loop (a:AC)
 |exit (id:Nat)
 |ret
 |draw (t:DT)
inductive AE where
 |normal
 |exit (id:Nat)
 |ret
def Jwx(F:Jm->J8->Nat->(AE->Jm->J8->Nat->Prop)->Prop)(s:Jm)(h:J8)(n:Nat)(Q:AE->Jm->J8->Nat->Prop):Prop:=
 ∃(I:Nat->Jm->J8->Nat->Prop),(∃k,I k s h n)/\∀k s h n,I k s h n->F s h n λe s' h' n'=>match e with
  | .normal=>∃k',k'<k/\I k' s' h' n'
  |e=>Q e s' h' n'
def Ie(P:Program):AC->Jm->J8->Nat->(AE->Jm->J8->Nat->Prop)->Prop
 | .skip,s,h,n,Q=>Q .normal s h n
 | .reg ops,s,h,n,Q=>Qm P ops s h n (Q .normal)
 | .seq a b,s,h,n,Q=>Ie P a s h n λe s' h' n'=>match e with
  | .normal=>Ie P b s' h' n' Q
  |e=>Q e s' h' n'
 | .cond c a b,s,h,n,Q=>match ev s c with
  | .bool x=>(x=true->Ie P a s h n Q)/\(x=false->Ie P b s h n Q)
  |_=>False
 | .blk id a,s,h,n,Q=>Ie P a s h n λe s' h' n'=>match e with
  | .exit id'=>if id'=id then Q .normal s' h' n' else Q (.exit id') s' h' n'
  |e=>Q e s' h' n'
 | .loop a,s,h,n,Q=>Jwx (Ie P a) s h n Q
 | .exit id,s,h,n,Q=>Q (.exit id) s h n
 | .ret,s,h,n,Q=>Q .ret s h n
 | .draw t,s,h,n,Q=>Yp P t s h n (Q .normal)
def Vx(bx:Bool)(P:Program)(nt:Nat):Code->Option AC
 | .skip=>some .skip
 | .region _ ops draw=>if draw then(Jll bx P nt ops).map .draw else(ops.toList.mapM (Ce bx P nt ops)).map .reg
 | .seq a b=>(Vx bx P nt a).bind λa'=>(Vx bx P nt b).map λb'=>.seq a' b'
 | .cond c a b=>(Kk P 0 c).bind λc'=>(Vx bx P nt a).bind λa'=>(Vx bx P nt b).map λb'=>.cond c' a' b'
 | .block id a=>(Vx bx P nt a).map (.blk id)
 | .loop a=>(Vx bx P nt a).map .loop
 | .exit id=>some (.exit id)
 | .ret=>some .ret
 |_=>Option.none
section
variable {bx:Bool}{P:Program}{base:Nat}{w0 w1:World}{L1:Nat->Option Jz}{n1 nt:Nat}
def Nc:AE->Exit->Prop
 | .normal,.normal=>True
 | .exit i,.exit j=>i=j
 | .ret,.ret=>True
 |_,_=>False
def QOf(base:Nat)(w0 w1:World)(L1:Nat->Option Jz)(n1 nt:Nat)(Q:AE->Jm->J8->Nat->Prop):Exit->Act->World->Prop:=
 λe a w=>∃ae s h n,Nc ae e/\Q0 base w0 w1 L1 n1 nt s h n a w/\Q ae s h n
theorem Jgd:∀(c:Code) (ac:AC),Vx bx P nt c=some ac->∀(s:Jm) (h:J8) (n:Nat) (Q:AE->Jm->J8->Nat->Prop) (a:Act) (w:World),
 Q0 base w0 w1 L1 n1 nt s h n a w->Ie P ac s h n Q->c.wp P (QOf base w0 w1 L1 n1 nt Q) a w:=by
 intro c
 induction c with
 |skip=>
  intro ac hc s h n Q a w hr hK;simp only[Vx,Option.some.injEq]at hc;subst hc
  exact wp_skip ⟨.normal,s,h,n,trivial,hr,hK⟩
 |region id ops draw=>
  intro ac hc s h n Q a w hr hK;simp only[Vx]at hc;split at hc
  ·rename_i hd;subst hd;simp only[Option.map_eq_some_iff]at hc;obtain⟨t,ht,rfl⟩:=hc;exact J9x ht hr hK λs h n a w hr hQ=>⟨.normal,s,h,n,trivial,hr,hQ⟩
  ·rename_i hd;have hd:draw=false:=by simpa using hd
   subst hd;simp only[Option.map_eq_some_iff]at hc;obtain⟨os,hos,rfl⟩:=hc
   exact wp_region_list (Jcl ops ops.toList os hos s h n _ a w _ hr hK λs h n a w hr hQ=>⟨.normal,s,h,n,trivial,hr,hQ⟩)
 |seq x y ihx ihy=>
  intro ac hc s h n Q a w hr hK;simp only[Vx,Option.bind_eq_some_iff,Option.map_eq_some_iff]at hc;obtain⟨x',hx,y',hy,rfl⟩:=hc;refine wp_seq (wp_mono (ihx x' hx s h n _ a w hr hK) ?_);rintro e a w ⟨ae,s,h,n,he,hr,hq⟩;cases ae <;>cases e <;>simp only[Nc]at he <;>simp only[Exit.then]
  ·exact ihy y' hy s h n Q a w hr hq
  ·subst he;exact⟨.exit _,s,h,n,rfl,hr,hq⟩
  ·exact⟨.ret,s,h,n,trivial,hr,hq⟩
 |cond c x y ihx ihy=>
  intro ac hc s h n Q a w hr hK;simp only[Vx,Option.bind_eq_some_iff,Option.map_eq_some_iff]at hc;obtain⟨c',hc',x',hx,y',hy,rfl⟩:=hc;have hr':=hr;obtain⟨hdf,hsz,L,F,H,hs,he⟩:=hr';have hv:=Xz hc' hs;simp only[Ie]at hK;split at hK
  ·rename_i b hb;have hv:=Rv hb hv;cases b
   ·exact wp_cond_false hv (ihy y' hy s h n Q a w hr (hK.2 rfl))
   ·exact wp_cond_true hv (ihx x' hx s h n Q a w hr (hK.1 rfl))
  ·exact hK.elim
 |block id x ih=>
  intro ac hc s h n Q a w hr hK;simp only[Vx,Option.map_eq_some_iff]at hc;obtain⟨x',hx,rfl⟩:=hc;refine wp_block (wp_mono (ih x' hx s h n _ a w hr hK) ?_);rintro e a w ⟨ae,s,h,n,he,hr,hq⟩;cases ae <;>cases e <;>simp only[Nc]at he <;>simp only[Exit.inBlock]
  ·exact⟨.normal,s,h,n,trivial,hr,hq⟩
  ·subst he;simp only at hq;split
   ·rename_i hi;rw[if_pos hi]at hq;exact⟨.normal,s,h,n,trivial,hr,hq⟩
   ·rename_i hi;rw[if_neg hi]at hq;exact⟨.exit _,s,h,n,rfl,hr,hq⟩
  ·exact⟨.ret,s,h,n,trivial,hr,hq⟩
 |loop x ih=>
  intro ac hc s h n Q a w hr hK;simp only[Vx,Option.map_eq_some_iff]at hc;obtain⟨x',hx,rfl⟩:=hc;obtain⟨I,⟨k,hk⟩,hround⟩:=hK;refine wp_loop_ghost (λk a w=>∃s h n,Q0 base w0 w1 L1 n1 nt s h n a w/\I k s h n) k ⟨s,h,n,hr,hk⟩ ?_;rintro k a w ⟨s,h,n,hr,hk⟩;refine wp_mono (ih x' hx s h n _ a w hr (hround k s h n hk)) ?_;rintro e a w ⟨ae,s,h,n,he,hr,hq⟩;cases ae <;>cases e <;>simp only[Nc]at he <;>simp only[Exit.then]
  ·obtain⟨k',hlt,hk'⟩:=hq;exact⟨k',hlt,s,h,n,hr,hk'⟩
  ·subst he;exact⟨.exit _,s,h,n,rfl,hr,hq⟩
  ·exact⟨.ret,s,h,n,trivial,hr,hq⟩
 |exit id=>
  intro ac hc s h n Q a w hr hK;simp only[Vx,Option.some.injEq]at hc;subst hc
  exact wp_exit ⟨.exit id,s,h,n,rfl,hr,hK⟩
 |ret=>
  intro ac hc s h n Q a w hr hK;simp only[Vx,Option.some.injEq]at hc;subst hc
  exact wp_ret ⟨.ret,s,h,n,trivial,hr,hK⟩
 |rangeFunc=>intro ac hc;simp[Vx]at hc
 |scope=>intro ac hc;simp[Vx]at hc
 |label=>intro ac hc;simp[Vx]at hc
 |goto=>intro ac hc;simp[Vx]at hc
 |refuse=>intro ac hc;simp[Vx]at hc
end
open Go Go.RowKit
inductive RV where
 |t (n:Nat)
 |c (n:Nat) (agg:Bool) (sz:Nat)
structure Jl where
 nt:Nat
 res:List RV
 body:AC
def Rb(P:Program):ResultVar->Option RV
 | .tmp t=>some (.t t)
 | .cell a t=>match Hm P t,P.info? t with
  |some g,some i=>some (.c a g i.size)
  |_,_=>Option.none
def Gd(bx:Bool)(P:Program)(fn:Func):Option Jl:=
 match fn.body with
 |some c=>(Vx bx P fn.ntmps c).bind λb=>(fn.results.toList.mapM (Rb P)).map λr=>⟨fn.ntmps,r,b⟩
 |Option.none=>Option.none
@[reducible] def Jh(P:Program)(fn:Func):Option Jl:=Gd false P fn
def Nf(s:Jm)(h:J8):RV->Option AV
 | .t n=>some (s n)
 | .c n g sz=>match s n with
  | .ptr id r c=>match h id with
   |some B=>if r<B.rows.length then Ud B.box g (Wa B.rows r) c sz else Option.none
   |Option.none=>Option.none
  |_=>Option.none
def Ht(s:Jm)(h:J8):List RV->Option (List AV)
 | []=>some []
 |r::rs=>(Nf s h r).bind λx=>(Ht s h rs).map λxs=>x::xs
def Ha(xs:List AV):AV:=match xs with | [x]=>x|xs=>.tup xs
def Cf(as:List AV):Jm:=λi=>as.getD i (.tup [])
def K91(P:Program)(f:Jl)(as:List AV)(h:J8)(n:Nat)(K:AV->J8->Nat->Prop):Prop:=
 as.length<=f.nt/\Ie P f.body (Cf as) h n λe s h n=>match e with
  | .exit _=>False
  |_=>Js (Ht s h f.res) λxs=>K (Ha xs) h n
def Holds(P:Program)(f:FuncId)(as:List AV)(Q:AV->Prop):Prop:=
 Eg P f=true/\∀(w:World) (vs:List Value),Jw w Lo 0 as vs []->Calls P f vs.toArray w λe w'=>
  ∃(v:Value) (r:AV) (S:List Nat),e = .returned v/\Q r/\Xl r=true/\Below w.heap.size w w'/\VR w' Lo 0 r v S/\S.Nodup/\∀b∈S,w.heap.size<=b/\b<w'.heap.size
section
variable {bx:Bool}{P:Program}
theorem Jff{w:World}{L:Nat->Option Jz}{N:Nat}{as:List AV}{vs:List Value}(h:Jw w L N as vs [])(k:Nat):Xw w L N (Cf as) (vs.toArray++Array.replicate k undef):=by
 intro i;unfold Cf;have hl:=Vh h;by_cases hi:i<as.length
 ·obtain⟨v,g1,g2⟩:=Pq h (List.getElem?_eq_getElem hi);rw[List.getD_eq_getElem?_getD,List.getElem?_eq_getElem hi]
  have:(vs.toArray++Array.replicate k undef).getD i undef=v:=by rw[Array.getD_eq_getD_getElem?,Array.getElem?_append_left (by simp;omega)];simp[g1]
  rw[this];exact g2
 ·rw[List.getD_eq_getElem?_getD,List.getElem?_eq_none (by omega)]
  have:(vs.toArray++Array.replicate k undef).getD i undef=undef:=by rw[Array.getD_eq_getD_getElem?,Array.getElem?_append_right (by simp;omega),Array.getElem?_replicate];split <;>rfl
  rw[this];simp[VR,Jw,undef]
theorem J9k{G:ResultVar->Sem Value}{base:Nat}{w0 w:World}{L:Nat->Option Jz}{N:Nat}{F:Nat->List Nat}{h:J8}{s:Jm}{tmps:Array Value}(hG1:∀t,G (.tmp t)=pure (tmps.getD t undef))(hG2:∀a t,G (.cell a t)=do loadVar t (<-asAddr (tmps.getD a undef)))(H:K4 base w0 w L N F [] h)(hs:Xw w L N s tmps){rv:ResultVar}{r:RV}{x:AV}
 (hc:Rb P rv=some r) (hx:Nf s h r=some x) :
 ∃v,(G rv).run P w = .ok v w/\VR w L N x v []:=by
 unfold Rb at hc;split at hc
 ·cases hc;simp only[Nf,Option.some.injEq]at hx;subst hx;exact⟨_,by rw[hG1];rfl,hs _⟩
 ·split at hc
  ·rename_i a t _ _ g i hg hi;cases hc;simp only[Nf]at hx;split at hx
   ·rename_i id r c hev;have hv:=hs a;rw[hev]at hv;split at hx
    ·rename_i B hB;split at hx
     ·rename_i hr;obtain⟨b,o,vs,S',he,g1,g2,g3⟩:=H.row hB hv hr
      have key:∃v,(loadVar t ⟨b,o+c,Option.none⟩).run P w = .ok v w/\VR w L N x v []:=by
       cases hbox:B.box
       ·rw[hbox]at hx g1;simp only[Bool.false_eq_true,if_false]at g1;obtain⟨v,e1,e2⟩:=Mu (P:=P) (L:=L) (N:=0) hg hi rfl (Cp _ _ _ g1) g2 (Jkk hx);exact⟨v,e1,D9 ⟨Nat.zero_le _,λ_ _ hid=>absurd hid (Nat.not_lt_zero _),Nat.le_refl _,λ_ _ h=>⟨rfl,h⟩⟩ _ _ _ e2⟩
       ·rw[hbox]at hx g1;simp only[if_true]at g1;rw[g3 hbox]at g1;exact Mu hg hi rfl g1 g2 hx
      obtain⟨v,e1,e2⟩:=key;refine⟨v,?_,e2⟩;rw[hG2,he];simp[asAddr,e1]
     ·cases hx
    ·cases hx
   ·cases hx
  ·cases hc
theorem J3d{G:ResultVar->Sem Value}{base:Nat}{w0 w:World}{L:Nat->Option Jz}{N:Nat}{F:Nat->List Nat}{h:J8}{s:Jm}{tmps:Array Value}(hG1:∀t,G (.tmp t)=pure (tmps.getD t undef))(hG2:∀a t,G (.cell a t)=do loadVar t (<-asAddr (tmps.getD a undef)))(H:K4 base w0 w L N F [] h)(hs:Xw w L N s tmps) :
 ∀{rvs:List ResultVar}{rs:List RV}{xs:List AV},rvs.mapM (Rb P)=some rs->Ht s h rs=some xs ->
 ∃vs,(rvs.mapM G).run P w = .ok vs w/\Jw w L N xs vs []
 | [],rs,xs,hc,hx=>by
  simp at hc;subst hc;simp only[Ht,Option.some.injEq]at hx;subst hx
  exact⟨[],by simp,rfl,rfl⟩
 |rv::rvs,rs,xs,hc,hx=>by rw[List.mapM_cons]at hc;simp only[Option.bind_eq_bind,Option.bind_eq_some_iff,Option.pure_def,Option.some.injEq]at hc;obtain⟨r,hr,rs',hrs,rfl⟩:=hc;simp only[Ht,Option.bind_eq_some_iff,Option.map_eq_some_iff]at hx;obtain⟨x,hx1,xs',hx2,rfl⟩:=hx;obtain⟨v,e1,e2⟩:=J9k hG1 hG2 H hs hr hx1;obtain⟨vs,k1,k2⟩:=J3d hG1 hG2 H hs hrs hx2;refine⟨v::vs,?_,V0.2 ⟨v,vs,rfl,e2,k2⟩⟩;rw[List.mapM_cons,Sem.run_bind,e1];simp only[Result.andThen_ok,Sem.run_bind,k1];rfl
theorem J1e{f:FuncId}{fn:Func}{af:Jl}{as:List AV}{h:J8}{n:Nat}{K:AV->J8->Nat->Prop}(hf:P.funcs[f]? = some fn)(hc:Gd bx P fn=some af) (hn:(fn.name == "runtime.NumGoroutine")=false)
 (hK:K91 P af as h n K):X9 P f as h n K:=by
 unfold Gd at hc;split at hc
 ·rename_i c hb;simp only[Option.bind_eq_some_iff,Option.map_eq_some_iff]at hc;obtain⟨b,hbc,rs,hrs,rfl⟩:=hc;refine⟨by simp[Eg,hf,hb,hn],λbase w0 w L F vs H hv=>?_⟩;have hl:=Vh hv;obtain⟨hle,hK⟩:=hK;simp only at hle;refine calls_of_wp hf hb ?_
  have hrel:Q0 base w0 w L n fn.ntmps (Cf as) h n { tmps:=vs.toArray++Array.replicate (fn.ntmps - vs.toArray.size) undef,defers:=[] } w:=
   ⟨rfl,by simp;omega,L,F,H,Jff hv _,Xf.refl _ _ _⟩
  refine wp_mono (Jgd c b hbc _ _ _ _ _ _ hrel hK) ?_;rintro e a w' ⟨ae,s,h',n',he,⟨hdf,hsz,L',F',H',hs',Y6⟩,hq⟩
  have key:∀xs,Ht s h' rs=some xs->K (Ha xs) h' n'->∃v,(results fn a.tmps).run P w' = .ok v w'/\∃(v':Value) (r:AV) (L':Nat->Option Jz) (n':Nat) (F':Nat->List Nat) (h':J8),Ending.returned v = .returned v' /\
   K4 base w0 w' L' n' F' [] h'/\Xf w L n w' L' n'/\VR w' L' n' r v' []/\K r h' n':=by
   intro xs hxs hk
   obtain⟨G,hG1,hG2,hG3⟩:∃G:ResultVar->Sem Value,(∀t,G (.tmp t)=pure (a.tmps.getD t undef))/\(∀a' t,G (.cell a' t)=do loadVar t (<-asAddr (a.tmps.getD a' undef))) /\
    results fn a.tmps=(do let vs <-fn.results.mapM G;pure (if h:vs.size=1 then vs[0]else .tuple vs)):=⟨_,λ_=>rfl,λ_ _=>rfl,rfl⟩
   obtain⟨us,e1,e2⟩:=J3d (P:=P) hG1 hG2 H' hs' hrs hxs
   have hm:(fn.results.mapM G).run P w' = .ok us.toArray w':=by rw[Array.mapM_eq_mapM_toList];simp only[map_eq_pure_bind,Sem.run_bind,e1,Result.andThen_ok,Sem.run_pure]
   have hul:=Vh e2;refine⟨if h:us.toArray.size=1 then us.toArray[0]else .tuple us.toArray,?_,_,Ha xs,L',n',F',h',rfl,H',Y6,?_,hk⟩
   ·rw[hG3,Sem.run_bind,hm];rfl
   ·match xs,us,e2,hul with
    | [],us,e2,hul=>
     have:us=[]:=List.eq_nil_of_length_eq_zero (by simpa using hul);subst this
     simp[Ha,VR,Jw]
    | [x],us,e2,hul=>
     obtain⟨u,us',rfl,g1,g2⟩:=V0.1 e2;have:us'=[]:=List.eq_nil_of_length_eq_zero (by simpa using hul);subst this
     simpa[Ha]using g1
    |x::y::xs,us,e2,hul=>
     have:¬us.toArray.size=1:=by simp;simp at hul;omega
     rw[dif_neg this];simp only[Ha,VR];exact⟨_,rfl,by simpa using e2⟩
  cases ae <;>cases e <;>simp only[Nc]at he <;>simp only[bodyPost]
  ·change Js _ _ at hq;unfold Js at hq;split at hq
   ·rename_i xs hxs;obtain⟨v,g1,g2⟩:=key xs hxs hq;exact⟨hdf,v,g1,g2⟩
   ·exact hq.elim
  ·exact hq.elim
  ·change Js _ _ at hq;unfold Js at hq;split at hq
   ·rename_i xs hxs;obtain⟨v,g1,g2⟩:=key xs hxs hq;exact⟨hdf,v,g1,g2⟩
   ·exact hq.elim
 ·cases hc
def Ot:J8:=λ_=>Option.none
theorem J4h{f:FuncId}{as:List AV}{Q:AV->Prop}(h:X9 P f as Ot 0 λr h _=>Js (dt r h) λq=>Xl q.1=true/\Q q.1):Holds P f as Q:=by
 refine⟨h.1,λw vs hv=>?_⟩
 have H0:K4 w.heap.size w w Lo 0 (λ_=>[]) [] Ot:=
  ⟨Below.refl _ _,Nat.le_refl _,λ_ _=>rfl,λ_ _=>rfl,(λ_ _ h=>by cases h),(λ_ _ _ _ _ _ _ h=>by cases h),λb h=>absurd h (Et b),(λ_ _ _ h=>by cases h),by simp,by simp,by simp,by simp,by simp,by simp⟩
 refine(h.2 w.heap.size w w Lo (λ_=>[]) vs H0 hv).mono ?_;rintro e w' ⟨v,r,L',n',F',h',rfl,H',Y6,hr,hq⟩;unfold Js at hq;split at hq
 ·rename_i q hq';obtain⟨L2,F2,S,g1,g2,g3⟩:=Jb0 r H' hr hq';rw[append_nil]at g1;exact⟨v,q.1,S,rfl,hq.2,hq.1,H'.below,Jd1 q.1 v S hq.1 (λb _=>Et b) g2,g1.ne,λb hb=>⟨(g1.ep b hb).2.1,(g1.ep b hb).2.2⟩⟩
 ·exact hq.elim
theorem J0l{f:FuncId}{as as':List AV}{h:J8}{n:Nat}{Q:AV->Prop}{K:AV->J8->Nat->Prop}(hh:Holds P f as' Q)(hb:U5 as h=some as')
 (hK:∀r,Q r->K (sub r n) (Wk h n (Y0 r)) (n+(Y0 r).length)):X9 P f as h n K:=by
 refine⟨hh.1,λbase w0 w L F vs H hv=>?_⟩;refine(hh.2 w vs (Fe H as hv hb)).mono ?_;rintro e w' ⟨v,r,S,rfl,hq,hcl,hbel,hr,hnd,hS⟩;obtain⟨L',F',g1,g2,g3⟩:=H.take hbel hcl hr hnd hS;exact⟨v,_,L',_,F',_,rfl,g1,g3,g2,hK r hq⟩
theorem J43{f:FuncId}{as as':List AV}{h:J8}{n:Nat}{Q:AV->Prop}{K:AV->J8->Nat->Prop}(hh:Holds P f as' Q)(hb:U5 as h=some as')
 (hK:∀r,Q r->K (sub r n) (Wk h n (Y0 r)) (n+(Y0 r).length)):X9 P f as h n λr h' n'=>Y6 h h'/\K r h' n':=by
 refine⟨hh.1,λbase w0 w L F vs H hv=>?_⟩;refine(hh.2 w vs (Fe H as hv hb)).mono ?_;rintro e w' ⟨v,r,S,rfl,hq,hcl,hbel,hr,hnd,hS⟩;obtain⟨L',F',g1,g2,g3⟩:=H.take hbel hcl hr hnd hS;refine⟨v,_,L',_,F',_,rfl,g1,g3,g2,λid B hB=>?_,hK r hq⟩
 have hlt:id<n:=by
  cases hl:L id with
  |none=>rw[H.mod id hl]at hB;cases hB
  |some l=>exact H.lt id l hl
 rw[F9,if_neg (by omega)];exact hB
end
open Go Go.RowKit
def i64(n:Int):AV := .int .i64 n
def Ji(l:List Int):List (List AV):=l.map λn=>[i64 n]
def No(l:List Int):AV := .sl 1 (Ji l)
abbrev Xb:=AE->Jm->J8->Nat->Prop
inductive Kt where
 |seq (b:AC)
 |blk (id:Nat)
def Jt(P:Program):List Kt->AE->Jm->J8->Nat->Xb->Prop
 | [],e,s,h,n,Q=>Q e s h n
 | .seq b::ks,e,s,h,n,Q=>match e with
  | .normal=>Ie P b s h n λe s h n=>Jt P ks e s h n Q
  |e=>Jt P ks e s h n Q
 | .blk id::ks,e,s,h,n,Q=>match e with
  | .exit id'=>if id'=id then Jt P ks .normal s h n Q else Jt P ks (.exit id') s h n Q
  |e=>Jt P ks e s h n Q
def rC(P:Program)(a:AC)(ks:List Kt)(s:Jm)(h:J8)(n:Nat)(Q:Xb):Prop:=Ie P a s h n λe s h n=>Jt P ks e s h n Q
def rO(P:Program)(os:List AO)(ks:List Kt)(s:Jm)(h:J8)(n:Nat)(Q:Xb):Prop:=Qm P os s h n λs h n=>Jt P ks .normal s h n Q
def rD(P:Program)(t:DT)(ks:List Kt)(s:Jm)(h:J8)(n:Nat)(Q:Xb):Prop:=Yp P t s h n λs h n=>Jt P ks .normal s h n Q
def rL(P:Program)(a:AC)(ks:List Kt)(s:Jm)(h:J8)(n:Nat)(Q:Xb):Prop:=Jwx (Ie P a) s h n λe s h n=>Jt P ks e s h n Q
def Pi(P:Program)(os:List AO)(ks:List Kt)(d:Option Nat)(s:Jm)(Q:Xb)(r:AV)(h:J8)(n:Nat):Prop:=rO P os ks (Xt s d r) h n Q
def Nr(P:Program)(t:DT)(ks:List Kt)(d:Option Nat)(s:Jm)(Q:Xb)(r:AV)(h:J8)(n:Nat):Prop:=rD P t ks (Xt s d r) h n Q
def Jlg(P:Program)(ps:List Y2)(t:DT)(ks:List Kt)(d:Option Nat)(s:Jm)(h0:J8)(Q:Xb)(r:AV)(h:J8)(n:Nat):Prop:=D8 ps s h0 h/\rD P t ks (Xt s d r) h n Q
def hK(h:J8)(K:AV->J8->Nat->Prop)(r:AV)(h':J8)(n':Nat):Prop:=Y6 h h'/\K r h' n'
def Cv(res:List RV)(Q:AV->Prop):Xb:=λe s h _=>match e with
 | .exit _=>False
 |_=>Js (Ht s h res) λxs=>Js (dt (Ha xs) h) λq=>Xl q.1=true/\Q q.1
def gd(b want:Bool)(A B:Prop):Prop:=(b=want->A)/\(b = !want->B)
@[simp ↓] theorem Ket{A B:Prop} : gd true true A B=A:=by simp[gd]
@[simp ↓] theorem Kej{A B:Prop} : gd false true A B=B:=by simp[gd]
@[simp ↓] theorem Kes{A B:Prop} : gd true false A B=B:=by simp[gd]
@[simp ↓] theorem Kem{A B:Prop} : gd false false A B=A:=by simp[gd]
@[simp] theorem Kew{b:Bool}{A B:Prop} : gd b true A B=((b=true->A)/\(b=false->B)):=propext Iff.rfl
@[simp] theorem Kev{b:Bool}{A B:Prop} : gd b false A B=((b=false->A)/\(b=true->B)):=propext Iff.rfl
def Jli(v:AV)(A B:Prop):Prop:=match v with
 | .bool x=>gd x true A B
 |_=>False
@[simp ↓] theorem Jvj{x:Bool}{A B:Prop} : Jli (.bool x) A B=gd x true A B:=rfl
def Cd(v:AV)(want:Bool)(A B C:Prop):Prop:=match v with
 | .bool b=>gd b want A B
 | .tup []=>C
 |_=>False
@[congr] theorem Jl4{v v':AV}{want:Bool}{A B C:Prop}(h:v=v'):Cd v want A B C=Cd v' want A B C:=by subst h;rfl
@[simp ↓] theorem Jue{b want:Bool}{A B C:Prop} : Cd (.bool b) want A B C=gd b want A B:=rfl
@[simp ↓] theorem Jwm{want:Bool}{A B C:Prop} : Cd (.tup []) want A B C=C:=rfl
section
variable {h:J8}{n:Nat}{K:AV->J8->Nat->Prop}
def Rc(agg:Bool)(sz:Nat)(v:AV)(h:J8)(n:Nat)(K:AV->J8->Nat->Prop):Prop:=match v with
 | .ptr id r c=>Js (h id) λB=>r<B.rows.length/\Js (Ud B.box agg (Wa B.rows r) c sz) λa=>K a h n
 | .fptr row c=>Js (Ud true agg row c sz) λa=>K a h n
 |_=>False
@[simp ↓] theorem Kaa{agg:Bool}{sz id r c:Nat} : Rc agg sz (.ptr id r c) h n K=Js (h id) λB=>r<B.rows.length/\Js (Ud B.box agg (Wa B.rows r) c sz) λa=>K a h n:=rfl
@[simp ↓] theorem K3b{agg:Bool}{sz c:Nat}{row:List AV} : Rc agg sz (.fptr row c) h n K=Js (Ud true agg row c sz) λa=>K a h n:=rfl
def stV(sz:Nat)(v x:AV)(h:J8)(n:Nat)(K:AV->J8->Nat->Prop):Prop:=(cellsOf x).length=sz/\(cellsOf x).all Kb=true/\match v with
 | .ptr id r c=>Js (h id) λB=>
  if B.box then r<B.rows.length/\c+sz<=(Wa B.rows r).length/\K (.tup []) (upd h id (some ⟨true,B.sz,B.rows.set r (G0 (Wa B.rows r) c (cellsOf x))⟩)) n
  else Js (Va (cellsOf x) h) λq=>Js (q.2 id) λB'=>B'.box=false/\r<B'.rows.length/\c+sz<=(Wa B'.rows r).length /\
   K (.tup []) (upd q.2 id (some ⟨false,B'.sz,B'.rows.set r (G0 (Wa B'.rows r) c q.1)⟩)) n
 |_=>False
@[simp ↓] theorem Ka7{sz id r c:Nat}{x:AV} : stV sz (.ptr id r c) x h n K=((cellsOf x).length=sz/\(cellsOf x).all Kb=true/\Js (h id) λB=>
 if B.box then r<B.rows.length/\c+sz<=(Wa B.rows r).length/\K (.tup []) (upd h id (some ⟨true,B.sz,B.rows.set r (G0 (Wa B.rows r) c (cellsOf x))⟩)) n
 else Js (Va (cellsOf x) h) λq=>Js (q.2 id) λB'=>B'.box=false/\r<B'.rows.length/\c+sz<=(Wa B'.rows r).length /\
  K (.tup []) (upd q.2 id (some ⟨false,B'.sz,B'.rows.set r (G0 (Wa B'.rows r) c q.1)⟩)) n):=rfl
def P4(op:BinOp)(x y:AV)(h:J8)(n:Nat)(K:AV->J8->Nat->Prop):Prop:=match x,y with
 | .int k a,.int k' b=>k=k'/\match op with
  | .quo=>b≠0/\K (.int k (k.wrap (a.tdiv b))) h n
  | .rem=>b≠0/\K (.int k (a.tmod b)) h n
  |_=>Js (N8 op k a b) λr=>K r h n
 | .str a,.str b=>match op with
  | .add=>a.length+b.length<=Jd/\K (.str (a++b)) h n
  |_=>Js (Nn op a b) λr=>K r h n
 |_,_=>False
@[congr] theorem Jwi{op:BinOp}{x x' y y':AV}(hx:x=x')(hy:y=y'):P4 op x y h n K=P4 op x' y' h n K:=by subst hx hy;rfl
@[simp ↓] theorem K1l{op:BinOp}{k k':IntKind}{a b:Int} : P4 op (.int k a) (.int k' b) h n K=(k=k'/\match op with
 | .quo=>b≠0/\K (.int k (k.wrap (a.tdiv b))) h n
 | .rem=>b≠0/\K (.int k (a.tmod b)) h n
 |op=>Js (N8 op k a b) λr=>K r h n):=by cases op <;>rfl
@[simp ↓] theorem K2t{op:BinOp}{a b:List UInt8} : P4 op (.str a) (.str b) h n K=(match op with
 | .add=>a.length+b.length<=Jd/\K (.str (a++b)) h n
 |op=>Js (Nn op a b) λr=>K r h n):=by cases op <;>rfl
def Kc8(neg:Bool)(x y:AV)(h:J8)(n:Nat)(K:AV->J8->Nat->Prop):Prop:=match x,y with
 | .bool a,.bool b=>K (.bool (if neg then !(a==b)else a==b)) h n
 |_,_=>False
@[simp ↓] theorem K0f{neg a b:Bool} : Kc8 neg (.bool a) (.bool b) h n K=K (.bool (if neg then !(a==b)else a==b)) h n:=rfl
def unV(op:UnOp)(x:AV)(h:J8)(n:Nat)(K:AV->J8->Nat->Prop):Prop:=match op,x with
 | .not,.bool b=>K (.bool (!b)) h n
 | .neg,.int k a=>K (.int k (k.wrap (0 - a))) h n
 |_,_=>False
@[simp ↓] theorem Kb4{b:Bool} : unV .not (.bool b) h n K=K (.bool (!b)) h n:=rfl
@[simp ↓] theorem Kas{k:IntKind}{a:Int} : unV .neg (.int k a) h n K=K (.int k (k.wrap (0 - a))) h n:=rfl
def Ny(str:Bool)(sz:Nat)(x:AV)(s:Jm)(lo hi:Option Jy)(h:J8)(n:Nat)(K:AV->J8->Nat->Prop):Prop:=match str,x with
 |true,.str l=>Js (U0 s 0 lo) λa=>Js (U0 s l.length hi) λb=>0<=a/\a<=b/\b<=l.length/\K (.str ((l.take b.toNat).drop a.toNat)) h n
 |false,.sl sz' rows=>Js (U0 s 0 lo) λa=>Js (U0 s rows.length hi) λb=>sz'=sz/\0<=a/\a<=b/\b<=rows.length/\K (.sl sz' ((rows.take b.toNat).drop a.toNat)) h n
 |false,.ref id off len=>Js (U0 s 0 lo) λa=>Js (U0 s len hi) λb=>0<=a/\a<=b/\b<=len/\Js (h id) λB=>B.sz=sz/\K (.ref id (off+a.toNat) (b - a).toNat) h n
 |false,.nil sz'=>Js (U0 s 0 lo) λa=>Js (U0 s 0 hi) λb=>a=0/\b=0/\K (.nil sz') h n
 |_,_=>False
@[simp ↓] theorem K1z{sz:Nat}{l:List UInt8}{s:Jm}{lo hi:Option Jy} : Ny true sz (.str l) s lo hi h n K=Js (U0 s 0 lo) λa=>Js (U0 s l.length hi) λb=>0<=a/\a<=b/\b<=l.length/\K (.str ((l.take b.toNat).drop a.toNat)) h n:=rfl
@[simp ↓] theorem Ka2{sz sz':Nat}{rows:List (List AV)}{s:Jm}{lo hi:Option Jy} : Ny false sz (.sl sz' rows) s lo hi h n K=Js (U0 s 0 lo) λa=>Js (U0 s rows.length hi) λb=>sz'=sz/\0<=a/\a<=b/\b<=rows.length/\K (.sl sz' ((rows.take b.toNat).drop a.toNat)) h n:=rfl
@[simp ↓] theorem K1b{sz id off len:Nat}{s:Jm}{lo hi:Option Jy} : Ny false sz (.ref id off len) s lo hi h n K=Js (U0 s 0 lo) λa=>Js (U0 s len hi) λb=>0<=a/\a<=b/\b<=len/\Js (h id) λB=>B.sz=sz/\K (.ref id (off+a.toNat) (b - a).toNat) h n:=rfl
@[simp ↓] theorem K1e{sz sz':Nat}{s:Jm}{lo hi:Option Jy} : Ny false sz (.nil sz') s lo hi h n K=Js (U0 s 0 lo) λa=>Js (U0 s 0 hi) λb=>a=0/\b=0/\K (.nil sz') h n:=rfl
def K6d(off:Nat)(x:AV)(h:J8)(n:Nat)(K:AV->J8->Nat->Prop):Prop:=match x with
 | .ptr id r c=>(h id).isSome=true/\K (.ptr id r (c+off)) h n
 | .fptr row c=>K (.fptr row (c+off)) h n
 |_=>False
@[simp ↓] theorem K18{off id r c:Nat} : K6d off (.ptr id r c) h n K=((h id).isSome=true/\K (.ptr id r (c+off)) h n):=rfl
@[simp ↓] theorem Jzo{off c:Nat}{row:List AV} : K6d off (.fptr row c) h n K=K (.fptr row (c+off)) h n:=rfl
def Kcg(agg:Bool)(off sz:Nat)(x:AV)(h:J8)(n:Nat)(K:AV->J8->Nat->Prop):Prop:=match x with
 | .agg cs=>Js (Ud true agg cs off sz) λa=>K a h n
 |_=>False
@[simp ↓] theorem K2c{agg:Bool}{off sz:Nat}{cs:List AV} : Kcg agg off sz (.agg cs) h n K=Js (Ud true agg cs off sz) λa=>K a h n:=rfl
def Nt(sz:Nat)(x:AV)(i:Option Int)(h:J8)(n:Nat)(K:AV->J8->Nat->Prop):Prop:=match x,i with
 | .sl sz' rows,some i=>sz'=sz/\0<=i/\i<rows.length/\K (.fptr (Wa rows i.toNat) 0) h n
 | .ref id off len,some i=>0<=i/\i<len/\Js (h id) λB=>B.sz=sz/\K (.ptr id (off+i.toNat) 0) h n
 |_,_=>False
@[simp ↓] theorem Kak{sz sz':Nat}{rows:List (List AV)}{i:Int} : Nt sz (.sl sz' rows) (some i) h n K=(sz'=sz/\0<=i/\i<rows.length/\K (.fptr (Wa rows i.toNat) 0) h n):=rfl
@[simp ↓] theorem K2i{sz id off len:Nat}{i:Int} : Nt sz (.ref id off len) (some i) h n K=(0<=i/\i<len/\Js (h id) λB=>B.sz=sz/\K (.ptr id (off+i.toNat) 0) h n):=rfl
def Kce(x:AV)(i:Option Int)(h:J8)(n:Nat)(K:AV->J8->Nat->Prop):Prop:=match x,i with
 | .str l,some i=>0<=i/\i<l.length/\K (.int .u8 (l.getD i.toNat 0).toNat) h n
 |_,_=>False
@[simp ↓] theorem K29{l:List UInt8}{i:Int} : Kce (.str l) (some i) h n K=(0<=i/\i<l.length/\K (.int .u8 (l.getD i.toNat 0).toNat) h n):=rfl
def Kcj(x:AV)(i:Nat)(h:J8)(n:Nat)(K:AV->J8->Nat->Prop):Prop:=match x with
 | .tup vs=>Js vs[i]? λa=>K a h n
 |_=>False
@[simp ↓] theorem K20{vs:List AV}{i:Nat} : Kcj (.tup vs) i h n K=Js vs[i]? λa=>K a h n:=rfl
def Jln(P:Program)(v:AV)(as:List AV)(h:J8)(n:Nat)(K:AV->J8->Nat->Prop):Prop:=match v with
 | .fn (.func f) fi ca=>X9 P f (fi++as++ca) h n K
 |_=>False
@[simp ↓] theorem K3k{P:Program}{f:FuncId}{fi ca as:List AV} : Jln P (.fn (.func f) fi ca) as h n K=X9 P f (fi++as++ca) h n K:=rfl
def Fz(str:Bool)(v:AV)(h:J8)(n:Nat)(K:AV->J8->Nat->Prop):Prop:=match str,v with
 |true,.str l=>l.length<=Jd->K (.int .i64 l.length) h n
 |false,.sl _ rows=>rows.length<=Jd->K (.int .i64 rows.length) h n
 |false,.ref id _ len=>(h id).isSome=true/\(len<=Jd->K (.int .i64 len) h n)
 |false,.nil _=>K (.int .i64 0) h n
 |_,_=>False
@[simp ↓] theorem K2s{l:List UInt8} : Fz true (.str l) h n K=(l.length<=Jd->K (.int .i64 l.length) h n):=rfl
@[simp ↓] theorem K9n{sz:Nat}{rows:List (List AV)} : Fz false (.sl sz rows) h n K=(rows.length<=Jd->K (.int .i64 rows.length) h n):=rfl
@[simp ↓] theorem Jho{id off len:Nat} : Fz false (.ref id off len) h n K=((h id).isSome=true/\(len<=Jd->K (.int .i64 len) h n)):=rfl
@[simp ↓] theorem K37{sz:Nat} : Fz false (.nil sz) h n K=K (.int .i64 0) h n:=rfl
def Cy(str:Bool)(v:AV)(h:J8)(n:Nat)(K:AV->J8->Nat->Prop):Prop:=match str,v with
 |true,.str l=>K (.int .i64 l.length) h n
 |false,.sl _ rows=>K (.int .i64 rows.length) h n
 |false,.ref id _ len=>(h id).isSome=true/\K (.int .i64 len) h n
 |false,.nil _=>K (.int .i64 0) h n
 |_,_=>False
@[simp ↓] theorem K31{l:List UInt8} : Cy true (.str l) h n K=K (.int .i64 l.length) h n:=rfl
@[simp ↓] theorem Kao{sz:Nat}{rows:List (List AV)} : Cy false (.sl sz rows) h n K=K (.int .i64 rows.length) h n:=rfl
@[simp ↓] theorem K34{id off len:Nat} : Cy false (.ref id off len) h n K=((h id).isSome=true/\K (.int .i64 len) h n):=rfl
@[simp ↓] theorem K2o{sz:Nat} : Cy false (.nil sz) h n K=K (.int .i64 0) h n:=rfl
def Jly(id:Nat)(y:AV):Prop:=match y with | .ref id2 _ _=>id2≠id|_=>True
def Eq(bytes sz:Nat)(x y:AV)(h:J8)(n:Nat)(K:AV->J8->Nat->Prop):Prop:=match x with
 | .nil _=>Js (G2 h y) λp=>p.1=sz/\(p.2.1.length*bytes<=Jd)/\K (.ref n 0 p.2.1.length) (upd p.2.2 n (some ⟨false,sz,p.2.1⟩)) (n+1)
 | .ref id off len=>off=0/\Js (G2 h y) λp=>Js (h id) λB=>B.box=false/\B.sz=sz/\len<=B.rows.length/\p.1=sz /\
  Jly id y/\((len+p.2.1.length)*bytes<=Jd) /\
  K (.ref n 0 (len+p.2.1.length)) (upd (upd p.2.2 id Option.none) n (some ⟨false,sz,B.rows.take len++p.2.1⟩)) (n+1)
 |_=>False
@[congr] theorem Jw9{bytes sz:Nat}{x x' y y':AV}(hx:x=x')(hy:y=y'):Eq bytes sz x y h n K=Eq bytes sz x' y' h n K:=by subst hx hy;rfl
@[simp ↓] theorem K1i{bytes sz z:Nat}{y:AV} : Eq bytes sz (.nil z) y h n K=Js (G2 h y) λp=>p.1=sz/\(p.2.1.length*bytes<=Jd)/\K (.ref n 0 p.2.1.length) (upd p.2.2 n (some ⟨false,sz,p.2.1⟩)) (n+1):=rfl
@[simp ↓] theorem K2f{bytes sz id off len:Nat}{y:AV} : Eq bytes sz (.ref id off len) y h n K=(off=0/\Js (G2 h y) λp=>Js (h id) λB=>B.box=false/\B.sz=sz/\len<=B.rows.length/\p.1=sz /\
 Jly id y/\((len+p.2.1.length)*bytes<=Jd) /\
 K (.ref n 0 (len+p.2.1.length)) (upd (upd p.2.2 id Option.none) n (some ⟨false,sz,B.rows.take len++p.2.1⟩)) (n+1)):=rfl
def Kc7(mx:Bool)(x y:AV)(h:J8)(n:Nat)(K:AV->J8->Nat->Prop):Prop:=match x,y with
 | .int k a,.int k' b=>k=k'/\K (.int k (if mx then(if b>a then b else a)else(if b<a then b else a))) h n
 |_,_=>False
@[simp ↓] theorem K30{mx:Bool}{k k':IntKind}{a b:Int} : Kc7 mx (.int k a) (.int k' b) h n K=(k=k'/\K (.int k (if mx then(if b>a then b else a)else(if b<a then b else a))) h n):=rfl
def Ra(neg:Bool)(x:AV)(h:J8)(n:Nat)(K:AV->J8->Nat->Prop):Prop:=match x with
 | .sl _ rows=>(rows=[]->K (.bool (!neg)) h n)/\K (.bool neg) h n
 | .nil _=>K (.bool (!neg)) h n
 | .ref id _ len=>(h id).isSome=true/\(len=0->K (.bool (!neg)) h n)/\K (.bool neg) h n
 |_=>False
@[simp ↓] theorem K1h{neg:Bool}{sz:Nat}{rows:List (List AV)} : Ra neg (.sl sz rows) h n K=((rows=[]->K (.bool (!neg)) h n)/\K (.bool neg) h n):=rfl
@[simp ↓] theorem Jzs{neg:Bool}{sz:Nat} : Ra neg (.nil sz) h n K=K (.bool (!neg)) h n:=rfl
@[simp ↓] theorem K0t{neg:Bool}{id off len:Nat} : Ra neg (.ref id off len) h n K=((h id).isSome=true/\(len=0->K (.bool (!neg)) h n)/\K (.bool neg) h n):=rfl
def Kcd(neg:Bool)(ks:List Nat)(x y:AV)(h:J8)(n:Nat)(K:AV->J8->Nat->Prop):Prop:=match x,y with
 | .agg xs,.agg ys=>Js (Ux ks xs ys) λb=>K (.bool (if neg then !b else b)) h n
 |_,_=>False
@[simp ↓] theorem K3t{neg:Bool}{ks:List Nat}{xs ys:List AV} : Kcd neg ks (.agg xs) (.agg ys) h n K=Js (Ux ks xs ys) λb=>K (.bool (if neg then !b else b)) h n:=rfl
def Ry(bytes sz:Nat)(x y:AV)(h:J8)(n:Nat)(K:AV->J8->Nat->Prop):Prop:=match x with
 | .nil _=>Js (Is h y) λp=>p.1=sz/\(p.2.length*bytes<=Jd)/\K (.ref n 0 p.2.length) (upd h n (some ⟨true,sz,p.2⟩)) (n+1)
 | .ref id off len=>off=0/\Js (Is h y) λp=>Js (h id) λB=>B.box=true/\B.sz=sz/\len<=B.rows.length/\p.1=sz/\((len+p.2.length)*bytes<=Jd) /\
  K (.ref n 0 (len+p.2.length)) (upd (upd h id Option.none) n (some ⟨true,sz,B.rows.take len++p.2⟩)) (n+1)
 |_=>False
@[simp ↓] theorem Jfm{bytes sz z:Nat}{y:AV} : Ry bytes sz (.nil z) y h n K=Js (Is h y) λp=>p.1=sz/\(p.2.length*bytes<=Jd)/\K (.ref n 0 p.2.length) (upd h n (some ⟨true,sz,p.2⟩)) (n+1):=rfl
@[simp ↓] theorem Jf1{bytes sz id off len:Nat}{y:AV} : Ry bytes sz (.ref id off len) y h n K=(off=0/\Js (Is h y) λp=>Js (h id) λB=>B.box=true/\B.sz=sz/\len<=B.rows.length/\p.1=sz/\((len+p.2.length)*bytes<=Jd) /\
 K (.ref n 0 (len+p.2.length)) (upd (upd h id Option.none) n (some ⟨true,sz,B.rows.take len++p.2⟩)) (n+1)):=rfl
def Jwy(z x k:AV)(h:J8)(n:Nat)(K:AV->J8->Nat->Prop):Prop:=match x,k with
 | .mp id,.str key=>Js (h id) λB=>K ((I4 B.rows key).getD z) h n
 |_,_=>False
@[simp ↓] theorem K1y{z:AV}{id:Nat}{key:List UInt8} : Jwy z (.mp id) (.str key) h n K=Js (h id) λB=>K ((I4 B.rows key).getD z) h n:=rfl
def Jx2(x k v:AV)(h:J8)(n:Nat)(K:AV->J8->Nat->Prop):Prop:=match x,k with
 | .mp id,.str key=>Js (h id) λB=>K (.tup []) (upd h id (some ⟨true,0,Oq B.rows key v⟩)) n
 |_,_=>False
@[simp ↓] theorem K2v{v:AV}{id:Nat}{key:List UInt8} : Jx2 (.mp id) (.str key) v h n K=Js (h id) λB=>K (.tup []) (upd h id (some ⟨true,0,Oq B.rows key v⟩)) n:=rfl
variable {P:Program}{s:Jm}
@[simp ↓] theorem K2k{sz:Nat}{ps:List Jy} : Jk P s h n K (.bslb sz ps)=((ps.all λp=>(cellsOf (ev s p)).length==sz&&(cellsOf (ev s p)).all Kb)=true /\
 K (.ref n 0 ps.length) (upd h n (some ⟨true,sz,ps.map λp=>cellsOf (ev s p)⟩)) (n+1)):=propext Iff.rfl
@[simp ↓] theorem K24{bytes sz:Nat}{x y:Jy} : Jk P s h n K (.appb bytes sz x y)=Ry bytes sz (ev s x) (ev s y) h n K:=propext Iff.rfl
@[simp ↓] theorem Kag:Jk P s h n K .mmk=K (.mp n) (upd h n (some ⟨true,0,[]⟩)) (n+1):=propext Iff.rfl
@[simp ↓] theorem K2n{z:AV}{x k:Jy} : Jk P s h n K (.mget z x k)=Jwy z (ev s x) (ev s k) h n K:=propext Iff.rfl
@[simp ↓] theorem K2r{x k v:Jy} : Jk P s h n K (.mput x k v)=Jx2 (ev s x) (ev s k) (ev s v) h n K:=propext Iff.rfl
@[simp ↓] theorem K9b{neg:Bool}{ks:List Nat}{x y:Jy} : Jk P s h n K (.aeq neg ks x y)=Kcd neg ks (ev s x) (ev s y) h n K:=propext Iff.rfl
@[simp ↓] theorem K2p{neg:Bool}{x:Jy} : Jk P s h n K (.inil neg x)=Ra neg (ev s x) h n K:=propext Iff.rfl
@[simp ↓] theorem Kd4{x:Jy} : Jk P s h n K (.mv x)=K (ev s x) h n:=propext Iff.rfl
@[simp ↓] theorem Kbo{z:List AV} : Jk P s h n K (.box z)=K (.ptr n 0 0) (upd h n (some ⟨true,z.length,[z]⟩)) (n+1):=propext Iff.rfl
@[simp ↓] theorem K3r{x:Jy} : Jk P s h n K (.boxv x)=(0<(cellsOf (ev s x)).length/\(cellsOf (ev s x)).all Kb=true/\K (.ptr n 0 0) (upd h n (some ⟨true,(cellsOf (ev s x)).length,[cellsOf (ev s x)]⟩)) (n+1)):=propext Iff.rfl
@[simp ↓] theorem K0n{z:List AV}{ps:List (Nat×Nat×Jy)} : Jk P s h n K (.build z ps)=((ps.all λp=>(cellsOf (ev s p.2.2)).all Kb)=true/\Js (C4 z (ps.map λp=>(p.1,p.2.1,ev s p.2.2))) λcs=>K (.agg cs) h n):=propext Iff.rfl
@[simp ↓] theorem Kbj{sz:Nat}{ps:List Jy} : Jk P s h n K (.bsl sz ps)=Js (Va (ps.map (ev s)) h) λq=>(q.1.all λa=>(cellsOf a).length==sz&&(cellsOf a).all Kb)=true /\
 K (.ref n 0 ps.length) (upd q.2 n (some ⟨false,sz,q.1.map cellsOf⟩)) (n+1):=propext Iff.rfl
@[simp ↓] theorem Kd8{agg:Bool}{sz:Nat}{x:Jy} : Jk P s h n K (.ld agg sz x)=Rc agg sz (ev s x) h n K:=propext Iff.rfl
@[simp ↓] theorem Kcy{sz:Nat}{a x:Jy} : Jk P s h n K (.st sz a x)=stV sz (ev s a) (ev s x) h n K:=propext Iff.rfl
@[simp ↓] theorem Kab{op:BinOp}{x y:Jy} : Jk P s h n K (.bin op x y)=P4 op (ev s x) (ev s y) h n K:=propext Iff.rfl
@[simp ↓] theorem Kbt{neg:Bool}{x y:Jy} : Jk P s h n K (.beq neg x y)=Kc8 neg (ev s x) (ev s y) h n K:=propext Iff.rfl
@[simp ↓] theorem Kdr{op:UnOp}{x:Jy} : Jk P s h n K (.un op x)=unV op (ev s x) h n K:=propext Iff.rfl
@[simp ↓] theorem K9i{k:IntKind}{x:Jy} : Jk P s h n K (.cvi k x)=Js (Vz (ev s x)) λa=>K (.int k (k.wrap a)) h n:=propext Iff.rfl
@[simp ↓] theorem K9f{x:Jy} : Jk P s h n K (.cvb x)=Js (G2 h (ev s x)) λp=>Js (bytesOf p.2.1) λl=>K (.str l) h n:=propext Iff.rfl
@[simp ↓] theorem Ka5{f:Fn}{fi ca:List Jy} : Jk P s h n K (.mkf f fi ca)=K (.fn f (fi.map (ev s)) (ca.map (ev s))) h n:=propext Iff.rfl
@[simp ↓] theorem Kbl{bytes:Nat}{z:List AV}{l c:Jy} : Jk P s h n K (.mks bytes z l c)=Js (Vz (ev s l)) λl=>Js (Vz (ev s c)) λc=>0<=l/\l<=c/\c*bytes<=Jd /\
 K (.ref n 0 l.toNat) (upd h n (some ⟨false,z.length,List.replicate l.toNat z⟩)) (n+1):=propext Iff.rfl
@[simp ↓] theorem K9w{str:Bool}{sz:Nat}{x:Jy}{lo hi:Option Jy} : Jk P s h n K (.slc str sz x lo hi)=Ny str sz (ev s x) s lo hi h n K:=propext Iff.rfl
@[simp ↓] theorem Ka3{off:Nat}{x:Jy} : Jk P s h n K (.fld off x)=K6d off (ev s x) h n K:=propext Iff.rfl
@[simp ↓] theorem Ka9{agg:Bool}{off sz:Nat}{x:Jy} : Jk P s h n K (.prt agg off sz x)=Kcg agg off sz (ev s x) h n K:=propext Iff.rfl
@[simp ↓] theorem Kbc{sz:Nat}{x i:Jy} : Jk P s h n K (.ixa sz x i)=Nt sz (ev s x) (Vz (ev s i)) h n K:=propext Iff.rfl
@[simp ↓] theorem K9s{x i:Jy} : Jk P s h n K (.ixs x i)=Kce (ev s x) (Vz (ev s i)) h n K:=propext Iff.rfl
@[simp ↓] theorem K9l{x:Jy}{i:Nat} : Jk P s h n K (.ext x i)=Kcj (ev s x) i h n K:=propext Iff.rfl
@[simp ↓] theorem K3i{f:Jy}{args:List Jy} : Jk P s h n K (.call f args)=Jln P (ev s f) (args.map (ev s)) h n K:=propext Iff.rfl
@[simp ↓] theorem Kbs{str:Bool}{x:Jy} : Jk P s h n K (.len str x)=Fz str (ev s x) h n K:=propext Iff.rfl
@[simp ↓] theorem Kbq{bytes sz:Nat}{x y:Jy} : Jk P s h n K (.app bytes sz x y)=Eq bytes sz (ev s x) (ev s y) h n K:=propext Iff.rfl
@[simp ↓] theorem Ka4{mx:Bool}{x y:Jy} : Jk P s h n K (.mnx mx x y)=Kc7 mx (ev s x) (ev s y) h n K:=propext Iff.rfl
end
section
variable {P:Program}{s s':Jm}{h h':J8}{n n':Nat}{ks:List Kt}{Q:Xb}
@[congr] theorem K0j{α:Type}{x x':Option α}{K:α->Prop}(hs:x=x'):Js x K=Js x' K:=by subst hs;rfl
@[simp ↓] theorem K1n{α:Type}{a:α}{K:α->Prop} : Js (some a) K=K a:=propext Iff.rfl
@[simp ↓] theorem K2g{α:Type}{K:α->Prop} : Js Option.none K=False:=propext Iff.rfl
@[simp ↓] theorem Jdo:rC P .skip ks s h n Q=Jt P ks .normal s h n Q:=propext Iff.rfl
@[simp ↓] theorem Kdh{os:List AO} : rC P (.reg os) ks s h n Q=rO P os ks s h n Q:=propext Iff.rfl
@[simp ↓] theorem Eo{a b:AC} : rC P (.seq a b) ks s h n Q=rC P a (.seq b::ks) s h n Q:=by simp only[rC,Ie];congr
@[simp ↓] theorem Jxq{id:Nat}{a:AC} : rC P (.blk id a) ks s h n Q=rC P a (.blk id::ks) s h n Q:=by simp only[rC,Ie];congr
@[simp ↓] theorem J8f{a:AC} : rC P (.loop a) ks s h n Q=rL P a ks s h n Q:=propext Iff.rfl
@[simp ↓] theorem Kap{id:Nat} : rC P (.exit id) ks s h n Q=Jt P ks (.exit id) s h n Q:=propext Iff.rfl
@[simp ↓] theorem Ke5:rC P .ret ks s h n Q=Jt P ks .ret s h n Q:=propext Iff.rfl
@[simp ↓] theorem Kar{t:DT} : rC P (.draw t) ks s h n Q=rD P t ks s h n Q:=propext Iff.rfl
@[simp ↓] theorem C5{c:Jy}{a b:AC} : rC P (.cond c a b) ks s h n Q=Jli (ev s c) (rC P a ks s h n Q) (rC P b ks s h n Q):=propext Iff.rfl
@[simp ↓] theorem Sj{e:AE} : Jt P [] e s h n Q=Q e s h n:=propext Iff.rfl
@[simp ↓] theorem Wd{b:AC} : Jt P (.seq b::ks) .normal s h n Q=rC P b ks s h n Q:=propext Iff.rfl
@[simp ↓] theorem T7{b:AC} : Jt P (.seq b::ks) .ret s h n Q=Jt P ks .ret s h n Q:=propext Iff.rfl
@[simp ↓] theorem Jjr{b:AC}{i:Nat} : Jt P (.seq b::ks) (.exit i) s h n Q=Jt P ks (.exit i) s h n Q:=propext Iff.rfl
@[simp ↓] theorem K2e{i:Nat} : Jt P (.blk i::ks) .normal s h n Q=Jt P ks .normal s h n Q:=propext Iff.rfl
@[simp ↓] theorem Jl5{i:Nat} : Jt P (.blk i::ks) .ret s h n Q=Jt P ks .ret s h n Q:=propext Iff.rfl
@[simp ↓] theorem Jjm{i j:Nat} : Jt P (.blk i::ks) (.exit j) s h n Q=if j=i then Jt P ks .normal s h n Q else Jt P ks (.exit j) s h n Q:=propext Iff.rfl
@[simp ↓] theorem Kdp:rO P [] ks s h n Q=Jt P ks .normal s h n Q:=propext Iff.rfl
@[simp ↓] theorem K9t{d:Option Nat}{op:Y2}{os:List AO} : rO P (⟨d,op,Option.none⟩::os) ks s h n Q=Jk P s h n (Pi P os ks d s Q) op:=propext Iff.rfl
@[simp ↓] theorem R8{d:Option Nat}{op:Y2}{j:Nat}{want:Bool}{os:List AO} : rO P (⟨d,op,some (j,want)⟩::os) ks s h n Q=Cd (s j) want (Jk P (upd s j (.bool want)) h n (Pi P os ks d (upd s j (.bool want)) Q) op) (rO P os ks (Xt (upd s j (.bool (!want))) d (.tup [])) h n Q) (rO P os ks (Xt s d (.tup [])) h n Q):=propext Iff.rfl
@[simp ↓] theorem K3c{os:List AO}{d:Option Nat}{r:AV} : Pi P os ks d s Q r h n=rO P os ks (Xt s d r) h n Q:=propext Iff.rfl
@[simp ↓] theorem Kdm:rD P .fin ks s h n Q=Jt P ks .normal s h n Q:=propext Iff.rfl
@[simp ↓] theorem K3x:rD P .stuck ks s h n Q=False:=propext Iff.rfl
@[simp ↓] theorem Kat{a b:DT} : rD P (.both a b) ks s h n Q=(rD P a ks s h n Q/\rD P b ks s h n Q):=propext Iff.rfl
@[simp ↓] theorem Keu{d:Option Nat}{op:Y2}{t:DT} : rD P (.op ⟨d,op,Option.none⟩ t) ks s h n Q=Xv P s h n (Nr P t ks d s Q) op:=propext Iff.rfl
@[simp ↓] theorem Ps{d:Option Nat}{op:Y2}{j:Nat}{want:Bool}{t:DT} : rD P (.op ⟨d,op,some (j,want)⟩ t) ks s h n Q=Cd (s j) want (Xv P (upd s j (.bool want)) h n (Nr P t ks d (upd s j (.bool want)) Q) op) (rD P t ks (Xt (upd s j (.bool (!want))) d (.tup [])) h n Q) (rD P t ks (Xt s d (.tup [])) h n Q):=propext Iff.rfl
@[simp ↓ high] theorem Kdn{d:Option Nat}{op:Y2}{j:Nat}{os:List AO}(hj:s j = .bool true):rO P (⟨d,op,some (j,true)⟩::os) ks s h n Q=Jk P s h n (Pi P os ks d s Q) op:=by rw[R8,hj];simp[I5 hj]
@[simp ↓ high] theorem Ke4{d:Option Nat}{op:Y2}{j:Nat}{t:DT}(hj:s j = .bool true):rD P (.op ⟨d,op,some (j,true)⟩ t) ks s h n Q=Xv P s h n (Nr P t ks d s Q) op:=by rw[Ps,hj];simp[I5 hj]
@[simp ↓ high] theorem Kdq{d:Option Nat}{op:Y2}{j:Nat}{os:List AO}(hj:s j = .bool false):rO P (⟨d,op,some (j,true)⟩::os) ks s h n Q=rO P os ks (Xt s d (.tup [])) h n Q:=by rw[R8,hj];simp[I5 hj]
@[simp ↓ high] theorem Kdc{d:Option Nat}{op:Y2}{j:Nat}{t:DT}(hj:s j = .bool false):rD P (.op ⟨d,op,some (j,true)⟩ t) ks s h n Q=rD P t ks (Xt s d (.tup [])) h n Q:=by rw[Ps,hj];simp[I5 hj]
@[simp ↓ high] theorem Kdk{d:Option Nat}{op:Y2}{j:Nat}{os:List AO}(hj:s j = .bool true):rO P (⟨d,op,some (j,false)⟩::os) ks s h n Q=rO P os ks (Xt s d (.tup [])) h n Q:=by rw[R8,hj];simp[I5 hj]
@[simp ↓ high] theorem Kdv{d:Option Nat}{op:Y2}{j:Nat}{t:DT}(hj:s j = .bool true):rD P (.op ⟨d,op,some (j,false)⟩ t) ks s h n Q=rD P t ks (Xt s d (.tup [])) h n Q:=by rw[Ps,hj];simp[I5 hj]
@[simp ↓ high] theorem Ke3{d:Option Nat}{op:Y2}{j:Nat}{os:List AO}(hj:s j = .bool false):rO P (⟨d,op,some (j,false)⟩::os) ks s h n Q=Jk P s h n (Pi P os ks d s Q) op:=by rw[R8,hj];simp[I5 hj]
@[simp ↓ high] theorem Kda{d:Option Nat}{op:Y2}{j:Nat}{t:DT}(hj:s j = .bool false):rD P (.op ⟨d,op,some (j,false)⟩ t) ks s h n Q=Xv P s h n (Nr P t ks d s Q) op:=by rw[Ps,hj];simp[I5 hj]
@[simp ↓] theorem Kde{d:Option Nat}{op:Y2}{ps:List Y2}{t:DT} : rD P (.hop ⟨d,op,Option.none⟩ ps t) ks s h n Q=Xv P s h n (Jlg P ps t ks d s h Q) op:=propext Iff.rfl
@[simp ↓] theorem K15{d:Option Nat}{op:Y2}{ps:List Y2}{j:Nat}{want:Bool}{t:DT} : rD P (.hop ⟨d,op,some (j,want)⟩ ps t) ks s h n Q=Cd (s j) want (Xv P (upd s j (.bool want)) h n (Jlg P ps t ks d (upd s j (.bool want)) h Q) op) (rD P t ks (Xt (upd s j (.bool (!want))) d (.tup [])) h n Q) (rD P t ks (Xt s d (.tup [])) h n Q):=propext Iff.rfl
@[simp ↓] theorem K28{ps:List Y2}{t:DT}{d:Option Nat}{h0:J8}{r:AV} : Jlg P ps t ks d s h0 Q r h n=(D8 ps s h0 h/\rD P t ks (Xt s d r) h n Q):=propext Iff.rfl
@[simp] theorem Jzp{h0:J8} : D8 [] s h0 h=True:=by simp[D8]
@[simp] theorem Jwj{h0:J8}{p:Y2}{ps:List Y2} : D8 (p::ps) s h0 h=(keepL s h0 h p/\D8 ps s h0 h):=by simp[D8]
@[simp ↓] theorem K1p{t:DT}{d:Option Nat}{r:AV} : Nr P t ks d s Q r h n=rD P t ks (Xt s d r) h n Q:=propext Iff.rfl
@[simp ↓] theorem K3m{res:List RV}{Q:AV->Prop} : Cv res Q .ret s h n=Js (Ht s h res) λxs=>Js (dt (Ha xs) h) λq=>Xl q.1=true/\Q q.1:=propext Iff.rfl
@[simp ↓] theorem Juk{res:List RV}{Q:AV->Prop} : Cv res Q .normal s h n=Js (Ht s h res) λxs=>Js (dt (Ha xs) h) λq=>Xl q.1=true/\Q q.1:=propext Iff.rfl
@[simp ↓] theorem K3j{K:AV->J8->Nat->Prop}{c a b:Jy} : Jk P s h n K (.pick c a b)=Jli (ev s c) (K (ev s a) h n) (K (ev s b) h n):=propext Iff.rfl
theorem Jeq{f:Jy}{args:List Jy}{K:AV->J8->Nat->Prop} : Xv P s h n K (.call f args)=Jln P (ev s f) (args.map (ev s)) h n (hK h K):=propext Iff.rfl
theorem O0{a:AC}(I:Nat->Jm->J8->Nat->Prop)(k:Nat)(h0:I k s h n)
 (hs:∀k s h n,I k s h n->rC P a [] s h n λe s' h' n'=>match e with | .normal=>∃k',k'<k/\I k' s' h' n'|e=>Jt P ks e s' h' n' Q):rL P a ks s h n Q:=⟨I,⟨k,h0⟩,hs⟩
end
theorem Jp{P:Program}{f:FuncId}{fn:Func}{af:Jl}{as:List AV}{Q:AV->Prop}{bx:Bool}(hf:P.funcs[f]? = some fn)(hc:Gd bx P fn=some af) (hn:(fn.name == "runtime.NumGoroutine")=false) (hl:as.length<=af.nt)
 (hr:rC P af.body [] (Cf as) Ot 0 (Cv af.res Q)):Holds P f as Q:=by
 refine J4h (J1e hf hc hn ⟨hl,?_⟩);unfold rC at hr
 have:(λe s h n=>Jt P [] e s h n (Cv af.res Q))=λe s h n=>match e with
  | .exit _=>False
  |_=>Js (Ht s h af.res) λxs=>Js (dt (Ha xs) h) λq=>Xl q.1=true/\Q q.1:=by
  funext e s h n;cases e <;>rfl
 rw[this]at hr;exact hr
theorem Je{P:Program}{f:FuncId}{xs xs':List AV}{h:J8}{n:Nat}{Q:AV->Prop}{K:AV->J8->Nat->Prop}(hh:Holds P f xs' Q)(hb:U5 xs h=some xs')
 (hK:∀r,Q r->K (sub r n) (Wk h n (Y0 r)) (n+(Y0 r).length)):X9 P f xs h n K:=J0l hh hb hK
theorem Jx{P:Program}{f:FuncId}{xs xs':List AV}{h:J8}{n:Nat}{Q:AV->Prop}{K:AV->J8->Nat->Prop}(hh:Holds P f xs' Q)(hb:U5 xs h=some xs')
 (hK':∀r,Q r->K (sub r n) (Wk h n (Y0 r)) (n+(Y0 r).length)):X9 P f xs h n (hK h K):=J43 hh hb hK'
@[simp ↓] theorem Kah{P:Program}{s:Jm}{h:J8}{n:Nat}{K:AV->J8->Nat->Prop}{x} : Xv P s h n K (.mv x)=Jk P s h n K (.mv x):=propext Iff.rfl
@[simp ↓] theorem K0o{P:Program}{s:Jm}{h:J8}{n:Nat}{K:AV->J8->Nat->Prop}{c}{a}{b} : Xv P s h n K (.pick c a b)=Jk P s h n K (.pick c a b):=propext Iff.rfl
@[simp ↓] theorem K1c{P:Program}{s:Jm}{h:J8}{n:Nat}{K:AV->J8->Nat->Prop}{z} : Xv P s h n K (.box z)=Jk P s h n K (.box z):=propext Iff.rfl
@[simp ↓] theorem K04{P:Program}{s:Jm}{h:J8}{n:Nat}{K:AV->J8->Nat->Prop}{x} : Xv P s h n K (.boxv x)=Jk P s h n K (.boxv x):=propext Iff.rfl
@[simp ↓] theorem Jvi{P:Program}{s:Jm}{h:J8}{n:Nat}{K:AV->J8->Nat->Prop}{z}{ps} : Xv P s h n K (.build z ps)=Jk P s h n K (.build z ps):=propext Iff.rfl
@[simp ↓] theorem K23{P:Program}{s:Jm}{h:J8}{n:Nat}{K:AV->J8->Nat->Prop}{sz}{ps} : Xv P s h n K (.bsl sz ps)=Jk P s h n K (.bsl sz ps):=propext Iff.rfl
@[simp ↓] theorem Kbg{P:Program}{s:Jm}{h:J8}{n:Nat}{K:AV->J8->Nat->Prop}{g}{sz}{x} : Xv P s h n K (.ld g sz x)=Jk P s h n K (.ld g sz x):=propext Iff.rfl
@[simp ↓] theorem Kbk{P:Program}{s:Jm}{h:J8}{n:Nat}{K:AV->J8->Nat->Prop}{sz}{a}{x} : Xv P s h n K (.st sz a x)=Jk P s h n K (.st sz a x):=propext Iff.rfl
@[simp ↓] theorem K08{P:Program}{s:Jm}{h:J8}{n:Nat}{K:AV->J8->Nat->Prop}{x} : Xv P s h n K (.nchk x)=Jk P s h n K (.nchk x):=propext Iff.rfl
@[simp ↓] theorem K3l{P:Program}{s:Jm}{h:J8}{n:Nat}{K:AV->J8->Nat->Prop}{op}{x}{y} : Xv P s h n K (.bin op x y)=Jk P s h n K (.bin op x y):=propext Iff.rfl
@[simp ↓] theorem K1s{P:Program}{s:Jm}{h:J8}{n:Nat}{K:AV->J8->Nat->Prop}{g}{x}{y} : Xv P s h n K (.beq g x y)=Jk P s h n K (.beq g x y):=propext Iff.rfl
@[simp ↓] theorem Kax{P:Program}{s:Jm}{h:J8}{n:Nat}{K:AV->J8->Nat->Prop}{op}{x} : Xv P s h n K (.un op x)=Jk P s h n K (.un op x):=propext Iff.rfl
@[simp ↓] theorem K3n{P:Program}{s:Jm}{h:J8}{n:Nat}{K:AV->J8->Nat->Prop}{k}{x} : Xv P s h n K (.cvi k x)=Jk P s h n K (.cvi k x):=propext Iff.rfl
@[simp ↓] theorem K3q{P:Program}{s:Jm}{h:J8}{n:Nat}{K:AV->J8->Nat->Prop}{x} : Xv P s h n K (.cvb x)=Jk P s h n K (.cvb x):=propext Iff.rfl
@[simp ↓] theorem K2q{P:Program}{s:Jm}{h:J8}{n:Nat}{K:AV->J8->Nat->Prop}{f}{fi}{ca} : Xv P s h n K (.mkf f fi ca)=Jk P s h n K (.mkf f fi ca):=propext Iff.rfl
@[simp ↓] theorem K3f{P:Program}{s:Jm}{h:J8}{n:Nat}{K:AV->J8->Nat->Prop}{b}{z}{l}{c} : Xv P s h n K (.mks b z l c)=Jk P s h n K (.mks b z l c):=propext Iff.rfl
@[simp ↓] theorem K2b{P:Program}{s:Jm}{h:J8}{n:Nat}{K:AV->J8->Nat->Prop}{st}{sz}{x}{lo}{hi} : Xv P s h n K (.slc st sz x lo hi)=Jk P s h n K (.slc st sz x lo hi):=propext Iff.rfl
@[simp ↓] theorem K35{P:Program}{s:Jm}{h:J8}{n:Nat}{K:AV->J8->Nat->Prop}{o}{x} : Xv P s h n K (.fld o x)=Jk P s h n K (.fld o x):=propext Iff.rfl
@[simp ↓] theorem K2m{P:Program}{s:Jm}{h:J8}{n:Nat}{K:AV->J8->Nat->Prop}{g}{o}{sz}{x} : Xv P s h n K (.prt g o sz x)=Jk P s h n K (.prt g o sz x):=propext Iff.rfl
@[simp ↓] theorem K2l{P:Program}{s:Jm}{h:J8}{n:Nat}{K:AV->J8->Nat->Prop}{sz}{x}{i} : Xv P s h n K (.ixa sz x i)=Jk P s h n K (.ixa sz x i):=propext Iff.rfl
@[simp ↓] theorem K1t{P:Program}{s:Jm}{h:J8}{n:Nat}{K:AV->J8->Nat->Prop}{x}{i} : Xv P s h n K (.ixs x i)=Jk P s h n K (.ixs x i):=propext Iff.rfl
@[simp ↓] theorem K3v{P:Program}{s:Jm}{h:J8}{n:Nat}{K:AV->J8->Nat->Prop}{x}{i} : Xv P s h n K (.ext x i)=Jk P s h n K (.ext x i):=propext Iff.rfl
@[simp ↓] theorem K2d{P:Program}{s:Jm}{h:J8}{n:Nat}{K:AV->J8->Nat->Prop}{b}{sz}{x}{y} : Xv P s h n K (.app b sz x y)=Jk P s h n K (.app b sz x y):=propext Iff.rfl
@[simp ↓] theorem K3a{P:Program}{s:Jm}{h:J8}{n:Nat}{K:AV->J8->Nat->Prop}{m}{x}{y} : Xv P s h n K (.mnx m x y)=Jk P s h n K (.mnx m x y):=propext Iff.rfl
@[simp ↓] theorem K2x{P:Program}{s:Jm}{h:J8}{n:Nat}{K:AV->J8->Nat->Prop}{g}{ks}{x y} : Xv P s h n K (.aeq g ks x y)=Jk P s h n K (.aeq g ks x y):=propext Iff.rfl
@[simp ↓] theorem K12{P:Program}{s:Jm}{h:J8}{n:Nat}{K:AV->J8->Nat->Prop}{sz}{ps} : Xv P s h n K (.bslb sz ps)=Jk P s h n K (.bslb sz ps):=propext Iff.rfl
@[simp ↓] theorem K0y{P:Program}{s:Jm}{h:J8}{n:Nat}{K:AV->J8->Nat->Prop}{b sz}{x y} : Xv P s h n K (.appb b sz x y)=Jk P s h n K (.appb b sz x y):=propext Iff.rfl
@[simp ↓] theorem K2j{P:Program}{s:Jm}{h:J8}{n:Nat}{K:AV->J8->Nat->Prop} : Xv P s h n K .mmk=Jk P s h n K .mmk:=propext Iff.rfl
@[simp ↓] theorem K0p{P:Program}{s:Jm}{h:J8}{n:Nat}{K:AV->J8->Nat->Prop}{z}{x k} : Xv P s h n K (.mget z x k)=Jk P s h n K (.mget z x k):=propext Iff.rfl
@[simp ↓] theorem K16{P:Program}{s:Jm}{h:J8}{n:Nat}{K:AV->J8->Nat->Prop}{x k v} : Xv P s h n K (.mput x k v)=Jk P s h n K (.mput x k v):=propext Iff.rfl
@[simp ↓] theorem Jzw{P:Program}{s:Jm}{h:J8}{n:Nat}{K:AV->J8->Nat->Prop}{x} : Xv P s h n K (.mlen x)=Jk P s h n K (.mlen x):=propext Iff.rfl
@[simp ↓] theorem K00{P:Program}{s:Jm}{h:J8}{n:Nat}{K:AV->J8->Nat->Prop}{g}{x} : Xv P s h n K (.inil g x)=Jk P s h n K (.inil g x):=propext Iff.rfl
@[simp ↓] theorem K21{P:Program}{s:Jm}{h:J8}{n:Nat}{K:AV->J8->Nat->Prop}{g:Bool}{x:Jy} : Xv P s h n K (.len g x)=Cy g (ev s x) h n K:=propext Iff.rfl
attribute [simp] Ux keepL G6 Ig Va Y0 Oy sub Oe Wk bw U5 Uy Wi Yw Yl dr Jly Jeq ev Xt upd Cf cellsOf Kb Wa Ud Ht Nf Ha dt Xl N8 Vz G0 i64 No
@[simp] theorem Jkz(l:List Int):(Ji l).length=l.length:=by simp[Ji]
@[simp] theorem K0x(l:List Int)(i:Nat):(Ji l)[i]? = (l[i]?).map λn=>[i64 n]:=by simp[Ji]
@[simp] theorem Jjp(l:List Int)(i:Nat)(h:i<(Ji l).length):(Ji l)[i]=[i64 (l[i]'(by simpa using h))]:=by simp[Ji]
@[simp] theorem Jel(l:List Int):Yl (Ji l)=Ji l:=by rw[Wx];simp[Ji,Yw,dr,i64]
@[simp] theorem J9c(l:List Int):Wi (Ji l)=true:=by rw[Og];simp[Ji,Uy,Xl,i64]
@[simp] theorem Jmj{α:Type}(f:Nat->α)(k:Nat)(a b:α):upd (upd f k a) k b=upd f k b:=by funext i;simp only[upd];split <;>rfl
@[simp] theorem Jwn(l:List Int):List.take l.length (Ji l)=Ji l:=take_of_length_le (by simp)
theorem Km{x:Int}(h : -9223372036854775808<=x/\x<9223372036854775808):IntKind.i64.wrap x=x:=by rw[IntKind.wrap_i64];omega
open Go Go.RowKit
def Tf(P:Program):Nat->List Field->Bool
 |_,[]=>true
 |off,f::fl=>Nat.beq f.offset off&&Tf P (off+P.cellsOf f.type) fl
def C0(P:Program):List Field->Nat
 | []=>0
 |f::fl=>P.cellsOf f.type+C0 P fl
def plain(P:Program):Nat->TypeId->Bool
 |0,_=>false
 |f+1,t=>match P.underlying t with
  |some .bool=>Nat.beq (P.cellsOf t) 1
  |some (.int _)=>Nat.beq (P.cellsOf t) 1
  |some .string=>Nat.beq (P.cellsOf t) 1
  |some (.slice e)=>Nat.beq (P.cellsOf t) 1&&Nat.blt 0 (P.cellsOf e)&&Nat.blt 0 (P.bytesOf e)&&plain P f e
  |some (.struct fs)=>Tf P 0 fs.toList&&Nat.beq (P.cellsOf t) (C0 P fs.toList)&&fs.toList.all λx=>plain P f x.type
  |_=>false
def Do{α β:Type}(R:α->β->Prop):List α->List β->Prop
 | [],[]=>True
 |a::l,b::m=>R a b/\Do R l m
 |_,_=>False
def Y4(P:Program):Nat->TypeId->List AV->Prop
 |0,_,_=>False
 |f+1,t,row=>match P.underlying t with
  |some .bool=>∃b,row=[.bool b]
  |some (.int k)=>∃n,row=[.int k n]/\(Lit.int k n).wf=true
  |some .string=>∃l:List UInt8,row=[.str l]/\l.length<=Jd
  |some (.slice e)=>∃rows:List (List AV),row=[.sl (P.cellsOf e) rows]/\rows.length<=Jd/\∀r∈rows,Y4 P f e r
  |some (.struct fs)=>∃parts:List (List AV),row=parts.flatten/\Do (λ(x:Field) r=>Y4 P f x.type r) fs.toList parts
  |_=>False
section
variable {P:Program}{W:World}{H:Type}{enc:TypeId×Value->H}
theorem Jif{a:AV}{v:Value}{S:List Nat}(h:VR W Lo 0 a v S)(hc:Kb a=true):v.oneCell'=true:=by
 cases a <;>simp only[Kb,Bool.false_eq_true]at hc <;>simp only[VR]at h
 case mp=>exact h.1.2.1
 case int=>rw[h.1];rfl
 case bool=>rw[h.1];rfl
 case str=>obtain⟨⟨b,rfl,_⟩,_⟩:=h;rfl
 case nil=>rw[h.1];rfl
 case nilp=>rw[h.1];rfl
 case ptr=>exact h.1.2.1
 case fptr=>obtain⟨⟨_,_,_,rfl,_⟩,_⟩:=h;rfl
 case ref=>exact h.1.2.1
 case sl=>obtain⟨⟨_,_,_,rfl,_⟩,_⟩:=h;rfl
 case us=>rcases h.2 with ⟨rfl,_⟩|⟨_,_,_,_,_,_,_,rfl,_⟩ <;>rfl
 case fn=>obtain⟨⟨_,_,rfl,_⟩,_⟩:=h;rfl
theorem J73:∀{as:List AV}{vs:List Value}{S:List Nat},Jw W Lo 0 as vs S->as.all Kb=true->Ua vs
 | [],_,_,h,_=>by simp only[Jw]at h;rw[h.1];intro v hv;cases hv
 |a::as,_,_,h,hc=>by
  simp only[Jw]at h;obtain⟨v,vs',S1,S2,rfl,rfl,h1,h2⟩:=h;simp only[all_cons,Bool.and_eq_true]at hc;intro u hu;rcases mem_cons.1 hu with rfl|hu
  ·exact Jif h1 hc.1
  ·exact J73 h2 hc.2 u hu
theorem T6{a:AV}{v:Value}(h:VR W Lo 0 a v []):Jw W Lo 0 [a] [v] []:=V0.2 ⟨v,[],rfl,h,rfl,rfl⟩
theorem J4a{b o:Nat}{xs ys:List Value}(h1:V6 W b o xs)(h2:V6 W b (o+xs.length) ys):V6 W b o (xs++ys):=by
 intro j v hj;by_cases hlt:j<xs.length
 ·rw[List.getElem?_append_left hlt]at hj;exact h1 j v hj
 ·rw[List.getElem?_append_right (by omega)]at hj;have:=h2 (j - xs.length) v hj;rw[show o+xs.length+(j - xs.length)=o+j by omega]at this;exact this
theorem Jen{α β:Type}{f:α->Option β}{l:List α}{m:List β}(h:l.mapM f=some m){i:Nat}{b:β}(hb:m[i]? = some b):∃a,l[i]? = some a/\f a=some b:=by
 obtain⟨h1,h2⟩:=Mg h;have hi:i<l.length:=by rw[<-h1];exact(List.getElem?_eq_some_iff.1 hb).1
 obtain⟨b',h3,h4⟩:=h2 i l[i] (List.getElem?_eq_getElem hi);rw[hb]at h3;cases h3;exact⟨_,List.getElem?_eq_getElem hi,h4⟩
theorem cells?_at {a:Addr}{n:Nat}{cs:List Value}(h:W.cells? 0 a n=some cs):cs.length=n/\V6 W a.block a.off cs/\(0<n->a.spot=Option.none/\a.block<W.heap.size):=by
 unfold World.cells? at h;rw[if_pos (Nat.zero_le _)]at h;have hl:=(Mg h).1;simp only[List.length_range]at hl
 have key:∀i,i<n->∃v,cs[i]? = some v/\W.cell? (a.add i)=some v:=λi hi=>by have hb:cs[i]? = some cs[i]:=List.getElem?_eq_getElem (by omega);obtain⟨i',h1,h2⟩:=Jen h hb;rw[List.getElem?_range hi]at h1;cases h1;exact⟨_,hb,h2⟩
 have spot:0<n->a.spot=Option.none/\a.block<W.heap.size:=λh0=>by
  obtain⟨v,_,h2⟩:=key 0 h0;unfold World.cell? at h2;have:a.add 0=a:=by simp[Addr.add]
  rw[this]at h2;split at h2
  ·rename_i hh;split at h2
   ·cases h2
   ·rename_i hs;exact⟨by cases hsp:a.spot;rfl;simp[hsp]at hs,Ox hh⟩
  ·cases h2
 refine⟨hl,λj v hj=>?_,spot⟩;have hjn:j<n:=by rw[<-hl];exact(List.getElem?_eq_some_iff.1 hj).1
 obtain⟨v',h1,h2⟩:=key j hjn;rw[hj]at h1;cases h1;have hsp:=(spot (by omega)).1
 have:a.add j=⟨a.block,a.off+j,Option.none⟩:=by
  unfold Addr.add;split
  ·rename_i e;subst e;cases a;simp at hsp;subst hsp;simp
  ·simp
 rw[this]at h2;exact h2
theorem J2j{e:TypeId}{d:DataW H} : ∀{l:List (DataW H)},d∈l->∀n∈d.weights P e,n∈DataW.weightsAll P e l
 |x::l,h,n,hn=>by
  simp only[DataW.weightsAll,mem_append];rcases mem_cons.1 h with rfl|h
  ·exact .inl hn
  ·exact .inr (J2j h n hn)
theorem Jdg{e:TypeId}{R:List AV->Prop}{a:Addr}{len:Nat}(hsz:0<P.cellsOf e)
 (hx:∀i,i<len->∃cs row,W.cells? 0 (a.add (i*P.cellsOf e)) (P.cellsOf e)=some cs/\Jw W Lo 0 row cs []/\R row/\row.all Kb=true/\row.length=P.cellsOf e) :
 ∀k,k<=len->∃(rows:List (List AV)) (vals:List Value),rows.length=k/\X6 W Lo 0 rows vals []/\vals.length=k*P.cellsOf e/\V6 W a.block a.off vals/\Ua vals/\(∀r∈rows,R r/\r.length=P.cellsOf e)/\(0<k->a.spot=Option.none/\a.block<W.heap.size)
 |0,_=>⟨[],[],rfl,⟨rfl,rfl⟩,by simp,(λj v h=>by simp at h),(λv h=>by cases h),(λr h=>by cases h),λh=>absurd h (Nat.lt_irrefl _)⟩
 |k+1,hk=>by
  obtain⟨rows,vals,h1,h2,h3,h4,h5,h6,h7⟩:=Jdg hsz hx k (by omega);obtain⟨cs,row,g1,g2,g3,g4,g5⟩:=hx k (by omega);obtain⟨q1,q2,q3⟩:=cells?_at g1;have hsp:=q3 hsz
  have hadd:a.add (k*P.cellsOf e)=⟨a.block,a.off+k*P.cellsOf e,a.spot⟩\/(k*P.cellsOf e=0/\a.add (k*P.cellsOf e)=a)\/a.add (k*P.cellsOf e)=⟨a.block,a.off+k*P.cellsOf e,Option.none⟩:=by
   unfold Addr.add;split
   ·rename_i e0;exact .inr (.inl ⟨e0,rfl⟩)
   ·exact .inr (.inr rfl)
  have hblk:(a.add (k*P.cellsOf e)).block=a.block/\(a.add (k*P.cellsOf e)).off=a.off+k*P.cellsOf e:=by
   rcases hadd with h|⟨h0,h⟩|h
   ·rw[h];exact⟨rfl,rfl⟩
   ·rw[h,h0];exact⟨rfl,rfl⟩
   ·rw[h];exact⟨rfl,rfl⟩
  refine⟨rows++[row],vals++cs,by simp[h1],?_,by rw[List.length_append,h3,q1,Nat.succ_mul],J4a h4 ?_,?_,?_,λ_=>?_⟩
  ·rw[Vv]at h2⊢;rw[List.flatten_append,Rt];exact⟨vals,cs,rfl,h2,by simpa using g2⟩
  ·rw[h3,<-hblk.1,<-hblk.2];exact q2
  ·intro v hv;rcases mem_append.1 hv with hv|hv
   ·exact h5 v hv
   ·exact J73 g2 g4 v hv
  ·intro r hr;rcases mem_append.1 hr with hr|hr
   ·exact h6 r hr
   ·simp at hr;subst hr;exact⟨g3,g5⟩
  ·by_cases hk0:k=0
   ·subst hk0;have:a.add (0*P.cellsOf e)=a:=by simp[Addr.add]
    rw[this]at hsp;exact hsp
   ·exact h7 (by omega)
theorem Jbn{f:Nat}(ih:∀t,plain P f t=true->∀fuel cs d ps,DataW.trod enc P W 0 (λ_=>true) true fuel t cs=some (d,ps)->(∀n∈d.weights P t,n<=reachBytes) ->
 ∃row,Jw W Lo 0 row cs []/\Y4 P f t row/\row.all Kb=true/\row.length=P.cellsOf t) {cs:List Value}{n:Nat} :
 ∀(fl:List Field) (xs:List (DataW H×List MemPlace)) (off:Nat),Tf P off fl=true->(fl.all λx=>plain P f x.type)=true->off+C0 P fl=cs.length->xs.length=fl.length ->
  (∀(i:Nat) (x:Field),fl[i]? = some x->DataW.trod enc P W 0 (λ_=>true) true n x.type ((cs.drop x.offset).take (P.cellsOf x.type))=xs[i]?) ->
  (∀k∈DataW.weightsEach P (fl.map (·.type)) (xs.map (·.1)),k<=reachBytes) ->
  ∃parts:List (List AV),Jw W Lo 0 parts.flatten (cs.drop off) []/\Do (λ(x:Field) r=>Y4 P f x.type r) fl parts/\parts.flatten.all Kb=true/\parts.flatten.length=C0 P fl
 | [],xs,off,_,_,hl,hx,_,_=>by
  refine⟨[],?_,trivial,rfl,rfl⟩;simp only[C0]at hl;rw[drop_eq_nil_of_le (by omega)]
  exact⟨rfl,rfl⟩
 |x::fl,[],_,_,_,_,hx,_,_=>by simp at hx
 |x::fl,y::xs,off,hc,hp,hl,hx,hf,hw=>by simp only[Tf,Bool.and_eq_true,Nat.beq_eq,all_cons,C0]at hc hp hl;obtain⟨ho,hc⟩:=hc;have h0:=hf 0 x rfl;simp only[List.getElem?_cons_zero]at h0;simp only[map_cons,DataW.weightsEach,mem_append]at hw;obtain⟨row,r1,r2,r3,r4⟩:=ih x.type hp.1 n _ y.1 y.2 h0 (λk hk=>hw k (.inl hk));obtain⟨parts,p1,p2,p3,p4⟩:=Jbn ih fl xs (off+P.cellsOf x.type) hc hp.2 (by rw[<-hl];omega) (by simpa using hx) (λi z hz=>by simpa using hf (i+1) z (by simpa using hz)) (λk hk=>hw k (.inr hk));refine⟨row::parts,?_,⟨r2,p2⟩,by simp[List.all_append,r3,p3],by simp[r4,p4,C0]⟩;rw[List.flatten_cons,Rt];rw[ho]at r1;refine⟨_,_,?_,r1,p1⟩;rw[<-List.drop_drop,List.take_append_drop]
theorem J0x(P:Program)(W:World):∀(f:Nat) (t:TypeId),plain P f t=true->∀(fuel:Nat) (cs:List Value) (d:DataW H) (ps:List MemPlace),DataW.trod enc P W 0 (λ_=>true) true fuel t cs=some (d,ps)->(∀n∈d.weights P t,n<=reachBytes) ->
 ∃row,Jw W Lo 0 row cs []/\Y4 P f t row/\row.all Kb=true/\row.length=P.cellsOf t
 |0,t,hp=>by simp[plain]at hp
 |f+1,t,hp=>by
  intro fuel cs d ps h hw;unfold plain at hp;split at hp
  ·rename_i hu;simp only[Nat.beq_eq]at hp
   cases fuel with
   |zero=>simp[DataW.trod]at h
   |succ fuel=>
    unfold DataW.trod at h;rw[hu]at h;split at h <;>simp_all
    rename_i b;exact⟨[.bool b],T6 (by simp[VR]),by simp[Y4,hu],by simp,by simp⟩
  ·rename_i k hu;simp only[Nat.beq_eq]at hp
   cases fuel with
   |zero=>simp[DataW.trod]at h
   |succ fuel=>
    unfold DataW.trod at h;rw[hu]at h;split at h <;>simp_all
    rename_i k' n hk;subst hk;exact⟨[.int k n],T6 (by simp[VR]),by simpa[Y4,hu]using h.1.2,by simp,by simp⟩
  ·rename_i hu;simp only[Nat.beq_eq]at hp
   cases fuel with
   |zero=>simp[DataW.trod]at h
   |succ fuel=>
    unfold DataW.trod at h;rw[hu]at h;split at h <;>simp_all
    rename_i s;obtain⟨_,hd,_⟩:=h;subst hd
    have hl:s.data.toList.length<=Jd:=by have:=hw s.data.toList.length (by simp[DataW.weights]);unfold reachBytes at this;unfold Jd;omega
    exact⟨[.str s.data.toList],T6 (by simp only[VR];exact⟨⟨s,rfl,rfl,hl⟩,trivial⟩),by simpa[Y4,hu]using hl,by simp,by simp⟩
  ·rename_i e hu;simp only[Bool.and_eq_true,Nat.beq_eq,Nat.blt_eq]at hp;obtain⟨⟨⟨hc,hsz⟩,hby⟩,hpe⟩:=hp;rcases DataW.trod_slice hu h with ⟨rfl,hx⟩|⟨a,len,cap,elems,rest,n,_,rfl,hx,_,hlc,_,hlen,hel,_⟩
   ·refine⟨[.sl (P.cellsOf e) []],?_,by simp[Y4,hu],by simp[Kb],by simp[hc]⟩;exact T6 (by simp only[VR];exact⟨⟨Option.none,0,[],rfl,⟨Nat.zero_le _,Nat.le_refl _⟩,⟨rfl,rfl⟩,.inl trivial⟩,trivial⟩)
   ·obtain⟨hd,-⟩:=Prod.mk.inj hx;subst hd;have hwt:=λn hn=>hw n (by simp only[DataW.weights,hu];exact hn)
    have hbig:=hwt _ mem_cons_self
    obtain⟨rows,vals,h1,h2,h3,h4,h5,h6,h7⟩:=Jdg (P:=P) (W:=W) (e:=e) (R:=Y4 P f e) (a:=a) (len:=len) hsz (λi hi=>by
     have hb:=hel i hi;have hi':i<elems.length:=by omega
     rw[List.getElem?_eq_getElem hi']at hb;obtain⟨cs,g1,g2⟩:=Option.bind_eq_some_iff.1 hb;obtain⟨row,r1,r2,r3,r4⟩:=J0x P W f e hpe n cs elems[i].1 elems[i].2 g2 (λk hk=>hwt k (List.mem_cons_of_mem _ (List.mem_append_left _ (J2j (mem_map.2 ⟨elems[i],getElem_mem hi',rfl⟩) k hk))));exact⟨cs,row,g1,r1,r2,r3,r4⟩) len (Nat.le_refl _)
    have hlim:rows.length<=Jd:=by
     rw[h1];have h8:(elems.map (·.1)).length=len:=by simp[hlen]
     have:len*1<=(elems.map (·.1)).length*P.bytesOf e:=by rw[h8];exact Nat.mul_le_mul_left _ hby
     have h9:(elems.map (·.1)).length*P.bytesOf e<=((elems.map (·.1)).length+(rest.map (·.1)).length)*P.bytesOf e:=Nat.mul_le_mul_right _ (Nat.le_add_right _ _);unfold reachBytes at hbig;unfold Jd;omega
    refine⟨[.sl (P.cellsOf e) rows],?_,?_,by simp[Kb],by simp[hc]⟩
    ·refine V0.2 ⟨_,[],rfl,?_,⟨rfl,rfl⟩⟩;simp only[VR];refine⟨⟨some a,cap,vals,by rw[h1],⟨hlim,by rw[h1];exact hlc⟩,h2,?_⟩,trivial⟩;by_cases h0:len=0
     ·exact .inl (List.eq_nil_of_length_eq_zero (by omega))
     ·obtain⟨hs,hb⟩:=h7 (by omega);refine .inr ⟨a.block,a.off,by cases a;simp at hs;subst hs;rfl,Et _,hb,λr hr=>(h6 r hr).2,h4,h5⟩
    ·simp only[Y4,hu];exact⟨rows,rfl,hlim,λr hr=>(h6 r hr).1⟩
  ·rename_i fs hu;simp only[Bool.and_eq_true,Nat.beq_eq]at hp;obtain⟨⟨hc,ht⟩,hpf⟩:=hp;obtain⟨xs,n,_,hx,hlen,hxl,hf⟩:=DataW.trod_struct hu h;obtain⟨hd,-⟩:=Prod.mk.inj hx;subst hd;obtain⟨parts,p1,p2,p3,p4⟩:=Jbn (P:=P) (W:=W) (enc:=enc) (λt ht'=>J0x P W f t ht') (cs:=cs) (n:=n) fs.toList xs 0 hc hpf (by omega) (by simp[hxl]) (λi x hi=>hf i x (by simpa using hi)) (λk hk=>hw k (by simp only[DataW.weights,hu];exact hk));exact⟨parts.flatten,by simpa using p1,by simp only[Y4,hu];exact⟨parts,rfl,p2⟩,p3,by rw[p4,ht]⟩
  ·cases hp
end
open Go Go.RowKit Go.ChangeShapes Go.WideShapes
def E7(P:Program)(f:Nat)(t:TypeId)(a:AV):Prop:=match P.underlying t with
 |some (.struct _)=>∃row,a = .agg row/\Y4 P f t row
 |_=>Y4 P f t [a]
theorem Uw{α β:Type}{R:α->β->Prop}{a:α}{l:List α}{m:List β}(h:Do R (a::l) m):∃x m',m=x::m'/\R a x/\Do R l m':=by
 cases m with
 |nil=>exact h.elim
 |cons x m=>exact⟨x,m,rfl,h.1,h.2⟩
theorem Br{α β:Type}{R:α->β->Prop}{m:List β}(h:Do R [] m):m=[]:=by
 cases m with
 |nil=>rfl
 |cons x m=>exact h.elim
theorem J5x{P:Program}{f:Nat}{t:TypeId}{r:List AV}(hu:P.underlying t=some .bool)(h:Y4 P (f+1) t r):∃b,r=[.bool b]:=by simpa only[Y4,hu]using h
theorem Rp{P:Program}{f:Nat}{t:TypeId}{r:List AV}{k:IntKind}(hu:P.underlying t=some (.int k))(h:Y4 P (f+1) t r):∃n,r=[.int k n]/\(Lit.int k n).wf=true:=by simpa only[Y4,hu]using h
theorem Dh{P:Program}{f:Nat}{t:TypeId}{r:List AV}(hu:P.underlying t=some .string)(h:Y4 P (f+1) t r):∃l:List UInt8,r=[.str l]/\l.length<=Jd:=by simpa only[Y4,hu]using h
theorem Bh{P:Program}{f:Nat}{t e:TypeId}{r:List AV}(hu:P.underlying t=some (.slice e))(h:Y4 P (f+1) t r):∃rows:List (List AV),r=[.sl (P.cellsOf e) rows]/\rows.length<=Jd/\∀r∈rows,Y4 P f e r:=by simpa only[Y4,hu]using h
theorem D1{P:Program}{f:Nat}{t:TypeId}{fs:Array Field}{r:List AV}(hu:P.underlying t=some (.struct fs))(h:Y4 P (f+1) t r):∃parts:List (List AV),r=parts.flatten/\Do (λ(x:Field) r=>Y4 P f x.type r) fs.toList parts:=by simpa only[Y4,hu]using h
theorem J2e{P:Program}{f:Nat}{t:TypeId}{fs:Array Field}{a:AV}(hu:P.underlying t=some (.struct fs))(h:E7 P f t a):∃row,a = .agg row/\Y4 P f t row:=by simpa only[E7,hu]using h
theorem Jmo{P:Program}{f:Nat}{t e:TypeId}{r:List AV}(hu:P.underlying t=some (.slice e))(he:P.underlying e=some (.int .i64))(hc:P.cellsOf e=1)(h:Y4 P (f+2) t r):∃l,r=[No l]:=by
 obtain⟨rows,rfl,_,hr⟩:=Bh hu h
 have:∃l,rows=Ji l:=by
  clear h
  induction rows with
  |nil=>exact⟨[],rfl⟩
  |cons r rows ih=>
   obtain⟨n,rfl,_⟩:=Rp he (hr r mem_cons_self);obtain⟨l,rfl⟩:=ih (by rename_i h2;simp only[List.length_cons]at h2;omega) λr hr'=>hr r (List.mem_cons_of_mem _ hr')
   exact⟨n::l,rfl⟩
 obtain⟨l,rfl⟩:=this;exact⟨l,by rw[hc];rfl⟩
section
variable {P:Program}{W:World}{H:Type}{enc:TypeId×Value->H}
theorem J9j{f:Nat}{t:TypeId}{v:Value}{d:DataW H}{ps:List MemPlace}{base:Nat}(hp:plain P f t=true)(hv:Value.okWide P W .any base t v)(h:DataW.Trod enc P W 0 (λ_=>true) true t v d ps)
 (hw:∀n∈d.weights P t,n<=reachBytes):∃a,VR W Lo 0 a v []/\E7 P f t a:=by
 obtain⟨fuel,h⟩:=h;obtain⟨row,h1,h2,h3,h4⟩:=J0x P W f t hp fuel _ d ps h hw
 have key:(∀fs,P.underlying t≠some (.struct fs))->(∀n e,P.underlying t≠some (.array n e))->v.cells.toList=[v]\/¬(plain P f t=true):=λn1 n2=>by
  left;unfold Value.okWide at hv;split at hv
  ·rename_i hu;exact absurd hu (n1 _)
  ·rename_i hu;exact absurd hu (n2 _ _)
  ·cases v <;>try rfl
   rename_i cs;exfalso;unfold Cell.okWide at hv;split at hv <;>simp_all
   unfold Cell.ok at hv;split at hv <;>simp_all
 cases f with
 |zero=>simp[plain]at hp
 |succ f=>
  unfold E7;split
  ·rename_i fs hu;unfold Value.okWide at hv;rw[hu]at hv;simp only at hv;obtain⟨cs,rfl,_⟩:=hv;exact⟨.agg row,by simp only[VR];exact⟨cs,rfl,h1⟩,row,rfl,h2⟩
  ·rename_i hns;have na:∀n e,P.underlying t≠some (.array n e):=λn e hu=>by simp[plain,hu]at hp
   rcases key hns na with hc|hc
   ·rw[hc]at h1;have hl:row.length=1:=by have:=Vh h1;simpa using this.symm
    match row,hl with
    | [a],_=>
     obtain⟨v',vs',e,g1,_⟩:=V0.1 h1;cases e;exact⟨a,g1,h2⟩
   ·exact absurd hp hc
theorem J2b{f:Nat}{base:Nat} : ∀{ts:List TypeId}{vs:List Value}{ds:List (DataW H)}{ps:List MemPlace},ts.all (λt=>plain P f t)=true->(∀(j:Nat) t v,ts[j]? = some t->vs[j]? = some v->Value.okWide P W .any base t v) ->
 DataW.TrodAll enc P W 0 (λ_=>true) true ts vs ds ps->(∀n∈DataW.weightsEach P ts ds,n<=reachBytes)->∃xs,Jw W Lo 0 xs vs []/\Do (λt a=>E7 P f t a) ts xs
 | [],[],[],ps,_,_,_,_=>⟨[],⟨rfl,rfl⟩,trivial⟩
 |t::ts,v::vs,d::ds,ps,hp,hv,h,hw=>by
  obtain⟨p,q,h1,h2,rfl⟩:=h;simp only[all_cons,Bool.and_eq_true]at hp;simp only[DataW.weightsEach,mem_append]at hw;obtain⟨a,g1,g2⟩:=J9j hp.1 (hv 0 t v rfl rfl) h1 (λn hn=>hw n (.inl hn));obtain⟨xs,k1,k2⟩:=J2b hp.2 (λj t v ht hv'=>hv (j+1) t v (by simpa using ht) (by simpa using hv')) h2 (λn hn=>hw n (.inr hn))
  exact⟨a::xs,V0.2 ⟨v,vs,rfl,g1,k1⟩,g2,k2⟩
 | [],_::_,_,_,_,_,h,_=>h.elim
 | [],[],_::_,_,_,_,h,_=>h.elim
 |_::_,[],_,_,_,_,h,_=>h.elim
 |_::_,_::_,[],_,_,_,h,_=>h.elim
theorem J1a(hl:laidOutB P=true){W':World}(hb:Below W.heap.size W W'):∀{ts:List TypeId}{vs:List Value}{ds:List (DataW H)}{ps:List MemPlace},ts.all (λt=>P.readableRec t&&Nat.blt t P.types.size)=true ->
 DataW.TrodAll enc P W 0 (λ_=>true) true ts vs ds ps->(∀x∈ps,x.block<W.heap.size)->DataW.TrodAll enc P W' 0 (λb=>decide (b<W.heap.size)) true ts vs ds ps
 | [],[],[],_,_,h,_=>h
 |t::ts,v::vs,d::ds,ps,hr,h,hlt=>by
  obtain⟨p,q,h1,h2,rfl⟩:=h;simp only[all_cons,Bool.and_eq_true,Nat.blt_eq]at hr
  exact⟨p,q,Below.trod hl hr.1.1 hr.1.2 h1 hb (λx hx=>hlt x (List.mem_append_left _ hx)),J1a hl hb hr.2 h2 (λx hx=>hlt x (List.mem_append_right _ hx)),rfl⟩
 | [],_::_,_,_,_,h,_=>h.elim
 | [],[],_::_,_,_,h,_=>h.elim
 |_::_,[],_,_,_,h,_=>h.elim
 |_::_,_::_,[],_,_,h,_=>h.elim
theorem J0j{base:Nat}{sp:Nat->Bool}{hd:Bool} : ∀{ts:List TypeId}{vs:List Value}{ds:List (DataW H)}{ps:List MemPlace},DataW.TrodAll enc P W base sp hd ts vs ds ps->ds.length=ts.length
 | [],[],[],_,_=>rfl
 |t::ts,v::vs,d::ds,ps,h=>by obtain⟨p,q,_,h2,_⟩:=h;simp[J0j h2]
 | [],_::_,_,_,h=>h.elim
 | [],[],_::_,_,h=>h.elim
 |_::_,[],_,_,h=>h.elim
 |_::_,_::_,[],_,h=>h.elim
theorem J8a{f:FuncId}{fn:Func}{s:ChangeSpec}{k:Nat}{tb:TypeId}{apart fresh handsOn:Bool}(hl:laidOutB P=true)(hres:fn.resultTypes = #[tb])(hbool:P.underlying tb=some .bool)
 (hplain:fn.params.toList.all (λt=>plain P k t)=true) (hread:fn.params.toList.all (λt=>P.readableRec t&&Nat.blt t P.types.size)=true) (hvars:s.vars=[])
 (hspec:∀(ds:List (DataW H)),ds.length=fn.params.toList.length->s.fn H ds = { results:=[.lit (.bool true)],args:=ds })
 (hlaw:∀xs,Do (λt a=>E7 P k t a) fn.params.toList xs->Holds P f xs (λr=>r = .bool true)) (base:Nat) (args:Array Value) (ds gs:List (DataW H)) (before:List MemPlace)
 (hval:∀(j:Nat) t v,fn.params[j]? = some t->args[j]? = some v->Value.okWide P W .any base t v) (hW:DataW.Whole enc P fn.params.toList s.vars apart W args.toList ds gs before)
 (hsz:(DataW.weightsEach P (fn.params.toList++s.plain.varTypes P) (ds++gs)).all (· <= reachBytes)=true) :
 Calls P f args W λe W'=>∃v,e = .returned v/\s.post enc P fn apart fresh handsOn false W args v W':=by
 have hW':=hW;obtain⟨p,q,hA,hV,rfl,_,_⟩:=hW;rw[hvars]at hV
 have hgs:gs=[]/\q=[]:=by
  cases gs with
  |nil=>exact⟨rfl,hV⟩
  |cons=>exact hV.elim
 obtain⟨rfl,rfl⟩:=hgs;have hvt:s.plain.varTypes P=[]:=by simp[ChangeSpec.plain,DataSpec.varTypes,hvars]
 rw[hvt,append_nil,append_nil,List.all_eq_true]at hsz;obtain⟨xs,h1,h2⟩:=J2b hplain (λj t v ht hv=>hval j t v (by simpa using ht) (by simpa using hv)) hA (λn hn=>by simpa using hsz n hn);have hc:=(hlaw xs h2).2 W args.toList h1;refine hc.mono λe W' ⟨v,r,S,he,hr,_,hb,hv,_⟩=>?_
 subst hr;simp only[VR]at hv;obtain⟨rfl,_⟩:=hv;have hlt:∀x∈p,x.block<W.heap.size:=λx hx=>by simpa using hW'.lt x (List.mem_append_left _ hx)
 have hsp:=hspec ds (J0j hA);refine⟨_,he,ds,[],p++[],[],p,[],hW',?_,?_,?_,Below.frame hb _,λh=>by cases h⟩
 ·rw[append_nil,hsp,hres];refine⟨[],[],?_,rfl,rfl⟩;exact shut_bool hbool true
 ·rw[append_nil,hsp];exact J1a hl hb hread hA hlt
 ·rw[append_nil,hsp,hvars];exact rfl
end
open Go Go.RowKit
abbrev no{α:Type} : Option α:=Option.none
abbrev Zo(d:Nat)(x:Y2):AO:=⟨some d,x,no⟩
abbrev Zv(d s:Nat):AO:=⟨some d,.mv (.t s),no⟩
abbrev Zl(d:Nat)(g:Bool)(z s:Nat):AO:=⟨some d,.ld g z (.t s),no⟩
abbrev Zf(d c s:Nat):AO:=⟨some d,.fld c (.t s),no⟩
abbrev Zc(d f:Nat)(l:List Jy):AO:=⟨some d,.call (.k (.fn (.func f) [] [])) l,no⟩
abbrev Zi(d:Nat)(k:Int):AO:=⟨some d,.mv (.k (.int .i64 k)),no⟩
abbrev Zt(d:Nat)(b:Bool):AO:=⟨some d,.mv (.k (.bool b)),no⟩
abbrev Zn(d s:Nat):AO:=⟨some d,.len false (.t s),no⟩
abbrev Ze(d s c:Nat):AO:=⟨some d,.ext (.t s) c,no⟩
abbrev Zx(d z a b:Nat):AO:=⟨some d,.ixa z (.t a) (.t b),no⟩
abbrev Zb(d:Nat)(o:BinOp)(a b:Nat):AO:=⟨some d,.bin o (.t a) (.t b),no⟩
abbrev Zk(d:Nat)(o:BinOp)(a:Nat)(k:Int):AO:=⟨some d,.bin o (.t a) (.k (.int .i64 k)),no⟩
abbrev ZN(d s:Nat):AO:=⟨some d,.un .not (.t s),no⟩
abbrev ZB(d s:Nat):AO:=⟨some d,.boxv (.t s),no⟩
abbrev ZP(d a b:Nat):AO:=⟨some d,.pick (.t a) (.k (.bool true)) (.t b),no⟩
abbrev ZQ(d a b:Nat):AO:=⟨some d,.pick (.t a) (.t b) (.k (.bool false)),no⟩
abbrev ZA(d n z a b:Nat):AO:=⟨some d,.app n z (.t a) (.t b),no⟩
abbrev Zs(z a b:Nat):AO:=⟨no,.st z (.t a) (.t b),no⟩
abbrev ZR(d:Nat):AO:=⟨some d,.box [.int .i64 0,.nil 1],no⟩
abbrev Zz(d z:Nat):AO:=⟨some d,.mv (.k (.nil z)),no⟩
abbrev ZS(d z a:Nat):AO:=⟨some d,.bsl z [.t a],no⟩
abbrev ZU(d:Nat):AO:=⟨some d,.box [.str [],.nil 1,.bool false,.nil 2],no⟩
abbrev ZV(d:Nat):AO:=⟨some d,.box [.int .i64 0,.nil 2,.nil 2,.nil 1,.int .i64 0,.nil 1],no⟩
abbrev Zg(d g:Nat)(b:Bool)(x:Y2):AO:=⟨some d,x,some (g,b)⟩
abbrev Zq(l:List AO)(x:AC):AC:=.seq (.reg l) x
abbrev Zw(c e:Nat):AC:=.cond (.t c) .skip (.exit e)
def Gu(agg:Bool)(sz g:Nat):Jl:=
⟨27,[.t 4],(.seq
 (.reg [⟨some 4,.mv (.k (.bool false)),no⟩]) (.seq (.seq
 (.reg [⟨some 6,.mv (.t 0),no⟩,⟨some 7,.len false (.t 6),no⟩,⟨some 8,.mv (.t 1),no⟩,⟨some 9,.len false (.t 8),no⟩,⟨some 10,.bin .neq (.t 7) (.t 9),no⟩]) (.cond (.t 10) (.seq
 (.reg [⟨some 4,.mv (.k (.bool false)),no⟩]) .ret) .skip)) (.seq (.seq
 (.reg [⟨some 5,.mv (.k (.int .i64 0)),no⟩]) (.blk 0 (.loop (.seq (.seq
 (.reg [⟨some 11,.mv (.t 5),no⟩,⟨some 12,.mv (.t 0),no⟩,⟨some 13,.len false (.t 12),no⟩,⟨some 14,.bin .lss (.t 11) (.t 13),no⟩]) (.cond (.t 14) .skip (.exit 0))) (.seq (.blk 1 (.seq (.draw (.op ⟨some 17,.mv (.t 0),no⟩ (.op ⟨some 18,.mv (.t 5),no⟩ (.op ⟨some 19,.ixa sz (.t 17) (.t 18),no⟩ (.op ⟨some 20,.ld agg sz (.t 19),no⟩ (.op ⟨some 21,.mv (.t 1),no⟩ (.op ⟨some 22,.mv (.t 5),no⟩ (.op ⟨some 23,.ixa sz (.t 21) (.t 22),no⟩ (.op ⟨some 24,.ld agg sz (.t 23),no⟩ (.op ⟨some 25,.call (.k (.fn (.func g) [] [])) [.t 20,.t 24],no⟩ (.op ⟨some 26,.un .not (.t 25),no⟩ .fin))))))))))) (.cond (.t 26) (.seq
 (.reg [⟨some 4,.mv (.k (.bool false)),no⟩]) .ret) .skip)))
 (.reg [⟨some 15,.mv (.t 5),no⟩,⟨some 16,.bin .add (.t 15) (.k (.int .i64 1)),no⟩,⟨some 5,.mv (.t 16),no⟩])))))) (.seq
 (.reg [⟨some 4,.mv (.k (.bool true)),no⟩]) .ret))))⟩
def Bj{α:Type}(eq:α->α->Bool):List α->List α->Bool
 | [],[]=>true
 |x::a,y::b=>eq x y&&Bj eq a b
 |_,_=>false
theorem J53{α:Type}{eq:α->α->Bool} : ∀{a b:List α},a.length≠b.length->Bj eq a b=false
 | [],[],h=>absurd rfl h
 | [],_::_,_=>rfl
 |_::_,[],_=>rfl
 |x::a,y::b,h=>by simp only[Bj,J53 (a:=a) (b:=b) (by simpa using h),Bool.and_false]
theorem Jaa{α:Type}{eq:α->α->Bool} : ∀{a b:List α},a.length=b.length->(∀(i:Nat) x y,a[i]? = some x->b[i]? = some y->eq x y=true)->Bj eq a b=true
 | [],[],_,_=>rfl
 |x::a,y::b,hl,h=>by simp only[Bj,h 0 x y rfl rfl,Bool.true_and];exact Jaa (by simpa using hl) λi u v hu hv=>h (i+1) u v (by simpa using hu) (by simpa using hv)
theorem J76{α:Type}{eq:α->α->Bool} : ∀{a b:List α}{i:Nat}{x y:α},a[i]? = some x->b[i]? = some y->eq x y=false->Bj eq a b=false
 |u::a,v::b,0,x,y,hx,hy,h=>by simp at hx hy;subst hx hy;simp only[Bj,h,Bool.false_and]
 |u::a,v::b,i+1,x,y,hx,hy,h=>by simp only[Bj,J76 (a:=a) (b:=b) (i:=i) (by simpa using hx) (by simpa using hy) h,Bool.and_false]
 | [],_,_,_,_,hx,_,_=>by simp at hx
 |_::_,[],_,_,_,_,hy,_=>by simp at hy
theorem Dl{P:Program}{f:FuncId}{fn:Func}{agg:Bool}{sz g:Nat}{α:Type}{rowOf:α->List AV}{eltOf:α->AV}{eq:α->α->Bool}
 (hf:P.funcs[f]? = some fn) (hc:Jh P fn=some (Gu agg sz g)) (hn:(fn.name == "runtime.NumGoroutine")=false)
 (helt:∀x,Ud true agg (rowOf x) 0 sz=some (eltOf x)) (hbw:∀x h,bw (eltOf x) h=some (eltOf x)) (a b:List α)
 (hg:∀x y,x∈a->y∈b->Holds P g [eltOf x,eltOf y] (λr=>r = .bool (eq x y))) :
 Holds P f [.sl sz (a.map rowOf),.sl sz (b.map rowOf)] (λr=>r = .bool (Bj eq a b)):=by
 refine Jp hf hc hn (by simp[Gu]) ?_;simp[Gu,-Ud];intro h1 h2;refine⟨λh=>J53 (λe=>h (by rw[e])),λhl=>O0 (λk s h n=>∃i:Nat,k=a.length - i/\i<=a.length/\s 0 = .sl sz (a.map rowOf)/\s 1 = .sl sz (b.map rowOf)/\s 5=i64 i/\(∀(j:Nat) x y,j<i->a[j]? = some x->b[j]? = some y->eq x y=true)/\h=Ot/\n=0) a.length ⟨0,by simp⟩ ?_⟩;rintro k s h n ⟨i,rfl,hi,s0,s1,s5,hj,rfl,rfl⟩;have hl:a.length=b.length:=by omega
 by_cases hlt:i<a.length
 ·have hlt':i<b.length:=by omega
  unfold Jd at h1;simp[s0,s1,s5,hlt,hlt',helt,-Ud];intro _;refine Jx (hg a[i] b[i] (getElem_mem _) (getElem_mem _)) (by simp[hbw]) ?_;rintro r rfl;simp[s0,s1,s5];refine⟨λh=>J76 (List.getElem?_eq_getElem hlt) (List.getElem?_eq_getElem hlt') h,λe=>⟨a.length - (i+1),by omega,i+1,rfl,by omega,by rw[Km (by omega)];rfl,λj x y hj' hx hy=>?_⟩⟩;by_cases hji:j=i
  ·subst hji;rw[List.getElem?_eq_getElem hlt]at hx;rw[List.getElem?_eq_getElem hlt']at hy;cases hx;cases hy;exact e
  ·exact hj j x y (by omega) hx hy
 ·simp[s0,s1,s5,hlt];intro _;refine Jaa hl λj x y hx hy=>hj j x y ?_ hx hy
  have:=(List.getElem?_eq_some_iff.1 hx).1;omega
open Go Go.RowKit
def Nj(h:J8)(n:Nat):Prop:=∀id,n<=id->h id=Option.none
theorem Jil{α:Type}(f:Nat->α){i j:Nat}(a b:α)(h:i≠j):upd (upd f i a) j b=upd (upd f j b) i a:=by funext k;simp only[upd];split <;>split <;>first|rfl|omega
theorem J5b:∀(xs:List (Nat×List (List AV))) (h:J8) (n id:Nat) (v:Option Yi),id<n->upd (Wk h n xs) id v=Wk (upd h id v) n xs
 | [],h,n,id,v,_=>rfl
 |x::xs,h,n,id,v,hlt=>by simp only[Wk];rw[J5b xs _ _ _ _ (by omega),Jil _ _ _ (by omega)]
theorem J4b{h:J8}{n:Nat}(hf:Nj h n):upd h n Option.none=h:=by
 funext i;simp only[upd];split
 ·rename_i e;rw[e,hf n (Nat.le_refl _)]
 ·rfl
mutual
theorem Jkr:∀(r:AV) (h:J8) (n:Nat) (ys:List (Nat×List (List AV))),Xl r=true->Nj h n->dt (sub r n) (Wk h n (Y0 r++ys))=some (r,Wk h (n+(Y0 r).length) ys)
 | .us sz rows,h,n,ys,_,hf=>by
  simp only[sub,Y0,List.cons_append,List.nil_append,Wk,dt];have h1:Wk (upd h n (some ⟨false,sz,rows⟩)) (n+1) ys n=some ⟨false,sz,rows⟩:=by rw[F9,if_neg (by omega)];exact W4 _ _ _
  rw[h1];simp only[Nat.le_refl,and_self,if_true,List.take_length,List.length_cons,List.length_nil,Nat.zero_add]
  rw[J5b _ _ _ _ _ (by omega),Jmj,J4b hf]
 | .agg cs,h,n,ys,hc,hf=>by simp only[Xl]at hc;simp only[sub,Y0,dt,Sw cs h n ys hc hf,Option.map_some]
 | .tup cs,h,n,ys,hc,hf=>by simp only[Xl]at hc;simp only[sub,Y0,dt,Sw cs h n ys hc hf,Option.map_some]
 | .int ..,h,n,ys,_,_=>by simp[sub,Y0,dt]
 | .bool _,h,n,ys,_,_=>by simp[sub,Y0,dt]
 | .str _,h,n,ys,_,_=>by simp[sub,Y0,dt]
 | .nilp,h,n,ys,_,_=>by simp[sub,Y0,dt]
 | .undef,_,_,_,hc,_=>by simp[Xl]at hc
 | .nil _,_,_,_,hc,_=>by simp[Xl]at hc
 | .ptr ..,_,_,_,hc,_=>by simp[Xl]at hc
 | .fptr ..,_,_,_,hc,_=>by simp[Xl]at hc
 | .ref ..,_,_,_,hc,_=>by simp[Xl]at hc
 | .sl ..,_,_,_,hc,_=>by simp[Xl]at hc
 | .fn ..,_,_,_,hc,_=>by simp[Xl]at hc
 | .mp _,_,_,_,hc,_=>by simp[Xl]at hc
theorem Sw:∀(rs:List AV) (h:J8) (n:Nat) (ys:List (Nat×List (List AV))),Uy rs=true->Nj h n->Va (Oe rs n) (Wk h n (Oy rs++ys))=some (rs,Wk h (n+(Oy rs).length) ys)
 | [],h,n,ys,_,_=>by simp[Oe,Oy,Va]
 |r::rs,h,n,ys,hc,hf=>by simp only[Uy,Bool.and_eq_true]at hc;simp only[Oe,Oy,Va,List.append_assoc];rw[Jkr r h n (Oy rs++ys) hc.1 hf];simp only[Option.bind_some];rw[Sw rs h (n+(Y0 r).length) ys hc.2 (λid hid=>hf id (by omega))];simp only[Option.map_some,List.length_append];rw[Nat.add_assoc]
end
open Go Go.RowKit
theorem J3u:∀(rs:List AV) (n:Nat),(Oe rs n).length=rs.length
 | [],_=>rfl
 |r::rs,n=>by simp[Oe,J3u rs]
theorem Jc1(r:AV)(n:Nat)(h:Kb r=true):Kb (sub r n)=true:=by cases r <;>simp_all[Kb,sub]
theorem J3z:∀(rs:List AV) (n:Nat),rs.all Kb=true->(Oe rs n).all Kb=true
 | [],_,_=>rfl
 |r::rs,n,h=>by simp only[all_cons,Bool.and_eq_true]at h;simp only[Oe,all_cons,Bool.and_eq_true];exact⟨Jc1 r n h.1,J3z rs _ h.2⟩
theorem J6g(r:AV)(n:Nat):(cellsOf (sub r n)).length=(cellsOf r).length:=by cases r <;>simp[sub,cellsOf,J3u]
theorem J2k(r:AV)(n:Nat)(h:(cellsOf r).all Kb=true):(cellsOf (sub r n)).all Kb=true:=by
 cases r with
 |agg cs=>exact J3z cs n h
 |_=>simp_all[sub,cellsOf,Kb]
theorem J65{r:AV}{h:J8}{n:Nat}(hc:Xl r=true)(hf:Nj h n)(hcell:(cellsOf r).all Kb=true):Va (cellsOf (sub r n)) (Wk h n (Y0 r))=some (cellsOf r,h):=by
 by_cases ha:∃cs,r = .agg cs
 ·obtain⟨cs,rfl⟩:=ha;have:=Sw cs h n [] (by simpa[Xl]using hc) hf;simpa[sub,cellsOf,Y0,Wk]using this
 ·have h1:cellsOf r=[r]:=by cases r <;>first|rfl|exact absurd ⟨_,rfl⟩ ha
  have h2:cellsOf (sub r n)=[sub r n]:=by cases r <;>first|rfl|exact absurd ⟨_,rfl⟩ ha
  have:=Jkr r h n [] hc hf;rw[h1,h2];simp only[append_nil,Wk]at this;simp[Va,this]
def H9(agg:Bool)(sz bytes g:Nat)(z:List AV):Jl:=
⟨23,[.t 2],(.seq
 (.reg [⟨some 2,.mv (.k (.nil sz)),no⟩]) (.seq
 (.reg [⟨some 5,.mv (.t 0),no⟩,⟨some 6,.len false (.t 5),no⟩,⟨some 7,.mks bytes z (.t 6) (.t 6),no⟩,⟨some 3,.mv (.t 7),no⟩]) (.seq (.seq
 (.reg [⟨some 4,.mv (.k (.int .i64 0)),no⟩]) (.blk 0 (.loop (.seq (.seq
 (.reg [⟨some 8,.mv (.t 4),no⟩,⟨some 9,.mv (.t 0),no⟩,⟨some 10,.len false (.t 9),no⟩,⟨some 11,.bin .lss (.t 8) (.t 10),no⟩]) (.cond (.t 11) .skip (.exit 0))) (.seq (.blk 1
 (.reg [⟨some 14,.mv (.t 3),no⟩,⟨some 15,.mv (.t 4),no⟩,⟨some 16,.mv (.t 0),no⟩,⟨some 17,.mv (.t 4),no⟩,⟨some 18,.ixa sz (.t 16) (.t 17),no⟩,⟨some 19,.ld agg sz (.t 18),no⟩,⟨some 20,.call (.k (.fn (.func g) [] [])) [.t 19],no⟩,⟨some 21,.ixa sz (.t 14) (.t 15),no⟩,⟨no,.st sz (.t 21) (.t 20),no⟩]))
 (.reg [⟨some 12,.mv (.t 4),no⟩,⟨some 13,.bin .add (.t 12) (.k (.int .i64 1)),no⟩,⟨some 4,.mv (.t 13),no⟩])))))) (.seq
 (.reg [⟨some 22,.mv (.t 3),no⟩,⟨some 2,.mv (.t 22),no⟩]) .ret))))⟩
theorem Ef{P:Program}{f:FuncId}{fn:Func}{agg:Bool}{sz bytes g:Nat}{z:List AV}{α:Type}{rowOf:α->List AV}{eltOf eltU:α->AV}
 (hf:P.funcs[f]? = some fn) (hc:Jh P fn=some (H9 agg sz bytes g z)) (hn:(fn.name == "runtime.NumGoroutine")=false)
 (helt:∀x,Ud true agg (rowOf x) 0 sz=some (eltOf x)) (hbw:∀x h,bw (eltOf x) h=some (eltOf x)) (hcl:∀x,Xl (eltU x)=true) (hcell:∀x,(cellsOf (eltU x)).all Kb=true) (hsz:∀x,(cellsOf (eltU x)).length=sz) (hz:z.length=sz)
 (a:List α) (hlen:a.length*bytes<=Jd) (hg:∀x,x∈a->Holds P g [eltOf x] (λr=>r=eltU x)) :
 Holds P f [.sl sz (a.map rowOf)] (λr=>r = .us sz (a.map λx=>cellsOf (eltU x))):=by
 refine Jp hf hc hn (by simp[H9]) ?_;simp[H9,-Ud,hz];intro h1
 refine⟨by omega,O0 (λk s h n=>∃(i:Nat) (rows:List (List AV)),k=a.length - i/\i<=a.length/\s 0 = .sl sz (a.map rowOf)/\s 3 = .ref 0 0 a.length/\s 4=i64 i/\h=upd Ot 0 (some ⟨false,sz,rows⟩)/\0<n /\
  rows.length=a.length/\(∀j,j<i->rows[j]? = (a.map λx=>cellsOf (eltU x))[j]?)/\(∀j (hj:j<rows.length),rows[j].length=sz)) a.length ⟨0,List.replicate a.length z,by simp[hz]⟩ ?_⟩
 rintro k s h n ⟨i,rows,rfl,hi,s0,s3,s4,rfl,hn0,hr,hj,hcc⟩;have hfr:Nj (upd Ot 0 (some ⟨false,sz,rows⟩)) n:=λid hid=>by rw[Yk _ _ _ _ (by omega)];rfl
 by_cases hlt:i<a.length
 ·have hm:=hcc i (by omega);unfold Jd at h1;simp[s0,s3,s4,hlt,helt,-Ud];intro _;refine Je (hg a[i] (getElem_mem _)) (by simp[hbw]) ?_;rintro r rfl;have h0:Wk (upd Ot 0 (some ⟨false,sz,rows⟩)) n (Y0 (eltU a[i])) 0=some ⟨false,sz,rows⟩:=by rw[F9,if_neg (by omega)];exact W4 _ _ _
  have hd:=J65 (hcl a[i]) hfr (hcell a[i]);have hln:=J6g (eltU a[i]) n;have hci:=J2k (eltU a[i]) n (hcell a[i]);simp[s0,s3,s4,hlt,h0,hd,hln,hci,hsz,hr,-cellsOf];refine⟨by omega,a.length - (i+1),by omega,i+1,rfl,by omega,by rw[Km (by omega)];rfl,rows.set i (cellsOf (eltU a[i])),by rw[drop_eq_nil_of_le (by omega),append_nil],by omega,by simp[hr],λj hj'=>?_,λj hj'=>?_⟩
  ·show _=(a[j]?).map λx=>cellsOf (eltU x)
   rw[List.getElem?_set];by_cases hji:i=j
   ·subst hji;rw[if_pos rfl,if_pos (by omega),List.getElem?_eq_getElem hlt];rfl
   ·rw[if_neg hji];simpa using hj j (by omega)
  ·rw[List.getElem_set];split
   ·exact hsz _
   ·exact hcc j (by simpa using hj')
 ·simp[s0,s3,s4,hlt,hr];intro _
  have:rows=a.map λx=>cellsOf (eltU x):=List.ext_getElem? λj=>by
   by_cases hji:j<i
   ·exact hj j hji
   ·rw[List.getElem?_eq_none (by omega),List.getElem?_eq_none (by simp;omega)]
  subst this;have ht:List.take a.length (a.map λx=>cellsOf (eltU x))=a.map λx=>cellsOf (eltU x):=take_of_length_le (by simp)
  have hcr:Wi (a.map λx=>cellsOf (eltU x))=true:=by rw[Og,List.all_eq_true];intro r hr';obtain⟨x,_,rfl⟩:=mem_map.1 hr';have:=hcl x;cases hx:eltU x <;>simp_all[Xl,cellsOf,Uy]
  rw[ht];exact⟨hcr,rfl⟩
open Go Go.RowKit
def H6(agg:Bool)(sz g:Nat):Jl:=
⟨27,[.t 4],(.seq
 (.reg [⟨some 4,.mv (.k (.int .i64 0)),no⟩]) (.seq
 (.reg [⟨some 6,.mv (.t 1),no⟩,⟨some 7,.mv (.t 0),no⟩,⟨some 8,.len false (.t 7),no⟩,⟨some 9,.bin .sub (.t 6) (.t 8),no⟩,⟨some 1,.mv (.t 9),no⟩]) (.seq (.seq
 (.reg [⟨some 10,.mv (.t 1),no⟩,⟨some 11,.bin .lss (.t 10) (.k (.int .i64 0)),no⟩]) (.cond (.t 11) (.seq
 (.reg [⟨some 4,.mv (.k (.int .i64 (-1))),no⟩]) .ret) .skip)) (.seq (.seq
 (.reg [⟨some 5,.mv (.k (.int .i64 0)),no⟩]) (.blk 0 (.loop (.seq (.seq
 (.reg [⟨some 12,.mv (.t 5),no⟩,⟨some 13,.mv (.t 0),no⟩,⟨some 14,.len false (.t 13),no⟩,⟨some 15,.bin .lss (.t 12) (.t 14),no⟩]) (.cond (.t 15) .skip (.exit 0))) (.seq (.blk 1 (.seq
 (.reg [⟨some 18,.mv (.t 0),no⟩,⟨some 19,.mv (.t 5),no⟩,⟨some 20,.ixa sz (.t 18) (.t 19),no⟩,⟨some 21,.ld agg sz (.t 20),no⟩,⟨some 22,.mv (.t 1),no⟩,⟨some 23,.call (.k (.fn (.func g) [] [])) [.t 21,.t 22],no⟩,⟨some 1,.mv (.t 23),no⟩]) (.seq
 (.reg [⟨some 24,.mv (.t 1),no⟩,⟨some 25,.bin .lss (.t 24) (.k (.int .i64 0)),no⟩]) (.cond (.t 25) (.seq
 (.reg [⟨some 4,.mv (.k (.int .i64 (-1))),no⟩]) .ret) .skip))))
 (.reg [⟨some 16,.mv (.t 5),no⟩,⟨some 17,.bin .add (.t 16) (.k (.int .i64 1)),no⟩,⟨some 5,.mv (.t 17),no⟩])))))) (.seq
 (.reg [⟨some 26,.mv (.t 1),no⟩,⟨some 4,.mv (.t 26),no⟩]) .ret)))))⟩
def Gg{α:Type}(szE:α->Int->Int):List α->Int->Int
 | [],left=>left
 |x::a,left=>if szE x left<0 then -1 else Gg szE a (szE x left)
def E8{α:Type}(szE:α->Int->Int)(a:List α)(left:Int):Int:=if left - a.length<0 then -1 else Gg szE a (left - a.length)
theorem J6z{α:Type}{szE:α->Int->Int}(hle:∀x left,0<=left->szE x left<=left):∀(a:List α) (left:Int),0<=left->Gg szE a left<=left
 | [],left,_=>Int.le_refl _
 |x::a,left,h=>by
  have:=hle x left h;simp only[Gg];split
  ·omega
  ·have:=J6z hle a (szE x left) (by omega);omega
theorem Kdx{α:Type}{szE:α->Int->Int}(hle:∀x left,0<=left->szE x left<=left)(a:List α)(left:Int)(h:0<=left):E8 szE a left<=left:=by
 unfold E8;split
 ·omega
 ·have:=J6z hle a (left - a.length) (by omega);omega
theorem E6{P:Program}{f:FuncId}{fn:Func}{agg:Bool}{sz g:Nat}{α:Type}{rowOf:α->List AV}{eltOf:α->AV}{szE:α->Int->Int}
 (hf:P.funcs[f]? = some fn) (hc:Jh P fn=some (H6 agg sz g)) (hn:(fn.name == "runtime.NumGoroutine")=false)
 (helt:∀x,Ud true agg (rowOf x) 0 sz=some (eltOf x)) (hbw:∀x h,bw (eltOf x) h=some (eltOf x)) (hle:∀x left,0<=left->szE x left<=left)
 (a:List α) (left:Int) (h0:0<=left/\left<=4611686018427387904) (hg:∀x left,x∈a->0<=left/\left<=4611686018427387904->Holds P g [eltOf x,i64 left] (λr=>r=i64 (szE x left))) :
 Holds P f [.sl sz (a.map rowOf),i64 left] (λr=>r=i64 (E8 szE a left)):=by
 refine Jp hf hc hn (by simp[H6]) ?_;simp[H6,-Ud];intro h1;unfold Jd at h1;rw[Km (by omega)];refine⟨λh=>by unfold E8;rw[if_pos h],λh=>O0 (λk s h n=>∃(i:Nat) (l:Int),k=a.length - i/\i<=a.length/\s 0 = .sl sz (a.map rowOf)/\s 1=i64 l/\s 5=i64 i/\0<=l/\l<=left/\Gg szE (a.drop i) l=E8 szE a left/\h=Ot/\n=0) a.length ⟨0,left - a.length,by simp[E8];omega⟩ ?_⟩;rintro k s h n ⟨i,l,rfl,hi,s0,s1,s5,hl0,hl1,hR,rfl,rfl⟩;by_cases hlt:i<a.length
 ·simp[s0,s1,s5,hlt,helt,-Ud];intro _;refine Je (hg a[i] l (getElem_mem _) (by omega)) (by simp[hbw]) ?_;rintro r rfl;simp[s0,s5];rw[List.drop_eq_getElem_cons hlt]at hR;simp only[Gg]at hR;have:=hle a[i] l hl0;refine⟨λhn=>by rw[if_pos hn]at hR;exact hR,λhp=>⟨a.length - (i+1),by omega,i+1,rfl,by omega,by rw[Km (by omega)];rfl,hp,by omega,by rw[if_neg (by omega)]at hR;exact hR⟩⟩
 ·simp[s0,s1,s5,hlt];intro _;rw[drop_eq_nil_of_le (by omega)]at hR;exact hR
open Go Go.RowKit
abbrev J9:=List UInt8
def Jf(l:List J9):List (List AV):=l.map λs=>[.str s]
def strs(l:List J9):AV := .sl 1 (Jf l)
attribute [simp] strs
@[simp] theorem Jl0(l:List J9):(Jf l).length=l.length:=by simp[Jf]
@[simp] theorem K06(l:List J9)(i:Nat):(Jf l)[i]? = (l[i]?).map λn=>[.str n]:=by simp[Jf]
@[simp] theorem Jjj(l:List J9)(i:Nat)(h:i<(Jf l).length):(Jf l)[i]=[.str (l[i]'(by simpa using h))]:=by simp[Jf]
@[simp] theorem Jzx(l:List J9):Yl (Jf l)=Jf l:=by rw[Wx];simp[Jf,Yw,dr]
@[simp] theorem Jva(l:List J9):Wi (Jf l)=true:=by rw[Og];simp[Jf,Uy,Xl]
@[simp] theorem Jwl(l:List J9):List.take l.length (Jf l)=Jf l:=take_of_length_le (by simp)
@[simp] theorem K0a{α β:Type}(f:α->β)(l:List α):List.take l.length (l.map f)=l.map f:=take_of_length_le (by simp)
def Kw(left:Int)(w:Nat):Int:=if left - w<0 then -1 else left - w
theorem Ti{left:Int}{w:Nat}(h:left - w<0):Kw left w = -1:=if_pos h
theorem Jan{left:Int}{w:Nat}(h:¬left - w<0):Kw left w=left - w:=if_neg h
theorem Ec{left:Int}{w:Nat}(_h:0<=left):Kw left w<=left:=by unfold Kw;split <;>omega
theorem Jay{left:Int}{v w:Nat}(h:¬left - v<0):Kw (left - v) w=Kw left (v+w):=by
 unfold Kw;by_cases h1:left - v - w<0
 ·rw[if_pos h1,if_pos (by omega)]
 ·rw[if_neg h1,if_neg (by omega)];omega
def wL{α:Type}(w:α->Nat)(l:List α):Nat:=l.length+(l.map w).sum
theorem Yn{α:Type}(w:α->Nat)(l:List α):l.length<=wL w l:=by unfold wL;omega
theorem J8r{α:Type}(w:α->Nat):∀(l:List α) {x:α},x∈l->w x<=(l.map w).sum
 |y::l,x,h=>by
  rcases mem_cons.1 h with rfl|h
  ·simp
  ·have:=J8r w l h;simp;omega
theorem Wn{α:Type}{w:α->Nat}{l:List α}{x:α}(h:x∈l):w x<=wL w l:=by have:=J8r w l h;unfold wL;omega
theorem J3r{α:Type}{w:α->Nat}{g:α->Int->Int}(hg:∀x left,0<=left->g x left=Kw left (w x)):∀(a:List α) (left:Int),0<=left->Gg g a left=Kw left (a.map w).sum
 | [],left,h=>by simp only[Gg,List.map_nil,List.sum_nil,Kw];rw[if_neg (by omega)];omega
 |x::a,left,h=>by
  simp only[Gg,map_cons,List.sum_cons,hg x left h];by_cases hx:left - w x<0
  ·rw[Ti hx,if_pos (by omega),Ti (by omega)]
  ·rw[Jan hx,if_neg (by omega),J3r hg a _ (by omega),Jay hx]
theorem Dc{α:Type}{w:α->Nat}{g:α->Int->Int}(hg:∀x left,0<=left->g x left=Kw left (w x))(a:List α)(left:Int)(h:0<=left):E8 g a left=Kw left (wL w a):=by
 unfold E8 wL;by_cases hx:left - a.length<0
 ·rw[if_pos hx,Ti (by omega)]
 ·rw[if_neg hx,J3r hg a _ (by omega),Jay hx]
theorem Bs{α:Type}[DecidableEq α]:∀(a b:List α),Bj (λx y=>decide (x=y)) a b=decide (a=b)
 | [],[]=>rfl
 | [],_::_=>rfl
 |_::_,[]=>rfl
 |x::a,y::b=>by simp[Bj,Bs a b]
open Go Go.RowKit
mutual
def idb(n:Nat):AV->Prop
 | .ptr id _ _=>id<n
 | .ref id _ _=>id<n
 | .fn _ fi ca=>I9 n fi/\I9 n ca
 | .agg cs=>I9 n cs
 | .tup cs=>I9 n cs
 | .mp id=>id<n
 | .undef | .int .. | .bool _ | .str _ | .nil _ | .nilp | .fptr .. | .sl .. | .us .. =>True
def I9(n:Nat):List AV->Prop
 | []=>True
 |a::as=>idb n a/\I9 n as
end
section
variable {w:World}{L:Nat->Option Jz}{N n:Nat}
mutual
theorem Jkt:∀(a:AV) (v:Value) (S:List Nat),VR w L n a v S->idb n a
 | .ptr ..,_,_,h=>by simp only[VR]at h;simp only[idb];exact h.1.1
 | .ref ..,_,_,h=>by simp only[VR]at h;simp only[idb];exact h.1.1
 | .fn _ fi ca,_,_,h=>by
  simp only[VR]at h;obtain⟨⟨x,y,_,h1,h2⟩,_⟩:=h
  simp only[idb];exact⟨Mq fi _ _ h1,Mq ca _ _ h2⟩
 | .agg cs,_,_,h=>by simp only[VR]at h;obtain⟨vs,_,h⟩:=h;simp only[idb];exact Mq cs _ _ h
 | .tup cs,_,_,h=>by simp only[VR]at h;obtain⟨vs,_,h⟩:=h;simp only[idb];exact Mq cs _ _ h
 | .undef,_,_,_ | .int ..,_,_,_ | .bool _,_,_,_ | .str _,_,_,_ | .nil _,_,_,_ | .nilp,_,_,_ | .fptr ..,_,_,_ | .sl ..,_,_,_ | .us ..,_,_,_=>by simp only[idb]
 | .mp _,_,_,h=>by simp only[VR]at h;simp only[idb];exact h.1.1
theorem Mq:∀(as:List AV) (vs:List Value) (S:List Nat),Jw w L n as vs S->I9 n as
 | [],_,_,_=>by simp only[I9]
 |a::as,_,_,h=>by simp only[Jw]at h;obtain⟨v,vs',S1,S2,_,_,h1,h2⟩:=h;simp only[I9];exact⟨Jkt a _ _ h1,Mq as _ _ h2⟩
end
mutual
theorem Pv:∀(a:AV) (v:Value) (S:List Nat),VR w L N a v S->idb n a->VR w L n a v S
 | .ptr ..,_,_,h,hi=>by simp only[VR]at h⊢;simp only[idb]at hi;exact⟨⟨hi,h.1.2⟩,h.2⟩
 | .ref ..,_,_,h,hi=>by simp only[VR]at h⊢;simp only[idb]at hi;exact⟨⟨hi,h.1.2⟩,h.2⟩
 | .fn _ fi ca,_,_,h,hi=>by
  simp only[VR]at h⊢;simp only[idb]at hi;obtain⟨⟨x,y,hv,h1,h2⟩,hS⟩:=h
  exact⟨⟨x,y,hv,Me fi _ _ h1 hi.1,Me ca _ _ h2 hi.2⟩,hS⟩
 | .agg cs,_,_,h,hi=>by simp only[VR]at h⊢;simp only[idb]at hi;obtain⟨vs,hv,h⟩:=h;exact⟨vs,hv,Me cs _ _ h hi⟩
 | .tup cs,_,_,h,hi=>by simp only[VR]at h⊢;simp only[idb]at hi;obtain⟨vs,hv,h⟩:=h;exact⟨vs,hv,Me cs _ _ h hi⟩
 | .undef,_,_,h,_ | .int ..,_,_,h,_ | .bool _,_,_,h,_ | .str _,_,_,h,_ | .nil _,_,_,h,_ | .nilp,_,_,h,_ | .fptr ..,_,_,h,_ | .sl ..,_,_,h,_ | .us ..,_,_,h,_=>by simp only[VR]at h⊢;exact h
 | .mp _,_,_,h,hi=>by simp only[VR]at h⊢;simp only[idb]at hi;exact⟨⟨hi,h.1.2⟩,h.2⟩
theorem Me:∀(as:List AV) (vs:List Value) (S:List Nat),Jw w L N as vs S->I9 n as->Jw w L n as vs S
 | [],_,_,h,_=>by simpa only[Jw]using h
 |a::as,_,_,h,hi=>by simp only[Jw]at h⊢;simp only[I9]at hi;obtain⟨v,vs',S1,S2,e1,e2,h1,h2⟩:=h;exact⟨v,vs',S1,S2,e1,e2,Pv a _ _ h1 hi.1,Me as _ _ h2 hi.2⟩
end
end
theorem Q8.idb {w:World}{L:Nat->Option Jz}{n:Nat} : ∀{rs:List (List AV)}{es:List MapEntry},Q8 w L n rs es->∀r∈rs,I9 n r
 | [],_,_,r,hr=>by cases hr
 |_::_,_,⟨x,es',k,a,h1,h2,h3,h4,h5⟩,r,hr=>by
  rcases mem_cons.1 hr with rfl|hr
  ·subst h2;simp only[I9,Go.Proofs.YtoclolkigjbcgaaGreat.idb];exact⟨trivial,Jkt _ _ _ h4,trivial⟩
  ·exact h5.idb r hr
theorem Q8.lower {w:World}{L:Nat->Option Jz}{N n:Nat} : ∀{rs:List (List AV)}{es:List MapEntry},Q8 w L N rs es->(∀r∈rs,I9 n r)->Q8 w L n rs es
 | [],_,h,_=>h
 |_::_,_,⟨x,es',k,a,h1,h2,h3,h4,h5⟩,hi=>by have h6:=hi _ (mem_cons_self ..);subst h2;simp only[I9]at h6;exact⟨x,es',k,a,h1,rfl,Pv _ _ _ h3 h6.1,Pv _ _ _ h4 h6.2.1,h5.lower λr hr=>hi r (List.mem_cons_of_mem _ hr)⟩
def Dy(n:Nat)(L:Nat->Option Jz):Nat->Option Jz:=λid=>if id<n then L id else Option.none
theorem F8{n:Nat}{L:Nat->Option Jz}{id:Nat}{l:Jz}(h:Dy n L id=some l):id<n/\L id=some l:=by
 unfold Dy at h;split at h
 ·exact⟨by assumption,h⟩
 ·cases h
theorem Un.cut {n:Nat}{L:Nat->Option Jz}{b:Nat}(h:Un (Dy n L) b):Un L b:=by obtain⟨id,sz,cap,h⟩:=h;exact⟨id,sz,cap,(F8 h).2⟩
theorem Xf.cut (w:World) (L:Nat->Option Jz) (n:Nat):Xf w L n w (Dy n L) n:=
 ⟨Nat.le_refl _,λ_ _ _ h=>(F8 h).2,Nat.le_refl _,λ_ _ h=>⟨rfl,λh'=>h h'.cut⟩⟩
theorem K4.cut {base:Nat}{w0 w w':World}{L L':Nat->Option Jz}{n n':Nat}{F F':Nat->List Nat}{h h':J8}(H0:K4 base w0 w L n F [] h) (H:K4 base w0 w' L' n' F' [] h') (hh:∀id,id<n->h' id=h id) :
 K4 base w0 w' (Dy n L') n (λid=>if id<n then F' id else []) [] h:=by
 have hz:∀id,n<=id->h id=Option.none:=λid hid=>by
  cases hx:h id with
  |none=>rfl
  |some B=>
   cases hl:L id with
   |none=>rw[H0.mod id hl]at hx;cases hx
   |some l=>have:=H0.lt id l hl;omega
 refine⟨H.below,H.bsz,?_,?_,?_,?_,?_,?_,?_,?_,?_,?_,?_,?_⟩
 ·intro id hid;unfold Dy;split
  ·rename_i hlt;exact H.dom id (by rw[hh id hlt];exact hid)
  ·rfl
 ·intro id hid;by_cases hlt:id<n
  ·unfold Dy at hid;rw[if_pos hlt]at hid;rw[<-hh id hlt];exact H.mod id hid
  ·exact hz id (by omega)
 ·intro id l hl;exact(F8 hl).1
 ·intro i i' b sz cap sz' cap' hi hi';exact H.inj i i' b sz cap sz' cap' (F8 hi).2 (F8 hi').2
 ·intro b ho;exact H.lo b ho.cut
 ·intro id B l hB hl;obtain⟨hlt,hl⟩:=F8 hl;have hbr:=H.blk id B l (by rw[hh id hlt];exact hB) hl;rw[if_pos hlt]
  cases l with
  |none=>exact hbr
  | «at» b sz cap=>
   refine⟨hbr.1,hbr.2.1,λhp=>?_,λhz0=>?_⟩
   case refine_2=>
    obtain⟨hbox,es,clock,h1,h2⟩:=hbr.2.2.2 hz0;refine⟨hbox,es,clock,h1,?_⟩
    have hids:∀r∈B.rows,I9 n r:=by
     cases hl0:L id with
     |none=>rw[H0.mod id hl0]at hB;cases hB
     |some l0=>
      have hb0:=H0.blk id B l0 hB hl0
      cases l0 with
      |none=>rw[hb0.1];intro r hr;cases hr
      | «at» b0 sz0 cap0=>
       obtain⟨_,es0,clock0,_,g2⟩:=hb0.2.2.2 (by rw[hb0.1,<-hbr.1];exact hz0);exact g2.idb
    exact(h2.lower hids).ext (Xf.cut w' L' n)
   obtain⟨h0,h0',cur,t,vals,rest,h1,h2,h3,h4,h5,h6,h7,h8,h9,h10⟩:=hbr.cells hp;refine⟨cur,t,vals,rest,h1,h2,h3,h4,h5,h6,h7,h8,h9,?_⟩;cases hbox:B.box
   ·rw[hbox]at h10;simp only[Bool.false_eq_true,if_false]at h10⊢;exact Wy (Xf.cut w' L' n).zero _ _ _ h10
   ·rw[hbox]at h10;simp only[if_true]at h10⊢
    have hids:I9 n B.rows.flatten:=by
     cases hl0:L id with
     |none=>rw[H0.mod id hl0]at hB;cases hB
     |some l0=>
      have hb0:=H0.blk id B l0 hB hl0
      cases l0 with
      |none=>rw[hb0.1];simp[I9]
      | «at» b0 sz0 cap0=>
       obtain⟨_,_,_,_,_,_,_,_,_,_,_,_,_,_,_,g10⟩:=hb0.cells (by rw[hb0.1,<-h0];exact hp);rw[hbox]at g10;simp only[if_true]at g10;exact Mq _ _ _ (Vv.1 g10)
    have h11:=Me (n:=n) _ _ _ (Vv.1 h10) hids;exact Vv.2 (Da (Xf.cut w' L' n) _ _ _ h11)
 ·intro id b hb;by_cases hlt:id<n
  ·rw[if_pos hlt]at hb;obtain⟨k1,k2⟩:=H.fp id b hb;exact⟨λh=>k1 h.cut,k2⟩
  ·rw[if_neg hlt]at hb;cases hb
 ·intro b hb;cases hb
 ·intro id;by_cases hlt:id<n
  ·rw[if_pos hlt];exact H.nd id
  ·rw[if_neg hlt];exact List.nodup_nil
 ·exact List.nodup_nil
 ·intro id id' b hb hb';by_cases hlt:id<n
  ·by_cases hlt':id'<n
   ·rw[if_pos hlt]at hb;rw[if_pos hlt']at hb';exact H.dj id id' b hb hb'
   ·rw[if_neg hlt']at hb';cases hb'
  ·rw[if_neg hlt]at hb;cases hb
 ·intro id b _ hb;cases hb
def Vk:AV->Bool
 | .int .. | .bool _ | .str _=>true
 | .tup [.int ..,.bool _]=>true
 |_=>false
theorem Jnq{w:World}{L L':Nat->Option Jz}{N N':Nat}{a:AV}{v:Value}(hs:Vk a=true)(h:VR w L N a v []):VR w L' N' a v []:=by
 unfold Vk at hs;split at hs
 ·simpa only[VR]using h
 ·simpa only[VR]using h
 ·simpa only[VR]using h
 ·simp only[VR,Jw]at h⊢;exact h
 ·cases hs
theorem Cr{P:Program}{f:FuncId}{as:List AV}{h:J8}{n:Nat}{K:AV->J8->Nat->Prop}
 (hA:X9 P f as h n λr h' _=>Vk r=true/\(∀id,id<n->h' id=h id)/\K r h n):X9 P f as h n K:=by
 refine⟨hA.1,λbase w0 w L F vs H hv=>?_⟩;refine(hA.2 base w0 w L F vs H hv).mono ?_;rintro e w' ⟨v,r,L',n',F',h',rfl,H',Y6,hr,hs,hh,hk⟩;refine⟨v,r,Dy n L',n,_,h,rfl,H.cut H' hh,?_,Jnq hs hr,hk⟩;exact⟨Nat.le_refl _,λid l hid hl=>Y6.old id l hid (F8 hl).2,Y6.size,λb hb ho=>⟨(Y6.block b hb ho).1,λh=>(Y6.block b hb ho).2 h.cut⟩⟩
def Dt(P:Program)(f:FuncId)(fi ca:List AV)(h:J8)(n:Nat)(a r:AV):Prop:=∀K:AV->J8->Nat->Prop,K r h n->X9 P f (fi++[a]++ca) h n K
theorem Nh{P:Program}{f:FuncId}{h:J8}{n:Nat}{a r:AV}(hh:Holds P f [a] (λx=>x=r))(hb:bw a h=some a)(hs:Vk r=true):Dt P f [] [] h n a r:=by
 intro K hK;refine J0l hh (by simp[U5,hb]) ?_;rintro _ rfl;unfold Vk at hs;split at hs
 ·simpa[sub,Y0,Wk]using hK
 ·simpa[sub,Y0,Wk]using hK
 ·simpa[sub,Y0,Wk]using hK
 ·simpa[sub,Oe,Y0,Oy,Wk]using hK
 ·cases hs
def Bl(agg:Bool)(sz:Nat):Jl:=
⟨19,[.t 4],(.seq
 (.reg [⟨some 4,.mv (.k (.int .i64 0)),no⟩]) (.seq (.seq
 (.reg [⟨some 6,.mv (.t 0),no⟩,⟨some 7,.len false (.t 6),no⟩,⟨some 8,.mv (.k (.int .i64 0)),no⟩]) (.blk 0 (.loop (.seq
 (.reg [⟨some 9,.bin .lss (.t 8) (.t 7),no⟩]) (.seq (.cond (.t 9) .skip (.exit 0)) (.seq (.blk 1 (.seq
 (.reg [⟨some 10,.mv (.t 8),no⟩,⟨some 5,.mv (.t 10),no⟩]) (.seq
 (.reg [⟨some 11,.mv (.t 1),no⟩,⟨some 12,.mv (.t 0),no⟩,⟨some 13,.mv (.t 5),no⟩,⟨some 14,.ixa sz (.t 12) (.t 13),no⟩,⟨some 15,.ld agg sz (.t 14),no⟩,⟨some 16,.call (.t 11) [.t 15],no⟩]) (.cond (.t 16) (.seq
 (.reg [⟨some 17,.mv (.t 5),no⟩,⟨some 4,.mv (.t 17),no⟩]) .ret) .skip))))
 (.reg [⟨some 18,.bin .add (.t 8) (.k (.int .i64 1)),no⟩,⟨some 8,.mv (.t 18),no⟩]))))))) (.seq
 (.reg [⟨some 4,.mv (.k (.int .i64 (-1))),no⟩]) .ret)))⟩
def Dz(g:Nat):Jl:=
⟨9,[.t 4],(.seq
 (.reg [⟨some 4,.mv (.k (.bool false)),no⟩]) (.seq
 (.reg [⟨some 5,.mv (.t 0),no⟩,⟨some 6,.mv (.t 1),no⟩,⟨some 7,.call (.k (.fn (.func g) [] [])) [.t 5,.t 6],no⟩,⟨some 8,.bin .geq (.t 7) (.k (.int .i64 0)),no⟩,⟨some 4,.mv (.t 8),no⟩]) .ret))⟩
def Xi{α:Type}(p:α->Bool):List α->Nat->Int
 | [],_ => -1
 |x::l,i=>if p x then i else Xi p l (i+1)
theorem Nv{α:Type}{p:α->Bool} : ∀{l:List α}{i:Nat},Xi p l i<0↔l.any p=false
 | [],i=>by simp[Xi]
 |x::l,i=>by
  simp only[Xi,List.any_cons];cases hp:p x
  ·simp only[Bool.false_eq_true,if_false,Bool.false_or];exact Nv
  ·simp
theorem Mm{α:Type}{p:α->Bool}{l:List α}{i:Nat} : decide (Xi p l i>=0)=l.any p:=by
 cases h:l.any p
 ·have:=Nv (i:=i).2 h;simp;omega
 ·have:¬Xi p l i<0:=λh'=>by rw[Nv.1 h']at h;cases h
  simp;omega
section
variable {P:Program}{h:J8}{n:Nat}
theorem U8{f:FuncId}{fn:Func}{af:Jl}{as:List AV}{K:AV->J8->Nat->Prop}{bx:Bool}(hf:P.funcs[f]? = some fn)(hc:Gd bx P fn=some af) (hn:(fn.name == "runtime.NumGoroutine")=false) (hl:as.length<=af.nt)
 (hr:rC P af.body [] (Cf as) h n λe s h n=>match e with | .exit _=>False|_=>Js (Ht s h af.res) λxs=>K (Ha xs) h n):X9 P f as h n K:=by
 refine J1e hf hc hn ⟨hl,?_⟩;exact hr
theorem J0a{f:FuncId}{fn:Func}{agg:Bool}{sz:Nat}{α:Type}{rowOf:α->List AV}{eltOf:α->AV}{p:α->Bool}{g:FuncId}{fi ca:List AV}
 (hf:P.funcs[f]? = some fn) (hc:Jh P fn=some (Bl agg sz)) (hn:(fn.name == "runtime.NumGoroutine")=false)
 (helt:∀x,Ud true agg (rowOf x) 0 sz=some (eltOf x)) (a:List α) (hg:∀x∈a,Dt P g fi ca h n (eltOf x) (.bool (p x))) {K:AV->J8->Nat->Prop}(hK:K (.int .i64 (Xi p a 0)) h n) :
 X9 P f [.sl sz (a.map rowOf),.fn (.func g) fi ca] h n K:=by
 refine U8 hf hc hn (by simp[Bl]) ?_;simp[Bl,-Ud];intro h1;refine O0 (λk s h' n'=>∃i:Nat,k=a.length - i/\i<=a.length/\s 0 = .sl sz (a.map rowOf)/\s 1 = .fn (.func g) fi ca/\s 7=i64 a.length/\s 8=i64 i/\Xi p (a.drop i) i=Xi p a 0/\h'=h/\n'=n) a.length ⟨0,by simp⟩ ?_;rintro k s h' n' ⟨i,rfl,hi,s0,s1,s7,s8,hj,rfl,rfl⟩;by_cases hlt:i<a.length
 ·unfold Jd at h1;rw[List.drop_eq_getElem_cons hlt]at hj;simp only[Xi]at hj;simp[s0,s1,s7,s8,hlt,helt,-Ud];have:=hg a[i] (getElem_mem _);simp only[Dt,List.append_assoc,List.cons_append,List.nil_append]at this;refine this _ ?_;simp[s0,s1,s7,s8];refine⟨λhp=>?_,λhp=>?_⟩ <;>rw[hp]at hj <;>simp at hj
  ·rw[hj];exact hK
  ·exact⟨a.length - (i+1),by omega,i+1,rfl,by omega,by rw[Km (by omega)];rfl,hj⟩
 ·rw[drop_eq_nil_of_le (by omega)]at hj;simp only[Xi]at hj;simp[s0,s1,s7,s8,hlt];rw[hj];exact hK
theorem Bk{f:FuncId}{fn:Func}{fg:FuncId}{fng:Func}{agg:Bool}{sz:Nat}{α:Type}{rowOf:α->List AV}{eltOf:α->AV}{p:α->Bool}{g:FuncId}{fi ca:List AV}
 (hf:P.funcs[f]? = some fn) (hc:Jh P fn=some (Dz fg)) (hn:(fn.name == "runtime.NumGoroutine")=false) (hf':P.funcs[fg]? = some fng) (hc':Jh P fng=some (Bl agg sz)) (hn':(fng.name == "runtime.NumGoroutine")=false)
 (helt:∀x,Ud true agg (rowOf x) 0 sz=some (eltOf x)) (a:List α) (hg:∀x∈a,Dt P g fi ca h n (eltOf x) (.bool (p x))) {K:AV->J8->Nat->Prop}(hK:K (.bool (a.any p)) h n) :
 X9 P f [.sl sz (a.map rowOf),.fn (.func g) fi ca] h n K:=by
 refine U8 hf hc hn (by simp[Dz]) ?_;simp[Dz];refine J0a hf' hc' hn' helt a hg ?_;simp;have:=Mm (p:=p) (l:=a) (i:=0);simp only[ge_iff_le]at this;rw[this];exact hK
end
end Go.Proofs.YtoclolkigjbcgaaGreat

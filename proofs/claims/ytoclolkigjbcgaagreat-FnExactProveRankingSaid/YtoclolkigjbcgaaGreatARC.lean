/- R20 -/
import Derived.Test.YtoclolkigjbcgaaGreatARB
import Derived.Deep.LoopGhost
import Derived.Orders
namespace Go.Proofs.YtoclolkigjbcgaaGreat
open List(mem_flatMap all_eq_true mem_cons mem_cons_self mem_cons_of_mem mem_filter mem_range mem_map)
open Go Go.RowKit
set_option linter.all false
structure AO where
 d:Option Nat
 op:Y2
 g:Option (Nat×Bool)
abbrev Jm:=Nat->AV
def Xt(s:Jm)(d:Option Nat)(r:AV):Jm:=match d with|some d=>upd s d r|Option.none=>s
def Qm(P:Program):List AO->Jm->J8->Nat->(Jm->J8->Nat->Prop)->Prop
 | [],s,h,n,K=>K s h n
 |o::os,s,h,n,K=>match o.g with
  |Option.none=>Jk P s h n (λr h' n'=>Qm P os (Xt s o.d r) h' n' K) o.op
  |some (j,want)=>match s j with
   | .bool b=>(b=want->Jk P (upd s j (.bool want)) h n (λr h' n'=>Qm P os (Xt (upd s j (.bool want)) o.d r) h' n' K) o.op) /\
    (b = !want->Qm P os (Xt (upd s j (.bool (!want))) o.d (.tup [])) h n K)
   | .tup []=>Qm P os (Xt s o.d (.tup [])) h n K
   |_=>False
def Ce(bx:Bool)(P:Program)(nt:Nat)(ops:Array Oper)(o:Oper):Option AO:=
 match o.dst with
 |some d=>if d<nt then(match o.guard with
  |Option.none=>(Df bx P o).map λa=>⟨some d,a,Option.none⟩
  |some (j,want)=>match (ops[j]?).bind (·.dst)with
   |some q=>if q<nt then(Df bx P o).map λa=>⟨some d,a,some (q,want)⟩else Option.none
   |Option.none=>Option.none)else Option.none
 |Option.none=>match o.guard with
  |Option.none=>(Df bx P o).map λa=>⟨Option.none,a,Option.none⟩
  |some (j,want)=>match (ops[j]?).bind (·.dst)with
   |some q=>if q<nt then(Df bx P o).map λa=>⟨Option.none,a,some (q,want)⟩else Option.none
   |Option.none=>Option.none
def Q0(base:Nat)(w0 w1:World)(L1:Nat->Option Jz)(n1 nt:Nat)(s:Jm)(h:J8)(n:Nat)(a:Act)(w:World):Prop:=
 a.defers=[]/\a.tmps.size=nt/\∃L F,K4 base w0 w L n F [] h/\Xw w L n s a.tmps/\Xf w1 L1 n1 w L n
theorem Xw.put {w:World}{L:Nat->Option Jz}{N:Nat}{s:Jm}{a:Act}{d:Option Nat}{r:AV}{v:Value}(hs:Xw w L N s a.tmps) (hr:VR w L N r v []) (hd:∀i,d=some i->i<a.tmps.size) :
 Xw w L N (Xt s d r) (a.put d v).tmps:=by
 cases d with
 |none=>exact hs
 |some d=>
  intro i;simp only[Xt,Act.put,upd];split
  ·rename_i hi;subst hi
   have:(a.tmps.setIfInBounds i v).getD i undef=v:=by have hlt:=hd i rfl;simp[Array.getD,hlt]
   rw[this];exact hr
  ·rename_i hi
   have:(a.tmps.setIfInBounds d v).getD i undef=a.tmps.getD i undef:=by simp only[Array.getD_eq_getD_getElem?];rw[Array.getElem?_setIfInBounds_ne (by omega)]
   rw[this];exact hs i
theorem Rm(a:Act)(d:Option Nat)(v:Value):(a.put d v).tmps.size=a.tmps.size:=by cases d <;>simp[Act.put]
theorem Rq(a:Act)(d:Option Nat)(v:Value):(a.put d v).defers=a.defers:=by cases d <;>simp[Act.put]
theorem Xw.bool {w:World}{L:Nat->Option Jz}{N:Nat}{s:Jm}{tmps:Array Value}{j:Nat}{b c:Bool}(hs:Xw w L N s tmps) (hj:s j = .bool b) (hb:b=c):Xw w L N (upd s j (.bool c)) tmps:=by
 intro i;simp only[upd];split
 ·rename_i hi;subst hi;have:=hs i;rw[hj,hb]at this;exact this
 ·exact hs i
section
variable {bx:Bool}{P:Program}{base:Nat}{w0 w1:World}{L1:Nat->Option Jz}{n1 nt:Nat}
theorem Jcl(ops:Array Oper):∀(l:List Oper) (os:List AO),l.mapM (Ce bx P nt ops)=some os->∀(s:Jm) (h:J8) (n:Nat) (K:Jm->J8->Nat->Prop) (a:Act) (w:World) (Q:Exit->Act->World->Prop),
 Q0 base w0 w1 L1 n1 nt s h n a w->Qm P os s h n K->(∀s h n a w,Q0 base w0 w1 L1 n1 nt s h n a w->K s h n->Q .normal a w)->wpList P ops Q l a w:=by
 intro l
 induction l with
 |nil=>
  intro os hc s h n K a w Q hr hK hQ;simp at hc;subst hc
  exact wpList_nil (hQ _ _ _ _ _ hr hK)
 |cons o l ih=>
  intro os hc s h n K a w Q hr hK hQ;rw[List.mapM_cons]at hc;simp only[Option.bind_eq_bind,Option.bind_eq_some_iff,Option.pure_def,Option.some.injEq]at hc;obtain⟨ao,hao,os',hos,rfl⟩:=hc;obtain⟨hdf,hsz,L,F,H,hs,he⟩:=hr
  have step:∀(s':Jm) (aop':Y2),Df bx P o=some aop'->Xw w L n s' a.tmps->(∀i,o.dst=some i->i<nt) ->
   Jk P s' h n (λr h' n'=>Qm P os' (Xt s' o.dst r) h' n' K) aop'->o.wp P a w (wpList P ops Q l) Q:=λs' aop' hco hs' hd hK'=>by
   refine(J2i hco H hs' hK').wp λv w' hp=>?_
   obtain⟨r,L',N',F',h',g1,g2,g3,g4⟩:=hp;refine ih os' hos _ _ _ _ _ _ _ ⟨by rw[Rq,hdf],by rw[Rm,hsz],L',F',g1,(hs'.ext g2).put g3 (λi hi=>by rw[hsz];exact hd i hi),he.trans g2⟩ g4 hQ
  have skip:∀(s':Jm),Xw w L n s' a.tmps->(∀i,o.dst=some i->i<nt)->Qm P os' (Xt s' o.dst (.tup [])) h n K->wpList P ops Q l (a.put o.dst undef) w:=λs' hs' hd hK'=>
   ih os' hos _ _ _ _ _ _ _ ⟨by rw[Rq,hdf],by rw[Rm,hsz],L,F,H,hs'.put (by simp[VR,Jw,undef]) (λi hi=>by rw[hsz];exact hd i hi),he⟩ hK' hQ
  have key:∃aop',Df bx P o=some aop'/\ao.d=o.dst/\ao.op=aop'/\(∀i,o.dst=some i->i<nt) /\
   ((o.guard=Option.none/\ao.g=Option.none)\/∃j want q,o.guard=some (j,want)/\(ops[j]?).bind (·.dst)=some q/\q<nt/\ao.g=some (q,want)):=by
   unfold Ce at hao;split at hao
   ·rename_i d hd;split at hao
    ·rename_i hlt;split at hao
     ·rename_i hg;simp only[Option.map_eq_some_iff]at hao;obtain⟨x,hx,rfl⟩:=hao;exact⟨x,hx,hd.symm,rfl,(λi hi=>by rw[hd]at hi;cases hi;exact hlt),.inl ⟨hg,rfl⟩⟩
     ·rename_i j want hg;split at hao
      ·rename_i q hq;split at hao
       ·rename_i hqlt;simp only[Option.map_eq_some_iff]at hao;obtain⟨x,hx,rfl⟩:=hao;exact⟨x,hx,hd.symm,rfl,(λi hi=>by rw[hd]at hi;cases hi;exact hlt),.inr ⟨j,want,q,hg,hq,hqlt,rfl⟩⟩
       ·cases hao
      ·cases hao
    ·cases hao
   ·rename_i hd;split at hao
    ·rename_i hg;simp only[Option.map_eq_some_iff]at hao;obtain⟨x,hx,rfl⟩:=hao;exact⟨x,hx,hd.symm,rfl,(λi hi=>by rw[hd]at hi;cases hi),.inl ⟨hg,rfl⟩⟩
    ·rename_i j want hg;split at hao
     ·rename_i q hq;split at hao
      ·rename_i hqlt;simp only[Option.map_eq_some_iff]at hao;obtain⟨x,hx,rfl⟩:=hao;exact⟨x,hx,hd.symm,rfl,(λi hi=>by rw[hd]at hi;cases hi),.inr ⟨j,want,q,hg,hq,hqlt,rfl⟩⟩
      ·cases hao
     ·cases hao
  obtain⟨aop',hco,hd1,hop,hdlt,hg⟩:=key;unfold Qm at hK;unfold wpList;rcases hg with ⟨hg,hg'⟩|⟨j,want,q,hg,hq,hqlt,hg'⟩
  ·rw[hg']at hK;simp only[hd1,hop]at hK;rw[if_pos (by simp[Region.wanted,hg])];exact .inl (step s aop' hco hs hdlt hK)
  ·rw[hg']at hK;simp only[hd1,hop]at hK
   have hyield:∀v,a.tmps.getD q undef=v->yielded ops a.tmps j=match v with | .bool b=>some b|_=>Option.none:=λv hv=>by
    have hlt:q<a.tmps.size:=by rw[hsz];exact hqlt
    have hv':a.tmps[q]? = some v:=by rw[<-hv];simp[Array.getD,hlt]
    have:((ops[j]?).bind (·.dst)).bind (a.tmps[·]?)=some v:=by rw[hq];exact hv'
    unfold yielded;rw[this];cases v <;>rfl
   split at hK
   ·rename_i b hb;have hv:=hs q;rw[hb]at hv;simp only[VR]at hv;have hy:=hyield _ hv.1;simp only at hy;have hwant:Region.wanted o (yielded ops a.tmps)=(b==want):=by simp[Region.wanted,hg,hy]
    rw[hwant];by_cases hbw:b=want
    ·rw[if_pos (by simp[hbw])];exact .inl (step _ aop' hco (hs.bool hb hbw) hdlt (hK.1 hbw))
    ·rw[if_neg (by simp[hbw])];have hbn:b = !want:=by cases b <;>cases want <;>simp at hbw⊢
     exact skip _ (hs.bool hb hbn) hdlt (hK.2 hbn)
   ·rename_i hb;have hv:=hs q;rw[hb]at hv;simp only[VR,Jw]at hv;obtain⟨vs,hv,hvs,_⟩:=hv;have hy:=hyield _ hv;simp only at hy;rw[if_neg (by simp[Region.wanted,hg,hy])];exact skip _ hs hdlt hK
   ·exact hK.elim
end
theorem X9.mono {P:Program}{f:FuncId}{as:List AV}{h:J8}{n:Nat}{K K':AV->J8->Nat->Prop}(hc:X9 P f as h n K) (hk:∀r h n,K r h n->K' r h n):X9 P f as h n K':=
 ⟨hc.1,λbase w0 w L F vs H hv=>(hc.2 base w0 w L F vs H hv).mono λ_ _ ⟨v,r,L',n',F',h',h1,h2,h3,h4,h5⟩=>⟨v,r,L',n',F',h',h1,h2,h3,h4,hk _ _ _ h5⟩⟩
def Xy:Jy->List Nat
 | .t n=>[n]
 | .k _=>[]
def rdM:Option Jy->List Nat
 |some x=>Xy x
 |Option.none=>[]
def D5:Y2->List Nat
 | .mv x=>Xy x
 | .pick c a b=>Xy c++(Xy a++Xy b)
 | .box _=>[]
 | .boxv x=>Xy x
 | .build _ ps=>ps.flatMap λp=>Xy p.2.2
 | .bsl _ ps=>ps.flatMap Xy
 | .ld _ _ x=>Xy x
 | .st _ a x=>Xy a++Xy x
 | .nchk x=>Xy x
 | .bin _ x y=>Xy x++Xy y
 | .beq _ x y=>Xy x++Xy y
 | .un _ x=>Xy x
 | .cvi _ x=>Xy x
 | .cvb x=>Xy x
 | .mkf _ fi ca=>fi.flatMap Xy++ca.flatMap Xy
 | .mks _ _ l c=>Xy l++Xy c
 | .slc _ _ x lo hi=>Xy x++(rdM lo++rdM hi)
 | .fld _ x=>Xy x
 | .prt _ _ _ x=>Xy x
 | .ixa _ x i=>Xy x++Xy i
 | .ixs x i=>Xy x++Xy i
 | .ext x _=>Xy x
 | .call f args=>Xy f++args.flatMap Xy
 | .len _ x=>Xy x
 | .app _ _ x y=>Xy x++Xy y
 | .mnx _ x y=>Xy x++Xy y
 | .inil _ x=>Xy x
 | .aeq _ _ x y=>Xy x++Xy y
 | .mmk=>[]
 | .bslb _ ps=>ps.flatMap Xy
 | .appb _ _ x y=>Xy x++Xy y
 | .mget _ x k=>Xy x++Xy k
 | .mput x k v=>Xy x++(Xy k++Xy v)
 | .mlen x=>Xy x
def V2(s s':Jm)(l:List Nat):Prop:=∀t∈l,s t=s' t
theorem V2.left {s s':Jm}{l m:List Nat}(h:V2 s s' (l++m)):V2 s s' l:=λt ht=>h t (List.mem_append_left _ ht)
theorem V2.right {s s':Jm}{l m:List Nat}(h:V2 s s' (l++m)):V2 s s' m:=λt ht=>h t (List.mem_append_right _ ht)
theorem V2.ev {s s':Jm}{x:Jy}(h:V2 s s' (Xy x)):ev s x=ev s' x:=by
 cases x with
 |t n=>exact h n (by simp[Xy])
 |k a=>rfl
theorem V2.evs {s s':Jm}{l:List Jy}(h:V2 s s' (l.flatMap Xy)):l.map (Go.Proofs.YtoclolkigjbcgaaGreat.ev s)=l.map (Go.Proofs.YtoclolkigjbcgaaGreat.ev s'):=
 List.map_congr_left λx hx=>V2.ev λt ht=>h t (mem_flatMap.2 ⟨x,hx,ht⟩)
theorem V2.low {s s':Jm}{x:Option Jy}{d:Int}(h:V2 s s' (rdM x)):U0 s d x=U0 s' d x:=by
 cases x with
 |none=>rfl
 |some x=>simp only[U0,V2.ev h]
theorem J7i{P:Program}{s s':Jm}{h:J8}{n:Nat}{K:AV->J8->Nat->Prop}{op:Y2}(ha:V2 s s' (D5 op)):Jk P s h n K op=Jk P s' h n K op:=by
 cases op <;>simp only[D5]at ha
 case mv=>simp only[Jk,ha.ev]
 case pick=>simp only[Jk,ha.left.ev,ha.right.left.ev,ha.right.right.ev]
 case box=>rfl
 case boxv=>simp only[Jk,ha.ev]
 case build z ps=>
  have hp:∀p∈ps,ev s p.2.2=ev s' p.2.2:=λp hp=>V2.ev λt ht=>ha t (mem_flatMap.2 ⟨p,hp,ht⟩)
  have h1:(ps.map λp=>(p.1,p.2.1,ev s p.2.2))=ps.map λp=>(p.1,p.2.1,ev s' p.2.2):=List.map_congr_left λp hp'=>by rw[hp p hp']
  have h2:(ps.all λp=>(cellsOf (ev s p.2.2)).all Kb)=ps.all λp=>(cellsOf (ev s' p.2.2)).all Kb:=by rw[Bool.eq_iff_iff,all_eq_true,all_eq_true];exact⟨λh p hp'=>by rw[<-hp p hp'];exact h p hp',λh p hp'=>by rw[hp p hp'];exact h p hp'⟩
  simp only[Jk,h1,h2]
 case bsl=>simp only[Jk,ha.evs]
 case ld=>simp only[Jk,ha.ev]
 case st=>simp only[Jk,ha.left.ev,ha.right.ev]
 case nchk=>simp only[Jk,ha.ev]
 case bin=>simp only[Jk,ha.left.ev,ha.right.ev]
 case beq=>simp only[Jk,ha.left.ev,ha.right.ev]
 case un=>simp only[Jk,ha.ev]
 case cvi=>simp only[Jk,ha.ev]
 case cvb=>simp only[Jk,ha.ev]
 case mkf=>simp only[Jk,ha.left.evs,ha.right.evs]
 case mks=>simp only[Jk,ha.left.ev,ha.right.ev]
 case slc=>simp only[Jk,ha.left.ev,ha.right.left.low,ha.right.right.low]
 case fld=>simp only[Jk,ha.ev]
 case prt=>simp only[Jk,ha.ev]
 case ixa=>simp only[Jk,ha.left.ev,ha.right.ev]
 case ixs=>simp only[Jk,ha.left.ev,ha.right.ev]
 case ext=>simp only[Jk,ha.ev]
 case call=>simp only[Jk,ha.left.ev,ha.right.evs]
 case len=>simp only[Jk,ha.ev]
 case app=>simp only[Jk,ha.left.ev,ha.right.ev]
 case mnx=>simp only[Jk,ha.left.ev,ha.right.ev]
 case inil=>simp only[Jk,ha.ev]
 case aeq=>simp only[Jk,ha.left.ev,ha.right.ev]
 case mmk=>rfl
 case bslb sz ps=>
  have hp:∀p∈ps,ev s p=ev s' p:=λp hp=>V2.ev λt ht=>ha t (mem_flatMap.2 ⟨p,hp,ht⟩)
  have h1:(ps.map λp=>cellsOf (ev s p))=ps.map λp=>cellsOf (ev s' p):=List.map_congr_left λp hp'=>by rw[hp p hp']
  have h2:(ps.all λp=>(cellsOf (ev s p)).length==sz&&(cellsOf (ev s p)).all Kb)=ps.all λp=>(cellsOf (ev s' p)).length==sz&&(cellsOf (ev s' p)).all Kb:=by rw[Bool.eq_iff_iff,all_eq_true,all_eq_true];exact⟨λh p hp'=>by rw[<-hp p hp'];exact h p hp',λh p hp'=>by rw[hp p hp'];exact h p hp'⟩
  simp only[Jk,h1,h2]
 case appb=>simp only[Jk,ha.left.ev,ha.right.ev]
 case mget=>simp only[Jk,ha.left.ev,ha.right.ev]
 case mput=>simp only[Jk,ha.left.ev,ha.right.left.ev,ha.right.right.ev]
 case mlen=>simp only[Jk,ha.ev]
def Y6(h h':J8):Prop:=∀id B,h id=some B->h' id=some B
theorem Y6.refl (h:J8):Y6 h h:=λ_ _ e=>e
theorem Y6.upd {h:J8}{n:Nat}{x:Option Yi}(hn:h n=Option.none):Y6 h (upd h n x):=λid B e=>by
 have:id≠n:=λe'=>by rw[e',hn]at e;cases e
 rw[Yk _ _ _ _ this];exact e
def Pg:Y2->Bool
 | .mv _ | .pick .. | .build .. | .ld .. | .nchk _ | .bin .. | .beq .. | .un .. | .cvi .. | .mkf .. | .slc .. | .fld .. | .prt .. | .ixa .. | .ixs .. | .ext .. | .len .. | .mnx .. | .aeq .. | .mget .. | .mlen _=>true
 |_=>false
def Jlz:Y2->Bool
 | .box _ | .boxv _ | .mks .. | .call .. | .cvb _ | .mmk=>true
 |_=>false
def P0:Y2->Bool
 | .mv _ | .pick .. | .build .. | .bin .. | .beq .. | .un .. | .cvi .. | .mkf .. | .prt .. | .ixs .. | .ext .. | .mnx .. | .aeq .. =>false
 |_=>true
def Xv(P:Program)(s:Jm)(h:J8)(n:Nat)(K:AV->J8->Nat->Prop):Y2->Prop
 | .call f args=>match ev s f with
  | .fn (.func f) fi ca=>X9 P f (fi++args.map (ev s)++ca) h n λr h' n'=>Y6 h h'/\K r h' n'
  |_=>False
 | .len str x=>match str,ev s x with
  |true,.str l=>K (.int .i64 l.length) h n
  |false,.sl _ rows=>K (.int .i64 rows.length) h n
  |false,.ref id _ len=>(h id).isSome=true/\K (.int .i64 len) h n
  |false,.nil _=>K (.int .i64 0) h n
  |_,_=>False
 |op=>Jk P s h n K op
theorem J9q{P:Program}{s:Jm}{h:J8}{n:Nat}{K:AV->J8->Nat->Prop}{op:Y2}(hk:Xv P s h n K op):Jk P s h n K op:=by
 unfold Xv at hk;split at hk
 ·simp only[Jk];split at hk
  ·rename_i hf;rw[hf];exact X9.mono hk λ_ _ _ h=>h.2
  ·exact hk.elim
 ·simp only[Jk];split at hk <;>rename_i hf <;>simp only[hf]
  ·exact λ_=>hk
  ·exact λ_=>hk
  ·exact⟨hk.1,λ_=>hk.2⟩
  ·exact hk
  ·exact hk.elim
 ·exact hk
theorem Jfp{P:Program}{s:Jm}{h:J8}{n:Nat}{K:AV->J8->Nat->Prop}{op:Y2}(hs:Jlz op=true)(hn:h n=Option.none)(hk:Xv P s h n K op):Jk P s h n (λr h' n'=>Y6 h h'/\K r h' n') op:=by
 cases op <;>simp only[Jlz,Bool.false_eq_true]at hs <;>simp only[Xv,Jk]at hk⊢
 case box=>exact⟨Y6.upd hn,hk⟩
 case boxv=>exact⟨hk.1,hk.2.1,Y6.upd hn,hk.2.2⟩
 case mmk=>exact⟨Y6.upd hn,hk⟩
 case cvb=>unfold Js at hk⊢;split at hk <;>first|exact hk.elim|(split at hk <;>first|exact hk.elim|exact⟨Y6.refl _,hk⟩)
 case mks=>unfold Js at hk⊢;split at hk <;>first|exact hk.elim|(split at hk <;>first|exact hk.elim|exact⟨hk.1,hk.2.1,hk.2.2.1,Y6.upd hn,hk.2.2.2⟩)
 case call=>split at hk <;>first|exact hk.elim|(rename_i hf;simp only[hf];exact hk)
def Ig:AV->List Nat
 | .ptr id _ _=>[id]
 | .ref id _ _=>[id]
 | .mp id=>[id]
 |_=>[]
def G6(s:Jm):Y2->List Nat
 | .ld _ _ x=>Ig (ev s x)
 | .nchk x=>Ig (ev s x)
 | .slc _ _ x _ _=>Ig (ev s x)
 | .fld _ x=>Ig (ev s x)
 | .ixa _ x _=>Ig (ev s x)
 | .len _ x=>Ig (ev s x)
 | .mget _ x _=>Ig (ev s x)
 | .mlen x=>Ig (ev s x)
 |_=>[]
theorem J9f{s s':Jm}{op:Y2}(ha:V2 s s' (D5 op)):G6 s op=G6 s' op:=by
 cases op <;>simp only[D5]at ha <;>simp only[G6]
 case ld=>rw[ha.ev]
 case nchk=>rw[ha.ev]
 case slc=>rw[ha.left.ev]
 case fld=>rw[ha.ev]
 case ixa=>rw[ha.left.ev]
 case len=>rw[ha.ev]
 case mget=>rw[ha.left.ev]
 case mlen=>rw[ha.ev]
def keepL(s:Jm)(h h':J8)(op:Y2):Prop:=∀id∈G6 s op,∀B,h id=some B->h' id=some B
theorem keepL.refl {s:Jm}{h:J8}{op:Y2} : keepL s h h op:=λ_ _ _ e=>e
theorem Y6.keepL {s:Jm}{h h':J8}{op:Y2}(he:Y6 h h'):Go.Proofs.YtoclolkigjbcgaaGreat.keepL s h h' op:=λid _ B e=>he id B e
theorem Jfb{s:Jm}{h h':J8}{op:Y2}(hp:Pg op=true)(ho:P0 op=false):keepL s h h' op:=by intro id hid;cases op <;>simp only[P0,Bool.true_eq_false]at ho <;>simp[G6]at hid
def Ew(P:Program)(op:Y2)(s:Jm)(h:J8)(r:AV):Prop:=∀s' h' n' K',V2 s s' (D5 op)->keepL s h h' op->K' r h' n'->Jk P s' h' n' K' op
theorem Ew.mono {P:Program}{op:Y2}{s s':Jm}{h h':J8}{r:AV}(hf:Ew P op s h r) (ha:V2 s s' (D5 op)) (he:keepL s h h' op):Ew P op s' h' r:=
 λs2 h2 n2 K2 ha2 he2 hk=>hf s2 h2 n2 K2 (λt ht=>(ha t ht).trans (ha2 t ht)) (λid hid B e=>he2 id (by rw[<-J9f ha];exact hid) B (he id hid B e)) hk
theorem Vo{α:Type}{x:Option α}{K:α->Prop}(h:Js x K):∃a,x=some a/\K a:=by
 unfold Js at h;split at h
 ·exact⟨_,rfl,h⟩
 ·exact h.elim
theorem Ja9{P:Program}{s:Jm}{h:J8}{n:Nat}{K:AV->J8->Nat->Prop}{op:Y2}(hp:Pg op=true)(hk:Xv P s h n K op):∃r,K r h n/\Ew P op s h r:=by
 have red:∀r,(∀h' n' K',keepL s h h' op->K' r h' n'->Jk P s h' n' K' op)->Ew P op s h r:=λr hr s' h' n' K' ha he hK=>by rw[<-J7i ha];exact hr h' n' K' he hK
 cases op <;>simp only[Pg,Bool.false_eq_true]at hp <;>simp only[Xv,Jk]at hk
 case mv=>exact⟨_,hk,red _ λh' n' K' he hK=>by simp only[Jk];exact hK⟩
 case pick=>
  split at hk
  ·rename_i c hc;cases c
   ·exact⟨_,hk.2 rfl,red _ λh' n' K' he hK=>by simp only[Jk,hc];exact⟨λh=>(by cases h),λ_=>hK⟩⟩
   ·exact⟨_,hk.1 rfl,red _ λh' n' K' he hK=>by simp only[Jk,hc];exact⟨λ_=>hK,λh=>(by cases h)⟩⟩
  ·exact hk.elim
 case build=>
  obtain⟨h1,h2⟩:=hk;obtain⟨a,ha,h3⟩:=Vo h2;exact⟨_,h3,red _ λh' n' K' he hK=>by simp only[Jk,ha,Js];exact⟨h1,hK⟩⟩
 case ld=>
  split at hk
  ·rename_i id r c hx;obtain⟨B,hB,h1,h2⟩:=Vo hk;obtain⟨a,ha,h3⟩:=Vo h2;exact⟨_,h3,red _ λh' n' K' he hK=>by simp only[Jk,hx,he id (by simp[G6,hx,Ig]) B hB,Js,ha];exact⟨h1,hK⟩⟩
  ·rename_i hx;obtain⟨a,ha,h3⟩:=Vo hk;exact⟨_,h3,red _ λh' n' K' he hK=>by simp only[Jk,hx,ha,Js];exact hK⟩
  ·exact hk.elim
 case nchk=>
  split at hk
  ·rename_i id r c hx;obtain⟨B,hB⟩:=Option.isSome_iff_exists.1 hk.1;exact⟨_,hk.2,red _ λh' n' K' he hK=>by simp only[Jk,hx,he id (by simp[G6,hx,Ig]) B hB];exact⟨rfl,hK⟩⟩
  ·rename_i hx;exact⟨_,hk,red _ λh' n' K' he hK=>by simp only[Jk,hx];exact hK⟩
  ·exact hk.elim
 case bin op x y=>
  split at hk
  ·rename_i hx hy;obtain⟨h1,h2⟩:=hk;split at h2
   ·exact⟨_,h2.2,red _ λh' n' K' he hK=>by simp only[Jk,hx,hy];exact⟨h1,h2.1,hK⟩⟩
   ·exact⟨_,h2.2,red _ λh' n' K' he hK=>by simp only[Jk,hx,hy];exact⟨h1,h2.1,hK⟩⟩
   ·rename_i n1 n2;obtain⟨a,ha,h3⟩:=Vo h2;refine⟨_,h3,red _ λh' n' K' he hK=>?_⟩;simp only[Jk,hx,hy];refine⟨h1,?_⟩;cases op <;>first|exact absurd rfl n1|exact absurd rfl n2|(simp only[ha,Js];exact hK)
  ·rename_i hx hy;split at hk
   ·exact⟨_,hk.2,red _ λh' n' K' he hK=>by simp only[Jk,hx,hy];exact⟨hk.1,hK⟩⟩
   ·rename_i n1;obtain⟨a,ha,h3⟩:=Vo hk;refine⟨_,h3,red _ λh' n' K' he hK=>?_⟩;simp only[Jk,hx,hy];cases op <;>first|exact absurd rfl n1|(simp only[ha,Js];exact hK)
  ·exact hk.elim
 case beq=>
  split at hk
  ·rename_i hx hy;exact⟨_,hk,red _ λh' n' K' he hK=>by simp only[Jk,hx,hy];exact hK⟩
  ·exact hk.elim
 case un op x=>
  split at hk
  ·rename_i hx;exact⟨_,hk,red _ λh' n' K' he hK=>by simp only[Jk,hx];exact hK⟩
  ·rename_i hx;exact⟨_,hk,red _ λh' n' K' he hK=>by simp only[Jk,hx];exact hK⟩
  ·exact hk.elim
 case cvi=>
  obtain⟨a,ha,h3⟩:=Vo hk;exact⟨_,h3,red _ λh' n' K' he hK=>by simp only[Jk,ha,Js];exact hK⟩
 case mkf=>exact⟨_,hk,red _ λh' n' K' he hK=>by simp only[Jk];exact hK⟩
 case slc str sz x lo hi=>
  split at hk
  ·rename_i l hx;obtain⟨a,ha,hk⟩:=Vo hk;obtain⟨b,hb,h1,h2,h3,h4⟩:=Vo hk;exact⟨_,h4,red _ λh' n' K' he hK=>by simp only[Jk,hx,ha,hb,Js];exact⟨h1,h2,h3,hK⟩⟩
  ·rename_i sz' rows hx;obtain⟨a,ha,hk⟩:=Vo hk;obtain⟨b,hb,h0,h1,h2,h3,h4⟩:=Vo hk;exact⟨_,h4,red _ λh' n' K' he hK=>by simp only[Jk,hx,ha,hb,Js];exact⟨h0,h1,h2,h3,hK⟩⟩
  ·rename_i id off len hx;obtain⟨a,ha,hk⟩:=Vo hk;obtain⟨b,hb,h1,h2,h3,hk⟩:=Vo hk;obtain⟨B,hB,h4,h5⟩:=Vo hk;exact⟨_,h5,red _ λh' n' K' he hK=>by simp only[Jk,hx,ha,hb,he id (by simp[G6,hx,Ig]) B hB,Js];exact⟨h1,h2,h3,h4,hK⟩⟩
  ·rename_i sz' hx;obtain⟨a,ha,hk⟩:=Vo hk;obtain⟨b,hb,h1,h2,h3⟩:=Vo hk;exact⟨_,h3,red _ λh' n' K' he hK=>by simp only[Jk,hx,ha,hb,Js];exact⟨h1,h2,hK⟩⟩
  ·exact hk.elim
 case fld=>
  split at hk
  ·rename_i id r c hx;obtain⟨B,hB⟩:=Option.isSome_iff_exists.1 hk.1;exact⟨_,hk.2,red _ λh' n' K' he hK=>by simp only[Jk,hx,he id (by simp[G6,hx,Ig]) B hB];exact⟨rfl,hK⟩⟩
  ·rename_i hx;exact⟨_,hk,red _ λh' n' K' he hK=>by simp only[Jk,hx];exact hK⟩
  ·exact hk.elim
 case prt=>
  split at hk
  ·rename_i hx;obtain⟨a,ha,h3⟩:=Vo hk;exact⟨_,h3,red _ λh' n' K' he hK=>by simp only[Jk,hx,ha,Js];exact hK⟩
  ·exact hk.elim
 case ixa=>
  split at hk
  ·rename_i hx hi;exact⟨_,hk.2.2.2,red _ λh' n' K' he hK=>by simp only[Jk,hx,hi];exact⟨hk.1,hk.2.1,hk.2.2.1,hK⟩⟩
  ·rename_i id off len i hx hi;obtain⟨h1,h2,hk⟩:=hk;obtain⟨B,hB,h4,h5⟩:=Vo hk;exact⟨_,h5,red _ λh' n' K' he hK=>by simp only[Jk,hx,hi,he id (by simp[G6,hx,Ig]) B hB,Js];exact⟨h1,h2,h4,hK⟩⟩
  ·exact hk.elim
 case ixs=>
  split at hk
  ·rename_i hx hi;exact⟨_,hk.2.2,red _ λh' n' K' he hK=>by simp only[Jk,hx,hi];exact⟨hk.1,hk.2.1,hK⟩⟩
  ·exact hk.elim
 case ext=>
  split at hk
  ·rename_i hx;obtain⟨a,ha,h3⟩:=Vo hk;exact⟨_,h3,red _ λh' n' K' he hK=>by simp only[Jk,hx,ha,Js];exact hK⟩
  ·exact hk.elim
 case len str x=>
  split at hk
  ·rename_i hx;exact⟨_,hk,red _ λh' n' K' he hK=>by simp only[Jk,hx];exact λ_=>hK⟩
  ·rename_i hx;exact⟨_,hk,red _ λh' n' K' he hK=>by simp only[Jk,hx];exact λ_=>hK⟩
  ·rename_i id off len hx;obtain⟨B,hB⟩:=Option.isSome_iff_exists.1 hk.1;exact⟨_,hk.2,red _ λh' n' K' he hK=>by simp only[Jk,hx,he id (by simp[G6,hx,Ig]) B hB];exact⟨rfl,λ_=>hK⟩⟩
  ·rename_i hx;exact⟨_,hk,red _ λh' n' K' he hK=>by simp only[Jk,hx];exact hK⟩
  ·exact hk.elim
 case mnx=>
  split at hk
  ·rename_i hx hy;exact⟨_,hk.2,red _ λh' n' K' he hK=>by simp only[Jk,hx,hy];exact⟨hk.1,hK⟩⟩
  ·exact hk.elim
 case aeq=>
  split at hk
  ·rename_i hx hy;obtain⟨a,ha,h3⟩:=Vo hk;exact⟨_,h3,red _ λh' n' K' he hK=>by simp only[Jk,hx,hy,ha,Js];exact hK⟩
  ·exact hk.elim
 case mget=>
  split at hk
  ·rename_i id key hx hy;obtain⟨B,hB,h1⟩:=Vo hk;exact⟨_,h1,red _ λh' n' K' he hK=>by simp only[Jk,hx,hy,he id (by simp[G6,hx,Ig]) B hB,Js];exact hK⟩
  ·exact hk.elim
 case mlen=>
  split at hk
  ·rename_i id hx;obtain⟨B,hB,h1⟩:=Vo hk;exact⟨_,h1,red _ λh' n' K' he hK=>by simp only[Jk,hx,he id (by simp[G6,hx,Ig]) B hB,Js];exact hK⟩
  ·exact hk.elim
theorem Yy{α:Type}{x:Option α}{K K':α->Prop}(h:Js x K)(hk:∀a,K a->K' a):Js x K':=by
 unfold Js at h⊢;split at h
 ·exact hk _ h
 ·exact h.elim
theorem Fm{P:Program}{s:Jm}{h:J8}{n:Nat}{K K':AV->J8->Nat->Prop}{op:Y2}(hk:Jk P s h n K op)(hm:∀r h n,K r h n->K' r h n):Jk P s h n K' op:=by
 cases op <;>simp only[Jk]at hk⊢
 case mv=>exact hm _ _ _ hk
 case pick=>split at hk <;>first|exact hk.elim|exact⟨λe=>hm _ _ _ (hk.1 e),λe=>hm _ _ _ (hk.2 e)⟩
 case box=>exact hm _ _ _ hk
 case boxv=>exact⟨hk.1,hk.2.1,hm _ _ _ hk.2.2⟩
 case build=>exact⟨hk.1,Yy hk.2 λ_ h=>hm _ _ _ h⟩
 case bsl=>exact Yy hk λ_ h=>⟨h.1,hm _ _ _ h.2⟩
 case ld=>
  split at hk
  ·exact Yy hk λ_ h=>⟨h.1,Yy h.2 λ_ h=>hm _ _ _ h⟩
  ·exact Yy hk λ_ h=>hm _ _ _ h
  ·exact hk.elim
 case st=>
  refine⟨hk.1,hk.2.1,?_⟩;have hk:=hk.2.2;split at hk
  ·refine Yy hk λB h=>?_
   split at h <;>rename_i hb
   ·rw[if_pos hb];exact⟨h.1,h.2.1,hm _ _ _ h.2.2⟩
   ·rw[if_neg hb];exact Yy h λ_ h=>Yy h λ_ h=>⟨h.1,h.2.1,h.2.2.1,hm _ _ _ h.2.2.2⟩
  ·exact hk.elim
 case nchk=>
  split at hk
  ·exact⟨hk.1,hm _ _ _ hk.2⟩
  ·exact hm _ _ _ hk
  ·exact hk.elim
 case bin=>
  split at hk
  ·refine⟨hk.1,?_⟩;have hk:=hk.2;split at hk
   ·exact⟨hk.1,hm _ _ _ hk.2⟩
   ·exact⟨hk.1,hm _ _ _ hk.2⟩
   ·exact Yy hk λ_ h=>hm _ _ _ h
  ·split at hk
   ·exact⟨hk.1,hm _ _ _ hk.2⟩
   ·exact Yy hk λ_ h=>hm _ _ _ h
  ·exact hk.elim
 case beq=>split at hk <;>first|exact hk.elim|exact hm _ _ _ hk
 case un=>split at hk <;>first|exact hk.elim|exact hm _ _ _ hk
 case cvi=>exact Yy hk λ_ h=>hm _ _ _ h
 case cvb=>exact Yy hk λ_ h=>Yy h λ_ h=>hm _ _ _ h
 case mkf=>exact hm _ _ _ hk
 case mks=>exact Yy hk λ_ h=>Yy h λ_ h=>⟨h.1,h.2.1,h.2.2.1,hm _ _ _ h.2.2.2⟩
 case slc=>
  split at hk
  ·exact Yy hk λ_ h=>Yy h λ_ h=>⟨h.1,h.2.1,h.2.2.1,hm _ _ _ h.2.2.2⟩
  ·exact Yy hk λ_ h=>Yy h λ_ h=>⟨h.1,h.2.1,h.2.2.1,h.2.2.2.1,hm _ _ _ h.2.2.2.2⟩
  ·exact Yy hk λ_ h=>Yy h λ_ h=>⟨h.1,h.2.1,h.2.2.1,Yy h.2.2.2 λ_ h=>⟨h.1,hm _ _ _ h.2⟩⟩
  ·exact Yy hk λ_ h=>Yy h λ_ h=>⟨h.1,h.2.1,hm _ _ _ h.2.2⟩
  ·exact hk.elim
 case fld=>
  split at hk
  ·exact⟨hk.1,hm _ _ _ hk.2⟩
  ·exact hm _ _ _ hk
  ·exact hk.elim
 case prt=>split at hk <;>first|exact hk.elim|exact Yy hk λ_ h=>hm _ _ _ h
 case ixa=>
  split at hk
  ·exact⟨hk.1,hk.2.1,hk.2.2.1,hm _ _ _ hk.2.2.2⟩
  ·exact⟨hk.1,hk.2.1,Yy hk.2.2 λ_ h=>⟨h.1,hm _ _ _ h.2⟩⟩
  ·exact hk.elim
 case ixs=>split at hk <;>first|exact hk.elim|exact⟨hk.1,hk.2.1,hm _ _ _ hk.2.2⟩
 case ext=>split at hk <;>first|exact hk.elim|exact Yy hk λ_ h=>hm _ _ _ h
 case call=>split at hk <;>first|exact hk.elim|exact X9.mono hk hm
 case len=>
  split at hk
  ·exact λe=>hm _ _ _ (hk e)
  ·exact λe=>hm _ _ _ (hk e)
  ·exact⟨hk.1,λe=>hm _ _ _ (hk.2 e)⟩
  ·exact hm _ _ _ hk
  ·exact hk.elim
 case app=>
  split at hk
  ·exact Yy hk λ_ h=>⟨h.1,h.2.1,hm _ _ _ h.2.2⟩
  ·exact⟨hk.1,Yy hk.2 λ_ h=>Yy h λ_ h=>⟨h.1,h.2.1,h.2.2.1,h.2.2.2.1,h.2.2.2.2.1,h.2.2.2.2.2.1,hm _ _ _ h.2.2.2.2.2.2⟩⟩
  ·exact hk.elim
 case mnx=>split at hk <;>first|exact hk.elim|exact⟨hk.1,hm _ _ _ hk.2⟩
 case aeq=>split at hk <;>first|exact hk.elim|exact Yy hk λ_ h=>hm _ _ _ h
 case mmk=>exact hm _ _ _ hk
 case bslb=>exact⟨hk.1,hm _ _ _ hk.2⟩
 case appb=>
  split at hk
  ·exact Yy hk λ_ h=>⟨h.1,h.2.1,hm _ _ _ h.2.2⟩
  ·exact⟨hk.1,Yy hk.2 λ_ h=>Yy h λ_ h=>⟨h.1,h.2.1,h.2.2.1,h.2.2.2.1,h.2.2.2.2.1,hm _ _ _ h.2.2.2.2.2⟩⟩
  ·exact hk.elim
 case mget=>split at hk <;>first|exact hk.elim|exact Yy hk λ_ h=>hm _ _ _ h
 case mput=>split at hk <;>first|exact hk.elim|exact Yy hk λ_ h=>hm _ _ _ h
 case mlen=>split at hk <;>first|exact hk.elim|exact Yy hk λ_ h=>hm _ _ _ h
 case inil=>
  split at hk
  ·exact⟨λe=>hm _ _ _ (hk.1 e),hm _ _ _ hk.2⟩
  ·exact hm _ _ _ hk
  ·exact⟨hk.1,λe=>hm _ _ _ (hk.2.1 e),hm _ _ _ hk.2.2⟩
  ·exact hk.elim
inductive DT where
 |fin
 |stuck
 |both (a b:DT)
 |op (o:AO) (t:DT)
 |hop (o:AO) (ps:List Y2) (t:DT)
def D8(ps:List Y2)(s:Jm)(h h':J8):Prop:=∀p∈ps,keepL s h h' p
def Yp(P:Program):DT->Jm->J8->Nat->(Jm->J8->Nat->Prop)->Prop
 | .fin,s,h,n,K=>K s h n
 | .stuck,_,_,_,_=>False
 | .both a b,s,h,n,K=>Yp P a s h n K/\Yp P b s h n K
 | .op o t,s,h,n,K=>match o.g with
  |Option.none=>Xv P s h n (λr h' n'=>Yp P t (Xt s o.d r) h' n' K) o.op
  |some (j,want)=>match s j with
   | .bool b=>(b=want->Xv P (upd s j (.bool want)) h n (λr h' n'=>Yp P t (Xt (upd s j (.bool want)) o.d r) h' n' K) o.op) /\
    (b = !want->Yp P t (Xt (upd s j (.bool (!want))) o.d (.tup [])) h n K)
   | .tup []=>Yp P t (Xt s o.d (.tup [])) h n K
   |_=>False
 | .hop o ps t,s,h,n,K=>match o.g with
  |Option.none=>Xv P s h n (λr h' n'=>D8 ps s h h'/\Yp P t (Xt s o.d r) h' n' K) o.op
  |some (j,want)=>match s j with
   | .bool b=>(b=want->Xv P (upd s j (.bool want)) h n (λr h' n'=>D8 ps (upd s j (.bool want)) h h'/\Yp P t (Xt (upd s j (.bool want)) o.d r) h' n' K) o.op) /\
    (b = !want->Yp P t (Xt (upd s j (.bool (!want))) o.d (.tup [])) h n K)
   | .tup []=>Yp P t (Xt s o.d (.tup [])) h n K
   |_=>False
def Qp(n:Nat):List Nat->Bool
 | []=>false
 |m::l=>Nat.beq n m||Qp n l
theorem Ow{n:Nat}{l:List Nat} : Qp n l=true↔n∈l:=by
 induction l with
 |nil=>simp[Qp]
 |cons m l ih=>simp[Qp,ih]
def Ep(o:AO):List Nat:=D5 o.op++(match o.g with|some (q,_)=>[q] |Option.none=>[])
def Uq(ops:Array Oper)(i:Nat):List Nat:=match ops[i]? with
 |some o=>(o.after.toList.filter (Region.binds .any)).map (·.on)
 |Option.none=>[]
def Hv(aos:List AO)(i:Nat):Option Nat:=(aos[i]?).bind (·.d)
def Hl(aos:List AO)(i:Nat):List Nat:=match aos[i]? with|some o=>Ep o|Option.none=>[]
def isD(aos:List AO)(j d:Nat):Bool:=match Hv aos j with|some e=>Nat.beq e d|Option.none=>false
def Rk(aos:List AO)(pre:Nat->List Nat)(i:Nat):Bool:=match aos[i]? with
 |some o=>Pg o.op&&(match o.d with
  |some d=>(List.range aos.length).all λj=>if Nat.beq j i then !(Qp d (Hl aos j))else !(isD aos j d)&&(!(Qp d (Hl aos j))||Qp i (pre j))
  |Option.none=>false)
 |Option.none=>false
def K8e(aos:List AO)(pre:Nat->List Nat)(rs:List Nat):Bool:=(List.range aos.length).all λi=>
 (pre i).all (λp=>Nat.blt p i)&&(Qp i rs==Rk aos pre i)&&(Qp i rs||(match Hv aos i with
  |some d=>(List.range aos.length).all λj=>Nat.beq j i || !(Qp d (Hl aos j))||Qp i (pre j)||Qp j (pre i)
  |Option.none=>true))
def Fi(pre:Nat->List Nat):Nat->Nat->Nat->Bool
 |0,_,_=>false
 |f+1,i,j=>(pre i).any λp=>Nat.beq p j||(Nat.blt j p&&Fi pre f p j)
def C8(aos:List AO)(pre:Nat->List Nat)(rs:List Nat)(i:Nat):List Nat->List Y2
 | []=>[]
 |j::dn=>match aos[j]? with
  |some o=>if P0 o.op&&(Qp j rs && !(Fi pre 12 i j))then o.op::C8 aos pre rs i dn else C8 aos pre rs i dn
  |Option.none=>C8 aos pre rs i dn
theorem Jep{aos:List AO}{pre:Nat->List Nat}{rs:List Nat}{i j:Nat}{o:AO}(ho:aos[j]? = some o)(h1:P0 o.op=true)(h2:Qp j rs=true)(h3:Fi pre 12 i j=false){dn:List Nat}(hj:j∈dn):o.op∈C8 aos pre rs i dn:=by
 induction dn with
 |nil=>cases hj
 |cons k dn ih=>
  unfold C8;rcases mem_cons.1 hj with hjk|hj
  ·subst hjk;rw[ho];simp only;rw[if_pos (by rw[h1,h2,h3];rfl)];exact mem_cons_self
  ·have ih:=ih hj;split
   ·split
    ·exact mem_cons_of_mem _ ih
    ·exact ih
   ·exact ih
def Mp(N:Nat)(pre:Nat->List Nat)(dn:List Nat):List Nat:=(List.range N).filter λi => !(Qp i dn)&&(pre i).all λp=>Qp p dn
def Nk:List DT->DT
 | []=>.fin
 | [t]=>t
 |t::ts=>.both t (Nk ts)
def build(aos:List AO)(pre:Nat->List Nat)(rs:List Nat):Nat->List Nat->DT
 |0,_=>.stuck
 |f+1,dn=>match (Mp aos.length pre dn).find? λi=>Qp i rs with
  |some i=>match aos[i]? with
   |some o=>.op o (build aos pre rs f (i::dn))
   |Option.none=>.stuck
  |Option.none=>Nk ((Mp aos.length pre dn).map λi=>match aos[i]? with
   |some o=>if Jlz o.op then .op o (build aos pre rs f (i::dn))else .hop o (C8 aos pre rs i dn) (build aos pre rs f (i::dn))
   |Option.none=>.stuck)
def Jll(bx:Bool)(P:Program)(nt:Nat)(ops:Array Oper):Option DT:=
 if P.follows .mixedOrders then(ops.toList.mapM (Ce bx P nt ops)).bind λaos=>
  let pre:=Uq ops
  let rs:=(List.range aos.length).filter (Rk aos pre)
  if K8e aos pre rs then some (build aos pre rs (aos.length+1) [])else Option.none
 else Option.none
theorem J3y{P:Program}{s:Jm}{h:J8}{n:Nat}{K:Jm->J8->Nat->Prop} : ∀{ts:List DT}{t:DT},t∈ts->Yp P (Nk ts) s h n K->Yp P t s h n K
 | [],_,h,_=>by cases h
 | [t],_,h,hk=>by simp at h;subst h;exact hk
 |t::u::ts,x,h,hk=>by
  simp only[Nk,Yp]at hk;rcases mem_cons.1 h with rfl|h
  ·exact hk.1
  ·exact J3y h hk.2
def Ct(P:Program)(o:AO)(s:Jm)(h:J8):Prop:=∃d,o.d=some d/\match o.g with
 |Option.none=>Ew P o.op s h (s d)
 |some (q,want)=>(s q = .bool want/\Ew P o.op s h (s d))\/((s q = .bool (!want)\/s q = .tup [])/\s d = .tup [])
theorem Pc{o:AO}{t:Nat}(h:t∈D5 o.op):t∈Ep o:=List.mem_append_left _ h
theorem Re{o:AO}{q:Nat}{w:Bool}(h:o.g=some (q,w)):q∈Ep o:=by simp[Ep,h]
theorem Ct.mono {P:Program}{o:AO}{s s':Jm}{h h':J8}(hp:Ct P o s h) (ha:V2 s s' (Ep o)) (hd:∀d,o.d=some d->s d=s' d) (he:keepL s h h' o.op):Ct P o s' h':=by
 obtain⟨d,h1,h2⟩:=hp;refine⟨d,h1,?_⟩;have ho:V2 s s' (D5 o.op):=λt ht=>ha t (Pc ht)
 rw[<-hd d h1]
 cases hg:o.g with
 |none=>rw[hg]at h2;exact Ew.mono h2 ho he
 |some p=>
  obtain⟨q,want⟩:=p;rw[hg]at h2;simp only at h2⊢;rw[<-ha q (Re hg)];exact h2.imp (λh=>⟨h.1,h.2.mono ho he⟩) id
theorem I5{s:Jm}{q:Nat}{v:AV}(h:s q=v):upd s q v=s:=by
 funext i;simp only[upd];split
 ·rename_i e;rw[e,h]
 ·rfl
section
variable {bx:Bool}{P:Program}{base:Nat}{w0 w1:World}{L1:Nat->Option Jz}{n1 nt:Nat}
theorem Q0.mask {s:Jm}{h:J8}{n:Nat}{a:Act}{w:World}{d:Nat}(hr:Q0 base w0 w1 L1 n1 nt s h n a w):Q0 base w0 w1 L1 n1 nt (upd s d .undef) h n a w:=by
 obtain⟨h1,h2,L,F,H,hs,he⟩:=hr;refine⟨h1,h2,L,F,H,λi=>?_,he⟩;simp only[upd];split
 ·simp only[VR]
 ·exact hs i
theorem Q0.drawn {s:Jm}{h:J8}{n k:Nat}{a:Act}{w:World}(hr:Q0 base w0 w1 L1 n1 nt s h n a w):Q0 base w0 w1 L1 n1 nt s h n a { w with drawn:=k } := by obtain⟨h1,h2,L,F,H,hs,he⟩:=hr;have e:Xf w L n { w with drawn:=k } L n:=⟨Nat.le_refl _,λ_ _ _ h=>h,Nat.le_refl _,λ_ _ h=>⟨rfl,h⟩⟩;refine⟨h1,h2,L,F,⟨⟨H.below.os,H.below.tape,H.below.output,H.below.size,H.below.block⟩,H.bsz,H.dom,H.mod,H.lt,H.inj,H.lo,λid B l hB hl=>(H.blk id B l hB hl).ext e (λ_ _ _ _=>rfl),H.fp,H.ep,H.nd,H.ne,H.dj,H.de⟩,hs.ext e,he.trans e⟩
theorem Jww(ops:Array Oper){o:Oper}{ao:AO}(hao:Ce bx P nt ops o=some ao){s:Jm}{h:J8}{n:Nat}{K:Jm->J8->Nat->Prop}{a:Act}{w:World}{Q:Exit->Act->World->Prop}{next:Act->World->Prop}
 (hr:Q0 base w0 w1 L1 n1 nt s h n a w) (hK:Qm P [ao] s h n K) (hQ:∀s h n a w,Q0 base w0 w1 L1 n1 nt s h n a w->K s h n->next a w) :
 if Region.wanted o (yielded ops a.tmps)then o.wp P a w next Q\/(o.asks P a w/\LetsOut Q)else next (a.put o.dst undef) w:=by
 obtain⟨hdf,hsz,L,F,H,hs,he⟩:=hr
 have step:∀(s':Jm) (aop':Y2),Df bx P o=some aop'->Xw w L n s' a.tmps->(∀i,o.dst=some i->i<nt) ->
  Jk P s' h n (λr h' n'=>K (Xt s' o.dst r) h' n') aop'->o.wp P a w next Q:=λs' aop' hco hs' hd hK'=>by
  refine(J2i hco H hs' hK').wp λv w' hp=>?_
  obtain⟨r,L',N',F',h',g1,g2,g3,g4⟩:=hp;exact hQ _ _ _ _ _ ⟨by rw[Rq,hdf],by rw[Rm,hsz],L',F',g1,(hs'.ext g2).put g3 (λi hi=>by rw[hsz];exact hd i hi),he.trans g2⟩ g4
 have skip:∀(s':Jm),Xw w L n s' a.tmps->(∀i,o.dst=some i->i<nt)->K (Xt s' o.dst (.tup [])) h n->next (a.put o.dst undef) w:=λs' hs' hd hK'=>
  hQ _ _ _ _ _ ⟨by rw[Rq,hdf],by rw[Rm,hsz],L,F,H,hs'.put (by simp[VR,Jw,undef]) (λi hi=>by rw[hsz];exact hd i hi),he⟩ hK'
 have key:∃aop',Df bx P o=some aop'/\ao.d=o.dst/\ao.op=aop'/\(∀i,o.dst=some i->i<nt) /\
  ((o.guard=Option.none/\ao.g=Option.none)\/∃j want q,o.guard=some (j,want)/\(ops[j]?).bind (·.dst)=some q/\q<nt/\ao.g=some (q,want)):=by
  unfold Ce at hao;split at hao
  ·rename_i d hd;split at hao
   ·rename_i hlt;split at hao
    ·rename_i hg;simp only[Option.map_eq_some_iff]at hao;obtain⟨x,hx,rfl⟩:=hao;exact⟨x,hx,hd.symm,rfl,(λi hi=>by rw[hd]at hi;cases hi;exact hlt),.inl ⟨hg,rfl⟩⟩
    ·rename_i j want hg;split at hao
     ·rename_i q hq;split at hao
      ·rename_i hqlt;simp only[Option.map_eq_some_iff]at hao;obtain⟨x,hx,rfl⟩:=hao;exact⟨x,hx,hd.symm,rfl,(λi hi=>by rw[hd]at hi;cases hi;exact hlt),.inr ⟨j,want,q,hg,hq,hqlt,rfl⟩⟩
      ·cases hao
     ·cases hao
   ·cases hao
  ·rename_i hd;split at hao
   ·rename_i hg;simp only[Option.map_eq_some_iff]at hao;obtain⟨x,hx,rfl⟩:=hao;exact⟨x,hx,hd.symm,rfl,(λi hi=>by rw[hd]at hi;cases hi),.inl ⟨hg,rfl⟩⟩
   ·rename_i j want hg;split at hao
    ·rename_i q hq;split at hao
     ·rename_i hqlt;simp only[Option.map_eq_some_iff]at hao;obtain⟨x,hx,rfl⟩:=hao;exact⟨x,hx,hd.symm,rfl,(λi hi=>by rw[hd]at hi;cases hi),.inr ⟨j,want,q,hg,hq,hqlt,rfl⟩⟩
     ·cases hao
    ·cases hao
 obtain⟨aop',hco,hd1,hop,hdlt,hg⟩:=key;simp only[Qm]at hK;rcases hg with ⟨hg,hg'⟩|⟨j,want,q,hg,hq,hqlt,hg'⟩
 ·rw[hg']at hK;simp only[hd1,hop]at hK;rw[if_pos (by simp[Region.wanted,hg])];exact .inl (step s aop' hco hs hdlt hK)
 ·rw[hg']at hK;simp only[hd1,hop]at hK
  have hyield:∀v,a.tmps.getD q undef=v->yielded ops a.tmps j=match v with | .bool b=>some b|_=>Option.none:=λv hv=>by
   have hlt:q<a.tmps.size:=by rw[hsz];exact hqlt
   have hv':a.tmps[q]? = some v:=by rw[<-hv];simp[Array.getD,hlt]
   have:((ops[j]?).bind (·.dst)).bind (a.tmps[·]?)=some v:=by rw[hq];exact hv'
   unfold yielded;rw[this];cases v <;>rfl
  split at hK
  ·rename_i b hb;have hv:=hs q;rw[hb]at hv;simp only[VR]at hv;have hy:=hyield _ hv.1;simp only at hy;have hwant:Region.wanted o (yielded ops a.tmps)=(b==want):=by simp[Region.wanted,hg,hy]
   rw[hwant];by_cases hbw:b=want
   ·rw[if_pos (by simp[hbw])];exact .inl (step _ aop' hco (hs.bool hb hbw) hdlt (hK.1 hbw))
   ·rw[if_neg (by simp[hbw])];have hbn:b = !want:=by cases b <;>cases want <;>simp at hbw⊢
    exact skip _ (hs.bool hb hbn) hdlt (hK.2 hbn)
  ·rename_i hb;have hv:=hs q;rw[hb]at hv;simp only[VR,Jw]at hv;obtain⟨vs,hv,hvs,_⟩:=hv;have hy:=hyield _ hv;simp only at hy;rw[if_neg (by simp[Region.wanted,hg,hy])];exact skip _ hs hdlt hK
  ·exact hK.elim
end
theorem Mg{α β:Type}{f:α->Option β} : ∀{l:List α}{m:List β},l.mapM f=some m->m.length=l.length/\∀(i:Nat) a,l[i]? = some a->∃b,m[i]? = some b/\f a=some b
 | [],m,h=>by simp at h;subst h;simp
 |x::l,m,h=>by
  rw[List.mapM_cons]at h;simp only[Option.bind_eq_bind,Option.bind_eq_some_iff,Option.pure_def,Option.some.injEq]at h;obtain⟨y,hy,m',hm,rfl⟩:=h;obtain⟨h1,h2⟩:=Mg hm;refine⟨by simp[h1],λi a hi=>?_⟩
  cases i with
  |zero=>simp at hi;subst hi;exact⟨y,by simp,hy⟩
  |succ i=>simp at hi;simpa using h2 i a hi
def Yu(ls:Array Bool)(i:Nat):Bool:=ls.getD i false
theorem J39{ops:Array Oper}{ls:Array Bool}{i:Nat} : i∈Region.ready .any ops ls↔i<ops.size/\ls.getD i true=false/\∀p∈Uq ops i,Yu ls p=true:=by
 unfold Region.ready;rw[mem_filter,mem_range];constructor
 ·rintro⟨h1,h2⟩;simp only[Bool.and_eq_true,Bool.not_eq_true']at h2;refine⟨h1,h2.1,λp hp=>?_⟩;have ho:ops[i]? = some ops[i]:=Array.getElem?_eq_getElem h1;rw[ho]at h2;simp only[Uq,ho,mem_map,mem_filter]at hp;obtain⟨e,⟨he,hb⟩,rfl⟩:=hp;have h3:=h2.2;simp only[Option.map_some,Option.getD_some]at h3;rw[Array.all_eq_true']at h3;have:=h3 e (by simpa using he);simpa[hb,Yu]using this
 ·rintro⟨h1,h2,h3⟩;refine⟨h1,?_⟩;have ho:ops[i]? = some ops[i]:=Array.getElem?_eq_getElem h1;simp only[ho,h2,Option.map_some,Option.getD_some,Bool.not_false,Bool.true_and];rw[Array.all_eq_true'];intro e he;by_cases hb:Region.binds .any e=true
  ·have:=h3 e.on (by simp only[Uq,ho,mem_map,mem_filter];exact⟨e,⟨by simpa using he,hb⟩,rfl⟩);simp only[Yu]at this;simp[this]
  ·simp[hb]
def Mo(N:Nat)(ls:Array Bool):Nat:=(List.range N).countP λi => !(ls.getD i true)
theorem Jfr{l:List Nat}{p q:Nat->Bool}(h:∀x∈l,q x=true->p x=true){i:Nat}(hi:i∈l)(hp:p i=true)(hq:q i=false):l.countP q<l.countP p:=by
 induction l with
 |nil=>cases hi
 |cons x l ih=>
  rw[List.countP_cons,List.countP_cons];have hle:l.countP q<=l.countP p:=List.countP_mono_left λy hy=>h y (mem_cons_of_mem _ hy)
  rcases mem_cons.1 hi with rfl|hi
  ·rw[if_neg (by simp[hq]),if_pos hp];omega
  ·have:=ih (λy hy=>h y (mem_cons_of_mem _ hy)) hi;by_cases hqx:q x=true
   ·rw[if_pos hqx,if_pos (h x mem_cons_self hqx)];omega
   ·rw[if_neg hqx];split <;>omega
theorem Bn{ls:Array Bool}{i j:Nat}(hi:i<ls.size):Yu (ls.setIfInBounds i true) j=(if j=i then true else Yu ls j):=by
 simp only[Yu,Array.getD_eq_getD_getElem?,Array.getElem?_setIfInBounds];by_cases h:i=j
 ·subst h;simp[hi]
 ·rw[if_neg h,if_neg (λe=>h e.symm)]
theorem Nx{ls:Array Bool}{i:Nat}(hi:i<ls.size):ls.getD i true=Yu ls i:=by simp[Yu,Array.getD,hi]
section
variable {bx:Bool}{P:Program}{base:Nat}{w0 w1:World}{L1:Nat->Option Jz}{n1 nt:Nat}{ops:Array Oper}{aos:List AO}{rs:List Nat}{K:Jm->J8->Nat->Prop}
structure N4 (aos:List AO) (pre:Nat->List Nat) (rs:List Nat):Prop where
 lt:∀i,i<aos.length->∀p∈pre i,p<i
 cs:∀i,i<aos.length->i∉rs->∀d,Hv aos i=some d->∀j,j<aos.length->j≠i->d∈Hl aos j->i∈pre j\/j∈pre i
 rp:∀i,i<aos.length->i∈rs->∃o d,aos[i]? = some o/\Pg o.op=true/\o.d=some d/\d∉Hl aos i/\∀j,j<aos.length->j≠i->Hv aos j≠some d/\(d∈Hl aos j->i∈pre j)
theorem N4.of {pre:Nat->List Nat}(h:K8e aos pre rs=true):N4 aos pre rs:=by
 unfold K8e at h;rw[all_eq_true]at h;have h:=λi hi=>h i (mem_range.2 hi)
 refine⟨λi hi p hp=>?_,λi hi hr d hd j hj hne hmem=>?_,λi hi hr=>?_⟩
 ·have h1:=h i hi;simp only[Bool.and_eq_true]at h1;have h2:=all_eq_true.1 h1.1.1 p hp;exact Nat.blt_eq ▸ h2
 ·have h1:=h i hi;simp only[Bool.and_eq_true,Bool.or_eq_true]at h1;rcases h1.2 with h2|h2
  ·exact absurd (Ow.1 h2) hr
  ·rw[hd]at h2;simp only at h2;rw[all_eq_true]at h2;have h3:=h2 j (mem_range.2 hj);simp only[Bool.or_eq_true,Nat.beq_eq,Bool.not_eq_true',Ow]at h3;rcases h3 with ((h3|h3)|h3)|h3
   ·exact absurd h3 hne
   ·exact absurd (Ow.2 hmem) (by simp[h3])
   ·exact .inl h3
   ·exact .inr h3
 ·have h1:=h i hi;simp only[Bool.and_eq_true,beq_iff_eq]at h1;have h2:Rk aos pre i=true:=by rw[<-h1.1.2];exact Ow.2 hr
  unfold Rk at h2;split at h2
  ·rename_i o ho;simp only[Bool.and_eq_true]at h2;obtain⟨hp,h2⟩:=h2;split at h2
   ·rename_i d hd;rw[all_eq_true]at h2;refine⟨o,d,ho,hp,hd,?_,λj hj hne=>?_⟩
    ·have h3:=h2 i (mem_range.2 hi);simp only[Nat.beq_refl,if_true,Bool.not_eq_true']at h3;intro hm;rw[Ow.2 hm]at h3;cases h3
    ·have h3:=h2 j (mem_range.2 hj);rw[if_neg (by simpa using hne)]at h3;simp only[Bool.and_eq_true,Bool.not_eq_true',Bool.or_eq_true,Ow]at h3;refine⟨λhdj=>?_,λhm=>?_⟩
     ·have:=h3.1;simp[isD,hdj]at this
     ·rcases h3.2 with h4|h4
      ·rw[Ow.2 hm]at h4;cases h4
      ·exact h4
   ·cases h2
  ·cases h2
structure Eh (P:Program) (base:Nat) (w0 w1:World) (L1:Nat->Option Jz) (n1 nt:Nat) (ops:Array Oper) (aos:List AO) (rs:List Nat) (K:Jm->J8->Nat->Prop)
 (ls:Array Bool) (a:Act) (w:World) (f:Nat) (dn:List Nat) (s:Jm) (h:J8) (n:Nat):Prop where
 sz:ls.size=aos.length
 rel:∃sm,Q0 base w0 w1 L1 n1 nt sm h n a w/\∀t,sm t=s t\/(sm t = .undef/\∃i∈dn,Yu ls i=false/\i∈rs/\Hv aos i=some t)
 clo:∀i,Yu ls i=true->∀p∈Uq ops i,Yu ls p=true
 cC:∀i,i<aos.length->i∉rs->i∈dn->Yu ls i=true
 cR:∀i,Yu ls i=true->i∈dn
 dlt:∀i∈dn,i<aos.length
 dcl:∀i∈dn,∀p∈Uq ops i,p∈dn
 pend:∀i∈dn,i∈rs->Yu ls i=false->∃o,aos[i]? = some o/\Ct P o s h
 wp:Yp P (build aos (Uq ops) rs f dn) s h n K
def Jd6(ops:Array Oper)(aos:List AO)(rs dn:List Nat):Prop:=∀i,i<aos.length->i∈rs->(∀p∈Uq ops i,p∈dn)->i∈dn
theorem Pd{N:Nat}{pre:Nat->List Nat}{dn:List Nat}{i:Nat} : i∈Mp N pre dn↔i<N/\i∉dn/\∀p∈pre i,p∈dn:=by
 unfold Mp;rw[mem_filter,mem_range];simp only[Bool.and_eq_true,Bool.not_eq_true',all_eq_true,Ow];constructor
 ·rintro⟨h1,h2,h3⟩;exact⟨h1,(λhm=>by rw[Ow.2 hm]at h2;cases h2),h3⟩
 ·rintro⟨h1,h2,h3⟩;exact⟨h1,(by cases hm:Qp i dn;rfl;exact absurd (Ow.1 hm) h2),h3⟩
theorem Eh.greedy (hc:N4 aos (Uq ops) rs) {ls:Array Bool}{a:Act}{w:World} : ∀(f:Nat) (dn:List Nat) (s:Jm) (h:J8) (n:Nat),
 Eh P base w0 w1 L1 n1 nt ops aos rs K ls a w f dn s h n->∃f' dn' s',Eh P base w0 w1 L1 n1 nt ops aos rs K ls a w f' dn' s' h n/\Jd6 ops aos rs dn'
 |0,dn,s,h,n,I=>by have:=I.wp;simp[build,Yp]at this
 |f+1,dn,s,h,n,I=>by
  have hw:=I.wp;unfold build at hw;split at hw
  ·rename_i i hi;have hi1:=List.mem_of_find?_eq_some hi;have hi2:i∈rs:=Ow.1 (by simpa using List.find?_some hi);obtain⟨hiN,hidn,hipre⟩:=Pd.1 hi1;obtain⟨o,d,ho,hp,hd,hself,hoth⟩:=hc.rp i hiN hi2;rw[ho]at hw;simp only at hw;have hls:Yu ls i=false:=by cases hl:Yu ls i;rfl;exact absurd (I.cR i hl) hidn
   have hdI:Hv aos i=some d:=by simp[Hv,ho,hd]
   have hrdI:Hl aos i=Ep o:=by simp[Hl,ho]
   have next:∀r,Yp P (build aos (Uq ops) rs f (i::dn)) (upd s d r) h n K->Ct P o (upd s d r) h ->
    ∃f' dn' s',Eh P base w0 w1 L1 n1 nt ops aos rs K ls a w f' dn' s' h n/\Jd6 ops aos rs dn':=λr hw' hpo=>by
    refine Eh.greedy hc f (i::dn) (upd s d r) h n ⟨I.sz,?_,I.clo,?_,λj hj=>mem_cons_of_mem _ (I.cR j hj),?_,?_,?_,hw'⟩
    ·obtain⟨sm,hr,hsm⟩:=I.rel;refine⟨upd sm d .undef,hr.mask,λt=>?_⟩;by_cases ht:t=d
     ·subst ht;exact .inr ⟨W4 _ _ _,i,mem_cons_self,hls,hi2,hdI⟩
     ·rw[Yk _ _ _ _ ht,Yk _ _ _ _ ht];exact(hsm t).imp id λ⟨h1,j,hj,h2⟩=>⟨h1,j,mem_cons_of_mem _ hj,h2⟩
    ·intro j hj hjr hjd;rcases mem_cons.1 hjd with rfl|hjd
     ·exact absurd hi2 hjr
     ·exact I.cC j hj hjr hjd
    ·intro j hj;rcases mem_cons.1 hj with rfl|hj
     ·exact hiN
     ·exact I.dlt j hj
    ·intro j hj p hp;rcases mem_cons.1 hj with rfl|hj
     ·exact mem_cons_of_mem _ (hipre p hp)
     ·exact mem_cons_of_mem _ (I.dcl j hj p hp)
    ·intro j hj hjr hjl;rcases mem_cons.1 hj with rfl|hjd
     ·exact⟨o,ho,hpo⟩
     ·obtain⟨oj,hoj,hpj⟩:=I.pend j hjd hjr hjl;have hji:j≠i:=λe=>hidn (e ▸ hjd)
      obtain⟨h1,h2⟩:=hoth j (I.dlt j hjd) hji;refine⟨oj,hoj,hpj.mono (λt ht=>?_) (λe he=>?_) keepL.refl⟩
      ·have:t≠d:=λe=>by
        subst e;exact hidn (I.dcl j hjd i (h2 (by simp[Hl,hoj,ht])))
       rw[Yk _ _ _ _ this]
      ·have:e≠d:=λe'=>h1 (by simp[Hv,hoj,he,e'])
       rw[Yk _ _ _ _ this]
   have hag:∀r,V2 s (upd s d r) (D5 o.op):=λr t ht=>by
    have:t≠d:=λe=>hself (by rw[hrdI,<-e];exact Pc ht)
    rw[Yk _ _ _ _ this]
   simp only[Yp]at hw
   cases hg:o.g with
   |none=>
    rw[hg]at hw;simp only at hw;obtain⟨r,hw',hfix⟩:=Ja9 hp hw;rw[hd]at hw';refine next r hw' ⟨d,hd,?_⟩
    rw[hg];simp only[W4]
    exact hfix.mono (hag r) keepL.refl
   |some p=>
    obtain⟨q,want⟩:=p;have hqd:q≠d:=λe=>hself (by rw[hrdI,<-e];exact Re hg)
    rw[hg]at hw;simp only at hw;split at hw
    ·rename_i b hb;by_cases hbw:b=want
     ·have hw1:=hw.1 hbw;rw[I5 (by rw[hb,hbw])]at hw1;obtain⟨r,hw',hfix⟩:=Ja9 hp hw1;rw[hd]at hw';refine next r hw' ⟨d,hd,?_⟩
      rw[hg];simp only[W4,Yk _ _ _ _ hqd];exact .inl ⟨by rw[hb,hbw],hfix.mono (hag r) keepL.refl⟩
     ·have hbn:b = !want:=by cases b <;>cases want <;>simp at hbw⊢
      have hw1:=hw.2 hbn;rw[I5 (by rw[hb,hbn]),hd]at hw1;refine next _ hw1 ⟨d,hd,?_⟩
      rw[hg];simp only[W4,Yk _ _ _ _ hqd];exact .inr ⟨.inl (by rw[hb,hbn]),trivial⟩
    ·rename_i hb;rw[hd]at hw;refine next _ hw ⟨d,hd,?_⟩
     rw[hg];simp only[W4,Yk _ _ _ _ hqd];exact .inr ⟨.inr hb,trivial⟩
    ·exact hw.elim
  ·rename_i hnone;refine⟨f+1,dn,s,I,λi hiN hir hip=>?_⟩;by_cases hidn:i∈dn
   ·exact hidn
   ·have:=List.find?_eq_none.1 hnone i (Pd.2 ⟨hiN,hidn,hip⟩);exact absurd (Ow.2 hir) (by simpa using this)
theorem Q0.fresh {s:Jm}{h:J8}{n:Nat}{a:Act}{w:World}(hr:Q0 base w0 w1 L1 n1 nt s h n a w):h n=Option.none:=by
 obtain⟨_,_,L,F,H,_⟩:=hr;refine H.mod n ?_
 cases hl:L n with
 |none=>rfl
 |some l=>exact absurd (H.lt n l hl) (Nat.lt_irrefl _)
theorem Jas{P:Program}{o:AO}{s:Jm}{h:J8}{n:Nat}{K:Jm->J8->Nat->Prop}(hn:o.g=Option.none)(hk:Jk P s h n (λr h' n'=>K (Xt s o.d r) h' n') o.op):Qm P [o] s h n K:=by simp only[Qm,hn];exact hk
theorem Jor{N:Nat}{ls:Array Bool}{i:Nat}(hN:ls.size=N)(hi:i<N)(hl:ls.getD i true=false):Mo N (ls.setIfInBounds i true)<Mo N ls:=by
 refine Jfr (i:=i) (λx hx=>?_) (mem_range.2 hi) (by simp[hl]) ?_
 ·have hx':x<ls.size:=by rw[hN];exact mem_range.1 hx
  have hx2:x<(ls.setIfInBounds i true).size:=by simpa using hx'
  have hi':i<ls.size:=by rw[hN];exact hi
  rw[Nx hx',Nx hx2,Bn hi'];split
  ·simp
  ·exact id
 ·have hi':i<ls.size:=by rw[hN];exact hi
  have hx2:i<(ls.setIfInBounds i true).size:=by simpa using hi'
  rw[Nx hx2,Bn hi',if_pos rfl];rfl
theorem Jei{ls:Array Bool}(hclo:∀i,Yu ls i=true->∀p∈Uq ops i,Yu ls p=true):∀(f i j:Nat),Fi (Uq ops) f i j=true->(∀p∈Uq ops i,Yu ls p=true)->Yu ls j=true
 |0,_,_,h,_=>by simp[Fi]at h
 |f+1,i,j,h,hp=>by
  simp only[Fi,List.any_eq_true,Bool.or_eq_true,Bool.and_eq_true,Nat.beq_eq]at h;obtain⟨p,hpm,h⟩:=h;rcases h with h|h
  ·subst h;exact hp p hpm
  ·exact Jei hclo f p j h.2 (hclo p (hp p hpm))
theorem Jj5(hos:ops.toList.mapM (Ce bx P nt ops)=some aos)(hc:N4 aos (Uq ops) rs){Q:Exit->Act->World->Prop}
 (hQ:∀s h n a w,Q0 base w0 w1 L1 n1 nt s h n a w->K s h n->Q .normal a w) :
 ∀(fuel:Nat) (ls:Array Bool) (a:Act) (w:World) (f:Nat) (dn:List Nat) (s:Jm) (h:J8) (n:Nat),
 Eh P base w0 w1 L1 n1 nt ops aos rs K ls a w f dn s h n->Jd6 ops aos rs dn->Mo aos.length ls<=fuel->wpAny P .any ops Q fuel ls a w:=by
 have hlen:aos.length=ops.size:=by rw[(Mg hos).1];simp
 intro fuel
 have fin:∀(ls:Array Bool) (a:Act) (w:World) (f:Nat) (dn:List Nat) (s:Jm) (h:J8) (n:Nat),
  Eh P base w0 w1 L1 n1 nt ops aos rs K ls a w f dn s h n->Region.ready .any ops ls=[]->Q .normal a w:=by
  intro ls a w f dn s h n I hr
  have hall:∀i,i<aos.length->Yu ls i=true:=by
   intro i
   induction i using Nat.strongRecOn with
   |ind i ih=>
    intro hi
    cases hl:Yu ls i with
    |true=>rfl
    |false=>
     have:i∈Region.ready .any ops ls:=J39.2 ⟨by rw[<-hlen];exact hi,by rw[Nx (by rw[I.sz];exact hi)];exact hl,λp hp=>ih p (hc.lt i hi p hp) (Nat.lt_trans (hc.lt i hi p hp) hi)⟩;rw[hr]at this;cases this
  have hrd:Mp aos.length (Uq ops) dn=[]:=List.eq_nil_iff_forall_not_mem.2 λi hi=>by obtain⟨h1,h2,_⟩:=Pd.1 hi;exact h2 (I.cR i (hall i h1))
  have hw:=I.wp
  cases f with
  |zero=>simp[build,Yp]at hw
  |succ f=>
   unfold build at hw;rw[hrd]at hw;simp only[List.find?_nil,List.map_nil,Nk,Yp]at hw;obtain⟨sm,hrel,hsm⟩:=I.rel
   have:sm=s:=funext λt=>by
    rcases hsm t with h|⟨_,i,hi,hl,_⟩
    ·exact h
    ·rw[hall i (I.dlt i hi)]at hl;cases hl
   subst this;exact hQ _ _ _ _ _ hrel hw
 induction fuel with
 |zero=>
  intro ls a w f dn s h n I hg hu
  have hr:Region.ready .any ops ls=[]:=List.eq_nil_iff_forall_not_mem.2 λi hi=>by
   obtain⟨h1,h2,_⟩:=J39.1 hi;have h0:Mo aos.length ls=0:=by omega
   unfold Mo at h0;rw[List.countP_eq_zero]at h0;exact h0 i (mem_range.2 (by rw[hlen];exact h1)) (by simp[h2])
  exact⟨hr,fin ls a w f dn s h n I hr⟩
 |succ fuel ih=>
  intro ls a w f dn s h n I hg hu;refine⟨fin ls a w f dn s h n I,λi hi=>?_⟩;obtain⟨hiN',hil,hip⟩:=J39.1 hi;have hiN:i<aos.length:=by rw[hlen];exact hiN'
  have hils:i<ls.size:=by rw[I.sz];exact hiN
  have hil':Yu ls i=false:=by rw[<-Nx hils];exact hil
  have hu':=Jor I.sz hiN hil;have ho:ops[i]? = some ops[i]:=Array.getElem?_eq_getElem hiN';obtain⟨ao,hao,hcomp⟩:=(Mg hos).2 i ops[i] (by simp);have hdI:Hv aos i=ao.d:=by simp[Hv,hao]
  have hrdI:Hl aos i=Ep ao:=by simp[Hl,hao]
  unfold wpOp;rw[ho];simp only;obtain⟨sm,hrel,hsm⟩:=I.rel
  have hag:V2 s sm (Ep ao):=λt ht=>by
   rcases hsm t with h|⟨_,j,hj,hl,hjr,hjd⟩
   ·exact h.symm
   ·obtain⟨oj,dj,hoj,_,hdj,hself,hoth⟩:=hc.rp j (I.dlt j hj) hjr;have hdt:dj=t:=by simpa[Hv,hoj,hdj]using hjd
    subst hdt;by_cases hij:i=j
    ·subst hij;exact absurd (by rw[hrdI];exact ht) hself
    ·have:=(hoth i hiN hij).2 (by rw[hrdI];exact ht);rw[hip j this]at hl;cases hl
  have hclo:∀j,Yu (ls.setIfInBounds i true) j=true->∀p∈Uq ops j,Yu (ls.setIfInBounds i true) p=true:=λj hj p hp=>by
   rw[Bn hils]at hj⊢;split
   ·rfl
   ·split at hj
    ·rename_i e;subst e;exact hip p hp
    ·exact I.clo j hj p hp
  by_cases hir:i∈rs
  ·
    have hidn:i∈dn:=hg i hiN hir λp hp=>I.cR p (hip p hp)
    obtain⟨o2,ho2,hpo⟩:=I.pend i hidn hir hil';have:o2=ao:=by rw[hao]at ho2;exact(Option.some.inj ho2).symm
    subst this;obtain⟨d,hd,hpo⟩:=hpo;refine Jww (K:=λs' h' n'=>s'=upd sm d (s d)/\h'=h/\n'=n) ops hcomp hrel ?_ ?_
    ·cases hgd:o2.g with
     |none=>
      rw[hgd]at hpo
      exact Jas hgd (hpo sm h n _ (λt ht=>hag t (Pc ht)) keepL.refl ⟨by rw[hd];rfl,rfl,rfl⟩)
     |some p=>
      obtain⟨q,want⟩:=p;rw[hgd]at hpo;simp only at hpo;have hq:=hag q (Re hgd);simp only[Qm,hgd];rcases hpo with ⟨h1,h2⟩|⟨h1,h2⟩
      ·rw[<-hq,h1];simp only;refine⟨λ_=>?_,λe=>(by cases want <;>cases e)⟩;rw[I5 (by rw[<-hq,h1])];exact h2 sm h n _ (λt ht=>hag t (Pc ht)) keepL.refl ⟨by rw[hd];rfl,rfl,rfl⟩
      ·rcases h1 with h1|h1
       ·rw[<-hq,h1];simp only;refine⟨λe=>(by cases want <;>cases e),λ_=>?_⟩;rw[I5 (by rw[<-hq,h1])];exact⟨by rw[hd,h2];rfl,trivial,trivial⟩
       ·rw[<-hq,h1];simp only;exact⟨by rw[hd,h2];rfl,trivial,trivial⟩
    ·rintro s' h' n' a' w' hrel' ⟨rfl,rfl,rfl⟩;refine ih _ a' w' f dn s h' n' ⟨by simpa using I.sz,⟨_,hrel',λt=>?_⟩,hclo,λj hj hjr hjd=>?_,λj hj=>?_,I.dlt,I.dcl,λj hj hjr hjl=>?_,I.wp⟩ hg (by omega)
     ·by_cases ht:t=d
      ·subst ht;exact .inl (W4 _ _ _)
      ·rw[Yk _ _ _ _ ht];refine(hsm t).imp id λ⟨h1,j,hj,hl,h2,h3⟩=>⟨h1,j,hj,?_,h2,h3⟩
       rw[Bn hils,if_neg]
       ·exact hl
       ·rintro rfl;exact ht (by rw[hdI,hd]at h3;exact(Option.some.inj h3).symm)
     ·rw[Bn hils];split
      ·rfl
      ·exact I.cC j hj hjr hjd
     ·rw[Bn hils]at hj;split at hj
      ·rename_i e;rw[e];exact hidn
      ·exact I.cR j hj
     ·rw[Bn hils]at hjl;split at hjl
      ·cases hjl
      ·exact I.pend j hj hjr hjl
  ·
    have hidn:i∉dn:=λh=>by rw[I.cC i hiN hir h]at hil';cases hil'
    have hpdn:∀p∈Uq ops i,p∈dn:=λp hp=>I.cR p (hip p hp)
    have hw:=I.wp
    cases f with
    |zero=>simp[build,Yp]at hw
    |succ f=>
     unfold build at hw
     have hnone:(Mp aos.length (Uq ops) dn).find? (λi=>Qp i rs)=Option.none:=by rw[List.find?_eq_none];intro j hj hjr;obtain⟨h1,h2,h3⟩:=Pd.1 hj;exact h2 (hg j h1 (Ow.1 hjr) h3)
     rw[hnone]at hw;simp only at hw;have hw:=J3y (mem_map.2 ⟨i,Pd.2 ⟨hiN,hidn,hpdn⟩,rfl⟩) hw;rw[hao]at hw;simp only at hw
     have hpend:∀(d':Option Nat) (r:AV) (h':J8),d'=ao.d->(Y6 h h'\/∀j∈dn,j∈rs->Yu ls j=true\/∃oj,aos[j]? = some oj/\keepL s h h' oj.op)->∀j∈dn,j∈rs->Yu ls j=false->∃o,aos[j]? = some o/\Ct P o (Xt s d' r) h':=by
      intro d' r h' hd' he j hj hjr hjl;obtain⟨oj,hoj,hpj⟩:=I.pend j hj hjr hjl;have hji:j≠i:=λe=>hidn (e ▸ hj)
      have he:keepL s h h' oj.op:=by
       rcases he with he|he
       ·exact he.keepL
       ·rcases he j hj hjr with he|⟨oj',ho',he⟩
        ·rw[he]at hjl;cases hjl
        ·rw[hoj]at ho';cases ho';exact he
      refine⟨oj,hoj,?_⟩;subst hd'
      cases hd:ao.d with
      |none=>exact hpj.mono (λ_ _=>rfl) (λ_ _=>rfl) he
      |some d=>
       obtain⟨_,dj,hoj',_,hdj,_,hoth⟩:=hc.rp j (I.dlt j hj) hjr;refine hpj.mono (λt ht=>?_) (λe he'=>?_) he
       ·have:t≠d:=λe=>by
         subst e;rcases hc.cs i hiN hir t (by rw[hdI,hd]) j (I.dlt j hj) hji (by simp[Hl,hoj,ht])with h1|h1
         ·exact hidn (I.dcl j hj i h1)
         ·rw[hip j h1]at hjl;cases hjl
        simp only[Xt,Yk _ _ _ _ this]
       ·have:e≠d:=λe2=>by
         subst e2;rw[hoj]at hoj';cases hoj';rw[hdj]at he';cases he';exact(hoth i hiN (λe=>hji e.symm)).1 (by rw[hdI,hd])
        simp only[Xt,Yk _ _ _ _ this]
     have hgo:∀(r:AV) (h':J8) (n':Nat) (a':Act) (w':World),Q0 base w0 w1 L1 n1 nt (Xt sm ao.d r) h' n' a' w'->(Y6 h h'\/∀j∈dn,j∈rs->Yu ls j=true\/∃oj,aos[j]? = some oj/\keepL s h h' oj.op) ->
      Yp P (build aos (Uq ops) rs f (i::dn)) (Xt s ao.d r) h' n' K->wpAny P .any ops Q fuel (ls.setIfInBounds i true) a' w':=by
      intro r h' n' a' w' hrel' he hw'
      have I':Eh P base w0 w1 L1 n1 nt ops aos rs K (ls.setIfInBounds i true) a' w' f (i::dn) (Xt s ao.d r) h' n':=by
       refine⟨by simpa using I.sz,⟨_,hrel',λt=>?_⟩,hclo,λj hj hjr hjd=>?_,λj hj=>?_,λj hj=>?_,λj hj p hp=>?_,λj hj hjr hjl=>?_,hw'⟩
       ·have old:∀(hne:ao.d≠some t),sm t=s t\/(sm t = .undef/\∃j∈i::dn,Yu (ls.setIfInBounds i true) j=false/\j∈rs/\Hv aos j=some t):=λhne=>
         (hsm t).imp id λ⟨h1,j,hj,hl,h2,h3⟩=>⟨h1,j,mem_cons_of_mem _ hj,(by have hji:j≠i:=(λe=>hidn (e ▸ hj));rw[Bn hils,if_neg hji];exact hl),h2,h3⟩
        cases hd:ao.d with
        |none=>exact old (by rw[hd];simp)
        |some d=>
         simp only[Xt];by_cases ht:t=d
         ·subst ht;exact .inl (by rw[W4,W4])
         ·rw[Yk _ _ _ _ ht,Yk _ _ _ _ ht];exact old (by rw[hd];exact λe=>ht (Option.some.inj e).symm)
       ·rw[Bn hils];split
        ·rfl
        ·rename_i hne;rcases mem_cons.1 hjd with rfl|hjd
         ·exact absurd rfl hne
         ·exact I.cC j hj hjr hjd
       ·rw[Bn hils]at hj;split at hj
        ·rename_i e;rw[e];exact mem_cons_self
        ·exact mem_cons_of_mem _ (I.cR j hj)
       ·rcases mem_cons.1 hj with rfl|hj
        ·exact hiN
        ·exact I.dlt j hj
       ·rcases mem_cons.1 hj with rfl|hj
        ·exact mem_cons_of_mem _ (hpdn p hp)
        ·exact mem_cons_of_mem _ (I.dcl j hj p hp)
       ·rw[Bn hils]at hjl;split at hjl
        ·cases hjl
        ·rename_i hne;rcases mem_cons.1 hj with rfl|hj
         ·exact absurd rfl hne
         ·exact hpend _ r h' rfl he j hj hjr hjl
      obtain⟨f',dn',s',I2,hg2⟩:=I'.greedy hc;exact ih _ a' w' f' dn' s' h' n' I2 hg2 (by omega)
     have hw3:match ao.g with
      |Option.none=>Jk P s h n (λr h' n'=>(Y6 h h'\/∀j∈dn,j∈rs->Yu ls j=true\/∃oj,aos[j]? = some oj/\keepL s h h' oj.op)/\Yp P (build aos (Uq ops) rs f (i::dn)) (Xt s ao.d r) h' n' K) ao.op
      |some (q,want)=>match s q with
       | .bool b=>(b=want->Jk P s h n (λr h' n'=>(Y6 h h'\/∀j∈dn,j∈rs->Yu ls j=true\/∃oj,aos[j]? = some oj/\keepL s h h' oj.op)/\Yp P (build aos (Uq ops) rs f (i::dn)) (Xt s ao.d r) h' n' K) ao.op) /\
        (b = !want->Yp P (build aos (Uq ops) rs f (i::dn)) (Xt s ao.d (.tup [])) h n K)
       | .tup []=>Yp P (build aos (Uq ops) rs f (i::dn)) (Xt s ao.d (.tup [])) h n K
       |_=>False:=by
      split at hw
      ·rename_i hso
       have fin1:Xv P s h n (λr h' n'=>Yp P (build aos (Uq ops) rs f (i::dn)) (Xt s ao.d r) h' n' K) ao.op ->
        Jk P s h n (λr h' n'=>(Y6 h h'\/∀j∈dn,j∈rs->Yu ls j=true\/∃oj,aos[j]? = some oj/\keepL s h h' oj.op)/\Yp P (build aos (Uq ops) rs f (i::dn)) (Xt s ao.d r) h' n' K) ao.op:=
        λhk=>Fm (Jfp hso hrel.fresh hk) λ_ _ _ h=>⟨.inl h.1,h.2⟩
       simp only[Yp]at hw
       cases hgd:ao.g with
       |none=>rw[hgd]at hw;exact fin1 hw
       |some p=>
        obtain⟨q,want⟩:=p;rw[hgd]at hw;simp only at hw⊢;cases hsq:s q <;>rw[hsq]at hw <;>try exact hw.elim
        ·refine⟨λe=>?_,λe=>?_⟩
         ·have:=hw.1 e;rw[I5 (by rw[hsq,e])]at this;exact fin1 this
         ·have:=hw.2 e;rw[I5 (by rw[hsq,e])]at this;exact this
        ·rename_i vs;cases vs <;>exact hw
      ·have fin2:Xv P s h n (λr h' n'=>D8 (C8 aos (Uq ops) rs i dn) s h h'/\Yp P (build aos (Uq ops) rs f (i::dn)) (Xt s ao.d r) h' n' K) ao.op ->
        Jk P s h n (λr h' n'=>(Y6 h h'\/∀j∈dn,j∈rs->Yu ls j=true\/∃oj,aos[j]? = some oj/\keepL s h h' oj.op)/\Yp P (build aos (Uq ops) rs f (i::dn)) (Xt s ao.d r) h' n' K) ao.op:=by
        refine λhk=>Fm (J9q hk) λ_ h' _ hh=>⟨.inr λj hj hjr=>?_,hh.2⟩
        cases hrc:Fi (Uq ops) 12 i j with
        |true=>exact .inl (Jei I.clo _ _ _ hrc hip)
        |false=>
         obtain⟨oj,dj,hoj,hpu,_⟩:=hc.rp j (I.dlt j hj) hjr;refine .inr ⟨oj,hoj,?_⟩
         cases hho:P0 oj.op with
         |false=>exact Jfb hpu hho
         |true=>exact hh.1 _ (Jep hoj hho (Ow.2 hjr) hrc hj)
       simp only[Yp]at hw
       cases hgd:ao.g with
       |none=>rw[hgd]at hw;exact fin2 hw
       |some p=>
        obtain⟨q,want⟩:=p;rw[hgd]at hw;simp only at hw⊢;cases hsq:s q <;>rw[hsq]at hw <;>try exact hw.elim
        ·refine⟨λe=>?_,λe=>?_⟩
         ·have:=hw.1 e;rw[I5 (by rw[hsq,e])]at this;exact fin2 this
         ·have:=hw.2 e;rw[I5 (by rw[hsq,e])]at this;exact this
        ·rename_i vs;cases vs <;>exact hw
     have run:Jk P s h n (λr h' n'=>(Y6 h h'\/∀j∈dn,j∈rs->Yu ls j=true\/∃oj,aos[j]? = some oj/\keepL s h h' oj.op)/\Yp P (build aos (Uq ops) rs f (i::dn)) (Xt s ao.d r) h' n' K) ao.op ->
      Jk P sm h n (λr h' n'=>(Y6 h h'\/∀j∈dn,j∈rs->Yu ls j=true\/∃oj,aos[j]? = some oj/\keepL s h h' oj.op)/\Yp P (build aos (Uq ops) rs f (i::dn)) (Xt s ao.d r) h' n' K) ao.op:=λhk=>by
      rw[<-J7i (λt ht=>hag t (Pc ht))];exact hk
     refine Jww (K:=λs' h' n'=>∃r,s'=Xt sm ao.d r/\(Y6 h h'\/∀j∈dn,j∈rs->Yu ls j=true\/∃oj,aos[j]? = some oj/\keepL s h h' oj.op)/\Yp P (build aos (Uq ops) rs f (i::dn)) (Xt s ao.d r) h' n' K) ops hcomp hrel ?_ ?_
     ·cases hgd:ao.g with
      |none=>
       rw[hgd]at hw3
       exact Jas hgd (Fm (run hw3) λr h' n' hk=>⟨r,rfl,hk.1,hk.2⟩)
      |some p=>
       obtain⟨q,want⟩:=p;rw[hgd]at hw3;simp only at hw3;have hq:=hag q (Re hgd);simp only[Qm,hgd];rw[<-hq];split at hw3
       ·rename_i b hb;try simp only[hb]
        refine⟨λe=>?_,λe=>?_⟩
        ·have:=hw3.1 e;rw[I5 (by rw[<-hq,hb,e])];exact Fm (run this) λr h' n' hk=>⟨r,rfl,hk.1,hk.2⟩
        ·have:=hw3.2 e;rw[I5 (by rw[<-hq,hb,e])];exact⟨_,rfl,.inl (Y6.refl _),this⟩
       ·rename_i hb;try simp only[hb]
        exact⟨_,rfl,.inl (Y6.refl _),hw3⟩
       ·exact hw3.elim
     ·rintro s' h' n' a' w' hrel' ⟨r,rfl,he,hw'⟩;exact hgo r h' n' a' w' hrel' he hw'
theorem J9x{t:DT}{id:Nat}{s:Jm}{h:J8}{n:Nat}{a:Act}{w:World}{Q:Exit->Act->World->Prop}(hd:Jll bx P nt ops=some t)(hr:Q0 base w0 w1 L1 n1 nt s h n a w)(hK:Yp P t s h n K)
 (hQ:∀s h n a w,Q0 base w0 w1 L1 n1 nt s h n a w->K s h n->Q .normal a w):(Code.region id ops true).wp P Q a w:=by
 unfold Jll at hd;split at hd
 ·rename_i hm;simp only[Option.bind_eq_some_iff]at hd;obtain⟨aos,hos,hd⟩:=hd;split at hd
  ·rename_i hchk;cases hd;have hc:=N4.of hchk;have hlen:aos.length=ops.size:=by rw[(Mg hos).1];simp
   refine wp_region_any hm ?_;have hl0:∀i,Yu (Array.replicate ops.size false) i=false:=λi=>by simp[Yu,Array.getD]
   have I:Eh P base w0 w1 L1 n1 nt ops aos _ K (Array.replicate ops.size false) a { w with drawn:=w.drawn+1 } (aos.length+1) [] s h n:=
    ⟨by simp[hlen],⟨s,hr.drawn,λt=>.inl rfl⟩,(λi hi=>by rw[hl0]at hi;cases hi),(λ_ _ _ h=>by cases h),(λi hi=>by rw[hl0]at hi;cases hi),(λ_ h=>by cases h),(λ_ h=>by cases h),(λ_ h=>by cases h),hK⟩
   obtain⟨f',dn',s',I2,hg2⟩:=I.greedy hc;refine Jj5 hos hc hQ _ _ _ _ f' dn' s' h n I2 hg2 ?_;unfold Mo;refine Nat.le_trans List.countP_le_length ?_;simp[hlen]
  ·cases hd
 ·cases hd
end
end Go.Proofs.YtoclolkigjbcgaaGreat

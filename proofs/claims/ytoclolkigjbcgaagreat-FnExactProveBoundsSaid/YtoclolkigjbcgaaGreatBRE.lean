/- R40-R43 -/
import Derived.Test.YtoclolkigjbcgaaGreatBT1
namespace Go.Proofs.YtoclolkigjbcgaaGreat
set_option linter.all false
open Go Go.RowKit
mutual
def dS:AV->Nat->AV×List Yd
 | .us sz rows,n=>(.ref n 0 rows.length,⟨true,sz,(Wo rows (n+1)).1⟩::(Wo rows (n+1)).2)
 | .agg cs,n=>(.agg (Ug cs n).1,(Ug cs n).2)
 | .tup cs,n=>(.tup (Ug cs n).1,(Ug cs n).2)
 |a,_=>(a,[])
def Ug:List AV->Nat->List AV×List Yd
 | [],_=>([],[])
 |a::as,n=>((dS a n).1::(Ug as (n+(dS a n).2.length)).1,(dS a n).2++(Ug as (n+(dS a n).2.length)).2)
def Wo:List (List AV)->Nat->List (List AV)×List Yd
 | [],_=>([],[])
 |r::rs,n=>((Ug r n).1::(Wo rs (n+(Ug r n).2.length)).1,(Ug r n).2++(Wo rs (n+(Ug r n).2.length)).2)
end
theorem J4v:∀(as:List AV) (n:Nat),(Ug as n).1.length=as.length
 | [],_=>rfl
 |a::as,n=>by simp[Ug,J4v as]
theorem J1i:∀(rs:List (List AV)) (n:Nat),(Wo rs n).1.length=rs.length
 | [],_=>rfl
 |r::rs,n=>by simp[Wo,J1i rs]
theorem J9k:∀(rs:List (List AV)) (n:Nat),∀r'∈(Wo rs n).1,∃r∈rs,r'.length=r.length
 | [],_,r',h=>by simp[Wo]at h
 |r::rs,n,r',h=>by
  simp only[Wo,List.mem_cons]at h;rcases h with rfl|h
  ·exact⟨r,by simp,J4v r n⟩
  ·obtain⟨x,hx,e⟩:=J9k rs _ r' h;exact⟨x,by simp[hx],e⟩
mutual
def TR(h:J8):AV->AV->List Nat->Prop
 | .us sz rows,a,I=>∃id rows' I',a = .ref id 0 rows.length/\I=id::I'/\h id=some ⟨true,sz,rows'⟩/\Ww h rows rows' I'
 | .agg cs,a,I=>∃cs',a = .agg cs'/\Y1 h cs cs' I
 | .tup cs,a,I=>∃cs',a = .tup cs'/\Y1 h cs cs' I
 | .int k n,a,I=>a = .int k n/\I=[]
 | .bool b,a,I=>a = .bool b/\I=[]
 | .str s,a,I=>a = .str s/\I=[]
 | .nilp,a,I=>a = .nilp/\I=[]
 |_,_,_=>False
def Y1(h:J8):List AV->List AV->List Nat->Prop
 | [],as,I=>as=[]/\I=[]
 |c::cs,as,I=>∃a as' I1 I2,as=a::as'/\I=I1++I2/\TR h c a I1/\Y1 h cs as' I2
def Ww(h:J8):List (List AV)->List (List AV)->List Nat->Prop
 | [],rs,I=>rs=[]/\I=[]
 |r::rows,rs,I=>∃a rs' I1 I2,rs=a::rs'/\I=I1++I2/\Y1 h r a I1/\Ww h rows rs' I2
end
section
variable {h h':J8}
mutual
theorem Mf:∀(t:AV) {a:AV}{I:List Nat},(∀id∈I,h' id=h id)->TR h t a I->TR h' t a I
 | .us sz rows,a,I,hf,ht=>by
  simp only[TR]at ht⊢;obtain⟨id,rows',I',e1,rfl,e2,e3⟩:=ht
  exact⟨id,rows',I',e1,rfl,(hf id (by simp)).trans e2,J2n rows (λid hi=>hf id (by simp[hi])) e3⟩
 | .agg cs,a,I,hf,ht=>by
  simp only[TR]at ht⊢;obtain⟨cs',e1,e2⟩:=ht
  exact⟨cs',e1,N5 cs hf e2⟩
 | .tup cs,a,I,hf,ht=>by
  simp only[TR]at ht⊢;obtain⟨cs',e1,e2⟩:=ht
  exact⟨cs',e1,N5 cs hf e2⟩
 | .int ..,_,_,_,ht | .bool _,_,_,_,ht | .str _,_,_,_,ht | .nilp,_,_,_,ht=>by simpa only[TR]using ht
 | .undef,_,_,_,ht | .nil _,_,_,_,ht | .ptr ..,_,_,_,ht | .fptr ..,_,_,_,ht | .ref ..,_,_,_,ht | .sl ..,_,_,_,ht | .fn ..,_,_,_,ht | .mp _,_,_,_,ht=>by simp only[TR]at ht
theorem N5:∀(ts:List AV) {as:List AV}{I:List Nat},(∀id∈I,h' id=h id)->Y1 h ts as I->Y1 h' ts as I
 | [],as,I,hf,ht=>by simpa only[Y1]using ht
 |t::ts,as,I,hf,ht=>by simp only[Y1]at ht⊢;obtain⟨a,as',I1,I2,e1,rfl,e2,e3⟩:=ht;exact⟨a,as',I1,I2,e1,rfl,Mf t (λid hi=>hf id (by simp[hi])) e2,N5 ts (λid hi=>hf id (by simp[hi])) e3⟩
theorem J2n:∀(ts:List (List AV)) {as:List (List AV)}{I:List Nat},(∀id∈I,h' id=h id)->Ww h ts as I->Ww h' ts as I
 | [],as,I,hf,ht=>by simpa only[Ww]using ht
 |t::ts,as,I,hf,ht=>by simp only[Ww]at ht⊢;obtain⟨a,as',I1,I2,e1,rfl,e2,e3⟩:=ht;exact⟨a,as',I1,I2,e1,rfl,N5 t (λid hi=>hf id (by simp[hi])) e2,J2n ts (λid hi=>hf id (by simp[hi])) e3⟩
end
theorem J1q:∀{ts as:List AV}{I:List Nat},Y1 h ts as I->as.length=ts.length
 | [],as,I,ht=>by simp only[Y1]at ht;rw[ht.1]
 |t::ts,as,I,ht=>by simp only[Y1]at ht;obtain⟨a,as',I1,I2,rfl,_,_,e3⟩:=ht;simp[J1q e3]
theorem J4b:∀{ts as:List (List AV)}{I:List Nat},Ww h ts as I->as.length=ts.length
 | [],as,I,ht=>by simp only[Ww]at ht;rw[ht.1]
 |t::ts,as,I,ht=>by simp only[Ww]at ht;obtain⟨a,as',I1,I2,rfl,_,_,e3⟩:=ht;simp[J4b e3]
theorem J9g:∀{ts as:List (List AV)}{I:List Nat},Ww h ts as I->∀r∈ts,∃r'∈as,r'.length=r.length
 | [],as,I,ht,r,hr=>by simp at hr
 |t::ts,as,I,ht,r,hr=>by
  simp only[Ww]at ht;obtain⟨a,as',I1,I2,rfl,_,e2,e3⟩:=ht;rcases List.mem_cons.1 hr with rfl|hr
  ·exact⟨a,by simp,J1q e2⟩
  ·obtain⟨r',h1,h2⟩:=J9g e3 r hr;exact⟨r',by simp[h1],h2⟩
theorem J6c:∀{ts as:List (List AV)}{I:List Nat}{i:Nat}{t:List AV},Ww h ts as I->ts[i]? = some t ->
 ∃a I1 I2 I3,as[i]? = some a/\I=I1++(I2++I3)/\Y1 h t a I2 /\
  ∀(h':J8) t' a',(∀id∈I1++I3,h' id=h id)->Y1 h' t' a' I2->Ww h' (ts.set i t') (as.set i a') I
 | [],as,I,i,t,ht,hi=>by simp at hi
 |x::ts,as,I,i,t,ht,hi=>by
  simp only[Ww]at ht;obtain⟨a,as',J1,J2,rfl,rfl,e2,e3⟩:=ht
  cases i with
  |zero=>
   simp only[List.getElem?_cons_zero,Option.some.injEq]at hi;subst hi;refine⟨a,[],J1,J2,rfl,rfl,e2,?_⟩;intro h' t' a' hf ht';simp only[List.set_cons_zero,Ww]
   exact⟨a',as',J1,J2,rfl,rfl,ht',J2n ts (λid hi=>hf id (by simpa using hi)) e3⟩
  |succ i=>
   simp only[List.getElem?_cons_succ]at hi;obtain⟨b,I1,I2,I3,g1,rfl,g3,g4⟩:=J6c e3 hi;refine⟨b,J1++I1,I2,I3,by simpa using g1,by simp,g3,?_⟩;intro h' t' a' hf ht';simp only[List.set_cons_succ,Ww];exact⟨a,_,J1,_,rfl,rfl,N5 x (λid hi=>hf id (by simp[hi])) e2,g4 h' t' a' (λid hi=>hf id (by simp at hi⊢;rcases hi with hi|hi <;>simp[hi])) ht'⟩
end
def C6:K0->List Nat
 | .at b _ _=>[b]
 | .none=>[]
structure DD (w:World) (bs:List Yd) (ls:List K0) (S:List Nat) (n:Nat):Prop where
 len:ls.length=bs.length
 S:S=(ls.map C6).flatten
 brel:∀(L:Nat->Option K0) (n':Nat),n+bs.length<=n'->(∀(i:Nat) l,ls[i]? = some l->L (n+i)=some l)->∀(i:Nat) B l,bs[i]? = some B->ls[i]? = some l->V2 w L n' B l []
theorem DD.nil (w:World) (n:Nat):DD w [] [] [] n:=⟨rfl,rfl,by simp⟩
theorem DD.append {w:World}{bs bs':List Yd}{ls ls':List K0}{S S':List Nat}{n:Nat}(d:DD w bs ls S n) (d':DD w bs' ls' S' (n+bs.length)) :
 DD w (bs++bs') (ls++ls') (S++S') n:=by
 refine⟨by simp[d.len,d'.len],by simp[d.S,d'.S],?_⟩;intro L n' hn hL i B l hB hl;simp only[List.length_append]at hn;by_cases hi:i<bs.length
 ·rw[List.getElem?_append_left hi]at hB;rw[List.getElem?_append_left (by rw[d.len];exact hi)]at hl;refine d.brel L n' (by omega) (λj l' hj=>hL j l' ?_) i B l hB hl;rw[List.getElem?_append_left (List.getElem?_eq_some_iff.1 hj).1];exact hj
 ·rw[List.getElem?_append_right (by omega)]at hB;rw[List.getElem?_append_right (by rw[d.len];omega),d.len]at hl;refine d'.brel L n' (by omega) (λj l' hj=>?_) _ B l hB hl;have:=hL (bs.length+j) l' (by rw[List.getElem?_append_right (by rw[d.len];omega),d.len,Nat.add_sub_cancel_left];exact hj);rw[<-this];congr 1;omega
section
variable {w:World}
mutual
theorem Jcq:∀(r:AV) (n:Nat) (v:Value) (S:List Nat),Xi r=true->VR w Lo 0 r v S ->
 ∃ls,DD w (dS r n).2 ls S n/\∀(L:Nat->Option K0) (n':Nat),n+(dS r n).2.length<=n'->(∀(i:Nat) l,ls[i]? = some l->L (n+i)=some l)->VR w L n' (dS r n).1 v []
 | .undef,_,_,_,c,_ | .nil _,_,_,_,c,_ | .ptr ..,_,_,_,c,_ | .fptr ..,_,_,_,c,_ | .ref ..,_,_,_,c,_ | .sl ..,_,_,_,c,_ | .fn ..,_,_,_,c,_ | .mp ..,_,_,_,c,_=>by simp[Xi]at c
 | .int ..,n,v,S,c,h=>by
  simp only[VR]at h;obtain⟨rfl,rfl⟩:=h
  exact⟨[],DD.nil w n,λL n' _ _=>by simp[dS,VR]⟩
 | .bool _,n,v,S,c,h=>by
  simp only[VR]at h;obtain⟨rfl,rfl⟩:=h
  exact⟨[],DD.nil w n,λL n' _ _=>by simp[dS,VR]⟩
 | .str _,n,v,S,c,h=>by
  simp only[VR]at h;obtain⟨h1,rfl⟩:=h
  exact⟨[],DD.nil w n,λL n' _ _=>by simp only[dS,VR];exact⟨h1,trivial⟩⟩
 | .nilp,n,v,S,c,h=>by
  simp only[VR]at h;obtain⟨rfl,rfl⟩:=h
  exact⟨[],DD.nil w n,λL n' _ _=>by simp[dS,VR]⟩
 | .us sz rows,n,v,S,c,h=>by
  simp only[VR,Xi]at h c;obtain⟨hl,h⟩:=h;rcases h with ⟨rfl,rfl,rfl⟩|⟨b,cap,cur,t,vals,rest,S',rfl,rfl,ho,hb,h1,h2,h3,h4,h5,h6,h6',h7⟩
  ·refine⟨[.none],⟨rfl,rfl,?_⟩,?_⟩
   ·intro L n' hn hL i B l g1 g2
    cases i with
    |zero=>simp only[dS,Wo,List.getElem?_cons_zero,Option.some.injEq]at g1 g2;subst g1 g2;exact⟨rfl,rfl⟩
    |succ i=>simp[dS,Wo]at g1
   ·intro L n' hn hL;have hL0:L n=some .none:=hL 0 _ rfl;simp only[dS,VR];refine⟨⟨by simp[dS]at hn;omega,rfl,?_⟩,trivial⟩;intro l hl';rw[hL0]at hl';cases hl';exact⟨Nat.zero_le _,rfl,rfl,rfl⟩
  ·obtain⟨ls,d,k⟩:=Jag rows (n+1) vals S' c h7;refine⟨.at b sz cap::ls,⟨by simp[dS,d.len],by simp[C6,d.S],?_⟩,?_⟩
   ·intro L n' hn hL i B l g1 g2;simp only[dS,List.length_cons]at hn
    have hL':∀(i:Nat) l,ls[i]? = some l->L (n+1+i)=some l:=λi l hi=>by have:=hL (i+1) l (by simpa using hi);rw[<-this];congr 1;omega
    cases i with
    |zero=>
     simp only[dS,List.getElem?_cons_zero,Option.some.injEq]at g1 g2;subst g1 g2;refine V2.of ⟨rfl,λ_=>rfl,cur,t,vals,rest,hb,h1,h2,h3,h5,by rw[J1i];exact h4,by rw[J1i];exact hl,?_,h6',?_⟩
     ·intro r hr;obtain⟨x,hx,e⟩:=J9k _ _ r hr;rw[e];exact h6 x hx
     ·simp only[if_true]
      exact k L n' (by omega) hL'
    |succ i=>
     simp only[dS,List.getElem?_cons_succ]at g1 g2;exact d.brel L n' (by omega) hL' i B l g1 g2
   ·intro L n' hn hL;have hL0:L n=some (.at b sz cap):=hL 0 _ rfl;simp only[dS,VR];refine⟨⟨by simp[dS]at hn;omega,rfl,?_⟩,trivial⟩;intro l hl';rw[hL0]at hl';cases hl'
    exact⟨hl,some ⟨b,0,Option.none⟩,by simp,by simp,by omega⟩
 | .agg cs,n,v,S,c,h=>by
  simp only[VR,Xi]at h c;obtain⟨vs,rfl,h⟩:=h;obtain⟨ls,h1,h2⟩:=Pu cs n _ _ c h
  exact⟨ls,h1,λL n' hn hL=>by simp only[dS,VR];exact⟨vs,rfl,h2 L n' hn hL⟩⟩
 | .tup cs,n,v,S,c,h=>by simp only[VR,Xi]at h c;obtain⟨vs,rfl,h⟩:=h;obtain⟨ls,h1,h2⟩:=Pu cs n _ _ c h;exact⟨ls,h1,λL n' hn hL=>by simp only[dS,VR];exact⟨vs,rfl,h2 L n' hn hL⟩⟩
theorem Pu:∀(rs:List AV) (n:Nat) (vs:List Value) (S:List Nat),Us rs=true->Jx w Lo 0 rs vs S ->
 ∃ls,DD w (Ug rs n).2 ls S n/\∀(L:Nat->Option K0) (n':Nat),n+(Ug rs n).2.length<=n'->(∀(i:Nat) l,ls[i]? = some l->L (n+i)=some l)->Jx w L n' (Ug rs n).1 vs []
 | [],n,vs,S,c,h=>by
  simp only[Jx]at h;obtain⟨rfl,rfl⟩:=h
  exact⟨[],DD.nil w n,λL n' _ _=>by simp[Ug,Jx]⟩
 |a::as,n,vs,S,c,h=>by
  simp only[Us,Bool.and_eq_true]at c;simp only[Jx]at h;obtain⟨v,vs',S1,S2,rfl,rfl,h1,h2⟩:=h;obtain⟨l1,d1,k1⟩:=Jcq a n v S1 c.1 h1;obtain⟨l2,d2,k2⟩:=Pu as (n+(dS a n).2.length) vs' S2 c.2 h2;refine⟨l1++l2,d1.append d2,?_⟩;intro L n' hn hL;simp only[Ug,List.length_append]at hn;simp only[Ug];refine V1.2 ⟨v,vs',rfl,k1 L n' (by omega) ?_,k2 L n' (by omega) ?_⟩
  ·intro i p hp;refine hL i p ?_;rw[List.getElem?_append_left (List.getElem?_eq_some_iff.1 hp).1];exact hp
  ·intro i p hp;have:=hL ((dS a n).2.length+i) p (by rw[<-d1.len,List.getElem?_append_right (by omega),Nat.add_sub_cancel_left];exact hp);rw[<-this];congr 1;omega
theorem Jag:∀(rs:List (List AV)) (n:Nat) (vs:List Value) (S:List Nat),Wc rs=true->X4 w Lo 0 rs vs S ->
 ∃ls,DD w (Wo rs n).2 ls S n/\∀(L:Nat->Option K0) (n':Nat),n+(Wo rs n).2.length<=n'->(∀(i:Nat) l,ls[i]? = some l->L (n+i)=some l)->X4 w L n' (Wo rs n).1 vs []
 | [],n,vs,S,c,h=>by
  simp only[X4]at h;obtain⟨rfl,rfl⟩:=h
  exact⟨[],DD.nil w n,λL n' _ _=>by simp[Wo,X4]⟩
 |a::as,n,vs,S,c,h=>by
  simp only[Wc,Bool.and_eq_true]at c;simp only[X4]at h;obtain⟨v,vs',S1,S2,rfl,rfl,h1,h2⟩:=h;obtain⟨l1,d1,k1⟩:=Pu a n v S1 c.1 h1;obtain⟨l2,d2,k2⟩:=Jag as (n+(Ug a n).2.length) vs' S2 c.2 h2;refine⟨l1++l2,d1.append d2,?_⟩;intro L n' hn hL;simp only[Wo,List.length_append]at hn;simp only[Wo,X4];refine⟨v,vs',[],[],rfl,rfl,k1 L n' (by omega) ?_,k2 L n' (by omega) ?_⟩
  ·intro i p hp;refine hL i p ?_;rw[List.getElem?_append_left (List.getElem?_eq_some_iff.1 hp).1];exact hp
  ·intro i p hp;have:=hL ((Ug a n).2.length+i) p (by rw[<-d1.len,List.getElem?_append_right (by omega),Nat.add_sub_cancel_left];exact hp);rw[<-this];congr 1;omega
end
end
def Dk(h:J8)(n:Nat)(bs:List Yd):J8:=λid=>if n<=id then(match bs[id - n]? with|some B=>some B|Option.none=>h id)else h id
theorem K1.takeD {base:Nat}{w0 w1 w:World}{L:Nat->Option K0}{N:Nat}{F:Nat->List Nat}{h:J8}{r:AV}{v:Value}{S:List Nat}
 (H:K1 base w0 w1 L N F [] h) (hb:Below w1.heap.size w1 w) (hc:Xi r=true) (hv:VR w Lo 0 r v S) (hn:S.Nodup) (hS:∀b∈S,w1.heap.size<=b/\b<w.heap.size) :
 ∃L' F',K1 base w0 w L' (N+(dS r N).2.length) F' [] (Dk h N (dS r N).2)/\VR w L' (N+(dS r N).2.length) (dS r N).1 v []/\Xa w1 L N w L' (N+(dS r N).2.length):=by
 obtain⟨ls,d,k⟩:=Jcq r N v S hc hv;generalize hbs:(dS r N).2=bs at *
 let L':Nat->Option K0:=λid=>if N<=id then(match ls[id - N]? with|some p=>some p|Option.none=>L id)else L id
 let F':Nat->List Nat:=λid=>if N<=id then []else F id
 have hLN:∀id,N<=id->L id=Option.none:=λid hid=>by
  cases hl:L id with
  |none=>rfl
  |some l=>exact absurd (H.lt id l hl) (by omega)
 have Lold:∀id,id<N->L' id=L id:=λid hid=>by show(if N<=id then _ else _)=_;rw[if_neg (by omega)]
 have Fold:∀id,id<N->F' id=F id:=λid hid=>by show(if N<=id then _ else _)=_;rw[if_neg (by omega)]
 have Lnew:∀(i:Nat) p,ls[i]? = some p->L' (N+i)=some p:=λi p hp=>by show(if N<=N+i then _ else _)=_;rw[if_pos (by omega),Nat.add_sub_cancel_left,hp]
 have Fcase:∀id b,b∈F' id->id<N/\b∈F id:=λid b hm=>by
  by_cases hid:N<=id
  ·have:F' id=[]:=by show(if N<=id then _ else _)=_;rw[if_pos hid]
   rw[this]at hm;cases hm
  ·rw[Fold id (by omega)]at hm;exact⟨by omega,hm⟩
 have Lcase:∀id l,L' id=some l->(id<N/\L id=some l)\/∃i:Nat,id=N+i/\ls[i]? = some l:=λid l hl=>by
  by_cases hid:N<=id
  ·cases hp:ls[id - N]? with
   |none=>
    have:L' id=L id:=by show(if N<=id then _ else _)=_;rw[if_pos hid,hp]
    rw[this,hLN id hid]at hl;cases hl
   |some p=>
    right;have:=Lnew (id - N) p hp;rw[show N+(id - N)=id by omega]at this;rw[this]at hl;cases hl;exact⟨id - N,by omega,hp⟩
  ·left;rw[Lold id (by omega)]at hl;exact⟨by omega,hl⟩
 have hnd:(ls.map C6).flatten.Nodup:=d.S ▸ hn
 have hatb:∀(i b sz cap:Nat),ls[i]? = some (K0.at b sz cap)->b∈S:=λi b sz cap hp=>by rw[d.S];exact List.mem_flatten.2 ⟨C6 (.at b sz cap),List.mem_map.2 ⟨_,List.mem_of_getElem? hp,rfl⟩,by simp[C6]⟩
 have ownL':∀b,Um L' b->Um L b\/b∈S:=by
  rintro b ⟨id,sz,cap,hid⟩;rcases Lcase id _ hid with ⟨_,hl⟩|⟨i,rfl,hp⟩
  ·exact .inl ⟨id,sz,cap,hl⟩
  ·exact .inr (hatb i b sz cap hp)
 have e:Xa w1 L N w L' (N+bs.length):=by
  refine⟨by omega,?_,hb.size,?_⟩
  ·intro id l hid hl;rw[Lold id hid]at hl;exact hl
  ·intro b hlt ho;refine⟨hb.block b hlt,λh'=>?_⟩;rcases ownL' b h' with h'|h'
   ·exact ho h'
   ·have:=(hS b h').1;omega
 have hlen:=d.len;refine⟨L',F',⟨H.below.trans (hb.mono H.bsz),Nat.le_trans H.bsz hb.size,?_,?_,?_,?_,?_,?_,?_,by simp,?_,List.nodup_nil,?_,by simp⟩,k L' _ (Nat.le_refl _) Lnew,e⟩
 ·intro id hid;unfold Dk at hid;by_cases hN:N<=id
  ·rw[if_pos hN]at hid
   cases hr:bs[id - N]? with
   |none=>
    rw[hr]at hid;have hls:ls[id - N]? = Option.none:=by rw[List.getElem?_eq_none_iff]at hr⊢;omega
    show(if N<=id then _ else _)=_
    rw[if_pos hN,hls];exact hLN id hN
   |some r'=>rw[hr]at hid;cases hid
  ·rw[if_neg hN]at hid;rw[Lold id (by omega)];exact H.dom id hid
 ·intro id hid;unfold Dk;by_cases hN:N<=id
  ·rw[if_pos hN]
   cases hr:bs[id - N]? with
   |none=>exact H.mod id (hLN id hN)
   |some r'=>
    have:id - N<ls.length:=by rw[hlen];exact(List.getElem?_eq_some_iff.1 hr).1
    have:=Lnew (id - N) _ (List.getElem?_eq_getElem this);rw[show N+(id - N)=id by omega,hid]at this;cases this
  ·rw[if_neg hN];rw[Lold id (by omega)]at hid;exact H.mod id hid
 ·intro id l hl;rcases Lcase id l hl with ⟨h1,_⟩|⟨i,rfl,hp⟩
  ·omega
  ·have:=(List.getElem?_eq_some_iff.1 hp).1;omega
 ·intro id id' b sz cap sz' cap' h1 h2;rcases Lcase id _ h1 with ⟨_,h1⟩|⟨i,rfl,hp⟩
  ·rcases Lcase id' _ h2 with ⟨_,h2⟩|⟨i',rfl,hp'⟩
   ·exact H.inj id id' b _ _ _ _ h1 h2
   ·have g1:=H.own_lt ⟨id,sz,cap,h1⟩;have g2:=(hS b (hatb i' b sz' cap' hp')).1;omega
  ·rcases Lcase id' _ h2 with ⟨_,h2⟩|⟨i',rfl,hp'⟩
   ·have g1:=H.own_lt ⟨id',sz',cap',h2⟩;have g2:=(hS b (hatb i b sz cap hp)).1;omega
   ·rw[Rt hnd i i' b _ _ (by rw[List.getElem?_map,hp];rfl) (by rw[List.getElem?_map,hp'];rfl) (by simp[C6]) (by simp[C6])]
 ·intro b ho;rcases ownL' b ho with h'|h'
  ·exact H.lo b h'
  ·exact Nat.le_trans H.bsz (hS b h').1
 ·intro id B l h1 h2;rcases Lcase id l h2 with ⟨hid,hl⟩|⟨i,rfl,hp⟩
  ·unfold Dk at h1;rw[if_neg (by omega)]at h1;rw[Fold id hid];exact(H.blk id B l h1 hl).ext e λb sz cap hl'=>hb.block b (H.own_lt ⟨id,sz,cap,hl' ▸ hl⟩)
  ·have hF:F' (N+i)=[]:=by show(if N<=N+i then _ else _)=_;rw[if_pos (by omega)]
   rw[hF];unfold Dk at h1;rw[if_pos (by omega),Nat.add_sub_cancel_left]at h1;have hi:i<bs.length:=by have:=(List.getElem?_eq_some_iff.1 hp).1;omega
   rw[List.getElem?_eq_getElem hi]at h1;simp only[Option.some.injEq]at h1;subst h1;exact d.brel L' _ (Nat.le_refl _) Lnew i _ l (List.getElem?_eq_getElem hi) hp
 ·intro id b hm;obtain⟨_,h1⟩:=Fcase id b hm;obtain⟨g1,g2,g3⟩:=H.fp id b h1;exact⟨(e.block b g3 g1).2,g2,Nat.lt_of_lt_of_le g3 hb.size⟩
 ·intro id;by_cases hid:N<=id
  ·have:F' id=[]:=by show(if N<=id then _ else _)=_;rw[if_pos hid]
   rw[this];exact List.nodup_nil
  ·rw[Fold id (by omega)];exact H.nd id
 ·intro id id' b h1 h2;exact H.dj id id' b (Fcase id b h1).2 (Fcase id' b h2).2
section
variable {h:J8}
mutual
theorem Jq1:∀(r:AV) (n:Nat),Xi r=true->(∀(i:Nat) B,(dS r n).2[i]? = some B->h (n+i)=some B)->TR h r (dS r n).1 (List.range' n (dS r n).2.length)
 | .undef,_,c,_ | .nil _,_,c,_ | .ptr ..,_,c,_ | .fptr ..,_,c,_ | .ref ..,_,c,_ | .sl ..,_,c,_ | .fn ..,_,c,_ | .mp ..,_,c,_=>by simp[Xi]at c
 | .int ..,n,c,hh | .bool _,n,c,hh | .str _,n,c,hh | .nilp,n,c,hh=>by simp[dS,TR]
 | .us sz rows,n,c,hh=>by
  simp only[Xi]at c;simp only[dS,TR,List.length_cons];refine⟨n,(Wo rows (n+1)).1,List.range' (n+1) (Wo rows (n+1)).2.length,rfl,by rw[List.range'_succ],by simpa using hh 0 _ (by simp[dS]),Jj7 rows (n+1) c ?_⟩;intro i B hB;have:=hh (i+1) B (by simpa[dS]using hB)
  rw[<-this];congr 1;omega
 | .agg cs,n,c,hh=>by
  simp only[Xi]at c;simp only[dS,TR]
  exact⟨_,rfl,P8 cs n c (by simpa only[dS]using hh)⟩
 | .tup cs,n,c,hh=>by simp only[Xi]at c;simp only[dS,TR];exact⟨_,rfl,P8 cs n c (by simpa only[dS]using hh)⟩
theorem P8:∀(rs:List AV) (n:Nat),Us rs=true->(∀(i:Nat) B,(Ug rs n).2[i]? = some B->h (n+i)=some B)->Y1 h rs (Ug rs n).1 (List.range' n (Ug rs n).2.length)
 | [],n,c,hh=>by simp[Ug,Y1]
 |a::as,n,c,hh=>by
  simp only[Us,Bool.and_eq_true]at c;simp only[Ug,Y1];refine⟨_,_,List.range' n (dS a n).2.length,List.range' (n+(dS a n).2.length) (Ug as (n+(dS a n).2.length)).2.length,rfl,?_,Jq1 a n c.1 ?_,P8 as _ c.2 ?_⟩
  ·rw[List.length_append,List.range'_append_1]
  ·intro i B hB;refine hh i B ?_;simp only[Ug];rw[List.getElem?_append_left (List.getElem?_eq_some_iff.1 hB).1];exact hB
  ·intro i B hB;have:=hh ((dS a n).2.length+i) B (by simp only[Ug];rw[List.getElem?_append_right (by omega),Nat.add_sub_cancel_left];exact hB);rw[<-this];congr 1;omega
theorem Jj7:∀(rs:List (List AV)) (n:Nat),Wc rs=true->(∀(i:Nat) B,(Wo rs n).2[i]? = some B->h (n+i)=some B)->Ww h rs (Wo rs n).1 (List.range' n (Wo rs n).2.length)
 | [],n,c,hh=>by simp[Wo,Ww]
 |a::as,n,c,hh=>by
  simp only[Wc,Bool.and_eq_true]at c;simp only[Wo,Ww];refine⟨_,_,List.range' n (Ug a n).2.length,List.range' (n+(Ug a n).2.length) (Wo as (n+(Ug a n).2.length)).2.length,rfl,?_,P8 a n c.1 ?_,Jj7 as _ c.2 ?_⟩
  ·rw[List.length_append,List.range'_append_1]
  ·intro i B hB;refine hh i B ?_;simp only[Wo];rw[List.getElem?_append_left (List.getElem?_eq_some_iff.1 hB).1];exact hB
  ·intro i B hB;have:=hh ((Ug a n).2.length+i) B (by simp only[Wo];rw[List.getElem?_append_right (by omega),Nat.add_sub_cancel_left];exact hB);rw[<-this];congr 1;omega
end
end
section
variable {base:Nat}{w0 w:World}{L:Nat->Option K0}{N:Nat}{F:Nat->List Nat}{E:List Nat}{h:J8}
mutual
theorem Jd7(H:K1 base w0 w L N F E h):∀(t:AV) {a:AV}{I:List Nat}{v:Value}{M:Nat},TR h t a I->VR w L M a v []->VR w Lo 0 (dr t) v []
 | .undef,_,_,_,_,ht,_ | .nil _,_,_,_,_,ht,_ | .ptr ..,_,_,_,_,ht,_ | .fptr ..,_,_,_,_,ht,_ | .ref ..,_,_,_,_,ht,_ | .sl ..,_,_,_,_,ht,_ | .fn ..,_,_,_,_,ht,_ | .mp _,_,_,_,_,ht,_=>by simp only[TR]at ht
 | .int ..,a,I,v,M,ht,hv=>by simp only[TR]at ht;obtain⟨rfl,_⟩:=ht;simpa only[VR,dr]using hv
 | .bool _,a,I,v,M,ht,hv=>by simp only[TR]at ht;obtain⟨rfl,_⟩:=ht;simpa only[VR,dr]using hv
 | .str _,a,I,v,M,ht,hv=>by simp only[TR]at ht;obtain⟨rfl,_⟩:=ht;simpa only[VR,dr]using hv
 | .nilp,a,I,v,M,ht,hv=>by simp only[TR]at ht;obtain⟨rfl,_⟩:=ht;simpa only[VR,dr]using hv
 | .agg cs,a,I,v,M,ht,hv=>by
  simp only[TR]at ht;obtain⟨cs',rfl,ht⟩:=ht;simp only[VR,dr]at hv⊢;obtain⟨vs,rfl,hv⟩:=hv
  exact⟨vs,rfl,Re H cs ht hv⟩
 | .tup cs,a,I,v,M,ht,hv=>by
  simp only[TR]at ht;obtain⟨cs',rfl,ht⟩:=ht;simp only[VR,dr]at hv⊢;obtain⟨vs,rfl,hv⟩:=hv
  exact⟨vs,rfl,Re H cs ht hv⟩
 | .us sz rows,a,I,v,M,ht,hv=>by
  simp only[TR]at ht;obtain⟨id,rows',I',rfl,rfl,hB,hR⟩:=ht;have hlr:=J4b hR;have hlenT:(Yh rows).length=rows.length:=by rw[V7];simp
  cases hl:L id with
  |none=>rw[H.mod id hl]at hB;cases hB
  |some l=>
   simp only[VR]at hv;have hr:=hv.1.2.2 l hl;have hbr:=H.blk id _ l hB hl
   cases l with
   |none=>
    obtain⟨hrows,_⟩:=hbr;simp only at hrows;obtain⟨_,_,hl0,rfl⟩:=hr;have hr0:rows=[]:=List.eq_nil_of_length_eq_zero hl0;subst hr0;simp only[VR,dr,Yh]
    exact⟨⟨_,_,[],rfl,⟨Nat.zero_le _,Nat.le_refl _⟩,⟨rfl,rfl⟩,.inl trivial⟩,trivial⟩
   | «at» b sz' cap=>
    obtain⟨hlim,A,rfl,hA,hcap⟩:=hr;obtain⟨rfl,hF,cur,t,vals,rest,h1,h2,h3,h4,h5,h6,h7,h8,h9,h10⟩:=hbr.cells hcap.2;simp only[if_true]at h10;rw[hF rfl]at h10;have g:=Jae H rows hR h10;simp only[VR,dr,hlenT];refine⟨⟨A,_,vals,rfl,⟨hlim,by omega⟩,g,?_⟩,trivial⟩;right;refine⟨b,0,by simpa using hA (.inr rfl),Ed b,Ov h1,?_,?_,h9⟩
    ·intro r hr;rw[V7]at hr;obtain⟨r',hr',rfl⟩:=List.mem_map.1 hr;rw[E2,List.length_map];obtain⟨x,hx,e⟩:=J9g hR r' hr';rw[<-e];exact h8 x hx
    ·exact Fk (pre:=[]) (vals:=vals) (rest:=rest) h1 (by rw[h2];simp)
theorem Re(H:K1 base w0 w L N F E h):∀(ts:List AV) {as:List AV}{I:List Nat}{vs:List Value}{M:Nat},Y1 h ts as I->Jx w L M as vs []->Jx w Lo 0 (Yu ts) vs []
 | [],as,I,vs,M,ht,hv=>by
  simp only[Y1]at ht;obtain⟨rfl,_⟩:=ht
  simpa only[Jx,Yu]using hv
 |t::ts,as,I,vs,M,ht,hv=>by simp only[Y1]at ht;obtain⟨a,as',I1,I2,rfl,_,h1,h2⟩:=ht;obtain⟨v,vs',rfl,g1,g2⟩:=V1.1 hv;simp only[Yu];exact V1.2 ⟨v,vs',rfl,Jd7 H t h1 g1,Re H ts h2 g2⟩
theorem Jae(H:K1 base w0 w L N F E h):∀(ts:List (List AV)) {as:List (List AV)}{I:List Nat}{vs:List Value}{M:Nat},Ww h ts as I->X4 w L M as vs []->X4 w Lo 0 (Yh ts) vs []
 | [],as,I,vs,M,ht,hv=>by
  simp only[Ww]at ht;obtain⟨rfl,_⟩:=ht
  simpa only[X4,Yh]using hv
 |t::ts,as,I,vs,M,ht,hv=>by simp only[Ww]at ht;obtain⟨a,as',I1,I2,rfl,_,h1,h2⟩:=ht;simp only[X4]at hv;obtain⟨v1,v2,S1,S2,rfl,hS,g1,g2⟩:=hv;obtain⟨rfl,rfl⟩:=List.append_eq_nil_iff.1 hS.symm;simp only[Yh,X4];exact⟨v1,v2,[],[],rfl,rfl,Re H t h1 g1,Jae H ts h2 g2⟩
end
end
def K1n(h:J8)(a t:AV):Prop:=bw a h=some t\/∃t' I,TR h t' a I/\dr t'=t
def P0(h:J8):List AV->List AV->Prop
 | [],[]=>True
 |a::as,t::ts=>K1n h a t/\P0 h as ts
 |_,_=>False
theorem J0r{base:Nat}{w0 w:World}{L:Nat->Option K0}{N:Nat}{F:Nat->List Nat}{E:List Nat}{h:J8}(H:K1 base w0 w L N F E h) :
 ∀{as ts:List AV}{vs:List Value},P0 h as ts->Jx w L N as vs []->Jx w Lo 0 ts vs []
 | [],[],vs,_,hv=>by simpa only[Jx]using hv
 |a::as,t::ts,vs,hl,hv=>by
  obtain⟨v,vs',rfl,g1,g2⟩:=V1.1 hv;refine V1.2 ⟨v,vs',rfl,?_,J0r H hl.2 g2⟩;rcases hl.1 with hb|⟨t',I,ht,rfl⟩
  ·exact Ja5 H a g1 hb
  ·exact Jd7 H t' ht g1
 | [],_::_,_,hl,_=>hl.elim
 |_::_,[],_,hl,_=>hl.elim
section
variable {P:Program}
theorem J0l{f:FuncId}{as as':List AV}{h:J8}{n:Nat}{Q:AV->Prop}{K:AV->J8->Nat->Prop}(hh:Holds P f as' Q)(hb:P0 h as as')
 (hK:∀r a h' n' I,Q r->TR h' r a I->I.Nodup->(∀id∈I,n<=id/\id<n')->n<=n'->(∀id,id<n->h' id=h id)->K a h' n'):X7 P f as h n λr h' n'=>Xy h h'/\K r h' n':=by
 refine⟨hh.1,λbase w0 w L F vs H hv=>?_⟩;refine(hh.2 w vs (J0r H hb hv)).mono ?_;rintro e w' ⟨v,r,S,rfl,hq,hcl,hbel,hr,hnd,hS⟩;obtain⟨L',F',g1,g2,g3⟩:=H.takeD hbel hcl hr hnd hS;have hold:∀id,id<n->Dk h n (dS r n).2 id=h id:=λid hid=>by unfold Dk;rw[if_neg (by omega)]
 refine⟨v,_,L',_,F',_,rfl,g1,g3,g2,λid B hB=>?_,hK r _ _ _ (List.range' n (dS r n).2.length) hq (Jq1 r n hcl ?_) List.nodup_range' (λid hid=>by simpa using hid) (by omega) hold⟩
 ·have hlt:id<n:=by
   cases hl:L id with
   |none=>rw[H.mod id hl]at hB;cases hB
   |some l=>exact H.lt id l hl
  rw[hold id hlt];exact hB
 ·intro i B hB;unfold Dk;rw[if_pos (by omega),Nat.add_sub_cancel_left,hB]
def Iu(P:Program)(f:FuncId)(t:AV)(k:Int)(t':AV)(k':Int):Prop:=
 ∀(h:J8) (n:Nat) (a:AV) (I:List Nat) (K:AV->J8->Nat->Prop),TR h t a I->I.Nodup->(∀id∈I,id<n) ->
  (∀h' n',n<=n'->(∀id,id<n->id∉I->h' id=h id)->TR h' t' a I->K (i64 k') h' n')->X7 P f [a,i64 k] h n K
end
open Go Go.RowKit
abbrev Wv:=AV×AV×List Nat
def Wi(h:J8)(n:Nat):List Wv->Prop
 | []=>True
 |x::T=>TR h x.1 x.2.1 x.2.2/\x.2.2.Nodup/\(∀id∈x.2.2,id<n)/\(∀y∈T,∀id∈x.2.2,id∉y.2.2)/\Wi h n T
section
variable {h h':J8}{n n':Nat}
theorem Wi.ids:∀{T:List Wv},Wi h n T->∀x∈T,TR h x.1 x.2.1 x.2.2/\x.2.2.Nodup/\∀id∈x.2.2,id<n
 |y::T,hL,x,hx=>by
  obtain⟨h1,h2,h3,_,h5⟩:=hL;rcases List.mem_cons.1 hx with rfl|hx
  ·exact⟨h1,h2,h3⟩
  ·exact Wi.ids h5 x hx
theorem Wi.up:∀{T:List Wv},Wi h n T->n<=n'->(∀id,id<n->h' id=h id)->Wi h' n' T
 | [],_,_,_=>trivial
 |x::T,⟨h1,h2,h3,h4,h5⟩,hn,hh=>⟨Mf x.1 (λid hi=>hh id (h3 id hi)) h1,h2,λid hi=>Nat.lt_of_lt_of_le (h3 id hi) hn,h4,Wi.up h5 hn hh⟩
theorem Wi.turn {t t' a:AV}{I:List Nat}{T2:List Wv} : ∀{T1:List Wv},Wi h n (T1++(t,a,I)::T2)->n<=n'->(∀id,id<n->id∉I->h' id=h id)->TR h' t' a I->Wi h' n' (T1++(t',a,I)::T2)
 | [],⟨h1,h2,h3,h4,h5⟩,hn,hh,ht=>by
  refine⟨ht,h2,λid hi=>Nat.lt_of_lt_of_le (h3 id hi) hn,h4,?_⟩
  have:∀(T:List Wv),(∀y∈T,∀id∈I,id∉y.2.2)->Wi h n T->Wi h' n' T:=by
   intro T
   induction T with
   |nil=>intros;trivial
   |cons y T ih=>
    rintro hd ⟨g1,g2,g3,g4,g5⟩;exact⟨Mf y.1 (λid hi=>hh id (g3 id hi) λhI=>hd y (by simp) id hI hi) g1,g2,λid hi=>Nat.lt_of_lt_of_le (g3 id hi) hn,g4,ih (λz hz=>hd z (by simp[hz])) g5⟩
  exact this T2 h4 h5
 |x::T1,⟨h1,h2,h3,h4,h5⟩,hn,hh,ht=>by
  have hx:∀id∈x.2.2,id∉I:=h4 (t,a,I) (by simp);refine⟨Mf x.1 (λid hi=>hh id (h3 id hi) (hx id hi)) h1,h2,λid hi=>Nat.lt_of_lt_of_le (h3 id hi) hn,?_,Wi.turn h5 hn hh ht⟩;intro y hy;rcases List.mem_append.1 hy with hy|hy
  ·exact h4 y (by simp[hy])
  ·rcases List.mem_cons.1 hy with rfl|hy
   ·exact hx
   ·exact h4 y (by simp[hy])
def Jws(T:List Wv)(a t:AV):Prop:=(∀h,bw a h=some t)\/∃x∈T,x.2.1=a/\dr x.1=t
def Oa(T:List Wv):List AV->List AV->Prop
 | [],[]=>True
 |a::as,t::ts=>Jws T a t/\Oa T as ts
 |_,_=>False
theorem Oa.ok {T:List Wv}(hL:Wi h n T):∀{as ts:List AV},Oa T as ts->P0 h as ts
 | [],[],_=>trivial
 |a::as,t::ts,⟨h1,h2⟩=>by
  refine⟨?_,Oa.ok hL h2⟩;rcases h1 with h1|⟨x,hx,rfl,rfl⟩
  ·exact .inl (h1 h)
  ·exact .inr ⟨x.1,x.2.2,(hL.ids x hx).1,rfl⟩
 | [],_::_,hl=>hl.elim
 |_::_,[],hl=>hl.elim
variable {P:Program}{f:FuncId}{as as':List AV}{T:List Wv}{K:AV->J8->Nat->Prop}
theorem Jmr{c:AV}{n:Nat}(hc:Vk c=true):dS c n=(c,[]):=by
 unfold Vk at hc;split at hc
 ·rfl
 ·rfl
 ·rfl
 ·simp[dS,Ug]
 ·cases hc
theorem Jh1(h:J8)(n:Nat):Dk h n []=h:=by funext id;unfold Dk;split <;>simp
theorem J36{c:AV}(hh:Holds P f as' (λr=>r=c))(hc:Vk c=true)(hb:P0 h as as')(hk:K c h n):X7 P f as h n λr h' n'=>Xy h h'/\K r h' n':=by refine⟨hh.1,λbase w0 w L F vs H hv=>?_⟩;refine(hh.2 w vs (J0r H hb hv)).mono ?_;rintro e w' ⟨v,r,S,rfl,rfl,hcl,hbel,hr,hnd,hS⟩;obtain⟨L',F',g1,g2,g3⟩:=H.takeD hbel hcl hr hnd hS;rw[Jmr hc]at g1 g2 g3;simp only[Jh1,List.length_nil,Nat.add_zero]at g1 g2 g3;exact⟨v,_,L',_,F',_,rfl,g1,g3,g2,Xy.refl _,hk⟩
theorem Jf6{c:AV}(hh:Holds P f as' (λr=>r=c))(hL:Wi h n T)(hc:Vk c=true)(hb:Oa T as as')(hk:K c h n):X7 P f as h n K:=
 X7.mono (J36 hh hc (hb.ok hL) hk) λ_ _ _ h=>h.2
theorem Jbg{c:AV}(hh:Holds P f as' (λr=>r=c))(hL:Wi h n T)(hc:Vk c=true)(hb:Oa T as as')(hk:K c h n):X7 P f as h n (hK h K):=J36 hh hc (hb.ok hL) hk
theorem Jp0{t:AV}(hh:Holds P f as' (λr=>r=t))(hL:Wi h n T)(hb:Oa T as as')
 (hk:∀a h' n' I,Wi h' n' ((t,a,I)::T)->n<=n'->(∀id,id<n->h' id=h id)->TR h' t a I->K a h' n'):X7 P f as h n λr h' n'=>Xy h h'/\K r h' n':=
 J0l hh (hb.ok hL) λr a h' n' I hr h1 h2 h3 h4 h5=>by subst hr;refine hk a h' n' I ⟨h1,h2,λid hi=>(h3 id hi).2,?_,hL.up h4 h5⟩ h4 h5 h1;intro y hy id hi hi';have:=(hL.ids y hy).2.2 id hi';have:=(h3 id hi).1;omega
theorem J6d{t t' a:AV}{k k':Int}{I:List Nat}{T1 T2:List Wv}(hm:Iu P f t k t' k')(hL:Wi h n (T1++(t,a,I)::T2))
 (hk:∀h' n',Wi h' n' (T1++(t',a,I)::T2)->n<=n'->(∀id,id<n->id∉I->h' id=h id)->K (i64 k') h' n'):X7 P f [a,i64 k] h n K:=by
 obtain⟨h1,h2,h3⟩:=hL.ids (t,a,I) (by simp);exact hm h n a I K h1 h2 h3 λh' n' hn hh ht=>hk h' n' (hL.turn hn hh ht) hn hh
end
open Go Go.RowKit
def Vq{α:Type}(m:α->Int->α)(c:α->Nat):List α->Int->List α
 | [],_=>[]
 |x::l,k=>m x k::Vq m c l (k+c x)
def cL{α:Type}(c:α->Nat):List α->Nat
 | []=>0
 |x::l=>c x+cL c l
theorem Jbu{α:Type} : ∀l:List α,cL (λ_=>1) l=l.length
 | []=>rfl
 |x::l=>by simp[cL,Jbu l];omega
section
variable {h:J8}
theorem Jlo{A B as:List (List AV)}{r:List AV}{I:List Nat}(ht:Ww h (A++r::B) as I) :
 ∃a I1 I2 I3,as[A.length]? = some a/\I=I1++(I2++I3)/\Y1 h r a I2 /\
  ∀(h':J8) r' a',(∀id∈I1++I3,h' id=h id)->Y1 h' r' a' I2->Ww h' (A++r'::B) (as.set A.length a') I:=by
 obtain⟨a,I1,I2,I3,g1,g2,g3,g4⟩:=J6c (i:=A.length) (t:=r) ht (by simp);exact⟨a,I1,I2,I3,g1,g2,g3,λh' r' a' hf hr=>by have:=g4 h' r' a' hf hr;simpa using this⟩
theorem Hn{k:IntKind}{n:Int}{ts as:List AV}{I:List Nat} : Y1 h (.int k n::ts) as I↔∃as',as = .int k n::as'/\Y1 h ts as' I:=by
 simp only[Y1,TR];constructor
 ·rintro⟨a,as',I1,I2,rfl,rfl,⟨rfl,rfl⟩,h2⟩;exact⟨as',rfl,h2⟩
 ·rintro⟨as',rfl,h2⟩;exact⟨_,as',[],I,rfl,rfl,⟨rfl,rfl⟩,h2⟩
theorem Eh{b:Bool}{ts as:List AV}{I:List Nat} : Y1 h (.bool b::ts) as I↔∃as',as = .bool b::as'/\Y1 h ts as' I:=by
 simp only[Y1,TR];constructor
 ·rintro⟨a,as',I1,I2,rfl,rfl,⟨rfl,rfl⟩,h2⟩;exact⟨as',rfl,h2⟩
 ·rintro⟨as',rfl,h2⟩;exact⟨_,as',[],I,rfl,rfl,⟨rfl,rfl⟩,h2⟩
theorem Vt{b:List UInt8}{ts as:List AV}{I:List Nat} : Y1 h (.str b::ts) as I↔∃as',as = .str b::as'/\Y1 h ts as' I:=by
 simp only[Y1,TR];constructor
 ·rintro⟨a,as',I1,I2,rfl,rfl,⟨rfl,rfl⟩,h2⟩;exact⟨as',rfl,h2⟩
 ·rintro⟨as',rfl,h2⟩;exact⟨_,as',[],I,rfl,rfl,⟨rfl,rfl⟩,h2⟩
theorem Wt{as:List AV}{I:List Nat} : Y1 h [] as I↔as=[]/\I=[]:=by simp only[Y1]
theorem Oz{sz:Nat}{rows:List (List AV)}{ts as:List AV}{I:List Nat}(hh:Y1 h (.us sz rows::ts) as I):∃id len as' I1 I2,as = .ref id 0 len::as'/\I=I1++I2/\len=rows.length/\TR h (.us sz rows) (.ref id 0 len) I1/\Y1 h ts as' I2:=by simp only[Y1]at hh;obtain⟨a,as',I1,I2,rfl,rfl,h1,h2⟩:=hh;have h1':=h1;simp only[TR]at h1;obtain⟨id,rows',I',rfl,_⟩:=h1;exact⟨id,_,as',I1,I2,rfl,rfl,rfl,h1',h2⟩
theorem G5{t a:AV}{ts as:List AV}{I1 I2:List Nat}(h1:TR h t a I1)(h2:Y1 h ts as I2):Y1 h (t::ts) (a::as) (I1++I2):=by simp only[Y1];exact⟨_,as,I1,I2,rfl,rfl,h1,h2⟩
theorem Jja{ts:List AV}{a:AV}{I:List Nat} : TR h (.agg ts) a I↔∃as,a = .agg as/\Y1 h ts as I:=by simp only[TR]
theorem Jcg{ts as:List AV}{I:List Nat} : TR h (.agg ts) (.agg as) I↔Y1 h ts as I:=by simp only[TR,AV.agg.injEq];exact⟨λ⟨_,e,h⟩=>e ▸ h,λh=>⟨_,rfl,h⟩⟩
theorem Gf{sz:Nat}{rows:List (List AV)}{a:AV}{I:List Nat}(ht:TR h (.us sz rows) a I):∃id rows' I',a = .ref id 0 rows.length/\I=id::I'/\h id=some ⟨true,sz,rows'⟩/\Ww h rows rows' I':=by simpa only[TR]using ht
end
theorem Hx{h:J8}{sz id off len:Nat}{rows:List (List AV)}{I:List Nat}(ht:TR h (.us sz rows) (.ref id off len) I):(h id).isSome=true:=by obtain⟨id',rows',I',q1,rfl,q2,q3⟩:=Gf ht;simp only[AV.ref.injEq]at q1;obtain⟨rfl,_,_⟩:=q1;rw[q2];rfl
def MJ{α:Type}(m:α->Int->α)(c:α->Nat)(rU:α->List AV)(sz:Nat)(h0:J8)(n0:Nat)(id:Nat)(I:List Nat)(l:List α)(k:Int)(i:Nat)(s1:AV)(h:J8)(n:Nat):Prop:=
 ∃(A rest:List α) (ki:Int),A.length=i/\A.length+rest.length=l.length/\Vq m c l k=A++Vq m c rest ki/\k<=ki/\ki+cL c rest=k+cL c l/\s1=i64 ki/\n0<=n/\(∀j,j<n0->j∉I->h j=h0 j) /\
  TR h (.us sz ((A++rest).map rU)) (.ref id 0 l.length) I
section
variable {α:Type}{m:α->Int->α}{c:α->Nat}{rU:α->List AV}{sz:Nat}{h0 h:J8}{n0 n id:Nat}{I:List Nat}{l:List α}{k:Int}{i:Nat}{s1:AV}
theorem MJ.start (ht:TR h (.us sz (l.map rU)) (.ref id 0 l.length) I):MJ m c rU sz h n id I l k 0 (i64 k) h n:=
 ⟨[],l,k,rfl,by simp,rfl,Int.le_refl _,rfl,rfl,Nat.le_refl _,λ_ _ _=>rfl,by simpa using ht⟩
theorem MJ.fin (hJ:MJ m c rU sz h0 n0 id I l k l.length s1 h n):s1=i64 (k+cL c l)/\n0<=n/\(∀j,j<n0->j∉I->h j=h0 j)/\TR h (.us sz ((Vq m c l k).map rU)) (.ref id 0 l.length) I:=by obtain⟨A,rest,ki,e1,e2,e3,e4,e5,rfl,e6,e7,e8⟩:=hJ;have hr:rest=[]:=List.eq_nil_of_length_eq_zero (by omega);subst hr;simp only[Vq,List.append_nil]at e3 e8;simp only[cL]at e5;refine⟨by rw[<-e5];simp,e6,e7,by rw[e3];exact e8⟩
theorem MJ.step (hI:I.Nodup) (hn0:∀j∈I,j<n0) (hi:i<l.length) (hJ:MJ m c rU sz h0 n0 id I l k i s1 h n) :
 ∃(x:α) (ki:Int) (rows:List (List AV)) (cells:List AV) (I2:List Nat),s1=i64 ki/\k<=ki/\ki+c x<=k+cL c l/\h id=some ⟨true,sz,rows⟩/\i<rows.length/\(∀hl:i<rows.length,rows[i]'hl=cells)/\Y1 h (rU x) cells I2/\I2.Nodup/\id∉I2 /\
  id<n/\(∀j∈I2,j<n)/\n0<=n/\∀(h':J8) (n':Nat) (cells':List AV) (s':AV),n<=n'->(∀j,j<n->j≠id->j∉I2->h' j=h j)->h' id=some ⟨true,sz,rows.set i cells'⟩->Y1 h' (rU (m x ki)) cells' I2->s'=i64 (ki+c x) ->
   MJ m c rU sz h0 n0 id I l k (i+1) s' h' n':=by
 obtain⟨A,rest,ki,rfl,e2,e3,e4,e5,rfl,e6,e7,e8⟩:=hJ
 cases rest with
 |nil=>simp at e2;omega
 |cons x rest=>
  obtain⟨id',rows,I',q1,rfl,q2,q3⟩:=Gf e8;simp only[AV.ref.injEq]at q1;obtain⟨rfl,_,_⟩:=q1;rw[List.map_append,List.map_cons]at q3;obtain⟨a,I1,I2,I3,g1,rfl,g3,g4⟩:=Jlo q3;rw[List.length_map]at g1 g4;simp only[cL]at e5;simp only[Vq]at e3;have hlen:A.length<rows.length:=(List.getElem?_eq_some_iff.1 g1).1;simp only[List.nodup_cons,List.mem_append,List.nodup_append]at hI;obtain⟨d1,d2,⟨d3,d4,d5⟩,d6⟩:=hI;refine⟨x,ki,rows,a,I2,rfl,e4,by omega,q2,hlen,λhl=>by rw[List.getElem?_eq_getElem hl]at g1;exact Option.some.inj g1,g3,d3,λhm=>d1 (.inr (.inl hm)),Nat.lt_of_lt_of_le (hn0 _ (by simp)) e6,λj hj=>Nat.lt_of_lt_of_le (hn0 j (by simp[hj])) e6,e6,?_⟩
  ·intro h' n' cells' s' hn hf hid hc hs;refine⟨A++[m x ki],rest,ki+c x,by simp,by simp at e2⊢;omega,by rw[e3];simp,by omega,by omega,hs,Nat.le_trans e6 hn,?_,?_⟩
   ·intro j hj hjI;simp only[List.mem_cons,List.mem_append,not_or]at hjI;rw[hf j (by omega) hjI.1 hjI.2.2.1];exact e7 j hj (by simp[hjI])
   ·simp only[TR];refine⟨id,rows.set A.length cells',I1++(I2++I3),by simp at e2⊢;omega,rfl,hid,?_⟩;rw[List.append_assoc,List.map_append,List.singleton_append,List.map_cons];refine g4 h' _ cells' (λj hj=>?_) hc;rw[List.mem_append]at hj;refine hf j ?_ ?_ ?_
    ·have:=hn0 j (by rcases hj with hj|hj <;>simp[hj]);omega
    ·rintro rfl;exact d1 (by rcases hj with hj|hj <;>simp[hj])
    ·intro hm;rcases hj with hj|hj
     ·exact d6 j hj j (by simp[hm]) rfl
     ·exact d5 j hm j hj rfl
end
theorem Wi.frame {h h':J8}{n n':Nat} : ∀{T:List Wv},Wi h n T->n<=n'->(∀x∈T,∀j∈x.2.2,h' j=h j)->Wi h' n' T
 | [],_,_,_=>trivial
 |x::T,⟨h1,h2,h3,h4,h5⟩,hn,hh=>⟨Mf x.1 (λid hi=>hh x (by simp) id hi) h1,h2,λid hi=>Nat.lt_of_lt_of_le (h3 id hi) hn,h4,Wi.frame h5 hn λy hy=>hh y (by simp[hy])⟩
structure Yq (h:J8) (n:Nat) (T:List Wv) (I:List Nat):Prop where
 live:Wi h n T
 sub:∀x∈T,∀j∈x.2.2,j∈I
theorem Yq.nil {h:J8}{n:Nat}{I:List Nat} : Yq h n [] I:=⟨trivial,by simp⟩
theorem Yq.cons {h:J8}{n:Nat}{T:List Wv}{t a:AV}{J I:List Nat}(ht:TR h t a J) (hd:(J++I).Nodup) (hn:∀j∈J++I,j<n) (hk:I.Nodup->(∀j∈I,j<n)->Yq h n T I):Yq h n ((t,a,J)::T) (J++I):=by
 obtain⟨d1,d2,d3⟩:=List.nodup_append.1 hd;have hk:=hk d2 (λj hj=>hn j (by simp[hj]));refine⟨⟨ht,d1,λj hj=>hn j (by simp[hj]),λy hy j hj hj'=>d3 j hj j (hk.sub y hy j hj') rfl,hk.live⟩,?_⟩;intro y hy j hj;rcases List.mem_cons.1 hy with rfl|hy
 ·exact List.mem_append_left _ hj
 ·exact List.mem_append_right _ (hk.sub y hy j hj)
structure RS (sz:Nat) (id:Nat) (I:List Nat) (h1:J8) (n1:Nat) (rows:List (List AV)) (i:Nat) (cells:List AV) (T:List Wv) (h:J8) (n:Nat):Prop where
 live:Wi h n T
 sub:∀x∈T,∀j∈x.2.2,j∈I
 out:id∉I
 lt:id<n1
 le:n1<=n
 e:h id=some ⟨true,sz,rows.set i cells⟩
 old:∀j,j<n1->j≠id->j∉I->h j=h1 j
section
variable {sz id:Nat}{I:List Nat}{h1 h:J8}{n1 n:Nat}{rows:List (List AV)}{i:Nat}{cells cells':List AV}{T:List Wv}
theorem RS.start (hk:Yq h1 n1 T I) (ho:id∉I) (hl:id<n1) (hi:i<rows.length) (e:h1 id=some ⟨true,sz,rows⟩) (hr:∀hl:i<rows.length,rows[i]'hl=cells):RS sz id I h1 n1 rows i cells T h1 n1:=
 ⟨hk.live,hk.sub,ho,hl,Nat.le_refl _,by rw[e,<-hr hi,List.set_getElem_self],λ_ _ _ _=>rfl⟩
theorem RS.store (S:RS sz id I h1 n1 rows i cells T h n):RS sz id I h1 n1 rows i cells' T (upd h id (some ⟨true,sz,rows.set i cells'⟩)) n:=
 ⟨S.live.frame (Nat.le_refl _) λx hx j hj=>by rw[Ye];rintro rfl;exact S.out (S.sub x hx j hj),S.sub,S.out,S.lt,S.le,Uu _ _ _,λj h1 h2 h3=>by rw[Ye _ _ _ _ h2];exact S.old j h1 h2 h3⟩
theorem RS.mark {P:Program}{f:FuncId}{K:AV->J8->Nat->Prop}{t t' a:AV}{k k':Int}{J:List Nat}{T1 T2:List Wv}(hm:Iu P f t k t' k') (S:RS sz id I h1 n1 rows i cells (T1++(t,a,J)::T2) h n)
 (hk:∀h' n',RS sz id I h1 n1 rows i cells (T1++(t',a,J)::T2) h' n'->K (i64 k') h' n'):X7 P f [a,i64 k] h n K:=by
 refine J6d hm S.live λh' n' hL hn hh=>hk h' n' ⟨hL,?_,S.out,S.lt,Nat.le_trans S.le hn,?_,?_⟩
 ·intro x hx j hj;simp only[List.mem_append,List.mem_cons]at hx;rcases hx with hx|rfl|hx
  ·exact S.sub x (by simp[hx]) j hj
  ·exact S.sub (t,a,J) (by simp) j hj
  ·exact S.sub x (by simp[hx]) j hj
 ·rw[hh id (Nat.lt_of_lt_of_le S.lt S.le) λhi=>S.out (S.sub (t,a,J) (by simp) id hi)];exact S.e
 ·intro j h1 h2 h3;rw[hh j (Nat.lt_of_lt_of_le h1 S.le) λhi=>h3 (S.sub (t,a,J) (by simp) j hi)];exact S.old j h1 h2 h3
end
theorem Yq.frame {h h':J8}{n n':Nat}{T:List Wv}{I:List Nat}(k:Yq h n T I) (hn:n<=n') (hh:∀j∈I,h' j=h j):Yq h' n' T I:=
 ⟨k.live.frame hn λx hx j hj=>hh j (k.sub x hx j hj),k.sub⟩
theorem RS.box {sz:Nat}{I:List Nat}{h:J8}{n:Nat}{cells:List AV}{T:List Wv}(hk:Yq h n T I) (hI:∀j∈I,j<n) :
 RS sz n I (upd h n (some ⟨true,sz,[cells]⟩)) (n+1) [cells] 0 cells T (upd h n (some ⟨true,sz,[cells]⟩)) (n+1):=
 RS.start (hk.frame (Nat.le_succ n) λj hj=>Ye _ _ _ _ (by have:=hI j hj;omega)) (λhm=>Nat.lt_irrefl _ (hI n hm)) (Nat.lt_succ_self n) (by simp) (Uu _ _ _) (λ_=>rfl)
theorem RS.unbox {sz:Nat}{I:List Nat}{h h':J8}{n n':Nat}{B:Option Yd}{rows:List (List AV)}{i:Nat}{cells:List AV}{T:List Wv}(S:RS sz n I (upd h n B) (n+1) rows i cells T h' n'):n<=n'/\∀j,j<n->j∉I->h' j=h j:=
 ⟨by have:=S.le;omega,λj hj hI=>by rw[S.old j (by omega) (by omega) hI,Ye _ _ _ _ (by omega)]⟩
theorem MJ.step2 {α:Type}{m:α->Int->α}{c:α->Nat}{rU:α->List AV}{sz:Nat}{h0 h:J8}{n0 n id:Nat}{I:List Nat}{l:List α}{k:Int}{i:Nat}{s1:AV}(hI:I.Nodup) (hn0:∀j∈I,j<n0) (hi:i<l.length) (hJ:MJ m c rU sz h0 n0 id I l k i s1 h n) :
 ∃(x:α) (ki:Int) (rows:List (List AV)) (cells:List AV) (I2:List Nat),s1=i64 ki/\k<=ki/\ki+c x<=k+cL c l/\i<rows.length/\Y1 h (rU x) cells I2/\I2.Nodup/\(∀j∈I2,j<n) /\
  (∀T,Yq h n T I2->RS sz id I2 h n rows i cells T h n)/\∀(h':J8) (n':Nat) (cells':List AV) (s':AV) (T:List Wv),RS sz id I2 h n rows i cells' T h' n'->Y1 h' (rU (m x ki)) cells' I2->s'=i64 (ki+c x) ->
   MJ m c rU sz h0 n0 id I l k (i+1) s' h' n':=by
 obtain⟨x,ki,rows,cells,I2,q1,q2,q3,q4,q5,q6,q7,q8,q9,q10,q11,q12,q13⟩:=hJ.step hI hn0 hi;exact⟨x,ki,rows,cells,I2,q1,q2,q3,q5,q7,q8,q11,λT hk=>RS.start hk q9 q10 q5 q4 q6,λh' n' cells' s' T S hc hs=>q13 h' n' cells' s' S.le S.old S.e hc hs⟩
def HJ{α:Type}(m:α->Int->α)(c:α->Nat)(M:List α)(l:List α)(k:Int)(i:Nat)(s1:AV):Prop:=
 ∃(rest:List α) (ki:Int),M.drop i=Vq m c rest ki/\k<=ki/\ki+cL c rest=k+cL c l/\s1=i64 ki
theorem HJ.start {α:Type}{m:α->Int->α}{c:α->Nat}{l:List α}{k:Int} : HJ m c (Vq m c l k) l k 0 (i64 k):=⟨l,k,rfl,Int.le_refl _,rfl,rfl⟩
theorem HJ.fin {α:Type}{m:α->Int->α}{c:α->Nat}{M l:List α}{k:Int}{i:Nat}{s1:AV}(hi:M.length<=i) (hJ:HJ m c M l k i s1):s1=i64 (k+cL c l):=by
 obtain⟨rest,ki,e1,e2,e3,rfl⟩:=hJ;rw[List.drop_eq_nil_of_le hi]at e1
 cases rest with
 |nil=>simp only[cL]at e3;rw[<-e3];simp
 |cons x rest=>simp[Vq]at e1
theorem HJ.step {α:Type}{m:α->Int->α}{c:α->Nat}{M l:List α}{k:Int}{i:Nat}{s1:AV}(hi:i<M.length) (hJ:HJ m c M l k i s1) :
 ∃x ki,s1=i64 ki/\k<=ki/\ki+c x<=k+cL c l/\(∀hl:i<M.length,M[i]'hl=m x ki)/\∀s',s'=i64 (ki+c x)->HJ m c M l k (i+1) s':=by
 obtain⟨rest,ki,e1,e2,e3,rfl⟩:=hJ;rw[List.drop_eq_getElem_cons hi]at e1
 cases rest with
 |nil=>simp[Vq]at e1;omega
 |cons x rest=>
  simp only[Vq,List.cons.injEq]at e1;simp only[cL]at e3;exact⟨x,ki,rfl,e2,by omega,λ_=>e1.1,λs' hs=>⟨rest,ki+c x,e1.2,by omega,by omega,hs⟩⟩
section
variable {P:Program}
theorem Bk{f:FuncId}{fn:Func}{id off len:Nat}{as:List AV}{h:J8}{n:Nat}{K:AV->J8->Nat->Prop}(hf:P.funcs[f]? = some fn)(hb:fn.body.isSome=true) (hn:(fn.name == "runtime.NumGoroutine")=false)
 (hB:h id≠Option.none) (hA:len<=Jb->X7 P f (.ref id off len::as) h n K):X7 P f (.ref id off len::as) h n K:=by
 refine⟨by simp[Dn,hf,hb,hn],λbase w0 w L F vs H hv=>?_⟩
 have hlen:len<=Jb:=by
  obtain⟨v,vs',_,h1,_⟩:=V1.1 hv;simp only[VR]at h1
  cases hl:L id with
  |none=>exact absurd (H.mod id hl) hB
  |some l=>exact(h1.1.2.2 l hl).1
 exact(hA hlen).2 base w0 w L F vs H hv
end
open Go Go.RowKit
def Bx(h:J8)(n:Nat)(T:List Wv):List (Nat×Yd)->Prop
 | []=>True
 |p::B=>(h p.1=some p.2/\p.1<n/\(∀x∈T,p.1∉x.2.2)/\∀q∈B,q.1<p.1)/\Bx h n T B
def Ix(h:J8):List (Nat×Yd)->Prop
 | []=>True
 |p::B=>h p.1=some p.2/\Ix h B
def Iz(n:Nat):List (Nat×Yd)->Prop
 | []=>True
 |p::B=>¬p.1=n/\Iz n B
structure LS (h:J8) (n:Nat) (B:List (Nat×Yd)) (T:List Wv):Prop where
 live:Wi h n T
 bx:Bx h n T B
theorem Bx.map {h h':J8}{n n':Nat}{T T':List Wv} : ∀{B:List (Nat×Yd)},Bx h n T B->(∀id v,h id=some v->id<n->(∀x∈T,id∉x.2.2)->h' id=some v/\id<n'/\∀x∈T',id∉x.2.2)->Bx h' n' T' B
 | [],_,_=>trivial
 |p::B,⟨⟨h1,h2,h3,h3'⟩,h4⟩,hm=>by obtain⟨g1,g2,g3⟩:=hm p.1 p.2 h1 h2 h3;exact⟨⟨g1,g2,g3,h3'⟩,Bx.map h4 hm⟩
theorem Bx.lt {h:J8}{n:Nat}{T:List Wv} : ∀{B:List (Nat×Yd)},Bx h n T B->∀q∈B,q.1<n/\h q.1=some q.2
 |p::B,⟨⟨h1,h2,_⟩,h4⟩,q,hq=>by
  rcases List.mem_cons.1 hq with rfl|hq
  ·exact⟨h2,h1⟩
  ·exact Bx.lt h4 q hq
section
variable {h h':J8}{n n':Nat}{B:List (Nat×Yd)}{T T1 T2:List Wv}
theorem LS.eqs (S:LS h n B T):Ix h B:=by
 have:=S.bx;revert this
 induction B with
 |nil=>exact λ_=>trivial
 |cons p B ih=>exact λhb=>⟨hb.1.1,ih ⟨S.live,hb.2⟩ hb.2⟩
theorem LS.nes (S:LS h n B T):Iz n B:=by
 have:=S.bx;revert this
 induction B with
 |nil=>exact λ_=>trivial
 |cons p B ih=>exact λhb=>⟨by have:=hb.1.2.1;omega,ih ⟨S.live,hb.2⟩ hb.2⟩
theorem LS.start {h:J8}{n:Nat} : LS h n [] []:=⟨trivial,trivial⟩
theorem LS.newbox {y:Yd}(S:LS h n B T) (ho:∀j,j<n->h' j=h j) (hy:h' n=some y):LS h' (n+1) ((n,y)::B) T:=
 ⟨S.live.up (Nat.le_succ n) ho,⟨hy,Nat.lt_succ_self n,λx hx hi=>Nat.lt_irrefl _ ((S.live.ids x hx).2.2 n hi),λq hq=>(S.bx.lt q hq).1⟩,S.bx.map λid v h1 h2 h3=>⟨(ho id h2).trans h1,by omega,h3⟩⟩
theorem LS.push {y:Yd}(S:LS h n B T):LS (upd h n (some y)) (n+1) ((n,y)::B) T:=S.newbox (λj hj=>Ye _ _ _ _ (by omega)) (Uu _ _ _)
theorem LS.grow {t a:AV}{I:List Nat}(S:LS h n B T) (ht:TR h' t a I) (hd:I.Nodup) (hI:∀id∈I,n<=id/\id<n') (hn:n<=n') (ho:∀id,id<n->h' id=h id):LS h' n' B ((t,a,I)::T):=by
 refine⟨⟨ht,hd,λid hi=>(hI id hi).2,?_,S.live.up hn ho⟩,S.bx.map λid v h1 h2 h3=>⟨(ho id h2).trans h1,by omega,?_⟩⟩
 ·intro y hy id hi hi';have:=(S.live.ids y hy).2.2 id hi';have:=(hI id hi).1;omega
 ·intro x hx;rcases List.mem_cons.1 hx with rfl|hx
  ·intro hi;have:=(hI id hi).1;omega
  ·exact h3 x hx
variable {P:Program}{f:FuncId}{as as':List AV}{K:AV->J8->Nat->Prop}
theorem Nj{c:AV}(hh:Holds P f as' (λr=>r=c))(S:LS h n B T)(hc:Vk c=true)(hb:Oa T as as')(hk:K c h n):X7 P f as h n K:=Jf6 hh S.live hc hb hk
theorem Ja8{c:AV}(hh:Holds P f as' (λr=>r=c))(S:LS h n B T)(hc:Vk c=true)(hb:Oa T as as')(hk:K c h n):X7 P f as h n (hK h K):=Jbg hh S.live hc hb hk
theorem Jly{h:J8} : ∀{t a:AV}{I:List Nat},TR h t a I->K8 t=true->K8 a=true:=by
 intro t a I ht hc;cases t <;>simp only[TR]at ht <;>simp only[K8,Bool.false_eq_true]at hc
 case int=>rw[ht.1];rfl
 case bool=>rw[ht.1];rfl
 case str=>rw[ht.1];rfl
 case nilp=>rw[ht.1];rfl
 case us=>obtain⟨id,rows',I',rfl,_⟩:=ht;rfl
theorem J6k{h:J8} : ∀{ts as:List AV}{I:List Nat},Y1 h ts as I->ts.all K8=true->as.all K8=true
 | [],as,I,ht,_=>by simp only[Y1]at ht;rw[ht.1];rfl
 |t::ts,as,I,ht,hc=>by simp only[Y1]at ht;obtain⟨a,as',I1,I2,rfl,_,h1,h2⟩:=ht;simp only[List.all_cons,Bool.and_eq_true]at hc⊢;exact⟨Jly h1 hc.1,J6k h2 hc.2⟩
theorem Jd9{ts:List AV}(hh:Holds P f as' (λr=>r = .agg ts))(S:LS h n B T)(hc:ts.all K8=true)(hb:Oa T as as')
 (hk:∀cs h' n' J,LS h' n' B ((.agg ts,.agg cs,J)::T)->cs.length=ts.length->cs.all K8=true->K (.agg cs) h' n'):X7 P f as h n λr h' n'=>Xy h h'/\K r h' n':=
 J0l hh (hb.ok S.live) λr a h' n' I hr h1 h2 h3 h4 h5=>by
  subst hr;try subst hlen
  have h1':=h1;simp only[TR]at h1;obtain⟨cs,rfl,g⟩:=h1;exact hk cs h' n' I (S.grow h1' h2 h3 h4 h5) (J1q g) (J6k g hc)
theorem Jjn{ts:List AV}(hh:Holds P f as' (λr=>r = .agg ts))(S:LS h n B T)(hc:ts.all K8=true)(hb:Oa T as as')
 (hk:∀cs h' n' J,LS h' n' B ((.agg ts,.agg cs,J)::T)->cs.length=ts.length->cs.all K8=true->K (.agg cs) h' n'):X7 P f as h n K:=X7.mono (Jd9 hh S hc hb hk) λ_ _ _ h=>h.2
theorem Ct{ts:List AV}(hh:Holds P f as' (λr=>r = .agg ts))(S:LS h n B T)(hc:ts.all K8=true)(hb:Oa T as as')
 (hk:∀cs h' n' J,LS h' n' B ((.agg ts,.agg cs,J)::T)->cs.length=ts.length->cs.all K8=true->K (.agg cs) h' n'):X7 P f as h n (hK h K):=Jd9 hh S hc hb hk
theorem Jmy{h:J8}{t c a:AV}{I:List Nat}(hc:Vk c=true)(ht:TR h (.tup [t,c]) a I):∃b,a = .tup [b,c]/\TR h t b I:=by
 simp only[TR,Y1]at ht;obtain⟨cs',rfl,a1,as1,J1,J2,rfl,rfl,g1,a2,as2,J3,J4,rfl,rfl,g2,rfl,rfl⟩:=ht
 have:a2=c/\J3=[]:=by
  unfold Vk at hc;split at hc
  ·simpa only[TR]using g2
  ·simpa only[TR]using g2
  ·simpa only[TR]using g2
  ·simp only[TR,Y1]at g2;obtain⟨cs',rfl,a1,as1,J1,J2,rfl,rfl,⟨rfl,rfl⟩,a2,as2,J3,J4,rfl,rfl,⟨rfl,rfl⟩,rfl,rfl⟩:=g2;exact⟨rfl,rfl⟩
  ·cases hc
 obtain⟨rfl,rfl⟩:=this;exact⟨a1,rfl,by simpa using g1⟩
theorem Jcw{sz len:Nat}{rows:List (List AV)}{c:AV}(hh:Holds P f as' (λr=>r = .tup [.us sz rows,c]))(S:LS h n B T)(hc:Vk c=true)(hlen:rows.length=len)(hb:Oa T as as')
 (hk:∀d h' n' J,LS h' n' B ((.us sz rows,.ref d 0 len,J)::T)->K (.tup [.ref d 0 len,c]) h' n'):X7 P f as h n λr h' n'=>Xy h h'/\K r h' n':=
 J0l hh (hb.ok S.live) λr a h' n' I hr h1 h2 h3 h4 h5=>by
  subst hr;try subst hlen
  obtain⟨b,rfl,g1⟩:=Jmy hc h1;have h1':=g1;simp only[TR]at g1;obtain⟨d,rows',I',rfl,_⟩:=g1;exact hk d h' n' I (S.grow h1' h2 h3 h4 h5)
theorem Jr0{sz len:Nat}{rows:List (List AV)}{c:AV}(hh:Holds P f as' (λr=>r = .tup [.us sz rows,c]))(S:LS h n B T)(hc:Vk c=true)(hlen:rows.length=len)(hb:Oa T as as')
 (hk:∀d h' n' J,LS h' n' B ((.us sz rows,.ref d 0 len,J)::T)->K (.tup [.ref d 0 len,c]) h' n'):X7 P f as h n K:=X7.mono (Jcw hh S hc hlen hb hk) λ_ _ _ h=>h.2
theorem Jcp{sz len:Nat}{rows:List (List AV)}{c:AV}(hh:Holds P f as' (λr=>r = .tup [.us sz rows,c]))(S:LS h n B T)(hc:Vk c=true)(hlen:rows.length=len)(hb:Oa T as as')
 (hk:∀d h' n' J,LS h' n' B ((.us sz rows,.ref d 0 len,J)::T)->K (.tup [.ref d 0 len,c]) h' n'):X7 P f as h n (hK h K):=Jcw hh S hc hlen hb hk
theorem J7v{t t' a:AV}{k k':Int}{I:List Nat}(hm:Iu P f t k t' k')(S:LS h n B (T1++(t,a,I)::T2))
 (hk:∀h' n',LS h' n' B (T1++(t',a,I)::T2)->K (i64 k') h' n'):X7 P f [a,i64 k] h n K:=by
 refine J6d hm S.live λh' n' hL hn hh=>hk h' n' ⟨hL,S.bx.map λid v h1 h2 h3=>⟨?_,by omega,?_⟩⟩
 ·rw[hh id h2 (h3 (t,a,I) (by simp))];exact h1
 ·intro x hx;simp only[List.mem_append,List.mem_cons]at hx;rcases hx with hx|rfl|hx
  ·exact h3 x (by simp[hx])
  ·exact h3 (t,a,I) (by simp)
  ·exact h3 x (by simp[hx])
end
end Go.Proofs.YtoclolkigjbcgaaGreat
namespace Go.Proofs.YtoclolkigjbcgaaGreat
set_option linter.all false
open Go Go.RowKit Go.Proofs
def Dt(n:Nat):List UInt8:=if h:n=0 then []else Dt (n / 10)++[UInt8.ofNat (48+n % 10)]
termination_by n
decreasing_by omega
def W4(k:Int):Je:=if k<=0 then [109,48]else 109::Dt k.toNat
def N8(l:List Int)(k:Int):List Int:=Vq (λ_ k=>k) (λ_=>1) l k
def Gu(l:List Int):Nat:=cL (λ_=>1) l
def J66(l:List Je)(k:Int):List Je:=Vq (λ_ k=>W4 k) (λ_=>1) l k
def Hr(l:List Je):Nat:=cL (λ_=>1) l
theorem Ds(l:List Int):Gu l=l.length:=Jbu l
theorem J75(l:List Je):Hr l=l.length:=Jbu l
def T4(x:Jc)(k:Int):Jc:=⟨k,N8 x.Coeffs (k+1)⟩
def El(x:Jc):Nat:=1+Gu x.Coeffs
def Sf(l:List Jc)(k:Int):List Jc:=Vq T4 El l k
def D0(l:List Jc):Nat:=cL El l
def Me(x:Xz)(k:Int):Xz:=⟨k,N8 x.Mult (k+1)⟩
def Df(x:Xz):Nat:=1+Gu x.Mult
def J32(l:List Xz)(k:Int):List Xz:=Vq Me Df l k
def Ot(l:List Xz):Nat:=cL Df l
def Jck(x:Yb)(k:Int):Yb:=⟨k,W4 (k+1)⟩
def C2(x:Yb):Nat:=2
def Jd5(l:List Yb)(k:Int):List Yb:=Vq Jck C2 l k
def Mq(l:List Yb):Nat:=cL C2 l
def Jbv(x:Xb)(k:Int):Xb:=⟨k,Jd5 x.Terms (k+1)⟩
def Fi(x:Xb):Nat:=1+Mq x.Terms
def Rd(l:List Xb)(k:Int):List Xb:=Vq Jbv Fi l k
def Uj(l:List Xb):Nat:=cL Fi l
def Sz(x:X8)(k:Int):X8:=⟨((k).tmod 3==0),Rd x.Heads (k+1),W4 (k+1+Uj x.Heads)⟩
def Fz(x:X8):Nat:=2+Uj x.Heads
def Jjm(l:List X8)(k:Int):List X8:=Vq Sz Fz l k
def Nt(l:List X8):Nat:=cL Fz l
def R6(x:K3)(k:Int):K3:=⟨W4 (k),J66 x.Params (k+1),((k+1+Hr x.Params).tmod 3==0),Sf x.Pre (k+1+Hr x.Params+1)⟩
def Ft(x:K3):Nat:=2+Hr x.Params+D0 x.Pre
def J0s(l:List K3)(k:Int):List K3:=Vq R6 Ft l k
def Eo(l:List K3):Nat:=cL Ft l
def J4c(x:X2)(k:Int):X2:=⟨W4 (k),((k+1).tmod 3==0),W4 (k+1+1),W4 (k+1+1+1)⟩
def Fy(x:X2):Nat:=4
def J4o(l:List X2)(k:Int):List X2:=Vq J4c Fy l k
def Qw(l:List X2):Nat:=cL Fy l
def J7s(x:Xf)(k:Int):Xf:=⟨W4 (k),W4 (k+1),Jjm x.Args (k+1+1)⟩
def Fm(x:Xf):Nat:=2+Nt x.Args
def Jd2(l:List Xf)(k:Int):List Xf:=Vq J7s Fm l k
def Ij(l:List Xf):Nat:=cL Fm l
def Ci(x:Jy)(k:Int):Jy:=⟨W4 (k),J4o x.Patterns (k+1),Rd x.Guards (k+1+Qw x.Patterns),Jd2 x.Calls (k+1+Qw x.Patterns+Uj x.Guards),⟨((k+1+Qw x.Patterns+Uj x.Guards+Ij x.Calls).tmod 3==0),Rd x.Result.Heads (k+1+Qw x.Patterns+Uj x.Guards+Ij x.Calls+1),W4 (k+1+Qw x.Patterns+Uj x.Guards+Ij x.Calls+1+Uj x.Result.Heads)⟩⟩
def C3(x:Jy):Nat:=3+Qw x.Patterns+Uj x.Guards+Ij x.Calls+Uj x.Result.Heads
def J7m(l:List Jy)(k:Int):List Jy:=Vq Ci C3 l k
def Mz(l:List Jy):Nat:=cL C3 l
def J0d(x:X5):Nat:=2+D0 x.System.Rows+Gu x.Target.Coeffs
def En(x:Jc):Nat:=Gu x.Coeffs
def J63(x:Jq)(k:Int):Jq:=⟨J0s x.Functions (k),J7m x.Rules (k+Eo x.Functions)⟩
def Do(x:Jq):Nat:=Eo x.Functions+Mz x.Rules
def J9h(x:X0)(k:Int):X0:=⟨x.Kind,Sf x.Lins (k)⟩
def Fx(x:X0):Nat:=D0 x.Lins
theorem Dx{α:Type}{c w:α->Nat}(h:∀x,c x<=8+8*w x):∀l:List α,cL c l<=8*wL w l
 | []=>Nat.zero_le _
 |x::l=>by have h1:=h x;have h2:=Dx h l;simp only[cL];unfold wL at h2⊢;simp only[List.length_cons,List.map_cons,List.sum_cons];omega
theorem Jm7(l:List Int):Gu l<=8*Em l:=by rw[Ds];unfold Em;omega
theorem Jbe(l:List Je):Hr l<=8*Ir l:=by have:=Yk List.length l;rw[J75];unfold Ir;omega
theorem Jmn(x:Jc):El x<=8+8*U9 x:=by have:=Jm7 x.Coeffs;unfold El U9;omega
theorem Jca(l:List Jc):D0 l<=8*W5 l:=Dx Jmn l
theorem Jg9(x:Yb):C2 x<=8+8*Vg x:=by unfold C2 Vg;omega
theorem Jgc(l:List Yb):Mq l<=8*F9 l:=Dx Jg9 l
theorem Jle(x:Xb):Fi x<=8+8*Uw x:=by have:=Jgc x.Terms;unfold Fi Uw;omega
theorem Tj(l:List Xb):Uj l<=8*Wl l:=Dx Jle l
theorem Jmg(x:X8):Fz x<=8+8*Yz x:=by have:=Tj x.Heads;unfold Fz Yz;omega
theorem Jlw(l:List X8):Nt l<=8*G1 l:=Dx Jmg l
theorem J6y(x:K3):Ft x<=8+8*Ys x:=by have:=Jbe x.Params;have:=Jca x.Pre;unfold Ft Ys;omega
theorem J78(l:List K3):Eo l<=8*I4 l:=Dx J6y l
theorem J8v(x:X2):Fy x<=8+8*Qf x:=by unfold Fy Qf;omega
theorem J8w(l:List X2):Qw l<=8*O6 l:=Dx J8v l
theorem Jg1(x:Xf):Fm x<=8+8*Ub x:=by have:=Jlw x.Args;unfold Fm Ub;omega
theorem Jhx(l:List Xf):Ij l<=8*Iw l:=Dx Jg1 l
theorem Jib(x:Jy):C3 x<=8+8*Y0 x:=by have:=J8w x.Patterns;have:=Tj x.Guards;have:=Jhx x.Calls;have:=Tj x.Result.Heads;unfold C3 Y0 Yz;omega
theorem Jia(l:List Jy):Mz l<=8*G4 l:=Dx Jib l
theorem Jb5(x:Jq):Do x<=8*Ks x:=by have:=J78 x.Functions;have:=Jia x.Rules;unfold Do Ks;omega
theorem Jf9(x:X0):Fx x<=8*Bg x:=by have:=Jca x.Lins;unfold Fx Bg;omega
end Go.Proofs.YtoclolkigjbcgaaGreat

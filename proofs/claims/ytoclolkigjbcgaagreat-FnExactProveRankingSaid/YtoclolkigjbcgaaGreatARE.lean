/- R40-R43 -/
import Derived.Test.YtoclolkigjbcgaaGreatAT1
namespace Go.Proofs.YtoclolkigjbcgaaGreat
set_option linter.all false
open Go Go.RowKit
mutual
def dS:AV->Nat->AV×List Yi
 | .us sz rows,n=>(.ref n 0 rows.length,⟨true,sz,(Wo rows (n+1)).1⟩::(Wo rows (n+1)).2)
 | .agg cs,n=>(.agg (Uk cs n).1,(Uk cs n).2)
 | .tup cs,n=>(.tup (Uk cs n).1,(Uk cs n).2)
 |a,_=>(a,[])
def Uk:List AV->Nat->List AV×List Yi
 | [],_=>([],[])
 |a::as,n=>((dS a n).1::(Uk as (n+(dS a n).2.length)).1,(dS a n).2++(Uk as (n+(dS a n).2.length)).2)
def Wo:List (List AV)->Nat->List (List AV)×List Yi
 | [],_=>([],[])
 |r::rs,n=>((Uk r n).1::(Wo rs (n+(Uk r n).2.length)).1,(Uk r n).2++(Wo rs (n+(Uk r n).2.length)).2)
end
theorem J4v:∀(as:List AV) (n:Nat),(Uk as n).1.length=as.length
 | [],_=>rfl
 |a::as,n=>by simp[Uk,J4v as]
theorem J1t:∀(rs:List (List AV)) (n:Nat),(Wo rs n).1.length=rs.length
 | [],_=>rfl
 |r::rs,n=>by simp[Wo,J1t rs]
theorem Jav:∀(rs:List (List AV)) (n:Nat),∀r'∈(Wo rs n).1,∃r∈rs,r'.length=r.length
 | [],_,r',h=>by simp[Wo]at h
 |r::rs,n,r',h=>by
  simp only[Wo,List.mem_cons]at h;rcases h with rfl|h
  ·exact⟨r,by simp,J4v r n⟩
  ·obtain⟨x,hx,e⟩:=Jav rs _ r' h;exact⟨x,by simp[hx],e⟩
mutual
def TR(h:J8):AV->AV->List Nat->Prop
 | .us sz rows,a,I=>∃id rows' I',a = .ref id 0 rows.length/\I=id::I'/\h id=some ⟨true,sz,rows'⟩/\Wz h rows rows' I'
 | .agg cs,a,I=>∃cs',a = .agg cs'/\Y5 h cs cs' I
 | .tup cs,a,I=>∃cs',a = .tup cs'/\Y5 h cs cs' I
 | .int k n,a,I=>a = .int k n/\I=[]
 | .bool b,a,I=>a = .bool b/\I=[]
 | .str s,a,I=>a = .str s/\I=[]
 | .nilp,a,I=>a = .nilp/\I=[]
 |_,_,_=>False
def Y5(h:J8):List AV->List AV->List Nat->Prop
 | [],as,I=>as=[]/\I=[]
 |c::cs,as,I=>∃a as' I1 I2,as=a::as'/\I=I1++I2/\TR h c a I1/\Y5 h cs as' I2
def Wz(h:J8):List (List AV)->List (List AV)->List Nat->Prop
 | [],rs,I=>rs=[]/\I=[]
 |r::rows,rs,I=>∃a rs' I1 I2,rs=a::rs'/\I=I1++I2/\Y5 h r a I1/\Wz h rows rs' I2
end
section
variable {h h':J8}
mutual
theorem Mt:∀(t:AV) {a:AV}{I:List Nat},(∀id∈I,h' id=h id)->TR h t a I->TR h' t a I
 | .us sz rows,a,I,hf,ht=>by
  simp only[TR]at ht⊢;obtain⟨id,rows',I',e1,rfl,e2,e3⟩:=ht
  exact⟨id,rows',I',e1,rfl,(hf id (by simp)).trans e2,J2v rows (λid hi=>hf id (by simp[hi])) e3⟩
 | .agg cs,a,I,hf,ht=>by
  simp only[TR]at ht⊢;obtain⟨cs',e1,e2⟩:=ht
  exact⟨cs',e1,Nm cs hf e2⟩
 | .tup cs,a,I,hf,ht=>by
  simp only[TR]at ht⊢;obtain⟨cs',e1,e2⟩:=ht
  exact⟨cs',e1,Nm cs hf e2⟩
 | .int ..,_,_,_,ht | .bool _,_,_,_,ht | .str _,_,_,_,ht | .nilp,_,_,_,ht=>by simpa only[TR]using ht
 | .undef,_,_,_,ht | .nil _,_,_,_,ht | .ptr ..,_,_,_,ht | .fptr ..,_,_,_,ht | .ref ..,_,_,_,ht | .sl ..,_,_,_,ht | .fn ..,_,_,_,ht | .mp _,_,_,_,ht=>by simp only[TR]at ht
theorem Nm:∀(ts:List AV) {as:List AV}{I:List Nat},(∀id∈I,h' id=h id)->Y5 h ts as I->Y5 h' ts as I
 | [],as,I,hf,ht=>by simpa only[Y5]using ht
 |t::ts,as,I,hf,ht=>by simp only[Y5]at ht⊢;obtain⟨a,as',I1,I2,e1,rfl,e2,e3⟩:=ht;exact⟨a,as',I1,I2,e1,rfl,Mt t (λid hi=>hf id (by simp[hi])) e2,Nm ts (λid hi=>hf id (by simp[hi])) e3⟩
theorem J2v:∀(ts:List (List AV)) {as:List (List AV)}{I:List Nat},(∀id∈I,h' id=h id)->Wz h ts as I->Wz h' ts as I
 | [],as,I,hf,ht=>by simpa only[Wz]using ht
 |t::ts,as,I,hf,ht=>by simp only[Wz]at ht⊢;obtain⟨a,as',I1,I2,e1,rfl,e2,e3⟩:=ht;exact⟨a,as',I1,I2,e1,rfl,Nm t (λid hi=>hf id (by simp[hi])) e2,J2v ts (λid hi=>hf id (by simp[hi])) e3⟩
end
theorem J1u:∀{ts as:List AV}{I:List Nat},Y5 h ts as I->as.length=ts.length
 | [],as,I,ht=>by simp only[Y5]at ht;rw[ht.1]
 |t::ts,as,I,ht=>by simp only[Y5]at ht;obtain⟨a,as',I1,I2,rfl,_,_,e3⟩:=ht;simp[J1u e3]
theorem J57:∀{ts as:List (List AV)}{I:List Nat},Wz h ts as I->as.length=ts.length
 | [],as,I,ht=>by simp only[Wz]at ht;rw[ht.1]
 |t::ts,as,I,ht=>by simp only[Wz]at ht;obtain⟨a,as',I1,I2,rfl,_,_,e3⟩:=ht;simp[J57 e3]
theorem Jah:∀{ts as:List (List AV)}{I:List Nat},Wz h ts as I->∀r∈ts,∃r'∈as,r'.length=r.length
 | [],as,I,ht,r,hr=>by simp at hr
 |t::ts,as,I,ht,r,hr=>by
  simp only[Wz]at ht;obtain⟨a,as',I1,I2,rfl,_,e2,e3⟩:=ht;rcases List.mem_cons.1 hr with rfl|hr
  ·exact⟨a,by simp,J1u e2⟩
  ·obtain⟨r',h1,h2⟩:=Jah e3 r hr;exact⟨r',by simp[h1],h2⟩
theorem J6o:∀{ts as:List (List AV)}{I:List Nat}{i:Nat}{t:List AV},Wz h ts as I->ts[i]? = some t ->
 ∃a I1 I2 I3,as[i]? = some a/\I=I1++(I2++I3)/\Y5 h t a I2 /\
  ∀(h':J8) t' a',(∀id∈I1++I3,h' id=h id)->Y5 h' t' a' I2->Wz h' (ts.set i t') (as.set i a') I
 | [],as,I,i,t,ht,hi=>by simp at hi
 |x::ts,as,I,i,t,ht,hi=>by
  simp only[Wz]at ht;obtain⟨a,as',J1,J2,rfl,rfl,e2,e3⟩:=ht
  cases i with
  |zero=>
   simp only[List.getElem?_cons_zero,Option.some.injEq]at hi;subst hi;refine⟨a,[],J1,J2,rfl,rfl,e2,?_⟩;intro h' t' a' hf ht';simp only[List.set_cons_zero,Wz]
   exact⟨a',as',J1,J2,rfl,rfl,ht',J2v ts (λid hi=>hf id (by simpa using hi)) e3⟩
  |succ i=>
   simp only[List.getElem?_cons_succ]at hi;obtain⟨b,I1,I2,I3,g1,rfl,g3,g4⟩:=J6o e3 hi;refine⟨b,J1++I1,I2,I3,by simpa using g1,by simp,g3,?_⟩;intro h' t' a' hf ht';simp only[List.set_cons_succ,Wz];exact⟨a,_,J1,_,rfl,rfl,Nm x (λid hi=>hf id (by simp[hi])) e2,g4 h' t' a' (λid hi=>hf id (by simp at hi⊢;rcases hi with hi|hi <;>simp[hi])) ht'⟩
end
def Cc:Jz->List Nat
 | .at b _ _=>[b]
 | .none=>[]
structure DD (w:World) (bs:List Yi) (ls:List Jz) (S:List Nat) (n:Nat):Prop where
 len:ls.length=bs.length
 S:S=(ls.map Cc).flatten
 brel:∀(L:Nat->Option Jz) (n':Nat),n+bs.length<=n'->(∀(i:Nat) l,ls[i]? = some l->L (n+i)=some l)->∀(i:Nat) B l,bs[i]? = some B->ls[i]? = some l->V4 w L n' B l []
theorem DD.nil (w:World) (n:Nat):DD w [] [] [] n:=⟨rfl,rfl,by simp⟩
theorem DD.append {w:World}{bs bs':List Yi}{ls ls':List Jz}{S S':List Nat}{n:Nat}(d:DD w bs ls S n) (d':DD w bs' ls' S' (n+bs.length)) :
 DD w (bs++bs') (ls++ls') (S++S') n:=by
 refine⟨by simp[d.len,d'.len],by simp[d.S,d'.S],?_⟩;intro L n' hn hL i B l hB hl;simp only[List.length_append]at hn;by_cases hi:i<bs.length
 ·rw[List.getElem?_append_left hi]at hB;rw[List.getElem?_append_left (by rw[d.len];exact hi)]at hl;refine d.brel L n' (by omega) (λj l' hj=>hL j l' ?_) i B l hB hl;rw[List.getElem?_append_left (List.getElem?_eq_some_iff.1 hj).1];exact hj
 ·rw[List.getElem?_append_right (by omega)]at hB;rw[List.getElem?_append_right (by rw[d.len];omega),d.len]at hl;refine d'.brel L n' (by omega) (λj l' hj=>?_) _ B l hB hl;have:=hL (bs.length+j) l' (by rw[List.getElem?_append_right (by rw[d.len];omega),d.len,Nat.add_sub_cancel_left];exact hj);rw[<-this];congr 1;omega
section
variable {w:World}
mutual
theorem Jde:∀(r:AV) (n:Nat) (v:Value) (S:List Nat),Xl r=true->VR w Lo 0 r v S ->
 ∃ls,DD w (dS r n).2 ls S n/\∀(L:Nat->Option Jz) (n':Nat),n+(dS r n).2.length<=n'->(∀(i:Nat) l,ls[i]? = some l->L (n+i)=some l)->VR w L n' (dS r n).1 v []
 | .undef,_,_,_,c,_ | .nil _,_,_,_,c,_ | .ptr ..,_,_,_,c,_ | .fptr ..,_,_,_,c,_ | .ref ..,_,_,_,c,_ | .sl ..,_,_,_,c,_ | .fn ..,_,_,_,c,_ | .mp ..,_,_,_,c,_=>by simp[Xl]at c
 | .int ..,n,v,S,c,h=>by
  simp only[VR]at h;obtain⟨rfl,rfl⟩:=h
  exact⟨[],DD.nil w n,λL n' _ _=>by simp[dS,VR]⟩
 | .bool _,n,v,S,c,h=>by
  simp only[VR]at h;obtain⟨rfl,rfl⟩:=h
  exact⟨[],DD.nil w n,λL n' _ _=>by simp[dS,VR]⟩
 | .str _,n,v,S,c,h=>by
  simp only[VR]at h;obtain⟨h1,rfl⟩:=h
  exact⟨[],DD.nil w n,λL n' _ _=>by simp only[dS,VR];exact⟨h1,trivial⟩⟩
 | .nilp,n,v,S,c,h=>by
  simp only[VR]at h;obtain⟨rfl,rfl⟩:=h
  exact⟨[],DD.nil w n,λL n' _ _=>by simp[dS,VR]⟩
 | .us sz rows,n,v,S,c,h=>by
  simp only[VR,Xl]at h c;obtain⟨hl,h⟩:=h;rcases h with ⟨rfl,rfl,rfl⟩|⟨b,cap,cur,t,vals,rest,S',rfl,rfl,ho,hb,h1,h2,h3,h4,h5,h6,h6',h7⟩
  ·refine⟨[.none],⟨rfl,rfl,?_⟩,?_⟩
   ·intro L n' hn hL i B l g1 g2
    cases i with
    |zero=>simp only[dS,Wo,List.getElem?_cons_zero,Option.some.injEq]at g1 g2;subst g1 g2;exact⟨rfl,rfl⟩
    |succ i=>simp[dS,Wo]at g1
   ·intro L n' hn hL;have hL0:L n=some .none:=hL 0 _ rfl;simp only[dS,VR];refine⟨⟨by simp[dS]at hn;omega,rfl,?_⟩,trivial⟩;intro l hl';rw[hL0]at hl';cases hl';exact⟨Nat.zero_le _,rfl,rfl,rfl⟩
  ·obtain⟨ls,d,k⟩:=Jb2 rows (n+1) vals S' c h7;refine⟨.at b sz cap::ls,⟨by simp[dS,d.len],by simp[Cc,d.S],?_⟩,?_⟩
   ·intro L n' hn hL i B l g1 g2;simp only[dS,List.length_cons]at hn
    have hL':∀(i:Nat) l,ls[i]? = some l->L (n+1+i)=some l:=λi l hi=>by have:=hL (i+1) l (by simpa using hi);rw[<-this];congr 1;omega
    cases i with
    |zero=>
     simp only[dS,List.getElem?_cons_zero,Option.some.injEq]at g1 g2;subst g1 g2;refine V4.of ⟨rfl,λ_=>rfl,cur,t,vals,rest,hb,h1,h2,h3,h5,by rw[J1t];exact h4,by rw[J1t];exact hl,?_,h6',?_⟩
     ·intro r hr;obtain⟨x,hx,e⟩:=Jav _ _ r hr;rw[e];exact h6 x hx
     ·simp only[if_true]
      exact k L n' (by omega) hL'
    |succ i=>
     simp only[dS,List.getElem?_cons_succ]at g1 g2;exact d.brel L n' (by omega) hL' i B l g1 g2
   ·intro L n' hn hL;have hL0:L n=some (.at b sz cap):=hL 0 _ rfl;simp only[dS,VR];refine⟨⟨by simp[dS]at hn;omega,rfl,?_⟩,trivial⟩;intro l hl';rw[hL0]at hl';cases hl'
    exact⟨hl,some ⟨b,0,Option.none⟩,by simp,by simp,by omega⟩
 | .agg cs,n,v,S,c,h=>by
  simp only[VR,Xl]at h c;obtain⟨vs,rfl,h⟩:=h;obtain⟨ls,h1,h2⟩:=Tc cs n _ _ c h
  exact⟨ls,h1,λL n' hn hL=>by simp only[dS,VR];exact⟨vs,rfl,h2 L n' hn hL⟩⟩
 | .tup cs,n,v,S,c,h=>by simp only[VR,Xl]at h c;obtain⟨vs,rfl,h⟩:=h;obtain⟨ls,h1,h2⟩:=Tc cs n _ _ c h;exact⟨ls,h1,λL n' hn hL=>by simp only[dS,VR];exact⟨vs,rfl,h2 L n' hn hL⟩⟩
theorem Tc:∀(rs:List AV) (n:Nat) (vs:List Value) (S:List Nat),Uy rs=true->Jw w Lo 0 rs vs S ->
 ∃ls,DD w (Uk rs n).2 ls S n/\∀(L:Nat->Option Jz) (n':Nat),n+(Uk rs n).2.length<=n'->(∀(i:Nat) l,ls[i]? = some l->L (n+i)=some l)->Jw w L n' (Uk rs n).1 vs []
 | [],n,vs,S,c,h=>by
  simp only[Jw]at h;obtain⟨rfl,rfl⟩:=h
  exact⟨[],DD.nil w n,λL n' _ _=>by simp[Uk,Jw]⟩
 |a::as,n,vs,S,c,h=>by
  simp only[Uy,Bool.and_eq_true]at c;simp only[Jw]at h;obtain⟨v,vs',S1,S2,rfl,rfl,h1,h2⟩:=h;obtain⟨l1,d1,k1⟩:=Jde a n v S1 c.1 h1;obtain⟨l2,d2,k2⟩:=Tc as (n+(dS a n).2.length) vs' S2 c.2 h2;refine⟨l1++l2,d1.append d2,?_⟩;intro L n' hn hL;simp only[Uk,List.length_append]at hn;simp only[Uk];refine V0.2 ⟨v,vs',rfl,k1 L n' (by omega) ?_,k2 L n' (by omega) ?_⟩
  ·intro i p hp;refine hL i p ?_;rw[List.getElem?_append_left (List.getElem?_eq_some_iff.1 hp).1];exact hp
  ·intro i p hp;have:=hL ((dS a n).2.length+i) p (by rw[<-d1.len,List.getElem?_append_right (by omega),Nat.add_sub_cancel_left];exact hp);rw[<-this];congr 1;omega
theorem Jb2:∀(rs:List (List AV)) (n:Nat) (vs:List Value) (S:List Nat),Wi rs=true->X6 w Lo 0 rs vs S ->
 ∃ls,DD w (Wo rs n).2 ls S n/\∀(L:Nat->Option Jz) (n':Nat),n+(Wo rs n).2.length<=n'->(∀(i:Nat) l,ls[i]? = some l->L (n+i)=some l)->X6 w L n' (Wo rs n).1 vs []
 | [],n,vs,S,c,h=>by
  simp only[X6]at h;obtain⟨rfl,rfl⟩:=h
  exact⟨[],DD.nil w n,λL n' _ _=>by simp[Wo,X6]⟩
 |a::as,n,vs,S,c,h=>by
  simp only[Wi,Bool.and_eq_true]at c;simp only[X6]at h;obtain⟨v,vs',S1,S2,rfl,rfl,h1,h2⟩:=h;obtain⟨l1,d1,k1⟩:=Tc a n v S1 c.1 h1;obtain⟨l2,d2,k2⟩:=Jb2 as (n+(Uk a n).2.length) vs' S2 c.2 h2;refine⟨l1++l2,d1.append d2,?_⟩;intro L n' hn hL;simp only[Wo,List.length_append]at hn;simp only[Wo,X6];refine⟨v,vs',[],[],rfl,rfl,k1 L n' (by omega) ?_,k2 L n' (by omega) ?_⟩
  ·intro i p hp;refine hL i p ?_;rw[List.getElem?_append_left (List.getElem?_eq_some_iff.1 hp).1];exact hp
  ·intro i p hp;have:=hL ((Uk a n).2.length+i) p (by rw[<-d1.len,List.getElem?_append_right (by omega),Nat.add_sub_cancel_left];exact hp);rw[<-this];congr 1;omega
end
end
def Dm(h:J8)(n:Nat)(bs:List Yi):J8:=λid=>if n<=id then(match bs[id - n]? with|some B=>some B|Option.none=>h id)else h id
theorem K4.takeD {base:Nat}{w0 w1 w:World}{L:Nat->Option Jz}{N:Nat}{F:Nat->List Nat}{h:J8}{r:AV}{v:Value}{S:List Nat}
 (H:K4 base w0 w1 L N F [] h) (hb:Below w1.heap.size w1 w) (hc:Xl r=true) (hv:VR w Lo 0 r v S) (hn:S.Nodup) (hS:∀b∈S,w1.heap.size<=b/\b<w.heap.size) :
 ∃L' F',K4 base w0 w L' (N+(dS r N).2.length) F' [] (Dm h N (dS r N).2)/\VR w L' (N+(dS r N).2.length) (dS r N).1 v []/\Xf w1 L N w L' (N+(dS r N).2.length):=by
 obtain⟨ls,d,k⟩:=Jde r N v S hc hv;generalize hbs:(dS r N).2=bs at *
 let L':Nat->Option Jz:=λid=>if N<=id then(match ls[id - N]? with|some p=>some p|Option.none=>L id)else L id
 let F':Nat->List Nat:=λid=>if N<=id then []else F id
 have hLN:∀id,N<=id->L id=Option.none:=λid hid=>by
  cases hl:L id with
  |none=>rfl
  |some l=>exact absurd (H.lt id l hl) (by omega)
 have Lold:∀id,id<N->L' id=L id:=λid hid=>by show(if N<=id then _ else _)=_;rw[if_neg (by omega)]
 have Fold:∀id,id<N->F' id=F id:=λid hid=>by show(if N<=id then _ else _)=_;rw[if_neg (by omega)]
 have Lnew:∀(i:Nat) p,ls[i]? = some p->L' (N+i)=some p:=λi p hp=>by show(if N<=N+i then _ else _)=_;rw[if_pos (by omega),Nat.add_sub_cancel_left,hp]
 have Fcase:∀id b,b∈F' id->id<N/\b∈F id:=λid b hm=>by
  by_cases hid:N<=id
  ·have:F' id=[]:=by show(if N<=id then _ else _)=_;rw[if_pos hid]
   rw[this]at hm;cases hm
  ·rw[Fold id (by omega)]at hm;exact⟨by omega,hm⟩
 have Lcase:∀id l,L' id=some l->(id<N/\L id=some l)\/∃i:Nat,id=N+i/\ls[i]? = some l:=λid l hl=>by
  by_cases hid:N<=id
  ·cases hp:ls[id - N]? with
   |none=>
    have:L' id=L id:=by show(if N<=id then _ else _)=_;rw[if_pos hid,hp]
    rw[this,hLN id hid]at hl;cases hl
   |some p=>
    right;have:=Lnew (id - N) p hp;rw[show N+(id - N)=id by omega]at this;rw[this]at hl;cases hl;exact⟨id - N,by omega,hp⟩
  ·left;rw[Lold id (by omega)]at hl;exact⟨by omega,hl⟩
 have hnd:(ls.map Cc).flatten.Nodup:=d.S ▸ hn
 have hatb:∀(i b sz cap:Nat),ls[i]? = some (Jz.at b sz cap)->b∈S:=λi b sz cap hp=>by rw[d.S];exact List.mem_flatten.2 ⟨Cc (.at b sz cap),List.mem_map.2 ⟨_,List.mem_of_getElem? hp,rfl⟩,by simp[Cc]⟩
 have ownL':∀b,Un L' b->Un L b\/b∈S:=by
  rintro b ⟨id,sz,cap,hid⟩;rcases Lcase id _ hid with ⟨_,hl⟩|⟨i,rfl,hp⟩
  ·exact .inl ⟨id,sz,cap,hl⟩
  ·exact .inr (hatb i b sz cap hp)
 have e:Xf w1 L N w L' (N+bs.length):=by
  refine⟨by omega,?_,hb.size,?_⟩
  ·intro id l hid hl;rw[Lold id hid]at hl;exact hl
  ·intro b hlt ho;refine⟨hb.block b hlt,λh'=>?_⟩;rcases ownL' b h' with h'|h'
   ·exact ho h'
   ·have:=(hS b h').1;omega
 have hlen:=d.len;refine⟨L',F',⟨H.below.trans (hb.mono H.bsz),Nat.le_trans H.bsz hb.size,?_,?_,?_,?_,?_,?_,?_,by simp,?_,List.nodup_nil,?_,by simp⟩,k L' _ (Nat.le_refl _) Lnew,e⟩
 ·intro id hid;unfold Dm at hid;by_cases hN:N<=id
  ·rw[if_pos hN]at hid
   cases hr:bs[id - N]? with
   |none=>
    rw[hr]at hid;have hls:ls[id - N]? = Option.none:=by rw[List.getElem?_eq_none_iff]at hr⊢;omega
    show(if N<=id then _ else _)=_
    rw[if_pos hN,hls];exact hLN id hN
   |some r'=>rw[hr]at hid;cases hid
  ·rw[if_neg hN]at hid;rw[Lold id (by omega)];exact H.dom id hid
 ·intro id hid;unfold Dm;by_cases hN:N<=id
  ·rw[if_pos hN]
   cases hr:bs[id - N]? with
   |none=>exact H.mod id (hLN id hN)
   |some r'=>
    have:id - N<ls.length:=by rw[hlen];exact(List.getElem?_eq_some_iff.1 hr).1
    have:=Lnew (id - N) _ (List.getElem?_eq_getElem this);rw[show N+(id - N)=id by omega,hid]at this;cases this
  ·rw[if_neg hN];rw[Lold id (by omega)]at hid;exact H.mod id hid
 ·intro id l hl;rcases Lcase id l hl with ⟨h1,_⟩|⟨i,rfl,hp⟩
  ·omega
  ·have:=(List.getElem?_eq_some_iff.1 hp).1;omega
 ·intro id id' b sz cap sz' cap' h1 h2;rcases Lcase id _ h1 with ⟨_,h1⟩|⟨i,rfl,hp⟩
  ·rcases Lcase id' _ h2 with ⟨_,h2⟩|⟨i',rfl,hp'⟩
   ·exact H.inj id id' b _ _ _ _ h1 h2
   ·have g1:=H.own_lt ⟨id,sz,cap,h1⟩;have g2:=(hS b (hatb i' b sz' cap' hp')).1;omega
  ·rcases Lcase id' _ h2 with ⟨_,h2⟩|⟨i',rfl,hp'⟩
   ·have g1:=H.own_lt ⟨id',sz',cap',h2⟩;have g2:=(hS b (hatb i b sz cap hp)).1;omega
   ·rw[Tn hnd i i' b _ _ (by rw[List.getElem?_map,hp];rfl) (by rw[List.getElem?_map,hp'];rfl) (by simp[Cc]) (by simp[Cc])]
 ·intro b ho;rcases ownL' b ho with h'|h'
  ·exact H.lo b h'
  ·exact Nat.le_trans H.bsz (hS b h').1
 ·intro id B l h1 h2;rcases Lcase id l h2 with ⟨hid,hl⟩|⟨i,rfl,hp⟩
  ·unfold Dm at h1;rw[if_neg (by omega)]at h1;rw[Fold id hid];exact(H.blk id B l h1 hl).ext e λb sz cap hl'=>hb.block b (H.own_lt ⟨id,sz,cap,hl' ▸ hl⟩)
  ·have hF:F' (N+i)=[]:=by show(if N<=N+i then _ else _)=_;rw[if_pos (by omega)]
   rw[hF];unfold Dm at h1;rw[if_pos (by omega),Nat.add_sub_cancel_left]at h1;have hi:i<bs.length:=by have:=(List.getElem?_eq_some_iff.1 hp).1;omega
   rw[List.getElem?_eq_getElem hi]at h1;simp only[Option.some.injEq]at h1;subst h1;exact d.brel L' _ (Nat.le_refl _) Lnew i _ l (List.getElem?_eq_getElem hi) hp
 ·intro id b hm;obtain⟨_,h1⟩:=Fcase id b hm;obtain⟨g1,g2,g3⟩:=H.fp id b h1;exact⟨(e.block b g3 g1).2,g2,Nat.lt_of_lt_of_le g3 hb.size⟩
 ·intro id;by_cases hid:N<=id
  ·have:F' id=[]:=by show(if N<=id then _ else _)=_;rw[if_pos hid]
   rw[this];exact List.nodup_nil
  ·rw[Fold id (by omega)];exact H.nd id
 ·intro id id' b h1 h2;exact H.dj id id' b (Fcase id b h1).2 (Fcase id' b h2).2
section
variable {h:J8}
mutual
theorem Jwz:∀(r:AV) (n:Nat),Xl r=true->(∀(i:Nat) B,(dS r n).2[i]? = some B->h (n+i)=some B)->TR h r (dS r n).1 (List.range' n (dS r n).2.length)
 | .undef,_,c,_ | .nil _,_,c,_ | .ptr ..,_,c,_ | .fptr ..,_,c,_ | .ref ..,_,c,_ | .sl ..,_,c,_ | .fn ..,_,c,_ | .mp ..,_,c,_=>by simp[Xl]at c
 | .int ..,n,c,hh | .bool _,n,c,hh | .str _,n,c,hh | .nilp,n,c,hh=>by simp[dS,TR]
 | .us sz rows,n,c,hh=>by
  simp only[Xl]at c;simp only[dS,TR,List.length_cons];refine⟨n,(Wo rows (n+1)).1,List.range' (n+1) (Wo rows (n+1)).2.length,rfl,by rw[List.range'_succ],by simpa using hh 0 _ (by simp[dS]),Jke rows (n+1) c ?_⟩;intro i B hB;have:=hh (i+1) B (by simpa[dS]using hB)
  rw[<-this];congr 1;omega
 | .agg cs,n,c,hh=>by
  simp only[Xl]at c;simp only[dS,TR]
  exact⟨_,rfl,Pu cs n c (by simpa only[dS]using hh)⟩
 | .tup cs,n,c,hh=>by simp only[Xl]at c;simp only[dS,TR];exact⟨_,rfl,Pu cs n c (by simpa only[dS]using hh)⟩
theorem Pu:∀(rs:List AV) (n:Nat),Uy rs=true->(∀(i:Nat) B,(Uk rs n).2[i]? = some B->h (n+i)=some B)->Y5 h rs (Uk rs n).1 (List.range' n (Uk rs n).2.length)
 | [],n,c,hh=>by simp[Uk,Y5]
 |a::as,n,c,hh=>by
  simp only[Uy,Bool.and_eq_true]at c;simp only[Uk,Y5];refine⟨_,_,List.range' n (dS a n).2.length,List.range' (n+(dS a n).2.length) (Uk as (n+(dS a n).2.length)).2.length,rfl,?_,Jwz a n c.1 ?_,Pu as _ c.2 ?_⟩
  ·rw[List.length_append,List.range'_append_1]
  ·intro i B hB;refine hh i B ?_;simp only[Uk];rw[List.getElem?_append_left (List.getElem?_eq_some_iff.1 hB).1];exact hB
  ·intro i B hB;have:=hh ((dS a n).2.length+i) B (by simp only[Uk];rw[List.getElem?_append_right (by omega),Nat.add_sub_cancel_left];exact hB);rw[<-this];congr 1;omega
theorem Jke:∀(rs:List (List AV)) (n:Nat),Wi rs=true->(∀(i:Nat) B,(Wo rs n).2[i]? = some B->h (n+i)=some B)->Wz h rs (Wo rs n).1 (List.range' n (Wo rs n).2.length)
 | [],n,c,hh=>by simp[Wo,Wz]
 |a::as,n,c,hh=>by
  simp only[Wi,Bool.and_eq_true]at c;simp only[Wo,Wz];refine⟨_,_,List.range' n (Uk a n).2.length,List.range' (n+(Uk a n).2.length) (Wo as (n+(Uk a n).2.length)).2.length,rfl,?_,Pu a n c.1 ?_,Jke as _ c.2 ?_⟩
  ·rw[List.length_append,List.range'_append_1]
  ·intro i B hB;refine hh i B ?_;simp only[Wo];rw[List.getElem?_append_left (List.getElem?_eq_some_iff.1 hB).1];exact hB
  ·intro i B hB;have:=hh ((Uk a n).2.length+i) B (by simp only[Wo];rw[List.getElem?_append_right (by omega),Nat.add_sub_cancel_left];exact hB);rw[<-this];congr 1;omega
end
end
section
variable {base:Nat}{w0 w:World}{L:Nat->Option Jz}{N:Nat}{F:Nat->List Nat}{E:List Nat}{h:J8}
mutual
theorem Jd7(H:K4 base w0 w L N F E h):∀(t:AV) {a:AV}{I:List Nat}{v:Value}{M:Nat},TR h t a I->VR w L M a v []->VR w Lo 0 (dr t) v []
 | .undef,_,_,_,_,ht,_ | .nil _,_,_,_,_,ht,_ | .ptr ..,_,_,_,_,ht,_ | .fptr ..,_,_,_,_,ht,_ | .ref ..,_,_,_,_,ht,_ | .sl ..,_,_,_,_,ht,_ | .fn ..,_,_,_,_,ht,_ | .mp _,_,_,_,_,ht,_=>by simp only[TR]at ht
 | .int ..,a,I,v,M,ht,hv=>by simp only[TR]at ht;obtain⟨rfl,_⟩:=ht;simpa only[VR,dr]using hv
 | .bool _,a,I,v,M,ht,hv=>by simp only[TR]at ht;obtain⟨rfl,_⟩:=ht;simpa only[VR,dr]using hv
 | .str _,a,I,v,M,ht,hv=>by simp only[TR]at ht;obtain⟨rfl,_⟩:=ht;simpa only[VR,dr]using hv
 | .nilp,a,I,v,M,ht,hv=>by simp only[TR]at ht;obtain⟨rfl,_⟩:=ht;simpa only[VR,dr]using hv
 | .agg cs,a,I,v,M,ht,hv=>by
  simp only[TR]at ht;obtain⟨cs',rfl,ht⟩:=ht;simp only[VR,dr]at hv⊢;obtain⟨vs,rfl,hv⟩:=hv
  exact⟨vs,rfl,Sr H cs ht hv⟩
 | .tup cs,a,I,v,M,ht,hv=>by
  simp only[TR]at ht;obtain⟨cs',rfl,ht⟩:=ht;simp only[VR,dr]at hv⊢;obtain⟨vs,rfl,hv⟩:=hv
  exact⟨vs,rfl,Sr H cs ht hv⟩
 | .us sz rows,a,I,v,M,ht,hv=>by
  simp only[TR]at ht;obtain⟨id,rows',I',rfl,rfl,hB,hR⟩:=ht;have hlr:=J57 hR;have hlenT:(Yl rows).length=rows.length:=by rw[Wx];simp
  cases hl:L id with
  |none=>rw[H.mod id hl]at hB;cases hB
  |some l=>
   simp only[VR]at hv;have hr:=hv.1.2.2 l hl;have hbr:=H.blk id _ l hB hl
   cases l with
   |none=>
    obtain⟨hrows,_⟩:=hbr;simp only at hrows;obtain⟨_,_,hl0,rfl⟩:=hr;have hr0:rows=[]:=List.eq_nil_of_length_eq_zero hl0;subst hr0;simp only[VR,dr,Yl]
    exact⟨⟨_,_,[],rfl,⟨Nat.zero_le _,Nat.le_refl _⟩,⟨rfl,rfl⟩,.inl trivial⟩,trivial⟩
   | «at» b sz' cap=>
    obtain⟨hlim,A,rfl,hA,hcap⟩:=hr;obtain⟨rfl,hF,cur,t,vals,rest,h1,h2,h3,h4,h5,h6,h7,h8,h9,h10⟩:=hbr.cells hcap.2;simp only[if_true]at h10;rw[hF rfl]at h10;have g:=Jab H rows hR h10;simp only[VR,dr,hlenT];refine⟨⟨A,_,vals,rfl,⟨hlim,by omega⟩,g,?_⟩,trivial⟩;right;refine⟨b,0,by simpa using hA (.inr rfl),Et b,Ox h1,?_,?_,h9⟩
    ·intro r hr;rw[Wx]at hr;obtain⟨r',hr',rfl⟩:=List.mem_map.1 hr;rw[El,List.length_map];obtain⟨x,hx,e⟩:=Jah hR r' hr';rw[<-e];exact h8 x hx
    ·exact Ca (pre:=[]) (vals:=vals) (rest:=rest) h1 (by rw[h2];simp)
theorem Sr(H:K4 base w0 w L N F E h):∀(ts:List AV) {as:List AV}{I:List Nat}{vs:List Value}{M:Nat},Y5 h ts as I->Jw w L M as vs []->Jw w Lo 0 (Yw ts) vs []
 | [],as,I,vs,M,ht,hv=>by
  simp only[Y5]at ht;obtain⟨rfl,_⟩:=ht
  simpa only[Jw,Yw]using hv
 |t::ts,as,I,vs,M,ht,hv=>by simp only[Y5]at ht;obtain⟨a,as',I1,I2,rfl,_,h1,h2⟩:=ht;obtain⟨v,vs',rfl,g1,g2⟩:=V0.1 hv;simp only[Yw];exact V0.2 ⟨v,vs',rfl,Jd7 H t h1 g1,Sr H ts h2 g2⟩
theorem Jab(H:K4 base w0 w L N F E h):∀(ts:List (List AV)) {as:List (List AV)}{I:List Nat}{vs:List Value}{M:Nat},Wz h ts as I->X6 w L M as vs []->X6 w Lo 0 (Yl ts) vs []
 | [],as,I,vs,M,ht,hv=>by
  simp only[Wz]at ht;obtain⟨rfl,_⟩:=ht
  simpa only[X6,Yl]using hv
 |t::ts,as,I,vs,M,ht,hv=>by simp only[Wz]at ht;obtain⟨a,as',I1,I2,rfl,_,h1,h2⟩:=ht;simp only[X6]at hv;obtain⟨v1,v2,S1,S2,rfl,hS,g1,g2⟩:=hv;obtain⟨rfl,rfl⟩:=List.append_eq_nil_iff.1 hS.symm;simp only[Yl,X6];exact⟨v1,v2,[],[],rfl,rfl,Sr H t h1 g1,Jab H ts h2 g2⟩
end
end
def Ke8(h:J8)(a t:AV):Prop:=bw a h=some t\/∃t' I,TR h t' a I/\dr t'=t
def Ni(h:J8):List AV->List AV->Prop
 | [],[]=>True
 |a::as,t::ts=>Ke8 h a t/\Ni h as ts
 |_,_=>False
theorem J0u{base:Nat}{w0 w:World}{L:Nat->Option Jz}{N:Nat}{F:Nat->List Nat}{E:List Nat}{h:J8}(H:K4 base w0 w L N F E h) :
 ∀{as ts:List AV}{vs:List Value},Ni h as ts->Jw w L N as vs []->Jw w Lo 0 ts vs []
 | [],[],vs,_,hv=>by simpa only[Jw]using hv
 |a::as,t::ts,vs,hl,hv=>by
  obtain⟨v,vs',rfl,g1,g2⟩:=V0.1 hv;refine V0.2 ⟨v,vs',rfl,?_,J0u H hl.2 g2⟩;rcases hl.1 with hb|⟨t',I,ht,rfl⟩
  ·exact Jbh H a g1 hb
  ·exact Jd7 H t' ht g1
 | [],_::_,_,hl,_=>hl.elim
 |_::_,[],_,hl,_=>hl.elim
section
variable {P:Program}
theorem J0w{f:FuncId}{as as':List AV}{h:J8}{n:Nat}{Q:AV->Prop}{K:AV->J8->Nat->Prop}(hh:Holds P f as' Q)(hb:Ni h as as')
 (hK:∀r a h' n' I,Q r->TR h' r a I->I.Nodup->(∀id∈I,n<=id/\id<n')->n<=n'->(∀id,id<n->h' id=h id)->K a h' n'):X9 P f as h n λr h' n'=>Y6 h h'/\K r h' n':=by
 refine⟨hh.1,λbase w0 w L F vs H hv=>?_⟩;refine(hh.2 w vs (J0u H hb hv)).mono ?_;rintro e w' ⟨v,r,S,rfl,hq,hcl,hbel,hr,hnd,hS⟩;obtain⟨L',F',g1,g2,g3⟩:=H.takeD hbel hcl hr hnd hS;have hold:∀id,id<n->Dm h n (dS r n).2 id=h id:=λid hid=>by unfold Dm;rw[if_neg (by omega)]
 refine⟨v,_,L',_,F',_,rfl,g1,g3,g2,λid B hB=>?_,hK r _ _ _ (List.range' n (dS r n).2.length) hq (Jwz r n hcl ?_) List.nodup_range' (λid hid=>by simpa using hid) (by omega) hold⟩
 ·have hlt:id<n:=by
   cases hl:L id with
   |none=>rw[H.mod id hl]at hB;cases hB
   |some l=>exact H.lt id l hl
  rw[hold id hlt];exact hB
 ·intro i B hB;unfold Dm;rw[if_pos (by omega),Nat.add_sub_cancel_left,hB]
def Ih(P:Program)(f:FuncId)(t:AV)(k:Int)(t':AV)(k':Int):Prop:=
 ∀(h:J8) (n:Nat) (a:AV) (I:List Nat) (K:AV->J8->Nat->Prop),TR h t a I->I.Nodup->(∀id∈I,id<n) ->
  (∀h' n',n<=n'->(∀id,id<n->id∉I->h' id=h id)->TR h' t' a I->K (i64 k') h' n')->X9 P f [a,i64 k] h n K
end
open Go Go.RowKit
abbrev Ws:=AV×AV×List Nat
def Wc(h:J8)(n:Nat):List Ws->Prop
 | []=>True
 |x::T=>TR h x.1 x.2.1 x.2.2/\x.2.2.Nodup/\(∀id∈x.2.2,id<n)/\(∀y∈T,∀id∈x.2.2,id∉y.2.2)/\Wc h n T
section
variable {h h':J8}{n n':Nat}
theorem Wc.ids:∀{T:List Ws},Wc h n T->∀x∈T,TR h x.1 x.2.1 x.2.2/\x.2.2.Nodup/\∀id∈x.2.2,id<n
 |y::T,hL,x,hx=>by
  obtain⟨h1,h2,h3,_,h5⟩:=hL;rcases List.mem_cons.1 hx with rfl|hx
  ·exact⟨h1,h2,h3⟩
  ·exact Wc.ids h5 x hx
theorem Wc.up:∀{T:List Ws},Wc h n T->n<=n'->(∀id,id<n->h' id=h id)->Wc h' n' T
 | [],_,_,_=>trivial
 |x::T,⟨h1,h2,h3,h4,h5⟩,hn,hh=>⟨Mt x.1 (λid hi=>hh id (h3 id hi)) h1,h2,λid hi=>Nat.lt_of_lt_of_le (h3 id hi) hn,h4,Wc.up h5 hn hh⟩
theorem Wc.turn {t t' a:AV}{I:List Nat}{T2:List Ws} : ∀{T1:List Ws},Wc h n (T1++(t,a,I)::T2)->n<=n'->(∀id,id<n->id∉I->h' id=h id)->TR h' t' a I->Wc h' n' (T1++(t',a,I)::T2)
 | [],⟨h1,h2,h3,h4,h5⟩,hn,hh,ht=>by
  refine⟨ht,h2,λid hi=>Nat.lt_of_lt_of_le (h3 id hi) hn,h4,?_⟩
  have:∀(T:List Ws),(∀y∈T,∀id∈I,id∉y.2.2)->Wc h n T->Wc h' n' T:=by
   intro T
   induction T with
   |nil=>intros;trivial
   |cons y T ih=>
    rintro hd ⟨g1,g2,g3,g4,g5⟩;exact⟨Mt y.1 (λid hi=>hh id (g3 id hi) λhI=>hd y (by simp) id hI hi) g1,g2,λid hi=>Nat.lt_of_lt_of_le (g3 id hi) hn,g4,ih (λz hz=>hd z (by simp[hz])) g5⟩
  exact this T2 h4 h5
 |x::T1,⟨h1,h2,h3,h4,h5⟩,hn,hh,ht=>by
  have hx:∀id∈x.2.2,id∉I:=h4 (t,a,I) (by simp);refine⟨Mt x.1 (λid hi=>hh id (h3 id hi) (hx id hi)) h1,h2,λid hi=>Nat.lt_of_lt_of_le (h3 id hi) hn,?_,Wc.turn h5 hn hh ht⟩;intro y hy;rcases List.mem_append.1 hy with hy|hy
  ·exact h4 y (by simp[hy])
  ·rcases List.mem_cons.1 hy with rfl|hy
   ·exact hx
   ·exact h4 y (by simp[hy])
def K95(T:List Ws)(a t:AV):Prop:=(∀h,bw a h=some t)\/∃x∈T,x.2.1=a/\dr x.1=t
def Oj(T:List Ws):List AV->List AV->Prop
 | [],[]=>True
 |a::as,t::ts=>K95 T a t/\Oj T as ts
 |_,_=>False
theorem Oj.ok {T:List Ws}(hL:Wc h n T):∀{as ts:List AV},Oj T as ts->Ni h as ts
 | [],[],_=>trivial
 |a::as,t::ts,⟨h1,h2⟩=>by
  refine⟨?_,Oj.ok hL h2⟩;rcases h1 with h1|⟨x,hx,rfl,rfl⟩
  ·exact .inl (h1 h)
  ·exact .inr ⟨x.1,x.2.2,(hL.ids x hx).1,rfl⟩
 | [],_::_,hl=>hl.elim
 |_::_,[],hl=>hl.elim
variable {P:Program}{f:FuncId}{as as':List AV}{T:List Ws}{K:AV->J8->Nat->Prop}
theorem Jov{c:AV}{n:Nat}(hc:Vk c=true):dS c n=(c,[]):=by
 unfold Vk at hc;split at hc
 ·rfl
 ·rfl
 ·rfl
 ·simp[dS,Uk]
 ·cases hc
theorem Jig(h:J8)(n:Nat):Dm h n []=h:=by funext id;unfold Dm;split <;>simp
theorem J3n{c:AV}(hh:Holds P f as' (λr=>r=c))(hc:Vk c=true)(hb:Ni h as as')(hk:K c h n):X9 P f as h n λr h' n'=>Y6 h h'/\K r h' n':=by refine⟨hh.1,λbase w0 w L F vs H hv=>?_⟩;refine(hh.2 w vs (J0u H hb hv)).mono ?_;rintro e w' ⟨v,r,S,rfl,rfl,hcl,hbel,hr,hnd,hS⟩;obtain⟨L',F',g1,g2,g3⟩:=H.takeD hbel hcl hr hnd hS;rw[Jov hc]at g1 g2 g3;simp only[Jig,List.length_nil,Nat.add_zero]at g1 g2 g3;exact⟨v,_,L',_,F',_,rfl,g1,g3,g2,Y6.refl _,hk⟩
theorem Jf8{c:AV}(hh:Holds P f as' (λr=>r=c))(hL:Wc h n T)(hc:Vk c=true)(hb:Oj T as as')(hk:K c h n):X9 P f as h n K:=
 X9.mono (J3n hh hc (hb.ok hL) hk) λ_ _ _ h=>h.2
theorem Jby{c:AV}(hh:Holds P f as' (λr=>r=c))(hL:Wc h n T)(hc:Vk c=true)(hb:Oj T as as')(hk:K c h n):X9 P f as h n (hK h K):=J3n hh hc (hb.ok hL) hk
theorem Jwa{t:AV}(hh:Holds P f as' (λr=>r=t))(hL:Wc h n T)(hb:Oj T as as')
 (hk:∀a h' n' I,Wc h' n' ((t,a,I)::T)->n<=n'->(∀id,id<n->h' id=h id)->TR h' t a I->K a h' n'):X9 P f as h n λr h' n'=>Y6 h h'/\K r h' n':=
 J0w hh (hb.ok hL) λr a h' n' I hr h1 h2 h3 h4 h5=>by subst hr;refine hk a h' n' I ⟨h1,h2,λid hi=>(h3 id hi).2,?_,hL.up h4 h5⟩ h4 h5 h1;intro y hy id hi hi';have:=(hL.ids y hy).2.2 id hi';have:=(h3 id hi).1;omega
theorem J7b{t t' a:AV}{k k':Int}{I:List Nat}{T1 T2:List Ws}(hm:Ih P f t k t' k')(hL:Wc h n (T1++(t,a,I)::T2))
 (hk:∀h' n',Wc h' n' (T1++(t',a,I)::T2)->n<=n'->(∀id,id<n->id∉I->h' id=h id)->K (i64 k') h' n'):X9 P f [a,i64 k] h n K:=by
 obtain⟨h1,h2,h3⟩:=hL.ids (t,a,I) (by simp);exact hm h n a I K h1 h2 h3 λh' n' hn hh ht=>hk h' n' (hL.turn hn hh ht) hn hh
end
open Go Go.RowKit
def Vj{α:Type}(m:α->Int->α)(c:α->Nat):List α->Int->List α
 | [],_=>[]
 |x::l,k=>m x k::Vj m c l (k+c x)
def cL{α:Type}(c:α->Nat):List α->Nat
 | []=>0
 |x::l=>c x+cL c l
theorem Jd4{α:Type} : ∀l:List α,cL (λ_=>1) l=l.length
 | []=>rfl
 |x::l=>by simp[cL,Jd4 l];omega
section
variable {h:J8}
theorem Jpx{A B as:List (List AV)}{r:List AV}{I:List Nat}(ht:Wz h (A++r::B) as I) :
 ∃a I1 I2 I3,as[A.length]? = some a/\I=I1++(I2++I3)/\Y5 h r a I2 /\
  ∀(h':J8) r' a',(∀id∈I1++I3,h' id=h id)->Y5 h' r' a' I2->Wz h' (A++r'::B) (as.set A.length a') I:=by
 obtain⟨a,I1,I2,I3,g1,g2,g3,g4⟩:=J6o (i:=A.length) (t:=r) ht (by simp);exact⟨a,I1,I2,I3,g1,g2,g3,λh' r' a' hf hr=>by have:=g4 h' r' a' hf hr;simpa using this⟩
theorem Ds{k:IntKind}{n:Int}{ts as:List AV}{I:List Nat} : Y5 h (.int k n::ts) as I↔∃as',as = .int k n::as'/\Y5 h ts as' I:=by
 simp only[Y5,TR];constructor
 ·rintro⟨a,as',I1,I2,rfl,rfl,⟨rfl,rfl⟩,h2⟩;exact⟨as',rfl,h2⟩
 ·rintro⟨as',rfl,h2⟩;exact⟨_,as',[],I,rfl,rfl,⟨rfl,rfl⟩,h2⟩
theorem Fa{b:Bool}{ts as:List AV}{I:List Nat} : Y5 h (.bool b::ts) as I↔∃as',as = .bool b::as'/\Y5 h ts as' I:=by
 simp only[Y5,TR];constructor
 ·rintro⟨a,as',I1,I2,rfl,rfl,⟨rfl,rfl⟩,h2⟩;exact⟨as',rfl,h2⟩
 ·rintro⟨as',rfl,h2⟩;exact⟨_,as',[],I,rfl,rfl,⟨rfl,rfl⟩,h2⟩
theorem Vl{b:List UInt8}{ts as:List AV}{I:List Nat} : Y5 h (.str b::ts) as I↔∃as',as = .str b::as'/\Y5 h ts as' I:=by
 simp only[Y5,TR];constructor
 ·rintro⟨a,as',I1,I2,rfl,rfl,⟨rfl,rfl⟩,h2⟩;exact⟨as',rfl,h2⟩
 ·rintro⟨as',rfl,h2⟩;exact⟨_,as',[],I,rfl,rfl,⟨rfl,rfl⟩,h2⟩
theorem Wf{as:List AV}{I:List Nat} : Y5 h [] as I↔as=[]/\I=[]:=by simp only[Y5]
theorem Iu{sz:Nat}{rows:List (List AV)}{ts as:List AV}{I:List Nat}(hh:Y5 h (.us sz rows::ts) as I):∃id len as' I1 I2,as = .ref id 0 len::as'/\I=I1++I2/\len=rows.length/\TR h (.us sz rows) (.ref id 0 len) I1/\Y5 h ts as' I2:=by simp only[Y5]at hh;obtain⟨a,as',I1,I2,rfl,rfl,h1,h2⟩:=hh;have h1':=h1;simp only[TR]at h1;obtain⟨id,rows',I',rfl,_⟩:=h1;exact⟨id,_,as',I1,I2,rfl,rfl,rfl,h1',h2⟩
theorem Iz{t a:AV}{ts as:List AV}{I1 I2:List Nat}(h1:TR h t a I1)(h2:Y5 h ts as I2):Y5 h (t::ts) (a::as) (I1++I2):=by simp only[Y5];exact⟨_,as,I1,I2,rfl,rfl,h1,h2⟩
theorem Jka{ts:List AV}{a:AV}{I:List Nat} : TR h (.agg ts) a I↔∃as,a = .agg as/\Y5 h ts as I:=by simp only[TR]
theorem Jd8{ts as:List AV}{I:List Nat} : TR h (.agg ts) (.agg as) I↔Y5 h ts as I:=by simp only[TR,AV.agg.injEq];exact⟨λ⟨_,e,h⟩=>e ▸ h,λh=>⟨_,rfl,h⟩⟩
theorem Ou{sz:Nat}{rows:List (List AV)}{a:AV}{I:List Nat}(ht:TR h (.us sz rows) a I):∃id rows' I',a = .ref id 0 rows.length/\I=id::I'/\h id=some ⟨true,sz,rows'⟩/\Wz h rows rows' I':=by simpa only[TR]using ht
end
theorem Hi{h:J8}{sz id off len:Nat}{rows:List (List AV)}{I:List Nat}(ht:TR h (.us sz rows) (.ref id off len) I):(h id).isSome=true:=by obtain⟨id',rows',I',q1,rfl,q2,q3⟩:=Ou ht;simp only[AV.ref.injEq]at q1;obtain⟨rfl,_,_⟩:=q1;rw[q2];rfl
def MJ{α:Type}(m:α->Int->α)(c:α->Nat)(rU:α->List AV)(sz:Nat)(h0:J8)(n0:Nat)(id:Nat)(I:List Nat)(l:List α)(k:Int)(i:Nat)(s1:AV)(h:J8)(n:Nat):Prop:=
 ∃(A rest:List α) (ki:Int),A.length=i/\A.length+rest.length=l.length/\Vj m c l k=A++Vj m c rest ki/\k<=ki/\ki+cL c rest=k+cL c l/\s1=i64 ki/\n0<=n/\(∀j,j<n0->j∉I->h j=h0 j) /\
  TR h (.us sz ((A++rest).map rU)) (.ref id 0 l.length) I
section
variable {α:Type}{m:α->Int->α}{c:α->Nat}{rU:α->List AV}{sz:Nat}{h0 h:J8}{n0 n id:Nat}{I:List Nat}{l:List α}{k:Int}{i:Nat}{s1:AV}
theorem MJ.start (ht:TR h (.us sz (l.map rU)) (.ref id 0 l.length) I):MJ m c rU sz h n id I l k 0 (i64 k) h n:=
 ⟨[],l,k,rfl,by simp,rfl,Int.le_refl _,rfl,rfl,Nat.le_refl _,λ_ _ _=>rfl,by simpa using ht⟩
theorem MJ.fin (hJ:MJ m c rU sz h0 n0 id I l k l.length s1 h n):s1=i64 (k+cL c l)/\n0<=n/\(∀j,j<n0->j∉I->h j=h0 j)/\TR h (.us sz ((Vj m c l k).map rU)) (.ref id 0 l.length) I:=by obtain⟨A,rest,ki,e1,e2,e3,e4,e5,rfl,e6,e7,e8⟩:=hJ;have hr:rest=[]:=List.eq_nil_of_length_eq_zero (by omega);subst hr;simp only[Vj,List.append_nil]at e3 e8;simp only[cL]at e5;refine⟨by rw[<-e5];simp,e6,e7,by rw[e3];exact e8⟩
theorem MJ.step (hI:I.Nodup) (hn0:∀j∈I,j<n0) (hi:i<l.length) (hJ:MJ m c rU sz h0 n0 id I l k i s1 h n) :
 ∃(x:α) (ki:Int) (rows:List (List AV)) (cells:List AV) (I2:List Nat),s1=i64 ki/\k<=ki/\ki+c x<=k+cL c l/\h id=some ⟨true,sz,rows⟩/\i<rows.length/\(∀hl:i<rows.length,rows[i]'hl=cells)/\Y5 h (rU x) cells I2/\I2.Nodup/\id∉I2 /\
  id<n/\(∀j∈I2,j<n)/\n0<=n/\∀(h':J8) (n':Nat) (cells':List AV) (s':AV),n<=n'->(∀j,j<n->j≠id->j∉I2->h' j=h j)->h' id=some ⟨true,sz,rows.set i cells'⟩->Y5 h' (rU (m x ki)) cells' I2->s'=i64 (ki+c x) ->
   MJ m c rU sz h0 n0 id I l k (i+1) s' h' n':=by
 obtain⟨A,rest,ki,rfl,e2,e3,e4,e5,rfl,e6,e7,e8⟩:=hJ
 cases rest with
 |nil=>simp at e2;omega
 |cons x rest=>
  obtain⟨id',rows,I',q1,rfl,q2,q3⟩:=Ou e8;simp only[AV.ref.injEq]at q1;obtain⟨rfl,_,_⟩:=q1;rw[List.map_append,List.map_cons]at q3;obtain⟨a,I1,I2,I3,g1,rfl,g3,g4⟩:=Jpx q3;rw[List.length_map]at g1 g4;simp only[cL]at e5;simp only[Vj]at e3;have hlen:A.length<rows.length:=(List.getElem?_eq_some_iff.1 g1).1;simp only[List.nodup_cons,List.mem_append,List.nodup_append]at hI;obtain⟨d1,d2,⟨d3,d4,d5⟩,d6⟩:=hI;refine⟨x,ki,rows,a,I2,rfl,e4,by omega,q2,hlen,λhl=>by rw[List.getElem?_eq_getElem hl]at g1;exact Option.some.inj g1,g3,d3,λhm=>d1 (.inr (.inl hm)),Nat.lt_of_lt_of_le (hn0 _ (by simp)) e6,λj hj=>Nat.lt_of_lt_of_le (hn0 j (by simp[hj])) e6,e6,?_⟩
  ·intro h' n' cells' s' hn hf hid hc hs;refine⟨A++[m x ki],rest,ki+c x,by simp,by simp at e2⊢;omega,by rw[e3];simp,by omega,by omega,hs,Nat.le_trans e6 hn,?_,?_⟩
   ·intro j hj hjI;simp only[List.mem_cons,List.mem_append,not_or]at hjI;rw[hf j (by omega) hjI.1 hjI.2.2.1];exact e7 j hj (by simp[hjI])
   ·simp only[TR];refine⟨id,rows.set A.length cells',I1++(I2++I3),by simp at e2⊢;omega,rfl,hid,?_⟩;rw[List.append_assoc,List.map_append,List.singleton_append,List.map_cons];refine g4 h' _ cells' (λj hj=>?_) hc;rw[List.mem_append]at hj;refine hf j ?_ ?_ ?_
    ·have:=hn0 j (by rcases hj with hj|hj <;>simp[hj]);omega
    ·rintro rfl;exact d1 (by rcases hj with hj|hj <;>simp[hj])
    ·intro hm;rcases hj with hj|hj
     ·exact d6 j hj j (by simp[hm]) rfl
     ·exact d5 j hm j hj rfl
end
theorem Wc.frame {h h':J8}{n n':Nat} : ∀{T:List Ws},Wc h n T->n<=n'->(∀x∈T,∀j∈x.2.2,h' j=h j)->Wc h' n' T
 | [],_,_,_=>trivial
 |x::T,⟨h1,h2,h3,h4,h5⟩,hn,hh=>⟨Mt x.1 (λid hi=>hh x (by simp) id hi) h1,h2,λid hi=>Nat.lt_of_lt_of_le (h3 id hi) hn,h4,Wc.frame h5 hn λy hy=>hh y (by simp[hy])⟩
structure Yq (h:J8) (n:Nat) (T:List Ws) (I:List Nat):Prop where
 live:Wc h n T
 sub:∀x∈T,∀j∈x.2.2,j∈I
theorem Yq.nil {h:J8}{n:Nat}{I:List Nat} : Yq h n [] I:=⟨trivial,by simp⟩
theorem Yq.cons {h:J8}{n:Nat}{T:List Ws}{t a:AV}{J I:List Nat}(ht:TR h t a J) (hd:(J++I).Nodup) (hn:∀j∈J++I,j<n) (hk:I.Nodup->(∀j∈I,j<n)->Yq h n T I):Yq h n ((t,a,J)::T) (J++I):=by
 obtain⟨d1,d2,d3⟩:=List.nodup_append.1 hd;have hk:=hk d2 (λj hj=>hn j (by simp[hj]));refine⟨⟨ht,d1,λj hj=>hn j (by simp[hj]),λy hy j hj hj'=>d3 j hj j (hk.sub y hy j hj') rfl,hk.live⟩,?_⟩;intro y hy j hj;rcases List.mem_cons.1 hy with rfl|hy
 ·exact List.mem_append_left _ hj
 ·exact List.mem_append_right _ (hk.sub y hy j hj)
structure RS (sz:Nat) (id:Nat) (I:List Nat) (h1:J8) (n1:Nat) (rows:List (List AV)) (i:Nat) (cells:List AV) (T:List Ws) (h:J8) (n:Nat):Prop where
 live:Wc h n T
 sub:∀x∈T,∀j∈x.2.2,j∈I
 out:id∉I
 lt:id<n1
 le:n1<=n
 e:h id=some ⟨true,sz,rows.set i cells⟩
 old:∀j,j<n1->j≠id->j∉I->h j=h1 j
section
variable {sz id:Nat}{I:List Nat}{h1 h:J8}{n1 n:Nat}{rows:List (List AV)}{i:Nat}{cells cells':List AV}{T:List Ws}
theorem RS.start (hk:Yq h1 n1 T I) (ho:id∉I) (hl:id<n1) (hi:i<rows.length) (e:h1 id=some ⟨true,sz,rows⟩) (hr:∀hl:i<rows.length,rows[i]'hl=cells):RS sz id I h1 n1 rows i cells T h1 n1:=
 ⟨hk.live,hk.sub,ho,hl,Nat.le_refl _,by rw[e,<-hr hi,List.set_getElem_self],λ_ _ _ _=>rfl⟩
theorem RS.store (S:RS sz id I h1 n1 rows i cells T h n):RS sz id I h1 n1 rows i cells' T (upd h id (some ⟨true,sz,rows.set i cells'⟩)) n:=
 ⟨S.live.frame (Nat.le_refl _) λx hx j hj=>by rw[Yk];rintro rfl;exact S.out (S.sub x hx j hj),S.sub,S.out,S.lt,S.le,W4 _ _ _,λj h1 h2 h3=>by rw[Yk _ _ _ _ h2];exact S.old j h1 h2 h3⟩
theorem RS.mark {P:Program}{f:FuncId}{K:AV->J8->Nat->Prop}{t t' a:AV}{k k':Int}{J:List Nat}{T1 T2:List Ws}(hm:Ih P f t k t' k') (S:RS sz id I h1 n1 rows i cells (T1++(t,a,J)::T2) h n)
 (hk:∀h' n',RS sz id I h1 n1 rows i cells (T1++(t',a,J)::T2) h' n'->K (i64 k') h' n'):X9 P f [a,i64 k] h n K:=by
 refine J7b hm S.live λh' n' hL hn hh=>hk h' n' ⟨hL,?_,S.out,S.lt,Nat.le_trans S.le hn,?_,?_⟩
 ·intro x hx j hj;simp only[List.mem_append,List.mem_cons]at hx;rcases hx with hx|rfl|hx
  ·exact S.sub x (by simp[hx]) j hj
  ·exact S.sub (t,a,J) (by simp) j hj
  ·exact S.sub x (by simp[hx]) j hj
 ·rw[hh id (Nat.lt_of_lt_of_le S.lt S.le) λhi=>S.out (S.sub (t,a,J) (by simp) id hi)];exact S.e
 ·intro j h1 h2 h3;rw[hh j (Nat.lt_of_lt_of_le h1 S.le) λhi=>h3 (S.sub (t,a,J) (by simp) j hi)];exact S.old j h1 h2 h3
end
theorem Yq.frame {h h':J8}{n n':Nat}{T:List Ws}{I:List Nat}(k:Yq h n T I) (hn:n<=n') (hh:∀j∈I,h' j=h j):Yq h' n' T I:=
 ⟨k.live.frame hn λx hx j hj=>hh j (k.sub x hx j hj),k.sub⟩
theorem RS.box {sz:Nat}{I:List Nat}{h:J8}{n:Nat}{cells:List AV}{T:List Ws}(hk:Yq h n T I) (hI:∀j∈I,j<n) :
 RS sz n I (upd h n (some ⟨true,sz,[cells]⟩)) (n+1) [cells] 0 cells T (upd h n (some ⟨true,sz,[cells]⟩)) (n+1):=
 RS.start (hk.frame (Nat.le_succ n) λj hj=>Yk _ _ _ _ (by have:=hI j hj;omega)) (λhm=>Nat.lt_irrefl _ (hI n hm)) (Nat.lt_succ_self n) (by simp) (W4 _ _ _) (λ_=>rfl)
theorem RS.unbox {sz:Nat}{I:List Nat}{h h':J8}{n n':Nat}{B:Option Yi}{rows:List (List AV)}{i:Nat}{cells:List AV}{T:List Ws}(S:RS sz n I (upd h n B) (n+1) rows i cells T h' n'):n<=n'/\∀j,j<n->j∉I->h' j=h j:=
 ⟨by have:=S.le;omega,λj hj hI=>by rw[S.old j (by omega) (by omega) hI,Yk _ _ _ _ (by omega)]⟩
theorem MJ.step2 {α:Type}{m:α->Int->α}{c:α->Nat}{rU:α->List AV}{sz:Nat}{h0 h:J8}{n0 n id:Nat}{I:List Nat}{l:List α}{k:Int}{i:Nat}{s1:AV}(hI:I.Nodup) (hn0:∀j∈I,j<n0) (hi:i<l.length) (hJ:MJ m c rU sz h0 n0 id I l k i s1 h n) :
 ∃(x:α) (ki:Int) (rows:List (List AV)) (cells:List AV) (I2:List Nat),s1=i64 ki/\k<=ki/\ki+c x<=k+cL c l/\i<rows.length/\Y5 h (rU x) cells I2/\I2.Nodup/\(∀j∈I2,j<n) /\
  (∀T,Yq h n T I2->RS sz id I2 h n rows i cells T h n)/\∀(h':J8) (n':Nat) (cells':List AV) (s':AV) (T:List Ws),RS sz id I2 h n rows i cells' T h' n'->Y5 h' (rU (m x ki)) cells' I2->s'=i64 (ki+c x) ->
   MJ m c rU sz h0 n0 id I l k (i+1) s' h' n':=by
 obtain⟨x,ki,rows,cells,I2,q1,q2,q3,q4,q5,q6,q7,q8,q9,q10,q11,q12,q13⟩:=hJ.step hI hn0 hi;exact⟨x,ki,rows,cells,I2,q1,q2,q3,q5,q7,q8,q11,λT hk=>RS.start hk q9 q10 q5 q4 q6,λh' n' cells' s' T S hc hs=>q13 h' n' cells' s' S.le S.old S.e hc hs⟩
def HJ{α:Type}(m:α->Int->α)(c:α->Nat)(M:List α)(l:List α)(k:Int)(i:Nat)(s1:AV):Prop:=
 ∃(rest:List α) (ki:Int),M.drop i=Vj m c rest ki/\k<=ki/\ki+cL c rest=k+cL c l/\s1=i64 ki
theorem HJ.start {α:Type}{m:α->Int->α}{c:α->Nat}{l:List α}{k:Int} : HJ m c (Vj m c l k) l k 0 (i64 k):=⟨l,k,rfl,Int.le_refl _,rfl,rfl⟩
theorem HJ.fin {α:Type}{m:α->Int->α}{c:α->Nat}{M l:List α}{k:Int}{i:Nat}{s1:AV}(hi:M.length<=i) (hJ:HJ m c M l k i s1):s1=i64 (k+cL c l):=by
 obtain⟨rest,ki,e1,e2,e3,rfl⟩:=hJ;rw[List.drop_eq_nil_of_le hi]at e1
 cases rest with
 |nil=>simp only[cL]at e3;rw[<-e3];simp
 |cons x rest=>simp[Vj]at e1
theorem HJ.step {α:Type}{m:α->Int->α}{c:α->Nat}{M l:List α}{k:Int}{i:Nat}{s1:AV}(hi:i<M.length) (hJ:HJ m c M l k i s1) :
 ∃x ki,s1=i64 ki/\k<=ki/\ki+c x<=k+cL c l/\(∀hl:i<M.length,M[i]'hl=m x ki)/\∀s',s'=i64 (ki+c x)->HJ m c M l k (i+1) s':=by
 obtain⟨rest,ki,e1,e2,e3,rfl⟩:=hJ;rw[List.drop_eq_getElem_cons hi]at e1
 cases rest with
 |nil=>simp[Vj]at e1;omega
 |cons x rest=>
  simp only[Vj,List.cons.injEq]at e1;simp only[cL]at e3;exact⟨x,ki,rfl,e2,by omega,λ_=>e1.1,λs' hs=>⟨rest,ki+c x,e1.2,by omega,by omega,hs⟩⟩
section
variable {P:Program}
theorem Hq{f:FuncId}{fn:Func}{id off len:Nat}{as:List AV}{h:J8}{n:Nat}{K:AV->J8->Nat->Prop}(hf:P.funcs[f]? = some fn)(hb:fn.body.isSome=true) (hn:(fn.name == "runtime.NumGoroutine")=false)
 (hB:h id≠Option.none) (hA:len<=Jd->X9 P f (.ref id off len::as) h n K):X9 P f (.ref id off len::as) h n K:=by
 refine⟨by simp[Eg,hf,hb,hn],λbase w0 w L F vs H hv=>?_⟩
 have hlen:len<=Jd:=by
  obtain⟨v,vs',_,h1,_⟩:=V0.1 hv;simp only[VR]at h1
  cases hl:L id with
  |none=>exact absurd (H.mod id hl) hB
  |some l=>exact(h1.1.2.2 l hl).1
 exact(hA hlen).2 base w0 w L F vs H hv
end
open Go Go.RowKit
def Bx(h:J8)(n:Nat)(T:List Ws):List (Nat×Yi)->Prop
 | []=>True
 |p::B=>(h p.1=some p.2/\p.1<n/\(∀x∈T,p.1∉x.2.2)/\∀q∈B,q.1<p.1)/\Bx h n T B
def Iw(h:J8):List (Nat×Yi)->Prop
 | []=>True
 |p::B=>h p.1=some p.2/\Iw h B
def O5(n:Nat):List (Nat×Yi)->Prop
 | []=>True
 |p::B=>¬p.1=n/\O5 n B
structure LS (h:J8) (n:Nat) (B:List (Nat×Yi)) (T:List Ws):Prop where
 live:Wc h n T
 bx:Bx h n T B
theorem Bx.map {h h':J8}{n n':Nat}{T T':List Ws} : ∀{B:List (Nat×Yi)},Bx h n T B->(∀id v,h id=some v->id<n->(∀x∈T,id∉x.2.2)->h' id=some v/\id<n'/\∀x∈T',id∉x.2.2)->Bx h' n' T' B
 | [],_,_=>trivial
 |p::B,⟨⟨h1,h2,h3,h3'⟩,h4⟩,hm=>by obtain⟨g1,g2,g3⟩:=hm p.1 p.2 h1 h2 h3;exact⟨⟨g1,g2,g3,h3'⟩,Bx.map h4 hm⟩
theorem Bx.lt {h:J8}{n:Nat}{T:List Ws} : ∀{B:List (Nat×Yi)},Bx h n T B->∀q∈B,q.1<n/\h q.1=some q.2
 |p::B,⟨⟨h1,h2,_⟩,h4⟩,q,hq=>by
  rcases List.mem_cons.1 hq with rfl|hq
  ·exact⟨h2,h1⟩
  ·exact Bx.lt h4 q hq
section
variable {h h':J8}{n n':Nat}{B:List (Nat×Yi)}{T T1 T2:List Ws}
theorem LS.eqs (S:LS h n B T):Iw h B:=by
 have:=S.bx;revert this
 induction B with
 |nil=>exact λ_=>trivial
 |cons p B ih=>exact λhb=>⟨hb.1.1,ih ⟨S.live,hb.2⟩ hb.2⟩
theorem LS.nes (S:LS h n B T):O5 n B:=by
 have:=S.bx;revert this
 induction B with
 |nil=>exact λ_=>trivial
 |cons p B ih=>exact λhb=>⟨by have:=hb.1.2.1;omega,ih ⟨S.live,hb.2⟩ hb.2⟩
theorem LS.start {h:J8}{n:Nat} : LS h n [] []:=⟨trivial,trivial⟩
theorem LS.newbox {y:Yi}(S:LS h n B T) (ho:∀j,j<n->h' j=h j) (hy:h' n=some y):LS h' (n+1) ((n,y)::B) T:=
 ⟨S.live.up (Nat.le_succ n) ho,⟨hy,Nat.lt_succ_self n,λx hx hi=>Nat.lt_irrefl _ ((S.live.ids x hx).2.2 n hi),λq hq=>(S.bx.lt q hq).1⟩,S.bx.map λid v h1 h2 h3=>⟨(ho id h2).trans h1,by omega,h3⟩⟩
theorem LS.push {y:Yi}(S:LS h n B T):LS (upd h n (some y)) (n+1) ((n,y)::B) T:=S.newbox (λj hj=>Yk _ _ _ _ (by omega)) (W4 _ _ _)
theorem LS.grow {t a:AV}{I:List Nat}(S:LS h n B T) (ht:TR h' t a I) (hd:I.Nodup) (hI:∀id∈I,n<=id/\id<n') (hn:n<=n') (ho:∀id,id<n->h' id=h id):LS h' n' B ((t,a,I)::T):=by
 refine⟨⟨ht,hd,λid hi=>(hI id hi).2,?_,S.live.up hn ho⟩,S.bx.map λid v h1 h2 h3=>⟨(ho id h2).trans h1,by omega,?_⟩⟩
 ·intro y hy id hi hi';have:=(S.live.ids y hy).2.2 id hi';have:=(hI id hi).1;omega
 ·intro x hx;rcases List.mem_cons.1 hx with rfl|hx
  ·intro hi;have:=(hI id hi).1;omega
  ·exact h3 x hx
variable {P:Program}{f:FuncId}{as as':List AV}{K:AV->J8->Nat->Prop}
theorem N6{c:AV}(hh:Holds P f as' (λr=>r=c))(S:LS h n B T)(hc:Vk c=true)(hb:Oj T as as')(hk:K c h n):X9 P f as h n K:=Jf8 hh S.live hc hb hk
theorem Jbm{c:AV}(hh:Holds P f as' (λr=>r=c))(S:LS h n B T)(hc:Vk c=true)(hb:Oj T as as')(hk:K c h n):X9 P f as h n (hK h K):=Jby hh S.live hc hb hk
theorem Jty{h:J8} : ∀{t a:AV}{I:List Nat},TR h t a I->Kb t=true->Kb a=true:=by
 intro t a I ht hc;cases t <;>simp only[TR]at ht <;>simp only[Kb,Bool.false_eq_true]at hc
 case int=>rw[ht.1];rfl
 case bool=>rw[ht.1];rfl
 case str=>rw[ht.1];rfl
 case nilp=>rw[ht.1];rfl
 case us=>obtain⟨id,rows',I',rfl,_⟩:=ht;rfl
theorem J6q{h:J8} : ∀{ts as:List AV}{I:List Nat},Y5 h ts as I->ts.all Kb=true->as.all Kb=true
 | [],as,I,ht,_=>by simp only[Y5]at ht;rw[ht.1];rfl
 |t::ts,as,I,ht,hc=>by simp only[Y5]at ht;obtain⟨a,as',I1,I2,rfl,_,h1,h2⟩:=ht;simp only[List.all_cons,Bool.and_eq_true]at hc⊢;exact⟨Jty h1 hc.1,J6q h2 hc.2⟩
theorem Je2{ts:List AV}(hh:Holds P f as' (λr=>r = .agg ts))(S:LS h n B T)(hc:ts.all Kb=true)(hb:Oj T as as')
 (hk:∀cs h' n' J,LS h' n' B ((.agg ts,.agg cs,J)::T)->cs.length=ts.length->cs.all Kb=true->K (.agg cs) h' n'):X9 P f as h n λr h' n'=>Y6 h h'/\K r h' n':=
 J0w hh (hb.ok S.live) λr a h' n' I hr h1 h2 h3 h4 h5=>by
  subst hr;try subst hlen
  have h1':=h1;simp only[TR]at h1;obtain⟨cs,rfl,g⟩:=h1;exact hk cs h' n' I (S.grow h1' h2 h3 h4 h5) (J1u g) (J6q g hc)
theorem Jkw{ts:List AV}(hh:Holds P f as' (λr=>r = .agg ts))(S:LS h n B T)(hc:ts.all Kb=true)(hb:Oj T as as')
 (hk:∀cs h' n' J,LS h' n' B ((.agg ts,.agg cs,J)::T)->cs.length=ts.length->cs.all Kb=true->K (.agg cs) h' n'):X9 P f as h n K:=X9.mono (Je2 hh S hc hb hk) λ_ _ _ h=>h.2
theorem Cx{ts:List AV}(hh:Holds P f as' (λr=>r = .agg ts))(S:LS h n B T)(hc:ts.all Kb=true)(hb:Oj T as as')
 (hk:∀cs h' n' J,LS h' n' B ((.agg ts,.agg cs,J)::T)->cs.length=ts.length->cs.all Kb=true->K (.agg cs) h' n'):X9 P f as h n (hK h K):=Je2 hh S hc hb hk
theorem Jsk{h:J8}{t c a:AV}{I:List Nat}(hc:Vk c=true)(ht:TR h (.tup [t,c]) a I):∃b,a = .tup [b,c]/\TR h t b I:=by
 simp only[TR,Y5]at ht;obtain⟨cs',rfl,a1,as1,J1,J2,rfl,rfl,g1,a2,as2,J3,J4,rfl,rfl,g2,rfl,rfl⟩:=ht
 have:a2=c/\J3=[]:=by
  unfold Vk at hc;split at hc
  ·simpa only[TR]using g2
  ·simpa only[TR]using g2
  ·simpa only[TR]using g2
  ·simp only[TR,Y5]at g2;obtain⟨cs',rfl,a1,as1,J1,J2,rfl,rfl,⟨rfl,rfl⟩,a2,as2,J3,J4,rfl,rfl,⟨rfl,rfl⟩,rfl,rfl⟩:=g2;exact⟨rfl,rfl⟩
  ·cases hc
 obtain⟨rfl,rfl⟩:=this;exact⟨a1,rfl,by simpa using g1⟩
theorem Jdj{sz len:Nat}{rows:List (List AV)}{c:AV}(hh:Holds P f as' (λr=>r = .tup [.us sz rows,c]))(S:LS h n B T)(hc:Vk c=true)(hlen:rows.length=len)(hb:Oj T as as')
 (hk:∀d h' n' J,LS h' n' B ((.us sz rows,.ref d 0 len,J)::T)->K (.tup [.ref d 0 len,c]) h' n'):X9 P f as h n λr h' n'=>Y6 h h'/\K r h' n':=
 J0w hh (hb.ok S.live) λr a h' n' I hr h1 h2 h3 h4 h5=>by
  subst hr;try subst hlen
  obtain⟨b,rfl,g1⟩:=Jsk hc h1;have h1':=g1;simp only[TR]at g1;obtain⟨d,rows',I',rfl,_⟩:=g1;exact hk d h' n' I (S.grow h1' h2 h3 h4 h5)
theorem Jx4{sz len:Nat}{rows:List (List AV)}{c:AV}(hh:Holds P f as' (λr=>r = .tup [.us sz rows,c]))(S:LS h n B T)(hc:Vk c=true)(hlen:rows.length=len)(hb:Oj T as as')
 (hk:∀d h' n' J,LS h' n' B ((.us sz rows,.ref d 0 len,J)::T)->K (.tup [.ref d 0 len,c]) h' n'):X9 P f as h n K:=X9.mono (Jdj hh S hc hlen hb hk) λ_ _ _ h=>h.2
theorem Jeg{sz len:Nat}{rows:List (List AV)}{c:AV}(hh:Holds P f as' (λr=>r = .tup [.us sz rows,c]))(S:LS h n B T)(hc:Vk c=true)(hlen:rows.length=len)(hb:Oj T as as')
 (hk:∀d h' n' J,LS h' n' B ((.us sz rows,.ref d 0 len,J)::T)->K (.tup [.ref d 0 len,c]) h' n'):X9 P f as h n (hK h K):=Jdj hh S hc hlen hb hk
theorem J8d{t t' a:AV}{k k':Int}{I:List Nat}(hm:Ih P f t k t' k')(S:LS h n B (T1++(t,a,I)::T2))
 (hk:∀h' n',LS h' n' B (T1++(t',a,I)::T2)->K (i64 k') h' n'):X9 P f [a,i64 k] h n K:=by
 refine J7b hm S.live λh' n' hL hn hh=>hk h' n' ⟨hL,S.bx.map λid v h1 h2 h3=>⟨?_,by omega,?_⟩⟩
 ·rw[hh id h2 (h3 (t,a,I) (by simp))];exact h1
 ·intro x hx;simp only[List.mem_append,List.mem_cons]at hx;rcases hx with hx|rfl|hx
  ·exact h3 x (by simp[hx])
  ·exact h3 (t,a,I) (by simp)
  ·exact h3 x (by simp[hx])
end
end Go.Proofs.YtoclolkigjbcgaaGreat
namespace Go.Proofs.YtoclolkigjbcgaaGreat
set_option linter.all false
open Go Go.RowKit Go.Proofs
def Ed(n:Nat):List UInt8:=if h:n=0 then []else Ed (n / 10)++[UInt8.ofNat (48+n % 10)]
termination_by n
decreasing_by omega
def W9(k:Int):J9:=if k<=0 then [109,48]else 109::Ed k.toNat
def Fv(l:List Int)(k:Int):List Int:=Vj (λ_ k=>k) (λ_=>1) l k
def G5(l:List Int):Nat:=cL (λ_=>1) l
def J7h(l:List J9)(k:Int):List J9:=Vj (λ_ k=>W9 k) (λ_=>1) l k
def Bu(l:List J9):Nat:=cL (λ_=>1) l
theorem Ea(l:List Int):G5 l=l.length:=Jd4 l
theorem J7p(l:List J9):Bu l=l.length:=Jd4 l
def Jd3(x:Jc)(k:Int):Jc:=⟨k,Fv x.Coeffs (k+1)⟩
def F7(x:Jc):Nat:=1+G5 x.Coeffs
def Py(l:List Jc)(k:Int):List Jc:=Vj Jd3 F7 l k
def H5(l:List Jc):Nat:=cL F7 l
def Nd(x:Y7)(k:Int):Y7:=⟨k,Fv x.Mult (k+1)⟩
def Du(x:Y7):Nat:=1+G5 x.Mult
def J33(l:List Y7)(k:Int):List Y7:=Vj Nd Du l k
def Ga(l:List Y7):Nat:=cL Du l
def Jd9(x:Yj)(k:Int):Yj:=⟨k,W9 (k+1)⟩
def Fw(x:Yj):Nat:=2
def Jdr(l:List Yj)(k:Int):List Yj:=Vj Jd9 Fw l k
def Mv(l:List Yj):Nat:=cL Fw l
def Jcw(x:Xg)(k:Int):Xg:=⟨k,Jdr x.Terms (k+1)⟩
def Cg(x:Xg):Nat:=1+Mv x.Terms
def Sd(l:List Xg)(k:Int):List Xg:=Vj Jcw Cg l k
def Ur(l:List Xg):Nat:=cL Cg l
def Jcz(x:Xe)(k:Int):Xe:=⟨((k).tmod 3==0),Sd x.Heads (k+1),W9 (k+1+Ur x.Heads)⟩
def Fr(x:Xe):Nat:=2+Ur x.Heads
def Jkj(l:List Xe)(k:Int):List Xe:=Vj Jcz Fr l k
def Nw(l:List Xe):Nat:=cL Fr l
def Si(x:K3)(k:Int):K3:=⟨W9 (k),J7h x.Params (k+1),((k+1+Bu x.Params).tmod 3==0),Py x.Pre (k+1+Bu x.Params+1)⟩
def C1(x:K3):Nat:=2+Bu x.Params+H5 x.Pre
def J0y(l:List K3)(k:Int):List K3:=Vj Si C1 l k
def F5(l:List K3):Nat:=cL C1 l
def J4x(x:X4)(k:Int):X4:=⟨W9 (k),((k+1).tmod 3==0),W9 (k+1+1),W9 (k+1+1+1)⟩
def Fy(x:X4):Nat:=4
def J55(l:List X4)(k:Int):List X4:=Vj J4x Fy l k
def Qv(l:List X4):Nat:=cL Fy l
def J8e(x:Xq)(k:Int):Xq:=⟨W9 (k),W9 (k+1),Jkj x.Args (k+1+1)⟩
def Fj(x:Xq):Nat:=2+Nw x.Args
def Je6(l:List Xq)(k:Int):List Xq:=Vj J8e Fj l k
def Ia(l:List Xq):Nat:=cL Fj l
def Ma(x:K0)(k:Int):K0:=⟨W9 (k),J55 x.Patterns (k+1),Sd x.Guards (k+1+Qv x.Patterns),Je6 x.Calls (k+1+Qv x.Patterns+Ur x.Guards),⟨((k+1+Qv x.Patterns+Ur x.Guards+Ia x.Calls).tmod 3==0),Sd x.Result.Heads (k+1+Qv x.Patterns+Ur x.Guards+Ia x.Calls+1),W9 (k+1+Qv x.Patterns+Ur x.Guards+Ia x.Calls+1+Ur x.Result.Heads)⟩⟩
def C2(x:K0):Nat:=3+Qv x.Patterns+Ur x.Guards+Ia x.Calls+Ur x.Result.Heads
def J8j(l:List K0)(k:Int):List K0:=Vj Ma C2 l k
def Ns(l:List K0):Nat:=cL C2 l
def J8n(l:List (List Jc))(k:Int):List (List Jc):=Vj Py H5 l k
def Em(l:List (List Jc)):Nat:=cL H5 l
def J0f(x:X1):Nat:=2+H5 x.System.Rows+G5 x.Target.Coeffs
def F0(x:Jc):Nat:=G5 x.Coeffs
def J6w(x:Jo)(k:Int):Jo:=⟨J0y x.Functions (k),J8j x.Rules (k+F5 x.Functions)⟩
def E4(x:Jo):Nat:=F5 x.Functions+Ns x.Rules
def J70(x:Xk)(k:Int):Xk:=⟨J8n x.Levels (k),Fv x.Edges (k+Em x.Levels)⟩
def Ft(x:Xk):Nat:=Em x.Levels+G5 x.Edges
theorem Bz{α:Type}{c w:α->Nat}(h:∀x,c x<=8+8*w x):∀l:List α,cL c l<=8*wL w l
 | []=>Nat.zero_le _
 |x::l=>by have h1:=h x;have h2:=Bz h l;simp only[cL];unfold wL at h2⊢;simp only[List.length_cons,List.map_cons,List.sum_cons];omega
theorem Je5(l:List Int):G5 l<=8*Dk l:=by rw[Ea];unfold Dk;omega
theorem Jbw(l:List J9):Bu l<=8*It l:=by have:=Yn List.length l;rw[J7p];unfold It;omega
theorem Jpz(x:Jc):F7 x<=8+8*Uf x:=by have:=Je5 x.Coeffs;unfold F7 Uf;omega
theorem Jdn(l:List Jc):H5 l<=8*U9 l:=Bz Jpz l
theorem Jis(x:Yj):Fw x<=8+8*Vi x:=by unfold Fw Vi;omega
theorem Jhz(l:List Yj):Mv l<=8*Ey l:=Bz Jis l
theorem Joj(x:Xg):Cg x<=8+8*W1 x:=by have:=Jhz x.Terms;unfold Cg W1;omega
theorem J8i(l:List Xg):Ur l<=8*Wq l:=Bz Joj l
theorem Jr9(x:Xe):Fr x<=8+8*Uh x:=by have:=J8i x.Heads;unfold Fr Uh;omega
theorem Jny(l:List Xe):Nw l<=8*Bv l:=Bz Jr9 l
theorem J80(x:K3):C1 x<=8+8*Yr x:=by have:=Jbw x.Params;have:=Jdn x.Pre;unfold C1 Yr;omega
theorem J83(l:List K3):F5 l<=8*Qb l:=Bz J80 l
theorem J91(x:X4):Fy x<=8+8*Qw x:=by unfold Fy Qw;omega
theorem J9s(l:List X4):Qv l<=8*O9 l:=Bz J91 l
theorem Ji0(x:Xq):Fj x<=8+8*Wh x:=by have:=Jny x.Args;unfold Fj Wh;omega
theorem Jin(l:List Xq):Ia l<=8*Gv l:=Bz Ji0 l
theorem Jie(x:K0):C2 x<=8+8*Ub x:=by have:=J9s x.Patterns;have:=J8i x.Guards;have:=Jin x.Calls;have:=J8i x.Result.Heads;unfold C2 Ub Uh;omega
theorem Jic(l:List K0):Ns l<=8*Gx l:=Bz Jie l
theorem Jiw(l:List (List Jc)):Em l<=8*D3 l:=Bz (λx=>by have:=Jdn x;omega) l
theorem Jbr(x:Jo):E4 x<=8*X2 x:=by have:=J83 x.Functions;have:=Jic x.Rules;unfold E4 X2;omega
theorem Jcj(x:Xk):Ft x<=8*Gw x:=by have:=Jiw x.Levels;have:=Je5 x.Edges;unfold Ft Gw;omega
end Go.Proofs.YtoclolkigjbcgaaGreat

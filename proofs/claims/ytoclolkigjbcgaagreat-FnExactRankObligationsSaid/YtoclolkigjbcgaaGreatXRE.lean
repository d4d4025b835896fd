/- R40-R43 -/
import Derived.Test.YtoclolkigjbcgaaGreatXT1
namespace Go.Proofs.YtoclolkigjbcgaaGreat
set_option linter.all false
open Go Go.RowKit
mutual
def dS:AV→Nat→AV×List Blk
 | .us sz rows,n=>(.ref n 0 rows.length,⟨true,sz,(dSr rows (n+1)).1⟩::(dSr rows (n+1)).2)
 | .agg cs,n=>(.agg (dSl cs n).1,(dSl cs n).2)
 | .tup cs,n=>(.tup (dSl cs n).1,(dSl cs n).2)
 | a,_=>(a,[])
def dSl:List AV→Nat→List AV×List Blk
 | [],_=>([],[])
 | a::as,n=>((dS a n).1::(dSl as (n+(dS a n).2.length)).1,(dS a n).2++(dSl as (n+(dS a n).2.length)).2)
def dSr:List (List AV)→Nat→List (List AV)×List Blk
 | [],_=>([],[])
 | r::rs,n=>((dSl r n).1::(dSr rs (n+(dSl r n).2.length)).1,(dSl r n).2++(dSr rs (n+(dSl r n).2.length)).2)
end
theorem Jhb:∀ (as:List AV) (n:Nat),(dSl as n).1.length=as.length
 | [],_=>rfl
 | a::as,n=>by simp [dSl,Jhb as]
theorem Jcp:∀ (rs:List (List AV)) (n:Nat),(dSr rs n).1.length=rs.length
 | [],_=>rfl
 | r::rs,n=>by simp [dSr,Jcp rs]
theorem Jn3:∀ (rs:List (List AV)) (n:Nat),∀ r'∈(dSr rs n).1,∃ r∈rs,r'.length=r.length
 | [],_,r',h=>by simp [dSr] at h
 | r::rs,n,r',h=>by
  simp only [dSr,List.mem_cons] at h
  rcases h with rfl|h
  ·exact ⟨r,by simp,Jhb r n⟩
  ·obtain ⟨x,hx,e⟩:=Jn3 rs _ r' h
   exact ⟨x,by simp [hx],e⟩
mutual
def TR (h:Heap):AV→AV→List Nat→Prop
 | .us sz rows,a,I=>∃ id rows' I',a = .ref id 0 rows.length∧I=id::I'∧h id=some ⟨true,sz,rows'⟩∧TRr h rows rows' I'
 | .agg cs,a,I=>∃ cs',a = .agg cs'∧TRl h cs cs' I
 | .tup cs,a,I=>∃ cs',a = .tup cs'∧TRl h cs cs' I
 | .int k n,a,I=>a = .int k n∧I=[]
 | .bool b,a,I=>a = .bool b∧I=[]
 | .str s,a,I=>a = .str s∧I=[]
 | .nilp,a,I=>a = .nilp∧I=[]
 | _,_,_=>False
def TRl (h:Heap):List AV→List AV→List Nat→Prop
 | [],as,I=>as=[]∧I=[]
 | c::cs,as,I=>∃ a as' I1 I2,as=a::as'∧I=I1++I2∧TR h c a I1∧TRl h cs as' I2
def TRr (h:Heap):List (List AV)→List (List AV)→List Nat→Prop
 | [],rs,I=>rs=[]∧I=[]
 | r::rows,rs,I=>∃ a rs' I1 I2,rs=a::rs'∧I=I1++I2∧TRl h r a I1∧TRr h rows rs' I2
end
section
variable {h h':Heap}
mutual
theorem Jbn:∀ (t:AV) {a:AV}{I:List Nat},(∀ id∈I,h' id=h id)→TR h t a I→TR h' t a I
 | .us sz rows,a,I,hf,ht=>by
  simp only [TR] at ht ⊢
  obtain ⟨id,rows',I',e1,rfl,e2,e3⟩:=ht
  exact ⟨id,rows',I',e1,rfl,(hf id (by simp)).trans e2,Jfg rows (fun id hi=>hf id (by simp [hi])) e3⟩
 | .agg cs,a,I,hf,ht=>by
  simp only [TR] at ht ⊢
  obtain ⟨cs',e1,e2⟩:=ht
  exact ⟨cs',e1,J9h cs hf e2⟩
 | .tup cs,a,I,hf,ht=>by
  simp only [TR] at ht ⊢
  obtain ⟨cs',e1,e2⟩:=ht
  exact ⟨cs',e1,J9h cs hf e2⟩
 | .int ..,_,_,_,ht | .bool _,_,_,_,ht | .str _,_,_,_,ht | .nilp,_,_,_,ht=>by simpa only [TR] using ht
 | .undef,_,_,_,ht | .nil _,_,_,_,ht | .ptr ..,_,_,_,ht | .fptr ..,_,_,_,ht | .ref ..,_,_,_,ht | .sl ..,_,_,_,ht | .fn ..,_,_,_,ht | .mp _,_,_,_,ht=>by simp only [TR] at ht
theorem J9h:∀ (ts:List AV) {as:List AV}{I:List Nat},(∀ id∈I,h' id=h id)→TRl h ts as I→TRl h' ts as I
 | [],as,I,hf,ht=>by simpa only [TRl] using ht
 | t::ts,as,I,hf,ht=>by
  simp only [TRl] at ht ⊢
  obtain ⟨a,as',I1,I2,e1,rfl,e2,e3⟩:=ht
  exact ⟨a,as',I1,I2,e1,rfl,Jbn t (fun id hi=>hf id (by simp [hi])) e2,J9h ts (fun id hi=>hf id (by simp [hi])) e3⟩
theorem Jfg:∀ (ts:List (List AV)) {as:List (List AV)}{I:List Nat},(∀ id∈I,h' id=h id)→TRr h ts as I→TRr h' ts as I
 | [],as,I,hf,ht=>by simpa only [TRr] using ht
 | t::ts,as,I,hf,ht=>by
  simp only [TRr] at ht ⊢
  obtain ⟨a,as',I1,I2,e1,rfl,e2,e3⟩:=ht
  exact ⟨a,as',I1,I2,e1,rfl,J9h t (fun id hi=>hf id (by simp [hi])) e2,Jfg ts (fun id hi=>hf id (by simp [hi])) e3⟩
end
theorem Jcr:∀ {ts as:List AV}{I:List Nat},TRl h ts as I→as.length=ts.length
 | [],as,I,ht=>by simp only [TRl] at ht;rw [ht.1]
 | t::ts,as,I,ht=>by
  simp only [TRl] at ht
  obtain ⟨a,as',I1,I2,rfl,_,_,e3⟩:=ht
  simp [Jcr e3]
theorem Jhg:∀ {ts as:List (List AV)}{I:List Nat},TRr h ts as I→as.length=ts.length
 | [],as,I,ht=>by simp only [TRr] at ht;rw [ht.1]
 | t::ts,as,I,ht=>by
  simp only [TRr] at ht
  obtain ⟨a,as',I1,I2,rfl,_,_,e3⟩:=ht
  simp [Jhg e3]
theorem Jon:∀ {ts as:List (List AV)}{I:List Nat},TRr h ts as I→∀ r∈ts,∃ r'∈as,r'.length=r.length
 | [],as,I,ht,r,hr=>by simp at hr
 | t::ts,as,I,ht,r,hr=>by
  simp only [TRr] at ht
  obtain ⟨a,as',I1,I2,rfl,_,e2,e3⟩:=ht
  rcases List.mem_cons.1 hr with rfl|hr
  ·exact ⟨a,by simp,Jcr e2⟩
  ·obtain ⟨r',h1,h2⟩:=Jon e3 r hr
   exact ⟨r',by simp [h1],h2⟩
theorem Jko:∀ {ts as:List (List AV)}{I:List Nat}{i:Nat}{t:List AV},TRr h ts as I→ts[i]? = some t →
 ∃ a I1 I2 I3,as[i]? = some a∧I=I1++(I2++I3)∧TRl h t a I2 ∧
  ∀ (h':Heap) t' a',(∀ id∈I1++I3,h' id=h id)→TRl h' t' a' I2→TRr h' (ts.set i t') (as.set i a') I
 | [],as,I,i,t,ht,hi=>by simp at hi
 | x::ts,as,I,i,t,ht,hi=>by
  simp only [TRr] at ht
  obtain ⟨a,as',J1,J2,rfl,rfl,e2,e3⟩:=ht
  cases i with
  | zero=>
   simp only [List.getElem?_cons_zero,Option.some.injEq] at hi;subst hi
   refine ⟨a,[],J1,J2,rfl,rfl,e2,?_⟩
   intro h' t' a' hf ht'
   simp only [List.set_cons_zero,TRr]
   exact ⟨a',as',J1,J2,rfl,rfl,ht',Jfg ts (fun id hi=>hf id (by simpa using hi)) e3⟩
  | succ i=>
   simp only [List.getElem?_cons_succ] at hi
   obtain ⟨b,I1,I2,I3,g1,rfl,g3,g4⟩:=Jko e3 hi
   refine ⟨b,J1++I1,I2,I3,by simpa using g1,by simp,g3,?_⟩
   intro h' t' a' hf ht'
   simp only [List.set_cons_succ,TRr]
   exact ⟨a,_,J1,_,rfl,rfl,J9h x (fun id hi=>hf id (by simp [hi])) e2,g4 h' t' a' (fun id hi=>hf id (by simp at hi ⊢;rcases hi with hi|hi <;> simp [hi])) ht'⟩
end
def K0z:Loc→List Nat
 | .at b _ _=>[b]
 | .none=>[]
structure DD (w:World) (bs:List Blk) (ls:List Loc) (S:List Nat) (n:Nat):Prop where
 len:ls.length=bs.length
 S:S=(ls.map K0z).flatten
 brel:∀ (L:Nat→Option Loc) (n':Nat),n+bs.length≤n'→(∀ (i:Nat) l,ls[i]? = some l→L (n+i)=some l)→∀ (i:Nat) B l,bs[i]? = some B→ls[i]? = some l→Jea w L n' B l []
theorem DD.nil (w:World) (n:Nat):DD w [] [] [] n:=⟨rfl,rfl,by simp⟩
theorem DD.append {w:World}{bs bs':List Blk}{ls ls':List Loc}{S S':List Nat}{n:Nat}(d:DD w bs ls S n) (d':DD w bs' ls' S' (n+bs.length)) :
 DD w (bs++bs') (ls++ls') (S++S') n:=by
 refine ⟨by simp [d.len,d'.len],by simp [d.S,d'.S],?_⟩
 intro L n' hn hL i B l hB hl
 simp only [List.length_append] at hn
 by_cases hi:i<bs.length
 ·rw [List.getElem?_append_left hi] at hB
  rw [List.getElem?_append_left (by rw [d.len];exact hi)] at hl
  refine d.brel L n' (by omega) (fun j l' hj=>hL j l' ?_) i B l hB hl
  rw [List.getElem?_append_left (List.getElem?_eq_some_iff.1 hj).1];exact hj
 ·rw [List.getElem?_append_right (by omega)] at hB
  rw [List.getElem?_append_right (by rw [d.len];omega),d.len] at hl
  refine d'.brel L n' (by omega) (fun j l' hj => ?_) _ B l hB hl
  have:=hL (bs.length+j) l' (by rw [List.getElem?_append_right (by rw [d.len];omega),d.len,Nat.add_sub_cancel_left];exact hj)
  rw [←this];congr 1;omega
section
variable {w:World}
mutual
theorem Jre:∀ (r:AV) (n:Nat) (v:Value) (S:List Nat),J2g r=true→VR w Lo 0 r v S →
 ∃ ls,DD w (dS r n).2 ls S n∧∀ (L:Nat→Option Loc) (n':Nat),n+(dS r n).2.length≤n'→(∀ (i:Nat) l,ls[i]? = some l→L (n+i)=some l)→VR w L n' (dS r n).1 v []
 | .undef,_,_,_,c,_ | .nil _,_,_,_,c,_ | .ptr ..,_,_,_,c,_ | .fptr ..,_,_,_,c,_ | .ref ..,_,_,_,c,_ | .sl ..,_,_,_,c,_ | .fn ..,_,_,_,c,_ | .mp ..,_,_,_,c,_=>by simp [J2g] at c
 | .int ..,n,v,S,c,h=>by
  simp only [VR] at h;obtain ⟨rfl,rfl⟩:=h
  exact ⟨[],DD.nil w n,fun L n' _ _=>by simp [dS,VR]⟩
 | .bool _,n,v,S,c,h=>by
  simp only [VR] at h;obtain ⟨rfl,rfl⟩:=h
  exact ⟨[],DD.nil w n,fun L n' _ _=>by simp [dS,VR]⟩
 | .str _,n,v,S,c,h=>by
  simp only [VR] at h;obtain ⟨h1,rfl⟩:=h
  exact ⟨[],DD.nil w n,fun L n' _ _=>by simp only [dS,VR];exact ⟨h1,trivial⟩⟩
 | .nilp,n,v,S,c,h=>by
  simp only [VR] at h;obtain ⟨rfl,rfl⟩:=h
  exact ⟨[],DD.nil w n,fun L n' _ _=>by simp [dS,VR]⟩
 | .us sz rows,n,v,S,c,h=>by
  simp only [VR,J2g] at h c
  obtain ⟨hl,h⟩:=h
  rcases h with ⟨rfl,rfl,rfl⟩|⟨b,cap,cur,t,vals,rest,S',rfl,rfl,ho,hb,h1,h2,h3,h4,h5,h6,h6',h7⟩
  ·refine ⟨[.none],⟨rfl,rfl,?_⟩,?_⟩
   ·intro L n' hn hL i B l g1 g2
    cases i with
    | zero=>simp only [dS,dSr,List.getElem?_cons_zero,Option.some.injEq] at g1 g2;subst g1 g2;exact ⟨rfl,rfl⟩
    | succ i=>simp [dS,dSr] at g1
   ·intro L n' hn hL
    have hL0:L n=some .none:=hL 0 _ rfl
    simp only [dS,VR]
    refine ⟨⟨by simp [dS] at hn;omega,rfl,?_⟩,trivial⟩
    intro l hl'
    rw [hL0] at hl';cases hl'
    exact ⟨Nat.zero_le _,rfl,rfl,rfl⟩
  ·obtain ⟨ls,d,k⟩:=Jnp rows (n+1) vals S' c h7
   refine ⟨.at b sz cap::ls,⟨by simp [dS,d.len],by simp [K0z,d.S],?_⟩,?_⟩
   ·intro L n' hn hL i B l g1 g2
    simp only [dS,List.length_cons] at hn
    have hL':∀ (i:Nat) l,ls[i]? = some l→L (n+1+i)=some l:=fun i l hi=>by
     have:=hL (i+1) l (by simpa using hi)
     rw [←this];congr 1;omega
    cases i with
    | zero=>
     simp only [dS,List.getElem?_cons_zero,Option.some.injEq] at g1 g2;subst g1 g2
     refine Jea.of ⟨rfl,fun _=>rfl,cur,t,vals,rest,hb,h1,h2,h3,h5,by rw [Jcp];exact h4,by rw [Jcp];exact hl,?_,h6',?_⟩
     ·intro r hr
      obtain ⟨x,hx,e⟩:=Jn3 _ _ r hr
      rw [e];exact h6 x hx
     ·simp only [if_true]
      exact k L n' (by omega) hL'
    | succ i=>
     simp only [dS,List.getElem?_cons_succ] at g1 g2
     exact d.brel L n' (by omega) hL' i B l g1 g2
   ·intro L n' hn hL
    have hL0:L n=some (.at b sz cap):=hL 0 _ rfl
    simp only [dS,VR]
    refine ⟨⟨by simp [dS] at hn;omega,rfl,?_⟩,trivial⟩
    intro l hl'
    rw [hL0] at hl';cases hl'
    exact ⟨hl,some ⟨b,0,Option.none⟩,by simp,by simp,by omega⟩
 | .agg cs,n,v,S,c,h=>by
  simp only [VR,J2g] at h c
  obtain ⟨vs,rfl,h⟩:=h
  obtain ⟨ls,h1,h2⟩:=Jek cs n _ _ c h
  exact ⟨ls,h1,fun L n' hn hL=>by simp only [dS,VR];exact ⟨vs,rfl,h2 L n' hn hL⟩⟩
 | .tup cs,n,v,S,c,h=>by
  simp only [VR,J2g] at h c
  obtain ⟨vs,rfl,h⟩:=h
  obtain ⟨ls,h1,h2⟩:=Jek cs n _ _ c h
  exact ⟨ls,h1,fun L n' hn hL=>by simp only [dS,VR];exact ⟨vs,rfl,h2 L n' hn hL⟩⟩
theorem Jek:∀ (rs:List AV) (n:Nat) (vs:List Value) (S:List Nat),J3n rs=true→VRl w Lo 0 rs vs S →
 ∃ ls,DD w (dSl rs n).2 ls S n∧∀ (L:Nat→Option Loc) (n':Nat),n+(dSl rs n).2.length≤n'→(∀ (i:Nat) l,ls[i]? = some l→L (n+i)=some l)→VRl w L n' (dSl rs n).1 vs []
 | [],n,vs,S,c,h=>by
  simp only [VRl] at h;obtain ⟨rfl,rfl⟩:=h
  exact ⟨[],DD.nil w n,fun L n' _ _=>by simp [dSl,VRl]⟩
 | a::as,n,vs,S,c,h=>by
  simp only [J3n,Bool.and_eq_true] at c
  simp only [VRl] at h
  obtain ⟨v,vs',S1,S2,rfl,rfl,h1,h2⟩:=h
  obtain ⟨l1,d1,k1⟩:=Jre a n v S1 c.1 h1
  obtain ⟨l2,d2,k2⟩:=Jek as (n+(dS a n).2.length) vs' S2 c.2 h2
  refine ⟨l1++l2,d1.append d2,?_⟩
  intro L n' hn hL
  simp only [dSl,List.length_append] at hn
  simp only [dSl]
  refine J0z.2 ⟨v,vs',rfl,k1 L n' (by omega) ?_,k2 L n' (by omega) ?_⟩
  ·intro i p hp
   refine hL i p ?_
   rw [List.getElem?_append_left (List.getElem?_eq_some_iff.1 hp).1];exact hp
  ·intro i p hp
   have:=hL ((dS a n).2.length+i) p (by rw [←d1.len,List.getElem?_append_right (by omega),Nat.add_sub_cancel_left];exact hp)
   rw [←this];congr 1;omega
theorem Jnp:∀ (rs:List (List AV)) (n:Nat) (vs:List Value) (S:List Nat),J46 rs=true→VRr w Lo 0 rs vs S →
 ∃ ls,DD w (dSr rs n).2 ls S n∧∀ (L:Nat→Option Loc) (n':Nat),n+(dSr rs n).2.length≤n'→(∀ (i:Nat) l,ls[i]? = some l→L (n+i)=some l)→VRr w L n' (dSr rs n).1 vs []
 | [],n,vs,S,c,h=>by
  simp only [VRr] at h;obtain ⟨rfl,rfl⟩:=h
  exact ⟨[],DD.nil w n,fun L n' _ _=>by simp [dSr,VRr]⟩
 | a::as,n,vs,S,c,h=>by
  simp only [J46,Bool.and_eq_true] at c
  simp only [VRr] at h
  obtain ⟨v,vs',S1,S2,rfl,rfl,h1,h2⟩:=h
  obtain ⟨l1,d1,k1⟩:=Jek a n v S1 c.1 h1
  obtain ⟨l2,d2,k2⟩:=Jnp as (n+(dSl a n).2.length) vs' S2 c.2 h2
  refine ⟨l1++l2,d1.append d2,?_⟩
  intro L n' hn hL
  simp only [dSr,List.length_append] at hn
  simp only [dSr,VRr]
  refine ⟨v,vs',[],[],rfl,rfl,k1 L n' (by omega) ?_,k2 L n' (by omega) ?_⟩
  ·intro i p hp
   refine hL i p ?_
   rw [List.getElem?_append_left (List.getElem?_eq_some_iff.1 hp).1];exact hp
  ·intro i p hp
   have:=hL ((dSl a n).2.length+i) p (by rw [←d1.len,List.getElem?_append_right (by omega),Nat.add_sub_cancel_left];exact hp)
   rw [←this];congr 1;omega
end
end
def Jte (h:Heap) (n:Nat) (bs:List Blk):Heap:=fun id=>if n≤id then (match bs[id - n]? with|some B=>some B|Option.none=>h id) else h id
theorem HRel.takeD {base:Nat}{w0 w1 w:World}{L:Nat→Option Loc}{N:Nat}{F:Nat→List Nat}{h:Heap}{r:AV}{v:Value}{S:List Nat}
 (H:HRel base w0 w1 L N F [] h) (hb:Below w1.heap.size w1 w) (hc:J2g r=true) (hv:VR w Lo 0 r v S) (hn:S.Nodup) (hS:∀ b∈S,w1.heap.size≤b∧b<w.heap.size) :
 ∃ L' F',HRel base w0 w L' (N+(dS r N).2.length) F' [] (Jte h N (dS r N).2)∧VR w L' (N+(dS r N).2.length) (dS r N).1 v []∧Ext w1 L N w L' (N+(dS r N).2.length):=by
 obtain ⟨ls,d,k⟩:=Jre r N v S hc hv
 generalize hbs:(dS r N).2=bs at *
 let L':Nat→Option Loc:=fun id=>if N≤id then (match ls[id - N]? with|some p=>some p|Option.none=>L id) else L id
 let F':Nat→List Nat:=fun id=>if N≤id then [] else F id
 have hLN:∀ id,N≤id→L id=Option.none:=fun id hid=>by
  cases hl:L id with
  | none=>rfl
  | some l=>exact absurd (H.lt id l hl) (by omega)
 have Lold:∀ id,id<N→L' id=L id:=fun id hid=>by show (if N≤id then _ else _)=_;rw [if_neg (by omega)]
 have Fold:∀ id,id<N→F' id=F id:=fun id hid=>by show (if N≤id then _ else _)=_;rw [if_neg (by omega)]
 have Lnew:∀ (i:Nat) p,ls[i]? = some p→L' (N+i)=some p:=fun i p hp=>by
  show (if N≤N+i then _ else _)=_;rw [if_pos (by omega),Nat.add_sub_cancel_left,hp]
 have Fcase:∀ id b,b∈F' id→id<N∧b∈F id:=fun id b hm=>by
  by_cases hid:N≤id
  ·have:F' id=[]:=by show (if N≤id then _ else _)=_;rw [if_pos hid]
   rw [this] at hm;cases hm
  ·rw [Fold id (by omega)] at hm;exact ⟨by omega,hm⟩
 have Lcase:∀ id l,L' id=some l→(id<N∧L id=some l)∨∃ i:Nat,id=N+i∧ls[i]? = some l:=fun id l hl=>by
  by_cases hid:N≤id
  ·cases hp:ls[id - N]? with
   | none=>
    have:L' id=L id:=by show (if N≤id then _ else _)=_;rw [if_pos hid,hp]
    rw [this,hLN id hid] at hl;cases hl
   | some p=>
    right
    have:=Lnew (id - N) p hp
    rw [show N+(id - N)=id by omega] at this
    rw [this] at hl;cases hl
    exact ⟨id - N,by omega,hp⟩
  ·left;rw [Lold id (by omega)] at hl;exact ⟨by omega,hl⟩
 have hnd:(ls.map K0z).flatten.Nodup:=d.S ▸ hn
 have hatb:∀ (i b sz cap:Nat),ls[i]? = some (Loc.at b sz cap)→b∈S:=fun i b sz cap hp=>by
  rw [d.S];exact List.mem_flatten.2 ⟨K0z (.at b sz cap),List.mem_map.2 ⟨_,List.mem_of_getElem? hp,rfl⟩,by simp [K0z]⟩
 have ownL':∀ b,Own L' b→Own L b∨b∈S:=by
  rintro b ⟨id,sz,cap,hid⟩
  rcases Lcase id _ hid with ⟨_,hl⟩|⟨i,rfl,hp⟩
  ·exact .inl ⟨id,sz,cap,hl⟩
  ·exact .inr (hatb i b sz cap hp)
 have e:Ext w1 L N w L' (N+bs.length):=by
  refine ⟨by omega,?_,hb.size,?_⟩
  ·intro id l hid hl;rw [Lold id hid] at hl;exact hl
  ·intro b hlt ho
   refine ⟨hb.block b hlt,fun h' => ?_⟩
   rcases ownL' b h' with h'|h'
   ·exact ho h'
   ·have:=(hS b h').1;omega
 have hlen:=d.len
 refine ⟨L',F',⟨H.below.trans (hb.mono H.bsz),Nat.le_trans H.bsz hb.size,?_,?_,?_,?_,?_,?_,?_,by simp,?_,List.nodup_nil,?_,by simp⟩,k L' _ (Nat.le_refl _) Lnew,e⟩
 ·intro id hid
  unfold Jte at hid
  by_cases hN:N≤id
  ·rw [if_pos hN] at hid
   cases hr:bs[id - N]? with
   | none=>
    rw [hr] at hid
    have hls:ls[id - N]? = Option.none:=by rw [List.getElem?_eq_none_iff] at hr ⊢;omega
    show (if N≤id then _ else _)=_
    rw [if_pos hN,hls];exact hLN id hN
   | some r'=>rw [hr] at hid;cases hid
  ·rw [if_neg hN] at hid
   rw [Lold id (by omega)];exact H.dom id hid
 ·intro id hid
  unfold Jte
  by_cases hN:N≤id
  ·rw [if_pos hN]
   cases hr:bs[id - N]? with
   | none=>exact H.mod id (hLN id hN)
   | some r'=>
    have:id - N<ls.length:=by rw [hlen];exact (List.getElem?_eq_some_iff.1 hr).1
    have:=Lnew (id - N) _ (List.getElem?_eq_getElem this)
    rw [show N+(id - N)=id by omega,hid] at this;cases this
  ·rw [if_neg hN];rw [Lold id (by omega)] at hid;exact H.mod id hid
 ·intro id l hl
  rcases Lcase id l hl with ⟨h1,_⟩|⟨i,rfl,hp⟩
  ·omega
  ·have:=(List.getElem?_eq_some_iff.1 hp).1;omega
 ·intro id id' b sz cap sz' cap' h1 h2
  rcases Lcase id _ h1 with ⟨_,h1⟩|⟨i,rfl,hp⟩
  ·rcases Lcase id' _ h2 with ⟨_,h2⟩|⟨i',rfl,hp'⟩
   ·exact H.inj id id' b _ _ _ _ h1 h2
   ·have g1:=H.own_lt ⟨id,sz,cap,h1⟩
    have g2:=(hS b (hatb i' b sz' cap' hp')).1
    omega
  ·rcases Lcase id' _ h2 with ⟨_,h2⟩|⟨i',rfl,hp'⟩
   ·have g1:=H.own_lt ⟨id',sz',cap',h2⟩
    have g2:=(hS b (hatb i b sz cap hp)).1
    omega
   ·rw [J53 hnd i i' b _ _ (by rw [List.getElem?_map,hp];rfl) (by rw [List.getElem?_map,hp'];rfl) (by simp [K0z]) (by simp [K0z])]
 ·intro b ho
  rcases ownL' b ho with h'|h'
  ·exact H.lo b h'
  ·exact Nat.le_trans H.bsz (hS b h').1
 ·intro id B l h1 h2
  rcases Lcase id l h2 with ⟨hid,hl⟩|⟨i,rfl,hp⟩
  ·unfold Jte at h1
   rw [if_neg (by omega)] at h1
   rw [Fold id hid]
   exact (H.blk id B l h1 hl).ext e fun b sz cap hl'=>hb.block b (H.own_lt ⟨id,sz,cap,hl' ▸ hl⟩)
  ·have hF:F' (N+i)=[]:=by show (if N≤N+i then _ else _)=_;rw [if_pos (by omega)]
   rw [hF]
   unfold Jte at h1
   rw [if_pos (by omega),Nat.add_sub_cancel_left] at h1
   have hi:i<bs.length:=by have:=(List.getElem?_eq_some_iff.1 hp).1;omega
   rw [List.getElem?_eq_getElem hi] at h1
   simp only [Option.some.injEq] at h1
   subst h1
   exact d.brel L' _ (Nat.le_refl _) Lnew i _ l (List.getElem?_eq_getElem hi) hp
 ·intro id b hm
  obtain ⟨_,h1⟩:=Fcase id b hm
  obtain ⟨g1,g2,g3⟩:=H.fp id b h1
  exact ⟨(e.block b g3 g1).2,g2,Nat.lt_of_lt_of_le g3 hb.size⟩
 ·intro id
  by_cases hid:N≤id
  ·have:F' id=[]:=by show (if N≤id then _ else _)=_;rw [if_pos hid]
   rw [this];exact List.nodup_nil
  ·rw [Fold id (by omega)];exact H.nd id
 ·intro id id' b h1 h2
  exact H.dj id id' b (Fcase id b h1).2 (Fcase id' b h2).2
section
variable {h:Heap}
mutual
theorem K52:∀ (r:AV) (n:Nat),J2g r=true→(∀ (i:Nat) B,(dS r n).2[i]? = some B→h (n+i)=some B)→TR h r (dS r n).1 (List.range' n (dS r n).2.length)
 | .undef,_,c,_ | .nil _,_,c,_ | .ptr ..,_,c,_ | .fptr ..,_,c,_ | .ref ..,_,c,_ | .sl ..,_,c,_ | .fn ..,_,c,_ | .mp ..,_,c,_=>by simp [J2g] at c
 | .int ..,n,c,hh | .bool _,n,c,hh | .str _,n,c,hh | .nilp,n,c,hh=>by simp [dS,TR]
 | .us sz rows,n,c,hh=>by
  simp only [J2g] at c
  simp only [dS,TR,List.length_cons]
  refine ⟨n,(dSr rows (n+1)).1,List.range' (n+1) (dSr rows (n+1)).2.length,rfl,by rw [List.range'_succ],by simpa using hh 0 _ (by simp [dS]),Jx1 rows (n+1) c ?_⟩
  intro i B hB
  have:=hh (i+1) B (by simpa [dS] using hB)
  rw [←this];congr 1;omega
 | .agg cs,n,c,hh=>by
  simp only [J2g] at c
  simp only [dS,TR]
  exact ⟨_,rfl,Jo4 cs n c (by simpa only [dS] using hh)⟩
 | .tup cs,n,c,hh=>by
  simp only [J2g] at c
  simp only [dS,TR]
  exact ⟨_,rfl,Jo4 cs n c (by simpa only [dS] using hh)⟩
theorem Jo4:∀ (rs:List AV) (n:Nat),J3n rs=true→(∀ (i:Nat) B,(dSl rs n).2[i]? = some B→h (n+i)=some B)→TRl h rs (dSl rs n).1 (List.range' n (dSl rs n).2.length)
 | [],n,c,hh=>by simp [dSl,TRl]
 | a::as,n,c,hh=>by
  simp only [J3n,Bool.and_eq_true] at c
  simp only [dSl,TRl]
  refine ⟨_,_,List.range' n (dS a n).2.length,List.range' (n+(dS a n).2.length) (dSl as (n+(dS a n).2.length)).2.length,rfl,?_,K52 a n c.1 ?_,Jo4 as _ c.2 ?_⟩
  ·rw [List.length_append,List.range'_append_1]
  ·intro i B hB
   refine hh i B ?_
   simp only [dSl]
   rw [List.getElem?_append_left (List.getElem?_eq_some_iff.1 hB).1];exact hB
  ·intro i B hB
   have:=hh ((dS a n).2.length+i) B (by simp only [dSl];rw [List.getElem?_append_right (by omega),Nat.add_sub_cancel_left];exact hB)
   rw [←this];congr 1;omega
theorem Jx1:∀ (rs:List (List AV)) (n:Nat),J46 rs=true→(∀ (i:Nat) B,(dSr rs n).2[i]? = some B→h (n+i)=some B)→TRr h rs (dSr rs n).1 (List.range' n (dSr rs n).2.length)
 | [],n,c,hh=>by simp [dSr,TRr]
 | a::as,n,c,hh=>by
  simp only [J46,Bool.and_eq_true] at c
  simp only [dSr,TRr]
  refine ⟨_,_,List.range' n (dSl a n).2.length,List.range' (n+(dSl a n).2.length) (dSr as (n+(dSl a n).2.length)).2.length,rfl,?_,Jo4 a n c.1 ?_,Jx1 as _ c.2 ?_⟩
  ·rw [List.length_append,List.range'_append_1]
  ·intro i B hB
   refine hh i B ?_
   simp only [dSr]
   rw [List.getElem?_append_left (List.getElem?_eq_some_iff.1 hB).1];exact hB
  ·intro i B hB
   have:=hh ((dSl a n).2.length+i) B (by simp only [dSr];rw [List.getElem?_append_right (by omega),Nat.add_sub_cancel_left];exact hB)
   rw [←this];congr 1;omega
end
end
section
variable {base:Nat}{w0 w:World}{L:Nat→Option Loc}{N:Nat}{F:Nat→List Nat}{E:List Nat}{h:Heap}
mutual
theorem Jry (H:HRel base w0 w L N F E h):∀ (t:AV) {a:AV}{I:List Nat}{v:Value}{M:Nat},TR h t a I→VR w L M a v []→VR w Lo 0 (dr t) v []
 | .undef,_,_,_,_,ht,_ | .nil _,_,_,_,_,ht,_ | .ptr ..,_,_,_,_,ht,_ | .fptr ..,_,_,_,_,ht,_ | .ref ..,_,_,_,_,ht,_ | .sl ..,_,_,_,_,ht,_ | .fn ..,_,_,_,_,ht,_ | .mp _,_,_,_,_,ht,_=>by simp only [TR] at ht
 | .int ..,a,I,v,M,ht,hv=>by simp only [TR] at ht;obtain ⟨rfl,_⟩:=ht;simpa only [VR,dr] using hv
 | .bool _,a,I,v,M,ht,hv=>by simp only [TR] at ht;obtain ⟨rfl,_⟩:=ht;simpa only [VR,dr] using hv
 | .str _,a,I,v,M,ht,hv=>by simp only [TR] at ht;obtain ⟨rfl,_⟩:=ht;simpa only [VR,dr] using hv
 | .nilp,a,I,v,M,ht,hv=>by simp only [TR] at ht;obtain ⟨rfl,_⟩:=ht;simpa only [VR,dr] using hv
 | .agg cs,a,I,v,M,ht,hv=>by
  simp only [TR] at ht;obtain ⟨cs',rfl,ht⟩:=ht
  simp only [VR,dr] at hv ⊢
  obtain ⟨vs,rfl,hv⟩:=hv
  exact ⟨vs,rfl,Jei H cs ht hv⟩
 | .tup cs,a,I,v,M,ht,hv=>by
  simp only [TR] at ht;obtain ⟨cs',rfl,ht⟩:=ht
  simp only [VR,dr] at hv ⊢
  obtain ⟨vs,rfl,hv⟩:=hv
  exact ⟨vs,rfl,Jei H cs ht hv⟩
 | .us sz rows,a,I,v,M,ht,hv=>by
  simp only [TR] at ht
  obtain ⟨id,rows',I',rfl,rfl,hB,hR⟩:=ht
  have hlr:=Jhg hR
  have hlenT:(drr rows).length=rows.length:=by rw [J4n];simp
  cases hl:L id with
  | none=>rw [H.mod id hl] at hB;cases hB
  | some l=>
   simp only [VR] at hv
   have hr:=hv.1.2.2 l hl
   have hbr:=H.blk id _ l hB hl
   cases l with
   | none=>
    obtain ⟨hrows,_⟩:=hbr
    simp only at hrows
    obtain ⟨_,_,hl0,rfl⟩:=hr
    have hr0:rows=[]:=List.eq_nil_of_length_eq_zero hl0
    subst hr0
    simp only [VR,dr,drr]
    exact ⟨⟨_,_,[],rfl,⟨Nat.zero_le _,Nat.le_refl _⟩,⟨rfl,rfl⟩,.inl trivial⟩,trivial⟩
   | «at» b sz' cap=>
    obtain ⟨hlim,A,rfl,hA,hcap⟩:=hr
    obtain ⟨rfl,hF,cur,t,vals,rest,h1,h2,h3,h4,h5,h6,h7,h8,h9,h10⟩:=hbr.cells hcap.2
    simp only [if_true] at h10
    rw [hF rfl] at h10
    have g:=Jnm H rows hR h10
    simp only [VR,dr,hlenT]
    refine ⟨⟨A,_,vals,rfl,⟨hlim,by omega⟩,g,?_⟩,trivial⟩
    right
    refine ⟨b,0,by simpa using hA (.inr rfl),J5l b,J31 h1,?_,?_,h9⟩
    ·intro r hr
     rw [J4n] at hr
     obtain ⟨r',hr',rfl⟩:=List.mem_map.1 hr
     rw [Jc3,List.length_map]
     obtain ⟨x,hx,e⟩:=Jon hR r' hr'
     rw [←e];exact h8 x hx
    ·exact J4w (pre:=[]) (vals:=vals) (rest:=rest) h1 (by rw [h2];simp)
theorem Jei (H:HRel base w0 w L N F E h):∀ (ts:List AV) {as:List AV}{I:List Nat}{vs:List Value}{M:Nat},TRl h ts as I→VRl w L M as vs []→VRl w Lo 0 (drl ts) vs []
 | [],as,I,vs,M,ht,hv=>by
  simp only [TRl] at ht;obtain ⟨rfl,_⟩:=ht
  simpa only [VRl,drl] using hv
 | t::ts,as,I,vs,M,ht,hv=>by
  simp only [TRl] at ht;obtain ⟨a,as',I1,I2,rfl,_,h1,h2⟩:=ht
  obtain ⟨v,vs',rfl,g1,g2⟩:=J0z.1 hv
  simp only [drl]
  exact J0z.2 ⟨v,vs',rfl,Jry H t h1 g1,Jei H ts h2 g2⟩
theorem Jnm (H:HRel base w0 w L N F E h):∀ (ts:List (List AV)) {as:List (List AV)}{I:List Nat}{vs:List Value}{M:Nat},TRr h ts as I→VRr w L M as vs []→VRr w Lo 0 (drr ts) vs []
 | [],as,I,vs,M,ht,hv=>by
  simp only [TRr] at ht;obtain ⟨rfl,_⟩:=ht
  simpa only [VRr,drr] using hv
 | t::ts,as,I,vs,M,ht,hv=>by
  simp only [TRr] at ht;obtain ⟨a,as',I1,I2,rfl,_,h1,h2⟩:=ht
  simp only [VRr] at hv
  obtain ⟨v1,v2,S1,S2,rfl,hS,g1,g2⟩:=hv
  obtain ⟨rfl,rfl⟩:=List.append_eq_nil_iff.1 hS.symm
  simp only [drr,VRr]
  exact ⟨v1,v2,[],[],rfl,rfl,Jei H t h1 g1,Jnm H ts h2 g2⟩
end
end
def Lent (h:Heap) (a t:AV):Prop:=bw a h=some t∨∃ t' I,TR h t' a I∧dr t'=t
def Jta (h:Heap):List AV→List AV→Prop
 | [],[]=>True
 | a::as,t::ts=>Lent h a t∧Jta h as ts
 | _,_=>False
theorem Jb3 {base:Nat}{w0 w:World}{L:Nat→Option Loc}{N:Nat}{F:Nat→List Nat}{E:List Nat}{h:Heap}(H:HRel base w0 w L N F E h) :
 ∀ {as ts:List AV}{vs:List Value},Jta h as ts→VRl w L N as vs []→VRl w Lo 0 ts vs []
 | [],[],vs,_,hv=>by simpa only [VRl] using hv
 | a::as,t::ts,vs,hl,hv=>by
  obtain ⟨v,vs',rfl,g1,g2⟩:=J0z.1 hv
  refine J0z.2 ⟨v,vs',rfl,?_,Jb3 H hl.2 g2⟩
  rcases hl.1 with hb|⟨t',I,ht,rfl⟩
  ·exact Jnw H a g1 hb
  ·exact Jry H t' ht g1
 | [],_::_,_,hl,_=>hl.elim
 | _::_,[],_,hl,_=>hl.elim
section
variable {P:Program}
theorem Jb5 {f:FuncId}{as as':List AV}{h:Heap}{n:Nat}{Q:AV→Prop}{K:AV→Heap→Nat→Prop}(hh:Holds P f as' Q) (hb:Jta h as as')
 (hK:∀ r a h' n' I,Q r→TR h' r a I→I.Nodup→(∀ id∈I,n≤id∧id<n')→n≤n'→(∀ id,id<n→h' id=h id)→K a h' n'):J2c P f as h n fun r h' n'=>J7l h h'∧K r h' n':=by
 refine ⟨hh.1,fun base w0 w L F vs H hv => ?_⟩
 refine (hh.2 w vs (Jb3 H hb hv)).mono ?_
 rintro e w' ⟨v,r,S,rfl,hq,hcl,hbel,hr,hnd,hS⟩
 obtain ⟨L',F',g1,g2,g3⟩:=H.takeD hbel hcl hr hnd hS
 have hold:∀ id,id<n→Jte h n (dS r n).2 id=h id:=fun id hid=>by unfold Jte;rw [if_neg (by omega)]
 refine ⟨v,_,L',_,F',_,rfl,g1,g3,g2,fun id B hB => ?_,hK r _ _ _ (List.range' n (dS r n).2.length) hq (K52 r n hcl ?_) List.nodup_range' (fun id hid=>by simpa using hid) (by omega) hold⟩
 ·have hlt:id<n:=by
   cases hl:L id with
   | none=>rw [H.mod id hl] at hB;cases hB
   | some l=>exact H.lt id l hl
  rw [hold id hlt];exact hB
 ·intro i B hB
  unfold Jte
  rw [if_pos (by omega),Nat.add_sub_cancel_left,hB]
def J9d (P:Program) (f:FuncId) (t:AV) (k:Int) (t':AV) (k':Int):Prop:=
 ∀ (h:Heap) (n:Nat) (a:AV) (I:List Nat) (K:AV→Heap→Nat→Prop),TR h t a I→I.Nodup→(∀ id∈I,id<n) →
  (∀ h' n',n≤n'→(∀ id,id<n→id∉I→h' id=h id)→TR h' t' a I→K (i64 k') h' n')→J2c P f [a,i64 k] h n K
end
open Go Go.RowKit
abbrev Tree:=AV×AV×List Nat
def Jcm (h:Heap) (n:Nat):List Tree→Prop
 | []=>True
 | x::T=>TR h x.1 x.2.1 x.2.2∧x.2.2.Nodup∧(∀ id∈x.2.2,id<n)∧(∀ y∈T,∀ id∈x.2.2,id∉y.2.2)∧Jcm h n T
section
variable {h h':Heap}{n n':Nat}
theorem Jcm.ids:∀ {T:List Tree},Jcm h n T→∀ x∈T,TR h x.1 x.2.1 x.2.2∧x.2.2.Nodup∧∀ id∈x.2.2,id<n
 | y::T,hL,x,hx=>by
  obtain ⟨h1,h2,h3,_,h5⟩:=hL
  rcases List.mem_cons.1 hx with rfl|hx
  ·exact ⟨h1,h2,h3⟩
  ·exact Jcm.ids h5 x hx
theorem Jcm.up:∀ {T:List Tree},Jcm h n T→n≤n'→(∀ id,id<n→h' id=h id)→Jcm h' n' T
 | [],_,_,_=>trivial
 | x::T,⟨h1,h2,h3,h4,h5⟩,hn,hh=>⟨Jbn x.1 (fun id hi=>hh id (h3 id hi)) h1,h2,fun id hi=>Nat.lt_of_lt_of_le (h3 id hi) hn,h4,Jcm.up h5 hn hh⟩
theorem Jcm.turn {t t' a:AV}{I:List Nat}{T2:List Tree} : ∀ {T1:List Tree},Jcm h n (T1++(t,a,I)::T2)→n≤n'→(∀ id,id<n→id∉I→h' id=h id)→TR h' t' a I→Jcm h' n' (T1++(t',a,I)::T2)
 | [],⟨h1,h2,h3,h4,h5⟩,hn,hh,ht=>by
  refine ⟨ht,h2,fun id hi=>Nat.lt_of_lt_of_le (h3 id hi) hn,h4,?_⟩
  have:∀ (T:List Tree),(∀ y∈T,∀ id∈I,id∉y.2.2)→Jcm h n T→Jcm h' n' T:=by
   intro T
   induction T with
   | nil=>intros;trivial
   | cons y T ih=>
    rintro hd ⟨g1,g2,g3,g4,g5⟩
    exact ⟨Jbn y.1 (fun id hi=>hh id (g3 id hi) fun hI=>hd y (by simp) id hI hi) g1,g2,fun id hi=>Nat.lt_of_lt_of_le (g3 id hi) hn,g4,ih (fun z hz=>hd z (by simp [hz])) g5⟩
  exact this T2 h4 h5
 | x::T1,⟨h1,h2,h3,h4,h5⟩,hn,hh,ht=>by
  have hx:∀ id∈x.2.2,id∉I:=h4 (t,a,I) (by simp)
  refine ⟨Jbn x.1 (fun id hi=>hh id (h3 id hi) (hx id hi)) h1,h2,fun id hi=>Nat.lt_of_lt_of_le (h3 id hi) hn,?_,Jcm.turn h5 hn hh ht⟩
  intro y hy
  rcases List.mem_append.1 hy with hy|hy
  ·exact h4 y (by simp [hy])
  ·rcases List.mem_cons.1 hy with rfl|hy
   ·exact hx
   ·exact h4 y (by simp [hy])
def Kal (T:List Tree) (a t:AV):Prop:=(∀ h,bw a h=some t)∨∃ x∈T,x.2.1=a∧dr x.1=t
def J7n (T:List Tree):List AV→List AV→Prop
 | [],[]=>True
 | a::as,t::ts=>Kal T a t∧J7n T as ts
 | _,_=>False
theorem J7n.ok {T:List Tree}(hL:Jcm h n T):∀ {as ts:List AV},J7n T as ts→Jta h as ts
 | [],[],_=>trivial
 | a::as,t::ts,⟨h1,h2⟩=>by
  refine ⟨?_,J7n.ok hL h2⟩
  rcases h1 with h1|⟨x,hx,rfl,rfl⟩
  ·exact .inl (h1 h)
  ·exact .inr ⟨x.1,x.2.2,(hL.ids x hx).1,rfl⟩
 | [],_::_,hl=>hl.elim
 | _::_,[],hl=>hl.elim
variable {P:Program}{f:FuncId}{as as':List AV}{T:List Tree}{K:AV→Heap→Nat→Prop}
theorem K01 {c:AV}{n:Nat}(hc:Jeq c=true):dS c n=(c,[]):=by
 unfold Jeq at hc
 split at hc
 ·rfl
 ·rfl
 ·rfl
 ·simp [dS,dSl]
 ·cases hc
theorem Jw6 (h:Heap) (n:Nat):Jte h n []=h:=by funext id;unfold Jte;split <;> simp
theorem Jge {c:AV}(hh:Holds P f as' (fun r=>r=c)) (hc:Jeq c=true) (hb:Jta h as as') (hk:K c h n):J2c P f as h n fun r h' n'=>J7l h h'∧K r h' n':=by
 refine ⟨hh.1,fun base w0 w L F vs H hv => ?_⟩
 refine (hh.2 w vs (Jb3 H hb hv)).mono ?_
 rintro e w' ⟨v,r,S,rfl,rfl,hcl,hbel,hr,hnd,hS⟩
 obtain ⟨L',F',g1,g2,g3⟩:=H.takeD hbel hcl hr hnd hS
 rw [K01 hc] at g1 g2 g3
 simp only [Jw6,List.length_nil,Nat.add_zero] at g1 g2 g3
 exact ⟨v,_,L',_,F',_,rfl,g1,g3,g2,J7l.refl _,hk⟩
theorem Jqv {c:AV}(hh:Holds P f as' (fun r=>r=c)) (hL:Jcm h n T) (hc:Jeq c=true) (hb:J7n T as as') (hk:K c h n):J2c P f as h n K:=
 J2c.mono (Jge hh hc (hb.ok hL) hk) fun _ _ _ h=>h.2
theorem Jpg {c:AV}(hh:Holds P f as' (fun r=>r=c)) (hL:Jcm h n T) (hc:Jeq c=true) (hb:J7n T as as') (hk:K c h n):J2c P f as h n (hK h K):=Jge hh hc (hb.ok hL) hk
theorem K21 {t:AV}(hh:Holds P f as' (fun r=>r=t)) (hL:Jcm h n T) (hb:J7n T as as')
 (hk:∀ a h' n' I,Jcm h' n' ((t,a,I)::T)→n≤n'→(∀ id,id<n→h' id=h id)→TR h' t a I→K a h' n'):J2c P f as h n fun r h' n'=>J7l h h'∧K r h' n':=
 Jb5 hh (hb.ok hL) fun r a h' n' I hr h1 h2 h3 h4 h5=>by
  subst hr
  refine hk a h' n' I ⟨h1,h2,fun id hi=>(h3 id hi).2,?_,hL.up h4 h5⟩ h4 h5 h1
  intro y hy id hi hi'
  have:=(hL.ids y hy).2.2 id hi'
  have:=(h3 id hi).1
  omega
theorem Jk4 {t t' a:AV}{k k':Int}{I:List Nat}{T1 T2:List Tree}(hm:J9d P f t k t' k') (hL:Jcm h n (T1++(t,a,I)::T2))
 (hk:∀ h' n',Jcm h' n' (T1++(t',a,I)::T2)→n≤n'→(∀ id,id<n→id∉I→h' id=h id)→K (i64 k') h' n'):J2c P f [a,i64 k] h n K:=by
 obtain ⟨h1,h2,h3⟩:=hL.ids (t,a,I) (by simp)
 exact hm h n a I K h1 h2 h3 fun h' n' hn hh ht=>hk h' n' (hL.turn hn hh ht) hn hh
end
open Go Go.RowKit
def mkL {α:Type}(m:α→Int→α) (c:α→Nat):List α→Int→List α
 | [],_=>[]
 | x::l,k=>m x k::mkL m c l (k+c x)
def cL {α:Type}(c:α→Nat):List α→Nat
 | []=>0
 | x::l=>c x+cL c l
theorem Jqk {α:Type} : ∀ l:List α,cL (fun _=>1) l=l.length
 | []=>rfl
 | x::l=>by simp [cL,Jqk l];omega
section
variable {h:Heap}
theorem K0w {A B as:List (List AV)}{r:List AV}{I:List Nat}(ht:TRr h (A++r::B) as I) :
 ∃ a I1 I2 I3,as[A.length]? = some a∧I=I1++(I2++I3)∧TRl h r a I2 ∧
  ∀ (h':Heap) r' a',(∀ id∈I1++I3,h' id=h id)→TRl h' r' a' I2→TRr h' (A++r'::B) (as.set A.length a') I:=by
 obtain ⟨a,I1,I2,I3,g1,g2,g3,g4⟩:=Jko (i:=A.length) (t:=r) ht (by simp)
 exact ⟨a,I1,I2,I3,g1,g2,g3,fun h' r' a' hf hr=>by have:=g4 h' r' a' hf hr;simpa using this⟩
theorem J6v {k:IntKind}{n:Int}{ts as:List AV}{I:List Nat} : TRl h (.int k n::ts) as I↔∃ as',as = .int k n::as'∧TRl h ts as' I:=by
 simp only [TRl,TR]
 constructor
 ·rintro ⟨a,as',I1,I2,rfl,rfl,⟨rfl,rfl⟩,h2⟩;exact ⟨as',rfl,h2⟩
 ·rintro ⟨as',rfl,h2⟩;exact ⟨_,as',[],I,rfl,rfl,⟨rfl,rfl⟩,h2⟩
theorem J7z {b:Bool}{ts as:List AV}{I:List Nat} : TRl h (.bool b::ts) as I↔∃ as',as = .bool b::as'∧TRl h ts as' I:=by
 simp only [TRl,TR]
 constructor
 ·rintro ⟨a,as',I1,I2,rfl,rfl,⟨rfl,rfl⟩,h2⟩;exact ⟨as',rfl,h2⟩
 ·rintro ⟨as',rfl,h2⟩;exact ⟨_,as',[],I,rfl,rfl,⟨rfl,rfl⟩,h2⟩
theorem J3o {b:List UInt8}{ts as:List AV}{I:List Nat} : TRl h (.str b::ts) as I↔∃ as',as = .str b::as'∧TRl h ts as' I:=by
 simp only [TRl,TR]
 constructor
 ·rintro ⟨a,as',I1,I2,rfl,rfl,⟨rfl,rfl⟩,h2⟩;exact ⟨as',rfl,h2⟩
 ·rintro ⟨as',rfl,h2⟩;exact ⟨_,as',[],I,rfl,rfl,⟨rfl,rfl⟩,h2⟩
theorem J2t {as:List AV}{I:List Nat} : TRl h [] as I↔as=[]∧I=[]:=by simp only [TRl]
theorem J6p {sz:Nat}{rows:List (List AV)}{ts as:List AV}{I:List Nat}(hh:TRl h (.us sz rows::ts) as I):∃ id len as' I1 I2,as = .ref id 0 len::as'∧I=I1++I2∧len=rows.length∧TR h (.us sz rows) (.ref id 0 len) I1∧TRl h ts as' I2:=by
 simp only [TRl] at hh
 obtain ⟨a,as',I1,I2,rfl,rfl,h1,h2⟩:=hh
 have h1':=h1
 simp only [TR] at h1
 obtain ⟨id,rows',I',rfl,_⟩:=h1
 exact ⟨id,_,as',I1,I2,rfl,rfl,rfl,h1',h2⟩
theorem J3t {t a:AV}{ts as:List AV}{I1 I2:List Nat}(h1:TR h t a I1) (h2:TRl h ts as I2):TRl h (t::ts) (a::as) (I1++I2):=by
 simp only [TRl];exact ⟨_,as,I1,I2,rfl,rfl,h1,h2⟩
theorem Jxi {ts:List AV}{a:AV}{I:List Nat} : TR h (.agg ts) a I↔∃ as,a = .agg as∧TRl h ts as I:=by simp only [TR]
theorem Js4 {ts as:List AV}{I:List Nat} : TR h (.agg ts) (.agg as) I↔TRl h ts as I:=by
 simp only [TR,AV.agg.injEq]
 exact ⟨fun ⟨_,e,h⟩=>e ▸ h,fun h=>⟨_,rfl,h⟩⟩
theorem Jci {sz:Nat}{rows:List (List AV)}{a:AV}{I:List Nat}(ht:TR h (.us sz rows) a I):∃ id rows' I',a = .ref id 0 rows.length∧I=id::I'∧h id=some ⟨true,sz,rows'⟩∧TRr h rows rows' I':=by
 simpa only [TR] using ht
end
theorem J6x {h:Heap}{sz id off len:Nat}{rows:List (List AV)}{I:List Nat}(ht:TR h (.us sz rows) (.ref id off len) I):(h id).isSome=true:=by
 obtain ⟨id',rows',I',q1,rfl,q2,q3⟩:=Jci ht
 simp only [AV.ref.injEq] at q1
 obtain ⟨rfl,_,_⟩:=q1
 rw [q2];rfl
def MJ {α:Type}(m:α→Int→α) (c:α→Nat) (rU:α→List AV) (sz:Nat) (h0:Heap) (n0:Nat) (id:Nat) (I:List Nat) (l:List α) (k:Int) (i:Nat) (s1:AV) (h:Heap) (n:Nat):Prop:=
 ∃ (A rest:List α) (ki:Int),A.length=i∧A.length+rest.length=l.length∧mkL m c l k=A++mkL m c rest ki∧k≤ki∧ki+cL c rest=k+cL c l∧s1=i64 ki∧n0≤n∧(∀ j,j<n0→j∉I→h j=h0 j) ∧
  TR h (.us sz ((A++rest).map rU)) (.ref id 0 l.length) I
section
variable {α:Type}{m:α→Int→α}{c:α→Nat}{rU:α→List AV}{sz:Nat}{h0 h:Heap}{n0 n id:Nat}{I:List Nat}{l:List α}{k:Int}{i:Nat}{s1:AV}
theorem MJ.start (ht:TR h (.us sz (l.map rU)) (.ref id 0 l.length) I):MJ m c rU sz h n id I l k 0 (i64 k) h n:=
 ⟨[],l,k,rfl,by simp,rfl,Int.le_refl _,rfl,rfl,Nat.le_refl _,fun _ _ _=>rfl,by simpa using ht⟩
theorem MJ.fin (hJ:MJ m c rU sz h0 n0 id I l k l.length s1 h n):s1=i64 (k+cL c l)∧n0≤n∧(∀ j,j<n0→j∉I→h j=h0 j)∧TR h (.us sz ((mkL m c l k).map rU)) (.ref id 0 l.length) I:=by
 obtain ⟨A,rest,ki,e1,e2,e3,e4,e5,rfl,e6,e7,e8⟩:=hJ
 have hr:rest=[]:=List.eq_nil_of_length_eq_zero (by omega)
 subst hr
 simp only [mkL,List.append_nil] at e3 e8
 simp only [cL] at e5
 refine ⟨by rw [←e5];simp,e6,e7,by rw [e3];exact e8⟩
theorem MJ.step (hI:I.Nodup) (hn0:∀ j∈I,j<n0) (hi:i<l.length) (hJ:MJ m c rU sz h0 n0 id I l k i s1 h n) :
 ∃ (x:α) (ki:Int) (rows:List (List AV)) (cells:List AV) (I2:List Nat),s1=i64 ki∧k≤ki∧ki+c x≤k+cL c l∧h id=some ⟨true,sz,rows⟩∧i<rows.length∧(∀ hl:i<rows.length,rows[i]'hl=cells)∧TRl h (rU x) cells I2∧I2.Nodup∧id∉I2 ∧
  id<n∧(∀ j∈I2,j<n)∧n0≤n∧∀ (h':Heap) (n':Nat) (cells':List AV) (s':AV),n≤n'→(∀ j,j<n→j≠id→j∉I2→h' j=h j)→h' id=some ⟨true,sz,rows.set i cells'⟩→TRl h' (rU (m x ki)) cells' I2→s'=i64 (ki+c x) →
   MJ m c rU sz h0 n0 id I l k (i+1) s' h' n':=by
 obtain ⟨A,rest,ki,rfl,e2,e3,e4,e5,rfl,e6,e7,e8⟩:=hJ
 cases rest with
 | nil=>simp at e2;omega
 | cons x rest=>
  obtain ⟨id',rows,I',q1,rfl,q2,q3⟩:=Jci e8
  simp only [AV.ref.injEq] at q1
  obtain ⟨rfl,_,_⟩:=q1
  rw [List.map_append,List.map_cons] at q3
  obtain ⟨a,I1,I2,I3,g1,rfl,g3,g4⟩:=K0w q3
  rw [List.length_map] at g1 g4
  simp only [cL] at e5
  simp only [mkL] at e3
  have hlen:A.length<rows.length:=(List.getElem?_eq_some_iff.1 g1).1
  simp only [List.nodup_cons,List.mem_append,List.nodup_append] at hI
  obtain ⟨d1,d2,⟨d3,d4,d5⟩,d6⟩:=hI
  refine ⟨x,ki,rows,a,I2,rfl,e4,by omega,q2,hlen,fun hl=>by rw [List.getElem?_eq_getElem hl] at g1;exact Option.some.inj g1,g3,d3,fun hm=>d1 (.inr (.inl hm)),Nat.lt_of_lt_of_le (hn0 _ (by simp)) e6,fun j hj=>Nat.lt_of_lt_of_le (hn0 j (by simp [hj])) e6,e6,?_⟩
  ·intro h' n' cells' s' hn hf hid hc hs
   refine ⟨A++[m x ki],rest,ki+c x,by simp,by simp at e2 ⊢;omega,by rw [e3];simp,by omega,by omega,hs,Nat.le_trans e6 hn,?_,?_⟩
   ·intro j hj hjI
    simp only [List.mem_cons,List.mem_append,not_or] at hjI
    rw [hf j (by omega) hjI.1 hjI.2.2.1]
    exact e7 j hj (by simp [hjI])
   ·simp only [TR]
    refine ⟨id,rows.set A.length cells',I1++(I2++I3),by simp at e2 ⊢;omega,rfl,hid,?_⟩
    rw [List.append_assoc,List.map_append,List.singleton_append,List.map_cons]
    refine g4 h' _ cells' (fun j hj => ?_) hc
    rw [List.mem_append] at hj
    refine hf j ?_ ?_ ?_
    ·have:=hn0 j (by rcases hj with hj|hj <;> simp [hj]);omega
    ·rintro rfl;exact d1 (by rcases hj with hj|hj <;> simp [hj])
    ·intro hm
     rcases hj with hj|hj
     ·exact d6 j hj j (by simp [hm]) rfl
     ·exact d5 j hm j hj rfl
end
theorem Jcm.frame {h h':Heap}{n n':Nat} : ∀ {T:List Tree},Jcm h n T→n≤n'→(∀ x∈T,∀ j∈x.2.2,h' j=h j)→Jcm h' n' T
 | [],_,_,_=>trivial
 | x::T,⟨h1,h2,h3,h4,h5⟩,hn,hh=>⟨Jbn x.1 (fun id hi=>hh x (by simp) id hi) h1,h2,fun id hi=>Nat.lt_of_lt_of_le (h3 id hi) hn,h4,Jcm.frame h5 hn fun y hy=>hh y (by simp [hy])⟩
structure Kids (h:Heap) (n:Nat) (T:List Tree) (I:List Nat):Prop where
 live:Jcm h n T
 sub:∀ x∈T,∀ j∈x.2.2,j∈I
theorem Kids.nil {h:Heap}{n:Nat}{I:List Nat} : Kids h n [] I:=⟨trivial,by simp⟩
theorem Kids.cons {h:Heap}{n:Nat}{T:List Tree}{t a:AV}{J I:List Nat}(ht:TR h t a J) (hd:(J++I).Nodup) (hn:∀ j∈J++I,j<n) (hk:I.Nodup→(∀ j∈I,j<n)→Kids h n T I):Kids h n ((t,a,J)::T) (J++I):=by
 obtain ⟨d1,d2,d3⟩:=List.nodup_append.1 hd
 have hk:=hk d2 (fun j hj=>hn j (by simp [hj]))
 refine ⟨⟨ht,d1,fun j hj=>hn j (by simp [hj]),fun y hy j hj hj'=>d3 j hj j (hk.sub y hy j hj') rfl,hk.live⟩,?_⟩
 intro y hy j hj
 rcases List.mem_cons.1 hy with rfl|hy
 ·exact List.mem_append_left _ hj
 ·exact List.mem_append_right _ (hk.sub y hy j hj)
structure RS (sz:Nat) (id:Nat) (I:List Nat) (h1:Heap) (n1:Nat) (rows:List (List AV)) (i:Nat) (cells:List AV) (T:List Tree) (h:Heap) (n:Nat):Prop where
 live:Jcm h n T
 sub:∀ x∈T,∀ j∈x.2.2,j∈I
 out:id∉I
 lt:id<n1
 le:n1≤n
 e:h id=some ⟨true,sz,rows.set i cells⟩
 old:∀ j,j<n1→j≠id→j∉I→h j=h1 j
section
variable {sz id:Nat}{I:List Nat}{h1 h:Heap}{n1 n:Nat}{rows:List (List AV)}{i:Nat}{cells cells':List AV}{T:List Tree}
theorem RS.start (hk:Kids h1 n1 T I) (ho:id∉I) (hl:id<n1) (hi:i<rows.length) (e:h1 id=some ⟨true,sz,rows⟩) (hr:∀ hl:i<rows.length,rows[i]'hl=cells):RS sz id I h1 n1 rows i cells T h1 n1:=
 ⟨hk.live,hk.sub,ho,hl,Nat.le_refl _,by rw [e,←hr hi,List.set_getElem_self],fun _ _ _ _=>rfl⟩
theorem RS.store (S:RS sz id I h1 n1 rows i cells T h n):RS sz id I h1 n1 rows i cells' T (upd h id (some ⟨true,sz,rows.set i cells'⟩)) n:=
 ⟨S.live.frame (Nat.le_refl _) fun x hx j hj=>by rw [J1b];rintro rfl;exact S.out (S.sub x hx j hj),S.sub,S.out,S.lt,S.le,J1w _ _ _,fun j h1 h2 h3=>by rw [J1b _ _ _ _ h2];exact S.old j h1 h2 h3⟩
theorem RS.mark {P:Program}{f:FuncId}{K:AV→Heap→Nat→Prop}{t t' a:AV}{k k':Int}{J:List Nat}{T1 T2:List Tree}(hm:J9d P f t k t' k') (S:RS sz id I h1 n1 rows i cells (T1++(t,a,J)::T2) h n)
 (hk:∀ h' n',RS sz id I h1 n1 rows i cells (T1++(t',a,J)::T2) h' n'→K (i64 k') h' n'):J2c P f [a,i64 k] h n K:=by
 refine Jk4 hm S.live fun h' n' hL hn hh=>hk h' n' ⟨hL,?_,S.out,S.lt,Nat.le_trans S.le hn,?_,?_⟩
 ·intro x hx j hj
  simp only [List.mem_append,List.mem_cons] at hx
  rcases hx with hx|rfl|hx
  ·exact S.sub x (by simp [hx]) j hj
  ·exact S.sub (t,a,J) (by simp) j hj
  ·exact S.sub x (by simp [hx]) j hj
 ·rw [hh id (Nat.lt_of_lt_of_le S.lt S.le) fun hi=>S.out (S.sub (t,a,J) (by simp) id hi)];exact S.e
 ·intro j h1 h2 h3
  rw [hh j (Nat.lt_of_lt_of_le h1 S.le) fun hi=>h3 (S.sub (t,a,J) (by simp) j hi)];exact S.old j h1 h2 h3
end
theorem Kids.frame {h h':Heap}{n n':Nat}{T:List Tree}{I:List Nat}(k:Kids h n T I) (hn:n≤n') (hh:∀ j∈I,h' j=h j):Kids h' n' T I:=
 ⟨k.live.frame hn fun x hx j hj=>hh j (k.sub x hx j hj),k.sub⟩
theorem RS.box {sz:Nat}{I:List Nat}{h:Heap}{n:Nat}{cells:List AV}{T:List Tree}(hk:Kids h n T I) (hI:∀ j∈I,j<n) :
 RS sz n I (upd h n (some ⟨true,sz,[cells]⟩)) (n+1) [cells] 0 cells T (upd h n (some ⟨true,sz,[cells]⟩)) (n+1):=
 RS.start (hk.frame (Nat.le_succ n) fun j hj=>J1b _ _ _ _ (by have:=hI j hj;omega)) (fun hm=>Nat.lt_irrefl _ (hI n hm)) (Nat.lt_succ_self n) (by simp) (J1w _ _ _) (fun _=>rfl)
theorem RS.unbox {sz:Nat}{I:List Nat}{h h':Heap}{n n':Nat}{B:Option Blk}{rows:List (List AV)}{i:Nat}{cells:List AV}{T:List Tree}(S:RS sz n I (upd h n B) (n+1) rows i cells T h' n'):n≤n'∧∀ j,j<n→j∉I→h' j=h j:=
 ⟨by have:=S.le;omega,fun j hj hI=>by rw [S.old j (by omega) (by omega) hI,J1b _ _ _ _ (by omega)]⟩
theorem MJ.step2 {α:Type}{m:α→Int→α}{c:α→Nat}{rU:α→List AV}{sz:Nat}{h0 h:Heap}{n0 n id:Nat}{I:List Nat}{l:List α}{k:Int}{i:Nat}{s1:AV}(hI:I.Nodup) (hn0:∀ j∈I,j<n0) (hi:i<l.length) (hJ:MJ m c rU sz h0 n0 id I l k i s1 h n) :
 ∃ (x:α) (ki:Int) (rows:List (List AV)) (cells:List AV) (I2:List Nat),s1=i64 ki∧k≤ki∧ki+c x≤k+cL c l∧i<rows.length∧TRl h (rU x) cells I2∧I2.Nodup∧(∀ j∈I2,j<n) ∧
  (∀ T,Kids h n T I2→RS sz id I2 h n rows i cells T h n)∧∀ (h':Heap) (n':Nat) (cells':List AV) (s':AV) (T:List Tree),RS sz id I2 h n rows i cells' T h' n'→TRl h' (rU (m x ki)) cells' I2→s'=i64 (ki+c x) →
   MJ m c rU sz h0 n0 id I l k (i+1) s' h' n':=by
 obtain ⟨x,ki,rows,cells,I2,q1,q2,q3,q4,q5,q6,q7,q8,q9,q10,q11,q12,q13⟩:=hJ.step hI hn0 hi
 exact ⟨x,ki,rows,cells,I2,q1,q2,q3,q5,q7,q8,q11,fun T hk=>RS.start hk q9 q10 q5 q4 q6,fun h' n' cells' s' T S hc hs=>q13 h' n' cells' s' S.le S.old S.e hc hs⟩
def HJ {α:Type}(m:α→Int→α) (c:α→Nat) (M:List α) (l:List α) (k:Int) (i:Nat) (s1:AV):Prop:=
 ∃ (rest:List α) (ki:Int),M.drop i=mkL m c rest ki∧k≤ki∧ki+cL c rest=k+cL c l∧s1=i64 ki
theorem HJ.start {α:Type}{m:α→Int→α}{c:α→Nat}{l:List α}{k:Int} : HJ m c (mkL m c l k) l k 0 (i64 k):=⟨l,k,rfl,Int.le_refl _,rfl,rfl⟩
theorem HJ.fin {α:Type}{m:α→Int→α}{c:α→Nat}{M l:List α}{k:Int}{i:Nat}{s1:AV}(hi:M.length≤i) (hJ:HJ m c M l k i s1):s1=i64 (k+cL c l):=by
 obtain ⟨rest,ki,e1,e2,e3,rfl⟩:=hJ
 rw [List.drop_eq_nil_of_le hi] at e1
 cases rest with
 | nil=>simp only [cL] at e3;rw [←e3];simp
 | cons x rest=>simp [mkL] at e1
theorem HJ.step {α:Type}{m:α→Int→α}{c:α→Nat}{M l:List α}{k:Int}{i:Nat}{s1:AV}(hi:i<M.length) (hJ:HJ m c M l k i s1) :
 ∃ x ki,s1=i64 ki∧k≤ki∧ki+c x≤k+cL c l∧(∀ hl:i<M.length,M[i]'hl=m x ki)∧∀ s',s'=i64 (ki+c x)→HJ m c M l k (i+1) s':=by
 obtain ⟨rest,ki,e1,e2,e3,rfl⟩:=hJ
 rw [List.drop_eq_getElem_cons hi] at e1
 cases rest with
 | nil=>simp [mkL] at e1;omega
 | cons x rest=>
  simp only [mkL,List.cons.injEq] at e1
  simp only [cL] at e3
  exact ⟨x,ki,rfl,e2,by omega,fun _=>e1.1,fun s' hs=>⟨rest,ki+c x,e1.2,by omega,by omega,hs⟩⟩
section
variable {P:Program}
theorem J4i {f:FuncId}{fn:Func}{id off len:Nat}{as:List AV}{h:Heap}{n:Nat}{K:AV→Heap→Nat→Prop}(hf:P.funcs[f]? = some fn) (hb:fn.body.isSome=true) (hn:(fn.name == "runtime.NumGoroutine")=false)
 (hB:h id≠Option.none) (hA:len≤LIM→J2c P f (.ref id off len::as) h n K):J2c P f (.ref id off len::as) h n K:=by
 refine ⟨by simp [J72,hf,hb,hn],fun base w0 w L F vs H hv => ?_⟩
 have hlen:len≤LIM:=by
  obtain ⟨v,vs',_,h1,_⟩:=J0z.1 hv
  simp only [VR] at h1
  cases hl:L id with
  | none=>exact absurd (H.mod id hl) hB
  | some l=>exact (h1.1.2.2 l hl).1
 exact (hA hlen).2 base w0 w L F vs H hv
end
open Go Go.RowKit
def Bx (h:Heap) (n:Nat) (T:List Tree):List (Nat×Blk)→Prop
 | []=>True
 | p::B=>(h p.1=some p.2∧p.1<n∧(∀ x∈T,p.1∉x.2.2)∧∀ q∈B,q.1<p.1)∧Bx h n T B
def bxE (h:Heap):List (Nat×Blk)→Prop
 | []=>True
 | p::B=>h p.1=some p.2∧bxE h B
def bxN (n:Nat):List (Nat×Blk)→Prop
 | []=>True
 | p::B=>¬p.1=n∧bxN n B
structure LS (h:Heap) (n:Nat) (B:List (Nat×Blk)) (T:List Tree):Prop where
 live:Jcm h n T
 bx:Bx h n T B
theorem Bx.map {h h':Heap}{n n':Nat}{T T':List Tree} : ∀ {B:List (Nat×Blk)},Bx h n T B→(∀ id v,h id=some v→id<n→(∀ x∈T,id∉x.2.2)→h' id=some v∧id<n'∧∀ x∈T',id∉x.2.2)→Bx h' n' T' B
 | [],_,_=>trivial
 | p::B,⟨⟨h1,h2,h3,h3'⟩,h4⟩,hm=>by
  obtain ⟨g1,g2,g3⟩:=hm p.1 p.2 h1 h2 h3
  exact ⟨⟨g1,g2,g3,h3'⟩,Bx.map h4 hm⟩
theorem Bx.lt {h:Heap}{n:Nat}{T:List Tree} : ∀ {B:List (Nat×Blk)},Bx h n T B→∀ q∈B,q.1<n∧h q.1=some q.2
 | p::B,⟨⟨h1,h2,_⟩,h4⟩,q,hq=>by
  rcases List.mem_cons.1 hq with rfl|hq
  ·exact ⟨h2,h1⟩
  ·exact Bx.lt h4 q hq
section
variable {h h':Heap}{n n':Nat}{B:List (Nat×Blk)}{T T1 T2:List Tree}
theorem LS.eqs (S:LS h n B T):bxE h B:=by
 have:=S.bx
 revert this
 induction B with
 | nil=>exact fun _=>trivial
 | cons p B ih=>exact fun hb=>⟨hb.1.1,ih ⟨S.live,hb.2⟩ hb.2⟩
theorem LS.nes (S:LS h n B T):bxN n B:=by
 have:=S.bx
 revert this
 induction B with
 | nil=>exact fun _=>trivial
 | cons p B ih=>exact fun hb=>⟨by have:=hb.1.2.1;omega,ih ⟨S.live,hb.2⟩ hb.2⟩
theorem LS.start {h:Heap}{n:Nat} : LS h n [] []:=⟨trivial,trivial⟩
theorem LS.newbox {y:Blk}(S:LS h n B T) (ho:∀ j,j<n→h' j=h j) (hy:h' n=some y):LS h' (n+1) ((n,y)::B) T:=
 ⟨S.live.up (Nat.le_succ n) ho,⟨hy,Nat.lt_succ_self n,fun x hx hi=>Nat.lt_irrefl _ ((S.live.ids x hx).2.2 n hi),fun q hq=>(S.bx.lt q hq).1⟩,S.bx.map fun id v h1 h2 h3=>⟨(ho id h2).trans h1,by omega,h3⟩⟩
theorem LS.push {y:Blk}(S:LS h n B T):LS (upd h n (some y)) (n+1) ((n,y)::B) T:=S.newbox (fun j hj=>J1b _ _ _ _ (by omega)) (J1w _ _ _)
theorem LS.grow {t a:AV}{I:List Nat}(S:LS h n B T) (ht:TR h' t a I) (hd:I.Nodup) (hI:∀ id∈I,n≤id∧id<n') (hn:n≤n') (ho:∀ id,id<n→h' id=h id):LS h' n' B ((t,a,I)::T):=by
 refine ⟨⟨ht,hd,fun id hi=>(hI id hi).2,?_,S.live.up hn ho⟩,S.bx.map fun id v h1 h2 h3=>⟨(ho id h2).trans h1,by omega,?_⟩⟩
 ·intro y hy id hi hi'
  have:=(S.live.ids y hy).2.2 id hi'
  have:=(hI id hi).1
  omega
 ·intro x hx
  rcases List.mem_cons.1 hx with rfl|hx
  ·intro hi;have:=(hI id hi).1;omega
  ·exact h3 x hx
variable {P:Program}{f:FuncId}{as as':List AV}{K:AV→Heap→Nat→Prop}
theorem Jb4 {c:AV}(hh:Holds P f as' (fun r=>r=c)) (S:LS h n B T) (hc:Jeq c=true) (hb:J7n T as as') (hk:K c h n):J2c P f as h n K:=Jqv hh S.live hc hb hk
theorem J90 {c:AV}(hh:Holds P f as' (fun r=>r=c)) (S:LS h n B T) (hc:Jeq c=true) (hb:J7n T as as') (hk:K c h n):J2c P f as h n (hK h K):=Jpg hh S.live hc hb hk
theorem Jyf {h:Heap} : ∀ {t a:AV}{I:List Nat},TR h t a I→J0x t=true→J0x a=true:=by
 intro t a I ht hc
 cases t <;> simp only [TR] at ht <;> simp only [J0x,Bool.false_eq_true] at hc
 case int=>rw [ht.1];rfl
 case bool=>rw [ht.1];rfl
 case str=>rw [ht.1];rfl
 case nilp=>rw [ht.1];rfl
 case us=>obtain ⟨id,rows',I',rfl,_⟩:=ht;rfl
theorem Jl8 {h:Heap} : ∀ {ts as:List AV}{I:List Nat},TRl h ts as I→ts.all J0x=true→as.all J0x=true
 | [],as,I,ht,_=>by simp only [TRl] at ht;rw [ht.1];rfl
 | t::ts,as,I,ht,hc=>by
  simp only [TRl] at ht
  obtain ⟨a,as',I1,I2,rfl,_,h1,h2⟩:=ht
  simp only [List.all_cons,Bool.and_eq_true] at hc ⊢
  exact ⟨Jyf h1 hc.1,Jl8 h2 hc.2⟩
theorem Jsq {ts:List AV}(hh:Holds P f as' (fun r=>r = .agg ts)) (S:LS h n B T) (hc:ts.all J0x=true) (hb:J7n T as as')
 (hk:∀ cs h' n' J,LS h' n' B ((.agg ts,.agg cs,J)::T)→cs.length=ts.length→cs.all J0x=true→K (.agg cs) h' n'):J2c P f as h n fun r h' n'=>J7l h h'∧K r h' n':=
 Jb5 hh (hb.ok S.live) fun r a h' n' I hr h1 h2 h3 h4 h5=>by
  subst hr;try subst hlen
  have h1':=h1
  simp only [TR] at h1
  obtain ⟨cs,rfl,g⟩:=h1
  exact hk cs h' n' I (S.grow h1' h2 h3 h4 h5) (Jcr g) (Jl8 g hc)
theorem Jdh {ts:List AV}(hh:Holds P f as' (fun r=>r = .agg ts)) (S:LS h n B T) (hc:ts.all J0x=true) (hb:J7n T as as')
 (hk:∀ cs h' n' J,LS h' n' B ((.agg ts,.agg cs,J)::T)→cs.length=ts.length→cs.all J0x=true→K (.agg cs) h' n'):J2c P f as h n K:=J2c.mono (Jsq hh S hc hb hk) fun _ _ _ h=>h.2
theorem J9j {ts:List AV}(hh:Holds P f as' (fun r=>r = .agg ts)) (S:LS h n B T) (hc:ts.all J0x=true) (hb:J7n T as as')
 (hk:∀ cs h' n' J,LS h' n' B ((.agg ts,.agg cs,J)::T)→cs.length=ts.length→cs.all J0x=true→K (.agg cs) h' n'):J2c P f as h n (hK h K):=Jsq hh S hc hb hk
theorem K1c {h:Heap}{t c a:AV}{I:List Nat}(hc:Jeq c=true) (ht:TR h (.tup [t,c]) a I):∃ b,a = .tup [b,c]∧TR h t b I:=by
 simp only [TR,TRl] at ht
 obtain ⟨cs',rfl,a1,as1,J1,J2,rfl,rfl,g1,a2,as2,J3,J4,rfl,rfl,g2,rfl,rfl⟩:=ht
 have:a2=c∧J3=[]:=by
  unfold Jeq at hc
  split at hc
  ·simpa only [TR] using g2
  ·simpa only [TR] using g2
  ·simpa only [TR] using g2
  ·simp only [TR,TRl] at g2
   obtain ⟨cs',rfl,a1,as1,J1,J2,rfl,rfl,⟨rfl,rfl⟩,a2,as2,J3,J4,rfl,rfl,⟨rfl,rfl⟩,rfl,rfl⟩:=g2
   exact ⟨rfl,rfl⟩
  ·cases hc
 obtain ⟨rfl,rfl⟩:=this
 exact ⟨a1,rfl,by simpa using g1⟩
theorem Jrq {sz len:Nat}{rows:List (List AV)}{c:AV}(hh:Holds P f as' (fun r=>r = .tup [.us sz rows,c])) (S:LS h n B T) (hc:Jeq c=true) (hlen:rows.length=len) (hb:J7n T as as')
 (hk:∀ d h' n' J,LS h' n' B ((.us sz rows,.ref d 0 len,J)::T)→K (.tup [.ref d 0 len,c]) h' n'):J2c P f as h n fun r h' n'=>J7l h h'∧K r h' n':=
 Jb5 hh (hb.ok S.live) fun r a h' n' I hr h1 h2 h3 h4 h5=>by
  subst hr;try subst hlen
  obtain ⟨b,rfl,g1⟩:=K1c hc h1
  have h1':=g1
  simp only [TR] at g1
  obtain ⟨d,rows',I',rfl,_⟩:=g1
  exact hk d h' n' I (S.grow h1' h2 h3 h4 h5)
theorem Jr7 {sz len:Nat}{rows:List (List AV)}{c:AV}(hh:Holds P f as' (fun r=>r = .tup [.us sz rows,c])) (S:LS h n B T) (hc:Jeq c=true) (hlen:rows.length=len) (hb:J7n T as as')
 (hk:∀ d h' n' J,LS h' n' B ((.us sz rows,.ref d 0 len,J)::T)→K (.tup [.ref d 0 len,c]) h' n'):J2c P f as h n K:=J2c.mono (Jrq hh S hc hlen hb hk) fun _ _ _ h=>h.2
theorem Jmr {sz len:Nat}{rows:List (List AV)}{c:AV}(hh:Holds P f as' (fun r=>r = .tup [.us sz rows,c])) (S:LS h n B T) (hc:Jeq c=true) (hlen:rows.length=len) (hb:J7n T as as')
 (hk:∀ d h' n' J,LS h' n' B ((.us sz rows,.ref d 0 len,J)::T)→K (.tup [.ref d 0 len,c]) h' n'):J2c P f as h n (hK h K):=Jrq hh S hc hlen hb hk
theorem Jly {t t' a:AV}{k k':Int}{I:List Nat}(hm:J9d P f t k t' k') (S:LS h n B (T1++(t,a,I)::T2))
 (hk:∀ h' n',LS h' n' B (T1++(t',a,I)::T2)→K (i64 k') h' n'):J2c P f [a,i64 k] h n K:=by
 refine Jk4 hm S.live fun h' n' hL hn hh=>hk h' n' ⟨hL,S.bx.map fun id v h1 h2 h3=>⟨?_,by omega,?_⟩⟩
 ·rw [hh id h2 (h3 (t,a,I) (by simp))];exact h1
 ·intro x hx
  simp only [List.mem_append,List.mem_cons] at hx
  rcases hx with hx|rfl|hx
  ·exact h3 x (by simp [hx])
  ·exact h3 (t,a,I) (by simp)
  ·exact h3 x (by simp [hx])
end
end Go.Proofs.YtoclolkigjbcgaaGreat
namespace Go.Proofs.YtoclolkigjbcgaaGreat
set_option linter.all false
open Go Go.RowKit Go.Proofs
def dig (n:Nat):List UInt8:=if h:n=0 then [] else dig (n / 10)++[UInt8.ofNat (48+n % 10)]
termination_by n
decreasing_by omega
def mtx (k:Int):Str:=if k≤0 then [109,48] else 109::dig k.toNat
def Jew (l:List Int) (k:Int):List Int:=mkL (fun _ k=>k) (fun _=>1) l k
def Jc8 (l:List Int):Nat:=cL (fun _=>1) l
def Jl2 (l:List Str) (k:Int):List Str:=mkL (fun _ k=>mtx k) (fun _=>1) l k
def J61 (l:List Str):Nat:=cL (fun _=>1) l
theorem J4z (l:List Int):Jc8 l=l.length:=Jqk l
theorem Jjz (l:List Str):J61 l=l.length:=Jqk l
def Jdx (x:DLin) (k:Int):DLin:=⟨k,Jew x.Coeffs (k+1)⟩
def Jfq (x:DLin):Nat:=1+Jc8 x.Coeffs
def Jf3 (l:List DLin) (k:Int):List DLin:=mkL Jdx Jfq l k
def J6m (l:List DLin):Nat:=cL Jfq l
def Jqs (x:DTerm) (k:Int):DTerm:=⟨k,mtx (k+1)⟩
def Jgd (x:DTerm):Nat:=2
def Jrn (l:List DTerm) (k:Int):List DTerm:=mkL Jqs Jgd l k
def Jk0 (l:List DTerm):Nat:=cL Jgd l
def Jr8 (x:DSum) (k:Int):DSum:=⟨k,Jrn x.Terms (k+1)⟩
def Jli (x:DSum):Nat:=1+Jk0 x.Terms
def Jo9 (l:List DSum) (k:Int):List DSum:=mkL Jr8 Jli l k
def J4s (l:List DSum):Nat:=cL Jli l
def Jq7 (x:DArg) (k:Int):DArg:=⟨((k).tmod 3==0),Jo9 x.Heads (k+1),mtx (k+1+J4s x.Heads)⟩
def Jmv (x:DArg):Nat:=2+J4s x.Heads
def Jxf (l:List DArg) (k:Int):List DArg:=mkL Jq7 Jmv l k
def Jss (l:List DArg):Nat:=cL Jmv l
def J8u (x:DFunction) (k:Int):DFunction:=⟨mtx (k),Jl2 x.Params (k+1),((k+1+J61 x.Params).tmod 3==0),Jf3 x.Pre (k+1+J61 x.Params+1)⟩
def J68 (x:DFunction):Nat:=2+J61 x.Params+J6m x.Pre
def Jb6 (l:List DFunction) (k:Int):List DFunction:=mkL J8u J68 l k
def J5n (l:List DFunction):Nat:=cL J68 l
def Jhz (x:DPattern) (k:Int):DPattern:=⟨mtx (k),((k+1).tmod 3==0),mtx (k+1+1),mtx (k+1+1+1)⟩
def J7e (x:DPattern):Nat:=4
def Ji7 (l:List DPattern) (k:Int):List DPattern:=mkL Jhz J7e l k
def J2d (l:List DPattern):Nat:=cL J7e l
def Jm7 (x:DCall) (k:Int):DCall:=⟨mtx (k),mtx (k+1),Jxf x.Args (k+1+1)⟩
def Jfr (x:DCall):Nat:=2+Jss x.Args
def Jsz (l:List DCall) (k:Int):List DCall:=mkL Jm7 Jfr l k
def J65 (l:List DCall):Nat:=cL Jfr l
def Jcn (x:DRule) (k:Int):DRule:=⟨mtx (k),Ji7 x.Patterns (k+1),Jo9 x.Guards (k+1+J2d x.Patterns),Jsz x.Calls (k+1+J2d x.Patterns+J4s x.Guards),⟨((k+1+J2d x.Patterns+J4s x.Guards+J65 x.Calls).tmod 3==0),Jo9 x.Result.Heads (k+1+J2d x.Patterns+J4s x.Guards+J65 x.Calls+1),mtx (k+1+J2d x.Patterns+J4s x.Guards+J65 x.Calls+1+J4s x.Result.Heads)⟩⟩
def Jgc (x:DRule):Nat:=3+J2d x.Patterns+J4s x.Guards+J65 x.Calls+J4s x.Result.Heads
def Jmj (l:List DRule) (k:Int):List DRule:=mkL Jcn Jgc l k
def Jl6 (l:List DRule):Nat:=cL Jgc l
def Jmf (l:List (List DLin)) (k:Int):List (List DLin):=mkL Jf3 J6m l k
def Jdn (l:List (List DLin)):Nat:=cL J6m l
def J2a (x:DObligation) (k:Int):DObligation:=⟨⟨k,Jf3 x.System.Rows (k+1)⟩,⟨k+1+J6m x.System.Rows,Jew x.Target.Coeffs (k+1+J6m x.System.Rows+1)⟩⟩
def J2y (x:DObligation):Nat:=2+J6m x.System.Rows+Jc8 x.Target.Coeffs
def J8t (l:List DObligation) (k:Int):List DObligation:=mkL J2a J2y l k
def J2e (l:List DObligation):Nat:=cL J2y l
def Jpt (x:DLin):Nat:=Jc8 x.Coeffs
def Jke (x:DProgram) (k:Int):DProgram:=⟨Jb6 x.Functions (k),Jmj x.Rules (k+J5n x.Functions)⟩
def J78 (x:DProgram):Nat:=J5n x.Functions+Jl6 x.Rules
def Jki (x:DRanking) (k:Int):DRanking:=⟨Jmf x.Levels (k),Jew x.Edges (k+Jdn x.Levels)⟩
def J8v (x:DRanking):Nat:=Jdn x.Levels+Jc8 x.Edges
theorem Jgo {α:Type}{c w:α→Nat}(h:∀ x,c x≤8+8*w x):∀ l:List α,cL c l≤8*wL w l
 | []=>Nat.zero_le _
 | x::l=>by
  have h1:=h x
  have h2:=Jgo h l
  simp only [cL]
  unfold wL at h2 ⊢
  simp only [List.length_cons,List.map_cons,List.sum_cons]
  omega
theorem Jqb (l:List Int):Jc8 l≤8*Jgq l:=by rw [J4z];unfold Jgq;omega
theorem Jpe (l:List Str):J61 l≤8*J44 l:=by have:=J2b List.length l;rw [Jjz];unfold J44;omega
theorem Jys (x:DLin):Jfq x≤8+8*Jab x:=by have:=Jqb x.Coeffs;unfold Jfq Jab;omega
theorem Jsx (l:List DLin):J6m l≤8*J5h l:=Jgo Jys l
theorem Jvc (x:DTerm):Jgd x≤8+8*J7j x:=by unfold Jgd J7j;omega
theorem Jv5 (l:List DTerm):Jk0 l≤8*Jdl l:=Jgo Jvc l
theorem K11 (x:DSum):Jli x≤8+8*Jbe x:=by have:=Jv5 x.Terms;unfold Jli Jbe;omega
theorem Jlc (l:List DSum):J4s l≤8*J6q l:=Jgo K11 l
theorem K0q (x:DArg):Jmv x≤8+8*Jah x:=by have:=Jlc x.Heads;unfold Jmv Jah;omega
theorem K05 (l:List DArg):Jss l≤8*Jfu l:=Jgo K0q l
theorem Jkk (x:DFunction):J68 x≤8+8*J0v x:=by have:=Jpe x.Params;have:=Jsx x.Pre;unfold J68 J0v;omega
theorem Jjn (l:List DFunction):J5n l≤8*J1x l:=Jgo Jkk l
theorem Jld (x:DPattern):J7e x≤8+8*J3a x:=by unfold J7e J3a;omega
theorem Jls (l:List DPattern):J2d l≤8*J39 l:=Jgo Jld l
theorem Jue (x:DCall):Jfr x≤8+8*J64 x:=by have:=K05 x.Args;unfold Jfr J64;omega
theorem Jv2 (l:List DCall):J65 l≤8*J8d l:=Jgo Jue l
theorem Jvo (x:DRule):Jgc x≤8+8*J4v x:=by have:=Jls x.Patterns;have:=Jlc x.Guards;have:=Jv2 x.Calls;have:=Jlc x.Result.Heads;unfold Jgc J4v Jah;omega
theorem Jv0 (l:List DRule):Jl6 l≤8*J94 l:=Jgo Jvo l
theorem Jux (l:List (List DLin)):Jdn l≤8*Jas l:=Jgo (fun x=>by have:=Jsx x;omega) l
theorem Jos (x:DProgram):J78 x≤8*J0k x:=by have:=Jjn x.Functions;have:=Jv0 x.Rules;unfold J78 J0k;omega
theorem Jp6 (x:DRanking):J8v x≤8*J5g x:=by have:=Jux x.Levels;have:=Jqb x.Edges;unfold J8v J5g;omega
end Go.Proofs.YtoclolkigjbcgaaGreat

/- Functions of the library that turn a slice of strings in place. -/
import Derived.Test.YtoclolkigjbcgaaGreatAT1
import Derived.Sort.Grow
import Derived.Sort.EncStr
import Derived.Sort.Walk0
import Derived.Lib.SlicesCompact
namespace Go.Proofs.YtoclolkigjbcgaaGreat
open List(map_cons mem_cons mem_singleton mem_append)
open Go Go.RowKit
set_option linter.all false
def Gl(w:World)(q b:Nat)(l:List J9)(os:Array Obj):World:=Go.Sort.grow (Go.Sort.putRow encStr (Go.Sort.ahead w q) b 0 l.toArray) os
theorem Jbe{w:World}{L:Nat->Option Jz}{N:Nat} : ∀{l:List J9}{vs:List Value}{S:List Nat},X6 w L N (Jf l) vs S->vs=l.map encStr/\S=[]/\∀s∈l,s.length<=Jd
 | [],vs,S,h=>by simp[Jf,X6]at h;simp[h]
 |s::l,vs,S,h=>by
  simp only[Jf,map_cons,X6,Jw,VR]at h;obtain⟨v1,v2,S1,S2,rfl,rfl,⟨v,vs',T1,T2,rfl,rfl,⟨⟨b,rfl,hb,hl⟩,rfl⟩,rfl,rfl⟩,h2⟩:=h;obtain⟨rfl,rfl,h3⟩:=Jbe (l:=l) h2;refine⟨?_,rfl,?_⟩
  ·simp only[map_cons,List.cons_append,List.nil_append];congr 1;show Value.string b=Value.string ⟨s.toArray⟩
   rw[<-hb]
  ·intro x hx;rcases mem_cons.1 hx with rfl|hx
   ·exact hl
   ·exact h3 x hx
theorem J3m{w:World}{L:Nat->Option Jz}{N:Nat} : ∀{l:List J9},(∀s∈l,s.length<=Jd)->X6 w L N (Jf l) (l.map encStr) []
 | [],_=>by simp[Jf,X6]
 |s::l,h=>by simp only[Jf,map_cons,X6,Jw,VR];exact⟨[encStr s],l.map encStr,[],[],rfl,rfl,⟨_,[],[],[],rfl,rfl,⟨⟨⟨s.toArray⟩,rfl,by simp,h s (by simp)⟩,rfl⟩,rfl,rfl⟩,J3m (l:=l) λx hx=>h x (by simp[hx])⟩
section
variable {base:Nat}{w0 w:World}{L:Nat->Option Jz}{N:Nat}{F:Nat->List Nat}{h:J8}
theorem J6a{w:World}{b k:Nat}{f:Array Value->Array Value}(hk:k≠b):(Go.Sort.mapBlock w b f).heap[k]? = w.heap[k]? := by unfold Go.Sort.mapBlock;simp only[Array.getElem?_modify];rw[if_neg (λe=>hk e.symm)]
theorem J7u{w:World}{b:Nat}{f:Array Value->Array Value}{cur:Array Value}{t:TypeId}{fr:Nat×Nat}(hb:w.heap[b]? = some (.cells cur t fr)):(Go.Sort.mapBlock w b f).heap[b]? = some (.cells (f cur) t fr):=by unfold Go.Sort.mapBlock;simp only[Array.getElem?_modify,if_true,hb,Option.map_some];rfl
theorem K4.strs (H:K4 base w0 w L N F [] h) {id b sz cap:Nat}{l:List J9}(hB:h id=some ⟨false,1,Jf l⟩) (hl:L id=some (.at b sz cap)) :
 sz=1/\∃cur t rest,w.heap[b]? = some (.cells cur t (0,0))/\cur.toList=l.map encStr++rest/\cur.size=cap/\cap<=maxLen/\l.length<=cap/\l.length<=Jd/\(∀s∈l,s.length<=Jd)/\F id=[] /\
  Go.Sort.Holds encStr w b 0 l.toArray/\b<w.heap.size:=by
 obtain⟨hsz,_,cur,t,vals,rest,g1,g2,g3,g4,g5,g6,g7,g8,g9,g10⟩:=(H.blk id _ _ hB hl).cells ((H.blk id _ _ hB hl).pos rfl);simp only at hsz g6 g7 g10;subst hsz;have hlen:(Jf l).length=l.length:=by simp
 rw[hlen]at g6 g7;obtain⟨rfl,hF,hs⟩:=Jbe g10;refine⟨rfl,cur,t,rest,g1,g2,by omega,g5,g6,g7,hs,hF,?_,Ox g1⟩;intro j hj;simp only[List.size_toArray]at hj;constructor
 ·rw[cell_of_row w b _ cur t (0,0) g1,<-Array.getElem?_toList,g2,Nat.zero_add,List.getElem?_append_left (by simpa using hj),List.getElem?_map,List.getElem?_eq_getElem hj];simp[hj]
 ·unfold World.frozen?;simp[g1]
theorem K4.inplace (H:K4 base w0 w L N F [] h) {id b cap q:Nat}{l l2:List J9}{os:Array Obj}(hB:h id=some ⟨false,1,Jf l⟩) (hl:L id=some (.at b 1 cap)) (hlen:l2.length=l.length) (hmem:∀s∈l2,s∈l\/s=[]) :
 ∃L' F',K4 base w0 (Gl w q b l2 os) L' N F' [] (upd h id (some ⟨false,1,Jf l2⟩))/\Xf w L N (Gl w q b l2 os) L' N/\L' id=some (.at b 1 cap):=by
 obtain⟨_,cur,t,rest,g1,g2,g3,g5,g6,g7,hs,hF,hH,hbs⟩:=H.strs hB hl;have hlo:=H.lo b ⟨id,1,cap,hl⟩
 have hsz:(Gl w q b l2 os).heap.size=w.heap.size+os.size:=by unfold Gl;rw[Go.Sort.size_grow];simp[Go.Sort.putRow,Go.Sort.mapBlock,Go.Sort.ahead]
 have hother:∀k,k<w.heap.size->k≠b->(Gl w q b l2 os).heap[k]? = w.heap[k]? := λk hk hkb=>by unfold Gl;rw[Go.Sort.heap_grow_old _ _ (by simp[Go.Sort.putRow,Go.Sort.mapBlock,Go.Sort.ahead];exact hk)];unfold Go.Sort.putRow;rw[J6a hkb];rfl
 have hthis:(Gl w q b l2 os).heap[b]? = some (.cells (Go.Sort.putCells encStr 0 l2.toArray cur) t (0,0)):=by unfold Gl;rw[Go.Sort.heap_grow_old _ _ (by simp[Go.Sort.putRow,Go.Sort.mapBlock,Go.Sort.ahead];exact hbs)];unfold Go.Sort.putRow;exact J7u (w:=Go.Sort.ahead w q) g1
 have hcells:(Go.Sort.putCells encStr 0 l2.toArray cur).toList=l2.map encStr++rest:=by
  apply List.ext_getElem?;intro k;rw[Array.getElem?_toList];simp only[Go.Sort.putCells,Array.getElem?_mapIdx,Nat.zero_le,true_and,Nat.zero_add,List.size_toArray,Nat.sub_zero];rw[<-Array.getElem?_toList,g2];by_cases hk:k<l2.length
  ·rw[List.getElem?_append_left (by simpa using(by omega:k<l.length)),List.getElem?_append_left (by simpa using hk)];rw[List.getElem?_eq_getElem (by simp;omega),List.getElem?_eq_getElem (by simpa using hk)];simp[hk]
  ·rw[List.getElem?_append_right (by simp;omega),List.getElem?_append_right (by simp;omega)];simp only[List.length_map,hlen]
   cases rest[k - l.length]? with
   |none=>rfl
   |some v=>simp[hk];exact λh=>absurd h (by omega)
 have hpc:(Go.Sort.putCells encStr 0 l2.toArray cur).size=cap*1:=by simp[Go.Sort.putCells];omega
 have hone:Ua (l2.map encStr):=by intro v hv;obtain⟨s,_,rfl⟩:=List.mem_map.1 hv;rfl
 have hvr:∀L':Nat->Option Jz,X6 (Gl w q b l2 os) L' (if (false:Bool)=true then N else 0) (Jf l2) (l2.map encStr) []:=λL'=>J3m λs hs2=>by
  rcases hmem s hs2 with h1|rfl
  ·exact hs s h1
  ·simp
 have hbelow:Below base w (Gl w q b l2 os):=⟨rfl,rfl,rfl,by omega,λk hk=>hother k (Nat.lt_of_lt_of_le hk H.bsz) (by omega)⟩
 obtain⟨m1,m2⟩:=H.chg (w':=Gl w q b l2 os) (N':=N) (E':=[]) id id ⟨false,1,Jf l2⟩ (.at b 1 cap) [] (Nat.le_refl _) (H.lt id _ hl) (.inl rfl) (λ_=>hl) hbelow
  (λk hk hne=>hother k hk λe=>hne 1 cap (e ▸ hl)) (λb' sz' cap' he=>by cases he;exact⟨hlo,by omega,.inl ⟨1,cap,hl⟩⟩)
  (λL' e hL'=>V4.of ⟨rfl,λhh=>(by cases hh),_,t,l2.map encStr,rest,hthis,hcells,hpc,Nat.one_pos,g5,by simp;omega,by simp;omega,by simp[Jf],hone,hvr L'⟩) (by simp) (by simp)
 have hu:upd (upd h id Option.none) id (some ⟨false,1,Jf l2⟩)=upd h id (some (⟨false,1,Jf l2⟩:Yi)):=by funext i;simp only[upd];split <;>rfl
 rw[hu]at m1;exact⟨_,_,m1,m2,W4 _ _ _⟩
theorem J19{P:Program}{f:FuncId}{n id:Nat}{l l2:List J9}{K:AV->J8->Nat->Prop}{r:AV}(hc:Eg P f=true)(hB:h id=some ⟨false,1,Jf l⟩)(hlen:l2.length=l.length)(hmem:∀s∈l2,s∈l\/s=[])
 (hr:(r = .tup []/\∀(a:Option Addr) (b cap:Nat),True)\/∃m,m<=l.length/\r = .ref id 0 m)
 (hsome:∀(b cap:Nat) (w:World),Go.Sort.Holds encStr w b 0 l.toArray->b<w.heap.size->l.length<=cap->l.length<=Jd->Calls P f #[.slice (some ⟨b,0,Option.none⟩) l.length cap] w λe w'=>
  (∃v,e = .returned v/\(r = .tup []->v = .tuple #[])/\(∀m,r = .ref id 0 m->v = .slice (some ⟨b,0,Option.none⟩) m cap))/\∃q os,w'=Gl w q b l2 os)
 (hnone:l=[]->∀w:World,Calls P f #[.slice Option.none 0 0] w λe w'=>(∃v,e = .returned v/\(r = .tup []->v = .tuple #[])/\(∀m,r = .ref id 0 m->v = .slice Option.none 0 0))/\w'=w)
 (hK:K r (upd h id (some ⟨false,1,Jf l2⟩)) n):X9 P f [.ref id 0 l.length] h n K:=by
 refine⟨hc,λbase w0 w L F vs H hv=>?_⟩;obtain⟨v,vs',rfl,h1,rfl,_⟩:=V0.1 hv;have h1':=h1;simp only[VR]at h1
 cases hl:L id with
 |none=>rw[H.mod id hl]at hB;cases hB
 |some loc=>
  have hra:=h1.1.2.2 loc hl
  cases loc with
  |none=>
   obtain⟨_,_,hl0,rfl⟩:=hra;have hl0':l=[]:=List.eq_nil_of_length_eq_zero hl0;have hl2':l2=[]:=List.eq_nil_of_length_eq_zero (by omega)
   have hh:upd h id (some (⟨false,1,Jf l2⟩:Yi))=h:=by
    funext i;simp only[upd];split
    ·rename_i hi;subst hi;rw[hB,hl0',hl2']
    ·rfl
   rw[hh]at hK;subst hl0';refine(hnone rfl w).mono ?_;rintro e w' ⟨⟨v,rfl,q1,q2⟩,rfl⟩;refine⟨v,r,L,n,F,h,rfl,H,Xf.refl _ _ _,?_,hK⟩;rcases hr with ⟨rfl,_⟩|⟨m,hm,rfl⟩
   ·rw[q1 rfl];simp[VR,Jw]
   ·have hm0:m=0:=by simpa using hm
    subst hm0;rw[q2 0 rfl]
    simpa only[List.length_nil]using h1'
  | «at» b sz cap=>
   obtain⟨hlim,A,rfl,hA,hcap⟩:=hra;obtain⟨rfl,cur,t,rest,g1,g2,g3,g5,g6,g7,hs,hF,hH,hbs⟩:=H.strs hB hl;have hA':=hA (.inr rfl);rw[Nat.zero_mul]at hA';subst hA';simp only[Nat.zero_add]at hcap;refine(hsome b (cap - 0) w hH hbs (by omega) hlim).mono ?_;rintro e w' ⟨⟨v,rfl,q1,q2⟩,q,os,rfl⟩;obtain⟨L',F',m1,m2,m3⟩:=H.inplace (q:=q) (os:=os) hB hl hlen hmem;refine⟨v,r,L',n,F',_,rfl,m1,m2,?_,hK⟩;rcases hr with ⟨rfl,_⟩|⟨m,hm,rfl⟩
   ·rw[q1 rfl];simp[VR,Jw]
   ·rw[q2 m rfl];simp only[VR];refine⟨⟨h1.1.1,rfl,?_⟩,trivial⟩;intro l' hl';rw[m3]at hl';cases hl';exact⟨by omega,_,rfl,by simp,by omega⟩
end
abbrev bl:=Op.bytesLess
theorem Jlp{a b:UInt8} : a<b↔a.toNat<b.toNat:=UInt8.lt_iff_toNat_lt
theorem Jxu{a b:UInt8}(h1:¬a<b)(h2:¬b<a):a=b:=by rw[Jlp]at h1 h2;exact UInt8.toNat_inj.1 (by omega)
theorem Hc{a b:UInt8}{x y:J9} : bl (a::x) (b::y)=true↔a<b\/(a=b/\bl x y=true):=by
 show(decide (a<b)||(a==b&&Op.bytesLess x y))=true↔_
 simp
theorem Sv:∀x:J9,bl x x=false
 | []=>rfl
 |a::x=>by
  have:=Sv x;rw[Bool.eq_false_iff];intro h;rcases Hc.1 h with h|⟨_,h⟩
  ·rw[Jlp]at h;omega
  ·rw[this]at h;cases h
theorem Cz:∀{x y z:J9},bl x y=true->bl y z=true->bl x z=true
 |_,[],_,h,_=>by cases h':(‹J9› : List UInt8) <;>simp[bl,Op.bytesLess]at h
 |_,_::_,[],_,h=>by simp[bl,Op.bytesLess]at h
 | [],_::_,_::_,_,_=>rfl
 |a::x,b::y,c::z,h1,h2=>by
  rcases Hc.1 h1 with g1|⟨e1,g1⟩
  ·rcases Hc.1 h2 with g2|⟨e2,g2⟩
   ·exact Hc.2 (.inl (by rw[Jlp]at *;omega))
   ·exact Hc.2 (.inl (e2 ▸ g1))
  ·rcases Hc.1 h2 with g2|⟨e2,g2⟩
   ·exact Hc.2 (.inl (e1 ▸ g2))
   ·exact Hc.2 (.inr ⟨e1.trans e2,Cz g1 g2⟩)
theorem Ro:∀{x y:J9},bl x y=false->bl y x=false->x=y
 | [],[],_,_=>rfl
 | [],_::_,h,_=>by simp[bl,Op.bytesLess]at h
 |_::_,[],_,h=>by simp[bl,Op.bytesLess]at h
 |a::x,b::y,h1,h2=>by
  rw[Bool.eq_false_iff]at h1 h2;have e:a=b:=Jxu (λh=>h1 (Hc.2 (.inl h))) λh=>h2 (Hc.2 (.inl h))
  subst e;have:=Ro (x:=x) (y:=y) (by rw[Bool.eq_false_iff];exact λh=>h1 (Hc.2 (.inr ⟨rfl,h⟩))) (by rw[Bool.eq_false_iff];exact λh=>h2 (Hc.2 (.inr ⟨rfl,h⟩)));rw[this]
theorem Jbp{x y:J9}(h:bl x y=true):bl y x=false:=by rw[Bool.eq_false_iff];intro h';have:=Cz h h';rw[Sv]at this;cases this
theorem Tb(x y:J9):decide (x<=y) = !bl y x:=by
 show decide (x<=y) = !Op.bytesLess y x
 rw[bytesLess_eq];by_cases h:y<x
 ·have h':¬x<=y:=λhle=>hle h
  simp[h,h']
 ·have h':x<=y:=h;simp[h,h']
def SS(l:List J9):Prop:=l.Pairwise λx y=>bl x y=true
theorem Jkm:∀{l m:List J9},SS l->SS m->(∀x,x∈l↔x∈m)->l=m
 | [],[],_,_,_=>rfl
 | [],y::m,_,_,h=>by have:=(h y).2 (by simp);cases this
 |x::l,[],_,_,h=>by have:=(h x).1 (by simp);cases this
 |x::l,y::m,h1,h2,h=>by
  unfold SS at h1 h2;rw[List.pairwise_cons]at h1 h2
  have exy:x=y:=by
   rcases mem_cons.1 ((h x).1 (by simp))with e|hx
   ·exact e
   ·rcases mem_cons.1 ((h y).2 (by simp))with e|hy
    ·exact e.symm
    ·have:=Jbp (h2.1 x hx);rw[h1.1 y hy]at this;cases this
  subst exy
  have:l=m:=Jkm h1.2 h2.2 λz=>by
   constructor
   ·intro hz;rcases mem_cons.1 ((h z).1 (by simp[hz]))with rfl|hz'
    ·have:=h1.1 z hz;rw[Sv]at this;cases this
    ·exact hz'
   ·intro hz;rcases mem_cons.1 ((h z).2 (by simp[hz]))with rfl|hz'
    ·have:=h2.1 z hz;rw[Sv]at this;cases this
    ·exact hz'
  rw[this]
def O6(l:List J9):List J9:=l.mergeSort λx y=>decide (x<=y)
theorem J7c{l:List J9}{x:J9} : x∈O6 l↔x∈l:=List.mem_mergeSort
theorem J32(l:List J9):(O6 l).length=l.length:=List.length_mergeSort l
theorem J7x(l:List J9):(O6 l).Pairwise λx y=>bl y x=false:=by
 have h:=List.pairwise_mergeSort (le:=λx y:J9=>decide (x<=y)) (λa b c h1 h2=>by
  rw[Tb]at *;simp only[Bool.not_eq_true']at *;rw[Bool.eq_false_iff];intro h3;cases hab:bl a b
  ·have:=Ro hab h1;subst this;rw[h2]at h3;cases h3
  ·have:=Cz h3 hab;rw[h2]at this;cases this) (λa b=>by
  rw[Tb,Tb];cases h1:bl b a
  ·rfl
  ·rw[Jbp h1];rfl) l
 refine List.Pairwise.imp (λ{x y} hxy=>?_) h;rw[Tb]at hxy;simpa using hxy
def Im(l:List J9):List J9:=Go.Lib.compact (O6 l)
theorem J2f{l:List J9}(hs:l.Pairwise λx y=>bl y x=false):∀m,m<=l.length ->
 SS (Go.Lib.compactUpTo l.toArray m)/\(∀x,x∈Go.Lib.compactUpTo l.toArray m↔∃j,∃hj:j<l.length,j<m/\l[j]=x)/\∀hm:0<m,∀hl:m - 1<l.length,∀x∈Go.Lib.compactUpTo l.toArray m,x=l[m - 1]\/bl x l[m - 1]=true
 |0,_=>⟨by simp[Go.Lib.compactUpTo,SS],by simp[Go.Lib.compactUpTo],λh=>absurd h (Nat.lt_irrefl _)⟩
 |m+1,hm=>by
  obtain⟨h1,h2,h3⟩:=J2f hs m (by omega);have hml:m<l.length:=by omega
  have hget:(l.toArray)[m]! = l[m]:=by simp[hml]
  rw[Go.Lib.compactUpTo_succ];by_cases hk:Go.Lib.keeps l.toArray m=true
  ·rw[if_pos hk,hget]
   have hlt:∀x∈Go.Lib.compactUpTo l.toArray m,bl x l[m]=true:=λx hx=>by
    cases m with
    |zero=>obtain⟨j,_,hj,_⟩:=(h2 x).1 hx;omega
    |succ m=>
     have hne:l[m+1]≠l[m]:=by
      unfold Go.Lib.keeps at hk;have h4:(l.toArray)[m+1 - 1]! = l[m]:=by simp;rw[List.getElem?_eq_getElem (by omega)];rfl
      simp only[decide_eq_true_eq]at hk;rcases hk with hk|hk
      ·omega
      ·rw[hget,h4]at hk;exact hk
     have hle:bl l[m+1] l[m]=false:=List.pairwise_iff_getElem.1 hs m (m+1) (by omega) hml (by omega)
     have hlt:bl l[m] l[m+1]=true:=by
      cases hc:bl l[m] l[m+1]
      ·exact absurd (Ro hle hc) hne
      ·rfl
     rcases h3 (by omega) (by omega) x hx with rfl|h5
     ·exact hlt
     ·exact Cz h5 hlt
   refine⟨?_,?_,?_⟩
   ·unfold SS at h1⊢;rw[List.pairwise_append];exact⟨h1,by simp,λa ha b hb=>by rw[mem_singleton.1 hb];exact hlt a ha⟩
   ·intro x;rw[mem_append,h2,mem_singleton];constructor
    ·rintro(⟨j,hj,hjm,e⟩|rfl)
     ·exact⟨j,hj,by omega,e⟩
     ·exact⟨m,hml,by omega,rfl⟩
    ·rintro⟨j,hj,hjm,e⟩;by_cases hjm':j<m
     ·exact .inl ⟨j,hj,hjm',e⟩
     ·have:j=m:=by omega
      subst this;exact .inr e.symm
   ·intro _ hl x hx;simp only[Nat.add_sub_cancel]at hl⊢;rcases mem_append.1 hx with hx|hx
    ·exact .inr (hlt x hx)
    ·exact .inl (mem_singleton.1 hx)
  ·rw[if_neg hk,List.append_nil]
   have hm0:0<m:=by
    rcases Nat.eq_zero_or_pos m with rfl|h
    ·exact absurd (Go.Lib.keeps_lt_one l.toArray 0 (by omega)) hk
    ·exact h
   have heq:l[m]=l[m - 1]:=by
    unfold Go.Lib.keeps at hk;have h4:(l.toArray)[m - 1]! = l[m - 1]:=by simp;rw[List.getElem?_eq_getElem (by omega)];rfl
    rw[hget,h4]at hk;simp only[decide_eq_true_eq,not_or,ne_eq,Classical.not_not]at hk;exact hk.2
   refine⟨h1,?_,?_⟩
   ·intro x;rw[h2];constructor
    ·rintro⟨j,hj,hjm,e⟩;exact⟨j,hj,by omega,e⟩
    ·rintro⟨j,hj,hjm,e⟩;by_cases hjm':j<m
     ·exact⟨j,hj,hjm',e⟩
     ·have:j=m:=by omega
      subst this;exact⟨j - 1,by omega,by omega,by rw[<-heq];exact e⟩
   ·intro _ hl x hx;simp only[Nat.add_sub_cancel];have:=h3 hm0 (by omega) x hx;rw[<-heq]at this;exact this
theorem J0z(l:List J9):SS (Im l)/\∀x,x∈Im l↔x∈l:=by
 obtain⟨h1,h2,_⟩:=J2f (J7x l) (O6 l).length (Nat.le_refl _);refine⟨h1,λx=>?_⟩;rw[<-J7c (l:=l)];show x∈Go.Lib.compactUpTo (O6 l).toArray (O6 l).length↔_
 rw[h2];constructor
 ·rintro⟨j,hj,_,rfl⟩;exact List.getElem_mem hj
 ·intro hx;obtain⟨j,hj,e⟩:=List.mem_iff_getElem.1 hx;exact⟨j,hj,hj,e⟩
theorem J0t(l:List J9):(Go.Lib.compact l).length<=l.length:=by unfold Go.Lib.compact Go.Lib.compactUpTo;rw[List.length_map];exact Nat.le_trans (List.length_filter_le _ _) (by simp)
theorem Jbq(l:List J9):(Im l).length<=l.length:=by have:=J0t (O6 l);rw[J32]at this;exact this
theorem Jf7{l acc:List J9}(h1:SS acc)(h2:∀x,x∈acc↔x∈l):acc=Im l:=
 Jkm h1 (J0z l).1 λx=>(h2 x).trans ((J0z l).2 x).symm
def D7(out:List J9)(s:J9)(k:Nat):List J9:=if out[k]? = some s then out else out.take k++s::out.drop k
theorem Jc9{out:List J9}{s:J9}{k:Nat}(hS:SS out)(hk:k<=out.length)(h1:∀j,∀hj:j<out.length,j<k->bl out[j] s=true)(h2:∀hk:k<out.length,bl out[k] s=false) :
 SS (D7 out s k)/\∀x,x∈D7 out s k↔x=s\/x∈out:=by
 unfold D7;split
 ·rename_i he;refine⟨hS,λx=>⟨.inr,?_⟩⟩;rintro(rfl|h)
  ·exact List.mem_of_getElem? he
  ·exact h
 ·rename_i he
  have hd:∀y∈out.drop k,bl s y=true:=by
   intro y hy;obtain⟨j,hj,rfl⟩:=List.mem_iff_getElem.1 hy;simp only[List.length_drop]at hj;rw[List.getElem_drop];have hk':k<out.length:=by omega
   have hne:out[k]≠s:=λe=>he (by rw[List.getElem?_eq_getElem hk',e])
   have hsk:bl s out[k]=true:=by
    cases hc:bl s out[k]
    ·exact absurd (Ro (h2 hk') hc) hne
    ·rfl
   rcases Nat.eq_zero_or_pos j with rfl|hj0
   ·simpa using hsk
   ·exact Cz hsk (List.pairwise_iff_getElem.1 hS k (k+j) hk' (by omega) (by omega))
  have ht:∀y∈out.take k,bl y s=true:=by intro y hy;obtain⟨j,hj,rfl⟩:=List.mem_iff_getElem.1 hy;simp only[List.length_take]at hj;rw[List.getElem_take];exact h1 j (by omega) (by omega)
  constructor
  ·unfold SS;rw[List.pairwise_append,List.pairwise_cons];refine⟨List.Pairwise.sublist (List.take_sublist k out) hS,⟨hd,List.Pairwise.sublist (List.drop_sublist k out) hS⟩,?_⟩;intro a ha b hb;rcases mem_cons.1 hb with rfl|hb
   ·exact ht a ha
   ·exact Cz (ht a ha) (hd b hb)
  ·intro x;rw[mem_append,mem_cons]
   conv=>rhs;rw[<-List.take_append_drop k out,mem_append]
   constructor
   ·rintro(h|h|h)
    ·exact .inr (.inl h)
    ·exact .inl h
    ·exact .inr (.inr h)
   ·rintro(h|h|h)
    ·exact .inr (.inl h)
    ·exact .inl h
    ·exact .inr (.inr h)
theorem J6x{P:Program}{a:AC}{ks:List Kt}{s:Jm}{h:J8}{n:Nat}{Q:Xb}(I:Nat->Jm->J8->Nat->Prop)(k:Nat)(h0:I k s h n)
 (hs:∀k s' h' n' (R:Xb),I k s' h' n'->(∀k' s'' h'' n'',k'<k->I k' s'' h'' n''->R .normal s'' h'' n'')->(∀s'' h'' n'',Jt P ks .ret s'' h'' n'' Q->R .ret s'' h'' n'') ->
  (∀x s'' h'' n'',Jt P ks (.exit x) s'' h'' n'' Q->R (.exit x) s'' h'' n'')->rC P a [] s' h' n' R):rL P a ks s h n Q:=
 O0 I k h0 λk s h n hi=>hs k s h n _ hi (λk' _ _ _ hlt h=>⟨k',hlt,h⟩) (λ_ _ _ h=>h) (λ_ _ _ _ h=>h)
end Go.Proofs.YtoclolkigjbcgaaGreat

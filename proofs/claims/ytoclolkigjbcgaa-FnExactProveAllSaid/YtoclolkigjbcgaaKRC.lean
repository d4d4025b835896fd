/- R20 -/
import Derived.Test.YtoclolkigjbcgaaKRB
import Derived.Deep.LoopGhost
import Derived.Orders
namespace Go.Proofs.Ytoclolkigjbcgaa
set_option linter.all false
open Go Go.RowKit
structure AO where
 d:Option Nat
 op:AOp
 g:Option (Nat×Bool)
abbrev Env:=Nat→AV
def setO (s:Env) (d:Option Nat) (r:AV):Env:=match d with | some d=>upd s d r | Option.none=>s
def awpO (P:Program):List AO→Env→Heap→Nat→(Env→Heap→Nat→Prop)→Prop
 | [],s,h,n,K=>K s h n
 | o::os,s,h,n,K=>match o.g with
   | Option.none=>aop P s h n (fun r h' n'=>awpO P os (setO s o.d r) h' n' K) o.op
   | some (j,want)=>match s j with
     | .bool b=>(b=want→aop P (upd s j (.bool want)) h n (fun r h' n'=>awpO P os (setO (upd s j (.bool want)) o.d r) h' n' K) o.op) ∧
         (b = !want→awpO P os (setO (upd s j (.bool (!want))) o.d (.tup [])) h n K)
     | .tup []=>awpO P os (setO s o.d (.tup [])) h n K
     | _=>False
def compO (bx:Bool) (P:Program) (nt:Nat) (ops:Array Oper) (o:Oper):Option AO:=
 match o.dst with
 | some d=>if d<nt then (match o.guard with
   | Option.none=>(compOp bx P o).map fun a=>⟨some d,a,Option.none⟩
   | some (j,want)=>match (ops[j]?).bind (·.dst) with
     | some q=>if q<nt then (compOp bx P o).map fun a=>⟨some d,a,some (q,want)⟩ else Option.none
     | Option.none=>Option.none) else Option.none
 | Option.none=>match o.guard with
   | Option.none=>(compOp bx P o).map fun a=>⟨Option.none,a,Option.none⟩
   | some (j,want)=>match (ops[j]?).bind (·.dst) with
     | some q=>if q<nt then (compOp bx P o).map fun a=>⟨Option.none,a,some (q,want)⟩ else Option.none
     | Option.none=>Option.none
def Rel (base:Nat) (w0 w1:World) (L1:Nat→Option Loc) (n1 nt:Nat) (s:Env) (h:Heap) (n:Nat) (a:Act) (w:World):Prop:=
 a.defers=[]∧a.tmps.size=nt∧∃ L F,HRel base w0 w L n F [] h∧SRel w L n s a.tmps∧Ext w1 L1 n1 w L n
theorem SRel.put {w:World} {L:Nat→Option Loc} {N:Nat} {s:Env} {a:Act} {d:Option Nat} {r:AV} {v:Value} (hs:SRel w L N s a.tmps) (hr:VR w L N r v []) (hd:∀ i,d=some i→i<a.tmps.size) :
   SRel w L N (setO s d r) (a.put d v).tmps:=by
 cases d with
 | none=>exact hs
 | some d=>
   intro i
   simp only [setO,Act.put,upd]
   split
   · rename_i hi
     subst hi
     have:(a.tmps.setIfInBounds i v).getD i undef=v:=by
       have hlt:=hd i rfl
       simp [Array.getD,hlt]
     rw [this]; exact hr
   · rename_i hi
     have:(a.tmps.setIfInBounds d v).getD i undef=a.tmps.getD i undef:=by
       simp only [Array.getD_eq_getD_getElem?]
       rw [Array.getElem?_setIfInBounds_ne (by omega)]
     rw [this]; exact hs i
theorem put_size (a:Act) (d:Option Nat) (v:Value):(a.put d v).tmps.size=a.tmps.size:=by cases d <;> simp [Act.put]
theorem put_defers (a:Act) (d:Option Nat) (v:Value):(a.put d v).defers=a.defers:=by cases d <;> simp [Act.put]
theorem SRel.bool {w:World} {L:Nat→Option Loc} {N:Nat} {s:Env} {tmps:Array Value} {j:Nat} {b c:Bool} (hs:SRel w L N s tmps) (hj:s j = .bool b) (hb:b=c):SRel w L N (upd s j (.bool c)) tmps:=by
 intro i
 simp only [upd]
 split
 · rename_i hi; subst hi; have:=hs i; rw [hj,hb] at this; exact this
 · exact hs i
section
variable {bx:Bool} {P:Program} {base:Nat} {w0 w1:World} {L1:Nat→Option Loc} {n1 nt:Nat}
theorem awpO_sound (ops:Array Oper):∀ (l:List Oper) (os:List AO),l.mapM (compO bx P nt ops)=some os→∀ (s:Env) (h:Heap) (n:Nat) (K:Env→Heap→Nat→Prop) (a:Act) (w:World) (Q:Exit→Act→World→Prop),
   Rel base w0 w1 L1 n1 nt s h n a w→awpO P os s h n K→(∀ s h n a w,Rel base w0 w1 L1 n1 nt s h n a w→K s h n→Q .normal a w)→wpList P ops Q l a w:=by
 intro l
 induction l with
 | nil=>
   intro os hc s h n K a w Q hr hK hQ
   simp at hc; subst hc
   exact wpList_nil (hQ _ _ _ _ _ hr hK)
 | cons o l ih=>
   intro os hc s h n K a w Q hr hK hQ
   rw [List.mapM_cons] at hc
   simp only [Option.bind_eq_bind,Option.bind_eq_some_iff,Option.pure_def,Option.some.injEq] at hc
   obtain ⟨ao,hao,os',hos,rfl⟩:=hc
   obtain ⟨hdf,hsz,L,F,H,hs,he⟩:=hr
   have step:∀ (s':Env) (aop':AOp),compOp bx P o=some aop'→SRel w L n s' a.tmps→(∀ i,o.dst=some i→i<nt) →
       aop P s' h n (fun r h' n'=>awpO P os' (setO s' o.dst r) h' n' K) aop'→o.wp P a w (wpList P ops Q l) Q:=fun s' aop' hco hs' hd hK'=>by
     refine (compOp_sound hco H hs' hK').wp fun v w' hp => ?_
     obtain ⟨r,L',N',F',h',g1,g2,g3,g4⟩:=hp
     refine ih os' hos _ _ _ _ _ _ _ ⟨by rw [put_defers,hdf],by rw [put_size,hsz],L',F',g1,(hs'.ext g2).put g3 (fun i hi=>by rw [hsz]; exact hd i hi),he.trans g2⟩ g4 hQ
   have skip:∀ (s':Env),SRel w L n s' a.tmps→(∀ i,o.dst=some i→i<nt)→awpO P os' (setO s' o.dst (.tup [])) h n K→wpList P ops Q l (a.put o.dst undef) w:=fun s' hs' hd hK'=>
     ih os' hos _ _ _ _ _ _ _ ⟨by rw [put_defers,hdf],by rw [put_size,hsz],L,F,H,hs'.put (by simp [VR,VRl,undef]) (fun i hi=>by rw [hsz]; exact hd i hi),he⟩ hK' hQ
   have key:∃ aop',compOp bx P o=some aop'∧ao.d=o.dst∧ao.op=aop'∧(∀ i,o.dst=some i→i<nt) ∧
       ((o.guard=Option.none∧ao.g=Option.none)∨∃ j want q,o.guard=some (j,want)∧(ops[j]?).bind (·.dst)=some q∧q<nt∧ao.g=some (q,want)):=by
     unfold compO at hao
     split at hao
     · rename_i d hd
       split at hao
       · rename_i hlt
         split at hao
         · rename_i hg
           simp only [Option.map_eq_some_iff] at hao
           obtain ⟨x,hx,rfl⟩:=hao
           exact ⟨x,hx,hd.symm,rfl,(fun i hi=>by rw [hd] at hi; cases hi; exact hlt),.inl ⟨hg,rfl⟩⟩
         · rename_i j want hg
           split at hao
           · rename_i q hq
             split at hao
             · rename_i hqlt
               simp only [Option.map_eq_some_iff] at hao
               obtain ⟨x,hx,rfl⟩:=hao
               exact ⟨x,hx,hd.symm,rfl,(fun i hi=>by rw [hd] at hi; cases hi; exact hlt),.inr ⟨j,want,q,hg,hq,hqlt,rfl⟩⟩
             · cases hao
           · cases hao
       · cases hao
     · rename_i hd
       split at hao
       · rename_i hg
         simp only [Option.map_eq_some_iff] at hao
         obtain ⟨x,hx,rfl⟩:=hao
         exact ⟨x,hx,hd.symm,rfl,(fun i hi=>by rw [hd] at hi; cases hi),.inl ⟨hg,rfl⟩⟩
       · rename_i j want hg
         split at hao
         · rename_i q hq
           split at hao
           · rename_i hqlt
             simp only [Option.map_eq_some_iff] at hao
             obtain ⟨x,hx,rfl⟩:=hao
             exact ⟨x,hx,hd.symm,rfl,(fun i hi=>by rw [hd] at hi; cases hi),.inr ⟨j,want,q,hg,hq,hqlt,rfl⟩⟩
           · cases hao
         · cases hao
   obtain ⟨aop',hco,hd1,hop,hdlt,hg⟩:=key
   unfold awpO at hK
   unfold wpList
   rcases hg with ⟨hg,hg'⟩ | ⟨j,want,q,hg,hq,hqlt,hg'⟩
   · rw [hg'] at hK
     simp only [hd1,hop] at hK
     rw [if_pos (by simp [Region.wanted,hg])]
     exact .inl (step s aop' hco hs hdlt hK)
   · rw [hg'] at hK
     simp only [hd1,hop] at hK
     have hyield:∀ v,a.tmps.getD q undef=v→yielded ops a.tmps j=match v with | .bool b=>some b | _=>Option.none:=fun v hv=>by
       have hlt:q<a.tmps.size:=by rw [hsz]; exact hqlt
       have hv':a.tmps[q]? = some v:=by rw [←hv]; simp [Array.getD,hlt]
       have:((ops[j]?).bind (·.dst)).bind (a.tmps[·]?)=some v:=by rw [hq]; exact hv'
       unfold yielded
       rw [this]
       cases v <;> rfl
     split at hK
     · rename_i b hb
       have hv:=hs q
       rw [hb] at hv
       simp only [VR] at hv
       have hy:=hyield _ hv.1
       simp only at hy
       have hwant:Region.wanted o (yielded ops a.tmps)=(b==want):=by simp [Region.wanted,hg,hy]
       rw [hwant]
       by_cases hbw:b=want
       · rw [if_pos (by simp [hbw])]
         exact .inl (step _ aop' hco (hs.bool hb hbw) hdlt (hK.1 hbw))
       · rw [if_neg (by simp [hbw])]
         have hbn:b = !want:=by cases b <;> cases want <;> simp at hbw ⊢
         exact skip _ (hs.bool hb hbn) hdlt (hK.2 hbn)
     · rename_i hb
       have hv:=hs q
       rw [hb] at hv
       simp only [VR,VRl] at hv
       obtain ⟨vs,hv,hvs,_⟩:=hv
       have hy:=hyield _ hv
       simp only at hy
       rw [if_neg (by simp [Region.wanted,hg,hy])]
       exact skip _ hs hdlt hK
     · exact hK.elim
end
open Go Go.RowKit
theorem ACall.mono {P:Program} {f:FuncId} {as:List AV} {h:Heap} {n:Nat} {K K':AV→Heap→Nat→Prop} (hc:ACall P f as h n K) (hk:∀ r h n,K r h n→K' r h n):ACall P f as h n K':=
 ⟨hc.1,fun base w0 w L F vs H hv=>(hc.2 base w0 w L F vs H hv).mono fun _ _ ⟨v,r,L',n',F',h',h1,h2,h3,h4,h5⟩=>⟨v,r,L',n',F',h',h1,h2,h3,h4,hk _ _ _ h5⟩⟩
def rdX:Opd→List Nat
 | .t n=>[n]
 | .k _=>[]
def rdM:Option Opd→List Nat
 | some x=>rdX x
 | Option.none=>[]
def rdO:AOp→List Nat
 | .mv x=>rdX x
 | .pick c a b=>rdX c++(rdX a++rdX b)
 | .box _=>[]
 | .boxv x=>rdX x
 | .build _ ps=>ps.flatMap fun p=>rdX p.2.2
 | .bsl _ ps=>ps.flatMap rdX
 | .ld _ _ x=>rdX x
 | .st _ a x=>rdX a++rdX x
 | .nchk x=>rdX x
 | .bin _ x y=>rdX x++rdX y
 | .beq _ x y=>rdX x++rdX y
 | .un _ x=>rdX x
 | .cvi _ x=>rdX x
 | .cvb x=>rdX x
 | .mkf _ fi ca=>fi.flatMap rdX++ca.flatMap rdX
 | .mks _ _ l c=>rdX l++rdX c
 | .slc _ _ x lo hi=>rdX x++(rdM lo++rdM hi)
 | .fld _ x=>rdX x
 | .prt _ _ _ x=>rdX x
 | .ixa _ x i=>rdX x++rdX i
 | .ixs x i=>rdX x++rdX i
 | .ext x _=>rdX x
 | .call f args=>rdX f++args.flatMap rdX
 | .len _ x=>rdX x
 | .app _ _ x y=>rdX x++rdX y
 | .mnx _ x y=>rdX x++rdX y
 | .inil _ x=>rdX x
 | .aeq _ _ x y=>rdX x++rdX y
 | .mmk=>[]
 | .bslb _ ps=>ps.flatMap rdX
 | .appb _ _ x y=>rdX x++rdX y
 | .mget _ x k=>rdX x++rdX k
 | .mput x k v=>rdX x++(rdX k++rdX v)
 | .mlen x=>rdX x
def agree (s s':Env) (l:List Nat):Prop:=∀ t∈l,s t=s' t
theorem agree.left {s s':Env} {l m:List Nat} (h:agree s s' (l++m)):agree s s' l:=fun t ht=>h t (List.mem_append_left _ ht)
theorem agree.right {s s':Env} {l m:List Nat} (h:agree s s' (l++m)):agree s s' m:=fun t ht=>h t (List.mem_append_right _ ht)
theorem agree.ev {s s':Env} {x:Opd} (h:agree s s' (rdX x)):ev s x=ev s' x:=by
 cases x with
 | t n=>exact h n (by simp [rdX])
 | k a=>rfl
theorem agree.evs {s s':Env} {l:List Opd} (h:agree s s' (l.flatMap rdX)):l.map (Go.Proofs.Ytoclolkigjbcgaa.ev s)=l.map (Go.Proofs.Ytoclolkigjbcgaa.ev s'):=
 List.map_congr_left fun x hx=>agree.ev fun t ht=>h t (List.mem_flatMap.2 ⟨x,hx,ht⟩)
theorem agree.low {s s':Env} {x:Option Opd} {d:Int} (h:agree s s' (rdM x)):lowOf s d x=lowOf s' d x:=by
 cases x with
 | none=>rfl
 | some x=>simp only [lowOf,agree.ev h]
theorem aop_congr {P:Program} {s s':Env} {h:Heap} {n:Nat} {K:AV→Heap→Nat→Prop} {op:AOp} (ha:agree s s' (rdO op)):aop P s h n K op=aop P s' h n K op:=by
 cases op <;> simp only [rdO] at ha
 case mv=>simp only [aop,ha.ev]
 case pick=>simp only [aop,ha.left.ev,ha.right.left.ev,ha.right.right.ev]
 case box=>rfl
 case boxv=>simp only [aop,ha.ev]
 case build z ps=>
   have hp:∀ p∈ps,ev s p.2.2=ev s' p.2.2:=fun p hp=>agree.ev fun t ht=>ha t (List.mem_flatMap.2 ⟨p,hp,ht⟩)
   have h1:(ps.map fun p=>(p.1,p.2.1,ev s p.2.2))=ps.map fun p=>(p.1,p.2.1,ev s' p.2.2):=List.map_congr_left fun p hp'=>by rw [hp p hp']
   have h2:(ps.all fun p=>(cellsOf (ev s p.2.2)).all isCell)=ps.all fun p=>(cellsOf (ev s' p.2.2)).all isCell:=by
     rw [Bool.eq_iff_iff,List.all_eq_true,List.all_eq_true]
     exact ⟨fun h p hp'=>by rw [←hp p hp']; exact h p hp',fun h p hp'=>by rw [hp p hp']; exact h p hp'⟩
   simp only [aop,h1,h2]
 case bsl=>simp only [aop,ha.evs]
 case ld=>simp only [aop,ha.ev]
 case st=>simp only [aop,ha.left.ev,ha.right.ev]
 case nchk=>simp only [aop,ha.ev]
 case bin=>simp only [aop,ha.left.ev,ha.right.ev]
 case beq=>simp only [aop,ha.left.ev,ha.right.ev]
 case un=>simp only [aop,ha.ev]
 case cvi=>simp only [aop,ha.ev]
 case cvb=>simp only [aop,ha.ev]
 case mkf=>simp only [aop,ha.left.evs,ha.right.evs]
 case mks=>simp only [aop,ha.left.ev,ha.right.ev]
 case slc=>simp only [aop,ha.left.ev,ha.right.left.low,ha.right.right.low]
 case fld=>simp only [aop,ha.ev]
 case prt=>simp only [aop,ha.ev]
 case ixa=>simp only [aop,ha.left.ev,ha.right.ev]
 case ixs=>simp only [aop,ha.left.ev,ha.right.ev]
 case ext=>simp only [aop,ha.ev]
 case call=>simp only [aop,ha.left.ev,ha.right.evs]
 case len=>simp only [aop,ha.ev]
 case app=>simp only [aop,ha.left.ev,ha.right.ev]
 case mnx=>simp only [aop,ha.left.ev,ha.right.ev]
 case inil=>simp only [aop,ha.ev]
 case aeq=>simp only [aop,ha.left.ev,ha.right.ev]
 case mmk=>rfl
 case bslb sz ps=>
   have hp:∀ p∈ps,ev s p=ev s' p:=fun p hp=>agree.ev fun t ht=>ha t (List.mem_flatMap.2 ⟨p,hp,ht⟩)
   have h1:(ps.map fun p=>cellsOf (ev s p))=ps.map fun p=>cellsOf (ev s' p):=List.map_congr_left fun p hp'=>by rw [hp p hp']
   have h2:(ps.all fun p=>(cellsOf (ev s p)).length==sz&&(cellsOf (ev s p)).all isCell)=ps.all fun p=>(cellsOf (ev s' p)).length==sz&&(cellsOf (ev s' p)).all isCell:=by
     rw [Bool.eq_iff_iff,List.all_eq_true,List.all_eq_true]
     exact ⟨fun h p hp'=>by rw [←hp p hp']; exact h p hp',fun h p hp'=>by rw [hp p hp']; exact h p hp'⟩
   simp only [aop,h1,h2]
 case appb=>simp only [aop,ha.left.ev,ha.right.ev]
 case mget=>simp only [aop,ha.left.ev,ha.right.ev]
 case mput=>simp only [aop,ha.left.ev,ha.right.left.ev,ha.right.right.ev]
 case mlen=>simp only [aop,ha.ev]
def hext (h h':Heap):Prop:=∀ id B,h id=some B→h' id=some B
theorem hext.refl (h:Heap):hext h h:=fun _ _ e=>e
theorem hext.upd {h:Heap} {n:Nat} {x:Option Blk} (hn:h n=Option.none):hext h (upd h n x):=fun id B e=>by
 have:id≠n:=fun e'=>by rw [e',hn] at e; cases e
 rw [upd_other _ _ _ _ this]; exact e
def pureO:AOp→Bool
 | .mv _ | .pick .. | .build .. | .ld .. | .nchk _ | .bin .. | .beq .. | .un .. | .cvi .. | .mkf .. | .slc .. | .fld .. | .prt .. | .ixa .. | .ixs .. | .ext .. | .len .. | .mnx .. | .aeq .. | .mget .. | .mlen _=>true
 | _=>false
def softO:AOp→Bool
 | .box _ | .boxv _ | .mks .. | .call .. | .cvb _ | .mmk=>true
 | _=>false
def heapO:AOp→Bool
 | .mv _ | .pick .. | .build .. | .bin .. | .beq .. | .un .. | .cvi .. | .mkf .. | .prt .. | .ixs .. | .ext .. | .mnx .. | .aeq .. => false
 | _=>true
def aopD (P:Program) (s:Env) (h:Heap) (n:Nat) (K:AV→Heap→Nat→Prop):AOp→Prop
 | .call f args=>match ev s f with
   | .fn (.func f) fi ca=>ACall P f (fi++args.map (ev s)++ca) h n fun r h' n'=>hext h h'∧K r h' n'
   | _=>False
 | .len str x=>match str,ev s x with
   | true,.str l=>K (.int .i64 l.length) h n
   | false,.sl _ rows=>K (.int .i64 rows.length) h n
   | false,.ref id _ len=>(h id).isSome=true∧K (.int .i64 len) h n
   | false,.nil _=>K (.int .i64 0) h n
   | _,_=>False
 | op=>aop P s h n K op
theorem aop_of_aopD {P:Program} {s:Env} {h:Heap} {n:Nat} {K:AV→Heap→Nat→Prop} {op:AOp} (hk:aopD P s h n K op):aop P s h n K op:=by
 unfold aopD at hk
 split at hk
 · simp only [aop]
   split at hk
   · rename_i hf; rw [hf]; exact ACall.mono hk fun _ _ _ h=>h.2
   · exact hk.elim
 · simp only [aop]
   split at hk <;> rename_i hf <;> simp only [hf]
   · exact fun _=>hk
   · exact fun _=>hk
   · exact ⟨hk.1,fun _=>hk.2⟩
   · exact hk
   · exact hk.elim
 · exact hk
theorem soft_hext {P:Program} {s:Env} {h:Heap} {n:Nat} {K:AV→Heap→Nat→Prop} {op:AOp} (hs:softO op=true) (hn:h n=Option.none) (hk:aopD P s h n K op):aop P s h n (fun r h' n'=>hext h h'∧K r h' n') op:=by
 cases op <;> simp only [softO,Bool.false_eq_true] at hs <;> simp only [aopD,aop] at hk ⊢
 case box=>exact ⟨hext.upd hn,hk⟩
 case boxv=>exact ⟨hk.1,hk.2.1,hext.upd hn,hk.2.2⟩
 case mmk=>exact ⟨hext.upd hn,hk⟩
 case cvb=>unfold onO at hk ⊢; split at hk <;> first | exact hk.elim | (split at hk <;> first | exact hk.elim | exact ⟨hext.refl _,hk⟩)
 case mks=>unfold onO at hk ⊢; split at hk <;> first | exact hk.elim | (split at hk <;> first | exact hk.elim | exact ⟨hk.1,hk.2.1,hk.2.2.1,hext.upd hn,hk.2.2.2⟩)
 case call=>split at hk <;> first | exact hk.elim | (rename_i hf; simp only [hf]; exact hk)
def idsOf:AV→List Nat
 | .ptr id _ _=>[id]
 | .ref id _ _=>[id]
 | .mp id=>[id]
 | _=>[]
def looks (s:Env):AOp→List Nat
 | .ld _ _ x=>idsOf (ev s x)
 | .nchk x=>idsOf (ev s x)
 | .slc _ _ x _ _=>idsOf (ev s x)
 | .fld _ x=>idsOf (ev s x)
 | .ixa _ x _=>idsOf (ev s x)
 | .len _ x=>idsOf (ev s x)
 | .mget _ x _=>idsOf (ev s x)
 | .mlen x=>idsOf (ev s x)
 | _=>[]
theorem looks_congr {s s':Env} {op:AOp} (ha:agree s s' (rdO op)):looks s op=looks s' op:=by
 cases op <;> simp only [rdO] at ha <;> simp only [looks]
 case ld=>rw [ha.ev]
 case nchk=>rw [ha.ev]
 case slc=>rw [ha.left.ev]
 case fld=>rw [ha.ev]
 case ixa=>rw [ha.left.ev]
 case len=>rw [ha.ev]
 case mget=>rw [ha.left.ev]
 case mlen=>rw [ha.ev]
def keepL (s:Env) (h h':Heap) (op:AOp):Prop:=∀ id∈looks s op,∀ B,h id=some B→h' id=some B
theorem keepL.refl {s:Env} {h:Heap} {op:AOp} : keepL s h h op:=fun _ _ _ e=>e
theorem hext.keepL {s:Env} {h h':Heap} {op:AOp} (he:hext h h'):Go.Proofs.Ytoclolkigjbcgaa.keepL s h h' op:=fun id _ B e=>he id B e
theorem keepL_nil {s:Env} {h h':Heap} {op:AOp} (hp:pureO op=true) (ho:heapO op=false):keepL s h h' op:=by
 intro id hid
 cases op <;> simp only [heapO,Bool.true_eq_false] at ho <;> simp [looks] at hid
def Fix (P:Program) (op:AOp) (s:Env) (h:Heap) (r:AV):Prop:=∀ s' h' n' K',agree s s' (rdO op)→keepL s h h' op→K' r h' n'→aop P s' h' n' K' op
theorem Fix.mono {P:Program} {op:AOp} {s s':Env} {h h':Heap} {r:AV} (hf:Fix P op s h r) (ha:agree s s' (rdO op)) (he:keepL s h h' op):Fix P op s' h' r:=
 fun s2 h2 n2 K2 ha2 he2 hk=>hf s2 h2 n2 K2 (fun t ht=>(ha t ht).trans (ha2 t ht)) (fun id hid B e=>he2 id (by rw [←looks_congr ha]; exact hid) B (he id hid B e)) hk
theorem onO_get {α:Type} {x:Option α} {K:α→Prop} (h:onO x K):∃ a,x=some a∧K a:=by
 unfold onO at h
 split at h
 · exact ⟨_,rfl,h⟩
 · exact h.elim
theorem pure_fix {P:Program} {s:Env} {h:Heap} {n:Nat} {K:AV→Heap→Nat→Prop} {op:AOp} (hp:pureO op=true) (hk:aopD P s h n K op):∃ r,K r h n∧Fix P op s h r:=by
 have red:∀ r,(∀ h' n' K',keepL s h h' op→K' r h' n'→aop P s h' n' K' op)→Fix P op s h r:=fun r hr s' h' n' K' ha he hK=>by
   rw [←aop_congr ha]; exact hr h' n' K' he hK
 cases op <;> simp only [pureO,Bool.false_eq_true] at hp <;> simp only [aopD,aop] at hk
 case mv=>exact ⟨_,hk,red _ fun h' n' K' he hK=>by simp only [aop]; exact hK⟩
 case pick=>
   split at hk
   · rename_i c hc
     cases c
     · exact ⟨_,hk.2 rfl,red _ fun h' n' K' he hK=>by simp only [aop,hc]; exact ⟨fun h=>(by cases h),fun _=>hK⟩⟩
     · exact ⟨_,hk.1 rfl,red _ fun h' n' K' he hK=>by simp only [aop,hc]; exact ⟨fun _=>hK,fun h=>(by cases h)⟩⟩
   · exact hk.elim
 case build=>
   obtain ⟨h1,h2⟩:=hk
   obtain ⟨a,ha,h3⟩:=onO_get h2
   exact ⟨_,h3,red _ fun h' n' K' he hK=>by simp only [aop,ha,onO]; exact ⟨h1,hK⟩⟩
 case ld=>
   split at hk
   · rename_i id r c hx
     obtain ⟨B,hB,h1,h2⟩:=onO_get hk
     obtain ⟨a,ha,h3⟩:=onO_get h2
     exact ⟨_,h3,red _ fun h' n' K' he hK=>by simp only [aop,hx,he id (by simp [looks,hx,idsOf]) B hB,onO,ha]; exact ⟨h1,hK⟩⟩
   · rename_i hx
     obtain ⟨a,ha,h3⟩:=onO_get hk
     exact ⟨_,h3,red _ fun h' n' K' he hK=>by simp only [aop,hx,ha,onO]; exact hK⟩
   · exact hk.elim
 case nchk=>
   split at hk
   · rename_i id r c hx
     obtain ⟨B,hB⟩:=Option.isSome_iff_exists.1 hk.1
     exact ⟨_,hk.2,red _ fun h' n' K' he hK=>by simp only [aop,hx,he id (by simp [looks,hx,idsOf]) B hB]; exact ⟨rfl,hK⟩⟩
   · rename_i hx
     exact ⟨_,hk,red _ fun h' n' K' he hK=>by simp only [aop,hx]; exact hK⟩
   · exact hk.elim
 case bin op x y=>
   split at hk
   · rename_i hx hy
     obtain ⟨h1,h2⟩:=hk
     split at h2
     · exact ⟨_,h2.2,red _ fun h' n' K' he hK=>by simp only [aop,hx,hy]; exact ⟨h1,h2.1,hK⟩⟩
     · exact ⟨_,h2.2,red _ fun h' n' K' he hK=>by simp only [aop,hx,hy]; exact ⟨h1,h2.1,hK⟩⟩
     · rename_i n1 n2
       obtain ⟨a,ha,h3⟩:=onO_get h2
       refine ⟨_,h3,red _ fun h' n' K' he hK => ?_⟩
       simp only [aop,hx,hy]
       refine ⟨h1,?_⟩
       cases op <;> first | exact absurd rfl n1 | exact absurd rfl n2 | (simp only [ha,onO]; exact hK)
   · rename_i hx hy
     split at hk
     · exact ⟨_,hk.2,red _ fun h' n' K' he hK=>by simp only [aop,hx,hy]; exact ⟨hk.1,hK⟩⟩
     · rename_i n1
       obtain ⟨a,ha,h3⟩:=onO_get hk
       refine ⟨_,h3,red _ fun h' n' K' he hK => ?_⟩
       simp only [aop,hx,hy]
       cases op <;> first | exact absurd rfl n1 | (simp only [ha,onO]; exact hK)
   · exact hk.elim
 case beq=>
   split at hk
   · rename_i hx hy
     exact ⟨_,hk,red _ fun h' n' K' he hK=>by simp only [aop,hx,hy]; exact hK⟩
   · exact hk.elim
 case un op x=>
   split at hk
   · rename_i hx
     exact ⟨_,hk,red _ fun h' n' K' he hK=>by simp only [aop,hx]; exact hK⟩
   · rename_i hx
     exact ⟨_,hk,red _ fun h' n' K' he hK=>by simp only [aop,hx]; exact hK⟩
   · exact hk.elim
 case cvi=>
   obtain ⟨a,ha,h3⟩:=onO_get hk
   exact ⟨_,h3,red _ fun h' n' K' he hK=>by simp only [aop,ha,onO]; exact hK⟩
 case mkf=>exact ⟨_,hk,red _ fun h' n' K' he hK=>by simp only [aop]; exact hK⟩
 case slc str sz x lo hi=>
   split at hk
   · rename_i l hx
     obtain ⟨a,ha,hk⟩:=onO_get hk
     obtain ⟨b,hb,h1,h2,h3,h4⟩:=onO_get hk
     exact ⟨_,h4,red _ fun h' n' K' he hK=>by simp only [aop,hx,ha,hb,onO]; exact ⟨h1,h2,h3,hK⟩⟩
   · rename_i sz' rows hx
     obtain ⟨a,ha,hk⟩:=onO_get hk
     obtain ⟨b,hb,h0,h1,h2,h3,h4⟩:=onO_get hk
     exact ⟨_,h4,red _ fun h' n' K' he hK=>by simp only [aop,hx,ha,hb,onO]; exact ⟨h0,h1,h2,h3,hK⟩⟩
   · rename_i id off len hx
     obtain ⟨a,ha,hk⟩:=onO_get hk
     obtain ⟨b,hb,h1,h2,h3,hk⟩:=onO_get hk
     obtain ⟨B,hB,h4,h5⟩:=onO_get hk
     exact ⟨_,h5,red _ fun h' n' K' he hK=>by simp only [aop,hx,ha,hb,he id (by simp [looks,hx,idsOf]) B hB,onO]; exact ⟨h1,h2,h3,h4,hK⟩⟩
   · rename_i sz' hx
     obtain ⟨a,ha,hk⟩:=onO_get hk
     obtain ⟨b,hb,h1,h2,h3⟩:=onO_get hk
     exact ⟨_,h3,red _ fun h' n' K' he hK=>by simp only [aop,hx,ha,hb,onO]; exact ⟨h1,h2,hK⟩⟩
   · exact hk.elim
 case fld=>
   split at hk
   · rename_i id r c hx
     obtain ⟨B,hB⟩:=Option.isSome_iff_exists.1 hk.1
     exact ⟨_,hk.2,red _ fun h' n' K' he hK=>by simp only [aop,hx,he id (by simp [looks,hx,idsOf]) B hB]; exact ⟨rfl,hK⟩⟩
   · rename_i hx
     exact ⟨_,hk,red _ fun h' n' K' he hK=>by simp only [aop,hx]; exact hK⟩
   · exact hk.elim
 case prt=>
   split at hk
   · rename_i hx
     obtain ⟨a,ha,h3⟩:=onO_get hk
     exact ⟨_,h3,red _ fun h' n' K' he hK=>by simp only [aop,hx,ha,onO]; exact hK⟩
   · exact hk.elim
 case ixa=>
   split at hk
   · rename_i hx hi
     exact ⟨_,hk.2.2.2,red _ fun h' n' K' he hK=>by simp only [aop,hx,hi]; exact ⟨hk.1,hk.2.1,hk.2.2.1,hK⟩⟩
   · rename_i id off len i hx hi
     obtain ⟨h1,h2,hk⟩:=hk
     obtain ⟨B,hB,h4,h5⟩:=onO_get hk
     exact ⟨_,h5,red _ fun h' n' K' he hK=>by simp only [aop,hx,hi,he id (by simp [looks,hx,idsOf]) B hB,onO]; exact ⟨h1,h2,h4,hK⟩⟩
   · exact hk.elim
 case ixs=>
   split at hk
   · rename_i hx hi
     exact ⟨_,hk.2.2,red _ fun h' n' K' he hK=>by simp only [aop,hx,hi]; exact ⟨hk.1,hk.2.1,hK⟩⟩
   · exact hk.elim
 case ext=>
   split at hk
   · rename_i hx
     obtain ⟨a,ha,h3⟩:=onO_get hk
     exact ⟨_,h3,red _ fun h' n' K' he hK=>by simp only [aop,hx,ha,onO]; exact hK⟩
   · exact hk.elim
 case len str x=>
   split at hk
   · rename_i hx
     exact ⟨_,hk,red _ fun h' n' K' he hK=>by simp only [aop,hx]; exact fun _=>hK⟩
   · rename_i hx
     exact ⟨_,hk,red _ fun h' n' K' he hK=>by simp only [aop,hx]; exact fun _=>hK⟩
   · rename_i id off len hx
     obtain ⟨B,hB⟩:=Option.isSome_iff_exists.1 hk.1
     exact ⟨_,hk.2,red _ fun h' n' K' he hK=>by simp only [aop,hx,he id (by simp [looks,hx,idsOf]) B hB]; exact ⟨rfl,fun _=>hK⟩⟩
   · rename_i hx
     exact ⟨_,hk,red _ fun h' n' K' he hK=>by simp only [aop,hx]; exact hK⟩
   · exact hk.elim
 case mnx=>
   split at hk
   · rename_i hx hy
     exact ⟨_,hk.2,red _ fun h' n' K' he hK=>by simp only [aop,hx,hy]; exact ⟨hk.1,hK⟩⟩
   · exact hk.elim
 case aeq=>
   split at hk
   · rename_i hx hy
     obtain ⟨a,ha,h3⟩:=onO_get hk
     exact ⟨_,h3,red _ fun h' n' K' he hK=>by simp only [aop,hx,hy,ha,onO]; exact hK⟩
   · exact hk.elim
 case mget=>
   split at hk
   · rename_i id key hx hy
     obtain ⟨B,hB,h1⟩:=onO_get hk
     exact ⟨_,h1,red _ fun h' n' K' he hK=>by simp only [aop,hx,hy,he id (by simp [looks,hx,idsOf]) B hB,onO]; exact hK⟩
   · exact hk.elim
 case mlen=>
   split at hk
   · rename_i id hx
     obtain ⟨B,hB,h1⟩:=onO_get hk
     exact ⟨_,h1,red _ fun h' n' K' he hK=>by simp only [aop,hx,he id (by simp [looks,hx,idsOf]) B hB,onO]; exact hK⟩
   · exact hk.elim
theorem onO_mono {α:Type} {x:Option α} {K K':α→Prop} (h:onO x K) (hk:∀ a,K a→K' a):onO x K':=by
 unfold onO at h ⊢
 split at h
 · exact hk _ h
 · exact h.elim
theorem aop_mono {P:Program} {s:Env} {h:Heap} {n:Nat} {K K':AV→Heap→Nat→Prop} {op:AOp} (hk:aop P s h n K op) (hm:∀ r h n,K r h n→K' r h n):aop P s h n K' op:=by
 cases op <;> simp only [aop] at hk ⊢
 case mv=>exact hm _ _ _ hk
 case pick=>split at hk <;> first | exact hk.elim | exact ⟨fun e=>hm _ _ _ (hk.1 e),fun e=>hm _ _ _ (hk.2 e)⟩
 case box=>exact hm _ _ _ hk
 case boxv=>exact ⟨hk.1,hk.2.1,hm _ _ _ hk.2.2⟩
 case build=>exact ⟨hk.1,onO_mono hk.2 fun _ h=>hm _ _ _ h⟩
 case bsl=>exact onO_mono hk fun _ h=>⟨h.1,hm _ _ _ h.2⟩
 case ld=>
   split at hk
   · exact onO_mono hk fun _ h=>⟨h.1,onO_mono h.2 fun _ h=>hm _ _ _ h⟩
   · exact onO_mono hk fun _ h=>hm _ _ _ h
   · exact hk.elim
 case st=>
   refine ⟨hk.1,hk.2.1,?_⟩
   have hk:=hk.2.2
   split at hk
   · refine onO_mono hk fun B h => ?_
     split at h <;> rename_i hb
     · rw [if_pos hb]; exact ⟨h.1,h.2.1,hm _ _ _ h.2.2⟩
     · rw [if_neg hb]; exact onO_mono h fun _ h=>onO_mono h fun _ h=>⟨h.1,h.2.1,h.2.2.1,hm _ _ _ h.2.2.2⟩
   · exact hk.elim
 case nchk=>
   split at hk
   · exact ⟨hk.1,hm _ _ _ hk.2⟩
   · exact hm _ _ _ hk
   · exact hk.elim
 case bin=>
   split at hk
   · refine ⟨hk.1,?_⟩
     have hk:=hk.2
     split at hk
     · exact ⟨hk.1,hm _ _ _ hk.2⟩
     · exact ⟨hk.1,hm _ _ _ hk.2⟩
     · exact onO_mono hk fun _ h=>hm _ _ _ h
   · split at hk
     · exact ⟨hk.1,hm _ _ _ hk.2⟩
     · exact onO_mono hk fun _ h=>hm _ _ _ h
   · exact hk.elim
 case beq=>split at hk <;> first | exact hk.elim | exact hm _ _ _ hk
 case un=>split at hk <;> first | exact hk.elim | exact hm _ _ _ hk
 case cvi=>exact onO_mono hk fun _ h=>hm _ _ _ h
 case cvb=>exact onO_mono hk fun _ h=>onO_mono h fun _ h=>hm _ _ _ h
 case mkf=>exact hm _ _ _ hk
 case mks=>exact onO_mono hk fun _ h=>onO_mono h fun _ h=>⟨h.1,h.2.1,h.2.2.1,hm _ _ _ h.2.2.2⟩
 case slc=>
   split at hk
   · exact onO_mono hk fun _ h=>onO_mono h fun _ h=>⟨h.1,h.2.1,h.2.2.1,hm _ _ _ h.2.2.2⟩
   · exact onO_mono hk fun _ h=>onO_mono h fun _ h=>⟨h.1,h.2.1,h.2.2.1,h.2.2.2.1,hm _ _ _ h.2.2.2.2⟩
   · exact onO_mono hk fun _ h=>onO_mono h fun _ h=>⟨h.1,h.2.1,h.2.2.1,onO_mono h.2.2.2 fun _ h=>⟨h.1,hm _ _ _ h.2⟩⟩
   · exact onO_mono hk fun _ h=>onO_mono h fun _ h=>⟨h.1,h.2.1,hm _ _ _ h.2.2⟩
   · exact hk.elim
 case fld=>
   split at hk
   · exact ⟨hk.1,hm _ _ _ hk.2⟩
   · exact hm _ _ _ hk
   · exact hk.elim
 case prt=>split at hk <;> first | exact hk.elim | exact onO_mono hk fun _ h=>hm _ _ _ h
 case ixa=>
   split at hk
   · exact ⟨hk.1,hk.2.1,hk.2.2.1,hm _ _ _ hk.2.2.2⟩
   · exact ⟨hk.1,hk.2.1,onO_mono hk.2.2 fun _ h=>⟨h.1,hm _ _ _ h.2⟩⟩
   · exact hk.elim
 case ixs=>split at hk <;> first | exact hk.elim | exact ⟨hk.1,hk.2.1,hm _ _ _ hk.2.2⟩
 case ext=>split at hk <;> first | exact hk.elim | exact onO_mono hk fun _ h=>hm _ _ _ h
 case call=>split at hk <;> first | exact hk.elim | exact ACall.mono hk hm
 case len=>
   split at hk
   · exact fun e=>hm _ _ _ (hk e)
   · exact fun e=>hm _ _ _ (hk e)
   · exact ⟨hk.1,fun e=>hm _ _ _ (hk.2 e)⟩
   · exact hm _ _ _ hk
   · exact hk.elim
 case app=>
   split at hk
   · exact onO_mono hk fun _ h=>⟨h.1,h.2.1,hm _ _ _ h.2.2⟩
   · exact ⟨hk.1,onO_mono hk.2 fun _ h=>onO_mono h fun _ h=>⟨h.1,h.2.1,h.2.2.1,h.2.2.2.1,h.2.2.2.2.1,h.2.2.2.2.2.1,hm _ _ _ h.2.2.2.2.2.2⟩⟩
   · exact hk.elim
 case mnx=>split at hk <;> first | exact hk.elim | exact ⟨hk.1,hm _ _ _ hk.2⟩
 case aeq=>split at hk <;> first | exact hk.elim | exact onO_mono hk fun _ h=>hm _ _ _ h
 case mmk=>exact hm _ _ _ hk
 case bslb=>exact ⟨hk.1,hm _ _ _ hk.2⟩
 case appb=>
   split at hk
   · exact onO_mono hk fun _ h=>⟨h.1,h.2.1,hm _ _ _ h.2.2⟩
   · exact ⟨hk.1,onO_mono hk.2 fun _ h=>onO_mono h fun _ h=>⟨h.1,h.2.1,h.2.2.1,h.2.2.2.1,h.2.2.2.2.1,hm _ _ _ h.2.2.2.2.2⟩⟩
   · exact hk.elim
 case mget=>split at hk <;> first | exact hk.elim | exact onO_mono hk fun _ h=>hm _ _ _ h
 case mput=>split at hk <;> first | exact hk.elim | exact onO_mono hk fun _ h=>hm _ _ _ h
 case mlen=>split at hk <;> first | exact hk.elim | exact onO_mono hk fun _ h=>hm _ _ _ h
 case inil=>
   split at hk
   · exact ⟨fun e=>hm _ _ _ (hk.1 e),hm _ _ _ hk.2⟩
   · exact hm _ _ _ hk
   · exact ⟨hk.1,fun e=>hm _ _ _ (hk.2.1 e),hm _ _ _ hk.2.2⟩
   · exact hk.elim
open Go Go.RowKit
inductive DT where
 | fin
 | stuck
 | both (a b:DT)
 | op (o:AO) (t:DT)
 | hop (o:AO) (ps:List AOp) (t:DT)
def sameL (ps:List AOp) (s:Env) (h h':Heap):Prop:=∀ p∈ps,keepL s h h' p
def awpD (P:Program):DT→Env→Heap→Nat→(Env→Heap→Nat→Prop)→Prop
 | .fin,s,h,n,K=>K s h n
 | .stuck,_,_,_,_=>False
 | .both a b,s,h,n,K=>awpD P a s h n K∧awpD P b s h n K
 | .op o t,s,h,n,K=>match o.g with
   | Option.none=>aopD P s h n (fun r h' n'=>awpD P t (setO s o.d r) h' n' K) o.op
   | some (j,want)=>match s j with
     | .bool b=>(b=want→aopD P (upd s j (.bool want)) h n (fun r h' n'=>awpD P t (setO (upd s j (.bool want)) o.d r) h' n' K) o.op) ∧
         (b = !want→awpD P t (setO (upd s j (.bool (!want))) o.d (.tup [])) h n K)
     | .tup []=>awpD P t (setO s o.d (.tup [])) h n K
     | _=>False
 | .hop o ps t,s,h,n,K=>match o.g with
   | Option.none=>aopD P s h n (fun r h' n'=>sameL ps s h h'∧awpD P t (setO s o.d r) h' n' K) o.op
   | some (j,want)=>match s j with
     | .bool b=>(b=want→aopD P (upd s j (.bool want)) h n (fun r h' n'=>sameL ps (upd s j (.bool want)) h h'∧awpD P t (setO (upd s j (.bool want)) o.d r) h' n' K) o.op) ∧
         (b = !want→awpD P t (setO (upd s j (.bool (!want))) o.d (.tup [])) h n K)
     | .tup []=>awpD P t (setO s o.d (.tup [])) h n K
     | _=>False
def memN (n:Nat):List Nat→Bool
 | []=>false
 | m::l=>Nat.beq n m||memN n l
theorem memN_iff {n:Nat} {l:List Nat} : memN n l=true↔n∈l:=by
 induction l with
 | nil=>simp [memN]
 | cons m l ih=>simp [memN,ih]
def rdA (o:AO):List Nat:=rdO o.op++(match o.g with | some (q,_)=>[q] | Option.none=>[])
def preds (ops:Array Oper) (i:Nat):List Nat:=match ops[i]? with
 | some o=>(o.after.toList.filter (Region.binds .any)).map (·.on)
 | Option.none=>[]
def dOf (aos:List AO) (i:Nat):Option Nat:=(aos[i]?).bind (·.d)
def rdI (aos:List AO) (i:Nat):List Nat:=match aos[i]? with | some o=>rdA o | Option.none=>[]
def isD (aos:List AO) (j d:Nat):Bool:=match dOf aos j with | some e=>Nat.beq e d | Option.none=>false
def isR (aos:List AO) (pre:Nat→List Nat) (i:Nat):Bool:=match aos[i]? with
 | some o=>pureO o.op&&(match o.d with
   | some d=>(List.range aos.length).all fun j=>if Nat.beq j i then !(memN d (rdI aos j)) else !(isD aos j d)&&(!(memN d (rdI aos j))||memN i (pre j))
   | Option.none=>false)
 | Option.none=>false
def chkD (aos:List AO) (pre:Nat→List Nat) (rs:List Nat):Bool:=(List.range aos.length).all fun i=>
 (pre i).all (fun p=>Nat.blt p i)&&(memN i rs==isR aos pre i)&&(memN i rs||(match dOf aos i with
   | some d=>(List.range aos.length).all fun j=>Nat.beq j i || !(memN d (rdI aos j))||memN i (pre j)||memN j (pre i)
   | Option.none=>true))
def rch (pre:Nat→List Nat):Nat→Nat→Nat→Bool
 | 0,_,_=>false
 | f+1,i,j=>(pre i).any fun p=>Nat.beq p j||(Nat.blt j p&&rch pre f p j)
def pendL (aos:List AO) (pre:Nat→List Nat) (rs:List Nat) (i:Nat):List Nat→List AOp
 | []=>[]
 | j::dn=>match aos[j]? with
   | some o=>if heapO o.op&&(memN j rs && !(rch pre 12 i j)) then o.op::pendL aos pre rs i dn else pendL aos pre rs i dn
   | Option.none=>pendL aos pre rs i dn
theorem pendL_mem {aos:List AO} {pre:Nat→List Nat} {rs:List Nat} {i j:Nat} {o:AO} (ho:aos[j]? = some o) (h1:heapO o.op=true) (h2:memN j rs=true) (h3:rch pre 12 i j=false) {dn:List Nat} (hj:j∈dn):o.op∈pendL aos pre rs i dn:=by
 induction dn with
 | nil=>cases hj
 | cons k dn ih=>
   unfold pendL
   rcases List.mem_cons.1 hj with hjk | hj
   · subst hjk
     rw [ho]
     simp only
     rw [if_pos (by rw [h1,h2,h3]; rfl)]
     exact List.mem_cons_self
   · have ih:=ih hj
     split
     · split
       · exact List.mem_cons_of_mem _ ih
       · exact ih
     · exact ih
def rdyD (N:Nat) (pre:Nat→List Nat) (dn:List Nat):List Nat:=(List.range N).filter fun i => !(memN i dn)&&(pre i).all fun p=>memN p dn
def bothAll:List DT→DT
 | [] => .fin
 | [t]=>t
 | t::ts => .both t (bothAll ts)
def build (aos:List AO) (pre:Nat→List Nat) (rs:List Nat):Nat→List Nat→DT
 | 0,_ => .stuck
 | f+1,dn=>match (rdyD aos.length pre dn).find? fun i=>memN i rs with
   | some i=>match aos[i]? with
     | some o => .op o (build aos pre rs f (i::dn))
     | Option.none => .stuck
   | Option.none=>bothAll ((rdyD aos.length pre dn).map fun i=>match aos[i]? with
     | some o=>if softO o.op then .op o (build aos pre rs f (i::dn)) else .hop o (pendL aos pre rs i dn) (build aos pre rs f (i::dn))
     | Option.none => .stuck)
def compD (bx:Bool) (P:Program) (nt:Nat) (ops:Array Oper):Option DT:=
 if P.follows .mixedOrders then (ops.toList.mapM (compO bx P nt ops)).bind fun aos=>
   let pre:=preds ops
   let rs:=(List.range aos.length).filter (isR aos pre)
   if chkD aos pre rs then some (build aos pre rs (aos.length+1) []) else Option.none
 else Option.none
theorem bothAll_mem {P:Program} {s:Env} {h:Heap} {n:Nat} {K:Env→Heap→Nat→Prop} : ∀ {ts:List DT} {t:DT},t∈ts→awpD P (bothAll ts) s h n K→awpD P t s h n K
 | [],_,h,_=>by cases h
 | [t],_,h,hk=>by simp at h; subst h; exact hk
 | t::u::ts,x,h,hk=>by
   simp only [bothAll,awpD] at hk
   rcases List.mem_cons.1 h with rfl | h
   · exact hk.1
   · exact bothAll_mem h hk.2
def PendOK (P:Program) (o:AO) (s:Env) (h:Heap):Prop:=∃ d,o.d=some d∧match o.g with
 | Option.none=>Fix P o.op s h (s d)
 | some (q,want)=>(s q = .bool want∧Fix P o.op s h (s d))∨((s q = .bool (!want)∨s q = .tup [])∧s d = .tup [])
theorem rdA_op {o:AO} {t:Nat} (h:t∈rdO o.op):t∈rdA o:=List.mem_append_left _ h
theorem rdA_g {o:AO} {q:Nat} {w:Bool} (h:o.g=some (q,w)):q∈rdA o:=by simp [rdA,h]
theorem PendOK.mono {P:Program} {o:AO} {s s':Env} {h h':Heap} (hp:PendOK P o s h) (ha:agree s s' (rdA o)) (hd:∀ d,o.d=some d→s d=s' d) (he:keepL s h h' o.op):PendOK P o s' h':=by
 obtain ⟨d,h1,h2⟩:=hp
 refine ⟨d,h1,?_⟩
 have ho:agree s s' (rdO o.op):=fun t ht=>ha t (rdA_op ht)
 rw [←hd d h1]
 cases hg:o.g with
 | none=>rw [hg] at h2; exact Fix.mono h2 ho he
 | some p=>
   obtain ⟨q,want⟩:=p
   rw [hg] at h2
   simp only at h2 ⊢
   rw [←ha q (rdA_g hg)]
   exact h2.imp (fun h=>⟨h.1,h.2.mono ho he⟩) id
theorem upd_self {s:Env} {q:Nat} {v:AV} (h:s q=v):upd s q v=s:=by
 funext i; simp only [upd]; split
 · rename_i e; rw [e,h]
 · rfl
section
variable {bx:Bool} {P:Program} {base:Nat} {w0 w1:World} {L1:Nat→Option Loc} {n1 nt:Nat}
theorem Rel.mask {s:Env} {h:Heap} {n:Nat} {a:Act} {w:World} {d:Nat} (hr:Rel base w0 w1 L1 n1 nt s h n a w):Rel base w0 w1 L1 n1 nt (upd s d .undef) h n a w:=by
 obtain ⟨h1,h2,L,F,H,hs,he⟩:=hr
 refine ⟨h1,h2,L,F,H,fun i => ?_,he⟩
 simp only [upd]; split
 · simp only [VR]
 · exact hs i
theorem Rel.drawn {s:Env} {h:Heap} {n k:Nat} {a:Act} {w:World} (hr:Rel base w0 w1 L1 n1 nt s h n a w):Rel base w0 w1 L1 n1 nt s h n a { w with drawn:=k } := by
 obtain ⟨h1,h2,L,F,H,hs,he⟩:=hr
 have e:Ext w L n { w with drawn:=k } L n:=⟨Nat.le_refl _,fun _ _ _ h=>h,Nat.le_refl _,fun _ _ h=>⟨rfl,h⟩⟩
 refine ⟨h1,h2,L,F,⟨⟨H.below.os,H.below.tape,H.below.output,H.below.size,H.below.block⟩,H.bsz,H.dom,H.mod,H.lt,H.inj,H.lo,fun id B l hB hl=>(H.blk id B l hB hl).ext e (fun _ _ _ _=>rfl),H.fp,H.ep,H.nd,H.ne,H.dj,H.de⟩,hs.ext e,he.trans e⟩
theorem oneOp (ops:Array Oper) {o:Oper} {ao:AO} (hao:compO bx P nt ops o=some ao) {s:Env} {h:Heap} {n:Nat} {K:Env→Heap→Nat→Prop} {a:Act} {w:World} {Q:Exit→Act→World→Prop} {next:Act→World→Prop}
   (hr:Rel base w0 w1 L1 n1 nt s h n a w) (hK:awpO P [ao] s h n K) (hQ:∀ s h n a w,Rel base w0 w1 L1 n1 nt s h n a w→K s h n→next a w) :
   if Region.wanted o (yielded ops a.tmps) then o.wp P a w next Q∨(o.asks P a w∧LetsOut Q) else next (a.put o.dst undef) w:=by
 obtain ⟨hdf,hsz,L,F,H,hs,he⟩:=hr
 have step:∀ (s':Env) (aop':AOp),compOp bx P o=some aop'→SRel w L n s' a.tmps→(∀ i,o.dst=some i→i<nt) →
     aop P s' h n (fun r h' n'=>K (setO s' o.dst r) h' n') aop'→o.wp P a w next Q:=fun s' aop' hco hs' hd hK'=>by
   refine (compOp_sound hco H hs' hK').wp fun v w' hp => ?_
   obtain ⟨r,L',N',F',h',g1,g2,g3,g4⟩:=hp
   exact hQ _ _ _ _ _ ⟨by rw [put_defers,hdf],by rw [put_size,hsz],L',F',g1,(hs'.ext g2).put g3 (fun i hi=>by rw [hsz]; exact hd i hi),he.trans g2⟩ g4
 have skip:∀ (s':Env),SRel w L n s' a.tmps→(∀ i,o.dst=some i→i<nt)→K (setO s' o.dst (.tup [])) h n→next (a.put o.dst undef) w:=fun s' hs' hd hK'=>
   hQ _ _ _ _ _ ⟨by rw [put_defers,hdf],by rw [put_size,hsz],L,F,H,hs'.put (by simp [VR,VRl,undef]) (fun i hi=>by rw [hsz]; exact hd i hi),he⟩ hK'
 have key:∃ aop',compOp bx P o=some aop'∧ao.d=o.dst∧ao.op=aop'∧(∀ i,o.dst=some i→i<nt) ∧
     ((o.guard=Option.none∧ao.g=Option.none)∨∃ j want q,o.guard=some (j,want)∧(ops[j]?).bind (·.dst)=some q∧q<nt∧ao.g=some (q,want)):=by
   unfold compO at hao
   split at hao
   · rename_i d hd
     split at hao
     · rename_i hlt
       split at hao
       · rename_i hg
         simp only [Option.map_eq_some_iff] at hao
         obtain ⟨x,hx,rfl⟩:=hao
         exact ⟨x,hx,hd.symm,rfl,(fun i hi=>by rw [hd] at hi; cases hi; exact hlt),.inl ⟨hg,rfl⟩⟩
       · rename_i j want hg
         split at hao
         · rename_i q hq
           split at hao
           · rename_i hqlt
             simp only [Option.map_eq_some_iff] at hao
             obtain ⟨x,hx,rfl⟩:=hao
             exact ⟨x,hx,hd.symm,rfl,(fun i hi=>by rw [hd] at hi; cases hi; exact hlt),.inr ⟨j,want,q,hg,hq,hqlt,rfl⟩⟩
           · cases hao
         · cases hao
     · cases hao
   · rename_i hd
     split at hao
     · rename_i hg
       simp only [Option.map_eq_some_iff] at hao
       obtain ⟨x,hx,rfl⟩:=hao
       exact ⟨x,hx,hd.symm,rfl,(fun i hi=>by rw [hd] at hi; cases hi),.inl ⟨hg,rfl⟩⟩
     · rename_i j want hg
       split at hao
       · rename_i q hq
         split at hao
         · rename_i hqlt
           simp only [Option.map_eq_some_iff] at hao
           obtain ⟨x,hx,rfl⟩:=hao
           exact ⟨x,hx,hd.symm,rfl,(fun i hi=>by rw [hd] at hi; cases hi),.inr ⟨j,want,q,hg,hq,hqlt,rfl⟩⟩
         · cases hao
       · cases hao
 obtain ⟨aop',hco,hd1,hop,hdlt,hg⟩:=key
 simp only [awpO] at hK
 rcases hg with ⟨hg,hg'⟩ | ⟨j,want,q,hg,hq,hqlt,hg'⟩
 · rw [hg'] at hK
   simp only [hd1,hop] at hK
   rw [if_pos (by simp [Region.wanted,hg])]
   exact .inl (step s aop' hco hs hdlt hK)
 · rw [hg'] at hK
   simp only [hd1,hop] at hK
   have hyield:∀ v,a.tmps.getD q undef=v→yielded ops a.tmps j=match v with | .bool b=>some b | _=>Option.none:=fun v hv=>by
     have hlt:q<a.tmps.size:=by rw [hsz]; exact hqlt
     have hv':a.tmps[q]? = some v:=by rw [←hv]; simp [Array.getD,hlt]
     have:((ops[j]?).bind (·.dst)).bind (a.tmps[·]?)=some v:=by rw [hq]; exact hv'
     unfold yielded
     rw [this]
     cases v <;> rfl
   split at hK
   · rename_i b hb
     have hv:=hs q
     rw [hb] at hv
     simp only [VR] at hv
     have hy:=hyield _ hv.1
     simp only at hy
     have hwant:Region.wanted o (yielded ops a.tmps)=(b==want):=by simp [Region.wanted,hg,hy]
     rw [hwant]
     by_cases hbw:b=want
     · rw [if_pos (by simp [hbw])]
       exact .inl (step _ aop' hco (hs.bool hb hbw) hdlt (hK.1 hbw))
     · rw [if_neg (by simp [hbw])]
       have hbn:b = !want:=by cases b <;> cases want <;> simp at hbw ⊢
       exact skip _ (hs.bool hb hbn) hdlt (hK.2 hbn)
   · rename_i hb
     have hv:=hs q
     rw [hb] at hv
     simp only [VR,VRl] at hv
     obtain ⟨vs,hv,hvs,_⟩:=hv
     have hy:=hyield _ hv
     simp only at hy
     rw [if_neg (by simp [Region.wanted,hg,hy])]
     exact skip _ hs hdlt hK
   · exact hK.elim
end
open Go Go.RowKit
theorem mapM_get {α β:Type} {f:α→Option β} : ∀ {l:List α} {m:List β},l.mapM f=some m→m.length=l.length∧∀ (i:Nat) a,l[i]? = some a→∃ b,m[i]? = some b∧f a=some b
 | [],m,h=>by simp at h; subst h; simp
 | x::l,m,h=>by
   rw [List.mapM_cons] at h
   simp only [Option.bind_eq_bind,Option.bind_eq_some_iff,Option.pure_def,Option.some.injEq] at h
   obtain ⟨y,hy,m',hm,rfl⟩:=h
   obtain ⟨h1,h2⟩:=mapM_get hm
   refine ⟨by simp [h1],fun i a hi => ?_⟩
   cases i with
   | zero=>simp at hi; subst hi; exact ⟨y,by simp,hy⟩
   | succ i=>simp at hi; simpa using h2 i a hi
def lsd (ls:Array Bool) (i:Nat):Bool:=ls.getD i false
theorem ready_iff {ops:Array Oper} {ls:Array Bool} {i:Nat} : i∈Region.ready .any ops ls↔i<ops.size∧ls.getD i true=false∧∀ p∈preds ops i,lsd ls p=true:=by
 unfold Region.ready
 rw [List.mem_filter,List.mem_range]
 constructor
 · rintro ⟨h1,h2⟩
   simp only [Bool.and_eq_true,Bool.not_eq_true'] at h2
   refine ⟨h1,h2.1,fun p hp => ?_⟩
   have ho:ops[i]? = some ops[i]:=Array.getElem?_eq_getElem h1
   rw [ho] at h2
   simp only [preds,ho,List.mem_map,List.mem_filter] at hp
   obtain ⟨e,⟨he,hb⟩,rfl⟩:=hp
   have h3:=h2.2
   simp only [Option.map_some,Option.getD_some] at h3
   rw [Array.all_eq_true'] at h3
   have:=h3 e (by simpa using he)
   simpa [hb,lsd] using this
 · rintro ⟨h1,h2,h3⟩
   refine ⟨h1,?_⟩
   have ho:ops[i]? = some ops[i]:=Array.getElem?_eq_getElem h1
   simp only [ho,h2,Option.map_some,Option.getD_some,Bool.not_false,Bool.true_and]
   rw [Array.all_eq_true']
   intro e he
   by_cases hb:Region.binds .any e=true
   · have:=h3 e.on (by simp only [preds,ho,List.mem_map,List.mem_filter]; exact ⟨e,⟨by simpa using he,hb⟩,rfl⟩)
     simp only [lsd] at this
     simp [this]
   · simp [hb]
def unl (N:Nat) (ls:Array Bool):Nat:=(List.range N).countP fun i => !(ls.getD i true)
theorem countP_lt {l:List Nat} {p q:Nat→Bool} (h:∀ x∈l,q x=true→p x=true) {i:Nat} (hi:i∈l) (hp:p i=true) (hq:q i=false):l.countP q<l.countP p:=by
 induction l with
 | nil=>cases hi
 | cons x l ih=>
   rw [List.countP_cons,List.countP_cons]
   have hle:l.countP q≤l.countP p:=List.countP_mono_left fun y hy=>h y (List.mem_cons_of_mem _ hy)
   rcases List.mem_cons.1 hi with rfl | hi
   · rw [if_neg (by simp [hq]),if_pos hp]; omega
   · have:=ih (fun y hy=>h y (List.mem_cons_of_mem _ hy)) hi
     by_cases hqx:q x=true
     · rw [if_pos hqx,if_pos (h x List.mem_cons_self hqx)]; omega
     · rw [if_neg hqx]; split <;> omega
theorem lsd_set {ls:Array Bool} {i j:Nat} (hi:i<ls.size):lsd (ls.setIfInBounds i true) j=(if j=i then true else lsd ls j):=by
 simp only [lsd,Array.getD_eq_getD_getElem?,Array.getElem?_setIfInBounds]
 by_cases h:i=j
 · subst h; simp [hi]
 · rw [if_neg h,if_neg (fun e=>h e.symm)]
theorem getD_lsd {ls:Array Bool} {i:Nat} (hi:i<ls.size):ls.getD i true=lsd ls i:=by
 simp [lsd,Array.getD,hi]
section
variable {bx:Bool} {P:Program} {base:Nat} {w0 w1:World} {L1:Nat→Option Loc} {n1 nt:Nat} {ops:Array Oper} {aos:List AO} {rs:List Nat} {K:Env→Heap→Nat→Prop}
structure Chk (aos:List AO) (pre:Nat→List Nat) (rs:List Nat):Prop where
 lt:∀ i,i<aos.length→∀ p∈pre i,p<i
 cs:∀ i,i<aos.length→i∉rs→∀ d,dOf aos i=some d→∀ j,j<aos.length→j≠i→d∈rdI aos j→i∈pre j∨j∈pre i
 rp:∀ i,i<aos.length→i∈rs→∃ o d,aos[i]? = some o∧pureO o.op=true∧o.d=some d∧d∉rdI aos i∧∀ j,j<aos.length→j≠i→dOf aos j≠some d∧(d∈rdI aos j→i∈pre j)
theorem Chk.of {pre:Nat→List Nat} (h:chkD aos pre rs=true):Chk aos pre rs:=by
 unfold chkD at h
 rw [List.all_eq_true] at h
 have h:=fun i hi=>h i (List.mem_range.2 hi)
 refine ⟨fun i hi p hp => ?_,fun i hi hr d hd j hj hne hmem => ?_,fun i hi hr => ?_⟩
 · have h1:=h i hi
   simp only [Bool.and_eq_true] at h1
   have h2:=List.all_eq_true.1 h1.1.1 p hp
   exact Nat.blt_eq ▸ h2
 · have h1:=h i hi
   simp only [Bool.and_eq_true,Bool.or_eq_true] at h1
   rcases h1.2 with h2 | h2
   · exact absurd (memN_iff.1 h2) hr
   · rw [hd] at h2
     simp only at h2
     rw [List.all_eq_true] at h2
     have h3:=h2 j (List.mem_range.2 hj)
     simp only [Bool.or_eq_true,Nat.beq_eq,Bool.not_eq_true',memN_iff] at h3
     rcases h3 with ((h3 | h3) | h3) | h3
     · exact absurd h3 hne
     · exact absurd (memN_iff.2 hmem) (by simp [h3])
     · exact .inl h3
     · exact .inr h3
 · have h1:=h i hi
   simp only [Bool.and_eq_true,beq_iff_eq] at h1
   have h2:isR aos pre i=true:=by rw [←h1.1.2]; exact memN_iff.2 hr
   unfold isR at h2
   split at h2
   · rename_i o ho
     simp only [Bool.and_eq_true] at h2
     obtain ⟨hp,h2⟩:=h2
     split at h2
     · rename_i d hd
       rw [List.all_eq_true] at h2
       refine ⟨o,d,ho,hp,hd,?_,fun j hj hne => ?_⟩
       · have h3:=h2 i (List.mem_range.2 hi)
         simp only [Nat.beq_refl,if_true,Bool.not_eq_true'] at h3
         intro hm; rw [memN_iff.2 hm] at h3; cases h3
       · have h3:=h2 j (List.mem_range.2 hj)
         rw [if_neg (by simpa using hne)] at h3
         simp only [Bool.and_eq_true,Bool.not_eq_true',Bool.or_eq_true,memN_iff] at h3
         refine ⟨fun hdj => ?_,fun hm => ?_⟩
         · have:=h3.1; simp [isD,hdj] at this
         · rcases h3.2 with h4 | h4
           · rw [memN_iff.2 hm] at h4; cases h4
           · exact h4
     · cases h2
   · cases h2
structure DInv (P:Program) (base:Nat) (w0 w1:World) (L1:Nat→Option Loc) (n1 nt:Nat) (ops:Array Oper) (aos:List AO) (rs:List Nat) (K:Env→Heap→Nat→Prop)
   (ls:Array Bool) (a:Act) (w:World) (f:Nat) (dn:List Nat) (s:Env) (h:Heap) (n:Nat):Prop where
 sz:ls.size=aos.length
 rel:∃ sm,Rel base w0 w1 L1 n1 nt sm h n a w∧∀ t,sm t=s t∨(sm t = .undef∧∃ i∈dn,lsd ls i=false∧i∈rs∧dOf aos i=some t)
 clo:∀ i,lsd ls i=true→∀ p∈preds ops i,lsd ls p=true
 cC:∀ i,i<aos.length→i∉rs→i∈dn→lsd ls i=true
 cR:∀ i,lsd ls i=true→i∈dn
 dlt:∀ i∈dn,i<aos.length
 dcl:∀ i∈dn,∀ p∈preds ops i,p∈dn
 pend:∀ i∈dn,i∈rs→lsd ls i=false→∃ o,aos[i]? = some o∧PendOK P o s h
 wp:awpD P (build aos (preds ops) rs f dn) s h n K
def Greedy (ops:Array Oper) (aos:List AO) (rs dn:List Nat):Prop:=∀ i,i<aos.length→i∈rs→(∀ p∈preds ops i,p∈dn)→i∈dn
theorem rdyD_iff {N:Nat} {pre:Nat→List Nat} {dn:List Nat} {i:Nat} : i∈rdyD N pre dn↔i<N∧i∉dn∧∀ p∈pre i,p∈dn:=by
 unfold rdyD
 rw [List.mem_filter,List.mem_range]
 simp only [Bool.and_eq_true,Bool.not_eq_true',List.all_eq_true,memN_iff]
 constructor
 · rintro ⟨h1,h2,h3⟩; exact ⟨h1,(fun hm=>by rw [memN_iff.2 hm] at h2; cases h2),h3⟩
 · rintro ⟨h1,h2,h3⟩; exact ⟨h1,(by cases hm:memN i dn; rfl; exact absurd (memN_iff.1 hm) h2),h3⟩
theorem DInv.greedy (hc:Chk aos (preds ops) rs) {ls:Array Bool} {a:Act} {w:World} : ∀ (f:Nat) (dn:List Nat) (s:Env) (h:Heap) (n:Nat),
   DInv P base w0 w1 L1 n1 nt ops aos rs K ls a w f dn s h n→∃ f' dn' s',DInv P base w0 w1 L1 n1 nt ops aos rs K ls a w f' dn' s' h n∧Greedy ops aos rs dn'
 | 0,dn,s,h,n,I=>by have:=I.wp; simp [build,awpD] at this
 | f+1,dn,s,h,n,I=>by
   have hw:=I.wp
   unfold build at hw
   split at hw
   · rename_i i hi
     have hi1:=List.mem_of_find?_eq_some hi
     have hi2:i∈rs:=memN_iff.1 (by simpa using List.find?_some hi)
     obtain ⟨hiN,hidn,hipre⟩:=rdyD_iff.1 hi1
     obtain ⟨o,d,ho,hp,hd,hself,hoth⟩:=hc.rp i hiN hi2
     rw [ho] at hw
     simp only at hw
     have hls:lsd ls i=false:=by cases hl:lsd ls i; rfl; exact absurd (I.cR i hl) hidn
     have hdI:dOf aos i=some d:=by simp [dOf,ho,hd]
     have hrdI:rdI aos i=rdA o:=by simp [rdI,ho]
     have next:∀ r,awpD P (build aos (preds ops) rs f (i::dn)) (upd s d r) h n K→PendOK P o (upd s d r) h →
         ∃ f' dn' s',DInv P base w0 w1 L1 n1 nt ops aos rs K ls a w f' dn' s' h n∧Greedy ops aos rs dn':=fun r hw' hpo=>by
       refine DInv.greedy hc f (i::dn) (upd s d r) h n ⟨I.sz,?_,I.clo,?_,fun j hj=>List.mem_cons_of_mem _ (I.cR j hj),?_,?_,?_,hw'⟩
       · obtain ⟨sm,hr,hsm⟩:=I.rel
         refine ⟨upd sm d .undef,hr.mask,fun t => ?_⟩
         by_cases ht:t=d
         · subst ht; exact .inr ⟨upd_same _ _ _,i,List.mem_cons_self,hls,hi2,hdI⟩
         · rw [upd_other _ _ _ _ ht,upd_other _ _ _ _ ht]
           exact (hsm t).imp id fun ⟨h1,j,hj,h2⟩=>⟨h1,j,List.mem_cons_of_mem _ hj,h2⟩
       · intro j hj hjr hjd
         rcases List.mem_cons.1 hjd with rfl | hjd
         · exact absurd hi2 hjr
         · exact I.cC j hj hjr hjd
       · intro j hj
         rcases List.mem_cons.1 hj with rfl | hj
         · exact hiN
         · exact I.dlt j hj
       · intro j hj p hp
         rcases List.mem_cons.1 hj with rfl | hj
         · exact List.mem_cons_of_mem _ (hipre p hp)
         · exact List.mem_cons_of_mem _ (I.dcl j hj p hp)
       · intro j hj hjr hjl
         rcases List.mem_cons.1 hj with rfl | hjd
         · exact ⟨o,ho,hpo⟩
         · obtain ⟨oj,hoj,hpj⟩:=I.pend j hjd hjr hjl
           have hji:j≠i:=fun e=>hidn (e ▸ hjd)
           obtain ⟨h1,h2⟩:=hoth j (I.dlt j hjd) hji
           refine ⟨oj,hoj,hpj.mono (fun t ht => ?_) (fun e he => ?_) keepL.refl⟩
           · have:t≠d:=fun e=>by
               subst e
               exact hidn (I.dcl j hjd i (h2 (by simp [rdI,hoj,ht])))
             rw [upd_other _ _ _ _ this]
           · have:e≠d:=fun e'=>h1 (by simp [dOf,hoj,he,e'])
             rw [upd_other _ _ _ _ this]
     have hag:∀ r,agree s (upd s d r) (rdO o.op):=fun r t ht=>by
       have:t≠d:=fun e=>hself (by rw [hrdI,←e]; exact rdA_op ht)
       rw [upd_other _ _ _ _ this]
     simp only [awpD] at hw
     cases hg:o.g with
     | none=>
       rw [hg] at hw
       simp only at hw
       obtain ⟨r,hw',hfix⟩:=pure_fix hp hw
       rw [hd] at hw'
       refine next r hw' ⟨d,hd,?_⟩
       rw [hg]
       simp only [upd_same]
       exact hfix.mono (hag r) keepL.refl
     | some p=>
       obtain ⟨q,want⟩:=p
       have hqd:q≠d:=fun e=>hself (by rw [hrdI,←e]; exact rdA_g hg)
       rw [hg] at hw
       simp only at hw
       split at hw
       · rename_i b hb
         by_cases hbw:b=want
         · have hw1:=hw.1 hbw
           rw [upd_self (by rw [hb,hbw])] at hw1
           obtain ⟨r,hw',hfix⟩:=pure_fix hp hw1
           rw [hd] at hw'
           refine next r hw' ⟨d,hd,?_⟩
           rw [hg]
           simp only [upd_same,upd_other _ _ _ _ hqd]
           exact .inl ⟨by rw [hb,hbw],hfix.mono (hag r) keepL.refl⟩
         · have hbn:b = !want:=by cases b <;> cases want <;> simp at hbw ⊢
           have hw1:=hw.2 hbn
           rw [upd_self (by rw [hb,hbn]),hd] at hw1
           refine next _ hw1 ⟨d,hd,?_⟩
           rw [hg]
           simp only [upd_same,upd_other _ _ _ _ hqd]
           exact .inr ⟨.inl (by rw [hb,hbn]),trivial⟩
       · rename_i hb
         rw [hd] at hw
         refine next _ hw ⟨d,hd,?_⟩
         rw [hg]
         simp only [upd_same,upd_other _ _ _ _ hqd]
         exact .inr ⟨.inr hb,trivial⟩
       · exact hw.elim
   · rename_i hnone
     refine ⟨f+1,dn,s,I,fun i hiN hir hip => ?_⟩
     by_cases hidn:i∈dn
     · exact hidn
     · have:=List.find?_eq_none.1 hnone i (rdyD_iff.2 ⟨hiN,hidn,hip⟩)
       exact absurd (memN_iff.2 hir) (by simpa using this)
theorem Rel.fresh {s:Env} {h:Heap} {n:Nat} {a:Act} {w:World} (hr:Rel base w0 w1 L1 n1 nt s h n a w):h n=Option.none:=by
 obtain ⟨_,_,L,F,H,_⟩:=hr
 refine H.mod n ?_
 cases hl:L n with
 | none=>rfl
 | some l=>exact absurd (H.lt n l hl) (Nat.lt_irrefl _)
theorem awpO_one {P:Program} {o:AO} {s:Env} {h:Heap} {n:Nat} {K:Env→Heap→Nat→Prop} (hn:o.g=Option.none) (hk:aop P s h n (fun r h' n'=>K (setO s o.d r) h' n') o.op):awpO P [o] s h n K:=by
 simp only [awpO,hn]; exact hk
theorem unl_set {N:Nat} {ls:Array Bool} {i:Nat} (hN:ls.size=N) (hi:i<N) (hl:ls.getD i true=false):unl N (ls.setIfInBounds i true)<unl N ls:=by
 refine countP_lt (i:=i) (fun x hx => ?_) (List.mem_range.2 hi) (by simp [hl]) ?_
 · have hx':x<ls.size:=by rw [hN]; exact List.mem_range.1 hx
   have hx2:x<(ls.setIfInBounds i true).size:=by simpa using hx'
   have hi':i<ls.size:=by rw [hN]; exact hi
   rw [getD_lsd hx',getD_lsd hx2,lsd_set hi']
   split
   · simp
   · exact id
 · have hi':i<ls.size:=by rw [hN]; exact hi
   have hx2:i<(ls.setIfInBounds i true).size:=by simpa using hi'
   rw [getD_lsd hx2,lsd_set hi',if_pos rfl]; rfl
theorem rch_lsd {ls:Array Bool} (hclo:∀ i,lsd ls i=true→∀ p∈preds ops i,lsd ls p=true):∀ (f i j:Nat),rch (preds ops) f i j=true→(∀ p∈preds ops i,lsd ls p=true)→lsd ls j=true
 | 0,_,_,h,_=>by simp [rch] at h
 | f+1,i,j,h,hp=>by
   simp only [rch,List.any_eq_true,Bool.or_eq_true,Bool.and_eq_true,Nat.beq_eq] at h
   obtain ⟨p,hpm,h⟩:=h
   rcases h with h | h
   · subst h; exact hp p hpm
   · exact rch_lsd hclo f p j h.2 (hclo p (hp p hpm))
theorem awpD_any (hos:ops.toList.mapM (compO bx P nt ops)=some aos) (hc:Chk aos (preds ops) rs) {Q:Exit→Act→World→Prop}
   (hQ:∀ s h n a w,Rel base w0 w1 L1 n1 nt s h n a w→K s h n→Q .normal a w) :
   ∀ (fuel:Nat) (ls:Array Bool) (a:Act) (w:World) (f:Nat) (dn:List Nat) (s:Env) (h:Heap) (n:Nat),
   DInv P base w0 w1 L1 n1 nt ops aos rs K ls a w f dn s h n→Greedy ops aos rs dn→unl aos.length ls≤fuel→wpAny P .any ops Q fuel ls a w:=by
 have hlen:aos.length=ops.size:=by rw [(mapM_get hos).1]; simp
 intro fuel
 have fin:∀ (ls:Array Bool) (a:Act) (w:World) (f:Nat) (dn:List Nat) (s:Env) (h:Heap) (n:Nat),
   DInv P base w0 w1 L1 n1 nt ops aos rs K ls a w f dn s h n→Region.ready .any ops ls=[]→Q .normal a w:=by
   intro ls a w f dn s h n I hr
   have hall:∀ i,i<aos.length→lsd ls i=true:=by
     intro i
     induction i using Nat.strongRecOn with
     | ind i ih=>
       intro hi
       cases hl:lsd ls i with
       | true=>rfl
       | false=>
         have:i∈Region.ready .any ops ls:=ready_iff.2 ⟨by rw [←hlen]; exact hi,by rw [getD_lsd (by rw [I.sz]; exact hi)]; exact hl,fun p hp=>ih p (hc.lt i hi p hp) (Nat.lt_trans (hc.lt i hi p hp) hi)⟩
         rw [hr] at this; cases this
   have hrd:rdyD aos.length (preds ops) dn=[]:=List.eq_nil_iff_forall_not_mem.2 fun i hi=>by
     obtain ⟨h1,h2,_⟩:=rdyD_iff.1 hi
     exact h2 (I.cR i (hall i h1))
   have hw:=I.wp
   cases f with
   | zero=>simp [build,awpD] at hw
   | succ f=>
     unfold build at hw
     rw [hrd] at hw
     simp only [List.find?_nil,List.map_nil,bothAll,awpD] at hw
     obtain ⟨sm,hrel,hsm⟩:=I.rel
     have:sm=s:=funext fun t=>by
       rcases hsm t with h | ⟨_,i,hi,hl,_⟩
       · exact h
       · rw [hall i (I.dlt i hi)] at hl; cases hl
     subst this
     exact hQ _ _ _ _ _ hrel hw
 induction fuel with
 | zero=>
   intro ls a w f dn s h n I hg hu
   have hr:Region.ready .any ops ls=[]:=List.eq_nil_iff_forall_not_mem.2 fun i hi=>by
     obtain ⟨h1,h2,_⟩:=ready_iff.1 hi
     have h0:unl aos.length ls=0:=by omega
     unfold unl at h0
     rw [List.countP_eq_zero] at h0
     exact h0 i (List.mem_range.2 (by rw [hlen]; exact h1)) (by simp [h2])
   exact ⟨hr,fin ls a w f dn s h n I hr⟩
 | succ fuel ih=>
   intro ls a w f dn s h n I hg hu
   refine ⟨fin ls a w f dn s h n I,fun i hi => ?_⟩
   obtain ⟨hiN',hil,hip⟩:=ready_iff.1 hi
   have hiN:i<aos.length:=by rw [hlen]; exact hiN'
   have hils:i<ls.size:=by rw [I.sz]; exact hiN
   have hil':lsd ls i=false:=by rw [←getD_lsd hils]; exact hil
   have hu':=unl_set I.sz hiN hil
   have ho:ops[i]? = some ops[i]:=Array.getElem?_eq_getElem hiN'
   obtain ⟨ao,hao,hcomp⟩:=(mapM_get hos).2 i ops[i] (by simp)
   have hdI:dOf aos i=ao.d:=by simp [dOf,hao]
   have hrdI:rdI aos i=rdA ao:=by simp [rdI,hao]
   unfold wpOp
   rw [ho]
   simp only
   obtain ⟨sm,hrel,hsm⟩:=I.rel
   have hag:agree s sm (rdA ao):=fun t ht=>by
     rcases hsm t with h | ⟨_,j,hj,hl,hjr,hjd⟩
     · exact h.symm
     · obtain ⟨oj,dj,hoj,_,hdj,hself,hoth⟩:=hc.rp j (I.dlt j hj) hjr
       have hdt:dj=t:=by simpa [dOf,hoj,hdj] using hjd
       subst hdt
       by_cases hij:i=j
       · subst hij; exact absurd (by rw [hrdI]; exact ht) hself
       · have:=(hoth i hiN hij).2 (by rw [hrdI]; exact ht)
         rw [hip j this] at hl; cases hl
   have hclo:∀ j,lsd (ls.setIfInBounds i true) j=true→∀ p∈preds ops j,lsd (ls.setIfInBounds i true) p=true:=fun j hj p hp=>by
     rw [lsd_set hils] at hj ⊢
     split
     · rfl
     · split at hj
       · rename_i e; subst e; exact hip p hp
       · exact I.clo j hj p hp
   by_cases hir:i∈rs
   ·
     have hidn:i∈dn:=hg i hiN hir fun p hp=>I.cR p (hip p hp)
     obtain ⟨o2,ho2,hpo⟩:=I.pend i hidn hir hil'
     have:o2=ao:=by rw [hao] at ho2; exact (Option.some.inj ho2).symm
     subst this
     obtain ⟨d,hd,hpo⟩:=hpo
     refine oneOp (K:=fun s' h' n'=>s'=upd sm d (s d)∧h'=h∧n'=n) ops hcomp hrel ?_ ?_
     · cases hgd:o2.g with
       | none=>
         rw [hgd] at hpo
         exact awpO_one hgd (hpo sm h n _ (fun t ht=>hag t (rdA_op ht)) keepL.refl ⟨by rw [hd]; rfl,rfl,rfl⟩)
       | some p=>
         obtain ⟨q,want⟩:=p
         rw [hgd] at hpo
         simp only at hpo
         have hq:=hag q (rdA_g hgd)
         simp only [awpO,hgd]
         rcases hpo with ⟨h1,h2⟩ | ⟨h1,h2⟩
         · rw [←hq,h1]
           simp only
           refine ⟨fun _ => ?_,fun e=>(by cases want <;> cases e)⟩
           rw [upd_self (by rw [←hq,h1])]
           exact h2 sm h n _ (fun t ht=>hag t (rdA_op ht)) keepL.refl ⟨by rw [hd]; rfl,rfl,rfl⟩
         · rcases h1 with h1 | h1
           · rw [←hq,h1]
             simp only
             refine ⟨fun e=>(by cases want <;> cases e),fun _ => ?_⟩
             rw [upd_self (by rw [←hq,h1])]
             exact ⟨by rw [hd,h2]; rfl,trivial,trivial⟩
           · rw [←hq,h1]
             simp only
             exact ⟨by rw [hd,h2]; rfl,trivial,trivial⟩
     · rintro s' h' n' a' w' hrel' ⟨rfl,rfl,rfl⟩
       refine ih _ a' w' f dn s h' n' ⟨by simpa using I.sz,⟨_,hrel',fun t => ?_⟩,hclo,fun j hj hjr hjd => ?_,fun j hj => ?_,I.dlt,I.dcl,fun j hj hjr hjl => ?_,I.wp⟩ hg (by omega)
       · by_cases ht:t=d
         · subst ht; exact .inl (upd_same _ _ _)
         · rw [upd_other _ _ _ _ ht]
           refine (hsm t).imp id fun ⟨h1,j,hj,hl,h2,h3⟩=>⟨h1,j,hj,?_,h2,h3⟩
           rw [lsd_set hils,if_neg]
           · exact hl
           · rintro rfl; exact ht (by rw [hdI,hd] at h3; exact (Option.some.inj h3).symm)
       · rw [lsd_set hils]; split
         · rfl
         · exact I.cC j hj hjr hjd
       · rw [lsd_set hils] at hj; split at hj
         · rename_i e; rw [e]; exact hidn
         · exact I.cR j hj
       · rw [lsd_set hils] at hjl; split at hjl
         · cases hjl
         · exact I.pend j hj hjr hjl
   ·
     have hidn:i∉dn:=fun h=>by rw [I.cC i hiN hir h] at hil'; cases hil'
     have hpdn:∀ p∈preds ops i,p∈dn:=fun p hp=>I.cR p (hip p hp)
     have hw:=I.wp
     cases f with
     | zero=>simp [build,awpD] at hw
     | succ f=>
       unfold build at hw
       have hnone:(rdyD aos.length (preds ops) dn).find? (fun i=>memN i rs)=Option.none:=by
         rw [List.find?_eq_none]
         intro j hj hjr
         obtain ⟨h1,h2,h3⟩:=rdyD_iff.1 hj
         exact h2 (hg j h1 (memN_iff.1 hjr) h3)
       rw [hnone] at hw
       simp only at hw
       have hw:=bothAll_mem (List.mem_map.2 ⟨i,rdyD_iff.2 ⟨hiN,hidn,hpdn⟩,rfl⟩) hw
       rw [hao] at hw
       simp only at hw
       have hpend:∀ (d':Option Nat) (r:AV) (h':Heap),d'=ao.d→(hext h h'∨∀ j∈dn,j∈rs→lsd ls j=true∨∃ oj,aos[j]? = some oj∧keepL s h h' oj.op)→∀ j∈dn,j∈rs→lsd ls j=false→∃ o,aos[j]? = some o∧PendOK P o (setO s d' r) h':=by
         intro d' r h' hd' he j hj hjr hjl
         obtain ⟨oj,hoj,hpj⟩:=I.pend j hj hjr hjl
         have hji:j≠i:=fun e=>hidn (e ▸ hj)
         have he:keepL s h h' oj.op:=by
           rcases he with he | he
           · exact he.keepL
           · rcases he j hj hjr with he | ⟨oj',ho',he⟩
             · rw [he] at hjl; cases hjl
             · rw [hoj] at ho'; cases ho'; exact he
         refine ⟨oj,hoj,?_⟩
         subst hd'
         cases hd:ao.d with
         | none=>exact hpj.mono (fun _ _=>rfl) (fun _ _=>rfl) he
         | some d=>
           obtain ⟨_,dj,hoj',_,hdj,_,hoth⟩:=hc.rp j (I.dlt j hj) hjr
           refine hpj.mono (fun t ht => ?_) (fun e he' => ?_) he
           · have:t≠d:=fun e=>by
               subst e
               rcases hc.cs i hiN hir t (by rw [hdI,hd]) j (I.dlt j hj) hji (by simp [rdI,hoj,ht]) with h1 | h1
               · exact hidn (I.dcl j hj i h1)
               · rw [hip j h1] at hjl; cases hjl
             simp only [setO,upd_other _ _ _ _ this]
           · have:e≠d:=fun e2=>by
               subst e2
               rw [hoj] at hoj'; cases hoj'
               rw [hdj] at he'; cases he'
               exact (hoth i hiN (fun e=>hji e.symm)).1 (by rw [hdI,hd])
             simp only [setO,upd_other _ _ _ _ this]
       have hgo:∀ (r:AV) (h':Heap) (n':Nat) (a':Act) (w':World),Rel base w0 w1 L1 n1 nt (setO sm ao.d r) h' n' a' w'→(hext h h'∨∀ j∈dn,j∈rs→lsd ls j=true∨∃ oj,aos[j]? = some oj∧keepL s h h' oj.op) →
           awpD P (build aos (preds ops) rs f (i::dn)) (setO s ao.d r) h' n' K→wpAny P .any ops Q fuel (ls.setIfInBounds i true) a' w':=by
         intro r h' n' a' w' hrel' he hw'
         have I':DInv P base w0 w1 L1 n1 nt ops aos rs K (ls.setIfInBounds i true) a' w' f (i::dn) (setO s ao.d r) h' n':=by
           refine ⟨by simpa using I.sz,⟨_,hrel',fun t => ?_⟩,hclo,fun j hj hjr hjd => ?_,fun j hj => ?_,fun j hj => ?_,fun j hj p hp => ?_,fun j hj hjr hjl => ?_,hw'⟩
           · have old:∀ (hne:ao.d≠some t),sm t=s t∨(sm t = .undef∧∃ j∈i::dn,lsd (ls.setIfInBounds i true) j=false∧j∈rs∧dOf aos j=some t):=fun hne=>
               (hsm t).imp id fun ⟨h1,j,hj,hl,h2,h3⟩=>⟨h1,j,List.mem_cons_of_mem _ hj,(by have hji:j≠i:=(fun e=>hidn (e ▸ hj)); rw [lsd_set hils,if_neg hji]; exact hl),h2,h3⟩
             cases hd:ao.d with
             | none=>exact old (by rw [hd]; simp)
             | some d=>
               simp only [setO]
               by_cases ht:t=d
               · subst ht; exact .inl (by rw [upd_same,upd_same])
               · rw [upd_other _ _ _ _ ht,upd_other _ _ _ _ ht]
                 exact old (by rw [hd]; exact fun e=>ht (Option.some.inj e).symm)
           · rw [lsd_set hils]; split
             · rfl
             · rename_i hne
               rcases List.mem_cons.1 hjd with rfl | hjd
               · exact absurd rfl hne
               · exact I.cC j hj hjr hjd
           · rw [lsd_set hils] at hj; split at hj
             · rename_i e; rw [e]; exact List.mem_cons_self
             · exact List.mem_cons_of_mem _ (I.cR j hj)
           · rcases List.mem_cons.1 hj with rfl | hj
             · exact hiN
             · exact I.dlt j hj
           · rcases List.mem_cons.1 hj with rfl | hj
             · exact List.mem_cons_of_mem _ (hpdn p hp)
             · exact List.mem_cons_of_mem _ (I.dcl j hj p hp)
           · rw [lsd_set hils] at hjl
             split at hjl
             · cases hjl
             · rename_i hne
               rcases List.mem_cons.1 hj with rfl | hj
               · exact absurd rfl hne
               · exact hpend _ r h' rfl he j hj hjr hjl
         obtain ⟨f',dn',s',I2,hg2⟩:=I'.greedy hc
         exact ih _ a' w' f' dn' s' h' n' I2 hg2 (by omega)
       have hw3:match ao.g with
           | Option.none=>aop P s h n (fun r h' n'=>(hext h h'∨∀ j∈dn,j∈rs→lsd ls j=true∨∃ oj,aos[j]? = some oj∧keepL s h h' oj.op)∧awpD P (build aos (preds ops) rs f (i::dn)) (setO s ao.d r) h' n' K) ao.op
           | some (q,want)=>match s q with
             | .bool b=>(b=want→aop P s h n (fun r h' n'=>(hext h h'∨∀ j∈dn,j∈rs→lsd ls j=true∨∃ oj,aos[j]? = some oj∧keepL s h h' oj.op)∧awpD P (build aos (preds ops) rs f (i::dn)) (setO s ao.d r) h' n' K) ao.op) ∧
                 (b = !want→awpD P (build aos (preds ops) rs f (i::dn)) (setO s ao.d (.tup [])) h n K)
             | .tup []=>awpD P (build aos (preds ops) rs f (i::dn)) (setO s ao.d (.tup [])) h n K
             | _=>False:=by
         split at hw
         · rename_i hso
           have fin1:aopD P s h n (fun r h' n'=>awpD P (build aos (preds ops) rs f (i::dn)) (setO s ao.d r) h' n' K) ao.op →
               aop P s h n (fun r h' n'=>(hext h h'∨∀ j∈dn,j∈rs→lsd ls j=true∨∃ oj,aos[j]? = some oj∧keepL s h h' oj.op)∧awpD P (build aos (preds ops) rs f (i::dn)) (setO s ao.d r) h' n' K) ao.op:=
             fun hk=>aop_mono (soft_hext hso hrel.fresh hk) fun _ _ _ h=>⟨.inl h.1,h.2⟩
           simp only [awpD] at hw
           cases hgd:ao.g with
           | none=>rw [hgd] at hw; exact fin1 hw
           | some p=>
             obtain ⟨q,want⟩:=p
             rw [hgd] at hw
             simp only at hw ⊢
             cases hsq:s q <;> rw [hsq] at hw <;> try exact hw.elim
             · refine ⟨fun e => ?_,fun e => ?_⟩
               · have:=hw.1 e
                 rw [upd_self (by rw [hsq,e])] at this
                 exact fin1 this
               · have:=hw.2 e
                 rw [upd_self (by rw [hsq,e])] at this
                 exact this
             · rename_i vs; cases vs <;> exact hw
         · have fin2:aopD P s h n (fun r h' n'=>sameL (pendL aos (preds ops) rs i dn) s h h'∧awpD P (build aos (preds ops) rs f (i::dn)) (setO s ao.d r) h' n' K) ao.op →
               aop P s h n (fun r h' n'=>(hext h h'∨∀ j∈dn,j∈rs→lsd ls j=true∨∃ oj,aos[j]? = some oj∧keepL s h h' oj.op)∧awpD P (build aos (preds ops) rs f (i::dn)) (setO s ao.d r) h' n' K) ao.op:=by
             refine fun hk=>aop_mono (aop_of_aopD hk) fun _ h' _ hh=>⟨.inr fun j hj hjr => ?_,hh.2⟩
             cases hrc:rch (preds ops) 12 i j with
             | true=>exact .inl (rch_lsd I.clo _ _ _ hrc hip)
             | false=>
               obtain ⟨oj,dj,hoj,hpu,_⟩:=hc.rp j (I.dlt j hj) hjr
               refine .inr ⟨oj,hoj,?_⟩
               cases hho:heapO oj.op with
               | false=>exact keepL_nil hpu hho
               | true=>exact hh.1 _ (pendL_mem hoj hho (memN_iff.2 hjr) hrc hj)
           simp only [awpD] at hw
           cases hgd:ao.g with
           | none=>rw [hgd] at hw; exact fin2 hw
           | some p=>
             obtain ⟨q,want⟩:=p
             rw [hgd] at hw
             simp only at hw ⊢
             cases hsq:s q <;> rw [hsq] at hw <;> try exact hw.elim
             · refine ⟨fun e => ?_,fun e => ?_⟩
               · have:=hw.1 e
                 rw [upd_self (by rw [hsq,e])] at this
                 exact fin2 this
               · have:=hw.2 e
                 rw [upd_self (by rw [hsq,e])] at this
                 exact this
             · rename_i vs; cases vs <;> exact hw
       have run:aop P s h n (fun r h' n'=>(hext h h'∨∀ j∈dn,j∈rs→lsd ls j=true∨∃ oj,aos[j]? = some oj∧keepL s h h' oj.op)∧awpD P (build aos (preds ops) rs f (i::dn)) (setO s ao.d r) h' n' K) ao.op →
           aop P sm h n (fun r h' n'=>(hext h h'∨∀ j∈dn,j∈rs→lsd ls j=true∨∃ oj,aos[j]? = some oj∧keepL s h h' oj.op)∧awpD P (build aos (preds ops) rs f (i::dn)) (setO s ao.d r) h' n' K) ao.op:=fun hk=>by
         rw [←aop_congr (fun t ht=>hag t (rdA_op ht))]; exact hk
       refine oneOp (K:=fun s' h' n'=>∃ r,s'=setO sm ao.d r∧(hext h h'∨∀ j∈dn,j∈rs→lsd ls j=true∨∃ oj,aos[j]? = some oj∧keepL s h h' oj.op)∧awpD P (build aos (preds ops) rs f (i::dn)) (setO s ao.d r) h' n' K) ops hcomp hrel ?_ ?_
       · cases hgd:ao.g with
         | none=>
           rw [hgd] at hw3
           exact awpO_one hgd (aop_mono (run hw3) fun r h' n' hk=>⟨r,rfl,hk.1,hk.2⟩)
         | some p=>
           obtain ⟨q,want⟩:=p
           rw [hgd] at hw3
           simp only at hw3
           have hq:=hag q (rdA_g hgd)
           simp only [awpO,hgd]
           rw [←hq]
           split at hw3
           · rename_i b hb
             try simp only [hb]
             refine ⟨fun e => ?_,fun e => ?_⟩
             · have:=hw3.1 e
               rw [upd_self (by rw [←hq,hb,e])]
               exact aop_mono (run this) fun r h' n' hk=>⟨r,rfl,hk.1,hk.2⟩
             · have:=hw3.2 e
               rw [upd_self (by rw [←hq,hb,e])]
               exact ⟨_,rfl,.inl (hext.refl _),this⟩
           · rename_i hb
             try simp only [hb]
             exact ⟨_,rfl,.inl (hext.refl _),hw3⟩
           · exact hw3.elim
       · rintro s' h' n' a' w' hrel' ⟨r,rfl,he,hw'⟩
         exact hgo r h' n' a' w' hrel' he hw'
theorem compD_sound {t:DT} {id:Nat} {s:Env} {h:Heap} {n:Nat} {a:Act} {w:World} {Q:Exit→Act→World→Prop} (hd:compD bx P nt ops=some t) (hr:Rel base w0 w1 L1 n1 nt s h n a w) (hK:awpD P t s h n K)
   (hQ:∀ s h n a w,Rel base w0 w1 L1 n1 nt s h n a w→K s h n→Q .normal a w):(Code.region id ops true).wp P Q a w:=by
 unfold compD at hd
 split at hd
 · rename_i hm
   simp only [Option.bind_eq_some_iff] at hd
   obtain ⟨aos,hos,hd⟩:=hd
   split at hd
   · rename_i hchk
     cases hd
     have hc:=Chk.of hchk
     have hlen:aos.length=ops.size:=by rw [(mapM_get hos).1]; simp
     refine wp_region_any hm ?_
     have hl0:∀ i,lsd (Array.replicate ops.size false) i=false:=fun i=>by simp [lsd,Array.getD]
     have I:DInv P base w0 w1 L1 n1 nt ops aos _ K (Array.replicate ops.size false) a { w with drawn:=w.drawn+1 } (aos.length+1) [] s h n:=
       ⟨by simp [hlen],⟨s,hr.drawn,fun t => .inl rfl⟩,(fun i hi=>by rw [hl0] at hi; cases hi),(fun _ _ _ h=>by cases h),(fun i hi=>by rw [hl0] at hi; cases hi),(fun _ h=>by cases h),(fun _ h=>by cases h),(fun _ h=>by cases h),hK⟩
     obtain ⟨f',dn',s',I2,hg2⟩:=I.greedy hc
     refine awpD_any hos hc hQ _ _ _ _ f' dn' s' h n I2 hg2 ?_
     unfold unl
     refine Nat.le_trans List.countP_le_length ?_
     simp [hlen]
   · cases hd
 · cases hd
end
end Go.Proofs.Ytoclolkigjbcgaa

/- R20E-R30 -/
import Derived.Test.YtoclolkigjbcgaaGreatURC
import Derived.Deep.LoopGhost
import Derived.ProofKit
import Derived.Deep.Slices
import Derived.SizedLaws
namespace Go.Proofs.YtoclolkigjbcgaaGreat
set_option linter.all false
open Go Go.RowKit
inductive AC where
 | skip
 | reg (ops:List AO)
 | seq (a b:AC)
 | cond (c:Opd) (a b:AC)
 | blk (id:Nat) (a:AC)
 | loop (a:AC)
 | exit (id:Nat)
 | ret
 | draw (t:DT)
inductive AE where
 | normal
 | exit (id:Nat)
 | ret
def Jui (F:Env→Heap→Nat→(AE→Env→Heap→Nat→Prop)→Prop) (s:Env) (h:Heap) (n:Nat) (Q:AE→Env→Heap→Nat→Prop):Prop:=
 ∃ (I:Nat→Env→Heap→Nat→Prop),(∃ k,I k s h n)∧∀ k s h n,I k s h n→F s h n fun e s' h' n'=>match e with
  | .normal=>∃ k',k'<k∧I k' s' h' n'
  | e=>Q e s' h' n'
def awp (P:Program):AC→Env→Heap→Nat→(AE→Env→Heap→Nat→Prop)→Prop
 | .skip,s,h,n,Q=>Q .normal s h n
 | .reg ops,s,h,n,Q=>Jdx P ops s h n (Q .normal)
 | .seq a b,s,h,n,Q=>awp P a s h n fun e s' h' n'=>match e with
  | .normal=>awp P b s' h' n' Q
  | e=>Q e s' h' n'
 | .cond c a b,s,h,n,Q=>match ev s c with
  | .bool x=>(x=true→awp P a s h n Q)∧(x=false→awp P b s h n Q)
  | _=>False
 | .blk id a,s,h,n,Q=>awp P a s h n fun e s' h' n'=>match e with
  | .exit id'=>if id'=id then Q .normal s' h' n' else Q (.exit id') s' h' n'
  | e=>Q e s' h' n'
 | .loop a,s,h,n,Q=>Jui (awp P a) s h n Q
 | .exit id,s,h,n,Q=>Q (.exit id) s h n
 | .ret,s,h,n,Q=>Q .ret s h n
 | .draw t,s,h,n,Q=>J6c P t s h n (Q .normal)
def J5y (bx:Bool) (P:Program) (nt:Nat):Code→Option AC
 | .skip=>some .skip
 | .region _ ops draw=>if draw then (Jp2 bx P nt ops).map .draw else (ops.toList.mapM (Jgy bx P nt ops)).map .reg
 | .seq a b=>(J5y bx P nt a).bind fun a'=>(J5y bx P nt b).map fun b' => .seq a' b'
 | .cond c a b=>(J0n P 0 c).bind fun c'=>(J5y bx P nt a).bind fun a'=>(J5y bx P nt b).map fun b' => .cond c' a' b'
 | .block id a=>(J5y bx P nt a).map (.blk id)
 | .loop a=>(J5y bx P nt a).map .loop
 | .exit id=>some (.exit id)
 | .ret=>some .ret
 | _=>Option.none
section
variable {bx:Bool}{P:Program}{base:Nat}{w0 w1:World}{L1:Nat→Option Loc}{n1 nt:Nat}
def Jsi:AE→Exit→Prop
 | .normal,.normal=>True
 | .exit i,.exit j=>i=j
 | .ret,.ret=>True
 | _,_=>False
def QOf (base:Nat) (w0 w1:World) (L1:Nat→Option Loc) (n1 nt:Nat) (Q:AE→Env→Heap→Nat→Prop):Exit→Act→World→Prop:=
 fun e a w=>∃ ae s h n,Jsi ae e∧Rel base w0 w1 L1 n1 nt s h n a w∧Q ae s h n
theorem Jl1:∀ (c:Code) (ac:AC),J5y bx P nt c=some ac→∀ (s:Env) (h:Heap) (n:Nat) (Q:AE→Env→Heap→Nat→Prop) (a:Act) (w:World),
 Rel base w0 w1 L1 n1 nt s h n a w→awp P ac s h n Q→c.wp P (QOf base w0 w1 L1 n1 nt Q) a w:=by
 intro c
 induction c with
 | skip=>
  intro ac hc s h n Q a w hr hK
  simp only [J5y,Option.some.injEq] at hc;subst hc
  exact wp_skip ⟨.normal,s,h,n,trivial,hr,hK⟩
 | region id ops draw=>
  intro ac hc s h n Q a w hr hK
  simp only [J5y] at hc
  split at hc
  ·rename_i hd
   subst hd
   simp only [Option.map_eq_some_iff] at hc
   obtain ⟨t,ht,rfl⟩:=hc
   exact Jgq ht hr hK fun s h n a w hr hQ=>⟨.normal,s,h,n,trivial,hr,hQ⟩
  ·rename_i hd
   have hd:draw=false:=by simpa using hd
   subst hd
   simp only [Option.map_eq_some_iff] at hc
   obtain ⟨os,hos,rfl⟩:=hc
   exact wp_region_list (Jih ops ops.toList os hos s h n _ a w _ hr hK fun s h n a w hr hQ=>⟨.normal,s,h,n,trivial,hr,hQ⟩)
 | seq x y ihx ihy=>
  intro ac hc s h n Q a w hr hK
  simp only [J5y,Option.bind_eq_some_iff,Option.map_eq_some_iff] at hc
  obtain ⟨x',hx,y',hy,rfl⟩:=hc
  refine wp_seq (wp_mono (ihx x' hx s h n _ a w hr hK) ?_)
  rintro e a w ⟨ae,s,h,n,he,hr,hq⟩
  cases ae <;> cases e <;> simp only [Jsi] at he <;> simp only [Exit.then]
  ·exact ihy y' hy s h n Q a w hr hq
  ·subst he;exact ⟨.exit _,s,h,n,rfl,hr,hq⟩
  ·exact ⟨.ret,s,h,n,trivial,hr,hq⟩
 | cond c x y ihx ihy=>
  intro ac hc s h n Q a w hr hK
  simp only [J5y,Option.bind_eq_some_iff,Option.map_eq_some_iff] at hc
  obtain ⟨c',hc',x',hx,y',hy,rfl⟩:=hc
  have hr':=hr
  obtain ⟨hdf,hsz,L,F,H,hs,he⟩:=hr'
  have hv:=J09 hc' hs
  simp only [awp] at hK
  split at hK
  ·rename_i b hb
   have hv:=Jee hb hv
   cases b
   ·exact wp_cond_false hv (ihy y' hy s h n Q a w hr (hK.2 rfl))
   ·exact wp_cond_true hv (ihx x' hx s h n Q a w hr (hK.1 rfl))
  ·exact hK.elim
 | block id x ih=>
  intro ac hc s h n Q a w hr hK
  simp only [J5y,Option.map_eq_some_iff] at hc
  obtain ⟨x',hx,rfl⟩:=hc
  refine wp_block (wp_mono (ih x' hx s h n _ a w hr hK) ?_)
  rintro e a w ⟨ae,s,h,n,he,hr,hq⟩
  cases ae <;> cases e <;> simp only [Jsi] at he <;> simp only [Exit.inBlock]
  ·exact ⟨.normal,s,h,n,trivial,hr,hq⟩
  ·subst he
   simp only at hq
   split
   ·rename_i hi;rw [if_pos hi] at hq;exact ⟨.normal,s,h,n,trivial,hr,hq⟩
   ·rename_i hi;rw [if_neg hi] at hq;exact ⟨.exit _,s,h,n,rfl,hr,hq⟩
  ·exact ⟨.ret,s,h,n,trivial,hr,hq⟩
 | loop x ih=>
  intro ac hc s h n Q a w hr hK
  simp only [J5y,Option.map_eq_some_iff] at hc
  obtain ⟨x',hx,rfl⟩:=hc
  obtain ⟨I,⟨k,hk⟩,hround⟩:=hK
  refine wp_loop_ghost (fun k a w=>∃ s h n,Rel base w0 w1 L1 n1 nt s h n a w∧I k s h n) k ⟨s,h,n,hr,hk⟩ ?_
  rintro k a w ⟨s,h,n,hr,hk⟩
  refine wp_mono (ih x' hx s h n _ a w hr (hround k s h n hk)) ?_
  rintro e a w ⟨ae,s,h,n,he,hr,hq⟩
  cases ae <;> cases e <;> simp only [Jsi] at he <;> simp only [Exit.then]
  ·obtain ⟨k',hlt,hk'⟩:=hq
   exact ⟨k',hlt,s,h,n,hr,hk'⟩
  ·subst he;exact ⟨.exit _,s,h,n,rfl,hr,hq⟩
  ·exact ⟨.ret,s,h,n,trivial,hr,hq⟩
 | exit id=>
  intro ac hc s h n Q a w hr hK
  simp only [J5y,Option.some.injEq] at hc;subst hc
  exact wp_exit ⟨.exit id,s,h,n,rfl,hr,hK⟩
 | ret=>
  intro ac hc s h n Q a w hr hK
  simp only [J5y,Option.some.injEq] at hc;subst hc
  exact wp_ret ⟨.ret,s,h,n,trivial,hr,hK⟩
 | rangeFunc=>intro ac hc;simp [J5y] at hc
 | scope=>intro ac hc;simp [J5y] at hc
 | label=>intro ac hc;simp [J5y] at hc
 | goto=>intro ac hc;simp [J5y] at hc
 | refuse=>intro ac hc;simp [J5y] at hc
end
open Go Go.RowKit
inductive RV where
 | t (n:Nat)
 | c (n:Nat) (agg:Bool) (sz:Nat)
structure AFn where
 nt:Nat
 res:List RV
 body:AC
def Jm8 (P:Program):ResultVar→Option RV
 | .tmp t=>some (.t t)
 | .cell a t=>match Jiz P t,P.info? t with
  | some g,some i=>some (.c a g i.size)
  | _,_=>Option.none
def J7a (bx:Bool) (P:Program) (fn:Func):Option AFn:=
 match fn.body with
 | some c=>(J5y bx P fn.ntmps c).bind fun b=>(fn.results.toList.mapM (Jm8 P)).map fun r=>⟨fn.ntmps,r,b⟩
 | Option.none=>Option.none
@[reducible] def J08 (P:Program) (fn:Func):Option AFn:=J7a false P fn
def Jjy (s:Env) (h:Heap):RV→Option AV
 | .t n=>some (s n)
 | .c n g sz=>match s n with
  | .ptr id r c=>match h id with
   | some B=>if r<B.rows.length then ldv B.box g (J8z B.rows r) c sz else Option.none
   | Option.none=>Option.none
  | _=>Option.none
def J7v (s:Env) (h:Heap):List RV→Option (List AV)
 | []=>some []
 | r::rs=>(Jjy s h r).bind fun x=>(J7v s h rs).map fun xs=>x::xs
def J7t (xs:List AV):AV:=match xs with | [x]=>x|xs => .tup xs
def Jfa (as:List AV):Env:=fun i=>as.getD i (.tup [])
def Jyn (P:Program) (f:AFn) (as:List AV) (h:Heap) (n:Nat) (K:AV→Heap→Nat→Prop):Prop:=
 as.length≤f.nt∧awp P f.body (Jfa as) h n fun e s h n=>match e with
  | .exit _=>False
  | _=>onO (J7v s h f.res) fun xs=>K (J7t xs) h n
def Holds (P:Program) (f:FuncId) (as:List AV) (Q:AV→Prop):Prop:=
 J5b P f=true∧∀ (w:World) (vs:List Value),VRl w Lo 0 as vs []→Calls P f vs.toArray w fun e w'=>
  ∃ (v:Value) (r:AV) (S:List Nat),e = .returned v∧Q r∧J16 r=true∧Below w.heap.size w w'∧VR w' Lo 0 r v S∧S.Nodup∧∀ b∈S,w.heap.size≤b∧b<w'.heap.size
section
variable {bx:Bool}{P:Program}
theorem Jk2 {w:World}{L:Nat→Option Loc}{N:Nat}{as:List AV}{vs:List Value}(h:VRl w L N as vs []) (k:Nat):J4n w L N (Jfa as) (vs.toArray++Array.replicate k undef):=by
 intro i
 unfold Jfa
 have hl:=J0y h
 by_cases hi:i<as.length
 ·obtain ⟨v,g1,g2⟩:=J6l h (List.getElem?_eq_getElem hi)
  rw [List.getD_eq_getElem?_getD,List.getElem?_eq_getElem hi]
  have:(vs.toArray++Array.replicate k undef).getD i undef=v:=by
   rw [Array.getD_eq_getD_getElem?,Array.getElem?_append_left (by simp;omega)]
   simp [g1]
  rw [this];exact g2
 ·rw [List.getD_eq_getElem?_getD,List.getElem?_eq_none (by omega)]
  have:(vs.toArray++Array.replicate k undef).getD i undef=undef:=by
   rw [Array.getD_eq_getD_getElem?,Array.getElem?_append_right (by simp;omega),Array.getElem?_replicate]
   split <;> rfl
  rw [this];simp [VR,VRl,undef]
theorem Jg6 {G:ResultVar→Sem Value}{base:Nat}{w0 w:World}{L:Nat→Option Loc}{N:Nat}{F:Nat→List Nat}{h:Heap}{s:Env}{tmps:Array Value}(hG1:∀ t,G (.tmp t)=pure (tmps.getD t undef)) (hG2:∀ a t,G (.cell a t)=do loadVar t (←asAddr (tmps.getD a undef))) (H:HRel base w0 w L N F [] h) (hs:J4n w L N s tmps) {rv:ResultVar}{r:RV}{x:AV}
 (hc:Jm8 P rv=some r) (hx:Jjy s h r=some x) :
 ∃ v,(G rv).run P w = .ok v w∧VR w L N x v []:=by
 unfold Jm8 at hc
 split at hc
 ·cases hc
  simp only [Jjy,Option.some.injEq] at hx
  subst hx
  exact ⟨_,by rw [hG1];rfl,hs _⟩
 ·split at hc
  ·rename_i a t _ _ g i hg hi
   cases hc
   simp only [Jjy] at hx
   split at hx
   ·rename_i id r c hev
    have hv:=hs a
    rw [hev] at hv
    split at hx
    ·rename_i B hB
     split at hx
     ·rename_i hr
      obtain ⟨b,o,vs,S',he,g1,g2,g3⟩:=H.row hB hv hr
      have key:∃ v,(loadVar t ⟨b,o+c,Option.none⟩).run P w = .ok v w∧VR w L N x v []:=by
       cases hbox:B.box
       ·rw [hbox] at hx g1
        simp only [Bool.false_eq_true,if_false] at g1
        obtain ⟨v,e1,e2⟩:=Jbh (P:=P) (L:=L) (N:=0) hg hi rfl (Jdf _ _ _ g1) g2 (Jng hx)
        exact ⟨v,e1,J9c ⟨Nat.zero_le _,fun _ _ hid=>absurd hid (Nat.not_lt_zero _),Nat.le_refl _,fun _ _ h=>⟨rfl,h⟩⟩ _ _ _ e2⟩
       ·rw [hbox] at hx g1
        simp only [if_true] at g1
        rw [g3 hbox] at g1
        exact Jbh hg hi rfl g1 g2 hx
      obtain ⟨v,e1,e2⟩:=key
      refine ⟨v,?_,e2⟩
      rw [hG2,he]
      simp [asAddr,e1]
     ·cases hx
    ·cases hx
   ·cases hx
  ·cases hc
theorem Jc0 {G:ResultVar→Sem Value}{base:Nat}{w0 w:World}{L:Nat→Option Loc}{N:Nat}{F:Nat→List Nat}{h:Heap}{s:Env}{tmps:Array Value}(hG1:∀ t,G (.tmp t)=pure (tmps.getD t undef)) (hG2:∀ a t,G (.cell a t)=do loadVar t (←asAddr (tmps.getD a undef))) (H:HRel base w0 w L N F [] h) (hs:J4n w L N s tmps) :
 ∀ {rvs:List ResultVar}{rs:List RV}{xs:List AV},rvs.mapM (Jm8 P)=some rs→J7v s h rs=some xs →
 ∃ vs,(rvs.mapM G).run P w = .ok vs w∧VRl w L N xs vs []
 | [],rs,xs,hc,hx=>by
  simp at hc;subst hc
  simp only [J7v,Option.some.injEq] at hx;subst hx
  exact ⟨[],by simp,rfl,rfl⟩
 | rv::rvs,rs,xs,hc,hx=>by
  rw [List.mapM_cons] at hc
  simp only [Option.bind_eq_bind,Option.bind_eq_some_iff,Option.pure_def,Option.some.injEq] at hc
  obtain ⟨r,hr,rs',hrs,rfl⟩:=hc
  simp only [J7v,Option.bind_eq_some_iff,Option.map_eq_some_iff] at hx
  obtain ⟨x,hx1,xs',hx2,rfl⟩:=hx
  obtain ⟨v,e1,e2⟩:=Jg6 hG1 hG2 H hs hr hx1
  obtain ⟨vs,k1,k2⟩:=Jc0 hG1 hG2 H hs hrs hx2
  refine ⟨v::vs,?_,J0g.2 ⟨v,vs,rfl,e2,k2⟩⟩
  rw [List.mapM_cons,Sem.run_bind,e1]
  simp only [Result.andThen_ok,Sem.run_bind,k1]
  rfl
theorem J6p {f:FuncId}{fn:Func}{af:AFn}{as:List AV}{h:Heap}{n:Nat}{K:AV→Heap→Nat→Prop}(hf:P.funcs[f]? = some fn) (hc:J7a bx P fn=some af) (hn:(fn.name == "runtime.NumGoroutine")=false)
 (hK:Jyn P af as h n K):J1u P f as h n K:=by
 unfold J7a at hc
 split at hc
 ·rename_i c hb
  simp only [Option.bind_eq_some_iff,Option.map_eq_some_iff] at hc
  obtain ⟨b,hbc,rs,hrs,rfl⟩:=hc
  refine ⟨by simp [J5b,hf,hb,hn],fun base w0 w L F vs H hv => ?_⟩
  have hl:=J0y hv
  obtain ⟨hle,hK⟩:=hK
  simp only at hle
  refine calls_of_wp hf hb ?_
  have hrel:Rel base w0 w L n fn.ntmps (Jfa as) h n { tmps:=vs.toArray++Array.replicate (fn.ntmps - vs.toArray.size) undef,defers:=[] } w:=
   ⟨rfl,by simp;omega,L,F,H,Jk2 hv _,Ext.refl _ _ _⟩
  refine wp_mono (Jl1 c b hbc _ _ _ _ _ _ hrel hK) ?_
  rintro e a w' ⟨ae,s,h',n',he,⟨hdf,hsz,L',F',H',hs',J65⟩,hq⟩
  have key:∀ xs,J7v s h' rs=some xs→K (J7t xs) h' n'→∃ v,(results fn a.tmps).run P w' = .ok v w'∧∃ (v':Value) (r:AV) (L':Nat→Option Loc) (n':Nat) (F':Nat→List Nat) (h':Heap),Ending.returned v = .returned v' ∧
   HRel base w0 w' L' n' F' [] h'∧Ext w L n w' L' n'∧VR w' L' n' r v' []∧K r h' n':=by
   intro xs hxs hk
   obtain ⟨G,hG1,hG2,hG3⟩:∃ G:ResultVar→Sem Value,(∀ t,G (.tmp t)=pure (a.tmps.getD t undef))∧(∀ a' t,G (.cell a' t)=do loadVar t (←asAddr (a.tmps.getD a' undef))) ∧
    results fn a.tmps=(do let vs ←fn.results.mapM G;pure (if h:vs.size=1 then vs[0] else .tuple vs)):=⟨_,fun _=>rfl,fun _ _=>rfl,rfl⟩
   obtain ⟨us,e1,e2⟩:=Jc0 (P:=P) hG1 hG2 H' hs' hrs hxs
   have hm:(fn.results.mapM G).run P w' = .ok us.toArray w':=by
    rw [Array.mapM_eq_mapM_toList]
    simp only [map_eq_pure_bind,Sem.run_bind,e1,Result.andThen_ok,Sem.run_pure]
   have hul:=J0y e2
   refine ⟨if h:us.toArray.size=1 then us.toArray[0] else .tuple us.toArray,?_,_,J7t xs,L',n',F',h',rfl,H',J65,?_,hk⟩
   ·rw [hG3,Sem.run_bind,hm];rfl
   ·match xs,us,e2,hul with
    | [],us,e2,hul=>
     have:us=[]:=List.eq_nil_of_length_eq_zero (by simpa using hul)
     subst this
     simp [J7t,VR,VRl]
    | [x],us,e2,hul=>
     obtain ⟨u,us',rfl,g1,g2⟩:=J0g.1 e2
     have:us'=[]:=List.eq_nil_of_length_eq_zero (by simpa using hul)
     subst this
     simpa [J7t] using g1
    | x::y::xs,us,e2,hul=>
     have:¬us.toArray.size=1:=by simp;simp at hul;omega
     rw [dif_neg this]
     simp only [J7t,VR]
     exact ⟨_,rfl,by simpa using e2⟩
  cases ae <;> cases e <;> simp only [Jsi] at he <;> simp only [bodyPost]
  ·change onO _ _ at hq
   unfold onO at hq
   split at hq
   ·rename_i xs hxs
    obtain ⟨v,g1,g2⟩:=key xs hxs hq
    exact ⟨hdf,v,g1,g2⟩
   ·exact hq.elim
  ·exact hq.elim
  ·change onO _ _ at hq
   unfold onO at hq
   split at hq
   ·rename_i xs hxs
    obtain ⟨v,g1,g2⟩:=key xs hxs hq
    exact ⟨hdf,v,g1,g2⟩
   ·exact hq.elim
 ·cases hc
def J53:Heap:=fun _=>Option.none
theorem Jcl {f:FuncId}{as:List AV}{Q:AV→Prop}(h:J1u P f as J53 0 fun r h _=>onO (dt r h) fun q=>J16 q.1=true∧Q q.1):Holds P f as Q:=by
 refine ⟨h.1,fun w vs hv => ?_⟩
 have H0:HRel w.heap.size w w Lo 0 (fun _=>[]) [] J53:=
  ⟨Below.refl _ _,Nat.le_refl _,fun _ _=>rfl,fun _ _=>rfl,(fun _ _ h=>by cases h),(fun _ _ _ _ _ _ _ h=>by cases h),fun b h=>absurd h (J2e b),(fun _ _ _ h=>by cases h),by simp,by simp,by simp,by simp,by simp,by simp⟩
 refine (h.2 w.heap.size w w Lo (fun _=>[]) vs H0 hv).mono ?_
 rintro e w' ⟨v,r,L',n',F',h',rfl,H',J65,hr,hq⟩
 unfold onO at hq
 split at hq
 ·rename_i q hq'
  obtain ⟨L2,F2,S,g1,g2,g3⟩:=Jhf r H' hr hq'
  rw [List.append_nil] at g1
  exact ⟨v,q.1,S,rfl,hq.2,hq.1,H'.below,Jkc q.1 v S hq.1 (fun b _=>J2e b) g2,g1.ne,fun b hb=>⟨(g1.ep b hb).2.1,(g1.ep b hb).2.2⟩⟩
 ·exact hq.elim
theorem J7z {f:FuncId}{as as':List AV}{h:Heap}{n:Nat}{Q:AV→Prop}{K:AV→Heap→Nat→Prop}(hh:Holds P f as' Q) (hb:bwl as h=some as')
 (hK:∀ r,Q r→K (sub r n) (J2n h n (col r)) (n+(col r).length)):J1u P f as h n K:=by
 refine ⟨hh.1,fun base w0 w L F vs H hv => ?_⟩
 refine (hh.2 w vs (J4v H as hv hb)).mono ?_
 rintro e w' ⟨v,r,S,rfl,hq,hcl,hbel,hr,hnd,hS⟩
 obtain ⟨L',F',g1,g2,g3⟩:=H.take hbel hcl hr hnd hS
 exact ⟨v,_,L',_,F',_,rfl,g1,g3,g2,hK r hq⟩
theorem Jbj {f:FuncId}{as as':List AV}{h:Heap}{n:Nat}{Q:AV→Prop}{K:AV→Heap→Nat→Prop}(hh:Holds P f as' Q) (hb:bwl as h=some as')
 (hK:∀ r,Q r→K (sub r n) (J2n h n (col r)) (n+(col r).length)):J1u P f as h n fun r h' n'=>J65 h h'∧K r h' n':=by
 refine ⟨hh.1,fun base w0 w L F vs H hv => ?_⟩
 refine (hh.2 w vs (J4v H as hv hb)).mono ?_
 rintro e w' ⟨v,r,S,rfl,hq,hcl,hbel,hr,hnd,hS⟩
 obtain ⟨L',F',g1,g2,g3⟩:=H.take hbel hcl hr hnd hS
 refine ⟨v,_,L',_,F',_,rfl,g1,g3,g2,fun id B hB => ?_,hK r hq⟩
 have hlt:id<n:=by
  cases hl:L id with
  | none=>rw [H.mod id hl] at hB;cases hB
  | some l=>exact H.lt id l hl
 rw [J4z,if_neg (by omega)];exact hB
end
open Go Go.RowKit
def i64 (n:Int):AV := .int .i64 n
def J38 (l:List Int):List (List AV):=l.map fun n=>[i64 n]
def Ju4 (l:List Int):AV := .sl 1 (J38 l)
abbrev Fin:=AE→Env→Heap→Nat→Prop
inductive Kt where
 | seq (b:AC)
 | blk (id:Nat)
def J40 (P:Program):List Kt→AE→Env→Heap→Nat→Fin→Prop
 | [],e,s,h,n,Q=>Q e s h n
 | .seq b::ks,e,s,h,n,Q=>match e with
  | .normal=>awp P b s h n fun e s h n=>J40 P ks e s h n Q
  | e=>J40 P ks e s h n Q
 | .blk id::ks,e,s,h,n,Q=>match e with
  | .exit id'=>if id'=id then J40 P ks .normal s h n Q else J40 P ks (.exit id') s h n Q
  | e=>J40 P ks e s h n Q
def rC (P:Program) (a:AC) (ks:List Kt) (s:Env) (h:Heap) (n:Nat) (Q:Fin):Prop:=awp P a s h n fun e s h n=>J40 P ks e s h n Q
def rO (P:Program) (os:List AO) (ks:List Kt) (s:Env) (h:Heap) (n:Nat) (Q:Fin):Prop:=Jdx P os s h n fun s h n=>J40 P ks .normal s h n Q
def rD (P:Program) (t:DT) (ks:List Kt) (s:Env) (h:Heap) (n:Nat) (Q:Fin):Prop:=J6c P t s h n fun s h n=>J40 P ks .normal s h n Q
def rL (P:Program) (a:AC) (ks:List Kt) (s:Env) (h:Heap) (n:Nat) (Q:Fin):Prop:=Jui (awp P a) s h n fun e s h n=>J40 P ks e s h n Q
def Jl3 (P:Program) (os:List AO) (ks:List Kt) (d:Option Nat) (s:Env) (Q:Fin) (r:AV) (h:Heap) (n:Nat):Prop:=rO P os ks (J4g s d r) h n Q
def Jjx (P:Program) (t:DT) (ks:List Kt) (d:Option Nat) (s:Env) (Q:Fin) (r:AV) (h:Heap) (n:Nat):Prop:=rD P t ks (J4g s d r) h n Q
def Jp7 (P:Program) (ps:List AOp) (t:DT) (ks:List Kt) (d:Option Nat) (s:Env) (h0:Heap) (Q:Fin) (r:AV) (h:Heap) (n:Nat):Prop:=Jco ps s h0 h∧rD P t ks (J4g s d r) h n Q
def hK (h:Heap) (K:AV→Heap→Nat→Prop) (r:AV) (h':Heap) (n':Nat):Prop:=J65 h h'∧K r h' n'
def Jww (res:List RV) (Q:AV→Prop):Fin:=fun e s h _=>match e with
 | .exit _=>False
 | _=>onO (J7v s h res) fun xs=>onO (dt (J7t xs) h) fun q=>J16 q.1=true∧Q q.1
def gd (b want:Bool) (A B:Prop):Prop:=(b=want→A)∧(b = !want→B)
@[simp ↓] theorem gd_tt {A B:Prop} : gd true true A B=A:=by simp [gd]
@[simp ↓] theorem gd_ft {A B:Prop} : gd false true A B=B:=by simp [gd]
@[simp ↓] theorem gd_tf {A B:Prop} : gd true false A B=B:=by simp [gd]
@[simp ↓] theorem gd_ff {A B:Prop} : gd false false A B=A:=by simp [gd]
@[simp] theorem gd_t {b:Bool}{A B:Prop} : gd b true A B=((b=true→A)∧(b=false→B)):=propext Iff.rfl
@[simp] theorem gd_f {b:Bool}{A B:Prop} : gd b false A B=((b=false→A)∧(b=true→B)):=propext Iff.rfl
def Jr0 (v:AV) (A B:Prop):Prop:=match v with
 | .bool x=>gd x true A B
 | _=>False
@[simp ↓] theorem Js4 {x:Bool}{A B:Prop} : Jr0 (.bool x) A B=gd x true A B:=rfl
def Jbx (v:AV) (want:Bool) (A B C:Prop):Prop:=match v with
 | .bool b=>gd b want A B
 | .tup []=>C
 | _=>False
@[congr] theorem Jo5 {v v':AV}{want:Bool}{A B C:Prop}(h:v=v'):Jbx v want A B C=Jbx v' want A B C:=by subst h;rfl
@[simp ↓] theorem Jpt {b want:Bool}{A B C:Prop} : Jbx (.bool b) want A B C=gd b want A B:=rfl
@[simp ↓] theorem Jr9 {want:Bool}{A B C:Prop} : Jbx (.tup []) want A B C=C:=rfl
section
variable {h:Heap}{n:Nat}{K:AV→Heap→Nat→Prop}
def ldV (agg:Bool) (sz:Nat) (v:AV) (h:Heap) (n:Nat) (K:AV→Heap→Nat→Prop):Prop:=match v with
 | .ptr id r c=>onO (h id) fun B=>r<B.rows.length∧onO (ldv B.box agg (J8z B.rows r) c sz) fun a=>K a h n
 | .fptr row c=>onO (ldv true agg row c sz) fun a=>K a h n
 | _=>False
@[congr] theorem Jtz {agg:Bool}{sz:Nat}{v v':AV}(hv:v=v'):ldV agg sz v h n K=ldV agg sz v' h n K:=by subst hv;rfl
@[simp ↓] theorem Jx2 {agg:Bool}{sz id r c:Nat} : ldV agg sz (.ptr id r c) h n K=onO (h id) fun B=>r<B.rows.length∧onO (ldv B.box agg (J8z B.rows r) c sz) fun a=>K a h n:=rfl
@[simp ↓] theorem Jvu {agg:Bool}{sz c:Nat}{row:List AV} : ldV agg sz (.fptr row c) h n K=onO (ldv true agg row c sz) fun a=>K a h n:=rfl
def stV (sz:Nat) (v x:AV) (h:Heap) (n:Nat) (K:AV→Heap→Nat→Prop):Prop:=(cellsOf x).length=sz∧(cellsOf x).all J0s=true∧match v with
 | .ptr id r c=>onO (h id) fun B=>
  if B.box then r<B.rows.length∧c+sz≤(J8z B.rows r).length∧K (.tup []) (upd h id (some ⟨true,B.sz,B.rows.set r (J5x (J8z B.rows r) c (cellsOf x))⟩)) n
  else onO (dtl (cellsOf x) h) fun q=>onO (q.2 id) fun B'=>B'.box=false∧r<B'.rows.length∧c+sz≤(J8z B'.rows r).length ∧
   K (.tup []) (upd q.2 id (some ⟨false,B'.sz,B'.rows.set r (J5x (J8z B'.rows r) c q.1)⟩)) n
 | _=>False
@[simp ↓] theorem Jzw {sz id r c:Nat}{x:AV} : stV sz (.ptr id r c) x h n K=((cellsOf x).length=sz∧(cellsOf x).all J0s=true∧onO (h id) fun B=>
 if B.box then r<B.rows.length∧c+sz≤(J8z B.rows r).length∧K (.tup []) (upd h id (some ⟨true,B.sz,B.rows.set r (J5x (J8z B.rows r) c (cellsOf x))⟩)) n
 else onO (dtl (cellsOf x) h) fun q=>onO (q.2 id) fun B'=>B'.box=false∧r<B'.rows.length∧c+sz≤(J8z B'.rows r).length ∧
  K (.tup []) (upd q.2 id (some ⟨false,B'.sz,B'.rows.set r (J5x (J8z B'.rows r) c q.1)⟩)) n):=rfl
def Jsz (op:BinOp) (x y:AV) (h:Heap) (n:Nat) (K:AV→Heap→Nat→Prop):Prop:=match x,y with
 | .int k a,.int k' b=>k=k'∧match op with
  | .quo=>b≠0∧K (.int k (k.wrap (a.tdiv b))) h n
  | .rem=>b≠0∧K (.int k (a.tmod b)) h n
  | _=>onO (Jsp op k a b) fun r=>K r h n
 | .str a,.str b=>match op with
  | .add=>a.length+b.length≤LIM∧K (.str (a++b)) h n
  | _=>onO (Jt4 op a b) fun r=>K r h n
 | _,_=>False
@[congr] theorem Jr5 {op:BinOp}{x x' y y':AV}(hx:x=x') (hy:y=y'):Jsz op x y h n K=Jsz op x' y' h n K:=by subst hx hy;rfl
@[simp ↓] theorem Jvk {op:BinOp}{k k':IntKind}{a b:Int} : Jsz op (.int k a) (.int k' b) h n K=(k=k'∧match op with
 | .quo=>b≠0∧K (.int k (k.wrap (a.tdiv b))) h n
 | .rem=>b≠0∧K (.int k (a.tmod b)) h n
 | op=>onO (Jsp op k a b) fun r=>K r h n):=by cases op <;> rfl
@[simp ↓] theorem Jvz {op:BinOp}{a b:List UInt8} : Jsz op (.str a) (.str b) h n K=(match op with
 | .add=>a.length+b.length≤LIM∧K (.str (a++b)) h n
 | op=>onO (Jt4 op a b) fun r=>K r h n):=by cases op <;> rfl
def K09 (neg:Bool) (x y:AV) (h:Heap) (n:Nat) (K:AV→Heap→Nat→Prop):Prop:=match x,y with
 | .bool a,.bool b=>K (.bool (if neg then !(a==b) else a==b)) h n
 | _,_=>False
@[simp ↓] theorem Jub {neg a b:Bool} : K09 neg (.bool a) (.bool b) h n K=K (.bool (if neg then !(a==b) else a==b)) h n:=rfl
def unV (op:UnOp) (x:AV) (h:Heap) (n:Nat) (K:AV→Heap→Nat→Prop):Prop:=match op,x with
 | .not,.bool b=>K (.bool (!b)) h n
 | .neg,.int k a=>K (.int k (k.wrap (0 - a))) h n
 | _,_=>False
@[simp ↓] theorem Jxp {b:Bool} : unV .not (.bool b) h n K=K (.bool (!b)) h n:=rfl
@[simp ↓] theorem K00 {k:IntKind}{a:Int} : unV .neg (.int k a) h n K=K (.int k (k.wrap (0 - a))) h n:=rfl
def Juc (str:Bool) (sz:Nat) (x:AV) (s:Env) (lo hi:Option Opd) (h:Heap) (n:Nat) (K:AV→Heap→Nat→Prop):Prop:=match str,x with
 | true,.str l=>onO (J37 s 0 lo) fun a=>onO (J37 s l.length hi) fun b=>0≤a∧a≤b∧b≤l.length∧K (.str ((l.take b.toNat).drop a.toNat)) h n
 | false,.sl sz' rows=>onO (J37 s 0 lo) fun a=>onO (J37 s rows.length hi) fun b=>sz'=sz∧0≤a∧a≤b∧b≤rows.length∧K (.sl sz' ((rows.take b.toNat).drop a.toNat)) h n
 | false,.ref id off len=>onO (J37 s 0 lo) fun a=>onO (J37 s len hi) fun b=>0≤a∧a≤b∧b≤len∧onO (h id) fun B=>B.sz=sz∧K (.ref id (off+a.toNat) (b - a).toNat) h n
 | false,.nil sz'=>onO (J37 s 0 lo) fun a=>onO (J37 s 0 hi) fun b=>a=0∧b=0∧K (.nil sz') h n
 | _,_=>False
@[simp ↓] theorem Jw5 {sz:Nat}{l:List UInt8}{s:Env}{lo hi:Option Opd} : Juc true sz (.str l) s lo hi h n K=onO (J37 s 0 lo) fun a=>onO (J37 s l.length hi) fun b=>0≤a∧a≤b∧b≤l.length∧K (.str ((l.take b.toNat).drop a.toNat)) h n:=rfl
@[simp ↓] theorem Jx8 {sz sz':Nat}{rows:List (List AV)}{s:Env}{lo hi:Option Opd} : Juc false sz (.sl sz' rows) s lo hi h n K=onO (J37 s 0 lo) fun a=>onO (J37 s rows.length hi) fun b=>sz'=sz∧0≤a∧a≤b∧b≤rows.length∧K (.sl sz' ((rows.take b.toNat).drop a.toNat)) h n:=rfl
@[simp ↓] theorem Jwv {sz id off len:Nat}{s:Env}{lo hi:Option Opd} : Juc false sz (.ref id off len) s lo hi h n K=onO (J37 s 0 lo) fun a=>onO (J37 s len hi) fun b=>0≤a∧a≤b∧b≤len∧onO (h id) fun B=>B.sz=sz∧K (.ref id (off+a.toNat) (b - a).toNat) h n:=rfl
@[simp ↓] theorem Jv7 {sz sz':Nat}{s:Env}{lo hi:Option Opd} : Juc false sz (.nil sz') s lo hi h n K=onO (J37 s 0 lo) fun a=>onO (J37 s 0 hi) fun b=>a=0∧b=0∧K (.nil sz') h n:=rfl
def Jx3 (off:Nat) (x:AV) (h:Heap) (n:Nat) (K:AV→Heap→Nat→Prop):Prop:=match x with
 | .ptr id r c=>(h id).isSome=true∧K (.ptr id r (c+off)) h n
 | .fptr row c=>K (.fptr row (c+off)) h n
 | _=>False
@[simp ↓] theorem Jva {off id r c:Nat} : Jx3 off (.ptr id r c) h n K=((h id).isSome=true∧K (.ptr id r (c+off)) h n):=rfl
@[simp ↓] theorem Jt9 {off c:Nat}{row:List AV} : Jx3 off (.fptr row c) h n K=K (.fptr row (c+off)) h n:=rfl
def Jz1 (sz:Nat) (x:AV) (i:Option Int) (h:Heap) (n:Nat) (K:AV→Heap→Nat→Prop):Prop:=match x,i with
 | .sl sz' rows,some i=>sz'=sz∧0≤i∧i<rows.length∧K (.fptr (J8z rows i.toNat) 0) h n
 | .ref id off len,some i=>0≤i∧i<len∧onO (h id) fun B=>B.sz=sz∧K (.ptr id (off+i.toNat) 0) h n
 | _,_=>False
@[simp ↓] theorem Jzx {sz sz':Nat}{rows:List (List AV)}{i:Int} : Jz1 sz (.sl sz' rows) (some i) h n K=(sz'=sz∧0≤i∧i<rows.length∧K (.fptr (J8z rows i.toNat) 0) h n):=rfl
@[simp ↓] theorem Jwg {sz id off len:Nat}{i:Int} : Jz1 sz (.ref id off len) (some i) h n K=(0≤i∧i<len∧onO (h id) fun B=>B.sz=sz∧K (.ptr id (off+i.toNat) 0) h n):=rfl
def K0s (x:AV) (i:Option Int) (h:Heap) (n:Nat) (K:AV→Heap→Nat→Prop):Prop:=match x,i with
 | .str l,some i=>0≤i∧i<l.length∧K (.int .u8 (l.getD i.toNat 0).toNat) h n
 | _,_=>False
@[simp ↓] theorem Jvg {l:List UInt8}{i:Int} : K0s (.str l) (some i) h n K=(0≤i∧i<l.length∧K (.int .u8 (l.getD i.toNat 0).toNat) h n):=rfl
def K0m (x:AV) (i:Nat) (h:Heap) (n:Nat) (K:AV→Heap→Nat→Prop):Prop:=match x with
 | .tup vs=>onO vs[i]? fun a=>K a h n
 | _=>False
@[simp ↓] theorem Jvy {vs:List AV}{i:Nat} : K0m (.tup vs) i h n K=onO vs[i]? fun a=>K a h n:=rfl
def Jop (P:Program) (v:AV) (as:List AV) (h:Heap) (n:Nat) (K:AV→Heap→Nat→Prop):Prop:=match v with
 | .fn (.func f) fi ca=>J1u P f (fi++as++ca) h n K
 | _=>False
@[simp ↓] theorem Jwk {P:Program}{f:FuncId}{fi ca as:List AV} : Jop P (.fn (.func f) fi ca) as h n K=J1u P f (fi++as++ca) h n K:=rfl
def Jsq (str:Bool) (v:AV) (h:Heap) (n:Nat) (K:AV→Heap→Nat→Prop):Prop:=match str,v with
 | true,.str l=>l.length≤LIM→K (.int .i64 l.length) h n
 | false,.sl _ rows=>rows.length≤LIM→K (.int .i64 rows.length) h n
 | false,.ref id _ len=>(h id).isSome=true∧(len≤LIM→K (.int .i64 len) h n)
 | false,.nil _=>K (.int .i64 0) h n
 | _,_=>False
@[simp ↓] theorem Jw1 {l:List UInt8} : Jsq true (.str l) h n K=(l.length≤LIM→K (.int .i64 l.length) h n):=rfl
@[simp ↓] theorem Jy6 {sz:Nat}{rows:List (List AV)} : Jsq false (.sl sz rows) h n K=(rows.length≤LIM→K (.int .i64 rows.length) h n):=rfl
@[simp ↓] theorem Jwj {id off len:Nat} : Jsq false (.ref id off len) h n K=((h id).isSome=true∧(len≤LIM→K (.int .i64 len) h n)):=rfl
@[simp ↓] theorem Jvf {sz:Nat} : Jsq false (.nil sz) h n K=K (.int .i64 0) h n:=rfl
def Jti (str:Bool) (v:AV) (h:Heap) (n:Nat) (K:AV→Heap→Nat→Prop):Prop:=match str,v with
 | true,.str l=>K (.int .i64 l.length) h n
 | false,.sl _ rows=>K (.int .i64 rows.length) h n
 | false,.ref id _ len=>(h id).isSome=true∧K (.int .i64 len) h n
 | false,.nil _=>K (.int .i64 0) h n
 | _,_=>False
@[simp ↓] theorem Jx1 {l:List UInt8} : Jti true (.str l) h n K=K (.int .i64 l.length) h n:=rfl
@[simp ↓] theorem K01 {sz:Nat}{rows:List (List AV)} : Jti false (.sl sz rows) h n K=K (.int .i64 rows.length) h n:=rfl
@[simp ↓] theorem Jvw {id off len:Nat} : Jti false (.ref id off len) h n K=((h id).isSome=true∧K (.int .i64 len) h n):=rfl
@[simp ↓] theorem Jve {sz:Nat} : Jti false (.nil sz) h n K=K (.int .i64 0) h n:=rfl
def Jpw (id:Nat) (y:AV):Prop:=match y with | .ref id2 _ _=>id2≠id|_=>True
def Jup (bytes sz:Nat) (x y:AV) (h:Heap) (n:Nat) (K:AV→Heap→Nat→Prop):Prop:=match x with
 | .nil _=>onO (J4e h y) fun p=>p.1=sz∧(p.2.1.length*bytes≤LIM)∧K (.ref n 0 p.2.1.length) (upd p.2.2 n (some ⟨false,sz,p.2.1⟩)) (n+1)
 | .ref id off len=>off=0∧onO (J4e h y) fun p=>onO (h id) fun B=>B.box=false∧B.sz=sz∧len≤B.rows.length∧p.1=sz ∧
  Jpw id y∧((len+p.2.1.length)*bytes≤LIM) ∧
  K (.ref n 0 (len+p.2.1.length)) (upd (upd p.2.2 id Option.none) n (some ⟨false,sz,B.rows.take len++p.2.1⟩)) (n+1)
 | _=>False
@[congr] theorem Jrt {bytes sz:Nat}{x x' y y':AV}(hx:x=x') (hy:y=y'):Jup bytes sz x y h n K=Jup bytes sz x' y' h n K:=by subst hx hy;rfl
@[simp ↓] theorem Jwp {bytes sz z:Nat}{y:AV} : Jup bytes sz (.nil z) y h n K=onO (J4e h y) fun p=>p.1=sz∧(p.2.1.length*bytes≤LIM)∧K (.ref n 0 p.2.1.length) (upd p.2.2 n (some ⟨false,sz,p.2.1⟩)) (n+1):=rfl
@[simp ↓] theorem Jw2 {bytes sz id off len:Nat}{y:AV} : Jup bytes sz (.ref id off len) y h n K=(off=0∧onO (J4e h y) fun p=>onO (h id) fun B=>B.box=false∧B.sz=sz∧len≤B.rows.length∧p.1=sz ∧
 Jpw id y∧((len+p.2.1.length)*bytes≤LIM) ∧
 K (.ref n 0 (len+p.2.1.length)) (upd (upd p.2.2 id Option.none) n (some ⟨false,sz,B.rows.take len++p.2.1⟩)) (n+1)):=rfl
def Jm0 (neg:Bool) (x:AV) (h:Heap) (n:Nat) (K:AV→Heap→Nat→Prop):Prop:=match x with
 | .sl _ rows=>(rows=[]→K (.bool (!neg)) h n)∧K (.bool neg) h n
 | .nil _=>K (.bool (!neg)) h n
 | .ref id _ len=>(h id).isSome=true∧(len=0→K (.bool (!neg)) h n)∧K (.bool neg) h n
 | _=>False
@[simp ↓] theorem Jvs {neg:Bool}{sz:Nat}{rows:List (List AV)} : Jm0 neg (.sl sz rows) h n K=((rows=[]→K (.bool (!neg)) h n)∧K (.bool neg) h n):=rfl
@[simp ↓] theorem Juf {neg:Bool}{sz:Nat} : Jm0 neg (.nil sz) h n K=K (.bool (!neg)) h n:=rfl
@[simp ↓] theorem Juh {neg:Bool}{id off len:Nat} : Jm0 neg (.ref id off len) h n K=((h id).isSome=true∧(len=0→K (.bool (!neg)) h n)∧K (.bool neg) h n):=rfl
def Jqn (bytes sz:Nat) (x y:AV) (h:Heap) (n:Nat) (K:AV→Heap→Nat→Prop):Prop:=match x with
 | .nil _=>onO (J4c h y) fun p=>p.1=sz∧(p.2.length*bytes≤LIM)∧K (.ref n 0 p.2.length) (upd h n (some ⟨true,sz,p.2⟩)) (n+1)
 | .ref id off len=>off=0∧onO (J4c h y) fun p=>onO (h id) fun B=>B.box=true∧B.sz=sz∧len≤B.rows.length∧p.1=sz∧((len+p.2.length)*bytes≤LIM) ∧
  K (.ref n 0 (len+p.2.length)) (upd (upd h id Option.none) n (some ⟨true,sz,B.rows.take len++p.2⟩)) (n+1)
 | _=>False
@[simp ↓] theorem Jsl {bytes sz z:Nat}{y:AV} : Jqn bytes sz (.nil z) y h n K=onO (J4c h y) fun p=>p.1=sz∧(p.2.length*bytes≤LIM)∧K (.ref n 0 p.2.length) (upd h n (some ⟨true,sz,p.2⟩)) (n+1):=rfl
@[simp ↓] theorem Ju9 {bytes sz id off len:Nat}{y:AV} : Jqn bytes sz (.ref id off len) y h n K=(off=0∧onO (J4c h y) fun p=>onO (h id) fun B=>B.box=true∧B.sz=sz∧len≤B.rows.length∧p.1=sz∧((len+p.2.length)*bytes≤LIM) ∧
 K (.ref n 0 (len+p.2.length)) (upd (upd h id Option.none) n (some ⟨true,sz,B.rows.take len++p.2⟩)) (n+1)):=rfl
def Jtn (z x k:AV) (h:Heap) (n:Nat) (K:AV→Heap→Nat→Prop):Prop:=match x,k with
 | .mp id,.str key=>onO (h id) fun B=>K ((Jaj B.rows key).getD z) h n
 | _,_=>False
@[simp ↓] theorem Jwb {z:AV}{id:Nat}{key:List UInt8} : Jtn z (.mp id) (.str key) h n K=onO (h id) fun B=>K ((Jaj B.rows key).getD z) h n:=rfl
def Jsu (x k v:AV) (h:Heap) (n:Nat) (K:AV→Heap→Nat→Prop):Prop:=match x,k with
 | .mp id,.str key=>onO (h id) fun B=>K (.tup []) (upd h id (some ⟨true,0,Jiy B.rows key v⟩)) n
 | _,_=>False
@[simp ↓] theorem Jvq {v:AV}{id:Nat}{key:List UInt8} : Jsu (.mp id) (.str key) v h n K=onO (h id) fun B=>K (.tup []) (upd h id (some ⟨true,0,Jiy B.rows key v⟩)) n:=rfl
def Jtp (x:AV) (h:Heap) (n:Nat) (K:AV→Heap→Nat→Prop):Prop:=match x with
 | .mp id=>onO (h id) fun B=>K (.int .i64 B.rows.length) h n
 | _=>False
@[simp ↓] theorem Jwl {id:Nat} : Jtp (.mp id) h n K=onO (h id) fun B=>K (.int .i64 B.rows.length) h n:=rfl
variable {P:Program}{s:Env}
@[simp ↓] theorem Juv {sz:Nat}{ps:List Opd} : aop P s h n K (.bslb sz ps)=((ps.all fun p=>(cellsOf (ev s p)).length==sz&&(cellsOf (ev s p)).all J0s)=true ∧
 K (.ref n 0 ps.length) (upd h n (some ⟨true,sz,ps.map fun p=>cellsOf (ev s p)⟩)) (n+1)):=propext Iff.rfl
@[simp ↓] theorem Jw9 {bytes sz:Nat}{x y:Opd} : aop P s h n K (.appb bytes sz x y)=Jqn bytes sz (ev s x) (ev s y) h n K:=propext Iff.rfl
@[simp ↓] theorem Jzj:aop P s h n K .mmk=K (.mp n) (upd h n (some ⟨true,0,[]⟩)) (n+1):=propext Iff.rfl
@[simp ↓] theorem Jwn {z:AV}{x k:Opd} : aop P s h n K (.mget z x k)=Jtn z (ev s x) (ev s k) h n K:=propext Iff.rfl
@[simp ↓] theorem Jwz {x k v:Opd} : aop P s h n K (.mput x k v)=Jsu (ev s x) (ev s k) (ev s v) h n K:=propext Iff.rfl
@[simp ↓] theorem Jux {x:Opd} : aop P s h n K (.mlen x)=Jtp (ev s x) h n K:=propext Iff.rfl
@[simp ↓] theorem Jwd {neg:Bool}{x:Opd} : aop P s h n K (.inil neg x)=Jm0 neg (ev s x) h n K:=propext Iff.rfl
@[simp ↓] theorem K06 {x:Opd} : aop P s h n K (.mv x)=K (ev s x) h n:=propext Iff.rfl
@[simp ↓] theorem Jzn {z:List AV} : aop P s h n K (.box z)=K (.ptr n 0 0) (upd h n (some ⟨true,z.length,[z]⟩)) (n+1):=propext Iff.rfl
@[simp ↓] theorem Jx0 {x:Opd} : aop P s h n K (.boxv x)=(0<(cellsOf (ev s x)).length∧(cellsOf (ev s x)).all J0s=true∧K (.ptr n 0 0) (upd h n (some ⟨true,(cellsOf (ev s x)).length,[cellsOf (ev s x)]⟩)) (n+1)):=propext Iff.rfl
@[simp ↓] theorem Jse {z:List AV}{ps:List (Nat×Nat×Opd)} : aop P s h n K (.build z ps)=((ps.all fun p=>(cellsOf (ev s p.2.2)).all J0s)=true∧onO (Jgt z (ps.map fun p=>(p.1,p.2.1,ev s p.2.2))) fun cs=>K (.agg cs) h n):=propext Iff.rfl
@[simp ↓] theorem Jzy {sz:Nat}{ps:List Opd} : aop P s h n K (.bsl sz ps)=onO (dtl (ps.map (ev s)) h) fun q=>(q.1.all fun a=>(cellsOf a).length==sz&&(cellsOf a).all J0s)=true ∧
 K (.ref n 0 ps.length) (upd q.2 n (some ⟨false,sz,q.1.map cellsOf⟩)) (n+1):=propext Iff.rfl
@[simp ↓] theorem K18 {agg:Bool}{sz:Nat}{x:Opd} : aop P s h n K (.ld agg sz x)=ldV agg sz (ev s x) h n K:=propext Iff.rfl
@[simp ↓] theorem K1q {sz:Nat}{a x:Opd} : aop P s h n K (.st sz a x)=stV sz (ev s a) (ev s x) h n K:=propext Iff.rfl
@[simp ↓] theorem Jxk {op:BinOp}{x y:Opd} : aop P s h n K (.bin op x y)=Jsz op (ev s x) (ev s y) h n K:=propext Iff.rfl
@[simp ↓] theorem Jyu {neg:Bool}{x y:Opd} : aop P s h n K (.beq neg x y)=K09 neg (ev s x) (ev s y) h n K:=propext Iff.rfl
@[simp ↓] theorem K0l {op:UnOp}{x:Opd} : aop P s h n K (.un op x)=unV op (ev s x) h n K:=propext Iff.rfl
@[simp ↓] theorem Jz7 {k:IntKind}{x:Opd} : aop P s h n K (.cvi k x)=onO (asI (ev s x)) fun a=>K (.int k (k.wrap a)) h n:=propext Iff.rfl
@[simp ↓] theorem Jye {x:Opd} : aop P s h n K (.cvb x)=onO (J4e h (ev s x)) fun p=>onO (bytesOf p.2.1) fun l=>K (.str l) h n:=propext Iff.rfl
@[simp ↓] theorem Jzi {f:Fn}{fi ca:List Opd} : aop P s h n K (.mkf f fi ca)=K (.fn f (fi.map (ev s)) (ca.map (ev s))) h n:=propext Iff.rfl
@[simp ↓] theorem Jzc {bytes:Nat}{z:List AV}{l c:Opd} : aop P s h n K (.mks bytes z l c)=onO (asI (ev s l)) fun l=>onO (asI (ev s c)) fun c=>0≤l∧l≤c∧c*bytes≤LIM ∧
 K (.ref n 0 l.toNat) (upd h n (some ⟨false,z.length,List.replicate l.toNat z⟩)) (n+1):=propext Iff.rfl
@[simp ↓] theorem Jzd {str:Bool}{sz:Nat}{x:Opd}{lo hi:Option Opd} : aop P s h n K (.slc str sz x lo hi)=Juc str sz (ev s x) s lo hi h n K:=propext Iff.rfl
@[simp ↓] theorem Jxs {off:Nat}{x:Opd} : aop P s h n K (.fld off x)=Jx3 off (ev s x) h n K:=propext Iff.rfl
@[simp ↓] theorem Jzv {sz:Nat}{x i:Opd} : aop P s h n K (.ixa sz x i)=Jz1 sz (ev s x) (asI (ev s i)) h n K:=propext Iff.rfl
@[simp ↓] theorem Jx6 {x i:Opd} : aop P s h n K (.ixs x i)=K0s (ev s x) (asI (ev s i)) h n K:=propext Iff.rfl
@[simp ↓] theorem Jxq {x:Opd}{i:Nat} : aop P s h n K (.ext x i)=K0m (ev s x) i h n K:=propext Iff.rfl
@[simp ↓] theorem Jvn {f:Opd}{args:List Opd} : aop P s h n K (.call f args)=Jop P (ev s f) (args.map (ev s)) h n K:=propext Iff.rfl
@[simp ↓] theorem Jx5 {str:Bool}{x:Opd} : aop P s h n K (.len str x)=Jsq str (ev s x) h n K:=propext Iff.rfl
@[simp ↓] theorem Jy5 {bytes sz:Nat}{x y:Opd} : aop P s h n K (.app bytes sz x y)=Jup bytes sz (ev s x) (ev s y) h n K:=propext Iff.rfl
end
section
variable {P:Program}{s s':Env}{h h':Heap}{n n':Nat}{ks:List Kt}{Q:Fin}
@[congr] theorem Jsw {α:Type}{x x':Option α}{K:α→Prop}(hs:x=x'):onO x K=onO x' K:=by subst hs;rfl
@[simp ↓] theorem Jvc {α:Type}{a:α}{K:α→Prop} : onO (some a) K=K a:=propext Iff.rfl
@[simp ↓] theorem Jwm {α:Type}{K:α→Prop} : onO Option.none K=False:=propext Iff.rfl
@[simp ↓] theorem Jyj:rC P .skip ks s h n Q=J40 P ks .normal s h n Q:=propext Iff.rfl
@[simp ↓] theorem K1c {os:List AO} : rC P (.reg os) ks s h n Q=rO P os ks s h n Q:=propext Iff.rfl
@[simp ↓] theorem Jfn {a b:AC} : rC P (.seq a b) ks s h n Q=rC P a (.seq b::ks) s h n Q:=by
 simp only [rC,awp];congr
@[simp ↓] theorem Jsv {id:Nat}{a:AC} : rC P (.blk id a) ks s h n Q=rC P a (.blk id::ks) s h n Q:=by
 simp only [rC,awp];congr
@[simp ↓] theorem Jy3 {a:AC} : rC P (.loop a) ks s h n Q=rL P a ks s h n Q:=propext Iff.rfl
@[simp ↓] theorem Jzu {id:Nat} : rC P (.exit id) ks s h n Q=J40 P ks (.exit id) s h n Q:=propext Iff.rfl
@[simp ↓] theorem K0g:rC P .ret ks s h n Q=J40 P ks .ret s h n Q:=propext Iff.rfl
@[simp ↓] theorem Jyv {t:DT} : rC P (.draw t) ks s h n Q=rD P t ks s h n Q:=propext Iff.rfl
@[simp ↓] theorem J8b {c:Opd}{a b:AC} : rC P (.cond c a b) ks s h n Q=Jr0 (ev s c) (rC P a ks s h n Q) (rC P b ks s h n Q):=propext Iff.rfl
@[simp ↓] theorem Jv1 {e:AE} : J40 P [] e s h n Q=Q e s h n:=propext Iff.rfl
@[simp ↓] theorem Jb1 {b:AC} : J40 P (.seq b::ks) .normal s h n Q=rC P b ks s h n Q:=propext Iff.rfl
@[simp ↓] theorem Jnw {b:AC} : J40 P (.seq b::ks) .ret s h n Q=J40 P ks .ret s h n Q:=propext Iff.rfl
@[simp ↓] theorem Jmz {b:AC}{i:Nat} : J40 P (.seq b::ks) (.exit i) s h n Q=J40 P ks (.exit i) s h n Q:=propext Iff.rfl
@[simp ↓] theorem Jwq {i:Nat} : J40 P (.blk i::ks) .normal s h n Q=J40 P ks .normal s h n Q:=propext Iff.rfl
@[simp ↓] theorem Jo6 {i:Nat} : J40 P (.blk i::ks) .ret s h n Q=J40 P ks .ret s h n Q:=propext Iff.rfl
@[simp ↓] theorem Jlp {i j:Nat} : J40 P (.blk i::ks) (.exit j) s h n Q=if j=i then J40 P ks .normal s h n Q else J40 P ks (.exit j) s h n Q:=propext Iff.rfl
@[simp ↓] theorem K1w:rO P [] ks s h n Q=J40 P ks .normal s h n Q:=propext Iff.rfl
@[simp ↓] theorem K05 {d:Option Nat}{op:AOp}{os:List AO} : rO P (⟨d,op,Option.none⟩::os) ks s h n Q=aop P s h n (Jl3 P os ks d s Q) op:=propext Iff.rfl
@[simp ↓] theorem Jaw {d:Option Nat}{op:AOp}{j:Nat}{want:Bool}{os:List AO} : rO P (⟨d,op,some (j,want)⟩::os) ks s h n Q=Jbx (s j) want (aop P (upd s j (.bool want)) h n (Jl3 P os ks d (upd s j (.bool want)) Q) op) (rO P os ks (J4g (upd s j (.bool (!want))) d (.tup [])) h n Q) (rO P os ks (J4g s d (.tup [])) h n Q):=propext Iff.rfl
@[simp ↓] theorem Jvm {os:List AO}{d:Option Nat}{r:AV} : Jl3 P os ks d s Q r h n=rO P os ks (J4g s d r) h n Q:=propext Iff.rfl
@[simp ↓] theorem K1x:rD P .fin ks s h n Q=J40 P ks .normal s h n Q:=propext Iff.rfl
@[simp ↓] theorem Jv3:rD P .stuck ks s h n Q=False:=propext Iff.rfl
@[simp ↓] theorem Jyd {a b:DT} : rD P (.both a b) ks s h n Q=(rD P a ks s h n Q∧rD P b ks s h n Q):=propext Iff.rfl
@[simp ↓] theorem rD_op {d:Option Nat}{op:AOp}{t:DT} : rD P (.op ⟨d,op,Option.none⟩ t) ks s h n Q=J4j P s h n (Jjx P t ks d s Q) op:=propext Iff.rfl
@[simp ↓] theorem Jav {d:Option Nat}{op:AOp}{j:Nat}{want:Bool}{t:DT} : rD P (.op ⟨d,op,some (j,want)⟩ t) ks s h n Q=Jbx (s j) want (J4j P (upd s j (.bool want)) h n (Jjx P t ks d (upd s j (.bool want)) Q) op) (rD P t ks (J4g (upd s j (.bool (!want))) d (.tup [])) h n Q) (rD P t ks (J4g s d (.tup [])) h n Q):=propext Iff.rfl
@[simp ↓ high] theorem K0o {d:Option Nat}{op:AOp}{j:Nat}{os:List AO}(hj:s j = .bool true):rO P (⟨d,op,some (j,true)⟩::os) ks s h n Q=aop P s h n (Jl3 P os ks d s Q) op:=by
 rw [Jaw,hj];simp [J28 hj]
@[simp ↓ high] theorem K10 {d:Option Nat}{op:AOp}{j:Nat}{t:DT}(hj:s j = .bool true):rD P (.op ⟨d,op,some (j,true)⟩ t) ks s h n Q=J4j P s h n (Jjx P t ks d s Q) op:=by
 rw [Jav,hj];simp [J28 hj]
@[simp ↓ high] theorem K0d {d:Option Nat}{op:AOp}{j:Nat}{os:List AO}(hj:s j = .bool false):rO P (⟨d,op,some (j,true)⟩::os) ks s h n Q=rO P os ks (J4g s d (.tup [])) h n Q:=by
 rw [Jaw,hj];simp [J28 hj]
@[simp ↓ high] theorem K0b {d:Option Nat}{op:AOp}{j:Nat}{t:DT}(hj:s j = .bool false):rD P (.op ⟨d,op,some (j,true)⟩ t) ks s h n Q=rD P t ks (J4g s d (.tup [])) h n Q:=by
 rw [Jav,hj];simp [J28 hj]
@[simp ↓ high] theorem K1y {d:Option Nat}{op:AOp}{j:Nat}{os:List AO}(hj:s j = .bool true):rO P (⟨d,op,some (j,false)⟩::os) ks s h n Q=rO P os ks (J4g s d (.tup [])) h n Q:=by
 rw [Jaw,hj];simp [J28 hj]
@[simp ↓ high] theorem K1i {d:Option Nat}{op:AOp}{j:Nat}{t:DT}(hj:s j = .bool true):rD P (.op ⟨d,op,some (j,false)⟩ t) ks s h n Q=rD P t ks (J4g s d (.tup [])) h n Q:=by
 rw [Jav,hj];simp [J28 hj]
@[simp ↓ high] theorem K1f {d:Option Nat}{op:AOp}{j:Nat}{os:List AO}(hj:s j = .bool false):rO P (⟨d,op,some (j,false)⟩::os) ks s h n Q=aop P s h n (Jl3 P os ks d s Q) op:=by
 rw [Jaw,hj];simp [J28 hj]
@[simp ↓ high] theorem K1k {d:Option Nat}{op:AOp}{j:Nat}{t:DT}(hj:s j = .bool false):rD P (.op ⟨d,op,some (j,false)⟩ t) ks s h n Q=J4j P s h n (Jjx P t ks d s Q) op:=by
 rw [Jav,hj];simp [J28 hj]
@[simp ↓] theorem K0i {d:Option Nat}{op:AOp}{ps:List AOp}{t:DT} : rD P (.hop ⟨d,op,Option.none⟩ ps t) ks s h n Q=J4j P s h n (Jp7 P ps t ks d s h Q) op:=propext Iff.rfl
@[simp ↓] theorem Ju5 {d:Option Nat}{op:AOp}{ps:List AOp}{j:Nat}{want:Bool}{t:DT} : rD P (.hop ⟨d,op,some (j,want)⟩ ps t) ks s h n Q=Jbx (s j) want (J4j P (upd s j (.bool want)) h n (Jp7 P ps t ks d (upd s j (.bool want)) h Q) op) (rD P t ks (J4g (upd s j (.bool (!want))) d (.tup [])) h n Q) (rD P t ks (J4g s d (.tup [])) h n Q):=propext Iff.rfl
@[simp ↓] theorem Jwh {ps:List AOp}{t:DT}{d:Option Nat}{h0:Heap}{r:AV} : Jp7 P ps t ks d s h0 Q r h n=(Jco ps s h0 h∧rD P t ks (J4g s d r) h n Q):=propext Iff.rfl
@[simp] theorem Jtt {h0:Heap} : Jco [] s h0 h=True:=by simp [Jco]
@[simp] theorem Jro {h0:Heap}{p:AOp}{ps:List AOp} : Jco (p::ps) s h0 h=(keepL s h0 h p∧Jco ps s h0 h):=by simp [Jco]
@[simp ↓] theorem Jvb {t:DT}{d:Option Nat}{r:AV} : Jjx P t ks d s Q r h n=rD P t ks (J4g s d r) h n Q:=propext Iff.rfl
@[simp ↓] theorem Jws {res:List RV}{Q:AV→Prop} : Jww res Q .ret s h n=onO (J7v s h res) fun xs=>onO (dt (J7t xs) h) fun q=>J16 q.1=true∧Q q.1:=propext Iff.rfl
@[simp ↓] theorem Jpl {res:List RV}{Q:AV→Prop} : Jww res Q .normal s h n=onO (J7v s h res) fun xs=>onO (dt (J7t xs) h) fun q=>J16 q.1=true∧Q q.1:=propext Iff.rfl
@[simp ↓] theorem Juy {K:AV→Heap→Nat→Prop}{c a b:Opd} : aop P s h n K (.pick c a b)=Jr0 (ev s c) (K (ev s a) h n) (K (ev s b) h n):=propext Iff.rfl
theorem Jla {f:Opd}{args:List Opd}{K:AV→Heap→Nat→Prop} : J4j P s h n K (.call f args)=Jop P (ev s f) (args.map (ev s)) h n (hK h K):=propext Iff.rfl
theorem Jak {a:AC}(I:Nat→Env→Heap→Nat→Prop) (k:Nat) (h0:I k s h n)
 (hs:∀ k s h n,I k s h n→rC P a [] s h n fun e s' h' n'=>match e with | .normal=>∃ k',k'<k∧I k' s' h' n'|e=>J40 P ks e s' h' n' Q):rL P a ks s h n Q:=⟨I,⟨k,h0⟩,hs⟩
end
theorem J01 {P:Program}{f:FuncId}{fn:Func}{af:AFn}{as:List AV}{Q:AV→Prop}{bx:Bool}(hf:P.funcs[f]? = some fn) (hc:J7a bx P fn=some af) (hn:(fn.name == "runtime.NumGoroutine")=false) (hl:as.length≤af.nt)
 (hr:rC P af.body [] (Jfa as) J53 0 (Jww af.res Q)):Holds P f as Q:=by
 refine Jcl (J6p hf hc hn ⟨hl,?_⟩)
 unfold rC at hr
 have:(fun e s h n=>J40 P [] e s h n (Jww af.res Q))=fun e s h n=>match e with
  | .exit _=>False
  | _=>onO (J7v s h af.res) fun xs=>onO (dt (J7t xs) h) fun q=>J16 q.1=true∧Q q.1:=by
  funext e s h n;cases e <;> rfl
 rw [this] at hr
 exact hr
theorem J03 {P:Program}{f:FuncId}{xs xs':List AV}{h:Heap}{n:Nat}{Q:AV→Prop}{K:AV→Heap→Nat→Prop}(hh:Holds P f xs' Q) (hb:bwl xs h=some xs')
 (hK:∀ r,Q r→K (sub r n) (J2n h n (col r)) (n+(col r).length)):J1u P f xs h n K:=J7z hh hb hK
theorem J02 {P:Program}{f:FuncId}{xs xs':List AV}{h:Heap}{n:Nat}{Q:AV→Prop}{K:AV→Heap→Nat→Prop}(hh:Holds P f xs' Q) (hb:bwl xs h=some xs')
 (hK':∀ r,Q r→K (sub r n) (J2n h n (col r)) (n+(col r).length)):J1u P f xs h n (hK h K):=Jbj hh hb hK'
@[simp ↓] theorem Jy9 {P:Program}{s:Env}{h:Heap}{n:Nat}{K:AV→Heap→Nat→Prop}{x} : J4j P s h n K (.mv x)=aop P s h n K (.mv x):=propext Iff.rfl
@[simp ↓] theorem Jtb {P:Program}{s:Env}{h:Heap}{n:Nat}{K:AV→Heap→Nat→Prop}{c} {a} {b} : J4j P s h n K (.pick c a b)=aop P s h n K (.pick c a b):=propext Iff.rfl
@[simp ↓] theorem Jvv {P:Program}{s:Env}{h:Heap}{n:Nat}{K:AV→Heap→Nat→Prop}{z} : J4j P s h n K (.box z)=aop P s h n K (.box z):=propext Iff.rfl
@[simp ↓] theorem Jtd {P:Program}{s:Env}{h:Heap}{n:Nat}{K:AV→Heap→Nat→Prop}{x} : J4j P s h n K (.boxv x)=aop P s h n K (.boxv x):=propext Iff.rfl
@[simp ↓] theorem Js2 {P:Program}{s:Env}{h:Heap}{n:Nat}{K:AV→Heap→Nat→Prop}{z} {ps} : J4j P s h n K (.build z ps)=aop P s h n K (.build z ps):=propext Iff.rfl
@[simp ↓] theorem Jw6 {P:Program}{s:Env}{h:Heap}{n:Nat}{K:AV→Heap→Nat→Prop}{sz} {ps} : J4j P s h n K (.bsl sz ps)=aop P s h n K (.bsl sz ps):=propext Iff.rfl
@[simp ↓] theorem Jz6 {P:Program}{s:Env}{h:Heap}{n:Nat}{K:AV→Heap→Nat→Prop}{g} {sz} {x} : J4j P s h n K (.ld g sz x)=aop P s h n K (.ld g sz x):=propext Iff.rfl
@[simp ↓] theorem Jxe {P:Program}{s:Env}{h:Heap}{n:Nat}{K:AV→Heap→Nat→Prop}{sz} {a} {x} : J4j P s h n K (.st sz a x)=aop P s h n K (.st sz a x):=propext Iff.rfl
@[simp ↓] theorem Jtq {P:Program}{s:Env}{h:Heap}{n:Nat}{K:AV→Heap→Nat→Prop}{x} : J4j P s h n K (.nchk x)=aop P s h n K (.nchk x):=propext Iff.rfl
@[simp ↓] theorem Jvx {P:Program}{s:Env}{h:Heap}{n:Nat}{K:AV→Heap→Nat→Prop}{op} {x} {y} : J4j P s h n K (.bin op x y)=aop P s h n K (.bin op x y):=propext Iff.rfl
@[simp ↓] theorem Jw7 {P:Program}{s:Env}{h:Heap}{n:Nat}{K:AV→Heap→Nat→Prop}{g} {x} {y} : J4j P s h n K (.beq g x y)=aop P s h n K (.beq g x y):=propext Iff.rfl
@[simp ↓] theorem Jzp {P:Program}{s:Env}{h:Heap}{n:Nat}{K:AV→Heap→Nat→Prop}{op} {x} : J4j P s h n K (.un op x)=aop P s h n K (.un op x):=propext Iff.rfl
@[simp ↓] theorem Jv8 {P:Program}{s:Env}{h:Heap}{n:Nat}{K:AV→Heap→Nat→Prop}{k} {x} : J4j P s h n K (.cvi k x)=aop P s h n K (.cvi k x):=propext Iff.rfl
@[simp ↓] theorem Jv4 {P:Program}{s:Env}{h:Heap}{n:Nat}{K:AV→Heap→Nat→Prop}{x} : J4j P s h n K (.cvb x)=aop P s h n K (.cvb x):=propext Iff.rfl
@[simp ↓] theorem Jv5 {P:Program}{s:Env}{h:Heap}{n:Nat}{K:AV→Heap→Nat→Prop}{f} {fi} {ca} : J4j P s h n K (.mkf f fi ca)=aop P s h n K (.mkf f fi ca):=propext Iff.rfl
@[simp ↓] theorem Jwu {P:Program}{s:Env}{h:Heap}{n:Nat}{K:AV→Heap→Nat→Prop}{b} {z} {l} {c} : J4j P s h n K (.mks b z l c)=aop P s h n K (.mks b z l c):=propext Iff.rfl
@[simp ↓] theorem Jv9 {P:Program}{s:Env}{h:Heap}{n:Nat}{K:AV→Heap→Nat→Prop}{st} {sz} {x} {lo} {hi} : J4j P s h n K (.slc st sz x lo hi)=aop P s h n K (.slc st sz x lo hi):=propext Iff.rfl
@[simp ↓] theorem Jwf {P:Program}{s:Env}{h:Heap}{n:Nat}{K:AV→Heap→Nat→Prop}{o} {x} : J4j P s h n K (.fld o x)=aop P s h n K (.fld o x):=propext Iff.rfl
@[simp ↓] theorem Jw8 {P:Program}{s:Env}{h:Heap}{n:Nat}{K:AV→Heap→Nat→Prop}{g} {o} {sz} {x} : J4j P s h n K (.prt g o sz x)=aop P s h n K (.prt g o sz x):=propext Iff.rfl
@[simp ↓] theorem Jvr {P:Program}{s:Env}{h:Heap}{n:Nat}{K:AV→Heap→Nat→Prop}{sz} {x} {i} : J4j P s h n K (.ixa sz x i)=aop P s h n K (.ixa sz x i):=propext Iff.rfl
@[simp ↓] theorem Jvi {P:Program}{s:Env}{h:Heap}{n:Nat}{K:AV→Heap→Nat→Prop}{x} {i} : J4j P s h n K (.ixs x i)=aop P s h n K (.ixs x i):=propext Iff.rfl
@[simp ↓] theorem Jwy {P:Program}{s:Env}{h:Heap}{n:Nat}{K:AV→Heap→Nat→Prop}{x} {i} : J4j P s h n K (.ext x i)=aop P s h n K (.ext x i):=propext Iff.rfl
@[simp ↓] theorem Jvj {P:Program}{s:Env}{h:Heap}{n:Nat}{K:AV→Heap→Nat→Prop}{b} {sz} {x} {y} : J4j P s h n K (.app b sz x y)=aop P s h n K (.app b sz x y):=propext Iff.rfl
@[simp ↓] theorem Jvd {P:Program}{s:Env}{h:Heap}{n:Nat}{K:AV→Heap→Nat→Prop}{m} {x} {y} : J4j P s h n K (.mnx m x y)=aop P s h n K (.mnx m x y):=propext Iff.rfl
@[simp ↓] theorem Jv2 {P:Program}{s:Env}{h:Heap}{n:Nat}{K:AV→Heap→Nat→Prop}{g} {ks} {x y} : J4j P s h n K (.aeq g ks x y)=aop P s h n K (.aeq g ks x y):=propext Iff.rfl
@[simp ↓] theorem Jsk {P:Program}{s:Env}{h:Heap}{n:Nat}{K:AV→Heap→Nat→Prop}{sz} {ps} : J4j P s h n K (.bslb sz ps)=aop P s h n K (.bslb sz ps):=propext Iff.rfl
@[simp ↓] theorem Jtg {P:Program}{s:Env}{h:Heap}{n:Nat}{K:AV→Heap→Nat→Prop}{b sz} {x y} : J4j P s h n K (.appb b sz x y)=aop P s h n K (.appb b sz x y):=propext Iff.rfl
@[simp ↓] theorem Jw0 {P:Program}{s:Env}{h:Heap}{n:Nat}{K:AV→Heap→Nat→Prop} : J4j P s h n K .mmk=aop P s h n K .mmk:=propext Iff.rfl
@[simp ↓] theorem Jtx {P:Program}{s:Env}{h:Heap}{n:Nat}{K:AV→Heap→Nat→Prop}{z} {x k} : J4j P s h n K (.mget z x k)=aop P s h n K (.mget z x k):=propext Iff.rfl
@[simp ↓] theorem Ju3 {P:Program}{s:Env}{h:Heap}{n:Nat}{K:AV→Heap→Nat→Prop}{x k v} : J4j P s h n K (.mput x k v)=aop P s h n K (.mput x k v):=propext Iff.rfl
@[simp ↓] theorem Jtl {P:Program}{s:Env}{h:Heap}{n:Nat}{K:AV→Heap→Nat→Prop}{x} : J4j P s h n K (.mlen x)=aop P s h n K (.mlen x):=propext Iff.rfl
@[simp ↓] theorem Jtr {P:Program}{s:Env}{h:Heap}{n:Nat}{K:AV→Heap→Nat→Prop}{g} {x} : J4j P s h n K (.inil g x)=aop P s h n K (.inil g x):=propext Iff.rfl
@[simp ↓] theorem Jwr {P:Program}{s:Env}{h:Heap}{n:Nat}{K:AV→Heap→Nat→Prop}{g:Bool}{x:Opd} : J4j P s h n K (.len g x)=Jti g (ev s x) h n K:=propext Iff.rfl
attribute [simp] eqK keepL J8p J7c dtl col Jhw sub Jga J2n bw bwl J25 J2q drl drr dr Jpw Jla ev J4g upd Jfa cellsOf J0s J8z ldv J7v Jjy J7t dt J16 Jsp asI J5x i64 Ju4
@[simp] theorem Jnz (l:List Int):(J38 l).length=l.length:=by simp [J38]
@[simp] theorem Jum (l:List Int) (i:Nat):(J38 l)[i]? = (l[i]?).map fun n=>[i64 n]:=by simp [J38]
@[simp] theorem Jmw (l:List Int) (i:Nat) (h:i<(J38 l).length):(J38 l)[i]=[i64 (l[i]'(by simpa using h))]:=by simp [J38]
@[simp] theorem Jut (l:List Int):drr (J38 l)=J38 l:=by rw [J48];simp [J38,drl,dr,i64]
@[simp] theorem Jq2 (l:List Int):J2q (J38 l)=true:=by rw [J23];simp [J38,J25,J16,i64]
@[simp] theorem Jpu {α:Type}(f:Nat→α) (k:Nat) (a b:α):upd (upd f k a) k b=upd f k b:=by funext i;simp only [upd];split <;> rfl
@[simp] theorem Jrk (l:List Int):List.take l.length (J38 l)=J38 l:=List.take_of_length_le (by simp)
theorem J0w {x:Int}(h : -9223372036854775808≤x∧x<9223372036854775808):IntKind.i64.wrap x=x:=by
 rw [IntKind.wrap_i64];omega
open Go Go.RowKit
def Jhj (P:Program):Nat→List Field→Bool
 | _,[]=>true
 | off,f::fl=>Nat.beq f.offset off&&Jhj P (off+P.cellsOf f.type) fl
def Jgr (P:Program):List Field→Nat
 | []=>0
 | f::fl=>P.cellsOf f.type+Jgr P fl
def plain (P:Program):Nat→TypeId→Bool
 | 0,_=>false
 | f+1,t=>match P.underlying t with
  | some .bool=>Nat.beq (P.cellsOf t) 1
  | some (.int _)=>Nat.beq (P.cellsOf t) 1
  | some .string=>Nat.beq (P.cellsOf t) 1
  | some (.slice e)=>Nat.beq (P.cellsOf t) 1&&Nat.blt 0 (P.cellsOf e)&&Nat.blt 0 (P.bytesOf e)&&plain P f e
  | some (.struct fs)=>Jhj P 0 fs.toList&&Nat.beq (P.cellsOf t) (Jgr P fs.toList)&&fs.toList.all fun x=>plain P f x.type
  | _=>false
def Jlj {α β:Type}(R:α→β→Prop):List α→List β→Prop
 | [],[]=>True
 | a::l,b::m=>R a b∧Jlj R l m
 | _,_=>False
def Row (P:Program):Nat→TypeId→List AV→Prop
 | 0,_,_=>False
 | f+1,t,row=>match P.underlying t with
  | some .bool=>∃ b,row=[.bool b]
  | some (.int k)=>∃ n,row=[.int k n]∧(Lit.int k n).wf=true
  | some .string=>∃ l:List UInt8,row=[.str l]∧l.length≤LIM
  | some (.slice e)=>∃ rows:List (List AV),row=[.sl (P.cellsOf e) rows]∧rows.length≤LIM∧∀ r∈rows,Row P f e r
  | some (.struct fs)=>∃ parts:List (List AV),row=parts.flatten∧Jlj (fun (x:Field) r=>Row P f x.type r) fs.toList parts
  | _=>False
section
variable {P:Program}{W:World}{H:Type}{enc:TypeId×Value→H}
theorem Jme {a:AV}{v:Value}{S:List Nat}(h:VR W Lo 0 a v S) (hc:J0s a=true):v.oneCell'=true:=by
 cases a <;> simp only [J0s,Bool.false_eq_true] at hc <;> simp only [VR] at h
 case mp=>exact h.1.2.1
 case int=>rw [h.1];rfl
 case bool=>rw [h.1];rfl
 case str=>obtain ⟨⟨b,rfl,_⟩,_⟩:=h;rfl
 case nil=>rw [h.1];rfl
 case nilp=>rw [h.1];rfl
 case ptr=>exact h.1.2.1
 case fptr=>obtain ⟨⟨_,_,_,rfl,_⟩,_⟩:=h;rfl
 case ref=>exact h.1.2.1
 case sl=>obtain ⟨⟨_,_,_,rfl,_⟩,_⟩:=h;rfl
 case us=>rcases h.2 with ⟨rfl,_⟩|⟨_,_,_,_,_,_,_,rfl,_⟩ <;> rfl
 case fn=>obtain ⟨⟨_,_,rfl,_⟩,_⟩:=h;rfl
theorem Jez:∀ {as:List AV}{vs:List Value}{S:List Nat},VRl W Lo 0 as vs S→as.all J0s=true→one vs
 | [],_,_,h,_=>by simp only [VRl] at h;rw [h.1];intro v hv;cases hv
 | a::as,_,_,h,hc=>by
  simp only [VRl] at h
  obtain ⟨v,vs',S1,S2,rfl,rfl,h1,h2⟩:=h
  simp only [List.all_cons,Bool.and_eq_true] at hc
  intro u hu
  rcases List.mem_cons.1 hu with rfl|hu
  ·exact Jme h1 hc.1
  ·exact Jez h2 hc.2 u hu
theorem Je4 {a:AV}{v:Value}(h:VR W Lo 0 a v []):VRl W Lo 0 [a] [v] []:=J0g.2 ⟨v,[],rfl,h,rfl,rfl⟩
theorem Jcj {b o:Nat}{xs ys:List Value}(h1:J1x W b o xs) (h2:J1x W b (o+xs.length) ys):J1x W b o (xs++ys):=by
 intro j v hj
 by_cases hlt:j<xs.length
 ·rw [List.getElem?_append_left hlt] at hj;exact h1 j v hj
 ·rw [List.getElem?_append_right (by omega)] at hj
  have:=h2 (j - xs.length) v hj
  rw [show o+xs.length+(j - xs.length)=o+j by omega] at this
  exact this
theorem Jl9 {α β:Type}{f:α→Option β}{l:List α}{m:List β}(h:l.mapM f=some m) {i:Nat}{b:β}(hb:m[i]? = some b):∃ a,l[i]? = some a∧f a=some b:=by
 obtain ⟨h1,h2⟩:=J7j h
 have hi:i<l.length:=by rw [←h1];exact (List.getElem?_eq_some_iff.1 hb).1
 obtain ⟨b',h3,h4⟩:=h2 i l[i] (List.getElem?_eq_getElem hi)
 rw [hb] at h3;cases h3
 exact ⟨_,List.getElem?_eq_getElem hi,h4⟩
theorem cells?_at {a:Addr}{n:Nat}{cs:List Value}(h:W.cells? 0 a n=some cs):cs.length=n∧J1x W a.block a.off cs∧(0<n→a.spot=Option.none∧a.block<W.heap.size):=by
 unfold World.cells? at h
 rw [if_pos (Nat.zero_le _)] at h
 have hl:=(J7j h).1
 simp only [List.length_range] at hl
 have key:∀ i,i<n→∃ v,cs[i]? = some v∧W.cell? (a.add i)=some v:=fun i hi=>by
  have hb:cs[i]? = some cs[i]:=List.getElem?_eq_getElem (by omega)
  obtain ⟨i',h1,h2⟩:=Jl9 h hb
  rw [List.getElem?_range hi] at h1
  cases h1
  exact ⟨_,hb,h2⟩
 have spot:0<n→a.spot=Option.none∧a.block<W.heap.size:=fun h0=>by
  obtain ⟨v,_,h2⟩:=key 0 h0
  unfold World.cell? at h2
  have:a.add 0=a:=by simp [Addr.add]
  rw [this] at h2
  split at h2
  ·rename_i hh
   split at h2
   ·cases h2
   ·rename_i hs
    exact ⟨by cases hsp:a.spot;rfl;simp [hsp] at hs,J1k hh⟩
  ·cases h2
 refine ⟨hl,fun j v hj => ?_,spot⟩
 have hjn:j<n:=by rw [←hl];exact (List.getElem?_eq_some_iff.1 hj).1
 obtain ⟨v',h1,h2⟩:=key j hjn
 rw [hj] at h1;cases h1
 have hsp:=(spot (by omega)).1
 have:a.add j=⟨a.block,a.off+j,Option.none⟩:=by
  unfold Addr.add
  split
  ·rename_i e;subst e;cases a;simp at hsp;subst hsp;simp
  ·simp
 rw [this] at h2;exact h2
theorem Jab {e:TypeId}{d:DataW H} : ∀ {l:List (DataW H)},d∈l→∀ n∈d.weights P e,n∈DataW.weightsAll P e l
 | x::l,h,n,hn=>by
  simp only [DataW.weightsAll,List.mem_append]
  rcases List.mem_cons.1 h with rfl|h
  ·exact .inl hn
  ·exact .inr (Jab h n hn)
theorem Jk3 {e:TypeId}{R:List AV→Prop}{a:Addr}{len:Nat}(hsz:0<P.cellsOf e)
 (hx:∀ i,i<len→∃ cs row,W.cells? 0 (a.add (i*P.cellsOf e)) (P.cellsOf e)=some cs∧VRl W Lo 0 row cs []∧R row∧row.all J0s=true∧row.length=P.cellsOf e) :
 ∀ k,k≤len→∃ (rows:List (List AV)) (vals:List Value),rows.length=k∧VRr W Lo 0 rows vals []∧vals.length=k*P.cellsOf e∧J1x W a.block a.off vals∧one vals∧(∀ r∈rows,R r∧r.length=P.cellsOf e)∧(0<k→a.spot=Option.none∧a.block<W.heap.size)
 | 0,_=>⟨[],[],rfl,⟨rfl,rfl⟩,by simp,(fun j v h=>by simp at h),(fun v h=>by cases h),(fun r h=>by cases h),fun h=>absurd h (Nat.lt_irrefl _)⟩
 | k+1,hk=>by
  obtain ⟨rows,vals,h1,h2,h3,h4,h5,h6,h7⟩:=Jk3 hsz hx k (by omega)
  obtain ⟨cs,row,g1,g2,g3,g4,g5⟩:=hx k (by omega)
  obtain ⟨q1,q2,q3⟩:=cells?_at g1
  have hsp:=q3 hsz
  have hadd:a.add (k*P.cellsOf e)=⟨a.block,a.off+k*P.cellsOf e,a.spot⟩∨(k*P.cellsOf e=0∧a.add (k*P.cellsOf e)=a)∨a.add (k*P.cellsOf e)=⟨a.block,a.off+k*P.cellsOf e,Option.none⟩:=by
   unfold Addr.add;split
   ·rename_i e0;exact .inr (.inl ⟨e0,rfl⟩)
   ·exact .inr (.inr rfl)
  have hblk:(a.add (k*P.cellsOf e)).block=a.block∧(a.add (k*P.cellsOf e)).off=a.off+k*P.cellsOf e:=by
   rcases hadd with h|⟨h0,h⟩|h
   ·rw [h];exact ⟨rfl,rfl⟩
   ·rw [h,h0];exact ⟨rfl,rfl⟩
   ·rw [h];exact ⟨rfl,rfl⟩
  refine ⟨rows++[row],vals++cs,by simp [h1],?_,by rw [List.length_append,h3,q1,Nat.succ_mul],Jcj h4 ?_,?_,?_,fun _ => ?_⟩
  ·rw [J2l] at h2 ⊢
   rw [List.flatten_append,J4o]
   exact ⟨vals,cs,rfl,h2,by simpa using g2⟩
  ·rw [h3,←hblk.1,←hblk.2];exact q2
  ·intro v hv
   rcases List.mem_append.1 hv with hv|hv
   ·exact h5 v hv
   ·exact Jez g2 g4 v hv
  ·intro r hr
   rcases List.mem_append.1 hr with hr|hr
   ·exact h6 r hr
   ·simp at hr;subst hr;exact ⟨g3,g5⟩
  ·by_cases hk0:k=0
   ·subst hk0
    have:a.add (0*P.cellsOf e)=a:=by simp [Addr.add]
    rw [this] at hsp;exact hsp
   ·exact h7 (by omega)
theorem Jhp {f:Nat}(ih:∀ t,plain P f t=true→∀ fuel cs d ps,DataW.trod enc P W 0 (fun _=>true) true fuel t cs=some (d,ps)→(∀ n∈d.weights P t,n≤reachBytes) →
 ∃ row,VRl W Lo 0 row cs []∧Row P f t row∧row.all J0s=true∧row.length=P.cellsOf t) {cs:List Value}{n:Nat} :
 ∀ (fl:List Field) (xs:List (DataW H×List MemPlace)) (off:Nat),Jhj P off fl=true→(fl.all fun x=>plain P f x.type)=true→off+Jgr P fl=cs.length→xs.length=fl.length →
  (∀ (i:Nat) (x:Field),fl[i]? = some x→DataW.trod enc P W 0 (fun _=>true) true n x.type ((cs.drop x.offset).take (P.cellsOf x.type))=xs[i]?) →
  (∀ k∈DataW.weightsEach P (fl.map (·.type)) (xs.map (·.1)),k≤reachBytes) →
  ∃ parts:List (List AV),VRl W Lo 0 parts.flatten (cs.drop off) []∧Jlj (fun (x:Field) r=>Row P f x.type r) fl parts∧parts.flatten.all J0s=true∧parts.flatten.length=Jgr P fl
 | [],xs,off,_,_,hl,hx,_,_=>by
  refine ⟨[],?_,trivial,rfl,rfl⟩
  simp only [Jgr] at hl
  rw [List.drop_eq_nil_of_le (by omega)]
  exact ⟨rfl,rfl⟩
 | x::fl,[],_,_,_,_,hx,_,_=>by simp at hx
 | x::fl,y::xs,off,hc,hp,hl,hx,hf,hw=>by
  simp only [Jhj,Bool.and_eq_true,Nat.beq_eq,List.all_cons,Jgr] at hc hp hl
  obtain ⟨ho,hc⟩:=hc
  have h0:=hf 0 x rfl
  simp only [List.getElem?_cons_zero] at h0
  simp only [List.map_cons,DataW.weightsEach,List.mem_append] at hw
  obtain ⟨row,r1,r2,r3,r4⟩:=ih x.type hp.1 n _ y.1 y.2 h0 (fun k hk=>hw k (.inl hk))
  obtain ⟨parts,p1,p2,p3,p4⟩:=Jhp ih fl xs (off+P.cellsOf x.type) hc hp.2 (by rw [←hl];omega) (by simpa using hx) (fun i z hz=>by simpa using hf (i+1) z (by simpa using hz)) (fun k hk=>hw k (.inr hk))
  refine ⟨row::parts,?_,⟨r2,p2⟩,by simp [List.all_append,r3,p3],by simp [r4,p4,Jgr]⟩
  rw [List.flatten_cons,J4o]
  rw [ho] at r1
  refine ⟨_,_,?_,r1,p1⟩
  rw [←List.drop_drop,List.take_append_drop]
theorem J8f (P:Program) (W:World):∀ (f:Nat) (t:TypeId),plain P f t=true→∀ (fuel:Nat) (cs:List Value) (d:DataW H) (ps:List MemPlace),DataW.trod enc P W 0 (fun _=>true) true fuel t cs=some (d,ps)→(∀ n∈d.weights P t,n≤reachBytes) →
 ∃ row,VRl W Lo 0 row cs []∧Row P f t row∧row.all J0s=true∧row.length=P.cellsOf t
 | 0,t,hp=>by simp [plain] at hp
 | f+1,t,hp=>by
  intro fuel cs d ps h hw
  unfold plain at hp
  split at hp
  ·rename_i hu
   simp only [Nat.beq_eq] at hp
   cases fuel with
   | zero=>simp [DataW.trod] at h
   | succ fuel=>
    unfold DataW.trod at h
    rw [hu] at h
    split at h <;> simp_all
    rename_i b
    exact ⟨[.bool b],Je4 (by simp [VR]),by simp [Row,hu],by simp,by simp⟩
  ·rename_i k hu
   simp only [Nat.beq_eq] at hp
   cases fuel with
   | zero=>simp [DataW.trod] at h
   | succ fuel=>
    unfold DataW.trod at h
    rw [hu] at h
    split at h <;> simp_all
    rename_i k' n hk
    subst hk
    exact ⟨[.int k n],Je4 (by simp [VR]),by simpa [Row,hu] using h.1.2,by simp,by simp⟩
  ·rename_i hu
   simp only [Nat.beq_eq] at hp
   cases fuel with
   | zero=>simp [DataW.trod] at h
   | succ fuel=>
    unfold DataW.trod at h
    rw [hu] at h
    split at h <;> simp_all
    rename_i s
    obtain ⟨_,hd,_⟩:=h
    subst hd
    have hl:s.data.toList.length≤LIM:=by
     have:=hw s.data.toList.length (by simp [DataW.weights])
     unfold reachBytes at this;unfold LIM;omega
    exact ⟨[.str s.data.toList],Je4 (by simp only [VR];exact ⟨⟨s,rfl,rfl,hl⟩,trivial⟩),by simpa [Row,hu] using hl,by simp,by simp⟩
  ·rename_i e hu
   simp only [Bool.and_eq_true,Nat.beq_eq,Nat.blt_eq] at hp
   obtain ⟨⟨⟨hc,hsz⟩,hby⟩,hpe⟩:=hp
   rcases DataW.trod_slice hu h with ⟨rfl,hx⟩|⟨a,len,cap,elems,rest,n,_,rfl,hx,_,hlc,_,hlen,hel,_⟩
   ·refine ⟨[.sl (P.cellsOf e) []],?_,by simp [Row,hu],by simp [J0s],by simp [hc]⟩
    exact Je4 (by simp only [VR];exact ⟨⟨Option.none,0,[],rfl,⟨Nat.zero_le _,Nat.le_refl _⟩,⟨rfl,rfl⟩,.inl trivial⟩,trivial⟩)
   ·obtain ⟨hd,-⟩:=Prod.mk.inj hx
    subst hd
    have hwt:=fun n hn=>hw n (by simp only [DataW.weights,hu];exact hn)
    have hbig:=hwt _ List.mem_cons_self
    obtain ⟨rows,vals,h1,h2,h3,h4,h5,h6,h7⟩:=Jk3 (P:=P) (W:=W) (e:=e) (R:=Row P f e) (a:=a) (len:=len) hsz (fun i hi=>by
     have hb:=hel i hi
     have hi':i<elems.length:=by omega
     rw [List.getElem?_eq_getElem hi'] at hb
     obtain ⟨cs,g1,g2⟩:=Option.bind_eq_some_iff.1 hb
     obtain ⟨row,r1,r2,r3,r4⟩:=J8f P W f e hpe n cs elems[i].1 elems[i].2 g2 (fun k hk=>hwt k (List.mem_cons_of_mem _ (List.mem_append_left _ (Jab (List.mem_map.2 ⟨elems[i],List.getElem_mem hi',rfl⟩) k hk))))
     exact ⟨cs,row,g1,r1,r2,r3,r4⟩) len (Nat.le_refl _)
    have hlim:rows.length≤LIM:=by
     rw [h1]
     have h8:(elems.map (·.1)).length=len:=by simp [hlen]
     have:len*1≤(elems.map (·.1)).length*P.bytesOf e:=by rw [h8];exact Nat.mul_le_mul_left _ hby
     have h9:(elems.map (·.1)).length*P.bytesOf e≤((elems.map (·.1)).length+(rest.map (·.1)).length)*P.bytesOf e:=Nat.mul_le_mul_right _ (Nat.le_add_right _ _)
     unfold reachBytes at hbig;unfold LIM;omega
    refine ⟨[.sl (P.cellsOf e) rows],?_,?_,by simp [J0s],by simp [hc]⟩
    ·refine J0g.2 ⟨_,[],rfl,?_,⟨rfl,rfl⟩⟩
     simp only [VR]
     refine ⟨⟨some a,cap,vals,by rw [h1],⟨hlim,by rw [h1];exact hlc⟩,h2,?_⟩,trivial⟩
     by_cases h0:len=0
     ·exact .inl (List.eq_nil_of_length_eq_zero (by omega))
     ·obtain ⟨hs,hb⟩:=h7 (by omega)
      refine .inr ⟨a.block,a.off,by cases a;simp at hs;subst hs;rfl,J2e _,hb,fun r hr=>(h6 r hr).2,h4,h5⟩
    ·simp only [Row,hu]
     exact ⟨rows,rfl,hlim,fun r hr=>(h6 r hr).1⟩
  ·rename_i fs hu
   simp only [Bool.and_eq_true,Nat.beq_eq] at hp
   obtain ⟨⟨hc,ht⟩,hpf⟩:=hp
   obtain ⟨xs,n,_,hx,hlen,hxl,hf⟩:=DataW.trod_struct hu h
   obtain ⟨hd,-⟩:=Prod.mk.inj hx
   subst hd
   obtain ⟨parts,p1,p2,p3,p4⟩:=Jhp (P:=P) (W:=W) (enc:=enc) (fun t ht'=>J8f P W f t ht') (cs:=cs) (n:=n) fs.toList xs 0 hc hpf (by omega) (by simp [hxl]) (fun i x hi=>hf i x (by simpa using hi)) (fun k hk=>hw k (by simp only [DataW.weights,hu];exact hk))
   exact ⟨parts.flatten,by simpa using p1,by simp only [Row,hu];exact ⟨parts,rfl,p2⟩,p3,by rw [p4,ht]⟩
  ·cases hp
end
open Go Go.RowKit Go.ChangeShapes Go.WideShapes
def Jf4 (P:Program) (f:Nat) (t:TypeId) (a:AV):Prop:=match P.underlying t with
 | some (.struct _)=>∃ row,a = .agg row∧Row P f t row
 | _=>Row P f t [a]
theorem J0v {α β:Type}{R:α→β→Prop}{a:α}{l:List α}{m:List β}(h:Jlj R (a::l) m):∃ x m',m=x::m'∧R a x∧Jlj R l m':=by
 cases m with
 | nil=>exact h.elim
 | cons x m=>exact ⟨x,m,rfl,h.1,h.2⟩
theorem J4r {α β:Type}{R:α→β→Prop}{m:List β}(h:Jlj R [] m):m=[]:=by
 cases m with
 | nil=>rfl
 | cons x m=>exact h.elim
theorem Jea {P:Program}{f:Nat}{t:TypeId}{r:List AV}(hu:P.underlying t=some .bool) (h:Row P (f+1) t r):∃ b,r=[.bool b]:=by simpa only [Row,hu] using h
theorem Jel {P:Program}{f:Nat}{t:TypeId}{r:List AV}{k:IntKind}(hu:P.underlying t=some (.int k)) (h:Row P (f+1) t r):∃ n,r=[.int k n]∧(Lit.int k n).wf=true:=by simpa only [Row,hu] using h
theorem J32 {P:Program}{f:Nat}{t:TypeId}{r:List AV}(hu:P.underlying t=some .string) (h:Row P (f+1) t r):∃ l:List UInt8,r=[.str l]∧l.length≤LIM:=by simpa only [Row,hu] using h
theorem J3w {P:Program}{f:Nat}{t e:TypeId}{r:List AV}(hu:P.underlying t=some (.slice e)) (h:Row P (f+1) t r):∃ rows:List (List AV),r=[.sl (P.cellsOf e) rows]∧rows.length≤LIM∧∀ r∈rows,Row P f e r:=by simpa only [Row,hu] using h
theorem J3k {P:Program}{f:Nat}{t:TypeId}{fs:Array Field}{r:List AV}(hu:P.underlying t=some (.struct fs)) (h:Row P (f+1) t r):∃ parts:List (List AV),r=parts.flatten∧Jlj (fun (x:Field) r=>Row P f x.type r) fs.toList parts:=by simpa only [Row,hu] using h
theorem Jfo {P:Program}{f:Nat}{t:TypeId}{fs:Array Field}{a:AV}(hu:P.underlying t=some (.struct fs)) (h:Jf4 P f t a):∃ row,a = .agg row∧Row P f t row:=by simpa only [Jf4,hu] using h
theorem Jpj {P:Program}{f:Nat}{t e:TypeId}{r:List AV}(hu:P.underlying t=some (.slice e)) (he:P.underlying e=some (.int .i64)) (hc:P.cellsOf e=1) (h:Row P (f+2) t r):∃ l,r=[Ju4 l]:=by
 obtain ⟨rows,rfl,_,hr⟩:=J3w hu h
 have:∃ l,rows=J38 l:=by
  clear h
  induction rows with
  | nil=>exact ⟨[],rfl⟩
  | cons r rows ih=>
   obtain ⟨n,rfl,_⟩:=Jel he (hr r List.mem_cons_self)
   obtain ⟨l,rfl⟩:=ih (by rename_i h2;simp only [List.length_cons] at h2;omega) fun r hr'=>hr r (List.mem_cons_of_mem _ hr')
   exact ⟨n::l,rfl⟩
 obtain ⟨l,rfl⟩:=this
 exact ⟨l,by rw [hc];rfl⟩
section
variable {P:Program}{W:World}{H:Type}{enc:TypeId×Value→H}
theorem Jgx {f:Nat}{t:TypeId}{v:Value}{d:DataW H}{ps:List MemPlace}{base:Nat}(hp:plain P f t=true) (hv:Value.okWide P W .any base t v) (h:DataW.Trod enc P W 0 (fun _=>true) true t v d ps)
 (hw:∀ n∈d.weights P t,n≤reachBytes):∃ a,VR W Lo 0 a v []∧Jf4 P f t a:=by
 obtain ⟨fuel,h⟩:=h
 obtain ⟨row,h1,h2,h3,h4⟩:=J8f P W f t hp fuel _ d ps h hw
 have key:(∀ fs,P.underlying t≠some (.struct fs))→(∀ n e,P.underlying t≠some (.array n e))→v.cells.toList=[v]∨¬(plain P f t=true):=fun n1 n2=>by
  left
  unfold Value.okWide at hv
  split at hv
  ·rename_i hu;exact absurd hu (n1 _)
  ·rename_i hu;exact absurd hu (n2 _ _)
  ·cases v <;> try rfl
   rename_i cs
   exfalso
   unfold Cell.okWide at hv
   split at hv <;> simp_all
   unfold Cell.ok at hv
   split at hv <;> simp_all
 cases f with
 | zero=>simp [plain] at hp
 | succ f=>
  unfold Jf4
  split
  ·rename_i fs hu
   unfold Value.okWide at hv
   rw [hu] at hv
   simp only at hv
   obtain ⟨cs,rfl,_⟩:=hv
   exact ⟨.agg row,by simp only [VR];exact ⟨cs,rfl,h1⟩,row,rfl,h2⟩
  ·rename_i hns
   have na:∀ n e,P.underlying t≠some (.array n e):=fun n e hu=>by simp [plain,hu] at hp
   rcases key hns na with hc|hc
   ·rw [hc] at h1
    have hl:row.length=1:=by have:=J0y h1;simpa using this.symm
    match row,hl with
    | [a],_=>
     obtain ⟨v',vs',e,g1,_⟩:=J0g.1 h1
     cases e
     exact ⟨a,g1,h2⟩
   ·exact absurd hp hc
theorem Jac {f:Nat}{base:Nat} : ∀ {ts:List TypeId}{vs:List Value}{ds:List (DataW H)}{ps:List MemPlace},ts.all (fun t=>plain P f t)=true→(∀ (j:Nat) t v,ts[j]? = some t→vs[j]? = some v→Value.okWide P W .any base t v) →
 DataW.TrodAll enc P W 0 (fun _=>true) true ts vs ds ps→(∀ n∈DataW.weightsEach P ts ds,n≤reachBytes)→∃ xs,VRl W Lo 0 xs vs []∧Jlj (fun t a=>Jf4 P f t a) ts xs
 | [],[],[],ps,_,_,_,_=>⟨[],⟨rfl,rfl⟩,trivial⟩
 | t::ts,v::vs,d::ds,ps,hp,hv,h,hw=>by
  obtain ⟨p,q,h1,h2,rfl⟩:=h
  simp only [List.all_cons,Bool.and_eq_true] at hp
  simp only [DataW.weightsEach,List.mem_append] at hw
  obtain ⟨a,g1,g2⟩:=Jgx hp.1 (hv 0 t v rfl rfl) h1 (fun n hn=>hw n (.inl hn))
  obtain ⟨xs,k1,k2⟩:=Jac hp.2 (fun j t v ht hv'=>hv (j+1) t v (by simpa using ht) (by simpa using hv')) h2 (fun n hn=>hw n (.inr hn))
  exact ⟨a::xs,J0g.2 ⟨v,vs,rfl,g1,k1⟩,g2,k2⟩
 | [],_::_,_,_,_,_,h,_=>h.elim
 | [],[],_::_,_,_,_,h,_=>h.elim
 | _::_,[],_,_,_,_,h,_=>h.elim
 | _::_,_::_,[],_,_,_,h,_=>h.elim
theorem J94 (hl:laidOutB P=true) {W':World}(hb:Below W.heap.size W W'):∀ {ts:List TypeId}{vs:List Value}{ds:List (DataW H)}{ps:List MemPlace},ts.all (fun t=>P.readableRec t&&Nat.blt t P.types.size)=true →
 DataW.TrodAll enc P W 0 (fun _=>true) true ts vs ds ps→(∀ x∈ps,x.block<W.heap.size)→DataW.TrodAll enc P W' 0 (fun b=>decide (b<W.heap.size)) true ts vs ds ps
 | [],[],[],_,_,h,_=>h
 | t::ts,v::vs,d::ds,ps,hr,h,hlt=>by
  obtain ⟨p,q,h1,h2,rfl⟩:=h
  simp only [List.all_cons,Bool.and_eq_true,Nat.blt_eq] at hr
  exact ⟨p,q,Below.trod hl hr.1.1 hr.1.2 h1 hb (fun x hx=>hlt x (List.mem_append_left _ hx)),J94 hl hb hr.2 h2 (fun x hx=>hlt x (List.mem_append_right _ hx)),rfl⟩
 | [],_::_,_,_,_,h,_=>h.elim
 | [],[],_::_,_,_,h,_=>h.elim
 | _::_,[],_,_,_,h,_=>h.elim
 | _::_,_::_,[],_,_,h,_=>h.elim
theorem J85 {base:Nat}{sp:Nat→Bool}{hd:Bool} : ∀ {ts:List TypeId}{vs:List Value}{ds:List (DataW H)}{ps:List MemPlace},DataW.TrodAll enc P W base sp hd ts vs ds ps→ds.length=ts.length
 | [],[],[],_,_=>rfl
 | t::ts,v::vs,d::ds,ps,h=>by obtain ⟨p,q,_,h2,_⟩:=h;simp [J85 h2]
 | [],_::_,_,_,h=>h.elim
 | [],[],_::_,_,h=>h.elim
 | _::_,[],_,_,h=>h.elim
 | _::_,_::_,[],_,h=>h.elim
theorem Jen {f:FuncId}{fn:Func}{s:ChangeSpec}{k:Nat}{tb:TypeId}{apart fresh handsOn:Bool}(hl:laidOutB P=true) (hres:fn.resultTypes = #[tb]) (hbool:P.underlying tb=some .bool)
 (hplain:fn.params.toList.all (fun t=>plain P k t)=true) (hread:fn.params.toList.all (fun t=>P.readableRec t&&Nat.blt t P.types.size)=true) (hvars:s.vars=[])
 (hspec:∀ (ds:List (DataW H)),ds.length=fn.params.toList.length→s.fn H ds = { results:=[.lit (.bool true)],args:=ds })
 (hlaw:∀ xs,Jlj (fun t a=>Jf4 P k t a) fn.params.toList xs→Holds P f xs (fun r=>r = .bool true)) (base:Nat) (args:Array Value) (ds gs:List (DataW H)) (before:List MemPlace)
 (hval:∀ (j:Nat) t v,fn.params[j]? = some t→args[j]? = some v→Value.okWide P W .any base t v) (hW:DataW.Whole enc P fn.params.toList s.vars apart W args.toList ds gs before)
 (hsz:(DataW.weightsEach P (fn.params.toList++s.plain.varTypes P) (ds++gs)).all (· ≤ reachBytes)=true) :
 Calls P f args W fun e W'=>∃ v,e = .returned v∧s.post enc P fn apart fresh handsOn false W args v W':=by
 have hW':=hW
 obtain ⟨p,q,hA,hV,rfl,_,_⟩:=hW
 rw [hvars] at hV
 have hgs:gs=[]∧q=[]:=by
  cases gs with
  | nil=>exact ⟨rfl,hV⟩
  | cons=>exact hV.elim
 obtain ⟨rfl,rfl⟩:=hgs
 have hvt:s.plain.varTypes P=[]:=by simp [ChangeSpec.plain,DataSpec.varTypes,hvars]
 rw [hvt,List.append_nil,List.append_nil,List.all_eq_true] at hsz
 obtain ⟨xs,h1,h2⟩:=Jac hplain (fun j t v ht hv=>hval j t v (by simpa using ht) (by simpa using hv)) hA (fun n hn=>by simpa using hsz n hn)
 have hc:=(hlaw xs h2).2 W args.toList h1
 refine hc.mono fun e W' ⟨v,r,S,he,hr,_,hb,hv,_⟩ => ?_
 subst hr
 simp only [VR] at hv
 obtain ⟨rfl,_⟩:=hv
 have hlt:∀ x∈p,x.block<W.heap.size:=fun x hx=>by simpa using hW'.lt x (List.mem_append_left _ hx)
 have hsp:=hspec ds (J85 hA)
 refine ⟨_,he,ds,[],p++[],[],p,[],hW',?_,?_,?_,Below.frame hb _,fun h=>by cases h⟩
 ·rw [List.append_nil,hsp,hres]
  refine ⟨[],[],?_,rfl,rfl⟩
  exact shut_bool hbool true
 ·rw [List.append_nil,hsp]
  exact J94 hl hb hread hA hlt
 ·rw [List.append_nil,hsp,hvars];exact rfl
end
open Go Go.RowKit
abbrev no {α:Type} : Option α:=Option.none
abbrev Zo (d:Nat) (x:AOp):AO:=⟨some d,x,no⟩
abbrev Zv (d s:Nat):AO:=⟨some d,.mv (.t s),no⟩
abbrev Zl (d:Nat) (g:Bool) (z s:Nat):AO:=⟨some d,.ld g z (.t s),no⟩
abbrev Zf (d c s:Nat):AO:=⟨some d,.fld c (.t s),no⟩
abbrev Zc (d f:Nat) (l:List Opd):AO:=⟨some d,.call (.k (.fn (.func f) [] [])) l,no⟩
def tEq (agg:Bool) (sz g:Nat):AFn:=
⟨27,[.t 4],(.seq
 (.reg [⟨some 4,.mv (.k (.bool false)),no⟩]) (.seq (.seq
 (.reg [⟨some 6,.mv (.t 0),no⟩,⟨some 7,.len false (.t 6),no⟩,⟨some 8,.mv (.t 1),no⟩,⟨some 9,.len false (.t 8),no⟩,⟨some 10,.bin .neq (.t 7) (.t 9),no⟩]) (.cond (.t 10) (.seq
 (.reg [⟨some 4,.mv (.k (.bool false)),no⟩]) .ret) .skip)) (.seq (.seq
 (.reg [⟨some 5,.mv (.k (.int .i64 0)),no⟩]) (.blk 0 (.loop (.seq (.seq
 (.reg [⟨some 11,.mv (.t 5),no⟩,⟨some 12,.mv (.t 0),no⟩,⟨some 13,.len false (.t 12),no⟩,⟨some 14,.bin .lss (.t 11) (.t 13),no⟩]) (.cond (.t 14) .skip (.exit 0))) (.seq (.blk 1 (.seq (.draw (.op ⟨some 17,.mv (.t 0),no⟩ (.op ⟨some 18,.mv (.t 5),no⟩ (.op ⟨some 19,.ixa sz (.t 17) (.t 18),no⟩ (.op ⟨some 20,.ld agg sz (.t 19),no⟩ (.op ⟨some 21,.mv (.t 1),no⟩ (.op ⟨some 22,.mv (.t 5),no⟩ (.op ⟨some 23,.ixa sz (.t 21) (.t 22),no⟩ (.op ⟨some 24,.ld agg sz (.t 23),no⟩ (.op ⟨some 25,.call (.k (.fn (.func g) [] [])) [.t 20,.t 24],no⟩ (.op ⟨some 26,.un .not (.t 25),no⟩ .fin))))))))))) (.cond (.t 26) (.seq
 (.reg [⟨some 4,.mv (.k (.bool false)),no⟩]) .ret) .skip)))
 (.reg [⟨some 15,.mv (.t 5),no⟩,⟨some 16,.bin .add (.t 15) (.k (.int .i64 1)),no⟩,⟨some 5,.mv (.t 16),no⟩])))))) (.seq
 (.reg [⟨some 4,.mv (.k (.bool true)),no⟩]) .ret))))⟩
def eqL {α:Type}(eq:α→α→Bool):List α→List α→Bool
 | [],[]=>true
 | x::a,y::b=>eq x y&&eqL eq a b
 | _,_=>false
theorem Jde {α:Type}{eq:α→α→Bool} : ∀ {a b:List α},a.length≠b.length→eqL eq a b=false
 | [],[],h=>absurd rfl h
 | [],_::_,_=>rfl
 | _::_,[],_=>rfl
 | x::a,y::b,h=>by simp only [eqL,Jde (a:=a) (b:=b) (by simpa using h),Bool.and_false]
theorem Jhe {α:Type}{eq:α→α→Bool} : ∀ {a b:List α},a.length=b.length→(∀ (i:Nat) x y,a[i]? = some x→b[i]? = some y→eq x y=true)→eqL eq a b=true
 | [],[],_,_=>rfl
 | x::a,y::b,hl,h=>by
  simp only [eqL,h 0 x y rfl rfl,Bool.true_and]
  exact Jhe (by simpa using hl) fun i u v hu hv=>h (i+1) u v (by simpa using hu) (by simpa using hv)
theorem Jem {α:Type}{eq:α→α→Bool} : ∀ {a b:List α}{i:Nat}{x y:α},a[i]? = some x→b[i]? = some y→eq x y=false→eqL eq a b=false
 | u::a,v::b,0,x,y,hx,hy,h=>by simp at hx hy;subst hx hy;simp only [eqL,h,Bool.false_and]
 | u::a,v::b,i+1,x,y,hx,hy,h=>by simp only [eqL,Jem (a:=a) (b:=b) (i:=i) (by simpa using hx) (by simpa using hy) h,Bool.and_false]
 | [],_,_,_,_,hx,_,_=>by simp at hx
 | _::_,[],_,_,_,_,hy,_=>by simp at hy
theorem J4d {P:Program}{f:FuncId}{fn:Func}{agg:Bool}{sz g:Nat}{α:Type}{rowOf:α→List AV}{eltOf:α→AV}{eq:α→α→Bool}
 (hf:P.funcs[f]? = some fn) (hc:J08 P fn=some (tEq agg sz g)) (hn:(fn.name == "runtime.NumGoroutine")=false)
 (helt:∀ x,ldv true agg (rowOf x) 0 sz=some (eltOf x)) (hbw:∀ x h,bw (eltOf x) h=some (eltOf x)) (a b:List α)
 (hg:∀ x y,x∈a→y∈b→Holds P g [eltOf x,eltOf y] (fun r=>r = .bool (eq x y))) :
 Holds P f [.sl sz (a.map rowOf),.sl sz (b.map rowOf)] (fun r=>r = .bool (eqL eq a b)):=by
 refine J01 hf hc hn (by simp [tEq]) ?_
 simp [tEq,-ldv]
 intro h1 h2
 refine ⟨fun h=>Jde (fun e=>h (by rw [e])),fun hl=>Jak (fun k s h n=>∃ i:Nat,k=a.length - i∧i≤a.length∧s 0 = .sl sz (a.map rowOf)∧s 1 = .sl sz (b.map rowOf)∧s 5=i64 i∧(∀ (j:Nat) x y,j<i→a[j]? = some x→b[j]? = some y→eq x y=true)∧h=J53∧n=0) a.length ⟨0,by simp⟩ ?_⟩
 rintro k s h n ⟨i,rfl,hi,s0,s1,s5,hj,rfl,rfl⟩
 have hl:a.length=b.length:=by omega
 by_cases hlt:i<a.length
 ·have hlt':i<b.length:=by omega
  unfold LIM at h1
  simp [s0,s1,s5,hlt,hlt',helt,-ldv]
  intro _
  refine J02 (hg a[i] b[i] (List.getElem_mem _) (List.getElem_mem _)) (by simp [hbw]) ?_
  rintro r rfl
  simp [s0,s1,s5]
  refine ⟨fun h=>Jem (List.getElem?_eq_getElem hlt) (List.getElem?_eq_getElem hlt') h,fun e=>⟨a.length - (i+1),by omega,i+1,rfl,by omega,by rw [J0w (by omega)];rfl,fun j x y hj' hx hy => ?_⟩⟩
  by_cases hji:j=i
  ·subst hji
   rw [List.getElem?_eq_getElem hlt] at hx;rw [List.getElem?_eq_getElem hlt'] at hy
   cases hx;cases hy;exact e
  ·exact hj j x y (by omega) hx hy
 ·simp [s0,s1,s5,hlt]
  intro _
  refine Jhe hl fun j x y hx hy=>hj j x y ?_ hx hy
  have:=(List.getElem?_eq_some_iff.1 hx).1
  omega
open Go Go.RowKit
def J7h (h:Heap) (n:Nat):Prop:=∀ id,n≤id→h id=Option.none
theorem Jms {α:Type}(f:Nat→α) {i j:Nat}(a b:α) (h:i≠j):upd (upd f i a) j b=upd (upd f j b) i a:=by
 funext k;simp only [upd];split <;> split <;> first|rfl|omega
theorem Jcr:∀ (xs:List (Nat×List (List AV))) (h:Heap) (n id:Nat) (v:Option Blk),id<n→upd (J2n h n xs) id v=J2n (upd h id v) n xs
 | [],h,n,id,v,_=>rfl
 | x::xs,h,n,id,v,hlt=>by
  simp only [J2n]
  rw [Jcr xs _ _ _ _ (by omega),Jms _ _ _ (by omega)]
theorem Jck {h:Heap}{n:Nat}(hf:J7h h n):upd h n Option.none=h:=by
 funext i;simp only [upd];split
 ·rename_i e;rw [e,hf n (Nat.le_refl _)]
 ·rfl
mutual
theorem Jnx:∀ (r:AV) (h:Heap) (n:Nat) (ys:List (Nat×List (List AV))),J16 r=true→J7h h n→dt (sub r n) (J2n h n (col r++ys))=some (r,J2n h (n+(col r).length) ys)
 | .us sz rows,h,n,ys,_,hf=>by
  simp only [sub,col,List.cons_append,List.nil_append,J2n,dt]
  have h1:J2n (upd h n (some ⟨false,sz,rows⟩)) (n+1) ys n=some ⟨false,sz,rows⟩:=by rw [J4z,if_neg (by omega)];exact J13 _ _ _
  rw [h1]
  simp only [Nat.le_refl,and_self,if_true,List.take_length,List.length_cons,List.length_nil,Nat.zero_add]
  rw [Jcr _ _ _ _ _ (by omega),Jpu,Jck hf]
 | .agg cs,h,n,ys,hc,hf=>by simp only [J16] at hc;simp only [sub,col,dt,Jar cs h n ys hc hf,Option.map_some]
 | .tup cs,h,n,ys,hc,hf=>by simp only [J16] at hc;simp only [sub,col,dt,Jar cs h n ys hc hf,Option.map_some]
 | .int ..,h,n,ys,_,_=>by simp [sub,col,dt]
 | .bool _,h,n,ys,_,_=>by simp [sub,col,dt]
 | .str _,h,n,ys,_,_=>by simp [sub,col,dt]
 | .nilp,h,n,ys,_,_=>by simp [sub,col,dt]
 | .undef,_,_,_,hc,_=>by simp [J16] at hc
 | .nil _,_,_,_,hc,_=>by simp [J16] at hc
 | .ptr ..,_,_,_,hc,_=>by simp [J16] at hc
 | .fptr ..,_,_,_,hc,_=>by simp [J16] at hc
 | .ref ..,_,_,_,hc,_=>by simp [J16] at hc
 | .sl ..,_,_,_,hc,_=>by simp [J16] at hc
 | .fn ..,_,_,_,hc,_=>by simp [J16] at hc
 | .mp _,_,_,_,hc,_=>by simp [J16] at hc
theorem Jar:∀ (rs:List AV) (h:Heap) (n:Nat) (ys:List (Nat×List (List AV))),J25 rs=true→J7h h n→dtl (Jga rs n) (J2n h n (Jhw rs++ys))=some (rs,J2n h (n+(Jhw rs).length) ys)
 | [],h,n,ys,_,_=>by simp [Jga,Jhw,dtl]
 | r::rs,h,n,ys,hc,hf=>by
  simp only [J25,Bool.and_eq_true] at hc
  simp only [Jga,Jhw,dtl,List.append_assoc]
  rw [Jnx r h n (Jhw rs++ys) hc.1 hf]
  simp only [Option.bind_some]
  rw [Jar rs h (n+(col r).length) ys hc.2 (fun id hid=>hf id (by omega))]
  simp only [Option.map_some,List.length_append]
  rw [Nat.add_assoc]
end
open Go Go.RowKit
theorem Jbi:∀ (rs:List AV) (n:Nat),(Jga rs n).length=rs.length
 | [],_=>rfl
 | r::rs,n=>by simp [Jga,Jbi rs]
theorem Jid (r:AV) (n:Nat) (h:J0s r=true):J0s (sub r n)=true:=by
 cases r <;> simp_all [J0s,sub]
theorem Jbt:∀ (rs:List AV) (n:Nat),rs.all J0s=true→(Jga rs n).all J0s=true
 | [],_,_=>rfl
 | r::rs,n,h=>by
  simp only [List.all_cons,Bool.and_eq_true] at h
  simp only [Jga,List.all_cons,Bool.and_eq_true]
  exact ⟨Jid r n h.1,Jbt rs _ h.2⟩
theorem Jej (r:AV) (n:Nat):(cellsOf (sub r n)).length=(cellsOf r).length:=by
 cases r <;> simp [sub,cellsOf,Jbi]
theorem Jah (r:AV) (n:Nat) (h:(cellsOf r).all J0s=true):(cellsOf (sub r n)).all J0s=true:=by
 cases r with
 | agg cs=>exact Jbt cs n h
 | _=>simp_all [sub,cellsOf,J0s]
theorem Je7 {r:AV}{h:Heap}{n:Nat}(hc:J16 r=true) (hf:J7h h n) (hcell:(cellsOf r).all J0s=true):dtl (cellsOf (sub r n)) (J2n h n (col r))=some (cellsOf r,h):=by
 by_cases ha:∃ cs,r = .agg cs
 ·obtain ⟨cs,rfl⟩:=ha
  have:=Jar cs h n [] (by simpa [J16] using hc) hf
  simpa [sub,cellsOf,col,J2n] using this
 ·have h1:cellsOf r=[r]:=by cases r <;> first|rfl|exact absurd ⟨_,rfl⟩ ha
  have h2:cellsOf (sub r n)=[sub r n]:=by
   cases r <;> first|rfl|exact absurd ⟨_,rfl⟩ ha|simp_all [cellsOf,J0s]
  have:=Jnx r h n [] hc hf
  rw [h1,h2]
  simp only [List.append_nil,J2n] at this
  simp [dtl,this]
def tTo (agg:Bool) (sz bytes g:Nat) (z:List AV):AFn:=
⟨23,[.t 2],(.seq
 (.reg [⟨some 2,.mv (.k (.nil sz)),no⟩]) (.seq
 (.reg [⟨some 5,.mv (.t 0),no⟩,⟨some 6,.len false (.t 5),no⟩,⟨some 7,.mks bytes z (.t 6) (.t 6),no⟩,⟨some 3,.mv (.t 7),no⟩]) (.seq (.seq
 (.reg [⟨some 4,.mv (.k (.int .i64 0)),no⟩]) (.blk 0 (.loop (.seq (.seq
 (.reg [⟨some 8,.mv (.t 4),no⟩,⟨some 9,.mv (.t 0),no⟩,⟨some 10,.len false (.t 9),no⟩,⟨some 11,.bin .lss (.t 8) (.t 10),no⟩]) (.cond (.t 11) .skip (.exit 0))) (.seq (.blk 1
 (.reg [⟨some 14,.mv (.t 3),no⟩,⟨some 15,.mv (.t 4),no⟩,⟨some 16,.mv (.t 0),no⟩,⟨some 17,.mv (.t 4),no⟩,⟨some 18,.ixa sz (.t 16) (.t 17),no⟩,⟨some 19,.ld agg sz (.t 18),no⟩,⟨some 20,.call (.k (.fn (.func g) [] [])) [.t 19],no⟩,⟨some 21,.ixa sz (.t 14) (.t 15),no⟩,⟨no,.st sz (.t 21) (.t 20),no⟩]))
 (.reg [⟨some 12,.mv (.t 4),no⟩,⟨some 13,.bin .add (.t 12) (.k (.int .i64 1)),no⟩,⟨some 4,.mv (.t 13),no⟩])))))) (.seq
 (.reg [⟨some 22,.mv (.t 3),no⟩,⟨some 2,.mv (.t 22),no⟩]) .ret))))⟩
theorem J4x {P:Program}{f:FuncId}{fn:Func}{agg:Bool}{sz bytes g:Nat}{z:List AV}{α:Type}{rowOf:α→List AV}{eltOf eltU:α→AV}
 (hf:P.funcs[f]? = some fn) (hc:J08 P fn=some (tTo agg sz bytes g z)) (hn:(fn.name == "runtime.NumGoroutine")=false)
 (helt:∀ x,ldv true agg (rowOf x) 0 sz=some (eltOf x)) (hbw:∀ x h,bw (eltOf x) h=some (eltOf x)) (hcl:∀ x,J16 (eltU x)=true) (hcell:∀ x,(cellsOf (eltU x)).all J0s=true) (hsz:∀ x,(cellsOf (eltU x)).length=sz) (hz:z.length=sz)
 (a:List α) (hlen:a.length*bytes≤LIM) (hg:∀ x,x∈a→Holds P g [eltOf x] (fun r=>r=eltU x)) :
 Holds P f [.sl sz (a.map rowOf)] (fun r=>r = .us sz (a.map fun x=>cellsOf (eltU x))):=by
 refine J01 hf hc hn (by simp [tTo]) ?_
 simp [tTo,-ldv,hz]
 intro h1
 refine ⟨by omega,Jak (fun k s h n=>∃ (i:Nat) (rows:List (List AV)),k=a.length - i∧i≤a.length∧s 0 = .sl sz (a.map rowOf)∧s 3 = .ref 0 0 a.length∧s 4=i64 i∧h=upd J53 0 (some ⟨false,sz,rows⟩)∧0<n ∧
  rows.length=a.length∧(∀ j,j<i→rows[j]? = (a.map fun x=>cellsOf (eltU x))[j]?)∧(∀ j (hj:j<rows.length),rows[j].length=sz)) a.length ⟨0,List.replicate a.length z,by simp [hz]⟩ ?_⟩
 rintro k s h n ⟨i,rows,rfl,hi,s0,s3,s4,rfl,hn0,hr,hj,hcc⟩
 have hfr:J7h (upd J53 0 (some ⟨false,sz,rows⟩)) n:=fun id hid=>by rw [J0k _ _ _ _ (by omega)];rfl
 by_cases hlt:i<a.length
 ·have hm:=hcc i (by omega)
  unfold LIM at h1
  simp [s0,s3,s4,hlt,helt,-ldv]
  intro _
  refine J03 (hg a[i] (List.getElem_mem _)) (by simp [hbw]) ?_
  rintro r rfl
  have h0:J2n (upd J53 0 (some ⟨false,sz,rows⟩)) n (col (eltU a[i])) 0=some ⟨false,sz,rows⟩:=by rw [J4z,if_neg (by omega)];exact J13 _ _ _
  have hd:=Je7 (hcl a[i]) hfr (hcell a[i])
  have hln:=Jej (eltU a[i]) n
  have hci:=Jah (eltU a[i]) n (hcell a[i])
  simp [s0,s3,s4,hlt,h0,hd,hln,hci,hsz,hr,-cellsOf]
  refine ⟨by omega,a.length - (i+1),by omega,i+1,rfl,by omega,by rw [J0w (by omega)];rfl,rows.set i (cellsOf (eltU a[i])),by rw [List.drop_eq_nil_of_le (by omega),List.append_nil],by omega,by simp [hr],fun j hj' => ?_,fun j hj' => ?_⟩
  ·show _=(a[j]?).map fun x=>cellsOf (eltU x)
   rw [List.getElem?_set]
   by_cases hji:i=j
   ·subst hji;rw [if_pos rfl,if_pos (by omega),List.getElem?_eq_getElem hlt];rfl
   ·rw [if_neg hji];simpa using hj j (by omega)
  ·rw [List.getElem_set]
   split
   ·exact hsz _
   ·exact hcc j (by simpa using hj')
 ·simp [s0,s3,s4,hlt,hr]
  intro _
  have:rows=a.map fun x=>cellsOf (eltU x):=List.ext_getElem? fun j=>by
   by_cases hji:j<i
   ·exact hj j hji
   ·rw [List.getElem?_eq_none (by omega),List.getElem?_eq_none (by simp;omega)]
  subst this
  have ht:List.take a.length (a.map fun x=>cellsOf (eltU x))=a.map fun x=>cellsOf (eltU x):=List.take_of_length_le (by simp)
  have hcr:J2q (a.map fun x=>cellsOf (eltU x))=true:=by
   rw [J23,List.all_eq_true]
   intro r hr'
   obtain ⟨x,_,rfl⟩:=List.mem_map.1 hr'
   have:=hcl x
   cases hx:eltU x <;> simp_all [J16,cellsOf,J25]
  rw [ht]
  exact ⟨hcr,rfl⟩
open Go Go.RowKit
def tSz (agg:Bool) (sz g:Nat):AFn:=
⟨27,[.t 4],(.seq
 (.reg [⟨some 4,.mv (.k (.int .i64 0)),no⟩]) (.seq
 (.reg [⟨some 6,.mv (.t 1),no⟩,⟨some 7,.mv (.t 0),no⟩,⟨some 8,.len false (.t 7),no⟩,⟨some 9,.bin .sub (.t 6) (.t 8),no⟩,⟨some 1,.mv (.t 9),no⟩]) (.seq (.seq
 (.reg [⟨some 10,.mv (.t 1),no⟩,⟨some 11,.bin .lss (.t 10) (.k (.int .i64 0)),no⟩]) (.cond (.t 11) (.seq
 (.reg [⟨some 4,.mv (.k (.int .i64 (-1))),no⟩]) .ret) .skip)) (.seq (.seq
 (.reg [⟨some 5,.mv (.k (.int .i64 0)),no⟩]) (.blk 0 (.loop (.seq (.seq
 (.reg [⟨some 12,.mv (.t 5),no⟩,⟨some 13,.mv (.t 0),no⟩,⟨some 14,.len false (.t 13),no⟩,⟨some 15,.bin .lss (.t 12) (.t 14),no⟩]) (.cond (.t 15) .skip (.exit 0))) (.seq (.blk 1 (.seq
 (.reg [⟨some 18,.mv (.t 0),no⟩,⟨some 19,.mv (.t 5),no⟩,⟨some 20,.ixa sz (.t 18) (.t 19),no⟩,⟨some 21,.ld agg sz (.t 20),no⟩,⟨some 22,.mv (.t 1),no⟩,⟨some 23,.call (.k (.fn (.func g) [] [])) [.t 21,.t 22],no⟩,⟨some 1,.mv (.t 23),no⟩]) (.seq
 (.reg [⟨some 24,.mv (.t 1),no⟩,⟨some 25,.bin .lss (.t 24) (.k (.int .i64 0)),no⟩]) (.cond (.t 25) (.seq
 (.reg [⟨some 4,.mv (.k (.int .i64 (-1))),no⟩]) .ret) .skip))))
 (.reg [⟨some 16,.mv (.t 5),no⟩,⟨some 17,.bin .add (.t 16) (.k (.int .i64 1)),no⟩,⟨some 5,.mv (.t 17),no⟩])))))) (.seq
 (.reg [⟨some 26,.mv (.t 1),no⟩,⟨some 4,.mv (.t 26),no⟩]) .ret)))))⟩
def J6f {α:Type}(szE:α→Int→Int):List α→Int→Int
 | [],left=>left
 | x::a,left=>if szE x left<0 then -1 else J6f szE a (szE x left)
def szL {α:Type}(szE:α→Int→Int) (a:List α) (left:Int):Int:=if left - a.length<0 then -1 else J6f szE a (left - a.length)
theorem Jf6 {α:Type}{szE:α→Int→Int}(hle:∀ x left,0≤left→szE x left≤left):∀ (a:List α) (left:Int),0≤left→J6f szE a left≤left
 | [],left,_=>Int.le_refl _
 | x::a,left,h=>by
  have:=hle x left h
  simp only [J6f];split
  ·omega
  ·have:=Jf6 hle a (szE x left) (by omega);omega
theorem K0u {α:Type}{szE:α→Int→Int}(hle:∀ x left,0≤left→szE x left≤left) (a:List α) (left:Int) (h:0≤left):szL szE a left≤left:=by
 unfold szL;split
 ·omega
 ·have:=Jf6 hle a (left - a.length) (by omega);omega
theorem J4y {P:Program}{f:FuncId}{fn:Func}{agg:Bool}{sz g:Nat}{α:Type}{rowOf:α→List AV}{eltOf:α→AV}{szE:α→Int→Int}
 (hf:P.funcs[f]? = some fn) (hc:J08 P fn=some (tSz agg sz g)) (hn:(fn.name == "runtime.NumGoroutine")=false)
 (helt:∀ x,ldv true agg (rowOf x) 0 sz=some (eltOf x)) (hbw:∀ x h,bw (eltOf x) h=some (eltOf x)) (hle:∀ x left,0≤left→szE x left≤left)
 (a:List α) (left:Int) (h0:0≤left∧left≤4611686018427387904) (hg:∀ x left,x∈a→0≤left∧left≤4611686018427387904→Holds P g [eltOf x,i64 left] (fun r=>r=i64 (szE x left))) :
 Holds P f [.sl sz (a.map rowOf),i64 left] (fun r=>r=i64 (szL szE a left)):=by
 refine J01 hf hc hn (by simp [tSz]) ?_
 simp [tSz,-ldv]
 intro h1
 unfold LIM at h1
 rw [J0w (by omega)]
 refine ⟨fun h=>by unfold szL;rw [if_pos h],fun h=>Jak (fun k s h n=>∃ (i:Nat) (l:Int),k=a.length - i∧i≤a.length∧s 0 = .sl sz (a.map rowOf)∧s 1=i64 l∧s 5=i64 i∧0≤l∧l≤left∧J6f szE (a.drop i) l=szL szE a left∧h=J53∧n=0) a.length ⟨0,left - a.length,by simp [szL];omega⟩ ?_⟩
 rintro k s h n ⟨i,l,rfl,hi,s0,s1,s5,hl0,hl1,hR,rfl,rfl⟩
 by_cases hlt:i<a.length
 ·simp [s0,s1,s5,hlt,helt,-ldv]
  intro _
  refine J03 (hg a[i] l (List.getElem_mem _) (by omega)) (by simp [hbw]) ?_
  rintro r rfl
  simp [s0,s5]
  rw [List.drop_eq_getElem_cons hlt] at hR
  simp only [J6f] at hR
  have:=hle a[i] l hl0
  refine ⟨fun hn=>by rw [if_pos hn] at hR;exact hR,fun hp=>⟨a.length - (i+1),by omega,i+1,rfl,by omega,by rw [J0w (by omega)];rfl,hp,by omega,by rw [if_neg (by omega)] at hR;exact hR⟩⟩
 ·simp [s0,s1,s5,hlt]
  intro _
  rw [List.drop_eq_nil_of_le (by omega)] at hR
  exact hR
open Go Go.RowKit
abbrev Str:=List UInt8
def J05 (l:List Str):List (List AV):=l.map fun s=>[.str s]
def strs (l:List Str):AV := .sl 1 (J05 l)
attribute [simp] strs
@[simp] theorem Jo0 (l:List Str):(J05 l).length=l.length:=by simp [J05]
@[simp] theorem Jss (l:List Str) (i:Nat):(J05 l)[i]? = (l[i]?).map fun n=>[.str n]:=by simp [J05]
@[simp] theorem Jlm (l:List Str) (i:Nat) (h:i<(J05 l).length):(J05 l)[i]=[.str (l[i]'(by simpa using h))]:=by simp [J05]
@[simp] theorem Jue (l:List Str):drr (J05 l)=J05 l:=by rw [J48];simp [J05,drl,dr]
@[simp] theorem Jr2 (l:List Str):J2q (J05 l)=true:=by rw [J23];simp [J05,J25,J16]
@[simp] theorem Jre (l:List Str):List.take l.length (J05 l)=J05 l:=List.take_of_length_le (by simp)
@[simp] theorem Jtj {α β:Type}(f:α→β) (l:List α):List.take l.length (l.map f)=l.map f:=List.take_of_length_le (by simp)
def J2m (left:Int) (w:Nat):Int:=if left - w<0 then -1 else left - w
theorem Jax {left:Int}{w:Nat}(h:left - w<0):J2m left w = -1:=if_pos h
theorem Ji7 {left:Int}{w:Nat}(h:¬left - w<0):J2m left w=left - w:=if_neg h
theorem J78 {left:Int}{w:Nat}(_h:0≤left):J2m left w≤left:=by unfold J2m;split <;> omega
theorem Ji0 {left:Int}{v w:Nat}(h:¬left - v<0):J2m (left - v) w=J2m left (v+w):=by
 unfold J2m
 by_cases h1:left - v - w<0
 ·rw [if_pos h1,if_pos (by omega)]
 ·rw [if_neg h1,if_neg (by omega)];omega
def wL {α:Type}(w:α→Nat) (l:List α):Nat:=l.length+(l.map w).sum
theorem J1h {α:Type}(w:α→Nat) (l:List α):l.length≤wL w l:=by unfold wL;omega
theorem Jg8 {α:Type}(w:α→Nat):∀ (l:List α) {x:α},x∈l→w x≤(l.map w).sum
 | y::l,x,h=>by
  rcases List.mem_cons.1 h with rfl|h
  ·simp
  ·have:=Jg8 w l h;simp;omega
theorem J3i {α:Type}{w:α→Nat}{l:List α}{x:α}(h:x∈l):w x≤wL w l:=by have:=Jg8 w l h;unfold wL;omega
theorem Jcb {α:Type}{w:α→Nat}{g:α→Int→Int}(hg:∀ x left,0≤left→g x left=J2m left (w x)):∀ (a:List α) (left:Int),0≤left→J6f g a left=J2m left (a.map w).sum
 | [],left,h=>by simp only [J6f,List.map_nil,List.sum_nil,J2m];rw [if_neg (by omega)];omega
 | x::a,left,h=>by
  simp only [J6f,List.map_cons,List.sum_cons,hg x left h]
  by_cases hx:left - w x<0
  ·rw [Jax hx,if_pos (by omega),Jax (by omega)]
  ·rw [Ji7 hx,if_neg (by omega),Jcb hg a _ (by omega),Ji0 hx]
theorem J5a {α:Type}{w:α→Nat}{g:α→Int→Int}(hg:∀ x left,0≤left→g x left=J2m left (w x)) (a:List α) (left:Int) (h:0≤left):szL g a left=J2m left (wL w a):=by
 unfold szL wL
 by_cases hx:left - a.length<0
 ·rw [if_pos hx,Jax (by omega)]
 ·rw [if_neg hx,Jcb hg a _ (by omega),Ji0 hx]
theorem J5z {α:Type} [DecidableEq α]:∀ (a b:List α),eqL (fun x y=>decide (x=y)) a b=decide (a=b)
 | [],[]=>rfl
 | [],_::_=>rfl
 | _::_,[]=>rfl
 | x::a,y::b=>by simp [eqL,J5z a b]
open Go Go.RowKit
mutual
def idb (n:Nat):AV→Prop
 | .ptr id _ _=>id<n
 | .ref id _ _=>id<n
 | .fn _ fi ca=>Jfv n fi∧Jfv n ca
 | .agg cs=>Jfv n cs
 | .tup cs=>Jfv n cs
 | .mp id=>id<n
 | .undef | .int .. | .bool _ | .str _ | .nil _ | .nilp | .fptr .. | .sl .. | .us .. => True
def Jfv (n:Nat):List AV→Prop
 | []=>True
 | a::as=>idb n a∧Jfv n as
end
section
variable {w:World}{L:Nat→Option Loc}{N n:Nat}
mutual
theorem Jo9:∀ (a:AV) (v:Value) (S:List Nat),VR w L n a v S→idb n a
 | .ptr ..,_,_,h=>by simp only [VR] at h;simp only [idb];exact h.1.1
 | .ref ..,_,_,h=>by simp only [VR] at h;simp only [idb];exact h.1.1
 | .fn _ fi ca,_,_,h=>by
  simp only [VR] at h
  obtain ⟨⟨x,y,_,h1,h2⟩,_⟩:=h
  simp only [idb];exact ⟨J9n fi _ _ h1,J9n ca _ _ h2⟩
 | .agg cs,_,_,h=>by simp only [VR] at h;obtain ⟨vs,_,h⟩:=h;simp only [idb];exact J9n cs _ _ h
 | .tup cs,_,_,h=>by simp only [VR] at h;obtain ⟨vs,_,h⟩:=h;simp only [idb];exact J9n cs _ _ h
 | .undef,_,_,_ | .int ..,_,_,_ | .bool _,_,_,_ | .str _,_,_,_ | .nil _,_,_,_ | .nilp,_,_,_ | .fptr ..,_,_,_ | .sl ..,_,_,_ | .us ..,_,_,_=>by simp only [idb]
 | .mp _,_,_,h=>by simp only [VR] at h;simp only [idb];exact h.1.1
theorem J9n:∀ (as:List AV) (vs:List Value) (S:List Nat),VRl w L n as vs S→Jfv n as
 | [],_,_,_=>by simp only [Jfv]
 | a::as,_,_,h=>by
  simp only [VRl] at h
  obtain ⟨v,vs',S1,S2,_,_,h1,h2⟩:=h
  simp only [Jfv];exact ⟨Jo9 a _ _ h1,J9n as _ _ h2⟩
end
mutual
theorem Jdv:∀ (a:AV) (v:Value) (S:List Nat),VR w L N a v S→idb n a→VR w L n a v S
 | .ptr ..,_,_,h,hi=>by simp only [VR] at h ⊢;simp only [idb] at hi;exact ⟨⟨hi,h.1.2⟩,h.2⟩
 | .ref ..,_,_,h,hi=>by simp only [VR] at h ⊢;simp only [idb] at hi;exact ⟨⟨hi,h.1.2⟩,h.2⟩
 | .fn _ fi ca,_,_,h,hi=>by
  simp only [VR] at h ⊢
  simp only [idb] at hi
  obtain ⟨⟨x,y,hv,h1,h2⟩,hS⟩:=h
  exact ⟨⟨x,y,hv,J6d fi _ _ h1 hi.1,J6d ca _ _ h2 hi.2⟩,hS⟩
 | .agg cs,_,_,h,hi=>by simp only [VR] at h ⊢;simp only [idb] at hi;obtain ⟨vs,hv,h⟩:=h;exact ⟨vs,hv,J6d cs _ _ h hi⟩
 | .tup cs,_,_,h,hi=>by simp only [VR] at h ⊢;simp only [idb] at hi;obtain ⟨vs,hv,h⟩:=h;exact ⟨vs,hv,J6d cs _ _ h hi⟩
 | .undef,_,_,h,_ | .int ..,_,_,h,_ | .bool _,_,_,h,_ | .str _,_,_,h,_ | .nil _,_,_,h,_ | .nilp,_,_,h,_ | .fptr ..,_,_,h,_ | .sl ..,_,_,h,_ | .us ..,_,_,h,_=>by simp only [VR] at h ⊢;exact h
 | .mp _,_,_,h,hi=>by simp only [VR] at h ⊢;simp only [idb] at hi;exact ⟨⟨hi,h.1.2⟩,h.2⟩
theorem J6d:∀ (as:List AV) (vs:List Value) (S:List Nat),VRl w L N as vs S→Jfv n as→VRl w L n as vs S
 | [],_,_,h,_=>by simpa only [VRl] using h
 | a::as,_,_,h,hi=>by
  simp only [VRl] at h ⊢
  simp only [Jfv] at hi
  obtain ⟨v,vs',S1,S2,e1,e2,h1,h2⟩:=h
  exact ⟨v,vs',S1,S2,e1,e2,Jdv a _ _ h1 hi.1,J6d as _ _ h2 hi.2⟩
end
end
theorem Jd5.idb {w:World}{L:Nat→Option Loc}{n:Nat} : ∀ {rs:List (List AV)}{es:List MapEntry},Jd5 w L n rs es→∀ r∈rs,Jfv n r
 | [],_,_,r,hr=>by cases hr
 | _::_,_,⟨x,es',k,a,h1,h2,h3,h4,h5⟩,r,hr=>by
  rcases List.mem_cons.1 hr with rfl|hr
  ·subst h2;simp only [Jfv,Go.Proofs.YtoclolkigjbcgaaGreat.idb];exact ⟨trivial,Jo9 _ _ _ h4,trivial⟩
  ·exact h5.idb r hr
theorem Jd5.lower {w:World}{L:Nat→Option Loc}{N n:Nat} : ∀ {rs:List (List AV)}{es:List MapEntry},Jd5 w L N rs es→(∀ r∈rs,Jfv n r)→Jd5 w L n rs es
 | [],_,h,_=>h
 | _::_,_,⟨x,es',k,a,h1,h2,h3,h4,h5⟩,hi=>by
  have h6:=hi _ (List.mem_cons_self ..)
  subst h2
  simp only [Jfv] at h6
  exact ⟨x,es',k,a,h1,rfl,Jdv _ _ _ h3 h6.1,Jdv _ _ _ h4 h6.2.1,h5.lower fun r hr=>hi r (List.mem_cons_of_mem _ hr)⟩
def Jns (n:Nat) (L:Nat→Option Loc):Nat→Option Loc:=fun id=>if id<n then L id else Option.none
theorem J5d {n:Nat}{L:Nat→Option Loc}{id:Nat}{l:Loc}(h:Jns n L id=some l):id<n∧L id=some l:=by
 unfold Jns at h;split at h
 ·exact ⟨by assumption,h⟩
 ·cases h
theorem Own.cut {n:Nat}{L:Nat→Option Loc}{b:Nat}(h:Own (Jns n L) b):Own L b:=by
 obtain ⟨id,sz,cap,h⟩:=h
 exact ⟨id,sz,cap,(J5d h).2⟩
theorem Ext.cut (w:World) (L:Nat→Option Loc) (n:Nat):Ext w L n w (Jns n L) n:=
 ⟨Nat.le_refl _,fun _ _ _ h=>(J5d h).2,Nat.le_refl _,fun _ _ h=>⟨rfl,fun h'=>h h'.cut⟩⟩
theorem HRel.cut {base:Nat}{w0 w w':World}{L L':Nat→Option Loc}{n n':Nat}{F F':Nat→List Nat}{h h':Heap}(H0:HRel base w0 w L n F [] h) (H:HRel base w0 w' L' n' F' [] h') (hh:∀ id,id<n→h' id=h id) :
 HRel base w0 w' (Jns n L') n (fun id=>if id<n then F' id else []) [] h:=by
 have hz:∀ id,n≤id→h id=Option.none:=fun id hid=>by
  cases hx:h id with
  | none=>rfl
  | some B=>
   cases hl:L id with
   | none=>rw [H0.mod id hl] at hx;cases hx
   | some l=>have:=H0.lt id l hl;omega
 refine ⟨H.below,H.bsz,?_,?_,?_,?_,?_,?_,?_,?_,?_,?_,?_,?_⟩
 ·intro id hid
  unfold Jns;split
  ·rename_i hlt;exact H.dom id (by rw [hh id hlt];exact hid)
  ·rfl
 ·intro id hid
  by_cases hlt:id<n
  ·unfold Jns at hid;rw [if_pos hlt] at hid;rw [←hh id hlt];exact H.mod id hid
  ·exact hz id (by omega)
 ·intro id l hl;exact (J5d hl).1
 ·intro i i' b sz cap sz' cap' hi hi';exact H.inj i i' b sz cap sz' cap' (J5d hi).2 (J5d hi').2
 ·intro b ho;exact H.lo b ho.cut
 ·intro id B l hB hl
  obtain ⟨hlt,hl⟩:=J5d hl
  have hbr:=H.blk id B l (by rw [hh id hlt];exact hB) hl
  rw [if_pos hlt]
  cases l with
  | none=>exact hbr
  | «at» b sz cap=>
   refine ⟨hbr.1,hbr.2.1,fun hp => ?_,fun hz0 => ?_⟩
   case refine_2=>
    obtain ⟨hbox,es,clock,h1,h2⟩:=hbr.2.2.2 hz0
    refine ⟨hbox,es,clock,h1,?_⟩
    have hids:∀ r∈B.rows,Jfv n r:=by
     cases hl0:L id with
     | none=>rw [H0.mod id hl0] at hB;cases hB
     | some l0=>
      have hb0:=H0.blk id B l0 hB hl0
      cases l0 with
      | none=>rw [hb0.1];intro r hr;cases hr
      | «at» b0 sz0 cap0=>
       obtain ⟨_,es0,clock0,_,g2⟩:=hb0.2.2.2 (by rw [hb0.1,←hbr.1];exact hz0)
       exact g2.idb
    exact (h2.lower hids).ext (Ext.cut w' L' n)
   obtain ⟨h0,h0',cur,t,vals,rest,h1,h2,h3,h4,h5,h6,h7,h8,h9,h10⟩:=hbr.cells hp
   refine ⟨cur,t,vals,rest,h1,h2,h3,h4,h5,h6,h7,h8,h9,?_⟩
   cases hbox:B.box
   ·rw [hbox] at h10
    simp only [Bool.false_eq_true,if_false] at h10 ⊢
    exact J1r (Ext.cut w' L' n).zero _ _ _ h10
   ·rw [hbox] at h10
    simp only [if_true] at h10 ⊢
    have hids:Jfv n B.rows.flatten:=by
     cases hl0:L id with
     | none=>rw [H0.mod id hl0] at hB;cases hB
     | some l0=>
      have hb0:=H0.blk id B l0 hB hl0
      cases l0 with
      | none=>rw [hb0.1];simp [Jfv]
      | «at» b0 sz0 cap0=>
       obtain ⟨_,_,_,_,_,_,_,_,_,_,_,_,_,_,_,g10⟩:=hb0.cells (by rw [hb0.1,←h0];exact hp)
       rw [hbox] at g10
       simp only [if_true] at g10
       exact J9n _ _ _ (J2l.1 g10)
    have h11:=J6d (n:=n) _ _ _ (J2l.1 h10) hids
    exact J2l.2 (J61 (Ext.cut w' L' n) _ _ _ h11)
 ·intro id b hb
  by_cases hlt:id<n
  ·rw [if_pos hlt] at hb
   obtain ⟨k1,k2⟩:=H.fp id b hb
   exact ⟨fun h=>k1 h.cut,k2⟩
  ·rw [if_neg hlt] at hb;cases hb
 ·intro b hb;cases hb
 ·intro id
  by_cases hlt:id<n
  ·rw [if_pos hlt];exact H.nd id
  ·rw [if_neg hlt];exact List.nodup_nil
 ·exact List.nodup_nil
 ·intro id id' b hb hb'
  by_cases hlt:id<n
  ·by_cases hlt':id'<n
   ·rw [if_pos hlt] at hb;rw [if_pos hlt'] at hb';exact H.dj id id' b hb hb'
   ·rw [if_neg hlt'] at hb';cases hb'
  ·rw [if_neg hlt] at hb;cases hb
 ·intro id b _ hb;cases hb
def Jex:AV→Bool
 | .int .. | .bool _ | .str _=>true
 | .tup [.int ..,.bool _]=>true
 | _=>false
theorem Jqa {w:World}{L L':Nat→Option Loc}{N N':Nat}{a:AV}{v:Value}(hs:Jex a=true) (h:VR w L N a v []):VR w L' N' a v []:=by
 unfold Jex at hs
 split at hs
 ·simpa only [VR] using h
 ·simpa only [VR] using h
 ·simpa only [VR] using h
 ·simp only [VR,VRl] at h ⊢;exact h
 ·cases hs
theorem J9a {P:Program}{f:FuncId}{as:List AV}{h:Heap}{n:Nat}{K:AV→Heap→Nat→Prop}
 (hA:J1u P f as h n fun r h' _=>Jex r=true∧(∀ id,id<n→h' id=h id)∧K r h n):J1u P f as h n K:=by
 refine ⟨hA.1,fun base w0 w L F vs H hv => ?_⟩
 refine (hA.2 base w0 w L F vs H hv).mono ?_
 rintro e w' ⟨v,r,L',n',F',h',rfl,H',J65,hr,hs,hh,hk⟩
 refine ⟨v,r,Jns n L',n,_,h,rfl,H.cut H' hh,?_,Jqa hs hr,hk⟩
 exact ⟨Nat.le_refl _,fun id l hid hl=>J65.old id l hid (J5d hl).2,J65.size,fun b hb ho=>⟨(J65.block b hb ho).1,fun h=>(J65.block b hb ho).2 h.cut⟩⟩
def Jce (P:Program) (f:FuncId) (fi ca:List AV) (h:Heap) (n:Nat) (a r:AV):Prop:=∀ K:AV→Heap→Nat→Prop,K r h n→J1u P f (fi++[a]++ca) h n K
theorem J60 {P:Program}{f:FuncId}{h:Heap}{n:Nat}{a r:AV}(hh:Holds P f [a] (fun x=>x=r)) (hb:bw a h=some a) (hs:Jex r=true):Jce P f [] [] h n a r:=by
 intro K hK
 refine J7z hh (by simp [bwl,hb]) ?_
 rintro _ rfl
 unfold Jex at hs
 split at hs
 ·simpa [sub,col,J2n] using hK
 ·simpa [sub,col,J2n] using hK
 ·simpa [sub,col,J2n] using hK
 ·simpa [sub,Jga,col,Jhw,J2n] using hK
 ·cases hs
def J2r (agg:Bool) (sz:Nat):AFn:=
⟨19,[.t 4],(.seq
 (.reg [⟨some 4,.mv (.k (.int .i64 0)),no⟩]) (.seq (.seq
 (.reg [⟨some 6,.mv (.t 0),no⟩,⟨some 7,.len false (.t 6),no⟩,⟨some 8,.mv (.k (.int .i64 0)),no⟩]) (.blk 0 (.loop (.seq
 (.reg [⟨some 9,.bin .lss (.t 8) (.t 7),no⟩]) (.seq (.cond (.t 9) .skip (.exit 0)) (.seq (.blk 1 (.seq
 (.reg [⟨some 10,.mv (.t 8),no⟩,⟨some 5,.mv (.t 10),no⟩]) (.seq
 (.reg [⟨some 11,.mv (.t 1),no⟩,⟨some 12,.mv (.t 0),no⟩,⟨some 13,.mv (.t 5),no⟩,⟨some 14,.ixa sz (.t 12) (.t 13),no⟩,⟨some 15,.ld agg sz (.t 14),no⟩,⟨some 16,.call (.t 11) [.t 15],no⟩]) (.cond (.t 16) (.seq
 (.reg [⟨some 17,.mv (.t 5),no⟩,⟨some 4,.mv (.t 17),no⟩]) .ret) .skip))))
 (.reg [⟨some 18,.bin .add (.t 8) (.k (.int .i64 1)),no⟩,⟨some 8,.mv (.t 18),no⟩]))))))) (.seq
 (.reg [⟨some 4,.mv (.k (.int .i64 (-1))),no⟩]) .ret)))⟩
def J1z (g:Nat):AFn:=
⟨9,[.t 4],(.seq
 (.reg [⟨some 4,.mv (.k (.bool false)),no⟩]) (.seq
 (.reg [⟨some 5,.mv (.t 0),no⟩,⟨some 6,.mv (.t 1),no⟩,⟨some 7,.call (.k (.fn (.func g) [] [])) [.t 5,.t 6],no⟩,⟨some 8,.bin .geq (.t 7) (.k (.int .i64 0)),no⟩,⟨some 4,.mv (.t 8),no⟩]) .ret))⟩
def J0p {α:Type}(p:α→Bool):List α→Nat→Int
 | [],_ => -1
 | x::l,i=>if p x then i else J0p p l (i+1)
theorem J5j {α:Type}{p:α→Bool} : ∀ {l:List α}{i:Nat},J0p p l i<0↔l.any p=false
 | [],i=>by simp [J0p]
 | x::l,i=>by
  simp only [J0p,List.any_cons]
  cases hp:p x
  ·simp only [Bool.false_eq_true,if_false,Bool.false_or];exact J5j
  ·simp
theorem J5l {α:Type}{p:α→Bool}{l:List α}{i:Nat} : decide (J0p p l i≥0)=l.any p:=by
 cases h:l.any p
 ·have:=J5j (i:=i).2 h;simp;omega
 ·have:¬J0p p l i<0:=fun h'=>by rw [J5j.1 h'] at h;cases h
  simp;omega
section
variable {P:Program}{h:Heap}{n:Nat}
theorem J14 {f:FuncId}{fn:Func}{af:AFn}{as:List AV}{K:AV→Heap→Nat→Prop}{bx:Bool}(hf:P.funcs[f]? = some fn) (hc:J7a bx P fn=some af) (hn:(fn.name == "runtime.NumGoroutine")=false) (hl:as.length≤af.nt)
 (hr:rC P af.body [] (Jfa as) h n fun e s h n=>match e with | .exit _=>False|_=>onO (J7v s h af.res) fun xs=>K (J7t xs) h n):J1u P f as h n K:=by
 refine J6p hf hc hn ⟨hl,?_⟩
 exact hr
theorem J6x {f:FuncId}{fn:Func}{agg:Bool}{sz:Nat}{α:Type}{rowOf:α→List AV}{eltOf:α→AV}{p:α→Bool}{g:FuncId}{fi ca:List AV}
 (hf:P.funcs[f]? = some fn) (hc:J08 P fn=some (J2r agg sz)) (hn:(fn.name == "runtime.NumGoroutine")=false)
 (helt:∀ x,ldv true agg (rowOf x) 0 sz=some (eltOf x)) (a:List α) (hg:∀ x∈a,Jce P g fi ca h n (eltOf x) (.bool (p x))) {K:AV→Heap→Nat→Prop}(hK:K (.int .i64 (J0p p a 0)) h n) :
 J1u P f [.sl sz (a.map rowOf),.fn (.func g) fi ca] h n K:=by
 refine J14 hf hc hn (by simp [J2r]) ?_
 simp [J2r,-ldv]
 intro h1
 refine Jak (fun k s h' n'=>∃ i:Nat,k=a.length - i∧i≤a.length∧s 0 = .sl sz (a.map rowOf)∧s 1 = .fn (.func g) fi ca∧s 7=i64 a.length∧s 8=i64 i∧J0p p (a.drop i) i=J0p p a 0∧h'=h∧n'=n) a.length ⟨0,by simp⟩ ?_
 rintro k s h' n' ⟨i,rfl,hi,s0,s1,s7,s8,hj,rfl,rfl⟩
 by_cases hlt:i<a.length
 ·unfold LIM at h1
  rw [List.drop_eq_getElem_cons hlt] at hj
  simp only [J0p] at hj
  simp [s0,s1,s7,s8,hlt,helt,-ldv]
  have:=hg a[i] (List.getElem_mem _)
  simp only [Jce,List.append_assoc,List.cons_append,List.nil_append] at this
  refine this _ ?_
  simp [s0,s1,s7,s8]
  refine ⟨fun hp => ?_,fun hp => ?_⟩ <;> rw [hp] at hj <;> simp at hj
  ·rw [hj];exact hK
  ·exact ⟨a.length - (i+1),by omega,i+1,rfl,by omega,by rw [J0w (by omega)];rfl,hj⟩
 ·rw [List.drop_eq_nil_of_le (by omega)] at hj
  simp only [J0p] at hj
  simp [s0,s1,s7,s8,hlt]
  rw [hj];exact hK
theorem J15 {f:FuncId}{fn:Func}{fg:FuncId}{fng:Func}{agg:Bool}{sz:Nat}{α:Type}{rowOf:α→List AV}{eltOf:α→AV}{p:α→Bool}{g:FuncId}{fi ca:List AV}
 (hf:P.funcs[f]? = some fn) (hc:J08 P fn=some (J1z fg)) (hn:(fn.name == "runtime.NumGoroutine")=false) (hf':P.funcs[fg]? = some fng) (hc':J08 P fng=some (J2r agg sz)) (hn':(fng.name == "runtime.NumGoroutine")=false)
 (helt:∀ x,ldv true agg (rowOf x) 0 sz=some (eltOf x)) (a:List α) (hg:∀ x∈a,Jce P g fi ca h n (eltOf x) (.bool (p x))) {K:AV→Heap→Nat→Prop}(hK:K (.bool (a.any p)) h n) :
 J1u P f [.sl sz (a.map rowOf),.fn (.func g) fi ca] h n K:=by
 refine J14 hf hc hn (by simp [J1z]) ?_
 simp [J1z]
 refine J6x hf' hc' hn' helt a hg ?_
 simp
 have:=J5l (p:=p) (l:=a) (i:=0)
 simp only [ge_iff_le] at this
 rw [this];exact hK
end
end Go.Proofs.YtoclolkigjbcgaaGreat

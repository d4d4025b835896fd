/- R20E-R30 -/
import Derived.Test.YtoclolkigjbcgaaKRC
import Derived.Deep.LoopGhost
import Derived.ProofKit
import Derived.Deep.Slices
import Derived.SizedLaws
namespace Go.Proofs.Ytoclolkigjbcgaa
set_option linter.all false
open Go Go.RowKit
inductive AC where
 | skip
 | reg (ops:List AO)
 | seq (a b:AC)
 | cond (c:Opd) (a b:AC)
 | blk (id:Nat) (a:AC)
 | loop (a:AC)
 | exit (id:Nat)
 | ret
 | draw (t:DT)
inductive AE where
 | normal
 | exit (id:Nat)
 | ret
def ALoop (F:Env→Heap→Nat→(AE→Env→Heap→Nat→Prop)→Prop) (s:Env) (h:Heap) (n:Nat) (Q:AE→Env→Heap→Nat→Prop):Prop:=
 ∃ (I:Nat→Env→Heap→Nat→Prop),(∃ k,I k s h n)∧∀ k s h n,I k s h n→F s h n fun e s' h' n'=>match e with
   | .normal=>∃ k',k'<k∧I k' s' h' n'
   | e=>Q e s' h' n'
def awp (P:Program):AC→Env→Heap→Nat→(AE→Env→Heap→Nat→Prop)→Prop
 | .skip,s,h,n,Q=>Q .normal s h n
 | .reg ops,s,h,n,Q=>awpO P ops s h n (Q .normal)
 | .seq a b,s,h,n,Q=>awp P a s h n fun e s' h' n'=>match e with
   | .normal=>awp P b s' h' n' Q
   | e=>Q e s' h' n'
 | .cond c a b,s,h,n,Q=>match ev s c with
   | .bool x=>(x=true→awp P a s h n Q)∧(x=false→awp P b s h n Q)
   | _=>False
 | .blk id a,s,h,n,Q=>awp P a s h n fun e s' h' n'=>match e with
   | .exit id'=>if id'=id then Q .normal s' h' n' else Q (.exit id') s' h' n'
   | e=>Q e s' h' n'
 | .loop a,s,h,n,Q=>ALoop (awp P a) s h n Q
 | .exit id,s,h,n,Q=>Q (.exit id) s h n
 | .ret,s,h,n,Q=>Q .ret s h n
 | .draw t,s,h,n,Q=>awpD P t s h n (Q .normal)
def compC (bx:Bool) (P:Program) (nt:Nat):Code→Option AC
 | .skip=>some .skip
 | .region _ ops draw=>if draw then (compD bx P nt ops).map .draw else (ops.toList.mapM (compO bx P nt ops)).map .reg
 | .seq a b=>(compC bx P nt a).bind fun a'=>(compC bx P nt b).map fun b' => .seq a' b'
 | .cond c a b=>(compX P 0 c).bind fun c'=>(compC bx P nt a).bind fun a'=>(compC bx P nt b).map fun b' => .cond c' a' b'
 | .block id a=>(compC bx P nt a).map (.blk id)
 | .loop a=>(compC bx P nt a).map .loop
 | .exit id=>some (.exit id)
 | .ret=>some .ret
 | _=>Option.none
section
variable {bx:Bool} {P:Program} {base:Nat} {w0 w1:World} {L1:Nat→Option Loc} {n1 nt:Nat}
def Ends:AE→Exit→Prop
 | .normal,.normal=>True
 | .exit i,.exit j=>i=j
 | .ret,.ret=>True
 | _,_=>False
def QOf (base:Nat) (w0 w1:World) (L1:Nat→Option Loc) (n1 nt:Nat) (Q:AE→Env→Heap→Nat→Prop):Exit→Act→World→Prop:=
 fun e a w=>∃ ae s h n,Ends ae e∧Rel base w0 w1 L1 n1 nt s h n a w∧Q ae s h n
theorem awp_sound:∀ (c:Code) (ac:AC),compC bx P nt c=some ac→∀ (s:Env) (h:Heap) (n:Nat) (Q:AE→Env→Heap→Nat→Prop) (a:Act) (w:World),
   Rel base w0 w1 L1 n1 nt s h n a w→awp P ac s h n Q→c.wp P (QOf base w0 w1 L1 n1 nt Q) a w:=by
 intro c
 induction c with
 | skip=>
   intro ac hc s h n Q a w hr hK
   simp only [compC,Option.some.injEq] at hc; subst hc
   exact wp_skip ⟨.normal,s,h,n,trivial,hr,hK⟩
 | region id ops draw=>
   intro ac hc s h n Q a w hr hK
   simp only [compC] at hc
   split at hc
   · rename_i hd
     subst hd
     simp only [Option.map_eq_some_iff] at hc
     obtain ⟨t,ht,rfl⟩:=hc
     exact compD_sound ht hr hK fun s h n a w hr hQ=>⟨.normal,s,h,n,trivial,hr,hQ⟩
   · rename_i hd
     have hd:draw=false:=by simpa using hd
     subst hd
     simp only [Option.map_eq_some_iff] at hc
     obtain ⟨os,hos,rfl⟩:=hc
     exact wp_region_list (awpO_sound ops ops.toList os hos s h n _ a w _ hr hK fun s h n a w hr hQ=>⟨.normal,s,h,n,trivial,hr,hQ⟩)
 | seq x y ihx ihy=>
   intro ac hc s h n Q a w hr hK
   simp only [compC,Option.bind_eq_some_iff,Option.map_eq_some_iff] at hc
   obtain ⟨x',hx,y',hy,rfl⟩:=hc
   refine wp_seq (wp_mono (ihx x' hx s h n _ a w hr hK) ?_)
   rintro e a w ⟨ae,s,h,n,he,hr,hq⟩
   cases ae <;> cases e <;> simp only [Ends] at he <;> simp only [Exit.then]
   · exact ihy y' hy s h n Q a w hr hq
   · subst he; exact ⟨.exit _,s,h,n,rfl,hr,hq⟩
   · exact ⟨.ret,s,h,n,trivial,hr,hq⟩
 | cond c x y ihx ihy=>
   intro ac hc s h n Q a w hr hK
   simp only [compC,Option.bind_eq_some_iff,Option.map_eq_some_iff] at hc
   obtain ⟨c',hc',x',hx,y',hy,rfl⟩:=hc
   have hr':=hr
   obtain ⟨hdf,hsz,L,F,H,hs,he⟩:=hr'
   have hv:=compX_sound hc' hs
   simp only [awp] at hK
   split at hK
   · rename_i b hb
     have hv:=VR_bool hb hv
     cases b
     · exact wp_cond_false hv (ihy y' hy s h n Q a w hr (hK.2 rfl))
     · exact wp_cond_true hv (ihx x' hx s h n Q a w hr (hK.1 rfl))
   · exact hK.elim
 | block id x ih=>
   intro ac hc s h n Q a w hr hK
   simp only [compC,Option.map_eq_some_iff] at hc
   obtain ⟨x',hx,rfl⟩:=hc
   refine wp_block (wp_mono (ih x' hx s h n _ a w hr hK) ?_)
   rintro e a w ⟨ae,s,h,n,he,hr,hq⟩
   cases ae <;> cases e <;> simp only [Ends] at he <;> simp only [Exit.inBlock]
   · exact ⟨.normal,s,h,n,trivial,hr,hq⟩
   · subst he
     simp only at hq
     split
     · rename_i hi; rw [if_pos hi] at hq; exact ⟨.normal,s,h,n,trivial,hr,hq⟩
     · rename_i hi; rw [if_neg hi] at hq; exact ⟨.exit _,s,h,n,rfl,hr,hq⟩
   · exact ⟨.ret,s,h,n,trivial,hr,hq⟩
 | loop x ih=>
   intro ac hc s h n Q a w hr hK
   simp only [compC,Option.map_eq_some_iff] at hc
   obtain ⟨x',hx,rfl⟩:=hc
   obtain ⟨I,⟨k,hk⟩,hround⟩:=hK
   refine wp_loop_ghost (fun k a w=>∃ s h n,Rel base w0 w1 L1 n1 nt s h n a w∧I k s h n) k ⟨s,h,n,hr,hk⟩ ?_
   rintro k a w ⟨s,h,n,hr,hk⟩
   refine wp_mono (ih x' hx s h n _ a w hr (hround k s h n hk)) ?_
   rintro e a w ⟨ae,s,h,n,he,hr,hq⟩
   cases ae <;> cases e <;> simp only [Ends] at he <;> simp only [Exit.then]
   · obtain ⟨k',hlt,hk'⟩:=hq
     exact ⟨k',hlt,s,h,n,hr,hk'⟩
   · subst he; exact ⟨.exit _,s,h,n,rfl,hr,hq⟩
   · exact ⟨.ret,s,h,n,trivial,hr,hq⟩
 | exit id=>
   intro ac hc s h n Q a w hr hK
   simp only [compC,Option.some.injEq] at hc; subst hc
   exact wp_exit ⟨.exit id,s,h,n,rfl,hr,hK⟩
 | ret=>
   intro ac hc s h n Q a w hr hK
   simp only [compC,Option.some.injEq] at hc; subst hc
   exact wp_ret ⟨.ret,s,h,n,trivial,hr,hK⟩
 | rangeFunc=>intro ac hc; simp [compC] at hc
 | scope=>intro ac hc; simp [compC] at hc
 | label=>intro ac hc; simp [compC] at hc
 | goto=>intro ac hc; simp [compC] at hc
 | refuse=>intro ac hc; simp [compC] at hc
end
open Go Go.RowKit
inductive RV where
 | t (n:Nat)
 | c (n:Nat) (agg:Bool) (sz:Nat)
structure AFn where
 nt:Nat
 res:List RV
 body:AC
def compR (P:Program):ResultVar→Option RV
 | .tmp t=>some (.t t)
 | .cell a t=>match aggB P t,P.info? t with
   | some g,some i=>some (.c a g i.size)
   | _,_=>Option.none
def compFnX (bx:Bool) (P:Program) (fn:Func):Option AFn:=
 match fn.body with
 | some c=>(compC bx P fn.ntmps c).bind fun b=>(fn.results.toList.mapM (compR P)).map fun r=>⟨fn.ntmps,r,b⟩
 | Option.none=>Option.none
@[reducible] def compFn (P:Program) (fn:Func):Option AFn:=compFnX false P fn
def resA1 (s:Env) (h:Heap):RV→Option AV
 | .t n=>some (s n)
 | .c n g sz=>match s n with
   | .ptr id r c=>match h id with
     | some B=>if r<B.rows.length then ldv B.box g (rowD B.rows r) c sz else Option.none
     | Option.none=>Option.none
   | _=>Option.none
def resAs (s:Env) (h:Heap):List RV→Option (List AV)
 | []=>some []
 | r::rs=>(resA1 s h r).bind fun x=>(resAs s h rs).map fun xs=>x::xs
def oneOf (xs:List AV):AV:=match xs with | [x]=>x | xs => .tup xs
def argsE (as:List AV):Env:=fun i=>as.getD i (.tup [])
def AFnOK (P:Program) (f:AFn) (as:List AV) (h:Heap) (n:Nat) (K:AV→Heap→Nat→Prop):Prop:=
 as.length≤f.nt∧awp P f.body (argsE as) h n fun e s h n=>match e with
   | .exit _=>False
   | _=>onO (resAs s h f.res) fun xs=>K (oneOf xs) h n
def Holds (P:Program) (f:FuncId) (as:List AV) (Q:AV→Prop):Prop:=
 callable P f=true∧∀ (w:World) (vs:List Value),VRl w Lo 0 as vs []→Calls P f vs.toArray w fun e w'=>
   ∃ (v:Value) (r:AV) (S:List Nat),e = .returned v∧Q r∧clean r=true∧Below w.heap.size w w'∧VR w' Lo 0 r v S∧S.Nodup∧∀ b∈S,w.heap.size≤b∧b<w'.heap.size
section
variable {bx:Bool} {P:Program}
theorem argsE_rel {w:World} {L:Nat→Option Loc} {N:Nat} {as:List AV} {vs:List Value} (h:VRl w L N as vs []) (k:Nat):SRel w L N (argsE as) (vs.toArray++Array.replicate k undef):=by
 intro i
 unfold argsE
 have hl:=VRl_length h
 by_cases hi:i<as.length
 · obtain ⟨v,g1,g2⟩:=VRl_get_nil h (List.getElem?_eq_getElem hi)
   rw [List.getD_eq_getElem?_getD,List.getElem?_eq_getElem hi]
   have:(vs.toArray++Array.replicate k undef).getD i undef=v:=by
     rw [Array.getD_eq_getD_getElem?,Array.getElem?_append_left (by simp; omega)]
     simp [g1]
   rw [this]; exact g2
 · rw [List.getD_eq_getElem?_getD,List.getElem?_eq_none (by omega)]
   have:(vs.toArray++Array.replicate k undef).getD i undef=undef:=by
     rw [Array.getD_eq_getD_getElem?,Array.getElem?_append_right (by simp; omega),Array.getElem?_replicate]
     split <;> rfl
   rw [this]; simp [VR,VRl,undef]
theorem resA1_sound {G:ResultVar→Sem Value} {base:Nat} {w0 w:World} {L:Nat→Option Loc} {N:Nat} {F:Nat→List Nat} {h:Heap} {s:Env} {tmps:Array Value} (hG1:∀ t,G (.tmp t)=pure (tmps.getD t undef)) (hG2:∀ a t,G (.cell a t)=do loadVar t (←asAddr (tmps.getD a undef))) (H:HRel base w0 w L N F [] h) (hs:SRel w L N s tmps) {rv:ResultVar} {r:RV} {x:AV}
   (hc:compR P rv=some r) (hx:resA1 s h r=some x) :
   ∃ v,(G rv).run P w = .ok v w∧VR w L N x v []:=by
 unfold compR at hc
 split at hc
 · cases hc
   simp only [resA1,Option.some.injEq] at hx
   subst hx
   exact ⟨_,by rw [hG1]; rfl,hs _⟩
 · split at hc
   · rename_i a t _ _ g i hg hi
     cases hc
     simp only [resA1] at hx
     split at hx
     · rename_i id r c hev
       have hv:=hs a
       rw [hev] at hv
       split at hx
       · rename_i B hB
         split at hx
         · rename_i hr
           obtain ⟨b,o,vs,S',he,g1,g2,g3⟩:=H.row hB hv hr
           have key:∃ v,(loadVar t ⟨b,o+c,Option.none⟩).run P w = .ok v w∧VR w L N x v []:=by
             cases hbox:B.box
             · rw [hbox] at hx g1
               simp only [Bool.false_eq_true,if_false] at g1
               obtain ⟨v,e1,e2⟩:=ldv_raw (P:=P) (L:=L) (N:=0) hg hi rfl (VRl_dr _ _ _ g1) g2 (ldv_dr hx)
               exact ⟨v,e1,VR_ext ⟨Nat.zero_le _,fun _ _ hid=>absurd hid (Nat.not_lt_zero _),Nat.le_refl _,fun _ _ h=>⟨rfl,h⟩⟩ _ _ _ e2⟩
             · rw [hbox] at hx g1
               simp only [if_true] at g1
               rw [g3 hbox] at g1
               exact ldv_raw hg hi rfl g1 g2 hx
           obtain ⟨v,e1,e2⟩:=key
           refine ⟨v,?_,e2⟩
           rw [hG2,he]
           simp [asAddr,e1]
         · cases hx
       · cases hx
     · cases hx
   · cases hc
theorem resAs_sound {G:ResultVar→Sem Value} {base:Nat} {w0 w:World} {L:Nat→Option Loc} {N:Nat} {F:Nat→List Nat} {h:Heap} {s:Env} {tmps:Array Value} (hG1:∀ t,G (.tmp t)=pure (tmps.getD t undef)) (hG2:∀ a t,G (.cell a t)=do loadVar t (←asAddr (tmps.getD a undef))) (H:HRel base w0 w L N F [] h) (hs:SRel w L N s tmps) :
   ∀ {rvs:List ResultVar} {rs:List RV} {xs:List AV},rvs.mapM (compR P)=some rs→resAs s h rs=some xs →
   ∃ vs,(rvs.mapM G).run P w = .ok vs w∧VRl w L N xs vs []
 | [],rs,xs,hc,hx=>by
   simp at hc; subst hc
   simp only [resAs,Option.some.injEq] at hx; subst hx
   exact ⟨[],by simp,rfl,rfl⟩
 | rv::rvs,rs,xs,hc,hx=>by
   rw [List.mapM_cons] at hc
   simp only [Option.bind_eq_bind,Option.bind_eq_some_iff,Option.pure_def,Option.some.injEq] at hc
   obtain ⟨r,hr,rs',hrs,rfl⟩:=hc
   simp only [resAs,Option.bind_eq_some_iff,Option.map_eq_some_iff] at hx
   obtain ⟨x,hx1,xs',hx2,rfl⟩:=hx
   obtain ⟨v,e1,e2⟩:=resA1_sound hG1 hG2 H hs hr hx1
   obtain ⟨vs,k1,k2⟩:=resAs_sound hG1 hG2 H hs hrs hx2
   refine ⟨v::vs,?_,VRl_nil_cons.2 ⟨v,vs,rfl,e2,k2⟩⟩
   rw [List.mapM_cons,Sem.run_bind,e1]
   simp only [Result.andThen_ok,Sem.run_bind,k1]
   rfl
theorem acall_of_body {f:FuncId} {fn:Func} {af:AFn} {as:List AV} {h:Heap} {n:Nat} {K:AV→Heap→Nat→Prop} (hf:P.funcs[f]? = some fn) (hc:compFnX bx P fn=some af) (hn:(fn.name == "runtime.NumGoroutine")=false)
   (hK:AFnOK P af as h n K):ACall P f as h n K:=by
 unfold compFnX at hc
 split at hc
 · rename_i c hb
   simp only [Option.bind_eq_some_iff,Option.map_eq_some_iff] at hc
   obtain ⟨b,hbc,rs,hrs,rfl⟩:=hc
   refine ⟨by simp [callable,hf,hb,hn],fun base w0 w L F vs H hv => ?_⟩
   have hl:=VRl_length hv
   obtain ⟨hle,hK⟩:=hK
   simp only at hle
   refine calls_of_wp hf hb ?_
   have hrel:Rel base w0 w L n fn.ntmps (argsE as) h n { tmps:=vs.toArray++Array.replicate (fn.ntmps - vs.toArray.size) undef,defers:=[] } w:=
     ⟨rfl,by simp; omega,L,F,H,argsE_rel hv _,Ext.refl _ _ _⟩
   refine wp_mono (awp_sound c b hbc _ _ _ _ _ _ hrel hK) ?_
   rintro e a w' ⟨ae,s,h',n',he,⟨hdf,hsz,L',F',H',hs',hext⟩,hq⟩
   have key:∀ xs,resAs s h' rs=some xs→K (oneOf xs) h' n'→∃ v,(results fn a.tmps).run P w' = .ok v w'∧∃ (v':Value) (r:AV) (L':Nat→Option Loc) (n':Nat) (F':Nat→List Nat) (h':Heap),Ending.returned v = .returned v' ∧
       HRel base w0 w' L' n' F' [] h'∧Ext w L n w' L' n'∧VR w' L' n' r v' []∧K r h' n':=by
     intro xs hxs hk
     obtain ⟨G,hG1,hG2,hG3⟩:∃ G:ResultVar→Sem Value,(∀ t,G (.tmp t)=pure (a.tmps.getD t undef))∧(∀ a' t,G (.cell a' t)=do loadVar t (←asAddr (a.tmps.getD a' undef))) ∧
         results fn a.tmps=(do let vs ←fn.results.mapM G; pure (if h:vs.size=1 then vs[0] else .tuple vs)):=⟨_,fun _=>rfl,fun _ _=>rfl,rfl⟩
     obtain ⟨us,e1,e2⟩:=resAs_sound (P:=P) hG1 hG2 H' hs' hrs hxs
     have hm:(fn.results.mapM G).run P w' = .ok us.toArray w':=by
       rw [Array.mapM_eq_mapM_toList]
       simp only [map_eq_pure_bind,Sem.run_bind,e1,Result.andThen_ok,Sem.run_pure]
     have hul:=VRl_length e2
     refine ⟨if h:us.toArray.size=1 then us.toArray[0] else .tuple us.toArray,?_,_,oneOf xs,L',n',F',h',rfl,H',hext,?_,hk⟩
     · rw [hG3,Sem.run_bind,hm]; rfl
     · match xs,us,e2,hul with
       | [],us,e2,hul=>
         have:us=[]:=List.eq_nil_of_length_eq_zero (by simpa using hul)
         subst this
         simp [oneOf,VR,VRl]
       | [x],us,e2,hul=>
         obtain ⟨u,us',rfl,g1,g2⟩:=VRl_nil_cons.1 e2
         have:us'=[]:=List.eq_nil_of_length_eq_zero (by simpa using hul)
         subst this
         simpa [oneOf] using g1
       | x::y::xs,us,e2,hul=>
         have:¬us.toArray.size=1:=by simp; simp at hul; omega
         rw [dif_neg this]
         simp only [oneOf,VR]
         exact ⟨_,rfl,by simpa using e2⟩
   cases ae <;> cases e <;> simp only [Ends] at he <;> simp only [bodyPost]
   · change onO _ _ at hq
     unfold onO at hq
     split at hq
     · rename_i xs hxs
       obtain ⟨v,g1,g2⟩:=key xs hxs hq
       exact ⟨hdf,v,g1,g2⟩
     · exact hq.elim
   · exact hq.elim
   · change onO _ _ at hq
     unfold onO at hq
     split at hq
     · rename_i xs hxs
       obtain ⟨v,g1,g2⟩:=key xs hxs hq
       exact ⟨hdf,v,g1,g2⟩
     · exact hq.elim
 · cases hc
def noHeap:Heap:=fun _=>Option.none
theorem holds_of_acall {f:FuncId} {as:List AV} {Q:AV→Prop} (h:ACall P f as noHeap 0 fun r h _=>onO (dt r h) fun q=>clean q.1=true∧Q q.1):Holds P f as Q:=by
 refine ⟨h.1,fun w vs hv => ?_⟩
 have H0:HRel w.heap.size w w Lo 0 (fun _=>[]) [] noHeap:=
   ⟨Below.refl _ _,Nat.le_refl _,fun _ _=>rfl,fun _ _=>rfl,(fun _ _ h=>by cases h),(fun _ _ _ _ _ _ _ h=>by cases h),fun b h=>absurd h (not_own_Lo b),(fun _ _ _ h=>by cases h),by simp,by simp,by simp,by simp,by simp,by simp⟩
 refine (h.2 w.heap.size w w Lo (fun _=>[]) vs H0 hv).mono ?_
 rintro e w' ⟨v,r,L',n',F',h',rfl,H',hext,hr,hq⟩
 unfold onO at hq
 split at hq
 · rename_i q hq'
   obtain ⟨L2,F2,S,g1,g2,g3⟩:=dt_sound r H' hr hq'
   rw [List.append_nil] at g1
   exact ⟨v,q.1,S,rfl,hq.2,hq.1,H'.below,VR_env q.1 v S hq.1 (fun b _=>not_own_Lo b) g2,g1.ne,fun b hb=>⟨(g1.ep b hb).2.1,(g1.ep b hb).2.2⟩⟩
 · exact hq.elim
theorem acall_of_holds {f:FuncId} {as as':List AV} {h:Heap} {n:Nat} {Q:AV→Prop} {K:AV→Heap→Nat→Prop} (hh:Holds P f as' Q) (hb:bwl as h=some as')
   (hK:∀ r,Q r→K (sub r n) (addAll h n (col r)) (n+(col r).length)):ACall P f as h n K:=by
 refine ⟨hh.1,fun base w0 w L F vs H hv => ?_⟩
 refine (hh.2 w vs (bwl_sound H as hv hb)).mono ?_
 rintro e w' ⟨v,r,S,rfl,hq,hcl,hbel,hr,hnd,hS⟩
 obtain ⟨L',F',g1,g2,g3⟩:=H.take hbel hcl hr hnd hS
 exact ⟨v,_,L',_,F',_,rfl,g1,g3,g2,hK r hq⟩
theorem acallE_of_holds {f:FuncId} {as as':List AV} {h:Heap} {n:Nat} {Q:AV→Prop} {K:AV→Heap→Nat→Prop} (hh:Holds P f as' Q) (hb:bwl as h=some as')
   (hK:∀ r,Q r→K (sub r n) (addAll h n (col r)) (n+(col r).length)):ACall P f as h n fun r h' n'=>hext h h'∧K r h' n':=by
 refine ⟨hh.1,fun base w0 w L F vs H hv => ?_⟩
 refine (hh.2 w vs (bwl_sound H as hv hb)).mono ?_
 rintro e w' ⟨v,r,S,rfl,hq,hcl,hbel,hr,hnd,hS⟩
 obtain ⟨L',F',g1,g2,g3⟩:=H.take hbel hcl hr hnd hS
 refine ⟨v,_,L',_,F',_,rfl,g1,g3,g2,fun id B hB => ?_,hK r hq⟩
 have hlt:id<n:=by
   cases hl:L id with
   | none=>rw [H.mod id hl] at hB; cases hB
   | some l=>exact H.lt id l hl
 rw [addAll_eq,if_neg (by omega)]; exact hB
end
open Go Go.RowKit
def i64 (n:Int):AV := .int .i64 n
def intsR (l:List Int):List (List AV):=l.map fun n=>[i64 n]
def ints (l:List Int):AV := .sl 1 (intsR l)
abbrev Fin:=AE→Env→Heap→Nat→Prop
inductive Kt where
 | seq (b:AC)
 | blk (id:Nat)
def kont (P:Program):List Kt→AE→Env→Heap→Nat→Fin→Prop
 | [],e,s,h,n,Q=>Q e s h n
 | .seq b::ks,e,s,h,n,Q=>match e with
   | .normal=>awp P b s h n fun e s h n=>kont P ks e s h n Q
   | e=>kont P ks e s h n Q
 | .blk id::ks,e,s,h,n,Q=>match e with
   | .exit id'=>if id'=id then kont P ks .normal s h n Q else kont P ks (.exit id') s h n Q
   | e=>kont P ks e s h n Q
def rC (P:Program) (a:AC) (ks:List Kt) (s:Env) (h:Heap) (n:Nat) (Q:Fin):Prop:=awp P a s h n fun e s h n=>kont P ks e s h n Q
def rO (P:Program) (os:List AO) (ks:List Kt) (s:Env) (h:Heap) (n:Nat) (Q:Fin):Prop:=awpO P os s h n fun s h n=>kont P ks .normal s h n Q
def rD (P:Program) (t:DT) (ks:List Kt) (s:Env) (h:Heap) (n:Nat) (Q:Fin):Prop:=awpD P t s h n fun s h n=>kont P ks .normal s h n Q
def rL (P:Program) (a:AC) (ks:List Kt) (s:Env) (h:Heap) (n:Nat) (Q:Fin):Prop:=ALoop (awp P a) s h n fun e s h n=>kont P ks e s h n Q
def nextO (P:Program) (os:List AO) (ks:List Kt) (d:Option Nat) (s:Env) (Q:Fin) (r:AV) (h:Heap) (n:Nat):Prop:=rO P os ks (setO s d r) h n Q
def nextD (P:Program) (t:DT) (ks:List Kt) (d:Option Nat) (s:Env) (Q:Fin) (r:AV) (h:Heap) (n:Nat):Prop:=rD P t ks (setO s d r) h n Q
def nextH (P:Program) (ps:List AOp) (t:DT) (ks:List Kt) (d:Option Nat) (s:Env) (h0:Heap) (Q:Fin) (r:AV) (h:Heap) (n:Nat):Prop:=sameL ps s h0 h∧rD P t ks (setO s d r) h n Q
def hK (h:Heap) (K:AV→Heap→Nat→Prop) (r:AV) (h':Heap) (n':Nat):Prop:=hext h h'∧K r h' n'
def finH (res:List RV) (Q:AV→Prop):Fin:=fun e s h _=>match e with
 | .exit _=>False
 | _=>onO (resAs s h res) fun xs=>onO (dt (oneOf xs) h) fun q=>clean q.1=true∧Q q.1
def gd (b want:Bool) (A B:Prop):Prop:=(b=want→A)∧(b = !want→B)
@[simp ↓] theorem gd_tt {A B:Prop} : gd true true A B=A:=by simp [gd]
@[simp ↓] theorem gd_ft {A B:Prop} : gd false true A B=B:=by simp [gd]
@[simp ↓] theorem gd_tf {A B:Prop} : gd true false A B=B:=by simp [gd]
@[simp ↓] theorem gd_ff {A B:Prop} : gd false false A B=A:=by simp [gd]
@[simp] theorem gd_t {b:Bool} {A B:Prop} : gd b true A B=((b=true→A)∧(b=false→B)):=propext Iff.rfl
@[simp] theorem gd_f {b:Bool} {A B:Prop} : gd b false A B=((b=false→A)∧(b=true→B)):=propext Iff.rfl
def condV (v:AV) (A B:Prop):Prop:=match v with
 | .bool x=>gd x true A B
 | _=>False
@[simp ↓] theorem condV_bool {x:Bool} {A B:Prop} : condV (.bool x) A B=gd x true A B:=rfl
def guardV (v:AV) (want:Bool) (A B C:Prop):Prop:=match v with
 | .bool b=>gd b want A B
 | .tup []=>C
 | _=>False
@[congr] theorem guardV_congr {v v':AV} {want:Bool} {A B C:Prop} (h:v=v'):guardV v want A B C=guardV v' want A B C:=by subst h; rfl
@[simp ↓] theorem guardV_bool {b want:Bool} {A B C:Prop} : guardV (.bool b) want A B C=gd b want A B:=rfl
@[simp ↓] theorem guardV_tup {want:Bool} {A B C:Prop} : guardV (.tup []) want A B C=C:=rfl
section
variable {h:Heap} {n:Nat} {K:AV→Heap→Nat→Prop}
def ldV (agg:Bool) (sz:Nat) (v:AV) (h:Heap) (n:Nat) (K:AV→Heap→Nat→Prop):Prop:=match v with
 | .ptr id r c=>onO (h id) fun B=>r<B.rows.length∧onO (ldv B.box agg (rowD B.rows r) c sz) fun a=>K a h n
 | .fptr row c=>onO (ldv true agg row c sz) fun a=>K a h n
 | _=>False
@[simp ↓] theorem ldV_ptr {agg:Bool} {sz id r c:Nat} : ldV agg sz (.ptr id r c) h n K=onO (h id) fun B=>r<B.rows.length∧onO (ldv B.box agg (rowD B.rows r) c sz) fun a=>K a h n:=rfl
@[simp ↓] theorem ldV_fptr {agg:Bool} {sz c:Nat} {row:List AV} : ldV agg sz (.fptr row c) h n K=onO (ldv true agg row c sz) fun a=>K a h n:=rfl
def stV (sz:Nat) (v x:AV) (h:Heap) (n:Nat) (K:AV→Heap→Nat→Prop):Prop:=(cellsOf x).length=sz∧(cellsOf x).all isCell=true∧match v with
   | .ptr id r c=>onO (h id) fun B=>
       if B.box then r<B.rows.length∧c+sz≤(rowD B.rows r).length∧K (.tup []) (upd h id (some ⟨true,B.sz,B.rows.set r (splice (rowD B.rows r) c (cellsOf x))⟩)) n
       else onO (dtl (cellsOf x) h) fun q=>onO (q.2 id) fun B'=>B'.box=false∧r<B'.rows.length∧c+sz≤(rowD B'.rows r).length ∧
         K (.tup []) (upd q.2 id (some ⟨false,B'.sz,B'.rows.set r (splice (rowD B'.rows r) c q.1)⟩)) n
   | _=>False
@[simp ↓] theorem stV_ptr {sz id r c:Nat} {x:AV} : stV sz (.ptr id r c) x h n K=((cellsOf x).length=sz∧(cellsOf x).all isCell=true∧onO (h id) fun B=>
       if B.box then r<B.rows.length∧c+sz≤(rowD B.rows r).length∧K (.tup []) (upd h id (some ⟨true,B.sz,B.rows.set r (splice (rowD B.rows r) c (cellsOf x))⟩)) n
       else onO (dtl (cellsOf x) h) fun q=>onO (q.2 id) fun B'=>B'.box=false∧r<B'.rows.length∧c+sz≤(rowD B'.rows r).length ∧
         K (.tup []) (upd q.2 id (some ⟨false,B'.sz,B'.rows.set r (splice (rowD B'.rows r) c q.1)⟩)) n):=rfl
def binV (op:BinOp) (x y:AV) (h:Heap) (n:Nat) (K:AV→Heap→Nat→Prop):Prop:=match x,y with
   | .int k a,.int k' b=>k=k'∧match op with
     | .quo=>b≠0∧K (.int k (k.wrap (a.tdiv b))) h n
     | .rem=>b≠0∧K (.int k (a.tmod b)) h n
     | _=>onO (binI op k a b) fun r=>K r h n
   | .str a,.str b=>match op with
     | .add=>a.length+b.length≤LIM∧K (.str (a++b)) h n
     | _=>onO (binS op a b) fun r=>K r h n
   | _,_=>False
@[congr] theorem binV_congr {op:BinOp} {x x' y y':AV} (hx:x=x') (hy:y=y'):binV op x y h n K=binV op x' y' h n K:=by subst hx hy; rfl
@[simp ↓] theorem binV_int {op:BinOp} {k k':IntKind} {a b:Int} : binV op (.int k a) (.int k' b) h n K=(k=k'∧match op with
     | .quo=>b≠0∧K (.int k (k.wrap (a.tdiv b))) h n
     | .rem=>b≠0∧K (.int k (a.tmod b)) h n
     | op=>onO (binI op k a b) fun r=>K r h n):=by cases op <;> rfl
def beqV (neg:Bool) (x y:AV) (h:Heap) (n:Nat) (K:AV→Heap→Nat→Prop):Prop:=match x,y with
   | .bool a,.bool b=>K (.bool (if neg then !(a==b) else a==b)) h n
   | _,_=>False
@[simp ↓] theorem beqV_bool {neg a b:Bool} : beqV neg (.bool a) (.bool b) h n K=K (.bool (if neg then !(a==b) else a==b)) h n:=rfl
def unV (op:UnOp) (x:AV) (h:Heap) (n:Nat) (K:AV→Heap→Nat→Prop):Prop:=match op,x with
   | .not,.bool b=>K (.bool (!b)) h n
   | .neg,.int k a=>K (.int k (k.wrap (0 - a))) h n
   | _,_=>False
@[simp ↓] theorem unV_not {b:Bool} : unV .not (.bool b) h n K=K (.bool (!b)) h n:=rfl
@[simp ↓] theorem unV_neg {k:IntKind} {a:Int} : unV .neg (.int k a) h n K=K (.int k (k.wrap (0 - a))) h n:=rfl
def slcV (str:Bool) (sz:Nat) (x:AV) (s:Env) (lo hi:Option Opd) (h:Heap) (n:Nat) (K:AV→Heap→Nat→Prop):Prop:=match str,x with
   | true,.str l=>onO (lowOf s 0 lo) fun a=>onO (lowOf s l.length hi) fun b=>0≤a∧a≤b∧b≤l.length∧K (.str ((l.take b.toNat).drop a.toNat)) h n
   | false,.sl sz' rows=>onO (lowOf s 0 lo) fun a=>onO (lowOf s rows.length hi) fun b=>sz'=sz∧0≤a∧a≤b∧b≤rows.length∧K (.sl sz' ((rows.take b.toNat).drop a.toNat)) h n
   | false,.ref id off len=>onO (lowOf s 0 lo) fun a=>onO (lowOf s len hi) fun b=>0≤a∧a≤b∧b≤len∧onO (h id) fun B=>B.sz=sz∧K (.ref id (off+a.toNat) (b - a).toNat) h n
   | false,.nil sz'=>onO (lowOf s 0 lo) fun a=>onO (lowOf s 0 hi) fun b=>a=0∧b=0∧K (.nil sz') h n
   | _,_=>False
@[simp ↓] theorem slcV_str {sz:Nat} {l:List UInt8} {s:Env} {lo hi:Option Opd} : slcV true sz (.str l) s lo hi h n K=onO (lowOf s 0 lo) fun a=>onO (lowOf s l.length hi) fun b=>0≤a∧a≤b∧b≤l.length∧K (.str ((l.take b.toNat).drop a.toNat)) h n:=rfl
@[simp ↓] theorem slcV_sl {sz sz':Nat} {rows:List (List AV)} {s:Env} {lo hi:Option Opd} : slcV false sz (.sl sz' rows) s lo hi h n K=onO (lowOf s 0 lo) fun a=>onO (lowOf s rows.length hi) fun b=>sz'=sz∧0≤a∧a≤b∧b≤rows.length∧K (.sl sz' ((rows.take b.toNat).drop a.toNat)) h n:=rfl
@[simp ↓] theorem slcV_ref {sz id off len:Nat} {s:Env} {lo hi:Option Opd} : slcV false sz (.ref id off len) s lo hi h n K=onO (lowOf s 0 lo) fun a=>onO (lowOf s len hi) fun b=>0≤a∧a≤b∧b≤len∧onO (h id) fun B=>B.sz=sz∧K (.ref id (off+a.toNat) (b - a).toNat) h n:=rfl
@[simp ↓] theorem slcV_nil {sz sz':Nat} {s:Env} {lo hi:Option Opd} : slcV false sz (.nil sz') s lo hi h n K=onO (lowOf s 0 lo) fun a=>onO (lowOf s 0 hi) fun b=>a=0∧b=0∧K (.nil sz') h n:=rfl
def fldV (off:Nat) (x:AV) (h:Heap) (n:Nat) (K:AV→Heap→Nat→Prop):Prop:=match x with
   | .ptr id r c=>(h id).isSome=true∧K (.ptr id r (c+off)) h n
   | .fptr row c=>K (.fptr row (c+off)) h n
   | _=>False
@[simp ↓] theorem fldV_ptr {off id r c:Nat} : fldV off (.ptr id r c) h n K=((h id).isSome=true∧K (.ptr id r (c+off)) h n):=rfl
@[simp ↓] theorem fldV_fptr {off c:Nat} {row:List AV} : fldV off (.fptr row c) h n K=K (.fptr row (c+off)) h n:=rfl
def ixaV (sz:Nat) (x:AV) (i:Option Int) (h:Heap) (n:Nat) (K:AV→Heap→Nat→Prop):Prop:=match x,i with
   | .sl sz' rows,some i=>sz'=sz∧0≤i∧i<rows.length∧K (.fptr (rowD rows i.toNat) 0) h n
   | .ref id off len,some i=>0≤i∧i<len∧onO (h id) fun B=>B.sz=sz∧K (.ptr id (off+i.toNat) 0) h n
   | _,_=>False
@[simp ↓] theorem ixaV_sl {sz sz':Nat} {rows:List (List AV)} {i:Int} : ixaV sz (.sl sz' rows) (some i) h n K=(sz'=sz∧0≤i∧i<rows.length∧K (.fptr (rowD rows i.toNat) 0) h n):=rfl
@[simp ↓] theorem ixaV_ref {sz id off len:Nat} {i:Int} : ixaV sz (.ref id off len) (some i) h n K=(0≤i∧i<len∧onO (h id) fun B=>B.sz=sz∧K (.ptr id (off+i.toNat) 0) h n):=rfl
def extV (x:AV) (i:Nat) (h:Heap) (n:Nat) (K:AV→Heap→Nat→Prop):Prop:=match x with
   | .tup vs=>onO vs[i]? fun a=>K a h n
   | _=>False
@[simp ↓] theorem extV_tup {vs:List AV} {i:Nat} : extV (.tup vs) i h n K=onO vs[i]? fun a=>K a h n:=rfl
def callV (P:Program) (v:AV) (as:List AV) (h:Heap) (n:Nat) (K:AV→Heap→Nat→Prop):Prop:=match v with
   | .fn (.func f) fi ca=>ACall P f (fi++as++ca) h n K
   | _=>False
@[simp ↓] theorem callV_fn {P:Program} {f:FuncId} {fi ca as:List AV} : callV P (.fn (.func f) fi ca) as h n K=ACall P f (fi++as++ca) h n K:=rfl
def lenV (str:Bool) (v:AV) (h:Heap) (n:Nat) (K:AV→Heap→Nat→Prop):Prop:=match str,v with
   | true,.str l=>l.length≤LIM→K (.int .i64 l.length) h n
   | false,.sl _ rows=>rows.length≤LIM→K (.int .i64 rows.length) h n
   | false,.ref id _ len=>(h id).isSome=true∧(len≤LIM→K (.int .i64 len) h n)
   | false,.nil _=>K (.int .i64 0) h n
   | _,_=>False
@[simp ↓] theorem lenV_str {l:List UInt8} : lenV true (.str l) h n K=(l.length≤LIM→K (.int .i64 l.length) h n):=rfl
@[simp ↓] theorem lenV_sl {sz:Nat} {rows:List (List AV)} : lenV false (.sl sz rows) h n K=(rows.length≤LIM→K (.int .i64 rows.length) h n):=rfl
@[simp ↓] theorem lenV_ref {id off len:Nat} : lenV false (.ref id off len) h n K=((h id).isSome=true∧(len≤LIM→K (.int .i64 len) h n)):=rfl
@[simp ↓] theorem lenV_nil {sz:Nat} : lenV false (.nil sz) h n K=K (.int .i64 0) h n:=rfl
def lenW (str:Bool) (v:AV) (h:Heap) (n:Nat) (K:AV→Heap→Nat→Prop):Prop:=match str,v with
   | true,.str l=>K (.int .i64 l.length) h n
   | false,.sl _ rows=>K (.int .i64 rows.length) h n
   | false,.ref id _ len=>(h id).isSome=true∧K (.int .i64 len) h n
   | false,.nil _=>K (.int .i64 0) h n
   | _,_=>False
@[simp ↓] theorem lenW_str {l:List UInt8} : lenW true (.str l) h n K=K (.int .i64 l.length) h n:=rfl
@[simp ↓] theorem lenW_sl {sz:Nat} {rows:List (List AV)} : lenW false (.sl sz rows) h n K=K (.int .i64 rows.length) h n:=rfl
@[simp ↓] theorem lenW_ref {id off len:Nat} : lenW false (.ref id off len) h n K=((h id).isSome=true∧K (.int .i64 len) h n):=rfl
@[simp ↓] theorem lenW_nil {sz:Nat} : lenW false (.nil sz) h n K=K (.int .i64 0) h n:=rfl
def notId (id:Nat) (y:AV):Prop:=match y with | .ref id2 _ _=>id2≠id | _=>True
def appV (bytes sz:Nat) (x y:AV) (h:Heap) (n:Nat) (K:AV→Heap→Nat→Prop):Prop:=match x with
   | .nil _=>onO (srcRows h y) fun p=>p.1=sz∧(p.2.1.length*bytes≤LIM)∧K (.ref n 0 p.2.1.length) (upd p.2.2 n (some ⟨false,sz,p.2.1⟩)) (n+1)
   | .ref id off len=>off=0∧onO (srcRows h y) fun p=>onO (h id) fun B=>B.box=false∧B.sz=sz∧len≤B.rows.length∧p.1=sz ∧
       notId id y∧((len+p.2.1.length)*bytes≤LIM) ∧
       K (.ref n 0 (len+p.2.1.length)) (upd (upd p.2.2 id Option.none) n (some ⟨false,sz,B.rows.take len++p.2.1⟩)) (n+1)
   | _=>False
@[simp ↓] theorem appV_nil {bytes sz z:Nat} {y:AV} : appV bytes sz (.nil z) y h n K=onO (srcRows h y) fun p=>p.1=sz∧(p.2.1.length*bytes≤LIM)∧K (.ref n 0 p.2.1.length) (upd p.2.2 n (some ⟨false,sz,p.2.1⟩)) (n+1):=rfl
@[simp ↓] theorem appV_ref {bytes sz id off len:Nat} {y:AV} : appV bytes sz (.ref id off len) y h n K=(off=0∧onO (srcRows h y) fun p=>onO (h id) fun B=>B.box=false∧B.sz=sz∧len≤B.rows.length∧p.1=sz ∧
       notId id y∧((len+p.2.1.length)*bytes≤LIM) ∧
       K (.ref n 0 (len+p.2.1.length)) (upd (upd p.2.2 id Option.none) n (some ⟨false,sz,B.rows.take len++p.2.1⟩)) (n+1)):=rfl
def mnxV (mx:Bool) (x y:AV) (h:Heap) (n:Nat) (K:AV→Heap→Nat→Prop):Prop:=match x,y with
   | .int k a,.int k' b=>k=k'∧K (.int k (if mx then (if b>a then b else a) else (if b<a then b else a))) h n
   | _,_=>False
@[simp ↓] theorem mnxV_int {mx:Bool} {k k':IntKind} {a b:Int} : mnxV mx (.int k a) (.int k' b) h n K=(k=k'∧K (.int k (if mx then (if b>a then b else a) else (if b<a then b else a))) h n):=rfl
def inilV (neg:Bool) (x:AV) (h:Heap) (n:Nat) (K:AV→Heap→Nat→Prop):Prop:=match x with
   | .sl _ rows=>(rows=[]→K (.bool (!neg)) h n)∧K (.bool neg) h n
   | .nil _=>K (.bool (!neg)) h n
   | .ref id _ len=>(h id).isSome=true∧(len=0→K (.bool (!neg)) h n)∧K (.bool neg) h n
   | _=>False
@[simp ↓] theorem inilV_sl {neg:Bool} {sz:Nat} {rows:List (List AV)} : inilV neg (.sl sz rows) h n K=((rows=[]→K (.bool (!neg)) h n)∧K (.bool neg) h n):=rfl
@[simp ↓] theorem inilV_nil {neg:Bool} {sz:Nat} : inilV neg (.nil sz) h n K=K (.bool (!neg)) h n:=rfl
@[simp ↓] theorem inilV_ref {neg:Bool} {id off len:Nat} : inilV neg (.ref id off len) h n K=((h id).isSome=true∧(len=0→K (.bool (!neg)) h n)∧K (.bool neg) h n):=rfl
def appbV (bytes sz:Nat) (x y:AV) (h:Heap) (n:Nat) (K:AV→Heap→Nat→Prop):Prop:=match x with
   | .nil _=>onO (srcRowsB h y) fun p=>p.1=sz∧(p.2.length*bytes≤LIM)∧K (.ref n 0 p.2.length) (upd h n (some ⟨true,sz,p.2⟩)) (n+1)
   | .ref id off len=>off=0∧onO (srcRowsB h y) fun p=>onO (h id) fun B=>B.box=true∧B.sz=sz∧len≤B.rows.length∧p.1=sz∧((len+p.2.length)*bytes≤LIM) ∧
       K (.ref n 0 (len+p.2.length)) (upd (upd h id Option.none) n (some ⟨true,sz,B.rows.take len++p.2⟩)) (n+1)
   | _=>False
@[simp ↓] theorem appbV_nil {bytes sz z:Nat} {y:AV} : appbV bytes sz (.nil z) y h n K=onO (srcRowsB h y) fun p=>p.1=sz∧(p.2.length*bytes≤LIM)∧K (.ref n 0 p.2.length) (upd h n (some ⟨true,sz,p.2⟩)) (n+1):=rfl
@[simp ↓] theorem appbV_ref {bytes sz id off len:Nat} {y:AV} : appbV bytes sz (.ref id off len) y h n K=(off=0∧onO (srcRowsB h y) fun p=>onO (h id) fun B=>B.box=true∧B.sz=sz∧len≤B.rows.length∧p.1=sz∧((len+p.2.length)*bytes≤LIM) ∧
       K (.ref n 0 (len+p.2.length)) (upd (upd h id Option.none) n (some ⟨true,sz,B.rows.take len++p.2⟩)) (n+1)):=rfl
variable {P:Program} {s:Env}
@[simp ↓] theorem aop_bslb {sz:Nat} {ps:List Opd} : aop P s h n K (.bslb sz ps)=((ps.all fun p=>(cellsOf (ev s p)).length==sz&&(cellsOf (ev s p)).all isCell)=true ∧
     K (.ref n 0 ps.length) (upd h n (some ⟨true,sz,ps.map fun p=>cellsOf (ev s p)⟩)) (n+1)):=propext Iff.rfl
@[simp ↓] theorem aop_appb {bytes sz:Nat} {x y:Opd} : aop P s h n K (.appb bytes sz x y)=appbV bytes sz (ev s x) (ev s y) h n K:=propext Iff.rfl
@[simp ↓] theorem aop_mmk:aop P s h n K .mmk=K (.mp n) (upd h n (some ⟨true,0,[]⟩)) (n+1):=propext Iff.rfl
@[simp ↓] theorem aop_inil {neg:Bool} {x:Opd} : aop P s h n K (.inil neg x)=inilV neg (ev s x) h n K:=propext Iff.rfl
@[simp ↓] theorem aop_mv {x:Opd} : aop P s h n K (.mv x)=K (ev s x) h n:=propext Iff.rfl
@[simp ↓] theorem aop_box {z:List AV} : aop P s h n K (.box z)=K (.ptr n 0 0) (upd h n (some ⟨true,z.length,[z]⟩)) (n+1):=propext Iff.rfl
@[simp ↓] theorem aop_boxv {x:Opd} : aop P s h n K (.boxv x)=(0<(cellsOf (ev s x)).length∧(cellsOf (ev s x)).all isCell=true∧K (.ptr n 0 0) (upd h n (some ⟨true,(cellsOf (ev s x)).length,[cellsOf (ev s x)]⟩)) (n+1)):=propext Iff.rfl
@[simp ↓] theorem aop_build {z:List AV} {ps:List (Nat×Nat×Opd)} : aop P s h n K (.build z ps)=((ps.all fun p=>(cellsOf (ev s p.2.2)).all isCell)=true∧onO (fillA z (ps.map fun p=>(p.1,p.2.1,ev s p.2.2))) fun cs=>K (.agg cs) h n):=propext Iff.rfl
@[simp ↓] theorem aop_bsl {sz:Nat} {ps:List Opd} : aop P s h n K (.bsl sz ps)=onO (dtl (ps.map (ev s)) h) fun q=>(q.1.all fun a=>(cellsOf a).length==sz&&(cellsOf a).all isCell)=true ∧
     K (.ref n 0 ps.length) (upd q.2 n (some ⟨false,sz,q.1.map cellsOf⟩)) (n+1):=propext Iff.rfl
@[simp ↓] theorem aop_ld {agg:Bool} {sz:Nat} {x:Opd} : aop P s h n K (.ld agg sz x)=ldV agg sz (ev s x) h n K:=propext Iff.rfl
@[simp ↓] theorem aop_st {sz:Nat} {a x:Opd} : aop P s h n K (.st sz a x)=stV sz (ev s a) (ev s x) h n K:=propext Iff.rfl
@[simp ↓] theorem aop_bin {op:BinOp} {x y:Opd} : aop P s h n K (.bin op x y)=binV op (ev s x) (ev s y) h n K:=propext Iff.rfl
@[simp ↓] theorem aop_beq {neg:Bool} {x y:Opd} : aop P s h n K (.beq neg x y)=beqV neg (ev s x) (ev s y) h n K:=propext Iff.rfl
@[simp ↓] theorem aop_un {op:UnOp} {x:Opd} : aop P s h n K (.un op x)=unV op (ev s x) h n K:=propext Iff.rfl
@[simp ↓] theorem aop_cvi {k:IntKind} {x:Opd} : aop P s h n K (.cvi k x)=onO (asI (ev s x)) fun a=>K (.int k (k.wrap a)) h n:=propext Iff.rfl
@[simp ↓] theorem aop_cvb {x:Opd} : aop P s h n K (.cvb x)=onO (srcRows h (ev s x)) fun p=>onO (bytesOf p.2.1) fun l=>K (.str l) h n:=propext Iff.rfl
@[simp ↓] theorem aop_mkf {f:Fn} {fi ca:List Opd} : aop P s h n K (.mkf f fi ca)=K (.fn f (fi.map (ev s)) (ca.map (ev s))) h n:=propext Iff.rfl
@[simp ↓] theorem aop_mks {bytes:Nat} {z:List AV} {l c:Opd} : aop P s h n K (.mks bytes z l c)=onO (asI (ev s l)) fun l=>onO (asI (ev s c)) fun c=>0≤l∧l≤c∧c*bytes≤LIM ∧
     K (.ref n 0 l.toNat) (upd h n (some ⟨false,z.length,List.replicate l.toNat z⟩)) (n+1):=propext Iff.rfl
@[simp ↓] theorem aop_slc {str:Bool} {sz:Nat} {x:Opd} {lo hi:Option Opd} : aop P s h n K (.slc str sz x lo hi)=slcV str sz (ev s x) s lo hi h n K:=propext Iff.rfl
@[simp ↓] theorem aop_fld {off:Nat} {x:Opd} : aop P s h n K (.fld off x)=fldV off (ev s x) h n K:=propext Iff.rfl
@[simp ↓] theorem aop_ixa {sz:Nat} {x i:Opd} : aop P s h n K (.ixa sz x i)=ixaV sz (ev s x) (asI (ev s i)) h n K:=propext Iff.rfl
@[simp ↓] theorem aop_ext {x:Opd} {i:Nat} : aop P s h n K (.ext x i)=extV (ev s x) i h n K:=propext Iff.rfl
@[simp ↓] theorem aop_call {f:Opd} {args:List Opd} : aop P s h n K (.call f args)=callV P (ev s f) (args.map (ev s)) h n K:=propext Iff.rfl
@[simp ↓] theorem aop_len {str:Bool} {x:Opd} : aop P s h n K (.len str x)=lenV str (ev s x) h n K:=propext Iff.rfl
@[simp ↓] theorem aop_app {bytes sz:Nat} {x y:Opd} : aop P s h n K (.app bytes sz x y)=appV bytes sz (ev s x) (ev s y) h n K:=propext Iff.rfl
@[simp ↓] theorem aop_mnx {mx:Bool} {x y:Opd} : aop P s h n K (.mnx mx x y)=mnxV mx (ev s x) (ev s y) h n K:=propext Iff.rfl
end
section
variable {P:Program} {s s':Env} {h h':Heap} {n n':Nat} {ks:List Kt} {Q:Fin}
@[congr] theorem onO_congr {α:Type} {x x':Option α} {K:α→Prop} (hs:x=x'):onO x K=onO x' K:=by subst hs; rfl
@[simp ↓] theorem onO_some {α:Type} {a:α} {K:α→Prop} : onO (some a) K=K a:=propext Iff.rfl
@[simp ↓] theorem onO_none {α:Type} {K:α→Prop} : onO Option.none K=False:=propext Iff.rfl
@[simp ↓] theorem rC_skip:rC P .skip ks s h n Q=kont P ks .normal s h n Q:=propext Iff.rfl
@[simp ↓] theorem rC_reg {os:List AO} : rC P (.reg os) ks s h n Q=rO P os ks s h n Q:=propext Iff.rfl
@[simp ↓] theorem rC_seq {a b:AC} : rC P (.seq a b) ks s h n Q=rC P a (.seq b::ks) s h n Q:=by
 simp only [rC,awp]; congr
@[simp ↓] theorem rC_blk {id:Nat} {a:AC} : rC P (.blk id a) ks s h n Q=rC P a (.blk id::ks) s h n Q:=by
 simp only [rC,awp]; congr
@[simp ↓] theorem rC_loop {a:AC} : rC P (.loop a) ks s h n Q=rL P a ks s h n Q:=propext Iff.rfl
@[simp ↓] theorem rC_exit {id:Nat} : rC P (.exit id) ks s h n Q=kont P ks (.exit id) s h n Q:=propext Iff.rfl
@[simp ↓] theorem rC_ret:rC P .ret ks s h n Q=kont P ks .ret s h n Q:=propext Iff.rfl
@[simp ↓] theorem rC_draw {t:DT} : rC P (.draw t) ks s h n Q=rD P t ks s h n Q:=propext Iff.rfl
@[simp ↓] theorem rC_cond {c:Opd} {a b:AC} : rC P (.cond c a b) ks s h n Q=condV (ev s c) (rC P a ks s h n Q) (rC P b ks s h n Q):=propext Iff.rfl
@[simp ↓] theorem kont_nil {e:AE} : kont P [] e s h n Q=Q e s h n:=propext Iff.rfl
@[simp ↓] theorem kont_seq {b:AC} : kont P (.seq b::ks) .normal s h n Q=rC P b ks s h n Q:=propext Iff.rfl
@[simp ↓] theorem kont_seq_ret {b:AC} : kont P (.seq b::ks) .ret s h n Q=kont P ks .ret s h n Q:=propext Iff.rfl
@[simp ↓] theorem kont_seq_exit {b:AC} {i:Nat} : kont P (.seq b::ks) (.exit i) s h n Q=kont P ks (.exit i) s h n Q:=propext Iff.rfl
@[simp ↓] theorem kont_blk {i:Nat} : kont P (.blk i::ks) .normal s h n Q=kont P ks .normal s h n Q:=propext Iff.rfl
@[simp ↓] theorem kont_blk_ret {i:Nat} : kont P (.blk i::ks) .ret s h n Q=kont P ks .ret s h n Q:=propext Iff.rfl
@[simp ↓] theorem kont_blk_exit {i j:Nat} : kont P (.blk i::ks) (.exit j) s h n Q=if j=i then kont P ks .normal s h n Q else kont P ks (.exit j) s h n Q:=propext Iff.rfl
@[simp ↓] theorem rO_nil:rO P [] ks s h n Q=kont P ks .normal s h n Q:=propext Iff.rfl
@[simp ↓] theorem rO_cons {d:Option Nat} {op:AOp} {os:List AO} : rO P (⟨d,op,Option.none⟩::os) ks s h n Q=aop P s h n (nextO P os ks d s Q) op:=propext Iff.rfl
@[simp ↓] theorem rO_guard {d:Option Nat} {op:AOp} {j:Nat} {want:Bool} {os:List AO} : rO P (⟨d,op,some (j,want)⟩::os) ks s h n Q=guardV (s j) want (aop P (upd s j (.bool want)) h n (nextO P os ks d (upd s j (.bool want)) Q) op) (rO P os ks (setO (upd s j (.bool (!want))) d (.tup [])) h n Q) (rO P os ks (setO s d (.tup [])) h n Q):=propext Iff.rfl
@[simp ↓] theorem nextO_eq {os:List AO} {d:Option Nat} {r:AV} : nextO P os ks d s Q r h n=rO P os ks (setO s d r) h n Q:=propext Iff.rfl
@[simp ↓] theorem rD_fin:rD P .fin ks s h n Q=kont P ks .normal s h n Q:=propext Iff.rfl
@[simp ↓] theorem rD_stuck:rD P .stuck ks s h n Q=False:=propext Iff.rfl
@[simp ↓] theorem rD_both {a b:DT} : rD P (.both a b) ks s h n Q=(rD P a ks s h n Q∧rD P b ks s h n Q):=propext Iff.rfl
@[simp ↓] theorem rD_op {d:Option Nat} {op:AOp} {t:DT} : rD P (.op ⟨d,op,Option.none⟩ t) ks s h n Q=aopD P s h n (nextD P t ks d s Q) op:=propext Iff.rfl
@[simp ↓] theorem rD_guard {d:Option Nat} {op:AOp} {j:Nat} {want:Bool} {t:DT} : rD P (.op ⟨d,op,some (j,want)⟩ t) ks s h n Q=guardV (s j) want (aopD P (upd s j (.bool want)) h n (nextD P t ks d (upd s j (.bool want)) Q) op) (rD P t ks (setO (upd s j (.bool (!want))) d (.tup [])) h n Q) (rD P t ks (setO s d (.tup [])) h n Q):=propext Iff.rfl
@[simp ↓ high] theorem rO_gtt {d:Option Nat} {op:AOp} {j:Nat} {os:List AO} (hj:s j = .bool true):rO P (⟨d,op,some (j,true)⟩::os) ks s h n Q=aop P s h n (nextO P os ks d s Q) op:=by
 rw [rO_guard,hj]; simp [upd_self hj]
@[simp ↓ high] theorem rO_gft {d:Option Nat} {op:AOp} {j:Nat} {os:List AO} (hj:s j = .bool false):rO P (⟨d,op,some (j,true)⟩::os) ks s h n Q=rO P os ks (setO s d (.tup [])) h n Q:=by
 rw [rO_guard,hj]; simp [upd_self hj]
@[simp ↓ high] theorem rO_gtf {d:Option Nat} {op:AOp} {j:Nat} {os:List AO} (hj:s j = .bool true):rO P (⟨d,op,some (j,false)⟩::os) ks s h n Q=rO P os ks (setO s d (.tup [])) h n Q:=by
 rw [rO_guard,hj]; simp [upd_self hj]
@[simp ↓ high] theorem rO_gff {d:Option Nat} {op:AOp} {j:Nat} {os:List AO} (hj:s j = .bool false):rO P (⟨d,op,some (j,false)⟩::os) ks s h n Q=aop P s h n (nextO P os ks d s Q) op:=by
 rw [rO_guard,hj]; simp [upd_self hj]
@[simp ↓] theorem rD_hop {d:Option Nat} {op:AOp} {ps:List AOp} {t:DT} : rD P (.hop ⟨d,op,Option.none⟩ ps t) ks s h n Q=aopD P s h n (nextH P ps t ks d s h Q) op:=propext Iff.rfl
@[simp ↓] theorem rD_hguard {d:Option Nat} {op:AOp} {ps:List AOp} {j:Nat} {want:Bool} {t:DT} : rD P (.hop ⟨d,op,some (j,want)⟩ ps t) ks s h n Q=guardV (s j) want (aopD P (upd s j (.bool want)) h n (nextH P ps t ks d (upd s j (.bool want)) h Q) op) (rD P t ks (setO (upd s j (.bool (!want))) d (.tup [])) h n Q) (rD P t ks (setO s d (.tup [])) h n Q):=propext Iff.rfl
@[simp ↓] theorem nextH_eq {ps:List AOp} {t:DT} {d:Option Nat} {h0:Heap} {r:AV} : nextH P ps t ks d s h0 Q r h n=(sameL ps s h0 h∧rD P t ks (setO s d r) h n Q):=propext Iff.rfl
@[simp] theorem sameL_nil {h0:Heap} : sameL [] s h0 h=True:=by simp [sameL]
@[simp] theorem sameL_cons {h0:Heap} {p:AOp} {ps:List AOp} : sameL (p::ps) s h0 h=(keepL s h0 h p∧sameL ps s h0 h):=by simp [sameL]
@[simp ↓] theorem nextD_eq {t:DT} {d:Option Nat} {r:AV} : nextD P t ks d s Q r h n=rD P t ks (setO s d r) h n Q:=propext Iff.rfl
@[simp ↓] theorem finH_ret {res:List RV} {Q:AV→Prop} : finH res Q .ret s h n=onO (resAs s h res) fun xs=>onO (dt (oneOf xs) h) fun q=>clean q.1=true∧Q q.1:=propext Iff.rfl
@[simp ↓] theorem finH_normal {res:List RV} {Q:AV→Prop} : finH res Q .normal s h n=onO (resAs s h res) fun xs=>onO (dt (oneOf xs) h) fun q=>clean q.1=true∧Q q.1:=propext Iff.rfl
@[simp ↓] theorem aop_pick {K:AV→Heap→Nat→Prop} {c a b:Opd} : aop P s h n K (.pick c a b)=condV (ev s c) (K (ev s a) h n) (K (ev s b) h n):=propext Iff.rfl
theorem aopD_call {f:Opd} {args:List Opd} {K:AV→Heap→Nat→Prop} : aopD P s h n K (.call f args)=callV P (ev s f) (args.map (ev s)) h n (hK h K):=propext Iff.rfl
theorem rL_of {a:AC} (I:Nat→Env→Heap→Nat→Prop) (k:Nat) (h0:I k s h n)
   (hs:∀ k s h n,I k s h n→rC P a [] s h n fun e s' h' n'=>match e with | .normal=>∃ k',k'<k∧I k' s' h' n' | e=>kont P ks e s' h' n' Q):rL P a ks s h n Q:=⟨I,⟨k,h0⟩,hs⟩
end
theorem holds_of_run {P:Program} {f:FuncId} {fn:Func} {af:AFn} {as:List AV} {Q:AV→Prop} {bx:Bool} (hf:P.funcs[f]? = some fn) (hc:compFnX bx P fn=some af) (hn:(fn.name == "runtime.NumGoroutine")=false) (hl:as.length≤af.nt)
   (hr:rC P af.body [] (argsE as) noHeap 0 (finH af.res Q)):Holds P f as Q:=by
 refine holds_of_acall (acall_of_body hf hc hn ⟨hl,?_⟩)
 unfold rC at hr
 have:(fun e s h n=>kont P [] e s h n (finH af.res Q))=fun e s h n=>match e with
     | .exit _=>False
     | _=>onO (resAs s h af.res) fun xs=>onO (dt (oneOf xs) h) fun q=>clean q.1=true∧Q q.1:=by
   funext e s h n; cases e <;> rfl
 rw [this] at hr
 exact hr
theorem call_of {P:Program} {f:FuncId} {xs xs':List AV} {h:Heap} {n:Nat} {Q:AV→Prop} {K:AV→Heap→Nat→Prop} (hh:Holds P f xs' Q) (hb:bwl xs h=some xs')
   (hK:∀ r,Q r→K (sub r n) (addAll h n (col r)) (n+(col r).length)):ACall P f xs h n K:=acall_of_holds hh hb hK
theorem callD_of {P:Program} {f:FuncId} {xs xs':List AV} {h:Heap} {n:Nat} {Q:AV→Prop} {K:AV→Heap→Nat→Prop} (hh:Holds P f xs' Q) (hb:bwl xs h=some xs')
   (hK':∀ r,Q r→K (sub r n) (addAll h n (col r)) (n+(col r).length)):ACall P f xs h n (hK h K):=acallE_of_holds hh hb hK'
@[simp ↓] theorem aopD_mv {P:Program} {s:Env} {h:Heap} {n:Nat} {K:AV→Heap→Nat→Prop} {x} : aopD P s h n K (.mv x)=aop P s h n K (.mv x):=propext Iff.rfl
@[simp ↓] theorem aopD_pick {P:Program} {s:Env} {h:Heap} {n:Nat} {K:AV→Heap→Nat→Prop} {c} {a} {b} : aopD P s h n K (.pick c a b)=aop P s h n K (.pick c a b):=propext Iff.rfl
@[simp ↓] theorem aopD_box {P:Program} {s:Env} {h:Heap} {n:Nat} {K:AV→Heap→Nat→Prop} {z} : aopD P s h n K (.box z)=aop P s h n K (.box z):=propext Iff.rfl
@[simp ↓] theorem aopD_boxv {P:Program} {s:Env} {h:Heap} {n:Nat} {K:AV→Heap→Nat→Prop} {x} : aopD P s h n K (.boxv x)=aop P s h n K (.boxv x):=propext Iff.rfl
@[simp ↓] theorem aopD_build {P:Program} {s:Env} {h:Heap} {n:Nat} {K:AV→Heap→Nat→Prop} {z} {ps} : aopD P s h n K (.build z ps)=aop P s h n K (.build z ps):=propext Iff.rfl
@[simp ↓] theorem aopD_bsl {P:Program} {s:Env} {h:Heap} {n:Nat} {K:AV→Heap→Nat→Prop} {sz} {ps} : aopD P s h n K (.bsl sz ps)=aop P s h n K (.bsl sz ps):=propext Iff.rfl
@[simp ↓] theorem aopD_ld {P:Program} {s:Env} {h:Heap} {n:Nat} {K:AV→Heap→Nat→Prop} {g} {sz} {x} : aopD P s h n K (.ld g sz x)=aop P s h n K (.ld g sz x):=propext Iff.rfl
@[simp ↓] theorem aopD_st {P:Program} {s:Env} {h:Heap} {n:Nat} {K:AV→Heap→Nat→Prop} {sz} {a} {x} : aopD P s h n K (.st sz a x)=aop P s h n K (.st sz a x):=propext Iff.rfl
@[simp ↓] theorem aopD_nchk {P:Program} {s:Env} {h:Heap} {n:Nat} {K:AV→Heap→Nat→Prop} {x} : aopD P s h n K (.nchk x)=aop P s h n K (.nchk x):=propext Iff.rfl
@[simp ↓] theorem aopD_bin {P:Program} {s:Env} {h:Heap} {n:Nat} {K:AV→Heap→Nat→Prop} {op} {x} {y} : aopD P s h n K (.bin op x y)=aop P s h n K (.bin op x y):=propext Iff.rfl
@[simp ↓] theorem aopD_beq {P:Program} {s:Env} {h:Heap} {n:Nat} {K:AV→Heap→Nat→Prop} {g} {x} {y} : aopD P s h n K (.beq g x y)=aop P s h n K (.beq g x y):=propext Iff.rfl
@[simp ↓] theorem aopD_un {P:Program} {s:Env} {h:Heap} {n:Nat} {K:AV→Heap→Nat→Prop} {op} {x} : aopD P s h n K (.un op x)=aop P s h n K (.un op x):=propext Iff.rfl
@[simp ↓] theorem aopD_cvi {P:Program} {s:Env} {h:Heap} {n:Nat} {K:AV→Heap→Nat→Prop} {k} {x} : aopD P s h n K (.cvi k x)=aop P s h n K (.cvi k x):=propext Iff.rfl
@[simp ↓] theorem aopD_cvb {P:Program} {s:Env} {h:Heap} {n:Nat} {K:AV→Heap→Nat→Prop} {x} : aopD P s h n K (.cvb x)=aop P s h n K (.cvb x):=propext Iff.rfl
@[simp ↓] theorem aopD_mkf {P:Program} {s:Env} {h:Heap} {n:Nat} {K:AV→Heap→Nat→Prop} {f} {fi} {ca} : aopD P s h n K (.mkf f fi ca)=aop P s h n K (.mkf f fi ca):=propext Iff.rfl
@[simp ↓] theorem aopD_mks {P:Program} {s:Env} {h:Heap} {n:Nat} {K:AV→Heap→Nat→Prop} {b} {z} {l} {c} : aopD P s h n K (.mks b z l c)=aop P s h n K (.mks b z l c):=propext Iff.rfl
@[simp ↓] theorem aopD_slc {P:Program} {s:Env} {h:Heap} {n:Nat} {K:AV→Heap→Nat→Prop} {st} {sz} {x} {lo} {hi} : aopD P s h n K (.slc st sz x lo hi)=aop P s h n K (.slc st sz x lo hi):=propext Iff.rfl
@[simp ↓] theorem aopD_fld {P:Program} {s:Env} {h:Heap} {n:Nat} {K:AV→Heap→Nat→Prop} {o} {x} : aopD P s h n K (.fld o x)=aop P s h n K (.fld o x):=propext Iff.rfl
@[simp ↓] theorem aopD_prt {P:Program} {s:Env} {h:Heap} {n:Nat} {K:AV→Heap→Nat→Prop} {g} {o} {sz} {x} : aopD P s h n K (.prt g o sz x)=aop P s h n K (.prt g o sz x):=propext Iff.rfl
@[simp ↓] theorem aopD_ixa {P:Program} {s:Env} {h:Heap} {n:Nat} {K:AV→Heap→Nat→Prop} {sz} {x} {i} : aopD P s h n K (.ixa sz x i)=aop P s h n K (.ixa sz x i):=propext Iff.rfl
@[simp ↓] theorem aopD_ixs {P:Program} {s:Env} {h:Heap} {n:Nat} {K:AV→Heap→Nat→Prop} {x} {i} : aopD P s h n K (.ixs x i)=aop P s h n K (.ixs x i):=propext Iff.rfl
@[simp ↓] theorem aopD_ext {P:Program} {s:Env} {h:Heap} {n:Nat} {K:AV→Heap→Nat→Prop} {x} {i} : aopD P s h n K (.ext x i)=aop P s h n K (.ext x i):=propext Iff.rfl
@[simp ↓] theorem aopD_app {P:Program} {s:Env} {h:Heap} {n:Nat} {K:AV→Heap→Nat→Prop} {b} {sz} {x} {y} : aopD P s h n K (.app b sz x y)=aop P s h n K (.app b sz x y):=propext Iff.rfl
@[simp ↓] theorem aopD_mnx {P:Program} {s:Env} {h:Heap} {n:Nat} {K:AV→Heap→Nat→Prop} {m} {x} {y} : aopD P s h n K (.mnx m x y)=aop P s h n K (.mnx m x y):=propext Iff.rfl
@[simp ↓] theorem aopD_aeq {P:Program} {s:Env} {h:Heap} {n:Nat} {K:AV→Heap→Nat→Prop} {g} {ks} {x y} : aopD P s h n K (.aeq g ks x y)=aop P s h n K (.aeq g ks x y):=propext Iff.rfl
@[simp ↓] theorem aopD_bslb {P:Program} {s:Env} {h:Heap} {n:Nat} {K:AV→Heap→Nat→Prop} {sz} {ps} : aopD P s h n K (.bslb sz ps)=aop P s h n K (.bslb sz ps):=propext Iff.rfl
@[simp ↓] theorem aopD_appb {P:Program} {s:Env} {h:Heap} {n:Nat} {K:AV→Heap→Nat→Prop} {b sz} {x y} : aopD P s h n K (.appb b sz x y)=aop P s h n K (.appb b sz x y):=propext Iff.rfl
@[simp ↓] theorem aopD_mmk {P:Program} {s:Env} {h:Heap} {n:Nat} {K:AV→Heap→Nat→Prop} : aopD P s h n K .mmk=aop P s h n K .mmk:=propext Iff.rfl
@[simp ↓] theorem aopD_mget {P:Program} {s:Env} {h:Heap} {n:Nat} {K:AV→Heap→Nat→Prop} {z} {x k} : aopD P s h n K (.mget z x k)=aop P s h n K (.mget z x k):=propext Iff.rfl
@[simp ↓] theorem aopD_mput {P:Program} {s:Env} {h:Heap} {n:Nat} {K:AV→Heap→Nat→Prop} {x k v} : aopD P s h n K (.mput x k v)=aop P s h n K (.mput x k v):=propext Iff.rfl
@[simp ↓] theorem aopD_mlen {P:Program} {s:Env} {h:Heap} {n:Nat} {K:AV→Heap→Nat→Prop} {x} : aopD P s h n K (.mlen x)=aop P s h n K (.mlen x):=propext Iff.rfl
@[simp ↓] theorem aopD_inil {P:Program} {s:Env} {h:Heap} {n:Nat} {K:AV→Heap→Nat→Prop} {g} {x} : aopD P s h n K (.inil g x)=aop P s h n K (.inil g x):=propext Iff.rfl
@[simp ↓] theorem aopD_len {P:Program} {s:Env} {h:Heap} {n:Nat} {K:AV→Heap→Nat→Prop} {g:Bool} {x:Opd} : aopD P s h n K (.len g x)=lenW g (ev s x) h n K:=propext Iff.rfl
attribute [simp] eqK keepL looks idsOf dtl col coll sub subl addAll bw bwl cleanl cleanr drl drr dr notId aopD_call ev setO upd argsE cellsOf isCell rowD ldv resAs resA1 oneOf dt clean binI asI splice i64 ints
@[simp] theorem intsR_length (l:List Int):(intsR l).length=l.length:=by simp [intsR]
@[simp] theorem intsR_get (l:List Int) (i:Nat):(intsR l)[i]? = (l[i]?).map fun n=>[i64 n]:=by simp [intsR]
@[simp] theorem intsR_getElem (l:List Int) (i:Nat) (h:i<(intsR l).length):(intsR l)[i]=[i64 (l[i]'(by simpa using h))]:=by simp [intsR]
@[simp] theorem drr_intsR (l:List Int):drr (intsR l)=intsR l:=by rw [drr_eq]; simp [intsR,drl,dr,i64]
@[simp] theorem clean_intsR (l:List Int):cleanr (intsR l)=true:=by rw [cleanr_iff]; simp [intsR,cleanl,clean,i64]
@[simp] theorem upd_upd {α:Type} (f:Nat→α) (k:Nat) (a b:α):upd (upd f k a) k b=upd f k b:=by funext i; simp only [upd]; split <;> rfl
@[simp] theorem take_intsR (l:List Int):List.take l.length (intsR l)=intsR l:=List.take_of_length_le (by simp)
theorem wrap64 {x:Int} (h : -9223372036854775808≤x∧x<9223372036854775808):IntKind.i64.wrap x=x:=by
 rw [IntKind.wrap_i64]; omega
open Go Go.RowKit
def contig (P:Program):Nat→List Field→Bool
 | _,[]=>true
 | off,f::fl=>Nat.beq f.offset off&&contig P (off+P.cellsOf f.type) fl
def total (P:Program):List Field→Nat
 | []=>0
 | f::fl=>P.cellsOf f.type+total P fl
def plain (P:Program):Nat→TypeId→Bool
 | 0,_=>false
 | f+1,t=>match P.underlying t with
   | some .bool=>Nat.beq (P.cellsOf t) 1
   | some (.int _)=>Nat.beq (P.cellsOf t) 1
   | some .string=>Nat.beq (P.cellsOf t) 1
   | some (.slice e)=>Nat.beq (P.cellsOf t) 1&&Nat.blt 0 (P.cellsOf e)&&Nat.blt 0 (P.bytesOf e)&&plain P f e
   | some (.struct fs)=>contig P 0 fs.toList&&Nat.beq (P.cellsOf t) (total P fs.toList)&&fs.toList.all fun x=>plain P f x.type
   | _=>false
def All2 {α β:Type} (R:α→β→Prop):List α→List β→Prop
 | [],[]=>True
 | a::l,b::m=>R a b∧All2 R l m
 | _,_=>False
def Row (P:Program):Nat→TypeId→List AV→Prop
 | 0,_,_=>False
 | f+1,t,row=>match P.underlying t with
   | some .bool=>∃ b,row=[.bool b]
   | some (.int k)=>∃ n,row=[.int k n]∧(Lit.int k n).wf=true
   | some .string=>∃ l:List UInt8,row=[.str l]∧l.length≤LIM
   | some (.slice e)=>∃ rows:List (List AV),row=[.sl (P.cellsOf e) rows]∧rows.length≤LIM∧∀ r∈rows,Row P f e r
   | some (.struct fs)=>∃ parts:List (List AV),row=parts.flatten∧All2 (fun (x:Field) r=>Row P f x.type r) fs.toList parts
   | _=>False
section
variable {P:Program} {W:World} {H:Type} {enc:TypeId×Value→H}
theorem one_cell {a:AV} {v:Value} {S:List Nat} (h:VR W Lo 0 a v S) (hc:isCell a=true):v.oneCell'=true:=by
 cases a <;> simp only [isCell,Bool.false_eq_true] at hc <;> simp only [VR] at h
 case mp=>exact h.1.2.1
 case int=>rw [h.1]; rfl
 case bool=>rw [h.1]; rfl
 case str=>obtain ⟨⟨b,rfl,_⟩,_⟩:=h; rfl
 case nil=>rw [h.1]; rfl
 case nilp=>rw [h.1]; rfl
 case ptr=>exact h.1.2.1
 case fptr=>obtain ⟨⟨_,_,_,rfl,_⟩,_⟩:=h; rfl
 case ref=>exact h.1.2.1
 case sl=>obtain ⟨⟨_,_,_,rfl,_⟩,_⟩:=h; rfl
 case us=>rcases h.2 with ⟨rfl,_⟩ | ⟨_,_,_,_,_,_,_,rfl,_⟩ <;> rfl
 case fn=>obtain ⟨⟨_,_,rfl,_⟩,_⟩:=h; rfl
theorem one_cells:∀ {as:List AV} {vs:List Value} {S:List Nat},VRl W Lo 0 as vs S→as.all isCell=true→one vs
 | [],_,_,h,_=>by simp only [VRl] at h; rw [h.1]; intro v hv; cases hv
 | a::as,_,_,h,hc=>by
   simp only [VRl] at h
   obtain ⟨v,vs',S1,S2,rfl,rfl,h1,h2⟩:=h
   simp only [List.all_cons,Bool.and_eq_true] at hc
   intro u hu
   rcases List.mem_cons.1 hu with rfl | hu
   · exact one_cell h1 hc.1
   · exact one_cells h2 hc.2 u hu
theorem VRl_one {a:AV} {v:Value} (h:VR W Lo 0 a v []):VRl W Lo 0 [a] [v] []:=VRl_nil_cons.2 ⟨v,[],rfl,h,rfl,rfl⟩
theorem cellsAt_append {b o:Nat} {xs ys:List Value} (h1:cellsAt W b o xs) (h2:cellsAt W b (o+xs.length) ys):cellsAt W b o (xs++ys):=by
 intro j v hj
 by_cases hlt:j<xs.length
 · rw [List.getElem?_append_left hlt] at hj; exact h1 j v hj
 · rw [List.getElem?_append_right (by omega)] at hj
   have:=h2 (j - xs.length) v hj
   rw [show o+xs.length+(j - xs.length)=o+j by omega] at this
   exact this
theorem mapM_getE {α β:Type} {f:α→Option β} {l:List α} {m:List β} (h:l.mapM f=some m) {i:Nat} {b:β} (hb:m[i]? = some b):∃ a,l[i]? = some a∧f a=some b:=by
 obtain ⟨h1,h2⟩:=mapM_get h
 have hi:i<l.length:=by rw [←h1]; exact (List.getElem?_eq_some_iff.1 hb).1
 obtain ⟨b',h3,h4⟩:=h2 i l[i] (List.getElem?_eq_getElem hi)
 rw [hb] at h3; cases h3
 exact ⟨_,List.getElem?_eq_getElem hi,h4⟩
theorem cells?_at {a:Addr} {n:Nat} {cs:List Value} (h:W.cells? 0 a n=some cs):cs.length=n∧cellsAt W a.block a.off cs∧(0<n→a.spot=Option.none∧a.block<W.heap.size):=by
 unfold World.cells? at h
 rw [if_pos (Nat.zero_le _)] at h
 have hl:=(mapM_get h).1
 simp only [List.length_range] at hl
 have key:∀ i,i<n→∃ v,cs[i]? = some v∧W.cell? (a.add i)=some v:=fun i hi=>by
   have hb:cs[i]? = some cs[i]:=List.getElem?_eq_getElem (by omega)
   obtain ⟨i',h1,h2⟩:=mapM_getE h hb
   rw [List.getElem?_range hi] at h1
   cases h1
   exact ⟨_,hb,h2⟩
 have spot:0<n→a.spot=Option.none∧a.block<W.heap.size:=fun h0=>by
   obtain ⟨v,_,h2⟩:=key 0 h0
   unfold World.cell? at h2
   have:a.add 0=a:=by simp [Addr.add]
   rw [this] at h2
   split at h2
   · rename_i hh
     split at h2
     · cases h2
     · rename_i hs
       exact ⟨by cases hsp:a.spot; rfl; simp [hsp] at hs,lt_of_heap hh⟩
   · cases h2
 refine ⟨hl,fun j v hj => ?_,spot⟩
 have hjn:j<n:=by rw [←hl]; exact (List.getElem?_eq_some_iff.1 hj).1
 obtain ⟨v',h1,h2⟩:=key j hjn
 rw [hj] at h1; cases h1
 have hsp:=(spot (by omega)).1
 have:a.add j=⟨a.block,a.off+j,Option.none⟩:=by
   unfold Addr.add
   split
   · rename_i e; subst e; cases a; simp at hsp; subst hsp; simp
   · simp
 rw [this] at h2; exact h2
theorem weights_elem {e:TypeId} {d:DataW H} : ∀ {l:List (DataW H)},d∈l→∀ n∈d.weights P e,n∈DataW.weightsAll P e l
 | x::l,h,n,hn=>by
   simp only [DataW.weightsAll,List.mem_append]
   rcases List.mem_cons.1 h with rfl | h
   · exact .inl hn
   · exact .inr (weights_elem h n hn)
theorem rows_of {e:TypeId} {R:List AV→Prop} {a:Addr} {len:Nat} (hsz:0<P.cellsOf e)
   (hx:∀ i,i<len→∃ cs row,W.cells? 0 (a.add (i*P.cellsOf e)) (P.cellsOf e)=some cs∧VRl W Lo 0 row cs []∧R row∧row.all isCell=true∧row.length=P.cellsOf e) :
   ∀ k,k≤len→∃ (rows:List (List AV)) (vals:List Value),rows.length=k∧VRr W Lo 0 rows vals []∧vals.length=k*P.cellsOf e∧cellsAt W a.block a.off vals∧one vals∧(∀ r∈rows,R r∧r.length=P.cellsOf e)∧(0<k→a.spot=Option.none∧a.block<W.heap.size)
 | 0,_=>⟨[],[],rfl,⟨rfl,rfl⟩,by simp,(fun j v h=>by simp at h),(fun v h=>by cases h),(fun r h=>by cases h),fun h=>absurd h (Nat.lt_irrefl _)⟩
 | k+1,hk=>by
   obtain ⟨rows,vals,h1,h2,h3,h4,h5,h6,h7⟩:=rows_of hsz hx k (by omega)
   obtain ⟨cs,row,g1,g2,g3,g4,g5⟩:=hx k (by omega)
   obtain ⟨q1,q2,q3⟩:=cells?_at g1
   have hsp:=q3 hsz
   have hadd:a.add (k*P.cellsOf e)=⟨a.block,a.off+k*P.cellsOf e,a.spot⟩∨(k*P.cellsOf e=0∧a.add (k*P.cellsOf e)=a)∨a.add (k*P.cellsOf e)=⟨a.block,a.off+k*P.cellsOf e,Option.none⟩:=by
     unfold Addr.add; split
     · rename_i e0; exact .inr (.inl ⟨e0,rfl⟩)
     · exact .inr (.inr rfl)
   have hblk:(a.add (k*P.cellsOf e)).block=a.block∧(a.add (k*P.cellsOf e)).off=a.off+k*P.cellsOf e:=by
     rcases hadd with h | ⟨h0,h⟩ | h
     · rw [h]; exact ⟨rfl,rfl⟩
     · rw [h,h0]; exact ⟨rfl,rfl⟩
     · rw [h]; exact ⟨rfl,rfl⟩
   refine ⟨rows++[row],vals++cs,by simp [h1],?_,by rw [List.length_append,h3,q1,Nat.succ_mul],cellsAt_append h4 ?_,?_,?_,fun _ => ?_⟩
   · rw [VRr_iff] at h2 ⊢
     rw [List.flatten_append,VRl_nil_append]
     exact ⟨vals,cs,rfl,h2,by simpa using g2⟩
   · rw [h3,←hblk.1,←hblk.2]; exact q2
   · intro v hv
     rcases List.mem_append.1 hv with hv | hv
     · exact h5 v hv
     · exact one_cells g2 g4 v hv
   · intro r hr
     rcases List.mem_append.1 hr with hr | hr
     · exact h6 r hr
     · simp at hr; subst hr; exact ⟨g3,g5⟩
   · by_cases hk0:k=0
     · subst hk0
       have:a.add (0*P.cellsOf e)=a:=by simp [Addr.add]
       rw [this] at hsp; exact hsp
     · exact h7 (by omega)
theorem parts_of {f:Nat} (ih:∀ t,plain P f t=true→∀ fuel cs d ps,DataW.trod enc P W 0 (fun _=>true) true fuel t cs=some (d,ps)→(∀ n∈d.weights P t,n≤reachBytes) →
     ∃ row,VRl W Lo 0 row cs []∧Row P f t row∧row.all isCell=true∧row.length=P.cellsOf t) {cs:List Value} {n:Nat} :
   ∀ (fl:List Field) (xs:List (DataW H×List MemPlace)) (off:Nat),contig P off fl=true→(fl.all fun x=>plain P f x.type)=true→off+total P fl=cs.length→xs.length=fl.length →
     (∀ (i:Nat) (x:Field),fl[i]? = some x→DataW.trod enc P W 0 (fun _=>true) true n x.type ((cs.drop x.offset).take (P.cellsOf x.type))=xs[i]?) →
     (∀ k∈DataW.weightsEach P (fl.map (·.type)) (xs.map (·.1)),k≤reachBytes) →
     ∃ parts:List (List AV),VRl W Lo 0 parts.flatten (cs.drop off) []∧All2 (fun (x:Field) r=>Row P f x.type r) fl parts∧parts.flatten.all isCell=true∧parts.flatten.length=total P fl
 | [],xs,off,_,_,hl,hx,_,_=>by
   refine ⟨[],?_,trivial,rfl,rfl⟩
   simp only [total] at hl
   rw [List.drop_eq_nil_of_le (by omega)]
   exact ⟨rfl,rfl⟩
 | x::fl,[],_,_,_,_,hx,_,_=>by simp at hx
 | x::fl,y::xs,off,hc,hp,hl,hx,hf,hw=>by
   simp only [contig,Bool.and_eq_true,Nat.beq_eq,List.all_cons,total] at hc hp hl
   obtain ⟨ho,hc⟩:=hc
   have h0:=hf 0 x rfl
   simp only [List.getElem?_cons_zero] at h0
   simp only [List.map_cons,DataW.weightsEach,List.mem_append] at hw
   obtain ⟨row,r1,r2,r3,r4⟩:=ih x.type hp.1 n _ y.1 y.2 h0 (fun k hk=>hw k (.inl hk))
   obtain ⟨parts,p1,p2,p3,p4⟩:=parts_of ih fl xs (off+P.cellsOf x.type) hc hp.2 (by rw [←hl]; omega) (by simpa using hx) (fun i z hz=>by simpa using hf (i+1) z (by simpa using hz)) (fun k hk=>hw k (.inr hk))
   refine ⟨row::parts,?_,⟨r2,p2⟩,by simp [List.all_append,r3,p3],by simp [r4,p4,total]⟩
   rw [List.flatten_cons,VRl_nil_append]
   rw [ho] at r1
   refine ⟨_,_,?_,r1,p1⟩
   rw [←List.drop_drop,List.take_append_drop]
theorem row_of_trod (P:Program) (W:World):∀ (f:Nat) (t:TypeId),plain P f t=true→∀ (fuel:Nat) (cs:List Value) (d:DataW H) (ps:List MemPlace),DataW.trod enc P W 0 (fun _=>true) true fuel t cs=some (d,ps)→(∀ n∈d.weights P t,n≤reachBytes) →
   ∃ row,VRl W Lo 0 row cs []∧Row P f t row∧row.all isCell=true∧row.length=P.cellsOf t
 | 0,t,hp=>by simp [plain] at hp
 | f+1,t,hp=>by
   intro fuel cs d ps h hw
   unfold plain at hp
   split at hp
   · rename_i hu
     simp only [Nat.beq_eq] at hp
     cases fuel with
     | zero=>simp [DataW.trod] at h
     | succ fuel=>
       unfold DataW.trod at h
       rw [hu] at h
       split at h <;> simp_all
       rename_i b
       exact ⟨[.bool b],VRl_one (by simp [VR]),by simp [Row,hu],by simp,by simp⟩
   · rename_i k hu
     simp only [Nat.beq_eq] at hp
     cases fuel with
     | zero=>simp [DataW.trod] at h
     | succ fuel=>
       unfold DataW.trod at h
       rw [hu] at h
       split at h <;> simp_all
       rename_i k' n hk
       subst hk
       exact ⟨[.int k n],VRl_one (by simp [VR]),by simpa [Row,hu] using h.1.2,by simp,by simp⟩
   · rename_i hu
     simp only [Nat.beq_eq] at hp
     cases fuel with
     | zero=>simp [DataW.trod] at h
     | succ fuel=>
       unfold DataW.trod at h
       rw [hu] at h
       split at h <;> simp_all
       rename_i s
       obtain ⟨_,hd,_⟩:=h
       subst hd
       have hl:s.data.toList.length≤LIM:=by
         have:=hw s.data.toList.length (by simp [DataW.weights])
         unfold reachBytes at this; unfold LIM; omega
       exact ⟨[.str s.data.toList],VRl_one (by simp only [VR]; exact ⟨⟨s,rfl,rfl,hl⟩,trivial⟩),by simpa [Row,hu] using hl,by simp,by simp⟩
   · rename_i e hu
     simp only [Bool.and_eq_true,Nat.beq_eq,Nat.blt_eq] at hp
     obtain ⟨⟨⟨hc,hsz⟩,hby⟩,hpe⟩:=hp
     rcases DataW.trod_slice hu h with ⟨rfl,hx⟩ | ⟨a,len,cap,elems,rest,n,_,rfl,hx,_,hlc,_,hlen,hel,_⟩
     · refine ⟨[.sl (P.cellsOf e) []],?_,by simp [Row,hu],by simp [isCell],by simp [hc]⟩
       exact VRl_one (by simp only [VR]; exact ⟨⟨Option.none,0,[],rfl,⟨Nat.zero_le _,Nat.le_refl _⟩,⟨rfl,rfl⟩,.inl trivial⟩,trivial⟩)
     · obtain ⟨hd,-⟩:=Prod.mk.inj hx
       subst hd
       have hwt:=fun n hn=>hw n (by simp only [DataW.weights,hu]; exact hn)
       have hbig:=hwt _ List.mem_cons_self
       obtain ⟨rows,vals,h1,h2,h3,h4,h5,h6,h7⟩:=rows_of (P:=P) (W:=W) (e:=e) (R:=Row P f e) (a:=a) (len:=len) hsz (fun i hi=>by
         have hb:=hel i hi
         have hi':i<elems.length:=by omega
         rw [List.getElem?_eq_getElem hi'] at hb
         obtain ⟨cs,g1,g2⟩:=Option.bind_eq_some_iff.1 hb
         obtain ⟨row,r1,r2,r3,r4⟩:=row_of_trod P W f e hpe n cs elems[i].1 elems[i].2 g2 (fun k hk=>hwt k (List.mem_cons_of_mem _ (List.mem_append_left _ (weights_elem (List.mem_map.2 ⟨elems[i],List.getElem_mem hi',rfl⟩) k hk))))
         exact ⟨cs,row,g1,r1,r2,r3,r4⟩) len (Nat.le_refl _)
       have hlim:rows.length≤LIM:=by
         rw [h1]
         have h8:(elems.map (·.1)).length=len:=by simp [hlen]
         have:len*1≤(elems.map (·.1)).length*P.bytesOf e:=by rw [h8]; exact Nat.mul_le_mul_left _ hby
         have h9:(elems.map (·.1)).length*P.bytesOf e≤((elems.map (·.1)).length+(rest.map (·.1)).length)*P.bytesOf e:=Nat.mul_le_mul_right _ (Nat.le_add_right _ _)
         unfold reachBytes at hbig; unfold LIM; omega
       refine ⟨[.sl (P.cellsOf e) rows],?_,?_,by simp [isCell],by simp [hc]⟩
       · refine VRl_nil_cons.2 ⟨_,[],rfl,?_,⟨rfl,rfl⟩⟩
         simp only [VR]
         refine ⟨⟨some a,cap,vals,by rw [h1],⟨hlim,by rw [h1]; exact hlc⟩,h2,?_⟩,trivial⟩
         by_cases h0:len=0
         · exact .inl (List.eq_nil_of_length_eq_zero (by omega))
         · obtain ⟨hs,hb⟩:=h7 (by omega)
           refine .inr ⟨a.block,a.off,by cases a; simp at hs; subst hs; rfl,not_own_Lo _,hb,fun r hr=>(h6 r hr).2,h4,h5⟩
       · simp only [Row,hu]
         exact ⟨rows,rfl,hlim,fun r hr=>(h6 r hr).1⟩
   · rename_i fs hu
     simp only [Bool.and_eq_true,Nat.beq_eq] at hp
     obtain ⟨⟨hc,ht⟩,hpf⟩:=hp
     obtain ⟨xs,n,_,hx,hlen,hxl,hf⟩:=DataW.trod_struct hu h
     obtain ⟨hd,-⟩:=Prod.mk.inj hx
     subst hd
     obtain ⟨parts,p1,p2,p3,p4⟩:=parts_of (P:=P) (W:=W) (enc:=enc) (fun t ht'=>row_of_trod P W f t ht') (cs:=cs) (n:=n) fs.toList xs 0 hc hpf (by omega) (by simp [hxl]) (fun i x hi=>hf i x (by simpa using hi)) (fun k hk=>hw k (by simp only [DataW.weights,hu]; exact hk))
     exact ⟨parts.flatten,by simpa using p1,by simp only [Row,hu]; exact ⟨parts,rfl,p2⟩,p3,by rw [p4,ht]⟩
   · cases hp
end
open Go Go.RowKit Go.ChangeShapes Go.WideShapes
def ArgOf (P:Program) (f:Nat) (t:TypeId) (a:AV):Prop:=match P.underlying t with
 | some (.struct _)=>∃ row,a = .agg row∧Row P f t row
 | _=>Row P f t [a]
theorem All2_cons {α β:Type} {R:α→β→Prop} {a:α} {l:List α} {m:List β} (h:All2 R (a::l) m):∃ x m',m=x::m'∧R a x∧All2 R l m':=by
 cases m with
 | nil=>exact h.elim
 | cons x m=>exact ⟨x,m,rfl,h.1,h.2⟩
theorem All2_nil {α β:Type} {R:α→β→Prop} {m:List β} (h:All2 R [] m):m=[]:=by
 cases m with
 | nil=>rfl
 | cons x m=>exact h.elim
theorem Row_int {P:Program} {f:Nat} {t:TypeId} {r:List AV} {k:IntKind} (hu:P.underlying t=some (.int k)) (h:Row P (f+1) t r):∃ n,r=[.int k n]∧(Lit.int k n).wf=true:=by simpa only [Row,hu] using h
theorem Row_slice {P:Program} {f:Nat} {t e:TypeId} {r:List AV} (hu:P.underlying t=some (.slice e)) (h:Row P (f+1) t r):∃ rows:List (List AV),r=[.sl (P.cellsOf e) rows]∧rows.length≤LIM∧∀ r∈rows,Row P f e r:=by simpa only [Row,hu] using h
theorem Row_struct {P:Program} {f:Nat} {t:TypeId} {fs:Array Field} {r:List AV} (hu:P.underlying t=some (.struct fs)) (h:Row P (f+1) t r):∃ parts:List (List AV),r=parts.flatten∧All2 (fun (x:Field) r=>Row P f x.type r) fs.toList parts:=by simpa only [Row,hu] using h
theorem ints_of {P:Program} {f:Nat} {t e:TypeId} {r:List AV} (hu:P.underlying t=some (.slice e)) (he:P.underlying e=some (.int .i64)) (hc:P.cellsOf e=1) (h:Row P (f+2) t r):∃ l,r=[ints l]:=by
 obtain ⟨rows,rfl,_,hr⟩:=Row_slice hu h
 have:∃ l,rows=intsR l:=by
   clear h
   induction rows with
   | nil=>exact ⟨[],rfl⟩
   | cons r rows ih=>
     obtain ⟨n,rfl,_⟩:=Row_int he (hr r List.mem_cons_self)
     obtain ⟨l,rfl⟩:=ih (by rename_i h2; simp only [List.length_cons] at h2; omega) fun r hr'=>hr r (List.mem_cons_of_mem _ hr')
     exact ⟨n::l,rfl⟩
 obtain ⟨l,rfl⟩:=this
 exact ⟨l,by rw [hc]; rfl⟩
section
variable {P:Program} {W:World} {H:Type} {enc:TypeId×Value→H}
theorem arg_of_trod {f:Nat} {t:TypeId} {v:Value} {d:DataW H} {ps:List MemPlace} {base:Nat} (hp:plain P f t=true) (hv:Value.okWide P W .any base t v) (h:DataW.Trod enc P W 0 (fun _=>true) true t v d ps)
   (hw:∀ n∈d.weights P t,n≤reachBytes):∃ a,VR W Lo 0 a v []∧ArgOf P f t a:=by
 obtain ⟨fuel,h⟩:=h
 obtain ⟨row,h1,h2,h3,h4⟩:=row_of_trod P W f t hp fuel _ d ps h hw
 have key:(∀ fs,P.underlying t≠some (.struct fs))→(∀ n e,P.underlying t≠some (.array n e))→v.cells.toList=[v]∨¬(plain P f t=true):=fun n1 n2=>by
   left
   unfold Value.okWide at hv
   split at hv
   · rename_i hu; exact absurd hu (n1 _)
   · rename_i hu; exact absurd hu (n2 _ _)
   · cases v <;> try rfl
     rename_i cs
     exfalso
     unfold Cell.okWide at hv
     split at hv <;> simp_all
     unfold Cell.ok at hv
     split at hv <;> simp_all
 cases f with
 | zero=>simp [plain] at hp
 | succ f=>
   unfold ArgOf
   split
   · rename_i fs hu
     unfold Value.okWide at hv
     rw [hu] at hv
     simp only at hv
     obtain ⟨cs,rfl,_⟩:=hv
     exact ⟨.agg row,by simp only [VR]; exact ⟨cs,rfl,h1⟩,row,rfl,h2⟩
   · rename_i hns
     have na:∀ n e,P.underlying t≠some (.array n e):=fun n e hu=>by simp [plain,hu] at hp
     rcases key hns na with hc | hc
     · rw [hc] at h1
       have hl:row.length=1:=by have:=VRl_length h1; simpa using this.symm
       match row,hl with
       | [a],_=>
         obtain ⟨v',vs',e,g1,_⟩:=VRl_nil_cons.1 h1
         cases e
         exact ⟨a,g1,h2⟩
     · exact absurd hp hc
theorem args_of_trod {f:Nat} {base:Nat} : ∀ {ts:List TypeId} {vs:List Value} {ds:List (DataW H)} {ps:List MemPlace},ts.all (fun t=>plain P f t)=true→(∀ (j:Nat) t v,ts[j]? = some t→vs[j]? = some v→Value.okWide P W .any base t v) →
   DataW.TrodAll enc P W 0 (fun _=>true) true ts vs ds ps→(∀ n∈DataW.weightsEach P ts ds,n≤reachBytes)→∃ xs,VRl W Lo 0 xs vs []∧All2 (fun t a=>ArgOf P f t a) ts xs
 | [],[],[],ps,_,_,_,_=>⟨[],⟨rfl,rfl⟩,trivial⟩
 | t::ts,v::vs,d::ds,ps,hp,hv,h,hw=>by
   obtain ⟨p,q,h1,h2,rfl⟩:=h
   simp only [List.all_cons,Bool.and_eq_true] at hp
   simp only [DataW.weightsEach,List.mem_append] at hw
   obtain ⟨a,g1,g2⟩:=arg_of_trod hp.1 (hv 0 t v rfl rfl) h1 (fun n hn=>hw n (.inl hn))
   obtain ⟨xs,k1,k2⟩:=args_of_trod hp.2 (fun j t v ht hv'=>hv (j+1) t v (by simpa using ht) (by simpa using hv')) h2 (fun n hn=>hw n (.inr hn))
   exact ⟨a::xs,VRl_nil_cons.2 ⟨v,vs,rfl,g1,k1⟩,g2,k2⟩
 | [],_::_,_,_,_,_,h,_=>h.elim
 | [],[],_::_,_,_,_,h,_=>h.elim
 | _::_,[],_,_,_,_,h,_=>h.elim
 | _::_,_::_,[],_,_,_,h,_=>h.elim
theorem trodAll_below (hl:laidOutB P=true) {W':World} (hb:Below W.heap.size W W'):∀ {ts:List TypeId} {vs:List Value} {ds:List (DataW H)} {ps:List MemPlace},ts.all (fun t=>P.readableRec t&&Nat.blt t P.types.size)=true →
   DataW.TrodAll enc P W 0 (fun _=>true) true ts vs ds ps→(∀ x∈ps,x.block<W.heap.size)→DataW.TrodAll enc P W' 0 (fun b=>decide (b<W.heap.size)) true ts vs ds ps
 | [],[],[],_,_,h,_=>h
 | t::ts,v::vs,d::ds,ps,hr,h,hlt=>by
   obtain ⟨p,q,h1,h2,rfl⟩:=h
   simp only [List.all_cons,Bool.and_eq_true,Nat.blt_eq] at hr
   exact ⟨p,q,Below.trod hl hr.1.1 hr.1.2 h1 hb (fun x hx=>hlt x (List.mem_append_left _ hx)),trodAll_below hl hb hr.2 h2 (fun x hx=>hlt x (List.mem_append_right _ hx)),rfl⟩
 | [],_::_,_,_,_,h,_=>h.elim
 | [],[],_::_,_,_,h,_=>h.elim
 | _::_,[],_,_,_,h,_=>h.elim
 | _::_,_::_,[],_,_,h,_=>h.elim
theorem trodAll_length {base:Nat} {sp:Nat→Bool} {hd:Bool} : ∀ {ts:List TypeId} {vs:List Value} {ds:List (DataW H)} {ps:List MemPlace},DataW.TrodAll enc P W base sp hd ts vs ds ps→ds.length=ts.length
 | [],[],[],_,_=>rfl
 | t::ts,v::vs,d::ds,ps,h=>by obtain ⟨p,q,_,h2,_⟩:=h; simp [trodAll_length h2]
 | [],_::_,_,_,h=>h.elim
 | [],[],_::_,_,h=>h.elim
 | _::_,[],_,_,h=>h.elim
 | _::_,_::_,[],_,h=>h.elim
theorem law_contract {f:FuncId} {fn:Func} {s:ChangeSpec} {k:Nat} {tb:TypeId} {apart fresh handsOn:Bool} (hl:laidOutB P=true) (hres:fn.resultTypes = #[tb]) (hbool:P.underlying tb=some .bool)
   (hplain:fn.params.toList.all (fun t=>plain P k t)=true) (hread:fn.params.toList.all (fun t=>P.readableRec t&&Nat.blt t P.types.size)=true) (hvars:s.vars=[])
   (hspec:∀ (ds:List (DataW H)),ds.length=fn.params.toList.length→s.fn H ds = { results:=[.lit (.bool true)],args:=ds })
   (hlaw:∀ xs,All2 (fun t a=>ArgOf P k t a) fn.params.toList xs→Holds P f xs (fun r=>r = .bool true)) (base:Nat) (args:Array Value) (ds gs:List (DataW H)) (before:List MemPlace)
   (hval:∀ (j:Nat) t v,fn.params[j]? = some t→args[j]? = some v→Value.okWide P W .any base t v) (hW:DataW.Whole enc P fn.params.toList s.vars apart W args.toList ds gs before)
   (hsz:(DataW.weightsEach P (fn.params.toList++s.plain.varTypes P) (ds++gs)).all (· ≤ reachBytes)=true) :
   Calls P f args W fun e W'=>∃ v,e = .returned v∧s.post enc P fn apart fresh handsOn false W args v W':=by
 have hW':=hW
 obtain ⟨p,q,hA,hV,rfl,_,_⟩:=hW
 rw [hvars] at hV
 have hgs:gs=[]∧q=[]:=by
   cases gs with
   | nil=>exact ⟨rfl,hV⟩
   | cons=>exact hV.elim
 obtain ⟨rfl,rfl⟩:=hgs
 have hvt:s.plain.varTypes P=[]:=by simp [ChangeSpec.plain,DataSpec.varTypes,hvars]
 rw [hvt,List.append_nil,List.append_nil,List.all_eq_true] at hsz
 obtain ⟨xs,h1,h2⟩:=args_of_trod hplain (fun j t v ht hv=>hval j t v (by simpa using ht) (by simpa using hv)) hA (fun n hn=>by simpa using hsz n hn)
 have hc:=(hlaw xs h2).2 W args.toList h1
 refine hc.mono fun e W' ⟨v,r,S,he,hr,_,hb,hv,_⟩ => ?_
 subst hr
 simp only [VR] at hv
 obtain ⟨rfl,_⟩:=hv
 have hlt:∀ x∈p,x.block<W.heap.size:=fun x hx=>by simpa using hW'.lt x (List.mem_append_left _ hx)
 have hsp:=hspec ds (trodAll_length hA)
 refine ⟨_,he,ds,[],p++[],[],p,[],hW',?_,?_,?_,Below.frame hb _,fun h=>by cases h⟩
 · rw [List.append_nil,hsp,hres]
   refine ⟨[],[],?_,rfl,rfl⟩
   exact shut_bool hbool true
 · rw [List.append_nil,hsp]
   exact trodAll_below hl hb hread hA hlt
 · rw [List.append_nil,hsp,hvars]; exact rfl
end
open Go Go.RowKit
abbrev no {α:Type} : Option α:=Option.none
def tEq (agg:Bool) (sz g:Nat):AFn:=
⟨27,[.t 4],(.seq
 (.reg [⟨some 4,.mv (.k (.bool false)),no⟩]) (.seq (.seq
 (.reg [⟨some 6,.mv (.t 0),no⟩,⟨some 7,.len false (.t 6),no⟩,⟨some 8,.mv (.t 1),no⟩,⟨some 9,.len false (.t 8),no⟩,⟨some 10,.bin .neq (.t 7) (.t 9),no⟩]) (.cond (.t 10) (.seq
 (.reg [⟨some 4,.mv (.k (.bool false)),no⟩]) .ret) .skip)) (.seq (.seq
 (.reg [⟨some 5,.mv (.k (.int .i64 0)),no⟩]) (.blk 0 (.loop (.seq (.seq
 (.reg [⟨some 11,.mv (.t 5),no⟩,⟨some 12,.mv (.t 0),no⟩,⟨some 13,.len false (.t 12),no⟩,⟨some 14,.bin .lss (.t 11) (.t 13),no⟩]) (.cond (.t 14) .skip (.exit 0))) (.seq (.blk 1 (.seq (.draw (.op ⟨some 17,.mv (.t 0),no⟩ (.op ⟨some 18,.mv (.t 5),no⟩ (.op ⟨some 19,.ixa sz (.t 17) (.t 18),no⟩ (.op ⟨some 20,.ld agg sz (.t 19),no⟩ (.op ⟨some 21,.mv (.t 1),no⟩ (.op ⟨some 22,.mv (.t 5),no⟩ (.op ⟨some 23,.ixa sz (.t 21) (.t 22),no⟩ (.op ⟨some 24,.ld agg sz (.t 23),no⟩ (.op ⟨some 25,.call (.k (.fn (.func g) [] [])) [.t 20,.t 24],no⟩ (.op ⟨some 26,.un .not (.t 25),no⟩ .fin))))))))))) (.cond (.t 26) (.seq
 (.reg [⟨some 4,.mv (.k (.bool false)),no⟩]) .ret) .skip)))
 (.reg [⟨some 15,.mv (.t 5),no⟩,⟨some 16,.bin .add (.t 15) (.k (.int .i64 1)),no⟩,⟨some 5,.mv (.t 16),no⟩])))))) (.seq
 (.reg [⟨some 4,.mv (.k (.bool true)),no⟩]) .ret))))⟩
def eqL {α:Type} (eq:α→α→Bool):List α→List α→Bool
 | [],[]=>true
 | x::a,y::b=>eq x y&&eqL eq a b
 | _,_=>false
theorem eqL_length {α:Type} {eq:α→α→Bool} : ∀ {a b:List α},a.length≠b.length→eqL eq a b=false
 | [],[],h=>absurd rfl h
 | [],_::_,_=>rfl
 | _::_,[],_=>rfl
 | x::a,y::b,h=>by simp only [eqL,eqL_length (a:=a) (b:=b) (by simpa using h),Bool.and_false]
theorem eqL_true {α:Type} {eq:α→α→Bool} : ∀ {a b:List α},a.length=b.length→(∀ (i:Nat) x y,a[i]? = some x→b[i]? = some y→eq x y=true)→eqL eq a b=true
 | [],[],_,_=>rfl
 | x::a,y::b,hl,h=>by
   simp only [eqL,h 0 x y rfl rfl,Bool.true_and]
   exact eqL_true (by simpa using hl) fun i u v hu hv=>h (i+1) u v (by simpa using hu) (by simpa using hv)
theorem eqL_false {α:Type} {eq:α→α→Bool} : ∀ {a b:List α} {i:Nat} {x y:α},a[i]? = some x→b[i]? = some y→eq x y=false→eqL eq a b=false
 | u::a,v::b,0,x,y,hx,hy,h=>by simp at hx hy; subst hx hy; simp only [eqL,h,Bool.false_and]
 | u::a,v::b,i+1,x,y,hx,hy,h=>by simp only [eqL,eqL_false (a:=a) (b:=b) (i:=i) (by simpa using hx) (by simpa using hy) h,Bool.and_false]
 | [],_,_,_,_,hx,_,_=>by simp at hx
 | _::_,[],_,_,_,_,hy,_=>by simp at hy
theorem holds_tEq {P:Program} {f:FuncId} {fn:Func} {agg:Bool} {sz g:Nat} {α:Type} {rowOf:α→List AV} {eltOf:α→AV} {eq:α→α→Bool}
   (hf:P.funcs[f]? = some fn) (hc:compFn P fn=some (tEq agg sz g)) (hn:(fn.name == "runtime.NumGoroutine")=false)
   (helt:∀ x,ldv true agg (rowOf x) 0 sz=some (eltOf x)) (hbw:∀ x h,bw (eltOf x) h=some (eltOf x)) (a b:List α)
   (hg:∀ x y,x∈a→y∈b→Holds P g [eltOf x,eltOf y] (fun r=>r = .bool (eq x y))) :
   Holds P f [.sl sz (a.map rowOf),.sl sz (b.map rowOf)] (fun r=>r = .bool (eqL eq a b)):=by
 refine holds_of_run hf hc hn (by simp [tEq]) ?_
 simp [tEq,-ldv]
 intro h1 h2
 refine ⟨fun h=>eqL_length (fun e=>h (by rw [e])),fun hl=>rL_of (fun k s h n=>∃ i:Nat,k=a.length - i∧i≤a.length∧s 0 = .sl sz (a.map rowOf)∧s 1 = .sl sz (b.map rowOf)∧s 5=i64 i∧(∀ (j:Nat) x y,j<i→a[j]? = some x→b[j]? = some y→eq x y=true)∧h=noHeap∧n=0) a.length ⟨0,by simp⟩ ?_⟩
 rintro k s h n ⟨i,rfl,hi,s0,s1,s5,hj,rfl,rfl⟩
 have hl:a.length=b.length:=by omega
 by_cases hlt:i<a.length
 · have hlt':i<b.length:=by omega
   unfold LIM at h1
   simp [s0,s1,s5,hlt,hlt',helt,-ldv]
   intro _
   refine callD_of (hg a[i] b[i] (List.getElem_mem _) (List.getElem_mem _)) (by simp [hbw]) ?_
   rintro r rfl
   simp [s0,s1,s5]
   refine ⟨fun h=>eqL_false (List.getElem?_eq_getElem hlt) (List.getElem?_eq_getElem hlt') h,fun e=>⟨a.length - (i+1),by omega,i+1,rfl,by omega,by rw [wrap64 (by omega)]; rfl,fun j x y hj' hx hy => ?_⟩⟩
   by_cases hji:j=i
   · subst hji
     rw [List.getElem?_eq_getElem hlt] at hx; rw [List.getElem?_eq_getElem hlt'] at hy
     cases hx; cases hy; exact e
   · exact hj j x y (by omega) hx hy
 · simp [s0,s1,s5,hlt]
   intro _
   refine eqL_true hl fun j x y hx hy=>hj j x y ?_ hx hy
   have:=(List.getElem?_eq_some_iff.1 hx).1
   omega
open Go Go.RowKit
def freshFrom (h:Heap) (n:Nat):Prop:=∀ id,n≤id→h id=Option.none
theorem upd_comm {α:Type} (f:Nat→α) {i j:Nat} (a b:α) (h:i≠j):upd (upd f i a) j b=upd (upd f j b) i a:=by
 funext k; simp only [upd]; split <;> split <;> first | rfl | omega
theorem upd_addAll:∀ (xs:List (Nat×List (List AV))) (h:Heap) (n id:Nat) (v:Option Blk),id<n→upd (addAll h n xs) id v=addAll (upd h id v) n xs
 | [],h,n,id,v,_=>rfl
 | x::xs,h,n,id,v,hlt=>by
   simp only [addAll]
   rw [upd_addAll xs _ _ _ _ (by omega),upd_comm _ _ _ (by omega)]
theorem upd_none_fresh {h:Heap} {n:Nat} (hf:freshFrom h n):upd h n Option.none=h:=by
 funext i; simp only [upd]; split
 · rename_i e; rw [e,hf n (Nat.le_refl _)]
 · rfl
mutual
theorem dt_sub:∀ (r:AV) (h:Heap) (n:Nat) (ys:List (Nat×List (List AV))),clean r=true→freshFrom h n→dt (sub r n) (addAll h n (col r++ys))=some (r,addAll h (n+(col r).length) ys)
 | .us sz rows,h,n,ys,_,hf=>by
   simp only [sub,col,List.cons_append,List.nil_append,addAll,dt]
   have h1:addAll (upd h n (some ⟨false,sz,rows⟩)) (n+1) ys n=some ⟨false,sz,rows⟩:=by rw [addAll_eq,if_neg (by omega)]; exact upd_same _ _ _
   rw [h1]
   simp only [Nat.le_refl,and_self,if_true,List.take_length,List.length_cons,List.length_nil,Nat.zero_add]
   rw [upd_addAll _ _ _ _ _ (by omega),upd_upd,upd_none_fresh hf]
 | .agg cs,h,n,ys,hc,hf=>by simp only [clean] at hc; simp only [sub,col,dt,dtl_subl cs h n ys hc hf,Option.map_some]
 | .tup cs,h,n,ys,hc,hf=>by simp only [clean] at hc; simp only [sub,col,dt,dtl_subl cs h n ys hc hf,Option.map_some]
 | .int ..,h,n,ys,_,_=>by simp [sub,col,dt]
 | .bool _,h,n,ys,_,_=>by simp [sub,col,dt]
 | .str _,h,n,ys,_,_=>by simp [sub,col,dt]
 | .nilp,h,n,ys,_,_=>by simp [sub,col,dt]
 | .undef,_,_,_,hc,_=>by simp [clean] at hc
 | .nil _,_,_,_,hc,_=>by simp [clean] at hc
 | .ptr ..,_,_,_,hc,_=>by simp [clean] at hc
 | .fptr ..,_,_,_,hc,_=>by simp [clean] at hc
 | .ref ..,_,_,_,hc,_=>by simp [clean] at hc
 | .sl ..,_,_,_,hc,_=>by simp [clean] at hc
 | .fn ..,_,_,_,hc,_=>by simp [clean] at hc
 | .mp _,_,_,_,hc,_=>by simp [clean] at hc
theorem dtl_subl:∀ (rs:List AV) (h:Heap) (n:Nat) (ys:List (Nat×List (List AV))),cleanl rs=true→freshFrom h n→dtl (subl rs n) (addAll h n (coll rs++ys))=some (rs,addAll h (n+(coll rs).length) ys)
 | [],h,n,ys,_,_=>by simp [subl,coll,dtl]
 | r::rs,h,n,ys,hc,hf=>by
   simp only [cleanl,Bool.and_eq_true] at hc
   simp only [subl,coll,dtl,List.append_assoc]
   rw [dt_sub r h n (coll rs++ys) hc.1 hf]
   simp only [Option.bind_some]
   rw [dtl_subl rs h (n+(col r).length) ys hc.2 (fun id hid=>hf id (by omega))]
   simp only [Option.map_some,List.length_append]
   rw [Nat.add_assoc]
end
open Go Go.RowKit
theorem subl_length:∀ (rs:List AV) (n:Nat),(subl rs n).length=rs.length
 | [],_=>rfl
 | r::rs,n=>by simp [subl,subl_length rs]
theorem isCell_sub (r:AV) (n:Nat) (h:isCell r=true):isCell (sub r n)=true:=by
 cases r <;> simp_all [isCell,sub]
theorem isCell_subl:∀ (rs:List AV) (n:Nat),rs.all isCell=true→(subl rs n).all isCell=true
 | [],_,_=>rfl
 | r::rs,n,h=>by
   simp only [List.all_cons,Bool.and_eq_true] at h
   simp only [subl,List.all_cons,Bool.and_eq_true]
   exact ⟨isCell_sub r n h.1,isCell_subl rs _ h.2⟩
theorem cells_sub_len (r:AV) (n:Nat):(cellsOf (sub r n)).length=(cellsOf r).length:=by
 cases r <;> simp [sub,cellsOf,subl_length]
theorem cells_sub_isCell (r:AV) (n:Nat) (h:(cellsOf r).all isCell=true):(cellsOf (sub r n)).all isCell=true:=by
 cases r with
 | agg cs=>exact isCell_subl cs n h
 | _=>simp_all [sub,cellsOf,isCell]
theorem dtl_cells_sub {r:AV} {h:Heap} {n:Nat} (hc:clean r=true) (hf:freshFrom h n) (hcell:(cellsOf r).all isCell=true):dtl (cellsOf (sub r n)) (addAll h n (col r))=some (cellsOf r,h):=by
 by_cases ha:∃ cs,r = .agg cs
 · obtain ⟨cs,rfl⟩:=ha
   have:=dtl_subl cs h n [] (by simpa [clean] using hc) hf
   simpa [sub,cellsOf,col,addAll] using this
 · have h1:cellsOf r=[r]:=by cases r <;> first | rfl | exact absurd ⟨_,rfl⟩ ha
   have h2:cellsOf (sub r n)=[sub r n]:=by
     cases r <;> first | rfl | exact absurd ⟨_,rfl⟩ ha | simp_all [cellsOf,isCell]
   have:=dt_sub r h n [] hc hf
   rw [h1,h2]
   simp only [List.append_nil,addAll] at this
   simp [dtl,this]
def tTo (agg:Bool) (sz bytes g:Nat) (z:List AV):AFn:=
⟨23,[.t 2],(.seq
 (.reg [⟨some 2,.mv (.k (.nil sz)),no⟩]) (.seq
 (.reg [⟨some 5,.mv (.t 0),no⟩,⟨some 6,.len false (.t 5),no⟩,⟨some 7,.mks bytes z (.t 6) (.t 6),no⟩,⟨some 3,.mv (.t 7),no⟩]) (.seq (.seq
 (.reg [⟨some 4,.mv (.k (.int .i64 0)),no⟩]) (.blk 0 (.loop (.seq (.seq
 (.reg [⟨some 8,.mv (.t 4),no⟩,⟨some 9,.mv (.t 0),no⟩,⟨some 10,.len false (.t 9),no⟩,⟨some 11,.bin .lss (.t 8) (.t 10),no⟩]) (.cond (.t 11) .skip (.exit 0))) (.seq (.blk 1
 (.reg [⟨some 14,.mv (.t 3),no⟩,⟨some 15,.mv (.t 4),no⟩,⟨some 16,.mv (.t 0),no⟩,⟨some 17,.mv (.t 4),no⟩,⟨some 18,.ixa sz (.t 16) (.t 17),no⟩,⟨some 19,.ld agg sz (.t 18),no⟩,⟨some 20,.call (.k (.fn (.func g) [] [])) [.t 19],no⟩,⟨some 21,.ixa sz (.t 14) (.t 15),no⟩,⟨no,.st sz (.t 21) (.t 20),no⟩]))
 (.reg [⟨some 12,.mv (.t 4),no⟩,⟨some 13,.bin .add (.t 12) (.k (.int .i64 1)),no⟩,⟨some 4,.mv (.t 13),no⟩])))))) (.seq
 (.reg [⟨some 22,.mv (.t 3),no⟩,⟨some 2,.mv (.t 22),no⟩]) .ret))))⟩
theorem holds_tTo {P:Program} {f:FuncId} {fn:Func} {agg:Bool} {sz bytes g:Nat} {z:List AV} {α:Type} {rowOf:α→List AV} {eltOf eltU:α→AV}
   (hf:P.funcs[f]? = some fn) (hc:compFn P fn=some (tTo agg sz bytes g z)) (hn:(fn.name == "runtime.NumGoroutine")=false)
   (helt:∀ x,ldv true agg (rowOf x) 0 sz=some (eltOf x)) (hbw:∀ x h,bw (eltOf x) h=some (eltOf x)) (hcl:∀ x,clean (eltU x)=true) (hcell:∀ x,(cellsOf (eltU x)).all isCell=true) (hsz:∀ x,(cellsOf (eltU x)).length=sz) (hz:z.length=sz)
   (a:List α) (hlen:a.length*bytes≤LIM) (hg:∀ x,x∈a→Holds P g [eltOf x] (fun r=>r=eltU x)) :
   Holds P f [.sl sz (a.map rowOf)] (fun r=>r = .us sz (a.map fun x=>cellsOf (eltU x))):=by
 refine holds_of_run hf hc hn (by simp [tTo]) ?_
 simp [tTo,-ldv,hz]
 intro h1
 refine ⟨by omega,rL_of (fun k s h n=>∃ (i:Nat) (rows:List (List AV)),k=a.length - i∧i≤a.length∧s 0 = .sl sz (a.map rowOf)∧s 3 = .ref 0 0 a.length∧s 4=i64 i∧h=upd noHeap 0 (some ⟨false,sz,rows⟩)∧0<n ∧
   rows.length=a.length∧(∀ j,j<i→rows[j]? = (a.map fun x=>cellsOf (eltU x))[j]?)∧(∀ j (hj:j<rows.length),rows[j].length=sz)) a.length ⟨0,List.replicate a.length z,by simp [hz]⟩ ?_⟩
 rintro k s h n ⟨i,rows,rfl,hi,s0,s3,s4,rfl,hn0,hr,hj,hcc⟩
 have hfr:freshFrom (upd noHeap 0 (some ⟨false,sz,rows⟩)) n:=fun id hid=>by rw [upd_other _ _ _ _ (by omega)]; rfl
 by_cases hlt:i<a.length
 · have hm:=hcc i (by omega)
   unfold LIM at h1
   simp [s0,s3,s4,hlt,helt,-ldv]
   intro _
   refine call_of (hg a[i] (List.getElem_mem _)) (by simp [hbw]) ?_
   rintro r rfl
   have h0:addAll (upd noHeap 0 (some ⟨false,sz,rows⟩)) n (col (eltU a[i])) 0=some ⟨false,sz,rows⟩:=by rw [addAll_eq,if_neg (by omega)]; exact upd_same _ _ _
   have hd:=dtl_cells_sub (hcl a[i]) hfr (hcell a[i])
   have hln:=cells_sub_len (eltU a[i]) n
   have hci:=cells_sub_isCell (eltU a[i]) n (hcell a[i])
   simp [s0,s3,s4,hlt,h0,hd,hln,hci,hsz,hr,-cellsOf]
   refine ⟨by omega,a.length - (i+1),by omega,i+1,rfl,by omega,by rw [wrap64 (by omega)]; rfl,rows.set i (cellsOf (eltU a[i])),by rw [List.drop_eq_nil_of_le (by omega),List.append_nil],by omega,by simp [hr],fun j hj' => ?_,fun j hj' => ?_⟩
   · show _=(a[j]?).map fun x=>cellsOf (eltU x)
     rw [List.getElem?_set]
     by_cases hji:i=j
     · subst hji; rw [if_pos rfl,if_pos (by omega),List.getElem?_eq_getElem hlt]; rfl
     · rw [if_neg hji]; simpa using hj j (by omega)
   · rw [List.getElem_set]
     split
     · exact hsz _
     · exact hcc j (by simpa using hj')
 · simp [s0,s3,s4,hlt,hr]
   intro _
   have:rows=a.map fun x=>cellsOf (eltU x):=List.ext_getElem? fun j=>by
     by_cases hji:j<i
     · exact hj j hji
     · rw [List.getElem?_eq_none (by omega),List.getElem?_eq_none (by simp; omega)]
   subst this
   have ht:List.take a.length (a.map fun x=>cellsOf (eltU x))=a.map fun x=>cellsOf (eltU x):=List.take_of_length_le (by simp)
   have hcr:cleanr (a.map fun x=>cellsOf (eltU x))=true:=by
     rw [cleanr_iff,List.all_eq_true]
     intro r hr'
     obtain ⟨x,_,rfl⟩:=List.mem_map.1 hr'
     have:=hcl x
     cases hx:eltU x <;> simp_all [clean,cellsOf,cleanl]
   rw [ht]
   exact ⟨hcr,rfl⟩
open Go Go.RowKit
def tSz (agg:Bool) (sz g:Nat):AFn:=
⟨27,[.t 4],(.seq
 (.reg [⟨some 4,.mv (.k (.int .i64 0)),no⟩]) (.seq
 (.reg [⟨some 6,.mv (.t 1),no⟩,⟨some 7,.mv (.t 0),no⟩,⟨some 8,.len false (.t 7),no⟩,⟨some 9,.bin .sub (.t 6) (.t 8),no⟩,⟨some 1,.mv (.t 9),no⟩]) (.seq (.seq
 (.reg [⟨some 10,.mv (.t 1),no⟩,⟨some 11,.bin .lss (.t 10) (.k (.int .i64 0)),no⟩]) (.cond (.t 11) (.seq
 (.reg [⟨some 4,.mv (.k (.int .i64 (-1))),no⟩]) .ret) .skip)) (.seq (.seq
 (.reg [⟨some 5,.mv (.k (.int .i64 0)),no⟩]) (.blk 0 (.loop (.seq (.seq
 (.reg [⟨some 12,.mv (.t 5),no⟩,⟨some 13,.mv (.t 0),no⟩,⟨some 14,.len false (.t 13),no⟩,⟨some 15,.bin .lss (.t 12) (.t 14),no⟩]) (.cond (.t 15) .skip (.exit 0))) (.seq (.blk 1 (.seq
 (.reg [⟨some 18,.mv (.t 0),no⟩,⟨some 19,.mv (.t 5),no⟩,⟨some 20,.ixa sz (.t 18) (.t 19),no⟩,⟨some 21,.ld agg sz (.t 20),no⟩,⟨some 22,.mv (.t 1),no⟩,⟨some 23,.call (.k (.fn (.func g) [] [])) [.t 21,.t 22],no⟩,⟨some 1,.mv (.t 23),no⟩]) (.seq
 (.reg [⟨some 24,.mv (.t 1),no⟩,⟨some 25,.bin .lss (.t 24) (.k (.int .i64 0)),no⟩]) (.cond (.t 25) (.seq
 (.reg [⟨some 4,.mv (.k (.int .i64 (-1))),no⟩]) .ret) .skip))))
 (.reg [⟨some 16,.mv (.t 5),no⟩,⟨some 17,.bin .add (.t 16) (.k (.int .i64 1)),no⟩,⟨some 5,.mv (.t 17),no⟩])))))) (.seq
 (.reg [⟨some 26,.mv (.t 1),no⟩,⟨some 4,.mv (.t 26),no⟩]) .ret)))))⟩
def szLoop {α:Type} (szE:α→Int→Int):List α→Int→Int
 | [],left=>left
 | x::a,left=>if szE x left<0 then -1 else szLoop szE a (szE x left)
def szL {α:Type} (szE:α→Int→Int) (a:List α) (left:Int):Int:=if left - a.length<0 then -1 else szLoop szE a (left - a.length)
theorem szLoop_le {α:Type} {szE:α→Int→Int} (hle:∀ x left,0≤left→szE x left≤left):∀ (a:List α) (left:Int),0≤left→szLoop szE a left≤left
 | [],left,_=>Int.le_refl _
 | x::a,left,h=>by
   have:=hle x left h
   simp only [szLoop]; split
   · omega
   · have:=szLoop_le hle a (szE x left) (by omega); omega
theorem szL_le {α:Type} {szE:α→Int→Int} (hle:∀ x left,0≤left→szE x left≤left) (a:List α) (left:Int) (h:0≤left):szL szE a left≤left:=by
 unfold szL; split
 · omega
 · have:=szLoop_le hle a (left - a.length) (by omega); omega
theorem holds_tSz {P:Program} {f:FuncId} {fn:Func} {agg:Bool} {sz g:Nat} {α:Type} {rowOf:α→List AV} {eltOf:α→AV} {szE:α→Int→Int}
   (hf:P.funcs[f]? = some fn) (hc:compFn P fn=some (tSz agg sz g)) (hn:(fn.name == "runtime.NumGoroutine")=false)
   (helt:∀ x,ldv true agg (rowOf x) 0 sz=some (eltOf x)) (hbw:∀ x h,bw (eltOf x) h=some (eltOf x)) (hle:∀ x left,0≤left→szE x left≤left)
   (a:List α) (left:Int) (h0:0≤left∧left≤4611686018427387904) (hg:∀ x left,x∈a→0≤left∧left≤4611686018427387904→Holds P g [eltOf x,i64 left] (fun r=>r=i64 (szE x left))) :
   Holds P f [.sl sz (a.map rowOf),i64 left] (fun r=>r=i64 (szL szE a left)):=by
 refine holds_of_run hf hc hn (by simp [tSz]) ?_
 simp [tSz,-ldv]
 intro h1
 unfold LIM at h1
 rw [wrap64 (by omega)]
 refine ⟨fun h=>by unfold szL; rw [if_pos h],fun h=>rL_of (fun k s h n=>∃ (i:Nat) (l:Int),k=a.length - i∧i≤a.length∧s 0 = .sl sz (a.map rowOf)∧s 1=i64 l∧s 5=i64 i∧0≤l∧l≤left∧szLoop szE (a.drop i) l=szL szE a left∧h=noHeap∧n=0) a.length ⟨0,left - a.length,by simp [szL]; omega⟩ ?_⟩
 rintro k s h n ⟨i,l,rfl,hi,s0,s1,s5,hl0,hl1,hR,rfl,rfl⟩
 by_cases hlt:i<a.length
 · simp [s0,s1,s5,hlt,helt,-ldv]
   intro _
   refine call_of (hg a[i] l (List.getElem_mem _) (by omega)) (by simp [hbw]) ?_
   rintro r rfl
   simp [s0,s5]
   rw [List.drop_eq_getElem_cons hlt] at hR
   simp only [szLoop] at hR
   have:=hle a[i] l hl0
   refine ⟨fun hn=>by rw [if_pos hn] at hR; exact hR,fun hp=>⟨a.length - (i+1),by omega,i+1,rfl,by omega,by rw [wrap64 (by omega)]; rfl,hp,by omega,by rw [if_neg (by omega)] at hR; exact hR⟩⟩
 · simp [s0,s1,s5,hlt]
   intro _
   rw [List.drop_eq_nil_of_le (by omega)] at hR
   exact hR
open Go Go.RowKit
@[simp] theorem take_mapl {α β:Type} (f:α→β) (l:List α):List.take l.length (l.map f)=l.map f:=List.take_of_length_le (by simp)
def sub1 (left:Int) (w:Nat):Int:=if left - w<0 then -1 else left - w
theorem sub1_neg {left:Int} {w:Nat} (h:left - w<0):sub1 left w = -1:=if_pos h
theorem sub1_pos {left:Int} {w:Nat} (h:¬left - w<0):sub1 left w=left - w:=if_neg h
theorem sub1_le {left:Int} {w:Nat} (_h:0≤left):sub1 left w≤left:=by unfold sub1; split <;> omega
theorem sub1_add {left:Int} {v w:Nat} (h:¬left - v<0):sub1 (left - v) w=sub1 left (v+w):=by
 unfold sub1
 by_cases h1:left - v - w<0
 · rw [if_pos h1,if_pos (by omega)]
 · rw [if_neg h1,if_neg (by omega)]; omega
def wL {α:Type} (w:α→Nat) (l:List α):Nat:=l.length+(l.map w).sum
theorem wL_len {α:Type} (w:α→Nat) (l:List α):l.length≤wL w l:=by unfold wL; omega
theorem sum_mem {α:Type} (w:α→Nat):∀ (l:List α) {x:α},x∈l→w x≤(l.map w).sum
 | y::l,x,h=>by
   rcases List.mem_cons.1 h with rfl | h
   · simp
   · have:=sum_mem w l h; simp; omega
theorem wL_mem {α:Type} {w:α→Nat} {l:List α} {x:α} (h:x∈l):w x≤wL w l:=by have:=sum_mem w l h; unfold wL; omega
theorem szLoop_sub1 {α:Type} {w:α→Nat} {g:α→Int→Int} (hg:∀ x left,0≤left→g x left=sub1 left (w x)):∀ (a:List α) (left:Int),0≤left→szLoop g a left=sub1 left (a.map w).sum
 | [],left,h=>by simp only [szLoop,List.map_nil,List.sum_nil,sub1]; rw [if_neg (by omega)]; omega
 | x::a,left,h=>by
   simp only [szLoop,List.map_cons,List.sum_cons,hg x left h]
   by_cases hx:left - w x<0
   · rw [sub1_neg hx,if_pos (by omega),sub1_neg (by omega)]
   · rw [sub1_pos hx,if_neg (by omega),szLoop_sub1 hg a _ (by omega),sub1_add hx]
theorem szL_sub1 {α:Type} {w:α→Nat} {g:α→Int→Int} (hg:∀ x left,0≤left→g x left=sub1 left (w x)) (a:List α) (left:Int) (h:0≤left):szL g a left=sub1 left (wL w a):=by
 unfold szL wL
 by_cases hx:left - a.length<0
 · rw [if_pos hx,sub1_neg (by omega)]
 · rw [if_neg hx,szLoop_sub1 hg a _ (by omega),sub1_add hx]
theorem eqL_dec {α:Type} [DecidableEq α]:∀ (a b:List α),eqL (fun x y=>decide (x=y)) a b=decide (a=b)
 | [],[]=>rfl
 | [],_::_=>rfl
 | _::_,[]=>rfl
 | x::a,y::b=>by simp [eqL,eqL_dec a b]
open Go Go.RowKit
def scal:AV→Bool
 | .int .. | .bool _ | .str _=>true
 | .tup [.int ..,.bool _]=>true
 | _=>false
def Pure1 (P:Program) (f:FuncId) (fi ca:List AV) (h:Heap) (n:Nat) (a r:AV):Prop:=∀ K:AV→Heap→Nat→Prop,K r h n→ACall P f (fi++[a]++ca) h n K
theorem pure1_of_holds {P:Program} {f:FuncId} {h:Heap} {n:Nat} {a r:AV} (hh:Holds P f [a] (fun x=>x=r)) (hb:bw a h=some a) (hs:scal r=true):Pure1 P f [] [] h n a r:=by
 intro K hK
 refine acall_of_holds hh (by simp [bwl,hb]) ?_
 rintro _ rfl
 unfold scal at hs
 split at hs
 · simpa [sub,col,addAll] using hK
 · simpa [sub,col,addAll] using hK
 · simpa [sub,col,addAll] using hK
 · simpa [sub,subl,col,coll,addAll] using hK
 · cases hs
def tIndexFunc (agg:Bool) (sz:Nat):AFn:=
⟨19,[.t 4],(.seq
 (.reg [⟨some 4,.mv (.k (.int .i64 0)),no⟩]) (.seq (.seq
 (.reg [⟨some 6,.mv (.t 0),no⟩,⟨some 7,.len false (.t 6),no⟩,⟨some 8,.mv (.k (.int .i64 0)),no⟩]) (.blk 0 (.loop (.seq
 (.reg [⟨some 9,.bin .lss (.t 8) (.t 7),no⟩]) (.seq (.cond (.t 9) .skip (.exit 0)) (.seq (.blk 1 (.seq
 (.reg [⟨some 10,.mv (.t 8),no⟩,⟨some 5,.mv (.t 10),no⟩]) (.seq
 (.reg [⟨some 11,.mv (.t 1),no⟩,⟨some 12,.mv (.t 0),no⟩,⟨some 13,.mv (.t 5),no⟩,⟨some 14,.ixa sz (.t 12) (.t 13),no⟩,⟨some 15,.ld agg sz (.t 14),no⟩,⟨some 16,.call (.t 11) [.t 15],no⟩]) (.cond (.t 16) (.seq
 (.reg [⟨some 17,.mv (.t 5),no⟩,⟨some 4,.mv (.t 17),no⟩]) .ret) .skip))))
 (.reg [⟨some 18,.bin .add (.t 8) (.k (.int .i64 1)),no⟩,⟨some 8,.mv (.t 18),no⟩]))))))) (.seq
 (.reg [⟨some 4,.mv (.k (.int .i64 (-1))),no⟩]) .ret)))⟩
def tContainsFunc (g:Nat):AFn:=
⟨9,[.t 4],(.seq
 (.reg [⟨some 4,.mv (.k (.bool false)),no⟩]) (.seq
 (.reg [⟨some 5,.mv (.t 0),no⟩,⟨some 6,.mv (.t 1),no⟩,⟨some 7,.call (.k (.fn (.func g) [] [])) [.t 5,.t 6],no⟩,⟨some 8,.bin .geq (.t 7) (.k (.int .i64 0)),no⟩,⟨some 4,.mv (.t 8),no⟩]) .ret))⟩
def idxFrom {α:Type} (p:α→Bool):List α→Nat→Int
 | [],_ => -1
 | x::l,i=>if p x then i else idxFrom p l (i+1)
theorem idxFrom_neg {α:Type} {p:α→Bool} : ∀ {l:List α} {i:Nat},idxFrom p l i<0↔l.any p=false
 | [],i=>by simp [idxFrom]
 | x::l,i=>by
   simp only [idxFrom,List.any_cons]
   cases hp:p x
   · simp only [Bool.false_eq_true,if_false,Bool.false_or]; exact idxFrom_neg
   · simp
theorem idxFrom_any {α:Type} {p:α→Bool} {l:List α} {i:Nat} : decide (idxFrom p l i≥0)=l.any p:=by
 cases h:l.any p
 · have:=idxFrom_neg (i:=i).2 h; simp; omega
 · have:¬idxFrom p l i<0:=fun h'=>by rw [idxFrom_neg.1 h'] at h; cases h
   simp; omega
section
variable {P:Program} {h:Heap} {n:Nat}
theorem acall_body {f:FuncId} {fn:Func} {af:AFn} {as:List AV} {K:AV→Heap→Nat→Prop} {bx:Bool} (hf:P.funcs[f]? = some fn) (hc:compFnX bx P fn=some af) (hn:(fn.name == "runtime.NumGoroutine")=false) (hl:as.length≤af.nt)
   (hr:rC P af.body [] (argsE as) h n fun e s h n=>match e with | .exit _=>False | _=>onO (resAs s h af.res) fun xs=>K (oneOf xs) h n):ACall P f as h n K:=by
 refine acall_of_body hf hc hn ⟨hl,?_⟩
 exact hr
theorem acall_tIndexFunc {f:FuncId} {fn:Func} {agg:Bool} {sz:Nat} {α:Type} {rowOf:α→List AV} {eltOf:α→AV} {p:α→Bool} {g:FuncId} {fi ca:List AV}
   (hf:P.funcs[f]? = some fn) (hc:compFn P fn=some (tIndexFunc agg sz)) (hn:(fn.name == "runtime.NumGoroutine")=false)
   (helt:∀ x,ldv true agg (rowOf x) 0 sz=some (eltOf x)) (a:List α) (hg:∀ x∈a,Pure1 P g fi ca h n (eltOf x) (.bool (p x))) {K:AV→Heap→Nat→Prop} (hK:K (.int .i64 (idxFrom p a 0)) h n) :
   ACall P f [.sl sz (a.map rowOf),.fn (.func g) fi ca] h n K:=by
 refine acall_body hf hc hn (by simp [tIndexFunc]) ?_
 simp [tIndexFunc,-ldv]
 intro h1
 refine rL_of (fun k s h' n'=>∃ i:Nat,k=a.length - i∧i≤a.length∧s 0 = .sl sz (a.map rowOf)∧s 1 = .fn (.func g) fi ca∧s 7=i64 a.length∧s 8=i64 i∧idxFrom p (a.drop i) i=idxFrom p a 0∧h'=h∧n'=n) a.length ⟨0,by simp⟩ ?_
 rintro k s h' n' ⟨i,rfl,hi,s0,s1,s7,s8,hj,rfl,rfl⟩
 by_cases hlt:i<a.length
 · unfold LIM at h1
   rw [List.drop_eq_getElem_cons hlt] at hj
   simp only [idxFrom] at hj
   simp [s0,s1,s7,s8,hlt,helt,-ldv]
   have:=hg a[i] (List.getElem_mem _)
   simp only [Pure1,List.append_assoc,List.cons_append,List.nil_append] at this
   refine this _ ?_
   simp [s0,s1,s7,s8]
   refine ⟨fun hp => ?_,fun hp => ?_⟩ <;> rw [hp] at hj <;> simp at hj
   · rw [hj]; exact hK
   · exact ⟨a.length - (i+1),by omega,i+1,rfl,by omega,by rw [wrap64 (by omega)]; rfl,hj⟩
 · rw [List.drop_eq_nil_of_le (by omega)] at hj
   simp only [idxFrom] at hj
   simp [s0,s1,s7,s8,hlt]
   rw [hj]; exact hK
theorem acall_tContainsFunc {f:FuncId} {fn:Func} {fg:FuncId} {fng:Func} {agg:Bool} {sz:Nat} {α:Type} {rowOf:α→List AV} {eltOf:α→AV} {p:α→Bool} {g:FuncId} {fi ca:List AV}
   (hf:P.funcs[f]? = some fn) (hc:compFn P fn=some (tContainsFunc fg)) (hn:(fn.name == "runtime.NumGoroutine")=false) (hf':P.funcs[fg]? = some fng) (hc':compFn P fng=some (tIndexFunc agg sz)) (hn':(fng.name == "runtime.NumGoroutine")=false)
   (helt:∀ x,ldv true agg (rowOf x) 0 sz=some (eltOf x)) (a:List α) (hg:∀ x∈a,Pure1 P g fi ca h n (eltOf x) (.bool (p x))) {K:AV→Heap→Nat→Prop} (hK:K (.bool (a.any p)) h n) :
   ACall P f [.sl sz (a.map rowOf),.fn (.func g) fi ca] h n K:=by
 refine acall_body hf hc hn (by simp [tContainsFunc]) ?_
 simp [tContainsFunc]
 refine acall_tIndexFunc hf' hc' hn' helt a hg ?_
 simp
 have:=idxFrom_any (p:=p) (l:=a) (i:=0)
 simp only [ge_iff_le] at this
 rw [this]; exact hK
end
end Go.Proofs.Ytoclolkigjbcgaa

/- The size of a model. -/
import Derived.Test.YtilcageplifbgaaGreatJHM4
import Derived.Test.YtilcageplifbgaaGreatJRE
import Derived.Test.YtilcageplifbgaaGreatJC13
import Derived.Test.YtilcageplifbgaaGreatProg
namespace Go.Proofs.YtilcageplifbgaaGreat
set_option linter.all false
open Go Go.RowKit Go.Proofs
theorem cLinS_le:∀ (l:List DLin),(∀ x∈l,x.Coeffs.length≤8)→cLinS l≤9*l.length:=by
 intro l
 induction l with
 | nil=>intro _; simp [cLinS,cL]
 | cons e l ih=>
   intro h
   have h1:=ih fun x hx=>h x (List.mem_cons_of_mem _ hx)
   have h2:=h e List.mem_cons_self
   unfold cLinS at *
   simp only [cL,crLin,cIntS_len,List.length_cons]
   omega
theorem add_len {a b o:DLin} {k:Int} (h:addScaled a k b=some o):o.Coeffs.length≤8:=by
 have:=addS_len (a:=a) (k:=k) (b:=b)
 unfold addS at this
 rw [h] at this; exact this
theorem goS_len {E:SEnv} {n:Nat} : ∀ {ts:List DTerm} {o r:DLin},o.Coeffs.length≤8→goS E n ts o=some r→r.Coeffs.length≤8
 | [],o,r,ho,h=>by cases h; exact ho
 | t::ts,o,r,ho,h=>by
   simp only [goS] at h
   split at h
   · cases h
   · rename_i o' ha
     exact goS_len (add_len ha) h
theorem sumS_len {E:SEnv} {n:Nat} {s:DSum} : (sumS E n s).Coeffs.length≤8:=by
 unfold sumS sumO
 cases h:goS E n s.Terms (constLin s.Const n) with
 | none=>simp [lin0]
 | some r=>exact goS_len (constLin_l8 _ _) h
theorem argS_len {E:SEnv} {n:Nat} {a:DArg} : (argS E n a).Coeffs.length≤8:=by
 unfold argS argO
 split
 · split
   · exact constLin_l8 _ _
   · exact addS_len
 · exact sumS_len
theorem eget_l8 {E:SEnv} {x:Str} {n:Int} (h:∀ e∈E,e.2.Coeffs.length≤8):(eget (constLin 0 n) E x).Coeffs.length≤8:=by
 by_cases hx:x∈keysE E
 · exact eget_len h hx
 · have:E.find? (fun e=>e.1==x)=Option.none:=by
     rw [List.find?_eq_none]
     intro e he hb
     exact hx (List.mem_map.2 ⟨e,he,by simpa using hb⟩)
   unfold eget
   rw [this]; exact constLin_l8 _ _
structure MOk (ms:MS):Prop where
 E:∀ e∈ms.E,e.2.Coeffs.length≤8
 R:∀ l∈ms.rows,l.Coeffs.length≤8
 P:∀ l∈ms.pars,l.Coeffs.length≤8
theorem mem_snoc {α:Type} {l:List α} {x:α} {p:α→Prop} (h:∀ y∈l,p y) (hx:p x):∀ y∈l++[x],p y:=by
 intro y hy
 rcases List.mem_append.1 hy with hy | hy
 · exact h y hy
 · simp at hy; subst hy; exact hx
theorem MOk.par {n:Nat} (hn:n≤8) {ms:MS} (M:MOk ms) (x:Str):MOk (sPar n ms x):=
 ⟨mem_snoc M.E (varL_le n hn),M.R,mem_snoc M.P (varL_le n hn)⟩
theorem MOk.pat {n:Nat} (hn:n≤8) {ms:MS} (M:MOk ms) (q:DPattern):MOk (sPat n ms q):=by
 have hl:(sPatL n ms q).Coeffs.length≤8:=by unfold sPatL minusL; exact eget_l8 M.E
 unfold sPat
 split
 · refine ⟨?_,mem_snoc M.R hl,M.P⟩
   intro e he
   rcases List.mem_append.1 he with he | he
   · exact M.E e he
   · simp at he
     rcases he with rfl | rfl
     · exact varL_le n hn
     · exact hl
 · exact ⟨M.E,mem_snoc M.R addS_len,M.P⟩
theorem MOk.call {n:Nat} (hn:n≤8) {ms:MS} (M:MOk ms) (c:DCall):MOk (sCall n ms c):=by
 refine ⟨mem_snoc M.E (varL_le n hn),?_,M.P⟩
 intro l hl
 rcases List.mem_append.1 hl with hl | hl
 · exact M.R l hl
 · split at hl
   · simp at hl; subst hl; exact varL_le n hn
   · cases hl
theorem MOk.fold {α:Type} {g:MS→α→MS} (hg:∀ ms x,MOk ms→MOk (g ms x)):∀ {l:List α} {ms:MS},MOk ms→MOk (l.foldl g ms)
 | [],_,h=>h
 | x::l,ms,h=>MOk.fold hg (l:=l) (hg ms x h)
theorem sCall_cnt {n:Nat} : ∀ {xs:List DCall} {a:MS},(xs.foldl (sCall n) a).rows.length≤a.rows.length+xs.length∧(xs.foldl (sCall n) a).pars=a.pars∧(xs.foldl (sCall n) a).args.length=a.args.length+xs.length ∧
   ∀ l∈(xs.foldl (sCall n) a).args,l∈a.args∨(∃ c∈xs,l.length=c.Args.length∧∀ y∈l,y.Coeffs.length≤8)
 | [],a=>by simp
 | x::xs,a=>by
   obtain ⟨h1,h2,h3,h4⟩:=sCall_cnt (n:=n) (xs:=xs) (a:=sCall n a x)
   simp only [List.foldl_cons,List.length_cons]
   have g1:(sCall n a x).rows.length≤a.rows.length+1:=by unfold sCall; simp only [List.length_append]; split <;> simp
   have g3:(sCall n a x).args.length=a.args.length+1:=by simp [sCall]
   refine ⟨by omega,by rw [h2]; rfl,by omega,?_⟩
   intro l hl
   rcases h4 l hl with h | ⟨c,hc,h⟩
   · rcases List.mem_append.1 h with h | h
     · exact .inl h
     · simp at h
       refine .inr ⟨x,List.mem_cons_self,by rw [h]; simp,?_⟩
       intro y hy
       rw [h] at hy
       obtain ⟨z,_,rfl⟩:=List.mem_map.1 hy
       exact argS_len
   · exact .inr ⟨c,List.mem_cons_of_mem _ hc,h⟩
theorem sPar_pars {n:Nat} : ∀ {xs:List Str} {a:MS},(xs.foldl (sPar n) a).pars.length=a.pars.length+xs.length
 | [],a=>by simp
 | x::xs,a=>by
   have h1:=sPar_pars (n:=n) (xs:=xs) (a:=sPar n a x)
   simp only [List.foldl_cons,List.length_cons]
   rw [h1]; simp [sPar]; omega
theorem sPat_pars {n:Nat} : ∀ {xs:List DPattern} {a:MS},(xs.foldl (sPat n) a).pars=a.pars
 | [],a=>rfl
 | x::xs,a=>by
   simp only [List.foldl_cons]
   rw [sPat_pars]; unfold sPat; split <;> rfl
theorem modelS_sz {p:DProgram} {r:DRule} {f:DFunction} (hp:progOk p=true) (R:RuleIn p r f):(modelS r f).System.Rows.length≤10∧(∀ l∈(modelS r f).System.Rows,l.Coeffs.length≤8)∧(modelS r f).Params.length≤2∧(∀ l∈(modelS r f).Params,l.Coeffs.length≤8) ∧
   (modelS r f).Args.length≤2∧(∀ l∈(modelS r f).Args,l.length≤2∧∀ y∈l,y.Coeffs.length≤8)∧(modelS r f).Result.Coeffs.length≤8∧(modelS r f).System.N≤6∧0≤(modelS r f).System.N:=by
 have hn:sizeN r f≤8:=by have:=R.size; omega
 have hpar:=R.par
 have hnp:=R.npats
 have hnc:=R.ncalls
 have hng:=R.nguards
 have hpre:=R.npre
 have hdl:(domL f (sizeN r f)).length≤4∧∀ l∈domL f (sizeN r f),l.Coeffs.length≤8:=by
   have hlr:=lrows_len (n:=sizeN r f) (xs:=f.Params) (i:=0)
   refine ⟨by unfold domL; simp; omega,?_⟩
   intro l hl
   rcases List.mem_append.1 hl with hl | hl
   · have:∀ (xs:List Str) (i:Nat),∀ l∈lrows (sizeN r f) xs i,l.Coeffs.length≤8:=by
       intro xs
       induction xs with
       | nil=>intro i l hl; cases hl
       | cons x xs ih=>
         intro i l hl
         rcases List.mem_append.1 hl with hl | hl
         · split at hl
           · simp at hl; subst hl; exact varL_le _ hn
           · cases hl
         · exact ih _ l hl
     exact this _ _ l hl
   · obtain ⟨x,hx,rfl⟩:=List.mem_map.1 hl
     have h1:=(okLin_len (R.pre x hx)).1
     have h2:f.Params.length≤sizeN r f:=by unfold sizeN; omega
     simp [widen]; omega
 have m1:MOk (ss1 r f):=MOk.fold (fun ms x h=>h.par hn x) ⟨by simp,hdl.2,by simp⟩
 have m1':MOk (atNx (ss1 r f) f.Params.length):=⟨m1.E,m1.R,m1.P⟩
 have m3:MOk (ss3 r f):=MOk.fold (fun ms x h=>h.pat hn x) m1'
 have m4:MOk (withRows (atNx (ss3 r f) (f.Params.length+consN r.Patterns)) (r.Guards.map (sumS (ss3 r f).E (sizeN r f)))):=by
   refine ⟨m3.E,?_,m3.P⟩
   intro l hl
   rcases List.mem_append.1 hl with hl | hl
   · exact m3.R l hl
   · obtain ⟨g,_,rfl⟩:=List.mem_map.1 hl
     exact sumS_len
 have m5:MOk (ss5 r f):=MOk.fold (fun ms x h=>h.call hn x) m4
 obtain ⟨c1,c2,c3,c4⟩:=sCall_cnt (n:=sizeN r f) (xs:=r.Calls) (a:=withRows (atNx (ss3 r f) (f.Params.length+consN r.Patterns)) (r.Guards.map (sumS (ss3 r f).E (sizeN r f))))
 have d3:=sPat_fold (n:=sizeN r f) (xs:=r.Patterns) (a:=atNx (ss1 r f) f.Params.length)
 have d1:=sPar_fold (n:=sizeN r f) (xs:=f.Params) (a:=⟨[],0,domL f (sizeN r f),[],[]⟩)
 have e1:=sPar_pars (n:=sizeN r f) (xs:=f.Params) (a:=⟨[],0,domL f (sizeN r f),[],[]⟩)
 have e3:=sPat_pars (n:=sizeN r f) (xs:=r.Patterns) (a:=atNx (ss1 r f) f.Params.length)
 have hrows1:(ss1 r f).rows=domL f (sizeN r f):=d1.2.2.2.1
 have hargs3:(ss3 r f).args=[]:=by
   have:(ss3 r f).args=(atNx (ss1 r f) f.Params.length).args:=d3.2.2.1
   rw [this]; exact d1.2.2.1
 have hr3:(ss3 r f).rows.length=(domL f (sizeN r f)).length+r.Patterns.length:=by
   have:(ss3 r f).rows.length=(atNx (ss1 r f) f.Params.length).rows.length+r.Patterns.length:=d3.1
   rw [this]; show (ss1 r f).rows.length+_=_; rw [hrows1]
 have hp5:(ss5 r f).pars.length=f.Params.length:=by
   have h1:(ss5 r f).pars=(ss3 r f).pars:=c2
   have h2:(ss3 r f).pars=(ss1 r f).pars:=e3
   rw [h1,h2]
   have:(ss1 r f).pars.length=f.Params.length:=by rw [show (ss1 r f)=f.Params.foldl (sPar (sizeN r f)) ⟨[],0,domL f (sizeN r f),[],[]⟩ from rfl,e1]; simp
   exact this
 refine ⟨?_,m5.R,?_,m5.P,?_,?_,argS_len,?_,?_⟩
 · have:(ss5 r f).rows.length≤(ss3 r f).rows.length+r.Guards.length+r.Calls.length:=by
     refine Nat.le_trans c1 ?_
     show ((ss3 r f).rows++_).length+_≤_
     simp
   show (ss5 r f).rows.length≤10
   omega
 · show (ss5 r f).pars.length≤2; omega
 · have:(ss5 r f).args.length=(ss3 r f).args.length+r.Calls.length:=c3
   rw [hargs3] at this
   simp at this
   show (ss5 r f).args.length≤2; omega
 · intro l hl
   rcases c4 l hl with h | ⟨c,hc,h1,h2⟩
   · have:l∈(ss3 r f).args:=h
     rw [hargs3] at this; cases this
   · exact ⟨by rw [h1]; exact (R.args hp c hc).1,h2⟩
 · show ((sizeN r f:Nat):Int)≤6; have:=R.size; omega
 · show (0:Int)≤((sizeN r f:Nat):Int); omega
end Go.Proofs.YtilcageplifbgaaGreat

namespace Go.Proofs.YtilcageplifbgaaGreat
set_option linter.all false
open Go Go.RowKit Go.Proofs
def edgeAt (i:Nat) (k:Nat):DEdge:=⟨i,k⟩
def ruleEdges (i:Nat) (r:DRule):List DEdge:=(List.range r.Calls.length).map (edgeAt i)
def edgesFrom:Nat→List DRule→List DEdge
 | _,[]=>[]
 | i,r::l=>ruleEdges i r++edgesFrom (i+1) l
def edgesL (p:DProgram):List DEdge:=edgesFrom 0 p.Rules
def edgesOf (p:DProgram):List DEdge:=if progOk p then edgesL p else []
def fromE (p:DProgram) (e:DEdge):Str:=match p.Rules[e.Rule.toNat]? with | some r=>r.Func | Option.none=>[]
def toE (p:DProgram) (e:DEdge):Str:=match p.Rules[e.Rule.toNat]? with | some r=>(match r.Calls[e.Call.toNat]? with | some c=>c.Func | Option.none=>[]) | Option.none=>[]
theorem edgesFrom_mem {e:DEdge} : ∀ {l:List DRule} {i:Nat},e∈edgesFrom i l→∃ j k:Nat,∃ hj:j<l.length,k<(l[j]).Calls.length∧e=⟨((i+j:Nat):Int),k⟩
 | [],_,h=>by cases h
 | r::l,i,h=>by
   simp only [edgesFrom] at h
   rcases List.mem_append.1 h with h | h
   · simp only [ruleEdges,List.mem_map,List.mem_range,edgeAt] at h
     obtain ⟨k,hk,rfl⟩:=h
     exact ⟨0,k,by simp,by simpa using hk,by simp⟩
   · obtain ⟨j,k,hj,hk,rfl⟩:=edgesFrom_mem h
     exact ⟨j+1,k,by simpa using hj,by simpa using hk,by congr 1; omega⟩
theorem edgesL_mem {p:DProgram} {e:DEdge} (h:e∈edgesL p):∃ i k:Nat,∃ hi:i<p.Rules.length,k<(p.Rules[i]).Calls.length∧e=⟨(i:Int),(k:Int)⟩:=by
 obtain ⟨j,k,hj,hk,rfl⟩:=edgesFrom_mem h
 exact ⟨j,k,hj,hk,by congr 1; omega⟩
theorem fromE_at {p:DProgram} {i k:Nat} (hi:i<p.Rules.length):fromE p ⟨(i:Int),(k:Int)⟩=(p.Rules[i]).Func:=by
 simp only [fromE,Int.toNat_natCast,List.getElem?_eq_getElem hi]
theorem toE_at {p:DProgram} {i k:Nat} (hi:i<p.Rules.length) (hk:k<(p.Rules[i]).Calls.length):toE p ⟨(i:Int),(k:Int)⟩=((p.Rules[i]).Calls[k]).Func:=by
 simp only [toE,Int.toNat_natCast,List.getElem?_eq_getElem hi,List.getElem?_eq_getElem hk]
theorem edgesFrom_len:∀ (l:List DRule) (i:Nat),(edgesFrom i l).length≤wL wRule l
 | [],_=>Nat.zero_le _
 | r::l,i=>by
   have h1:=edgesFrom_len l (i+1)
   have h2:=wL_len wCall r.Calls
   have h3:(ruleEdges i r).length=r.Calls.length:=by simp [ruleEdges]
   have h4:r.Calls.length≤wRule r:=by unfold wRule wCallS; omega
   simp only [edgesFrom,List.length_append,h3]
   unfold wL at h1 ⊢
   simp only [List.map_cons,List.sum_cons,List.length_cons]
   omega
theorem edgesL_len (p:DProgram) (hw:wProgram p≤1048576):(edgesL p).length≤1048576:=by
 have:=edgesFrom_len p.Rules 0
 unfold wProgram wRuleS at hw
 unfold edgesL
 omega
end Go.Proofs.YtilcageplifbgaaGreat

namespace Go.Proofs.YtilcageplifbgaaGreat
set_option linter.all false
open Go Go.RowKit Go.Proofs
def a168:AFn:=
⟨30,[.t 2],(.seq
 (.reg [⟨some 1,.boxv (.t 0),no⟩,⟨some 2,.mv (.k (.nil 2)),no⟩]) (.seq
 (.reg [⟨some 3,.mv (.k (.nil 2)),no⟩]) (.seq (.seq
 (.reg [⟨some 7,.fld 1 (.t 1),no⟩,⟨some 8,.ld false 1 (.t 7),no⟩,⟨some 9,.len false (.t 8),no⟩,⟨some 10,.mv (.k (.int .i64 0)),no⟩]) (.blk 0 (.loop (.seq
 (.reg [⟨some 11,.bin .lss (.t 10) (.t 9),no⟩]) (.seq (.cond (.t 11) .skip (.exit 0)) (.seq (.blk 1 (.seq
 (.reg [⟨some 12,.mv (.t 10),no⟩,⟨some 13,.ixa 7 (.t 8) (.t 10),no⟩,⟨some 14,.ld true 7 (.t 13),no⟩,⟨some 5,.box [(.str []),(.nil 4),(.nil 2),(.nil 3),(.bool false),(.nil 2),(.str [])],no⟩,⟨some 4,.mv (.t 12),no⟩,⟨no,.st 7 (.t 5) (.t 14),no⟩]) (.seq
 (.reg [⟨some 15,.fld 3 (.t 5),no⟩,⟨some 16,.ld false 1 (.t 15),no⟩,⟨some 17,.len false (.t 16),no⟩,⟨some 18,.mv (.k (.int .i64 0)),no⟩]) (.blk 2 (.loop (.seq
 (.reg [⟨some 19,.bin .lss (.t 18) (.t 17),no⟩]) (.seq (.cond (.t 19) .skip (.exit 2)) (.seq (.blk 3 (.seq
 (.reg [⟨some 20,.mv (.t 18),no⟩,⟨some 6,.mv (.t 20),no⟩])
 (.reg [⟨some 21,.mv (.t 3),no⟩,⟨some 22,.mv (.t 4),no⟩,⟨some 23,.mv (.t 6),no⟩,⟨some 24,.build [(.int .i64 0),(.int .i64 0)] [(0,(1,(.t 22))),(1,(1,(.t 23)))],no⟩,⟨some 25,.bsl 2 [.t 24],no⟩,⟨some 26,.app 16 2 (.t 21) (.t 25),no⟩,⟨some 3,.mv (.t 26),no⟩])))
 (.reg [⟨some 27,.bin .add (.t 18) (.k (.int .i64 1)),no⟩,⟨some 18,.mv (.t 27),no⟩])))))))))
 (.reg [⟨some 28,.bin .add (.t 10) (.k (.int .i64 1)),no⟩,⟨some 10,.mv (.t 28),no⟩]))))))) (.seq
 (.reg [⟨some 29,.mv (.t 3),no⟩,⟨some 2,.mv (.t 29),no⟩]) .ret))))⟩
theorem a168_ok:compFn Tryz.prog Tryz.f168=some a168:=by kernel_rfl
def a116:AFn:=
⟨8,[.t 2],(.seq
 (.reg [⟨some 1,.boxv (.t 0),no⟩,⟨some 2,.mv (.k (.nil 2)),no⟩]) (.seq (.seq
 (.reg [⟨some 3,.ld true 2 (.t 1),no⟩,⟨some 4,.call (.k (.fn (.func 63) [] [])) [.t 3],no⟩,⟨some 5,.un .not (.t 4),no⟩]) (.cond (.t 5) (.seq
 (.reg [⟨some 2,.mv (.k (.nil 2)),no⟩]) .ret) .skip)) (.seq
 (.reg [⟨some 6,.ld true 2 (.t 1),no⟩,⟨some 7,.call (.k (.fn (.func 168) [] [])) [.t 6],no⟩,⟨some 2,.mv (.t 7),no⟩]) .ret)))⟩
theorem a116_ok:compFn Tryz.prog Tryz.f116=some a116:=by kernel_rfl
def a111:AFn:=
⟨36,[.t 2],(.seq
 (.reg [⟨some 1,.boxv (.t 0),no⟩,⟨some 2,.mv (.k (.nil 2)),no⟩]) (.seq
 (.reg [⟨some 6,.bsl 2 [],no⟩,⟨some 3,.mv (.t 6),no⟩]) (.seq (.seq
 (.reg [⟨some 7,.ld true 2 (.t 1),no⟩,⟨some 8,.call (.k (.fn (.func 58) [] [])) [.t 7],no⟩,⟨some 9,.un .not (.t 8),no⟩]) (.cond (.t 9) (.seq
 (.reg [⟨some 10,.mv (.t 3),no⟩,⟨some 2,.mv (.t 10),no⟩]) .ret) .skip)) (.seq (.seq
 (.reg [⟨some 4,.mv (.k (.int .i64 0)),no⟩]) (.blk 0 (.loop (.seq (.seq
 (.reg [⟨some 11,.mv (.t 4),no⟩,⟨some 12,.fld 1 (.t 1),no⟩,⟨some 13,.ld false 1 (.t 12),no⟩,⟨some 14,.len false (.t 13),no⟩,⟨some 15,.bin .lss (.t 11) (.t 14),no⟩]) (.cond (.t 15) .skip (.exit 0))) (.seq (.blk 1 (.seq
 (.reg [⟨some 5,.mv (.k (.int .i64 0)),no⟩]) (.blk 2 (.loop (.seq (.seq
 (.reg [⟨some 18,.mv (.t 5),no⟩,⟨some 19,.fld 1 (.t 1),no⟩,⟨some 20,.ld false 1 (.t 19),no⟩,⟨some 21,.mv (.t 4),no⟩,⟨some 22,.ixa 7 (.t 20) (.t 21),no⟩,⟨some 23,.fld 3 (.t 22),no⟩,⟨some 24,.ld false 1 (.t 23),no⟩,⟨some 25,.len false (.t 24),no⟩,⟨some 26,.bin .lss (.t 18) (.t 25),no⟩]) (.cond (.t 26) .skip (.exit 2))) (.seq (.blk 3
 (.reg [⟨some 29,.mv (.t 3),no⟩,⟨some 30,.mv (.t 4),no⟩,⟨some 31,.mv (.t 5),no⟩,⟨some 32,.build [(.int .i64 0),(.int .i64 0)] [(0,(1,(.t 30))),(1,(1,(.t 31)))],no⟩,⟨some 33,.bsl 2 [.t 32],no⟩,⟨some 34,.app 16 2 (.t 29) (.t 33),no⟩,⟨some 3,.mv (.t 34),no⟩]))
 (.reg [⟨some 27,.mv (.t 5),no⟩,⟨some 28,.bin .add (.t 27) (.k (.int .i64 1)),no⟩,⟨some 5,.mv (.t 28),no⟩])))))))
 (.reg [⟨some 16,.mv (.t 4),no⟩,⟨some 17,.bin .add (.t 16) (.k (.int .i64 1)),no⟩,⟨some 4,.mv (.t 17),no⟩])))))) (.seq
 (.reg [⟨some 35,.mv (.t 3),no⟩,⟨some 2,.mv (.t 35),no⟩]) .ret)))))⟩
theorem a111_ok:compFn Tryz.prog Tryz.f111=some a111:=by kernel_rfl
def Acc (z:Nat) (rows:List (List AV)) (v:AV) (h:Heap) (n:Nat):Prop:=(rows=[]∧v = .nil z)∨∃ id,id<n∧v = .ref id 0 rows.length∧h id=some ⟨false,z,rows⟩
theorem edgesFrom_drop {l:List DRule} {i k:Nat} (hi:i<l.length):edgesFrom k (l.drop i)=ruleEdges k l[i]++edgesFrom (k+1) (l.drop (i+1)):=by rw [List.drop_eq_getElem_cons hi]; rfl
theorem ruleEdges_drop {r:DRule} {i j:Nat} (hj:j<r.Calls.length):(ruleEdges i r).drop j=edgeAt i j::(ruleEdges i r).drop (j+1):=by
 rw [List.drop_eq_getElem_cons (by simp [ruleEdges,hj])]
 simp [ruleEdges]
theorem ruleEdges_len (i:Nat) (r:DRule):(ruleEdges i r).length=r.Calls.length:=by simp [ruleEdges]
set_option maxRecDepth 20000 in
set_option maxHeartbeats 2000000 in
theorem k_edgesOf (p:DProgram) (hp:wProgram p≤1048576):Holds Tryz.prog 168 [.agg (rAProgram p)] (fun x=>x = .us 2 ((edgesL p).map rUEdge)):=by
 have hTl:=edgesL_len p hp
 refine holds_of_run Tryz.func168 a168_ok rfl (by simp [a168]) ?_
 simp [a168,rAProgram]
 intro hlr
 unfold edgesL at *
 generalize hT:edgesFrom 0 p.Rules=T at *
 refine rL_forO [8,9] 10 p.Rules.length (fun i s h n=>∃ acc:List DEdge,acc++edgesFrom i (p.Rules.drop i)=T∧Acc 2 (acc.map rUEdge) (s 3) h n) hlr (by simp) ⟨[],by simpa using hT,.inl (by simp)⟩ ?_ ?_
 · rintro i st h n R hi hg hk s10 hw ⟨acc,hJ,hA⟩ hR hret _
   simp at hk
   rw [edgesFrom_drop hi] at hJ
   refine rC_cut [3,8,9,10] (fun s=>s 11 = .bool true) (by simp [hk,s10,hi]) ?_
   intro st1 hk1 s11
   simp at hk1
   refine rC_pass s11 (rC_seqI (rC_blkI ?_))
   refine rC_cutH [3,8,9,10] (fun s h' n'=>s 4 = .int .i64 i∧s 5 = .ptr n 0 0∧n'=n+1∧h' n=some ⟨true,7,[rARule p.Rules[i]]⟩∧Acc 2 (acc.map rUEdge) (s 3) h' n') ?_ ?_
   · simp [hk,hk1,s10,hi,rARule]
     rcases hA with ⟨ha,hv⟩ | ⟨id,hid,hv,he⟩
     · exact .inl ⟨ha,hv⟩
     · have z0:¬id=n:=by omega
       exact .inr ⟨id,by omega,hv,by simp [he,z0]⟩
   rintro st2 h2 n2 hk2 ⟨s4,s5,rfl,en,hA⟩
   simp at hk2
   refine rC_seqI ?_
   simp [hk,hk1,hk2,s5,en,rARule]
   intro hlc
   refine rL_forO [4,8,9,10,17] 18 (p.Rules[i]).Calls.length (fun j s h n=>∃ acc:List DEdge,acc++((ruleEdges i p.Rules[i]).drop j++edgesFrom (i+1) (p.Rules.drop (i+1)))=T∧Acc 2 (acc.map rUEdge) (s 3) h n) hlc (by simp) ⟨acc,by simpa using hJ,by simpa using hA⟩ ?_ ?_
   · rintro j stj hj nj Rj hji hjg hkj s18 hwj ⟨accj,hJj,hAj⟩ hRj hretj _
     simp at hkj
     rw [ruleEdges_drop hji] at hJj
     have hal:=congrArg List.length hJj
     simp at hal
     rcases hAj with ⟨ha,hv⟩ | ⟨id,hid,hv,he⟩
     · simp at ha
       subst ha
       simp [hkj,hk2,hk1,s4,s18,hji,hv,hwj]
       refine ⟨by unfold LIM; omega,?_⟩
       refine hRj _ _ _ (by simp [hkj]) (by simp) ⟨[edgeAt i j],by simpa using hJj,.inr ⟨nj+1,by omega,by simp,by simp [rUEdge,edgeAt]⟩⟩
     · simp at hv
       have z0:¬id=nj:=by omega
       have z1:¬id=nj+1:=by omega
       have z2:¬nj+1=id:=by omega
       have z3:¬nj=id:=by omega
       simp [hkj,hk2,hk1,s4,s18,hji,hv,he,z0,z1,z2,z3,hwj]
       refine ⟨by unfold LIM; omega,?_⟩
       refine hRj _ _ _ (by simp [hkj]) (by simp) ⟨accj++[edgeAt i j],by simpa using hJj,.inr ⟨nj+1,by omega,by simp,by simp [rUEdge,edgeAt,List.take_of_length_le]⟩⟩
   rintro stj hj nj Rj hkj s18 ⟨accj,hJj,hAj⟩ hretj hXj
   simp at hkj
   rw [List.drop_eq_nil_of_le (by rw [ruleEdges_len]; omega),List.nil_append] at hJj
   refine rC_cut [3,4,8,9,10,17] (fun s=>s 19 = .bool false) (by simp [hkj,s18]) ?_
   intro stk hkk s19
   simp at hkk
   refine rC_stop s19 ?_
   refine hXj _ _ _ _ ?_
   simp [hk,hk1,hk2,hkj,hkk,s10,hw]
   exact hR _ _ _ (by simp [hk,hk1,hk2,hkj,hkk]) (by simp) ⟨accj,hJj,by simpa [hkk] using hAj⟩
 rintro st h n R hk s10 ⟨acc,hJ,hA⟩ hret hX
 simp at hk
 rw [List.drop_eq_nil_of_le (by omega)] at hJ
 simp [edgesFrom] at hJ
 subst hJ
 refine rC_cut [3] (fun s=>s 11 = .bool false) (by simp [hk,s10]) ?_
 intro st1 hk1 s11
 simp at hk1
 refine rC_stop s11 ?_
 refine hX _ _ _ _ ?_
 rcases hA with ⟨ha,hv⟩ | ⟨id,hid,hv,he⟩
 · simp at ha
   simp [hk1,hv,ha]
 · simp at hv
   simp [hk1,hv,he]
theorem k_EdgesOf (p:DProgram) (hp:wProgram p≤1048576):Holds Tryz.prog 116 [.agg (rAProgram p)] (fun x=>x = .us 2 ((edgesOf p).map rUEdge)):=by
 refine holds_of_run Tryz.func116 a116_ok rfl (by simp [a116]) ?_
 simp [a116,rAProgram]
 first|refine callD_of (k_IsValidProgram p hp) (by first|(simp [rAProgram];done)|rfl) ?_|refine call_of (k_IsValidProgram p hp) (by first|(simp [rAProgram];done)|rfl) ?_
 rintro r rfl
 unfold edgesOf
 cases h1:progOk p
 · simp
 simp
 first|refine callD_of (k_edgesOf p hp) (by first|(simp [rAProgram];done)|rfl) ?_|refine call_of (k_edgesOf p hp) (by first|(simp [rAProgram];done)|rfl) ?_
 rintro r rfl
 simp
set_option maxRecDepth 20000 in
set_option maxHeartbeats 2000000 in
theorem ks_EdgesOf (p:DProgram) (hp:wProgram p≤1048576):Holds Tryz.prog 111 [.agg (rAProgram p)] (fun x=>x = .us 2 ((edgesOf p).map rUEdge)):=by
 have hTl:=edgesL_len p hp
 have hlr:p.Rules.length≤1048576:=by have:=wL_len wRule p.Rules; unfold wProgram wRuleS at hp; omega
 have hlc:∀ i,∀ hi:i<p.Rules.length,(p.Rules[i]).Calls.length≤1048576:=fun i hi=>by
   have h1:=wRule_of hp _ (List.getElem_mem hi)
   exact (wRule_parts h1).2.2.2.2.1
 refine holds_of_run Tryz.func111 a111_ok rfl (by simp [a111]) ?_
 simp [a111,rAProgram]
 first|refine callD_of (ks_IsValidProgram p hp) (by first|(simp [rAProgram];done)|rfl) ?_|refine call_of (ks_IsValidProgram p hp) (by first|(simp [rAProgram];done)|rfl) ?_
 rintro r rfl
 unfold edgesOf
 cases h1:progOk p
 · simp
 simp
 unfold edgesL at *
 generalize hT:edgesFrom 0 p.Rules=T at *
 refine rL_forO [1] 4 p.Rules.length (fun i s h n=>0<n∧h 0=some ⟨true,2,[rAProgram p]⟩∧∃ (acc:List DEdge) (id:Nat),acc++edgesFrom i (p.Rules.drop i)=T∧0<id∧id<n∧s 3 = .ref id 0 acc.length∧h id=some ⟨false,2,acc.map rUEdge⟩) (by unfold LIM; omega) (by simp) ⟨by simp,by simp [rAProgram],[],1,by simpa using hT,by omega,by omega,by simp,by simp⟩ ?_ ?_
 · rintro i st h n R hi hg hk s4 hw ⟨hn,e0,acc,id,hJ,hid0,hid,s3,eid⟩ hR hret _
   simp at hk
   rw [edgesFrom_drop hi] at hJ
   refine rC_seqI (rC_cut [1,3,4] (fun s=>s 15 = .bool true) (by simp [hk,s4,hi,e0,rAProgram]) ?_)
   intro st1 hk1 s15
   simp at hk1
   refine rC_pass1 s15 (rC_seqI (rC_blkI (rC_seqI ?_)))
   simp [hk,hk1]
   refine rL_forO [1,4] 5 (p.Rules[i]).Calls.length (fun j s h n=>0<n∧h 0=some ⟨true,2,[rAProgram p]⟩∧∃ (acc:List DEdge) (id:Nat),acc++((ruleEdges i p.Rules[i]).drop j++edgesFrom (i+1) (p.Rules.drop (i+1)))=T∧0<id∧id<n∧s 3 = .ref id 0 acc.length∧h id=some ⟨false,2,acc.map rUEdge⟩) (by have:=hlc i hi; unfold LIM; omega) (by simp) ⟨hn,by simpa using e0,acc,id,by simpa using hJ,hid0,hid,by simp [hk1,s3],by simpa using eid⟩ ?_ ?_
   · rintro j stj hj nj Rj hji hjg hkj s5 hwj ⟨hnj,e0j,accj,idj,hJj,hid0j,hidj,s3j,eidj⟩ hRj hretj _
     simp at hkj
     rw [ruleEdges_drop hji] at hJj
     have hal:=congrArg List.length hJj
     simp at hal
     have z0:¬idj=nj:=by omega
     have z1:¬idj=nj+1:=by omega
     have z2:¬nj+1=idj:=by omega
     have z3:¬nj=idj:=by omega
     have z4:¬0=idj:=by omega
     have z5:¬0=nj:=by omega
     have z6:¬0=nj+1:=by omega
     have z7:¬idj=0:=by omega
     have z8:¬nj=0:=by omega
     refine rC_seqI (rC_cut [1,3,4,5] (fun s=>s 26 = .bool true) (by simp [hk,hkj,hk1,s4,s5,hi,hji,e0j,rAProgram,rARule]) ?_)
     intro stk hkk s26
     simp at hkk
     refine rC_pass1 s26 ?_
     simp [hk,hkj,hk1,hkk,s4,s5,s3j,eidj,e0j,z0,z1,z2,z3,z4,z5,z6,z7,z8,hwj]
     refine ⟨by unfold LIM; omega,?_⟩
     exact hRj _ _ _ (by simp [hkj,hkk]) (by simp) ⟨by omega,by simp [e0j,z4,z5,z6,z8],accj++[edgeAt i j],nj+1,by simpa using hJj,by omega,by omega,by simp,by simp [rUEdge,edgeAt,List.take_of_length_le]⟩
   rintro stj hj nj Rj hkj s5 ⟨hnj,e0j,accj,idj,hJj,hid0j,hidj,s3j,eidj⟩ hretj hXj
   simp at hkj
   rw [List.drop_eq_nil_of_le (by rw [ruleEdges_len]; omega),List.nil_append] at hJj
   refine rC_seqI (rC_cut [1,3,4] (fun s=>s 26 = .bool false) (by simp [hk,hkj,hk1,s4,s5,hi,e0j,rAProgram,rARule]) ?_)
   intro stk hkk s26
   simp at hkk
   refine rC_stop1 s26 ?_
   simp
   refine hXj _ _ _ _ ?_
   simp [hk,hk1,hkj,hkk,s4,hw]
   exact hR _ _ _ (by simp [hk,hk1,hkj,hkk]) (by simp) ⟨hnj,e0j,accj,idj,hJj,hid0j,hidj,by simp [hkk,s3j],eidj⟩
 rintro st h n R hk s4 ⟨hn,e0,acc,id,hJ,hid0,hid,s3,eid⟩ hret hX
 simp at hk
 rw [List.drop_eq_nil_of_le (by omega)] at hJ
 simp [edgesFrom] at hJ
 subst hJ
 refine rC_seqI (rC_cut [3] (fun s=>s 15 = .bool false) (by simp [hk,s4,e0,rAProgram]) ?_)
 intro st1 hk1 s15
 simp at hk1
 refine rC_stop1 s15 ?_
 refine hX _ _ _ _ ?_
 simp [hk1,s3,eid]
end Go.Proofs.YtilcageplifbgaaGreat

namespace Go.Proofs.YtilcageplifbgaaGreat
set_option linter.all false
open Go Go.RowKit Go.Proofs
def a117:AFn:=
⟨22,[.t 4,.t 5],(.seq
 (.reg [⟨some 2,.boxv (.t 0),no⟩,⟨some 3,.boxv (.t 1),no⟩,⟨some 4,.mv (.k (.str [])),no⟩,⟨some 5,.mv (.k (.str [])),no⟩]) (.seq
 (.reg [⟨some 7,.fld 1 (.t 2),no⟩,⟨some 8,.ld false 1 (.t 7),no⟩,⟨some 9,.fld 0 (.t 3),no⟩,⟨some 10,.ld false 1 (.t 9),no⟩,⟨some 11,.ixa 7 (.t 8) (.t 10),no⟩,⟨some 12,.ld true 7 (.t 11),no⟩,⟨some 6,.box [(.str []),(.nil 4),(.nil 2),(.nil 3),(.bool false),(.nil 2),(.str [])],no⟩,⟨no,.st 7 (.t 6) (.t 12),no⟩]) (.seq (.draw (.op ⟨some 13,.fld 0 (.t 6),no⟩ (.op ⟨some 14,.ld false 1 (.t 13),no⟩ (.op ⟨some 15,.fld 3 (.t 6),no⟩ (.op ⟨some 16,.ld false 1 (.t 15),no⟩ (.op ⟨some 17,.fld 1 (.t 3),no⟩ (.op ⟨some 18,.ld false 1 (.t 17),no⟩ (.op ⟨some 19,.ixa 3 (.t 16) (.t 18),no⟩ (.op ⟨some 20,.fld 1 (.t 19),no⟩ (.op ⟨some 21,.ld false 1 (.t 20),no⟩ (.op ⟨some 4,.mv (.t 14),no⟩ (.op ⟨some 5,.mv (.t 21),no⟩ .fin)))))))))))) .ret)))⟩
theorem a117_ok:compFn Tryz.prog Tryz.f117=some a117:=by kernel_rfl
def a112:AFn:=
⟨17,[.t 4],(.seq
 (.reg [⟨some 2,.boxv (.t 0),no⟩,⟨some 3,.boxv (.t 1),no⟩,⟨some 4,.mv (.k (.str [])),no⟩]) (.seq (.draw (.op ⟨some 5,.fld 1 (.t 2),no⟩ (.op ⟨some 6,.ld false 1 (.t 5),no⟩ (.op ⟨some 7,.fld 0 (.t 3),no⟩ (.op ⟨some 8,.ld false 1 (.t 7),no⟩ (.op ⟨some 9,.ixa 7 (.t 6) (.t 8),no⟩ (.op ⟨some 10,.fld 3 (.t 9),no⟩ (.op ⟨some 11,.ld false 1 (.t 10),no⟩ (.op ⟨some 12,.fld 1 (.t 3),no⟩ (.op ⟨some 13,.ld false 1 (.t 12),no⟩ (.op ⟨some 14,.ixa 3 (.t 11) (.t 13),no⟩ (.op ⟨some 15,.fld 1 (.t 14),no⟩ (.op ⟨some 16,.ld false 1 (.t 15),no⟩ (.op ⟨some 4,.mv (.t 16),no⟩ .fin)))))))))))))) .ret))⟩
theorem a112_ok:compFn Tryz.prog Tryz.f112=some a112:=by kernel_rfl
set_option maxRecDepth 20000
set_option maxHeartbeats 2000000
theorem k_ends (p:DProgram) {i k:Nat} (hi:i<p.Rules.length) (hk:k<(p.Rules[i]).Calls.length):Holds Tryz.prog 117 [.agg (rAProgram p),.agg (rAEdge ⟨i,k⟩)] (fun x=>x = .tup [.str (p.Rules[i]).Func,.str ((p.Rules[i]).Calls[k]).Func]):=by
 refine holds_of_run Tryz.func117 a117_ok rfl (by simp [a117]) ?_
 simp [a117,rAProgram,rAEdge,hi,hk,rARule,rACall]
theorem ks_l13To (p:DProgram) {i k:Nat} (hi:i<p.Rules.length) (hk:k<(p.Rules[i]).Calls.length):Holds Tryz.prog 112 [.agg (rAProgram p),.agg (rAEdge ⟨i,k⟩)] (fun x=>x = .str ((p.Rules[i]).Calls[k]).Func):=by
 refine holds_of_run Tryz.func112 a112_ok rfl (by simp [a112]) ?_
 simp [a112,rAProgram,rAEdge,hi,hk,rARule,rACall]
theorem edgesOf_at {p:DProgram} {j:Nat} (hj:j<(edgesOf p).length):∃ i k:Nat,∃ hi:i<p.Rules.length,∃ hk:k<(p.Rules[i]).Calls.length,(edgesOf p)[j]=⟨(i:Int),(k:Int)⟩∧fromE p ⟨(i:Int),(k:Int)⟩=(p.Rules[i]).Func∧toE p ⟨(i:Int),(k:Int)⟩=((p.Rules[i]).Calls[k]).Func:=by
 have hm:(edgesOf p)[j]∈edgesL p:=by
   have h0:(edgesOf p)[j]∈edgesOf p:=List.getElem_mem hj
   generalize (edgesOf p)[j]=e at h0
   unfold edgesOf at h0
   split at h0
   · exact h0
   · cases h0
 obtain ⟨i,k,hi,hk,he⟩:=edgesL_mem hm
 exact ⟨i,k,hi,hk,he,fromE_at hi,toE_at hi hk⟩
theorem edgesOf_len (p:DProgram) (hp:wProgram p≤1048576):(edgesOf p).length≤1048576:=by
 have:=edgesL_len p hp
 unfold edgesOf
 split
 · exact this
 · simp
end Go.Proofs.YtilcageplifbgaaGreat

namespace Go.Proofs.YtilcageplifbgaaGreat
set_option linter.all false
open Go Go.RowKit Go.Proofs
def a119:AFn:=
⟨9,[(.c 2 true 2)],(.seq
 (.reg [⟨some 1,.boxv (.t 0),no⟩,⟨some 2,.box [(.int .i64 0),(.nil 2)],no⟩]) (.seq (.draw (.op ⟨some 3,.fld 0 (.t 1),no⟩ (.op ⟨some 4,.ld false 1 (.t 3),no⟩ (.op ⟨some 5,.fld 1 (.t 1),no⟩ (.op ⟨some 6,.ld false 1 (.t 5),no⟩ (.op ⟨some 7,.call (.k (.fn (.func 188) [] [])) [.t 6],no⟩ (.op ⟨some 8,.build [(.int .i64 0),(.nil 2)] [(0,(1,(.t 4))),(1,(1,(.t 7)))],no⟩ (.hop ⟨no,.st 2 (.t 2) (.t 8),no⟩ [] .fin)))))))) .ret))⟩
theorem a119_ok:compFn Tryz.prog Tryz.f119=some a119:=by kernel_rfl
def a115:AFn:=
⟨27,[(.c 2 true 2)],(.seq
 (.reg [⟨some 1,.boxv (.t 0),no⟩,⟨some 2,.box [(.int .i64 0),(.nil 2)],no⟩]) (.seq
 (.reg [⟨some 5,.fld 0 (.t 1),no⟩,⟨some 6,.ld false 1 (.t 5),no⟩,⟨some 7,.build [(.int .i64 0),(.nil 2)] [(0,(1,(.t 6)))],no⟩,⟨some 3,.box [(.int .i64 0),(.nil 2)],no⟩,⟨no,.st 2 (.t 3) (.t 7),no⟩]) (.seq (.seq
 (.reg [⟨some 4,.mv (.k (.int .i64 0)),no⟩]) (.blk 0 (.loop (.seq (.seq
 (.reg [⟨some 8,.mv (.t 4),no⟩,⟨some 9,.fld 1 (.t 1),no⟩,⟨some 10,.ld false 1 (.t 9),no⟩,⟨some 11,.len false (.t 10),no⟩,⟨some 12,.bin .lss (.t 8) (.t 11),no⟩]) (.cond (.t 12) .skip (.exit 0))) (.seq (.blk 1 (.draw (.op ⟨some 15,.fld 1 (.t 3),no⟩ (.op ⟨some 16,.ld false 1 (.t 15),no⟩ (.op ⟨some 17,.fld 1 (.t 1),no⟩ (.op ⟨some 18,.ld false 1 (.t 17),no⟩ (.op ⟨some 19,.mv (.t 4),no⟩ (.op ⟨some 20,.ixa 2 (.t 18) (.t 19),no⟩ (.op ⟨some 21,.ld true 2 (.t 20),no⟩ (.op ⟨some 22,.call (.k (.fn (.func 87) [] [])) [.t 21],no⟩ (.hop ⟨some 23,.bsl 2 [.t 22],no⟩ [(.ld false 1 (.t 15)),(.fld 1 (.t 3))] (.hop ⟨some 24,.app 32 2 (.t 16) (.t 23),no⟩ [] (.op ⟨some 25,.fld 1 (.t 3),no⟩ (.hop ⟨no,.st 1 (.t 25) (.t 24),no⟩ [] .fin))))))))))))))
 (.reg [⟨some 13,.mv (.t 4),no⟩,⟨some 14,.bin .add (.t 13) (.k (.int .i64 1)),no⟩,⟨some 4,.mv (.t 14),no⟩])))))) (.seq
 (.reg [⟨some 26,.ld true 2 (.t 3),no⟩,⟨no,.st 2 (.t 2) (.t 26),no⟩]) .ret))))⟩
theorem a115_ok:compFn Tryz.prog Tryz.f115=some a115:=by kernel_rfl
def po0:AC:=(.reg [⟨some 1,.boxv (.t 0),no⟩,⟨some 2,.mv (.k (.nil 4)),no⟩])
def po1:AC:=(.reg [⟨some 3,.mv (.k (.nil 4)),no⟩])
def pod:AC:=(.draw (.op ⟨some 63,.mv (.t 3),no⟩ (.op ⟨some 64,.fld 0 (.t 6),no⟩ (.op ⟨some 65,.ld true 2 (.t 64),no⟩ (.op ⟨some 67,.ld true 2 (.t 14),no⟩ (.op ⟨some 66,.call (.k (.fn (.func 119) [] [])) [.t 65],no⟩ (.op ⟨some 68,.build [(.int .i64 0),(.nil 2),(.int .i64 0),(.nil 1)] [(0,(2,(.t 66))),(2,(2,(.t 67)))],no⟩ (.hop ⟨some 69,.bsl 4 [.t 68],no⟩ [] (.hop ⟨some 70,.app 64 4 (.t 63) (.t 69),no⟩ [] (.hop ⟨some 3,.mv (.t 70),no⟩ [] .fin))))))))))
def poi:AC:=(.seq  (.reg [⟨some 42,.fld 3 (.t 10),no⟩,⟨some 43,.ld false 1 (.t 42),no⟩,⟨some 44,.len false (.t 43),no⟩,⟨some 45,.mv (.k (.int .i64 0)),no⟩]) (.blk 2 (.loop (.seq  (.reg [⟨some 46,.bin .lss (.t 45) (.t 44),no⟩]) (.seq (.cond (.t 46) .skip (.exit 2)) (.seq (.blk 3 (.seq  (.reg [⟨some 47,.ixa 2 (.t 43) (.t 45),no⟩,⟨some 48,.ld true 2 (.t 47),no⟩,⟨some 13,.box [(.int .i64 0),(.nil 1)],no⟩,⟨no,.st 2 (.t 13) (.t 48),no⟩]) (.seq  (.reg [⟨some 50,.ld true 6 (.t 6),no⟩,⟨some 51,.ld true 2 (.t 13),no⟩,⟨some 52,.fld 1 (.t 5),no⟩,⟨some 53,.ld false 1 (.t 52),no⟩,⟨some 54,.call (.k (.fn (.func 118) [] [])) [.t 50,.t 51,.t 53],no⟩,⟨some 49,.mv (.t 54),no⟩,⟨some 55,.ext (.t 49) 0,no⟩,⟨some 56,.ext (.t 49) 1,no⟩,⟨some 14,.box [(.int .i64 0),(.nil 1)],no⟩,⟨no,.st 2 (.t 14) (.t 55),no⟩,⟨some 15,.mv (.t 56),no⟩]) (.seq (.seq  (.reg [⟨some 57,.mv (.t 15),no⟩,⟨some 58,.un .not (.t 57),no⟩]) (.cond (.t 58)  (.reg [⟨some 59,.fld 0 (.t 6),no⟩,⟨some 60,.fld 0 (.t 59),no⟩,⟨some 61,.ld false 1 (.t 60),no⟩,⟨some 62,.call (.k (.fn (.func 103) [] [])) [(.k (.int .i64 (-1))),.t 61],no⟩,⟨no,.st 2 (.t 14) (.t 62),no⟩]) .skip)) pod))))  (.reg [⟨some 71,.bin .add (.t 45) (.k (.int .i64 1)),no⟩,⟨some 45,.mv (.t 71),no⟩])))))))
def po2:AC:=(.seq  (.reg [⟨some 16,.ld true 2 (.t 1),no⟩,⟨some 17,.call (.k (.fn (.func 116) [] [])) [.t 16],no⟩,⟨some 18,.len false (.t 17),no⟩,⟨some 19,.mv (.k (.int .i64 0)),no⟩]) (.blk 0 (.loop (.seq  (.reg [⟨some 20,.bin .lss (.t 19) (.t 18),no⟩]) (.seq (.cond (.t 20) .skip (.exit 0)) (.seq (.blk 1 (.seq  (.reg [⟨some 21,.ixa 2 (.t 17) (.t 19),no⟩,⟨some 22,.ld true 2 (.t 21),no⟩,⟨some 5,.box [(.int .i64 0),(.int .i64 0)],no⟩,⟨no,.st 2 (.t 5) (.t 22),no⟩]) (.seq  (.reg [⟨some 24,.ld true 2 (.t 1),no⟩,⟨some 25,.fld 0 (.t 5),no⟩,⟨some 26,.ld false 1 (.t 25),no⟩,⟨some 27,.call (.k (.fn (.func 33) [] [])) [.t 24,.t 26],no⟩,⟨some 23,.mv (.t 27),no⟩,⟨some 28,.ext (.t 23) 0,no⟩,⟨some 29,.ext (.t 23) 1,no⟩,⟨some 6,.box [(.int .i64 0),(.nil 2),(.nil 2),(.nil 1),(.int .i64 0),(.nil 1)],no⟩,⟨no,.st 6 (.t 6) (.t 28),no⟩,⟨some 7,.mv (.t 29),no⟩]) (.seq  (.reg [⟨some 31,.ld true 2 (.t 1),no⟩,⟨some 32,.ld true 2 (.t 5),no⟩,⟨some 33,.call (.k (.fn (.func 117) [] [])) [.t 31,.t 32],no⟩,⟨some 30,.mv (.t 33),no⟩,⟨some 34,.ext (.t 30) 0,no⟩,⟨some 35,.ext (.t 30) 1,no⟩,⟨some 8,.mv (.t 34),no⟩,⟨some 9,.mv (.t 35),no⟩]) (.seq  (.reg [⟨some 37,.ld true 2 (.t 1),no⟩,⟨some 38,.mv (.t 9),no⟩,⟨some 39,.call (.k (.fn (.func 62) [] [])) [.t 37,.t 38],no⟩,⟨some 36,.mv (.t 39),no⟩,⟨some 40,.ext (.t 36) 0,no⟩,⟨some 41,.ext (.t 36) 1,no⟩,⟨some 10,.box [(.str []),(.nil 1),(.bool false),(.nil 2)],no⟩,⟨no,.st 4 (.t 10) (.t 40),no⟩,⟨some 11,.mv (.t 41),no⟩]) poi)))))  (.reg [⟨some 72,.bin .add (.t 19) (.k (.int .i64 1)),no⟩,⟨some 19,.mv (.t 72),no⟩])))))))
def po3:AC:=(.reg [⟨some 73,.mv (.t 3),no⟩,⟨some 2,.mv (.t 73),no⟩])
def a38:AFn:=⟨74,[.t 2],(.seq po0 (.seq po1 (.seq po2 (.seq po3 .ret))))⟩
theorem a38_ok:compFn Tryz.prog Tryz.f38=some a38:=by kernel_rfl
theorem wLinS_le {l:List DLin} (h:∀ x∈l,x.Coeffs.length≤8):wLinS l≤9*l.length:=by
 unfold wLinS wL
 have:((l.map wLin).sum)≤8*l.length:=by
   induction l with
   | nil=>simp
   | cons e l ih=>
     have h1:=ih fun x hx=>h x (List.mem_cons_of_mem _ hx)
     have h2:=h e List.mem_cons_self
     simp only [List.map_cons,List.sum_cons,List.length_cons]
     rw [show wLin e=e.Coeffs.length from rfl]
     omega
 omega
theorem k_copySystem (x:DSystem) (hw:wLinS x.Rows≤1048576):Holds Tryz.prog 119 [.agg (rASystem x)] (fun r=>r = .agg (rUSystem x)):=by
 refine holds_of_run Tryz.func119 a119_ok rfl (by simp [a119]) ?_
 simp [a119,rASystem]
 first|refine callD_of (k_copyLins x.Rows hw) (by first|(simp;done)|rfl) ?_|refine call_of (k_copyLins x.Rows hw) (by first|(simp;done)|rfl) ?_
 rintro r rfl
 simp [rUSystem]
theorem ks_l6Copy (x:DSystem) (hw:wLinS x.Rows≤1048576):Holds Tryz.prog 115 [.agg (rASystem x)] (fun r=>r = .agg (rUSystem x)):=by
 have hl:=wL_len wLin x.Rows
 have hcl:∀ l∈x.Rows,l.Coeffs.length≤1048576:=fun l hl=>by
   have:=wL_mem (w:=wLin) hl
   rw [show wLin l=l.Coeffs.length from rfl] at this
   unfold wLinS at hw; omega
 unfold wLinS at hw
 refine holds_of_run Tryz.func115 a115_ok rfl (by simp [a115]) ?_
 simp [a115,rASystem]
 refine rL_forO [1,2,3] 4 x.Rows.length (fun i s h m=>2<m∧h 0=some ⟨true,2,[rASystem x]⟩∧h 1=some ⟨true,2,[[.int .i64 0,.nil 2]]⟩∧∃ v,h 2=some ⟨true,2,[[.int .i64 x.N,v]]⟩∧AccV 2 2 ((x.Rows.take i).map rULin) v h m) (by unfold LIM; omega) (by simp)
   ⟨by simp,by simp [rASystem],by simp,.nil 2,by simp,.inl (by simp)⟩ ?_ ?_
 · rintro i st h m R hi hg hk s4 hw' ⟨hm,e0,e1,v,e2,B⟩ hR _ _
   simp at hk
   have hcl:=hcl _ (List.getElem_mem hi)
   refine rC_seqI (rC_cut [1,2,3,4] (fun s=>s 12 = .bool true) (by simp [hk,s4,hi,e0,rASystem]) ?_)
   intro st1 hk1 s12
   simp at hk1
   refine rC_pass1 s12 (rC_seqI (rC_blkI ?_))
   have ne:¬0=m∧¬1=m∧¬2=m∧¬m=2∧¬m=1∧¬m=0∧¬m+1=2∧¬m=m+1∧¬m+1=m:=by omega
   have fr:∀ id,id<m→¬id=m∧¬id=m+1:=by intro id _; omega
   simp [hk1,hk,s4,hi,e0,e2,rASystem]
   first|refine callD_of (ks_l4Copy (x.Rows[i]'hi) hcl) (by first|(simp;done)|rfl) ?_|refine call_of (ks_l4Copy (x.Rows[i]'hi) hcl) (by first|(simp;done)|rfl) ?_
   rintro r rfl
   simp [rULin,e2,ne,hk1,hk]
   refine appV_acc (rows:=(x.Rows.take i).map rULin) (rows2:=[[.int .i64 (x.Rows[i]).Const,.us 1 (intsR (x.Rows[i]).Coeffs)]]) (B.keep (n':=m+1+1) (by omega) fun id _ hid _=>by simp [fr id hid]) (by simp) (fun l e=>by have:=(B.lt e).2.1; omega) (by omega) (by simp; unfold LIM; omega) ?_
   intro h1 f1 f2
   have bx:∀ id z rows,id<m→h id=some ⟨true,z,rows⟩→h1 id=h id:=by
     intro id z rows h1' h3'
     rw [f2 id (by omega) (by omega) fun l e=>B.not_box h3' e]; simp [fr id h1']
   have g0:=bx 0 _ _ (by omega) e0
   have g1:=bx 1 _ _ (by omega) e1
   have g2:=bx 2 _ _ (by omega) e2
   simp [g2,e2,s4,hw',hk1,hk]
   refine hR _ _ _ (by simp [hk1,hk]) (by simp) ⟨by omega,by simp [g0,e0],by simp [g1,e1],.ref (m+2) 0 (i+1),?_,.inr ⟨m+2,by omega,by omega,by simp; omega,?_⟩⟩
   · simp; omega
   · simp [ne,f1]
     have hi':i<(x.Rows.map rULin).length:=by simpa using hi
     rw [List.take_succ_eq_append_getElem hi']
     simp [rULin]
 · rintro st h m R hk s4 ⟨hm,e0,e1,v,e2,B⟩ _ hX
   simp at hk
   rw [List.take_length] at B
   refine rC_seqI (rC_cut [1,2,3] (fun s=>s 12 = .bool false) (by simp [hk,s4,e0,rASystem]) ?_)
   intro st1 hk1 s12
   simp at hk1
   refine rC_stop1 s12 ?_
   refine hX _ _ _ _ ?_
   have cB:=B.cell
   simp [hk1,hk,e2,e1,-dt,-dtl,-isCell,isCell_int,cB]
   have B':AccV 2 2 (x.Rows.map rULin) v (upd h 1 (some ⟨true,2,[[.int .i64 x.N,v]]⟩)) m:=B.keep (Nat.le_refl _) fun id hb hid e=>by
     have:¬id=1:=by omega
     simp [this]
   obtain ⟨h2,d1,_⟩:=B'.dt
   simp [d1,rUSystem]
def oblP (md:DModel) (l:DLin) (call:Int):DObligation:=⟨md.System,(transp md l call).getD (constLin (-1) md.System.N)⟩
def mdAt (p:DProgram) (e:DEdge):DModel:=(modelP p e.Rule).getD model0
def preAt (p:DProgram) (e:DEdge):List DLin:=((findFn p.Functions (toE p e)).getD fn0).Pre
def preOb1 (p:DProgram) (e:DEdge):List DObligation:=(preAt p e).map fun l=>oblP (mdAt p e) l e.Call
def preOb (p:DProgram):List DObligation:=(edgesOf p).flatMap (preOb1 p)
theorem preOb_len (p:DProgram) (hp:wProgram p≤1048576):(preOb p).length≤2097152:=by
 have h1:=edgesOf_len p hp
 have h2:∀ l:List DEdge,(∀ e∈l,(preOb1 p e).length≤2)→(l.flatMap (preOb1 p)).length≤2*l.length:=by
   intro l
   induction l with
   | nil=>intro _; simp
   | cons e l ih=>
     intro h
     have g1:=ih fun x hx=>h x (List.mem_cons_of_mem _ hx)
     have g2:=h e List.mem_cons_self
     simp only [List.flatMap_cons,List.length_append,List.length_cons]
     omega
 have h3:=h2 (edgesOf p) fun e he=>by
   have hpo:progOk p=true:=by
     unfold edgesOf at he
     split at he
     · assumption
     · cases he
   simp only [preOb1,List.length_map,preAt]
   cases hf:findFn p.Functions (toE p e) with
   | none=>simp [fn0]
   | some g=>exact (fn_in hpo hf).2.2.2
 unfold preOb; omega
end Go.Proofs.YtilcageplifbgaaGreat

namespace Go.Proofs.YtilcageplifbgaaGreat
set_option linter.all false
open Go Go.RowKit Go.Proofs
theorem mdAt_sz {p:DProgram} (h1:progOk p=true) {i k:Nat} (hi:i<p.Rules.length):wLinS (mdAt p ⟨i,k⟩).System.Rows≤1000:=by
 obtain ⟨f,hf,R⟩:=rule_in h1 (List.getElem_mem hi)
 have hg:p.Rules.getD (i:Int).toNat rule0=p.Rules[i]:=by simp [hi]
 have hin:inR (i:Int) 0 ((p.Rules.length:Int) - 1)=true:=by simp [inR]; omega
 have hfa:fnAt p p.Rules[i]=f:=by unfold fnAt; rw [hf]; rfl
 have:mdAt p ⟨i,k⟩=modelS p.Rules[i] f:=by unfold mdAt modelP; simp only [h1,hin,hg,hfa,Bool.and_self,if_true,Option.getD_some]
 rw [this]
 obtain ⟨q1,q2,_⟩:=modelS_sz h1 R
 have:=wLinS_le q2
 omega
theorem edge_ok {p:DProgram} {j:Nat} (hj:j<(edgesOf p).length):progOk p=true:=by
 unfold edgesOf at hj
 split at hj
 · assumption
 · simp at hj
set_option maxRecDepth 20000
set_option maxHeartbeats 2000000
section
variable {ks:List Kt} {s:Env} {h h':Heap} {n:Nat} {Q:Fin}
theorem pod_run {md:DModel} {t:DLin} {acc:List DObligation} {v:AV} {k6 k14:Nat} (s3:s 3=v) (s6:s 6 = .ptr k6 0 0) (s14:s 14 = .ptr k14 0 0) (e6:h k6=some ⟨true,6,[rAModel md]⟩) (L:LinBox t k14 h n) (B:AccV 0 4 (acc.map rUObligation) v h n) (hw:wLinS md.System.Rows≤1048576) (hl:acc.length≤3000000)
   (hK:∀ s' h' n',(∀ j∈[1,2,5,6,17,18,19,43,44,45],s' j=s j)→n≤n'→(∀ id z rows,id<n→h id=some ⟨true,z,rows⟩→h' id=h id)→AccV 0 4 ((acc++[(⟨md.System,t⟩:DObligation)]).map rUObligation) (s' 3) h' n'→kont Tryz.prog ks .normal s' h' n' Q):rC Tryz.prog pod ks s h n Q:=by
 obtain ⟨q,hkn,hqn,hkb,hqb⟩:=L
 have ne:¬q=n∧¬n=q∧¬n=n+1∧¬n+1=n∧¬n+1=q∧¬q=n+1:=by omega
 have fr:∀ id,id<n→¬id=n∧¬id=n+1∧¬id=n+1+1:=by intro id _; omega
 have hqv:∀ l,v ≠ .ref q 0 l:=fun l e=>by have:=(B.lt e).2.2.1; rw [hqb] at this; simp at this
 simp [pod,s3,s6,s14,e6,hkb]
 first|refine callD_of (k_copySystem md.System hw) (by first|(simp;done)|rfl) ?_|refine call_of (k_copySystem md.System hw) (by first|(simp;done)|rfl) ?_
 rintro r rfl
 simp [rUSystem,hqb,ne]
 refine appV_acc (rows:=acc.map rUObligation) (rows2:=[[.int .i64 md.System.N,.us 2 (md.System.Rows.map rULin),.int .i64 t.Const,.us 1 (intsR t.Coeffs)]]) (B.keep (n':=n+1+1) (by omega) fun id _ hid e => ?_) (by simp) (fun l e=>by have:=(B.lt e).2.1; omega) (by omega) (by simp; unfold LIM; omega) ?_
 · have:¬id=q:=fun e'=>hqv _ (by rw [←e']; exact e)
   simp [fr id hid,this]
 intro h1 f1 f2
 simp
 refine hK _ _ _ (by simp) (by omega) ?_ ?_
 · intro id z rows h1' h3'
   have:¬id=q:=by rintro rfl; rw [hqb] at h3'; simp at h3'
   rw [f2 id (by omega) (by omega) fun l e=>B.not_box h3' e]; simp [fr id h1',this]
 · simp
   exact .inr ⟨n+2,by omega,by omega,by simp,by simp [f1,rUObligation]⟩
theorem poi_run {md:DModel} {e:DEdge} {g:DFunction} {acc0 T:List DObligation} {k5 k6 k10:Nat} {pr:List (List AV)} (s1:s 1 = .ptr 0 0 0) (s5:s 5 = .ptr k5 0 0) (s6:s 6 = .ptr k6 0 0) (s10:s 10 = .ptr k10 0 0) (hk5:k5<n) (hk6:k6<n) (hk0:0<n) (e0:h 0=some ⟨true,2,pr⟩) (e5:h k5=some ⟨true,2,[rAEdge e]⟩) (e6:h k6=some ⟨true,6,[rAModel md]⟩) (e10:h k10=some ⟨true,4,[rAFunction g]⟩)
   (B:AccV 0 4 (acc0.map rUObligation) (s 3) h n) (hw:wLinS md.System.Rows≤1048576) (hT:acc0++g.Pre.map (fun l=>oblP md l e.Call)=T) (hTl:T.length≤2097152) (hgl:g.Pre.length≤1048576)
   (hK:∀ s' h' n',(∀ j∈[1,2,17,18,19],s' j=s j)→0<n'→h' 0=some ⟨true,2,pr⟩→AccV 0 4 (T.map rUObligation) (s' 3) h' n'→kont Tryz.prog ks .normal s' h' n' Q):rC Tryz.prog poi ks s h n Q:=by
 simp [poi,s10,e10,rAFunction]
 intro _
 refine rL_forO [1,2,5,6,17,18,19,43,44] 45 g.Pre.length (fun i s h m=>k5<m∧k6<m∧0<m∧h 0=some ⟨true,2,pr⟩∧h k5=some ⟨true,2,[rAEdge e]⟩∧h k6=some ⟨true,6,[rAModel md]⟩∧∃ acc,AccV 0 4 (acc.map rUObligation) (s 3) h m∧acc++(g.Pre.drop i).map (fun l=>oblP md l e.Call)=T) (by unfold LIM; omega) (by simp)
   ⟨hk5,hk6,hk0,e0,e5,e6,acc0,by simpa using B,by simpa using hT⟩ ?_ ?_
 · rintro i st h m R hi hg hk s45 hw' ⟨m5,m6,m0,e0,e5,e6,acc,B,hJ⟩ hR _ _
   simp at hk
   rw [List.drop_eq_getElem_cons hi,List.map_cons] at hJ
   have hal:=congrArg List.length hJ
   simp at hal
   refine rC_cut [1,2,3,5,6,17,18,19,43,44,45] (fun s=>s 46 = .bool true) (by simp [hk,s45,hi]) ?_
   intro st1 hk1 s46
   simp at hk1
   refine rC_pass s46 (rC_seqI (rC_blkI ?_))
   have fr:∀ id,id<m→¬id=m:=by intro id _; omega
   refine rC_cutH [1,2,3,5,6,17,18,19,43,44,45] (fun s h2 n2=>n2=m+1∧s 13 = .ptr m 0 0∧h2 m=some ⟨true,2,[rALin (g.Pre[i]'hi)]⟩∧∀ id,id<m→h2 id=h id) ?_ ?_
   · simp [hk1,hk,s45,hi]
     exact fun id hid=>by simp [fr id hid]
   rintro st2 h2 n2 hk2 ⟨rfl,s13,em,hfr2⟩
   simp at hk2
   generalize g.Pre[i]=l at *
   have c5:=hfr2 k5 m5
   have c6:=hfr2 k6 m6
   rw [e5] at c5
   rw [e6] at c6
   have x5:st2 5 = .ptr k5 0 0:=by simp [hk2,hk1,hk,s5]
   have x6:st2 6 = .ptr k6 0 0:=by simp [hk2,hk1,hk,s6]
   refine rC_cutH [1,2,3,5,6,17,18,19,43,44,45] (fun s h3 n3=>m+1<n3∧s 15 = .bool (transp md l e.Call).isSome∧(∃ k,s 14 = .ptr k 0 0∧m<k∧LinBox ((transp md l e.Call).getD lin0) k h3 n3)∧∀ id,id<m→h3 id=h id) ?_ ?_
   · simp [x5,x6,s13,em,c5,c6,rAEdge]
     first|refine callD_of (k_Transport md l e.Call) (by first|(simp;done)|rfl) ?_|refine call_of (k_Transport md l e.Call) (by first|(simp;done)|rfl) ?_
     rintro r rfl
     rw [optLin_eq]
     generalize (transp md l e.Call).getD lin0=t
     generalize (transp md l e.Call).isSome=b
     simp [rULin]
     refine ⟨⟨by omega,m+1,by omega,by omega,by simp,by simp⟩,fun id hid => ?_⟩
     have:¬id=m+1∧¬id=m+1+1:=by omega
     simp [this,hfr2 id hid]
   rintro st3 h3 n3 hk3 ⟨hn3,s15,⟨k14,s14,hk14,q,y1,y2,y3,y4⟩,hfr3⟩
   simp at hk3
   have z6:st3 6 = .ptr k6 0 0:=by rw [hk3.2.2.2.2.1,x6]
   have d6:=hfr3 k6 m6
   rw [e6] at d6
   refine rC_cutH [1,2,3,5,6,14,17,18,19,43,44,45] (fun s h4 n4=>n3≤n4∧LinBox ((transp md l e.Call).getD (constLin (-1) md.System.N)) k14 h4 n4∧∀ id,id<m→h4 id=h id) ?_ ?_
   · cases ht:transp md l e.Call with
     | some t=>
       rw [ht] at s15 y3 y4
       simp [s15]
       exact ⟨⟨q,y1,y2,y3,y4⟩,hfr3⟩
     | none=>
       rw [ht] at s15
       simp only [Option.isSome_none] at s15
       have nk:¬k14=n3∧¬n3=k14:=by omega
       simp [s15,z6,d6,rAModel]
       first|refine callD_of (k_ConstLin (-1) md.System.N) (by first|(simp;done)|rfl) ?_|refine call_of (k_ConstLin (-1) md.System.N) (by first|(simp;done)|rfl) ?_
       rintro r rfl
       generalize constLin (-1) md.System.N=t
       simp [rULin,s14,nk,y3]
       refine ⟨⟨n3,by omega,by omega,by simp,by simp [nk]⟩,fun id hid => ?_⟩
       have:¬id=k14∧¬id=n3:=by omega
       simp [this,hfr3 id hid]
   rintro st4 h4 n4 hk4 ⟨hn4,L4,hfr4⟩
   simp at hk4
   have B4:AccV 0 4 (acc.map rUObligation) (st 3) h4 n4:=B.keep (by omega) fun id _ hid _=>hfr4 id hid
   refine pod_run (md:=md) (t:=(transp md l e.Call).getD (constLin (-1) md.System.N)) (acc:=acc) (v:=st 3) (k6:=k6) (k14:=k14) (by simp [hk4,hk3,hk2,hk1]) (by simp [hk4,z6]) (by simp [hk4,s14]) (by rw [hfr4 k6 m6,e6]) L4 B4 hw (by omega) ?_
   intro st5 h5 n5 hk5 hn5 bx5 B5
   simp at hk5
   simp [hk5,hk4,hk3,hk2,hk1,s45,hw']
   have f0:=hfr4 0 m0
   have f5:=hfr4 k5 m5
   have f6:=hfr4 k6 m6
   rw [e0] at f0
   rw [e5] at f5
   rw [e6] at f6
   refine hR _ _ _ (by simp [hk5,hk4,hk3,hk2,hk1,hk]) (by simp) ⟨by omega,by omega,by omega,by rw [bx5 0 _ _ (by omega) f0,f0],by rw [bx5 k5 _ _ (by omega) f5,f5],by rw [bx5 k6 _ _ (by omega) f6,f6],acc++[oblP md l e.Call],?_,by simpa using hJ⟩
   simp
   simpa [oblP] using B5
 · rintro st h m R hk s45 ⟨m5,m6,m0,e0,e5,e6,acc,B,hJ⟩ _ hX
   simp at hk
   rw [List.drop_eq_nil_of_le (by omega)] at hJ
   simp at hJ
   subst hJ
   refine rC_cut [1,2,3,17,18,19] (fun s=>s 46 = .bool false) (by simp [hk,s45]) ?_
   intro st1 hk1 s46
   simp at hk1
   refine rC_stop s46 ?_
   refine hX _ _ _ _ ?_
   simp
   refine hK _ _ _ (by simp [hk1,hk]) m0 e0 ?_
   rw [hk1.2.2.1]; exact B
end
theorem k_PreObligations (p:DProgram) (hp:wProgram p≤1048576):Holds Tryz.prog 38 [.agg (rAProgram p)] (fun x=>x = .us 4 ((preOb p).map rUObligation)):=by
 have hTl:=preOb_len p hp
 have hel:=edgesOf_len p hp
 refine holds_of_run Tryz.func38 a38_ok rfl (by simp [a38]) ?_
 simp [a38,po0,po1,po2,rAProgram]
 refine call_view (k_EdgesOf p hp) (by simp [rAProgram]) ?_
 rintro _ rfl
 simp
 intro _
 unfold preOb at hTl ⊢
 generalize hT:(edgesOf p).flatMap (preOb1 p)=T at *
 refine rL_forO [1,17,18] 19 (edgesOf p).length (fun i s h m=>0<m∧h 0=some ⟨true,2,[rAProgram p]⟩∧∃ acc,AccV 0 4 (acc.map rUObligation) (s 3) h m∧acc++((edgesOf p).drop i).flatMap (preOb1 p)=T) (by unfold LIM; omega) (by simp) ⟨by simp,by simp [rAProgram],[],.inl (by simp),by simpa using hT⟩ ?_ ?_
 · rintro i st h m R hi hg hk s19 hw' ⟨m0,e0,acc,B,hJ⟩ hR _ _
   simp at hk
   have hpo:=edge_ok hi
   rw [List.drop_eq_getElem_cons hi,List.flatMap_cons] at hJ
   obtain ⟨x,y,hx,hy,he,hf,ht0⟩:=edgesOf_at hi
   rw [←List.append_assoc] at hJ
   generalize hrest:List.flatMap (preOb1 p) (List.drop (i+1) (edgesOf p))=rest at hJ
   have hal:=congrArg List.length hJ
   simp only [List.length_append] at hal
   refine rC_cut [1,3,17,18,19] (fun s=>s 20 = .bool true) (by simp [hk,s19,hi]) ?_
   intro st1 hk1 s20
   simp at hk1
   refine rC_pass s20 (rC_seqI (rC_blkI ?_))
   have fr:∀ id,id<m→¬id=m∧¬id=m+1∧¬id=m+1+1:=by intro id _; omega
   have hedge:(preOb1 p (edgesOf p)[i])=((preAt p ⟨x,y⟩).map fun l=>oblP (mdAt p ⟨x,y⟩) l (y:Int)):=by rw [he]; rfl
   rw [hedge] at hJ hal
   have hpa:preAt p ⟨x,y⟩=((findFn p.Functions ((p.Rules[x]).Calls[y]).Func).getD fn0).Pre:=by unfold preAt; rw [ht0]
   have hgl:(preAt p ⟨x,y⟩).length≤1048576:=by
     rw [hpa]
     cases hfn:findFn p.Functions ((p.Rules[x]).Calls[y]).Func with
     | none=>simp [fn0]
     | some g=>have:=(fn_in hpo hfn).2.2.2; simp only [Option.getD_some]; omega
   have hmsz:=mdAt_sz hpo (k:=y) hx
   refine rC_cutH [1,2,3,17,18,19] (fun s h2 n2=>n2=m+1∧s 5 = .ptr m 0 0∧h2 m=some ⟨true,2,[rAEdge ⟨x,y⟩]⟩∧∀ id,id<m→h2 id=h id) ?_ ?_
   · simp [hk1,hk,s19,hi,he]
     exact fun id hid=>by simp [fr id hid]
   rintro st2 h2 n2 hk2 ⟨rfl,s5,em,hfr2⟩
   simp at hk2
   have c0:=hfr2 0 m0
   rw [e0] at c0
   have x1:st2 1 = .ptr 0 0 0:=by simp [hk2,hk1,hk]
   refine rC_cutH [1,2,3,5,17,18,19] (fun s h3 n3=>n3=m+1+1∧s 6 = .ptr (m+1) 0 0∧h3 (m+1)=some ⟨true,6,[rAModel (mdAt p ⟨x,y⟩)]⟩∧h3 m=some ⟨true,2,[rAEdge ⟨x,y⟩]⟩∧∀ id,id<m→h3 id=h id) ?_ ?_
   · simp [x1,c0,s5,em,rAEdge]
     refine call_view (k_ModelOf p hp x) (by simp [rAProgram]) ?_
     rintro _ rfl
     have hmd:(modelP p x).getD model0=mdAt p ⟨x,y⟩:=rfl
     unfold optModel
     rw [hmd]
     generalize mdAt p ⟨x,y⟩=md
     simp
     refine ⟨by simp [em,rAEdge],fun id hid=>by simp [fr id hid,hfr2 id hid]⟩
   rintro st3 h3 n3 hk3 ⟨rfl,s6,e6,e5,hfr3⟩
   simp at hk3
   have c0':=hfr3 0 m0
   rw [e0] at c0'
   refine rC_cut [1,2,3,5,6,17,18,19] (fun s=>s 9 = .str ((p.Rules[x]).Calls[y]).Func) ?_ ?_
   · simp [hk3,x1,c0',s5,e5]
     first|refine callD_of (k_ends p hx hy) (by first|(simp [rAProgram];done)|rfl) ?_|refine call_of (k_ends p hx hy) (by first|(simp [rAProgram];done)|rfl) ?_
     rintro r rfl
     simp [hk3,s5]
   intro st4 hk4 s9
   simp at hk4
   refine rC_cutH [1,2,3,5,6,17,18,19] (fun s h5 n5=>n5=m+1+1+1∧s 10 = .ptr (m+1+1) 0 0∧h5 (m+1+1)=some ⟨true,4,[rAFunction ((findFn p.Functions ((p.Rules[x]).Calls[y]).Func).getD fn0)]⟩∧∀ id,id<m+1+1→h5 id=h3 id) ?_ ?_
   · simp [hk4,hk3,x1,c0',s9]
     refine call_view (k_FindFunction p ((p.Rules[x]).Calls[y]).Func hp) (by simp [rAProgram]) ?_
     rintro _ rfl
     unfold optFn
     generalize (findFn p.Functions ((p.Rules[x]).Calls[y]).Func).getD fn0=g
     simp
     intro id hid
     have:¬id=m+1+1:=by omega
     simp [this]
   rintro st5 h5 n5 hk5 ⟨rfl,s10,e10,hfr5⟩
   simp at hk5
   refine poi_run (md:=mdAt p ⟨x,y⟩) (e:=⟨x,y⟩) (g:=(findFn p.Functions ((p.Rules[x]).Calls[y]).Func).getD fn0) (acc0:=acc) (T:=acc++(preAt p ⟨x,y⟩).map fun l=>oblP (mdAt p ⟨x,y⟩) l (y:Int)) (k5:=m) (k6:=m+1) (k10:=m+1+1) (pr:=[rAProgram p]) (by simp [hk5,hk4,hk3,x1]) (by simp [hk5,hk4,hk3,s5]) (by simp [hk5,hk4,s6]) s10 (by omega) (by omega) (by omega) (by rw [hfr5 0 (by omega),c0']) (by rw [hfr5 m (by omega),e5]) (by rw [hfr5 (m+1) (by omega),e6]) e10 ?_ (by omega) (by rw [hpa]) (by simp only [List.length_append]; omega) (by rw [←hpa]; exact hgl) ?_
   · have:st5 3=st 3:=by simp [hk5,hk4,hk3,hk2,hk1]
     rw [this]
     exact B.keep (by omega) fun id _ hid _=>by rw [hfr5 id (by omega),hfr3 id hid]
   intro st6 h6 n6 hk6 hn6 e06 B6
   simp at hk6
   simp [hk6,hk5,hk4,hk3,hk2,hk1,s19,hw']
   refine hR _ _ _ (by simp [hk6,hk5,hk4,hk3,hk2,hk1,hk]) (by simp) ⟨by omega,e06,_,?_,by rw [hrest]; exact hJ⟩
   simp only [upd_n (show ¬3=19 by omega),upd_n (show ¬3=72 by omega)]
   exact B6
 · rintro st h m R hk s19 ⟨m0,e0,acc,B,hJ⟩ _ hX
   simp at hk
   rw [List.drop_eq_nil_of_le (by omega)] at hJ
   simp at hJ
   subst hJ
   refine rC_cut [3] (fun s=>s 20 = .bool false) (by simp [hk,s19]) ?_
   intro st1 hk1 s20
   simp at hk1
   refine rC_stop s20 ?_
   refine hX _ _ _ _ ?_
   obtain ⟨h2,d1,_⟩:=B.dt
   simp [po3,hk1,-dt,-dtl,d1]
end Go.Proofs.YtilcageplifbgaaGreat

namespace Go.Proofs.YtilcageplifbgaaGreat
set_option linter.all false
open Go Go.RowKit Go.Proofs
def qo0:AC:=(.reg [⟨some 1,.boxv (.t 0),no⟩,⟨some 2,.mv (.k (.nil 4)),no⟩])
def qo1:AC:=(.reg [⟨some 13,.bsl 4 [],no⟩,⟨some 3,.mv (.t 13),no⟩])
def qo2:AC:=(.reg [⟨some 14,.ld true 2 (.t 1),no⟩,⟨some 15,.call (.k (.fn (.func 111) [] [])) [.t 14],no⟩,⟨some 4,.mv (.t 15),no⟩])
def qo31:AC:=(.draw (.op ⟨some 23,.ld true 2 (.t 1),no⟩ (.op ⟨some 24,.mv (.t 4),no⟩ (.op ⟨some 25,.mv (.t 5),no⟩ (.op ⟨some 26,.ixa 2 (.t 24) (.t 25),no⟩ (.op ⟨some 27,.fld 0 (.t 26),no⟩ (.op ⟨some 28,.ld false 1 (.t 27),no⟩ (.both (.op ⟨some 29,.call (.k (.fn (.func 32) [] [])) [.t 23,.t 28],no⟩ (.op ⟨some 22,.mv (.t 29),no⟩ (.op ⟨some 30,.ext (.t 22) 0,no⟩ (.op ⟨some 31,.ext (.t 22) 1,no⟩ (.op ⟨some 6,.box [(.int .i64 0),(.nil 2),(.nil 2),(.nil 1),(.int .i64 0),(.nil 1)],no⟩ (.hop ⟨no,.st 6 (.t 6) (.t 30),no⟩ [] (.op ⟨some 7,.mv (.t 31),no⟩ .fin))))))) (.op ⟨some 6,.box [(.int .i64 0),(.nil 2),(.nil 2),(.nil 1),(.int .i64 0),(.nil 1)],no⟩ (.op ⟨some 29,.call (.k (.fn (.func 32) [] [])) [.t 23,.t 28],no⟩ (.op ⟨some 22,.mv (.t 29),no⟩ (.op ⟨some 30,.ext (.t 22) 0,no⟩ (.op ⟨some 31,.ext (.t 22) 1,no⟩ (.hop ⟨no,.st 6 (.t 6) (.t 30),no⟩ [] (.op ⟨some 7,.mv (.t 31),no⟩ .fin)))))))))))))))
def qo32:AC:=(.draw (.op ⟨some 33,.ld true 2 (.t 1),no⟩ (.op ⟨some 34,.ld true 2 (.t 1),no⟩ (.op ⟨some 35,.mv (.t 4),no⟩ (.op ⟨some 36,.mv (.t 5),no⟩ (.op ⟨some 37,.ixa 2 (.t 35) (.t 36),no⟩ (.op ⟨some 38,.ld true 2 (.t 37),no⟩ (.both (.op ⟨some 39,.call (.k (.fn (.func 112) [] [])) [.t 34,.t 38],no⟩ (.both (.op ⟨some 40,.call (.k (.fn (.func 57) [] [])) [.t 33,.t 39],no⟩ (.op ⟨some 32,.mv (.t 40),no⟩ (.op ⟨some 41,.ext (.t 32) 0,no⟩ (.op ⟨some 42,.ext (.t 32) 1,no⟩ (.op ⟨some 8,.box [(.str []),(.nil 1),(.bool false),(.nil 2)],no⟩ (.hop ⟨no,.st 4 (.t 8) (.t 41),no⟩ [] (.op ⟨some 9,.mv (.t 42),no⟩ .fin))))))) (.op ⟨some 8,.box [(.str []),(.nil 1),(.bool false),(.nil 2)],no⟩ (.op ⟨some 40,.call (.k (.fn (.func 57) [] [])) [.t 33,.t 39],no⟩ (.op ⟨some 32,.mv (.t 40),no⟩ (.op ⟨some 41,.ext (.t 32) 0,no⟩ (.op ⟨some 42,.ext (.t 32) 1,no⟩ (.hop ⟨no,.st 4 (.t 8) (.t 41),no⟩ [] (.op ⟨some 9,.mv (.t 42),no⟩ .fin))))))))) (.op ⟨some 8,.box [(.str []),(.nil 1),(.bool false),(.nil 2)],no⟩ (.op ⟨some 39,.call (.k (.fn (.func 112) [] [])) [.t 34,.t 38],no⟩ (.op ⟨some 40,.call (.k (.fn (.func 57) [] [])) [.t 33,.t 39],no⟩ (.op ⟨some 32,.mv (.t 40),no⟩ (.op ⟨some 41,.ext (.t 32) 0,no⟩ (.op ⟨some 42,.ext (.t 32) 1,no⟩ (.hop ⟨no,.st 4 (.t 8) (.t 41),no⟩ [] (.op ⟨some 9,.mv (.t 42),no⟩ .fin))))))))))))))))
def qo33:AC:=(.draw (.op ⟨some 51,.ld true 6 (.t 6),no⟩ (.op ⟨some 52,.fld 3 (.t 8),no⟩ (.op ⟨some 53,.ld false 1 (.t 52),no⟩ (.op ⟨some 54,.mv (.t 10),no⟩ (.op ⟨some 55,.ixa 2 (.t 53) (.t 54),no⟩ (.op ⟨some 56,.ld true 2 (.t 55),no⟩ (.op ⟨some 57,.mv (.t 4),no⟩ (.op ⟨some 58,.mv (.t 5),no⟩ (.op ⟨some 59,.ixa 2 (.t 57) (.t 58),no⟩ (.op ⟨some 60,.fld 1 (.t 59),no⟩ (.op ⟨some 61,.ld false 1 (.t 60),no⟩ (.both (.op ⟨some 62,.call (.k (.fn (.func 113) [] [])) [.t 51,.t 56,.t 61],no⟩ (.op ⟨some 50,.mv (.t 62),no⟩ (.op ⟨some 63,.ext (.t 50) 0,no⟩ (.op ⟨some 64,.ext (.t 50) 1,no⟩ (.op ⟨some 11,.box [(.int .i64 0),(.nil 1)],no⟩ (.hop ⟨no,.st 2 (.t 11) (.t 63),no⟩ [] (.op ⟨some 12,.mv (.t 64),no⟩ .fin))))))) (.op ⟨some 11,.box [(.int .i64 0),(.nil 1)],no⟩ (.op ⟨some 62,.call (.k (.fn (.func 113) [] [])) [.t 51,.t 56,.t 61],no⟩ (.op ⟨some 50,.mv (.t 62),no⟩ (.op ⟨some 63,.ext (.t 50) 0,no⟩ (.op ⟨some 64,.ext (.t 50) 1,no⟩ (.hop ⟨no,.st 2 (.t 11) (.t 63),no⟩ [] (.op ⟨some 12,.mv (.t 64),no⟩ .fin))))))))))))))))))))
def qo34:AC:=(.draw (.op ⟨some 71,.mv (.t 3),no⟩ (.op ⟨some 72,.fld 0 (.t 6),no⟩ (.op ⟨some 73,.ld true 2 (.t 72),no⟩ (.op ⟨some 75,.ld true 2 (.t 11),no⟩ (.op ⟨some 74,.call (.k (.fn (.func 115) [] [])) [.t 73],no⟩ (.op ⟨some 76,.build [(.int .i64 0),(.nil 2),(.int .i64 0),(.nil 1)] [(0,(2,(.t 74))),(2,(2,(.t 75)))],no⟩ (.hop ⟨some 77,.bsl 4 [.t 76],no⟩ [] (.hop ⟨some 78,.app 64 4 (.t 71) (.t 77),no⟩ [] (.hop ⟨some 3,.mv (.t 78),no⟩ [] .fin))))))))))
def qoi:AC:=(.seq  (.reg [⟨some 10,.mv (.k (.int .i64 0)),no⟩]) (.blk 2 (.loop (.seq (.seq  (.reg [⟨some 43,.mv (.t 10),no⟩,⟨some 44,.fld 3 (.t 8),no⟩,⟨some 45,.ld false 1 (.t 44),no⟩,⟨some 46,.len false (.t 45),no⟩,⟨some 47,.bin .lss (.t 43) (.t 46),no⟩]) (.cond (.t 47) .skip (.exit 2))) (.seq (.blk 3 (.seq qo33 (.seq (.seq  (.reg [⟨some 65,.mv (.t 12),no⟩,⟨some 66,.un .not (.t 65),no⟩]) (.cond (.t 66)  (.reg [⟨some 67,.fld 0 (.t 6),no⟩,⟨some 68,.fld 0 (.t 67),no⟩,⟨some 69,.ld false 1 (.t 68),no⟩,⟨some 70,.call (.k (.fn (.func 114) [] [])) [(.k (.int .i64 (-1))),.t 69],no⟩,⟨no,.st 2 (.t 11) (.t 70),no⟩]) .skip)) qo34)))  (.reg [⟨some 48,.mv (.t 10),no⟩,⟨some 49,.bin .add (.t 48) (.k (.int .i64 1)),no⟩,⟨some 10,.mv (.t 49),no⟩]))))))
def qo3:AC:=(.seq  (.reg [⟨some 5,.mv (.k (.int .i64 0)),no⟩]) (.blk 0 (.loop (.seq (.seq  (.reg [⟨some 16,.mv (.t 5),no⟩,⟨some 17,.mv (.t 4),no⟩,⟨some 18,.len false (.t 17),no⟩,⟨some 19,.bin .lss (.t 16) (.t 18),no⟩]) (.cond (.t 19) .skip (.exit 0))) (.seq (.blk 1 (.seq qo31 (.seq qo32 qoi)))  (.reg [⟨some 20,.mv (.t 5),no⟩,⟨some 21,.bin .add (.t 20) (.k (.int .i64 1)),no⟩,⟨some 5,.mv (.t 21),no⟩]))))))
def qo4:AC:=(.reg [⟨some 79,.mv (.t 3),no⟩,⟨some 2,.mv (.t 79),no⟩])
def a37:AFn:=⟨80,[.t 2],(.seq qo0 (.seq qo1 (.seq qo2 (.seq qo3 (.seq qo4 .ret)))))⟩
theorem a37_ok:compFn Tryz.prog Tryz.f37=some a37:=by kernel_rfl
set_option maxRecDepth 20000
set_option maxHeartbeats 2000000
section
variable {ks:List Kt} {s:Env} {h h':Heap} {n:Nat} {Q:Fin}
theorem qo34_run {md:DModel} {t:DLin} {acc:List DObligation} {v:AV} {k6 k11:Nat} (s3:s 3=v) (s6:s 6 = .ptr k6 0 0) (s11:s 11 = .ptr k11 0 0) (e6:h k6=some ⟨true,6,[rAModel md]⟩) (L:LinBox t k11 h n) (B:AccV 0 4 (acc.map rUObligation) v h n) (hw:wLinS md.System.Rows≤1048576) (hl:acc.length≤3000000)
   (hK:∀ s' h' n',(∀ j∈[1,2,4,5,6,8,10],s' j=s j)→n≤n'→(∀ id z rows,id<n→h id=some ⟨true,z,rows⟩→h' id=h id)→AccV 0 4 ((acc++[(⟨md.System,t⟩:DObligation)]).map rUObligation) (s' 3) h' n'→kont Tryz.prog ks .normal s' h' n' Q):rC Tryz.prog qo34 ks s h n Q:=by
 obtain ⟨q,hkn,hqn,hkb,hqb⟩:=L
 have ne:¬q=n∧¬n=q∧¬n=n+1∧¬n+1=n∧¬n+1=q∧¬q=n+1:=by omega
 have fr:∀ id,id<n→¬id=n∧¬id=n+1∧¬id=n+1+1:=by intro id _; omega
 have hqv:∀ l,v ≠ .ref q 0 l:=fun l e=>by have:=(B.lt e).2.2.1; rw [hqb] at this; simp at this
 simp [qo34,s3,s6,s11,e6,hkb]
 first|refine callD_of (ks_l6Copy md.System hw) (by first|(simp;done)|rfl) ?_|refine call_of (ks_l6Copy md.System hw) (by first|(simp;done)|rfl) ?_
 rintro r rfl
 simp [rUSystem,hqb,ne]
 refine appV_acc (rows:=acc.map rUObligation) (rows2:=[[.int .i64 md.System.N,.us 2 (md.System.Rows.map rULin),.int .i64 t.Const,.us 1 (intsR t.Coeffs)]]) (B.keep (n':=n+1+1) (by omega) fun id _ hid e => ?_) (by simp) (fun l e=>by have:=(B.lt e).2.1; omega) (by omega) (by simp; unfold LIM; omega) ?_
 · have:¬id=q:=fun e'=>hqv _ (by rw [←e']; exact e)
   simp [fr id hid,this]
 intro h1 f1 f2
 simp
 refine hK _ _ _ (by simp) (by omega) ?_ ?_
 · intro id z rows h1' h3'
   have:¬id=q:=by rintro rfl; rw [hqb] at h3'; simp at h3'
   rw [f2 id (by omega) (by omega) fun l e=>B.not_box h3' e]; simp [fr id h1',this]
 · simp
   exact .inr ⟨n+2,by omega,by omega,by simp,by simp [f1,rUObligation]⟩
theorem qo31_run {p:DProgram} (hp:wProgram p≤1048576) {i x y:Nat} (hi:i<(edgesOf p).length) (he:(edgesOf p)[i]=⟨x,y⟩) (s1:s 1 = .ptr 0 0 0) (s4:s 4 = .sl 2 ((edgesOf p).map rAEdge)) (s5:s 5 = .int .i64 i) (e0:h 0=some ⟨true,2,[rAProgram p]⟩)
   (hK:∀ s' h' ,(∀ j∈[1,2,3,4,5],s' j=s j)→s' 6 = .ptr n 0 0→h' n=some ⟨true,6,[rAModel (mdAt p ⟨x,y⟩)]⟩→(∀ id,id<n→h' id=h id)→kont Tryz.prog ks .normal s' h' (n+1) Q):rC Tryz.prog qo31 ks s h n Q:=by
 have hmd:(modelP p x).getD model0=mdAt p ⟨x,y⟩:=rfl
 simp [qo31,s1,s4,s5,e0,hi,he,rAEdge]
 have fr:∀ id,id<n→¬id=n:=by intro id _; omega
 constructor
 · refine callD_view (ks_ModelOf p hp x) (by simp) ?_
   rintro _ rfl
   unfold optModel
   rw [hmd]
   generalize mdAt p ⟨x,y⟩=md at *
   simp
   exact hK _ _ (by simp) (by simp) (by simp) fun id hid=>by simp [fr id hid]
 · refine callD_view (ks_ModelOf p hp x) (by simp) ?_
   rintro _ rfl
   unfold optModel
   rw [hmd]
   generalize mdAt p ⟨x,y⟩=md at *
   simp
   exact hK _ _ (by simp) (by simp) (by simp) fun id hid=>by simp [fr id hid]
theorem qo32_run {p:DProgram} (hp:wProgram p≤1048576) {i x y:Nat} (hi:i<(edgesOf p).length) (he:(edgesOf p)[i]=⟨x,y⟩) (hx:x<p.Rules.length) (hy:y<(p.Rules[x]).Calls.length) (s1:s 1 = .ptr 0 0 0) (s4:s 4 = .sl 2 ((edgesOf p).map rAEdge)) (s5:s 5 = .int .i64 i) (e0:h 0=some ⟨true,2,[rAProgram p]⟩)
   (hK:∀ s' h' ,(∀ j∈[1,2,3,4,5,6],s' j=s j)→s' 8 = .ptr n 0 0→h' n=some ⟨true,4,[rAFunction ((findFn p.Functions ((p.Rules[x]).Calls[y]).Func).getD fn0)]⟩→(∀ id,id<n→h' id=h id)→kont Tryz.prog ks .normal s' h' (n+1) Q):rC Tryz.prog qo32 ks s h n Q:=by
 have fr:∀ id,id<n→¬id=n:=by intro id _; omega
 simp [qo32,s1,s4,s5,e0,hi,he]
 constructor
 · skip
   first|refine callD_of (ks_l13To p hx hy) (by first|(simp [rAProgram];done)|rfl) ?_|refine call_of (ks_l13To p hx hy) (by first|(simp [rAProgram];done)|rfl) ?_
   rintro r rfl
   generalize ((p.Rules[x]).Calls[y]).Func=nm at *
   simp
   constructor
   · refine callD_view (ks_FindFunction p nm hp) (by simp) ?_
     rintro _ rfl
     unfold optFn
     generalize (findFn p.Functions nm).getD fn0=g at *
     simp
     exact hK _ _ (by simp) (by simp) (by simp) fun id hid=>by simp [fr id hid]
   · refine callD_view (ks_FindFunction p nm hp) (by simp) ?_
     rintro _ rfl
     unfold optFn
     generalize (findFn p.Functions nm).getD fn0=g at *
     simp
     exact hK _ _ (by simp) (by simp) (by simp) fun id hid=>by simp [fr id hid]
 · skip
   first|refine callD_of (ks_l13To p hx hy) (by first|(simp [rAProgram];done)|rfl) ?_|refine call_of (ks_l13To p hx hy) (by first|(simp [rAProgram];done)|rfl) ?_
   rintro r rfl
   generalize ((p.Rules[x]).Calls[y]).Func=nm at *
   simp
   · refine callD_view (ks_FindFunction p nm hp) (by simp) ?_
     rintro _ rfl
     unfold optFn
     generalize (findFn p.Functions nm).getD fn0=g at *
     simp
     exact hK _ _ (by simp) (by simp) (by simp) fun id hid=>by simp [fr id hid]
theorem qo33_run {md:DModel} {l:DLin} {g:DFunction} {el:List DEdge} {i j k6 k8:Nat} (hi:i<el.length) (hj:j<g.Pre.length) (s4:s 4 = .sl 2 (el.map rAEdge)) (s5:s 5 = .int .i64 i) (s6:s 6 = .ptr k6 0 0) (s8:s 8 = .ptr k8 0 0) (s10:s 10 = .int .i64 j) (e6:h k6=some ⟨true,6,[rAModel md]⟩) (e8:h k8=some ⟨true,4,[rAFunction g]⟩) (hl:g.Pre[j]=l)
   (hK:∀ s' h' n',(∀ j∈[1,2,3,4,5,6,8,10],s' j=s j)→n≤n'→s' 12 = .bool (transp md l (el[i]).Call).isSome→(∃ k,s' 11 = .ptr k 0 0∧n≤k∧LinBox ((transp md l (el[i]).Call).getD lin0) k h' n')→(∀ id,id<n→h' id=h id)→kont Tryz.prog ks .normal s' h' n' Q):rC Tryz.prog qo33 ks s h n Q:=by
 have fr:∀ id,id<n→¬id=n∧¬id=n+1:=by intro id _; omega
 have ne:¬n=n+1∧¬n+1=n:=by omega
 subst hl
 simp [qo33,s4,s5,s6,s8,s10,e6,e8,hi,hj,rAEdge,rAFunction]
 generalize el[i]=e at *
 constructor
 · skip
   first|refine callD_of (ks_Transport md (g.Pre[j]'hj) e.Call) (by first|(simp;done)|rfl) ?_|refine call_of (ks_Transport md (g.Pre[j]'hj) e.Call) (by first|(simp;done)|rfl) ?_
   rintro r rfl
   rw [optLin_eq]
   generalize (transp md g.Pre[j] e.Call).getD lin0=t at *
   generalize (transp md g.Pre[j] e.Call).isSome=b at *
   simp [rULin,ne]
   exact hK _ _ _ (by simp) (by omega) (by simp) ⟨n+1,by simp,by omega,n,by omega,by omega,by simp,by simp [ne]⟩ fun id hid=>by simp [fr id hid]
 · skip
   first|refine callD_of (ks_Transport md (g.Pre[j]'hj) e.Call) (by first|(simp;done)|rfl) ?_|refine call_of (ks_Transport md (g.Pre[j]'hj) e.Call) (by first|(simp;done)|rfl) ?_
   rintro r rfl
   rw [optLin_eq]
   generalize (transp md g.Pre[j] e.Call).getD lin0=t at *
   generalize (transp md g.Pre[j] e.Call).isSome=b at *
   simp [rULin,ne]
   exact hK _ _ _ (by simp) (by omega) (by simp) ⟨n,by simp,by omega,n+1,by omega,by omega,by simp,by simp [ne]⟩ fun id hid=>by simp [fr id hid]
theorem qoi_run {md:DModel} {el:List DEdge} {i:Nat} {g:DFunction} {acc0 T:List DObligation} {k6 k8:Nat} {pr:List (List AV)} (hi:i<el.length) (s1:s 1 = .ptr 0 0 0) (s4:s 4 = .sl 2 (el.map rAEdge)) (s5:s 5 = .int .i64 i) (s6:s 6 = .ptr k6 0 0) (s8:s 8 = .ptr k8 0 0) (hk6:k6<n) (hk8:k8<n) (hk0:0<n) (e0:h 0=some ⟨true,2,pr⟩) (e6:h k6=some ⟨true,6,[rAModel md]⟩) (e8:h k8=some ⟨true,4,[rAFunction g]⟩)
   (B:AccV 0 4 (acc0.map rUObligation) (s 3) h n) (hw:wLinS md.System.Rows≤1048576) (hT:acc0++g.Pre.map (fun l=>oblP md l (el[i]).Call)=T) (hTl:T.length≤2097152) (hgl:g.Pre.length≤1048576)
   (hK:∀ s' h' n',(∀ j∈[1,2,4,5],s' j=s j)→0<n'→h' 0=some ⟨true,2,pr⟩→AccV 0 4 (T.map rUObligation) (s' 3) h' n'→kont Tryz.prog ks .normal s' h' n' Q):rC Tryz.prog qoi ks s h n Q:=by
 simp [qoi]
 refine rL_forO [1,2,4,5,6,8] 10 g.Pre.length (fun j s h m=>k6<m∧k8<m∧0<m∧h 0=some ⟨true,2,pr⟩∧h k8=some ⟨true,4,[rAFunction g]⟩∧h k6=some ⟨true,6,[rAModel md]⟩∧∃ acc,AccV 0 4 (acc.map rUObligation) (s 3) h m∧acc++(g.Pre.drop j).map (fun l=>oblP md l (el[i]).Call)=T) (by unfold LIM; omega) (by simp)
   ⟨hk6,hk8,hk0,e0,e8,e6,acc0,by simpa using B,by simpa using hT⟩ ?_ ?_
 · rintro j st h m R hj hg hk s10 hw' ⟨m6,m8,m0,e0,e8,e6,acc,B,hJ⟩ hR _ _
   simp at hk
   rw [List.drop_eq_getElem_cons hj,List.map_cons] at hJ
   have hal:=congrArg List.length hJ
   simp at hal
   refine rC_seqI (rC_cut [1,2,3,4,5,6,8,10] (fun s=>s 47 = .bool true) (by simp [hk,s8,s10,e8,rAFunction,hj]) ?_)
   intro st1 hk1 s47
   simp at hk1
   refine rC_pass1 s47 (rC_seqI (rC_blkI ?_))
   generalize hl:g.Pre[j]=l at *
   refine rC_seqI (qo33_run (md:=md) (l:=l) (g:=g) (el:=el) (i:=i) (j:=j) (k6:=k6) (k8:=k8) hi hj (by simp [hk1,hk,s4]) (by simp [hk1,hk,s5]) (by simp [hk1,hk,s6]) (by simp [hk1,hk,s8]) (by simp [hk1,s10]) e6 e8 hl ?_)
   rintro st3 h3 n3 hk3 hn3 s12 ⟨k11,s11,hk11,q,y1,y2,y3,y4⟩ hfr3
   simp at hk3
   generalize (el[i]).Call=cl at *
   have z6:st3 6 = .ptr k6 0 0:=by simp [hk3,hk1,hk,s6]
   have d6:=hfr3 k6 m6
   rw [e6] at d6
   refine kontI (rC_cutH [1,2,3,4,5,6,8,10,11] (fun s h4 n4=>n3≤n4∧LinBox ((transp md l cl).getD (constLin (-1) md.System.N)) k11 h4 n4∧∀ id,id<m→h4 id=h id) ?_ ?_)
   · cases ht:transp md l cl with
     | some t=>
       rw [ht] at s12 y3 y4
       simp [s12]
       exact ⟨⟨q,y1,y2,y3,y4⟩,hfr3⟩
     | none=>
       rw [ht] at s12
       simp only [Option.isSome_none] at s12
       have nk:¬k11=n3∧¬n3=k11:=by omega
       simp [s12,z6,d6,rAModel]
       first|refine callD_of (ks_ConstLin (-1) md.System.N) (by first|(simp;done)|rfl) ?_|refine call_of (ks_ConstLin (-1) md.System.N) (by first|(simp;done)|rfl) ?_
       rintro r rfl
       generalize constLin (-1) md.System.N=t
       simp [rULin,s11,nk,y3]
       refine ⟨⟨n3,by omega,by omega,by simp,by simp [nk]⟩,fun id hid => ?_⟩
       have:¬id=k11∧¬id=n3:=by omega
       simp [this,hfr3 id hid]
   rintro st4 h4 n4 hk4 ⟨hn4,L4,hfr4⟩
   simp at hk4
   have B4:AccV 0 4 (acc.map rUObligation) (st 3) h4 n4:=B.keep (by omega) fun id _ hid _=>hfr4 id hid
   refine qo34_run (md:=md) (t:=(transp md l cl).getD (constLin (-1) md.System.N)) (acc:=acc) (v:=st 3) (k6:=k6) (k11:=k11) (by simp [hk4,hk3,hk1]) (by simp [hk4,z6]) (by simp [hk4,s11]) (by rw [hfr4 k6 m6,e6]) L4 B4 hw (by omega) ?_
   intro st5 h5 n5 hk5 hn5 bx5 B5
   simp at hk5
   simp [hk5,hk4,hk3,hk1,s10,hw']
   have f0:=hfr4 0 m0
   have f8:=hfr4 k8 m8
   have f6:=hfr4 k6 m6
   rw [e0] at f0
   rw [e8] at f8
   rw [e6] at f6
   refine hR _ _ _ (by simp [hk5,hk4,hk3,hk1,hk]) (by simp) ⟨by omega,by omega,by omega,by rw [bx5 0 _ _ (by omega) f0,f0],by rw [bx5 k8 _ _ (by omega) f8,f8],by rw [bx5 k6 _ _ (by omega) f6,f6],acc++[oblP md l cl],?_,by simpa using hJ⟩
   simp
   simpa [oblP] using B5
 · rintro st h m R hk s10 ⟨m6,m8,m0,e0,e8,e6,acc,B,hJ⟩ _ hX
   simp at hk
   rw [List.drop_eq_nil_of_le (by omega)] at hJ
   simp at hJ
   subst hJ
   refine rC_seqI (rC_cut [1,2,3,4,5] (fun s=>s 47 = .bool false) (by simp [hk,s8,s10,e8,rAFunction]) ?_)
   intro st1 hk1 s47
   simp at hk1
   refine rC_stop1 s47 ?_
   refine hX _ _ _ _ ?_
   simp
   refine hK _ _ _ (by simp [hk1,hk]) m0 e0 ?_
   rw [hk1.2.2.1]; exact B
end
theorem ks_PreObligations (p:DProgram) (hp:wProgram p≤1048576):Holds Tryz.prog 37 [.agg (rAProgram p)] (fun x=>x = .us 4 ((preOb p).map rUObligation)):=by
 have hTl:=preOb_len p hp
 have hel:=edgesOf_len p hp
 refine holds_of_run Tryz.func37 a37_ok rfl (by simp [a37]) ?_
 simp [a37,qo0,qo1,qo2,rAProgram]
 refine call_view (ks_EdgesOf p hp) (by simp [rAProgram]) ?_
 rintro _ rfl
 simp [qo3]
 unfold preOb at hTl ⊢
 generalize hT:(edgesOf p).flatMap (preOb1 p)=T at *
 refine rL_forO [1,4] 5 (edgesOf p).length (fun i s h m=>0<m∧h 0=some ⟨true,2,[rAProgram p]⟩∧∃ acc,AccV 0 4 (acc.map rUObligation) (s 3) h m∧acc++((edgesOf p).drop i).flatMap (preOb1 p)=T) (by unfold LIM; omega) (by simp) ⟨by simp,by simp [rAProgram],[],.inr ⟨1,by omega,by omega,by simp,by simp⟩,by simpa using hT⟩ ?_ ?_
 · rintro i st h m R hi hg hk s5 hw' ⟨m0,e0,acc,B,hJ⟩ hR _ _
   simp at hk
   have hpo:=edge_ok hi
   rw [List.drop_eq_getElem_cons hi,List.flatMap_cons] at hJ
   obtain ⟨x,y,hx,hy,he,hf,ht0⟩:=edgesOf_at hi
   rw [←List.append_assoc] at hJ
   generalize hrest:List.flatMap (preOb1 p) (List.drop (i+1) (edgesOf p))=rest at hJ
   have hal:=congrArg List.length hJ
   simp only [List.length_append] at hal
   refine rC_seqI (rC_cut [1,3,4,5] (fun s=>s 19 = .bool true) (by simp [hk,s5,hi]) ?_)
   intro st1 hk1 s19
   simp at hk1
   refine rC_pass1 s19 (rC_seqI (rC_blkI ?_))
   have hedge:(preOb1 p (edgesOf p)[i])=((preAt p ⟨x,y⟩).map fun l=>oblP (mdAt p ⟨x,y⟩) l (y:Int)):=by rw [he]; rfl
   rw [hedge] at hJ hal
   have hpa:preAt p ⟨x,y⟩=((findFn p.Functions ((p.Rules[x]).Calls[y]).Func).getD fn0).Pre:=by unfold preAt; rw [ht0]
   have hgl:(preAt p ⟨x,y⟩).length≤1048576:=by
     rw [hpa]
     cases hfn:findFn p.Functions ((p.Rules[x]).Calls[y]).Func with
     | none=>simp [fn0]
     | some g=>have:=(fn_in hpo hfn).2.2.2; simp only [Option.getD_some]; omega
   have hmsz:=mdAt_sz hpo (k:=y) hx
   have hcall:((edgesOf p)[i]).Call=(y:Int):=by rw [he]
   refine rC_seqI (qo31_run hp hi he (by simp [hk1,hk]) (by simp [hk1,hk]) (by simp [hk1,s5]) e0 ?_)
   intro st2 h2 hk2 s6 em hfr2
   simp at hk2
   refine kontI (rC_seqI (qo32_run hp hi he hx hy (by simp [hk2,hk1,hk]) (by simp [hk2,hk1,hk]) (by simp [hk2,hk1,s5]) (by rw [hfr2 0 m0,e0]) ?_))
   intro st3 h3 hk3 s8 e8 hfr3
   simp at hk3
   refine kontI (qoi_run (md:=mdAt p ⟨x,y⟩) (el:=edgesOf p) (i:=i) (g:=(findFn p.Functions ((p.Rules[x]).Calls[y]).Func).getD fn0) (acc0:=acc) (T:=acc++(preAt p ⟨x,y⟩).map fun l=>oblP (mdAt p ⟨x,y⟩) l (y:Int)) (k6:=m) (k8:=m+1) (pr:=[rAProgram p]) hi (by simp [hk3,hk2,hk1,hk]) (by simp [hk3,hk2,hk1,hk]) (by simp [hk3,hk2,hk1,s5]) (by simp [hk3,s6]) s8 (by omega) (by omega) (by omega) (by rw [hfr3 0 (by omega),hfr2 0 m0,e0]) (by rw [hfr3 m (by omega),em]) e8 ?_ (by omega) (by rw [hpa,hcall]) (by simp only [List.length_append]; omega) (by rw [←hpa]; exact hgl) ?_)
   · have:st3 3=st 3:=by simp [hk3,hk2,hk1]
     rw [this]
     exact B.keep (by omega) fun id _ hid _=>by rw [hfr3 id (by omega),hfr2 id hid]
   intro st6 h6 n6 hk6 hn6 e06 B6
   simp at hk6
   simp [hk6,hk3,hk2,hk1,s5,hw']
   refine hR _ _ _ (by simp [hk6,hk3,hk2,hk1,hk]) (by simp) ⟨by omega,e06,_,?_,by rw [hrest]; exact hJ⟩
   simp only [upd_n (show ¬3=5 by omega),upd_n (show ¬3=20 by omega),upd_n (show ¬3=21 by omega)]
   exact B6
 · rintro st h m R hk s5 ⟨m0,e0,acc,B,hJ⟩ _ hX
   simp at hk
   rw [List.drop_eq_nil_of_le (by omega)] at hJ
   simp at hJ
   subst hJ
   refine rC_seqI (rC_cut [3] (fun s=>s 19 = .bool false) (by simp [hk,s5]) ?_)
   intro st1 hk1 s19
   simp at hk1
   refine rC_stop1 s19 ?_
   refine hX _ _ _ _ ?_
   obtain ⟨h2,d1,_⟩:=B.dt
   simp [qo4,hk1,-dt,-dtl,d1]
end Go.Proofs.YtilcageplifbgaaGreat

namespace Go.Proofs.YtilcageplifbgaaGreat
set_option linter.all false
open Go Go.RowKit Go.Proofs
theorem edges16 {p:DProgram} : (edgesOf p).length≤16:=by
 unfold edgesOf
 split
 · rename_i hp
   have hf:p.Rules.length≤8∧∀ r∈p.Rules,r.Calls.length≤2:=by
     refine ⟨?_,fun r hr => ?_⟩
     · unfold progOk at hp
       simp only [Bool.and_eq_true,decide_eq_true_eq] at hp
       exact hp.1.2
     · obtain ⟨f,_,R⟩:=rule_in hp hr
       exact R.ncalls
   have key:∀ (l:List DRule) (i:Nat),(∀ r∈l,r.Calls.length≤2)→(edgesFrom i l).length≤2*l.length:=by
     intro l
     induction l with
     | nil=>intro i _; simp [edgesFrom]
     | cons r l ih=>
       intro i h
       have h1:=ih (i+1) fun x hx=>h x (List.mem_cons_of_mem _ hx)
       have h2:=h r List.mem_cons_self
       have h3:(ruleEdges i r).length=r.Calls.length:=by simp [ruleEdges]
       simp only [edgesFrom,List.length_append,List.length_cons,h3]
       omega
   have:=key p.Rules 0 hf.2
   unfold edgesL
   omega
 · simp
theorem oblT_len (md:DModel) (l:DLin) (c:Int) (n:Int):((transp md l c).getD (constLin (-1) n)).Coeffs.length≤8:=by
 cases h:transp md l c with
 | none=>exact constLin_l8 _ _
 | some t=>
   have:=transp_c md l c
   rw [h] at this
   unfold cLin at this
   rw [cIntS_len] at this
   exact this
theorem mdAt_rows {p:DProgram} (h1:progOk p=true) {i k:Nat} (hi:i<p.Rules.length):(mdAt p ⟨i,k⟩).System.Rows.length≤10∧∀ l∈(mdAt p ⟨i,k⟩).System.Rows,l.Coeffs.length≤8:=by
 obtain ⟨f,hf,R⟩:=rule_in h1 (List.getElem_mem hi)
 have hg:p.Rules.getD (i:Int).toNat rule0=p.Rules[i]:=by simp [hi]
 have hin:inR (i:Int) 0 ((p.Rules.length:Int) - 1)=true:=by simp [inR]; omega
 have hfa:fnAt p p.Rules[i]=f:=by unfold fnAt; rw [hf]; rfl
 have:mdAt p ⟨i,k⟩=modelS p.Rules[i] f:=by unfold mdAt modelP; simp only [h1,hin,hg,hfa,Bool.and_self,if_true,Option.getD_some]
 rw [this]
 obtain ⟨q1,q2,_⟩:=modelS_sz h1 R
 exact ⟨q1,q2⟩
theorem cOb_le {b:Nat} : ∀ (l:List DObligation),(∀ o∈l,crObligation o≤b)→cObligationS l≤b*l.length:=by
 intro l
 induction l with
 | nil=>intro _; simp [cObligationS,cL]
 | cons e l ih=>
   intro h
   have h1:=ih fun x hx=>h x (List.mem_cons_of_mem _ hx)
   have h2:=h e List.mem_cons_self
   unfold cObligationS at *
   simp only [cL,List.length_cons,Nat.mul_add,Nat.mul_one]
   omega
theorem preOb_small (p:DProgram):(preOb p).length≤32∧∀ o∈preOb p,crObligation o≤100:=by
 have h1:=edges16 (p:=p)
 have h2:∀ l:List DEdge,(∀ e∈l,(preOb1 p e).length≤2)→(l.flatMap (preOb1 p)).length≤2*l.length:=by
   intro l
   induction l with
   | nil=>intro _; simp
   | cons e l ih=>
     intro h
     have g1:=ih fun x hx=>h x (List.mem_cons_of_mem _ hx)
     have g2:=h e List.mem_cons_self
     simp only [List.flatMap_cons,List.length_append,List.length_cons]
     omega
 have hok:∀ e∈edgesOf p,progOk p=true:=fun e he=>by
   unfold edgesOf at he
   split at he
   · assumption
   · cases he
 refine ⟨?_,?_⟩
 · have h3:=h2 (edgesOf p) fun e he=>by
     simp only [preOb1,List.length_map,preAt]
     cases hf:findFn p.Functions (toE p e) with
     | none=>simp [fn0]
     | some g=>exact (fn_in (hok e he) hf).2.2.2
   unfold preOb; omega
 · intro o ho
   unfold preOb at ho
   obtain ⟨e,he,ho⟩:=List.mem_flatMap.1 ho
   have hpo:=hok e he
   obtain ⟨l,_,rfl⟩:=List.mem_map.1 ho
   have he':e∈edgesL p:=by unfold edgesOf at he; rw [hpo] at he; exact he
   obtain ⟨i,k,hi,hk,rfl⟩:=edgesL_mem he'
   obtain ⟨q1,q2⟩:=mdAt_rows hpo (k:=k) hi
   have q3:=oblT_len (mdAt p ⟨i,k⟩) l (k:Int) (mdAt p ⟨i,k⟩).System.N
   have q4:=cLinS_le _ q2
   show crObligation (oblP (mdAt p ⟨i,k⟩) l (k:Int))≤100
   unfold crObligation oblP
   simp only [cIntS_len]
   omega
theorem preOb_c (p:DProgram):cObligationS (preOb p)≤8388608:=by
 obtain ⟨h1,h2⟩:=preOb_small p
 have:=cOb_le _ h2
 have:100*(preOb p).length≤3200:=by omega
 omega
end Go.Proofs.YtilcageplifbgaaGreat

namespace Go.Proofs.YtilcageplifbgaaGreat
set_option linter.all false
open Go Go.RowKit Go.Proofs
def a161:AFn:=
⟨20,[.t 2],(.seq
 (.reg [⟨some 2,.mv (.k (.str [])),no⟩]) (.seq (.seq
 (.reg [⟨some 4,.mv (.t 0),no⟩,⟨some 5,.bin .leq (.t 4) (.k (.int .i64 0)),no⟩]) (.cond (.t 5) (.seq
 (.reg [⟨some 2,.mv (.k (.str [109,48])),no⟩]) .ret) .skip)) (.seq
 (.reg [⟨some 3,.mv (.k (.str [])),no⟩]) (.seq (.blk 0 (.loop (.seq (.seq
 (.reg [⟨some 6,.mv (.t 0),no⟩,⟨some 7,.bin .gtr (.t 6) (.k (.int .i64 0)),no⟩]) (.cond (.t 7) .skip (.exit 0))) (.blk 1 (.seq
 (.reg [⟨some 8,.mv (.t 0),no⟩,⟨some 9,.bin .rem (.t 8) (.k (.int .i64 10)),no⟩,⟨some 10,.bin .add (.k (.int .i64 48)) (.t 9),no⟩,⟨some 11,.cvi .u8 (.t 10),no⟩,⟨some 12,.bsl 1 [.t 11],no⟩,⟨some 13,.cvb (.t 12),no⟩,⟨some 14,.mv (.t 3),no⟩,⟨some 15,.bin .add (.t 13) (.t 14),no⟩,⟨some 3,.mv (.t 15),no⟩])
 (.reg [⟨some 16,.mv (.t 0),no⟩,⟨some 17,.bin .quo (.t 16) (.k (.int .i64 10)),no⟩,⟨some 0,.mv (.t 17),no⟩])))))) (.seq
 (.reg [⟨some 18,.mv (.t 3),no⟩,⟨some 19,.bin .add (.k (.str [109])) (.t 18),no⟩,⟨some 2,.mv (.t 19),no⟩]) .ret)))))⟩
theorem a161_ok:compFn Tryz.prog Tryz.f161=some a161:=by kernel_rfl
theorem dig_pos {n:Nat} (h:¬n=0):dig n=dig (n / 10)++[UInt8.ofNat (48+n % 10)]:=by
 rw [dig]; simp [h]
theorem dig_zero:dig 0=[]:=by rw [dig]; simp
set_option maxRecDepth 20000 in
theorem k_markText (k:Int) (h0:0≤k∧k≤4611686018427387904):Holds Tryz.prog 161 [i64 k] (fun r=>r = .str (mtx k)):=by
 refine holds_of_run Tryz.func161 a161_ok rfl (by simp [a161]) ?_
 simp [a161]
 refine ⟨fun h1=>by simp [h1,mtx],fun h1 => ?_⟩
 refine rL_of (fun j s h n=>∃ (l:List UInt8),s 0=i64 j∧s 3 = .str l∧dig j++l=dig k.toNat∧l.length≤20∧j*10 ^ (l.length)≤4611686018427387904) k.toNat ⟨[],by simp; rw [Int.max_eq_left h0.1],by simp,by simp,by simp,by simp; omega⟩ ?_
 rintro j s h n ⟨l,s0,s3,hd,hl,hb⟩
 by_cases hj:j=0
 · subst hj
   rw [dig_zero,List.nil_append] at hd
   simp [s0,s3]
   refine ⟨by unfold LIM; omega,?_⟩
   rw [hd,mtx,if_neg (by omega)]
 · have hj':0<j:=by omega
   simp [s0,s3,hj']
   have hj2:j≤4611686018427387904:=Nat.le_trans (Nat.le_mul_of_pos_right j (Nat.pow_pos (by decide))) hb
   have e1:((j:Int)).tmod 10=((j % 10:Nat):Int):=rfl
   rw [e1,wrap64 (by omega)]
   have e2:IntKind.u8.wrap (48+((j % 10:Nat):Int))=((48+j % 10:Nat):Int):=by
     have:48+j % 10<256:=by omega
     unfold IntKind.wrap
     simp [IntKind.bits,IntKind.signed]
     omega
   rw [e2]
   simp [bytesOf]
   have hl20:l.length<20:=by
     apply Classical.byContradiction
     intro hc
     have h20:l.length=20:=by omega
     rw [h20] at hb
     omega
   refine ⟨by unfold LIM; omega,j / 10,by omega,by rw [wrap64 (by omega)]; omega,?_,by omega,?_⟩
   · have e3:UInt8.ofNat (48+(j:Int) % 10).toNat=UInt8.ofNat (48+j % 10):=by congr 1
     rw [←hd,dig_pos hj]; simp [e3]
   · rw [Nat.add_comm,Nat.pow_succ]
     refine Nat.le_trans ?_ hb
     rw [Nat.mul_comm (10 ^ l.length) 10,←Nat.mul_assoc]
     exact Nat.mul_le_mul_right _ (by omega)
end Go.Proofs.YtilcageplifbgaaGreat

/- The size of a model. -/
import Derived.Test.YtoclolkigjbcgaaGreatXHM3
import Derived.Test.YtoclolkigjbcgaaGreatXRE
import Derived.Test.YtoclolkigjbcgaaGreatXC13
import Derived.Test.YtoclolkigjbcgaaGreatXT1
import Derived.Test.YtoclolkigjbcgaaGreatProg
namespace Go.Proofs.YtoclolkigjbcgaaGreat
set_option maxRecDepth 40000
set_option maxHeartbeats 4000000
open Go Go.RowKit Go.Proofs
set_option linter.all false
theorem Ju0:∀ (l:List DLin),(∀ x∈l,x.Coeffs.length≤8)→J6m l≤9*l.length:=by
 intro l
 induction l with
 | nil=>intro _;simp [J6m,cL]
 | cons e l ih=>
  intro h
  have h1:=ih fun x hx=>h x (List.mem_cons_of_mem _ hx)
  have h2:=h e List.mem_cons_self
  unfold J6m at *
  simp only [cL,Jfq,J4z,List.length_cons]
  omega
theorem Jz3 {a b o:DLin}{k:Int}(h:J0j a k b=some o):o.Coeffs.length≤8:=by
 have:=J9u (a:=a) (k:=k) (b:=b)
 unfold J8m at this
 rw [h] at this;exact this
theorem Jqf {E:SEnv}{n:Nat} : ∀ {ts:List DTerm}{o r:DLin},o.Coeffs.length≤8→goS E n ts o=some r→r.Coeffs.length≤8
 | [],o,r,ho,h=>by cases h;exact ho
 | t::ts,o,r,ho,h=>by
  simp only [goS] at h
  split at h
  ·cases h
  ·rename_i o' ha
   exact Jqf (Jz3 ha) h
theorem Jok {E:SEnv}{n:Nat}{s:DSum} : (Jel E n s).Coeffs.length≤8:=by
 unfold Jel Jwy
 cases h:goS E n s.Terms (J09 s.Const n) with
 | none=>simp [J1g]
 | some r=>exact Jqf (J7g _ _) h
theorem Jna {E:SEnv}{n:Nat}{a:DArg} : (Jhe E n a).Coeffs.length≤8:=by
 unfold Jhe Jzz
 split
 ·split
  ·exact J7g _ _
  ·exact J9u
 ·exact Jok
theorem K04 {E:SEnv}{x:Str}{n:Int}(h:∀ e∈E,e.2.Coeffs.length≤8):(J38 (J09 0 n) E x).Coeffs.length≤8:=by
 by_cases hx:x∈J1d E
 ·exact Joo h hx
 ·have:E.find? (fun e=>e.1==x)=Option.none:=by
   rw [List.find?_eq_none]
   intro e he hb
   exact hx (List.mem_map.2 ⟨e,he,by simpa using hb⟩)
  unfold J38
  rw [this];exact J7g _ _
structure MOk (ms:MS):Prop where
 E:∀ e∈ms.E,e.2.Coeffs.length≤8
 R:∀ l∈ms.rows,l.Coeffs.length≤8
 P:∀ l∈ms.pars,l.Coeffs.length≤8
theorem Jcd {α:Type}{l:List α}{x:α}{p:α→Prop}(h:∀ y∈l,p y) (hx:p x):∀ y∈l++[x],p y:=by
 intro y hy
 rcases List.mem_append.1 hy with hy|hy
 ·exact h y hy
 ·simp at hy;subst hy;exact hx
theorem MOk.par {n:Nat}(hn:n≤8) {ms:MS}(M:MOk ms) (x:Str):MOk (J9a n ms x):=
 ⟨Jcd M.E (J6u n hn),M.R,Jcd M.P (J6u n hn)⟩
theorem MOk.pat {n:Nat}(hn:n≤8) {ms:MS}(M:MOk ms) (q:DPattern):MOk (J62 n ms q):=by
 have hl:(Jku n ms q).Coeffs.length≤8:=by unfold Jku J56;exact K04 M.E
 unfold J62
 split
 ·refine ⟨?_,Jcd M.R hl,M.P⟩
  intro e he
  rcases List.mem_append.1 he with he|he
  ·exact M.E e he
  ·simp at he
   rcases he with rfl|rfl
   ·exact J6u n hn
   ·exact hl
 ·exact ⟨M.E,Jcd M.R J9u,M.P⟩
theorem MOk.call {n:Nat}(hn:n≤8) {ms:MS}(M:MOk ms) (c:DCall):MOk (J69 n ms c):=by
 refine ⟨Jcd M.E (J6u n hn),?_,M.P⟩
 intro l hl
 rcases List.mem_append.1 hl with hl|hl
 ·exact M.R l hl
 ·split at hl
  ·simp at hl;subst hl;exact J6u n hn
  ·cases hl
theorem MOk.fold {α:Type}{g:MS→α→MS}(hg:∀ ms x,MOk ms→MOk (g ms x)):∀ {l:List α}{ms:MS},MOk ms→MOk (l.foldl g ms)
 | [],_,h=>h
 | x::l,ms,h=>MOk.fold hg (l:=l) (hg ms x h)
theorem Jk1 {n:Nat} : ∀ {xs:List DCall}{a:MS},(xs.foldl (J69 n) a).rows.length≤a.rows.length+xs.length∧(xs.foldl (J69 n) a).pars=a.pars∧(xs.foldl (J69 n) a).args.length=a.args.length+xs.length ∧
 ∀ l∈(xs.foldl (J69 n) a).args,l∈a.args∨(∃ c∈xs,l.length=c.Args.length∧∀ y∈l,y.Coeffs.length≤8)
 | [],a=>by simp
 | x::xs,a=>by
  obtain ⟨h1,h2,h3,h4⟩:=Jk1 (n:=n) (xs:=xs) (a:=J69 n a x)
  simp only [List.foldl_cons,List.length_cons]
  have g1:(J69 n a x).rows.length≤a.rows.length+1:=by unfold J69;simp only [List.length_append];split <;> simp
  have g3:(J69 n a x).args.length=a.args.length+1:=by simp [J69]
  refine ⟨by omega,by rw [h2];rfl,by omega,?_⟩
  intro l hl
  rcases h4 l hl with h|⟨c,hc,h⟩
  ·rcases List.mem_append.1 h with h|h
   ·exact .inl h
   ·simp at h
    refine .inr ⟨x,List.mem_cons_self,by rw [h];simp,?_⟩
    intro y hy
    rw [h] at hy
    obtain ⟨z,_,rfl⟩:=List.mem_map.1 hy
    exact Jna
  ·exact .inr ⟨c,List.mem_cons_of_mem _ hc,h⟩
theorem Jl4 {n:Nat} : ∀ {xs:List Str}{a:MS},(xs.foldl (J9a n) a).pars.length=a.pars.length+xs.length
 | [],a=>by simp
 | x::xs,a=>by
  have h1:=Jl4 (n:=n) (xs:=xs) (a:=J9a n a x)
  simp only [List.foldl_cons,List.length_cons]
  rw [h1];simp [J9a];omega
theorem Jjv {n:Nat} : ∀ {xs:List DPattern}{a:MS},(xs.foldl (J62 n) a).pars=a.pars
 | [],a=>rfl
 | x::xs,a=>by
  simp only [List.foldl_cons]
  rw [Jjv];unfold J62;split <;> rfl
theorem Jju {p:DProgram}{r:DRule}{f:DFunction}(hp:J2s p=true) (R:RuleIn p r f):(J66 r f).System.Rows.length≤10∧(∀ l∈(J66 r f).System.Rows,l.Coeffs.length≤8)∧(J66 r f).Params.length≤2∧(∀ l∈(J66 r f).Params,l.Coeffs.length≤8) ∧
 (J66 r f).Args.length≤2∧(∀ l∈(J66 r f).Args,l.length≤2∧∀ y∈l,y.Coeffs.length≤8)∧(J66 r f).Result.Coeffs.length≤8∧(J66 r f).System.N≤6∧0≤(J66 r f).System.N:=by
 have hn:J19 r f≤8:=by have:=R.size;omega
 have hpar:=R.par
 have hnp:=R.npats
 have hnc:=R.ncalls
 have hng:=R.nguards
 have hpre:=R.npre
 have hdl:(Jec f (J19 r f)).length≤4∧∀ l∈Jec f (J19 r f),l.Coeffs.length≤8:=by
  have hlr:=Jbg (n:=J19 r f) (xs:=f.Params) (i:=0)
  refine ⟨by unfold Jec;simp;omega,?_⟩
  intro l hl
  rcases List.mem_append.1 hl with hl|hl
  ·have:∀ (xs:List Str) (i:Nat),∀ l∈Je3 (J19 r f) xs i,l.Coeffs.length≤8:=by
    intro xs
    induction xs with
    | nil=>intro i l hl;cases hl
    | cons x xs ih=>
     intro i l hl
     rcases List.mem_append.1 hl with hl|hl
     ·split at hl
      ·simp at hl;subst hl;exact J6u _ hn
      ·cases hl
     ·exact ih _ l hl
   exact this _ _ l hl
  ·obtain ⟨x,hx,rfl⟩:=List.mem_map.1 hl
   have h1:=(J1z (R.pre x hx)).1
   have h2:f.Params.length≤J19 r f:=by unfold J19;omega
   simp [J4g];omega
 have m1:MOk (ss1 r f):=MOk.fold (fun ms x h=>h.par hn x) ⟨by simp,hdl.2,by simp⟩
 have m1':MOk (Jcl (ss1 r f) f.Params.length):=⟨m1.E,m1.R,m1.P⟩
 have m3:MOk (ss3 r f):=MOk.fold (fun ms x h=>h.pat hn x) m1'
 have m4:MOk (J0y (Jcl (ss3 r f) (f.Params.length+J3p r.Patterns)) (r.Guards.map (Jel (ss3 r f).E (J19 r f)))):=by
  refine ⟨m3.E,?_,m3.P⟩
  intro l hl
  rcases List.mem_append.1 hl with hl|hl
  ·exact m3.R l hl
  ·obtain ⟨g,_,rfl⟩:=List.mem_map.1 hl
   exact Jok
 have m5:MOk (ss5 r f):=MOk.fold (fun ms x h=>h.call hn x) m4
 obtain ⟨c1,c2,c3,c4⟩:=Jk1 (n:=J19 r f) (xs:=r.Calls) (a:=J0y (Jcl (ss3 r f) (f.Params.length+J3p r.Patterns)) (r.Guards.map (Jel (ss3 r f).E (J19 r f))))
 have d3:=Jc2 (n:=J19 r f) (xs:=r.Patterns) (a:=Jcl (ss1 r f) f.Params.length)
 have d1:=Jf8 (n:=J19 r f) (xs:=f.Params) (a:=⟨[],0,Jec f (J19 r f),[],[]⟩)
 have e1:=Jl4 (n:=J19 r f) (xs:=f.Params) (a:=⟨[],0,Jec f (J19 r f),[],[]⟩)
 have e3:=Jjv (n:=J19 r f) (xs:=r.Patterns) (a:=Jcl (ss1 r f) f.Params.length)
 have hrows1:(ss1 r f).rows=Jec f (J19 r f):=d1.2.2.2.1
 have hargs3:(ss3 r f).args=[]:=by
  have:(ss3 r f).args=(Jcl (ss1 r f) f.Params.length).args:=d3.2.2.1
  rw [this];exact d1.2.2.1
 have hr3:(ss3 r f).rows.length=(Jec f (J19 r f)).length+r.Patterns.length:=by
  have:(ss3 r f).rows.length=(Jcl (ss1 r f) f.Params.length).rows.length+r.Patterns.length:=d3.1
  rw [this];show (ss1 r f).rows.length+_=_;rw [hrows1]
 have hp5:(ss5 r f).pars.length=f.Params.length:=by
  have h1:(ss5 r f).pars=(ss3 r f).pars:=c2
  have h2:(ss3 r f).pars=(ss1 r f).pars:=e3
  rw [h1,h2]
  have:(ss1 r f).pars.length=f.Params.length:=by rw [show (ss1 r f)=f.Params.foldl (J9a (J19 r f)) ⟨[],0,Jec f (J19 r f),[],[]⟩ from rfl,e1];simp
  exact this
 refine ⟨?_,m5.R,?_,m5.P,?_,?_,Jna,?_,?_⟩
 ·have:(ss5 r f).rows.length≤(ss3 r f).rows.length+r.Guards.length+r.Calls.length:=by
   refine Nat.le_trans c1 ?_
   show ((ss3 r f).rows++_).length+_≤_
   simp
  show (ss5 r f).rows.length≤10
  omega
 ·show (ss5 r f).pars.length≤2;omega
 ·have:(ss5 r f).args.length=(ss3 r f).args.length+r.Calls.length:=c3
  rw [hargs3] at this
  simp at this
  show (ss5 r f).args.length≤2;omega
 ·intro l hl
  rcases c4 l hl with h|⟨c,hc,h1,h2⟩
  ·have:l∈(ss3 r f).args:=h
   rw [hargs3] at this;cases this
  ·exact ⟨by rw [h1];exact (R.args hp c hc).1,h2⟩
 ·show ((J19 r f:Nat):Int)≤6;have:=R.size;omega
 ·show (0:Int)≤((J19 r f:Nat):Int);omega
def Jca (i:Nat) (k:Nat):DEdge:=⟨i,k⟩
def J3j (i:Nat) (r:DRule):List DEdge:=(List.range r.Calls.length).map (Jca i)
def J2j:Nat→List DRule→List DEdge
 | _,[]=>[]
 | i,r::l=>J3j i r++J2j (i+1) l
def J6z (p:DProgram):List DEdge:=J2j 0 p.Rules
def J0h (p:DProgram):List DEdge:=if J2s p then J6z p else []
def Jcu (p:DProgram) (e:DEdge):Str:=match p.Rules[e.Rule.toNat]? with|some r=>r.Func|Option.none=>[]
def toE (p:DProgram) (e:DEdge):Str:=match p.Rules[e.Rule.toNat]? with|some r=>(match r.Calls[e.Call.toNat]? with|some c=>c.Func|Option.none=>[])|Option.none=>[]
def J57 (p:DProgram):List (Str×Str):=(J6z p).map fun e=>(Jcu p e,toE p e)
def J10 (p:DProgram):List Str:=p.Functions.map (·.Name)
theorem Jbp {e:DEdge} : ∀ {l:List DRule}{i:Nat},e∈J2j i l→∃ j k:Nat,∃ hj:j<l.length,k<(l[j]).Calls.length∧e=⟨((i+j:Nat):Int),k⟩
 | [],_,h=>by cases h
 | r::l,i,h=>by
  simp only [J2j] at h
  rcases List.mem_append.1 h with h|h
  ·simp only [J3j,List.mem_map,List.mem_range,Jca] at h
   obtain ⟨k,hk,rfl⟩:=h
   exact ⟨0,k,by simp,by simpa using hk,by simp⟩
  ·obtain ⟨j,k,hj,hk,rfl⟩:=Jbp h
   exact ⟨j+1,k,by simpa using hj,by simpa using hk,by congr 1;omega⟩
theorem Ja2 {p:DProgram}{e:DEdge}(h:e∈J6z p):∃ i k:Nat,∃ hi:i<p.Rules.length,k<(p.Rules[i]).Calls.length∧e=⟨(i:Int),(k:Int)⟩:=by
 obtain ⟨j,k,hj,hk,rfl⟩:=Jbp h
 exact ⟨j,k,hj,hk,by congr 1;omega⟩
theorem Ja4 {p:DProgram}{i k:Nat}(hi:i<p.Rules.length):Jcu p ⟨(i:Int),(k:Int)⟩=(p.Rules[i]).Func:=by
 simp only [Jcu,Int.toNat_natCast,List.getElem?_eq_getElem hi]
theorem Jks {p:DProgram}{i k:Nat}(hi:i<p.Rules.length) (hk:k<(p.Rules[i]).Calls.length):toE p ⟨(i:Int),(k:Int)⟩=((p.Rules[i]).Calls[k]).Func:=by
 simp only [toE,Int.toNat_natCast,List.getElem?_eq_getElem hi,List.getElem?_eq_getElem hk]
theorem Jbx:∀ (l:List DRule) (i:Nat),(J2j i l).length≤wL J4v l
 | [],_=>Nat.zero_le _
 | r::l,i=>by
  have h1:=Jbx l (i+1)
  have h2:=J2b J64 r.Calls
  have h3:(J3j i r).length=r.Calls.length:=by simp [J3j]
  have h4:r.Calls.length≤J4v r:=by unfold J4v J8d;omega
  simp only [J2j,List.length_append,h3]
  unfold wL at h1 ⊢
  simp only [List.map_cons,List.sum_cons,List.length_cons]
  omega
theorem Jae (p:DProgram) (hw:J0k p≤1048576):(J6z p).length≤1048576:=by
 have:=Jbx p.Rules 0
 unfold J0k J94 at hw
 unfold J6z
 omega
theorem Jex {l:List DFunction}{s:Str}(h:(J1o l s).isSome=true):s∈l.map (·.Name):=by
 unfold J1o at h
 rw [List.find?_isSome] at h
 obtain ⟨f,hf,hn⟩:=h
 exact List.mem_map.2 ⟨f,hf,by simpa using hn⟩
theorem Jf7:∀ {l met:List Str},J43 met l=true→l.Nodup∧∀ x∈l,x∉met
 | [],_,_=>⟨List.nodup_nil,fun _ h=>(by cases h)⟩
 | s::l,met,h=>by
  simp only [J43,Bool.and_eq_true,Bool.not_eq_true'] at h
  obtain ⟨h1,h2⟩:=Jf7 h.2
  have h3:=Jbl.1 h.1
  refine ⟨List.nodup_cons.2 ⟨fun hs=>h2 s hs (by simp),h1⟩,?_⟩
  intro x hx
  rcases List.mem_cons.1 hx with rfl|hx
  ·exact h3
  ·exact fun hm=>h2 x hx (List.mem_append_left _ hm)
theorem Jc4 {p:DProgram}{r:DRule} : ∀ {l:List DCall}{k:Nat},J2m p r k l=true→∀ c∈l,∃ s,J9k p c s=true
 | [],_,_,_,h=>by cases h
 | c::l,k,h,d,hd=>by
  simp only [J2m,Bool.and_eq_true] at h
  rcases List.mem_cons.1 hd with rfl|hd
  ·exact ⟨_,h.1⟩
  ·exact Jc4 h.2 d hd
theorem Jdb {p:DProgram}(h:J2s p=true):(J10 p).Nodup∧(∀ e∈J57 p,e.1∈J10 p∧e.2∈J10 p)∧p.Functions.length≤3∧p.Rules.length≤8:=by
 unfold J2s at h
 simp only [Bool.and_eq_true,decide_eq_true_eq,Ja1] at h
 obtain ⟨⟨⟨h1,h2⟩,h3⟩,h4⟩:=h
 have h1':p.Functions.length≤3:=by unfold inR at h1;simp at h1;omega
 refine ⟨(Jf7 h2.2).1,?_,h1',h3⟩
 intro e he
 obtain ⟨x,hx,rfl⟩:=List.mem_map.1 he
 obtain ⟨i,k,hi,hk,rfl⟩:=Ja2 hx
 have hr:=List.all_eq_true.1 h4 _ (List.getElem_mem hi)
 unfold J7u at hr
 simp only [Bool.and_eq_true,decide_eq_true_eq] at hr
 obtain ⟨⟨⟨⟨⟨⟨⟨g1,g2⟩,g3⟩,g4⟩,g5⟩,g6⟩,g7⟩,g8⟩:=hr
 rw [Ja4 hi,Jks hi hk]
 refine ⟨Jex g1,?_⟩
 obtain ⟨s,hs⟩:=Jc4 g6 _ (List.getElem_mem hk)
 unfold J9k at hs
 simp only [Bool.and_eq_true] at hs
 exact Jex hs.1.1.1
def J34 (p:DProgram) (name:Str):List Str:=if J2s p&&J2p (J10 p) name then J82 (J57 p) (J10 p) name else []
def Jh1 (p:DProgram) (name:Str):List Str:=(J34 p name).filter fun g=>J2p (J34 p g) name
theorem Jw3 {p:DProgram}{name:Str}(h:J2s p=true) (hn:name∈J10 p):Jh1 p name=Juc (J57 p) (J10 p) name:=by
 unfold Jh1 Juc
 rw [show J34 p name=J82 (J57 p) (J10 p) name by unfold J34;rw [h,J3d.2 hn];rfl]
 refine List.filter_congr fun g hg => ?_
 have hgn:g∈J10 p:=(List.mem_filter.1 hg).1
 rw [show J34 p g=J82 (J57 p) (J10 p) g by unfold J34;rw [h,J3d.2 hgn];rfl]
def Jav (p:DProgram) (e:DEdge):Bool:=J2p (J34 p (toE p e)) (Jcu p e)
def Jj1 (p:DProgram) (e:DEdge):Bool:=decide (e∈J0h p)&&Jav p e
def a151:AFn:= ⟨30,[.t 2],(.seq (.reg [Zo 1 (.boxv (.t 0)),Zo 2 (.mv (.k (.nil 2)))]) (.seq (.reg [Zo 3 (.mv (.k (.nil 2)))]) (.seq (.seq (.reg [Zf 7 1 1,Zl 8 false 1 7,Zo 9 (.len false (.t 8)),Zo 10 (.mv (.k (.int .i64 0)))]) (.blk 0 (.loop (.seq (.reg [Zo 11 (.bin .lss (.t 10) (.t 9))]) (.seq (.cond (.t 11) .skip (.exit 0)) (.seq (.blk 1 (.seq (.reg [Zv 12 10,Zo 13 (.ixa 7 (.t 8) (.t 10)),Zl 14 true 7 13,Zo 5 (.box [(.str []),(.nil 4),(.nil 2),(.nil 3),(.bool false),(.nil 2),(.str [])]),Zv 4 12,⟨no,.st 7 (.t 5) (.t 14),no⟩]) (.seq (.reg [Zf 15 3 5,Zl 16 false 1 15,Zo 17 (.len false (.t 16)),Zo 18 (.mv (.k (.int .i64 0)))]) (.blk 2 (.loop (.seq (.reg [Zo 19 (.bin .lss (.t 18) (.t 17))]) (.seq (.cond (.t 19) .skip (.exit 2)) (.seq (.blk 3 (.seq (.reg [Zv 20 18,Zv 6 20]) (.reg [Zv 21 3,Zv 22 4,Zv 23 6,Zo 24 (.build [(.int .i64 0),(.int .i64 0)] [(0,(1,(.t 22))),(1,(1,(.t 23)))]),Zo 25 (.bsl 2 [.t 24]),Zo 26 (.app 16 2 (.t 21) (.t 25)),Zv 3 26]))) (.reg [Zo 27 (.bin .add (.t 18) (.k (.int .i64 1))),Zv 18 27]))))))))) (.reg [Zo 28 (.bin .add (.t 10) (.k (.int .i64 1))),Zv 10 28]))))))) (.seq (.reg [Zv 29 3,Zv 2 29]) .ret))))⟩
theorem a151_ok:J06 Tryz.prog Tryz.f151=some a151:=by kernel_rfl
def a125:AFn:= ⟨8,[.t 2],(.seq (.reg [Zo 1 (.boxv (.t 0)),Zo 2 (.mv (.k (.nil 2)))]) (.seq (.seq (.reg [Zl 3 true 2 1,Zc 4 67 [.t 3],Zo 5 (.un .not (.t 4))]) (.cond (.t 5) (.seq (.reg [Zo 2 (.mv (.k (.nil 2)))]) .ret) .skip)) (.seq (.reg [Zl 6 true 2 1,Zc 7 151 [.t 6],Zv 2 7]) .ret)))⟩
theorem a125_ok:J06 Tryz.prog Tryz.f125=some a125:=by kernel_rfl
def a122:AFn:= ⟨36,[.t 2],(.seq (.reg [Zo 1 (.boxv (.t 0)),Zo 2 (.mv (.k (.nil 2)))]) (.seq (.reg [Zo 6 (.bsl 2 []),Zv 3 6]) (.seq (.seq (.reg [Zl 7 true 2 1,Zc 8 61 [.t 7],Zo 9 (.un .not (.t 8))]) (.cond (.t 9) (.seq (.reg [Zv 10 3,Zv 2 10]) .ret) .skip)) (.seq (.seq (.reg [Zo 4 (.mv (.k (.int .i64 0)))]) (.blk 0 (.loop (.seq (.seq (.reg [Zv 11 4,Zf 12 1 1,Zl 13 false 1 12,Zo 14 (.len false (.t 13)),Zo 15 (.bin .lss (.t 11) (.t 14))]) (.cond (.t 15) .skip (.exit 0))) (.seq (.blk 1 (.seq (.reg [Zo 5 (.mv (.k (.int .i64 0)))]) (.blk 2 (.loop (.seq (.seq (.reg [Zv 18 5,Zf 19 1 1,Zl 20 false 1 19,Zv 21 4,Zo 22 (.ixa 7 (.t 20) (.t 21)),Zf 23 3 22,Zl 24 false 1 23,Zo 25 (.len false (.t 24)),Zo 26 (.bin .lss (.t 18) (.t 25))]) (.cond (.t 26) .skip (.exit 2))) (.seq (.blk 3 (.reg [Zv 29 3,Zv 30 4,Zv 31 5,Zo 32 (.build [(.int .i64 0),(.int .i64 0)] [(0,(1,(.t 30))),(1,(1,(.t 31)))]),Zo 33 (.bsl 2 [.t 32]),Zo 34 (.app 16 2 (.t 29) (.t 33)),Zv 3 34])) (.reg [Zv 27 5,Zo 28 (.bin .add (.t 27) (.k (.int .i64 1))),Zv 5 28]))))))) (.reg [Zv 16 4,Zo 17 (.bin .add (.t 16) (.k (.int .i64 1))),Zv 4 17])))))) (.seq (.reg [Zv 35 3,Zv 2 35]) .ret)))))⟩
theorem a122_ok:J06 Tryz.prog Tryz.f122=some a122:=by kernel_rfl
def Acc (z:Nat) (rows:List (List AV)) (v:AV) (h:Heap) (n:Nat):Prop:=(rows=[]∧v = .nil z)∨∃ id,id<n∧v = .ref id 0 rows.length∧h id=some ⟨false,z,rows⟩
theorem Jap {l:List DRule}{i k:Nat}(hi:i<l.length):J2j k (l.drop i)=J3j k l[i]++J2j (k+1) (l.drop (i+1)):=by rw [List.drop_eq_getElem_cons hi];rfl
theorem Jat {r:DRule}{i j:Nat}(hj:j<r.Calls.length):(J3j i r).drop j=Jca i j::(J3j i r).drop (j+1):=by
 rw [List.drop_eq_getElem_cons (by simp [J3j,hj])]
 simp [J3j]
theorem Jc5 (i:Nat) (r:DRule):(J3j i r).length=r.Calls.length:=by simp [J3j]
theorem Jch (p:DProgram) (hp:J0k p≤1048576):Holds Tryz.prog 151 [.agg (J00 p)] (fun x=>x = .us 2 ((J6z p).map J1y)):=by
 have hTl:=Jae p hp
 refine J03 Tryz.func151 a151_ok rfl (by simp [a151]) ?_
 simp [a151,J00]
 intro hlr
 unfold J6z at *
 generalize hT:J2j 0 p.Rules=T at *
 refine J0l [8,9] 10 p.Rules.length (fun i s h n=>∃ acc:List DEdge,acc++J2j i (p.Rules.drop i)=T∧Acc 2 (acc.map J1y) (s 3) h n) hlr (by simp) ⟨[],by simpa using hT,.inl (by simp)⟩ ?_ ?_
 ·rintro i st h n R hi hg hk s10 hw ⟨acc,hJ,hA⟩ hR hret _
  simp at hk
  rw [Jap hi] at hJ
  refine J0i [3,8,9,10] (fun s=>s 11 = .bool true) (by simp [hk,s10,hi]) ?_
  intro st1 hk1 s11
  simp at hk1
  refine J3x s11 (J0b (J1h ?_))
  refine J1n [3,8,9,10] (fun s h' n'=>s 4 = .int .i64 i∧s 5 = .ptr n 0 0∧n'=n+1∧h' n=some ⟨true,7,[J0c p.Rules[i]]⟩∧Acc 2 (acc.map J1y) (s 3) h' n') ?_ ?_
  ·simp [hk,hk1,s10,hi,J0c]
   rcases hA with ⟨ha,hv⟩|⟨id,hid,hv,he⟩
   ·exact .inl ⟨ha,hv⟩
   ·have z0:¬id=n:=by omega
    exact .inr ⟨id,by omega,hv,by simp [he,z0]⟩
  rintro st2 h2 n2 hk2 ⟨s4,s5,rfl,en,hA⟩
  simp at hk2
  refine J0b ?_
  simp [hk,hk1,hk2,s5,en,J0c]
  intro hlc
  refine J0l [4,8,9,10,17] 18 (p.Rules[i]).Calls.length (fun j s h n=>∃ acc:List DEdge,acc++((J3j i p.Rules[i]).drop j++J2j (i+1) (p.Rules.drop (i+1)))=T∧Acc 2 (acc.map J1y) (s 3) h n) hlc (by simp) ⟨acc,by simpa using hJ,by simpa using hA⟩ ?_ ?_
  ·rintro j stj hj nj Rj hji hjg hkj s18 hwj ⟨accj,hJj,hAj⟩ hRj hretj _
   simp at hkj
   rw [Jat hji] at hJj
   have hal:=congrArg List.length hJj
   simp at hal
   rcases hAj with ⟨ha,hv⟩|⟨id,hid,hv,he⟩
   ·simp at ha
    subst ha
    simp [hkj,hk2,hk1,s4,s18,hji,hv,hwj]
    refine ⟨by unfold LIM;omega,?_⟩
    refine hRj _ _ _ (by simp [hkj]) (by simp) ⟨[Jca i j],by simpa using hJj,.inr ⟨nj+1,by omega,by simp,by simp [J1y,Jca]⟩⟩
   ·simp at hv
    have z0:¬id=nj:=by omega
    have z1:¬id=nj+1:=by omega
    have z2:¬nj+1=id:=by omega
    have z3:¬nj=id:=by omega
    simp [hkj,hk2,hk1,s4,s18,hji,hv,he,z0,z1,z2,z3,hwj]
    refine ⟨by unfold LIM;omega,?_⟩
    refine hRj _ _ _ (by simp [hkj]) (by simp) ⟨accj++[Jca i j],by simpa using hJj,.inr ⟨nj+1,by omega,by simp,by simp [J1y,Jca,List.take_of_length_le]⟩⟩
  rintro stj hj nj Rj hkj s18 ⟨accj,hJj,hAj⟩ hretj hXj
  simp at hkj
  rw [List.drop_eq_nil_of_le (by rw [Jc5];omega),List.nil_append] at hJj
  refine J0i [3,4,8,9,10,17] (fun s=>s 19 = .bool false) (by simp [hkj,s18]) ?_
  intro stk hkk s19
  simp at hkk
  refine J3s s19 ?_
  refine hXj _ _ _ _ ?_
  simp [hk,hk1,hk2,hkj,hkk,s10,hw]
  exact hR _ _ _ (by simp [hk,hk1,hk2,hkj,hkk]) (by simp) ⟨accj,hJj,by simpa [hkk] using hAj⟩
 rintro st h n R hk s10 ⟨acc,hJ,hA⟩ hret hX
 simp at hk
 rw [List.drop_eq_nil_of_le (by omega)] at hJ
 simp [J2j] at hJ
 subst hJ
 refine J0i [3] (fun s=>s 11 = .bool false) (by simp [hk,s10]) ?_
 intro st1 hk1 s11
 simp at hk1
 refine J3s s11 ?_
 refine hX _ _ _ _ ?_
 rcases hA with ⟨ha,hv⟩|⟨id,hid,hv,he⟩
 ·simp at ha
  simp [hk1,hv,ha]
 ·simp at hv
  simp [hk1,hv,he]
theorem J9i (p:DProgram) (hp:J0k p≤1048576):Holds Tryz.prog 125 [.agg (J00 p)] (fun x=>x = .us 2 ((J0h p).map J1y)):=by
 refine J03 Tryz.func125 a125_ok rfl (by simp [a125]) ?_
 simp [a125,J00]
 first|refine J01 (J2q p hp) (by first|simp [J00];done|rfl) ?_|refine J02 (J2q p hp) (by first|simp [J00];done|rfl) ?_
 rintro r rfl
 unfold J0h
 cases h1:J2s p
 ·simp
 simp
 first|refine J01 (Jch p hp) (by first|simp [J00];done|rfl) ?_|refine J02 (Jch p hp) (by first|simp [J00];done|rfl) ?_
 rintro r rfl
 simp
theorem J7b (p:DProgram) (hp:J0k p≤1048576):Holds Tryz.prog 122 [.agg (J00 p)] (fun x=>x = .us 2 ((J0h p).map J1y)):=by
 have hTl:=Jae p hp
 have hlr:p.Rules.length≤1048576:=by have:=J2b J4v p.Rules;unfold J0k J94 at hp;omega
 have hlc:∀ i,∀ hi:i<p.Rules.length,(p.Rules[i]).Calls.length≤1048576:=fun i hi=>by
  have h1:=Ja8 hp _ (List.getElem_mem hi)
  exact (Jb1 h1).2.2.2.2.1
 refine J03 Tryz.func122 a122_ok rfl (by simp [a122]) ?_
 simp [a122,J00]
 first|refine J01 (J3g p hp) (by first|simp [J00];done|rfl) ?_|refine J02 (J3g p hp) (by first|simp [J00];done|rfl) ?_
 rintro r rfl
 unfold J0h
 cases h1:J2s p
 ·simp
 simp
 unfold J6z at *
 generalize hT:J2j 0 p.Rules=T at *
 refine J0l [1] 4 p.Rules.length (fun i s h n=>0<n∧h 0=some ⟨true,2,[J00 p]⟩∧∃ (acc:List DEdge) (id:Nat),acc++J2j i (p.Rules.drop i)=T∧0<id∧id<n∧s 3 = .ref id 0 acc.length∧h id=some ⟨false,2,acc.map J1y⟩) (by unfold LIM;omega) (by simp) ⟨by simp,by simp [J00],[],1,by simpa using hT,by omega,by omega,by simp,by simp⟩ ?_ ?_
 ·rintro i st h n R hi hg hk s4 hw ⟨hn,e0,acc,id,hJ,hid0,hid,s3,eid⟩ hR hret _
  simp at hk
  rw [Jap hi] at hJ
  refine J0b (J0i [1,3,4] (fun s=>s 15 = .bool true) (by simp [hk,s4,hi,e0,J00]) ?_)
  intro st1 hk1 s15
  simp at hk1
  refine J25 s15 (J0b (J1h (J0b ?_)))
  simp [hk,hk1]
  refine J0l [1,4] 5 (p.Rules[i]).Calls.length (fun j s h n=>0<n∧h 0=some ⟨true,2,[J00 p]⟩∧∃ (acc:List DEdge) (id:Nat),acc++((J3j i p.Rules[i]).drop j++J2j (i+1) (p.Rules.drop (i+1)))=T∧0<id∧id<n∧s 3 = .ref id 0 acc.length∧h id=some ⟨false,2,acc.map J1y⟩) (by have:=hlc i hi;unfold LIM;omega) (by simp) ⟨hn,by simpa using e0,acc,id,by simpa using hJ,hid0,hid,by simp [hk1,s3],by simpa using eid⟩ ?_ ?_
  ·rintro j stj hj nj Rj hji hjg hkj s5 hwj ⟨hnj,e0j,accj,idj,hJj,hid0j,hidj,s3j,eidj⟩ hRj hretj _
   simp at hkj
   rw [Jat hji] at hJj
   have hal:=congrArg List.length hJj
   simp at hal
   have z0:¬idj=nj:=by omega
   have z1:¬idj=nj+1:=by omega
   have z2:¬nj+1=idj:=by omega
   have z3:¬nj=idj:=by omega
   have z4:¬0=idj:=by omega
   have z5:¬0=nj:=by omega
   have z6:¬0=nj+1:=by omega
   have z7:¬idj=0:=by omega
   have z8:¬nj=0:=by omega
   refine J0b (J0i [1,3,4,5] (fun s=>s 26 = .bool true) (by simp [hk,hkj,hk1,s4,s5,hi,hji,e0j,J00,J0c]) ?_)
   intro stk hkk s26
   simp at hkk
   refine J25 s26 ?_
   simp [hk,hkj,hk1,hkk,s4,s5,s3j,eidj,e0j,z0,z1,z2,z3,z4,z5,z6,z7,z8,hwj]
   refine ⟨by unfold LIM;omega,?_⟩
   exact hRj _ _ _ (by simp [hkj,hkk]) (by simp) ⟨by omega,by simp [e0j,z4,z5,z6,z8],accj++[Jca i j],nj+1,by simpa using hJj,by omega,by omega,by simp,by simp [J1y,Jca,List.take_of_length_le]⟩
  rintro stj hj nj Rj hkj s5 ⟨hnj,e0j,accj,idj,hJj,hid0j,hidj,s3j,eidj⟩ hretj hXj
  simp at hkj
  rw [List.drop_eq_nil_of_le (by rw [Jc5];omega),List.nil_append] at hJj
  refine J0b (J0i [1,3,4] (fun s=>s 26 = .bool false) (by simp [hk,hkj,hk1,s4,s5,hi,e0j,J00,J0c]) ?_)
  intro stk hkk s26
  simp at hkk
  refine J29 s26 ?_
  simp
  refine hXj _ _ _ _ ?_
  simp [hk,hk1,hkj,hkk,s4,hw]
  exact hR _ _ _ (by simp [hk,hk1,hkj,hkk]) (by simp) ⟨hnj,e0j,accj,idj,hJj,hid0j,hidj,by simp [hkk,s3j],eidj⟩
 rintro st h n R hk s4 ⟨hn,e0,acc,id,hJ,hid0,hid,s3,eid⟩ hret hX
 simp at hk
 rw [List.drop_eq_nil_of_le (by omega)] at hJ
 simp [J2j] at hJ
 subst hJ
 refine J0b (J0i [3] (fun s=>s 15 = .bool false) (by simp [hk,s4,e0,J00]) ?_)
 intro st1 hk1 s15
 simp at hk1
 refine J29 s15 ?_
 refine hX _ _ _ _ ?_
 simp [hk1,s3,eid]
def a152:AFn:= ⟨22,[.t 4,.t 5],(.seq (.reg [Zo 2 (.boxv (.t 0)),Zo 3 (.boxv (.t 1)),Zo 4 (.mv (.k (.str []))),Zo 5 (.mv (.k (.str [])))]) (.seq (.reg [Zf 7 1 2,Zl 8 false 1 7,Zf 9 0 3,Zl 10 false 1 9,Zo 11 (.ixa 7 (.t 8) (.t 10)),Zl 12 true 7 11,Zo 6 (.box [(.str []),(.nil 4),(.nil 2),(.nil 3),(.bool false),(.nil 2),(.str [])]),⟨no,.st 7 (.t 6) (.t 12),no⟩]) (.seq (.draw (.op (Zf 13 0 6) (.op (Zl 14 false 1 13) (.op (Zf 15 3 6) (.op (Zl 16 false 1 15) (.op (Zf 17 1 3) (.op (Zl 18 false 1 17) (.op (Zo 19 (.ixa 3 (.t 16) (.t 18))) (.op (Zf 20 1 19) (.op (Zl 21 false 1 20) (.op (Zv 4 14) (.op (Zv 5 21) .fin)))))))))))) .ret)))⟩
theorem a152_ok:J06 Tryz.prog Tryz.f152=some a152:=by kernel_rfl
def a199:AFn:= ⟨12,[.t 4],(.seq (.reg [Zo 2 (.boxv (.t 0)),Zo 3 (.boxv (.t 1)),Zo 4 (.mv (.k (.str [])))]) (.seq (.reg [Zf 5 1 2,Zl 6 false 1 5,Zf 7 0 3,Zl 8 false 1 7,Zo 9 (.ixa 7 (.t 6) (.t 8)),Zf 10 0 9,Zl 11 false 1 10,Zv 4 11]) .ret))⟩
theorem a199_ok:J06 Tryz.prog Tryz.f199=some a199:=by kernel_rfl
def a173:AFn:= ⟨17,[.t 4],(.seq (.reg [Zo 2 (.boxv (.t 0)),Zo 3 (.boxv (.t 1)),Zo 4 (.mv (.k (.str [])))]) (.seq (.draw (.op (Zf 5 1 2) (.op (Zl 6 false 1 5) (.op (Zf 7 0 3) (.op (Zl 8 false 1 7) (.op (Zo 9 (.ixa 7 (.t 6) (.t 8))) (.op (Zf 10 3 9) (.op (Zl 11 false 1 10) (.op (Zf 12 1 3) (.op (Zl 13 false 1 12) (.op (Zo 14 (.ixa 3 (.t 11) (.t 13))) (.op (Zf 15 1 14) (.op (Zl 16 false 1 15) (.op (Zv 4 16) .fin)))))))))))))) .ret))⟩
theorem a173_ok:J06 Tryz.prog Tryz.f173=some a173:=by kernel_rfl
theorem Jds (p:DProgram) {i k:Nat}(hi:i<p.Rules.length) (hk:k<(p.Rules[i]).Calls.length):Holds Tryz.prog 152 [.agg (J00 p),.agg (J0q ⟨i,k⟩)] (fun x=>x = .tup [.str (p.Rules[i]).Func,.str ((p.Rules[i]).Calls[k]).Func]):=by
 refine J03 Tryz.func152 a152_ok rfl (by simp [a152]) ?_
 simp [a152,J00,J0q,hi,hk,J0c,J14]
theorem J5o (p:DProgram) {i k:Nat}(hi:i<p.Rules.length):Holds Tryz.prog 199 [.agg (J00 p),.agg (J0q ⟨i,k⟩)] (fun x=>x = .str (p.Rules[i]).Func):=by
 refine J03 Tryz.func199 a199_ok rfl (by simp [a199]) ?_
 simp [a199,J00,J0q,hi,J0c,J14]
theorem J6g (p:DProgram) {i k:Nat}(hi:i<p.Rules.length) (hk:k<(p.Rules[i]).Calls.length):Holds Tryz.prog 173 [.agg (J00 p),.agg (J0q ⟨i,k⟩)] (fun x=>x = .str ((p.Rules[i]).Calls[k]).Func):=by
 refine J03 Tryz.func173 a173_ok rfl (by simp [a173]) ?_
 simp [a173,J00,J0q,hi,hk,J0c,J14]
def Jtk (b z:Nat) (rows:List (List AV)) (v:AV) (h:Heap) (n:Nat):Prop:=(rows=[]∧v = .nil z)∨∃ id,b<id∧id<n∧v = .ref id 0 rows.length∧h id=some ⟨false,z,rows⟩
theorem Jtk.mono {b z:Nat}{rows:List (List AV)}{v:AV}{h:Heap}{n m:Nat}(a:Jtk b z rows v h n) (hm:n≤m):Jtk b z rows v h m:=a.imp id fun ⟨i,h1,h2,h3⟩=>⟨i,h1,by omega,h3⟩
theorem Jhu {p:DProgram}{j:Nat}(hj:j<(J0h p).length):∃ i k:Nat,∃ hi:i<p.Rules.length,∃ hk:k<(p.Rules[i]).Calls.length,(J0h p)[j]=⟨(i:Int),(k:Int)⟩∧Jcu p ⟨(i:Int),(k:Int)⟩=(p.Rules[i]).Func∧toE p ⟨(i:Int),(k:Int)⟩=((p.Rules[i]).Calls[k]).Func:=by
 have hm:(J0h p)[j]∈J6z p:=by
  have h0:(J0h p)[j]∈J0h p:=List.getElem_mem hj
  generalize (J0h p)[j]=e at h0
  unfold J0h at h0
  split at h0
  ·exact h0
  ·cases h0
 obtain ⟨i,k,hi,hk,he⟩:=Ja2 hm
 exact ⟨i,k,hi,hk,he,Ja4 hi,Jks hi hk⟩
theorem Jln (p:DProgram) (hp:J0k p≤1048576):(J0h p).length≤1048576:=by
 have:=Jae p hp
 unfold J0h
 split
 ·exact this
 ·simp
theorem Jim (l:List Str) (s:Str):decide (0≤J0t (fun x=>x==s) l 0)=J2p l s:=by
 have:=J6c (p:=fun x=>x==s) (l:=l) (i:=0)
 simp only [ge_iff_le] at this
 simp [this,J2p]
def a128:AFn:= ⟨9,[(.c 2 true 2)],(.seq (.reg [Zo 1 (.boxv (.t 0)),Zo 2 (.box [(.int .i64 0),(.nil 2)])]) (.seq (.draw (.op (Zf 3 0 1) (.op (Zl 4 false 1 3) (.op (Zf 5 1 1) (.op (Zl 6 false 1 5) (.op (Zc 7 209 [.t 6]) (.op (Zo 8 (.build [(.int .i64 0),(.nil 2)] [(0,(1,(.t 4))),(1,(1,(.t 7)))])) (.hop ⟨no,.st 2 (.t 2) (.t 8),no⟩ [] .fin)))))))) .ret))⟩
theorem a128_ok:J06 Tryz.prog Tryz.f128=some a128:=by kernel_rfl
def a175:AFn:= ⟨27,[(.c 2 true 2)],(.seq (.reg [Zo 1 (.boxv (.t 0)),Zo 2 (.box [(.int .i64 0),(.nil 2)])]) (.seq (.reg [Zf 5 0 1,Zl 6 false 1 5,Zo 7 (.build [(.int .i64 0),(.nil 2)] [(0,(1,(.t 6)))]),Zo 3 (.box [(.int .i64 0),(.nil 2)]),⟨no,.st 2 (.t 3) (.t 7),no⟩]) (.seq (.seq (.reg [Zo 4 (.mv (.k (.int .i64 0)))]) (.blk 0 (.loop (.seq (.seq (.reg [Zv 8 4,Zf 9 1 1,Zl 10 false 1 9,Zo 11 (.len false (.t 10)),Zo 12 (.bin .lss (.t 8) (.t 11))]) (.cond (.t 12) .skip (.exit 0))) (.seq (.blk 1 (.draw (.op (Zf 15 1 3) (.op (Zl 16 false 1 15) (.op (Zf 17 1 1) (.op (Zl 18 false 1 17) (.op (Zv 19 4) (.op (Zo 20 (.ixa 2 (.t 18) (.t 19))) (.op (Zl 21 true 2 20) (.op (Zc 22 82 [.t 21]) (.hop (Zo 23 (.bsl 2 [.t 22])) [(.ld false 1 (.t 15)),(.fld 1 (.t 3))] (.hop (Zo 24 (.app 32 2 (.t 16) (.t 23))) [] (.op (Zf 25 1 3) (.hop ⟨no,.st 1 (.t 25) (.t 24),no⟩ [] .fin)))))))))))))) (.reg [Zv 13 4,Zo 14 (.bin .add (.t 13) (.k (.int .i64 1))),Zv 4 14])))))) (.seq (.reg [Zl 26 true 2 3,⟨no,.st 2 (.t 2) (.t 26),no⟩]) .ret))))⟩
theorem a175_ok:J06 Tryz.prog Tryz.f175=some a175:=by kernel_rfl
theorem Jv4 {l:List DLin}(h:∀ x∈l,x.Coeffs.length≤8):J5h l≤9*l.length:=by
 unfold J5h wL
 have:((l.map Jab).sum)≤8*l.length:=by
  induction l with
  | nil=>simp
  | cons e l ih=>
   have h1:=ih fun x hx=>h x (List.mem_cons_of_mem _ hx)
   have h2:=h e List.mem_cons_self
   simp only [List.map_cons,List.sum_cons,List.length_cons]
   rw [show Jab e=e.Coeffs.length from rfl]
   omega
 omega
theorem Jkv (x:DSystem) (hw:J5h x.Rows≤1048576):Holds Tryz.prog 128 [.agg (J26 x)] (fun r=>r = .agg (J42 x)):=by
 refine J03 Tryz.func128 a128_ok rfl (by simp [a128]) ?_
 simp [a128,J26]
 first|refine J01 (J9v x.Rows hw) (by first|simp;done|rfl) ?_|refine J02 (J9v x.Rows hw) (by first|simp;done|rfl) ?_
 rintro r rfl
 simp [J42]
theorem Jqt (x:DSystem) (hw:J5h x.Rows≤1048576):Holds Tryz.prog 175 [.agg (J26 x)] (fun r=>r = .agg (J42 x)):=by
 have hl:=J2b Jab x.Rows
 have hcl:∀ l∈x.Rows,l.Coeffs.length≤1048576:=fun l hl=>by
  have:=J4b (w:=Jab) hl
  rw [show Jab l=l.Coeffs.length from rfl] at this
  unfold J5h at hw;omega
 unfold J5h at hw
 refine J03 Tryz.func175 a175_ok rfl (by simp [a175]) ?_
 simp [a175,J26]
 refine J0l [1,2,3] 4 x.Rows.length (fun i s h m=>2<m∧h 0=some ⟨true,2,[J26 x]⟩∧h 1=some ⟨true,2,[[.int .i64 0,.nil 2]]⟩∧∃ v,h 2=some ⟨true,2,[[.int .i64 x.N,v]]⟩∧J41 2 2 ((x.Rows.take i).map J08) v h m) (by unfold LIM;omega) (by simp)
  ⟨by simp,by simp [J26],by simp,.nil 2,by simp,.inl (by simp)⟩ ?_ ?_
 ·rintro i st h m R hi hg hk s4 hw' ⟨hm,e0,e1,v,e2,B⟩ hR _ _
  simp at hk
  have hcl:=hcl _ (List.getElem_mem hi)
  refine J0b (J0i [1,2,3,4] (fun s=>s 12 = .bool true) (by simp [hk,s4,hi,e0,J26]) ?_)
  intro st1 hk1 s12
  simp at hk1
  refine J25 s12 (J0b (J1h ?_))
  have ne:¬0=m∧¬1=m∧¬2=m∧¬m=2∧¬m=1∧¬m=0∧¬m+1=2∧¬m=m+1∧¬m+1=m:=by omega
  have fr:∀ id,id<m→¬id=m∧¬id=m+1:=by intro id _;omega
  simp [hk1,hk,s4,hi,e0,e2,J26]
  first|refine J01 (J2v (x.Rows[i]'hi) hcl) (by first|simp;done|rfl) ?_|refine J02 (J2v (x.Rows[i]'hi) hcl) (by first|simp;done|rfl) ?_
  rintro r rfl
  simp [J08,e2,ne,hk1,hk]
  refine J3w (rows:=(x.Rows.take i).map J08) (rows2:=[[.int .i64 (x.Rows[i]).Const,.us 1 (J0m (x.Rows[i]).Coeffs)]]) (B.keep (n':=m+1+1) (by omega) fun id _ hid _=>by simp [fr id hid]) (by simp) (fun l e=>by have:=(B.lt e).2.1;omega) (by omega) (by simp;unfold LIM;omega) ?_
  intro h1 f1 f2
  have bx:∀ id z rows,id<m→h id=some ⟨true,z,rows⟩→h1 id=h id:=by
   intro id z rows h1' h3'
   rw [f2 id (by omega) (by omega) fun l e=>B.not_box h3' e];simp [fr id h1']
  have g0:=bx 0 _ _ (by omega) e0
  have g1:=bx 1 _ _ (by omega) e1
  have g2:=bx 2 _ _ (by omega) e2
  simp [g2,e2,s4,hw',hk1,hk]
  refine hR _ _ _ (by simp [hk1,hk]) (by simp) ⟨by omega,by simp [g0,e0],by simp [g1,e1],.ref (m+2) 0 (i+1),?_,.inr ⟨m+2,by omega,by omega,by simp;omega,?_⟩⟩
  ·simp;omega
  ·simp [ne,f1]
   have hi':i<(x.Rows.map J08).length:=by simpa using hi
   rw [List.take_succ_eq_append_getElem hi']
   simp [J08]
 ·rintro st h m R hk s4 ⟨hm,e0,e1,v,e2,B⟩ _ hX
  simp at hk
  rw [List.take_length] at B
  refine J0b (J0i [1,2,3] (fun s=>s 12 = .bool false) (by simp [hk,s4,e0,J26]) ?_)
  intro st1 hk1 s12
  simp at hk1
  refine J29 s12 ?_
  refine hX _ _ _ _ ?_
  have cB:=B.cell
  simp [hk1,hk,e2,e1,-dt,-dtl,-J0x,Jd1,cB]
  have B':J41 2 2 (x.Rows.map J08) v (upd h 1 (some ⟨true,2,[[.int .i64 x.N,v]]⟩)) m:=B.keep (Nat.le_refl _) fun id hb hid e=>by
   have:¬id=1:=by omega
   simp [this]
  obtain ⟨h2,d1,_⟩:=B'.dt
  simp [d1,J42]
def Jdt (p:DProgram) (e:DEdge):DModel:=(Jdi p e.Rule).getD Jho
def a103:AFn:= ⟨31,[.t 4],(.seq (.reg [Zo 2 (.boxv (.t 0)),Zo 4 (.mv (.k (.bool false)))]) (.seq (.seq (.reg [Zv 7 1,Zo 8 (.len false (.t 7)),Zf 9 0 2,Zl 10 false 1 9,Zo 11 (.len false (.t 10)),Zo 12 (.bin .neq (.t 8) (.t 11))]) (.cond (.t 12) (.seq (.reg [Zo 4 (.mv (.k (.bool false)))]) .ret) .skip)) (.seq (.seq (.reg [Zv 13 1,Zo 14 (.len false (.t 13)),Zo 15 (.mv (.k (.int .i64 0)))]) (.blk 0 (.loop (.seq (.reg [Zo 16 (.bin .lss (.t 15) (.t 14))]) (.seq (.cond (.t 16) .skip (.exit 0)) (.seq (.blk 1 (.seq (.reg [Zv 17 15,Zo 18 (.ixa 2 (.t 13) (.t 15)),Zl 19 true 2 18,Zo 6 (.box [(.int .i64 0),(.nil 1)]),Zv 5 17,⟨no,.st 2 (.t 6) (.t 19),no⟩]) (.seq (.draw (.op (Zl 20 true 2 6) (.op (Zf 21 0 2) (.op (Zl 22 false 1 21) (.op (Zv 23 5) (.op (Zo 24 (.ixa 4 (.t 22) (.t 23))) (.op (Zf 25 1 24) (.op (Zl 26 false 1 25) (.op (Zo 27 (.len false (.t 26))) (.op (Zc 28 146 [.t 20,.t 27]) (.op (Zo 29 (.un .not (.t 28))) .fin))))))))))) (.cond (.t 29) (.seq (.reg [Zo 4 (.mv (.k (.bool false)))]) .ret) .skip)))) (.reg [Zo 30 (.bin .add (.t 15) (.k (.int .i64 1))),Zv 15 30]))))))) (.seq (.reg [Zo 4 (.mv (.k (.bool true)))]) .ret))))⟩
theorem a103_ok:J06 Tryz.prog Tryz.f103=some a103:=by kernel_rfl
def J8l (fs:List DFunction) (ls:List DLin):Bool:=decide (ls.length=fs.length)&&(ls.zip fs).all fun x=>J1q x.1 x.2.Params.length
theorem Jnr (p:DProgram) (ls:List DLin):Holds Tryz.prog 103 [.agg (J00 p),.sl 2 (ls.map J05)] (fun x=>x = .bool (J8l p.Functions ls)):=by
 refine J03 Tryz.func103 a103_ok rfl (by simp [a103]) ?_
 simp [a103,J00]
 unfold J8l
 by_cases hl:ls.length=p.Functions.length
 case neg=>
  have hl':¬(ls.length:Int)=p.Functions.length:=by omega
  simp [hl,hl']
 simp [hl]
 intro hlm
 refine J0l [2,13,14] 15 ls.length (fun i s h n=>0<n∧h 0=some ⟨true,2,[J00 p]⟩∧((ls.drop i).zip (p.Functions.drop i)).all (fun x=>J1q x.1 x.2.Params.length)=(ls.zip p.Functions).all (fun x=>J1q x.1 x.2.Params.length)) (by omega) (by simp) ⟨by simp,by simp [J00],rfl⟩ ?_ ?_
 ·rintro i s h n R hi hg hk s15 hw ⟨hn,e0,hJ⟩ hR hret _
  have hi':i<p.Functions.length:=by omega
  simp at hk
  rw [List.drop_eq_getElem_cons hi,List.drop_eq_getElem_cons hi',List.zip_cons_cons,List.all_cons] at hJ
  have hn':¬0=n:=by omega
  simp [hk,s15,hi,hi',hg,hw,e0,hn',J05,J00,J04]
  first|refine J01 (J1p (ls[i]'hi) (p.Functions[i]'hi').Params.length) (by first|simp [J05];done|rfl) ?_|refine J02 (J1p (ls[i]'hi) (p.Functions[i]'hi').Params.length) (by first|simp [J05];done|rfl) ?_
  rintro r rfl
  cases h0:J1q ls[i] (p.Functions[i]).Params.length
  ·rw [h0] at hJ
   have hJ:(ls.zip p.Functions).all (fun x=>J1q x.1 x.2.Params.length)=false:=by rw [←hJ];rfl
   simp
   refine hret _ _ _ ?_
   simp [hJ]
  ·rw [h0,Bool.true_and] at hJ
   simp [hk,s15,hi,hg,hw]
   exact hR _ _ _ (by simp [hk]) (by simp) ⟨by omega,by simp [hn',e0,J00],hJ⟩
 ·rintro s h n R hk s15 ⟨hn,e0,hJ⟩ hret hX
  simp at hk
  rw [List.drop_eq_nil_of_le (Nat.le_refl _)] at hJ
  simp [hk,s15,hl]
  refine hX _ _ _ _ ?_
  rw [←hJ]
  simp
theorem Jqn {p:DProgram}(h1:J2s p=true) {i k:Nat}(hi:i<p.Rules.length):J5h (Jdt p ⟨i,k⟩).System.Rows≤1000:=by
 obtain ⟨f,hf,R⟩:=Jb8 h1 (List.getElem_mem hi)
 have hg:p.Rules.getD (i:Int).toNat Jou=p.Rules[i]:=by simp [hi]
 have hin:inR (i:Int) 0 ((p.Rules.length:Int) - 1)=true:=by simp [inR];omega
 have hfa:Jm5 p p.Rules[i]=f:=by unfold Jm5;rw [hf];rfl
 have:Jdt p ⟨i,k⟩=J66 p.Rules[i] f:=by unfold Jdt Jdi;simp only [h1,hin,hg,hfa,Bool.and_self,if_true,Option.getD_some]
 rw [this]
 obtain ⟨q1,q2,_⟩:=Jju h1 R
 have:=Jv4 q2
 omega
def J4f (p:DProgram) (b:DBounds) (name:Str):DLin:=b.Lins.getD (J0t (fun f=>f.Name==name) p.Functions 0).toNat J1g
theorem Jwv {p:DProgram}{name:Str}(h:(J1o p.Functions name).isSome=true):∃ j:Nat,j<p.Functions.length∧J0t (fun f=>f.Name==name) p.Functions 0=(j:Int):=by
 rcases J9p (p:=fun f:DFunction=>f.Name==name) (l:=p.Functions) (k:=0) with ⟨h1,_⟩|⟨j,hj,h1,_⟩
 ·unfold J1o at h;rw [h1] at h;simp at h
 ·exact ⟨j,hj,by simpa using h1⟩
theorem Jod {p:DProgram}{r:DRule} : ∀ {l:List DCall}{k:Nat},J2m p r k l=true→∀ c∈l,(J1o p.Functions c.Func).isSome=true
 | [],_,_,_,h=>by cases h
 | c::l,k,h,x,hx=>by
  simp only [J2m,Bool.and_eq_true] at h
  rcases List.mem_cons.1 hx with rfl|hx
  ·have:=h.1;unfold J9k at this;simp only [Bool.and_eq_true] at this;exact this.1.1.1
  ·exact Jod h.2 x hx
def goO:List DObligation→List (Option DObligation)→Option (List DObligation)
 | acc,[]=>some acc
 | _,Option.none::_=>Option.none
 | acc,some x::l=>goO (acc++[x]) l
def mdR (p:DProgram) (i:Int):DModel:=(Jdi p i).getD Jho
theorem Jrg:∀ {l:List (Option DObligation)}{acc o:List DObligation},goO acc l=some o→o.length=acc.length+l.length
 | [],acc,o,h=>by simp only [goO,Option.some.injEq] at h;subst h;simp
 | Option.none::_,_,_,h=>by simp [goO] at h
 | some x::l,acc,o,h=>by
  simp only [goO] at h
  have:=Jrg h
  simp at this ⊢;omega
def a70:AFn:= ⟨68,[.t 4],(.seq (.reg [Zo 2 (.boxv (.t 0)),Zo 4 (.mv (.k (.nil 1)))]) (.seq (.seq (.reg [Zl 13 true 2 2,Zc 14 67 [.t 13],Zo 15 (.un .not (.t 14)),Zv 16 15,⟨some 17,.ld true 2 (.t 2),(some (16,false))⟩,⟨some 18,.mv (.t 1),(some (16,false))⟩,⟨some 19,.call (.k (.fn (.func 84) [] [])) [.t 17,.t 18],(some (16,false))⟩,⟨some 20,.bin .lss (.t 19) (.k (.int .i64 0)),(some (16,false))⟩,Zo 21 (.pick (.t 16) (.k (.bool true)) (.t 20))]) (.cond (.t 21) (.seq (.reg [Zo 4 (.mv (.k (.nil 1)))]) .ret) .skip)) (.seq (.reg [Zo 22 (.mmk),Zv 23 1,⟨no,.mput (.t 22) (.t 23) (.k (.bool true)),no⟩,Zv 24 22,Zv 5 24]) (.seq (.seq (.reg [Zf 25 0 2,Zl 26 false 1 25,Zo 27 (.len false (.t 26)),Zo 28 (.mv (.k (.int .i64 0)))]) (.blk 0 (.loop (.seq (.reg [Zo 29 (.bin .lss (.t 28) (.t 27))]) (.seq (.cond (.t 29) .skip (.exit 0)) (.seq (.blk 1 (.seq (.reg [Zl 30 true 2 2,Zc 31 151 [.t 30],Zo 32 (.len false (.t 31)),Zo 33 (.mv (.k (.int .i64 0)))]) (.blk 2 (.loop (.seq (.reg [Zo 34 (.bin .lss (.t 33) (.t 32))]) (.seq (.cond (.t 34) .skip (.exit 2)) (.seq (.blk 3 (.seq (.reg [Zo 35 (.ixa 2 (.t 31) (.t 33)),Zl 36 true 2 35,Zo 7 (.box [(.int .i64 0),(.int .i64 0)]),⟨no,.st 2 (.t 7) (.t 36),no⟩]) (.seq (.reg [Zl 38 true 2 2,Zl 39 true 2 7,Zc 40 152 [.t 38,.t 39],Zv 37 40,Zo 41 (.ext (.t 37) 0),Zo 42 (.ext (.t 37) 1),Zv 8 41,Zv 9 42]) (.seq (.reg [Zv 43 5,Zv 44 8,Zo 45 (.mget (.bool false) (.t 43) (.t 44))]) (.cond (.t 45) (.reg [Zv 46 5,Zv 47 9,⟨no,.mput (.t 46) (.t 47) (.k (.bool true)),no⟩]) .skip))))) (.reg [Zo 48 (.bin .add (.t 33) (.k (.int .i64 1))),Zv 33 48])))))))) (.reg [Zo 49 (.bin .add (.t 28) (.k (.int .i64 1))),Zv 28 49]))))))) (.seq (.reg [Zo 10 (.mv (.k (.nil 1)))]) (.seq (.seq (.reg [Zf 50 0 2,Zl 51 false 1 50,Zo 52 (.len false (.t 51)),Zo 53 (.mv (.k (.int .i64 0)))]) (.blk 4 (.loop (.seq (.reg [Zo 54 (.bin .lss (.t 53) (.t 52))]) (.seq (.cond (.t 54) .skip (.exit 4)) (.seq (.blk 5 (.seq (.reg [Zo 55 (.ixa 4 (.t 51) (.t 53)),Zl 56 true 4 55,Zo 12 (.box [(.str []),(.nil 1),(.bool false),(.nil 2)]),⟨no,.st 4 (.t 12) (.t 56),no⟩]) (.seq (.reg [Zv 57 5,Zf 58 0 12,Zl 59 false 1 58,Zo 60 (.mget (.bool false) (.t 57) (.t 59))]) (.cond (.t 60) (.reg [Zv 61 10,Zf 62 0 12,Zl 63 false 1 62,Zo 64 (.bsl 1 [.t 63]),Zo 65 (.app 16 1 (.t 61) (.t 64)),Zv 10 65]) .skip)))) (.reg [Zo 66 (.bin .add (.t 53) (.k (.int .i64 1))),Zv 53 66]))))))) (.seq (.reg [Zv 67 10,Zv 4 67]) .ret)))))))⟩
theorem a70_ok:J06 Tryz.prog Tryz.f70=some a70:=by kernel_rfl
def Jps (M:List Str):List (List AV):=M.map fun k=>[.str k,.bool true]
theorem Jco:∀ (M:List Str) (key:Str),(J99 (Jps M) key).getD (.bool false) = .bool (J2p M key)
 | [],key=>rfl
 | k::M,key=>by
  have ih:=Jco M key
  by_cases h:k=key
  ·simp [Jps,J99,h,J2p]
  ·unfold Jps J2p at *
   simp only [List.map_cons,J99,if_neg h,List.any_cons]
   rw [ih]
   simp [h]
theorem Jkf:∀ (M:List Str) (key:Str),Jll (Jps M) key (.bool true)=Jps (if J2p M key then M else M++[key])
 | [],key=>rfl
 | k::M,key=>by
  have ih:=Jkf M key
  by_cases h:k=key
  ·simp [Jps,Jll,h,J2p]
  ·have hh:J2p (k::M) key=J2p M key:=by simp [J2p,h]
   rw [hh]
   simp only [Jps,List.map_cons,Jll,if_neg h] at *
   rw [ih]
   split <;> simp
theorem Jqz (p:DProgram) (name:Str):decide (J0t (fun f=>f.Name==name) p.Functions 0<0) = !J2p (J10 p) name:=by
 have:=J6c (p:=fun f:DFunction=>f.Name==name) (l:=p.Functions) (i:=0)
 have h2:J2p (J10 p) name=p.Functions.any (fun f=>f.Name==name):=by simp [J2p,J10,List.any_map,Function.comp_def]
 rw [h2,←this]
 by_cases h:J0t (fun f:DFunction=>f.Name==name) p.Functions 0<0
 ·have h3:¬(J0t (fun f:DFunction=>f.Name==name) p.Functions 0≥0):=by omega
  simp [h,h3]
 ·have h3:J0t (fun f:DFunction=>f.Name==name) p.Functions 0≥0:=by omega
  simp [h,h3]
theorem Jtk.keep {b z:Nat}{rows:List (List AV)}{v:AV}{h:Heap}{n:Nat}(a:Jtk b z rows v h n) (x:Option Blk):Jtk b z rows v (upd h n x) n:=a.imp id fun ⟨i,h1,h2,h3,h4⟩=>⟨i,h1,h2,h3,by rw [K54 (by omega)];exact h4⟩
def Jh0 (p:DProgram) (e:DEdge):Str×Str:=(Jcu p e,toE p e)
theorem Jd3 (p:DProgram):J57 p=(J6z p).map (Jh0 p):=rfl
theorem Jt6 {p:DProgram}{j:Nat}(hj:j<(J6z p).length):∃ i k:Nat,∃ hi:i<p.Rules.length,∃ hk:k<(p.Rules[i]).Calls.length,(J6z p)[j]=⟨(i:Int),(k:Int)⟩∧Jcu p ⟨(i:Int),(k:Int)⟩=(p.Rules[i]).Func∧toE p ⟨(i:Int),(k:Int)⟩=((p.Rules[i]).Calls[k]).Func:=by
 obtain ⟨i,k,hi,hk,he⟩:=Ja2 (List.getElem_mem hj)
 exact ⟨i,k,hi,hk,he,Ja4 hi,Jks hi hk⟩
theorem J5y (p:DProgram) (hp:J0k p≤1048576) (name:Str):Holds Tryz.prog 70 [.agg (J00 p),.str name] (fun x=>x = .us 1 (J0a (J34 p name))):=by
 have hTl:=Jae p hp
 have hfl:p.Functions.length≤1048576:=by have:=J2b J0v p.Functions;unfold J0k J1x at hp;omega
 refine J03 Tryz.func70 a70_ok rfl (by simp [a70]) ?_
 simp [a70,J00]
 first|refine J01 (J2q p hp) (by first|simp [J00];done|rfl) ?_|refine J02 (J2q p hp) (by first|simp [J00];done|rfl) ?_
 rintro r rfl
 unfold J34
 cases h1:J2s p
 ·simp [J0a]
 simp
 first|refine J01 (J2r p name) (by first|simp [J00];done|rfl) ?_|refine J02 (J2r p name) (by first|simp [J00];done|rfl) ?_
 rintro r rfl
 have g1:=Jqz p name
 cases h2:J2p (J10 p) name
 ·rw [h2] at g1
  simp at g1
  simp [g1,J0a]
 rw [h2] at g1
 simp at g1
 have g2:¬J0t (fun f:DFunction=>f.Name==name) p.Functions 0<0:=by omega
 simp [g1,g2,Jll]
 intro _
 generalize hS:Jph (J57 p) p.Functions.length [name]=S
 have hre:J82 (J57 p) (J10 p) name=(J10 p).filter (J2p S):=by
  unfold J82
  rw [show (J10 p).length=p.Functions.length by simp [J10],hS]
 rw [hre]
 refine J0l [2,5,27] 28 p.Functions.length (fun i s h n=>1<n∧h 0=some ⟨true,2,[J00 p]⟩∧∃ M:List Str,h 1=some ⟨true,0,Jps M⟩∧Jph (J57 p) (p.Functions.length - i) M=S) (by unfold LIM;omega) (by simp) ⟨by simp,by simp [J00],[name],by simp [Jps],by simpa using hS⟩ ?_ ?_
 ·rintro i st h n R hi hg hk s28 hw ⟨hn,e0,M,e1,hJ⟩ hR hret _
  simp at hk
  refine J0i [2,5,27,28] (fun s=>s 29 = .bool true) (by simp [hk,s28,hi]) ?_
  intro st1 hk1 s29
  simp at hk1
  refine J3x s29 (J0b (J1h ?_))
  simp [hk,hk1,e0,J00]
  first|refine J01 (Jch p hp) (by first|simp [J00];done|rfl) ?_|refine J02 (Jch p hp) (by first|simp [J00];done|rfl) ?_
  rintro r rfl
  simp
  intro hle
  have z0:¬0=n:=by omega
  have z1:¬1=n:=by omega
  have z2:¬n=0:=by omega
  have hJ':Jph (J57 p) (p.Functions.length - (i+1)) (Jk9 (J57 p) M)=S:=by
   rw [←hJ,show p.Functions.length - i=(p.Functions.length - (i+1))+1 by omega]
   rfl
  generalize hM2:Jk9 (J57 p) M=M2 at hJ'
  refine J0l [2,5,27,28,31,32] 33 (J6z p).length (fun j s h' n'=>n<n'∧h' 0=some ⟨true,2,[J00 p]⟩∧h' n=some ⟨false,2,(J6z p).map J1y⟩∧∃ X:List Str,h' 1=some ⟨true,0,Jps X⟩∧(((J6z p).drop j).map (Jh0 p)).foldl Jhc X=M2) hle (by simp) ⟨by omega,by simp [e0,z0,z2,J00],by simp,M,by simp [e1,z1],by rw [←hM2,Jd3];simp [Jk9]⟩ ?_ ?_
  ·rintro j st2 h2 n2 R2 hj hjg hk2 s33 hw2 ⟨hn2,f0,fn,X,f1,hX⟩ hR2 hret2 _
   simp at hk2
   obtain ⟨a,b,ha,hb,he,hf,ht⟩:=Jt6 hj
   rw [List.drop_eq_getElem_cons hj,List.map_cons,List.foldl_cons,he,Jh0,hf,ht] at hX
   have y0:¬0=n2:=by omega
   have y1:¬1=n2:=by omega
   have y2:¬n=n2:=by omega
   have y3:¬n2=n:=by omega
   have y4:¬n2=1:=by omega
   have y5:¬n2=0:=by omega
   have y6:¬n=1:=by omega
   refine J0i [2,5,27,28,31,32,33] (fun s=>s 34 = .bool true) (by simp [hk2,s33,hj]) ?_
   intro st3 hk3 s34
   simp at hk3
   refine J3x s34 (J0b (J1h ?_))
   simp [hk2,hk3,hk1,hk,s33,hj,f0,fn,f1,he,J1y,J00,y0,y1,y2,y3,y4,y5,y6,z0,z1,z2]
   first|refine J01 (Jds p ha hb) (by first|simp [J00,J0q];done|rfl) ?_|refine J02 (Jds p ha hb) (by first|simp [J00,J0q];done|rfl) ?_
   rintro r rfl
   simp [hk2,hk3,hk1,hk,f0,fn,f1,Jco,y0,y1,y2,y3,y4,y5,y6]
   cases c1:J2p X (p.Rules[a]).Func
   ·rw [Jhc,c1] at hX
    simp at hX
    simp [hk2,hk3,hk1,hk,s33,hw2]
    exact hR2 _ _ _ (by simp [hk2,hk3,hk1,hk]) (by simp) ⟨by omega,by simp [f0,y0,y5,J00],by simp [fn,y2,y3],X,by simp [f1,y1,y4],by simpa using hX⟩
   ·rw [Jhc,c1] at hX
    simp only [if_true] at hX
    simp [hk2,hk3,hk1,hk,f1,s33,hw2,Jkf,y0,y1,y2,y3,y4,y5,y6]
    exact hR2 _ _ _ (by simp [hk2,hk3,hk1,hk]) (by simp) ⟨by omega,by simp [f0,y0,y5,J00],by simp [fn,y2,y3,y6],(if J2p X ((p.Rules[a]).Calls[b]).Func then X else X++[((p.Rules[a]).Calls[b]).Func]),by simp,by simpa using hX⟩
  rintro st2 h2 n2 R2 hk2 s33 ⟨hn2,f0,fn,X,f1,hX⟩ hret2 hX2
  simp at hk2
  rw [List.drop_eq_nil_of_le (by omega)] at hX
  simp at hX
  subst hX
  refine J0i [2,5,27,28] (fun s=>s 34 = .bool false) (by simp [hk2,s33]) ?_
  intro st3 hk3 s34
  simp at hk3
  refine J3s s34 ?_
  refine hX2 _ _ _ _ ?_
  simp [hk,hk1,hk2,hk3,s28,hw]
  exact hR _ _ _ (by simp [hk,hk1,hk2,hk3]) (by simp) ⟨by omega,f0,X,f1,hJ'⟩
 rintro st h n R hk s28 ⟨hn,e0,M,e1,hJ⟩ hret hX
 simp at hk
 rw [Nat.sub_self] at hJ
 simp only [Jph] at hJ
 subst hJ
 refine J0i [2,5] (fun s=>s 29 = .bool false) (by simp [hk,s28]) ?_
 intro st1 hk1 s29
 simp at hk1
 refine J3s s29 ?_
 refine hX _ _ _ _ ?_
 simp [hk,hk1,e0,J00]
 intro _
 generalize hT:(J10 p).filter (J2p M)=T
 have hTn:T.length≤p.Functions.length:=by rw [←hT];refine Nat.le_trans (List.length_filter_le _ _) (by simp [J10])
 refine J0l [5,51,52] 53 p.Functions.length (fun i s h n=>1<n∧h 1=some ⟨true,0,Jps M⟩∧∃ acc:List Str,acc++((J10 p).drop i).filter (J2p M)=T∧Jtk 1 1 (J0a acc) (s 10) h n) (by unfold LIM;omega) (by simp) ⟨hn,by simpa using e1,[],by simpa using hT,.inl (by simp [J0a])⟩ ?_ ?_
 ·rintro i st2 h2 n2 R2 hi hg hk2 s53 hw ⟨hn2,f1,acc,hJ,hA⟩ hR2 hret2 _
  simp at hk2
  have hin:i<(J10 p).length:=by simpa [J10] using hi
  have hni:(J10 p)[i]=(p.Functions[i]).Name:=by simp [J10]
  rw [List.drop_eq_getElem_cons hin,List.filter_cons,hni] at hJ
  have y0:¬1=n2:=by omega
  have y1:¬n2=1:=by omega
  have y2:¬1=n2+1:=by omega
  have y3:¬1=n2+1+1:=by omega
  have y4:¬n2=0:=by omega
  refine J0i [5,10,51,52,53] (fun s=>s 54 = .bool true) (by simp [hk2,s53,hi]) ?_
  intro st3 hk3 s54
  simp at hk3
  refine J3x s54 (J0b (J1h ?_))
  refine J1n [5,10,51,52,53] (fun s h' n'=>s 12 = .ptr n2 0 0∧n'=n2+1∧h' n2=some ⟨true,4,[J04 p.Functions[i]]⟩∧h' 1=some ⟨true,0,Jps M⟩∧Jtk 1 1 (J0a acc) (st2 10) h' n2) ?_ ?_
  ·simp [hk2,hk3,hk1,hk,s53,hi,J04,f1,y0,y1,y4]
   exact hA.keep _
  rintro st4 h4 n4 hk4 ⟨s12,rfl,en,f1',hA'⟩
  simp at hk4
  refine J0i [5,10,12,51,52,53] (fun s=>s 60 = .bool (J2p M (p.Functions[i]).Name)) ?_ ?_
  ·simp [hk4,hk2,hk3,hk1,hk,s12,en,J04,f1',Jco]
  intro st5 hk5 s60
  simp at hk5
  cases c1:J2p M (p.Functions[i]).Name
  ·rw [c1] at hJ s60
   simp only [Bool.false_eq_true,if_false] at hJ
   simp [hk5,hk4,hk2,hk3,hk1,hk,s53,s60,hw]
   exact hR2 _ _ _ (by simp [hk5,hk4,hk2,hk3,hk1,hk]) (by simp) ⟨by omega,f1',acc,hJ,by simpa [hk5,hk4,hk3] using hA'.mono (Nat.le_succ _)⟩
  rw [c1] at hJ s60
  simp only [if_true] at hJ
  have hal:=congrArg List.length hJ
  simp only [List.length_append,List.length_cons] at hal
  rcases hA' with ⟨hz,hv⟩|⟨id,hid,hid',hv,hc⟩
  ·have hz':acc=[]:=by simpa [J0a] using hz
   subst hz'
   simp [hk5,hk4,hk2,hk3,hk1,hk,hv,s12,s60,en,J04,s53,hw,y0,y1,y2,y3,y4]
   refine ⟨by unfold LIM;omega,?_⟩
   exact hR2 _ _ _ (by simp [hk5,hk4,hk2,hk3,hk1,hk]) (by simp) ⟨by omega,by simp [f1',y0,y1,y2,y3,y4],[(p.Functions[i]).Name],by simpa using hJ,.inr ⟨n2+1+1,by omega,by omega,by simp [J0a],by simp [J0a]⟩⟩
  ·simp [J0a] at hv
   have x0:¬id=n2:=by omega
   have x1:¬id=n2+1:=by omega
   have x2:¬n2+1=id:=by omega
   have x3:¬n2=id:=by omega
   have x4:¬1=id:=by omega
   simp [hk5,hk4,hk2,hk3,hk1,hk,hv,hc,s12,s60,en,J04,s53,hw,y0,y1,y2,y3,y4,x0,x1,x2,x3,x4]
   refine ⟨by unfold LIM;omega,?_⟩
   exact hR2 _ _ _ (by simp [hk5,hk4,hk2,hk3,hk1,hk]) (by simp) ⟨by omega,by simp [f1',y0,y1,y2,y3,y4,x4],acc++[(p.Functions[i]).Name],by simpa using hJ,.inr ⟨n2+1+1,by omega,by omega,by simp [J0a],by simp [J0a,List.take_of_length_le]⟩⟩
 rintro st2 h2 n2 R2 hk2 s53 ⟨hn2,f1,acc,hJ,hA⟩ hret2 hX2
 simp at hk2
 rw [List.drop_eq_nil_of_le (by simp [J10])] at hJ
 simp at hJ
 subst hJ
 refine J0i [10] (fun s=>s 54 = .bool false) (by simp [hk2,s53]) ?_
 intro st3 hk3 s54
 simp at hk3
 refine J3s s54 ?_
 refine hX2 _ _ _ _ ?_
 rcases hA with ⟨hz,hv⟩|⟨id,hid,hid',hv,hc⟩
 ·simp [hk3,hv,hz]
 ·simp at hv
  simp [hk3,hv,hc]
def a60:AFn:= ⟨23,[.t 2],(.seq (.reg [Zo 1 (.boxv (.t 0)),Zo 2 (.mv (.k (.nil 1)))]) (.seq (.reg [Zo 5 (.bsl 1 []),Zv 3 5]) (.seq (.seq (.reg [Zo 4 (.mv (.k (.int .i64 0)))]) (.blk 0 (.loop (.seq (.seq (.reg [Zv 6 4,Zf 7 0 1,Zl 8 false 1 7,Zo 9 (.len false (.t 8)),Zo 10 (.bin .lss (.t 6) (.t 9))]) (.cond (.t 10) .skip (.exit 0))) (.seq (.blk 1 (.reg [Zv 13 3,Zf 14 0 1,Zl 15 false 1 14,Zv 16 4,Zo 17 (.ixa 4 (.t 15) (.t 16)),Zf 18 0 17,Zl 19 false 1 18,Zo 20 (.bsl 1 [.t 19]),Zo 21 (.app 16 1 (.t 13) (.t 20)),Zv 3 21])) (.reg [Zv 11 4,Zo 12 (.bin .add (.t 11) (.k (.int .i64 1))),Zv 4 12])))))) (.seq (.reg [Zv 22 3,Zv 2 22]) .ret))))⟩
theorem a60_ok:J06 Tryz.prog Tryz.f60=some a60:=by kernel_rfl
def a136:AFn:= ⟨93,[.t 4],(.seq (.reg [Zo 2 (.boxv (.t 0)),Zo 4 (.mv (.k (.nil 1)))]) (.seq (.reg [Zl 12 true 2 2,Zc 13 60 [.t 12],Zv 5 13]) (.seq (.reg [Zl 14 true 2 2,Zc 15 122 [.t 14],Zv 6 15]) (.seq (.reg [Zo 16 (.bsl 1 []),Zv 7 16]) (.seq (.seq (.reg [Zl 17 true 2 2,Zc 18 61 [.t 17],Zo 19 (.un .not (.t 18)),Zv 20 19,⟨some 21,.mv (.t 5),(some (20,false))⟩,⟨some 22,.mv (.t 1),(some (20,false))⟩,⟨some 23,.call (.k (.fn (.func 63) [] [])) [.t 21,.t 22],(some (20,false))⟩,⟨some 24,.bin .lss (.t 23) (.k (.int .i64 0)),(some (20,false))⟩,Zo 25 (.pick (.t 20) (.k (.bool true)) (.t 24))]) (.cond (.t 25) (.seq (.reg [Zv 26 7,Zv 4 26]) .ret) .skip)) (.seq (.reg [Zv 27 1,Zo 28 (.bsl 1 [.t 27]),Zv 8 28]) (.seq (.seq (.reg [Zo 9 (.mv (.k (.int .i64 0)))]) (.blk 0 (.loop (.seq (.seq (.reg [Zv 29 9,Zv 30 8,Zo 31 (.len false (.t 30)),Zo 32 (.bin .lss (.t 29) (.t 31))]) (.cond (.t 32) .skip (.exit 0))) (.seq (.blk 1 (.seq (.reg [Zo 10 (.mv (.k (.int .i64 0)))]) (.blk 2 (.loop (.seq (.seq (.reg [Zv 35 10,Zv 36 6,Zo 37 (.len false (.t 36)),Zo 38 (.bin .lss (.t 35) (.t 37))]) (.cond (.t 38) .skip (.exit 2))) (.seq (.blk 3 (.seq (.draw (.op (Zl 41 true 2 2) (.op (Zv 42 6) (.op (Zv 43 10) (.op (Zo 44 (.ixa 2 (.t 42) (.t 43))) (.op (Zl 45 true 2 44) (.op (Zv 47 8) (.op (Zv 48 9) (.op (Zo 49 (.ixa 1 (.t 47) (.t 48))) (.op (Zl 50 false 1 49) (.op (Zc 46 199 [.t 41,.t 45]) (.op (Zo 51 (.bin .eql (.t 46) (.t 50))) (.op (Zv 52 51) (.op ⟨some 53,.mv (.t 8),(some (52,true))⟩ (.op ⟨some 54,.ld true 2 (.t 2),(some (52,true))⟩ (.op ⟨some 55,.mv (.t 6),(some (52,true))⟩ (.op ⟨some 56,.mv (.t 10),(some (52,true))⟩ (.op ⟨some 57,.ixa 2 (.t 55) (.t 56),(some (52,true))⟩ (.op ⟨some 58,.ld true 2 (.t 57),(some (52,true))⟩ (.op ⟨some 59,.call (.k (.fn (.func 173) [] [])) [.t 54,.t 58],(some (52,true))⟩ (.op ⟨some 60,.call (.k (.fn (.func 63) [] [])) [.t 53,.t 59],(some (52,true))⟩ (.op ⟨some 61,.bin .lss (.t 60) (.k (.int .i64 0)),(some (52,true))⟩ (.op (Zo 62 (.pick (.t 52) (.t 61) (.k (.bool false)))) .fin))))))))))))))))))))))) (.cond (.t 62) (.draw (.op (Zv 63 8) (.op (Zl 64 true 2 2) (.op (Zv 65 6) (.op (Zv 66 10) (.op (Zo 67 (.ixa 2 (.t 65) (.t 66))) (.op (Zl 68 true 2 67) (.op (Zc 69 173 [.t 64,.t 68]) (.hop (Zo 70 (.bsl 1 [.t 69])) [] (.hop (Zo 71 (.app 16 1 (.t 63) (.t 70))) [] (.hop (Zv 8 71) [] .fin))))))))))) .skip))) (.reg [Zv 39 10,Zo 40 (.bin .add (.t 39) (.k (.int .i64 1))),Zv 10 40]))))))) (.reg [Zv 33 9,Zo 34 (.bin .add (.t 33) (.k (.int .i64 1))),Zv 9 34])))))) (.seq (.seq (.reg [Zo 11 (.mv (.k (.int .i64 0)))]) (.blk 4 (.loop (.seq (.seq (.reg [Zv 72 11,Zv 73 5,Zo 74 (.len false (.t 73)),Zo 75 (.bin .lss (.t 72) (.t 74))]) (.cond (.t 75) .skip (.exit 4))) (.seq (.blk 5 (.seq (.reg [Zv 78 8,Zv 79 5,Zv 80 11,Zo 81 (.ixa 1 (.t 79) (.t 80)),Zl 82 false 1 81,Zc 83 63 [.t 78,.t 82],Zo 84 (.bin .geq (.t 83) (.k (.int .i64 0)))]) (.cond (.t 84) (.reg [Zv 85 7,Zv 86 5,Zv 87 11,Zo 88 (.ixa 1 (.t 86) (.t 87)),Zl 89 false 1 88,Zo 90 (.bsl 1 [.t 89]),Zo 91 (.app 16 1 (.t 85) (.t 90)),Zv 7 91]) .skip))) (.reg [Zv 76 11,Zo 77 (.bin .add (.t 76) (.k (.int .i64 1))),Zv 11 77])))))) (.seq (.reg [Zv 92 7,Zv 4 92]) .ret)))))))))⟩
theorem a136_ok:J06 Tryz.prog Tryz.f136=some a136:=by kernel_rfl
def Je7 (E:List (Str×Str)) (N:List Str) (a:Str) (M:List Str) (i:Nat):Prop:=
 M.Nodup∧(∀ x∈M,x∈N∧RT E a x)∧a∈M∧i≤M.length∧∀ x∈M.take i,∀ y,(x,y)∈E→y∈M
theorem Je7.len {E:List (Str×Str)}{N:List Str}{a:Str}{M:List Str}{i:Nat}(h:Je7 E N a M i):M.length≤N.length:=Jfw h.1 fun x hx=>(h.2.1 x hx).1
theorem Je7.add {E:List (Str×Str)}{N:List Str}{a c y:Str}{M:List Str}{i:Nat}(h:Je7 E N a M i) (hc:c∈M) (hy:(c,y)∈E) (hyN:y∈N) (hyM:y∉M):Je7 E N a (M++[y]) i:=by
 obtain ⟨h1,h2,h3,h4,h5⟩:=h
 refine ⟨?_,?_,List.mem_append_left _ h3,by simp;omega,?_⟩
 ·rw [List.nodup_append]
  exact ⟨h1,by simp,fun x hx z hz hxz=>hyM (by rw [←List.mem_singleton.1 hz,←hxz];exact hx)⟩
 ·intro x hx
  rcases List.mem_append.1 hx with hx|hx
  ·exact h2 x hx
  ·rw [List.mem_singleton.1 hx];exact ⟨hyN,(h2 c hc).2.step hy⟩
 ·intro x hx z hz
  rw [List.take_append_of_le_length h4] at hx
  exact List.mem_append_left _ (h5 x hx z hz)
theorem Je7.next {E:List (Str×Str)}{N:List Str}{a c:Str}{M:List Str}{i:Nat}(h:Je7 E N a M i) (hc:M[i]? = some c) (hE:∀ e∈E,e.1=c→e.2∈M):Je7 E N a M (i+1):=by
 obtain ⟨h1,h2,h3,h4,h5⟩:=h
 obtain ⟨hi,hci⟩:=List.getElem?_eq_some_iff.1 hc
 refine ⟨h1,h2,h3,hi,?_⟩
 intro x hx y hy
 rw [List.take_succ_eq_append_getElem hi,hci] at hx
 rcases List.mem_append.1 hx with hx|hx
 ·exact h5 x hx y hy
 ·rw [List.mem_singleton.1 hx] at hy
  exact hE _ hy rfl
theorem Je7.done {E:List (Str×Str)}{N:List Str}{a:Str}{M:List Str}(h:Je7 E N a M M.length) (x:Str):x∈M↔RT E a x:=by
 obtain ⟨h1,h2,h3,h4,h5⟩:=h
 rw [List.take_length] at h5
 exact ⟨fun hx=>(h2 x hx).2,fun hx=>hx.closed (S:=fun z=>z∈M) h3 fun u v huv hu=>h5 u hu v huv⟩
theorem K15 (l:List Str) (s:Str):decide (J0t (fun x=>x==s) l 0<0) = !J2p l s:=by
 rw [←Jim l s]
 by_cases h:J0t (fun x=>x==s) l 0<0
 ·have h3:¬(0≤J0t (fun x=>x==s) l 0):=by omega
  simp [h,h3]
 ·have h3:0≤J0t (fun x=>x==s) l 0:=by omega
  simp [h,h3]
theorem Jcv {p:DProgram}{j:Nat}(hj:j<(J0h p).length):((J0h p).take (j+1)).map (Jh0 p)=((J0h p).take j).map (Jh0 p)++[Jh0 p (J0h p)[j]]:=by
 rw [List.take_succ_eq_append_getElem hj,List.map_append];rfl
theorem J8o (p:DProgram) (hp:J0k p≤1048576):Holds Tryz.prog 60 [.agg (J00 p)] (fun x=>x = .us 1 (J0a (J10 p))):=by
 have hfl:p.Functions.length≤1048576:=by have:=J2b J0v p.Functions;unfold J0k J1x at hp;omega
 refine J03 Tryz.func60 a60_ok rfl (by simp [a60]) ?_
 simp [a60,J00]
 generalize hT:J10 p=T
 have hTl:T.length=p.Functions.length:=by rw [←hT];simp [J10]
 refine J0l [1] 4 p.Functions.length (fun i s h n=>h 0=some ⟨true,2,[J00 p]⟩∧∃ (acc:List Str) (id:Nat),acc++T.drop i=T∧0<id∧id<n∧s 3 = .ref id 0 acc.length∧h id=some ⟨false,1,J0a acc⟩) (by unfold LIM;omega) (by simp) ⟨by simp [J00],[],1,by simp,by simp,by simp,by simp,by simp [J0a]⟩ ?_ ?_
 ·rintro i st h n R hi hg hk s4 hw ⟨e0,acc,id,hJ,hid0,hid,s3,eid⟩ hR hret _
  simp at hk
  have hin:i<T.length:=by omega
  have hni:T[i]=(p.Functions[i]).Name:=by subst hT;simp [J10]
  rw [List.drop_eq_getElem_cons hin,hni] at hJ
  have hal:=congrArg List.length hJ
  simp only [List.length_append,List.length_cons] at hal
  have z0:¬id=n:=by omega
  have z1:¬id=n+1:=by omega
  have z2:¬n+1=id:=by omega
  have z3:¬n=id:=by omega
  have z4:¬0=id:=by omega
  have z5:¬0=n:=by omega
  have z6:¬n=0:=by omega
  have z7:¬id=0:=by omega
  simp [hk,s4,hi,e0,J00,J04,s3,eid,z0,z1,z2,z3,z4,z5,z6,z7,hw]
  intro _
  refine ⟨by unfold LIM;omega,?_⟩
  exact hR _ _ _ (by simp [hk]) (by simp) ⟨by simp [e0,z0,z1,z2,z3,z4,z5,z6,z7,J00],acc++[(p.Functions[i]).Name],n+1,by simpa using hJ,by omega,by omega,by simp,by simp [J0a,List.take_of_length_le]⟩
 rintro st h n R hk s4 ⟨e0,acc,id,hJ,hid0,hid,s3,eid⟩ hret hX
 simp at hk
 rw [List.drop_eq_nil_of_le (by omega),List.append_nil] at hJ
 subst hJ
 simp [hk,s4,e0,J00]
 intro _
 refine hX _ _ _ _ ?_
 simp [s3,eid]
theorem J97 (p:DProgram) (hp:J0k p≤1048576) (name:Str):Holds Tryz.prog 136 [.agg (J00 p),.str name] (fun x=>x = .us 1 (J0a (J34 p name))):=by
 have hel:=Jln p hp
 have hNl:(J10 p).length=p.Functions.length:=by simp [J10]
 refine J03 Tryz.func136 a136_ok rfl (by simp [a136]) ?_
 simp [a136,J00]
 first|refine J01 (J8o p hp) (by first|simp [J00];done|rfl) ?_|refine J02 (J8o p hp) (by first|simp [J00];done|rfl) ?_
 rintro r rfl
 simp
 first|refine J01 (J7b p hp) (by first|simp [J00];done|rfl) ?_|refine J02 (J7b p hp) (by first|simp [J00];done|rfl) ?_
 rintro r rfl
 simp
 first|refine J01 (J3g p hp) (by first|simp [J00];done|rfl) ?_|refine J02 (J3g p hp) (by first|simp [J00];done|rfl) ?_
 rintro r rfl
 unfold J34
 cases h1:J2s p
 ·simp [J0a]
 simp
 have ht:List.take p.Functions.length (J0a (J10 p))=J0a (J10 p):=List.take_of_length_le (by simp [J0a,J10])
 have ht':List.take (J10 p).length (J0a (J10 p))=J0a (J10 p):=List.take_of_length_le (by simp [J0a])
 first|refine J01 (J28 (J10 p) name) (by first|simp [ht,ht',hNl];done|rfl) ?_|refine J02 (J28 (J10 p) name) (by first|simp [ht,ht',hNl];done|rfl) ?_
 rintro r rfl
 have g1:=Jim (J10 p) name
 cases h2:J2p (J10 p) name
 ·rw [h2] at g1
  simp at g1
  simp [g1,J0a]
 rw [h2] at g1
 simp at g1
 have g2:¬J0t (fun x=>x==name) (J10 p) 0<0:=by omega
 simp [g1,g2]
 obtain ⟨f1,f2,f3,f4⟩:=Jdb h1
 have hEE:J57 p=(J0h p).map (Jh0 p):=by rw [Jd3];unfold J0h;rw [h1];rfl
 have hE2:∀ e∈J57 p,e.2∈J10 p:=fun e he=>(f2 e he).2
 have hnm:name∈J10 p:=J3d.1 h2
 generalize hRN:J82 (J57 p) (J10 p) name=T
 refine Jkt (fun m s h n=>3<n∧s 2 = .ptr 0 0 0∧s 5 = .ref 1 0 (J10 p).length∧s 6 = .ref 2 0 (J0h p).length∧s 7 = .ref 3 0 0∧h 0=some ⟨true,2,[J00 p]⟩∧h 1=some ⟨false,1,J0a (J10 p)⟩∧h 2=some ⟨false,2,(J0h p).map J1y⟩∧h 3=some ⟨false,1,[]⟩∧∃ (M:List Str) (i id:Nat),m=(J10 p).length - i∧Je7 (J57 p) (J10 p) name M i∧s 9 = .int .i64 i∧3<id∧id<n∧s 8 = .ref id 0 M.length∧h id=some ⟨false,1,J0a M⟩) ((J10 p).length) ?_ ?_
 ·refine ⟨by simp,by simp,by simp,by simp,by simp,by simp [J00],by simp,by simp,by simp,[name],0,4,by simp,?_,by simp,by simp,by simp,by simp,by simp [J0a]⟩
  exact ⟨by simp,fun x hx=>by rw [List.mem_singleton.1 hx];exact ⟨hnm,.refl _⟩,by simp,by simp,by simp⟩
 rintro m st h n R ⟨hn,s2,s5,s6,s7,e0,e1,e2,e3,M,i,id,rfl,hS,s9,hid3,hid,s8,eid⟩ hR hret hX
 have hMl:=hS.len
 by_cases hi:i<M.length
 ·refine J0b (J0i [2,5,6,7,8,9] (fun s=>s 32 = .bool true) (by simp [s9,s8,eid,hi]) ?_)
  intro st1 hk1 s32
  simp at hk1
  refine J25 s32 (J0b (J1h ?_))
  simp
  have hw0:IntKind.i64.wrap ((i:Int)+1)=(i:Int)+1:=J0r (by omega)
  refine J0l [2,5,6,7,9] 10 (J0h p).length (fun j s h' n'=>3<n'∧h' 0=some ⟨true,2,[J00 p]⟩∧h' 1=some ⟨false,1,J0a (J10 p)⟩∧h' 2=some ⟨false,2,(J0h p).map J1y⟩∧h' 3=some ⟨false,1,[]⟩∧∃ (X:List Str) (id':Nat),Je7 (J57 p) (J10 p) name X i∧X[i]? = some M[i]∧(∀ e∈((J0h p).take j).map (Jh0 p),e.1=M[i]→e.2∈X)∧3<id'∧id'<n'∧s 8 = .ref id' 0 X.length∧h' id'=some ⟨false,1,J0a X⟩) (by unfold LIM;omega) (by simp) ⟨hn,e0,e1,e2,e3,M,id,hS,List.getElem?_eq_getElem hi,by simp,hid3,hid,by simp [hk1,s8],eid⟩ ?_ ?_
  ·rintro j st2 h2 n2 R2 hj hjg hk2 s10 hw ⟨hn2,b0,b1,b2,b3,X,id',hSX,hXi,hXE,hid3',hid',s8',eid'⟩ hR2 hret2 _
   simp at hk2
   obtain ⟨a,b,ha,hb,he,hf,ht0⟩:=Jhu hj
   obtain ⟨hiX,hXv⟩:=List.getElem?_eq_some_iff.1 hXi
   have hpe:Jh0 p (J0h p)[j]=((p.Rules[a]).Func,((p.Rules[a]).Calls[b]).Func):=by rw [he];unfold Jh0;rw [hf,ht0]
   have hpm:((p.Rules[a]).Func,((p.Rules[a]).Calls[b]).Func)∈J57 p:=by rw [hEE];exact List.mem_map.2 ⟨_,List.getElem_mem hj,hpe⟩
   have htX:List.take X.length (J0a X)=J0a X:=List.take_of_length_le (by simp [J0a])
   refine J0b (J0i [2,5,6,7,8,9,10] (fun s=>s 38 = .bool true) (by simp [hk2,hk1,s6,s10,hj,b2]) ?_)
   intro st3 hk3 s38
   simp at hk3
   refine J25 s38 (J0b (J1h ?_))
   refine J0i [2,5,6,7,8,9,10] (fun s=>s 62 = .bool (decide ((p.Rules[a]).Func=M[i]) && !J2p X ((p.Rules[a]).Calls[b]).Func)) ?_ ?_
   ·simp [hk3,hk2,hk1,s2,s6,s10,s9,s8',hj,b2,b0,eid',hiX,hXv,he,J1y,J00]
    first|refine J01 (J5o p ha (k:=b)) (by first|simp [J00,J0q];done|rfl) ?_|refine J02 (J5o p ha (k:=b)) (by first|simp [J00,J0q];done|rfl) ?_
    rintro r rfl
    by_cases c1:(p.Rules[a]).Func=M[i]
    ·simp [c1,hk3,hk2,hk1,s2,s6,s10,s9,s8',hj,b2,b0,eid',hiX,hXv,he,J1y,J00]
     first|refine J01 (J6g p ha hb) (by first|simp [J00,J0q];done|rfl) ?_|refine J02 (J6g p ha hb) (by first|simp [J00,J0q];done|rfl) ?_
     rintro r rfl
     simp [hk3,hk2,hk1,s8']
     first|refine J01 (J28 X ((p.Rules[a]).Calls[b]).Func) (by first|simp [htX,eid'];done|rfl) ?_|refine J02 (J28 X ((p.Rules[a]).Calls[b]).Func) (by first|simp [htX,eid'];done|rfl) ?_
     rintro r rfl
     have g3:=K15 X ((p.Rules[a]).Calls[b]).Func
     simp [g3]
    ·simp [c1,hk3,hk2,hk1,s2,s6,s10,s9,s8',hj,b2,b0,eid',hiX,hXv,he,J1y,J00]
   intro st4 hk4 s62
   simp at hk4
   have z0:¬id'=n2:=by omega
   have z1:¬id'=n2+1:=by omega
   have z2:¬n2+1=id':=by omega
   have z3:¬n2=id':=by omega
   have q0:¬0=n2:=by omega
   have q1:¬1=n2:=by omega
   have q2:¬2=n2:=by omega
   have q3:¬3=n2:=by omega
   have q4:¬n2=0:=by omega
   have q5:¬n2=1:=by omega
   have q6:¬n2=2:=by omega
   have q7:¬n2=3:=by omega
   have r0:¬0=id':=by omega
   have r1:¬1=id':=by omega
   have r2:¬2=id':=by omega
   have r3:¬3=id':=by omega
   by_cases c1:(p.Rules[a]).Func=M[i]
   ·cases c2:J2p X ((p.Rules[a]).Calls[b]).Func
    ·rw [c2,decide_eq_true c1] at s62
     simp at s62
     have hXN:=hSX.len
     have hfl3:(J10 p).length≤3:=by omega
     simp [hk4,hk3,hk2,hk1,s62,s2,s6,s10,s8',hj,b2,b0,he,J1y,J00]
     first|refine J01 (J6g p ha hb) (by first|simp [J00,J0q];done|rfl) ?_|refine J02 (J6g p ha hb) (by first|simp [J00,J0q];done|rfl) ?_
     rintro r rfl
     simp [hk4,hk3,hk2,hk1,s8',eid',s10,hw,z0,z1,z2,z3]
     refine ⟨by unfold LIM;omega,?_⟩
     refine hR2 _ _ _ (by simp [hk4,hk3,hk2,hk1]) (by simp) ⟨by omega,by simp [b0,q0,q4,r0,J00],by simp [b1,q1,q5,r1,q4],by simp [b2,q2,q6,r2,q5],by simp [b3,q3,q7,r3,q6],X++[((p.Rules[a]).Calls[b]).Func],n2+1,hSX.add (c:=M[i]) (by rw [←hXv];exact List.getElem_mem hiX) (by rw [←c1];exact hpm) (hE2 _ hpm) (Jbl.1 c2),by rw [List.getElem?_append_left hiX];exact hXi,?_,by omega,by omega,by simp,by simp [J0a,List.take_of_length_le]⟩
     intro e hm hc
     rw [Jcv hj,hpe] at hm
     rcases List.mem_append.1 hm with hm|hm
     ·exact List.mem_append_left _ (hXE e hm hc)
     ·rw [List.mem_singleton.1 hm];simp
    ·rw [c2] at s62
     simp at s62
     simp [hk4,hk3,hk2,hk1,s62,s10,hw]
     refine hR2 _ _ _ (by simp [hk4,hk3,hk2,hk1]) (by simp) ⟨hn2,b0,b1,b2,b3,X,id',hSX,hXi,?_,hid3',hid',by simp [hk4,hk3,s8'],eid'⟩
     intro e hm hc
     rw [Jcv hj,hpe] at hm
     rcases List.mem_append.1 hm with hm|hm
     ·exact hXE e hm hc
     ·rw [List.mem_singleton.1 hm];exact J3d.1 c2
   ·rw [decide_eq_false c1] at s62
    simp at s62
    simp [hk4,hk3,hk2,hk1,s62,s10,hw]
    refine hR2 _ _ _ (by simp [hk4,hk3,hk2,hk1]) (by simp) ⟨hn2,b0,b1,b2,b3,X,id',hSX,hXi,?_,hid3',hid',by simp [hk4,hk3,s8'],eid'⟩
    intro e hm hc
    rw [Jcv hj,hpe] at hm
    rcases List.mem_append.1 hm with hm|hm
    ·exact hXE e hm hc
    ·rw [List.mem_singleton.1 hm] at hc;exact absurd hc c1
  rintro st2 h2 n2 R2 hk2 s10 ⟨hn2,b0,b1,b2,b3,X,id',hSX,hXi,hXE,hid3',hid',s8',eid'⟩ hret2 hX2
  simp at hk2
  rw [List.take_of_length_le (by omega),←hEE] at hXE
  refine J0b (J0i [2,5,6,7,8,9] (fun s=>s 38 = .bool false) (by simp [hk2,hk1,s6,s10,b2]) ?_)
  intro st3 hk3 s38
  simp at hk3
  refine J29 s38 ?_
  refine hX2 _ _ _ _ ?_
  simp [hk3,hk2,hk1,s9,hw0]
  exact hR ((J10 p).length - (i+1)) _ _ _ (by omega) ⟨hn2,by simp [hk3,hk2,hk1,s2],by simp [hk3,hk2,hk1,s5],by simp [hk3,hk2,hk1,s6],by simp [hk3,hk2,hk1,s7],b0,b1,b2,b3,X,i+1,id',rfl,hSX.next hXi hXE,by simp,hid3',hid',by simp [hk3,s8'],eid'⟩
 have hiM:i=M.length:=by have:=hS.2.2.2.1;omega
 subst hiM
 have hT:(J10 p).filter (J2p M)=T:=by rw [←hRN];exact Jq3 hE2 hnm hS.done
 have hTn:T.length≤(J10 p).length:=by rw [←hT];exact List.length_filter_le _ _
 have hfl3:(J10 p).length≤3:=by omega
 refine J0b (J0i [5,7,8] (fun s=>s 32 = .bool false) (by simp [s9,s8,eid]) ?_)
 intro st1 hk1 s32
 simp at hk1
 refine J29 s32 ?_
 refine hX _ _ _ _ ?_
 simp
 have htM:List.take M.length (J0a M)=J0a M:=List.take_of_length_le (by simp [J0a])
 refine J0l [5,8] 11 (J10 p).length (fun i s h' n'=>id<n'∧3<n'∧h' 1=some ⟨false,1,J0a (J10 p)⟩∧h' id=some ⟨false,1,J0a M⟩∧∃ (acc:List Str) (ic:Nat),acc++((J10 p).drop i).filter (J2p M)=T∧ic≠1∧ic≠id∧ic<n'∧s 7 = .ref ic 0 acc.length∧h' ic=some ⟨false,1,J0a acc⟩) (by unfold LIM;omega) (by simp) ⟨hid,hn,e1,eid,[],3,by simpa using hT,by simp,by omega,hn,by simp [hk1,s7],by simp [e3,J0a]⟩ ?_ ?_
 ·rintro i st2 h2 n2 R2 hi hg hk2 s11 hw ⟨hn2,hn3,b1,bM,acc,ic,hJ,hc1,hcM,hic,s7',eic⟩ hR2 hret2 _
  simp at hk2
  rw [List.drop_eq_getElem_cons hi,List.filter_cons] at hJ
  refine J0b (J0i [5,7,8,11] (fun s=>s 75 = .bool true) (by simp [hk2,hk1,s5,s11,hi,b1]) ?_)
  intro st3 hk3 s75
  simp at hk3
  refine J25 s75 (J0b (J1h ?_))
  refine J0i [5,7,8,11] (fun s=>s 84 = .bool (J2p M (J10 p)[i])) ?_ ?_
  ·simp [hk3,hk2,hk1,s5,s8,s11,hi,b1]
   first|refine J01 (J28 M ((J10 p)[i]'hi)) (by first|simp [htM,bM];done|rfl) ?_|refine J02 (J28 M ((J10 p)[i]'hi)) (by first|simp [htM,bM];done|rfl) ?_
   rintro r rfl
   have g3:=Jim M (J10 p)[i]
   simp [g3]
  intro st4 hk4 s84
  simp at hk4
  have z0:¬ic=n2:=by omega
  have z1:¬ic=n2+1:=by omega
  have z2:¬n2+1=ic:=by omega
  have z3:¬n2=ic:=by omega
  have q1:¬1=n2:=by omega
  have q5:¬n2=1:=by omega
  have q4:¬n2=0:=by omega
  have r1:¬1=ic:=fun e=>hc1 e.symm
  have w0:¬id=n2:=by omega
  have w1:¬id=n2+1:=by omega
  have w2:¬id=ic:=fun e=>hcM e.symm
  cases c1:J2p M (J10 p)[i]
  ·rw [c1] at hJ s84
   simp only [Bool.false_eq_true,if_false] at hJ
   simp [hk4,hk3,hk2,hk1,s84,s11,hw]
   exact hR2 _ _ _ (by simp [hk4,hk3,hk2,hk1]) (by simp) ⟨hn2,hn3,b1,bM,acc,ic,hJ,hc1,hcM,hic,by simp [hk4,hk3,s7'],eic⟩
  rw [c1] at hJ s84
  simp only [if_true] at hJ
  have hal:=congrArg List.length hJ
  simp only [List.length_append,List.length_cons] at hal
  simp [hk4,hk3,hk2,hk1,s84,s11,hi,hw,s5,s7',eic,b1,z0,z1,z2,z3,q1,q5,q4,r1]
  refine ⟨by unfold LIM;omega,?_⟩
  exact hR2 _ _ _ (by simp [hk4,hk3,hk2,hk1]) (by simp) ⟨by omega,by omega,by simp [b1,q1,q5,r1,q4],by simp [bM,w0,w1,w2],acc++[(J10 p)[i]],n2+1,by simpa using hJ,by omega,by omega,by omega,by simp,by simp [J0a,List.take_of_length_le]⟩
 rintro st2 h2 n2 R2 hk2 s11 ⟨hn2,hn3,b1,bM,acc,ic,hJ,hc1,hcM,hic,s7',eic⟩ hret2 hX2
 simp at hk2
 rw [List.drop_eq_nil_of_le (by omega)] at hJ
 simp at hJ
 subst hJ
 refine J0b (J0i [7] (fun s=>s 75 = .bool false) (by simp [hk2,hk1,s5,s11,b1]) ?_)
 intro st3 hk3 s75
 simp at hk3
 refine J29 s75 ?_
 refine hX2 _ _ _ _ ?_
 simp [hk3,s7',eic]
def a270:AFn:= ⟨10,[.t 4],(.seq (.reg [Zo 4 (.mv (.k (.int .i64 0)))]) (.seq (.seq (.reg [Zv 5 0,Zv 6 1,Zo 7 (.bin .gtr (.t 5) (.t 6))]) (.cond (.t 7) (.seq (.reg [Zv 8 0,Zv 4 8]) .ret) .skip)) (.seq (.reg [Zv 9 1,Zv 4 9]) .ret)))⟩
theorem a270_ok:J06 Tryz.prog Tryz.f270=some a270:=by kernel_rfl
def a186:AFn:= ⟨15,[(.c 6 true 2)],(.seq (.reg [Zo 3 (.boxv (.t 0)),Zo 6 (.box [(.int .i64 0),(.nil 1)])]) (.seq (.reg [Zv 7 1,Zl 8 true 2 3,Zc 9 60 [.t 8],Zv 10 2,Zc 11 63 [.t 9,.t 10],Zc 12 270 [.t 11,(.k (.int .i64 0))],Zo 13 (.ixa 2 (.t 7) (.t 12)),Zl 14 true 2 13,⟨no,.st 2 (.t 6) (.t 14),no⟩]) .ret))⟩
theorem a186_ok:J06 Tryz.prog Tryz.f186=some a186:=by kernel_rfl
theorem K4l {p:DProgram}(h1:J2s p=true) {i:Nat}(hi:i<p.Rules.length) {f:DFunction}(hf:J1o p.Functions (p.Rules[i]).Func=some f):mdR p i=J66 p.Rules[i] f:=by
 have hg:p.Rules.getD (i:Int).toNat Jou=p.Rules[i]:=by simp [hi]
 have hin:inR (i:Int) 0 ((p.Rules.length:Int) - 1)=true:=by simp [inR];omega
 have hfa:Jm5 p p.Rules[i]=f:=by unfold Jm5;rw [hf];rfl
 unfold mdR Jdi
 simp only [h1,hin,hg,hfa,Bool.and_self,if_true,Option.getD_some]
theorem Jnu (x y:Int):Holds Tryz.prog 270 [i64 x,i64 y] (fun r=>r=i64 (if x>y then x else y)):=by
 refine J03 Tryz.func270 a270_ok rfl (by simp [a270]) ?_
 simp [a270]
 refine ⟨fun _ _=>by omega,fun _ _=>by omega⟩
theorem Jt4 {name:Str} : ∀ {l:List DFunction}{k:Nat},J0t (fun x=>x==name) (l.map (·.Name)) k=J0t (fun f:DFunction=>f.Name==name) l k
 | [],_=>rfl
 | f::l,k=>by
  simp only [List.map_cons,J0t]
  rw [Jt4]
theorem Jq8 {P:Program}{f:FuncId}{xs:List AV}{h:Heap}{n:Nat}{K:AV→Heap→Nat→Prop}
 (hA:J2c P f xs h n fun r h' _=>idb n r∧(∀ id,id<n→h' id=h id)∧K r h n):J2c P f xs h n K:=by
 refine ⟨hA.1,fun base w0 w L F vs H hv => ?_⟩
 refine (hA.2 base w0 w L F vs H hv).mono ?_
 rintro e w' ⟨v,r,L',n',F',h',rfl,H',J7l,hr,hs,hh,hk⟩
 refine ⟨v,r,Jtu n L',n,_,h,rfl,H.cut H' hh,?_,Jau (Ext.cut _ _ _) _ _ _ (Jeg _ _ _ hr hs),hk⟩
 exact ⟨Nat.le_refl _,fun id l hid hl=>J7l.old id l hid (J6t hl).2,J7l.size,fun b hb ho=>⟨(J7l.block b hb ho).1,fun h=>(J7l.block b hb ho).2 h.cut⟩⟩
theorem Jw4 {p:DProgram}(hp:J0k p≤1048576) {b:DBounds}{name:Str}(hf:(J1o p.Functions name).isSome=true) (hb:b.Lins.length=p.Functions.length) {h:Heap}{n:Nat}{K:AV→Heap→Nat→Prop}
 (hK:K (.agg (J05 (J4f p b name))) h n):J2c Tryz.prog 186 [.agg (J00 p),.sl 2 (b.Lins.map J05),.str name] h n K:=by
 obtain ⟨j,hj,hji⟩:=Jwv hf
 have hjl:j<b.Lins.length:=by omega
 have hl:J4f p b name=b.Lins[j]:=by unfold J4f;rw [hji];simp [hjl]
 rw [hl] at hK
 have ne:¬n=n+1∧¬n+1=n∧¬n=n+1+1∧¬n+1=n+1+1:=by omega
 have fr:∀ id,id<n→¬id=n∧¬id=n+1∧¬id=n+1+1:=by intro id _;omega
 refine Jq8 (J17 Tryz.func186 a186_ok rfl (by simp [a186]) ?_)
 simp [a186,J00]
 first|refine J01 (J8o p hp) (by first|simp [J00];done|rfl) ?_|refine J02 (J8o p hp) (by first|simp [J00];done|rfl) ?_
 rintro r rfl
 simp
 first|refine J01 (J28 (J10 p) name) (by first|simp [ne];done|rfl) ?_|refine J02 (J28 (J10 p) name) (by first|simp [ne];done|rfl) ?_
 rintro r rfl
 have hx:J0t (fun x=>x==name) (J10 p) 0=(j:Int):=by unfold J10;rw [Jt4,hji]
 simp [hx]
 first|refine J01 (Jnu (j:Int) 0) (by first|simp;done|rfl) ?_|refine J02 (Jnu (j:Int) 0) (by first|simp;done|rfl) ?_
 rintro r rfl
 have hm:(if (j:Int)>0 then (j:Int) else 0)=j:=by split <;> omega
 rw [hm]
 simp [hjl,J05,ne]
 refine ⟨by simp [idb,Jjk],?_,hK⟩
 intro id hid
 simp [fr id hid]
theorem J8h {p:DProgram}(hp:J0k p≤1048576) {b:DBounds}{name:Str}(hf:(J1o p.Functions name).isSome=true) (hb:b.Lins.length=p.Functions.length) {h:Heap}{n:Nat}{K:AV→Heap→Nat→Prop}
 (hk:K (.agg (J05 (J4f p b name))) h n):J2c Tryz.prog 186 [.agg (J00 p),.sl 2 (b.Lins.map J05),.str name] h n (hK h K):=Jw4 hp hf hb (by simpa using hk)
def ub51:AC:=(.draw (.op (Zl 33 true 2 2) (.op (Zf 34 0 2) (.op (Zl 35 false 1 34) (.op (Zv 36 8) (.op (Zo 37 (.ixa 4 (.t 35) (.t 36))) (.op (Zf 38 0 37) (.op (Zl 39 false 1 38) (.both (.op (Zc 40 97 [.t 33,.t 39]) (.op (Zv 32 40) (.op (Zo 41 (.ext (.t 32) 0)) (.op (Zo 42 (.ext (.t 32) 1)) (.op (Zo 9 (.box [(.int .i64 0),(.nil 2)])) (.hop ⟨no,.st 2 (.t 9) (.t 41),no⟩ [] (.op (Zv 10 42) .fin))))))) (.op (Zo 9 (.box [(.int .i64 0),(.nil 2)])) (.op (Zc 40 97 [.t 33,.t 39]) (.op (Zv 32 40) (.op (Zo 41 (.ext (.t 32) 0)) (.op (Zo 42 (.ext (.t 32) 1)) (.hop ⟨no,.st 2 (.t 9) (.t 41),no⟩ [] (.op (Zv 10 42) .fin))))))))))))))))
def ub52:AC:=(.draw (.op (Zf 44 1 3) (.op (Zl 45 false 1 44) (.op (Zv 46 8) (.op (Zo 47 (.ixa 2 (.t 45) (.t 46))) (.op (Zl 48 true 2 47) (.op (Zv 49 7) (.op (Zf 50 0 9) (.op (Zl 51 false 1 50) (.both (.op (Zc 52 99 [.t 49,.t 51]) (.both (.op (Zc 53 98 [.t 48,(.k (.int .i64 (-1))),.t 52]) (.op (Zv 43 53) (.op (Zo 54 (.ext (.t 43) 0)) (.op (Zo 55 (.ext (.t 43) 1)) (.op (Zo 11 (.box [(.int .i64 0),(.nil 1)])) (.hop ⟨no,.st 2 (.t 11) (.t 54),no⟩ [] (.op (Zv 12 55) .fin))))))) (.op (Zo 11 (.box [(.int .i64 0),(.nil 1)])) (.op (Zc 53 98 [.t 48,(.k (.int .i64 (-1))),.t 52]) (.op (Zv 43 53) (.op (Zo 54 (.ext (.t 43) 0)) (.op (Zo 55 (.ext (.t 43) 1)) (.hop ⟨no,.st 2 (.t 11) (.t 54),no⟩ [] (.op (Zv 12 55) .fin))))))))) (.op (Zo 11 (.box [(.int .i64 0),(.nil 1)])) (.op (Zc 52 99 [.t 49,.t 51]) (.op (Zc 53 98 [.t 48,(.k (.int .i64 (-1))),.t 52]) (.op (Zv 43 53) (.op (Zo 54 (.ext (.t 43) 0)) (.op (Zo 55 (.ext (.t 43) 1)) (.hop ⟨no,.st 2 (.t 11) (.t 54),no⟩ [] (.op (Zv 12 55) .fin))))))))))))))))))
def ub53:AC:=(.reg [Zv 59 6,Zl 60 true 2 9,Zl 61 true 2 11,Zo 62 (.build [(.int .i64 0),(.nil 2),(.int .i64 0),(.nil 1)] [(0,(2,(.t 60))),(2,(2,(.t 61)))]),Zo 63 (.bsl 4 [.t 62]),Zo 64 (.app 64 4 (.t 59) (.t 63)),Zv 6 64])
def ub61:AC:=(.reg [Zl 73 true 2 2,Zl 74 true 2 3,Zv 75 13,Zc 76 100 [.t 73,.t 74,.t 75],Zv 72 76,Zo 77 (.ext (.t 72) 0),Zo 78 (.ext (.t 72) 1),Zo 14 (.box [(.int .i64 0),(.nil 2),(.int .i64 0),(.nil 1)]),⟨no,.st 4 (.t 14) (.t 77),no⟩,Zv 15 78])
def ub63:AC:=(.reg [Zv 82 6,Zl 83 true 4 14,Zo 84 (.bsl 4 [.t 83]),Zo 85 (.app 64 4 (.t 82) (.t 84)),Zv 6 85])
def ub0:AC:=(.reg [Zo 2 (.boxv (.t 0)),Zo 3 (.boxv (.t 1)),Zo 4 (.mv (.k (.nil 4))),Zo 5 (.mv (.k (.bool false)))])
def ub1:AC:=(.seq (.reg [Zl 16 true 2 2,Zl 17 true 2 3,Zc 18 96 [.t 16,.t 17],Zo 19 (.un .not (.t 18))]) (.cond (.t 19) (.seq (.reg [Zo 20 (.bsl 4 []),Zv 4 20,Zo 5 (.mv (.k (.bool false)))]) .ret) .skip))
def ub2:AC:=(.reg [Zo 21 (.bsl 4 []),Zv 6 21])
def ub3:AC:=(.reg [Zo 7 (.mv (.k (.int .i64 0)))])
def ub4:AC:=(.seq (.reg [Zf 22 0 3,Zl 23 false 1 22,Zo 24 (.bin .eql (.t 23) (.k (.int .i64 1)))]) (.cond (.t 24) (.reg [Zo 7 (.mv (.k (.int .i64 1)))]) .skip))
def ub5:AC:=(.seq (.reg [Zo 8 (.mv (.k (.int .i64 0)))]) (.blk 0 (.loop (.seq (.seq (.reg [Zv 25 8,Zf 26 0 2,Zl 27 false 1 26,Zo 28 (.len false (.t 27)),Zo 29 (.bin .lss (.t 25) (.t 28))]) (.cond (.t 29) .skip (.exit 0))) (.seq (.blk 1 (.seq ub51 (.seq ub52 (.seq (.seq (.reg [Zv 56 12,Zo 57 (.un .not (.t 56))]) (.cond (.t 57) (.seq (.reg [Zo 58 (.bsl 4 []),Zv 4 58,Zo 5 (.mv (.k (.bool false)))]) .ret) .skip))  ub53)))) (.reg [Zv 30 8,Zo 31 (.bin .add (.t 30) (.k (.int .i64 1))),Zv 8 31]))))))
def ub6:AC:=(.seq (.reg [Zo 13 (.mv (.k (.int .i64 0)))]) (.blk 2 (.loop (.seq (.seq (.reg [Zv 65 13,Zf 66 1 2,Zl 67 false 1 66,Zo 68 (.len false (.t 67)),Zo 69 (.bin .lss (.t 65) (.t 68))]) (.cond (.t 69) .skip (.exit 2))) (.seq (.blk 3 (.seq  ub61 (.seq (.seq (.reg [Zv 79 15,Zo 80 (.un .not (.t 79))]) (.cond (.t 80) (.seq (.reg [Zo 81 (.bsl 4 []),Zv 4 81,Zo 5 (.mv (.k (.bool false)))]) .ret) .skip))  ub63))) (.reg [Zv 70 13,Zo 71 (.bin .add (.t 70) (.k (.int .i64 1))),Zv 13 71]))))))
def ub7:AC:=(.reg [Zv 86 6,Zv 4 86,Zo 5 (.mv (.k (.bool true)))])
def a31:AFn:=⟨87,[.t 4,.t 5],(.seq ub0 (.seq ub1 (.seq ub2 (.seq ub3 (.seq ub4 (.seq ub5 (.seq ub6 (.seq ub7 .ret))))))))⟩
theorem Jb7 {p:DProgram} : (J0h p).length≤16:=by
 unfold J0h
 split
 ·rename_i hp
  have hf:p.Rules.length≤8∧∀ r∈p.Rules,r.Calls.length≤2:=by
   refine ⟨?_,fun r hr => ?_⟩
   ·unfold J2s at hp
    simp only [Bool.and_eq_true,decide_eq_true_eq] at hp
    exact hp.1.2
   ·obtain ⟨f,_,R⟩:=Jb8 hp hr
    exact R.ncalls
  have key:∀ (l:List DRule) (i:Nat),(∀ r∈l,r.Calls.length≤2)→(J2j i l).length≤2*l.length:=by
   intro l
   induction l with
   | nil=>intro i _;simp [J2j]
   | cons r l ih=>
    intro i h
    have h1:=ih (i+1) fun x hx=>h x (List.mem_cons_of_mem _ hx)
    have h2:=h r List.mem_cons_self
    have h3:(J3j i r).length=r.Calls.length:=by simp [J3j]
    simp only [J2j,List.length_append,List.length_cons,h3]
    omega
  have:=key p.Rules 0 hf.2
  unfold J6z
  omega
 ·simp
theorem Jqu {p:DProgram}(h1:J2s p=true) {i k:Nat}(hi:i<p.Rules.length):(Jdt p ⟨i,k⟩).System.Rows.length≤10∧∀ l∈(Jdt p ⟨i,k⟩).System.Rows,l.Coeffs.length≤8:=by
 obtain ⟨f,hf,R⟩:=Jb8 h1 (List.getElem_mem hi)
 have hg:p.Rules.getD (i:Int).toNat Jou=p.Rules[i]:=by simp [hi]
 have hin:inR (i:Int) 0 ((p.Rules.length:Int) - 1)=true:=by simp [inR];omega
 have hfa:Jm5 p p.Rules[i]=f:=by unfold Jm5;rw [hf];rfl
 have:Jdt p ⟨i,k⟩=J66 p.Rules[i] f:=by unfold Jdt Jdi;simp only [h1,hin,hg,hfa,Bool.and_self,if_true,Option.getD_some]
 rw [this]
 obtain ⟨q1,q2,_⟩:=Jju h1 R
 exact ⟨q1,q2⟩
theorem K58 {b:Nat} : ∀ (l:List DObligation),(∀ o∈l,J2y o≤b)→J2e l≤b*l.length:=by
 intro l
 induction l with
 | nil=>intro _;simp [J2e,cL]
 | cons e l ih=>
  intro h
  have h1:=ih fun x hx=>h x (List.mem_cons_of_mem _ hx)
  have h2:=h e List.mem_cons_self
  unfold J2e at *
  simp only [cL,List.length_cons,Nat.mul_add,Nat.mul_one]
  omega
theorem Js7 {P:DObligation→Prop} : ∀ {l:List (Option DObligation)}{acc o:List DObligation},goO acc l=some o→(∀ x∈acc,P x)→(∀ x,some x∈l→P x)→∀ x∈o,P x
 | [],acc,o,h,ha,_=>by simp only [goO,Option.some.injEq] at h;subst h;exact ha
 | Option.none::_,_,_,h,_,_=>by simp [goO] at h
 | some y::l,acc,o,h,ha,hl=>by
  simp only [goO] at h
  refine Js7 h (fun x hx => ?_) fun x hx=>hl x (List.mem_cons_of_mem _ hx)
  rcases List.mem_append.1 hx with hx|hx
  ·exact ha x hx
  ·rw [List.mem_singleton.1 hx];exact hl y List.mem_cons_self
end Go.Proofs.YtoclolkigjbcgaaGreat

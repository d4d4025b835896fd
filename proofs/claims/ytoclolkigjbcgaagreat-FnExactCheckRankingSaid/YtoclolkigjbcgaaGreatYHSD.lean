/- The size of a model. -/
import Derived.Test.YtoclolkigjbcgaaGreatYHM3
import Derived.Test.YtoclolkigjbcgaaGreatYT1
import Derived.Test.YtoclolkigjbcgaaGreatYC13
import Derived.Test.YtoclolkigjbcgaaGreatProg
namespace Go.Proofs.YtoclolkigjbcgaaGreat
set_option maxRecDepth 40000
set_option maxHeartbeats 4000000
open Go Go.RowKit Go.Proofs
set_option linter.all false
theorem Jx6 {a b o:DLin}{k:Int}(h:J0g a k b=some o):o.Coeffs.length≤8:=by
 have:=J9p (a:=a) (k:=k) (b:=b)
 unfold J83 at this
 rw [h] at this;exact this
theorem Jqb {E:SEnv}{n:Nat} : ∀ {ts:List DTerm}{o r:DLin},o.Coeffs.length≤8→goS E n ts o=some r→r.Coeffs.length≤8
 | [],o,r,ho,h=>by cases h;exact ho
 | t::ts,o,r,ho,h=>by
  simp only [goS] at h
  split at h
  ·cases h
  ·rename_i o' ha
   exact Jqb (Jx6 ha) h
theorem Jmj {E:SEnv}{n:Nat}{s:DSum} : (Jdt E n s).Coeffs.length≤8:=by
 unfold Jdt Jtw
 cases h:goS E n s.Terms (J06 s.Const n) with
 | none=>simp [J0y]
 | some r=>exact Jqb (J72 _ _) h
theorem Jm5 {E:SEnv}{n:Nat}{a:DArg} : (Jga E n a).Coeffs.length≤8:=by
 unfold Jga Juy
 split
 ·split
  ·exact J72 _ _
  ·exact J9p
 ·exact Jmj
theorem Jxl {E:SEnv}{x:Str}{n:Int}(h:∀ e∈E,e.2.Coeffs.length≤8):(J2z (J06 0 n) E x).Coeffs.length≤8:=by
 by_cases hx:x∈J1c E
 ·exact Jlp h hx
 ·have:E.find? (fun e=>e.1==x)=Option.none:=by
   rw [List.find?_eq_none]
   intro e he hb
   exact hx (List.mem_map.2 ⟨e,he,by simpa using hb⟩)
  unfold J2z
  rw [this];exact J72 _ _
structure MOk (ms:MS):Prop where
 E:∀ e∈ms.E,e.2.Coeffs.length≤8
 R:∀ l∈ms.rows,l.Coeffs.length≤8
 P:∀ l∈ms.pars,l.Coeffs.length≤8
theorem Jb5 {α:Type}{l:List α}{x:α}{p:α→Prop}(h:∀ y∈l,p y) (hx:p x):∀ y∈l++[x],p y:=by
 intro y hy
 rcases List.mem_append.1 hy with hy|hy
 ·exact h y hy
 ·simp at hy;subst hy;exact hx
theorem MOk.par {n:Nat}(hn:n≤8) {ms:MS}(M:MOk ms) (x:Str):MOk (J9b n ms x):=
 ⟨Jb5 M.E (J6g n hn),M.R,Jb5 M.P (J6g n hn)⟩
theorem MOk.pat {n:Nat}(hn:n≤8) {ms:MS}(M:MOk ms) (q:DPattern):MOk (J5p n ms q):=by
 have hl:(Jjr n ms q).Coeffs.length≤8:=by unfold Jjr J4t;exact Jxl M.E
 unfold J5p
 split
 ·refine ⟨?_,Jb5 M.R hl,M.P⟩
  intro e he
  rcases List.mem_append.1 he with he|he
  ·exact M.E e he
  ·simp at he
   rcases he with rfl|rfl
   ·exact J6g n hn
   ·exact hl
 ·exact ⟨M.E,Jb5 M.R J9p,M.P⟩
theorem MOk.call {n:Nat}(hn:n≤8) {ms:MS}(M:MOk ms) (c:DCall):MOk (J5v n ms c):=by
 refine ⟨Jb5 M.E (J6g n hn),?_,M.P⟩
 intro l hl
 rcases List.mem_append.1 hl with hl|hl
 ·exact M.R l hl
 ·split at hl
  ·simp at hl;subst hl;exact J6g n hn
  ·cases hl
theorem MOk.fold {α:Type}{g:MS→α→MS}(hg:∀ ms x,MOk ms→MOk (g ms x)):∀ {l:List α}{ms:MS},MOk ms→MOk (l.foldl g ms)
 | [],_,h=>h
 | x::l,ms,h=>MOk.fold hg (l:=l) (hg ms x h)
theorem Jjl {n:Nat} : ∀ {xs:List DCall}{a:MS},(xs.foldl (J5v n) a).rows.length≤a.rows.length+xs.length∧(xs.foldl (J5v n) a).pars=a.pars∧(xs.foldl (J5v n) a).args.length=a.args.length+xs.length ∧
 ∀ l∈(xs.foldl (J5v n) a).args,l∈a.args∨(∃ c∈xs,l.length=c.Args.length∧∀ y∈l,y.Coeffs.length≤8)
 | [],a=>by simp
 | x::xs,a=>by
  obtain ⟨h1,h2,h3,h4⟩:=Jjl (n:=n) (xs:=xs) (a:=J5v n a x)
  simp only [List.foldl_cons,List.length_cons]
  have g1:(J5v n a x).rows.length≤a.rows.length+1:=by unfold J5v;simp only [List.length_append];split <;> simp
  have g3:(J5v n a x).args.length=a.args.length+1:=by simp [J5v]
  refine ⟨by omega,by rw [h2];rfl,by omega,?_⟩
  intro l hl
  rcases h4 l hl with h|⟨c,hc,h⟩
  ·rcases List.mem_append.1 h with h|h
   ·exact .inl h
   ·simp at h
    refine .inr ⟨x,List.mem_cons_self,by rw [h];simp,?_⟩
    intro y hy
    rw [h] at hy
    obtain ⟨z,_,rfl⟩:=List.mem_map.1 hy
    exact Jm5
  ·exact .inr ⟨c,List.mem_cons_of_mem _ hc,h⟩
theorem Jk1 {n:Nat} : ∀ {xs:List Str}{a:MS},(xs.foldl (J9b n) a).pars.length=a.pars.length+xs.length
 | [],a=>by simp
 | x::xs,a=>by
  have h1:=Jk1 (n:=n) (xs:=xs) (a:=J9b n a x)
  simp only [List.foldl_cons,List.length_cons]
  rw [h1];simp [J9b];omega
theorem Jiy {n:Nat} : ∀ {xs:List DPattern}{a:MS},(xs.foldl (J5p n) a).pars=a.pars
 | [],a=>rfl
 | x::xs,a=>by
  simp only [List.foldl_cons]
  rw [Jiy];unfold J5p;split <;> rfl
theorem Jo0 {p:DProgram}{r:DRule}{f:DFunction}(hp:J2e p=true) (R:RuleIn p r f):(J5t r f).System.Rows.length≤10∧(∀ l∈(J5t r f).System.Rows,l.Coeffs.length≤8)∧(J5t r f).Params.length≤2∧(∀ l∈(J5t r f).Params,l.Coeffs.length≤8) ∧
 (J5t r f).Args.length≤2∧(∀ l∈(J5t r f).Args,l.length≤2∧∀ y∈l,y.Coeffs.length≤8)∧(J5t r f).Result.Coeffs.length≤8∧(J5t r f).System.N≤6∧0≤(J5t r f).System.N:=by
 have hn:J19 r f≤8:=by have:=R.size;omega
 have hpar:=R.par
 have hnp:=R.npats
 have hnc:=R.ncalls
 have hng:=R.nguards
 have hpre:=R.npre
 have hdl:(Jdv f (J19 r f)).length≤4∧∀ l∈Jdv f (J19 r f),l.Coeffs.length≤8:=by
  have hlr:=Jby (n:=J19 r f) (xs:=f.Params) (i:=0)
  refine ⟨by unfold Jdv;simp;omega,?_⟩
  intro l hl
  rcases List.mem_append.1 hl with hl|hl
  ·have:∀ (xs:List Str) (i:Nat),∀ l∈Jd9 (J19 r f) xs i,l.Coeffs.length≤8:=by
    intro xs
    induction xs with
    | nil=>intro i l hl;cases hl
    | cons x xs ih=>
     intro i l hl
     rcases List.mem_append.1 hl with hl|hl
     ·split at hl
      ·simp at hl;subst hl;exact J6g _ hn
      ·cases hl
     ·exact ih _ l hl
   exact this _ _ l hl
  ·obtain ⟨x,hx,rfl⟩:=List.mem_map.1 hl
   have h1:=(J27 (R.pre x hx)).1
   have h2:f.Params.length≤J19 r f:=by unfold J19;omega
   simp [J44];omega
 have m1:MOk (ss1 r f):=MOk.fold (fun ms x h=>h.par hn x) ⟨by simp,hdl.2,by simp⟩
 have m1':MOk (Jc7 (ss1 r f) f.Params.length):=⟨m1.E,m1.R,m1.P⟩
 have m3:MOk (ss3 r f):=MOk.fold (fun ms x h=>h.pat hn x) m1'
 have m4:MOk (J0x (Jc7 (ss3 r f) (f.Params.length+J3j r.Patterns)) (r.Guards.map (Jdt (ss3 r f).E (J19 r f)))):=by
  refine ⟨m3.E,?_,m3.P⟩
  intro l hl
  rcases List.mem_append.1 hl with hl|hl
  ·exact m3.R l hl
  ·obtain ⟨g,_,rfl⟩:=List.mem_map.1 hl
   exact Jmj
 have m5:MOk (ss5 r f):=MOk.fold (fun ms x h=>h.call hn x) m4
 obtain ⟨c1,c2,c3,c4⟩:=Jjl (n:=J19 r f) (xs:=r.Calls) (a:=J0x (Jc7 (ss3 r f) (f.Params.length+J3j r.Patterns)) (r.Guards.map (Jdt (ss3 r f).E (J19 r f))))
 have d3:=Jbw (n:=J19 r f) (xs:=r.Patterns) (a:=Jc7 (ss1 r f) f.Params.length)
 have d1:=Jef (n:=J19 r f) (xs:=f.Params) (a:=⟨[],0,Jdv f (J19 r f),[],[]⟩)
 have e1:=Jk1 (n:=J19 r f) (xs:=f.Params) (a:=⟨[],0,Jdv f (J19 r f),[],[]⟩)
 have e3:=Jiy (n:=J19 r f) (xs:=r.Patterns) (a:=Jc7 (ss1 r f) f.Params.length)
 have hrows1:(ss1 r f).rows=Jdv f (J19 r f):=d1.2.2.2.1
 have hargs3:(ss3 r f).args=[]:=by
  have:(ss3 r f).args=(Jc7 (ss1 r f) f.Params.length).args:=d3.2.2.1
  rw [this];exact d1.2.2.1
 have hr3:(ss3 r f).rows.length=(Jdv f (J19 r f)).length+r.Patterns.length:=by
  have:(ss3 r f).rows.length=(Jc7 (ss1 r f) f.Params.length).rows.length+r.Patterns.length:=d3.1
  rw [this];show (ss1 r f).rows.length+_=_;rw [hrows1]
 have hp5:(ss5 r f).pars.length=f.Params.length:=by
  have h1:(ss5 r f).pars=(ss3 r f).pars:=c2
  have h2:(ss3 r f).pars=(ss1 r f).pars:=e3
  rw [h1,h2]
  have:(ss1 r f).pars.length=f.Params.length:=by rw [show (ss1 r f)=f.Params.foldl (J9b (J19 r f)) ⟨[],0,Jdv f (J19 r f),[],[]⟩ from rfl,e1];simp
  exact this
 refine ⟨?_,m5.R,?_,m5.P,?_,?_,Jm5,?_,?_⟩
 ·have:(ss5 r f).rows.length≤(ss3 r f).rows.length+r.Guards.length+r.Calls.length:=by
   refine Nat.le_trans c1 ?_
   show ((ss3 r f).rows++_).length+_≤_
   simp
  show (ss5 r f).rows.length≤10
  omega
 ·show (ss5 r f).pars.length≤2;omega
 ·have:(ss5 r f).args.length=(ss3 r f).args.length+r.Calls.length:=c3
  rw [hargs3] at this
  simp at this
  show (ss5 r f).args.length≤2;omega
 ·intro l hl
  rcases c4 l hl with h|⟨c,hc,h1,h2⟩
  ·have:l∈(ss3 r f).args:=h
   rw [hargs3] at this;cases this
  ·exact ⟨by rw [h1];exact (R.args hp c hc).1,h2⟩
 ·show ((J19 r f:Nat):Int)≤6;have:=R.size;omega
 ·show (0:Int)≤((J19 r f:Nat):Int);omega
def Jbr (i:Nat) (k:Nat):DEdge:=⟨i,k⟩
def J3c (i:Nat) (r:DRule):List DEdge:=(List.range r.Calls.length).map (Jbr i)
def J2j:Nat→List DRule→List DEdge
 | _,[]=>[]
 | i,r::l=>J3c i r++J2j (i+1) l
def J6k (p:DProgram):List DEdge:=J2j 0 p.Rules
def J0f (p:DProgram):List DEdge:=if J2e p then J6k p else []
def Jf3 (p:DProgram) (e:DEdge):Str:=match p.Rules[e.Rule.toNat]? with|some r=>r.Func|Option.none=>[]
def toE (p:DProgram) (e:DEdge):Str:=match p.Rules[e.Rule.toNat]? with|some r=>(match r.Calls[e.Call.toNat]? with|some c=>c.Func|Option.none=>[])|Option.none=>[]
def J4s (p:DProgram):List (Str×Str):=(J6k p).map fun e=>(Jf3 p e,toE p e)
def J11 (p:DProgram):List Str:=p.Functions.map (·.Name)
theorem Jbj {e:DEdge} : ∀ {l:List DRule}{i:Nat},e∈J2j i l→∃ j k:Nat,∃ hj:j<l.length,k<(l[j]).Calls.length∧e=⟨((i+j:Nat):Int),k⟩
 | [],_,h=>by cases h
 | r::l,i,h=>by
  simp only [J2j] at h
  rcases List.mem_append.1 h with h|h
  ·simp only [J3c,List.mem_map,List.mem_range,Jbr] at h
   obtain ⟨k,hk,rfl⟩:=h
   exact ⟨0,k,by simp,by simpa using hk,by simp⟩
  ·obtain ⟨j,k,hj,hk,rfl⟩:=Jbj h
   exact ⟨j+1,k,by simpa using hj,by simpa using hk,by congr 1;omega⟩
theorem J9j {p:DProgram}{e:DEdge}(h:e∈J6k p):∃ i k:Nat,∃ hi:i<p.Rules.length,k<(p.Rules[i]).Calls.length∧e=⟨(i:Int),(k:Int)⟩:=by
 obtain ⟨j,k,hj,hk,rfl⟩:=Jbj h
 exact ⟨j,k,hj,hk,by congr 1;omega⟩
theorem J9q {p:DProgram}{i k:Nat}(hi:i<p.Rules.length):Jf3 p ⟨(i:Int),(k:Int)⟩=(p.Rules[i]).Func:=by
 simp only [Jf3,Int.toNat_natCast,List.getElem?_eq_getElem hi]
theorem Jj5 {p:DProgram}{i k:Nat}(hi:i<p.Rules.length) (hk:k<(p.Rules[i]).Calls.length):toE p ⟨(i:Int),(k:Int)⟩=((p.Rules[i]).Calls[k]).Func:=by
 simp only [toE,Int.toNat_natCast,List.getElem?_eq_getElem hi,List.getElem?_eq_getElem hk]
theorem Jbq:∀ (l:List DRule) (i:Nat),(J2j i l).length≤wL J4u l
 | [],_=>Nat.zero_le _
 | r::l,i=>by
  have h1:=Jbq l (i+1)
  have h2:=J2c J6b r.Calls
  have h3:(J3c i r).length=r.Calls.length:=by simp [J3c]
  have h4:r.Calls.length≤J4u r:=by unfold J4u J8j;omega
  simp only [J2j,List.length_append,h3]
  unfold wL at h1 ⊢
  simp only [List.map_cons,List.sum_cons,List.length_cons]
  omega
theorem J9h (p:DProgram) (hw:J0j p≤1048576):(J6k p).length≤1048576:=by
 have:=Jbq p.Rules 0
 unfold J0j J9a at hw
 unfold J6k
 omega
theorem Jen {l:List DFunction}{s:Str}(h:(J18 l s).isSome=true):s∈l.map (·.Name):=by
 unfold J18 at h
 rw [List.find?_isSome] at h
 obtain ⟨f,hf,hn⟩:=h
 exact List.mem_map.2 ⟨f,hf,by simpa using hn⟩
theorem Jer:∀ {l met:List Str},J3q met l=true→l.Nodup∧∀ x∈l,x∉met
 | [],_,_=>⟨List.nodup_nil,fun _ h=>(by cases h)⟩
 | s::l,met,h=>by
  simp only [J3q,Bool.and_eq_true,Bool.not_eq_true'] at h
  obtain ⟨h1,h2⟩:=Jer h.2
  have h3:=Jbb.1 h.1
  refine ⟨List.nodup_cons.2 ⟨fun hs=>h2 s hs (by simp),h1⟩,?_⟩
  intro x hx
  rcases List.mem_cons.1 hx with rfl|hx
  ·exact h3
  ·exact fun hm=>h2 x hx (List.mem_append_left _ hm)
theorem Jbn {p:DProgram}{r:DRule} : ∀ {l:List DCall}{k:Nat},J2g p r k l=true→∀ c∈l,∃ s,J90 p c s=true
 | [],_,_,_,h=>by cases h
 | c::l,k,h,d,hd=>by
  simp only [J2g,Bool.and_eq_true] at h
  rcases List.mem_cons.1 hd with rfl|hd
  ·exact ⟨_,h.1⟩
  ·exact Jbn h.2 d hd
theorem Jcs {p:DProgram}(h:J2e p=true):(J11 p).Nodup∧(∀ e∈J4s p,e.1∈J11 p∧e.2∈J11 p)∧p.Functions.length≤3∧p.Rules.length≤8:=by
 unfold J2e at h
 simp only [Bool.and_eq_true,decide_eq_true_eq,J9o] at h
 obtain ⟨⟨⟨h1,h2⟩,h3⟩,h4⟩:=h
 have h1':p.Functions.length≤3:=by unfold inR at h1;simp at h1;omega
 refine ⟨(Jer h2.2).1,?_,h1',h3⟩
 intro e he
 obtain ⟨x,hx,rfl⟩:=List.mem_map.1 he
 obtain ⟨i,k,hi,hk,rfl⟩:=J9j hx
 have hr:=List.all_eq_true.1 h4 _ (List.getElem_mem hi)
 unfold J7d at hr
 simp only [Bool.and_eq_true,decide_eq_true_eq] at hr
 obtain ⟨⟨⟨⟨⟨⟨⟨g1,g2⟩,g3⟩,g4⟩,g5⟩,g6⟩,g7⟩,g8⟩:=hr
 rw [J9q hi,Jj5 hi hk]
 refine ⟨Jen g1,?_⟩
 obtain ⟨s,hs⟩:=Jbn g6 _ (List.getElem_mem hk)
 unfold J90 at hs
 simp only [Bool.and_eq_true] at hs
 exact Jen hs.1.1.1
def J2u (p:DProgram) (name:Str):List Str:=if J2e p&&J2l (J11 p) name then J76 (J4s p) (J11 p) name else []
def Jfv (p:DProgram) (name:Str):List Str:=(J2u p name).filter fun g=>J2l (J2u p g) name
theorem Jto {p:DProgram}{name:Str}(h:J2e p=true) (hn:name∈J11 p):Jfv p name=Jt3 (J4s p) (J11 p) name:=by
 unfold Jfv Jt3
 rw [show J2u p name=J76 (J4s p) (J11 p) name by unfold J2u;rw [h,J33.2 hn];rfl]
 refine List.filter_congr fun g hg => ?_
 have hgn:g∈J11 p:=(List.mem_filter.1 hg).1
 rw [show J2u p g=J76 (J4s p) (J11 p) g by unfold J2u;rw [h,J33.2 hgn];rfl]
def Jao (p:DProgram) (e:DEdge):Bool:=J2l (J2u p (toE p e)) (Jf3 p e)
def Jhj (p:DProgram) (e:DEdge):Bool:=decide (e∈J0f p)&&Jao p e
def a151:AFn:= ⟨30,[.t 2],(.seq (.reg [Zo 1 (.boxv (.t 0)),Zo 2 (.mv (.k (.nil 2)))]) (.seq (.reg [Zo 3 (.mv (.k (.nil 2)))]) (.seq (.seq (.reg [Zf 7 1 1,Zl 8 false 1 7,Zo 9 (.len false (.t 8)),Zo 10 (.mv (.k (.int .i64 0)))]) (.blk 0 (.loop (.seq (.reg [Zo 11 (.bin .lss (.t 10) (.t 9))]) (.seq (.cond (.t 11) .skip (.exit 0)) (.seq (.blk 1 (.seq (.reg [Zv 12 10,Zo 13 (.ixa 7 (.t 8) (.t 10)),Zl 14 true 7 13,Zo 5 (.box [(.str []),(.nil 4),(.nil 2),(.nil 3),(.bool false),(.nil 2),(.str [])]),Zv 4 12,⟨no,.st 7 (.t 5) (.t 14),no⟩]) (.seq (.reg [Zf 15 3 5,Zl 16 false 1 15,Zo 17 (.len false (.t 16)),Zo 18 (.mv (.k (.int .i64 0)))]) (.blk 2 (.loop (.seq (.reg [Zo 19 (.bin .lss (.t 18) (.t 17))]) (.seq (.cond (.t 19) .skip (.exit 2)) (.seq (.blk 3 (.seq (.reg [Zv 20 18,Zv 6 20]) (.reg [Zv 21 3,Zv 22 4,Zv 23 6,Zo 24 (.build [(.int .i64 0),(.int .i64 0)] [(0,(1,(.t 22))),(1,(1,(.t 23)))]),Zo 25 (.bsl 2 [.t 24]),Zo 26 (.app 16 2 (.t 21) (.t 25)),Zv 3 26]))) (.reg [Zo 27 (.bin .add (.t 18) (.k (.int .i64 1))),Zv 18 27]))))))))) (.reg [Zo 28 (.bin .add (.t 10) (.k (.int .i64 1))),Zv 10 28]))))))) (.seq (.reg [Zv 29 3,Zv 2 29]) .ret))))⟩
theorem a151_ok:J09 Tryz.prog Tryz.f151=some a151:=by kernel_rfl
def a125:AFn:= ⟨8,[.t 2],(.seq (.reg [Zo 1 (.boxv (.t 0)),Zo 2 (.mv (.k (.nil 2)))]) (.seq (.seq (.reg [Zl 3 true 2 1,Zc 4 67 [.t 3],Zo 5 (.un .not (.t 4))]) (.cond (.t 5) (.seq (.reg [Zo 2 (.mv (.k (.nil 2)))]) .ret) .skip)) (.seq (.reg [Zl 6 true 2 1,Zc 7 151 [.t 6],Zv 2 7]) .ret)))⟩
theorem a125_ok:J09 Tryz.prog Tryz.f125=some a125:=by kernel_rfl
def a122:AFn:= ⟨36,[.t 2],(.seq (.reg [Zo 1 (.boxv (.t 0)),Zo 2 (.mv (.k (.nil 2)))]) (.seq (.reg [Zo 6 (.bsl 2 []),Zv 3 6]) (.seq (.seq (.reg [Zl 7 true 2 1,Zc 8 61 [.t 7],Zo 9 (.un .not (.t 8))]) (.cond (.t 9) (.seq (.reg [Zv 10 3,Zv 2 10]) .ret) .skip)) (.seq (.seq (.reg [Zo 4 (.mv (.k (.int .i64 0)))]) (.blk 0 (.loop (.seq (.seq (.reg [Zv 11 4,Zf 12 1 1,Zl 13 false 1 12,Zo 14 (.len false (.t 13)),Zo 15 (.bin .lss (.t 11) (.t 14))]) (.cond (.t 15) .skip (.exit 0))) (.seq (.blk 1 (.seq (.reg [Zo 5 (.mv (.k (.int .i64 0)))]) (.blk 2 (.loop (.seq (.seq (.reg [Zv 18 5,Zf 19 1 1,Zl 20 false 1 19,Zv 21 4,Zo 22 (.ixa 7 (.t 20) (.t 21)),Zf 23 3 22,Zl 24 false 1 23,Zo 25 (.len false (.t 24)),Zo 26 (.bin .lss (.t 18) (.t 25))]) (.cond (.t 26) .skip (.exit 2))) (.seq (.blk 3 (.reg [Zv 29 3,Zv 30 4,Zv 31 5,Zo 32 (.build [(.int .i64 0),(.int .i64 0)] [(0,(1,(.t 30))),(1,(1,(.t 31)))]),Zo 33 (.bsl 2 [.t 32]),Zo 34 (.app 16 2 (.t 29) (.t 33)),Zv 3 34])) (.reg [Zv 27 5,Zo 28 (.bin .add (.t 27) (.k (.int .i64 1))),Zv 5 28]))))))) (.reg [Zv 16 4,Zo 17 (.bin .add (.t 16) (.k (.int .i64 1))),Zv 4 17])))))) (.seq (.reg [Zv 35 3,Zv 2 35]) .ret)))))⟩
theorem a122_ok:J09 Tryz.prog Tryz.f122=some a122:=by kernel_rfl
def Acc (z:Nat) (rows:List (List AV)) (v:AV) (h:Heap) (n:Nat):Prop:=(rows=[]∧v = .nil z)∨∃ id,id<n∧v = .ref id 0 rows.length∧h id=some ⟨false,z,rows⟩
theorem Ja7 {l:List DRule}{i k:Nat}(hi:i<l.length):J2j k (l.drop i)=J3c k l[i]++J2j (k+1) (l.drop (i+1)):=by rw [List.drop_eq_getElem_cons hi];rfl
theorem Jab {r:DRule}{i j:Nat}(hj:j<r.Calls.length):(J3c i r).drop j=Jbr i j::(J3c i r).drop (j+1):=by
 rw [List.drop_eq_getElem_cons (by simp [J3c,hj])]
 simp [J3c]
theorem Jbp (i:Nat) (r:DRule):(J3c i r).length=r.Calls.length:=by simp [J3c]
theorem Jbe (p:DProgram) (hp:J0j p≤1048576):Holds Tryz.prog 151 [.agg (J00 p)] (fun x=>x = .us 2 ((J6k p).map J25)):=by
 have hTl:=J9h p hp
 refine J03 Tryz.func151 a151_ok rfl (by simp [a151]) ?_
 simp [a151,J00]
 intro hlr
 unfold J6k at *
 generalize hT:J2j 0 p.Rules=T at *
 refine J0n [8,9] 10 p.Rules.length (fun i s h n=>∃ acc:List DEdge,acc++J2j i (p.Rules.drop i)=T∧Acc 2 (acc.map J25) (s 3) h n) hlr (by simp) ⟨[],by simpa using hT,.inl (by simp)⟩ ?_ ?_
 ·rintro i st h n R hi hg hk s10 hw ⟨acc,hJ,hA⟩ hR hret _
  simp at hk
  rw [Ja7 hi] at hJ
  refine J0i [3,8,9,10] (fun s=>s 11 = .bool true) (by simp [hk,s10,hi]) ?_
  intro st1 hk1 s11
  simp at hk1
  refine J3e s11 (J0c (J17 ?_))
  refine J1e [3,8,9,10] (fun s h' n'=>s 4 = .int .i64 i∧s 5 = .ptr n 0 0∧n'=n+1∧h' n=some ⟨true,7,[J0e p.Rules[i]]⟩∧Acc 2 (acc.map J25) (s 3) h' n') ?_ ?_
  ·simp [hk,hk1,s10,hi,J0e]
   rcases hA with ⟨ha,hv⟩|⟨id,hid,hv,he⟩
   ·exact .inl ⟨ha,hv⟩
   ·have z0:¬id=n:=by omega
    exact .inr ⟨id,by omega,hv,by simp [he,z0]⟩
  rintro st2 h2 n2 hk2 ⟨s4,s5,rfl,en,hA⟩
  simp at hk2
  refine J0c ?_
  simp [hk,hk1,hk2,s5,en,J0e]
  intro hlc
  refine J0n [4,8,9,10,17] 18 (p.Rules[i]).Calls.length (fun j s h n=>∃ acc:List DEdge,acc++((J3c i p.Rules[i]).drop j++J2j (i+1) (p.Rules.drop (i+1)))=T∧Acc 2 (acc.map J25) (s 3) h n) hlc (by simp) ⟨acc,by simpa using hJ,by simpa using hA⟩ ?_ ?_
  ·rintro j stj hj nj Rj hji hjg hkj s18 hwj ⟨accj,hJj,hAj⟩ hRj hretj _
   simp at hkj
   rw [Jab hji] at hJj
   have hal:=congrArg List.length hJj
   simp at hal
   rcases hAj with ⟨ha,hv⟩|⟨id,hid,hv,he⟩
   ·simp at ha
    subst ha
    simp [hkj,hk2,hk1,s4,s18,hji,hv,hwj]
    refine ⟨by unfold LIM;omega,?_⟩
    refine hRj _ _ _ (by simp [hkj]) (by simp) ⟨[Jbr i j],by simpa using hJj,.inr ⟨nj+1,by omega,by simp,by simp [J25,Jbr]⟩⟩
   ·simp at hv
    have z0:¬id=nj:=by omega
    have z1:¬id=nj+1:=by omega
    have z2:¬nj+1=id:=by omega
    have z3:¬nj=id:=by omega
    simp [hkj,hk2,hk1,s4,s18,hji,hv,he,z0,z1,z2,z3,hwj]
    refine ⟨by unfold LIM;omega,?_⟩
    refine hRj _ _ _ (by simp [hkj]) (by simp) ⟨accj++[Jbr i j],by simpa using hJj,.inr ⟨nj+1,by omega,by simp,by simp [J25,Jbr,List.take_of_length_le]⟩⟩
  rintro stj hj nj Rj hkj s18 ⟨accj,hJj,hAj⟩ hretj hXj
  simp at hkj
  rw [List.drop_eq_nil_of_le (by rw [Jbp];omega),List.nil_append] at hJj
  refine J0i [3,4,8,9,10,17] (fun s=>s 19 = .bool false) (by simp [hkj,s18]) ?_
  intro stk hkk s19
  simp at hkk
  refine J32 s19 ?_
  refine hXj _ _ _ _ ?_
  simp [hk,hk1,hk2,hkj,hkk,s10,hw]
  exact hR _ _ _ (by simp [hk,hk1,hk2,hkj,hkk]) (by simp) ⟨accj,hJj,by simpa [hkk] using hAj⟩
 rintro st h n R hk s10 ⟨acc,hJ,hA⟩ hret hX
 simp at hk
 rw [List.drop_eq_nil_of_le (by omega)] at hJ
 simp [J2j] at hJ
 subst hJ
 refine J0i [3] (fun s=>s 11 = .bool false) (by simp [hk,s10]) ?_
 intro st1 hk1 s11
 simp at hk1
 refine J32 s11 ?_
 refine hX _ _ _ _ ?_
 rcases hA with ⟨ha,hv⟩|⟨id,hid,hv,he⟩
 ·simp at ha
  simp [hk1,hv,ha]
 ·simp at hv
  simp [hk1,hv,he]
theorem J7n (p:DProgram) (hp:J0j p≤1048576):Holds Tryz.prog 125 [.agg (J00 p)] (fun x=>x = .us 2 ((J0f p).map J25)):=by
 refine J03 Tryz.func125 a125_ok rfl (by simp [a125]) ?_
 simp [a125,J00]
 first|refine J01 (J2n p hp) (by first|simp [J00];done|rfl) ?_|refine J02 (J2n p hp) (by first|simp [J00];done|rfl) ?_
 rintro r rfl
 unfold J0f
 cases h1:J2e p
 ·simp
 simp
 first|refine J01 (Jbe p hp) (by first|simp [J00];done|rfl) ?_|refine J02 (Jbe p hp) (by first|simp [J00];done|rfl) ?_
 rintro r rfl
 simp
theorem J61 (p:DProgram) (hp:J0j p≤1048576):Holds Tryz.prog 122 [.agg (J00 p)] (fun x=>x = .us 2 ((J0f p).map J25)):=by
 have hTl:=J9h p hp
 have hlr:p.Rules.length≤1048576:=by have:=J2c J4u p.Rules;unfold J0j J9a at hp;omega
 have hlc:∀ i,∀ hi:i<p.Rules.length,(p.Rules[i]).Calls.length≤1048576:=fun i hi=>by
  have h1:=J9y hp _ (List.getElem_mem hi)
  exact (Jaw h1).2.2.2.2.1
 refine J03 Tryz.func122 a122_ok rfl (by simp [a122]) ?_
 simp [a122,J00]
 first|refine J01 (J2d p hp) (by first|simp [J00];done|rfl) ?_|refine J02 (J2d p hp) (by first|simp [J00];done|rfl) ?_
 rintro r rfl
 unfold J0f
 cases h1:J2e p
 ·simp
 simp
 unfold J6k at *
 generalize hT:J2j 0 p.Rules=T at *
 refine J0n [1] 4 p.Rules.length (fun i s h n=>0<n∧h 0=some ⟨true,2,[J00 p]⟩∧∃ (acc:List DEdge) (id:Nat),acc++J2j i (p.Rules.drop i)=T∧0<id∧id<n∧s 3 = .ref id 0 acc.length∧h id=some ⟨false,2,acc.map J25⟩) (by unfold LIM;omega) (by simp) ⟨by simp,by simp [J00],[],1,by simpa using hT,by omega,by omega,by simp,by simp⟩ ?_ ?_
 ·rintro i st h n R hi hg hk s4 hw ⟨hn,e0,acc,id,hJ,hid0,hid,s3,eid⟩ hR hret _
  simp at hk
  rw [Ja7 hi] at hJ
  refine J0c (J0i [1,3,4] (fun s=>s 15 = .bool true) (by simp [hk,s4,hi,e0,J00]) ?_)
  intro st1 hk1 s15
  simp at hk1
  refine J1y s15 (J0c (J17 (J0c ?_)))
  simp [hk,hk1]
  refine J0n [1,4] 5 (p.Rules[i]).Calls.length (fun j s h n=>0<n∧h 0=some ⟨true,2,[J00 p]⟩∧∃ (acc:List DEdge) (id:Nat),acc++((J3c i p.Rules[i]).drop j++J2j (i+1) (p.Rules.drop (i+1)))=T∧0<id∧id<n∧s 3 = .ref id 0 acc.length∧h id=some ⟨false,2,acc.map J25⟩) (by have:=hlc i hi;unfold LIM;omega) (by simp) ⟨hn,by simpa using e0,acc,id,by simpa using hJ,hid0,hid,by simp [hk1,s3],by simpa using eid⟩ ?_ ?_
  ·rintro j stj hj nj Rj hji hjg hkj s5 hwj ⟨hnj,e0j,accj,idj,hJj,hid0j,hidj,s3j,eidj⟩ hRj hretj _
   simp at hkj
   rw [Jab hji] at hJj
   have hal:=congrArg List.length hJj
   simp at hal
   have z0:¬idj=nj:=by omega
   have z1:¬idj=nj+1:=by omega
   have z2:¬nj+1=idj:=by omega
   have z3:¬nj=idj:=by omega
   have z4:¬0=idj:=by omega
   have z5:¬0=nj:=by omega
   have z6:¬0=nj+1:=by omega
   have z7:¬idj=0:=by omega
   have z8:¬nj=0:=by omega
   refine J0c (J0i [1,3,4,5] (fun s=>s 26 = .bool true) (by simp [hk,hkj,hk1,s4,s5,hi,hji,e0j,J00,J0e]) ?_)
   intro stk hkk s26
   simp at hkk
   refine J1y s26 ?_
   simp [hk,hkj,hk1,hkk,s4,s5,s3j,eidj,e0j,z0,z1,z2,z3,z4,z5,z6,z7,z8,hwj]
   refine ⟨by unfold LIM;omega,?_⟩
   exact hRj _ _ _ (by simp [hkj,hkk]) (by simp) ⟨by omega,by simp [e0j,z4,z5,z6,z8],accj++[Jbr i j],nj+1,by simpa using hJj,by omega,by omega,by simp,by simp [J25,Jbr,List.take_of_length_le]⟩
  rintro stj hj nj Rj hkj s5 ⟨hnj,e0j,accj,idj,hJj,hid0j,hidj,s3j,eidj⟩ hretj hXj
  simp at hkj
  rw [List.drop_eq_nil_of_le (by rw [Jbp];omega),List.nil_append] at hJj
  refine J0c (J0i [1,3,4] (fun s=>s 26 = .bool false) (by simp [hk,hkj,hk1,s4,s5,hi,e0j,J00,J0e]) ?_)
  intro stk hkk s26
  simp at hkk
  refine J22 s26 ?_
  simp
  refine hXj _ _ _ _ ?_
  simp [hk,hk1,hkj,hkk,s4,hw]
  exact hR _ _ _ (by simp [hk,hk1,hkj,hkk]) (by simp) ⟨hnj,e0j,accj,idj,hJj,hid0j,hidj,by simp [hkk,s3j],eidj⟩
 rintro st h n R hk s4 ⟨hn,e0,acc,id,hJ,hid0,hid,s3,eid⟩ hret hX
 simp at hk
 rw [List.drop_eq_nil_of_le (by omega)] at hJ
 simp [J2j] at hJ
 subst hJ
 refine J0c (J0i [3] (fun s=>s 15 = .bool false) (by simp [hk,s4,e0,J00]) ?_)
 intro st1 hk1 s15
 simp at hk1
 refine J22 s15 ?_
 refine hX _ _ _ _ ?_
 simp [hk1,s3,eid]
def a152:AFn:= ⟨22,[.t 4,.t 5],(.seq (.reg [Zo 2 (.boxv (.t 0)),Zo 3 (.boxv (.t 1)),Zo 4 (.mv (.k (.str []))),Zo 5 (.mv (.k (.str [])))]) (.seq (.reg [Zf 7 1 2,Zl 8 false 1 7,Zf 9 0 3,Zl 10 false 1 9,Zo 11 (.ixa 7 (.t 8) (.t 10)),Zl 12 true 7 11,Zo 6 (.box [(.str []),(.nil 4),(.nil 2),(.nil 3),(.bool false),(.nil 2),(.str [])]),⟨no,.st 7 (.t 6) (.t 12),no⟩]) (.seq (.draw (.op (Zf 13 0 6) (.op (Zl 14 false 1 13) (.op (Zf 15 3 6) (.op (Zl 16 false 1 15) (.op (Zf 17 1 3) (.op (Zl 18 false 1 17) (.op (Zo 19 (.ixa 3 (.t 16) (.t 18))) (.op (Zf 20 1 19) (.op (Zl 21 false 1 20) (.op (Zv 4 14) (.op (Zv 5 21) .fin)))))))))))) .ret)))⟩
theorem a152_ok:J09 Tryz.prog Tryz.f152=some a152:=by kernel_rfl
def a199:AFn:= ⟨12,[.t 4],(.seq (.reg [Zo 2 (.boxv (.t 0)),Zo 3 (.boxv (.t 1)),Zo 4 (.mv (.k (.str [])))]) (.seq (.reg [Zf 5 1 2,Zl 6 false 1 5,Zf 7 0 3,Zl 8 false 1 7,Zo 9 (.ixa 7 (.t 6) (.t 8)),Zf 10 0 9,Zl 11 false 1 10,Zv 4 11]) .ret))⟩
theorem a199_ok:J09 Tryz.prog Tryz.f199=some a199:=by kernel_rfl
def a173:AFn:= ⟨17,[.t 4],(.seq (.reg [Zo 2 (.boxv (.t 0)),Zo 3 (.boxv (.t 1)),Zo 4 (.mv (.k (.str [])))]) (.seq (.draw (.op (Zf 5 1 2) (.op (Zl 6 false 1 5) (.op (Zf 7 0 3) (.op (Zl 8 false 1 7) (.op (Zo 9 (.ixa 7 (.t 6) (.t 8))) (.op (Zf 10 3 9) (.op (Zl 11 false 1 10) (.op (Zf 12 1 3) (.op (Zl 13 false 1 12) (.op (Zo 14 (.ixa 3 (.t 11) (.t 13))) (.op (Zf 15 1 14) (.op (Zl 16 false 1 15) (.op (Zv 4 16) .fin)))))))))))))) .ret))⟩
theorem a173_ok:J09 Tryz.prog Tryz.f173=some a173:=by kernel_rfl
theorem Ja9 (p:DProgram) {i k:Nat}(hi:i<p.Rules.length) (hk:k<(p.Rules[i]).Calls.length):Holds Tryz.prog 152 [.agg (J00 p),.agg (J0o ⟨i,k⟩)] (fun x=>x = .tup [.str (p.Rules[i]).Func,.str ((p.Rules[i]).Calls[k]).Func]):=by
 refine J03 Tryz.func152 a152_ok rfl (by simp [a152]) ?_
 simp [a152,J00,J0o,hi,hk,J0e,J12]
theorem J5a (p:DProgram) {i k:Nat}(hi:i<p.Rules.length):Holds Tryz.prog 199 [.agg (J00 p),.agg (J0o ⟨i,k⟩)] (fun x=>x = .str (p.Rules[i]).Func):=by
 refine J03 Tryz.func199 a199_ok rfl (by simp [a199]) ?_
 simp [a199,J00,J0o,hi,J0e,J12]
theorem J4a (p:DProgram) {i k:Nat}(hi:i<p.Rules.length) (hk:k<(p.Rules[i]).Calls.length):Holds Tryz.prog 173 [.agg (J00 p),.agg (J0o ⟨i,k⟩)] (fun x=>x = .str ((p.Rules[i]).Calls[k]).Func):=by
 refine J03 Tryz.func173 a173_ok rfl (by simp [a173]) ?_
 simp [a173,J00,J0o,hi,hk,J0e,J12]
def Jqt (b z:Nat) (rows:List (List AV)) (v:AV) (h:Heap) (n:Nat):Prop:=(rows=[]∧v = .nil z)∨∃ id,b<id∧id<n∧v = .ref id 0 rows.length∧h id=some ⟨false,z,rows⟩
theorem Jqt.mono {b z:Nat}{rows:List (List AV)}{v:AV}{h:Heap}{n m:Nat}(a:Jqt b z rows v h n) (hm:n≤m):Jqt b z rows v h m:=a.imp id fun ⟨i,h1,h2,h3⟩=>⟨i,h1,by omega,h3⟩
theorem J9l {p:DProgram}{j:Nat}(hj:j<(J0f p).length):∃ i k:Nat,∃ hi:i<p.Rules.length,∃ hk:k<(p.Rules[i]).Calls.length,(J0f p)[j]=⟨(i:Int),(k:Int)⟩∧Jf3 p ⟨(i:Int),(k:Int)⟩=(p.Rules[i]).Func∧toE p ⟨(i:Int),(k:Int)⟩=((p.Rules[i]).Calls[k]).Func:=by
 have hm:(J0f p)[j]∈J6k p:=by
  have h0:(J0f p)[j]∈J0f p:=List.getElem_mem hj
  generalize (J0f p)[j]=e at h0
  unfold J0f at h0
  split at h0
  ·exact h0
  ·cases h0
 obtain ⟨i,k,hi,hk,he⟩:=J9j hm
 exact ⟨i,k,hi,hk,he,J9q hi,Jj5 hi hk⟩
theorem J8b (p:DProgram) (hp:J0j p≤1048576):(J0f p).length≤1048576:=by
 have:=J9h p hp
 unfold J0f
 split
 ·exact this
 ·simp
theorem Jht (l:List Str) (s:Str):decide (0≤J0v (fun x=>x==s) l 0)=J2l l s:=by
 have:=J5z (p:=fun x=>x==s) (l:=l) (i:=0)
 simp only [ge_iff_le] at this
 simp [this,J2l]
def a128:AFn:= ⟨9,[(.c 2 true 2)],(.seq (.reg [Zo 1 (.boxv (.t 0)),Zo 2 (.box [(.int .i64 0),(.nil 2)])]) (.seq (.draw (.op (Zf 3 0 1) (.op (Zl 4 false 1 3) (.op (Zf 5 1 1) (.op (Zl 6 false 1 5) (.op (Zc 7 209 [.t 6]) (.op (Zo 8 (.build [(.int .i64 0),(.nil 2)] [(0,(1,(.t 4))),(1,(1,(.t 7)))])) (.hop ⟨no,.st 2 (.t 2) (.t 8),no⟩ [] .fin)))))))) .ret))⟩
theorem a128_ok:J09 Tryz.prog Tryz.f128=some a128:=by kernel_rfl
def a175:AFn:= ⟨27,[(.c 2 true 2)],(.seq (.reg [Zo 1 (.boxv (.t 0)),Zo 2 (.box [(.int .i64 0),(.nil 2)])]) (.seq (.reg [Zf 5 0 1,Zl 6 false 1 5,Zo 7 (.build [(.int .i64 0),(.nil 2)] [(0,(1,(.t 6)))]),Zo 3 (.box [(.int .i64 0),(.nil 2)]),⟨no,.st 2 (.t 3) (.t 7),no⟩]) (.seq (.seq (.reg [Zo 4 (.mv (.k (.int .i64 0)))]) (.blk 0 (.loop (.seq (.seq (.reg [Zv 8 4,Zf 9 1 1,Zl 10 false 1 9,Zo 11 (.len false (.t 10)),Zo 12 (.bin .lss (.t 8) (.t 11))]) (.cond (.t 12) .skip (.exit 0))) (.seq (.blk 1 (.draw (.op (Zf 15 1 3) (.op (Zl 16 false 1 15) (.op (Zf 17 1 1) (.op (Zl 18 false 1 17) (.op (Zv 19 4) (.op (Zo 20 (.ixa 2 (.t 18) (.t 19))) (.op (Zl 21 true 2 20) (.op (Zc 22 82 [.t 21]) (.hop (Zo 23 (.bsl 2 [.t 22])) [(.ld false 1 (.t 15)),(.fld 1 (.t 3))] (.hop (Zo 24 (.app 32 2 (.t 16) (.t 23))) [] (.op (Zf 25 1 3) (.hop ⟨no,.st 1 (.t 25) (.t 24),no⟩ [] .fin)))))))))))))) (.reg [Zv 13 4,Zo 14 (.bin .add (.t 13) (.k (.int .i64 1))),Zv 4 14])))))) (.seq (.reg [Zl 26 true 2 3,⟨no,.st 2 (.t 2) (.t 26),no⟩]) .ret))))⟩
theorem a175_ok:J09 Tryz.prog Tryz.f175=some a175:=by kernel_rfl
def po0:AC:=(.reg [Zo 1 (.boxv (.t 0)),Zo 2 (.mv (.k (.nil 4)))])
def po1:AC:=(.reg [Zo 3 (.mv (.k (.nil 4)))])
def pod:AC:=(.draw (.op (Zv 63 3) (.op (Zf 64 0 6) (.op (Zl 65 true 2 64) (.op (Zl 67 true 2 14) (.op (Zc 66 128 [.t 65]) (.op (Zo 68 (.build [(.int .i64 0),(.nil 2),(.int .i64 0),(.nil 1)] [(0,(2,(.t 66))),(2,(2,(.t 67)))])) (.hop (Zo 69 (.bsl 4 [.t 68])) [] (.hop (Zo 70 (.app 64 4 (.t 63) (.t 69))) [] (.hop (Zv 3 70) [] .fin))))))))))
def poi:AC:=(.seq (.reg [Zf 42 3 10,Zl 43 false 1 42,Zo 44 (.len false (.t 43)),Zo 45 (.mv (.k (.int .i64 0)))]) (.blk 2 (.loop (.seq (.reg [Zo 46 (.bin .lss (.t 45) (.t 44))]) (.seq (.cond (.t 46) .skip (.exit 2)) (.seq (.blk 3 (.seq (.reg [Zo 47 (.ixa 2 (.t 43) (.t 45)),Zl 48 true 2 47,Zo 13 (.box [(.int .i64 0),(.nil 1)]),⟨no,.st 2 (.t 13) (.t 48),no⟩]) (.seq (.reg [Zl 50 true 6 6,Zl 51 true 2 13,Zf 52 1 5,Zl 53 false 1 52,Zc 54 177 [.t 50,.t 51,.t 53],Zv 49 54,Zo 55 (.ext (.t 49) 0),Zo 56 (.ext (.t 49) 1),Zo 14 (.box [(.int .i64 0),(.nil 1)]),⟨no,.st 2 (.t 14) (.t 55),no⟩,Zv 15 56]) (.seq (.seq (.reg [Zv 57 15,Zo 58 (.un .not (.t 57))]) (.cond (.t 58) (.reg [Zf 59 0 6,Zf 60 0 59,Zl 61 false 1 60,Zc 62 178 [(.k (.int .i64 (-1))),.t 61],⟨no,.st 2 (.t 14) (.t 62),no⟩]) .skip)) pod)))) (.reg [Zo 71 (.bin .add (.t 45) (.k (.int .i64 1))),Zv 45 71])))))))
def po2:AC:=(.seq (.reg [Zl 16 true 2 1,Zc 17 125 [.t 16],Zo 18 (.len false (.t 17)),Zo 19 (.mv (.k (.int .i64 0)))]) (.blk 0 (.loop (.seq (.reg [Zo 20 (.bin .lss (.t 19) (.t 18))]) (.seq (.cond (.t 20) .skip (.exit 0)) (.seq (.blk 1 (.seq (.reg [Zo 21 (.ixa 2 (.t 17) (.t 19)),Zl 22 true 2 21,Zo 5 (.box [(.int .i64 0),(.int .i64 0)]),⟨no,.st 2 (.t 5) (.t 22),no⟩]) (.seq (.reg [Zl 24 true 2 1,Zf 25 0 5,Zl 26 false 1 25,Zc 27 126 [.t 24,.t 26],Zv 23 27,Zo 28 (.ext (.t 23) 0),Zo 29 (.ext (.t 23) 1),Zo 6 (.box [(.int .i64 0),(.nil 2),(.nil 2),(.nil 1),(.int .i64 0),(.nil 1)]),⟨no,.st 6 (.t 6) (.t 28),no⟩,Zv 7 29]) (.seq (.reg [Zl 31 true 2 1,Zl 32 true 2 5,Zc 33 152 [.t 31,.t 32],Zv 30 33,Zo 34 (.ext (.t 30) 0),Zo 35 (.ext (.t 30) 1),Zv 8 34,Zv 9 35]) (.seq (.reg [Zl 37 true 2 1,Zv 38 9,Zc 39 176 [.t 37,.t 38],Zv 36 39,Zo 40 (.ext (.t 36) 0),Zo 41 (.ext (.t 36) 1),Zo 10 (.box [(.str []),(.nil 1),(.bool false),(.nil 2)]),⟨no,.st 4 (.t 10) (.t 40),no⟩,Zv 11 41]) poi))))) (.reg [Zo 72 (.bin .add (.t 19) (.k (.int .i64 1))),Zv 19 72])))))))
def po3:AC:=(.reg [Zv 73 3,Zv 2 73])
def a94:AFn:=⟨74,[.t 2],(.seq po0 (.seq po1 (.seq po2 (.seq po3 .ret))))⟩
theorem a94_ok:J09 Tryz.prog Tryz.f94=some a94:=by kernel_rfl
theorem Jtj {l:List DLin}(h:∀ x∈l,x.Coeffs.length≤8):J4q l≤9*l.length:=by
 unfold J4q wL
 have:((l.map Jaa).sum)≤8*l.length:=by
  induction l with
  | nil=>simp
  | cons e l ih=>
   have h1:=ih fun x hx=>h x (List.mem_cons_of_mem _ hx)
   have h2:=h e List.mem_cons_self
   simp only [List.map_cons,List.sum_cons,List.length_cons]
   rw [show Jaa e=e.Coeffs.length from rfl]
   omega
 omega
theorem J9e (x:DSystem) (hw:J4q x.Rows≤1048576):Holds Tryz.prog 128 [.agg (J0z x)] (fun r=>r = .agg (J3h x)):=by
 refine J03 Tryz.func128 a128_ok rfl (by simp [a128]) ?_
 simp [a128,J0z]
 first|refine J01 (J9x x.Rows hw) (by first|simp;done|rfl) ?_|refine J02 (J9x x.Rows hw) (by first|simp;done|rfl) ?_
 rintro r rfl
 simp [J3h]
theorem Jfj (x:DSystem) (hw:J4q x.Rows≤1048576):Holds Tryz.prog 175 [.agg (J0z x)] (fun r=>r = .agg (J3h x)):=by
 have hl:=J2c Jaa x.Rows
 have hcl:∀ l∈x.Rows,l.Coeffs.length≤1048576:=fun l hl=>by
  have:=J3p (w:=Jaa) hl
  rw [show Jaa l=l.Coeffs.length from rfl] at this
  unfold J4q at hw;omega
 unfold J4q at hw
 refine J03 Tryz.func175 a175_ok rfl (by simp [a175]) ?_
 simp [a175,J0z]
 refine J0n [1,2,3] 4 x.Rows.length (fun i s h m=>2<m∧h 0=some ⟨true,2,[J0z x]⟩∧h 1=some ⟨true,2,[[.int .i64 0,.nil 2]]⟩∧∃ v,h 2=some ⟨true,2,[[.int .i64 x.N,v]]⟩∧J31 2 2 ((x.Rows.take i).map J07) v h m) (by unfold LIM;omega) (by simp)
  ⟨by simp,by simp [J0z],by simp,.nil 2,by simp,.inl (by simp)⟩ ?_ ?_
 ·rintro i st h m R hi hg hk s4 hw' ⟨hm,e0,e1,v,e2,B⟩ hR _ _
  simp at hk
  have hcl:=hcl _ (List.getElem_mem hi)
  refine J0c (J0i [1,2,3,4] (fun s=>s 12 = .bool true) (by simp [hk,s4,hi,e0,J0z]) ?_)
  intro st1 hk1 s12
  simp at hk1
  refine J1y s12 (J0c (J17 ?_))
  have ne:¬0=m∧¬1=m∧¬2=m∧¬m=2∧¬m=1∧¬m=0∧¬m+1=2∧¬m=m+1∧¬m+1=m:=by omega
  have fr:∀ id,id<m→¬id=m∧¬id=m+1:=by intro id _;omega
  simp [hk1,hk,s4,hi,e0,e2,J0z]
  first|refine J01 (J2p (x.Rows[i]'hi) hcl) (by first|simp;done|rfl) ?_|refine J02 (J2p (x.Rows[i]'hi) hcl) (by first|simp;done|rfl) ?_
  rintro r rfl
  simp [J07,e2,ne,hk1,hk]
  refine J35 (rows:=(x.Rows.take i).map J07) (rows2:=[[.int .i64 (x.Rows[i]).Const,.us 1 (J0l (x.Rows[i]).Coeffs)]]) (B.keep (n':=m+1+1) (by omega) fun id _ hid _=>by simp [fr id hid]) (by simp) (fun l e=>by have:=(B.lt e).2.1;omega) (by omega) (by simp;unfold LIM;omega) ?_
  intro h1 f1 f2
  have bx:∀ id z rows,id<m→h id=some ⟨true,z,rows⟩→h1 id=h id:=by
   intro id z rows h1' h3'
   rw [f2 id (by omega) (by omega) fun l e=>B.not_box h3' e];simp [fr id h1']
  have g0:=bx 0 _ _ (by omega) e0
  have g1:=bx 1 _ _ (by omega) e1
  have g2:=bx 2 _ _ (by omega) e2
  simp [g2,e2,s4,hw',hk1,hk]
  refine hR _ _ _ (by simp [hk1,hk]) (by simp) ⟨by omega,by simp [g0,e0],by simp [g1,e1],.ref (m+2) 0 (i+1),?_,.inr ⟨m+2,by omega,by omega,by simp;omega,?_⟩⟩
  ·simp;omega
  ·simp [ne,f1]
   have hi':i<(x.Rows.map J07).length:=by simpa using hi
   rw [List.take_succ_eq_append_getElem hi']
   simp [J07]
 ·rintro st h m R hk s4 ⟨hm,e0,e1,v,e2,B⟩ _ hX
  simp at hk
  rw [List.take_length] at B
  refine J0c (J0i [1,2,3] (fun s=>s 12 = .bool false) (by simp [hk,s4,e0,J0z]) ?_)
  intro st1 hk1 s12
  simp at hk1
  refine J22 s12 ?_
  refine hX _ _ _ _ ?_
  have cB:=B.cell
  simp [hk1,hk,e2,e1,-dt,-dtl,-J1d,Jce,cB]
  have B':J31 2 2 (x.Rows.map J07) v (upd h 1 (some ⟨true,2,[[.int .i64 x.N,v]]⟩)) m:=B.keep (Nat.le_refl _) fun id hb hid e=>by
   have:¬id=1:=by omega
   simp [this]
  obtain ⟨h2,d1,_⟩:=B'.dt
  simp [d1,J3h]
def Jnj (md:DModel) (l:DLin) (call:Int):DObligation:=⟨md.System,(J21 md l call).getD (J06 (-1) md.System.N)⟩
def Jc9 (p:DProgram) (e:DEdge):DModel:=(J92 p e.Rule).getD Jak
def Jdb (p:DProgram) (e:DEdge):List DLin:=((J18 p.Functions (toE p e)).getD fn0).Pre
def J8r (p:DProgram) (e:DEdge):List DObligation:=(Jdb p e).map fun l=>Jnj (Jc9 p e) l e.Call
def Jf9 (p:DProgram):List DObligation:=(J0f p).flatMap (J8r p)
theorem Jbc (p:DProgram) (hp:J0j p≤1048576):(Jf9 p).length≤2097152:=by
 have h1:=J8b p hp
 have h2:∀ l:List DEdge,(∀ e∈l,(J8r p e).length≤2)→(l.flatMap (J8r p)).length≤2*l.length:=by
  intro l
  induction l with
  | nil=>intro _;simp
  | cons e l ih=>
   intro h
   have g1:=ih fun x hx=>h x (List.mem_cons_of_mem _ hx)
   have g2:=h e List.mem_cons_self
   simp only [List.flatMap_cons,List.length_append,List.length_cons]
   omega
 have h3:=h2 (J0f p) fun e he=>by
  have hpo:J2e p=true:=by
   unfold J0f at he
   split at he
   ·assumption
   ·cases he
  simp only [J8r,List.length_map,Jdb]
  cases hf:J18 p.Functions (toE p e) with
  | none=>simp [fn0]
  | some g=>exact (Jq0 hpo hf).2.2.2
 unfold Jf9;omega
def a103:AFn:= ⟨31,[.t 4],(.seq (.reg [Zo 2 (.boxv (.t 0)),Zo 4 (.mv (.k (.bool false)))]) (.seq (.seq (.reg [Zv 7 1,Zo 8 (.len false (.t 7)),Zf 9 0 2,Zl 10 false 1 9,Zo 11 (.len false (.t 10)),Zo 12 (.bin .neq (.t 8) (.t 11))]) (.cond (.t 12) (.seq (.reg [Zo 4 (.mv (.k (.bool false)))]) .ret) .skip)) (.seq (.seq (.reg [Zv 13 1,Zo 14 (.len false (.t 13)),Zo 15 (.mv (.k (.int .i64 0)))]) (.blk 0 (.loop (.seq (.reg [Zo 16 (.bin .lss (.t 15) (.t 14))]) (.seq (.cond (.t 16) .skip (.exit 0)) (.seq (.blk 1 (.seq (.reg [Zv 17 15,Zo 18 (.ixa 2 (.t 13) (.t 15)),Zl 19 true 2 18,Zo 6 (.box [(.int .i64 0),(.nil 1)]),Zv 5 17,⟨no,.st 2 (.t 6) (.t 19),no⟩]) (.seq (.draw (.op (Zl 20 true 2 6) (.op (Zf 21 0 2) (.op (Zl 22 false 1 21) (.op (Zv 23 5) (.op (Zo 24 (.ixa 4 (.t 22) (.t 23))) (.op (Zf 25 1 24) (.op (Zl 26 false 1 25) (.op (Zo 27 (.len false (.t 26))) (.op (Zc 28 146 [.t 20,.t 27]) (.op (Zo 29 (.un .not (.t 28))) .fin))))))))))) (.cond (.t 29) (.seq (.reg [Zo 4 (.mv (.k (.bool false)))]) .ret) .skip)))) (.reg [Zo 30 (.bin .add (.t 15) (.k (.int .i64 1))),Zv 15 30]))))))) (.seq (.reg [Zo 4 (.mv (.k (.bool true)))]) .ret))))⟩
theorem a103_ok:J09 Tryz.prog Tryz.f103=some a103:=by kernel_rfl
def J80 (fs:List DFunction) (ls:List DLin):Bool:=decide (ls.length=fs.length)&&(ls.zip fs).all fun x=>J1g x.1 x.2.Params.length
theorem Jmu (p:DProgram) (ls:List DLin):Holds Tryz.prog 103 [.agg (J00 p),.sl 2 (ls.map J05)] (fun x=>x = .bool (J80 p.Functions ls)):=by
 refine J03 Tryz.func103 a103_ok rfl (by simp [a103]) ?_
 simp [a103,J00]
 unfold J80
 by_cases hl:ls.length=p.Functions.length
 case neg=>
  have hl':¬(ls.length:Int)=p.Functions.length:=by omega
  simp [hl,hl']
 simp [hl]
 intro hlm
 refine J0n [2,13,14] 15 ls.length (fun i s h n=>0<n∧h 0=some ⟨true,2,[J00 p]⟩∧((ls.drop i).zip (p.Functions.drop i)).all (fun x=>J1g x.1 x.2.Params.length)=(ls.zip p.Functions).all (fun x=>J1g x.1 x.2.Params.length)) (by omega) (by simp) ⟨by simp,by simp [J00],rfl⟩ ?_ ?_
 ·rintro i s h n R hi hg hk s15 hw ⟨hn,e0,hJ⟩ hR hret _
  have hi':i<p.Functions.length:=by omega
  simp at hk
  rw [List.drop_eq_getElem_cons hi,List.drop_eq_getElem_cons hi',List.zip_cons_cons,List.all_cons] at hJ
  have hn':¬0=n:=by omega
  simp [hk,s15,hi,hi',hg,hw,e0,hn',J05,J00,J04]
  first|refine J01 (J14 (ls[i]'hi) (p.Functions[i]'hi').Params.length) (by first|simp [J05];done|rfl) ?_|refine J02 (J14 (ls[i]'hi) (p.Functions[i]'hi').Params.length) (by first|simp [J05];done|rfl) ?_
  rintro r rfl
  cases h0:J1g ls[i] (p.Functions[i]).Params.length
  ·rw [h0] at hJ
   have hJ:(ls.zip p.Functions).all (fun x=>J1g x.1 x.2.Params.length)=false:=by rw [←hJ];rfl
   simp
   refine hret _ _ _ ?_
   simp [hJ]
  ·rw [h0,Bool.true_and] at hJ
   simp [hk,s15,hi,hg,hw]
   exact hR _ _ _ (by simp [hk]) (by simp) ⟨by omega,by simp [hn',e0,J00],hJ⟩
 ·rintro s h n R hk s15 ⟨hn,e0,hJ⟩ hret hX
  simp at hk
  rw [List.drop_eq_nil_of_le (Nat.le_refl _)] at hJ
  simp [hk,s15,hl]
  refine hX _ _ _ _ ?_
  rw [←hJ]
  simp
theorem Ji1 {p:DProgram}(h1:J2e p=true) {i k:Nat}(hi:i<p.Rules.length):J4q (Jc9 p ⟨i,k⟩).System.Rows≤1000:=by
 obtain ⟨f,hf,R⟩:=Jcf h1 (List.getElem_mem hi)
 have hg:p.Rules.getD (i:Int).toNat Jn5=p.Rules[i]:=by simp [hi]
 have hin:inR (i:Int) 0 ((p.Rules.length:Int) - 1)=true:=by simp [inR];omega
 have hfa:Jmp p p.Rules[i]=f:=by unfold Jmp;rw [hf];rfl
 have:Jc9 p ⟨i,k⟩=J5t p.Rules[i] f:=by unfold Jc9 J92;simp only [h1,hin,hg,hfa,Bool.and_self,if_true,Option.getD_some]
 rw [this]
 obtain ⟨q1,q2,_⟩:=Jo0 h1 R
 have:=Jtj q2
 omega
theorem Jqn {p:DProgram}{j:Nat}(hj:j<(J0f p).length):J2e p=true:=by
 unfold J0f at hj
 split at hj
 ·assumption
 ·simp at hj
section
variable {ks:List Kt}{s:Env}{h h':Heap}{n:Nat}{Q:Fin}
theorem Jwh {md:DModel}{t:DLin}{acc:List DObligation}{v:AV}{k6 k14:Nat}(s3:s 3=v) (s6:s 6 = .ptr k6 0 0) (s14:s 14 = .ptr k14 0 0) (e6:h k6=some ⟨true,6,[J0m md]⟩) (L:J49 t k14 h n) (B:J31 0 4 (acc.map J08) v h n) (hw:J4q md.System.Rows≤1048576) (hl:acc.length≤3000000)
 (hK:∀ s' h' n',(∀ j∈[1,2,5,6,17,18,19,43,44,45],s' j=s j)→n≤n'→(∀ id z rows,id<n→h id=some ⟨true,z,rows⟩→h' id=h id)→J31 0 4 ((acc++[(⟨md.System,t⟩:DObligation)]).map J08) (s' 3) h' n'→J2f Tryz.prog ks .normal s' h' n' Q):rC Tryz.prog pod ks s h n Q:=by
 obtain ⟨q,hkn,hqn,hkb,hqb⟩:=L
 have ne:¬q=n∧¬n=q∧¬n=n+1∧¬n+1=n∧¬n+1=q∧¬q=n+1:=by omega
 have fr:∀ id,id<n→¬id=n∧¬id=n+1∧¬id=n+1+1:=by intro id _;omega
 have hqv:∀ l,v ≠ .ref q 0 l:=fun l e=>by have:=(B.lt e).2.2.1;rw [hqb] at this;simp at this
 simp [pod,s3,s6,s14,e6,hkb]
 first|refine J01 (J9e md.System hw) (by first|simp;done|rfl) ?_|refine J02 (J9e md.System hw) (by first|simp;done|rfl) ?_
 rintro r rfl
 simp [J3h,hqb,ne]
 refine J35 (rows:=acc.map J08) (rows2:=[[.int .i64 md.System.N,.us 2 (md.System.Rows.map J07),.int .i64 t.Const,.us 1 (J0l t.Coeffs)]]) (B.keep (n':=n+1+1) (by omega) fun id _ hid e => ?_) (by simp) (fun l e=>by have:=(B.lt e).2.1;omega) (by omega) (by simp;unfold LIM;omega) ?_
 ·have:¬id=q:=fun e'=>hqv _ (by rw [←e'];exact e)
  simp [fr id hid,this]
 intro h1 f1 f2
 simp
 refine hK _ _ _ (by simp) (by omega) ?_ ?_
 ·intro id z rows h1' h3'
  have:¬id=q:=by rintro rfl;rw [hqb] at h3';simp at h3'
  rw [f2 id (by omega) (by omega) fun l e=>B.not_box h3' e];simp [fr id h1',this]
 ·simp
  exact .inr ⟨n+2,by omega,by omega,by simp,by simp [f1,J08]⟩
theorem Jwr {md:DModel}{e:DEdge}{g:DFunction}{acc0 T:List DObligation}{k5 k6 k10:Nat}{pr:List (List AV)}(s1:s 1 = .ptr 0 0 0) (s5:s 5 = .ptr k5 0 0) (s6:s 6 = .ptr k6 0 0) (s10:s 10 = .ptr k10 0 0) (hk5:k5<n) (hk6:k6<n) (hk0:0<n) (e0:h 0=some ⟨true,2,pr⟩) (e5:h k5=some ⟨true,2,[J0o e]⟩) (e6:h k6=some ⟨true,6,[J0m md]⟩) (e10:h k10=some ⟨true,4,[J04 g]⟩)
 (B:J31 0 4 (acc0.map J08) (s 3) h n) (hw:J4q md.System.Rows≤1048576) (hT:acc0++g.Pre.map (fun l=>Jnj md l e.Call)=T) (hTl:T.length≤2097152) (hgl:g.Pre.length≤1048576)
 (hK:∀ s' h' n',(∀ j∈[1,2,17,18,19],s' j=s j)→0<n'→h' 0=some ⟨true,2,pr⟩→J31 0 4 (T.map J08) (s' 3) h' n'→J2f Tryz.prog ks .normal s' h' n' Q):rC Tryz.prog poi ks s h n Q:=by
 simp [poi,s10,e10,J04]
 intro _
 refine J0n [1,2,5,6,17,18,19,43,44] 45 g.Pre.length (fun i s h m=>k5<m∧k6<m∧0<m∧h 0=some ⟨true,2,pr⟩∧h k5=some ⟨true,2,[J0o e]⟩∧h k6=some ⟨true,6,[J0m md]⟩∧∃ acc,J31 0 4 (acc.map J08) (s 3) h m∧acc++(g.Pre.drop i).map (fun l=>Jnj md l e.Call)=T) (by unfold LIM;omega) (by simp)
  ⟨hk5,hk6,hk0,e0,e5,e6,acc0,by simpa using B,by simpa using hT⟩ ?_ ?_
 ·rintro i st h m R hi hg hk s45 hw' ⟨m5,m6,m0,e0,e5,e6,acc,B,hJ⟩ hR _ _
  simp at hk
  rw [List.drop_eq_getElem_cons hi,List.map_cons] at hJ
  have hal:=congrArg List.length hJ
  simp at hal
  refine J0i [1,2,3,5,6,17,18,19,43,44,45] (fun s=>s 46 = .bool true) (by simp [hk,s45,hi]) ?_
  intro st1 hk1 s46
  simp at hk1
  refine J3e s46 (J0c (J17 ?_))
  have fr:∀ id,id<m→¬id=m:=by intro id _;omega
  refine J1e [1,2,3,5,6,17,18,19,43,44,45] (fun s h2 n2=>n2=m+1∧s 13 = .ptr m 0 0∧h2 m=some ⟨true,2,[J05 (g.Pre[i]'hi)]⟩∧∀ id,id<m→h2 id=h id) ?_ ?_
  ·simp [hk1,hk,s45,hi]
   exact fun id hid=>by simp [fr id hid]
  rintro st2 h2 n2 hk2 ⟨rfl,s13,em,hfr2⟩
  simp at hk2
  generalize g.Pre[i]=l at *
  have c5:=hfr2 k5 m5
  have c6:=hfr2 k6 m6
  rw [e5] at c5
  rw [e6] at c6
  have x5:st2 5 = .ptr k5 0 0:=by simp [hk2,hk1,hk,s5]
  have x6:st2 6 = .ptr k6 0 0:=by simp [hk2,hk1,hk,s6]
  refine J1e [1,2,3,5,6,17,18,19,43,44,45] (fun s h3 n3=>m+1<n3∧s 15 = .bool (J21 md l e.Call).isSome∧(∃ k,s 14 = .ptr k 0 0∧m<k∧J49 ((J21 md l e.Call).getD J0y) k h3 n3)∧∀ id,id<m→h3 id=h id) ?_ ?_
  ·simp [x5,x6,s13,em,c5,c6,J0o]
   first|refine J01 (J8c md l e.Call) (by first|simp;done|rfl) ?_|refine J02 (J8c md l e.Call) (by first|simp;done|rfl) ?_
   rintro r rfl
   rw [J0r]
   generalize (J21 md l e.Call).getD J0y=t
   generalize (J21 md l e.Call).isSome=b
   simp [J07]
   refine ⟨⟨by omega,m+1,by omega,by omega,by simp,by simp⟩,fun id hid => ?_⟩
   have:¬id=m+1∧¬id=m+1+1:=by omega
   simp [this,hfr2 id hid]
  rintro st3 h3 n3 hk3 ⟨hn3,s15,⟨k14,s14,hk14,q,y1,y2,y3,y4⟩,hfr3⟩
  simp at hk3
  have z6:st3 6 = .ptr k6 0 0:=by rw [hk3.2.2.2.2.1,x6]
  have d6:=hfr3 k6 m6
  rw [e6] at d6
  refine J1e [1,2,3,5,6,14,17,18,19,43,44,45] (fun s h4 n4=>n3≤n4∧J49 ((J21 md l e.Call).getD (J06 (-1) md.System.N)) k14 h4 n4∧∀ id,id<m→h4 id=h id) ?_ ?_
  ·cases ht:J21 md l e.Call with
   | some t=>
    rw [ht] at s15 y3 y4
    simp [s15]
    exact ⟨⟨q,y1,y2,y3,y4⟩,hfr3⟩
   | none=>
    rw [ht] at s15
    simp only [Option.isSome_none] at s15
    have nk:¬k14=n3∧¬n3=k14:=by omega
    simp [s15,z6,d6,J0m]
    first|refine J01 (J1w (-1) md.System.N) (by first|simp;done|rfl) ?_|refine J02 (J1w (-1) md.System.N) (by first|simp;done|rfl) ?_
    rintro r rfl
    generalize J06 (-1) md.System.N=t
    simp [J07,s14,nk,y3]
    refine ⟨⟨n3,by omega,by omega,by simp,by simp [nk]⟩,fun id hid => ?_⟩
    have:¬id=k14∧¬id=n3:=by omega
    simp [this,hfr3 id hid]
  rintro st4 h4 n4 hk4 ⟨hn4,L4,hfr4⟩
  simp at hk4
  have B4:J31 0 4 (acc.map J08) (st 3) h4 n4:=B.keep (by omega) fun id _ hid _=>hfr4 id hid
  refine Jwh (md:=md) (t:=(J21 md l e.Call).getD (J06 (-1) md.System.N)) (acc:=acc) (v:=st 3) (k6:=k6) (k14:=k14) (by simp [hk4,hk3,hk2,hk1]) (by simp [hk4,z6]) (by simp [hk4,s14]) (by rw [hfr4 k6 m6,e6]) L4 B4 hw (by omega) ?_
  intro st5 h5 n5 hk5 hn5 bx5 B5
  simp at hk5
  simp [hk5,hk4,hk3,hk2,hk1,s45,hw']
  have f0:=hfr4 0 m0
  have f5:=hfr4 k5 m5
  have f6:=hfr4 k6 m6
  rw [e0] at f0
  rw [e5] at f5
  rw [e6] at f6
  refine hR _ _ _ (by simp [hk5,hk4,hk3,hk2,hk1,hk]) (by simp) ⟨by omega,by omega,by omega,by rw [bx5 0 _ _ (by omega) f0,f0],by rw [bx5 k5 _ _ (by omega) f5,f5],by rw [bx5 k6 _ _ (by omega) f6,f6],acc++[Jnj md l e.Call],?_,by simpa using hJ⟩
  simp
  simpa [Jnj] using B5
 ·rintro st h m R hk s45 ⟨m5,m6,m0,e0,e5,e6,acc,B,hJ⟩ _ hX
  simp at hk
  rw [List.drop_eq_nil_of_le (by omega)] at hJ
  simp at hJ
  subst hJ
  refine J0i [1,2,3,17,18,19] (fun s=>s 46 = .bool false) (by simp [hk,s45]) ?_
  intro st1 hk1 s46
  simp at hk1
  refine J32 s46 ?_
  refine hX _ _ _ _ ?_
  simp
  refine hK _ _ _ (by simp [hk1,hk]) m0 e0 ?_
  rw [hk1.2.2.1];exact B
end
theorem J8o (p:DProgram) (hp:J0j p≤1048576):Holds Tryz.prog 94 [.agg (J00 p)] (fun x=>x = .us 4 ((Jf9 p).map J08)):=by
 have hTl:=Jbc p hp
 have hel:=J8b p hp
 refine J03 Tryz.func94 a94_ok rfl (by simp [a94]) ?_
 simp [a94,po0,po1,po2,J00]
 refine J5l (J7n p hp) (by simp [J00]) ?_
 rintro _ rfl
 simp
 intro _
 unfold Jf9 at hTl ⊢
 generalize hT:(J0f p).flatMap (J8r p)=T at *
 refine J0n [1,17,18] 19 (J0f p).length (fun i s h m=>0<m∧h 0=some ⟨true,2,[J00 p]⟩∧∃ acc,J31 0 4 (acc.map J08) (s 3) h m∧acc++((J0f p).drop i).flatMap (J8r p)=T) (by unfold LIM;omega) (by simp) ⟨by simp,by simp [J00],[],.inl (by simp),by simpa using hT⟩ ?_ ?_
 ·rintro i st h m R hi hg hk s19 hw' ⟨m0,e0,acc,B,hJ⟩ hR _ _
  simp at hk
  have hpo:=Jqn hi
  rw [List.drop_eq_getElem_cons hi,List.flatMap_cons] at hJ
  obtain ⟨x,y,hx,hy,he,hf,ht0⟩:=J9l hi
  rw [←List.append_assoc] at hJ
  generalize hrest:List.flatMap (J8r p) (List.drop (i+1) (J0f p))=rest at hJ
  have hal:=congrArg List.length hJ
  simp only [List.length_append] at hal
  refine J0i [1,3,17,18,19] (fun s=>s 20 = .bool true) (by simp [hk,s19,hi]) ?_
  intro st1 hk1 s20
  simp at hk1
  refine J3e s20 (J0c (J17 ?_))
  have fr:∀ id,id<m→¬id=m∧¬id=m+1∧¬id=m+1+1:=by intro id _;omega
  have hedge:(J8r p (J0f p)[i])=((Jdb p ⟨x,y⟩).map fun l=>Jnj (Jc9 p ⟨x,y⟩) l (y:Int)):=by rw [he];rfl
  rw [hedge] at hJ hal
  have hpa:Jdb p ⟨x,y⟩=((J18 p.Functions ((p.Rules[x]).Calls[y]).Func).getD fn0).Pre:=by unfold Jdb;rw [ht0]
  have hgl:(Jdb p ⟨x,y⟩).length≤1048576:=by
   rw [hpa]
   cases hfn:J18 p.Functions ((p.Rules[x]).Calls[y]).Func with
   | none=>simp [fn0]
   | some g=>have:=(Jq0 hpo hfn).2.2.2;simp only [Option.getD_some];omega
  have hmsz:=Ji1 hpo (k:=y) hx
  refine J1e [1,2,3,17,18,19] (fun s h2 n2=>n2=m+1∧s 5 = .ptr m 0 0∧h2 m=some ⟨true,2,[J0o ⟨x,y⟩]⟩∧∀ id,id<m→h2 id=h id) ?_ ?_
  ·simp [hk1,hk,s19,hi,he]
   exact fun id hid=>by simp [fr id hid]
  rintro st2 h2 n2 hk2 ⟨rfl,s5,em,hfr2⟩
  simp at hk2
  have c0:=hfr2 0 m0
  rw [e0] at c0
  have x1:st2 1 = .ptr 0 0 0:=by simp [hk2,hk1,hk]
  refine J1e [1,2,3,5,17,18,19] (fun s h3 n3=>n3=m+1+1∧s 6 = .ptr (m+1) 0 0∧h3 (m+1)=some ⟨true,6,[J0m (Jc9 p ⟨x,y⟩)]⟩∧h3 m=some ⟨true,2,[J0o ⟨x,y⟩]⟩∧∀ id,id<m→h3 id=h id) ?_ ?_
  ·simp [x1,c0,s5,em,J0o]
   refine J5l (Jj6 p hp x) (by simp [J00]) ?_
   rintro _ rfl
   have hmd:(J92 p x).getD Jak=Jc9 p ⟨x,y⟩:=rfl
   unfold J55
   rw [hmd]
   generalize Jc9 p ⟨x,y⟩=md
   simp
   refine ⟨by simp [em,J0o],fun id hid=>by simp [fr id hid,hfr2 id hid]⟩
  rintro st3 h3 n3 hk3 ⟨rfl,s6,e6,e5,hfr3⟩
  simp at hk3
  have c0':=hfr3 0 m0
  rw [e0] at c0'
  refine J0i [1,2,3,5,6,17,18,19] (fun s=>s 9 = .str ((p.Rules[x]).Calls[y]).Func) ?_ ?_
  ·simp [hk3,x1,c0',s5,e5]
   first|refine J01 (Ja9 p hx hy) (by first|simp [J00];done|rfl) ?_|refine J02 (Ja9 p hx hy) (by first|simp [J00];done|rfl) ?_
   rintro r rfl
   simp [hk3,s5]
  intro st4 hk4 s9
  simp at hk4
  refine J1e [1,2,3,5,6,17,18,19] (fun s h5 n5=>n5=m+1+1+1∧s 10 = .ptr (m+1+1) 0 0∧h5 (m+1+1)=some ⟨true,4,[J04 ((J18 p.Functions ((p.Rules[x]).Calls[y]).Func).getD fn0)]⟩∧∀ id,id<m+1+1→h5 id=h3 id) ?_ ?_
  ·simp [hk4,hk3,x1,c0',s9]
   refine J5l (J2b p ((p.Rules[x]).Calls[y]).Func hp) (by simp [J00]) ?_
   rintro _ rfl
   unfold J8u
   generalize (J18 p.Functions ((p.Rules[x]).Calls[y]).Func).getD fn0=g
   simp
   intro id hid
   have:¬id=m+1+1:=by omega
   simp [this]
  rintro st5 h5 n5 hk5 ⟨rfl,s10,e10,hfr5⟩
  simp at hk5
  refine Jwr (md:=Jc9 p ⟨x,y⟩) (e:=⟨x,y⟩) (g:=(J18 p.Functions ((p.Rules[x]).Calls[y]).Func).getD fn0) (acc0:=acc) (T:=acc++(Jdb p ⟨x,y⟩).map fun l=>Jnj (Jc9 p ⟨x,y⟩) l (y:Int)) (k5:=m) (k6:=m+1) (k10:=m+1+1) (pr:=[J00 p]) (by simp [hk5,hk4,hk3,x1]) (by simp [hk5,hk4,hk3,s5]) (by simp [hk5,hk4,s6]) s10 (by omega) (by omega) (by omega) (by rw [hfr5 0 (by omega),c0']) (by rw [hfr5 m (by omega),e5]) (by rw [hfr5 (m+1) (by omega),e6]) e10 ?_ (by omega) (by rw [hpa]) (by simp only [List.length_append];omega) (by rw [←hpa];exact hgl) ?_
  ·have:st5 3=st 3:=by simp [hk5,hk4,hk3,hk2,hk1]
   rw [this]
   exact B.keep (by omega) fun id _ hid _=>by rw [hfr5 id (by omega),hfr3 id hid]
  intro st6 h6 n6 hk6 hn6 e06 B6
  simp at hk6
  simp [hk6,hk5,hk4,hk3,hk2,hk1,s19,hw']
  refine hR _ _ _ (by simp [hk6,hk5,hk4,hk3,hk2,hk1,hk]) (by simp) ⟨by omega,e06,_,?_,by rw [hrest];exact hJ⟩
  simp only [Jkf (show ¬3=19 by omega),Jkf (show ¬3=72 by omega)]
  exact B6
 ·rintro st h m R hk s19 ⟨m0,e0,acc,B,hJ⟩ _ hX
  simp at hk
  rw [List.drop_eq_nil_of_le (by omega)] at hJ
  simp at hJ
  subst hJ
  refine J0i [3] (fun s=>s 20 = .bool false) (by simp [hk,s19]) ?_
  intro st1 hk1 s20
  simp at hk1
  refine J32 s20 ?_
  refine hX _ _ _ _ ?_
  obtain ⟨h2,d1,_⟩:=B.dt
  simp [po3,hk1,-dt,-dtl,d1]
def J4g (p:DProgram) (b:DBounds) (name:Str):DLin:=b.Lins.getD (J0v (fun f=>f.Name==name) p.Functions 0).toNat J0y
theorem Juo {p:DProgram}{name:Str}(h:(J18 p.Functions name).isSome=true):∃ j:Nat,j<p.Functions.length∧J0v (fun f=>f.Name==name) p.Functions 0=(j:Int):=by
 rcases J8w (p:=fun f:DFunction=>f.Name==name) (l:=p.Functions) (k:=0) with ⟨h1,_⟩|⟨j,hj,h1,_⟩
 ·unfold J18 at h;rw [h1] at h;simp at h
 ·exact ⟨j,hj,by simpa using h1⟩
theorem Jml {p:DProgram}{r:DRule} : ∀ {l:List DCall}{k:Nat},J2g p r k l=true→∀ c∈l,(J18 p.Functions c.Func).isSome=true
 | [],_,_,_,h=>by cases h
 | c::l,k,h,x,hx=>by
  simp only [J2g,Bool.and_eq_true] at h
  rcases List.mem_cons.1 hx with rfl|hx
  ·have:=h.1;unfold J90 at this;simp only [Bool.and_eq_true] at this;exact this.1.1.1
  ·exact Jml h.2 x hx
def goO:List DObligation→List (Option DObligation)→Option (List DObligation)
 | acc,[]=>some acc
 | _,Option.none::_=>Option.none
 | acc,some x::l=>goO (acc++[x]) l
def mdR (p:DProgram) (i:Int):DModel:=(J92 p i).getD Jak
theorem Jox:∀ {l:List (Option DObligation)}{acc o:List DObligation},goO acc l=some o→o.length=acc.length+l.length
 | [],acc,o,h=>by simp only [goO,Option.some.injEq] at h;subst h;simp
 | Option.none::_,_,_,h=>by simp [goO] at h
 | some x::l,acc,o,h=>by
  simp only [goO] at h
  have:=Jox h
  simp at this ⊢;omega
def a70:AFn:= ⟨68,[.t 4],(.seq (.reg [Zo 2 (.boxv (.t 0)),Zo 4 (.mv (.k (.nil 1)))]) (.seq (.seq (.reg [Zl 13 true 2 2,Zc 14 67 [.t 13],Zo 15 (.un .not (.t 14)),Zv 16 15,⟨some 17,.ld true 2 (.t 2),(some (16,false))⟩,⟨some 18,.mv (.t 1),(some (16,false))⟩,⟨some 19,.call (.k (.fn (.func 84) [] [])) [.t 17,.t 18],(some (16,false))⟩,⟨some 20,.bin .lss (.t 19) (.k (.int .i64 0)),(some (16,false))⟩,Zo 21 (.pick (.t 16) (.k (.bool true)) (.t 20))]) (.cond (.t 21) (.seq (.reg [Zo 4 (.mv (.k (.nil 1)))]) .ret) .skip)) (.seq (.reg [Zo 22 (.mmk),Zv 23 1,⟨no,.mput (.t 22) (.t 23) (.k (.bool true)),no⟩,Zv 24 22,Zv 5 24]) (.seq (.seq (.reg [Zf 25 0 2,Zl 26 false 1 25,Zo 27 (.len false (.t 26)),Zo 28 (.mv (.k (.int .i64 0)))]) (.blk 0 (.loop (.seq (.reg [Zo 29 (.bin .lss (.t 28) (.t 27))]) (.seq (.cond (.t 29) .skip (.exit 0)) (.seq (.blk 1 (.seq (.reg [Zl 30 true 2 2,Zc 31 151 [.t 30],Zo 32 (.len false (.t 31)),Zo 33 (.mv (.k (.int .i64 0)))]) (.blk 2 (.loop (.seq (.reg [Zo 34 (.bin .lss (.t 33) (.t 32))]) (.seq (.cond (.t 34) .skip (.exit 2)) (.seq (.blk 3 (.seq (.reg [Zo 35 (.ixa 2 (.t 31) (.t 33)),Zl 36 true 2 35,Zo 7 (.box [(.int .i64 0),(.int .i64 0)]),⟨no,.st 2 (.t 7) (.t 36),no⟩]) (.seq (.reg [Zl 38 true 2 2,Zl 39 true 2 7,Zc 40 152 [.t 38,.t 39],Zv 37 40,Zo 41 (.ext (.t 37) 0),Zo 42 (.ext (.t 37) 1),Zv 8 41,Zv 9 42]) (.seq (.reg [Zv 43 5,Zv 44 8,Zo 45 (.mget (.bool false) (.t 43) (.t 44))]) (.cond (.t 45) (.reg [Zv 46 5,Zv 47 9,⟨no,.mput (.t 46) (.t 47) (.k (.bool true)),no⟩]) .skip))))) (.reg [Zo 48 (.bin .add (.t 33) (.k (.int .i64 1))),Zv 33 48])))))))) (.reg [Zo 49 (.bin .add (.t 28) (.k (.int .i64 1))),Zv 28 49]))))))) (.seq (.reg [Zo 10 (.mv (.k (.nil 1)))]) (.seq (.seq (.reg [Zf 50 0 2,Zl 51 false 1 50,Zo 52 (.len false (.t 51)),Zo 53 (.mv (.k (.int .i64 0)))]) (.blk 4 (.loop (.seq (.reg [Zo 54 (.bin .lss (.t 53) (.t 52))]) (.seq (.cond (.t 54) .skip (.exit 4)) (.seq (.blk 5 (.seq (.reg [Zo 55 (.ixa 4 (.t 51) (.t 53)),Zl 56 true 4 55,Zo 12 (.box [(.str []),(.nil 1),(.bool false),(.nil 2)]),⟨no,.st 4 (.t 12) (.t 56),no⟩]) (.seq (.reg [Zv 57 5,Zf 58 0 12,Zl 59 false 1 58,Zo 60 (.mget (.bool false) (.t 57) (.t 59))]) (.cond (.t 60) (.reg [Zv 61 10,Zf 62 0 12,Zl 63 false 1 62,Zo 64 (.bsl 1 [.t 63]),Zo 65 (.app 16 1 (.t 61) (.t 64)),Zv 10 65]) .skip)))) (.reg [Zo 66 (.bin .add (.t 53) (.k (.int .i64 1))),Zv 53 66]))))))) (.seq (.reg [Zv 67 10,Zv 4 67]) .ret)))))))⟩
theorem a70_ok:J09 Tryz.prog Tryz.f70=some a70:=by kernel_rfl
def Jnu (M:List Str):List (List AV):=M.map fun k=>[.str k,.bool true]
theorem Jcn:∀ (M:List Str) (key:Str),(J8t (Jnu M) key).getD (.bool false) = .bool (J2l M key)
 | [],key=>rfl
 | k::M,key=>by
  have ih:=Jcn M key
  by_cases h:k=key
  ·simp [Jnu,J8t,h,J2l]
  ·unfold Jnu J2l at *
   simp only [List.map_cons,J8t,if_neg h,List.any_cons]
   rw [ih]
   simp [h]
theorem Jj4:∀ (M:List Str) (key:Str),Jkp (Jnu M) key (.bool true)=Jnu (if J2l M key then M else M++[key])
 | [],key=>rfl
 | k::M,key=>by
  have ih:=Jj4 M key
  by_cases h:k=key
  ·simp [Jnu,Jkp,h,J2l]
  ·have hh:J2l (k::M) key=J2l M key:=by simp [J2l,h]
   rw [hh]
   simp only [Jnu,List.map_cons,Jkp,if_neg h] at *
   rw [ih]
   split <;> simp
theorem Jny (p:DProgram) (name:Str):decide (J0v (fun f=>f.Name==name) p.Functions 0<0) = !J2l (J11 p) name:=by
 have:=J5z (p:=fun f:DFunction=>f.Name==name) (l:=p.Functions) (i:=0)
 have h2:J2l (J11 p) name=p.Functions.any (fun f=>f.Name==name):=by simp [J2l,J11,List.any_map,Function.comp_def]
 rw [h2,←this]
 by_cases h:J0v (fun f:DFunction=>f.Name==name) p.Functions 0<0
 ·have h3:¬(J0v (fun f:DFunction=>f.Name==name) p.Functions 0≥0):=by omega
  simp [h,h3]
 ·have h3:J0v (fun f:DFunction=>f.Name==name) p.Functions 0≥0:=by omega
  simp [h,h3]
theorem Jqt.keep {b z:Nat}{rows:List (List AV)}{v:AV}{h:Heap}{n:Nat}(a:Jqt b z rows v h n) (x:Option Blk):Jqt b z rows v (upd h n x) n:=a.imp id fun ⟨i,h1,h2,h3,h4⟩=>⟨i,h1,h2,h3,by rw [Jkf (by omega)];exact h4⟩
def Jfz (p:DProgram) (e:DEdge):Str×Str:=(Jf3 p e,toE p e)
theorem Jca (p:DProgram):J4s p=(J6k p).map (Jfz p):=rfl
theorem Jpj {p:DProgram}{j:Nat}(hj:j<(J6k p).length):∃ i k:Nat,∃ hi:i<p.Rules.length,∃ hk:k<(p.Rules[i]).Calls.length,(J6k p)[j]=⟨(i:Int),(k:Int)⟩∧Jf3 p ⟨(i:Int),(k:Int)⟩=(p.Rules[i]).Func∧toE p ⟨(i:Int),(k:Int)⟩=((p.Rules[i]).Calls[k]).Func:=by
 obtain ⟨i,k,hi,hk,he⟩:=J9j (List.getElem_mem hj)
 exact ⟨i,k,hi,hk,he,J9q hi,Jj5 hi hk⟩
theorem J5n (p:DProgram) (hp:J0j p≤1048576) (name:Str):Holds Tryz.prog 70 [.agg (J00 p),.str name] (fun x=>x = .us 1 (J0b (J2u p name))):=by
 have hTl:=J9h p hp
 have hfl:p.Functions.length≤1048576:=by have:=J2c J10 p.Functions;unfold J0j J24 at hp;omega
 refine J03 Tryz.func70 a70_ok rfl (by simp [a70]) ?_
 simp [a70,J00]
 first|refine J01 (J2n p hp) (by first|simp [J00];done|rfl) ?_|refine J02 (J2n p hp) (by first|simp [J00];done|rfl) ?_
 rintro r rfl
 unfold J2u
 cases h1:J2e p
 ·simp [J0b]
 simp
 first|refine J01 (J2o p name) (by first|simp [J00];done|rfl) ?_|refine J02 (J2o p name) (by first|simp [J00];done|rfl) ?_
 rintro r rfl
 have g1:=Jny p name
 cases h2:J2l (J11 p) name
 ·rw [h2] at g1
  simp at g1
  simp [g1,J0b]
 rw [h2] at g1
 simp at g1
 have g2:¬J0v (fun f:DFunction=>f.Name==name) p.Functions 0<0:=by omega
 simp [g1,g2,Jkp]
 intro _
 generalize hS:Jmz (J4s p) p.Functions.length [name]=S
 have hre:J76 (J4s p) (J11 p) name=(J11 p).filter (J2l S):=by
  unfold J76
  rw [show (J11 p).length=p.Functions.length by simp [J11],hS]
 rw [hre]
 refine J0n [2,5,27] 28 p.Functions.length (fun i s h n=>1<n∧h 0=some ⟨true,2,[J00 p]⟩∧∃ M:List Str,h 1=some ⟨true,0,Jnu M⟩∧Jmz (J4s p) (p.Functions.length - i) M=S) (by unfold LIM;omega) (by simp) ⟨by simp,by simp [J00],[name],by simp [Jnu],by simpa using hS⟩ ?_ ?_
 ·rintro i st h n R hi hg hk s28 hw ⟨hn,e0,M,e1,hJ⟩ hR hret _
  simp at hk
  refine J0i [2,5,27,28] (fun s=>s 29 = .bool true) (by simp [hk,s28,hi]) ?_
  intro st1 hk1 s29
  simp at hk1
  refine J3e s29 (J0c (J17 ?_))
  simp [hk,hk1,e0,J00]
  first|refine J01 (Jbe p hp) (by first|simp [J00];done|rfl) ?_|refine J02 (Jbe p hp) (by first|simp [J00];done|rfl) ?_
  rintro r rfl
  simp
  intro hle
  have z0:¬0=n:=by omega
  have z1:¬1=n:=by omega
  have z2:¬n=0:=by omega
  have hJ':Jmz (J4s p) (p.Functions.length - (i+1)) (Jix (J4s p) M)=S:=by
   rw [←hJ,show p.Functions.length - i=(p.Functions.length - (i+1))+1 by omega]
   rfl
  generalize hM2:Jix (J4s p) M=M2 at hJ'
  refine J0n [2,5,27,28,31,32] 33 (J6k p).length (fun j s h' n'=>n<n'∧h' 0=some ⟨true,2,[J00 p]⟩∧h' n=some ⟨false,2,(J6k p).map J25⟩∧∃ X:List Str,h' 1=some ⟨true,0,Jnu X⟩∧(((J6k p).drop j).map (Jfz p)).foldl Jh8 X=M2) hle (by simp) ⟨by omega,by simp [e0,z0,z2,J00],by simp,M,by simp [e1,z1],by rw [←hM2,Jca];simp [Jix]⟩ ?_ ?_
  ·rintro j st2 h2 n2 R2 hj hjg hk2 s33 hw2 ⟨hn2,f0,fn,X,f1,hX⟩ hR2 hret2 _
   simp at hk2
   obtain ⟨a,b,ha,hb,he,hf,ht⟩:=Jpj hj
   rw [List.drop_eq_getElem_cons hj,List.map_cons,List.foldl_cons,he,Jfz,hf,ht] at hX
   have y0:¬0=n2:=by omega
   have y1:¬1=n2:=by omega
   have y2:¬n=n2:=by omega
   have y3:¬n2=n:=by omega
   have y4:¬n2=1:=by omega
   have y5:¬n2=0:=by omega
   have y6:¬n=1:=by omega
   refine J0i [2,5,27,28,31,32,33] (fun s=>s 34 = .bool true) (by simp [hk2,s33,hj]) ?_
   intro st3 hk3 s34
   simp at hk3
   refine J3e s34 (J0c (J17 ?_))
   simp [hk2,hk3,hk1,hk,s33,hj,f0,fn,f1,he,J25,J00,y0,y1,y2,y3,y4,y5,y6,z0,z1,z2]
   first|refine J01 (Ja9 p ha hb) (by first|simp [J00,J0o];done|rfl) ?_|refine J02 (Ja9 p ha hb) (by first|simp [J00,J0o];done|rfl) ?_
   rintro r rfl
   simp [hk2,hk3,hk1,hk,f0,fn,f1,Jcn,y0,y1,y2,y3,y4,y5,y6]
   cases c1:J2l X (p.Rules[a]).Func
   ·rw [Jh8,c1] at hX
    simp at hX
    simp [hk2,hk3,hk1,hk,s33,hw2]
    exact hR2 _ _ _ (by simp [hk2,hk3,hk1,hk]) (by simp) ⟨by omega,by simp [f0,y0,y5,J00],by simp [fn,y2,y3],X,by simp [f1,y1,y4],by simpa using hX⟩
   ·rw [Jh8,c1] at hX
    simp only [if_true] at hX
    simp [hk2,hk3,hk1,hk,f1,s33,hw2,Jj4,y0,y1,y2,y3,y4,y5,y6]
    exact hR2 _ _ _ (by simp [hk2,hk3,hk1,hk]) (by simp) ⟨by omega,by simp [f0,y0,y5,J00],by simp [fn,y2,y3,y6],(if J2l X ((p.Rules[a]).Calls[b]).Func then X else X++[((p.Rules[a]).Calls[b]).Func]),by simp,by simpa using hX⟩
  rintro st2 h2 n2 R2 hk2 s33 ⟨hn2,f0,fn,X,f1,hX⟩ hret2 hX2
  simp at hk2
  rw [List.drop_eq_nil_of_le (by omega)] at hX
  simp at hX
  subst hX
  refine J0i [2,5,27,28] (fun s=>s 34 = .bool false) (by simp [hk2,s33]) ?_
  intro st3 hk3 s34
  simp at hk3
  refine J32 s34 ?_
  refine hX2 _ _ _ _ ?_
  simp [hk,hk1,hk2,hk3,s28,hw]
  exact hR _ _ _ (by simp [hk,hk1,hk2,hk3]) (by simp) ⟨by omega,f0,X,f1,hJ'⟩
 rintro st h n R hk s28 ⟨hn,e0,M,e1,hJ⟩ hret hX
 simp at hk
 rw [Nat.sub_self] at hJ
 simp only [Jmz] at hJ
 subst hJ
 refine J0i [2,5] (fun s=>s 29 = .bool false) (by simp [hk,s28]) ?_
 intro st1 hk1 s29
 simp at hk1
 refine J32 s29 ?_
 refine hX _ _ _ _ ?_
 simp [hk,hk1,e0,J00]
 intro _
 generalize hT:(J11 p).filter (J2l M)=T
 have hTn:T.length≤p.Functions.length:=by rw [←hT];refine Nat.le_trans (List.length_filter_le _ _) (by simp [J11])
 refine J0n [5,51,52] 53 p.Functions.length (fun i s h n=>1<n∧h 1=some ⟨true,0,Jnu M⟩∧∃ acc:List Str,acc++((J11 p).drop i).filter (J2l M)=T∧Jqt 1 1 (J0b acc) (s 10) h n) (by unfold LIM;omega) (by simp) ⟨hn,by simpa using e1,[],by simpa using hT,.inl (by simp [J0b])⟩ ?_ ?_
 ·rintro i st2 h2 n2 R2 hi hg hk2 s53 hw ⟨hn2,f1,acc,hJ,hA⟩ hR2 hret2 _
  simp at hk2
  have hin:i<(J11 p).length:=by simpa [J11] using hi
  have hni:(J11 p)[i]=(p.Functions[i]).Name:=by simp [J11]
  rw [List.drop_eq_getElem_cons hin,List.filter_cons,hni] at hJ
  have y0:¬1=n2:=by omega
  have y1:¬n2=1:=by omega
  have y2:¬1=n2+1:=by omega
  have y3:¬1=n2+1+1:=by omega
  have y4:¬n2=0:=by omega
  refine J0i [5,10,51,52,53] (fun s=>s 54 = .bool true) (by simp [hk2,s53,hi]) ?_
  intro st3 hk3 s54
  simp at hk3
  refine J3e s54 (J0c (J17 ?_))
  refine J1e [5,10,51,52,53] (fun s h' n'=>s 12 = .ptr n2 0 0∧n'=n2+1∧h' n2=some ⟨true,4,[J04 p.Functions[i]]⟩∧h' 1=some ⟨true,0,Jnu M⟩∧Jqt 1 1 (J0b acc) (st2 10) h' n2) ?_ ?_
  ·simp [hk2,hk3,hk1,hk,s53,hi,J04,f1,y0,y1,y4]
   exact hA.keep _
  rintro st4 h4 n4 hk4 ⟨s12,rfl,en,f1',hA'⟩
  simp at hk4
  refine J0i [5,10,12,51,52,53] (fun s=>s 60 = .bool (J2l M (p.Functions[i]).Name)) ?_ ?_
  ·simp [hk4,hk2,hk3,hk1,hk,s12,en,J04,f1',Jcn]
  intro st5 hk5 s60
  simp at hk5
  cases c1:J2l M (p.Functions[i]).Name
  ·rw [c1] at hJ s60
   simp only [Bool.false_eq_true,if_false] at hJ
   simp [hk5,hk4,hk2,hk3,hk1,hk,s53,s60,hw]
   exact hR2 _ _ _ (by simp [hk5,hk4,hk2,hk3,hk1,hk]) (by simp) ⟨by omega,f1',acc,hJ,by simpa [hk5,hk4,hk3] using hA'.mono (Nat.le_succ _)⟩
  rw [c1] at hJ s60
  simp only [if_true] at hJ
  have hal:=congrArg List.length hJ
  simp only [List.length_append,List.length_cons] at hal
  rcases hA' with ⟨hz,hv⟩|⟨id,hid,hid',hv,hc⟩
  ·have hz':acc=[]:=by simpa [J0b] using hz
   subst hz'
   simp [hk5,hk4,hk2,hk3,hk1,hk,hv,s12,s60,en,J04,s53,hw,y0,y1,y2,y3,y4]
   refine ⟨by unfold LIM;omega,?_⟩
   exact hR2 _ _ _ (by simp [hk5,hk4,hk2,hk3,hk1,hk]) (by simp) ⟨by omega,by simp [f1',y0,y1,y2,y3,y4],[(p.Functions[i]).Name],by simpa using hJ,.inr ⟨n2+1+1,by omega,by omega,by simp [J0b],by simp [J0b]⟩⟩
  ·simp [J0b] at hv
   have x0:¬id=n2:=by omega
   have x1:¬id=n2+1:=by omega
   have x2:¬n2+1=id:=by omega
   have x3:¬n2=id:=by omega
   have x4:¬1=id:=by omega
   simp [hk5,hk4,hk2,hk3,hk1,hk,hv,hc,s12,s60,en,J04,s53,hw,y0,y1,y2,y3,y4,x0,x1,x2,x3,x4]
   refine ⟨by unfold LIM;omega,?_⟩
   exact hR2 _ _ _ (by simp [hk5,hk4,hk2,hk3,hk1,hk]) (by simp) ⟨by omega,by simp [f1',y0,y1,y2,y3,y4,x4],acc++[(p.Functions[i]).Name],by simpa using hJ,.inr ⟨n2+1+1,by omega,by omega,by simp [J0b],by simp [J0b,List.take_of_length_le]⟩⟩
 rintro st2 h2 n2 R2 hk2 s53 ⟨hn2,f1,acc,hJ,hA⟩ hret2 hX2
 simp at hk2
 rw [List.drop_eq_nil_of_le (by simp [J11])] at hJ
 simp at hJ
 subst hJ
 refine J0i [10] (fun s=>s 54 = .bool false) (by simp [hk2,s53]) ?_
 intro st3 hk3 s54
 simp at hk3
 refine J32 s54 ?_
 refine hX2 _ _ _ _ ?_
 rcases hA with ⟨hz,hv⟩|⟨id,hid,hid',hv,hc⟩
 ·simp [hk3,hv,hz]
 ·simp at hv
  simp [hk3,hv,hc]
end Go.Proofs.YtoclolkigjbcgaaGreat

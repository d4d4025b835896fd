/- Contracts: ModelOf of the reference. -/
import Derived.Test.YtoclolkigjbcgaaGreatJHS4
import Derived.Test.YtoclolkigjbcgaaGreatJHM4
import Derived.Test.YtoclolkigjbcgaaGreatJRE
import Derived.Test.YtoclolkigjbcgaaGreatJC13
import Derived.Test.YtoclolkigjbcgaaGreatJT1
import Derived.Test.YtoclolkigjbcgaaGreatProg
namespace Go.Proofs.YtoclolkigjbcgaaGreat
set_option maxRecDepth 40000
set_option maxHeartbeats 4000000
open Go Go.RowKit Go.Proofs
set_option linter.all false
theorem Je9 {n:Nat} : ∀ {xs:List Str}{a:MS},(xs.foldl (J98 n) a).nx=a.nx+xs.length∧(xs.foldl (J98 n) a).E.length=a.E.length+xs.length∧(xs.foldl (J98 n) a).args=a.args∧(xs.foldl (J98 n) a).rows=a.rows∧J17 (xs.foldl (J98 n) a).E=J17 a.E++xs
 | [],a=>by simp
 | x::xs,a=>by
  obtain ⟨h1,h2,h3,h4,h5⟩:=Je9 (n:=n) (xs:=xs) (a:=J98 n a x)
  simp only [List.foldl_cons,List.length_cons]
  refine ⟨by rw [h1];show a.nx+1+_=_;omega,by rw [h2];simp [J98];omega,by rw [h3];rfl,by rw [h4];rfl,by rw [h5];simp [J98,J17]⟩
theorem Jnf {n:Nat}(hn:n≤8):∀ {xs:List Str}{a:MS},(∀ e∈a.E,e.2.Coeffs.length≤8)→∀ e∈(xs.foldl (J98 n) a).E,e.2.Coeffs.length≤8
 | [],_,h=>h
 | x::xs,a,h=>by
  simp only [List.foldl_cons]
  refine Jnf hn ?_
  intro e he
  rcases List.mem_append.1 he with he|he
  ·exact h e he
  ·simp at he;subst he;exact J6l n hn
theorem Jc7 {n:Nat} : ∀ {xs:List DPattern}{a:MS},(xs.foldl (J5u n) a).rows.length=a.rows.length+xs.length∧(xs.foldl (J5u n) a).E.length≤a.E.length+2*xs.length∧(xs.foldl (J5u n) a).args=a.args∧(xs.foldl (J5u n) a).nx=a.nx+J3c xs
 | [],a=>by simp [J3c]
 | x::xs,a=>by
  obtain ⟨h1,h2,h3,h4⟩:=Jc7 (n:=n) (xs:=xs) (a:=J5u n a x)
  simp only [List.foldl_cons,List.length_cons]
  have g1:(J5u n a x).rows.length=a.rows.length+1:=by unfold J5u;split <;> simp
  have g2:(J5u n a x).E.length≤a.E.length+2:=by unfold J5u;split <;> simp
  have g3:(J5u n a x).args=a.args:=by unfold J5u;split <;> rfl
  have g4:(J5u n a x).nx=a.nx+(if x.Cons then 1 else 0):=by unfold J5u;cases x.Cons <;> simp
  exact ⟨by omega,by omega,by rw [h3,g3],by rw [h4,g4,Jh1];omega⟩
theorem Jgj {n:Nat} : ∀ {xs:List DCall}{a:MS},(xs.foldl (J64 n) a).E.length=a.E.length+xs.length
 | [],a=>by simp
 | x::xs,a=>by
  have h1:=Jgj (n:=n) (xs:=xs) (a:=J64 n a x)
  simp only [List.foldl_cons,List.length_cons]
  rw [h1];simp [J64];omega
theorem Jev (p:DProgram) (hp:J0h p≤1048576) (h1:J34 p=true) {j:Nat}(hj:j<p.Rules.length):Holds Tryz.prog 184 [.agg (J02 p),i64 j] (fun x=>x = .agg (J29 (J56 (p.Rules[j]) (Jnz p (p.Rules[j]))))):=by
 refine J03 Tryz.func184 a184_ok rfl (by simp [a184]) ?_
 obtain ⟨f,hf,R⟩:=Jci h1 (List.getElem_mem hj)
 have hfa:Jnz p p.Rules[j]=f:=by unfold Jnz;rw [hf];rfl
 simp [a184,lm0,lm1,lm2,J02,hj]
 first|refine J00 (J22 p (p.Rules[j]).Func hp) (by first|simp [J02];done|rfl) ?_|refine J01 (J22 p (p.Rules[j]).Func hp) (by first|simp [J02];done|rfl) ?_
 rintro r rfl
 rw [hfa,hf]
 have hwf:=Ka8 hp hf
 have hpar:=R.par
 have hnpre:=R.npre
 have hnp:=R.npats
 have hnc:=R.ncalls
 have h6:=R.size
 have hrargs:=R.args h1
 have hrres:=Jc9 (Jie R.res)
 generalize p.Rules[j]=r at *
 simp [Jag,J0e,J0b,lm3,lm4]
 intro _
 refine J00 (Jnp r.Patterns) (by simp) ?_
 rintro _ rfl
 have hcl:=Jme r.Patterns
 have hw1:IntKind.i64.wrap ((f.Params.length:Int)+(J3c r.Patterns:Int))=(f.Params.length:Int)+(J3c r.Patterns:Int):=J0p (by omega)
 have hw2:IntKind.i64.wrap ((f.Params.length:Int)+(J3c r.Patterns:Int)+(r.Calls.length:Int))=(J0x r f:Int):=by rw [J0p (by omega)];unfold J0x;omega
 have hpl:∀ l∈f.Pre,l.Coeffs.length≤J0x r f:=fun l hl=>by
  have h1:=(J1t (R.pre l hl)).1
  have h2:f.Params.length≤J0x r f:=by unfold J0x;omega
  omega
 simp [hw1,hw2,lm5]
 have hkE:=Je9 (n:=J0x r f) (xs:=f.Params) (a:=⟨[],0,Jcq f (J0x r f),[],[]⟩)
 have hvE:=Jnf (n:=J0x r f) (by omega) (xs:=f.Params) (a:=⟨[],0,Jcq f (J0x r f),[],[]⟩) (by simp)
 have hdl:(Jcq f (J0x r f)).length≤4:=by
  unfold Jcq
  have:=J9s (n:=J0x r f) (xs:=f.Params) (i:=0)
  simp;omega
 rw [←show ss1 r f=f.Params.foldl (J98 (J0x r f)) ⟨[],0,Jcq f (J0x r f),[],[]⟩ from rfl] at hkE hvE
 have hsz:r.Calls.length≤J0x r f∧f.Params.length+J3c r.Patterns=J0x r f - r.Calls.length:=by unfold J0x;omega
 have ss3d:ss3 r f=r.Patterns.foldl (J5u (J0x r f)) (Jcd (ss1 r f) f.Params.length):=rfl
 have hp3:=Jc7 (n:=J0x r f) (xs:=r.Patterns) (a:=Jcd (ss1 r f) f.Params.length)
 rw [←ss3d] at hp3
 have ss5d:ss5 r f=r.Calls.foldl (J64 (J0x r f)) (J0t (Jcd (ss3 r f) (f.Params.length+J3c r.Patterns)) (r.Guards.map (Jdu (ss3 r f).E (J0x r f)))):=rfl
 have hc5:=Jgj (n:=J0x r f) (xs:=r.Calls) (a:=J0t (Jcd (ss3 r f) (f.Params.length+J3c r.Patterns)) (r.Guards.map (Jdu (ss3 r f).E (J0x r f))))
 rw [←ss5d] at hc5
 have hmS:J56 r f=K04 (J0x r f) (ss5 r f) (Jgl (ss5 r f).E (J0x r f) r.Result):=rfl
 rw [hmS]
 have hrr:(r.Patterns.foldl (J5u (J0x r f)) ⟨(ss1 r f).E,f.Params.length,[],[],[]⟩).rows.length≤100000:=by
  have:=(Jc7 (n:=J0x r f) (xs:=r.Patterns) (a:=⟨(ss1 r f).E,f.Params.length,[],[],[]⟩)).1
  rw [this];simp;omega
 generalize hN:J0x r f=N at *
 first|refine J00 (J7m f N hwf (by omega) hpl) (by first|simp [J04];done|rfl) ?_|refine J01 (J7m f N hwf (by omega) hpl) (by first|simp [J04];done|rfl) ?_
 rintro r rfl
 simp [lm6]
 refine Jye (r:=r) (f:=f) (N:=N) (R0:=Jcq f N) (by simp) (by simp) (by simp) (by simp) (by simp) ?_ hpar ?_
 ·refine ⟨by simp,by simp [J0b],by simp,by simp,by omega,.nil 1,.nil 2,.ref 6 0 (Jcq f N).length,.nil 2,.nil 1,by simp,by simp [J5k],?_,?_⟩
  ·intro x hx
   simp only [List.mem_cons,List.not_mem_nil,or_false] at hx
   rcases hx with rfl|rfl|rfl|rfl|rfl
   ·exact .inl (by simp [J17,J0d])
   ·exact .inl (by simp [J36])
   ·exact .inr ⟨6,by omega,by omega,by simp,by simp⟩
   ·exact .inl (by simp)
   ·exact .inl (by simp)
  ·simp only [List.pairwise_cons,List.mem_cons,List.not_mem_nil,or_false,forall_eq_or_imp,forall_eq]
   refine ⟨⟨?_,?_,?_,?_⟩,⟨?_,?_,?_⟩,⟨?_,?_⟩,?_,by simp⟩ <;> intro i k l e1 e2 <;> first|cases e1;done|(cases e2;done)
 intro s1 h1' n1 hk1 M1
 simp at hk1
 rw [show f.Params.foldl (J98 N) ⟨[],0,Jcq f N,[],[]⟩=ss1 r f by unfold ss1;rw [hN]] at M1
 refine J5b (Jtn (m:=f.Params.length) (by simp [hk1]) (by simp [hk1]) (by simp [hk1]) (by simp [hk1]) (by simp [hk1]) M1 (by omega) (by omega) (by rw [hkE.2.1];simp;omega) (by omega) (by rw [hkE.2.2.2.1];show (Jcq f N).length≤_;omega) ?_ hvE hrr ?_)
 ·intro q hq
  rw [hkE.2.2.2.2]
  simpa [J17] using R.pats q hq
 intro s2 h2 n2 hk2 M2
 simp at hk2
 rw [←ss3d] at M2
 have hE3:(ss3 r f).E.length≤1000:=by
  have e1:(Jcd (ss1 r f) f.Params.length).E.length=f.Params.length:=by show (ss1 r f).E.length=_;rw [hkE.2.1];simp
  omega
 have hR3:(ss3 r f).rows.length≤1000:=by
  have e1:(Jcd (ss1 r f) f.Params.length).rows.length=(Jcq f N).length:=by show (ss1 r f).rows.length=_;rw [hkE.2.2.2.1]
  omega
 refine J0c (Jtp (by simp [hk2,hk1]) (by simp [hk2,hk1]) (by simp [hk2,hk1]) (by simp [hk2,hk1]) M2 (by omega) R.nguards (fun g hg => ?_) (by omega) ?_)
 ·have:=R.guards g hg
  unfold J40 J99 at this
  simp only [Bool.and_eq_true,decide_eq_true_eq] at this
  omega
 intro s3 h3 n3 hk3 M3
 simp at hk3
 have M3':SM r f N (J0t (Jcd (ss3 r f) (f.Params.length+J3c r.Patterns)) (r.Guards.map (Jdu (ss3 r f).E N))) h3 n3:=M3
 refine J5b (J0c (Jtk (by simp [hk3,hk2,hk1]) (by simp [hk3,hk2,hk1]) (by simp [hk3,hk2,hk1]) (by simp [hk3,hk2,hk1]) M3' (by omega) (by show (ss3 r f).E.length≤_;omega) hnc (by omega) (by show f.Params.length+J3c r.Patterns=_;omega) (by have:=R.nguards;show ((ss3 r f).rows++_).length≤_;simp;omega) ?_ (fun c hc=>⟨(hrargs c hc).1,fun x hx=>Jc9 ((hrargs c hc).2 x hx)⟩) ?_))
 ·show (ss3 r f).args.length≤_
  rw [hp3.2.2.1]
  show (ss1 r f).args.length≤_
  rw [hkE.2.2.1];simp
 intro s4 h4 n4 hk4 M4
 simp at hk4
 rw [←ss5d] at M4
 have hE5:(ss5 r f).E.length≤2000:=by
  rw [hc5]
  show (ss3 r f).E.length+_≤_
  omega
 generalize ss5 r f=ms at *
 obtain ⟨vN,vL,e8,hbw⟩:=M4.bws
 obtain ⟨b1,b2⟩:=hbw h4 fun _ _=>rfl
 have l4:=M4.lt
 refine J5b ?_
 simp [Kbz,hk4,hk3,hk2,hk1,e8,M4.hr,J0b]
 first|refine J00 (J70 ms.E (by omega) r.Result (fun x hx=>by have:=hrres.1 x hx;omega) hrres.2 N) (by first|simp [Jgh,b1,b2,J0s];done|rfl) ?_|refine J01 (J70 ms.E (by omega) r.Result (fun x hx=>by have:=hrres.1 x hx;omega) hrres.2 N) (by first|simp [Jgh,b1,b2,J0s];done|rfl) ?_
 rintro r rfl
 rw [J0o,show (Jwp ms.E N r.Result).getD J1s=Jgl ms.E N r.Result from rfl]
 generalize Jgl ms.E N r.Result=res at *
 obtain ⟨vN2,vL2,vR,vP,vA,e8',e7,AS⟩:=M4.acc
 obtain ⟨AS1,AS2⟩:=AS
 simp only [List.pairwise_cons,List.mem_cons,List.not_mem_nil,or_false,forall_eq_or_imp,forall_eq] at AS2
 obtain ⟨_,_,⟨d8,d9⟩,d10,_⟩:=AS2
 have k2:=AS1 (2,ms.rows.map J08,vR) (by simp)
 have k3:=AS1 (2,ms.pars.map J08,vP) (by simp)
 have k4:=AS1 (1,ms.args.map J24,vA) (by simp)
 have cR:=k2.cell
 have cP:=k3.cell
 have cA:=k4.cell
 have ne:¬7=n4∧¬1=n4∧¬n4=7∧¬n4=1:=by omega
 simp [J08,hk4,hk3,hk2,hk1,e7,J5k,Kb1,M4.hz,ne,-dt,-dtl,-J0u,Jgc,Jga,cR,cP,cA]
 generalize hH:upd (upd (upd h4 n4 _) 7 _) 1 _=H
 have fH:∀ id,5<id→id<n4→id≠7→H id=h4 id:=by
  intro id hid _ _
  have:¬id=1∧¬id=7∧¬id=n4:=by omega
  rw [←hH];simp [this]
 have nb:∀ {z:Nat}{rows:List (List AV)}{v:AV}(x:J46 5 z rows v h4 n4),J46 5 z rows v H n4:=fun x=>x.keep (Nat.le_refl _) fun id hb hid e=>fH id hb hid fun e'=>x.not_box e7 (by rw [←e'];exact e)
 have m2:=nb k2
 have m3:=nb k3
 have m4:=nb k4
 have kq:H n4=some ⟨false,1,J0k res.Coeffs⟩:=by rw [←hH];simp [ne]
 obtain ⟨H1,dd1,e1⟩:=m2.dt
 have m3':J46 5 2 (ms.pars.map J08) vP H1 n4:=m3.keep (Nat.le_refl _) fun id hb hid e=>e1 id fun l el=>d8 id _ _ el e
 obtain ⟨H2,dd2,e2⟩:=m3'.dt
 have m4':J46 5 1 (ms.args.map J24) vA H2 n4:=m4.keep (Nat.le_refl _) fun id hb hid e=>by
  rw [e2 id fun l el=>d10 id _ _ el e,e1 id fun l el=>d9 id _ _ el e]
 obtain ⟨H3,dd3,e3⟩:=m4'.dt
 have kq3:H3 n4=some ⟨false,1,J0k res.Coeffs⟩:=by
  rw [e3 n4 fun l el=>m4.ne_ge (Nat.le_refl _) el,e2 n4 fun l el=>m3.ne_ge (Nat.le_refl _) el,e1 n4 fun l el=>m2.ne_ge (Nat.le_refl _) el,kq]
 simp [dd1,dd2,dd3,kq3,J29,K04]
theorem Jok (x y:List DLin):J4q (x++y)=J4q x+J4q y:=by
 unfold J4q
 induction x with
 | nil=>simp [cL]
 | cons e x ih=>simp only [List.cons_append,cL,ih];omega
theorem Jmb:∀ (l:List DLin),(∀ x∈l,x.Coeffs.length≤8)→J4q l≤9*l.length:=by
 intro l
 induction l with
 | nil=>intro _;simp [J4q,cL]
 | cons e l ih=>
  intro h
  have h1:=ih fun x hx=>h x (List.mem_cons_of_mem _ hx)
  have h2:=h e List.mem_cons_self
  unfold J4q at *
  simp only [cL,Jdl,J9j,List.length_cons]
  omega
theorem Jwq {a b o:DLin}{k:Int}(h:J0l a k b=some o):o.Coeffs.length≤8:=by
 have:=Ja0 (a:=a) (k:=k) (b:=b)
 unfold J8j at this
 rw [h] at this;exact this
theorem Jqy {E:SEnv}{n:Nat} : ∀ {ts:List DTerm}{o r:DLin},o.Coeffs.length≤8→goS E n ts o=some r→r.Coeffs.length≤8
 | [],o,r,ho,h=>by cases h;exact ho
 | t::ts,o,r,ho,h=>by
  simp only [goS] at h
  split at h
  ·cases h
  ·rename_i o' ha
   exact Jqy (Jwq ha) h
theorem Jmt {E:SEnv}{n:Nat}{s:DSum} : (Jdu E n s).Coeffs.length≤8:=by
 unfold Jdu Jv9
 cases h:goS E n s.Terms (J05 s.Const n) with
 | none=>simp [J1s]
 | some r=>exact Jqy (J7c _ _) h
theorem Jm7 {E:SEnv}{n:Nat}{a:DArg} : (Jgl E n a).Coeffs.length≤8:=by
 unfold Jgl Jwp
 split
 ·split
  ·exact J7c _ _
  ·exact Ja0
 ·exact Jmt
theorem Jwk {E:SEnv}{x:Str}{n:Int}(h:∀ e∈E,e.2.Coeffs.length≤8):(J2u (J05 0 n) E x).Coeffs.length≤8:=by
 by_cases hx:x∈J17 E
 ·exact Jmy h hx
 ·have:E.find? (fun e=>e.1==x)=Option.none:=by
   rw [List.find?_eq_none]
   intro e he hb
   exact hx (List.mem_map.2 ⟨e,he,by simpa using hb⟩)
  unfold J2u
  rw [this];exact J7c _ _
structure MOk (ms:MS):Prop where
 E:∀ e∈ms.E,e.2.Coeffs.length≤8
 R:∀ l∈ms.rows,l.Coeffs.length≤8
 P:∀ l∈ms.pars,l.Coeffs.length≤8
theorem Jbj {α:Type}{l:List α}{x:α}{p:α→Prop}(h:∀ y∈l,p y) (hx:p x):∀ y∈l++[x],p y:=by
 intro y hy
 rcases List.mem_append.1 hy with hy|hy
 ·exact h y hy
 ·simp at hy;subst hy;exact hx
theorem MOk.par {n:Nat}(hn:n≤8) {ms:MS}(M:MOk ms) (x:Str):MOk (J98 n ms x):=
 ⟨Jbj M.E (J6l n hn),M.R,Jbj M.P (J6l n hn)⟩
theorem MOk.pat {n:Nat}(hn:n≤8) {ms:MS}(M:MOk ms) (q:DPattern):MOk (J5u n ms q):=by
 have hl:(Jka n ms q).Coeffs.length≤8:=by unfold Jka J4w;exact Jwk M.E
 unfold J5u
 split
 ·refine ⟨?_,Jbj M.R hl,M.P⟩
  intro e he
  rcases List.mem_append.1 he with he|he
  ·exact M.E e he
  ·simp at he
   rcases he with rfl|rfl
   ·exact J6l n hn
   ·exact hl
 ·exact ⟨M.E,Jbj M.R Ja0,M.P⟩
theorem MOk.call {n:Nat}(hn:n≤8) {ms:MS}(M:MOk ms) (c:DCall):MOk (J64 n ms c):=by
 refine ⟨Jbj M.E (J6l n hn),?_,M.P⟩
 intro l hl
 rcases List.mem_append.1 hl with hl|hl
 ·exact M.R l hl
 ·split at hl
  ·simp at hl;subst hl;exact J6l n hn
  ·cases hl
theorem MOk.fold {α:Type}{g:MS→α→MS}(hg:∀ ms x,MOk ms→MOk (g ms x)):∀ {l:List α}{ms:MS},MOk ms→MOk (l.foldl g ms)
 | [],_,h=>h
 | x::l,ms,h=>MOk.fold hg (l:=l) (hg ms x h)
theorem Jf7 {n:Nat} : ∀ {xs:List DCall}{a:MS},(xs.foldl (J64 n) a).rows.length≤a.rows.length+xs.length∧(xs.foldl (J64 n) a).pars=a.pars∧(xs.foldl (J64 n) a).args.length=a.args.length+xs.length ∧
 ∀ l∈(xs.foldl (J64 n) a).args,l∈a.args∨(∃ c∈xs,l.length=c.Args.length∧∀ y∈l,y.Coeffs.length≤8)
 | [],a=>by simp
 | x::xs,a=>by
  obtain ⟨h1,h2,h3,h4⟩:=Jf7 (n:=n) (xs:=xs) (a:=J64 n a x)
  simp only [List.foldl_cons,List.length_cons]
  have g1:(J64 n a x).rows.length≤a.rows.length+1:=by unfold J64;simp only [List.length_append];split <;> simp
  have g3:(J64 n a x).args.length=a.args.length+1:=by simp [J64]
  refine ⟨by omega,by rw [h2];rfl,by omega,?_⟩
  intro l hl
  rcases h4 l hl with h|⟨c,hc,h⟩
  ·rcases List.mem_append.1 h with h|h
   ·exact .inl h
   ·simp at h
    refine .inr ⟨x,List.mem_cons_self,by rw [h];simp,?_⟩
    intro y hy
    rw [h] at hy
    obtain ⟨z,_,rfl⟩:=List.mem_map.1 hy
    exact Jm7
  ·exact .inr ⟨c,List.mem_cons_of_mem _ hc,h⟩
theorem Jjv {n:Nat} : ∀ {xs:List Str}{a:MS},(xs.foldl (J98 n) a).pars.length=a.pars.length+xs.length
 | [],a=>by simp
 | x::xs,a=>by
  have h1:=Jjv (n:=n) (xs:=xs) (a:=J98 n a x)
  simp only [List.foldl_cons,List.length_cons]
  rw [h1];simp [J98];omega
theorem Jew {n:Nat} : ∀ {xs:List DPattern}{a:MS},(xs.foldl (J5u n) a).pars=a.pars
 | [],a=>rfl
 | x::xs,a=>by
  simp only [List.foldl_cons]
  rw [Jew];unfold J5u;split <;> rfl
theorem Jqo {p:DProgram}{r:DRule}{f:DFunction}(hp:J34 p=true) (R:RuleIn p r f):(J56 r f).System.Rows.length≤10∧(∀ l∈(J56 r f).System.Rows,l.Coeffs.length≤8)∧(J56 r f).Params.length≤2∧(∀ l∈(J56 r f).Params,l.Coeffs.length≤8) ∧
 (J56 r f).Args.length≤2∧(∀ l∈(J56 r f).Args,l.length≤2∧∀ y∈l,y.Coeffs.length≤8)∧(J56 r f).Result.Coeffs.length≤8∧(J56 r f).System.N≤6∧0≤(J56 r f).System.N:=by
 have hn:J0x r f≤8:=by have:=R.size;omega
 have hpar:=R.par
 have hnp:=R.npats
 have hnc:=R.ncalls
 have hng:=R.nguards
 have hpre:=R.npre
 have hdl:(Jcq f (J0x r f)).length≤4∧∀ l∈Jcq f (J0x r f),l.Coeffs.length≤8:=by
  have hlr:=J9s (n:=J0x r f) (xs:=f.Params) (i:=0)
  refine ⟨by unfold Jcq;simp;omega,?_⟩
  intro l hl
  rcases List.mem_append.1 hl with hl|hl
  ·have:∀ (xs:List Str) (i:Nat),∀ l∈J89 (J0x r f) xs i,l.Coeffs.length≤8:=by
    intro xs
    induction xs with
    | nil=>intro i l hl;cases hl
    | cons x xs ih=>
     intro i l hl
     rcases List.mem_append.1 hl with hl|hl
     ·split at hl
      ·simp at hl;subst hl;exact J6l _ hn
      ·cases hl
     ·exact ih _ l hl
   exact this _ _ l hl
  ·obtain ⟨x,hx,rfl⟩:=List.mem_map.1 hl
   have h1:=(J1t (R.pre x hx)).1
   have h2:f.Params.length≤J0x r f:=by unfold J0x;omega
   simp [J3k];omega
 have m1:MOk (ss1 r f):=MOk.fold (fun ms x h=>h.par hn x) ⟨by simp,hdl.2,by simp⟩
 have m1':MOk (Jcd (ss1 r f) f.Params.length):=⟨m1.E,m1.R,m1.P⟩
 have m3:MOk (ss3 r f):=MOk.fold (fun ms x h=>h.pat hn x) m1'
 have m4:MOk (J0t (Jcd (ss3 r f) (f.Params.length+J3c r.Patterns)) (r.Guards.map (Jdu (ss3 r f).E (J0x r f)))):=by
  refine ⟨m3.E,?_,m3.P⟩
  intro l hl
  rcases List.mem_append.1 hl with hl|hl
  ·exact m3.R l hl
  ·obtain ⟨g,_,rfl⟩:=List.mem_map.1 hl
   exact Jmt
 have m5:MOk (ss5 r f):=MOk.fold (fun ms x h=>h.call hn x) m4
 obtain ⟨c1,c2,c3,c4⟩:=Jf7 (n:=J0x r f) (xs:=r.Calls) (a:=J0t (Jcd (ss3 r f) (f.Params.length+J3c r.Patterns)) (r.Guards.map (Jdu (ss3 r f).E (J0x r f))))
 have d3:=Jc7 (n:=J0x r f) (xs:=r.Patterns) (a:=Jcd (ss1 r f) f.Params.length)
 have d1:=Je9 (n:=J0x r f) (xs:=f.Params) (a:=⟨[],0,Jcq f (J0x r f),[],[]⟩)
 have e1:=Jjv (n:=J0x r f) (xs:=f.Params) (a:=⟨[],0,Jcq f (J0x r f),[],[]⟩)
 have e3:=Jew (n:=J0x r f) (xs:=r.Patterns) (a:=Jcd (ss1 r f) f.Params.length)
 have hrows1:(ss1 r f).rows=Jcq f (J0x r f):=d1.2.2.2.1
 have hargs3:(ss3 r f).args=[]:=by
  have:(ss3 r f).args=(Jcd (ss1 r f) f.Params.length).args:=d3.2.2.1
  rw [this];exact d1.2.2.1
 have hr3:(ss3 r f).rows.length=(Jcq f (J0x r f)).length+r.Patterns.length:=by
  have:(ss3 r f).rows.length=(Jcd (ss1 r f) f.Params.length).rows.length+r.Patterns.length:=d3.1
  rw [this];show (ss1 r f).rows.length+_=_;rw [hrows1]
 have hp5:(ss5 r f).pars.length=f.Params.length:=by
  have h1:(ss5 r f).pars=(ss3 r f).pars:=c2
  have h2:(ss3 r f).pars=(ss1 r f).pars:=e3
  rw [h1,h2]
  have:(ss1 r f).pars.length=f.Params.length:=by rw [show (ss1 r f)=f.Params.foldl (J98 (J0x r f)) ⟨[],0,Jcq f (J0x r f),[],[]⟩ from rfl,e1];simp
  exact this
 refine ⟨?_,m5.R,?_,m5.P,?_,?_,Jm7,?_,?_⟩
 ·have:(ss5 r f).rows.length≤(ss3 r f).rows.length+r.Guards.length+r.Calls.length:=by
   refine Nat.le_trans c1 ?_
   show ((ss3 r f).rows++_).length+_≤_
   simp
  show (ss5 r f).rows.length≤10
  omega
 ·show (ss5 r f).pars.length≤2;omega
 ·have:(ss5 r f).args.length=(ss3 r f).args.length+r.Calls.length:=c3
  rw [hargs3] at this
  simp at this
  show (ss5 r f).args.length≤2;omega
 ·intro l hl
  rcases c4 l hl with h|⟨c,hc,h1,h2⟩
  ·have:l∈(ss3 r f).args:=h
   rw [hargs3] at this;cases this
  ·exact ⟨by rw [h1];exact (R.args hp c hc).1,h2⟩
 ·show ((J0x r f:Nat):Int)≤6;have:=R.size;omega
 ·show (0:Int)≤((J0x r f:Nat):Int);omega
def Jv4 (i:Nat) (k:Nat):DEdge:=⟨i,k⟩
def Jiu (i:Nat) (r:DRule):List DEdge:=(List.range r.Calls.length).map (Jv4 i)
def Jbe:Nat→List DRule→List DEdge
 | _,[]=>[]
 | i,r::l=>Jiu i r++Jbe (i+1) l
def Jvp (p:DProgram):List DEdge:=Jbe 0 p.Rules
def Jyl (p:DProgram) (e:DEdge):Str:=match p.Rules[e.Rule.toNat]? with|some r=>r.Func|Option.none=>[]
def toE (p:DProgram) (e:DEdge):Str:=match p.Rules[e.Rule.toNat]? with|some r=>(match r.Calls[e.Call.toNat]? with|some c=>c.Func|Option.none=>[])|Option.none=>[]
def K1a (p:DProgram):List (Str×Str):=(Jvp p).map fun e=>(Jyl p e,toE p e)
def J9c (p:DProgram):List Str:=p.Functions.map (·.Name)
theorem Jc8 {e:DEdge} : ∀ {l:List DRule}{i:Nat},e∈Jbe i l→∃ j k:Nat,∃ hj:j<l.length,k<(l[j]).Calls.length∧e=⟨((i+j:Nat):Int),k⟩
 | [],_,h=>by cases h
 | r::l,i,h=>by
  simp only [Jbe] at h
  rcases List.mem_append.1 h with h|h
  ·simp only [Jiu,List.mem_map,List.mem_range,Jv4] at h
   obtain ⟨k,hk,rfl⟩:=h
   exact ⟨0,k,by simp,by simpa using hk,by simp⟩
  ·obtain ⟨j,k,hj,hk,rfl⟩:=Jc8 h
   exact ⟨j+1,k,by simpa using hj,by simpa using hk,by congr 1;omega⟩
theorem Jo1 {p:DProgram}{e:DEdge}(h:e∈Jvp p):∃ i k:Nat,∃ hi:i<p.Rules.length,k<(p.Rules[i]).Calls.length∧e=⟨(i:Int),(k:Int)⟩:=by
 obtain ⟨j,k,hj,hk,rfl⟩:=Jc8 h
 exact ⟨j,k,hj,hk,by congr 1;omega⟩
theorem Jum {p:DProgram}{i k:Nat}(hi:i<p.Rules.length):Jyl p ⟨(i:Int),(k:Int)⟩=(p.Rules[i]).Func:=by
 simp only [Jyl,Int.toNat_natCast,List.getElem?_eq_getElem hi]
theorem K3a {p:DProgram}{i k:Nat}(hi:i<p.Rules.length) (hk:k<(p.Rules[i]).Calls.length):toE p ⟨(i:Int),(k:Int)⟩=((p.Rules[i]).Calls[k]).Func:=by
 simp only [toE,Int.toNat_natCast,List.getElem?_eq_getElem hi,List.getElem?_eq_getElem hk]
theorem Jf1 {l:List DFunction}{s:Str}(h:(J16 l s).isSome=true):s∈l.map (·.Name):=by
 unfold J16 at h
 rw [List.find?_isSome] at h
 obtain ⟨f,hf,hn⟩:=h
 exact List.mem_map.2 ⟨f,hf,by simpa using hn⟩
theorem Jfi:∀ {l met:List Str},J3p met l=true→l.Nodup∧∀ x∈l,x∉met
 | [],_,_=>⟨List.nodup_nil,fun _ h=>(by cases h)⟩
 | s::l,met,h=>by
  simp only [J3p,Bool.and_eq_true,Bool.not_eq_true'] at h
  obtain ⟨h1,h2⟩:=Jfi h.2
  have h3:=Jhz.1 h.1
  refine ⟨List.nodup_cons.2 ⟨fun hs=>h2 s hs (by simp),h1⟩,?_⟩
  intro x hx
  rcases List.mem_cons.1 hx with rfl|hx
  ·exact h3
  ·exact fun hm=>h2 x hx (List.mem_append_left _ hm)
theorem Jbz {p:DProgram}{r:DRule} : ∀ {l:List DCall}{k:Nat},J2d p r k l=true→∀ c∈l,∃ s,J9r p c s=true
 | [],_,_,_,h=>by cases h
 | c::l,k,h,d,hd=>by
  simp only [J2d,Bool.and_eq_true] at h
  rcases List.mem_cons.1 hd with rfl|hd
  ·exact ⟨_,h.1⟩
  ·exact Jbz h.2 d hd
theorem J5g {p:DProgram}(h:J34 p=true):(J9c p).Nodup∧(∀ e∈K1a p,e.1∈J9c p∧e.2∈J9c p)∧p.Functions.length≤3∧p.Rules.length≤8:=by
 unfold J34 at h
 simp only [Bool.and_eq_true,decide_eq_true_eq,J9z] at h
 obtain ⟨⟨⟨h1,h2⟩,h3⟩,h4⟩:=h
 have h1':p.Functions.length≤3:=by unfold inR at h1;simp at h1;omega
 refine ⟨(Jfi h2.2).1,?_,h1',h3⟩
 intro e he
 obtain ⟨x,hx,rfl⟩:=List.mem_map.1 he
 obtain ⟨i,k,hi,hk,rfl⟩:=Jo1 hx
 have hr:=List.all_eq_true.1 h4 _ (List.getElem_mem hi)
 unfold J7n at hr
 simp only [Bool.and_eq_true,decide_eq_true_eq] at hr
 obtain ⟨⟨⟨⟨⟨⟨⟨g1,g2⟩,g3⟩,g4⟩,g5⟩,g6⟩,g7⟩,g8⟩:=hr
 rw [Jum hi,K3a hi hk]
 refine ⟨Jf1 g1,?_⟩
 obtain ⟨s,hs⟩:=Jbz g6 _ (List.getElem_mem hk)
 unfold J9r at hs
 simp only [Bool.and_eq_true] at hs
 exact Jf1 hs.1.1.1
def K2f (p:DProgram) (e:DEdge):DModel:=(J90 p e.Rule).getD J9e
def a273:AFn:= ⟨8,[.t 2],(.seq (.reg [⟨some 1,.boxv (.t 0),no⟩,⟨some 2,.mv (.k (.int .i64 0)),no⟩]) (.seq (.seq (.reg [⟨some 3,.fld 0 (.t 1),no⟩,⟨some 4,.ld false 1 (.t 3),no⟩]) (.cond (.t 4) (.seq (.reg [⟨some 5,.fld 1 (.t 1),no⟩,⟨some 6,.ld false 1 (.t 5),no⟩,⟨some 7,.len false (.t 6),no⟩,⟨some 2,.mv (.t 7),no⟩]) .ret) .skip)) (.seq (.reg [⟨some 2,.mv (.k (.int .i64 0)),no⟩]) .ret)))⟩
theorem a273_ok:J09 Tryz.prog Tryz.f273=some a273:=by kernel_rfl
def a192:AFn:= ⟨39,[.t 4],(.seq (.reg [⟨some 2,.boxv (.t 0),no⟩,⟨some 4,.mv (.k (.int .i64 0)),no⟩]) (.seq (.seq (.reg [⟨some 10,.mv (.t 1),no⟩]) (.blk 0 (.seq (.reg [⟨some 12,.bin .eql (.t 10) (.k (.int .i64 1)),no⟩,⟨some 11,.mv (.t 12),no⟩]) (.cond (.t 11) (.seq (.reg [⟨some 4,.mv (.k (.int .i64 1)),no⟩]) .ret) (.seq (.reg [⟨some 14,.bin .eql (.t 10) (.k (.int .i64 2)),no⟩,⟨some 13,.mv (.t 14),no⟩]) (.cond (.t 13) (.seq (.reg [⟨some 15,.fld 4 (.t 2),no⟩,⟨some 16,.ld true 3 (.t 15),no⟩,⟨some 17,.call (.k (.fn (.func 273) [] [])) [.t 16],no⟩,⟨some 5,.mv (.t 17),no⟩]) (.seq (.seq (.reg [⟨some 18,.fld 3 (.t 2),no⟩,⟨some 19,.ld false 1 (.t 18),no⟩,⟨some 20,.len false (.t 19),no⟩,⟨some 21,.mv (.k (.int .i64 0)),no⟩]) (.blk 1 (.loop (.seq (.reg [⟨some 22,.bin .lss (.t 21) (.t 20),no⟩]) (.seq (.cond (.t 22) .skip (.exit 1)) (.seq (.blk 2 (.seq (.reg [⟨some 23,.ixa 3 (.t 19) (.t 21),no⟩,⟨some 24,.ld true 3 (.t 23),no⟩,⟨some 7,.box [(.str []),(.str []),(.nil 3)],no⟩,⟨no,.st 3 (.t 7) (.t 24),no⟩]) (.seq (.reg [⟨some 25,.fld 2 (.t 7),no⟩,⟨some 26,.ld false 1 (.t 25),no⟩,⟨some 27,.len false (.t 26),no⟩,⟨some 28,.mv (.k (.int .i64 0)),no⟩]) (.blk 3 (.loop (.seq (.reg [⟨some 29,.bin .lss (.t 28) (.t 27),no⟩]) (.seq (.cond (.t 29) .skip (.exit 3)) (.seq (.blk 4 (.seq (.reg [⟨some 30,.ixa 3 (.t 26) (.t 28),no⟩,⟨some 31,.ld true 3 (.t 30),no⟩,⟨some 9,.box [(.bool false),(.nil 2),(.str [])],no⟩,⟨no,.st 3 (.t 9) (.t 31),no⟩]) (.reg [⟨some 32,.mv (.t 5),no⟩,⟨some 33,.ld true 3 (.t 9),no⟩,⟨some 34,.call (.k (.fn (.func 273) [] [])) [.t 33],no⟩,⟨some 35,.bin .add (.t 32) (.t 34),no⟩,⟨some 5,.mv (.t 35),no⟩]))) (.reg [⟨some 36,.bin .add (.t 28) (.k (.int .i64 1)),no⟩,⟨some 28,.mv (.t 36),no⟩]))))))))) (.reg [⟨some 37,.bin .add (.t 21) (.k (.int .i64 1)),no⟩,⟨some 21,.mv (.t 37),no⟩]))))))) (.seq (.reg [⟨some 38,.mv (.t 5),no⟩,⟨some 4,.mv (.t 38),no⟩]) .ret))) .skip)))))) (.seq (.reg [⟨some 4,.mv (.k (.int .i64 0)),no⟩]) .ret)))⟩
theorem a192_ok:J09 Tryz.prog Tryz.f192=some a192:=by kernel_rfl
def a187:AFn:= ⟨64,[.t 4],(.seq (.reg [⟨some 2,.boxv (.t 0),no⟩,⟨some 4,.mv (.k (.int .i64 0)),no⟩]) (.seq (.seq (.reg [⟨some 8,.mv (.t 1),no⟩]) (.blk 0 (.seq (.reg [⟨some 10,.bin .eql (.t 8) (.k (.int .i64 1)),no⟩,⟨some 9,.mv (.t 10),no⟩]) (.cond (.t 9) (.seq (.reg [⟨some 4,.mv (.k (.int .i64 1)),no⟩]) .ret) (.seq (.reg [⟨some 12,.bin .eql (.t 8) (.k (.int .i64 2)),no⟩,⟨some 11,.mv (.t 12),no⟩]) (.cond (.t 11) (.seq (.reg [⟨some 5,.mv (.k (.int .i64 0)),no⟩]) (.seq (.seq (.reg [⟨some 6,.mv (.k (.int .i64 0)),no⟩]) (.blk 1 (.loop (.seq (.seq (.reg [⟨some 13,.mv (.t 6),no⟩,⟨some 14,.fld 3 (.t 2),no⟩,⟨some 15,.ld false 1 (.t 14),no⟩,⟨some 16,.len false (.t 15),no⟩,⟨some 17,.bin .lss (.t 13) (.t 16),no⟩]) (.cond (.t 17) .skip (.exit 1))) (.seq (.blk 2 (.seq (.reg [⟨some 7,.mv (.k (.int .i64 0)),no⟩]) (.blk 3 (.loop (.seq (.seq (.reg [⟨some 20,.mv (.t 7),no⟩,⟨some 21,.fld 3 (.t 2),no⟩,⟨some 22,.ld false 1 (.t 21),no⟩,⟨some 23,.mv (.t 6),no⟩,⟨some 24,.ixa 3 (.t 22) (.t 23),no⟩,⟨some 25,.fld 2 (.t 24),no⟩,⟨some 26,.ld false 1 (.t 25),no⟩,⟨some 27,.len false (.t 26),no⟩,⟨some 28,.bin .lss (.t 20) (.t 27),no⟩]) (.cond (.t 28) .skip (.exit 3))) (.seq (.blk 4 (.seq (.reg [⟨some 31,.fld 3 (.t 2),no⟩,⟨some 32,.ld false 1 (.t 31),no⟩,⟨some 33,.mv (.t 6),no⟩,⟨some 34,.ixa 3 (.t 32) (.t 33),no⟩,⟨some 35,.fld 2 (.t 34),no⟩,⟨some 36,.ld false 1 (.t 35),no⟩,⟨some 37,.mv (.t 7),no⟩,⟨some 38,.ixa 3 (.t 36) (.t 37),no⟩,⟨some 39,.fld 0 (.t 38),no⟩,⟨some 40,.ld false 1 (.t 39),no⟩]) (.cond (.t 40) (.reg [⟨some 41,.mv (.t 5),no⟩,⟨some 42,.fld 3 (.t 2),no⟩,⟨some 43,.ld false 1 (.t 42),no⟩,⟨some 44,.mv (.t 6),no⟩,⟨some 45,.ixa 3 (.t 43) (.t 44),no⟩,⟨some 46,.fld 2 (.t 45),no⟩,⟨some 47,.ld false 1 (.t 46),no⟩,⟨some 48,.mv (.t 7),no⟩,⟨some 49,.ixa 3 (.t 47) (.t 48),no⟩,⟨some 50,.fld 1 (.t 49),no⟩,⟨some 51,.ld false 1 (.t 50),no⟩,⟨some 52,.len false (.t 51),no⟩,⟨some 53,.bin .add (.t 41) (.t 52),no⟩,⟨some 5,.mv (.t 53),no⟩]) .skip))) (.reg [⟨some 29,.mv (.t 7),no⟩,⟨some 30,.bin .add (.t 29) (.k (.int .i64 1)),no⟩,⟨some 7,.mv (.t 30),no⟩]))))))) (.reg [⟨some 18,.mv (.t 6),no⟩,⟨some 19,.bin .add (.t 18) (.k (.int .i64 1)),no⟩,⟨some 6,.mv (.t 19),no⟩])))))) (.seq (.seq (.reg [⟨some 54,.fld 4 (.t 2),no⟩,⟨some 55,.fld 0 (.t 54),no⟩,⟨some 56,.ld false 1 (.t 55),no⟩]) (.cond (.t 56) (.reg [⟨some 57,.mv (.t 5),no⟩,⟨some 58,.fld 4 (.t 2),no⟩,⟨some 59,.fld 1 (.t 58),no⟩,⟨some 60,.ld false 1 (.t 59),no⟩,⟨some 61,.len false (.t 60),no⟩,⟨some 62,.bin .add (.t 57) (.t 61),no⟩,⟨some 5,.mv (.t 62),no⟩]) .skip)) (.seq (.reg [⟨some 63,.mv (.t 5),no⟩,⟨some 4,.mv (.t 63),no⟩]) .ret)))) .skip)))))) (.seq (.reg [⟨some 4,.mv (.k (.int .i64 0)),no⟩]) .ret)))⟩
theorem a187_ok:J09 Tryz.prog Tryz.f187=some a187:=by kernel_rfl
def J5z (a:DArg):Nat:=if a.Lst then a.Heads.length else 0
def Jhn (c:DCall):Nat:=(c.Args.map J5z).sum
def J7x (r:DRule):Nat:=J5z r.Result+(r.Calls.map Jhn).sum
def J3z (r:DRule) (kind:Int):Int:=if kind=1 then 1 else if kind=2 then (J7x r:Int) else 0
theorem Jje (a:DArg):J5z a≤J9a a:=by
 unfold J5z J9a J65 wL;split <;> omega
theorem Jp7 {α:Type}{f g:α→Nat}(h:∀ x,f x≤g x):∀ l:List α,(l.map f).sum≤(l.map g).sum
 | []=>Nat.le_refl _
 | x::l=>by have:=Jp7 h l;have:=h x;simp only [List.map_cons,List.sum_cons];omega
theorem Jua (c:DCall):Jhn c≤J54 c:=by
 have:=Jp7 Jje c.Args
 unfold Jhn J54 Jbb wL;omega
theorem Jcl (r:DRule):J7x r≤J3f r:=by
 have:=Jp7 Jua r.Calls
 have:=Jje r.Result
 unfold J7x J3f J79 wL;omega
theorem Jck (a:DArg):Holds Tryz.prog 273 [.agg (J0s a)] (fun r=>r=i64 (J5z a)):=by
 refine J03 Tryz.func273 a273_ok rfl (by simp [a273]) ?_
 simp [a273,J0s]
 unfold J5z
 cases a.Lst <;> simp
theorem Jgf (r:DRule) (kind:Int) (hw:J3f r≤1048576):Holds Tryz.prog 192 [.agg (J0b r),i64 kind] (fun x=>x=i64 (J3z r kind)):=by
 have hT:=Jcl r
 refine J03 Tryz.func192 a192_ok rfl (by simp [a192]) ?_
 simp [a192,J0b]
 unfold J3z
 by_cases h1:kind=1
 ·simp [h1]
 by_cases h2:kind=2
 case neg=>simp [h1,h2]
 simp [h2]
 first|refine J00 (Jck r.Result) (by first|simp [J0s];done|rfl) ?_|refine J01 (Jck r.Result) (by first|simp [J0s];done|rfl) ?_
 rintro r rfl
 simp
 intro hl
 refine Ji7 [19,20] 21 r.Calls.length (fun i s _ _=>∃ acc:Nat,s 5=i64 acc∧acc+((r.Calls.map Jhn).drop i).sum=J7x r) hl (by simp) ⟨J5z r.Result,by simp,by simp [J7x]⟩ ?_ ?_
 ·rintro i s h n hi hg hk s21 hw ⟨acc,s5,hT1⟩
  simp at hk
  rw [List.drop_eq_getElem_cons (by simpa using hi),List.sum_cons,List.getElem_map] at hT1
  simp [hk,s21,hi,hg,J0r]
  intro hl2
  refine Ji7 [19,20,21,26,27] 28 (r.Calls[i]).Args.length (fun j s _ _=>∃ acc:Nat,s 5=i64 acc∧acc+(((r.Calls[i]).Args.map J5z).drop j).sum+((r.Calls.map Jhn).drop (i+1)).sum=J7x r) hl2 (by simp) ⟨acc,by simp [s5],by rw [List.drop_zero];exact hT1 ▸ by unfold Jhn;omega⟩ ?_ ?_
  ·rintro j s2 h2 n2 hj hgj hk2 s28 hw2 ⟨acc2,s5b,hT2⟩
   simp at hk2
   rw [List.drop_eq_getElem_cons (by simpa using hj),List.sum_cons,List.getElem_map] at hT2
   simp [hk2,hk,s28,s21,hj,hgj,J0s,s5b]
   first|refine J00 (Jck _) (by simp [J0s]) ?_|refine J01 (Jck _) (by simp [J0s]) ?_|refine J00 (Jck _) rfl ?_|refine J01 (Jck _) rfl ?_
   rintro r rfl
   simp [hk2,hk,s28,s21,s5b,hw2]
   exact ⟨acc2+J5z (r.Calls[i].Args[j]),by rw [J0p (by omega)];rfl,by omega⟩
  ·rintro s2 h2 n2 hk2 s28 ⟨acc2,s5b,hT2⟩
   simp at hk2
   simp [hk2,hk,s28,s21,s5b,hw]
   exact ⟨acc2,rfl,by rw [List.drop_eq_nil_of_le (by simp)] at hT2;simpa using hT2⟩
 ·rintro s h n hk s21 ⟨acc,s5,hT1⟩
  simp at hk
  rw [List.drop_eq_nil_of_le (by simp)] at hT1
  simp at hT1
  simp [hk,s21,s5,hT1]
theorem Jfd (r:DRule) (kind:Int) (hw:J3f r≤1048576):Holds Tryz.prog 187 [.agg (J0b r),i64 kind] (fun x=>x=i64 (J3z r kind)):=by
 have hT:=Jcl r
 refine J03 Tryz.func187 a187_ok rfl (by simp [a187]) ?_
 simp [a187,J0b]
 unfold J3z
 by_cases h1:kind=1
 ·simp [h1]
 by_cases h2:kind=2
 case neg=>simp [h1,h2]
 simp [h2]
 have hl:r.Calls.length≤LIM:=by have:=J2h J54 r.Calls;unfold J3f J79 at hw;unfold LIM;omega
 refine J4h [2] 6 r.Calls.length (fun i s=>∃ acc:Nat,s 5=i64 acc∧acc+((r.Calls.map Jhn).drop i).sum+J5z r.Result=J7x r) hl (by simp) ⟨0,by simp,by simp [J7x];omega⟩ ?_ ?_
 ·rintro i s h R hi hg hk s6 hw6 ⟨acc,s5,hT1⟩ hh hR _ _
  simp at hk hh
  rw [List.drop_eq_getElem_cons (by simpa using hi),List.sum_cons,List.getElem_map] at hT1
  simp [hk,s6,hi,hg,hh]
  intro _
  have hl2:(r.Calls[i]).Args.length≤LIM:=by
   have:=J2h J9a (r.Calls[i]).Args
   have:=J3n (w:=J54) (List.getElem_mem hi)
   unfold J3f J79 at hw
   rw [show J54 r.Calls[i]=(r.Calls[i]).Bind.length+(r.Calls[i]).Func.length+Jbb (r.Calls[i]).Args from rfl] at this
   unfold Jbb at this
   unfold LIM;omega
  refine J4h [2,6] 7 (r.Calls[i]).Args.length (fun j s=>∃ acc:Nat,s 5=i64 acc∧acc+(((r.Calls[i]).Args.map J5z).drop j).sum+((r.Calls.map Jhn).drop (i+1)).sum+J5z r.Result=J7x r) hl2 (by simp) ⟨acc,by simp [s5],by rw [List.drop_zero];exact hT1 ▸ by unfold Jhn;omega⟩ ?_ ?_
  ·rintro j s2 h2 R2 hj hgj hk2 s7 hw2 ⟨acc2,s5b,hT2⟩ hh2 hR2 _ _
   simp at hk2
   simp [hh] at hh2
   rw [List.drop_eq_getElem_cons (by simpa using hj),List.sum_cons,List.getElem_map] at hT2
   simp [hk2,hk,s7,s6,hi,hg,hj,hgj,s5b,hh2,hw2]
   intro _
   refine ⟨fun hL => ?_,fun hL => ?_⟩
   ·have e:J5z (r.Calls[i].Args[j])=(r.Calls[i].Args[j]).Heads.length:=by simp [J5z,hL]
    rw [e] at hT2
    intro _
    refine hR2 _ (by simp [hk2,hk,s6]) (by simp) ⟨acc2+(r.Calls[i].Args[j]).Heads.length,?_,by omega⟩
    simp
    rw [J0p (by omega)]
   ·exact hR2 _ (by simp [hk2,hk,s6]) (by simp) ⟨acc2,by simp [s5b],by simpa [J5z,hL] using hT2⟩
  ·rintro s2 h2 R2 hk2 s7 ⟨acc2,s5b,hT2⟩ hh2 _ hX
   simp at hk2
   simp [hh] at hh2
   simp [hk2,hk,s7,s6,s5b,hi,hg,hw6,hh2]
   intro _
   refine hX _ _ ?_
   simp [hk2,hk,s7,s6,s5b,hi,hg,hw6]
   exact hR _ (by simp [hk2,hk]) (by simp) ⟨acc2,by simp [s5b],by rw [List.drop_eq_nil_of_le (by simp)] at hT2;simpa using hT2⟩
 ·rintro s h R hk s6 ⟨acc,s5,hT1⟩ hh _ hX
  simp at hk hh
  rw [List.drop_eq_nil_of_le (by simp)] at hT1
  simp at hT1
  simp [hk,s6,s5,hh]
  intro _
  refine hX _ _ ?_
  simp [hk,s5]
  refine ⟨fun hL => ?_,fun hL => ?_⟩
  ·have e:J5z r.Result=r.Result.Heads.length:=by simp [J5z,hL]
   intro _
   rw [J0p (by omega)];omega
  ·simp [J5z,hL] at hT1;rw [hT1]
def a190:AFn:= ⟨5,[.t 2],(.seq (.reg [⟨some 2,.mv (.k (.int .i64 0)),no⟩]) (.seq (.seq (.reg [⟨some 3,.mv (.t 0),no⟩,⟨some 4,.bin .eql (.t 3) (.k (.int .i64 1)),no⟩]) (.cond (.t 4) (.seq (.reg [⟨some 2,.mv (.k (.int .i64 1)),no⟩]) .ret) .skip)) (.seq (.reg [⟨some 2,.mv (.k (.int .i64 0)),no⟩]) .ret)))⟩
theorem a190_ok:J09 Tryz.prog Tryz.f190=some a190:=by kernel_rfl
def a103:AFn:= ⟨31,[.t 4],(.seq (.reg [⟨some 2,.boxv (.t 0),no⟩,⟨some 4,.mv (.k (.bool false)),no⟩]) (.seq (.seq (.reg [⟨some 7,.mv (.t 1),no⟩,⟨some 8,.len false (.t 7),no⟩,⟨some 9,.fld 0 (.t 2),no⟩,⟨some 10,.ld false 1 (.t 9),no⟩,⟨some 11,.len false (.t 10),no⟩,⟨some 12,.bin .neq (.t 8) (.t 11),no⟩]) (.cond (.t 12) (.seq (.reg [⟨some 4,.mv (.k (.bool false)),no⟩]) .ret) .skip)) (.seq (.seq (.reg [⟨some 13,.mv (.t 1),no⟩,⟨some 14,.len false (.t 13),no⟩,⟨some 15,.mv (.k (.int .i64 0)),no⟩]) (.blk 0 (.loop (.seq (.reg [⟨some 16,.bin .lss (.t 15) (.t 14),no⟩]) (.seq (.cond (.t 16) .skip (.exit 0)) (.seq (.blk 1 (.seq (.reg [⟨some 17,.mv (.t 15),no⟩,⟨some 18,.ixa 2 (.t 13) (.t 15),no⟩,⟨some 19,.ld true 2 (.t 18),no⟩,⟨some 6,.box [(.int .i64 0),(.nil 1)],no⟩,⟨some 5,.mv (.t 17),no⟩,⟨no,.st 2 (.t 6) (.t 19),no⟩]) (.seq (.draw (.op ⟨some 20,.ld true 2 (.t 6),no⟩ (.op ⟨some 21,.fld 0 (.t 2),no⟩ (.op ⟨some 22,.ld false 1 (.t 21),no⟩ (.op ⟨some 23,.mv (.t 5),no⟩ (.op ⟨some 24,.ixa 4 (.t 22) (.t 23),no⟩ (.op ⟨some 25,.fld 1 (.t 24),no⟩ (.op ⟨some 26,.ld false 1 (.t 25),no⟩ (.op ⟨some 27,.len false (.t 26),no⟩ (.op ⟨some 28,.call (.k (.fn (.func 146) [] [])) [.t 20,.t 27],no⟩ (.op ⟨some 29,.un .not (.t 28),no⟩ .fin))))))))))) (.cond (.t 29) (.seq (.reg [⟨some 4,.mv (.k (.bool false)),no⟩]) .ret) .skip)))) (.reg [⟨some 30,.bin .add (.t 15) (.k (.int .i64 1)),no⟩,⟨some 15,.mv (.t 30),no⟩]))))))) (.seq (.reg [⟨some 4,.mv (.k (.bool true)),no⟩]) .ret))))⟩
theorem a103_ok:J09 Tryz.prog Tryz.f103=some a103:=by kernel_rfl
def J3v (kind:Int):Int:=if kind=1 then 1 else 0
def Jjg (fs:List DFunction) (ls:List DLin):Bool:=decide (ls.length=fs.length)&&(ls.zip fs).all fun x=>J1j x.1 x.2.Params.length
def J2e (p:DProgram) (b:DBounds):Bool:=J34 p&&inR b.Kind 1 2&&Jjg p.Functions b.Lins
def J5r (p:DProgram) (name:Str):DSystem:=(Jof p name).getD Jnv
def J75 (b:DBounds) (l:DLin):Option DLin:=J61 l (-(J3v b.Kind))
def Jxx (s:DSystem) (o:Option DLin):AV := .tup [.agg (J0a ⟨s,o.getD J1s⟩),.bool o.isSome]
theorem Jbq (k:Int):Holds Tryz.prog 190 [i64 k] (fun x=>x=i64 (J3v k)):=by
 refine J03 Tryz.func190 a190_ok rfl (by simp [a190]) ?_
 simp [a190]
 unfold J3v
 split <;> simp [*]
theorem Jml (p:DProgram) (ls:List DLin):Holds Tryz.prog 103 [.agg (J02 p),.sl 2 (ls.map J06)] (fun x=>x = .bool (Jjg p.Functions ls)):=by
 refine J03 Tryz.func103 a103_ok rfl (by simp [a103]) ?_
 simp [a103,J02]
 unfold Jjg
 by_cases hl:ls.length=p.Functions.length
 case neg=>
  have hl':¬(ls.length:Int)=p.Functions.length:=by omega
  simp [hl,hl']
 simp [hl]
 intro hlm
 refine J0m [2,13,14] 15 ls.length (fun i s h n=>0<n∧h 0=some ⟨true,2,[J02 p]⟩∧((ls.drop i).zip (p.Functions.drop i)).all (fun x=>J1j x.1 x.2.Params.length)=(ls.zip p.Functions).all (fun x=>J1j x.1 x.2.Params.length)) (by omega) (by simp) ⟨by simp,by simp [J02],rfl⟩ ?_ ?_
 ·rintro i s h n R hi hg hk s15 hw ⟨hn,e0,hJ⟩ hR hret _
  have hi':i<p.Functions.length:=by omega
  simp at hk
  rw [List.drop_eq_getElem_cons hi,List.drop_eq_getElem_cons hi',List.zip_cons_cons,List.all_cons] at hJ
  have hn':¬0=n:=by omega
  simp [hk,s15,hi,hi',hg,hw,e0,hn',J06,J02,J04]
  first|refine J00 (J1m (ls[i]'hi) (p.Functions[i]'hi').Params.length) (by first|simp [J06];done|rfl) ?_|refine J01 (J1m (ls[i]'hi) (p.Functions[i]'hi').Params.length) (by first|simp [J06];done|rfl) ?_
  rintro r rfl
  cases h0:J1j ls[i] (p.Functions[i]).Params.length
  ·rw [h0] at hJ
   have hJ:(ls.zip p.Functions).all (fun x=>J1j x.1 x.2.Params.length)=false:=by rw [←hJ];rfl
   simp
   refine hret _ _ _ ?_
   simp [hJ]
  ·rw [h0,Bool.true_and] at hJ
   simp [hk,s15,hi,hg,hw]
   exact hR _ _ _ (by simp [hk]) (by simp) ⟨by omega,by simp [hn',e0,J02],hJ⟩
 ·rintro s h n R hk s15 ⟨hn,e0,hJ⟩ hret hX
  simp at hk
  rw [List.drop_eq_nil_of_le (Nat.le_refl _)] at hJ
  simp [hk,s15,hl]
  refine hX _ _ _ _ ?_
  rw [←hJ]
  simp
def fo0:AC:=(.reg [⟨some 3,.boxv (.t 0),no⟩,⟨some 4,.boxv (.t 1),no⟩,⟨some 6,.box [(.int .i64 0),(.nil 2),(.int .i64 0),(.nil 1)],no⟩,⟨some 7,.mv (.k (.bool false)),no⟩])
def fo1:AC:=(.draw (.op ⟨some 13,.ld true 2 (.t 3),no⟩ (.op ⟨some 14,.fld 0 (.t 3),no⟩ (.op ⟨some 15,.ld false 1 (.t 14),no⟩ (.op ⟨some 16,.mv (.t 2),no⟩ (.op ⟨some 17,.ixa 4 (.t 15) (.t 16),no⟩ (.op ⟨some 18,.fld 0 (.t 17),no⟩ (.op ⟨some 19,.ld false 1 (.t 18),no⟩ (.both (.op ⟨some 20,.call (.k (.fn (.func 188) [] [])) [.t 13,.t 19],no⟩ (.op ⟨some 12,.mv (.t 20),no⟩ (.op ⟨some 21,.ext (.t 12) 0,no⟩ (.op ⟨some 22,.ext (.t 12) 1,no⟩ (.op ⟨some 8,.box [(.int .i64 0),(.nil 2)],no⟩ (.hop ⟨no,.st 2 (.t 8) (.t 21),no⟩ [] (.op ⟨some 9,.mv (.t 22),no⟩ .fin))))))) (.op ⟨some 8,.box [(.int .i64 0),(.nil 2)],no⟩ (.op ⟨some 20,.call (.k (.fn (.func 188) [] [])) [.t 13,.t 19],no⟩ (.op ⟨some 12,.mv (.t 20),no⟩ (.op ⟨some 21,.ext (.t 12) 0,no⟩ (.op ⟨some 22,.ext (.t 12) 1,no⟩ (.hop ⟨no,.st 2 (.t 8) (.t 21),no⟩ [] (.op ⟨some 9,.mv (.t 22),no⟩ .fin))))))))))))))))
def fo2:AC:=(.draw (.op ⟨some 24,.fld 1 (.t 4),no⟩ (.op ⟨some 25,.ld false 1 (.t 24),no⟩ (.op ⟨some 26,.mv (.t 2),no⟩ (.op ⟨some 27,.ixa 2 (.t 25) (.t 26),no⟩ (.op ⟨some 28,.ld true 2 (.t 27),no⟩ (.op ⟨some 29,.fld 0 (.t 4),no⟩ (.op ⟨some 30,.ld false 1 (.t 29),no⟩ (.both (.op ⟨some 31,.call (.k (.fn (.func 190) [] [])) [.t 30],no⟩ (.op ⟨some 32,.un .neg (.t 31),no⟩ (.both (.op ⟨some 33,.call (.k (.fn (.func 189) [] [])) [.t 28,.t 32],no⟩ (.op ⟨some 23,.mv (.t 33),no⟩ (.op ⟨some 34,.ext (.t 23) 0,no⟩ (.op ⟨some 35,.ext (.t 23) 1,no⟩ (.op ⟨some 10,.box [(.int .i64 0),(.nil 1)],no⟩ (.hop ⟨no,.st 2 (.t 10) (.t 34),no⟩ [] (.op ⟨some 11,.mv (.t 35),no⟩ .fin))))))) (.op ⟨some 10,.box [(.int .i64 0),(.nil 1)],no⟩ (.op ⟨some 33,.call (.k (.fn (.func 189) [] [])) [.t 28,.t 32],no⟩ (.op ⟨some 23,.mv (.t 33),no⟩ (.op ⟨some 34,.ext (.t 23) 0,no⟩ (.op ⟨some 35,.ext (.t 23) 1,no⟩ (.hop ⟨no,.st 2 (.t 10) (.t 34),no⟩ [] (.op ⟨some 11,.mv (.t 35),no⟩ .fin)))))))))) (.op ⟨some 10,.box [(.int .i64 0),(.nil 1)],no⟩ (.op ⟨some 31,.call (.k (.fn (.func 190) [] [])) [.t 30],no⟩ (.op ⟨some 32,.un .neg (.t 31),no⟩ (.op ⟨some 33,.call (.k (.fn (.func 189) [] [])) [.t 28,.t 32],no⟩ (.op ⟨some 23,.mv (.t 33),no⟩ (.op ⟨some 34,.ext (.t 23) 0,no⟩ (.op ⟨some 35,.ext (.t 23) 1,no⟩ (.hop ⟨no,.st 2 (.t 10) (.t 34),no⟩ [] (.op ⟨some 11,.mv (.t 35),no⟩ .fin))))))))))))))))))
def fo3:AC:=(.reg [⟨some 36,.ld true 2 (.t 8),no⟩,⟨some 37,.ld true 2 (.t 10),no⟩,⟨some 38,.build [(.int .i64 0),(.nil 2),(.int .i64 0),(.nil 1)] [(0,(2,(.t 36))),(2,(2,(.t 37)))],no⟩,⟨some 39,.mv (.t 11),no⟩,⟨no,.st 4 (.t 6) (.t 38),no⟩,⟨some 7,.mv (.t 39),no⟩])
def a104:AFn:=⟨40,[(.c 6 true 4),.t 7],(.seq fo0 (.seq fo1 (.seq fo2 (.seq fo3 .ret))))⟩
theorem a104_ok:J09 Tryz.prog Tryz.f104=some a104:=by kernel_rfl
section
variable {ks:List Kt}{s:Env}{h h':Heap}{n:Nat}{Q:Fin}
theorem Jxc {p:DProgram}(hp:J0h p≤1048576) {i:Nat}(hi:i<p.Functions.length) (s2:s 2 = .int .i64 i) (s3:s 3 = .ptr 0 0 0) (e0:h 0=some ⟨true,2,[J02 p]⟩)
 (hK:∀ s' h' n',(∀ j∈[2,3,4,6],s' j=s j)→(∀ id,id<n→h' id=h id)→(∃ k,s' 8 = .ptr k 0 0∧n≤k∧∃ q,n≤q∧k<n'∧q<n'∧h' k=some ⟨true,2,[[.int .i64 (J5r p (p.Functions[i]).Name).N,.ref q 0 (J5r p (p.Functions[i]).Name).Rows.length]]⟩∧h' q=some ⟨false,2,(J5r p (p.Functions[i]).Name).Rows.map J08⟩)→n≤n'→J2l Tryz.prog ks .normal s' h' n' Q):rC Tryz.prog fo1 ks s h n Q:=by
 have fr:∀ id,id<n→¬id=n∧¬id=n+1:=by intro id _;omega
 have ne:¬n=n+1∧¬n+1=n:=by omega
 simp [fo1,s2,s3,e0,hi,J02,J04]
 generalize hnm:(p.Functions[i]).Name=nm at *
 constructor
 ·skip
  first|refine J00 (Ja6 p hp nm) (by first|simp [J02];done|rfl) ?_|refine J01 (Ja6 p hp nm) (by first|simp [J02];done|rfl) ?_
  rintro r rfl
  unfold J8h
  rw [show (Jof p nm).getD Jnv=J5r p nm from rfl]
  generalize J5r p nm=S at *
  simp [J2k,ne]
  exact hK _ _ _ (by simp) (fun id hid=>by simp [fr id hid]) ⟨n+1,by simp,by omega,n,by omega,by omega,by omega,by simp,by simp [ne]⟩ (by omega)
 ·skip
  first|refine J00 (Ja6 p hp nm) (by first|simp [J02];done|rfl) ?_|refine J01 (Ja6 p hp nm) (by first|simp [J02];done|rfl) ?_
  rintro r rfl
  unfold J8h
  rw [show (Jof p nm).getD Jnv=J5r p nm from rfl]
  generalize J5r p nm=S at *
  simp [J2k,ne]
  exact hK _ _ _ (by simp) (fun id hid=>by simp [fr id hid]) ⟨n,by simp,by omega,n+1,by omega,by omega,by omega,by simp,by simp [ne]⟩ (by omega)
theorem Jwc {b:DBounds}{i:Nat}(hb:i<b.Lins.length) (s2:s 2 = .int .i64 i) (s4:s 4 = .ptr 1 0 0) (e1:h 1=some ⟨true,2,[J0g b]⟩)
 (hK:∀ s' h' n',(∀ j∈[2,3,4,6,8],s' j=s j)→(∀ id,id<n→h' id=h id)→s' 11 = .bool (J75 b b.Lins[i]).isSome→(∃ k,s' 10 = .ptr k 0 0∧n≤k∧∃ q,n≤q∧k<n'∧q<n'∧h' k=some ⟨true,2,[[.int .i64 ((J75 b b.Lins[i]).getD J1s).Const,.ref q 0 ((J75 b b.Lins[i]).getD J1s).Coeffs.length]]⟩∧h' q=some ⟨false,1,J0k ((J75 b b.Lins[i]).getD J1s).Coeffs⟩)→n≤n'→J2l Tryz.prog ks .normal s' h' n' Q):rC Tryz.prog fo2 ks s h n Q:=by
 have fr:∀ id,id<n→¬id=n∧¬id=n+1:=by intro id _;omega
 have ne:¬n=n+1∧¬n+1=n:=by omega
 have hw:IntKind.i64.wrap (-(J3v b.Kind)) = -(J3v b.Kind):=J0p (by unfold J3v;split <;> omega)
 simp [fo2,s2,s4,e1,hb,J0g]
 refine ⟨?_,?_⟩
 ·skip
  first|refine J00 (Jbq b.Kind) (by first|simp;done|rfl) ?_|refine J01 (Jbq b.Kind) (by first|simp;done|rfl) ?_
  rintro r rfl
  simp [hw]
  constructor
  ·skip
   first|refine J00 (Jaj (b.Lins[i]'hb) (-(J3v b.Kind))) (by first|simp [J06];done|rfl) ?_|refine J01 (Jaj (b.Lins[i]'hb) (-(J3v b.Kind))) (by first|simp [J06];done|rfl) ?_
   rintro r rfl
   rw [J0o,show J61 (b.Lins[i]'hb) (-(J3v b.Kind))=J75 b b.Lins[i] from rfl]
   generalize J75 b b.Lins[i]=T at *
   simp [J08,ne]
   exact hK _ _ _ (by simp) (fun id hid=>by simp [fr id hid]) (by simp) ⟨n+1,by simp,by omega,n,by omega,by omega,by omega,by simp,by simp [ne]⟩ (by omega)
  ·skip
   first|refine J00 (Jaj (b.Lins[i]'hb) (-(J3v b.Kind))) (by first|simp [J06];done|rfl) ?_|refine J01 (Jaj (b.Lins[i]'hb) (-(J3v b.Kind))) (by first|simp [J06];done|rfl) ?_
   rintro r rfl
   rw [J0o,show J61 (b.Lins[i]'hb) (-(J3v b.Kind))=J75 b b.Lins[i] from rfl]
   generalize J75 b b.Lins[i]=T at *
   simp [J08,ne]
   exact hK _ _ _ (by simp) (fun id hid=>by simp [fr id hid]) (by simp) ⟨n,by simp,by omega,n+1,by omega,by omega,by omega,by simp,by simp [ne]⟩ (by omega)
 ·skip
  first|refine J00 (Jbq b.Kind) (by first|simp;done|rfl) ?_|refine J01 (Jbq b.Kind) (by first|simp;done|rfl) ?_
  rintro r rfl
  simp [hw]
  first|refine J00 (Jaj (b.Lins[i]'hb) (-(J3v b.Kind))) (by first|simp [J06];done|rfl) ?_|refine J01 (Jaj (b.Lins[i]'hb) (-(J3v b.Kind))) (by first|simp [J06];done|rfl) ?_
  rintro r rfl
  rw [J0o,show J61 (b.Lins[i]'hb) (-(J3v b.Kind))=J75 b b.Lins[i] from rfl]
  generalize J75 b b.Lins[i]=T at *
  simp [J08,ne]
  exact hK _ _ _ (by simp) (fun id hid=>by simp [fr id hid]) (by simp) ⟨n,by simp,by omega,n+1,by omega,by omega,by omega,by simp,by simp [ne]⟩ (by omega)
end
theorem J6o (p:DProgram) (hp:J0h p≤1048576) (b:DBounds) {i:Nat}(hi:i<p.Functions.length) (hb:i<b.Lins.length):Holds Tryz.prog 104 [.agg (J02 p),.agg (J0g b),i64 i] (fun x=>x=Jxx (J5r p (p.Functions[i]).Name) (J75 b b.Lins[i])):=by
 refine J03 Tryz.func104 a104_ok rfl (by simp [a104]) ?_
 simp [a104,fo0]
 refine Jxc hp hi (by simp) (by simp) (by simp) ?_
 rintro st1 h1 n1 hk1 hf1 ⟨k8,s8,hk8,q8,w1,w2,w3,w4,w5⟩ hn1
 simp at hk1
 simp
 refine Jwc (b:=b) (i:=i) hb (by simp [hk1]) (by simp [hk1]) (by rw [hf1 1 (by omega)];simp) ?_
 rintro st2 h2 n2 hk2 hf2 s11 ⟨k10,s10,hk10,q10,b1,b2,b3,b4,b5⟩ hn2
 simp at hk2
 have x8:=hf2 k8 w2
 have y8:=hf2 q8 w3
 rw [w4] at x8
 rw [w5] at y8
 have ne:¬q8=q10∧¬q10=q8∧¬q10=2∧¬q8=2:=by omega
 have e2:h2 2=some ⟨true,4,[[.int .i64 0,.nil 2,.int .i64 0,.nil 1]]⟩:=by rw [hf2 2 (by omega),hf1 2 (by omega)];simp
 unfold Jxx
 generalize J5r p (p.Functions[i]).Name=S at *
 generalize J75 b b.Lins[i]=T at *
 simp [fo3,hk2,hk1,s8,s10,s11,x8,y8,b4,b5,e2,ne,J0a]
def ux0:AC:=(.reg [⟨some 3,.boxv (.t 0),no⟩,⟨some 4,.boxv (.t 1),no⟩,⟨some 6,.box [(.int .i64 0),(.nil 2),(.int .i64 0),(.nil 1)],no⟩,⟨some 7,.mv (.k (.bool false)),no⟩])
def ux1:AC:=(.reg [⟨some 17,.fld 1 (.t 3),no⟩,⟨some 18,.ld false 1 (.t 17),no⟩,⟨some 19,.mv (.t 2),no⟩,⟨some 20,.ixa 7 (.t 18) (.t 19),no⟩,⟨some 21,.ld true 7 (.t 20),no⟩,⟨some 8,.box [(.str []),(.nil 4),(.nil 2),(.nil 3),(.bool false),(.nil 2),(.str [])],no⟩,⟨no,.st 7 (.t 8) (.t 21),no⟩])
def ux2:AC:=(.reg [⟨some 23,.ld true 2 (.t 3),no⟩,⟨some 24,.mv (.t 2),no⟩,⟨some 25,.call (.k (.fn (.func 126) [] [])) [.t 23,.t 24],no⟩,⟨some 22,.mv (.t 25),no⟩,⟨some 26,.ext (.t 22) 0,no⟩,⟨some 27,.ext (.t 22) 1,no⟩,⟨some 9,.box [(.int .i64 0),(.nil 2),(.nil 2),(.nil 1),(.int .i64 0),(.nil 1)],no⟩,⟨no,.st 6 (.t 9) (.t 26),no⟩,⟨some 10,.mv (.t 27),no⟩])
def ux3:AC:=(.draw (.op ⟨some 29,.fld 1 (.t 4),no⟩ (.op ⟨some 30,.ld false 1 (.t 29),no⟩ (.op ⟨some 31,.ld true 2 (.t 3),no⟩ (.op ⟨some 32,.fld 0 (.t 8),no⟩ (.op ⟨some 33,.ld false 1 (.t 32),no⟩ (.op ⟨some 37,.fld 2 (.t 9),no⟩ (.op ⟨some 38,.ld false 1 (.t 37),no⟩ (.op ⟨some 39,.fld 0 (.t 9),no⟩ (.op ⟨some 40,.fld 0 (.t 39),no⟩ (.op ⟨some 41,.ld false 1 (.t 40),no⟩ (.both (.op ⟨some 34,.call (.k (.fn (.func 84) [] [])) [.t 31,.t 33],no⟩ (.op ⟨some 35,.ixa 2 (.t 30) (.t 34),no⟩ (.op ⟨some 36,.ld true 2 (.t 35),no⟩ (.both (.op ⟨some 42,.call (.k (.fn (.func 191) [] [])) [.t 36,.t 38,.t 41],no⟩ (.op ⟨some 28,.mv (.t 42),no⟩ (.op ⟨some 43,.ext (.t 28) 0,no⟩ (.op ⟨some 44,.ext (.t 28) 1,no⟩ (.op ⟨some 11,.box [(.int .i64 0),(.nil 1)],no⟩ (.hop ⟨no,.st 2 (.t 11) (.t 43),no⟩ [] (.op ⟨some 12,.mv (.t 44),no⟩ .fin))))))) (.op ⟨some 11,.box [(.int .i64 0),(.nil 1)],no⟩ (.op ⟨some 42,.call (.k (.fn (.func 191) [] [])) [.t 36,.t 38,.t 41],no⟩ (.op ⟨some 28,.mv (.t 42),no⟩ (.op ⟨some 43,.ext (.t 28) 0,no⟩ (.op ⟨some 44,.ext (.t 28) 1,no⟩ (.hop ⟨no,.st 2 (.t 11) (.t 43),no⟩ [] (.op ⟨some 12,.mv (.t 44),no⟩ .fin))))))))))) (.op ⟨some 11,.box [(.int .i64 0),(.nil 1)],no⟩ (.op ⟨some 34,.call (.k (.fn (.func 84) [] [])) [.t 31,.t 33],no⟩ (.op ⟨some 35,.ixa 2 (.t 30) (.t 34),no⟩ (.op ⟨some 36,.ld true 2 (.t 35),no⟩ (.op ⟨some 42,.call (.k (.fn (.func 191) [] [])) [.t 36,.t 38,.t 41],no⟩ (.op ⟨some 28,.mv (.t 42),no⟩ (.op ⟨some 43,.ext (.t 28) 0,no⟩ (.op ⟨some 44,.ext (.t 28) 1,no⟩ (.hop ⟨no,.st 2 (.t 11) (.t 43),no⟩ [] (.op ⟨some 12,.mv (.t 44),no⟩ .fin))))))))))))))))))))))
def ux4:AC:=(.seq (.reg [⟨some 45,.mv (.t 12),no⟩]) (.cond (.t 45) (.draw (.op ⟨some 47,.ld true 2 (.t 11),no⟩ (.op ⟨some 48,.ld true 7 (.t 8),no⟩ (.op ⟨some 49,.fld 0 (.t 4),no⟩ (.op ⟨some 50,.ld false 1 (.t 49),no⟩ (.op ⟨some 51,.call (.k (.fn (.func 192) [] [])) [.t 48,.t 50],no⟩ (.op ⟨some 52,.un .neg (.t 51),no⟩ (.op ⟨some 53,.call (.k (.fn (.func 189) [] [])) [.t 47,.t 52],no⟩ (.op ⟨some 46,.mv (.t 53),no⟩ (.op ⟨some 54,.ext (.t 46) 0,no⟩ (.op ⟨some 55,.ext (.t 46) 1,no⟩ (.hop ⟨no,.st 2 (.t 11) (.t 54),no⟩ [] (.op ⟨some 12,.mv (.t 55),no⟩ .fin))))))))))))) .skip))
def K7b:AC:=(.draw (.op ⟨some 65,.ld true 6 (.t 9),no⟩ (.op ⟨some 66,.fld 1 (.t 4),no⟩ (.op ⟨some 67,.ld false 1 (.t 66),no⟩ (.op ⟨some 68,.ld true 2 (.t 3),no⟩ (.op ⟨some 69,.fld 1 (.t 14),no⟩ (.op ⟨some 70,.ld false 1 (.t 69),no⟩ (.op ⟨some 74,.mv (.t 13),no⟩ (.both (.op ⟨some 71,.call (.k (.fn (.func 84) [] [])) [.t 68,.t 70],no⟩ (.op ⟨some 72,.ixa 2 (.t 67) (.t 71),no⟩ (.op ⟨some 73,.ld true 2 (.t 72),no⟩ (.both (.op ⟨some 75,.call (.k (.fn (.func 177) [] [])) [.t 65,.t 73,.t 74],no⟩ (.op ⟨some 64,.mv (.t 75),no⟩ (.op ⟨some 76,.ext (.t 64) 0,no⟩ (.op ⟨some 77,.ext (.t 64) 1,no⟩ (.op ⟨some 15,.box [(.int .i64 0),(.nil 1)],no⟩ (.hop ⟨no,.st 2 (.t 15) (.t 76),no⟩ [] (.op ⟨some 16,.mv (.t 77),no⟩ .fin))))))) (.op ⟨some 15,.box [(.int .i64 0),(.nil 1)],no⟩ (.op ⟨some 75,.call (.k (.fn (.func 177) [] [])) [.t 65,.t 73,.t 74],no⟩ (.op ⟨some 64,.mv (.t 75),no⟩ (.op ⟨some 76,.ext (.t 64) 0,no⟩ (.op ⟨some 77,.ext (.t 64) 1,no⟩ (.hop ⟨no,.st 2 (.t 15) (.t 76),no⟩ [] (.op ⟨some 16,.mv (.t 77),no⟩ .fin))))))))))) (.op ⟨some 15,.box [(.int .i64 0),(.nil 1)],no⟩ (.op ⟨some 71,.call (.k (.fn (.func 84) [] [])) [.t 68,.t 70],no⟩ (.op ⟨some 72,.ixa 2 (.t 67) (.t 71),no⟩ (.op ⟨some 73,.ld true 2 (.t 72),no⟩ (.op ⟨some 75,.call (.k (.fn (.func 177) [] [])) [.t 65,.t 73,.t 74],no⟩ (.op ⟨some 64,.mv (.t 75),no⟩ (.op ⟨some 76,.ext (.t 64) 0,no⟩ (.op ⟨some 77,.ext (.t 64) 1,no⟩ (.hop ⟨no,.st 2 (.t 15) (.t 76),no⟩ [] (.op ⟨some 16,.mv (.t 77),no⟩ .fin)))))))))))))))))))
def K8l:AC:=(.reg [⟨some 86,.ld true 2 (.t 11),no⟩,⟨some 87,.ld true 2 (.t 15),no⟩,⟨some 88,.call (.k (.fn (.func 193) [] [])) [.t 86,(.k (.int .i64 (-1))),.t 87],no⟩,⟨some 85,.mv (.t 88),no⟩,⟨some 89,.ext (.t 85) 0,no⟩,⟨some 90,.ext (.t 85) 1,no⟩,⟨no,.st 2 (.t 11) (.t 89),no⟩,⟨some 12,.mv (.t 90),no⟩])
def ux5:AC:=(.seq (.reg [⟨some 56,.fld 3 (.t 8),no⟩,⟨some 57,.ld false 1 (.t 56),no⟩,⟨some 58,.len false (.t 57),no⟩,⟨some 59,.mv (.k (.int .i64 0)),no⟩]) (.blk 0 (.loop (.seq (.reg [⟨some 60,.bin .lss (.t 59) (.t 58),no⟩]) (.seq (.cond (.t 60) .skip (.exit 0)) (.seq (.blk 1 (.seq (.reg [⟨some 61,.mv (.t 59),no⟩,⟨some 62,.ixa 3 (.t 57) (.t 59),no⟩,⟨some 63,.ld true 3 (.t 62),no⟩,⟨some 14,.box [(.str []),(.str []),(.nil 3)],no⟩,⟨some 13,.mv (.t 61),no⟩,⟨no,.st 3 (.t 14) (.t 63),no⟩]) (.seq K7b (.seq (.seq (.reg [⟨some 78,.mv (.t 12),no⟩,⟨some 79,.un .not (.t 78),no⟩,⟨some 80,.mv (.t 79),no⟩,⟨some 81,.mv (.t 16),(some (80,false))⟩,⟨some 82,.un .not (.t 81),(some (80,false))⟩,⟨some 83,.pick (.t 80) (.k (.bool true)) (.t 82),no⟩]) (.cond (.t 83) (.seq (.reg [⟨some 84,.build [(.int .i64 0),(.nil 2),(.int .i64 0),(.nil 1)] [],no⟩,⟨no,.st 4 (.t 6) (.t 84),no⟩,⟨some 7,.mv (.k (.bool false)),no⟩]) .ret) .skip))  K8l)))) (.reg [⟨some 91,.bin .add (.t 59) (.k (.int .i64 1)),no⟩,⟨some 59,.mv (.t 91),no⟩])))))))
def ux6:AC:=(.reg [⟨some 92,.fld 0 (.t 9),no⟩,⟨some 93,.ld true 2 (.t 92),no⟩,⟨some 94,.ld true 2 (.t 11),no⟩,⟨some 95,.build [(.int .i64 0),(.nil 2),(.int .i64 0),(.nil 1)] [(0,(2,(.t 93))),(2,(2,(.t 94)))],no⟩,⟨some 96,.mv (.t 12),no⟩,⟨no,.st 4 (.t 6) (.t 95),no⟩,⟨some 7,.mv (.t 96),no⟩])
def a105:AFn:=⟨97,[(.c 6 true 4),.t 7],(.seq ux0 (.seq ux1 (.seq ux2 (.seq ux3 (.seq ux4 (.seq ux5 (.seq ux6 .ret)))))))⟩
theorem a105_ok:J09 Tryz.prog Tryz.f105=some a105:=by kernel_rfl
def J52 (p:DProgram) (b:DBounds) (name:Str):DLin:=b.Lins.getD (J1f (fun f=>f.Name==name) p.Functions 0).toNat J1s
def Jaf (p:DProgram) (b:DBounds) (md:DModel):Nat→List DCall→Option DLin→Option DLin
 | _,[],T=>T
 | j,c::cs,T=>Jaf p b md (j+1) cs (T.bind fun t=>(J60 md (J52 p b c.Func) j).bind fun x=>J0l t (-1) x)
theorem J88 {p:DProgram}{b:DBounds}{md:DModel} : ∀ {cs:List DCall}{j:Nat},Jaf p b md j cs Option.none=Option.none
 | [],_=>rfl
 | _::cs,j=>by simp only [Jaf,Option.bind_none];exact J88
def Jl0 (p:DProgram) (b:DBounds) (md:DModel) (r:DRule):Option DLin:=(J1w (J52 p b r.Func) md.Params md.System.N).bind fun t=>J61 t (-(J3z r b.Kind))
def J51 (p:DProgram) (b:DBounds) (md:DModel) (r:DRule):Option DLin:=Jaf p b md 0 r.Calls (Jl0 p b md r)
theorem Jqm {p:DProgram}{name:Str}(h:(J16 p.Functions name).isSome=true):∃ j:Nat,j<p.Functions.length∧J1f (fun f=>f.Name==name) p.Functions 0=(j:Int):=by
 rcases J7r (p:=fun f:DFunction=>f.Name==name) (l:=p.Functions) (k:=0) with ⟨h1,_⟩|⟨j,hj,h1,_⟩
 ·unfold J16 at h;rw [h1] at h;simp at h
 ·exact ⟨j,hj,by simpa using h1⟩
theorem Jih {p:DProgram}{r:DRule} : ∀ {l:List DCall}{k:Nat},J2d p r k l=true→∀ c∈l,(J16 p.Functions c.Func).isSome=true
 | [],_,_,_,h=>by cases h
 | c::l,k,h,x,hx=>by
  simp only [J2d,Bool.and_eq_true] at h
  rcases List.mem_cons.1 hx with rfl|hx
  ·have:=h.1;unfold J9r at this;simp only [Bool.and_eq_true] at this;exact this.1.1.1
  ·exact Jih h.2 x hx
theorem Jql {r:DRule}{k:Int}(hw:J3f r≤1048576):0≤J3z r k∧J3z r k≤1048576:=by
 have:J7x r≤J3f r:=Jcl r
 unfold J3z
 split
 ·omega
 ·split <;> omega
def J6n (md:DModel) (q:Nat) (h:Heap):Prop:=
 h (q+4)=some ⟨true,6,[[.int .i64 md.System.N,.ref q 0 md.System.Rows.length,.ref (q+1) 0 md.Params.length,.ref (q+2) 0 md.Args.length,.int .i64 md.Result.Const,.ref (q+3) 0 md.Result.Coeffs.length]]⟩ ∧
 h q=some ⟨false,2,md.System.Rows.map J08⟩∧h (q+1)=some ⟨false,2,md.Params.map J08⟩∧h (q+2)=some ⟨false,1,md.Args.map J24⟩∧h (q+3)=some ⟨false,1,J0k md.Result.Coeffs⟩
def J3x (l:DLin) (k q:Nat) (h:Heap):Prop:=h k=some ⟨true,2,[[.int .i64 l.Const,.ref q 0 l.Coeffs.length]]⟩∧h q=some ⟨false,1,J0k l.Coeffs⟩
section
variable {ks:List Kt}{s:Env}{h h':Heap}{n:Nat}{Q:Fin}
theorem Jzh {p:DProgram}(hp:J0h p≤1048576) {i:Int}(s2:s 2 = .int .i64 i) (s3:s 3 = .ptr 0 0 0) (e0:h 0=some ⟨true,2,[J02 p]⟩)
 (hK:∀ s' h',(∀ j∈[2,3,4,6,8],s' j=s j)→s' 9 = .ptr (n+4) 0 0→J6n ((J90 p i).getD J9e) n h'→(∀ id,id<n→h' id=h id)→J2l Tryz.prog ks .normal s' h' (n+5) Q):rC Tryz.prog ux2 ks s h n Q:=by
 simp [ux2,s2,s3,e0]
 first|refine J00 (Jiz p hp i) (by first|simp [J02];done|rfl) ?_|refine J01 (Jiz p hp i) (by first|simp [J02];done|rfl) ?_
 rintro r rfl
 unfold Jby
 generalize (J90 p i).getD J9e=md at *
 simp [J29]
 refine hK _ _ (by simp) (by simp) ?_ ?_
 ·have:¬n=n+1+1+1∧¬n=n+1+1:=by omega
  simp [J6n,this]
 ·intro id hid
  have:¬id=n∧¬id=n+1∧¬id=n+2∧¬id=n+3∧¬id=n+4:=by omega
  simp [this]
theorem Jxg {p:DProgram}{b:DBounds}{md:DModel}{r:DRule}{k8 q:Nat}(hf:(J16 p.Functions r.Func).isSome=true) (hb:b.Lins.length=p.Functions.length) (s3:s 3 = .ptr 0 0 0) (s4:s 4 = .ptr 1 0 0) (s8:s 8 = .ptr k8 0 0) (s9:s 9 = .ptr (q+4) 0 0) (e0:h 0=some ⟨true,2,[J02 p]⟩) (e1:h 1=some ⟨true,2,[J0g b]⟩) (e8:h k8=some ⟨true,7,[J0b r]⟩) (M:J6n md q h) (hq:q+4<n) (h1:1<n) (h8:k8<n)
 (hK:∀ s' h',(∀ j∈[2,3,4,6,8,9],s' j=s j)→s' 12 = .bool (J1w (J52 p b r.Func) md.Params md.System.N).isSome→(∃ k q,s' 11 = .ptr k 0 0∧n≤k∧n≤q∧k<n+2∧q<n+2∧J3x ((J1w (J52 p b r.Func) md.Params md.System.N).getD J1s) k q h')→(∀ id,id<n→h' id=h id)→J2l Tryz.prog ks .normal s' h' (n+2) Q):rC Tryz.prog ux3 ks s h n Q:=by
 obtain ⟨m1,m2,m3,m4,m5⟩:=M
 obtain ⟨j,hj,hji⟩:=Jqm hf
 have hjb:j<b.Lins.length:=by omega
 have hl:J52 p b r.Func=b.Lins[j]:=by unfold J52;rw [hji];simp [hjb]
 have fr:∀ id,id<n→¬id=n∧¬id=n+1:=by intro id _;omega
 have ne:¬n=n+1∧¬n+1=n:=by omega
 have ne2:¬0=n∧¬1=n∧¬k8=n∧¬q=n∧¬q+1=n∧¬q+2=n∧¬q+3=n∧¬q+4=n:=by omega
 simp only [hl] at hK
 simp [ux3,s3,s4,s8,s9,e0,e1,e8,m1,J0g,J0b]
 constructor
 ·skip
  first|refine J00 (J2i p r.Func) (by first|simp [J02];done|rfl) ?_|refine J01 (J2i p r.Func) (by first|simp [J02];done|rfl) ?_
  rintro r rfl
  simp [hji,hjb]
  constructor
  ·skip
   first|refine J00 (J2c (b.Lins[j]'hjb) md.Params md.System.N) (by first|simp [m3,J06];done|rfl) ?_|refine J01 (J2c (b.Lins[j]'hjb) md.Params md.System.N) (by first|simp [m3,J06];done|rfl) ?_
   rintro r rfl
   rw [J0o]
   generalize J1w (b.Lins[j]'hjb) md.Params md.System.N=T at *
   simp [J08,ne]
   exact hK _ _ (by simp) (by simp) ⟨n+1,n,by simp,by omega,by omega,by omega,by omega,by simp [J3x,ne]⟩ fun id hid=>by simp [fr id hid]
  ·skip
   first|refine J00 (J2c (b.Lins[j]'hjb) md.Params md.System.N) (by first|simp [m3,J06,ne2];done|rfl) ?_|refine J01 (J2c (b.Lins[j]'hjb) md.Params md.System.N) (by first|simp [m3,J06,ne2];done|rfl) ?_
   rintro r rfl
   rw [J0o]
   generalize J1w (b.Lins[j]'hjb) md.Params md.System.N=T at *
   simp [J08,ne]
   exact hK _ _ (by simp) (by simp) ⟨n,n+1,by simp,by omega,by omega,by omega,by omega,by simp [J3x,ne]⟩ fun id hid=>by simp [fr id hid]
 ·skip
  first|refine J00 (J2i p r.Func) (by first|simp [J02];done|rfl) ?_|refine J01 (J2i p r.Func) (by first|simp [J02];done|rfl) ?_
  rintro r rfl
  simp [hji,hjb]
  first|refine J00 (J2c (b.Lins[j]'hjb) md.Params md.System.N) (by first|simp [m3,J06,ne2];done|rfl) ?_|refine J01 (J2c (b.Lins[j]'hjb) md.Params md.System.N) (by first|simp [m3,J06,ne2];done|rfl) ?_
  rintro r rfl
  rw [J0o]
  generalize J1w (b.Lins[j]'hjb) md.Params md.System.N=T at *
  simp [J08,ne]
  exact hK _ _ (by simp) (by simp) ⟨n,n+1,by simp,by omega,by omega,by omega,by omega,by simp [J3x,ne]⟩ fun id hid=>by simp [fr id hid]
theorem Jz9 {b:DBounds}{r:DRule}{T:Option DLin}{k8 k q:Nat}(hw:J3f r≤1048576) (s4:s 4 = .ptr 1 0 0) (s8:s 8 = .ptr k8 0 0) (s11:s 11 = .ptr k 0 0) (s12:s 12 = .bool T.isSome) (e1:h 1=some ⟨true,2,[J0g b]⟩) (e8:h k8=some ⟨true,7,[J0b r]⟩) (B:J3x (T.getD J1s) k q h) (hk:k<n) (hq:q<n)
 (hK:∀ s' h' n' q',(∀ j∈[2,3,4,6,8,9,11],s' j=s j)→s' 12 = .bool (T.bind fun t=>J61 t (-(J3z r b.Kind))).isSome→J3x ((T.bind fun t=>J61 t (-(J3z r b.Kind))).getD J1s) k q' h'→n≤n'→(q'=q∨n≤q')→q'<n'→(∀ id,id<n→id≠k→h' id=h id)→J2l Tryz.prog ks .normal s' h' n' Q):rC Tryz.prog ux4 ks s h n Q:=by
 obtain ⟨b1,b2⟩:=B
 have fr:∀ id,id<n→¬id=n:=by intro id _;omega
 have ne:¬k=n∧¬n=k:=by omega
 cases T with
 | none=>
  simp [ux4,s12]
  exact hK _ _ _ q (by simp) (by simp [s12]) ⟨by simpa using b1,by simpa using b2⟩ (by omega) (.inl rfl) hq fun id _ _=>rfl
 | some t=>
  simp at b1 b2
  simp only [Option.bind_some] at hK
  have hc:=Jql (r:=r) (k:=b.Kind) hw
  have hwr:IntKind.i64.wrap (-(J3z r b.Kind)) = -(J3z r b.Kind):=J0p (by omega)
  simp [ux4,s12,s4,s8,s11,e1,e8,b1,J0g]
  first|refine J00 (Jgf r b.Kind hw) (by first|simp;done|rfl) ?_|refine J01 (Jgf r b.Kind hw) (by first|simp;done|rfl) ?_
  rintro r rfl
  simp [hwr]
  first|refine J00 (Jaj t (-(J3z r b.Kind))) (by first|simp [b2,J06];done|rfl) ?_|refine J01 (Jaj t (-(J3z r b.Kind))) (by first|simp [b2,J06];done|rfl) ?_
  rintro r rfl
  rw [J0o]
  generalize J61 t (-(J3z r b.Kind))=T at *
  simp [J08,ne,b1,s11]
  refine hK _ _ _ n (by simp) (by simp) ?_ (by omega) (.inr (by omega)) (by omega) fun id hid hne=>by simp [fr id hid,hne]
  simp [J3x,ne]
theorem Js8 {p:DProgram}{b:DBounds}{md:DModel}{c:DCall}{k14 q:Nat}{j:Int}(hf:(J16 p.Functions c.Func).isSome=true) (hb:b.Lins.length=p.Functions.length) (s3:s 3 = .ptr 0 0 0) (s4:s 4 = .ptr 1 0 0) (s14:s 14 = .ptr k14 0 0) (s13:s 13 = .int .i64 j) (s9:s 9 = .ptr (q+4) 0 0) (e0:h 0=some ⟨true,2,[J02 p]⟩) (e1:h 1=some ⟨true,2,[J0g b]⟩) (e14:h k14=some ⟨true,3,[J0r c]⟩) (M:J6n md q h) (hq:q+4<n) (h1:1<n) (h8:k14<n)
 (hK:∀ s' h',(∀ j∈[2,3,4,6,8,9,11,12,57,58,59],s' j=s j)→s' 16 = .bool (J60 md (J52 p b c.Func) j).isSome→(∃ k q,s' 15 = .ptr k 0 0∧n≤k∧n≤q∧k<n+2∧q<n+2∧J3x ((J60 md (J52 p b c.Func) j).getD J1s) k q h')→(∀ id,id<n→h' id=h id)→J2l Tryz.prog ks .normal s' h' (n+2) Q):rC Tryz.prog K7b ks s h n Q:=by
 obtain ⟨m1,m2,m3,m4,m5⟩:=M
 obtain ⟨i,hj,hji⟩:=Jqm hf
 have hjb:i<b.Lins.length:=by omega
 have hl:J52 p b c.Func=b.Lins[i]:=by unfold J52;rw [hji];simp [hjb]
 have fr:∀ id,id<n→¬id=n∧¬id=n+1:=by intro id _;omega
 have ne:¬n=n+1∧¬n+1=n:=by omega
 have ne2:¬0=n∧¬1=n∧¬k14=n∧¬q=n∧¬q+1=n∧¬q+2=n∧¬q+3=n∧¬q+4=n:=by omega
 simp only [hl] at hK
 simp [K7b,s3,s4,s9,s13,s14,e0,e1,e14,m1,J0g,J0r]
 constructor
 ·skip
  first|refine J00 (J2i p c.Func) (by first|simp [J02];done|rfl) ?_|refine J01 (J2i p c.Func) (by first|simp [J02];done|rfl) ?_
  rintro r rfl
  simp [hji,hjb]
  constructor
  ·skip
   first|refine J00 (J66 md (b.Lins[i]'hjb) j) (by first|simp [m1,m2,m3,m4,m5,J06,J1a];done|rfl) ?_|refine J01 (J66 md (b.Lins[i]'hjb) j) (by first|simp [m1,m2,m3,m4,m5,J06,J1a];done|rfl) ?_
   rintro r rfl
   rw [J0o]
   generalize J60 md (b.Lins[i]'hjb) j=T at *
   simp [J08,ne]
   exact hK _ _ (by simp) (by simp) ⟨n+1,n,by simp,by omega,by omega,by omega,by omega,by simp [J3x,ne]⟩ fun id hid=>by simp [fr id hid]
  ·skip
   first|refine J00 (J66 md (b.Lins[i]'hjb) j) (by first|simp [m1,m2,m3,m4,m5,J06,J1a,ne2];done|rfl) ?_|refine J01 (J66 md (b.Lins[i]'hjb) j) (by first|simp [m1,m2,m3,m4,m5,J06,J1a,ne2];done|rfl) ?_
   rintro r rfl
   rw [J0o]
   generalize J60 md (b.Lins[i]'hjb) j=T at *
   simp [J08,ne]
   exact hK _ _ (by simp) (by simp) ⟨n,n+1,by simp,by omega,by omega,by omega,by omega,by simp [J3x,ne]⟩ fun id hid=>by simp [fr id hid]
 ·skip
  first|refine J00 (J2i p c.Func) (by first|simp [J02];done|rfl) ?_|refine J01 (J2i p c.Func) (by first|simp [J02];done|rfl) ?_
  rintro r rfl
  simp [hji,hjb]
  first|refine J00 (J66 md (b.Lins[i]'hjb) j) (by first|simp [m1,m2,m3,m4,m5,J06,J1a,ne2];done|rfl) ?_|refine J01 (J66 md (b.Lins[i]'hjb) j) (by first|simp [m1,m2,m3,m4,m5,J06,J1a,ne2];done|rfl) ?_
  rintro r rfl
  rw [J0o]
  generalize J60 md (b.Lins[i]'hjb) j=T at *
  simp [J08,ne]
  exact hK _ _ (by simp) (by simp) ⟨n,n+1,by simp,by omega,by omega,by omega,by omega,by simp [J3x,ne]⟩ fun id hid=>by simp [fr id hid]
theorem Jsb {t x:DLin}{k q k5 q5:Nat}(s11:s 11 = .ptr k 0 0) (s15:s 15 = .ptr k5 0 0) (B:J3x t k q h) (B5:J3x x k5 q5 h) (hk:k<n) (hq:q<n)
 (hK:∀ s' h',(∀ j∈[2,3,4,6,8,9,11,57,58,59],s' j=s j)→s' 12 = .bool (J0l t (-1) x).isSome→J3x ((J0l t (-1) x).getD J1s) k n h'→(∀ id,id<n→id≠k→h' id=h id)→J2l Tryz.prog ks .normal s' h' (n+1) Q):rC Tryz.prog K8l ks s h n Q:=by
 obtain ⟨b1,b2⟩:=B
 obtain ⟨b3,b4⟩:=B5
 have fr:∀ id,id<n→¬id=n:=by intro id _;omega
 have ne:¬k=n∧¬n=k:=by omega
 simp [K8l,s11,s15,b1,b3]
 first|refine J00 (J1x t (-1) x) (by first|simp [b2,b4,J06];done|rfl) ?_|refine J01 (J1x t (-1) x) (by first|simp [b2,b4,J06];done|rfl) ?_
 rintro r rfl
 rw [J0o]
 generalize J0l t (-1) x=T at *
 simp [J08,ne,b1,s11]
 refine hK _ _ (by simp) (by simp) ?_ fun id hid hne=>by simp [fr id hid,hne]
 simp [J3x,ne]
end
def J9g (md:DModel) (T:Option DLin) (x:AV):Prop:=∃ o:DObligation,x = .tup [.agg (J0a o),.bool T.isSome]∧∀ t,T=some t→o=⟨md.System,t⟩
theorem Jdm (p:DProgram) (hp:J0h p≤1048576) (b:DBounds) (hb:b.Lins.length=p.Functions.length) {i:Nat}(hi:i<p.Rules.length) (hf:(J16 p.Functions (p.Rules[i]).Func).isSome=true) (hfc:∀ c∈(p.Rules[i]).Calls,(J16 p.Functions c.Func).isSome=true) (hcl:(p.Rules[i]).Calls.length≤2) :
 Holds Tryz.prog 105 [.agg (J02 p),.agg (J0g b),i64 i] (J9g ((J90 p i).getD J9e) (J51 p b ((J90 p i).getD J9e) p.Rules[i])):=by
 have hwr:J3f p.Rules[i]≤1048576:=by
  have:=J3n (w:=J3f) (List.getElem_mem hi)
  unfold J0h J94 at hp
  omega
 refine J03 Tryz.func105 a105_ok rfl (by simp [a105]) ?_
 simp [a105,ux0]
 rw [←Jan]
 refine J1i [2,3,4,6] (fun s h2 n2=>n2=4∧s 8 = .ptr 3 0 0∧h2 0=some ⟨true,2,[J02 p]⟩∧h2 1=some ⟨true,2,[J0g b]⟩∧h2 2=some ⟨true,4,[[.int .i64 0,.nil 2,.int .i64 0,.nil 1]]⟩∧h2 3=some ⟨true,7,[J0b p.Rules[i]]⟩) ?_ ?_
 ·simp [ux1,J02,hi]
 rintro st1 h1 _ hk1 ⟨rfl,s8,e0,e1,e2,e3⟩
 simp at hk1
 generalize p.Rules[i]=r at *
 refine J0c (Jzh hp (i:=(i:Int)) (by simp [hk1]) (by simp [hk1]) e0 ?_)
 intro st2 h2 hk2 s9 M hf2
 simp at hk2
 generalize (J90 p i).getD J9e=md at *
 have f0:=hf2 0 (by omega)
 have f1:=hf2 1 (by omega)
 have f2:=hf2 2 (by omega)
 have f3:=hf2 3 (by omega)
 rw [e0] at f0
 rw [e1] at f1
 rw [e2] at f2
 rw [e3] at f3
 refine J5b (J0c (Jxg (p:=p) (b:=b) (md:=md) (r:=r) (k8:=3) (q:=4) hf hb (by simp [hk2,hk1]) (by simp [hk2,hk1]) (by simp [hk2,s8]) (by simp [s9]) f0 f1 f3 M (by omega) (by omega) (by omega) ?_))
 rintro st3 h3 hk3 s12 ⟨k11,q11,s11,hk11,hq11,hk11',hq11',B3⟩ hf3
 simp at hk3
 have g1:=hf3 1 (by omega)
 have g3:=hf3 3 (by omega)
 rw [f1] at g1
 rw [f3] at g3
 refine J5b (J0c (Jz9 (b:=b) (r:=r) (T:=J1w (J52 p b r.Func) md.Params md.System.N) (k8:=3) (k:=k11) (q:=q11) hwr (by simp [hk3,hk2,hk1]) (by simp [hk3,hk2,s8]) s11 s12 g1 g3 B3 hk11' hq11' ?_))
 intro st4 h4 n4 q4 hk4 s12' B4 hn4 hq4 hq4' hf4
 simp at hk4
 have hr0:J51 p b md r=Jaf p b md 0 r.Calls ((J1w (J52 p b r.Func) md.Params md.System.N).bind fun t=>J61 t (-(J3z r b.Kind))):=rfl
 rw [hr0]
 clear hr0
 generalize ((J1w (J52 p b r.Func) md.Params md.System.N).bind fun t=>J61 t (-(J3z r b.Kind)))=T0 at *
 have low:∀ id,id<9→h4 id=h2 id:=fun id hid=>by rw [hf4 id (by omega) (by omega),hf3 id hid]
 obtain ⟨m1,m2,m3,m4,m5⟩:=M
 have M4:J6n md 4 h4:=⟨by rw [low 8 (by omega)];exact m1,by rw [low 4 (by omega)];exact m2,by rw [low 5 (by omega)];exact m3,by rw [low 6 (by omega)];exact m4,by rw [low 7 (by omega)];exact m5⟩
 clear m1 m2 m3 m4 m5
 have l0:=low 0 (by omega)
 have l1:=low 1 (by omega)
 have l2:=low 2 (by omega)
 have l3:=low 3 (by omega)
 rw [f0] at l0
 rw [f1] at l1
 rw [f2] at l2
 rw [f3] at l3
 have x8:st4 8 = .ptr 3 0 0:=by simp [hk4,hk3,hk2,s8]
 have x2:st4 2 = .int .i64 i:=by simp [hk4,hk3,hk2,hk1]
 have x3:st4 3 = .ptr 0 0 0:=by simp [hk4,hk3,hk2,hk1]
 have x4:st4 4 = .ptr 1 0 0:=by simp [hk4,hk3,hk2,hk1]
 have x6:st4 6 = .ptr 2 0 0:=by simp [hk4,hk3,hk2,hk1]
 have x9:st4 9 = .ptr 8 0 0:=by simp [hk4,hk3,s9]
 have x11:st4 11 = .ptr k11 0 0:=by simp [hk4,s11]
 clear hk4 hk3 hk2 hk1 hf4 hf3 hf2 low
 simp [ux5,x8,l3,J0b]
 intro _
 generalize hF:Jaf p b md 0 r.Calls T0=F at *
 refine J0m [3,4,6,8,9,11,57,58] 59 r.Calls.length (fun j s h m=>8<m∧k11<m∧h 0=some ⟨true,2,[J02 p]⟩∧h 1=some ⟨true,2,[J0g b]⟩∧h 2=some ⟨true,4,[[.int .i64 0,.nil 2,.int .i64 0,.nil 1]]⟩∧J6n md 4 h∧∃ T q,8<q∧q≠k11∧q<m∧s 12 = .bool T.isSome∧J3x (T.getD J1s) k11 q h∧Jaf p b md j (r.Calls.drop j) T=F) (by unfold LIM;omega) (by simp) ⟨by omega,by omega,l0,l1,l2,M4,T0,q4,by omega,?_,by omega,by simp [s12'],B4,by simpa using hF⟩ ?_ ?_
 ·rintro rfl
  have:=B4.1
  rw [B4.2] at this
  simp at this
 ·rintro j st h m R hj hg hk s59 hw' ⟨m8,mk,e0,e1,e2,M,T,q,hq8,hqk,hqm,s12,B,hJ⟩ hR hret _
  simp at hk
  rw [List.drop_eq_getElem_cons hj] at hJ
  simp only [Jaf] at hJ
  have hfj:=hfc _ (List.getElem_mem hj)
  refine J0i [3,4,6,8,9,11,12,57,58,59] (fun s=>s 60 = .bool true) (by simp [hk,s59,hj]) ?_
  intro st1 hk1 s60
  simp at hk1
  refine J41 s60 (J0c (J1p ?_))
  have fr:∀ id,id<m→¬id=m:=by intro id _;omega
  refine J1i [3,4,6,8,9,11,12,57,58,59] (fun s h2 n2=>n2=m+1∧s 13 = .int .i64 j∧s 14 = .ptr m 0 0∧h2 m=some ⟨true,3,[J0r (r.Calls[j]'hj)]⟩∧∀ id,id<m→h2 id=h id) ?_ ?_
  ·simp [hk1,hk,s59,hj]
   exact fun id hid=>by simp [fr id hid]
  rintro st2 h2 n2 hk2 ⟨rfl,s13,s14,em,hfr2⟩
  simp at hk2
  generalize r.Calls[j]=c at *
  obtain ⟨m1,m2,m3,m4,m5⟩:=M
  refine J0c (Js8 (p:=p) (b:=b) (md:=md) (c:=c) (k14:=m) (q:=4) (j:=(j:Int)) hfj hb (by simp [hk2,hk1,hk,x3]) (by simp [hk2,hk1,hk,x4]) s14 s13 (by simp [hk2,hk1,hk,x9]) (by rw [hfr2 0 (by omega),e0]) (by rw [hfr2 1 (by omega),e1]) em ⟨by rw [hfr2 8 (by omega)];exact m1,by rw [hfr2 4 (by omega)];exact m2,by rw [hfr2 5 (by omega)];exact m3,by rw [hfr2 6 (by omega)];exact m4,by rw [hfr2 7 (by omega)];exact m5⟩ (by omega) (by omega) (by omega) ?_)
  rintro st3 h3 hk3 s16 ⟨k15,q15,s15,hk15,hq15,hk15',hq15',B15⟩ hfr3
  simp at hk3
  have low:∀ id,id<m→h3 id=h id:=fun id hid=>by rw [hfr3 id (by omega),hfr2 id hid]
  have B3:J3x (T.getD J1s) k11 q h3:=⟨by rw [low k11 mk];exact B.1,by rw [low q hqm];exact B.2⟩
  have z2:=low 2 (by omega)
  rw [e2] at z2
  have y12:st3 12 = .bool T.isSome:=by simp [hk3,hk2,hk1,s12]
  have y6:st3 6 = .ptr 2 0 0:=by simp [hk3,hk2,hk1,hk,x6]
  have y11:st3 11 = .ptr k11 0 0:=by simp [hk3,hk2,hk1,hk,x11]
  generalize hX:J60 md (J52 p b c.Func) (j:Int)=X at *
  have bad:F=Option.none→R .ret st3 h3 (m+1+2)=R .ret st3 h3 (m+1+2):=fun _=>rfl
  clear bad
  cases T with
  | none=>
   simp only [Option.bind_none,J88] at hJ
   subst hJ
   simp [y12,y6,z2]
   refine hret _ _ _ ?_
   simp [J9g,y6]
   exact ⟨⟨⟨0,[]⟩,⟨0,[]⟩⟩,by simp [J0a,J0k]⟩
  | some t=>
   cases X with
   | none=>
    simp only [Option.bind_some,Option.bind_none,J88] at hJ
    subst hJ
    simp [y12,y6,z2,s16]
    refine hret _ _ _ ?_
    simp [J9g,y6]
    exact ⟨⟨⟨0,[]⟩,⟨0,[]⟩⟩,by simp [J0a,J0k]⟩
   | some x=>
    simp only [Option.bind_some] at hJ
    simp at B3 B15
    simp [y12,s16]
    refine Jsb (t:=t) (x:=x) (k:=k11) (q:=q) (k5:=k15) (q5:=q15) (by simp [y11]) (by simp [s15]) B3 B15 (by omega) (by omega) ?_
    intro st4 h4 hk4 t12 B4 hfr4
    simp at hk4
    simp [hk4,hk3,hk2,hk1,s59,hw']
    have low4:∀ id,id<9→h4 id=h id:=fun id hid=>by rw [hfr4 id (by omega) (by omega),low id (by omega)]
    refine hR _ _ _ (by simp [hk4,hk3,hk2,hk1,hk]) (by simp) ⟨by omega,by omega,by rw [low4 0 (by omega),e0],by rw [low4 1 (by omega),e1],by rw [low4 2 (by omega),e2],⟨by rw [low4 8 (by omega)];exact m1,by rw [low4 4 (by omega)];exact m2,by rw [low4 5 (by omega)];exact m3,by rw [low4 6 (by omega)];exact m4,by rw [low4 7 (by omega)];exact m5⟩,_,m+1+2,by omega,by omega,by omega,by simp [t12],B4,hJ⟩
 ·rintro st h m R hk s59 ⟨m8,mk,e0,e1,e2,M,T,q,hq8,hqk,hqm,s12,B,hJ⟩ _ hX
  simp at hk
  rw [List.drop_eq_nil_of_le (by omega)] at hJ
  simp only [Jaf] at hJ
  subst hJ
  refine J0i [3,4,6,8,9,11,12] (fun s=>s 60 = .bool false) (by simp [hk,s59]) ?_
  intro st1 hk1 s60
  simp at hk1
  refine J45 s60 ?_
  refine hX _ _ _ _ ?_
  obtain ⟨m1,m2,m3,m4,m5⟩:=M
  obtain ⟨b1,b2⟩:=B
  have nq:¬4=q∧¬q=4∧¬q=2:=by omega
  simp [ux6,hk1,hk,x9,x11,x6,m1,m2,b1,b2,e2,nq,s12,J9g]
  exact ⟨⟨md.System,T.getD J1s⟩,by simp [J0a],fun t ht=>by subst ht;rfl⟩
end Go.Proofs.YtoclolkigjbcgaaGreat

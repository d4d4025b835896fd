/- Contracts: ModelOf of the reference. -/
import Derived.Test.YtoclolkigjbcgaaGreatKHS4
import Derived.Test.YtoclolkigjbcgaaGreatKHM4
import Derived.Test.YtoclolkigjbcgaaGreatKT1
import Derived.Test.YtoclolkigjbcgaaGreatKC13
import Derived.Test.YtoclolkigjbcgaaGreatProg
namespace Go.Proofs.YtoclolkigjbcgaaGreat
set_option maxRecDepth 40000
set_option maxHeartbeats 4000000
open Go Go.RowKit Go.Proofs
set_option linter.all false
def a171:AFn:= ⟨22,[(.c 4 true 6),.t 5],(.seq (.reg [⟨some 2,.boxv (.t 0),no⟩,⟨some 4,.box [(.int .i64 0),(.nil 2),(.nil 2),(.nil 1),(.int .i64 0),(.nil 1)],no⟩,⟨some 5,.mv (.k (.bool false)),no⟩]) (.seq (.seq (.reg [⟨some 6,.ld true 2 (.t 2),no⟩,⟨some 7,.call (.k (.fn (.func 61) [] [])) [.t 6],no⟩,⟨some 8,.un .not (.t 7),no⟩,⟨some 9,.mv (.t 8),no⟩,⟨some 10,.mv (.t 1),(some (9,false))⟩,⟨some 11,.fld 1 (.t 2),(some (9,false))⟩,⟨some 12,.ld false 1 (.t 11),(some (9,false))⟩,⟨some 13,.len false (.t 12),(some (9,false))⟩,⟨some 14,.bin .sub (.t 13) (.k (.int .i64 1)),(some (9,false))⟩,⟨some 15,.call (.k (.fn (.func 183) [] [])) [.t 10,(.k (.int .i64 0)),.t 14],(some (9,false))⟩,⟨some 16,.un .not (.t 15),(some (9,false))⟩,⟨some 17,.pick (.t 9) (.k (.bool true)) (.t 16),no⟩]) (.cond (.t 17) (.seq (.reg [⟨some 18,.build [(.int .i64 0),(.nil 2),(.nil 2),(.nil 1),(.int .i64 0),(.nil 1)] [],no⟩,⟨no,.st 6 (.t 4) (.t 18),no⟩,⟨some 5,.mv (.k (.bool false)),no⟩]) .ret) .skip)) (.seq (.reg [⟨some 19,.ld true 2 (.t 2),no⟩,⟨some 20,.mv (.t 1),no⟩,⟨some 21,.call (.k (.fn (.func 184) [] [])) [.t 19,.t 20],no⟩,⟨no,.st 6 (.t 4) (.t 21),no⟩,⟨some 5,.mv (.k (.bool true)),no⟩]) .ret)))⟩
theorem a171_ok:J0a Tryz.prog Tryz.f171=some a171:=by kernel_rfl
theorem Jdw {n:Nat} : ∀ {xs:List Str}{a:MS},(xs.foldl (J8z n) a).nx=a.nx+xs.length∧(xs.foldl (J8z n) a).E.length=a.E.length+xs.length∧(xs.foldl (J8z n) a).args=a.args∧(xs.foldl (J8z n) a).rows=a.rows∧J19 (xs.foldl (J8z n) a).E=J19 a.E++xs
 | [],a=>by simp
 | x::xs,a=>by
  obtain ⟨h1,h2,h3,h4,h5⟩:=Jdw (n:=n) (xs:=xs) (a:=J8z n a x)
  simp only [List.foldl_cons,List.length_cons]
  refine ⟨by rw [h1];show a.nx+1+_=_;omega,by rw [h2];simp [J8z];omega,by rw [h3];rfl,by rw [h4];rfl,by rw [h5];simp [J8z,J19]⟩
theorem Jlg {n:Nat}(hn:n≤8):∀ {xs:List Str}{a:MS},(∀ e∈a.E,e.2.Coeffs.length≤8)→∀ e∈(xs.foldl (J8z n) a).E,e.2.Coeffs.length≤8
 | [],_,h=>h
 | x::xs,a,h=>by
  simp only [List.foldl_cons]
  refine Jlg hn ?_
  intro e he
  rcases List.mem_append.1 he with he|he
  ·exact h e he
  ·simp at he;subst he;exact J6f n hn
theorem Jc2 {n:Nat} : ∀ {xs:List DPattern}{a:MS},(xs.foldl (J5l n) a).rows.length=a.rows.length+xs.length∧(xs.foldl (J5l n) a).E.length≤a.E.length+2*xs.length∧(xs.foldl (J5l n) a).args=a.args∧(xs.foldl (J5l n) a).nx=a.nx+J3e xs
 | [],a=>by simp [J3e]
 | x::xs,a=>by
  obtain ⟨h1,h2,h3,h4⟩:=Jc2 (n:=n) (xs:=xs) (a:=J5l n a x)
  simp only [List.foldl_cons,List.length_cons]
  have g1:(J5l n a x).rows.length=a.rows.length+1:=by unfold J5l;split <;> simp
  have g2:(J5l n a x).E.length≤a.E.length+2:=by unfold J5l;split <;> simp
  have g3:(J5l n a x).args=a.args:=by unfold J5l;split <;> rfl
  have g4:(J5l n a x).nx=a.nx+(if x.Cons then 1 else 0):=by unfold J5l;cases x.Cons <;> simp
  exact ⟨by omega,by omega,by rw [h3,g3],by rw [h4,g4,Jgl];omega⟩
theorem Jfz {n:Nat} : ∀ {xs:List DCall}{a:MS},(xs.foldl (J5x n) a).E.length=a.E.length+xs.length
 | [],a=>by simp
 | x::xs,a=>by
  have h1:=Jfz (n:=n) (xs:=xs) (a:=J5x n a x)
  simp only [List.foldl_cons,List.length_cons]
  rw [h1];simp [J5x];omega
theorem J8j (p:DProgram) (hp:J0f p≤1048576) (h1:J2l p=true) {j:Nat}(hj:j<p.Rules.length):Holds Tryz.prog 184 [.agg (J01 p),i64 j] (fun x=>x = .agg (J1z (J4v (p.Rules[j]) (Jkv p (p.Rules[j]))))):=by
 refine J03 Tryz.func184 a184_ok rfl (by simp [a184]) ?_
 obtain ⟨f,hf,R⟩:=Jcb h1 (List.getElem_mem hj)
 have hfa:Jkv p p.Rules[j]=f:=by unfold Jkv;rw [hf];rfl
 simp [a184,lm0,lm1,lm2,J01,hj]
 first|refine J00 (J1q p (p.Rules[j]).Func hp) (by first|simp [J01];done|rfl) ?_|refine J02 (J1q p (p.Rules[j]).Func hp) (by first|simp [J01];done|rfl) ?_
 rintro r rfl
 rw [hfa,hf]
 have hwf:=K7n hp hf
 have hpar:=R.par
 have hnpre:=R.npre
 have hnp:=R.npats
 have hnc:=R.ncalls
 have h6:=R.size
 have hrargs:=R.args h1
 have hrres:=Jbk (Jgw R.res)
 generalize p.Rules[j]=r at *
 simp [J7z,J0h,J0c,lm3,lm4]
 intro _
 refine J00 (Jmo r.Patterns) (by simp) ?_
 rintro _ rfl
 have hcl:=Jln r.Patterns
 have hw1:IntKind.i64.wrap ((f.Params.length:Int)+(J3e r.Patterns:Int))=(f.Params.length:Int)+(J3e r.Patterns:Int):=J1e (by omega)
 have hw2:IntKind.i64.wrap ((f.Params.length:Int)+(J3e r.Patterns:Int)+(r.Calls.length:Int))=(J10 r f:Int):=by rw [J1e (by omega)];unfold J10;omega
 have hpl:∀ l∈f.Pre,l.Coeffs.length≤J10 r f:=fun l hl=>by
  have h1:=(J1u (R.pre l hl)).1
  have h2:f.Params.length≤J10 r f:=by unfold J10;omega
  omega
 simp [hw1,hw2,lm5]
 have hkE:=Jdw (n:=J10 r f) (xs:=f.Params) (a:=⟨[],0,Jcc f (J10 r f),[],[]⟩)
 have hvE:=Jlg (n:=J10 r f) (by omega) (xs:=f.Params) (a:=⟨[],0,Jcc f (J10 r f),[],[]⟩) (by simp)
 have hdl:(Jcc f (J10 r f)).length≤4:=by
  unfold Jcc
  have:=J9c (n:=J10 r f) (xs:=f.Params) (i:=0)
  simp;omega
 rw [←show ss1 r f=f.Params.foldl (J8z (J10 r f)) ⟨[],0,Jcc f (J10 r f),[],[]⟩ from rfl] at hkE hvE
 have hsz:r.Calls.length≤J10 r f∧f.Params.length+J3e r.Patterns=J10 r f - r.Calls.length:=by unfold J10;omega
 have ss3d:ss3 r f=r.Patterns.foldl (J5l (J10 r f)) (Jc7 (ss1 r f) f.Params.length):=rfl
 have hp3:=Jc2 (n:=J10 r f) (xs:=r.Patterns) (a:=Jc7 (ss1 r f) f.Params.length)
 rw [←ss3d] at hp3
 have ss5d:ss5 r f=r.Calls.foldl (J5x (J10 r f)) (J0w (Jc7 (ss3 r f) (f.Params.length+J3e r.Patterns)) (r.Guards.map (Jdn (ss3 r f).E (J10 r f)))):=rfl
 have hc5:=Jfz (n:=J10 r f) (xs:=r.Calls) (a:=J0w (Jc7 (ss3 r f) (f.Params.length+J3e r.Patterns)) (r.Guards.map (Jdn (ss3 r f).E (J10 r f))))
 rw [←ss5d] at hc5
 have hmS:J4v r f=Jyx (J10 r f) (ss5 r f) (Jg6 (ss5 r f).E (J10 r f) r.Result):=rfl
 rw [hmS]
 have hrr:(r.Patterns.foldl (J5l (J10 r f)) ⟨(ss1 r f).E,f.Params.length,[],[],[]⟩).rows.length≤100000:=by
  have:=(Jc2 (n:=J10 r f) (xs:=r.Patterns) (a:=⟨(ss1 r f).E,f.Params.length,[],[],[]⟩)).1
  rw [this];simp;omega
 generalize hN:J10 r f=N at *
 first|refine J00 (J7h f N hwf (by omega) hpl) (by first|simp [J04];done|rfl) ?_|refine J02 (J7h f N hwf (by omega) hpl) (by first|simp [J04];done|rfl) ?_
 rintro r rfl
 simp [lm6]
 refine Jx6 (r:=r) (f:=f) (N:=N) (R0:=Jcc f N) (by simp) (by simp) (by simp) (by simp) (by simp) ?_ hpar ?_
 ·refine ⟨by simp,by simp [J0c],by simp,by simp,by omega,.nil 1,.nil 2,.ref 6 0 (Jcc f N).length,.nil 2,.nil 1,by simp,by simp [J5b],?_,?_⟩
  ·intro x hx
   simp only [List.mem_cons,List.not_mem_nil,or_false] at hx
   rcases hx with rfl|rfl|rfl|rfl|rfl
   ·exact .inl (by simp [J19,J0e])
   ·exact .inl (by simp [J35])
   ·exact .inr ⟨6,by omega,by omega,by simp,by simp⟩
   ·exact .inl (by simp)
   ·exact .inl (by simp)
  ·simp only [List.pairwise_cons,List.mem_cons,List.not_mem_nil,or_false,forall_eq_or_imp,forall_eq]
   refine ⟨⟨?_,?_,?_,?_⟩,⟨?_,?_,?_⟩,⟨?_,?_⟩,?_,by simp⟩ <;> intro i k l e1 e2 <;> first|cases e1;done|(cases e2;done)
 intro s1 h1' n1 hk1 M1
 simp at hk1
 rw [show f.Params.foldl (J8z N) ⟨[],0,Jcc f N,[],[]⟩=ss1 r f by unfold ss1;rw [hN]] at M1
 refine J4p (Jr3 (m:=f.Params.length) (by simp [hk1]) (by simp [hk1]) (by simp [hk1]) (by simp [hk1]) (by simp [hk1]) M1 (by omega) (by omega) (by rw [hkE.2.1];simp;omega) (by omega) (by rw [hkE.2.2.2.1];show (Jcc f N).length≤_;omega) ?_ hvE hrr ?_)
 ·intro q hq
  rw [hkE.2.2.2.2]
  simpa [J19] using R.pats q hq
 intro s2 h2 n2 hk2 M2
 simp at hk2
 rw [←ss3d] at M2
 have hE3:(ss3 r f).E.length≤1000:=by
  have e1:(Jc7 (ss1 r f) f.Params.length).E.length=f.Params.length:=by show (ss1 r f).E.length=_;rw [hkE.2.1];simp
  omega
 have hR3:(ss3 r f).rows.length≤1000:=by
  have e1:(Jc7 (ss1 r f) f.Params.length).rows.length=(Jcc f N).length:=by show (ss1 r f).rows.length=_;rw [hkE.2.2.2.1]
  omega
 refine J0b (Jqq (by simp [hk2,hk1]) (by simp [hk2,hk1]) (by simp [hk2,hk1]) (by simp [hk2,hk1]) M2 (by omega) R.nguards (fun g hg => ?_) (by omega) ?_)
 ·have:=R.guards g hg
  unfold J42 J8y at this
  simp only [Bool.and_eq_true,decide_eq_true_eq] at this
  omega
 intro s3 h3 n3 hk3 M3
 simp at hk3
 have M3':SM r f N (J0w (Jc7 (ss3 r f) (f.Params.length+J3e r.Patterns)) (r.Guards.map (Jdn (ss3 r f).E N))) h3 n3:=M3
 refine J4p (J0b (Jsz (by simp [hk3,hk2,hk1]) (by simp [hk3,hk2,hk1]) (by simp [hk3,hk2,hk1]) (by simp [hk3,hk2,hk1]) M3' (by omega) (by show (ss3 r f).E.length≤_;omega) hnc (by omega) (by show f.Params.length+J3e r.Patterns=_;omega) (by have:=R.nguards;show ((ss3 r f).rows++_).length≤_;simp;omega) ?_ (fun c hc=>⟨(hrargs c hc).1,fun x hx=>Jbk ((hrargs c hc).2 x hx)⟩) ?_))
 ·show (ss3 r f).args.length≤_
  rw [hp3.2.2.1]
  show (ss1 r f).args.length≤_
  rw [hkE.2.2.1];simp
 intro s4 h4 n4 hk4 M4
 simp at hk4
 rw [←ss5d] at M4
 have hE5:(ss5 r f).E.length≤2000:=by
  rw [hc5]
  show (ss3 r f).E.length+_≤_
  omega
 generalize ss5 r f=ms at *
 obtain ⟨vN,vL,e8,hbw⟩:=M4.bws
 obtain ⟨b1,b2⟩:=hbw h4 fun _ _=>rfl
 have l4:=M4.lt
 refine J4p ?_
 simp [K9n,hk4,hk3,hk2,hk1,e8,M4.hr,J0c]
 first|refine J00 (J6u ms.E (by omega) r.Result (fun x hx=>by have:=hrres.1 x hx;omega) hrres.2 N) (by first|simp [Jg4,b1,b2,J0v];done|rfl) ?_|refine J02 (J6u ms.E (by omega) r.Result (fun x hx=>by have:=hrres.1 x hx;omega) hrres.2 N) (by first|simp [Jg4,b1,b2,J0v];done|rfl) ?_
 rintro r rfl
 rw [J0l,show (Jx0 ms.E N r.Result).getD J1b=Jg6 ms.E N r.Result from rfl]
 generalize Jg6 ms.E N r.Result=res at *
 obtain ⟨vN2,vL2,vR,vP,vA,e8',e7,AS⟩:=M4.acc
 obtain ⟨AS1,AS2⟩:=AS
 simp only [List.pairwise_cons,List.mem_cons,List.not_mem_nil,or_false,forall_eq_or_imp,forall_eq] at AS2
 obtain ⟨_,_,⟨d8,d9⟩,d10,_⟩:=AS2
 have k2:=AS1 (2,ms.rows.map J08,vR) (by simp)
 have k3:=AS1 (2,ms.pars.map J08,vP) (by simp)
 have k4:=AS1 (1,ms.args.map J24,vA) (by simp)
 have cR:=k2.cell
 have cP:=k3.cell
 have cA:=k4.cell
 have ne:¬7=n4∧¬1=n4∧¬n4=7∧¬n4=1:=by omega
 simp [J08,hk4,hk3,hk2,hk1,e7,J5b,K91,M4.hz,ne,-dt,-dtl,-J18,Jcl,Jge,cR,cP,cA]
 generalize hH:upd (upd (upd h4 n4 _) 7 _) 1 _=H
 have fH:∀ id,5<id→id<n4→id≠7→H id=h4 id:=by
  intro id hid _ _
  have:¬id=1∧¬id=7∧¬id=n4:=by omega
  rw [←hH];simp [this]
 have nb:∀ {z:Nat}{rows:List (List AV)}{v:AV}(x:J3c 5 z rows v h4 n4),J3c 5 z rows v H n4:=fun x=>x.keep (Nat.le_refl _) fun id hb hid e=>fH id hb hid fun e'=>x.not_box e7 (by rw [←e'];exact e)
 have m2:=nb k2
 have m3:=nb k3
 have m4:=nb k4
 have kq:H n4=some ⟨false,1,J0k res.Coeffs⟩:=by rw [←hH];simp [ne]
 obtain ⟨H1,dd1,e1⟩:=m2.dt
 have m3':J3c 5 2 (ms.pars.map J08) vP H1 n4:=m3.keep (Nat.le_refl _) fun id hb hid e=>e1 id fun l el=>d8 id _ _ el e
 obtain ⟨H2,dd2,e2⟩:=m3'.dt
 have m4':J3c 5 1 (ms.args.map J24) vA H2 n4:=m4.keep (Nat.le_refl _) fun id hb hid e=>by
  rw [e2 id fun l el=>d10 id _ _ el e,e1 id fun l el=>d9 id _ _ el e]
 obtain ⟨H3,dd3,e3⟩:=m4'.dt
 have kq3:H3 n4=some ⟨false,1,J0k res.Coeffs⟩:=by
  rw [e3 n4 fun l el=>m4.ne_ge (Nat.le_refl _) el,e2 n4 fun l el=>m3.ne_ge (Nat.le_refl _) el,e1 n4 fun l el=>m2.ne_ge (Nat.le_refl _) el,kq]
 simp [dd1,dd2,dd3,kq3,J1z,Jyx]
theorem Jfs (p:DProgram) (hp:J0f p≤1048576) (k:Int):Holds Tryz.prog 171 [.agg (J01 p),i64 k] (fun r=>r=J51 (J6i p k)):=by
 refine J03 Tryz.func171 a171_ok rfl (by simp [a171]) ?_
 simp [a171,J01]
 first|refine J00 (J26 p hp) (by first|simp [J01];done|rfl) ?_|refine J02 (J26 p hp) (by first|simp [J01];done|rfl) ?_
 rintro r rfl
 unfold J6i
 cases h1:J2l p
 ·simp [J51,J73,J1z,J0k]
 simp
 intro hrl
 have hw:IntKind.i64.wrap ((p.Rules.length:Int) - 1)=(p.Rules.length:Int) - 1:=J1e (by unfold LIM at hrl;omega)
 rw [hw]
 first|refine J00 (J4d k 0 ((p.Rules.length:Int) - 1)) (by first|simp;done|rfl) ?_|refine J02 (J4d k 0 ((p.Rules.length:Int) - 1)) (by first|simp;done|rfl) ?_
 rintro r rfl
 cases h2:inR k 0 ((p.Rules.length:Int) - 1)
 ·simp [J51,J73,J1z,J0k]
 have hk0:0≤k∧k≤(p.Rules.length:Int) - 1:=by simpa [inR] using h2
 obtain ⟨j,rfl⟩:∃ j:Nat,k=j:=⟨k.toNat,by omega⟩
 have hj:j<p.Rules.length:=by omega
 have hgd:p.Rules.getD ((j:Int).toNat) Jk8=p.Rules[j]:=by simp [hj]
 simp [hj]
 first|refine J00 (J8j p hp h1 hj) (by first|simp [J01];done|rfl) ?_|refine J02 (J8j p hp h1 hj) (by first|simp [J01];done|rfl) ?_
 rintro r rfl
 generalize J4v (p.Rules[j]) (Jkv p (p.Rules[j]))=md
 simp [J51,J1z]
theorem Jvk {a b o:DLin}{k:Int}(h:J0j a k b=some o):o.Coeffs.length≤8:=by
 have:=J9m (a:=a) (k:=k) (b:=b)
 unfold J88 at this
 rw [h] at this;exact this
theorem Jph {E:SEnv}{n:Nat} : ∀ {ts:List DTerm}{o r:DLin},o.Coeffs.length≤8→goS E n ts o=some r→r.Coeffs.length≤8
 | [],o,r,ho,h=>by cases h;exact ho
 | t::ts,o,r,ho,h=>by
  simp only [goS] at h
  split at h
  ·cases h
  ·rename_i o' ha
   exact Jph (Jvk ha) h
theorem Jlc {E:SEnv}{n:Nat}{s:DSum} : (Jdn E n s).Coeffs.length≤8:=by
 unfold Jdn Ju2
 cases h:goS E n s.Terms (J05 s.Const n) with
 | none=>simp [J1b]
 | some r=>exact Jph (J75 _ _) h
theorem Jls {E:SEnv}{n:Nat}{a:DArg} : (Jg6 E n a).Coeffs.length≤8:=by
 unfold Jg6 Jx0
 split
 ·split
  ·exact J75 _ _
  ·exact J9m
 ·exact Jlc
theorem Jum {E:SEnv}{x:Str}{n:Int}(h:∀ e∈E,e.2.Coeffs.length≤8):(J2w (J05 0 n) E x).Coeffs.length≤8:=by
 by_cases hx:x∈J19 E
 ·exact Jkt h hx
 ·have:E.find? (fun e=>e.1==x)=Option.none:=by
   rw [List.find?_eq_none]
   intro e he hb
   exact hx (List.mem_map.2 ⟨e,he,by simpa using hb⟩)
  unfold J2w
  rw [this];exact J75 _ _
structure MOk (ms:MS):Prop where
 E:∀ e∈ms.E,e.2.Coeffs.length≤8
 R:∀ l∈ms.rows,l.Coeffs.length≤8
 P:∀ l∈ms.pars,l.Coeffs.length≤8
theorem Jb3 {α:Type}{l:List α}{x:α}{p:α→Prop}(h:∀ y∈l,p y) (hx:p x):∀ y∈l++[x],p y:=by
 intro y hy
 rcases List.mem_append.1 hy with hy|hy
 ·exact h y hy
 ·simp at hy;subst hy;exact hx
theorem MOk.par {n:Nat}(hn:n≤8) {ms:MS}(M:MOk ms) (x:Str):MOk (J8z n ms x):=
 ⟨Jb3 M.E (J6f n hn),M.R,Jb3 M.P (J6f n hn)⟩
theorem MOk.pat {n:Nat}(hn:n≤8) {ms:MS}(M:MOk ms) (q:DPattern):MOk (J5l n ms q):=by
 have hl:(Jja n ms q).Coeffs.length≤8:=by unfold Jja J4u;exact Jum M.E
 unfold J5l
 split
 ·refine ⟨?_,Jb3 M.R hl,M.P⟩
  intro e he
  rcases List.mem_append.1 he with he|he
  ·exact M.E e he
  ·simp at he
   rcases he with rfl|rfl
   ·exact J6f n hn
   ·exact hl
 ·exact ⟨M.E,Jb3 M.R J9m,M.P⟩
theorem MOk.call {n:Nat}(hn:n≤8) {ms:MS}(M:MOk ms) (c:DCall):MOk (J5x n ms c):=by
 refine ⟨Jb3 M.E (J6f n hn),?_,M.P⟩
 intro l hl
 rcases List.mem_append.1 hl with hl|hl
 ·exact M.R l hl
 ·split at hl
  ·simp at hl;subst hl;exact J6f n hn
  ·cases hl
theorem MOk.fold {α:Type}{g:MS→α→MS}(hg:∀ ms x,MOk ms→MOk (g ms x)):∀ {l:List α}{ms:MS},MOk ms→MOk (l.foldl g ms)
 | [],_,h=>h
 | x::l,ms,h=>MOk.fold hg (l:=l) (hg ms x h)
theorem Jfd {n:Nat} : ∀ {xs:List DCall}{a:MS},(xs.foldl (J5x n) a).rows.length≤a.rows.length+xs.length∧(xs.foldl (J5x n) a).pars=a.pars∧(xs.foldl (J5x n) a).args.length=a.args.length+xs.length ∧
 ∀ l∈(xs.foldl (J5x n) a).args,l∈a.args∨(∃ c∈xs,l.length=c.Args.length∧∀ y∈l,y.Coeffs.length≤8)
 | [],a=>by simp
 | x::xs,a=>by
  obtain ⟨h1,h2,h3,h4⟩:=Jfd (n:=n) (xs:=xs) (a:=J5x n a x)
  simp only [List.foldl_cons,List.length_cons]
  have g1:(J5x n a x).rows.length≤a.rows.length+1:=by unfold J5x;simp only [List.length_append];split <;> simp
  have g3:(J5x n a x).args.length=a.args.length+1:=by simp [J5x]
  refine ⟨by omega,by rw [h2];rfl,by omega,?_⟩
  intro l hl
  rcases h4 l hl with h|⟨c,hc,h⟩
  ·rcases List.mem_append.1 h with h|h
   ·exact .inl h
   ·simp at h
    refine .inr ⟨x,List.mem_cons_self,by rw [h];simp,?_⟩
    intro y hy
    rw [h] at hy
    obtain ⟨z,_,rfl⟩:=List.mem_map.1 hy
    exact Jls
  ·exact .inr ⟨c,List.mem_cons_of_mem _ hc,h⟩
theorem Jih {n:Nat} : ∀ {xs:List Str}{a:MS},(xs.foldl (J8z n) a).pars.length=a.pars.length+xs.length
 | [],a=>by simp
 | x::xs,a=>by
  have h1:=Jih (n:=n) (xs:=xs) (a:=J8z n a x)
  simp only [List.foldl_cons,List.length_cons]
  rw [h1];simp [J8z];omega
theorem Jex {n:Nat} : ∀ {xs:List DPattern}{a:MS},(xs.foldl (J5l n) a).pars=a.pars
 | [],a=>rfl
 | x::xs,a=>by
  simp only [List.foldl_cons]
  rw [Jex];unfold J5l;split <;> rfl
theorem Jpk {p:DProgram}{r:DRule}{f:DFunction}(hp:J2l p=true) (R:RuleIn p r f):(J4v r f).System.Rows.length≤10∧(∀ l∈(J4v r f).System.Rows,l.Coeffs.length≤8)∧(J4v r f).Params.length≤2∧(∀ l∈(J4v r f).Params,l.Coeffs.length≤8) ∧
 (J4v r f).Args.length≤2∧(∀ l∈(J4v r f).Args,l.length≤2∧∀ y∈l,y.Coeffs.length≤8)∧(J4v r f).Result.Coeffs.length≤8∧(J4v r f).System.N≤6∧0≤(J4v r f).System.N:=by
 have hn:J10 r f≤8:=by have:=R.size;omega
 have hpar:=R.par
 have hnp:=R.npats
 have hnc:=R.ncalls
 have hng:=R.nguards
 have hpre:=R.npre
 have hdl:(Jcc f (J10 r f)).length≤4∧∀ l∈Jcc f (J10 r f),l.Coeffs.length≤8:=by
  have hlr:=J9c (n:=J10 r f) (xs:=f.Params) (i:=0)
  refine ⟨by unfold Jcc;simp;omega,?_⟩
  intro l hl
  rcases List.mem_append.1 hl with hl|hl
  ·have:∀ (xs:List Str) (i:Nat),∀ l∈J94 (J10 r f) xs i,l.Coeffs.length≤8:=by
    intro xs
    induction xs with
    | nil=>intro i l hl;cases hl
    | cons x xs ih=>
     intro i l hl
     rcases List.mem_append.1 hl with hl|hl
     ·split at hl
      ·simp at hl;subst hl;exact J6f _ hn
      ·cases hl
     ·exact ih _ l hl
   exact this _ _ l hl
  ·obtain ⟨x,hx,rfl⟩:=List.mem_map.1 hl
   have h1:=(J1u (R.pre x hx)).1
   have h2:f.Params.length≤J10 r f:=by unfold J10;omega
   simp [J3k];omega
 have m1:MOk (ss1 r f):=MOk.fold (fun ms x h=>h.par hn x) ⟨by simp,hdl.2,by simp⟩
 have m1':MOk (Jc7 (ss1 r f) f.Params.length):=⟨m1.E,m1.R,m1.P⟩
 have m3:MOk (ss3 r f):=MOk.fold (fun ms x h=>h.pat hn x) m1'
 have m4:MOk (J0w (Jc7 (ss3 r f) (f.Params.length+J3e r.Patterns)) (r.Guards.map (Jdn (ss3 r f).E (J10 r f)))):=by
  refine ⟨m3.E,?_,m3.P⟩
  intro l hl
  rcases List.mem_append.1 hl with hl|hl
  ·exact m3.R l hl
  ·obtain ⟨g,_,rfl⟩:=List.mem_map.1 hl
   exact Jlc
 have m5:MOk (ss5 r f):=MOk.fold (fun ms x h=>h.call hn x) m4
 obtain ⟨c1,c2,c3,c4⟩:=Jfd (n:=J10 r f) (xs:=r.Calls) (a:=J0w (Jc7 (ss3 r f) (f.Params.length+J3e r.Patterns)) (r.Guards.map (Jdn (ss3 r f).E (J10 r f))))
 have d3:=Jc2 (n:=J10 r f) (xs:=r.Patterns) (a:=Jc7 (ss1 r f) f.Params.length)
 have d1:=Jdw (n:=J10 r f) (xs:=f.Params) (a:=⟨[],0,Jcc f (J10 r f),[],[]⟩)
 have e1:=Jih (n:=J10 r f) (xs:=f.Params) (a:=⟨[],0,Jcc f (J10 r f),[],[]⟩)
 have e3:=Jex (n:=J10 r f) (xs:=r.Patterns) (a:=Jc7 (ss1 r f) f.Params.length)
 have hrows1:(ss1 r f).rows=Jcc f (J10 r f):=d1.2.2.2.1
 have hargs3:(ss3 r f).args=[]:=by
  have:(ss3 r f).args=(Jc7 (ss1 r f) f.Params.length).args:=d3.2.2.1
  rw [this];exact d1.2.2.1
 have hr3:(ss3 r f).rows.length=(Jcc f (J10 r f)).length+r.Patterns.length:=by
  have:(ss3 r f).rows.length=(Jc7 (ss1 r f) f.Params.length).rows.length+r.Patterns.length:=d3.1
  rw [this];show (ss1 r f).rows.length+_=_;rw [hrows1]
 have hp5:(ss5 r f).pars.length=f.Params.length:=by
  have h1:(ss5 r f).pars=(ss3 r f).pars:=c2
  have h2:(ss3 r f).pars=(ss1 r f).pars:=e3
  rw [h1,h2]
  have:(ss1 r f).pars.length=f.Params.length:=by rw [show (ss1 r f)=f.Params.foldl (J8z (J10 r f)) ⟨[],0,Jcc f (J10 r f),[],[]⟩ from rfl,e1];simp
  exact this
 refine ⟨?_,m5.R,?_,m5.P,?_,?_,Jls,?_,?_⟩
 ·have:(ss5 r f).rows.length≤(ss3 r f).rows.length+r.Guards.length+r.Calls.length:=by
   refine Nat.le_trans c1 ?_
   show ((ss3 r f).rows++_).length+_≤_
   simp
  show (ss5 r f).rows.length≤10
  omega
 ·show (ss5 r f).pars.length≤2;omega
 ·have:(ss5 r f).args.length=(ss3 r f).args.length+r.Calls.length:=c3
  rw [hargs3] at this
  simp at this
  show (ss5 r f).args.length≤2;omega
 ·intro l hl
  rcases c4 l hl with h|⟨c,hc,h1,h2⟩
  ·have:l∈(ss3 r f).args:=h
   rw [hargs3] at this;cases this
  ·exact ⟨by rw [h1];exact (R.args hp c hc).1,h2⟩
 ·show ((J10 r f:Nat):Int)≤6;have:=R.size;omega
 ·show (0:Int)≤((J10 r f:Nat):Int);omega
def Jby (i:Nat) (k:Nat):DEdge:=⟨i,k⟩
def J3v (i:Nat) (r:DRule):List DEdge:=(List.range r.Calls.length).map (Jby i)
def J2x:Nat→List DRule→List DEdge
 | _,[]=>[]
 | i,r::l=>J3v i r++J2x (i+1) l
def Jbb (p:DProgram):List DEdge:=J2x 0 p.Rules
def J1w (p:DProgram):List DEdge:=if J2l p then Jbb p else []
def Jsg (p:DProgram) (e:DEdge):Str:=match p.Rules[e.Rule.toNat]? with|some r=>r.Func|Option.none=>[]
def toE (p:DProgram) (e:DEdge):Str:=match p.Rules[e.Rule.toNat]? with|some r=>(match r.Calls[e.Call.toNat]? with|some c=>c.Func|Option.none=>[])|Option.none=>[]
def K05 (p:DProgram):List (Str×Str):=(Jbb p).map fun e=>(Jsg p e,toE p e)
def J9f (p:DProgram):List Str:=p.Functions.map (·.Name)
theorem Jbu {e:DEdge} : ∀ {l:List DRule}{i:Nat},e∈J2x i l→∃ j k:Nat,∃ hj:j<l.length,k<(l[j]).Calls.length∧e=⟨((i+j:Nat):Int),k⟩
 | [],_,h=>by cases h
 | r::l,i,h=>by
  simp only [J2x] at h
  rcases List.mem_append.1 h with h|h
  ·simp only [J3v,List.mem_map,List.mem_range,Jby] at h
   obtain ⟨k,hk,rfl⟩:=h
   exact ⟨0,k,by simp,by simpa using hk,by simp⟩
  ·obtain ⟨j,k,hj,hk,rfl⟩:=Jbu h
   exact ⟨j+1,k,by simpa using hj,by simpa using hk,by congr 1;omega⟩
theorem Jgo {p:DProgram}{e:DEdge}(h:e∈Jbb p):∃ i k:Nat,∃ hi:i<p.Rules.length,k<(p.Rules[i]).Calls.length∧e=⟨(i:Int),(k:Int)⟩:=by
 obtain ⟨j,k,hj,hk,rfl⟩:=Jbu h
 exact ⟨j,k,hj,hk,by congr 1;omega⟩
theorem Jm3 {p:DProgram}{i k:Nat}(hi:i<p.Rules.length):Jsg p ⟨(i:Int),(k:Int)⟩=(p.Rules[i]).Func:=by
 simp only [Jsg,Int.toNat_natCast,List.getElem?_eq_getElem hi]
theorem Ju7 {p:DProgram}{i k:Nat}(hi:i<p.Rules.length) (hk:k<(p.Rules[i]).Calls.length):toE p ⟨(i:Int),(k:Int)⟩=((p.Rules[i]).Calls[k]).Func:=by
 simp only [toE,Int.toNat_natCast,List.getElem?_eq_getElem hi,List.getElem?_eq_getElem hk]
theorem Jbm:∀ (l:List DRule) (i:Nat),(J2x i l).length≤wL J39 l
 | [],_=>Nat.zero_le _
 | r::l,i=>by
  have h1:=Jbm l (i+1)
  have h2:=J27 J53 r.Calls
  have h3:(J3v i r).length=r.Calls.length:=by simp [J3v]
  have h4:r.Calls.length≤J39 r:=by unfold J39 J6v;omega
  simp only [J2x,List.length_append,h3]
  unfold wL at h1 ⊢
  simp only [List.map_cons,List.sum_cons,List.length_cons]
  omega
theorem Jcg (p:DProgram) (hw:J0f p≤1048576):(Jbb p).length≤1048576:=by
 have:=Jbm p.Rules 0
 unfold J0f J7v at hw
 unfold Jbb
 omega
theorem Jee {l:List DFunction}{s:Str}(h:(J0t l s).isSome=true):s∈l.map (·.Name):=by
 unfold J0t at h
 rw [List.find?_isSome] at h
 obtain ⟨f,hf,hn⟩:=h
 exact List.mem_map.2 ⟨f,hf,by simpa using hn⟩
theorem Jfa:∀ {l met:List Str},J3n met l=true→l.Nodup∧∀ x∈l,x∉met
 | [],_,_=>⟨List.nodup_nil,fun _ h=>(by cases h)⟩
 | s::l,met,h=>by
  simp only [J3n,Bool.and_eq_true,Bool.not_eq_true'] at h
  obtain ⟨h1,h2⟩:=Jfa h.2
  have h3:=Jhz.1 h.1
  refine ⟨List.nodup_cons.2 ⟨fun hs=>h2 s hs (by simp),h1⟩,?_⟩
  intro x hx
  rcases List.mem_cons.1 hx with rfl|hx
  ·exact h3
  ·exact fun hm=>h2 x hx (List.mem_append_left _ hm)
theorem Jbc {p:DProgram}{r:DRule} : ∀ {l:List DCall}{k:Nat},J2c p r k l=true→∀ c∈l,∃ s,J9g p c s=true
 | [],_,_,_,h=>by cases h
 | c::l,k,h,d,hd=>by
  simp only [J2c,Bool.and_eq_true] at h
  rcases List.mem_cons.1 hd with rfl|hd
  ·exact ⟨_,h.1⟩
  ·exact Jbc h.2 d hd
theorem J59 {p:DProgram}(h:J2l p=true):(J9f p).Nodup∧(∀ e∈K05 p,e.1∈J9f p∧e.2∈J9f p)∧p.Functions.length≤3∧p.Rules.length≤8:=by
 unfold J2l at h
 simp only [Bool.and_eq_true,decide_eq_true_eq,J9l] at h
 obtain ⟨⟨⟨h1,h2⟩,h3⟩,h4⟩:=h
 have h1':p.Functions.length≤3:=by unfold inR at h1;simp at h1;omega
 refine ⟨(Jfa h2.2).1,?_,h1',h3⟩
 intro e he
 obtain ⟨x,hx,rfl⟩:=List.mem_map.1 he
 obtain ⟨i,k,hi,hk,rfl⟩:=Jgo hx
 have hr:=List.all_eq_true.1 h4 _ (List.getElem_mem hi)
 unfold J7e at hr
 simp only [Bool.and_eq_true,decide_eq_true_eq] at hr
 obtain ⟨⟨⟨⟨⟨⟨⟨g1,g2⟩,g3⟩,g4⟩,g5⟩,g6⟩,g7⟩,g8⟩:=hr
 rw [Jm3 hi,Ju7 hi hk]
 refine ⟨Jee g1,?_⟩
 obtain ⟨s,hs⟩:=Jbc g6 _ (List.getElem_mem hk)
 unfold J9g at hs
 simp only [Bool.and_eq_true] at hs
 exact Jee hs.1.1.1
def a151:AFn:= ⟨30,[.t 2],(.seq (.reg [⟨some 1,.boxv (.t 0),no⟩,⟨some 2,.mv (.k (.nil 2)),no⟩]) (.seq (.reg [⟨some 3,.mv (.k (.nil 2)),no⟩]) (.seq (.seq (.reg [⟨some 7,.fld 1 (.t 1),no⟩,⟨some 8,.ld false 1 (.t 7),no⟩,⟨some 9,.len false (.t 8),no⟩,⟨some 10,.mv (.k (.int .i64 0)),no⟩]) (.blk 0 (.loop (.seq (.reg [⟨some 11,.bin .lss (.t 10) (.t 9),no⟩]) (.seq (.cond (.t 11) .skip (.exit 0)) (.seq (.blk 1 (.seq (.reg [⟨some 12,.mv (.t 10),no⟩,⟨some 13,.ixa 7 (.t 8) (.t 10),no⟩,⟨some 14,.ld true 7 (.t 13),no⟩,⟨some 5,.box [(.str []),(.nil 4),(.nil 2),(.nil 3),(.bool false),(.nil 2),(.str [])],no⟩,⟨some 4,.mv (.t 12),no⟩,⟨no,.st 7 (.t 5) (.t 14),no⟩]) (.seq (.reg [⟨some 15,.fld 3 (.t 5),no⟩,⟨some 16,.ld false 1 (.t 15),no⟩,⟨some 17,.len false (.t 16),no⟩,⟨some 18,.mv (.k (.int .i64 0)),no⟩]) (.blk 2 (.loop (.seq (.reg [⟨some 19,.bin .lss (.t 18) (.t 17),no⟩]) (.seq (.cond (.t 19) .skip (.exit 2)) (.seq (.blk 3 (.seq (.reg [⟨some 20,.mv (.t 18),no⟩,⟨some 6,.mv (.t 20),no⟩]) (.reg [⟨some 21,.mv (.t 3),no⟩,⟨some 22,.mv (.t 4),no⟩,⟨some 23,.mv (.t 6),no⟩,⟨some 24,.build [(.int .i64 0),(.int .i64 0)] [(0,(1,(.t 22))),(1,(1,(.t 23)))],no⟩,⟨some 25,.bsl 2 [.t 24],no⟩,⟨some 26,.app 16 2 (.t 21) (.t 25),no⟩,⟨some 3,.mv (.t 26),no⟩]))) (.reg [⟨some 27,.bin .add (.t 18) (.k (.int .i64 1)),no⟩,⟨some 18,.mv (.t 27),no⟩]))))))))) (.reg [⟨some 28,.bin .add (.t 10) (.k (.int .i64 1)),no⟩,⟨some 10,.mv (.t 28),no⟩]))))))) (.seq (.reg [⟨some 29,.mv (.t 3),no⟩,⟨some 2,.mv (.t 29),no⟩]) .ret))))⟩
theorem a151_ok:J0a Tryz.prog Tryz.f151=some a151:=by kernel_rfl
def a125:AFn:= ⟨8,[.t 2],(.seq (.reg [⟨some 1,.boxv (.t 0),no⟩,⟨some 2,.mv (.k (.nil 2)),no⟩]) (.seq (.seq (.reg [⟨some 3,.ld true 2 (.t 1),no⟩,⟨some 4,.call (.k (.fn (.func 67) [] [])) [.t 3],no⟩,⟨some 5,.un .not (.t 4),no⟩]) (.cond (.t 5) (.seq (.reg [⟨some 2,.mv (.k (.nil 2)),no⟩]) .ret) .skip)) (.seq (.reg [⟨some 6,.ld true 2 (.t 1),no⟩,⟨some 7,.call (.k (.fn (.func 151) [] [])) [.t 6],no⟩,⟨some 2,.mv (.t 7),no⟩]) .ret)))⟩
theorem a125_ok:J0a Tryz.prog Tryz.f125=some a125:=by kernel_rfl
def a122:AFn:= ⟨36,[.t 2],(.seq (.reg [⟨some 1,.boxv (.t 0),no⟩,⟨some 2,.mv (.k (.nil 2)),no⟩]) (.seq (.reg [⟨some 6,.bsl 2 [],no⟩,⟨some 3,.mv (.t 6),no⟩]) (.seq (.seq (.reg [⟨some 7,.ld true 2 (.t 1),no⟩,⟨some 8,.call (.k (.fn (.func 61) [] [])) [.t 7],no⟩,⟨some 9,.un .not (.t 8),no⟩]) (.cond (.t 9) (.seq (.reg [⟨some 10,.mv (.t 3),no⟩,⟨some 2,.mv (.t 10),no⟩]) .ret) .skip)) (.seq (.seq (.reg [⟨some 4,.mv (.k (.int .i64 0)),no⟩]) (.blk 0 (.loop (.seq (.seq (.reg [⟨some 11,.mv (.t 4),no⟩,⟨some 12,.fld 1 (.t 1),no⟩,⟨some 13,.ld false 1 (.t 12),no⟩,⟨some 14,.len false (.t 13),no⟩,⟨some 15,.bin .lss (.t 11) (.t 14),no⟩]) (.cond (.t 15) .skip (.exit 0))) (.seq (.blk 1 (.seq (.reg [⟨some 5,.mv (.k (.int .i64 0)),no⟩]) (.blk 2 (.loop (.seq (.seq (.reg [⟨some 18,.mv (.t 5),no⟩,⟨some 19,.fld 1 (.t 1),no⟩,⟨some 20,.ld false 1 (.t 19),no⟩,⟨some 21,.mv (.t 4),no⟩,⟨some 22,.ixa 7 (.t 20) (.t 21),no⟩,⟨some 23,.fld 3 (.t 22),no⟩,⟨some 24,.ld false 1 (.t 23),no⟩,⟨some 25,.len false (.t 24),no⟩,⟨some 26,.bin .lss (.t 18) (.t 25),no⟩]) (.cond (.t 26) .skip (.exit 2))) (.seq (.blk 3 (.reg [⟨some 29,.mv (.t 3),no⟩,⟨some 30,.mv (.t 4),no⟩,⟨some 31,.mv (.t 5),no⟩,⟨some 32,.build [(.int .i64 0),(.int .i64 0)] [(0,(1,(.t 30))),(1,(1,(.t 31)))],no⟩,⟨some 33,.bsl 2 [.t 32],no⟩,⟨some 34,.app 16 2 (.t 29) (.t 33),no⟩,⟨some 3,.mv (.t 34),no⟩])) (.reg [⟨some 27,.mv (.t 5),no⟩,⟨some 28,.bin .add (.t 27) (.k (.int .i64 1)),no⟩,⟨some 5,.mv (.t 28),no⟩]))))))) (.reg [⟨some 16,.mv (.t 4),no⟩,⟨some 17,.bin .add (.t 16) (.k (.int .i64 1)),no⟩,⟨some 4,.mv (.t 17),no⟩])))))) (.seq (.reg [⟨some 35,.mv (.t 3),no⟩,⟨some 2,.mv (.t 35),no⟩]) .ret)))))⟩
theorem a122_ok:J0a Tryz.prog Tryz.f122=some a122:=by kernel_rfl
def Acc (z:Nat) (rows:List (List AV)) (v:AV) (h:Heap) (n:Nat):Prop:=(rows=[]∧v = .nil z)∨∃ id,id<n∧v = .ref id 0 rows.length∧h id=some ⟨false,z,rows⟩
theorem Jaj {l:List DRule}{i k:Nat}(hi:i<l.length):J2x k (l.drop i)=J3v k l[i]++J2x (k+1) (l.drop (i+1)):=by rw [List.drop_eq_getElem_cons hi];rfl
theorem Jaf {r:DRule}{i j:Nat}(hj:j<r.Calls.length):(J3v i r).drop j=Jby i j::(J3v i r).drop (j+1):=by
 rw [List.drop_eq_getElem_cons (by simp [J3v,hj])]
 simp [J3v]
theorem Jb8 (i:Nat) (r:DRule):(J3v i r).length=r.Calls.length:=by simp [J3v]
theorem Jit (p:DProgram) (hp:J0f p≤1048576):Holds Tryz.prog 151 [.agg (J01 p)] (fun x=>x = .us 2 ((Jbb p).map J45)):=by
 have hTl:=Jcg p hp
 refine J03 Tryz.func151 a151_ok rfl (by simp [a151]) ?_
 simp [a151,J01]
 intro hlr
 unfold Jbb at *
 generalize hT:J2x 0 p.Rules=T at *
 refine J0o [8,9] 10 p.Rules.length (fun i s h n=>∃ acc:List DEdge,acc++J2x i (p.Rules.drop i)=T∧Acc 2 (acc.map J45) (s 3) h n) hlr (by simp) ⟨[],by simpa using hT,.inl (by simp)⟩ ?_ ?_
 ·rintro i st h n R hi hg hk s10 hw ⟨acc,hJ,hA⟩ hR hret _
  simp at hk
  rw [Jaj hi] at hJ
  refine J0i [3,8,9,10] (fun s=>s 11 = .bool true) (by simp [hk,s10,hi]) ?_
  intro st1 hk1 s11
  simp at hk1
  refine J3g s11 (J0b (J1c ?_))
  refine J15 [3,8,9,10] (fun s h' n'=>s 4 = .int .i64 i∧s 5 = .ptr n 0 0∧n'=n+1∧h' n=some ⟨true,7,[J0c p.Rules[i]]⟩∧Acc 2 (acc.map J45) (s 3) h' n') ?_ ?_
  ·simp [hk,hk1,s10,hi,J0c]
   rcases hA with ⟨ha,hv⟩|⟨id,hid,hv,he⟩
   ·exact .inl ⟨ha,hv⟩
   ·have z0:¬id=n:=by omega
    exact .inr ⟨id,by omega,hv,by simp [he,z0]⟩
  rintro st2 h2 n2 hk2 ⟨s4,s5,rfl,en,hA⟩
  simp at hk2
  refine J0b ?_
  simp [hk,hk1,hk2,s5,en,J0c]
  intro hlc
  refine J0o [4,8,9,10,17] 18 (p.Rules[i]).Calls.length (fun j s h n=>∃ acc:List DEdge,acc++((J3v i p.Rules[i]).drop j++J2x (i+1) (p.Rules.drop (i+1)))=T∧Acc 2 (acc.map J45) (s 3) h n) hlc (by simp) ⟨acc,by simpa using hJ,by simpa using hA⟩ ?_ ?_
  ·rintro j stj hj nj Rj hji hjg hkj s18 hwj ⟨accj,hJj,hAj⟩ hRj hretj _
   simp at hkj
   rw [Jaf hji] at hJj
   have hal:=congrArg List.length hJj
   simp at hal
   rcases hAj with ⟨ha,hv⟩|⟨id,hid,hv,he⟩
   ·simp at ha
    subst ha
    simp [hkj,hk2,hk1,s4,s18,hji,hv,hwj]
    refine ⟨by unfold LIM;omega,?_⟩
    refine hRj _ _ _ (by simp [hkj]) (by simp) ⟨[Jby i j],by simpa using hJj,.inr ⟨nj+1,by omega,by simp,by simp [J45,Jby]⟩⟩
   ·simp at hv
    have z0:¬id=nj:=by omega
    have z1:¬id=nj+1:=by omega
    have z2:¬nj+1=id:=by omega
    have z3:¬nj=id:=by omega
    simp [hkj,hk2,hk1,s4,s18,hji,hv,he,z0,z1,z2,z3,hwj]
    refine ⟨by unfold LIM;omega,?_⟩
    refine hRj _ _ _ (by simp [hkj]) (by simp) ⟨accj++[Jby i j],by simpa using hJj,.inr ⟨nj+1,by omega,by simp,by simp [J45,Jby,List.take_of_length_le]⟩⟩
  rintro stj hj nj Rj hkj s18 ⟨accj,hJj,hAj⟩ hretj hXj
  simp at hkj
  rw [List.drop_eq_nil_of_le (by rw [Jb8];omega),List.nil_append] at hJj
  refine J0i [3,4,8,9,10,17] (fun s=>s 19 = .bool false) (by simp [hkj,s18]) ?_
  intro stk hkk s19
  simp at hkk
  refine J37 s19 ?_
  refine hXj _ _ _ _ ?_
  simp [hk,hk1,hk2,hkj,hkk,s10,hw]
  exact hR _ _ _ (by simp [hk,hk1,hk2,hkj,hkk]) (by simp) ⟨accj,hJj,by simpa [hkk] using hAj⟩
 rintro st h n R hk s10 ⟨acc,hJ,hA⟩ hret hX
 simp at hk
 rw [List.drop_eq_nil_of_le (by omega)] at hJ
 simp [J2x] at hJ
 subst hJ
 refine J0i [3] (fun s=>s 11 = .bool false) (by simp [hk,s10]) ?_
 intro st1 hk1 s11
 simp at hk1
 refine J37 s11 ?_
 refine hX _ _ _ _ ?_
 rcases hA with ⟨ha,hv⟩|⟨id,hid,hv,he⟩
 ·simp at ha
  simp [hk1,hv,ha]
 ·simp at hv
  simp [hk1,hv,he]
theorem Jne (p:DProgram) (hp:J0f p≤1048576):Holds Tryz.prog 125 [.agg (J01 p)] (fun x=>x = .us 2 ((J1w p).map J45)):=by
 refine J03 Tryz.func125 a125_ok rfl (by simp [a125]) ?_
 simp [a125,J01]
 first|refine J00 (J2h p hp) (by first|simp [J01];done|rfl) ?_|refine J02 (J2h p hp) (by first|simp [J01];done|rfl) ?_
 rintro r rfl
 unfold J1w
 cases h1:J2l p
 ·simp
 simp
 first|refine J00 (Jit p hp) (by first|simp [J01];done|rfl) ?_|refine J02 (Jit p hp) (by first|simp [J01];done|rfl) ?_
 rintro r rfl
 simp
theorem Jmm (p:DProgram) (hp:J0f p≤1048576):Holds Tryz.prog 122 [.agg (J01 p)] (fun x=>x = .us 2 ((J1w p).map J45)):=by
 have hTl:=Jcg p hp
 have hlr:p.Rules.length≤1048576:=by have:=J27 J39 p.Rules;unfold J0f J7v at hp;omega
 have hlc:∀ i,∀ hi:i<p.Rules.length,(p.Rules[i]).Calls.length≤1048576:=fun i hi=>by
  have h1:=J9j hp _ (List.getElem_mem hi)
  exact (Jas h1).2.2.2.2.1
 refine J03 Tryz.func122 a122_ok rfl (by simp [a122]) ?_
 simp [a122,J01]
 first|refine J00 (J26 p hp) (by first|simp [J01];done|rfl) ?_|refine J02 (J26 p hp) (by first|simp [J01];done|rfl) ?_
 rintro r rfl
 unfold J1w
 cases h1:J2l p
 ·simp
 simp
 unfold Jbb at *
 generalize hT:J2x 0 p.Rules=T at *
 refine J0o [1] 4 p.Rules.length (fun i s h n=>0<n∧h 0=some ⟨true,2,[J01 p]⟩∧∃ (acc:List DEdge) (id:Nat),acc++J2x i (p.Rules.drop i)=T∧0<id∧id<n∧s 3 = .ref id 0 acc.length∧h id=some ⟨false,2,acc.map J45⟩) (by unfold LIM;omega) (by simp) ⟨by simp,by simp [J01],[],1,by simpa using hT,by omega,by omega,by simp,by simp⟩ ?_ ?_
 ·rintro i st h n R hi hg hk s4 hw ⟨hn,e0,acc,id,hJ,hid0,hid,s3,eid⟩ hR hret _
  simp at hk
  rw [Jaj hi] at hJ
  refine J0b (J0i [1,3,4] (fun s=>s 15 = .bool true) (by simp [hk,s4,hi,e0,J01]) ?_)
  intro st1 hk1 s15
  simp at hk1
  refine J29 s15 (J0b (J1c (J0b ?_)))
  simp [hk,hk1]
  refine J0o [1,4] 5 (p.Rules[i]).Calls.length (fun j s h n=>0<n∧h 0=some ⟨true,2,[J01 p]⟩∧∃ (acc:List DEdge) (id:Nat),acc++((J3v i p.Rules[i]).drop j++J2x (i+1) (p.Rules.drop (i+1)))=T∧0<id∧id<n∧s 3 = .ref id 0 acc.length∧h id=some ⟨false,2,acc.map J45⟩) (by have:=hlc i hi;unfold LIM;omega) (by simp) ⟨hn,by simpa using e0,acc,id,by simpa using hJ,hid0,hid,by simp [hk1,s3],by simpa using eid⟩ ?_ ?_
  ·rintro j stj hj nj Rj hji hjg hkj s5 hwj ⟨hnj,e0j,accj,idj,hJj,hid0j,hidj,s3j,eidj⟩ hRj hretj _
   simp at hkj
   rw [Jaf hji] at hJj
   have hal:=congrArg List.length hJj
   simp at hal
   have z0:¬idj=nj:=by omega
   have z1:¬idj=nj+1:=by omega
   have z2:¬nj+1=idj:=by omega
   have z3:¬nj=idj:=by omega
   have z4:¬0=idj:=by omega
   have z5:¬0=nj:=by omega
   have z6:¬0=nj+1:=by omega
   have z7:¬idj=0:=by omega
   have z8:¬nj=0:=by omega
   refine J0b (J0i [1,3,4,5] (fun s=>s 26 = .bool true) (by simp [hk,hkj,hk1,s4,s5,hi,hji,e0j,J01,J0c]) ?_)
   intro stk hkk s26
   simp at hkk
   refine J29 s26 ?_
   simp [hk,hkj,hk1,hkk,s4,s5,s3j,eidj,e0j,z0,z1,z2,z3,z4,z5,z6,z7,z8,hwj]
   refine ⟨by unfold LIM;omega,?_⟩
   exact hRj _ _ _ (by simp [hkj,hkk]) (by simp) ⟨by omega,by simp [e0j,z4,z5,z6,z8],accj++[Jby i j],nj+1,by simpa using hJj,by omega,by omega,by simp,by simp [J45,Jby,List.take_of_length_le]⟩
  rintro stj hj nj Rj hkj s5 ⟨hnj,e0j,accj,idj,hJj,hid0j,hidj,s3j,eidj⟩ hretj hXj
  simp at hkj
  rw [List.drop_eq_nil_of_le (by rw [Jb8];omega),List.nil_append] at hJj
  refine J0b (J0i [1,3,4] (fun s=>s 26 = .bool false) (by simp [hk,hkj,hk1,s4,s5,hi,e0j,J01,J0c]) ?_)
  intro stk hkk s26
  simp at hkk
  refine J23 s26 ?_
  simp
  refine hXj _ _ _ _ ?_
  simp [hk,hk1,hkj,hkk,s4,hw]
  exact hR _ _ _ (by simp [hk,hk1,hkj,hkk]) (by simp) ⟨hnj,e0j,accj,idj,hJj,hid0j,hidj,by simp [hkk,s3j],eidj⟩
 rintro st h n R hk s4 ⟨hn,e0,acc,id,hJ,hid0,hid,s3,eid⟩ hret hX
 simp at hk
 rw [List.drop_eq_nil_of_le (by omega)] at hJ
 simp [J2x] at hJ
 subst hJ
 refine J0b (J0i [3] (fun s=>s 15 = .bool false) (by simp [hk,s4,e0,J01]) ?_)
 intro st1 hk1 s15
 simp at hk1
 refine J23 s15 ?_
 refine hX _ _ _ _ ?_
 simp [hk1,s3,eid]
def a152:AFn:= ⟨22,[.t 4,.t 5],(.seq (.reg [⟨some 2,.boxv (.t 0),no⟩,⟨some 3,.boxv (.t 1),no⟩,⟨some 4,.mv (.k (.str [])),no⟩,⟨some 5,.mv (.k (.str [])),no⟩]) (.seq (.reg [⟨some 7,.fld 1 (.t 2),no⟩,⟨some 8,.ld false 1 (.t 7),no⟩,⟨some 9,.fld 0 (.t 3),no⟩,⟨some 10,.ld false 1 (.t 9),no⟩,⟨some 11,.ixa 7 (.t 8) (.t 10),no⟩,⟨some 12,.ld true 7 (.t 11),no⟩,⟨some 6,.box [(.str []),(.nil 4),(.nil 2),(.nil 3),(.bool false),(.nil 2),(.str [])],no⟩,⟨no,.st 7 (.t 6) (.t 12),no⟩]) (.seq (.draw (.op ⟨some 13,.fld 0 (.t 6),no⟩ (.op ⟨some 14,.ld false 1 (.t 13),no⟩ (.op ⟨some 15,.fld 3 (.t 6),no⟩ (.op ⟨some 16,.ld false 1 (.t 15),no⟩ (.op ⟨some 17,.fld 1 (.t 3),no⟩ (.op ⟨some 18,.ld false 1 (.t 17),no⟩ (.op ⟨some 19,.ixa 3 (.t 16) (.t 18),no⟩ (.op ⟨some 20,.fld 1 (.t 19),no⟩ (.op ⟨some 21,.ld false 1 (.t 20),no⟩ (.op ⟨some 4,.mv (.t 14),no⟩ (.op ⟨some 5,.mv (.t 21),no⟩ .fin)))))))))))) .ret)))⟩
theorem a152_ok:J0a Tryz.prog Tryz.f152=some a152:=by kernel_rfl
def a173:AFn:= ⟨17,[.t 4],(.seq (.reg [⟨some 2,.boxv (.t 0),no⟩,⟨some 3,.boxv (.t 1),no⟩,⟨some 4,.mv (.k (.str [])),no⟩]) (.seq (.draw (.op ⟨some 5,.fld 1 (.t 2),no⟩ (.op ⟨some 6,.ld false 1 (.t 5),no⟩ (.op ⟨some 7,.fld 0 (.t 3),no⟩ (.op ⟨some 8,.ld false 1 (.t 7),no⟩ (.op ⟨some 9,.ixa 7 (.t 6) (.t 8),no⟩ (.op ⟨some 10,.fld 3 (.t 9),no⟩ (.op ⟨some 11,.ld false 1 (.t 10),no⟩ (.op ⟨some 12,.fld 1 (.t 3),no⟩ (.op ⟨some 13,.ld false 1 (.t 12),no⟩ (.op ⟨some 14,.ixa 3 (.t 11) (.t 13),no⟩ (.op ⟨some 15,.fld 1 (.t 14),no⟩ (.op ⟨some 16,.ld false 1 (.t 15),no⟩ (.op ⟨some 4,.mv (.t 16),no⟩ .fin)))))))))))))) .ret))⟩
theorem a173_ok:J0a Tryz.prog Tryz.f173=some a173:=by kernel_rfl
theorem Jua (p:DProgram) {i k:Nat}(hi:i<p.Rules.length) (hk:k<(p.Rules[i]).Calls.length):Holds Tryz.prog 152 [.agg (J01 p),.agg (J2o ⟨i,k⟩)] (fun x=>x = .tup [.str (p.Rules[i]).Func,.str ((p.Rules[i]).Calls[k]).Func]):=by
 refine J03 Tryz.func152 a152_ok rfl (by simp [a152]) ?_
 simp [a152,J01,J2o,hi,hk,J0c,J0s]
theorem Jdt (p:DProgram) {i k:Nat}(hi:i<p.Rules.length) (hk:k<(p.Rules[i]).Calls.length):Holds Tryz.prog 173 [.agg (J01 p),.agg (J2o ⟨i,k⟩)] (fun x=>x = .str ((p.Rules[i]).Calls[k]).Func):=by
 refine J03 Tryz.func173 a173_ok rfl (by simp [a173]) ?_
 simp [a173,J01,J2o,hi,hk,J0c,J0s]
theorem Jg5 {p:DProgram}{j:Nat}(hj:j<(J1w p).length):∃ i k:Nat,∃ hi:i<p.Rules.length,∃ hk:k<(p.Rules[i]).Calls.length,(J1w p)[j]=⟨(i:Int),(k:Int)⟩∧Jsg p ⟨(i:Int),(k:Int)⟩=(p.Rules[i]).Func∧toE p ⟨(i:Int),(k:Int)⟩=((p.Rules[i]).Calls[k]).Func:=by
 have hm:(J1w p)[j]∈Jbb p:=by
  have h0:(J1w p)[j]∈J1w p:=List.getElem_mem hj
  generalize (J1w p)[j]=e at h0
  unfold J1w at h0
  split at h0
  ·exact h0
  ·cases h0
 obtain ⟨i,k,hi,hk,he⟩:=Jgo hm
 exact ⟨i,k,hi,hk,he,Jm3 hi,Ju7 hi hk⟩
theorem Jar (p:DProgram) (hp:J0f p≤1048576):(J1w p).length≤1048576:=by
 have:=Jcg p hp
 unfold J1w
 split
 ·exact this
 ·simp
def a128:AFn:= ⟨9,[(.c 2 true 2)],(.seq (.reg [⟨some 1,.boxv (.t 0),no⟩,⟨some 2,.box [(.int .i64 0),(.nil 2)],no⟩]) (.seq (.draw (.op ⟨some 3,.fld 0 (.t 1),no⟩ (.op ⟨some 4,.ld false 1 (.t 3),no⟩ (.op ⟨some 5,.fld 1 (.t 1),no⟩ (.op ⟨some 6,.ld false 1 (.t 5),no⟩ (.op ⟨some 7,.call (.k (.fn (.func 209) [] [])) [.t 6],no⟩ (.op ⟨some 8,.build [(.int .i64 0),(.nil 2)] [(0,(1,(.t 4))),(1,(1,(.t 7)))],no⟩ (.hop ⟨no,.st 2 (.t 2) (.t 8),no⟩ [] .fin)))))))) .ret))⟩
theorem a128_ok:J0a Tryz.prog Tryz.f128=some a128:=by kernel_rfl
def a175:AFn:= ⟨27,[(.c 2 true 2)],(.seq (.reg [⟨some 1,.boxv (.t 0),no⟩,⟨some 2,.box [(.int .i64 0),(.nil 2)],no⟩]) (.seq (.reg [⟨some 5,.fld 0 (.t 1),no⟩,⟨some 6,.ld false 1 (.t 5),no⟩,⟨some 7,.build [(.int .i64 0),(.nil 2)] [(0,(1,(.t 6)))],no⟩,⟨some 3,.box [(.int .i64 0),(.nil 2)],no⟩,⟨no,.st 2 (.t 3) (.t 7),no⟩]) (.seq (.seq (.reg [⟨some 4,.mv (.k (.int .i64 0)),no⟩]) (.blk 0 (.loop (.seq (.seq (.reg [⟨some 8,.mv (.t 4),no⟩,⟨some 9,.fld 1 (.t 1),no⟩,⟨some 10,.ld false 1 (.t 9),no⟩,⟨some 11,.len false (.t 10),no⟩,⟨some 12,.bin .lss (.t 8) (.t 11),no⟩]) (.cond (.t 12) .skip (.exit 0))) (.seq (.blk 1 (.draw (.op ⟨some 15,.fld 1 (.t 3),no⟩ (.op ⟨some 16,.ld false 1 (.t 15),no⟩ (.op ⟨some 17,.fld 1 (.t 1),no⟩ (.op ⟨some 18,.ld false 1 (.t 17),no⟩ (.op ⟨some 19,.mv (.t 4),no⟩ (.op ⟨some 20,.ixa 2 (.t 18) (.t 19),no⟩ (.op ⟨some 21,.ld true 2 (.t 20),no⟩ (.op ⟨some 22,.call (.k (.fn (.func 82) [] [])) [.t 21],no⟩ (.hop ⟨some 23,.bsl 2 [.t 22],no⟩ [(.ld false 1 (.t 15)),(.fld 1 (.t 3))] (.hop ⟨some 24,.app 32 2 (.t 16) (.t 23),no⟩ [] (.op ⟨some 25,.fld 1 (.t 3),no⟩ (.hop ⟨no,.st 1 (.t 25) (.t 24),no⟩ [] .fin)))))))))))))) (.reg [⟨some 13,.mv (.t 4),no⟩,⟨some 14,.bin .add (.t 13) (.k (.int .i64 1)),no⟩,⟨some 4,.mv (.t 14),no⟩])))))) (.seq (.reg [⟨some 26,.ld true 2 (.t 3),no⟩,⟨no,.st 2 (.t 2) (.t 26),no⟩]) .ret))))⟩
theorem a175_ok:J0a Tryz.prog Tryz.f175=some a175:=by kernel_rfl
def po0:AC:=(.reg [⟨some 1,.boxv (.t 0),no⟩,⟨some 2,.mv (.k (.nil 4)),no⟩])
def po1:AC:=(.reg [⟨some 3,.mv (.k (.nil 4)),no⟩])
def pod:AC:=(.draw (.op ⟨some 63,.mv (.t 3),no⟩ (.op ⟨some 64,.fld 0 (.t 6),no⟩ (.op ⟨some 65,.ld true 2 (.t 64),no⟩ (.op ⟨some 67,.ld true 2 (.t 14),no⟩ (.op ⟨some 66,.call (.k (.fn (.func 128) [] [])) [.t 65],no⟩ (.op ⟨some 68,.build [(.int .i64 0),(.nil 2),(.int .i64 0),(.nil 1)] [(0,(2,(.t 66))),(2,(2,(.t 67)))],no⟩ (.hop ⟨some 69,.bsl 4 [.t 68],no⟩ [] (.hop ⟨some 70,.app 64 4 (.t 63) (.t 69),no⟩ [] (.hop ⟨some 3,.mv (.t 70),no⟩ [] .fin))))))))))
def poi:AC:=(.seq (.reg [⟨some 42,.fld 3 (.t 10),no⟩,⟨some 43,.ld false 1 (.t 42),no⟩,⟨some 44,.len false (.t 43),no⟩,⟨some 45,.mv (.k (.int .i64 0)),no⟩]) (.blk 2 (.loop (.seq (.reg [⟨some 46,.bin .lss (.t 45) (.t 44),no⟩]) (.seq (.cond (.t 46) .skip (.exit 2)) (.seq (.blk 3 (.seq (.reg [⟨some 47,.ixa 2 (.t 43) (.t 45),no⟩,⟨some 48,.ld true 2 (.t 47),no⟩,⟨some 13,.box [(.int .i64 0),(.nil 1)],no⟩,⟨no,.st 2 (.t 13) (.t 48),no⟩]) (.seq (.reg [⟨some 50,.ld true 6 (.t 6),no⟩,⟨some 51,.ld true 2 (.t 13),no⟩,⟨some 52,.fld 1 (.t 5),no⟩,⟨some 53,.ld false 1 (.t 52),no⟩,⟨some 54,.call (.k (.fn (.func 177) [] [])) [.t 50,.t 51,.t 53],no⟩,⟨some 49,.mv (.t 54),no⟩,⟨some 55,.ext (.t 49) 0,no⟩,⟨some 56,.ext (.t 49) 1,no⟩,⟨some 14,.box [(.int .i64 0),(.nil 1)],no⟩,⟨no,.st 2 (.t 14) (.t 55),no⟩,⟨some 15,.mv (.t 56),no⟩]) (.seq (.seq (.reg [⟨some 57,.mv (.t 15),no⟩,⟨some 58,.un .not (.t 57),no⟩]) (.cond (.t 58) (.reg [⟨some 59,.fld 0 (.t 6),no⟩,⟨some 60,.fld 0 (.t 59),no⟩,⟨some 61,.ld false 1 (.t 60),no⟩,⟨some 62,.call (.k (.fn (.func 178) [] [])) [(.k (.int .i64 (-1))),.t 61],no⟩,⟨no,.st 2 (.t 14) (.t 62),no⟩]) .skip)) pod)))) (.reg [⟨some 71,.bin .add (.t 45) (.k (.int .i64 1)),no⟩,⟨some 45,.mv (.t 71),no⟩])))))))
def po2:AC:=(.seq (.reg [⟨some 16,.ld true 2 (.t 1),no⟩,⟨some 17,.call (.k (.fn (.func 125) [] [])) [.t 16],no⟩,⟨some 18,.len false (.t 17),no⟩,⟨some 19,.mv (.k (.int .i64 0)),no⟩]) (.blk 0 (.loop (.seq (.reg [⟨some 20,.bin .lss (.t 19) (.t 18),no⟩]) (.seq (.cond (.t 20) .skip (.exit 0)) (.seq (.blk 1 (.seq (.reg [⟨some 21,.ixa 2 (.t 17) (.t 19),no⟩,⟨some 22,.ld true 2 (.t 21),no⟩,⟨some 5,.box [(.int .i64 0),(.int .i64 0)],no⟩,⟨no,.st 2 (.t 5) (.t 22),no⟩]) (.seq (.reg [⟨some 24,.ld true 2 (.t 1),no⟩,⟨some 25,.fld 0 (.t 5),no⟩,⟨some 26,.ld false 1 (.t 25),no⟩,⟨some 27,.call (.k (.fn (.func 126) [] [])) [.t 24,.t 26],no⟩,⟨some 23,.mv (.t 27),no⟩,⟨some 28,.ext (.t 23) 0,no⟩,⟨some 29,.ext (.t 23) 1,no⟩,⟨some 6,.box [(.int .i64 0),(.nil 2),(.nil 2),(.nil 1),(.int .i64 0),(.nil 1)],no⟩,⟨no,.st 6 (.t 6) (.t 28),no⟩,⟨some 7,.mv (.t 29),no⟩]) (.seq (.reg [⟨some 31,.ld true 2 (.t 1),no⟩,⟨some 32,.ld true 2 (.t 5),no⟩,⟨some 33,.call (.k (.fn (.func 152) [] [])) [.t 31,.t 32],no⟩,⟨some 30,.mv (.t 33),no⟩,⟨some 34,.ext (.t 30) 0,no⟩,⟨some 35,.ext (.t 30) 1,no⟩,⟨some 8,.mv (.t 34),no⟩,⟨some 9,.mv (.t 35),no⟩]) (.seq (.reg [⟨some 37,.ld true 2 (.t 1),no⟩,⟨some 38,.mv (.t 9),no⟩,⟨some 39,.call (.k (.fn (.func 176) [] [])) [.t 37,.t 38],no⟩,⟨some 36,.mv (.t 39),no⟩,⟨some 40,.ext (.t 36) 0,no⟩,⟨some 41,.ext (.t 36) 1,no⟩,⟨some 10,.box [(.str []),(.nil 1),(.bool false),(.nil 2)],no⟩,⟨no,.st 4 (.t 10) (.t 40),no⟩,⟨some 11,.mv (.t 41),no⟩]) poi))))) (.reg [⟨some 72,.bin .add (.t 19) (.k (.int .i64 1)),no⟩,⟨some 19,.mv (.t 72),no⟩])))))))
def po3:AC:=(.reg [⟨some 73,.mv (.t 3),no⟩,⟨some 2,.mv (.t 73),no⟩])
def a94:AFn:=⟨74,[.t 2],(.seq po0 (.seq po1 (.seq po2 (.seq po3 .ret))))⟩
theorem a94_ok:J0a Tryz.prog Tryz.f94=some a94:=by kernel_rfl
theorem Jr1 {l:List DLin}(h:∀ x∈l,x.Coeffs.length≤8):J5n l≤9*l.length:=by
 unfold J5n wL
 have:((l.map Jai).sum)≤8*l.length:=by
  induction l with
  | nil=>simp
  | cons e l ih=>
   have h1:=ih fun x hx=>h x (List.mem_cons_of_mem _ hx)
   have h2:=h e List.mem_cons_self
   simp only [List.map_cons,List.sum_cons,List.length_cons]
   rw [show Jai e=e.Coeffs.length from rfl]
   omega
 omega
theorem Jcs (x:DSystem) (hw:J5n x.Rows≤1048576):Holds Tryz.prog 128 [.agg (J0x x)] (fun r=>r = .agg (J1x x)):=by
 refine J03 Tryz.func128 a128_ok rfl (by simp [a128]) ?_
 simp [a128,J0x]
 first|refine J00 (J9p x.Rows hw) (by first|simp;done|rfl) ?_|refine J02 (J9p x.Rows hw) (by first|simp;done|rfl) ?_
 rintro r rfl
 simp [J1x]
theorem Jj6 (x:DSystem) (hw:J5n x.Rows≤1048576):Holds Tryz.prog 175 [.agg (J0x x)] (fun r=>r = .agg (J1x x)):=by
 have hl:=J27 Jai x.Rows
 have hcl:∀ l∈x.Rows,l.Coeffs.length≤1048576:=fun l hl=>by
  have:=J3d (w:=Jai) hl
  rw [show Jai l=l.Coeffs.length from rfl] at this
  unfold J5n at hw;omega
 unfold J5n at hw
 refine J03 Tryz.func175 a175_ok rfl (by simp [a175]) ?_
 simp [a175,J0x]
 refine J0o [1,2,3] 4 x.Rows.length (fun i s h m=>2<m∧h 0=some ⟨true,2,[J0x x]⟩∧h 1=some ⟨true,2,[[.int .i64 0,.nil 2]]⟩∧∃ v,h 2=some ⟨true,2,[[.int .i64 x.N,v]]⟩∧J3c 2 2 ((x.Rows.take i).map J08) v h m) (by unfold LIM;omega) (by simp)
  ⟨by simp,by simp [J0x],by simp,.nil 2,by simp,.inl (by simp)⟩ ?_ ?_
 ·rintro i st h m R hi hg hk s4 hw' ⟨hm,e0,e1,v,e2,B⟩ hR _ _
  simp at hk
  have hcl:=hcl _ (List.getElem_mem hi)
  refine J0b (J0i [1,2,3,4] (fun s=>s 12 = .bool true) (by simp [hk,s4,hi,e0,J0x]) ?_)
  intro st1 hk1 s12
  simp at hk1
  refine J29 s12 (J0b (J1c ?_))
  have ne:¬0=m∧¬1=m∧¬2=m∧¬m=2∧¬m=1∧¬m=0∧¬m+1=2∧¬m=m+1∧¬m+1=m:=by omega
  have fr:∀ id,id<m→¬id=m∧¬id=m+1:=by intro id _;omega
  simp [hk1,hk,s4,hi,e0,e2,J0x]
  first|refine J00 (J2k (x.Rows[i]'hi) hcl) (by first|simp;done|rfl) ?_|refine J02 (J2k (x.Rows[i]'hi) hcl) (by first|simp;done|rfl) ?_
  rintro r rfl
  simp [J08,e2,ne,hk1,hk]
  refine J2m (rows:=(x.Rows.take i).map J08) (rows2:=[[.int .i64 (x.Rows[i]).Const,.us 1 (J0k (x.Rows[i]).Coeffs)]]) (B.keep (n':=m+1+1) (by omega) fun id _ hid _=>by simp [fr id hid]) (by simp) (fun l e=>by have:=(B.lt e).2.1;omega) (by omega) (by simp;unfold LIM;omega) ?_
  intro h1 f1 f2
  have bx:∀ id z rows,id<m→h id=some ⟨true,z,rows⟩→h1 id=h id:=by
   intro id z rows h1' h3'
   rw [f2 id (by omega) (by omega) fun l e=>B.not_box h3' e];simp [fr id h1']
  have g0:=bx 0 _ _ (by omega) e0
  have g1:=bx 1 _ _ (by omega) e1
  have g2:=bx 2 _ _ (by omega) e2
  simp [g2,e2,s4,hw',hk1,hk]
  refine hR _ _ _ (by simp [hk1,hk]) (by simp) ⟨by omega,by simp [g0,e0],by simp [g1,e1],.ref (m+2) 0 (i+1),?_,.inr ⟨m+2,by omega,by omega,by simp;omega,?_⟩⟩
  ·simp;omega
  ·simp [ne,f1]
   have hi':i<(x.Rows.map J08).length:=by simpa using hi
   rw [List.take_succ_eq_append_getElem hi']
   simp [J08]
 ·rintro st h m R hk s4 ⟨hm,e0,e1,v,e2,B⟩ _ hX
  simp at hk
  rw [List.take_length] at B
  refine J0b (J0i [1,2,3] (fun s=>s 12 = .bool false) (by simp [hk,s4,e0,J0x]) ?_)
  intro st1 hk1 s12
  simp at hk1
  refine J23 s12 ?_
  refine hX _ _ _ _ ?_
  have cB:=B.cell
  simp [hk1,hk,e2,e1,-dt,-dtl,-J18,Jcl,cB]
  have B':J3c 2 2 (x.Rows.map J08) v (upd h 1 (some ⟨true,2,[[.int .i64 x.N,v]]⟩)) m:=B.keep (Nat.le_refl _) fun id hb hid e=>by
   have:¬id=1:=by omega
   simp [this]
  obtain ⟨h2,d1,_⟩:=B'.dt
  simp [d1,J1x]
def Jm9 (md:DModel) (l:DLin) (call:Int):DObligation:=⟨md.System,(J2s md l call).getD (J05 (-1) md.System.N)⟩
def Jjb (p:DProgram) (e:DEdge):DModel:=(J6i p e.Rule).getD J73
def Jdd (p:DProgram) (e:DEdge):List DLin:=((J0t p.Functions (toE p e)).getD fn0).Pre
def J8s (p:DProgram) (e:DEdge):List DObligation:=(Jdd p e).map fun l=>Jm9 (Jjb p e) l e.Call
def Jf5 (p:DProgram):List DObligation:=(J1w p).flatMap (J8s p)
theorem Jc5 (p:DProgram) (hp:J0f p≤1048576):(Jf5 p).length≤2097152:=by
 have h1:=Jar p hp
 have h2:∀ l:List DEdge,(∀ e∈l,(J8s p e).length≤2)→(l.flatMap (J8s p)).length≤2*l.length:=by
  intro l
  induction l with
  | nil=>intro _;simp
  | cons e l ih=>
   intro h
   have g1:=ih fun x hx=>h x (List.mem_cons_of_mem _ hx)
   have g2:=h e List.mem_cons_self
   simp only [List.flatMap_cons,List.length_append,List.length_cons]
   omega
 have h3:=h2 (J1w p) fun e he=>by
  have hpo:J2l p=true:=by
   unfold J1w at he
   split at he
   ·assumption
   ·cases he
  simp only [J8s,List.length_map,Jdd]
  cases hf:J0t p.Functions (toE p e) with
  | none=>simp [fn0]
  | some g=>exact (Jk2 hpo hf).2.2.2
 unfold Jf5;omega
def a273:AFn:= ⟨8,[.t 2],(.seq (.reg [⟨some 1,.boxv (.t 0),no⟩,⟨some 2,.mv (.k (.int .i64 0)),no⟩]) (.seq (.seq (.reg [⟨some 3,.fld 0 (.t 1),no⟩,⟨some 4,.ld false 1 (.t 3),no⟩]) (.cond (.t 4) (.seq (.reg [⟨some 5,.fld 1 (.t 1),no⟩,⟨some 6,.ld false 1 (.t 5),no⟩,⟨some 7,.len false (.t 6),no⟩,⟨some 2,.mv (.t 7),no⟩]) .ret) .skip)) (.seq (.reg [⟨some 2,.mv (.k (.int .i64 0)),no⟩]) .ret)))⟩
theorem a273_ok:J0a Tryz.prog Tryz.f273=some a273:=by kernel_rfl
def a192:AFn:= ⟨39,[.t 4],(.seq (.reg [⟨some 2,.boxv (.t 0),no⟩,⟨some 4,.mv (.k (.int .i64 0)),no⟩]) (.seq (.seq (.reg [⟨some 10,.mv (.t 1),no⟩]) (.blk 0 (.seq (.reg [⟨some 12,.bin .eql (.t 10) (.k (.int .i64 1)),no⟩,⟨some 11,.mv (.t 12),no⟩]) (.cond (.t 11) (.seq (.reg [⟨some 4,.mv (.k (.int .i64 1)),no⟩]) .ret) (.seq (.reg [⟨some 14,.bin .eql (.t 10) (.k (.int .i64 2)),no⟩,⟨some 13,.mv (.t 14),no⟩]) (.cond (.t 13) (.seq (.reg [⟨some 15,.fld 4 (.t 2),no⟩,⟨some 16,.ld true 3 (.t 15),no⟩,⟨some 17,.call (.k (.fn (.func 273) [] [])) [.t 16],no⟩,⟨some 5,.mv (.t 17),no⟩]) (.seq (.seq (.reg [⟨some 18,.fld 3 (.t 2),no⟩,⟨some 19,.ld false 1 (.t 18),no⟩,⟨some 20,.len false (.t 19),no⟩,⟨some 21,.mv (.k (.int .i64 0)),no⟩]) (.blk 1 (.loop (.seq (.reg [⟨some 22,.bin .lss (.t 21) (.t 20),no⟩]) (.seq (.cond (.t 22) .skip (.exit 1)) (.seq (.blk 2 (.seq (.reg [⟨some 23,.ixa 3 (.t 19) (.t 21),no⟩,⟨some 24,.ld true 3 (.t 23),no⟩,⟨some 7,.box [(.str []),(.str []),(.nil 3)],no⟩,⟨no,.st 3 (.t 7) (.t 24),no⟩]) (.seq (.reg [⟨some 25,.fld 2 (.t 7),no⟩,⟨some 26,.ld false 1 (.t 25),no⟩,⟨some 27,.len false (.t 26),no⟩,⟨some 28,.mv (.k (.int .i64 0)),no⟩]) (.blk 3 (.loop (.seq (.reg [⟨some 29,.bin .lss (.t 28) (.t 27),no⟩]) (.seq (.cond (.t 29) .skip (.exit 3)) (.seq (.blk 4 (.seq (.reg [⟨some 30,.ixa 3 (.t 26) (.t 28),no⟩,⟨some 31,.ld true 3 (.t 30),no⟩,⟨some 9,.box [(.bool false),(.nil 2),(.str [])],no⟩,⟨no,.st 3 (.t 9) (.t 31),no⟩]) (.reg [⟨some 32,.mv (.t 5),no⟩,⟨some 33,.ld true 3 (.t 9),no⟩,⟨some 34,.call (.k (.fn (.func 273) [] [])) [.t 33],no⟩,⟨some 35,.bin .add (.t 32) (.t 34),no⟩,⟨some 5,.mv (.t 35),no⟩]))) (.reg [⟨some 36,.bin .add (.t 28) (.k (.int .i64 1)),no⟩,⟨some 28,.mv (.t 36),no⟩]))))))))) (.reg [⟨some 37,.bin .add (.t 21) (.k (.int .i64 1)),no⟩,⟨some 21,.mv (.t 37),no⟩]))))))) (.seq (.reg [⟨some 38,.mv (.t 5),no⟩,⟨some 4,.mv (.t 38),no⟩]) .ret))) .skip)))))) (.seq (.reg [⟨some 4,.mv (.k (.int .i64 0)),no⟩]) .ret)))⟩
theorem a192_ok:J0a Tryz.prog Tryz.f192=some a192:=by kernel_rfl
def a187:AFn:= ⟨64,[.t 4],(.seq (.reg [⟨some 2,.boxv (.t 0),no⟩,⟨some 4,.mv (.k (.int .i64 0)),no⟩]) (.seq (.seq (.reg [⟨some 8,.mv (.t 1),no⟩]) (.blk 0 (.seq (.reg [⟨some 10,.bin .eql (.t 8) (.k (.int .i64 1)),no⟩,⟨some 9,.mv (.t 10),no⟩]) (.cond (.t 9) (.seq (.reg [⟨some 4,.mv (.k (.int .i64 1)),no⟩]) .ret) (.seq (.reg [⟨some 12,.bin .eql (.t 8) (.k (.int .i64 2)),no⟩,⟨some 11,.mv (.t 12),no⟩]) (.cond (.t 11) (.seq (.reg [⟨some 5,.mv (.k (.int .i64 0)),no⟩]) (.seq (.seq (.reg [⟨some 6,.mv (.k (.int .i64 0)),no⟩]) (.blk 1 (.loop (.seq (.seq (.reg [⟨some 13,.mv (.t 6),no⟩,⟨some 14,.fld 3 (.t 2),no⟩,⟨some 15,.ld false 1 (.t 14),no⟩,⟨some 16,.len false (.t 15),no⟩,⟨some 17,.bin .lss (.t 13) (.t 16),no⟩]) (.cond (.t 17) .skip (.exit 1))) (.seq (.blk 2 (.seq (.reg [⟨some 7,.mv (.k (.int .i64 0)),no⟩]) (.blk 3 (.loop (.seq (.seq (.reg [⟨some 20,.mv (.t 7),no⟩,⟨some 21,.fld 3 (.t 2),no⟩,⟨some 22,.ld false 1 (.t 21),no⟩,⟨some 23,.mv (.t 6),no⟩,⟨some 24,.ixa 3 (.t 22) (.t 23),no⟩,⟨some 25,.fld 2 (.t 24),no⟩,⟨some 26,.ld false 1 (.t 25),no⟩,⟨some 27,.len false (.t 26),no⟩,⟨some 28,.bin .lss (.t 20) (.t 27),no⟩]) (.cond (.t 28) .skip (.exit 3))) (.seq (.blk 4 (.seq (.reg [⟨some 31,.fld 3 (.t 2),no⟩,⟨some 32,.ld false 1 (.t 31),no⟩,⟨some 33,.mv (.t 6),no⟩,⟨some 34,.ixa 3 (.t 32) (.t 33),no⟩,⟨some 35,.fld 2 (.t 34),no⟩,⟨some 36,.ld false 1 (.t 35),no⟩,⟨some 37,.mv (.t 7),no⟩,⟨some 38,.ixa 3 (.t 36) (.t 37),no⟩,⟨some 39,.fld 0 (.t 38),no⟩,⟨some 40,.ld false 1 (.t 39),no⟩]) (.cond (.t 40) (.reg [⟨some 41,.mv (.t 5),no⟩,⟨some 42,.fld 3 (.t 2),no⟩,⟨some 43,.ld false 1 (.t 42),no⟩,⟨some 44,.mv (.t 6),no⟩,⟨some 45,.ixa 3 (.t 43) (.t 44),no⟩,⟨some 46,.fld 2 (.t 45),no⟩,⟨some 47,.ld false 1 (.t 46),no⟩,⟨some 48,.mv (.t 7),no⟩,⟨some 49,.ixa 3 (.t 47) (.t 48),no⟩,⟨some 50,.fld 1 (.t 49),no⟩,⟨some 51,.ld false 1 (.t 50),no⟩,⟨some 52,.len false (.t 51),no⟩,⟨some 53,.bin .add (.t 41) (.t 52),no⟩,⟨some 5,.mv (.t 53),no⟩]) .skip))) (.reg [⟨some 29,.mv (.t 7),no⟩,⟨some 30,.bin .add (.t 29) (.k (.int .i64 1)),no⟩,⟨some 7,.mv (.t 30),no⟩]))))))) (.reg [⟨some 18,.mv (.t 6),no⟩,⟨some 19,.bin .add (.t 18) (.k (.int .i64 1)),no⟩,⟨some 6,.mv (.t 19),no⟩])))))) (.seq (.seq (.reg [⟨some 54,.fld 4 (.t 2),no⟩,⟨some 55,.fld 0 (.t 54),no⟩,⟨some 56,.ld false 1 (.t 55),no⟩]) (.cond (.t 56) (.reg [⟨some 57,.mv (.t 5),no⟩,⟨some 58,.fld 4 (.t 2),no⟩,⟨some 59,.fld 1 (.t 58),no⟩,⟨some 60,.ld false 1 (.t 59),no⟩,⟨some 61,.len false (.t 60),no⟩,⟨some 62,.bin .add (.t 57) (.t 61),no⟩,⟨some 5,.mv (.t 62),no⟩]) .skip)) (.seq (.reg [⟨some 63,.mv (.t 5),no⟩,⟨some 4,.mv (.t 63),no⟩]) .ret)))) .skip)))))) (.seq (.reg [⟨some 4,.mv (.k (.int .i64 0)),no⟩]) .ret)))⟩
theorem a187_ok:J0a Tryz.prog Tryz.f187=some a187:=by kernel_rfl
def J5q (a:DArg):Nat:=if a.Lst then a.Heads.length else 0
def Jgz (c:DCall):Nat:=(c.Args.map J5q).sum
def J7k (r:DRule):Nat:=J5q r.Result+(r.Calls.map Jgz).sum
def J3y (r:DRule) (kind:Int):Int:=if kind=1 then 1 else if kind=2 then (J7k r:Int) else 0
theorem Ji3 (a:DArg):J5q a≤Ja1 a:=by
 unfold J5q Ja1 J66 wL;split <;> omega
theorem Jpd {α:Type}{f g:α→Nat}(h:∀ x,f x≤g x):∀ l:List α,(l.map f).sum≤(l.map g).sum
 | []=>Nat.le_refl _
 | x::l=>by have:=Jpd h l;have:=h x;simp only [List.map_cons,List.sum_cons];omega
theorem Jrb (c:DCall):Jgz c≤J53 c:=by
 have:=Jpd Ji3 c.Args
 unfold Jgz J53 Jc8 wL;omega
theorem Jcd (r:DRule):J7k r≤J39 r:=by
 have:=Jpd Jrb r.Calls
 have:=Ji3 r.Result
 unfold J7k J39 J6v wL;omega
theorem Jck (a:DArg):Holds Tryz.prog 273 [.agg (J0v a)] (fun r=>r=i64 (J5q a)):=by
 refine J03 Tryz.func273 a273_ok rfl (by simp [a273]) ?_
 simp [a273,J0v]
 unfold J5q
 cases a.Lst <;> simp
theorem Jfw (r:DRule) (kind:Int) (hw:J39 r≤1048576):Holds Tryz.prog 192 [.agg (J0c r),i64 kind] (fun x=>x=i64 (J3y r kind)):=by
 have hT:=Jcd r
 refine J03 Tryz.func192 a192_ok rfl (by simp [a192]) ?_
 simp [a192,J0c]
 unfold J3y
 by_cases h1:kind=1
 ·simp [h1]
 by_cases h2:kind=2
 case neg=>simp [h1,h2]
 simp [h2]
 first|refine J00 (Jck r.Result) (by first|simp [J0v];done|rfl) ?_|refine J02 (Jck r.Result) (by first|simp [J0v];done|rfl) ?_
 rintro r rfl
 simp
 intro hl
 refine Jgx [19,20] 21 r.Calls.length (fun i s _ _=>∃ acc:Nat,s 5=i64 acc∧acc+((r.Calls.map Jgz).drop i).sum=J7k r) hl (by simp) ⟨J5q r.Result,by simp,by simp [J7k]⟩ ?_ ?_
 ·rintro i s h n hi hg hk s21 hw ⟨acc,s5,hT1⟩
  simp at hk
  rw [List.drop_eq_getElem_cons (by simpa using hi),List.sum_cons,List.getElem_map] at hT1
  simp [hk,s21,hi,hg,J0s]
  intro hl2
  refine Jgx [19,20,21,26,27] 28 (r.Calls[i]).Args.length (fun j s _ _=>∃ acc:Nat,s 5=i64 acc∧acc+(((r.Calls[i]).Args.map J5q).drop j).sum+((r.Calls.map Jgz).drop (i+1)).sum=J7k r) hl2 (by simp) ⟨acc,by simp [s5],by rw [List.drop_zero];exact hT1 ▸ by unfold Jgz;omega⟩ ?_ ?_
  ·rintro j s2 h2 n2 hj hgj hk2 s28 hw2 ⟨acc2,s5b,hT2⟩
   simp at hk2
   rw [List.drop_eq_getElem_cons (by simpa using hj),List.sum_cons,List.getElem_map] at hT2
   simp [hk2,hk,s28,s21,hj,hgj,J0v,s5b]
   first|refine J00 (Jck _) (by simp [J0v]) ?_|refine J02 (Jck _) (by simp [J0v]) ?_|refine J00 (Jck _) rfl ?_|refine J02 (Jck _) rfl ?_
   rintro r rfl
   simp [hk2,hk,s28,s21,s5b,hw2]
   exact ⟨acc2+J5q (r.Calls[i].Args[j]),by rw [J1e (by omega)];rfl,by omega⟩
  ·rintro s2 h2 n2 hk2 s28 ⟨acc2,s5b,hT2⟩
   simp at hk2
   simp [hk2,hk,s28,s21,s5b,hw]
   exact ⟨acc2,rfl,by rw [List.drop_eq_nil_of_le (by simp)] at hT2;simpa using hT2⟩
 ·rintro s h n hk s21 ⟨acc,s5,hT1⟩
  simp at hk
  rw [List.drop_eq_nil_of_le (by simp)] at hT1
  simp at hT1
  simp [hk,s21,s5,hT1]
theorem Jew (r:DRule) (kind:Int) (hw:J39 r≤1048576):Holds Tryz.prog 187 [.agg (J0c r),i64 kind] (fun x=>x=i64 (J3y r kind)):=by
 have hT:=Jcd r
 refine J03 Tryz.func187 a187_ok rfl (by simp [a187]) ?_
 simp [a187,J0c]
 unfold J3y
 by_cases h1:kind=1
 ·simp [h1]
 by_cases h2:kind=2
 case neg=>simp [h1,h2]
 simp [h2]
 have hl:r.Calls.length≤LIM:=by have:=J27 J53 r.Calls;unfold J39 J6v at hw;unfold LIM;omega
 refine J3t [2] 6 r.Calls.length (fun i s=>∃ acc:Nat,s 5=i64 acc∧acc+((r.Calls.map Jgz).drop i).sum+J5q r.Result=J7k r) hl (by simp) ⟨0,by simp,by simp [J7k];omega⟩ ?_ ?_
 ·rintro i s h R hi hg hk s6 hw6 ⟨acc,s5,hT1⟩ hh hR _ _
  simp at hk hh
  rw [List.drop_eq_getElem_cons (by simpa using hi),List.sum_cons,List.getElem_map] at hT1
  simp [hk,s6,hi,hg,hh]
  intro _
  have hl2:(r.Calls[i]).Args.length≤LIM:=by
   have:=J27 Ja1 (r.Calls[i]).Args
   have:=J3d (w:=J53) (List.getElem_mem hi)
   unfold J39 J6v at hw
   rw [show J53 r.Calls[i]=(r.Calls[i]).Bind.length+(r.Calls[i]).Func.length+Jc8 (r.Calls[i]).Args from rfl] at this
   unfold Jc8 at this
   unfold LIM;omega
  refine J3t [2,6] 7 (r.Calls[i]).Args.length (fun j s=>∃ acc:Nat,s 5=i64 acc∧acc+(((r.Calls[i]).Args.map J5q).drop j).sum+((r.Calls.map Jgz).drop (i+1)).sum+J5q r.Result=J7k r) hl2 (by simp) ⟨acc,by simp [s5],by rw [List.drop_zero];exact hT1 ▸ by unfold Jgz;omega⟩ ?_ ?_
  ·rintro j s2 h2 R2 hj hgj hk2 s7 hw2 ⟨acc2,s5b,hT2⟩ hh2 hR2 _ _
   simp at hk2
   simp [hh] at hh2
   rw [List.drop_eq_getElem_cons (by simpa using hj),List.sum_cons,List.getElem_map] at hT2
   simp [hk2,hk,s7,s6,hi,hg,hj,hgj,s5b,hh2,hw2]
   intro _
   refine ⟨fun hL => ?_,fun hL => ?_⟩
   ·have e:J5q (r.Calls[i].Args[j])=(r.Calls[i].Args[j]).Heads.length:=by simp [J5q,hL]
    rw [e] at hT2
    intro _
    refine hR2 _ (by simp [hk2,hk,s6]) (by simp) ⟨acc2+(r.Calls[i].Args[j]).Heads.length,?_,by omega⟩
    simp
    rw [J1e (by omega)]
   ·exact hR2 _ (by simp [hk2,hk,s6]) (by simp) ⟨acc2,by simp [s5b],by simpa [J5q,hL] using hT2⟩
  ·rintro s2 h2 R2 hk2 s7 ⟨acc2,s5b,hT2⟩ hh2 _ hX
   simp at hk2
   simp [hh] at hh2
   simp [hk2,hk,s7,s6,s5b,hi,hg,hw6,hh2]
   intro _
   refine hX _ _ ?_
   simp [hk2,hk,s7,s6,s5b,hi,hg,hw6]
   exact hR _ (by simp [hk2,hk]) (by simp) ⟨acc2,by simp [s5b],by rw [List.drop_eq_nil_of_le (by simp)] at hT2;simpa using hT2⟩
 ·rintro s h R hk s6 ⟨acc,s5,hT1⟩ hh _ hX
  simp at hk hh
  rw [List.drop_eq_nil_of_le (by simp)] at hT1
  simp at hT1
  simp [hk,s6,s5,hh]
  intro _
  refine hX _ _ ?_
  simp [hk,s5]
  refine ⟨fun hL => ?_,fun hL => ?_⟩
  ·have e:J5q r.Result=r.Result.Heads.length:=by simp [J5q,hL]
   intro _
   rw [J1e (by omega)];omega
  ·simp [J5q,hL] at hT1;rw [hT1]
def a190:AFn:= ⟨5,[.t 2],(.seq (.reg [⟨some 2,.mv (.k (.int .i64 0)),no⟩]) (.seq (.seq (.reg [⟨some 3,.mv (.t 0),no⟩,⟨some 4,.bin .eql (.t 3) (.k (.int .i64 1)),no⟩]) (.cond (.t 4) (.seq (.reg [⟨some 2,.mv (.k (.int .i64 1)),no⟩]) .ret) .skip)) (.seq (.reg [⟨some 2,.mv (.k (.int .i64 0)),no⟩]) .ret)))⟩
theorem a190_ok:J0a Tryz.prog Tryz.f190=some a190:=by kernel_rfl
def a103:AFn:= ⟨31,[.t 4],(.seq (.reg [⟨some 2,.boxv (.t 0),no⟩,⟨some 4,.mv (.k (.bool false)),no⟩]) (.seq (.seq (.reg [⟨some 7,.mv (.t 1),no⟩,⟨some 8,.len false (.t 7),no⟩,⟨some 9,.fld 0 (.t 2),no⟩,⟨some 10,.ld false 1 (.t 9),no⟩,⟨some 11,.len false (.t 10),no⟩,⟨some 12,.bin .neq (.t 8) (.t 11),no⟩]) (.cond (.t 12) (.seq (.reg [⟨some 4,.mv (.k (.bool false)),no⟩]) .ret) .skip)) (.seq (.seq (.reg [⟨some 13,.mv (.t 1),no⟩,⟨some 14,.len false (.t 13),no⟩,⟨some 15,.mv (.k (.int .i64 0)),no⟩]) (.blk 0 (.loop (.seq (.reg [⟨some 16,.bin .lss (.t 15) (.t 14),no⟩]) (.seq (.cond (.t 16) .skip (.exit 0)) (.seq (.blk 1 (.seq (.reg [⟨some 17,.mv (.t 15),no⟩,⟨some 18,.ixa 2 (.t 13) (.t 15),no⟩,⟨some 19,.ld true 2 (.t 18),no⟩,⟨some 6,.box [(.int .i64 0),(.nil 1)],no⟩,⟨some 5,.mv (.t 17),no⟩,⟨no,.st 2 (.t 6) (.t 19),no⟩]) (.seq (.draw (.op ⟨some 20,.ld true 2 (.t 6),no⟩ (.op ⟨some 21,.fld 0 (.t 2),no⟩ (.op ⟨some 22,.ld false 1 (.t 21),no⟩ (.op ⟨some 23,.mv (.t 5),no⟩ (.op ⟨some 24,.ixa 4 (.t 22) (.t 23),no⟩ (.op ⟨some 25,.fld 1 (.t 24),no⟩ (.op ⟨some 26,.ld false 1 (.t 25),no⟩ (.op ⟨some 27,.len false (.t 26),no⟩ (.op ⟨some 28,.call (.k (.fn (.func 146) [] [])) [.t 20,.t 27],no⟩ (.op ⟨some 29,.un .not (.t 28),no⟩ .fin))))))))))) (.cond (.t 29) (.seq (.reg [⟨some 4,.mv (.k (.bool false)),no⟩]) .ret) .skip)))) (.reg [⟨some 30,.bin .add (.t 15) (.k (.int .i64 1)),no⟩,⟨some 15,.mv (.t 30),no⟩]))))))) (.seq (.reg [⟨some 4,.mv (.k (.bool true)),no⟩]) .ret))))⟩
theorem a103_ok:J0a Tryz.prog Tryz.f103=some a103:=by kernel_rfl
def J40 (kind:Int):Int:=if kind=1 then 1 else 0
def Jj3 (fs:List DFunction) (ls:List DLin):Bool:=decide (ls.length=fs.length)&&(ls.zip fs).all fun x=>J14 x.1 x.2.Params.length
def J2e (p:DProgram) (b:DBounds):Bool:=J2l p&&inR b.Kind 1 2&&Jj3 p.Functions b.Lins
def J5m (p:DProgram) (name:Str):DSystem:=(Jq2 p name).getD Jq8
def J77 (b:DBounds) (l:DLin):Option DLin:=J4b l (-(J40 b.Kind))
def Jwp (s:DSystem) (o:Option DLin):AV := .tup [.agg (J06 ⟨s,o.getD J1b⟩),.bool o.isSome]
theorem Jbo (k:Int):Holds Tryz.prog 190 [i64 k] (fun x=>x=i64 (J40 k)):=by
 refine J03 Tryz.func190 a190_ok rfl (by simp [a190]) ?_
 simp [a190]
 unfold J40
 split <;> simp [*]
theorem Jlp (p:DProgram) (ls:List DLin):Holds Tryz.prog 103 [.agg (J01 p),.sl 2 (ls.map J07)] (fun x=>x = .bool (Jj3 p.Functions ls)):=by
 refine J03 Tryz.func103 a103_ok rfl (by simp [a103]) ?_
 simp [a103,J01]
 unfold Jj3
 by_cases hl:ls.length=p.Functions.length
 case neg=>
  have hl':¬(ls.length:Int)=p.Functions.length:=by omega
  simp [hl,hl']
 simp [hl]
 intro hlm
 refine J0o [2,13,14] 15 ls.length (fun i s h n=>0<n∧h 0=some ⟨true,2,[J01 p]⟩∧((ls.drop i).zip (p.Functions.drop i)).all (fun x=>J14 x.1 x.2.Params.length)=(ls.zip p.Functions).all (fun x=>J14 x.1 x.2.Params.length)) (by omega) (by simp) ⟨by simp,by simp [J01],rfl⟩ ?_ ?_
 ·rintro i s h n R hi hg hk s15 hw ⟨hn,e0,hJ⟩ hR hret _
  have hi':i<p.Functions.length:=by omega
  simp at hk
  rw [List.drop_eq_getElem_cons hi,List.drop_eq_getElem_cons hi',List.zip_cons_cons,List.all_cons] at hJ
  have hn':¬0=n:=by omega
  simp [hk,s15,hi,hi',hg,hw,e0,hn',J07,J01,J04]
  first|refine J00 (J0y (ls[i]'hi) (p.Functions[i]'hi').Params.length) (by first|simp [J07];done|rfl) ?_|refine J02 (J0y (ls[i]'hi) (p.Functions[i]'hi').Params.length) (by first|simp [J07];done|rfl) ?_
  rintro r rfl
  cases h0:J14 ls[i] (p.Functions[i]).Params.length
  ·rw [h0] at hJ
   have hJ:(ls.zip p.Functions).all (fun x=>J14 x.1 x.2.Params.length)=false:=by rw [←hJ];rfl
   simp
   refine hret _ _ _ ?_
   simp [hJ]
  ·rw [h0,Bool.true_and] at hJ
   simp [hk,s15,hi,hg,hw]
   exact hR _ _ _ (by simp [hk]) (by simp) ⟨by omega,by simp [hn',e0,J01],hJ⟩
 ·rintro s h n R hk s15 ⟨hn,e0,hJ⟩ hret hX
  simp at hk
  rw [List.drop_eq_nil_of_le (Nat.le_refl _)] at hJ
  simp [hk,s15,hl]
  refine hX _ _ _ _ ?_
  rw [←hJ]
  simp
def fo0:AC:=(.reg [⟨some 3,.boxv (.t 0),no⟩,⟨some 4,.boxv (.t 1),no⟩,⟨some 6,.box [(.int .i64 0),(.nil 2),(.int .i64 0),(.nil 1)],no⟩,⟨some 7,.mv (.k (.bool false)),no⟩])
def fo1:AC:=(.draw (.op ⟨some 13,.ld true 2 (.t 3),no⟩ (.op ⟨some 14,.fld 0 (.t 3),no⟩ (.op ⟨some 15,.ld false 1 (.t 14),no⟩ (.op ⟨some 16,.mv (.t 2),no⟩ (.op ⟨some 17,.ixa 4 (.t 15) (.t 16),no⟩ (.op ⟨some 18,.fld 0 (.t 17),no⟩ (.op ⟨some 19,.ld false 1 (.t 18),no⟩ (.both (.op ⟨some 20,.call (.k (.fn (.func 188) [] [])) [.t 13,.t 19],no⟩ (.op ⟨some 12,.mv (.t 20),no⟩ (.op ⟨some 21,.ext (.t 12) 0,no⟩ (.op ⟨some 22,.ext (.t 12) 1,no⟩ (.op ⟨some 8,.box [(.int .i64 0),(.nil 2)],no⟩ (.hop ⟨no,.st 2 (.t 8) (.t 21),no⟩ [] (.op ⟨some 9,.mv (.t 22),no⟩ .fin))))))) (.op ⟨some 8,.box [(.int .i64 0),(.nil 2)],no⟩ (.op ⟨some 20,.call (.k (.fn (.func 188) [] [])) [.t 13,.t 19],no⟩ (.op ⟨some 12,.mv (.t 20),no⟩ (.op ⟨some 21,.ext (.t 12) 0,no⟩ (.op ⟨some 22,.ext (.t 12) 1,no⟩ (.hop ⟨no,.st 2 (.t 8) (.t 21),no⟩ [] (.op ⟨some 9,.mv (.t 22),no⟩ .fin))))))))))))))))
def fo2:AC:=(.draw (.op ⟨some 24,.fld 1 (.t 4),no⟩ (.op ⟨some 25,.ld false 1 (.t 24),no⟩ (.op ⟨some 26,.mv (.t 2),no⟩ (.op ⟨some 27,.ixa 2 (.t 25) (.t 26),no⟩ (.op ⟨some 28,.ld true 2 (.t 27),no⟩ (.op ⟨some 29,.fld 0 (.t 4),no⟩ (.op ⟨some 30,.ld false 1 (.t 29),no⟩ (.both (.op ⟨some 31,.call (.k (.fn (.func 190) [] [])) [.t 30],no⟩ (.op ⟨some 32,.un .neg (.t 31),no⟩ (.both (.op ⟨some 33,.call (.k (.fn (.func 189) [] [])) [.t 28,.t 32],no⟩ (.op ⟨some 23,.mv (.t 33),no⟩ (.op ⟨some 34,.ext (.t 23) 0,no⟩ (.op ⟨some 35,.ext (.t 23) 1,no⟩ (.op ⟨some 10,.box [(.int .i64 0),(.nil 1)],no⟩ (.hop ⟨no,.st 2 (.t 10) (.t 34),no⟩ [] (.op ⟨some 11,.mv (.t 35),no⟩ .fin))))))) (.op ⟨some 10,.box [(.int .i64 0),(.nil 1)],no⟩ (.op ⟨some 33,.call (.k (.fn (.func 189) [] [])) [.t 28,.t 32],no⟩ (.op ⟨some 23,.mv (.t 33),no⟩ (.op ⟨some 34,.ext (.t 23) 0,no⟩ (.op ⟨some 35,.ext (.t 23) 1,no⟩ (.hop ⟨no,.st 2 (.t 10) (.t 34),no⟩ [] (.op ⟨some 11,.mv (.t 35),no⟩ .fin)))))))))) (.op ⟨some 10,.box [(.int .i64 0),(.nil 1)],no⟩ (.op ⟨some 31,.call (.k (.fn (.func 190) [] [])) [.t 30],no⟩ (.op ⟨some 32,.un .neg (.t 31),no⟩ (.op ⟨some 33,.call (.k (.fn (.func 189) [] [])) [.t 28,.t 32],no⟩ (.op ⟨some 23,.mv (.t 33),no⟩ (.op ⟨some 34,.ext (.t 23) 0,no⟩ (.op ⟨some 35,.ext (.t 23) 1,no⟩ (.hop ⟨no,.st 2 (.t 10) (.t 34),no⟩ [] (.op ⟨some 11,.mv (.t 35),no⟩ .fin))))))))))))))))))
def fo3:AC:=(.reg [⟨some 36,.ld true 2 (.t 8),no⟩,⟨some 37,.ld true 2 (.t 10),no⟩,⟨some 38,.build [(.int .i64 0),(.nil 2),(.int .i64 0),(.nil 1)] [(0,(2,(.t 36))),(2,(2,(.t 37)))],no⟩,⟨some 39,.mv (.t 11),no⟩,⟨no,.st 4 (.t 6) (.t 38),no⟩,⟨some 7,.mv (.t 39),no⟩])
def a104:AFn:=⟨40,[(.c 6 true 4),.t 7],(.seq fo0 (.seq fo1 (.seq fo2 (.seq fo3 .ret))))⟩
theorem a104_ok:J0a Tryz.prog Tryz.f104=some a104:=by kernel_rfl
section
variable {ks:List Kt}{s:Env}{h h':Heap}{n:Nat}{Q:Fin}
theorem Jwt {p:DProgram}(hp:J0f p≤1048576) {i:Nat}(hi:i<p.Functions.length) (s2:s 2 = .int .i64 i) (s3:s 3 = .ptr 0 0 0) (e0:h 0=some ⟨true,2,[J01 p]⟩)
 (hK:∀ s' h' n',(∀ j∈[2,3,4,6],s' j=s j)→(∀ id,id<n→h' id=h id)→(∃ k,s' 8 = .ptr k 0 0∧n≤k∧∃ q,n≤q∧k<n'∧q<n'∧h' k=some ⟨true,2,[[.int .i64 (J5m p (p.Functions[i]).Name).N,.ref q 0 (J5m p (p.Functions[i]).Name).Rows.length]]⟩∧h' q=some ⟨false,2,(J5m p (p.Functions[i]).Name).Rows.map J08⟩)→n≤n'→J2b Tryz.prog ks .normal s' h' n' Q):rC Tryz.prog fo1 ks s h n Q:=by
 have fr:∀ id,id<n→¬id=n∧¬id=n+1:=by intro id _;omega
 have ne:¬n=n+1∧¬n+1=n:=by omega
 simp [fo1,s2,s3,e0,hi,J01,J04]
 generalize hnm:(p.Functions[i]).Name=nm at *
 constructor
 ·skip
  first|refine J00 (J9z p hp nm) (by first|simp [J01];done|rfl) ?_|refine J02 (J9z p hp nm) (by first|simp [J01];done|rfl) ?_
  rintro r rfl
  unfold J7t
  rw [show (Jq2 p nm).getD Jq8=J5m p nm from rfl]
  generalize J5m p nm=S at *
  simp [J1x,ne]
  exact hK _ _ _ (by simp) (fun id hid=>by simp [fr id hid]) ⟨n+1,by simp,by omega,n,by omega,by omega,by omega,by simp,by simp [ne]⟩ (by omega)
 ·skip
  first|refine J00 (J9z p hp nm) (by first|simp [J01];done|rfl) ?_|refine J02 (J9z p hp nm) (by first|simp [J01];done|rfl) ?_
  rintro r rfl
  unfold J7t
  rw [show (Jq2 p nm).getD Jq8=J5m p nm from rfl]
  generalize J5m p nm=S at *
  simp [J1x,ne]
  exact hK _ _ _ (by simp) (fun id hid=>by simp [fr id hid]) ⟨n,by simp,by omega,n+1,by omega,by omega,by omega,by simp,by simp [ne]⟩ (by omega)
theorem Jv7 {b:DBounds}{i:Nat}(hb:i<b.Lins.length) (s2:s 2 = .int .i64 i) (s4:s 4 = .ptr 1 0 0) (e1:h 1=some ⟨true,2,[J0d b]⟩)
 (hK:∀ s' h' n',(∀ j∈[2,3,4,6,8],s' j=s j)→(∀ id,id<n→h' id=h id)→s' 11 = .bool (J77 b b.Lins[i]).isSome→(∃ k,s' 10 = .ptr k 0 0∧n≤k∧∃ q,n≤q∧k<n'∧q<n'∧h' k=some ⟨true,2,[[.int .i64 ((J77 b b.Lins[i]).getD J1b).Const,.ref q 0 ((J77 b b.Lins[i]).getD J1b).Coeffs.length]]⟩∧h' q=some ⟨false,1,J0k ((J77 b b.Lins[i]).getD J1b).Coeffs⟩)→n≤n'→J2b Tryz.prog ks .normal s' h' n' Q):rC Tryz.prog fo2 ks s h n Q:=by
 have fr:∀ id,id<n→¬id=n∧¬id=n+1:=by intro id _;omega
 have ne:¬n=n+1∧¬n+1=n:=by omega
 have hw:IntKind.i64.wrap (-(J40 b.Kind)) = -(J40 b.Kind):=J1e (by unfold J40;split <;> omega)
 simp [fo2,s2,s4,e1,hb,J0d]
 refine ⟨?_,?_⟩
 ·skip
  first|refine J00 (Jbo b.Kind) (by first|simp;done|rfl) ?_|refine J02 (Jbo b.Kind) (by first|simp;done|rfl) ?_
  rintro r rfl
  simp [hw]
  constructor
  ·skip
   first|refine J00 (J8v (b.Lins[i]'hb) (-(J40 b.Kind))) (by first|simp [J07];done|rfl) ?_|refine J02 (J8v (b.Lins[i]'hb) (-(J40 b.Kind))) (by first|simp [J07];done|rfl) ?_
   rintro r rfl
   rw [J0l,show J4b (b.Lins[i]'hb) (-(J40 b.Kind))=J77 b b.Lins[i] from rfl]
   generalize J77 b b.Lins[i]=T at *
   simp [J08,ne]
   exact hK _ _ _ (by simp) (fun id hid=>by simp [fr id hid]) (by simp) ⟨n+1,by simp,by omega,n,by omega,by omega,by omega,by simp,by simp [ne]⟩ (by omega)
  ·skip
   first|refine J00 (J8v (b.Lins[i]'hb) (-(J40 b.Kind))) (by first|simp [J07];done|rfl) ?_|refine J02 (J8v (b.Lins[i]'hb) (-(J40 b.Kind))) (by first|simp [J07];done|rfl) ?_
   rintro r rfl
   rw [J0l,show J4b (b.Lins[i]'hb) (-(J40 b.Kind))=J77 b b.Lins[i] from rfl]
   generalize J77 b b.Lins[i]=T at *
   simp [J08,ne]
   exact hK _ _ _ (by simp) (fun id hid=>by simp [fr id hid]) (by simp) ⟨n,by simp,by omega,n+1,by omega,by omega,by omega,by simp,by simp [ne]⟩ (by omega)
 ·skip
  first|refine J00 (Jbo b.Kind) (by first|simp;done|rfl) ?_|refine J02 (Jbo b.Kind) (by first|simp;done|rfl) ?_
  rintro r rfl
  simp [hw]
  first|refine J00 (J8v (b.Lins[i]'hb) (-(J40 b.Kind))) (by first|simp [J07];done|rfl) ?_|refine J02 (J8v (b.Lins[i]'hb) (-(J40 b.Kind))) (by first|simp [J07];done|rfl) ?_
  rintro r rfl
  rw [J0l,show J4b (b.Lins[i]'hb) (-(J40 b.Kind))=J77 b b.Lins[i] from rfl]
  generalize J77 b b.Lins[i]=T at *
  simp [J08,ne]
  exact hK _ _ _ (by simp) (fun id hid=>by simp [fr id hid]) (by simp) ⟨n,by simp,by omega,n+1,by omega,by omega,by omega,by simp,by simp [ne]⟩ (by omega)
end
theorem J6h (p:DProgram) (hp:J0f p≤1048576) (b:DBounds) {i:Nat}(hi:i<p.Functions.length) (hb:i<b.Lins.length):Holds Tryz.prog 104 [.agg (J01 p),.agg (J0d b),i64 i] (fun x=>x=Jwp (J5m p (p.Functions[i]).Name) (J77 b b.Lins[i])):=by
 refine J03 Tryz.func104 a104_ok rfl (by simp [a104]) ?_
 simp [a104,fo0]
 refine Jwt hp hi (by simp) (by simp) (by simp) ?_
 rintro st1 h1 n1 hk1 hf1 ⟨k8,s8,hk8,q8,w1,w2,w3,w4,w5⟩ hn1
 simp at hk1
 simp
 refine Jv7 (b:=b) (i:=i) hb (by simp [hk1]) (by simp [hk1]) (by rw [hf1 1 (by omega)];simp) ?_
 rintro st2 h2 n2 hk2 hf2 s11 ⟨k10,s10,hk10,q10,b1,b2,b3,b4,b5⟩ hn2
 simp at hk2
 have x8:=hf2 k8 w2
 have y8:=hf2 q8 w3
 rw [w4] at x8
 rw [w5] at y8
 have ne:¬q8=q10∧¬q10=q8∧¬q10=2∧¬q8=2:=by omega
 have e2:h2 2=some ⟨true,4,[[.int .i64 0,.nil 2,.int .i64 0,.nil 1]]⟩:=by rw [hf2 2 (by omega),hf1 2 (by omega)];simp
 unfold Jwp
 generalize J5m p (p.Functions[i]).Name=S at *
 generalize J77 b b.Lins[i]=T at *
 simp [fo3,hk2,hk1,s8,s10,s11,x8,y8,b4,b5,e2,ne,J06]
end Go.Proofs.YtoclolkigjbcgaaGreat

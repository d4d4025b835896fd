/- Contracts: PreObligations of the program. -/
import Derived.Test.YtoclolkigjbcgaaGreatKHSC
namespace Go.Proofs.YtoclolkigjbcgaaGreat
set_option maxRecDepth 40000
set_option maxHeartbeats 4000000
open Go Go.RowKit Go.Proofs
set_option linter.all false
theorem Jo4 {p:DProgram}(h1:J2l p=true) {i k:Nat}(hi:i<p.Rules.length):J5n (Jjb p ⟨i,k⟩).System.Rows≤1000:=by
 obtain ⟨f,hf,R⟩:=Jcb h1 (List.getElem_mem hi)
 have hg:p.Rules.getD (i:Int).toNat Jk8=p.Rules[i]:=by simp [hi]
 have hin:inR (i:Int) 0 ((p.Rules.length:Int) - 1)=true:=by simp [inR];omega
 have hfa:Jkv p p.Rules[i]=f:=by unfold Jkv;rw [hf];rfl
 have:Jjb p ⟨i,k⟩=J4v p.Rules[i] f:=by unfold Jjb J6i;simp only [h1,hin,hg,hfa,Bool.and_self,if_true,Option.getD_some]
 rw [this]
 obtain ⟨q1,q2,_⟩:=Jpk h1 R
 have:=Jr1 q2
 omega
theorem Jnk {p:DProgram}{j:Nat}(hj:j<(J1w p).length):J2l p=true:=by
 unfold J1w at hj
 split at hj
 ·assumption
 ·simp at hj
section
variable {ks:List Kt}{s:Env}{h h':Heap}{n:Nat}{Q:Fin}
theorem Jwi {md:DModel}{t:DLin}{acc:List DObligation}{v:AV}{k6 k14:Nat}(s3:s 3=v) (s6:s 6 = .ptr k6 0 0) (s14:s 14 = .ptr k14 0 0) (e6:h k6=some ⟨true,6,[J0p md]⟩) (L:J5s t k14 h n) (B:J3c 0 4 (acc.map J06) v h n) (hw:J5n md.System.Rows≤1048576) (hl:acc.length≤3000000)
 (hK:∀ s' h' n',(∀ j∈[1,2,5,6,17,18,19,43,44,45],s' j=s j)→n≤n'→(∀ id z rows,id<n→h id=some ⟨true,z,rows⟩→h' id=h id)→J3c 0 4 ((acc++[(⟨md.System,t⟩:DObligation)]).map J06) (s' 3) h' n'→J2b Tryz.prog ks .normal s' h' n' Q):rC Tryz.prog pod ks s h n Q:=by
 obtain ⟨q,hkn,hqn,hkb,hqb⟩:=L
 have ne:¬q=n∧¬n=q∧¬n=n+1∧¬n+1=n∧¬n+1=q∧¬q=n+1:=by omega
 have fr:∀ id,id<n→¬id=n∧¬id=n+1∧¬id=n+1+1:=by intro id _;omega
 have hqv:∀ l,v ≠ .ref q 0 l:=fun l e=>by have:=(B.lt e).2.2.1;rw [hqb] at this;simp at this
 simp [pod,s3,s6,s14,e6,hkb]
 first|refine J00 (Jcs md.System hw) (by first|simp;done|rfl) ?_|refine J02 (Jcs md.System hw) (by first|simp;done|rfl) ?_
 rintro r rfl
 simp [J1x,hqb,ne]
 refine J2m (rows:=acc.map J06) (rows2:=[[.int .i64 md.System.N,.us 2 (md.System.Rows.map J08),.int .i64 t.Const,.us 1 (J0k t.Coeffs)]]) (B.keep (n':=n+1+1) (by omega) fun id _ hid e => ?_) (by simp) (fun l e=>by have:=(B.lt e).2.1;omega) (by omega) (by simp;unfold LIM;omega) ?_
 ·have:¬id=q:=fun e'=>hqv _ (by rw [←e'];exact e)
  simp [fr id hid,this]
 intro h1 f1 f2
 simp
 refine hK _ _ _ (by simp) (by omega) ?_ ?_
 ·intro id z rows h1' h3'
  have:¬id=q:=by rintro rfl;rw [hqb] at h3';simp at h3'
  rw [f2 id (by omega) (by omega) fun l e=>B.not_box h3' e];simp [fr id h1',this]
 ·simp
  exact .inr ⟨n+2,by omega,by omega,by simp,by simp [f1,J06]⟩
theorem Jw1 {md:DModel}{e:DEdge}{g:DFunction}{acc0 T:List DObligation}{k5 k6 k10:Nat}{pr:List (List AV)}(s1:s 1 = .ptr 0 0 0) (s5:s 5 = .ptr k5 0 0) (s6:s 6 = .ptr k6 0 0) (s10:s 10 = .ptr k10 0 0) (hk5:k5<n) (hk6:k6<n) (hk0:0<n) (e0:h 0=some ⟨true,2,pr⟩) (e5:h k5=some ⟨true,2,[J2o e]⟩) (e6:h k6=some ⟨true,6,[J0p md]⟩) (e10:h k10=some ⟨true,4,[J04 g]⟩)
 (B:J3c 0 4 (acc0.map J06) (s 3) h n) (hw:J5n md.System.Rows≤1048576) (hT:acc0++g.Pre.map (fun l=>Jm9 md l e.Call)=T) (hTl:T.length≤2097152) (hgl:g.Pre.length≤1048576)
 (hK:∀ s' h' n',(∀ j∈[1,2,17,18,19],s' j=s j)→0<n'→h' 0=some ⟨true,2,pr⟩→J3c 0 4 (T.map J06) (s' 3) h' n'→J2b Tryz.prog ks .normal s' h' n' Q):rC Tryz.prog poi ks s h n Q:=by
 simp [poi,s10,e10,J04]
 intro _
 refine J0o [1,2,5,6,17,18,19,43,44] 45 g.Pre.length (fun i s h m=>k5<m∧k6<m∧0<m∧h 0=some ⟨true,2,pr⟩∧h k5=some ⟨true,2,[J2o e]⟩∧h k6=some ⟨true,6,[J0p md]⟩∧∃ acc,J3c 0 4 (acc.map J06) (s 3) h m∧acc++(g.Pre.drop i).map (fun l=>Jm9 md l e.Call)=T) (by unfold LIM;omega) (by simp)
  ⟨hk5,hk6,hk0,e0,e5,e6,acc0,by simpa using B,by simpa using hT⟩ ?_ ?_
 ·rintro i st h m R hi hg hk s45 hw' ⟨m5,m6,m0,e0,e5,e6,acc,B,hJ⟩ hR _ _
  simp at hk
  rw [List.drop_eq_getElem_cons hi,List.map_cons] at hJ
  have hal:=congrArg List.length hJ
  simp at hal
  refine J0i [1,2,3,5,6,17,18,19,43,44,45] (fun s=>s 46 = .bool true) (by simp [hk,s45,hi]) ?_
  intro st1 hk1 s46
  simp at hk1
  refine J3g s46 (J0b (J1c ?_))
  have fr:∀ id,id<m→¬id=m:=by intro id _;omega
  refine J15 [1,2,3,5,6,17,18,19,43,44,45] (fun s h2 n2=>n2=m+1∧s 13 = .ptr m 0 0∧h2 m=some ⟨true,2,[J07 (g.Pre[i]'hi)]⟩∧∀ id,id<m→h2 id=h id) ?_ ?_
  ·simp [hk1,hk,s45,hi]
   exact fun id hid=>by simp [fr id hid]
  rintro st2 h2 n2 hk2 ⟨rfl,s13,em,hfr2⟩
  simp at hk2
  generalize g.Pre[i]=l at *
  have c5:=hfr2 k5 m5
  have c6:=hfr2 k6 m6
  rw [e5] at c5
  rw [e6] at c6
  have x5:st2 5 = .ptr k5 0 0:=by simp [hk2,hk1,hk,s5]
  have x6:st2 6 = .ptr k6 0 0:=by simp [hk2,hk1,hk,s6]
  refine J15 [1,2,3,5,6,17,18,19,43,44,45] (fun s h3 n3=>m+1<n3∧s 15 = .bool (J2s md l e.Call).isSome∧(∃ k,s 14 = .ptr k 0 0∧m<k∧J5s ((J2s md l e.Call).getD J1b) k h3 n3)∧∀ id,id<m→h3 id=h id) ?_ ?_
  ·simp [x5,x6,s13,em,c5,c6,J2o]
   first|refine J00 (J4l md l e.Call) (by first|simp;done|rfl) ?_|refine J02 (J4l md l e.Call) (by first|simp;done|rfl) ?_
   rintro r rfl
   rw [J0l]
   generalize (J2s md l e.Call).getD J1b=t
   generalize (J2s md l e.Call).isSome=b
   simp [J08]
   refine ⟨⟨by omega,m+1,by omega,by omega,by simp,by simp⟩,fun id hid => ?_⟩
   have:¬id=m+1∧¬id=m+1+1:=by omega
   simp [this,hfr2 id hid]
  rintro st3 h3 n3 hk3 ⟨hn3,s15,⟨k14,s14,hk14,q,y1,y2,y3,y4⟩,hfr3⟩
  simp at hk3
  have z6:st3 6 = .ptr k6 0 0:=by rw [hk3.2.2.2.2.1,x6]
  have d6:=hfr3 k6 m6
  rw [e6] at d6
  refine J15 [1,2,3,5,6,14,17,18,19,43,44,45] (fun s h4 n4=>n3≤n4∧J5s ((J2s md l e.Call).getD (J05 (-1) md.System.N)) k14 h4 n4∧∀ id,id<m→h4 id=h id) ?_ ?_
  ·cases ht:J2s md l e.Call with
   | some t=>
    rw [ht] at s15 y3 y4
    simp [s15]
    exact ⟨⟨q,y1,y2,y3,y4⟩,hfr3⟩
   | none=>
    rw [ht] at s15
    simp only [Option.isSome_none] at s15
    have nk:¬k14=n3∧¬n3=k14:=by omega
    simp [s15,z6,d6,J0p]
    first|refine J00 (J1t (-1) md.System.N) (by first|simp;done|rfl) ?_|refine J02 (J1t (-1) md.System.N) (by first|simp;done|rfl) ?_
    rintro r rfl
    generalize J05 (-1) md.System.N=t
    simp [J08,s14,nk,y3]
    refine ⟨⟨n3,by omega,by omega,by simp,by simp [nk]⟩,fun id hid => ?_⟩
    have:¬id=k14∧¬id=n3:=by omega
    simp [this,hfr3 id hid]
  rintro st4 h4 n4 hk4 ⟨hn4,L4,hfr4⟩
  simp at hk4
  have B4:J3c 0 4 (acc.map J06) (st 3) h4 n4:=B.keep (by omega) fun id _ hid _=>hfr4 id hid
  refine Jwi (md:=md) (t:=(J2s md l e.Call).getD (J05 (-1) md.System.N)) (acc:=acc) (v:=st 3) (k6:=k6) (k14:=k14) (by simp [hk4,hk3,hk2,hk1]) (by simp [hk4,z6]) (by simp [hk4,s14]) (by rw [hfr4 k6 m6,e6]) L4 B4 hw (by omega) ?_
  intro st5 h5 n5 hk5 hn5 bx5 B5
  simp at hk5
  simp [hk5,hk4,hk3,hk2,hk1,s45,hw']
  have f0:=hfr4 0 m0
  have f5:=hfr4 k5 m5
  have f6:=hfr4 k6 m6
  rw [e0] at f0
  rw [e5] at f5
  rw [e6] at f6
  refine hR _ _ _ (by simp [hk5,hk4,hk3,hk2,hk1,hk]) (by simp) ⟨by omega,by omega,by omega,by rw [bx5 0 _ _ (by omega) f0,f0],by rw [bx5 k5 _ _ (by omega) f5,f5],by rw [bx5 k6 _ _ (by omega) f6,f6],acc++[Jm9 md l e.Call],?_,by simpa using hJ⟩
  simp
  simpa [Jm9] using B5
 ·rintro st h m R hk s45 ⟨m5,m6,m0,e0,e5,e6,acc,B,hJ⟩ _ hX
  simp at hk
  rw [List.drop_eq_nil_of_le (by omega)] at hJ
  simp at hJ
  subst hJ
  refine J0i [1,2,3,17,18,19] (fun s=>s 46 = .bool false) (by simp [hk,s45]) ?_
  intro st1 hk1 s46
  simp at hk1
  refine J37 s46 ?_
  refine hX _ _ _ _ ?_
  simp
  refine hK _ _ _ (by simp [hk1,hk]) m0 e0 ?_
  rw [hk1.2.2.1];exact B
end
theorem J8w (p:DProgram) (hp:J0f p≤1048576):Holds Tryz.prog 94 [.agg (J01 p)] (fun x=>x = .us 4 ((Jf5 p).map J06)):=by
 have hTl:=Jc5 p hp
 have hel:=Jar p hp
 refine J03 Tryz.func94 a94_ok rfl (by simp [a94]) ?_
 simp [a94,po0,po1,po2,J01]
 refine J7x (Jne p hp) (by simp [J01]) ?_
 rintro _ rfl
 simp
 intro _
 unfold Jf5 at hTl ⊢
 generalize hT:(J1w p).flatMap (J8s p)=T at *
 refine J0o [1,17,18] 19 (J1w p).length (fun i s h m=>0<m∧h 0=some ⟨true,2,[J01 p]⟩∧∃ acc,J3c 0 4 (acc.map J06) (s 3) h m∧acc++((J1w p).drop i).flatMap (J8s p)=T) (by unfold LIM;omega) (by simp) ⟨by simp,by simp [J01],[],.inl (by simp),by simpa using hT⟩ ?_ ?_
 ·rintro i st h m R hi hg hk s19 hw' ⟨m0,e0,acc,B,hJ⟩ hR _ _
  simp at hk
  have hpo:=Jnk hi
  rw [List.drop_eq_getElem_cons hi,List.flatMap_cons] at hJ
  obtain ⟨x,y,hx,hy,he,hf,ht0⟩:=Jg5 hi
  rw [←List.append_assoc] at hJ
  generalize hrest:List.flatMap (J8s p) (List.drop (i+1) (J1w p))=rest at hJ
  have hal:=congrArg List.length hJ
  simp only [List.length_append] at hal
  refine J0i [1,3,17,18,19] (fun s=>s 20 = .bool true) (by simp [hk,s19,hi]) ?_
  intro st1 hk1 s20
  simp at hk1
  refine J3g s20 (J0b (J1c ?_))
  have fr:∀ id,id<m→¬id=m∧¬id=m+1∧¬id=m+1+1:=by intro id _;omega
  have hedge:(J8s p (J1w p)[i])=((Jdd p ⟨x,y⟩).map fun l=>Jm9 (Jjb p ⟨x,y⟩) l (y:Int)):=by rw [he];rfl
  rw [hedge] at hJ hal
  have hpa:Jdd p ⟨x,y⟩=((J0t p.Functions ((p.Rules[x]).Calls[y]).Func).getD fn0).Pre:=by unfold Jdd;rw [ht0]
  have hgl:(Jdd p ⟨x,y⟩).length≤1048576:=by
   rw [hpa]
   cases hfn:J0t p.Functions ((p.Rules[x]).Calls[y]).Func with
   | none=>simp [fn0]
   | some g=>have:=(Jk2 hpo hfn).2.2.2;simp only [Option.getD_some];omega
  have hmsz:=Jo4 hpo (k:=y) hx
  refine J15 [1,2,3,17,18,19] (fun s h2 n2=>n2=m+1∧s 5 = .ptr m 0 0∧h2 m=some ⟨true,2,[J2o ⟨x,y⟩]⟩∧∀ id,id<m→h2 id=h id) ?_ ?_
  ·simp [hk1,hk,s19,hi,he]
   exact fun id hid=>by simp [fr id hid]
  rintro st2 h2 n2 hk2 ⟨rfl,s5,em,hfr2⟩
  simp at hk2
  have c0:=hfr2 0 m0
  rw [e0] at c0
  have x1:st2 1 = .ptr 0 0 0:=by simp [hk2,hk1,hk]
  refine J15 [1,2,3,5,17,18,19] (fun s h3 n3=>n3=m+1+1∧s 6 = .ptr (m+1) 0 0∧h3 (m+1)=some ⟨true,6,[J0p (Jjb p ⟨x,y⟩)]⟩∧h3 m=some ⟨true,2,[J2o ⟨x,y⟩]⟩∧∀ id,id<m→h3 id=h id) ?_ ?_
  ·simp [x1,c0,s5,em,J2o]
   refine J7x (Jdy p hp x) (by simp [J01]) ?_
   rintro _ rfl
   have hmd:(J6i p x).getD J73=Jjb p ⟨x,y⟩:=rfl
   unfold J51
   rw [hmd]
   generalize Jjb p ⟨x,y⟩=md
   simp
   refine ⟨by simp [em,J2o],fun id hid=>by simp [fr id hid,hfr2 id hid]⟩
  rintro st3 h3 n3 hk3 ⟨rfl,s6,e6,e5,hfr3⟩
  simp at hk3
  have c0':=hfr3 0 m0
  rw [e0] at c0'
  refine J0i [1,2,3,5,6,17,18,19] (fun s=>s 9 = .str ((p.Rules[x]).Calls[y]).Func) ?_ ?_
  ·simp [hk3,x1,c0',s5,e5]
   first|refine J00 (Jua p hx hy) (by first|simp [J01];done|rfl) ?_|refine J02 (Jua p hx hy) (by first|simp [J01];done|rfl) ?_
   rintro r rfl
   simp [hk3,s5]
  intro st4 hk4 s9
  simp at hk4
  refine J15 [1,2,3,5,6,17,18,19] (fun s h5 n5=>n5=m+1+1+1∧s 10 = .ptr (m+1+1) 0 0∧h5 (m+1+1)=some ⟨true,4,[J04 ((J0t p.Functions ((p.Rules[x]).Calls[y]).Func).getD fn0)]⟩∧∀ id,id<m+1+1→h5 id=h3 id) ?_ ?_
  ·simp [hk4,hk3,x1,c0',s9]
   refine J7x (J1v p ((p.Rules[x]).Calls[y]).Func hp) (by simp [J01]) ?_
   rintro _ rfl
   unfold J7z
   generalize (J0t p.Functions ((p.Rules[x]).Calls[y]).Func).getD fn0=g
   simp
   intro id hid
   have:¬id=m+1+1:=by omega
   simp [this]
  rintro st5 h5 n5 hk5 ⟨rfl,s10,e10,hfr5⟩
  simp at hk5
  refine Jw1 (md:=Jjb p ⟨x,y⟩) (e:=⟨x,y⟩) (g:=(J0t p.Functions ((p.Rules[x]).Calls[y]).Func).getD fn0) (acc0:=acc) (T:=acc++(Jdd p ⟨x,y⟩).map fun l=>Jm9 (Jjb p ⟨x,y⟩) l (y:Int)) (k5:=m) (k6:=m+1) (k10:=m+1+1) (pr:=[J01 p]) (by simp [hk5,hk4,hk3,x1]) (by simp [hk5,hk4,hk3,s5]) (by simp [hk5,hk4,s6]) s10 (by omega) (by omega) (by omega) (by rw [hfr5 0 (by omega),c0']) (by rw [hfr5 m (by omega),e5]) (by rw [hfr5 (m+1) (by omega),e6]) e10 ?_ (by omega) (by rw [hpa]) (by simp only [List.length_append];omega) (by rw [←hpa];exact hgl) ?_
  ·have:st5 3=st 3:=by simp [hk5,hk4,hk3,hk2,hk1]
   rw [this]
   exact B.keep (by omega) fun id _ hid _=>by rw [hfr5 id (by omega),hfr3 id hid]
  intro st6 h6 n6 hk6 hn6 e06 B6
  simp at hk6
  simp [hk6,hk5,hk4,hk3,hk2,hk1,s19,hw']
  refine hR _ _ _ (by simp [hk6,hk5,hk4,hk3,hk2,hk1,hk]) (by simp) ⟨by omega,e06,_,?_,by rw [hrest];exact hJ⟩
  simp only [Jmp (show ¬3=19 by omega),Jmp (show ¬3=72 by omega)]
  exact B6
 ·rintro st h m R hk s19 ⟨m0,e0,acc,B,hJ⟩ _ hX
  simp at hk
  rw [List.drop_eq_nil_of_le (by omega)] at hJ
  simp at hJ
  subst hJ
  refine J0i [3] (fun s=>s 20 = .bool false) (by simp [hk,s19]) ?_
  intro st1 hk1 s20
  simp at hk1
  refine J37 s20 ?_
  refine hX _ _ _ _ ?_
  obtain ⟨h2,d1,_⟩:=B.dt
  simp [po3,hk1,-dt,-dtl,d1]
def ux0:AC:=(.reg [⟨some 3,.boxv (.t 0),no⟩,⟨some 4,.boxv (.t 1),no⟩,⟨some 6,.box [(.int .i64 0),(.nil 2),(.int .i64 0),(.nil 1)],no⟩,⟨some 7,.mv (.k (.bool false)),no⟩])
def ux1:AC:=(.reg [⟨some 17,.fld 1 (.t 3),no⟩,⟨some 18,.ld false 1 (.t 17),no⟩,⟨some 19,.mv (.t 2),no⟩,⟨some 20,.ixa 7 (.t 18) (.t 19),no⟩,⟨some 21,.ld true 7 (.t 20),no⟩,⟨some 8,.box [(.str []),(.nil 4),(.nil 2),(.nil 3),(.bool false),(.nil 2),(.str [])],no⟩,⟨no,.st 7 (.t 8) (.t 21),no⟩])
def ux2:AC:=(.reg [⟨some 23,.ld true 2 (.t 3),no⟩,⟨some 24,.mv (.t 2),no⟩,⟨some 25,.call (.k (.fn (.func 126) [] [])) [.t 23,.t 24],no⟩,⟨some 22,.mv (.t 25),no⟩,⟨some 26,.ext (.t 22) 0,no⟩,⟨some 27,.ext (.t 22) 1,no⟩,⟨some 9,.box [(.int .i64 0),(.nil 2),(.nil 2),(.nil 1),(.int .i64 0),(.nil 1)],no⟩,⟨no,.st 6 (.t 9) (.t 26),no⟩,⟨some 10,.mv (.t 27),no⟩])
def ux3:AC:=(.draw (.op ⟨some 29,.fld 1 (.t 4),no⟩ (.op ⟨some 30,.ld false 1 (.t 29),no⟩ (.op ⟨some 31,.ld true 2 (.t 3),no⟩ (.op ⟨some 32,.fld 0 (.t 8),no⟩ (.op ⟨some 33,.ld false 1 (.t 32),no⟩ (.op ⟨some 37,.fld 2 (.t 9),no⟩ (.op ⟨some 38,.ld false 1 (.t 37),no⟩ (.op ⟨some 39,.fld 0 (.t 9),no⟩ (.op ⟨some 40,.fld 0 (.t 39),no⟩ (.op ⟨some 41,.ld false 1 (.t 40),no⟩ (.both (.op ⟨some 34,.call (.k (.fn (.func 84) [] [])) [.t 31,.t 33],no⟩ (.op ⟨some 35,.ixa 2 (.t 30) (.t 34),no⟩ (.op ⟨some 36,.ld true 2 (.t 35),no⟩ (.both (.op ⟨some 42,.call (.k (.fn (.func 191) [] [])) [.t 36,.t 38,.t 41],no⟩ (.op ⟨some 28,.mv (.t 42),no⟩ (.op ⟨some 43,.ext (.t 28) 0,no⟩ (.op ⟨some 44,.ext (.t 28) 1,no⟩ (.op ⟨some 11,.box [(.int .i64 0),(.nil 1)],no⟩ (.hop ⟨no,.st 2 (.t 11) (.t 43),no⟩ [] (.op ⟨some 12,.mv (.t 44),no⟩ .fin))))))) (.op ⟨some 11,.box [(.int .i64 0),(.nil 1)],no⟩ (.op ⟨some 42,.call (.k (.fn (.func 191) [] [])) [.t 36,.t 38,.t 41],no⟩ (.op ⟨some 28,.mv (.t 42),no⟩ (.op ⟨some 43,.ext (.t 28) 0,no⟩ (.op ⟨some 44,.ext (.t 28) 1,no⟩ (.hop ⟨no,.st 2 (.t 11) (.t 43),no⟩ [] (.op ⟨some 12,.mv (.t 44),no⟩ .fin))))))))))) (.op ⟨some 11,.box [(.int .i64 0),(.nil 1)],no⟩ (.op ⟨some 34,.call (.k (.fn (.func 84) [] [])) [.t 31,.t 33],no⟩ (.op ⟨some 35,.ixa 2 (.t 30) (.t 34),no⟩ (.op ⟨some 36,.ld true 2 (.t 35),no⟩ (.op ⟨some 42,.call (.k (.fn (.func 191) [] [])) [.t 36,.t 38,.t 41],no⟩ (.op ⟨some 28,.mv (.t 42),no⟩ (.op ⟨some 43,.ext (.t 28) 0,no⟩ (.op ⟨some 44,.ext (.t 28) 1,no⟩ (.hop ⟨no,.st 2 (.t 11) (.t 43),no⟩ [] (.op ⟨some 12,.mv (.t 44),no⟩ .fin))))))))))))))))))))))
def ux4:AC:=(.seq (.reg [⟨some 45,.mv (.t 12),no⟩]) (.cond (.t 45) (.draw (.op ⟨some 47,.ld true 2 (.t 11),no⟩ (.op ⟨some 48,.ld true 7 (.t 8),no⟩ (.op ⟨some 49,.fld 0 (.t 4),no⟩ (.op ⟨some 50,.ld false 1 (.t 49),no⟩ (.op ⟨some 51,.call (.k (.fn (.func 192) [] [])) [.t 48,.t 50],no⟩ (.op ⟨some 52,.un .neg (.t 51),no⟩ (.op ⟨some 53,.call (.k (.fn (.func 189) [] [])) [.t 47,.t 52],no⟩ (.op ⟨some 46,.mv (.t 53),no⟩ (.op ⟨some 54,.ext (.t 46) 0,no⟩ (.op ⟨some 55,.ext (.t 46) 1,no⟩ (.hop ⟨no,.st 2 (.t 11) (.t 54),no⟩ [] (.op ⟨some 12,.mv (.t 55),no⟩ .fin))))))))))))) .skip))
def K7d:AC:=(.draw (.op ⟨some 65,.ld true 6 (.t 9),no⟩ (.op ⟨some 66,.fld 1 (.t 4),no⟩ (.op ⟨some 67,.ld false 1 (.t 66),no⟩ (.op ⟨some 68,.ld true 2 (.t 3),no⟩ (.op ⟨some 69,.fld 1 (.t 14),no⟩ (.op ⟨some 70,.ld false 1 (.t 69),no⟩ (.op ⟨some 74,.mv (.t 13),no⟩ (.both (.op ⟨some 71,.call (.k (.fn (.func 84) [] [])) [.t 68,.t 70],no⟩ (.op ⟨some 72,.ixa 2 (.t 67) (.t 71),no⟩ (.op ⟨some 73,.ld true 2 (.t 72),no⟩ (.both (.op ⟨some 75,.call (.k (.fn (.func 177) [] [])) [.t 65,.t 73,.t 74],no⟩ (.op ⟨some 64,.mv (.t 75),no⟩ (.op ⟨some 76,.ext (.t 64) 0,no⟩ (.op ⟨some 77,.ext (.t 64) 1,no⟩ (.op ⟨some 15,.box [(.int .i64 0),(.nil 1)],no⟩ (.hop ⟨no,.st 2 (.t 15) (.t 76),no⟩ [] (.op ⟨some 16,.mv (.t 77),no⟩ .fin))))))) (.op ⟨some 15,.box [(.int .i64 0),(.nil 1)],no⟩ (.op ⟨some 75,.call (.k (.fn (.func 177) [] [])) [.t 65,.t 73,.t 74],no⟩ (.op ⟨some 64,.mv (.t 75),no⟩ (.op ⟨some 76,.ext (.t 64) 0,no⟩ (.op ⟨some 77,.ext (.t 64) 1,no⟩ (.hop ⟨no,.st 2 (.t 15) (.t 76),no⟩ [] (.op ⟨some 16,.mv (.t 77),no⟩ .fin))))))))))) (.op ⟨some 15,.box [(.int .i64 0),(.nil 1)],no⟩ (.op ⟨some 71,.call (.k (.fn (.func 84) [] [])) [.t 68,.t 70],no⟩ (.op ⟨some 72,.ixa 2 (.t 67) (.t 71),no⟩ (.op ⟨some 73,.ld true 2 (.t 72),no⟩ (.op ⟨some 75,.call (.k (.fn (.func 177) [] [])) [.t 65,.t 73,.t 74],no⟩ (.op ⟨some 64,.mv (.t 75),no⟩ (.op ⟨some 76,.ext (.t 64) 0,no⟩ (.op ⟨some 77,.ext (.t 64) 1,no⟩ (.hop ⟨no,.st 2 (.t 15) (.t 76),no⟩ [] (.op ⟨some 16,.mv (.t 77),no⟩ .fin)))))))))))))))))))
def K8w:AC:=(.reg [⟨some 86,.ld true 2 (.t 11),no⟩,⟨some 87,.ld true 2 (.t 15),no⟩,⟨some 88,.call (.k (.fn (.func 193) [] [])) [.t 86,(.k (.int .i64 (-1))),.t 87],no⟩,⟨some 85,.mv (.t 88),no⟩,⟨some 89,.ext (.t 85) 0,no⟩,⟨some 90,.ext (.t 85) 1,no⟩,⟨no,.st 2 (.t 11) (.t 89),no⟩,⟨some 12,.mv (.t 90),no⟩])
def ux5:AC:=(.seq (.reg [⟨some 56,.fld 3 (.t 8),no⟩,⟨some 57,.ld false 1 (.t 56),no⟩,⟨some 58,.len false (.t 57),no⟩,⟨some 59,.mv (.k (.int .i64 0)),no⟩]) (.blk 0 (.loop (.seq (.reg [⟨some 60,.bin .lss (.t 59) (.t 58),no⟩]) (.seq (.cond (.t 60) .skip (.exit 0)) (.seq (.blk 1 (.seq (.reg [⟨some 61,.mv (.t 59),no⟩,⟨some 62,.ixa 3 (.t 57) (.t 59),no⟩,⟨some 63,.ld true 3 (.t 62),no⟩,⟨some 14,.box [(.str []),(.str []),(.nil 3)],no⟩,⟨some 13,.mv (.t 61),no⟩,⟨no,.st 3 (.t 14) (.t 63),no⟩]) (.seq K7d (.seq (.seq (.reg [⟨some 78,.mv (.t 12),no⟩,⟨some 79,.un .not (.t 78),no⟩,⟨some 80,.mv (.t 79),no⟩,⟨some 81,.mv (.t 16),(some (80,false))⟩,⟨some 82,.un .not (.t 81),(some (80,false))⟩,⟨some 83,.pick (.t 80) (.k (.bool true)) (.t 82),no⟩]) (.cond (.t 83) (.seq (.reg [⟨some 84,.build [(.int .i64 0),(.nil 2),(.int .i64 0),(.nil 1)] [],no⟩,⟨no,.st 4 (.t 6) (.t 84),no⟩,⟨some 7,.mv (.k (.bool false)),no⟩]) .ret) .skip))  K8w)))) (.reg [⟨some 91,.bin .add (.t 59) (.k (.int .i64 1)),no⟩,⟨some 59,.mv (.t 91),no⟩])))))))
def ux6:AC:=(.reg [⟨some 92,.fld 0 (.t 9),no⟩,⟨some 93,.ld true 2 (.t 92),no⟩,⟨some 94,.ld true 2 (.t 11),no⟩,⟨some 95,.build [(.int .i64 0),(.nil 2),(.int .i64 0),(.nil 1)] [(0,(2,(.t 93))),(2,(2,(.t 94)))],no⟩,⟨some 96,.mv (.t 12),no⟩,⟨no,.st 4 (.t 6) (.t 95),no⟩,⟨some 7,.mv (.t 96),no⟩])
def a105:AFn:=⟨97,[(.c 6 true 4),.t 7],(.seq ux0 (.seq ux1 (.seq ux2 (.seq ux3 (.seq ux4 (.seq ux5 (.seq ux6 .ret)))))))⟩
theorem a105_ok:J0a Tryz.prog Tryz.f105=some a105:=by kernel_rfl
def J56 (p:DProgram) (b:DBounds) (name:Str):DLin:=b.Lins.getD (J1i (fun f=>f.Name==name) p.Functions 0).toNat J1b
def Jbz (p:DProgram) (b:DBounds) (md:DModel):Nat→List DCall→Option DLin→Option DLin
 | _,[],T=>T
 | j,c::cs,T=>Jbz p b md (j+1) cs (T.bind fun t=>(J2s md (J56 p b c.Func) j).bind fun x=>J0j t (-1) x)
theorem J80 {p:DProgram}{b:DBounds}{md:DModel} : ∀ {cs:List DCall}{j:Nat},Jbz p b md j cs Option.none=Option.none
 | [],_=>rfl
 | _::cs,j=>by simp only [Jbz,Option.bind_none];exact J80
def Jpv (p:DProgram) (b:DBounds) (md:DModel) (r:DRule):Option DLin:=(J22 (J56 p b r.Func) md.Params md.System.N).bind fun t=>J4b t (-(J3y r b.Kind))
def J54 (p:DProgram) (b:DBounds) (md:DModel) (r:DRule):Option DLin:=Jbz p b md 0 r.Calls (Jpv p b md r)
theorem Joz {p:DProgram}{name:Str}(h:(J0t p.Functions name).isSome=true):∃ j:Nat,j<p.Functions.length∧J1i (fun f=>f.Name==name) p.Functions 0=(j:Int):=by
 rcases J79 (p:=fun f:DFunction=>f.Name==name) (l:=p.Functions) (k:=0) with ⟨h1,_⟩|⟨j,hj,h1,_⟩
 ·unfold J0t at h;rw [h1] at h;simp at h
 ·exact ⟨j,hj,by simpa using h1⟩
theorem Jhr {p:DProgram}{r:DRule} : ∀ {l:List DCall}{k:Nat},J2c p r k l=true→∀ c∈l,(J0t p.Functions c.Func).isSome=true
 | [],_,_,_,h=>by cases h
 | c::l,k,h,x,hx=>by
  simp only [J2c,Bool.and_eq_true] at h
  rcases List.mem_cons.1 hx with rfl|hx
  ·have:=h.1;unfold J9g at this;simp only [Bool.and_eq_true] at this;exact this.1.1.1
  ·exact Jhr h.2 x hx
theorem Jpt {r:DRule}{k:Int}(hw:J39 r≤1048576):0≤J3y r k∧J3y r k≤1048576:=by
 have:J7k r≤J39 r:=Jcd r
 unfold J3y
 split
 ·omega
 ·split <;> omega
def J6j (md:DModel) (q:Nat) (h:Heap):Prop:=
 h (q+4)=some ⟨true,6,[[.int .i64 md.System.N,.ref q 0 md.System.Rows.length,.ref (q+1) 0 md.Params.length,.ref (q+2) 0 md.Args.length,.int .i64 md.Result.Const,.ref (q+3) 0 md.Result.Coeffs.length]]⟩ ∧
 h q=some ⟨false,2,md.System.Rows.map J08⟩∧h (q+1)=some ⟨false,2,md.Params.map J08⟩∧h (q+2)=some ⟨false,1,md.Args.map J24⟩∧h (q+3)=some ⟨false,1,J0k md.Result.Coeffs⟩
def J3x (l:DLin) (k q:Nat) (h:Heap):Prop:=h k=some ⟨true,2,[[.int .i64 l.Const,.ref q 0 l.Coeffs.length]]⟩∧h q=some ⟨false,1,J0k l.Coeffs⟩
section
variable {ks:List Kt}{s:Env}{h h':Heap}{n:Nat}{Q:Fin}
theorem Jvb {p:DProgram}(hp:J0f p≤1048576) {i:Int}(s2:s 2 = .int .i64 i) (s3:s 3 = .ptr 0 0 0) (e0:h 0=some ⟨true,2,[J01 p]⟩)
 (hK:∀ s' h',(∀ j∈[2,3,4,6,8],s' j=s j)→s' 9 = .ptr (n+4) 0 0→J6j ((J6i p i).getD J73) n h'→(∀ id,id<n→h' id=h id)→J2b Tryz.prog ks .normal s' h' (n+5) Q):rC Tryz.prog ux2 ks s h n Q:=by
 simp [ux2,s2,s3,e0]
 first|refine J00 (Jdy p hp i) (by first|simp [J01];done|rfl) ?_|refine J02 (Jdy p hp i) (by first|simp [J01];done|rfl) ?_
 rintro r rfl
 unfold J51
 generalize (J6i p i).getD J73=md at *
 simp [J1z]
 refine hK _ _ (by simp) (by simp) ?_ ?_
 ·have:¬n=n+1+1+1∧¬n=n+1+1:=by omega
  simp [J6j,this]
 ·intro id hid
  have:¬id=n∧¬id=n+1∧¬id=n+2∧¬id=n+3∧¬id=n+4:=by omega
  simp [this]
theorem Jvp {p:DProgram}{b:DBounds}{md:DModel}{r:DRule}{k8 q:Nat}(hf:(J0t p.Functions r.Func).isSome=true) (hb:b.Lins.length=p.Functions.length) (s3:s 3 = .ptr 0 0 0) (s4:s 4 = .ptr 1 0 0) (s8:s 8 = .ptr k8 0 0) (s9:s 9 = .ptr (q+4) 0 0) (e0:h 0=some ⟨true,2,[J01 p]⟩) (e1:h 1=some ⟨true,2,[J0d b]⟩) (e8:h k8=some ⟨true,7,[J0c r]⟩) (M:J6j md q h) (hq:q+4<n) (h1:1<n) (h8:k8<n)
 (hK:∀ s' h',(∀ j∈[2,3,4,6,8,9],s' j=s j)→s' 12 = .bool (J22 (J56 p b r.Func) md.Params md.System.N).isSome→(∃ k q,s' 11 = .ptr k 0 0∧n≤k∧n≤q∧k<n+2∧q<n+2∧J3x ((J22 (J56 p b r.Func) md.Params md.System.N).getD J1b) k q h')→(∀ id,id<n→h' id=h id)→J2b Tryz.prog ks .normal s' h' (n+2) Q):rC Tryz.prog ux3 ks s h n Q:=by
 obtain ⟨m1,m2,m3,m4,m5⟩:=M
 obtain ⟨j,hj,hji⟩:=Joz hf
 have hjb:j<b.Lins.length:=by omega
 have hl:J56 p b r.Func=b.Lins[j]:=by unfold J56;rw [hji];simp [hjb]
 have fr:∀ id,id<n→¬id=n∧¬id=n+1:=by intro id _;omega
 have ne:¬n=n+1∧¬n+1=n:=by omega
 have ne2:¬0=n∧¬1=n∧¬k8=n∧¬q=n∧¬q+1=n∧¬q+2=n∧¬q+3=n∧¬q+4=n:=by omega
 simp only [hl] at hK
 simp [ux3,s3,s4,s8,s9,e0,e1,e8,m1,J0d,J0c]
 constructor
 ·skip
  first|refine J00 (J2i p r.Func) (by first|simp [J01];done|rfl) ?_|refine J02 (J2i p r.Func) (by first|simp [J01];done|rfl) ?_
  rintro r rfl
  simp [hji,hjb]
  constructor
  ·skip
   first|refine J00 (J2a (b.Lins[j]'hjb) md.Params md.System.N) (by first|simp [m3,J07];done|rfl) ?_|refine J02 (J2a (b.Lins[j]'hjb) md.Params md.System.N) (by first|simp [m3,J07];done|rfl) ?_
   rintro r rfl
   rw [J0l]
   generalize J22 (b.Lins[j]'hjb) md.Params md.System.N=T at *
   simp [J08,ne]
   exact hK _ _ (by simp) (by simp) ⟨n+1,n,by simp,by omega,by omega,by omega,by omega,by simp [J3x,ne]⟩ fun id hid=>by simp [fr id hid]
  ·skip
   first|refine J00 (J2a (b.Lins[j]'hjb) md.Params md.System.N) (by first|simp [m3,J07,ne2];done|rfl) ?_|refine J02 (J2a (b.Lins[j]'hjb) md.Params md.System.N) (by first|simp [m3,J07,ne2];done|rfl) ?_
   rintro r rfl
   rw [J0l]
   generalize J22 (b.Lins[j]'hjb) md.Params md.System.N=T at *
   simp [J08,ne]
   exact hK _ _ (by simp) (by simp) ⟨n,n+1,by simp,by omega,by omega,by omega,by omega,by simp [J3x,ne]⟩ fun id hid=>by simp [fr id hid]
 ·skip
  first|refine J00 (J2i p r.Func) (by first|simp [J01];done|rfl) ?_|refine J02 (J2i p r.Func) (by first|simp [J01];done|rfl) ?_
  rintro r rfl
  simp [hji,hjb]
  first|refine J00 (J2a (b.Lins[j]'hjb) md.Params md.System.N) (by first|simp [m3,J07,ne2];done|rfl) ?_|refine J02 (J2a (b.Lins[j]'hjb) md.Params md.System.N) (by first|simp [m3,J07,ne2];done|rfl) ?_
  rintro r rfl
  rw [J0l]
  generalize J22 (b.Lins[j]'hjb) md.Params md.System.N=T at *
  simp [J08,ne]
  exact hK _ _ (by simp) (by simp) ⟨n,n+1,by simp,by omega,by omega,by omega,by omega,by simp [J3x,ne]⟩ fun id hid=>by simp [fr id hid]
theorem Jv4 {b:DBounds}{r:DRule}{T:Option DLin}{k8 k q:Nat}(hw:J39 r≤1048576) (s4:s 4 = .ptr 1 0 0) (s8:s 8 = .ptr k8 0 0) (s11:s 11 = .ptr k 0 0) (s12:s 12 = .bool T.isSome) (e1:h 1=some ⟨true,2,[J0d b]⟩) (e8:h k8=some ⟨true,7,[J0c r]⟩) (B:J3x (T.getD J1b) k q h) (hk:k<n) (hq:q<n)
 (hK:∀ s' h' n' q',(∀ j∈[2,3,4,6,8,9,11],s' j=s j)→s' 12 = .bool (T.bind fun t=>J4b t (-(J3y r b.Kind))).isSome→J3x ((T.bind fun t=>J4b t (-(J3y r b.Kind))).getD J1b) k q' h'→n≤n'→(q'=q∨n≤q')→q'<n'→(∀ id,id<n→id≠k→h' id=h id)→J2b Tryz.prog ks .normal s' h' n' Q):rC Tryz.prog ux4 ks s h n Q:=by
 obtain ⟨b1,b2⟩:=B
 have fr:∀ id,id<n→¬id=n:=by intro id _;omega
 have ne:¬k=n∧¬n=k:=by omega
 cases T with
 | none=>
  simp [ux4,s12]
  exact hK _ _ _ q (by simp) (by simp [s12]) ⟨by simpa using b1,by simpa using b2⟩ (by omega) (.inl rfl) hq fun id _ _=>rfl
 | some t=>
  simp at b1 b2
  simp only [Option.bind_some] at hK
  have hc:=Jpt (r:=r) (k:=b.Kind) hw
  have hwr:IntKind.i64.wrap (-(J3y r b.Kind)) = -(J3y r b.Kind):=J1e (by omega)
  simp [ux4,s12,s4,s8,s11,e1,e8,b1,J0d]
  first|refine J00 (Jfw r b.Kind hw) (by first|simp;done|rfl) ?_|refine J02 (Jfw r b.Kind hw) (by first|simp;done|rfl) ?_
  rintro r rfl
  simp [hwr]
  first|refine J00 (J8v t (-(J3y r b.Kind))) (by first|simp [b2,J07];done|rfl) ?_|refine J02 (J8v t (-(J3y r b.Kind))) (by first|simp [b2,J07];done|rfl) ?_
  rintro r rfl
  rw [J0l]
  generalize J4b t (-(J3y r b.Kind))=T at *
  simp [J08,ne,b1,s11]
  refine hK _ _ _ n (by simp) (by simp) ?_ (by omega) (.inr (by omega)) (by omega) fun id hid hne=>by simp [fr id hid,hne]
  simp [J3x,ne]
theorem Js7 {p:DProgram}{b:DBounds}{md:DModel}{c:DCall}{k14 q:Nat}{j:Int}(hf:(J0t p.Functions c.Func).isSome=true) (hb:b.Lins.length=p.Functions.length) (s3:s 3 = .ptr 0 0 0) (s4:s 4 = .ptr 1 0 0) (s14:s 14 = .ptr k14 0 0) (s13:s 13 = .int .i64 j) (s9:s 9 = .ptr (q+4) 0 0) (e0:h 0=some ⟨true,2,[J01 p]⟩) (e1:h 1=some ⟨true,2,[J0d b]⟩) (e14:h k14=some ⟨true,3,[J0s c]⟩) (M:J6j md q h) (hq:q+4<n) (h1:1<n) (h8:k14<n)
 (hK:∀ s' h',(∀ j∈[2,3,4,6,8,9,11,12,57,58,59],s' j=s j)→s' 16 = .bool (J2s md (J56 p b c.Func) j).isSome→(∃ k q,s' 15 = .ptr k 0 0∧n≤k∧n≤q∧k<n+2∧q<n+2∧J3x ((J2s md (J56 p b c.Func) j).getD J1b) k q h')→(∀ id,id<n→h' id=h id)→J2b Tryz.prog ks .normal s' h' (n+2) Q):rC Tryz.prog K7d ks s h n Q:=by
 obtain ⟨m1,m2,m3,m4,m5⟩:=M
 obtain ⟨i,hj,hji⟩:=Joz hf
 have hjb:i<b.Lins.length:=by omega
 have hl:J56 p b c.Func=b.Lins[i]:=by unfold J56;rw [hji];simp [hjb]
 have fr:∀ id,id<n→¬id=n∧¬id=n+1:=by intro id _;omega
 have ne:¬n=n+1∧¬n+1=n:=by omega
 have ne2:¬0=n∧¬1=n∧¬k14=n∧¬q=n∧¬q+1=n∧¬q+2=n∧¬q+3=n∧¬q+4=n:=by omega
 simp only [hl] at hK
 simp [K7d,s3,s4,s9,s13,s14,e0,e1,e14,m1,J0d,J0s]
 constructor
 ·skip
  first|refine J00 (J2i p c.Func) (by first|simp [J01];done|rfl) ?_|refine J02 (J2i p c.Func) (by first|simp [J01];done|rfl) ?_
  rintro r rfl
  simp [hji,hjb]
  constructor
  ·skip
   first|refine J00 (J4l md (b.Lins[i]'hjb) j) (by first|simp [m1,m2,m3,m4,m5,J07,J0p];done|rfl) ?_|refine J02 (J4l md (b.Lins[i]'hjb) j) (by first|simp [m1,m2,m3,m4,m5,J07,J0p];done|rfl) ?_
   rintro r rfl
   rw [J0l]
   generalize J2s md (b.Lins[i]'hjb) j=T at *
   simp [J08,ne]
   exact hK _ _ (by simp) (by simp) ⟨n+1,n,by simp,by omega,by omega,by omega,by omega,by simp [J3x,ne]⟩ fun id hid=>by simp [fr id hid]
  ·skip
   first|refine J00 (J4l md (b.Lins[i]'hjb) j) (by first|simp [m1,m2,m3,m4,m5,J07,J0p,ne2];done|rfl) ?_|refine J02 (J4l md (b.Lins[i]'hjb) j) (by first|simp [m1,m2,m3,m4,m5,J07,J0p,ne2];done|rfl) ?_
   rintro r rfl
   rw [J0l]
   generalize J2s md (b.Lins[i]'hjb) j=T at *
   simp [J08,ne]
   exact hK _ _ (by simp) (by simp) ⟨n,n+1,by simp,by omega,by omega,by omega,by omega,by simp [J3x,ne]⟩ fun id hid=>by simp [fr id hid]
 ·skip
  first|refine J00 (J2i p c.Func) (by first|simp [J01];done|rfl) ?_|refine J02 (J2i p c.Func) (by first|simp [J01];done|rfl) ?_
  rintro r rfl
  simp [hji,hjb]
  first|refine J00 (J4l md (b.Lins[i]'hjb) j) (by first|simp [m1,m2,m3,m4,m5,J07,J0p,ne2];done|rfl) ?_|refine J02 (J4l md (b.Lins[i]'hjb) j) (by first|simp [m1,m2,m3,m4,m5,J07,J0p,ne2];done|rfl) ?_
  rintro r rfl
  rw [J0l]
  generalize J2s md (b.Lins[i]'hjb) j=T at *
  simp [J08,ne]
  exact hK _ _ (by simp) (by simp) ⟨n,n+1,by simp,by omega,by omega,by omega,by omega,by simp [J3x,ne]⟩ fun id hid=>by simp [fr id hid]
theorem Jrn {t x:DLin}{k q k5 q5:Nat}(s11:s 11 = .ptr k 0 0) (s15:s 15 = .ptr k5 0 0) (B:J3x t k q h) (B5:J3x x k5 q5 h) (hk:k<n) (hq:q<n)
 (hK:∀ s' h',(∀ j∈[2,3,4,6,8,9,11,57,58,59],s' j=s j)→s' 12 = .bool (J0j t (-1) x).isSome→J3x ((J0j t (-1) x).getD J1b) k n h'→(∀ id,id<n→id≠k→h' id=h id)→J2b Tryz.prog ks .normal s' h' (n+1) Q):rC Tryz.prog K8w ks s h n Q:=by
 obtain ⟨b1,b2⟩:=B
 obtain ⟨b3,b4⟩:=B5
 have fr:∀ id,id<n→¬id=n:=by intro id _;omega
 have ne:¬k=n∧¬n=k:=by omega
 simp [K8w,s11,s15,b1,b3]
 first|refine J00 (J1r t (-1) x) (by first|simp [b2,b4,J07];done|rfl) ?_|refine J02 (J1r t (-1) x) (by first|simp [b2,b4,J07];done|rfl) ?_
 rintro r rfl
 rw [J0l]
 generalize J0j t (-1) x=T at *
 simp [J08,ne,b1,s11]
 refine hK _ _ (by simp) (by simp) ?_ fun id hid hne=>by simp [fr id hid,hne]
 simp [J3x,ne]
end
def J90 (md:DModel) (T:Option DLin) (x:AV):Prop:=∃ o:DObligation,x = .tup [.agg (J06 o),.bool T.isSome]∧∀ t,T=some t→o=⟨md.System,t⟩
theorem Jdf (p:DProgram) (hp:J0f p≤1048576) (b:DBounds) (hb:b.Lins.length=p.Functions.length) {i:Nat}(hi:i<p.Rules.length) (hf:(J0t p.Functions (p.Rules[i]).Func).isSome=true) (hfc:∀ c∈(p.Rules[i]).Calls,(J0t p.Functions c.Func).isSome=true) (hcl:(p.Rules[i]).Calls.length≤2) :
 Holds Tryz.prog 105 [.agg (J01 p),.agg (J0d b),i64 i] (J90 ((J6i p i).getD J73) (J54 p b ((J6i p i).getD J73) p.Rules[i])):=by
 have hwr:J39 p.Rules[i]≤1048576:=by
  have:=J3d (w:=J39) (List.getElem_mem hi)
  unfold J0f J7v at hp
  omega
 refine J03 Tryz.func105 a105_ok rfl (by simp [a105]) ?_
 simp [a105,ux0]
 rw [←Ja9]
 refine J15 [2,3,4,6] (fun s h2 n2=>n2=4∧s 8 = .ptr 3 0 0∧h2 0=some ⟨true,2,[J01 p]⟩∧h2 1=some ⟨true,2,[J0d b]⟩∧h2 2=some ⟨true,4,[[.int .i64 0,.nil 2,.int .i64 0,.nil 1]]⟩∧h2 3=some ⟨true,7,[J0c p.Rules[i]]⟩) ?_ ?_
 ·simp [ux1,J01,hi]
 rintro st1 h1 _ hk1 ⟨rfl,s8,e0,e1,e2,e3⟩
 simp at hk1
 generalize p.Rules[i]=r at *
 refine J0b (Jvb hp (i:=(i:Int)) (by simp [hk1]) (by simp [hk1]) e0 ?_)
 intro st2 h2 hk2 s9 M hf2
 simp at hk2
 generalize (J6i p i).getD J73=md at *
 have f0:=hf2 0 (by omega)
 have f1:=hf2 1 (by omega)
 have f2:=hf2 2 (by omega)
 have f3:=hf2 3 (by omega)
 rw [e0] at f0
 rw [e1] at f1
 rw [e2] at f2
 rw [e3] at f3
 refine J4p (J0b (Jvp (p:=p) (b:=b) (md:=md) (r:=r) (k8:=3) (q:=4) hf hb (by simp [hk2,hk1]) (by simp [hk2,hk1]) (by simp [hk2,s8]) (by simp [s9]) f0 f1 f3 M (by omega) (by omega) (by omega) ?_))
 rintro st3 h3 hk3 s12 ⟨k11,q11,s11,hk11,hq11,hk11',hq11',B3⟩ hf3
 simp at hk3
 have g1:=hf3 1 (by omega)
 have g3:=hf3 3 (by omega)
 rw [f1] at g1
 rw [f3] at g3
 refine J4p (J0b (Jv4 (b:=b) (r:=r) (T:=J22 (J56 p b r.Func) md.Params md.System.N) (k8:=3) (k:=k11) (q:=q11) hwr (by simp [hk3,hk2,hk1]) (by simp [hk3,hk2,s8]) s11 s12 g1 g3 B3 hk11' hq11' ?_))
 intro st4 h4 n4 q4 hk4 s12' B4 hn4 hq4 hq4' hf4
 simp at hk4
 have hr0:J54 p b md r=Jbz p b md 0 r.Calls ((J22 (J56 p b r.Func) md.Params md.System.N).bind fun t=>J4b t (-(J3y r b.Kind))):=rfl
 rw [hr0]
 clear hr0
 generalize ((J22 (J56 p b r.Func) md.Params md.System.N).bind fun t=>J4b t (-(J3y r b.Kind)))=T0 at *
 have low:∀ id,id<9→h4 id=h2 id:=fun id hid=>by rw [hf4 id (by omega) (by omega),hf3 id hid]
 obtain ⟨m1,m2,m3,m4,m5⟩:=M
 have M4:J6j md 4 h4:=⟨by rw [low 8 (by omega)];exact m1,by rw [low 4 (by omega)];exact m2,by rw [low 5 (by omega)];exact m3,by rw [low 6 (by omega)];exact m4,by rw [low 7 (by omega)];exact m5⟩
 clear m1 m2 m3 m4 m5
 have l0:=low 0 (by omega)
 have l1:=low 1 (by omega)
 have l2:=low 2 (by omega)
 have l3:=low 3 (by omega)
 rw [f0] at l0
 rw [f1] at l1
 rw [f2] at l2
 rw [f3] at l3
 have x8:st4 8 = .ptr 3 0 0:=by simp [hk4,hk3,hk2,s8]
 have x2:st4 2 = .int .i64 i:=by simp [hk4,hk3,hk2,hk1]
 have x3:st4 3 = .ptr 0 0 0:=by simp [hk4,hk3,hk2,hk1]
 have x4:st4 4 = .ptr 1 0 0:=by simp [hk4,hk3,hk2,hk1]
 have x6:st4 6 = .ptr 2 0 0:=by simp [hk4,hk3,hk2,hk1]
 have x9:st4 9 = .ptr 8 0 0:=by simp [hk4,hk3,s9]
 have x11:st4 11 = .ptr k11 0 0:=by simp [hk4,s11]
 clear hk4 hk3 hk2 hk1 hf4 hf3 hf2 low
 simp [ux5,x8,l3,J0c]
 intro _
 generalize hF:Jbz p b md 0 r.Calls T0=F at *
 refine J0o [3,4,6,8,9,11,57,58] 59 r.Calls.length (fun j s h m=>8<m∧k11<m∧h 0=some ⟨true,2,[J01 p]⟩∧h 1=some ⟨true,2,[J0d b]⟩∧h 2=some ⟨true,4,[[.int .i64 0,.nil 2,.int .i64 0,.nil 1]]⟩∧J6j md 4 h∧∃ T q,8<q∧q≠k11∧q<m∧s 12 = .bool T.isSome∧J3x (T.getD J1b) k11 q h∧Jbz p b md j (r.Calls.drop j) T=F) (by unfold LIM;omega) (by simp) ⟨by omega,by omega,l0,l1,l2,M4,T0,q4,by omega,?_,by omega,by simp [s12'],B4,by simpa using hF⟩ ?_ ?_
 ·rintro rfl
  have:=B4.1
  rw [B4.2] at this
  simp at this
 ·rintro j st h m R hj hg hk s59 hw' ⟨m8,mk,e0,e1,e2,M,T,q,hq8,hqk,hqm,s12,B,hJ⟩ hR hret _
  simp at hk
  rw [List.drop_eq_getElem_cons hj] at hJ
  simp only [Jbz] at hJ
  have hfj:=hfc _ (List.getElem_mem hj)
  refine J0i [3,4,6,8,9,11,12,57,58,59] (fun s=>s 60 = .bool true) (by simp [hk,s59,hj]) ?_
  intro st1 hk1 s60
  simp at hk1
  refine J3g s60 (J0b (J1c ?_))
  have fr:∀ id,id<m→¬id=m:=by intro id _;omega
  refine J15 [3,4,6,8,9,11,12,57,58,59] (fun s h2 n2=>n2=m+1∧s 13 = .int .i64 j∧s 14 = .ptr m 0 0∧h2 m=some ⟨true,3,[J0s (r.Calls[j]'hj)]⟩∧∀ id,id<m→h2 id=h id) ?_ ?_
  ·simp [hk1,hk,s59,hj]
   exact fun id hid=>by simp [fr id hid]
  rintro st2 h2 n2 hk2 ⟨rfl,s13,s14,em,hfr2⟩
  simp at hk2
  generalize r.Calls[j]=c at *
  obtain ⟨m1,m2,m3,m4,m5⟩:=M
  refine J0b (Js7 (p:=p) (b:=b) (md:=md) (c:=c) (k14:=m) (q:=4) (j:=(j:Int)) hfj hb (by simp [hk2,hk1,hk,x3]) (by simp [hk2,hk1,hk,x4]) s14 s13 (by simp [hk2,hk1,hk,x9]) (by rw [hfr2 0 (by omega),e0]) (by rw [hfr2 1 (by omega),e1]) em ⟨by rw [hfr2 8 (by omega)];exact m1,by rw [hfr2 4 (by omega)];exact m2,by rw [hfr2 5 (by omega)];exact m3,by rw [hfr2 6 (by omega)];exact m4,by rw [hfr2 7 (by omega)];exact m5⟩ (by omega) (by omega) (by omega) ?_)
  rintro st3 h3 hk3 s16 ⟨k15,q15,s15,hk15,hq15,hk15',hq15',B15⟩ hfr3
  simp at hk3
  have low:∀ id,id<m→h3 id=h id:=fun id hid=>by rw [hfr3 id (by omega),hfr2 id hid]
  have B3:J3x (T.getD J1b) k11 q h3:=⟨by rw [low k11 mk];exact B.1,by rw [low q hqm];exact B.2⟩
  have z2:=low 2 (by omega)
  rw [e2] at z2
  have y12:st3 12 = .bool T.isSome:=by simp [hk3,hk2,hk1,s12]
  have y6:st3 6 = .ptr 2 0 0:=by simp [hk3,hk2,hk1,hk,x6]
  have y11:st3 11 = .ptr k11 0 0:=by simp [hk3,hk2,hk1,hk,x11]
  generalize hX:J2s md (J56 p b c.Func) (j:Int)=X at *
  have bad:F=Option.none→R .ret st3 h3 (m+1+2)=R .ret st3 h3 (m+1+2):=fun _=>rfl
  clear bad
  cases T with
  | none=>
   simp only [Option.bind_none,J80] at hJ
   subst hJ
   simp [y12,y6,z2]
   refine hret _ _ _ ?_
   simp [J90,y6]
   exact ⟨⟨⟨0,[]⟩,⟨0,[]⟩⟩,by simp [J06,J0k]⟩
  | some t=>
   cases X with
   | none=>
    simp only [Option.bind_some,Option.bind_none,J80] at hJ
    subst hJ
    simp [y12,y6,z2,s16]
    refine hret _ _ _ ?_
    simp [J90,y6]
    exact ⟨⟨⟨0,[]⟩,⟨0,[]⟩⟩,by simp [J06,J0k]⟩
   | some x=>
    simp only [Option.bind_some] at hJ
    simp at B3 B15
    simp [y12,s16]
    refine Jrn (t:=t) (x:=x) (k:=k11) (q:=q) (k5:=k15) (q5:=q15) (by simp [y11]) (by simp [s15]) B3 B15 (by omega) (by omega) ?_
    intro st4 h4 hk4 t12 B4 hfr4
    simp at hk4
    simp [hk4,hk3,hk2,hk1,s59,hw']
    have low4:∀ id,id<9→h4 id=h id:=fun id hid=>by rw [hfr4 id (by omega) (by omega),low id (by omega)]
    refine hR _ _ _ (by simp [hk4,hk3,hk2,hk1,hk]) (by simp) ⟨by omega,by omega,by rw [low4 0 (by omega),e0],by rw [low4 1 (by omega),e1],by rw [low4 2 (by omega),e2],⟨by rw [low4 8 (by omega)];exact m1,by rw [low4 4 (by omega)];exact m2,by rw [low4 5 (by omega)];exact m3,by rw [low4 6 (by omega)];exact m4,by rw [low4 7 (by omega)];exact m5⟩,_,m+1+2,by omega,by omega,by omega,by simp [t12],B4,hJ⟩
 ·rintro st h m R hk s59 ⟨m8,mk,e0,e1,e2,M,T,q,hq8,hqk,hqm,s12,B,hJ⟩ _ hX
  simp at hk
  rw [List.drop_eq_nil_of_le (by omega)] at hJ
  simp only [Jbz] at hJ
  subst hJ
  refine J0i [3,4,6,8,9,11,12] (fun s=>s 60 = .bool false) (by simp [hk,s59]) ?_
  intro st1 hk1 s60
  simp at hk1
  refine J37 s60 ?_
  refine hX _ _ _ _ ?_
  obtain ⟨m1,m2,m3,m4,m5⟩:=M
  obtain ⟨b1,b2⟩:=B
  have nq:¬4=q∧¬q=4∧¬q=2:=by omega
  simp [ux6,hk1,hk,x9,x11,x6,m1,m2,b1,b2,e2,nq,s12,J90]
  exact ⟨⟨md.System,T.getD J1b⟩,by simp [J06],fun t ht=>by subst ht;rfl⟩
def K7b:AC:=(.reg [⟨some 36,.ld true 2 (.t 2),no⟩,⟨some 37,.ld true 2 (.t 3),no⟩,⟨some 38,.mv (.t 7),no⟩,⟨some 39,.call (.k (.fn (.func 104) [] [])) [.t 36,.t 37,.t 38],no⟩,⟨some 35,.mv (.t 39),no⟩,⟨some 40,.ext (.t 35) 0,no⟩,⟨some 41,.ext (.t 35) 1,no⟩,⟨some 8,.box [(.int .i64 0),(.nil 2),(.int .i64 0),(.nil 1)],no⟩,⟨no,.st 4 (.t 8) (.t 40),no⟩,⟨some 9,.mv (.t 41),no⟩])
def K6p:AC:=(.reg [⟨some 44,.mv (.t 6),no⟩,⟨some 45,.ld true 4 (.t 8),no⟩,⟨some 46,.bsl 4 [.t 45],no⟩,⟨some 47,.app 64 4 (.t 44) (.t 46),no⟩,⟨some 6,.mv (.t 47),no⟩])
def K7h:AC:=(.reg [⟨some 56,.ld true 2 (.t 2),no⟩,⟨some 57,.ld true 2 (.t 3),no⟩,⟨some 58,.mv (.t 10),no⟩,⟨some 59,.call (.k (.fn (.func 105) [] [])) [.t 56,.t 57,.t 58],no⟩,⟨some 55,.mv (.t 59),no⟩,⟨some 60,.ext (.t 55) 0,no⟩,⟨some 61,.ext (.t 55) 1,no⟩,⟨some 11,.box [(.int .i64 0),(.nil 2),(.int .i64 0),(.nil 1)],no⟩,⟨no,.st 4 (.t 11) (.t 60),no⟩,⟨some 12,.mv (.t 61),no⟩])
def K8v:AC:=(.reg [⟨some 64,.mv (.t 6),no⟩,⟨some 65,.ld true 4 (.t 11),no⟩,⟨some 66,.bsl 4 [.t 65],no⟩,⟨some 67,.app 64 4 (.t 64) (.t 66),no⟩,⟨some 6,.mv (.t 67),no⟩])
def bo0:AC:=(.reg [⟨some 2,.boxv (.t 0),no⟩,⟨some 3,.boxv (.t 1),no⟩,⟨some 4,.mv (.k (.nil 4)),no⟩,⟨some 5,.mv (.k (.bool false)),no⟩])
def bo1:AC:=(.seq (.reg [⟨some 13,.ld true 2 (.t 2),no⟩,⟨some 14,.call (.k (.fn (.func 67) [] [])) [.t 13],no⟩,⟨some 15,.un .not (.t 14),no⟩,⟨some 16,.mv (.t 15),no⟩,⟨some 17,.fld 0 (.t 3),(some (16,false))⟩,⟨some 18,.ld false 1 (.t 17),(some (16,false))⟩,⟨some 19,.call (.k (.fn (.func 102) [] [])) [.t 18,(.k (.int .i64 1)),(.k (.int .i64 2))],(some (16,false))⟩,⟨some 20,.un .not (.t 19),(some (16,false))⟩,⟨some 21,.pick (.t 16) (.k (.bool true)) (.t 20),no⟩,⟨some 22,.mv (.t 21),no⟩,⟨some 23,.ld true 2 (.t 2),(some (22,false))⟩,⟨some 24,.fld 1 (.t 3),(some (22,false))⟩,⟨some 25,.ld false 1 (.t 24),(some (22,false))⟩,⟨some 26,.call (.k (.fn (.func 103) [] [])) [.t 23,.t 25],(some (22,false))⟩,⟨some 27,.un .not (.t 26),(some (22,false))⟩,⟨some 28,.pick (.t 22) (.k (.bool true)) (.t 27),no⟩]) (.cond (.t 28) (.seq (.reg [⟨some 4,.mv (.k (.nil 4)),no⟩,⟨some 5,.mv (.k (.bool false)),no⟩]) .ret) .skip))
def bo2:AC:=(.reg [⟨some 6,.mv (.k (.nil 4)),no⟩])
def bo3:AC:=(.seq (.reg [⟨some 29,.fld 0 (.t 2),no⟩,⟨some 30,.ld false 1 (.t 29),no⟩,⟨some 31,.len false (.t 30),no⟩,⟨some 32,.mv (.k (.int .i64 0)),no⟩]) (.blk 0 (.loop (.seq (.reg [⟨some 33,.bin .lss (.t 32) (.t 31),no⟩]) (.seq (.cond (.t 33) .skip (.exit 0)) (.seq (.blk 1 (.seq (.reg [⟨some 34,.mv (.t 32),no⟩,⟨some 7,.mv (.t 34),no⟩]) (.seq  K7b (.seq (.seq (.reg [⟨some 42,.mv (.t 9),no⟩,⟨some 43,.un .not (.t 42),no⟩]) (.cond (.t 43) (.seq (.reg [⟨some 4,.mv (.k (.nil 4)),no⟩,⟨some 5,.mv (.k (.bool false)),no⟩]) .ret) .skip))  K6p)))) (.reg [⟨some 48,.bin .add (.t 32) (.k (.int .i64 1)),no⟩,⟨some 32,.mv (.t 48),no⟩])))))))
def bo4:AC:=(.seq (.reg [⟨some 49,.fld 1 (.t 2),no⟩,⟨some 50,.ld false 1 (.t 49),no⟩,⟨some 51,.len false (.t 50),no⟩,⟨some 52,.mv (.k (.int .i64 0)),no⟩]) (.blk 2 (.loop (.seq (.reg [⟨some 53,.bin .lss (.t 52) (.t 51),no⟩]) (.seq (.cond (.t 53) .skip (.exit 2)) (.seq (.blk 3 (.seq (.reg [⟨some 54,.mv (.t 52),no⟩,⟨some 10,.mv (.t 54),no⟩]) (.seq  K7h (.seq (.seq (.reg [⟨some 62,.mv (.t 12),no⟩,⟨some 63,.un .not (.t 62),no⟩]) (.cond (.t 63) (.seq (.reg [⟨some 4,.mv (.k (.nil 4)),no⟩,⟨some 5,.mv (.k (.bool false)),no⟩]) .ret) .skip))  K8v)))) (.reg [⟨some 68,.bin .add (.t 52) (.k (.int .i64 1)),no⟩,⟨some 52,.mv (.t 68),no⟩])))))))
def bo5:AC:=(.reg [⟨some 69,.mv (.t 6),no⟩,⟨some 4,.mv (.t 69),no⟩,⟨some 5,.mv (.k (.bool true)),no⟩])
def a33:AFn:=⟨70,[.t 4,.t 5],(.seq bo0 (.seq bo1 (.seq bo2 (.seq bo3 (.seq bo4 (.seq bo5 .ret))))))⟩
theorem a33_ok:J0a Tryz.prog Tryz.f33=some a33:=by kernel_rfl
def Jd3 (o:DObligation) (q:Nat) (h:Heap):Prop:=h (q+2)=some ⟨true,4,[[.int .i64 o.System.N,.ref q 0 o.System.Rows.length,.int .i64 o.Target.Const,.ref (q+1) 0 o.Target.Coeffs.length]]⟩∧h q=some ⟨false,2,o.System.Rows.map J08⟩∧h (q+1)=some ⟨false,1,J0k o.Target.Coeffs⟩
def goO:List DObligation→List (Option DObligation)→Option (List DObligation)
 | acc,[]=>some acc
 | _,Option.none::_=>Option.none
 | acc,some x::l=>goO (acc++[x]) l
def mdR (p:DProgram) (i:Int):DModel:=(J6i p i).getD J73
def J95 (p:DProgram) (b:DBounds):List (Option DObligation):=(List.range p.Functions.length).map fun i:Nat=>(J77 b (b.Lins.getD i J1b)).map fun t=>⟨J5m p (p.Functions.getD i fn0).Name,t⟩
def J8m (p:DProgram) (b:DBounds):List (Option DObligation):=(List.range p.Rules.length).map fun i:Nat=>(J54 p b (mdR p i) (p.Rules.getD i Jk8)).map fun t=>⟨(mdR p i).System,t⟩
def J2j (p:DProgram) (b:DBounds):Option (List DObligation):=if J2e p b then goO [] (J95 p b++J8m p b) else Option.none
def J7d (o:Option (List DObligation)):AV := .tup [.us 4 ((o.getD []).map J06),.bool o.isSome]
theorem Jop:∀ {l:List (Option DObligation)}{acc o:List DObligation},goO acc l=some o→o.length=acc.length+l.length
 | [],acc,o,h=>by simp only [goO,Option.some.injEq] at h;subst h;simp
 | Option.none::_,_,_,h=>by simp [goO] at h
 | some x::l,acc,o,h=>by
  simp only [goO] at h
  have:=Jop h
  simp at this ⊢;omega
theorem Jlj {p:DProgram}{b:DBounds}{i:Nat}(hi:i<p.Functions.length) (hb:b.Lins.length=p.Functions.length):(J95 p b).drop i=((J77 b (b.Lins[i]'(by omega))).map fun t=>(⟨J5m p (p.Functions[i]).Name,t⟩:DObligation))::(J95 p b).drop (i+1):=by
 have hl:i<(J95 p b).length:=by simpa [J95] using hi
 rw [List.drop_eq_getElem_cons hl]
 congr 1
 have hb':i<b.Lins.length:=by omega
 simp [J95,hi,hb']
theorem Jlv {p:DProgram}{b:DBounds}{i:Nat}(hi:i<p.Rules.length):(J8m p b).drop i=((J54 p b (mdR p i) p.Rules[i]).map fun t=>(⟨(mdR p i).System,t⟩:DObligation))::(J8m p b).drop (i+1):=by
 have hl:i<(J8m p b).length:=by simpa [J8m] using hi
 rw [List.drop_eq_getElem_cons hl]
 congr 1
 simp [J8m,hi]
theorem J68 {p:DProgram}{b:DBounds}(h:J2e p b=true):J2l p=true∧inR b.Kind 1 2=true∧b.Lins.length=p.Functions.length:=by
 unfold J2e Jj3 at h
 simp only [Bool.and_eq_true,decide_eq_true_eq] at h
 exact ⟨h.1.1,h.1.2,h.2.1⟩
section
variable {ks:List Kt}{s:Env}{h h':Heap}{n:Nat}{Q:Fin}
theorem Jsr {p:DProgram}(hp:J0f p≤1048576) {b:DBounds}{i:Nat}(hi:i<p.Functions.length) (hb:i<b.Lins.length) (s2:s 2 = .ptr 0 0 0) (s3:s 3 = .ptr 1 0 0) (s7:s 7 = .int .i64 i) (e0:h 0=some ⟨true,2,[J01 p]⟩) (e1:h 1=some ⟨true,2,[J0d b]⟩)
 (hK:∀ s' h',(∀ j∈[2,3,4,5,6,30,31,32],s' j=s j)→s' 9 = .bool (J77 b b.Lins[i]).isSome→s' 8 = .ptr (n+2) 0 0→Jd3 ⟨J5m p (p.Functions[i]).Name,(J77 b b.Lins[i]).getD J1b⟩ n h'→(∀ id,id<n→h' id=h id)→J2b Tryz.prog ks .normal s' h' (n+3) Q):rC Tryz.prog K7b ks s h n Q:=by
 simp [K7b,s2,s3,s7,e0,e1]
 first|refine J00 (J6h p hp b hi hb) (by first|simp;done|rfl) ?_|refine J02 (J6h p hp b hi hb) (by first|simp;done|rfl) ?_
 rintro r rfl
 unfold Jwp
 generalize J5m p (p.Functions[i]).Name=S at *
 generalize J77 b b.Lins[i]=T at *
 simp [J06]
 refine hK _ _ (by simp) (by simp) (by simp) (by simp [Jd3]) ?_
 intro id hid
 have:¬id=n∧¬id=n+1∧¬id=n+2:=by omega
 simp [this]
theorem Jr4 {p:DProgram}(hp:J0f p≤1048576) {b:DBounds}(hb:b.Lins.length=p.Functions.length) {i:Nat}(hi:i<p.Rules.length) (hf:(J0t p.Functions (p.Rules[i]).Func).isSome=true) (hfc:∀ c∈(p.Rules[i]).Calls,(J0t p.Functions c.Func).isSome=true) (hcl:(p.Rules[i]).Calls.length≤2) (s2:s 2 = .ptr 0 0 0) (s3:s 3 = .ptr 1 0 0) (s10:s 10 = .int .i64 i) (e0:h 0=some ⟨true,2,[J01 p]⟩) (e1:h 1=some ⟨true,2,[J0d b]⟩)
 (hK:∀ s' h' o,(∀ j∈[2,3,4,5,6,50,51,52],s' j=s j)→s' 12 = .bool (J54 p b (mdR p i) p.Rules[i]).isSome→s' 11 = .ptr (n+2) 0 0→Jd3 o n h'→(∀ t,J54 p b (mdR p i) p.Rules[i]=some t→o=⟨(mdR p i).System,t⟩)→(∀ id,id<n→h' id=h id)→J2b Tryz.prog ks .normal s' h' (n+3) Q):rC Tryz.prog K7h ks s h n Q:=by
 simp [K7h,s2,s3,s10,e0,e1]
 refine J02 (Jdf p hp b hb hi hf hfc hcl) (by simp) ?_
 rintro _ ⟨o,rfl,ho⟩
 rw [show (J6i p i).getD J73=mdR p i from rfl] at *
 generalize J54 p b (mdR p i) p.Rules[i]=T at *
 simp [J06]
 refine hK _ _ o (by simp) (by simp) (by simp) (by simp [Jd3]) ho ?_
 intro id hid
 have:¬id=n∧¬id=n+1∧¬id=n+2:=by omega
 simp [this]
theorem Jz3 {acc:List DObligation}{o:DObligation}{v:AV}{q:Nat}{a:AC}(hacc:a=K6p∧s 8 = .ptr (q+2) 0 0∨a=K8v∧s 11 = .ptr (q+2) 0 0) (s6:s 6=v) (O:Jd3 o q h) (B:J3c 1 4 (acc.map J06) v h q) (hq:n=q+3) (hl:acc.length≤3000000)
 (hK:∀ s' h' n',(∀ j∈[2,3,4,5,30,31,32,50,51,52],s' j=s j)→n≤n'→(∀ id z rows,id<q→h id=some ⟨true,z,rows⟩→h' id=h id)→J3c 1 4 ((acc++[o]).map J06) (s' 6) h' n'→J2b Tryz.prog ks .normal s' h' n' Q):rC Tryz.prog a ks s h n Q:=by
 subst hq
 obtain ⟨o1,o2,o3⟩:=O
 have fr:∀ id,id<q→¬id=q∧¬id=q+1∧¬id=q+3:=by intro id _;omega
 rcases hacc with ⟨rfl,s8⟩|⟨rfl,s8⟩
 ·simp [K6p,s6,s8,o1,o2,o3]
  refine J2m (rows:=acc.map J06) (rows2:=[[.int .i64 o.System.N,.us 2 (o.System.Rows.map J08),.int .i64 o.Target.Const,.us 1 (J0k o.Target.Coeffs)]]) (B.keep (n':=q+3+1) (by omega) fun id _ hid e=>by simp [fr id hid]) (by simp) (fun l e=>by have:=(B.lt e).2.1;omega) (by omega) (by simp;unfold LIM;omega) ?_
  intro h1 f1 f2
  simp
  refine hK _ _ _ (by simp) (by omega) ?_ ?_
  ·intro id z rows h1' h3'
   rw [f2 id (by omega) (by omega) fun l e=>B.not_box h3' e];simp [fr id h1']
  ·simp
   exact .inr ⟨q+4,by omega,by omega,by simp,by simp [f1,J06]⟩
 ·simp [K8v,s6,s8,o1,o2,o3]
  refine J2m (rows:=acc.map J06) (rows2:=[[.int .i64 o.System.N,.us 2 (o.System.Rows.map J08),.int .i64 o.Target.Const,.us 1 (J0k o.Target.Coeffs)]]) (B.keep (n':=q+3+1) (by omega) fun id _ hid e=>by simp [fr id hid]) (by simp) (fun l e=>by have:=(B.lt e).2.1;omega) (by omega) (by simp;unfold LIM;omega) ?_
  intro h1 f1 f2
  simp
  refine hK _ _ _ (by simp) (by omega) ?_ ?_
  ·intro id z rows h1' h3'
   rw [f2 id (by omega) (by omega) fun l e=>B.not_box h3' e];simp [fr id h1']
  ·simp
   exact .inr ⟨q+4,by omega,by omega,by simp,by simp [f1,J06]⟩
theorem Juz {p:DProgram}(hp:J0f p≤1048576) {b:DBounds}(hb:b.Lins.length=p.Functions.length) (hpo:J2l p=true) {l2:List (Option DObligation)}{F:Option (List DObligation)}(hn:1<n) (s2:s 2 = .ptr 0 0 0) (s3:s 3 = .ptr 1 0 0) (s6:s 6 = .nil 4) (e0:h 0=some ⟨true,2,[J01 p]⟩) (e1:h 1=some ⟨true,2,[J0d b]⟩) (hF:goO [] (J95 p b++l2)=F)
 (hret:F=Option.none→∀ s' h' n',s' 4 = .nil 4→s' 5 = .bool false→J2b Tryz.prog ks .ret s' h' n' Q)
 (hK:∀ s' h' n',(∀ j∈[2,3],s' j=s j)→1<n'→h' 0=some ⟨true,2,[J01 p]⟩→h' 1=some ⟨true,2,[J0d b]⟩→(∃ acc,acc.length≤3∧J3c 1 4 (acc.map J06) (s' 6) h' n'∧goO acc l2=F)→J2b Tryz.prog ks .normal s' h' n' Q):rC Tryz.prog bo3 ks s h n Q:=by
 have hfl:=(J59 hpo).2.2.1
 simp [bo3,s2,e0,J01]
 intro _
 refine J0o [2,3,30,31] 32 p.Functions.length (fun i s h m=>1<m∧h 0=some ⟨true,2,[J01 p]⟩∧h 1=some ⟨true,2,[J0d b]⟩∧∃ acc,acc.length=i∧J3c 1 4 (acc.map J06) (s 6) h m∧goO acc ((J95 p b).drop i++l2)=F) (by unfold LIM;omega) (by simp) ⟨hn,e0,e1,[],rfl,.inl ⟨rfl,by simp [s6]⟩,by simpa using hF⟩ ?_ ?_
 ·rintro i st h m R hi hg hk s32 hw' ⟨m1,e0,e1,acc,hal,B,hJ⟩ hR hrt _
  simp at hk
  have hib:i<b.Lins.length:=by omega
  rw [Jlj hi hb,List.cons_append] at hJ
  refine J0i [2,3,6,30,31,32] (fun s=>s 33 = .bool true) (by simp [hk,s32,hi]) ?_
  intro st1 hk1 s33
  simp at hk1
  refine J3g s33 (J0b (J1c ?_))
  refine J0i [2,3,6,30,31,32] (fun s=>s 7 = .int .i64 i) (by simp [hk1,s32]) ?_
  intro st2 hk2 s7
  simp at hk2
  refine J0b (Jsr hp (b:=b) hi hib (by simp [hk2,hk1,hk,s2]) (by simp [hk2,hk1,hk,s3]) s7 e0 e1 ?_)
  intro st3 h3 hk3 s9 s8 O hfr
  simp at hk3
  generalize hT:J77 b b.Lins[i]=T at *
  cases T with
  | none=>
   simp only [Option.map_none,goO] at hJ
   simp [s9]
   exact hrt _ _ _ (hret hJ.symm _ _ _ (by simp) (by simp))
  | some t=>
   simp only [Option.map_some,goO] at hJ
   simp at O
   simp [s9]
   refine Jz3 (acc:=acc) (o:=⟨J5m p (p.Functions[i]).Name,t⟩) (v:=st 6) (q:=m) (.inl ⟨rfl,by simp [s8]⟩) (by simp [hk3,hk2,hk1]) O (B.keep (Nat.le_refl _) fun id _ hid _=>hfr id hid) rfl (by omega) ?_
   intro st4 h4 n4 hk4 hn4 bx4 B4
   simp at hk4
   have g0:=hfr 0 (by omega)
   have g1:=hfr 1 (by omega)
   rw [e0] at g0
   rw [e1] at g1
   simp [hk4,hk3,hk2,hk1,s32,hw']
   refine hR _ _ _ (by simp [hk4,hk3,hk2,hk1,hk]) (by simp) ⟨by omega,by rw [bx4 0 _ _ (by omega) g0,g0],by rw [bx4 1 _ _ (by omega) g1,g1],acc++[⟨J5m p (p.Functions[i]).Name,t⟩],by simp [hal],?_,hJ⟩
   simpa using B4
 ·rintro st h m R hk s32 ⟨m1,e0,e1,acc,hal,B,hJ⟩ _ hX
  simp at hk
  rw [List.drop_eq_nil_of_le (by simp [J95]),List.nil_append] at hJ
  refine J0i [2,3,6] (fun s=>s 33 = .bool false) (by simp [hk,s32]) ?_
  intro st1 hk1 s33
  simp at hk1
  refine J37 s33 ?_
  refine hX _ _ _ _ ?_
  simp
  refine hK _ _ _ (by simp [hk1,hk]) m1 e0 e1 ⟨acc,by omega,?_,hJ⟩
  rw [hk1.2.2];exact B
theorem Jwz {p:DProgram}(hp:J0f p≤1048576) {b:DBounds}(hb:b.Lins.length=p.Functions.length) (hpo:J2l p=true) {acc0:List DObligation}{F:Option (List DObligation)}(hn:1<n) (s2:s 2 = .ptr 0 0 0) (s3:s 3 = .ptr 1 0 0) (e0:h 0=some ⟨true,2,[J01 p]⟩) (e1:h 1=some ⟨true,2,[J0d b]⟩) (hal0:acc0.length≤3) (B0:J3c 1 4 (acc0.map J06) (s 6) h n) (hF:goO acc0 (J8m p b)=F)
 (hret:F=Option.none→∀ s' h' n',s' 4 = .nil 4→s' 5 = .bool false→J2b Tryz.prog ks .ret s' h' n' Q)
 (hK:∀ s' h' n' acc,J3c 1 4 (acc.map J06) (s' 6) h' n'→some acc=F→J2b Tryz.prog ks .normal s' h' n' Q):rC Tryz.prog bo4 ks s h n Q:=by
 have hrl:=(J59 hpo).2.2.2
 simp [bo4,s2,e0,J01]
 intro _
 refine J0o [2,3,50,51] 52 p.Rules.length (fun i s h m=>1<m∧h 0=some ⟨true,2,[J01 p]⟩∧h 1=some ⟨true,2,[J0d b]⟩∧∃ acc,acc.length=acc0.length+i∧J3c 1 4 (acc.map J06) (s 6) h m∧goO acc ((J8m p b).drop i)=F) (by unfold LIM;omega) (by simp) ⟨hn,e0,e1,acc0,rfl,by simpa using B0,by simpa using hF⟩ ?_ ?_
 ·rintro i st h m R hi hg hk s52 hw' ⟨m1,e0,e1,acc,hal,B,hJ⟩ hR hrt _
  simp at hk
  obtain ⟨f,hff,RI⟩:=Jcb hpo (List.getElem_mem hi)
  have hfc:=Jhr RI.calls
  have hcl:=RI.ncalls
  rw [Jlv hi] at hJ
  refine J0i [2,3,6,50,51,52] (fun s=>s 53 = .bool true) (by simp [hk,s52,hi]) ?_
  intro st1 hk1 s53
  simp at hk1
  refine J3g s53 (J0b (J1c ?_))
  refine J0i [2,3,6,50,51,52] (fun s=>s 10 = .int .i64 i) (by simp [hk1,s52]) ?_
  intro st2 hk2 s10
  simp at hk2
  refine J0b (Jr4 hp (b:=b) hb hi (by rw [hff];rfl) hfc hcl (by simp [hk2,hk1,hk,s2]) (by simp [hk2,hk1,hk,s3]) s10 e0 e1 ?_)
  intro st3 h3 o hk3 s12 s11 O ho hfr
  simp at hk3
  generalize hT:J54 p b (mdR p i) p.Rules[i]=T at *
  cases T with
  | none=>
   simp only [Option.map_none,goO] at hJ
   simp [s12]
   exact hrt _ _ _ (hret hJ.symm _ _ _ (by simp) (by simp))
  | some t=>
   simp only [Option.map_some,goO] at hJ
   obtain rfl:=ho t rfl
   simp [s12]
   refine Jz3 (acc:=acc) (o:=⟨(mdR p i).System,t⟩) (v:=st 6) (q:=m) (.inr ⟨rfl,by simp [s11]⟩) (by simp [hk3,hk2,hk1]) O (B.keep (Nat.le_refl _) fun id _ hid _=>hfr id hid) rfl (by omega) ?_
   intro st4 h4 n4 hk4 hn4 bx4 B4
   simp at hk4
   have g0:=hfr 0 (by omega)
   have g1:=hfr 1 (by omega)
   rw [e0] at g0
   rw [e1] at g1
   simp [hk4,hk3,hk2,hk1,s52,hw']
   refine hR _ _ _ (by simp [hk4,hk3,hk2,hk1,hk]) (by simp) ⟨by omega,by rw [bx4 0 _ _ (by omega) g0,g0],by rw [bx4 1 _ _ (by omega) g1,g1],acc++[⟨(mdR p i).System,t⟩],by simp [hal];omega,?_,hJ⟩
   simpa using B4
 ·rintro st h m R hk s52 ⟨m1,e0,e1,acc,hal,B,hJ⟩ _ hX
  simp at hk
  rw [List.drop_eq_nil_of_le (by simp [J8m])] at hJ
  refine J0i [2,3,6] (fun s=>s 53 = .bool false) (by simp [hk,s52]) ?_
  intro st1 hk1 s53
  simp at hk1
  refine J37 s53 ?_
  refine hX _ _ _ _ ?_
  simp
  refine hK _ _ _ acc ?_ hJ
  rw [hk1.2.2];exact B
end
theorem J7i (p:DProgram) (hp:J0f p≤1048576) (b:DBounds):Holds Tryz.prog 33 [.agg (J01 p),.agg (J0d b)] (fun x=>x=J7d (J2j p b)):=by
 refine J03 Tryz.func33 a33_ok rfl (by simp [a33]) ?_
 simp [a33,bo0]
 rw [←Ja9]
 refine J15 [2,3,4,5] (fun s h2 n2=>J2e p b=true∧n2=2∧h2 0=some ⟨true,2,[J01 p]⟩∧h2 1=some ⟨true,2,[J0d b]⟩) ?_ ?_
 ·simp [bo1]
  first|refine J00 (J2h p hp) (by first|simp;done|rfl) ?_|refine J02 (J2h p hp) (by first|simp;done|rfl) ?_
  rintro r rfl
  have hret:J2j p b=Option.none→True:=fun _=>trivial
  clear hret
  cases hpo:J2l p
  ·have:J2j p b=Option.none:=by simp [J2j,J2e,hpo]
   simp [this,J7d]
  simp [J0d]
  first|refine J00 (J1s b.Kind 1 2) (by first|simp;done|rfl) ?_|refine J02 (J1s b.Kind 1 2) (by first|simp;done|rfl) ?_
  rintro r rfl
  cases hin:inR b.Kind 1 2
  ·have:J2j p b=Option.none:=by simp [J2j,J2e,hin]
   simp [this,J7d]
  simp [J0d]
  first|refine J00 (Jlp p b.Lins) (by first|simp [J01];done|rfl) ?_|refine J02 (Jlp p b.Lins) (by first|simp [J01];done|rfl) ?_
  rintro r rfl
  cases hlb:Jj3 p.Functions b.Lins
  ·have:J2j p b=Option.none:=by simp [J2j,J2e,hlb]
   simp [this,J7d]
  simp [J2e,hpo,hin,hlb,J0d]
 rintro st1 h1 _ hk1 ⟨hB,rfl,e0,e1⟩
 simp at hk1
 obtain ⟨hpo,hin,hbl⟩:=J68 hB
 have hbo:J2j p b=goO [] (J95 p b++J8m p b):=by simp [J2j,hB]
 rw [hbo]
 clear hbo
 generalize hF:goO [] (J95 p b++J8m p b)=F
 simp [bo2]
 refine Juz hp hbl hpo (F:=F) (l2:=J8m p b) (by omega) (by simp [hk1]) (by simp [hk1]) (by simp) e0 e1 hF ?_ ?_
 ·rintro rfl s' h' n' s4 s5
  simp [s4,s5,J7d]
 rintro st2 h2 n2 hk2 hn2 f0 f1 ⟨acc,hal,B,hJ⟩
 simp at hk2
 simp
 refine Jwz hp hbl hpo (F:=F) hn2 (by simp [hk2,hk1]) (by simp [hk2,hk1]) f0 f1 hal B hJ ?_ ?_
 ·rintro rfl s' h' n' s4 s5
  simp [s4,s5,J7d]
 rintro st3 h3 n3 acc3 B3 rfl
 obtain ⟨h4,d1,_⟩:=B3.dt
 simp [bo5,-dt,-dtl,J7d]
 simp [dt,dtl,d1]
def a60:AFn:= ⟨23,[.t 2],(.seq (.reg [⟨some 1,.boxv (.t 0),no⟩,⟨some 2,.mv (.k (.nil 1)),no⟩]) (.seq (.reg [⟨some 5,.bsl 1 [],no⟩,⟨some 3,.mv (.t 5),no⟩]) (.seq (.seq (.reg [⟨some 4,.mv (.k (.int .i64 0)),no⟩]) (.blk 0 (.loop (.seq (.seq (.reg [⟨some 6,.mv (.t 4),no⟩,⟨some 7,.fld 0 (.t 1),no⟩,⟨some 8,.ld false 1 (.t 7),no⟩,⟨some 9,.len false (.t 8),no⟩,⟨some 10,.bin .lss (.t 6) (.t 9),no⟩]) (.cond (.t 10) .skip (.exit 0))) (.seq (.blk 1 (.reg [⟨some 13,.mv (.t 3),no⟩,⟨some 14,.fld 0 (.t 1),no⟩,⟨some 15,.ld false 1 (.t 14),no⟩,⟨some 16,.mv (.t 4),no⟩,⟨some 17,.ixa 4 (.t 15) (.t 16),no⟩,⟨some 18,.fld 0 (.t 17),no⟩,⟨some 19,.ld false 1 (.t 18),no⟩,⟨some 20,.bsl 1 [.t 19],no⟩,⟨some 21,.app 16 1 (.t 13) (.t 20),no⟩,⟨some 3,.mv (.t 21),no⟩])) (.reg [⟨some 11,.mv (.t 4),no⟩,⟨some 12,.bin .add (.t 11) (.k (.int .i64 1)),no⟩,⟨some 4,.mv (.t 12),no⟩])))))) (.seq (.reg [⟨some 22,.mv (.t 3),no⟩,⟨some 2,.mv (.t 22),no⟩]) .ret))))⟩
theorem a60_ok:J0a Tryz.prog Tryz.f60=some a60:=by kernel_rfl
theorem Jer (p:DProgram) (hp:J0f p≤1048576):Holds Tryz.prog 60 [.agg (J01 p)] (fun x=>x = .us 1 (J0e (J9f p))):=by
 have hfl:p.Functions.length≤1048576:=by have:=J27 J11 p.Functions;unfold J0f J28 at hp;omega
 refine J03 Tryz.func60 a60_ok rfl (by simp [a60]) ?_
 simp [a60,J01]
 generalize hT:J9f p=T
 have hTl:T.length=p.Functions.length:=by rw [←hT];simp [J9f]
 refine J0o [1] 4 p.Functions.length (fun i s h n=>h 0=some ⟨true,2,[J01 p]⟩∧∃ (acc:List Str) (id:Nat),acc++T.drop i=T∧0<id∧id<n∧s 3 = .ref id 0 acc.length∧h id=some ⟨false,1,J0e acc⟩) (by unfold LIM;omega) (by simp) ⟨by simp [J01],[],1,by simp,by simp,by simp,by simp,by simp [J0e]⟩ ?_ ?_
 ·rintro i st h n R hi hg hk s4 hw ⟨e0,acc,id,hJ,hid0,hid,s3,eid⟩ hR hret _
  simp at hk
  have hin:i<T.length:=by omega
  have hni:T[i]=(p.Functions[i]).Name:=by subst hT;simp [J9f]
  rw [List.drop_eq_getElem_cons hin,hni] at hJ
  have hal:=congrArg List.length hJ
  simp only [List.length_append,List.length_cons] at hal
  have z0:¬id=n:=by omega
  have z1:¬id=n+1:=by omega
  have z2:¬n+1=id:=by omega
  have z3:¬n=id:=by omega
  have z4:¬0=id:=by omega
  have z5:¬0=n:=by omega
  have z6:¬n=0:=by omega
  have z7:¬id=0:=by omega
  simp [hk,s4,hi,e0,J01,J04,s3,eid,z0,z1,z2,z3,z4,z5,z6,z7,hw]
  intro _
  refine ⟨by unfold LIM;omega,?_⟩
  exact hR _ _ _ (by simp [hk]) (by simp) ⟨by simp [e0,z0,z1,z2,z3,z4,z5,z6,z7,J01],acc++[(p.Functions[i]).Name],n+1,by simpa using hJ,by omega,by omega,by simp,by simp [J0e,List.take_of_length_le]⟩
 rintro st h n R hk s4 ⟨e0,acc,id,hJ,hid0,hid,s3,eid⟩ hret hX
 simp at hk
 rw [List.drop_eq_nil_of_le (by omega),List.append_nil] at hJ
 subst hJ
 simp [hk,s4,e0,J01]
 intro _
 refine hX _ _ _ _ ?_
 simp [s3,eid]
def a270:AFn:= ⟨10,[.t 4],(.seq (.reg [⟨some 4,.mv (.k (.int .i64 0)),no⟩]) (.seq (.seq (.reg [⟨some 5,.mv (.t 0),no⟩,⟨some 6,.mv (.t 1),no⟩,⟨some 7,.bin .gtr (.t 5) (.t 6),no⟩]) (.cond (.t 7) (.seq (.reg [⟨some 8,.mv (.t 0),no⟩,⟨some 4,.mv (.t 8),no⟩]) .ret) .skip)) (.seq (.reg [⟨some 9,.mv (.t 1),no⟩,⟨some 4,.mv (.t 9),no⟩]) .ret)))⟩
theorem a270_ok:J0a Tryz.prog Tryz.f270=some a270:=by kernel_rfl
def a186:AFn:= ⟨15,[(.c 6 true 2)],(.seq (.reg [⟨some 3,.boxv (.t 0),no⟩,⟨some 6,.box [(.int .i64 0),(.nil 1)],no⟩]) (.seq (.reg [⟨some 7,.mv (.t 1),no⟩,⟨some 8,.ld true 2 (.t 3),no⟩,⟨some 9,.call (.k (.fn (.func 60) [] [])) [.t 8],no⟩,⟨some 10,.mv (.t 2),no⟩,⟨some 11,.call (.k (.fn (.func 63) [] [])) [.t 9,.t 10],no⟩,⟨some 12,.call (.k (.fn (.func 270) [] [])) [.t 11,(.k (.int .i64 0))],no⟩,⟨some 13,.ixa 2 (.t 7) (.t 12),no⟩,⟨some 14,.ld true 2 (.t 13),no⟩,⟨no,.st 2 (.t 6) (.t 14),no⟩]) .ret))⟩
theorem a186_ok:J0a Tryz.prog Tryz.f186=some a186:=by kernel_rfl
theorem Jj1 {t:DLin}{n k:Int}(h:J14 t n=true) (hk:0≤k∧k≤1048576):J0j t (-1) (J05 k n)=J4b t (-k):=by
 have hl:=J1u h
 have hkc:okC k=true:=by rw [Jca];omega
 have hkn:okC (-k)=true:=by rw [Jca];omega
 have hc:J05 k n=⟨k,List.replicate n.toNat 0⟩:=by
  unfold J05
  rw [if_pos (by rw [hkc];simp [inR];omega)]
 have hm1:okC (-1)=true:=by decide
 have hz:∀ c,okC c=true→J20 c (-1) 0=some c:=fun c hc=>by
  have h0:okC 0=true:=by decide
  simp [J20,Jd7,Jdo,h0,hm1,hc]
 have h1:J20 t.Const (-1) k=if (Jdo t.Const (-k)).2 then some (Jdo t.Const (-k)).1 else Option.none:=by
  simp [J20,Jd7,hm1,hkc,hkn]
 have hok:J14 t t.Coeffs.length=true:=by rw [hl.1];exact h
 have hok2:J14 (J05 k n) t.Coeffs.length=true:=by
  rw [hc];unfold J14
  simp [inR]
  exact ⟨⟨⟨by omega,by omega⟩,hkc⟩,.inr (by decide)⟩
 have hall:t.Coeffs.all okC=true:=by
  unfold J14 at h;simp at h;simpa using h.2
 have hZ:J4h t (-1) (J05 k n)=t.Coeffs.map some:=by
  rw [hc]
  unfold J4h
  refine List.ext_getElem (by simp;omega) fun i h1 h2 => ?_
  simp
  exact hz _ (List.all_eq_true.1 hall _ (List.getElem_mem _))
 have hO:Jag t (-1) (J05 k n)=true:=by unfold Jag;rw [hZ];simp
 unfold J0j J4b
 rw [hok,hok2,hO,hZ]
 have hc1:(J05 k n).Const=k:=by rw [hc]
 rw [hc1,h1,hm1]
 cases (Jdo t.Const (-k)).2 <;> simp [Function.comp_def]
theorem Jin {n:Nat} : ∀ {xs:List Str}{a:MS},(xs.foldl (J8z n) a).pars=a.pars++Jmd n xs a.nx
 | [],a=>by simp [Jmd]
 | x::xs,a=>by
  rw [List.foldl_cons,Jin]
  simp [J8z,Jmd]
theorem Jmg {p:DProgram}{r:DRule}{f:DFunction}(R:RuleIn p r f):(J4v r f).Params=(List.range f.Params.length).map fun i:Nat=>J2q i (J10 r f):=by
 have h1:(J4v r f).Params=(ss5 r f).pars:=rfl
 have h2:(ss5 r f).pars=(ss3 r f).pars:=by
  unfold ss5
  rw [Jfd.2.1];rfl
 have h3:(ss3 r f).pars=(ss1 r f).pars:=by
  unfold ss3
  rw [Jex];rfl
 have h4:(ss1 r f).pars=Jmd (J10 r f) f.Params 0:=by
  unfold ss1
  rw [Jin];simp
 rw [h1,h2,h3,h4,Jjv R.par]
theorem Jtn {p:DProgram}(h1:J2l p=true) {i:Nat}(hi:i<p.Rules.length) {f:DFunction}(hf:J0t p.Functions (p.Rules[i]).Func=some f):mdR p i=J4v p.Rules[i] f:=by
 have hg:p.Rules.getD (i:Int).toNat Jk8=p.Rules[i]:=by simp [hi]
 have hin:inR (i:Int) 0 ((p.Rules.length:Int) - 1)=true:=by simp [inR];omega
 have hfa:Jkv p p.Rules[i]=f:=by unfold Jkv;rw [hf];rfl
 unfold mdR J6i
 simp only [h1,hin,hg,hfa,Bool.and_self,if_true,Option.getD_some]
theorem Jp9 {p:DProgram}{b:DBounds}(hB:J2e p b=true) {j:Nat}(hj:j<p.Functions.length) (hj':j<b.Lins.length):J14 b.Lins[j] (p.Functions[j]).Params.length=true:=by
 unfold J2e Jj3 at hB
 simp only [Bool.and_eq_true,decide_eq_true_eq,List.all_eq_true] at hB
 have hm:(b.Lins[j],p.Functions[j])∈b.Lins.zip p.Functions:=by
  rw [List.mem_iff_getElem]
  exact ⟨j,by simp;omega,by simp⟩
 exact hB.2.2 _ hm
theorem Jrp {p:DProgram}{b:DBounds}(hB:J2e p b=true) {name:Str}{f:DFunction}(hf:J0t p.Functions name=some f):J14 (J56 p b name) f.Params.length=true:=by
 obtain ⟨_,_,hbl⟩:=J68 hB
 rcases J79 (p:=fun f:DFunction=>f.Name==name) (l:=p.Functions) (k:=0) with ⟨h1,_⟩|⟨j,hj,h1,_⟩
 ·unfold J0t at hf;rw [h1] at hf;cases hf
 ·rename_i h2
  unfold J0t at hf
  rw [h2,Option.some.injEq] at hf
  have hj':j<b.Lins.length:=by omega
  have hl:J56 p b name=b.Lins[j]:=by unfold J56;rw [h1];simp [hj']
  rw [hl,←hf]
  exact Jp9 hB hj hj'
theorem Jry {l:DLin}{m n:Nat}(hmn:m≤n) (hn:n≤8) (h:J14 l m=true):J14 (J3k n l) n=true:=by
 have hl:=J1u h
 unfold J14 at h ⊢
 simp only [Bool.and_eq_true,decide_eq_true_eq,List.all_eq_true] at h ⊢
 refine ⟨⟨⟨by simp [inR];omega,by simp [J3k];omega⟩,h.1.2⟩,?_⟩
 intro y hy
 simp only [J3k,List.mem_append,List.mem_replicate] at hy
 rcases hy with hy|⟨_,rfl⟩
 ·exact h.2 _ hy
 ·decide
theorem Jo3 {p:DProgram}{b:DBounds}(hB:J2e p b=true) {i:Nat}(hi:i<p.Rules.length):∃ t,J22 (J56 p b (p.Rules[i]).Func) (mdR p i).Params (mdR p i).System.N=some t∧J14 t (mdR p i).System.N=true:=by
 obtain ⟨hpo,_,_⟩:=J68 hB
 obtain ⟨f,hf,R⟩:=Jcb hpo (List.getElem_mem hi)
 rw [Jtn hpo hi hf,Jmg R]
 have hN:(J4v p.Rules[i] f).System.N=(J10 p.Rules[i] f:Nat):=rfl
 rw [hN]
 have hs:=R.size
 have hmn:f.Params.length≤J10 p.Rules[i] f:=by unfold J10;omega
 have hl:=Jrp hB hf
 exact ⟨_,Je5 R.par hmn (by omega) hl,Jry hmn (by omega) hl⟩
theorem Jwu {l:List DFunction}(hn:(l.map (·.Name)).Nodup) {i:Nat}(hi:i<l.length):J0t l (l[i]).Name=some l[i]:=by
 unfold J0t
 cases h:l.find? fun f=>f.Name==(l[i]).Name with
 | none=>
  have:=List.find?_eq_none.1 h _ (List.getElem_mem hi)
  simp at this
 | some g=>
  have hg:=List.find?_some h
  have hm:=List.mem_of_find?_eq_some h
  simp only [beq_iff_eq] at hg
  obtain ⟨j,hj,rfl⟩:=List.mem_iff_getElem.1 hm
  have hij:j=i:=by
   have h1:(l.map (·.Name))[j]'(by simpa using hj)=(l.map (·.Name))[i]'(by simpa using hi):=by simpa using hg
   rcases Nat.lt_trichotomy j i with h|h|h
   ·exact absurd h1 (List.pairwise_iff_getElem.1 hn j i (by simpa using hj) (by simpa using hi) h)
   ·exact h
   ·exact absurd h1.symm (List.pairwise_iff_getElem.1 hn i j (by simpa using hi) (by simpa using hj) h)
  subst hij;rfl
theorem K00 {p:DProgram}(hpo:J2l p=true) {i:Nat}(hi:i<p.Functions.length):(J5m p (p.Functions[i]).Name).N=((p.Functions[i]).Params.length:Nat):=by
 have h1:=Jwu (J59 hpo).1 hi
 unfold J5m Jq2
 rw [hpo,if_pos rfl,h1];rfl
theorem Juo {p:DProgram}{b:DBounds}(hB:J2e p b=true) {i:Nat}(hi:i<p.Functions.length) (hb:i<b.Lins.length):J0j b.Lins[i] (-1) (J05 (J40 b.Kind) (J5m p (p.Functions[i]).Name).N)=J77 b b.Lins[i]:=by
 rw [K00 (J68 hB).1 hi]
 unfold J77
 exact Jj1 (Jp9 hB hi hb) (by unfold J40;split <;> omega)
theorem Jll (x y:Int):Holds Tryz.prog 270 [i64 x,i64 y] (fun r=>r=i64 (if x>y then x else y)):=by
 refine J03 Tryz.func270 a270_ok rfl (by simp [a270]) ?_
 simp [a270]
 refine ⟨fun _ _=>by omega,fun _ _=>by omega⟩
theorem Jpe {name:Str} : ∀ {l:List DFunction}{k:Nat},J1i (fun x=>x==name) (l.map (·.Name)) k=J1i (fun f:DFunction=>f.Name==name) l k
 | [],_=>rfl
 | f::l,k=>by
  simp only [List.map_cons,J1i]
  rw [Jpe]
theorem Jo0 {P:Program}{f:FuncId}{xs:List AV}{h:Heap}{n:Nat}{K:AV→Heap→Nat→Prop}
 (hA:J3w P f xs h n fun r h' _=>idb n r∧(∀ id,id<n→h' id=h id)∧K r h n):J3w P f xs h n K:=by
 refine ⟨hA.1,fun base w0 w L F vs H hv => ?_⟩
 refine (hA.2 base w0 w L F vs H hv).mono ?_
 rintro e w' ⟨v,r,L',n',F',h',rfl,H',J81,hr,hs,hh,hk⟩
 refine ⟨v,r,Jsm n L',n,_,h,rfl,H.cut H' hh,?_,Ja5 (Ext.cut _ _ _) _ _ _ (Jdh _ _ _ hr hs),hk⟩
 exact ⟨Nat.le_refl _,fun id l hid hl=>J81.old id l hid (J6c hl).2,J81.size,fun b hb ho=>⟨(J81.block b hb ho).1,fun h=>(J81.block b hb ho).2 h.cut⟩⟩
theorem Jqd {p:DProgram}(hp:J0f p≤1048576) {b:DBounds}{name:Str}(hf:(J0t p.Functions name).isSome=true) (hb:b.Lins.length=p.Functions.length) {h:Heap}{n:Nat}{K:AV→Heap→Nat→Prop}
 (hK:K (.agg (J07 (J56 p b name))) h n):J3w Tryz.prog 186 [.agg (J01 p),.sl 2 (b.Lins.map J07),.str name] h n K:=by
 obtain ⟨j,hj,hji⟩:=Joz hf
 have hjl:j<b.Lins.length:=by omega
 have hl:J56 p b name=b.Lins[j]:=by unfold J56;rw [hji];simp [hjl]
 rw [hl] at hK
 have ne:¬n=n+1∧¬n+1=n∧¬n=n+1+1∧¬n+1=n+1+1:=by omega
 have fr:∀ id,id<n→¬id=n∧¬id=n+1∧¬id=n+1+1:=by intro id _;omega
 refine Jo0 (J2g Tryz.func186 a186_ok rfl (by simp [a186]) ?_)
 simp [a186,J01]
 first|refine J00 (Jer p hp) (by first|simp [J01];done|rfl) ?_|refine J02 (Jer p hp) (by first|simp [J01];done|rfl) ?_
 rintro r rfl
 simp
 first|refine J00 (J4a (J9f p) name) (by first|simp [ne];done|rfl) ?_|refine J02 (J4a (J9f p) name) (by first|simp [ne];done|rfl) ?_
 rintro r rfl
 have hx:J1i (fun x=>x==name) (J9f p) 0=(j:Int):=by unfold J9f;rw [Jpe,hji]
 simp [hx]
 first|refine J00 (Jll (j:Int) 0) (by first|simp;done|rfl) ?_|refine J02 (Jll (j:Int) 0) (by first|simp;done|rfl) ?_
 rintro r rfl
 have hm:(if (j:Int)>0 then (j:Int) else 0)=j:=by split <;> omega
 rw [hm]
 simp [hjl,J07,ne]
 refine ⟨by simp [idb,Ji1],?_,hK⟩
 intro id hid
 simp [fr id hid]
theorem Jc0 {p:DProgram}(hp:J0f p≤1048576) {b:DBounds}{name:Str}(hf:(J0t p.Functions name).isSome=true) (hb:b.Lins.length=p.Functions.length) {h:Heap}{n:Nat}{K:AV→Heap→Nat→Prop}
 (hk:K (.agg (J07 (J56 p b name))) h n):J3w Tryz.prog 186 [.agg (J01 p),.sl 2 (b.Lins.map J07),.str name] h n (hK h K):=Jqd hp hf hb (by simpa using hk)
def uz0:AC:=(.reg [⟨some 2,.boxv (.t 0),no⟩,⟨some 3,.boxv (.t 1),no⟩,⟨some 4,.mv (.k (.bool false)),no⟩])
def uz1:AC:=(.seq (.reg [⟨some 6,.ld true 2 (.t 2),no⟩,⟨some 7,.call (.k (.fn (.func 61) [] [])) [.t 6],no⟩,⟨some 8,.un .not (.t 7),no⟩,⟨some 9,.mv (.t 8),no⟩,⟨some 10,.fld 0 (.t 3),(some (9,false))⟩,⟨some 11,.ld false 1 (.t 10),(some (9,false))⟩,⟨some 12,.bin .neq (.t 11) (.k (.int .i64 1)),(some (9,false))⟩,⟨some 13,.mv (.t 12),(some (9,false))⟩,⟨some 14,.fld 0 (.t 3),(some (13,true))⟩,⟨some 15,.ld false 1 (.t 14),(some (13,true))⟩,⟨some 16,.bin .neq (.t 15) (.k (.int .i64 2)),(some (13,true))⟩,⟨some 17,.pick (.t 13) (.t 16) (.k (.bool false)),(some (9,false))⟩,⟨some 18,.pick (.t 9) (.k (.bool true)) (.t 17),no⟩,⟨some 19,.mv (.t 18),no⟩,⟨some 20,.fld 1 (.t 3),(some (19,false))⟩,⟨some 21,.ld false 1 (.t 20),(some (19,false))⟩,⟨some 22,.len false (.t 21),(some (19,false))⟩,⟨some 23,.fld 0 (.t 2),(some (19,false))⟩,⟨some 24,.ld false 1 (.t 23),(some (19,false))⟩,⟨some 25,.len false (.t 24),(some (19,false))⟩,⟨some 26,.bin .neq (.t 22) (.t 25),(some (19,false))⟩,⟨some 27,.pick (.t 19) (.k (.bool true)) (.t 26),no⟩]) (.cond (.t 27) (.seq (.reg [⟨some 4,.mv (.k (.bool false)),no⟩]) .ret) .skip))
def uz2:AC:=(.seq (.reg [⟨some 5,.mv (.k (.int .i64 0)),no⟩]) (.blk 0 (.loop (.seq (.seq (.reg [⟨some 28,.mv (.t 5),no⟩,⟨some 29,.fld 1 (.t 3),no⟩,⟨some 30,.ld false 1 (.t 29),no⟩,⟨some 31,.len false (.t 30),no⟩,⟨some 32,.bin .lss (.t 28) (.t 31),no⟩]) (.cond (.t 32) .skip (.exit 0))) (.seq (.blk 1 (.seq (.draw (.op ⟨some 35,.fld 1 (.t 3),no⟩ (.op ⟨some 36,.ld false 1 (.t 35),no⟩ (.op ⟨some 37,.mv (.t 5),no⟩ (.op ⟨some 38,.ixa 2 (.t 36) (.t 37),no⟩ (.op ⟨some 39,.ld true 2 (.t 38),no⟩ (.op ⟨some 40,.fld 0 (.t 2),no⟩ (.op ⟨some 41,.ld false 1 (.t 40),no⟩ (.op ⟨some 42,.mv (.t 5),no⟩ (.op ⟨some 43,.ixa 4 (.t 41) (.t 42),no⟩ (.op ⟨some 44,.fld 1 (.t 43),no⟩ (.op ⟨some 45,.ld false 1 (.t 44),no⟩ (.op ⟨some 46,.len false (.t 45),no⟩ (.op ⟨some 47,.call (.k (.fn (.func 179) [] [])) [.t 39,.t 46],no⟩ (.op ⟨some 48,.un .not (.t 47),no⟩ .fin))))))))))))))) (.cond (.t 48) (.seq (.reg [⟨some 4,.mv (.k (.bool false)),no⟩]) .ret) .skip))) (.reg [⟨some 33,.mv (.t 5),no⟩,⟨some 34,.bin .add (.t 33) (.k (.int .i64 1)),no⟩,⟨some 5,.mv (.t 34),no⟩]))))))
def uz3:AC:=(.reg [⟨some 4,.mv (.k (.bool true)),no⟩])
def a96:AFn:=⟨49,[.t 4],(.seq uz0 (.seq uz1 (.seq uz2 (.seq uz3 .ret))))⟩
theorem a96_ok:J0a Tryz.prog Tryz.f96=some a96:=by kernel_rfl
theorem Jp0 {k:Int} : inR k 1 2=true↔k=1∨k=2:=by simp [inR];omega
theorem Jfr (p:DProgram) (hp:J0f p≤1048576) (b:DBounds):Holds Tryz.prog 96 [.agg (J01 p),.agg (J0d b)] (fun x=>x = .bool (J2e p b)):=by
 refine J1h Tryz.func96 rfl rfl fun hlm => ?_
 simp [J01,J0d] at hlm
 refine J03 Tryz.func96 a96_ok rfl (by simp [a96]) ?_
 simp [a96,uz0]
 rw [←Ja9]
 refine J15 [2,3,4] (fun s h2 n2=>J2l p=true∧inR b.Kind 1 2=true∧b.Lins.length=p.Functions.length∧n2=2∧h2 0=some ⟨true,2,[J01 p]⟩∧h2 1=some ⟨true,2,[J0d b]⟩) ?_ ?_
 ·simp [uz1]
  first|refine J00 (J26 p hp) (by first|simp;done|rfl) ?_|refine J02 (J26 p hp) (by first|simp;done|rfl) ?_
  rintro r rfl
  cases hpo:J2l p
  ·simp [J2e,hpo]
  by_cases hk:b.Kind=1∨b.Kind=2
  ·have hin:=Jp0.2 hk
   by_cases hl:b.Lins.length=p.Functions.length
   ·rcases hk with hk|hk
    ·simp [J0d,J01,hk,hl,hpo,hin]
     simp [inR]
    ·simp [J0d,J01,hk,hl,hpo,hin]
     simp [inR]
   ·have hb:J2e p b=false:=by simp [J2e,Jj3,hl]
    have hl':¬(b.Lins.length:Int)=p.Functions.length:=by omega
    rcases hk with hk|hk
    ·simp [J0d,J01,hk,hl,hl',hb]
    ·simp [J0d,J01,hk,hl,hl',hb]
  ·have hin:inR b.Kind 1 2=false:=by
    cases h:inR b.Kind 1 2
    ·rfl
    ·exact absurd (Jp0.1 h) hk
   have hb:J2e p b=false:=by simp [J2e,hin]
   have h1:¬b.Kind=1:=fun h=>hk (.inl h)
   have h2:¬b.Kind=2:=fun h=>hk (.inr h)
   simp [J0d,h1,h2,hb]
 rintro st1 h1 _ hk1 ⟨hpo,hin,hbl,rfl,e0,e1⟩
 simp at hk1
 have hb:J2e p b=(b.Lins.zip p.Functions).all fun x=>J14 x.1 x.2.Params.length:=by
  simp [J2e,Jj3,hpo,hin,hbl]
 simp [uz2]
 refine J3t [2,3] 5 b.Lins.length (fun i _=>((b.Lins.drop i).zip (p.Functions.drop i)).all (fun x=>J14 x.1 x.2.Params.length)=J2e p b) hlm.2 (by simp) (by rw [hb];rfl) ?_ ?_
 ·rintro i s h R hi hg hk s5 hw hJ hh hR hret _
  have hi':i<p.Functions.length:=by omega
  simp at hk
  have d0:=hh 0
  have d1:=hh 1
  rw [e0] at d0
  rw [e1] at d1
  rw [List.drop_eq_getElem_cons hi,List.drop_eq_getElem_cons hi',List.zip_cons_cons,List.all_cons] at hJ
  simp [hk,hk1,s5,hi,hi',hg,hw,d0,d1,J0d,J01,J04,J07]
  intro _
  first|refine J00 (J0q (b.Lins[i]'hi) (p.Functions[i]'hi').Params.length) (by first|simp [J07];done|rfl) ?_|refine J02 (J0q (b.Lins[i]'hi) (p.Functions[i]'hi').Params.length) (by first|simp [J07];done|rfl) ?_
  rintro r rfl
  cases h0:J14 b.Lins[i] (p.Functions[i]).Params.length
  ·rw [h0] at hJ
   have hJ:J2e p b=false:=by rw [←hJ];rfl
   simp
   refine hret _ _ _ ?_
   simp [hJ]
  ·rw [h0,Bool.true_and] at hJ
   simp [hk,s5,hi,hg,hw]
   exact hR _ (by simp [hk]) (by simp) hJ
 ·rintro s h R hk s5 hJ hh _ hX
  simp at hk
  have d0:=hh 0
  have d1:=hh 1
  rw [e0] at d0
  rw [e1] at d1
  rw [List.drop_eq_nil_of_le (Nat.le_refl _)] at hJ
  simp [hk,hk1,s5,d1,J0d]
  intro _
  refine hX _ _ ?_
  simp [uz3,←hJ]
end Go.Proofs.YtoclolkigjbcgaaGreat

/- Contracts: PreObligations of the reference. -/
import Derived.Test.YtoclolkigjbcgaaGreatWHE0
import Derived.Test.YtoclolkigjbcgaaGreatWT1
import Derived.Test.YtoclolkigjbcgaaGreatProg
import Derived.Test.YtoclolkigjbcgaaGreatWFF9
import Derived.Test.YtoclolkigjbcgaaGreatWC1
namespace Go.Proofs.YtoclolkigjbcgaaGreat
set_option maxRecDepth 40000
set_option maxHeartbeats 4000000
open Go Go.RowKit Go.Proofs
set_option linter.all false
def qo0:AC:=(.reg [Zo 1 (.boxv (.t 0)),Zo 2 (.mv (.k (.nil 4)))])
def qo1:AC:=(.reg [Zo 13 (.bsl 4 []),Zv 3 13])
def qo2:AC:=(.reg [Zl 14 true 2 1,Zc 15 122 [.t 14],Zv 4 15])
def K5x:AC:=(.draw (.op (Zl 23 true 2 1) (.op (Zv 24 4) (.op (Zv 25 5) (.op (Zo 26 (.ixa 2 (.t 24) (.t 25))) (.op (Zf 27 0 26) (.op (Zl 28 false 1 27) (.both (.op (Zc 29 171 [.t 23,.t 28]) (.op (Zv 22 29) (.op (Zo 30 (.ext (.t 22) 0)) (.op (Zo 31 (.ext (.t 22) 1)) (.op (Zo 6 (.box [(.int .i64 0),(.nil 2),(.nil 2),(.nil 1),(.int .i64 0),(.nil 1)])) (.hop ⟨no,.st 6 (.t 6) (.t 30),no⟩ [] (.op (Zv 7 31) .fin))))))) (.op (Zo 6 (.box [(.int .i64 0),(.nil 2),(.nil 2),(.nil 1),(.int .i64 0),(.nil 1)])) (.op (Zc 29 171 [.t 23,.t 28]) (.op (Zv 22 29) (.op (Zo 30 (.ext (.t 22) 0)) (.op (Zo 31 (.ext (.t 22) 1)) (.hop ⟨no,.st 6 (.t 6) (.t 30),no⟩ [] (.op (Zv 7 31) .fin)))))))))))))))
def K6x:AC:=(.draw (.op (Zl 33 true 2 1) (.op (Zl 34 true 2 1) (.op (Zv 35 4) (.op (Zv 36 5) (.op (Zo 37 (.ixa 2 (.t 35) (.t 36))) (.op (Zl 38 true 2 37) (.both (.op (Zc 39 173 [.t 34,.t 38]) (.both (.op (Zc 40 172 [.t 33,.t 39]) (.op (Zv 32 40) (.op (Zo 41 (.ext (.t 32) 0)) (.op (Zo 42 (.ext (.t 32) 1)) (.op (Zo 8 (.box [(.str []),(.nil 1),(.bool false),(.nil 2)])) (.hop ⟨no,.st 4 (.t 8) (.t 41),no⟩ [] (.op (Zv 9 42) .fin))))))) (.op (Zo 8 (.box [(.str []),(.nil 1),(.bool false),(.nil 2)])) (.op (Zc 40 172 [.t 33,.t 39]) (.op (Zv 32 40) (.op (Zo 41 (.ext (.t 32) 0)) (.op (Zo 42 (.ext (.t 32) 1)) (.hop ⟨no,.st 4 (.t 8) (.t 41),no⟩ [] (.op (Zv 9 42) .fin))))))))) (.op (Zo 8 (.box [(.str []),(.nil 1),(.bool false),(.nil 2)])) (.op (Zc 39 173 [.t 34,.t 38]) (.op (Zc 40 172 [.t 33,.t 39]) (.op (Zv 32 40) (.op (Zo 41 (.ext (.t 32) 0)) (.op (Zo 42 (.ext (.t 32) 1)) (.hop ⟨no,.st 4 (.t 8) (.t 41),no⟩ [] (.op (Zv 9 42) .fin))))))))))))))))
def K7t:AC:=(.draw (.op (Zl 51 true 6 6) (.op (Zf 52 3 8) (.op (Zl 53 false 1 52) (.op (Zv 54 10) (.op (Zo 55 (.ixa 2 (.t 53) (.t 54))) (.op (Zl 56 true 2 55) (.op (Zv 57 4) (.op (Zv 58 5) (.op (Zo 59 (.ixa 2 (.t 57) (.t 58))) (.op (Zf 60 1 59) (.op (Zl 61 false 1 60) (.both (.op (Zc 62 174 [.t 51,.t 56,.t 61]) (.op (Zv 50 62) (.op (Zo 63 (.ext (.t 50) 0)) (.op (Zo 64 (.ext (.t 50) 1)) (.op (Zo 11 (.box [(.int .i64 0),(.nil 1)])) (.hop ⟨no,.st 2 (.t 11) (.t 63),no⟩ [] (.op (Zv 12 64) .fin))))))) (.op (Zo 11 (.box [(.int .i64 0),(.nil 1)])) (.op (Zc 62 174 [.t 51,.t 56,.t 61]) (.op (Zv 50 62) (.op (Zo 63 (.ext (.t 50) 0)) (.op (Zo 64 (.ext (.t 50) 1)) (.hop ⟨no,.st 2 (.t 11) (.t 63),no⟩ [] (.op (Zv 12 64) .fin))))))))))))))))))))
def K7n:AC:=(.draw (.op (Zv 71 3) (.op (Zf 72 0 6) (.op (Zl 73 true 2 72) (.op (Zl 75 true 2 11) (.op (Zc 74 175 [.t 73]) (.op (Zo 76 (.build [(.int .i64 0),(.nil 2),(.int .i64 0),(.nil 1)] [(0,(2,(.t 74))),(2,(2,(.t 75)))])) (.hop (Zo 77 (.bsl 4 [.t 76])) [] (.hop (Zo 78 (.app 64 4 (.t 71) (.t 77))) [] (.hop (Zv 3 78) [] .fin))))))))))
def qoi:AC:=(.seq (.reg [Zo 10 (.mv (.k (.int .i64 0)))]) (.blk 2 (.loop (.seq (.seq (.reg [Zv 43 10,Zf 44 3 8,Zl 45 false 1 44,Zo 46 (.len false (.t 45)),Zo 47 (.bin .lss (.t 43) (.t 46))]) (.cond (.t 47) .skip (.exit 2))) (.seq (.blk 3 (.seq K7t (.seq (.seq (.reg [Zv 65 12,Zo 66 (.un .not (.t 65))]) (.cond (.t 66) (.reg [Zf 67 0 6,Zf 68 0 67,Zl 69 false 1 68,Zc 70 99 [(.k (.int .i64 (-1))),.t 69],⟨no,.st 2 (.t 11) (.t 70),no⟩]) .skip)) K7n))) (.reg [Zv 48 10,Zo 49 (.bin .add (.t 48) (.k (.int .i64 1))),Zv 10 49]))))))
def qo3:AC:=(.seq (.reg [Zo 5 (.mv (.k (.int .i64 0)))]) (.blk 0 (.loop (.seq (.seq (.reg [Zv 16 5,Zv 17 4,Zo 18 (.len false (.t 17)),Zo 19 (.bin .lss (.t 16) (.t 18))]) (.cond (.t 19) .skip (.exit 0))) (.seq (.blk 1 (.seq K5x (.seq K6x qoi))) (.reg [Zv 20 5,Zo 21 (.bin .add (.t 20) (.k (.int .i64 1))),Zv 5 21]))))))
def qo4:AC:=(.reg [Zv 79 3,Zv 2 79])
def a92:AFn:=⟨80,[.t 2],(.seq qo0 (.seq qo1 (.seq qo2 (.seq qo3 (.seq qo4 .ret)))))⟩
theorem a92_ok:J0a Tryz.prog Tryz.f92=some a92:=by kernel_rfl
section
variable {ks:List Kt}{s:Env}{h h':Heap}{n:Nat}{Q:Fin}
theorem Jq8 {md:DModel}{t:DLin}{acc:List DObligation}{v:AV}{k6 k11:Nat}(s3:s 3=v) (s6:s 6 = .ptr k6 0 0) (s11:s 11 = .ptr k11 0 0) (e6:h k6=some ⟨true,6,[J16 md]⟩) (L:J5e t k11 h n) (B:J3v 0 4 (acc.map J0i) v h n) (hw:J5x md.System.Rows≤1048576) (hl:acc.length≤3000000)
 (hK:∀ s' h' n',(∀ j∈[1,2,4,5,6,8,10],s' j=s j)→n≤n'→(∀ id z rows,id<n→h id=some ⟨true,z,rows⟩→h' id=h id)→J3v 0 4 ((acc++[(⟨md.System,t⟩:DObligation)]).map J0i) (s' 3) h' n'→J25 Tryz.prog ks .normal s' h' n' Q):rC Tryz.prog K7n ks s h n Q:=by
 obtain ⟨q,hkn,hqn,hkb,hqb⟩:=L
 have ne:¬q=n∧¬n=q∧¬n=n+1∧¬n+1=n∧¬n+1=q∧¬q=n+1:=by omega
 have fr:∀ id,id<n→¬id=n∧¬id=n+1∧¬id=n+1+1:=by intro id _;omega
 have hqv:∀ l,v ≠ .ref q 0 l:=fun l e=>by have:=(B.lt e).2.2.1;rw [hqb] at this;simp at this
 simp [K7n,s3,s6,s11,e6,hkb]
 first|refine J00 (Jif md.System hw) (by first|simp;done|rfl) ?_|refine J01 (Jif md.System hw) (by first|simp;done|rfl) ?_
 rintro r rfl
 simp [J3d,hqb,ne]
 refine J32 (rows:=acc.map J0i) (rows2:=[[.int .i64 md.System.N,.us 2 (md.System.Rows.map J07),.int .i64 t.Const,.us 1 (J0e t.Coeffs)]]) (B.keep (n':=n+1+1) (by omega) fun id _ hid e => ?_) (by simp) (fun l e=>by have:=(B.lt e).2.1;omega) (by omega) (by simp;unfold LIM;omega) ?_
 ·have:¬id=q:=fun e'=>hqv _ (by rw [←e'];exact e)
  simp [fr id hid,this]
 intro h1 f1 f2
 simp
 refine hK _ _ _ (by simp) (by omega) ?_ ?_
 ·intro id z rows h1' h3'
  have:¬id=q:=by rintro rfl;rw [hqb] at h3';simp at h3'
  rw [f2 id (by omega) (by omega) fun l e=>B.not_box h3' e];simp [fr id h1',this]
 ·simp
  exact .inr ⟨n+2,by omega,by omega,by simp,by simp [f1,J0i]⟩
theorem Jrn {p:DProgram}(hp:J0r p≤1048576) {i x y:Nat}(hi:i<(J1y p).length) (he:(J1y p)[i]=⟨x,y⟩) (s1:s 1 = .ptr 0 0 0) (s4:s 4 = .sl 2 ((J1y p).map J2f)) (s5:s 5 = .int .i64 i) (e0:h 0=some ⟨true,2,[J03 p]⟩)
 (hK:∀ s' h' ,(∀ j∈[1,2,3,4,5],s' j=s j)→s' 6 = .ptr n 0 0→h' n=some ⟨true,6,[J16 (Jhn p ⟨x,y⟩)]⟩→(∀ id,id<n→h' id=h id)→J25 Tryz.prog ks .normal s' h' (n+1) Q):rC Tryz.prog K5x ks s h n Q:=by
 have hmd:(Jcj p x).getD Jc8=Jhn p ⟨x,y⟩:=rfl
 simp [K5x,s1,s4,s5,e0,hi,he,J2f]
 have fr:∀ id,id<n→¬id=n:=by intro id _;omega
 constructor
 ·refine J4x (Jfd p hp x) (by simp) ?_
  rintro _ rfl
  unfold J59
  rw [hmd]
  generalize Jhn p ⟨x,y⟩=md at *
  simp
  exact hK _ _ (by simp) (by simp) (by simp) fun id hid=>by simp [fr id hid]
 ·refine J4x (Jfd p hp x) (by simp) ?_
  rintro _ rfl
  unfold J59
  rw [hmd]
  generalize Jhn p ⟨x,y⟩=md at *
  simp
  exact hK _ _ (by simp) (by simp) (by simp) fun id hid=>by simp [fr id hid]
theorem Jsg {p:DProgram}(hp:J0r p≤1048576) {i x y:Nat}(hi:i<(J1y p).length) (he:(J1y p)[i]=⟨x,y⟩) (hx:x<p.Rules.length) (hy:y<(p.Rules[x]).Calls.length) (s1:s 1 = .ptr 0 0 0) (s4:s 4 = .sl 2 ((J1y p).map J2f)) (s5:s 5 = .int .i64 i) (e0:h 0=some ⟨true,2,[J03 p]⟩)
 (hK:∀ s' h' ,(∀ j∈[1,2,3,4,5,6],s' j=s j)→s' 8 = .ptr n 0 0→h' n=some ⟨true,4,[J05 ((J1p p.Functions ((p.Rules[x]).Calls[y]).Func).getD fn0)]⟩→(∀ id,id<n→h' id=h id)→J25 Tryz.prog ks .normal s' h' (n+1) Q):rC Tryz.prog K6x ks s h n Q:=by
 have fr:∀ id,id<n→¬id=n:=by intro id _;omega
 simp [K6x,s1,s4,s5,e0,hi,he]
 constructor
 ·skip
  first|refine J00 (Jd7 p hx hy) (by first|simp [J03];done|rfl) ?_|refine J01 (Jd7 p hx hy) (by first|simp [J03];done|rfl) ?_
  rintro r rfl
  generalize ((p.Rules[x]).Calls[y]).Func=nm at *
  simp
  constructor
  ·refine J4x (J20 p nm hp) (by simp) ?_
   rintro _ rfl
   unfold J8q
   generalize (J1p p.Functions nm).getD fn0=g at *
   simp
   exact hK _ _ (by simp) (by simp) (by simp) fun id hid=>by simp [fr id hid]
  ·refine J4x (J20 p nm hp) (by simp) ?_
   rintro _ rfl
   unfold J8q
   generalize (J1p p.Functions nm).getD fn0=g at *
   simp
   exact hK _ _ (by simp) (by simp) (by simp) fun id hid=>by simp [fr id hid]
 ·skip
  first|refine J00 (Jd7 p hx hy) (by first|simp [J03];done|rfl) ?_|refine J01 (Jd7 p hx hy) (by first|simp [J03];done|rfl) ?_
  rintro r rfl
  generalize ((p.Rules[x]).Calls[y]).Func=nm at *
  simp
  ·refine J4x (J20 p nm hp) (by simp) ?_
   rintro _ rfl
   unfold J8q
   generalize (J1p p.Functions nm).getD fn0=g at *
   simp
   exact hK _ _ (by simp) (by simp) (by simp) fun id hid=>by simp [fr id hid]
theorem Jsh {md:DModel}{l:DLin}{g:DFunction}{el:List DEdge}{i j k6 k8:Nat}(hi:i<el.length) (hj:j<g.Pre.length) (s4:s 4 = .sl 2 (el.map J2f)) (s5:s 5 = .int .i64 i) (s6:s 6 = .ptr k6 0 0) (s8:s 8 = .ptr k8 0 0) (s10:s 10 = .int .i64 j) (e6:h k6=some ⟨true,6,[J16 md]⟩) (e8:h k8=some ⟨true,4,[J05 g]⟩) (hl:g.Pre[j]=l)
 (hK:∀ s' h' n',(∀ j∈[1,2,3,4,5,6,8,10],s' j=s j)→n≤n'→s' 12 = .bool (J4q md l (el[i]).Call).isSome→(∃ k,s' 11 = .ptr k 0 0∧n≤k∧J5e ((J4q md l (el[i]).Call).getD J1d) k h' n')→(∀ id,id<n→h' id=h id)→J25 Tryz.prog ks .normal s' h' n' Q):rC Tryz.prog K7t ks s h n Q:=by
 have fr:∀ id,id<n→¬id=n∧¬id=n+1:=by intro id _;omega
 have ne:¬n=n+1∧¬n+1=n:=by omega
 subst hl
 simp [K7t,s4,s5,s6,s8,s10,e6,e8,hi,hj,J2f,J05]
 generalize el[i]=e at *
 constructor
 ·skip
  first|refine J00 (J71 md (g.Pre[j]'hj) e.Call) (by first|simp;done|rfl) ?_|refine J01 (J71 md (g.Pre[j]'hj) e.Call) (by first|simp;done|rfl) ?_
  rintro r rfl
  rw [J0o]
  generalize (J4q md g.Pre[j] e.Call).getD J1d=t at *
  generalize (J4q md g.Pre[j] e.Call).isSome=b at *
  simp [J07,ne]
  exact hK _ _ _ (by simp) (by omega) (by simp) ⟨n+1,by simp,by omega,n,by omega,by omega,by simp,by simp [ne]⟩ fun id hid=>by simp [fr id hid]
 ·skip
  first|refine J00 (J71 md (g.Pre[j]'hj) e.Call) (by first|simp;done|rfl) ?_|refine J01 (J71 md (g.Pre[j]'hj) e.Call) (by first|simp;done|rfl) ?_
  rintro r rfl
  rw [J0o]
  generalize (J4q md g.Pre[j] e.Call).getD J1d=t at *
  generalize (J4q md g.Pre[j] e.Call).isSome=b at *
  simp [J07,ne]
  exact hK _ _ _ (by simp) (by omega) (by simp) ⟨n,by simp,by omega,n+1,by omega,by omega,by simp,by simp [ne]⟩ fun id hid=>by simp [fr id hid]
theorem Jww {md:DModel}{el:List DEdge}{i:Nat}{g:DFunction}{acc0 T:List DObligation}{k6 k8:Nat}{pr:List (List AV)}(hi:i<el.length) (s1:s 1 = .ptr 0 0 0) (s4:s 4 = .sl 2 (el.map J2f)) (s5:s 5 = .int .i64 i) (s6:s 6 = .ptr k6 0 0) (s8:s 8 = .ptr k8 0 0) (hk6:k6<n) (hk8:k8<n) (hk0:0<n) (e0:h 0=some ⟨true,2,pr⟩) (e6:h k6=some ⟨true,6,[J16 md]⟩) (e8:h k8=some ⟨true,4,[J05 g]⟩)
 (B:J3v 0 4 (acc0.map J0i) (s 3) h n) (hw:J5x md.System.Rows≤1048576) (hT:acc0++g.Pre.map (fun l=>Jm3 md l (el[i]).Call)=T) (hTl:T.length≤2097152) (hgl:g.Pre.length≤1048576)
 (hK:∀ s' h' n',(∀ j∈[1,2,4,5],s' j=s j)→0<n'→h' 0=some ⟨true,2,pr⟩→J3v 0 4 (T.map J0i) (s' 3) h' n'→J25 Tryz.prog ks .normal s' h' n' Q):rC Tryz.prog qoi ks s h n Q:=by
 simp [qoi]
 refine J0k [1,2,4,5,6,8] 10 g.Pre.length (fun j s h m=>k6<m∧k8<m∧0<m∧h 0=some ⟨true,2,pr⟩∧h k8=some ⟨true,4,[J05 g]⟩∧h k6=some ⟨true,6,[J16 md]⟩∧∃ acc,J3v 0 4 (acc.map J0i) (s 3) h m∧acc++(g.Pre.drop j).map (fun l=>Jm3 md l (el[i]).Call)=T) (by unfold LIM;omega) (by simp)
  ⟨hk6,hk8,hk0,e0,e8,e6,acc0,by simpa using B,by simpa using hT⟩ ?_ ?_
 ·rintro j st h m R hj hg hk s10 hw' ⟨m6,m8,m0,e0,e8,e6,acc,B,hJ⟩ hR _ _
  simp at hk
  rw [List.drop_eq_getElem_cons hj,List.map_cons] at hJ
  have hal:=congrArg List.length hJ
  simp at hal
  refine J09 (J0g [1,2,3,4,5,6,8,10] (fun s=>s 47 = .bool true) (by simp [hk,s8,s10,e8,J05,hj]) ?_)
  intro st1 hk1 s47
  simp at hk1
  refine J1u s47 (J09 (J0t ?_))
  generalize hl:g.Pre[j]=l at *
  refine J09 (Jsh (md:=md) (l:=l) (g:=g) (el:=el) (i:=i) (j:=j) (k6:=k6) (k8:=k8) hi hj (by simp [hk1,hk,s4]) (by simp [hk1,hk,s5]) (by simp [hk1,hk,s6]) (by simp [hk1,hk,s8]) (by simp [hk1,s10]) e6 e8 hl ?_)
  rintro st3 h3 n3 hk3 hn3 s12 ⟨k11,s11,hk11,q,y1,y2,y3,y4⟩ hfr3
  simp at hk3
  generalize (el[i]).Call=cl at *
  have z6:st3 6 = .ptr k6 0 0:=by simp [hk3,hk1,hk,s6]
  have d6:=hfr3 k6 m6
  rw [e6] at d6
  refine J53 (J17 [1,2,3,4,5,6,8,10,11] (fun s h4 n4=>n3≤n4∧J5e ((J4q md l cl).getD (J04 (-1) md.System.N)) k11 h4 n4∧∀ id,id<m→h4 id=h id) ?_ ?_)
  ·cases ht:J4q md l cl with
   | some t=>
    rw [ht] at s12 y3 y4
    simp [s12]
    exact ⟨⟨q,y1,y2,y3,y4⟩,hfr3⟩
   | none=>
    rw [ht] at s12
    simp only [Option.isSome_none] at s12
    have nk:¬k11=n3∧¬n3=k11:=by omega
    simp [s12,z6,d6,J16]
    first|refine J00 (J13 (-1) md.System.N) (by first|simp;done|rfl) ?_|refine J01 (J13 (-1) md.System.N) (by first|simp;done|rfl) ?_
    rintro r rfl
    generalize J04 (-1) md.System.N=t
    simp [J07,s11,nk,y3]
    refine ⟨⟨n3,by omega,by omega,by simp,by simp [nk]⟩,fun id hid => ?_⟩
    have:¬id=k11∧¬id=n3:=by omega
    simp [this,hfr3 id hid]
  rintro st4 h4 n4 hk4 ⟨hn4,L4,hfr4⟩
  simp at hk4
  have B4:J3v 0 4 (acc.map J0i) (st 3) h4 n4:=B.keep (by omega) fun id _ hid _=>hfr4 id hid
  refine Jq8 (md:=md) (t:=(J4q md l cl).getD (J04 (-1) md.System.N)) (acc:=acc) (v:=st 3) (k6:=k6) (k11:=k11) (by simp [hk4,hk3,hk1]) (by simp [hk4,z6]) (by simp [hk4,s11]) (by rw [hfr4 k6 m6,e6]) L4 B4 hw (by omega) ?_
  intro st5 h5 n5 hk5 hn5 bx5 B5
  simp at hk5
  simp [hk5,hk4,hk3,hk1,s10,hw']
  have f0:=hfr4 0 m0
  have f8:=hfr4 k8 m8
  have f6:=hfr4 k6 m6
  rw [e0] at f0
  rw [e8] at f8
  rw [e6] at f6
  refine hR _ _ _ (by simp [hk5,hk4,hk3,hk1,hk]) (by simp) ⟨by omega,by omega,by omega,by rw [bx5 0 _ _ (by omega) f0,f0],by rw [bx5 k8 _ _ (by omega) f8,f8],by rw [bx5 k6 _ _ (by omega) f6,f6],acc++[Jm3 md l cl],?_,by simpa using hJ⟩
  simp
  simpa [Jm3] using B5
 ·rintro st h m R hk s10 ⟨m6,m8,m0,e0,e8,e6,acc,B,hJ⟩ _ hX
  simp at hk
  rw [List.drop_eq_nil_of_le (by omega)] at hJ
  simp at hJ
  subst hJ
  refine J09 (J0g [1,2,3,4,5] (fun s=>s 47 = .bool false) (by simp [hk,s8,s10,e8,J05]) ?_)
  intro st1 hk1 s47
  simp at hk1
  refine J1s s47 ?_
  refine hX _ _ _ _ ?_
  simp
  refine hK _ _ _ (by simp [hk1,hk]) m0 e0 ?_
  rw [hk1.2.2.1];exact B
end
theorem J7k (p:DProgram) (hp:J0r p≤1048576):Holds Tryz.prog 92 [.agg (J03 p)] (fun x=>x = .us 4 ((Jgu p).map J0i)):=by
 have hTl:=Jbe p hp
 have hel:=Jaa p hp
 refine J02 Tryz.func92 a92_ok rfl (by simp [a92]) ?_
 simp [a92,qo0,qo1,qo2,J03]
 refine J7o (Jlv p hp) (by simp [J03]) ?_
 rintro _ rfl
 simp [qo3]
 unfold Jgu at hTl ⊢
 generalize hT:(J1y p).flatMap (J8h p)=T at *
 refine J0k [1,4] 5 (J1y p).length (fun i s h m=>0<m∧h 0=some ⟨true,2,[J03 p]⟩∧∃ acc,J3v 0 4 (acc.map J0i) (s 3) h m∧acc++((J1y p).drop i).flatMap (J8h p)=T) (by unfold LIM;omega) (by simp) ⟨by simp,by simp [J03],[],.inr ⟨1,by omega,by omega,by simp,by simp⟩,by simpa using hT⟩ ?_ ?_
 ·rintro i st h m R hi hg hk s5 hw' ⟨m0,e0,acc,B,hJ⟩ hR _ _
  simp at hk
  have hpo:=Jne hi
  rw [List.drop_eq_getElem_cons hi,List.flatMap_cons] at hJ
  obtain ⟨x,y,hx,hy,he,hf,ht0⟩:=Jf7 hi
  rw [←List.append_assoc] at hJ
  generalize hrest:List.flatMap (J8h p) (List.drop (i+1) (J1y p))=rest at hJ
  have hal:=congrArg List.length hJ
  simp only [List.length_append] at hal
  refine J09 (J0g [1,3,4,5] (fun s=>s 19 = .bool true) (by simp [hk,s5,hi]) ?_)
  intro st1 hk1 s19
  simp at hk1
  refine J1u s19 (J09 (J0t ?_))
  have hedge:(J8h p (J1y p)[i])=((Jcu p ⟨x,y⟩).map fun l=>Jm3 (Jhn p ⟨x,y⟩) l (y:Int)):=by rw [he];rfl
  rw [hedge] at hJ hal
  have hpa:Jcu p ⟨x,y⟩=((J1p p.Functions ((p.Rules[x]).Calls[y]).Func).getD fn0).Pre:=by unfold Jcu;rw [ht0]
  have hgl:(Jcu p ⟨x,y⟩).length≤1048576:=by
   rw [hpa]
   cases hfn:J1p p.Functions ((p.Rules[x]).Calls[y]).Func with
   | none=>simp [fn0]
   | some g=>have:=(Jni hpo hfn).2.2.2;simp only [Option.getD_some];omega
  have hmsz:=Jmw hpo (k:=y) hx
  have hcall:((J1y p)[i]).Call=(y:Int):=by rw [he]
  refine J09 (Jrn hp hi he (by simp [hk1,hk]) (by simp [hk1,hk]) (by simp [hk1,s5]) e0 ?_)
  intro st2 h2 hk2 s6 em hfr2
  simp at hk2
  refine J53 (J09 (Jsg hp hi he hx hy (by simp [hk2,hk1,hk]) (by simp [hk2,hk1,hk]) (by simp [hk2,hk1,s5]) (by rw [hfr2 0 m0,e0]) ?_))
  intro st3 h3 hk3 s8 e8 hfr3
  simp at hk3
  refine J53 (Jww (md:=Jhn p ⟨x,y⟩) (el:=J1y p) (i:=i) (g:=(J1p p.Functions ((p.Rules[x]).Calls[y]).Func).getD fn0) (acc0:=acc) (T:=acc++(Jcu p ⟨x,y⟩).map fun l=>Jm3 (Jhn p ⟨x,y⟩) l (y:Int)) (k6:=m) (k8:=m+1) (pr:=[J03 p]) hi (by simp [hk3,hk2,hk1,hk]) (by simp [hk3,hk2,hk1,hk]) (by simp [hk3,hk2,hk1,s5]) (by simp [hk3,s6]) s8 (by omega) (by omega) (by omega) (by rw [hfr3 0 (by omega),hfr2 0 m0,e0]) (by rw [hfr3 m (by omega),em]) e8 ?_ (by omega) (by rw [hpa,hcall]) (by simp only [List.length_append];omega) (by rw [←hpa];exact hgl) ?_)
  ·have:st3 3=st 3:=by simp [hk3,hk2,hk1]
   rw [this]
   exact B.keep (by omega) fun id _ hid _=>by rw [hfr3 id (by omega),hfr2 id hid]
  intro st6 h6 n6 hk6 hn6 e06 B6
  simp at hk6
  simp [hk6,hk3,hk2,hk1,s5,hw']
  refine hR _ _ _ (by simp [hk6,hk3,hk2,hk1,hk]) (by simp) ⟨by omega,e06,_,?_,by rw [hrest];exact hJ⟩
  simp only [Jm1 (show ¬3=5 by omega),Jm1 (show ¬3=20 by omega),Jm1 (show ¬3=21 by omega)]
  exact B6
 ·rintro st h m R hk s5 ⟨m0,e0,acc,B,hJ⟩ _ hX
  simp at hk
  rw [List.drop_eq_nil_of_le (by omega)] at hJ
  simp at hJ
  subst hJ
  refine J09 (J0g [3] (fun s=>s 19 = .bool false) (by simp [hk,s5]) ?_)
  intro st1 hk1 s19
  simp at hk1
  refine J1s s19 ?_
  refine hX _ _ _ _ ?_
  obtain ⟨h2,d1,_⟩:=B.dt
  simp [qo4,hk1,-dt,-dtl,d1]
def a80:AFn:= ⟨12,[.t 4],(.seq (.reg [Zo 4 (.mv (.k (.int .i64 0)))]) (.seq (.reg [Zv 5 1,Zv 6 0,Zo 7 (.len false (.t 6)),Zo 8 (.bin .sub (.t 5) (.t 7)),Zv 1 8]) (.seq (.seq (.reg [Zv 9 1,Zo 10 (.bin .lss (.t 9) (.k (.int .i64 0)))]) (.cond (.t 10) (.seq (.reg [Zo 4 (.mv (.k (.int .i64 (-1))))]) .ret) .skip)) (.seq (.reg [Zv 11 1,Zv 4 11]) .ret))))⟩
theorem a80_ok:J0a Tryz.prog Tryz.f80=some a80:=by kernel_rfl
def a83:AFn:= ⟨22,[.t 2],(.seq (.reg [Zo 2 (.mv (.k (.nil 1)))]) (.seq (.reg [Zv 5 0,Zo 6 (.len false (.t 5)),Zo 7 (.mks 8 [(.int .i64 0)] (.t 6) (.t 6)),Zv 3 7]) (.seq (.seq (.reg [Zo 4 (.mv (.k (.int .i64 0)))]) (.blk 0 (.loop (.seq (.seq (.reg [Zv 8 4,Zv 9 0,Zo 10 (.len false (.t 9)),Zo 11 (.bin .lss (.t 8) (.t 10))]) (.cond (.t 11) .skip (.exit 0))) (.seq (.blk 1 (.reg [Zv 14 3,Zv 15 4,Zv 16 0,Zv 17 4,Zo 18 (.ixa 1 (.t 16) (.t 17)),Zl 19 false 1 18,Zo 20 (.ixa 1 (.t 14) (.t 15)),⟨no,.st 1 (.t 20) (.t 19),no⟩])) (.reg [Zv 12 4,Zo 13 (.bin .add (.t 12) (.k (.int .i64 1))),Zv 4 13])))))) (.seq (.reg [Zv 21 3,Zv 2 21]) .ret))))⟩
theorem a83_ok:J0a Tryz.prog Tryz.f83=some a83:=by kernel_rfl
def a87:AFn:= ⟨26,[.t 4],(.seq (.reg [Zo 4 (.mv (.k (.bool false)))]) (.seq (.seq (.reg [Zv 6 0,Zo 7 (.len false (.t 6)),Zv 8 1,Zo 9 (.len false (.t 8)),Zo 10 (.bin .neq (.t 7) (.t 9))]) (.cond (.t 10) (.seq (.reg [Zo 4 (.mv (.k (.bool false)))]) .ret) .skip)) (.seq (.seq (.reg [Zo 5 (.mv (.k (.int .i64 0)))]) (.blk 0 (.loop (.seq (.seq (.reg [Zv 11 5,Zv 12 0,Zo 13 (.len false (.t 12)),Zo 14 (.bin .lss (.t 11) (.t 13))]) (.cond (.t 14) .skip (.exit 0))) (.seq (.blk 1 (.seq (.draw (.op (Zv 17 0) (.op (Zv 18 5) (.op (Zo 19 (.ixa 1 (.t 17) (.t 18))) (.op (Zl 20 false 1 19) (.op (Zv 21 1) (.op (Zv 22 5) (.op (Zo 23 (.ixa 1 (.t 21) (.t 22))) (.op (Zl 24 false 1 23) (.op (Zo 25 (.bin .neq (.t 20) (.t 24))) .fin)))))))))) (.cond (.t 25) (.seq (.reg [Zo 4 (.mv (.k (.bool false)))]) .ret) .skip))) (.reg [Zv 15 5,Zo 16 (.bin .add (.t 15) (.k (.int .i64 1))),Zv 5 16])))))) (.seq (.reg [Zo 4 (.mv (.k (.bool true)))]) .ret))))⟩
theorem a87_ok:J0a Tryz.prog Tryz.f87=some a87:=by kernel_rfl
def a211:AFn:= ⟨28,[.t 4],(.seq (.reg [Zo 4 (.mv (.k (.int .i64 0)))]) (.seq (.reg [Zv 6 1,Zv 7 0,Zo 8 (.len false (.t 7)),Zo 9 (.bin .sub (.t 6) (.t 8)),Zv 1 9]) (.seq (.seq (.reg [Zv 10 1,Zo 11 (.bin .lss (.t 10) (.k (.int .i64 0)))]) (.cond (.t 11) (.seq (.reg [Zo 4 (.mv (.k (.int .i64 (-1))))]) .ret) .skip)) (.seq (.seq (.reg [Zo 5 (.mv (.k (.int .i64 0)))]) (.blk 0 (.loop (.seq (.seq (.reg [Zv 12 5,Zv 13 0,Zo 14 (.len false (.t 13)),Zo 15 (.bin .lss (.t 12) (.t 14))]) (.cond (.t 15) .skip (.exit 0))) (.seq (.blk 1 (.seq (.reg [Zv 18 1,Zv 19 0,Zv 20 5,Zo 21 (.ixa 1 (.t 19) (.t 20)),Zl 22 false 1 21,Zo 23 (.len true (.t 22)),Zo 24 (.bin .sub (.t 18) (.t 23)),Zv 1 24]) (.seq (.reg [Zv 25 1,Zo 26 (.bin .lss (.t 25) (.k (.int .i64 0)))]) (.cond (.t 26) (.seq (.reg [Zo 4 (.mv (.k (.int .i64 (-1))))]) .ret) .skip)))) (.reg [Zv 16 5,Zo 17 (.bin .add (.t 16) (.k (.int .i64 1))),Zv 5 17])))))) (.seq (.reg [Zv 27 1,Zv 4 27]) .ret)))))⟩
theorem a211_ok:J0a Tryz.prog Tryz.f211=some a211:=by kernel_rfl
def a225:AFn:= ⟨22,[.t 2],(.seq (.reg [Zo 2 (.mv (.k (.nil 1)))]) (.seq (.reg [Zv 5 0,Zo 6 (.len false (.t 5)),Zo 7 (.mks 16 [(.str [])] (.t 6) (.t 6)),Zv 3 7]) (.seq (.seq (.reg [Zo 4 (.mv (.k (.int .i64 0)))]) (.blk 0 (.loop (.seq (.seq (.reg [Zv 8 4,Zv 9 0,Zo 10 (.len false (.t 9)),Zo 11 (.bin .lss (.t 8) (.t 10))]) (.cond (.t 11) .skip (.exit 0))) (.seq (.blk 1 (.reg [Zv 14 3,Zv 15 4,Zv 16 0,Zv 17 4,Zo 18 (.ixa 1 (.t 16) (.t 17)),Zl 19 false 1 18,Zo 20 (.ixa 1 (.t 14) (.t 15)),⟨no,.st 1 (.t 20) (.t 19),no⟩])) (.reg [Zv 12 4,Zo 13 (.bin .add (.t 12) (.k (.int .i64 1))),Zv 4 13])))))) (.seq (.reg [Zv 21 3,Zv 2 21]) .ret))))⟩
theorem a225_ok:J0a Tryz.prog Tryz.f225=some a225:=by kernel_rfl
def a73:AFn:= ⟨26,[.t 4],(.seq (.reg [Zo 4 (.mv (.k (.bool false)))]) (.seq (.seq (.reg [Zv 6 0,Zo 7 (.len false (.t 6)),Zv 8 1,Zo 9 (.len false (.t 8)),Zo 10 (.bin .neq (.t 7) (.t 9))]) (.cond (.t 10) (.seq (.reg [Zo 4 (.mv (.k (.bool false)))]) .ret) .skip)) (.seq (.seq (.reg [Zo 5 (.mv (.k (.int .i64 0)))]) (.blk 0 (.loop (.seq (.seq (.reg [Zv 11 5,Zv 12 0,Zo 13 (.len false (.t 12)),Zo 14 (.bin .lss (.t 11) (.t 13))]) (.cond (.t 14) .skip (.exit 0))) (.seq (.blk 1 (.seq (.draw (.op (Zv 17 0) (.op (Zv 18 5) (.op (Zo 19 (.ixa 1 (.t 17) (.t 18))) (.op (Zl 20 false 1 19) (.op (Zv 21 1) (.op (Zv 22 5) (.op (Zo 23 (.ixa 1 (.t 21) (.t 22))) (.op (Zl 24 false 1 23) (.op (Zo 25 (.bin .neq (.t 20) (.t 24))) .fin)))))))))) (.cond (.t 25) (.seq (.reg [Zo 4 (.mv (.k (.bool false)))]) .ret) .skip))) (.reg [Zv 15 5,Zo 16 (.bin .add (.t 15) (.k (.int .i64 1))),Zv 5 16])))))) (.seq (.reg [Zo 4 (.mv (.k (.bool true)))]) .ret))))⟩
theorem a73_ok:J0a Tryz.prog Tryz.f73=some a73:=by kernel_rfl
def a21:AFn:= ⟨12,[.t 4],(.seq (.reg [Zo 2 (.boxv (.t 0)),Zo 4 (.mv (.k (.int .i64 0)))]) (.seq (.reg [Zf 5 1 2,Zl 6 false 1 5,Zv 7 1,Zc 8 80 [.t 6,.t 7],Zv 1 8]) (.seq (.seq (.reg [Zv 9 1,Zo 10 (.bin .lss (.t 9) (.k (.int .i64 0)))]) (.cond (.t 10) (.seq (.reg [Zo 4 (.mv (.k (.int .i64 (-1))))]) .ret) .skip)) (.seq (.reg [Zv 11 1,Zv 4 11]) .ret))))⟩
theorem a21_ok:J0a Tryz.prog Tryz.f21=some a21:=by kernel_rfl
def a23:AFn:= ⟨12,[(.c 2 true 2)],(.seq (.reg [Zo 1 (.boxv (.t 0)),Zo 2 (.box [(.int .i64 0),(.nil 1)])]) (.seq (.reg [Zo 3 (.box [(.int .i64 0),(.nil 1)])]) (.seq (.reg [Zf 4 0 1,Zl 5 false 1 4,Zf 6 0 3,⟨no,.st 1 (.t 6) (.t 5),no⟩]) (.seq (.reg [Zf 7 1 1,Zl 8 false 1 7,Zc 9 83 [.t 8],Zf 10 1 3,⟨no,.st 1 (.t 10) (.t 9),no⟩]) (.seq (.reg [Zl 11 true 2 3,⟨no,.st 2 (.t 2) (.t 11),no⟩]) .ret)))))⟩
theorem a23_ok:J0a Tryz.prog Tryz.f23=some a23:=by kernel_rfl
def a25:AFn:= ⟨16,[.t 4],(.seq (.reg [Zo 2 (.boxv (.t 0)),Zo 3 (.boxv (.t 1)),Zo 4 (.mv (.k (.bool false)))]) (.seq (.seq (.reg [Zf 5 0 2,Zl 6 false 1 5,Zf 7 0 3,Zl 8 false 1 7,Zo 9 (.bin .neq (.t 6) (.t 8))]) (.cond (.t 9) (.seq (.reg [Zo 4 (.mv (.k (.bool false)))]) .ret) .skip)) (.seq (.seq (.reg [Zf 10 1 2,Zl 11 false 1 10,Zf 12 1 3,Zl 13 false 1 12,Zc 14 87 [.t 11,.t 13],Zo 15 (.un .not (.t 14))]) (.cond (.t 15) (.seq (.reg [Zo 4 (.mv (.k (.bool false)))]) .ret) .skip)) (.seq (.reg [Zo 4 (.mv (.k (.bool true)))]) .ret))))⟩
theorem a25_ok:J0a Tryz.prog Tryz.f25=some a25:=by kernel_rfl
theorem Jqa (l:List Int) (left:Int) (h0:0≤left∧left≤4611686018427387904):Holds Tryz.prog 80 [.sl 1 (J0e l),i64 left] (fun r=>r=i64 (J3a left (Jlx l))):=by
 refine J02 Tryz.func80 a80_ok rfl (by simp [a80]) ?_
 simp [a80]
 unfold LIM
 intro h1
 rw [J19 (by omega)]
 unfold J3a Jlx
 exact ⟨fun h=>by rw [if_pos h],fun h=>by rw [if_neg (by omega)]⟩
theorem Jq5 (a:List Int) (hw:Jlx a≤1048576):Holds Tryz.prog 83 [.sl 1 (J0e a)] (fun r=>r = .us 1 (J0e a)):=by
 unfold Jlx at hw
 refine J02 Tryz.func83 a83_ok rfl (by simp [a83]) ?_
 simp [a83]
 intro h1
 refine ⟨by unfold LIM;omega,Jb2 (fun k s h n=>∃ (i:Nat) (rows:List (List AV)),k=a.length - i∧i≤a.length∧s 0=K1d a∧s 3 = .ref 0 0 a.length∧s 4=i64 i∧h=upd J79 0 (some ⟨false,1,rows⟩)∧n=1 ∧
  rows.length=a.length∧(∀ j,j<i→rows[j]? = (J0e a)[j]?)∧(∀ j (hj:j<rows.length),rows[j].length=1)) a.length ⟨0,List.replicate a.length [i64 0],by simp⟩ ?_⟩
 rintro k s h n ⟨i,rows,rfl,hi,s0,s3,s4,rfl,rfl,hr,hj,hc⟩
 by_cases hlt:i<a.length
 ·have hm:=hc i (by omega)
  have htl:rows[i].tail=[]:=List.eq_nil_of_length_eq_zero (by simp [hm])
  simp [s0,s3,s4,hlt,hr,hm]
  intro _
  refine ⟨a.length - (i+1),by omega,i+1,rfl,by omega,by rw [J19 (by omega)];rfl,rows.set i [i64 a[i]],by simp [htl],by simp [hr],fun j hj' => ?_,fun j hj' => ?_⟩
  ·rw [List.getElem?_set]
   by_cases hji:i=j
   ·subst hji;simp [hr,hlt]
   ·rw [if_neg hji];simpa using hj j (by omega)
  ·rw [List.getElem_set]
   split
   ·rfl
   ·exact hc j (by simpa using hj')
 ·simp [s0,s3,s4,hlt,hr]
  intro _
  have:rows=J0e a:=List.ext_getElem? fun j=>by
   by_cases hji:j<i
   ·exact hj j hji
   ·rw [List.getElem?_eq_none (by omega),List.getElem?_eq_none (by simp;omega)]
  subst this
  simp [List.take_of_length_le]
theorem Jsr (a b:List Int):Holds Tryz.prog 87 [.sl 1 (J0e a),.sl 1 (J0e b)] (fun r=>r = .bool (decide (a=b))):=by
 refine J02 Tryz.func87 a87_ok rfl (by simp [a87]) ?_
 simp [a87]
 intro h1 h2
 refine ⟨fun h e=>h (by rw [e]),fun hl=>Jb2 (fun k s h n=>∃ i:Nat,k=a.length - i∧i≤a.length∧s 0=K1d a∧s 1=K1d b∧s 5=i64 i∧(∀ j,j<i→a[j]? = b[j]?)∧h=J79∧n=0) a.length ⟨0,by simp⟩ ?_⟩
 rintro k s h n ⟨i,rfl,hi,s0,s1,s5,hj,rfl,rfl⟩
 have hl:a.length=b.length:=by omega
 by_cases hlt:i<a.length
 ·have hlt':i<b.length:=by omega
  unfold LIM at h1
  simp [s0,s1,s5,hlt,hlt']
  intro _
  refine ⟨fun h e=>h (by subst e;rfl),fun e=>⟨a.length - (i+1),by omega,i+1,rfl,by omega,by rw [J19 (by omega)];rfl,fun j hj' => ?_⟩⟩
  by_cases hji:j=i
  ·subst hji;simp [hlt,hlt',e]
  ·exact hj j (by omega)
 ·simp [s0,s1,s5,hlt]
  intro _
  refine List.ext_getElem? fun j => ?_
  by_cases hji:j<i
  ·exact hj j hji
  ·rw [List.getElem?_eq_none (by omega),List.getElem?_eq_none (by omega)]
theorem Jiw (l:List Str) (left:Int) (h0:0≤left∧left≤4611686018427387904):Holds Tryz.prog 211 [.sl 1 (J0d l),i64 left] (fun r=>r=i64 (J3a left (J44 l))):=by
 rw [show J44 l=wL List.length l from rfl,←J6c (w:=List.length) (g:=fun x lf=>J3a lf x.length) (fun _ _ _=>rfl) l left h0.1]
 refine J02 Tryz.func211 a211_ok rfl (by simp [a211]) ?_
 simp [a211]
 intro h1
 unfold LIM at h1
 unfold szL
 rw [J19 (by omega)]
 refine ⟨fun h=>by rw [if_pos (by omega)],fun h=>Jb2 (fun k s h n=>∃ (i:Nat) (lf:Int),k=l.length - i∧i≤l.length∧s 0=strs l∧s 1=i64 lf∧s 5=i64 i∧0≤lf∧lf≤left∧J7u (fun (x:Str) lf=>J3a lf x.length) (l.drop i) lf=J7u (fun (x:Str) lf=>J3a lf x.length) l (left - l.length)∧h=J79∧n=0) l.length ⟨0,left - l.length,by simp;omega⟩ ?_⟩
 rintro k s h n ⟨i,lf,rfl,hi,s0,s1,s5,hf,hlf,hj,rfl,rfl⟩
 rw [if_neg (by omega),←hj]
 by_cases hlt:i<l.length
 ·rw [List.drop_eq_getElem_cons hlt] at hj ⊢
  simp only [J7u] at hj ⊢
  simp [s0,s1,s5,hlt]
  intro _ h2
  unfold LIM at h2
  rw [J19 (by omega)]
  by_cases hx:lf - (l[i].length:Int)<0
  ·rw [Jde hx]
   simp;exact fun h=>by omega
  ·rw [Jk9 hx] at hj ⊢
   rw [if_neg hx] at hj ⊢
   refine ⟨fun h=>by omega,fun _=>⟨l.length - (i+1),by omega,i+1,rfl,by omega,by rw [J19 (by omega)];rfl,by omega,by omega,rfl⟩⟩
 ·rw [List.drop_eq_nil_of_le (by omega)] at hj ⊢
  simp [s0,s1,s5,hlt,J7u]
theorem Jjn (a:List Str) (hw:J44 a≤1048576):Holds Tryz.prog 225 [.sl 1 (J0d a)] (fun r=>r = .us 1 (J0d a)):=by
 have hw:=Nat.le_trans (J2b _ _) hw
 refine J02 Tryz.func225 a225_ok rfl (by simp [a225]) ?_
 simp [a225]
 intro h1
 refine ⟨by unfold LIM;omega,Jb2 (fun k s h n=>∃ (i:Nat) (rows:List (List AV)),k=a.length - i∧i≤a.length∧s 0=strs a∧s 3 = .ref 0 0 a.length∧s 4=i64 i∧h=upd J79 0 (some ⟨false,1,rows⟩)∧n=1 ∧
  rows.length=a.length∧(∀ j,j<i→rows[j]? = (J0d a)[j]?)∧(∀ j (hj:j<rows.length),rows[j].length=1)) a.length ⟨0,List.replicate a.length [.str []],by simp⟩ ?_⟩
 rintro k s h n ⟨i,rows,rfl,hi,s0,s3,s4,rfl,rfl,hr,hj,hc⟩
 by_cases hlt:i<a.length
 ·have hm:=hc i (by omega)
  have htl:rows[i].tail=[]:=List.eq_nil_of_length_eq_zero (by simp [hm])
  simp [s0,s3,s4,hlt,hr,hm]
  intro _
  refine ⟨a.length - (i+1),by omega,i+1,rfl,by omega,by rw [J19 (by omega)];rfl,rows.set i [.str a[i]],by simp [htl],by simp [hr],fun j hj' => ?_,fun j hj' => ?_⟩
  ·rw [List.getElem?_set]
   by_cases hji:i=j
   ·subst hji;simp [hr,hlt]
   ·rw [if_neg hji];simpa using hj j (by omega)
  ·rw [List.getElem_set]
   split
   ·rfl
   ·exact hc j (by simpa using hj')
 ·simp [s0,s3,s4,hlt,hr]
  intro _
  have:rows=J0d a:=List.ext_getElem? fun j=>by
   by_cases hji:j<i
   ·exact hj j hji
   ·rw [List.getElem?_eq_none (by omega),List.getElem?_eq_none (by simp;omega)]
  subst this
  simp [List.take_of_length_le]
theorem Jj9 (a b:List Str):Holds Tryz.prog 73 [.sl 1 (J0d a),.sl 1 (J0d b)] (fun r=>r = .bool (decide (a=b))):=by
 refine J02 Tryz.func73 a73_ok rfl (by simp [a73]) ?_
 simp [a73]
 intro h1 h2
 refine ⟨fun h e=>h (by rw [e]),fun hl=>Jb2 (fun k s h n=>∃ i:Nat,k=a.length - i∧i≤a.length∧s 0=strs a∧s 1=strs b∧s 5=i64 i∧(∀ j,j<i→a[j]? = b[j]?)∧h=J79∧n=0) a.length ⟨0,by simp⟩ ?_⟩
 rintro k s h n ⟨i,rfl,hi,s0,s1,s5,hj,rfl,rfl⟩
 have hl:a.length=b.length:=by omega
 by_cases hlt:i<a.length
 ·have hlt':i<b.length:=by omega
  unfold LIM at h1
  simp [s0,s1,s5,hlt,hlt']
  intro _
  refine ⟨fun h e=>h (by subst e;rfl),fun e=>⟨a.length - (i+1),by omega,i+1,rfl,by omega,by rw [J19 (by omega)];rfl,fun j hj' => ?_⟩⟩
  by_cases hji:j=i
  ·subst hji;simp [hlt,hlt',e]
  ·exact hj j (by omega)
 ·simp [s0,s1,s5,hlt]
  intro _
  refine List.ext_getElem? fun j => ?_
  by_cases hji:j<i
  ·exact hj j hji
  ·rw [List.getElem?_eq_none (by omega),List.getElem?_eq_none (by omega)]
theorem Jxe (x:DLin) (left:Int) (h0:0≤left∧left≤4611686018427387904):Holds Tryz.prog 21 [.agg (J06 x),i64 left] (fun r=>r=i64 (J3a left (J9z x))):=by
 refine J02 Tryz.func21 a21_ok rfl (by simp [a21]) ?_
 simp [a21,J06]
 have e0:J9z x=J9z x:=rfl
 conv at e0=>rhs;unfold J9z
 refine J01 (Jqa x.Coeffs left (by omega)) (by simp) ?_
 rintro r rfl
 by_cases h1:left - (Jlx x.Coeffs:Nat)<0
 case pos=>
  have q:left - (J9z x:Int)<0:=by omega
  simp [J3a,h1,q]
  try first|omega|(constructor <;> intros <;> omega)
 simp [J3a,h1]
 try (rw [if_neg (by omega)];omega)
theorem Jv2 (x:DLin) (_hw:J9z x≤1048576):Holds Tryz.prog 23 [.agg (J06 x)] (fun r=>r = .agg (J07 x)):=by
 have hw:=_hw;unfold J9z at hw
 refine J02 Tryz.func23 a23_ok rfl (by simp [a23]) ?_
 simp [a23,J06]
 refine J01 (Jq5 x.Coeffs (by omega)) (by simp []) ?_
 rintro r rfl
 simp []
 try simp [J07]
theorem Jwg (x y:DLin):Holds Tryz.prog 25 [.agg (J06 x),.agg (J06 y)] (fun r=>r = .bool (decide (x=y))):=by
 refine J02 Tryz.func25 a25_ok rfl (by simp [a25]) ?_
 simp [a25,J06]
 by_cases h0:x.Const=y.Const
 case neg=>simp [h0];try exact fun e=>h0 (by rw [e])
 simp [h0]
 refine J01 (Jsr x.Coeffs y.Coeffs) (by simp []) ?_
 rintro r rfl
 by_cases h1:x.Coeffs=y.Coeffs
 case neg=>simp [h1];try exact fun e=>h1 (by rw [e])
 simp [h1]
 cases x;cases y;simp_all
theorem a95_ok:J0a Tryz.prog Tryz.f95=some (tSz true 2 21):=by kernel_rfl
theorem Jpu (l:List DLin) (left:Int) (h0:0≤left∧left≤4611686018427387904):Holds Tryz.prog 95 [.sl 2 (l.map J06),i64 left] (fun r=>r=i64 (J3a left (J5x l))):=by
 rw [show J5x l=wL J9z l from rfl,←J6c (w:=J9z) (g:=fun x lf=>J3a lf (J9z x)) (fun _ _ _=>rfl) l left h0.1]
 exact J5u Tryz.func95 a95_ok rfl (rowOf:=J06) (eltOf:=(fun x => .agg (J06 x))) (fun x=>by simp [J06]) (fun x h=>by simp [J06]) (fun x lf h=>J93 h) l left h0 (fun x lf _ hl=>Jxe x lf hl)
theorem a101_ok:J0a Tryz.prog Tryz.f101=some (tTo true 2 32 23 [.int .i64 0,.nil 1]):=by kernel_rfl
theorem Jqm (l:List DLin) (hw:J5x l≤1048576):Holds Tryz.prog 101 [.sl 2 (l.map J06)] (fun r=>r = .us 2 (l.map J07)):=
 J5y Tryz.func101 a101_ok rfl (rowOf:=J06) (eltOf:=(fun x => .agg (J06 x))) (eltU:=(fun x => .agg (J07 x))) (fun x=>by simp [J06]) (fun x h=>by simp [J06]) (fun x=>by simp) (fun x=>by simp [J07]) (fun x=>by simp [J07]) rfl l (by have:=J2b J9z l;unfold J5x at hw;unfold LIM;omega) (fun x h=>Jv2 x (by have:=J3o (w:=J9z) h;unfold J5x at hw;omega))
theorem a107_ok:J0a Tryz.prog Tryz.f107=some (tEq true 2 25):=by kernel_rfl
theorem Jsf (l m:List DLin):Holds Tryz.prog 107 [.sl 2 (l.map J06),.sl 2 (m.map J06)] (fun r=>r = .bool (decide (l=m))):=by
 rw [←J82]
 exact J60 Tryz.func107 a107_ok rfl (rowOf:=J06) (eltOf:=(fun x => .agg (J06 x))) (fun x=>by simp [J06]) (fun x h=>by simp [J06]) l m (fun x y _ _=>Jwg x y)
def a332:AFn:= ⟨13,[.t 4],(.seq (.reg [Zo 2 (.boxv (.t 0)),Zo 4 (.mv (.k (.int .i64 0)))]) (.seq (.reg [Zv 5 1,Zf 6 1 2,Zl 7 false 1 6,Zo 8 (.len true (.t 7)),Zo 9 (.bin .sub (.t 5) (.t 8)),Zv 1 9]) (.seq (.seq (.reg [Zv 10 1,Zo 11 (.bin .lss (.t 10) (.k (.int .i64 0)))]) (.cond (.t 11) (.seq (.reg [Zo 4 (.mv (.k (.int .i64 (-1))))]) .ret) .skip)) (.seq (.reg [Zv 12 1,Zv 4 12]) .ret))))⟩
theorem a332_ok:J0a Tryz.prog Tryz.f332=some a332:=by kernel_rfl
def a334:AFn:= ⟨11,[(.c 2 true 2)],(.seq (.reg [Zo 1 (.boxv (.t 0)),Zo 2 (.box [(.int .i64 0),(.str [])])]) (.seq (.reg [Zo 3 (.box [(.int .i64 0),(.str [])])]) (.seq (.reg [Zf 4 0 1,Zl 5 false 1 4,Zf 6 0 3,⟨no,.st 1 (.t 6) (.t 5),no⟩]) (.seq (.reg [Zf 7 1 1,Zl 8 false 1 7,Zf 9 1 3,⟨no,.st 1 (.t 9) (.t 8),no⟩]) (.seq (.reg [Zl 10 true 2 3,⟨no,.st 2 (.t 2) (.t 10),no⟩]) .ret)))))⟩
theorem a334_ok:J0a Tryz.prog Tryz.f334=some a334:=by kernel_rfl
def a337:AFn:= ⟨15,[.t 4],(.seq (.reg [Zo 2 (.boxv (.t 0)),Zo 3 (.boxv (.t 1)),Zo 4 (.mv (.k (.bool false)))]) (.seq (.seq (.reg [Zf 5 0 2,Zl 6 false 1 5,Zf 7 0 3,Zl 8 false 1 7,Zo 9 (.bin .neq (.t 6) (.t 8))]) (.cond (.t 9) (.seq (.reg [Zo 4 (.mv (.k (.bool false)))]) .ret) .skip)) (.seq (.seq (.reg [Zf 10 1 2,Zl 11 false 1 10,Zf 12 1 3,Zl 13 false 1 12,Zo 14 (.bin .neq (.t 11) (.t 13))]) (.cond (.t 14) (.seq (.reg [Zo 4 (.mv (.k (.bool false)))]) .ret) .skip)) (.seq (.reg [Zo 4 (.mv (.k (.bool true)))]) .ret))))⟩
theorem a337_ok:J0a Tryz.prog Tryz.f337=some a337:=by kernel_rfl
def a283:AFn:= ⟨12,[.t 4],(.seq (.reg [Zo 2 (.boxv (.t 0)),Zo 4 (.mv (.k (.int .i64 0)))]) (.seq (.reg [Zf 5 1 2,Zl 6 false 1 5,Zv 7 1,Zc 8 314 [.t 6,.t 7],Zv 1 8]) (.seq (.seq (.reg [Zv 9 1,Zo 10 (.bin .lss (.t 9) (.k (.int .i64 0)))]) (.cond (.t 10) (.seq (.reg [Zo 4 (.mv (.k (.int .i64 (-1))))]) .ret) .skip)) (.seq (.reg [Zv 11 1,Zv 4 11]) .ret))))⟩
theorem a283_ok:J0a Tryz.prog Tryz.f283=some a283:=by kernel_rfl
def a290:AFn:= ⟨12,[(.c 2 true 2)],(.seq (.reg [Zo 1 (.boxv (.t 0)),Zo 2 (.box [(.int .i64 0),(.nil 2)])]) (.seq (.reg [Zo 3 (.box [(.int .i64 0),(.nil 2)])]) (.seq (.reg [Zf 4 0 1,Zl 5 false 1 4,Zf 6 0 3,⟨no,.st 1 (.t 6) (.t 5),no⟩]) (.seq (.reg [Zf 7 1 1,Zl 8 false 1 7,Zc 9 320 [.t 8],Zf 10 1 3,⟨no,.st 1 (.t 10) (.t 9),no⟩]) (.seq (.reg [Zl 11 true 2 3,⟨no,.st 2 (.t 2) (.t 11),no⟩]) .ret)))))⟩
theorem a290_ok:J0a Tryz.prog Tryz.f290=some a290:=by kernel_rfl
def a301:AFn:= ⟨16,[.t 4],(.seq (.reg [Zo 2 (.boxv (.t 0)),Zo 3 (.boxv (.t 1)),Zo 4 (.mv (.k (.bool false)))]) (.seq (.seq (.reg [Zf 5 0 2,Zl 6 false 1 5,Zf 7 0 3,Zl 8 false 1 7,Zo 9 (.bin .neq (.t 6) (.t 8))]) (.cond (.t 9) (.seq (.reg [Zo 4 (.mv (.k (.bool false)))]) .ret) .skip)) (.seq (.seq (.reg [Zf 10 1 2,Zl 11 false 1 10,Zf 12 1 3,Zl 13 false 1 12,Zc 14 326 [.t 11,.t 13],Zo 15 (.un .not (.t 14))]) (.cond (.t 15) (.seq (.reg [Zo 4 (.mv (.k (.bool false)))]) .ret) .skip)) (.seq (.reg [Zo 4 (.mv (.k (.bool true)))]) .ret))))⟩
theorem a301_ok:J0a Tryz.prog Tryz.f301=some a301:=by kernel_rfl
def a215:AFn:= ⟨19,[.t 4],(.seq (.reg [Zo 2 (.boxv (.t 0)),Zo 4 (.mv (.k (.int .i64 0)))]) (.seq (.reg [Zf 5 1 2,Zl 6 false 1 5,Zv 7 1,Zc 8 213 [.t 6,.t 7],Zv 1 8]) (.seq (.seq (.reg [Zv 9 1,Zo 10 (.bin .lss (.t 9) (.k (.int .i64 0)))]) (.cond (.t 10) (.seq (.reg [Zo 4 (.mv (.k (.int .i64 (-1))))]) .ret) .skip)) (.seq (.reg [Zv 11 1,Zf 12 2 2,Zl 13 false 1 12,Zo 14 (.len true (.t 13)),Zo 15 (.bin .sub (.t 11) (.t 14)),Zv 1 15]) (.seq (.seq (.reg [Zv 16 1,Zo 17 (.bin .lss (.t 16) (.k (.int .i64 0)))]) (.cond (.t 17) (.seq (.reg [Zo 4 (.mv (.k (.int .i64 (-1))))]) .ret) .skip)) (.seq (.reg [Zv 18 1,Zv 4 18]) .ret))))))⟩
theorem a215_ok:J0a Tryz.prog Tryz.f215=some a215:=by kernel_rfl
def a229:AFn:= ⟨15,[(.c 2 true 3)],(.seq (.reg [Zo 1 (.boxv (.t 0)),Zo 2 (.box [(.bool false),(.nil 2),(.str [])])]) (.seq (.reg [Zo 3 (.box [(.bool false),(.nil 2),(.str [])])]) (.seq (.reg [Zf 4 0 1,Zl 5 false 1 4,Zf 6 0 3,⟨no,.st 1 (.t 6) (.t 5),no⟩]) (.seq (.reg [Zf 7 1 1,Zl 8 false 1 7,Zc 9 227 [.t 8],Zf 10 1 3,⟨no,.st 1 (.t 10) (.t 9),no⟩]) (.seq (.reg [Zf 11 2 1,Zl 12 false 1 11,Zf 13 2 3,⟨no,.st 1 (.t 13) (.t 12),no⟩]) (.seq (.reg [Zl 14 true 3 3,⟨no,.st 3 (.t 2) (.t 14),no⟩]) .ret))))))⟩
theorem a229_ok:J0a Tryz.prog Tryz.f229=some a229:=by kernel_rfl
def a247:AFn:= ⟨21,[.t 4],(.seq (.reg [Zo 2 (.boxv (.t 0)),Zo 3 (.boxv (.t 1)),Zo 4 (.mv (.k (.bool false)))]) (.seq (.seq (.reg [Zf 5 0 2,Zl 6 false 1 5,Zf 7 0 3,Zl 8 false 1 7,Zo 9 (.beq true (.t 6) (.t 8))]) (.cond (.t 9) (.seq (.reg [Zo 4 (.mv (.k (.bool false)))]) .ret) .skip)) (.seq (.seq (.reg [Zf 10 1 2,Zl 11 false 1 10,Zf 12 1 3,Zl 13 false 1 12,Zc 14 245 [.t 11,.t 13],Zo 15 (.un .not (.t 14))]) (.cond (.t 15) (.seq (.reg [Zo 4 (.mv (.k (.bool false)))]) .ret) .skip)) (.seq (.seq (.reg [Zf 16 2 2,Zl 17 false 1 16,Zf 18 2 3,Zl 19 false 1 18,Zo 20 (.bin .neq (.t 17) (.t 19))]) (.cond (.t 20) (.seq (.reg [Zo 4 (.mv (.k (.bool false)))]) .ret) .skip)) (.seq (.reg [Zo 4 (.mv (.k (.bool true)))]) .ret)))))⟩
theorem a247_ok:J0a Tryz.prog Tryz.f247=some a247:=by kernel_rfl
def a282:AFn:= ⟨27,[.t 4],(.seq (.reg [Zo 2 (.boxv (.t 0)),Zo 4 (.mv (.k (.int .i64 0)))]) (.seq (.reg [Zv 5 1,Zf 6 0 2,Zl 7 false 1 6,Zo 8 (.len true (.t 7)),Zo 9 (.bin .sub (.t 5) (.t 8)),Zv 1 9]) (.seq (.seq (.reg [Zv 10 1,Zo 11 (.bin .lss (.t 10) (.k (.int .i64 0)))]) (.cond (.t 11) (.seq (.reg [Zo 4 (.mv (.k (.int .i64 (-1))))]) .ret) .skip)) (.seq (.reg [Zv 12 1,Zf 13 2 2,Zl 14 false 1 13,Zo 15 (.len true (.t 14)),Zo 16 (.bin .sub (.t 12) (.t 15)),Zv 1 16]) (.seq (.seq (.reg [Zv 17 1,Zo 18 (.bin .lss (.t 17) (.k (.int .i64 0)))]) (.cond (.t 18) (.seq (.reg [Zo 4 (.mv (.k (.int .i64 (-1))))]) .ret) .skip)) (.seq (.reg [Zv 19 1,Zf 20 3 2,Zl 21 false 1 20,Zo 22 (.len true (.t 21)),Zo 23 (.bin .sub (.t 19) (.t 22)),Zv 1 23]) (.seq (.seq (.reg [Zv 24 1,Zo 25 (.bin .lss (.t 24) (.k (.int .i64 0)))]) (.cond (.t 25) (.seq (.reg [Zo 4 (.mv (.k (.int .i64 (-1))))]) .ret) .skip)) (.seq (.reg [Zv 26 1,Zv 4 26]) .ret))))))))⟩
theorem a282_ok:J0a Tryz.prog Tryz.f282=some a282:=by kernel_rfl
def a289:AFn:= ⟨17,[(.c 2 true 4)],(.seq (.reg [Zo 1 (.boxv (.t 0)),Zo 2 (.box [(.str []),(.bool false),(.str []),(.str [])])]) (.seq (.reg [Zo 3 (.box [(.str []),(.bool false),(.str []),(.str [])])]) (.seq (.reg [Zf 4 0 1,Zl 5 false 1 4,Zf 6 0 3,⟨no,.st 1 (.t 6) (.t 5),no⟩]) (.seq (.reg [Zf 7 1 1,Zl 8 false 1 7,Zf 9 1 3,⟨no,.st 1 (.t 9) (.t 8),no⟩]) (.seq (.reg [Zf 10 2 1,Zl 11 false 1 10,Zf 12 2 3,⟨no,.st 1 (.t 12) (.t 11),no⟩]) (.seq (.reg [Zf 13 3 1,Zl 14 false 1 13,Zf 15 3 3,⟨no,.st 1 (.t 15) (.t 14),no⟩]) (.seq (.reg [Zl 16 true 4 3,⟨no,.st 4 (.t 2) (.t 16),no⟩]) .ret)))))))⟩
theorem a289_ok:J0a Tryz.prog Tryz.f289=some a289:=by kernel_rfl
def a300:AFn:= ⟨25,[.t 4],(.seq (.reg [Zo 2 (.boxv (.t 0)),Zo 3 (.boxv (.t 1)),Zo 4 (.mv (.k (.bool false)))]) (.seq (.seq (.reg [Zf 5 0 2,Zl 6 false 1 5,Zf 7 0 3,Zl 8 false 1 7,Zo 9 (.bin .neq (.t 6) (.t 8))]) (.cond (.t 9) (.seq (.reg [Zo 4 (.mv (.k (.bool false)))]) .ret) .skip)) (.seq (.seq (.reg [Zf 10 1 2,Zl 11 false 1 10,Zf 12 1 3,Zl 13 false 1 12,Zo 14 (.beq true (.t 11) (.t 13))]) (.cond (.t 14) (.seq (.reg [Zo 4 (.mv (.k (.bool false)))]) .ret) .skip)) (.seq (.seq (.reg [Zf 15 2 2,Zl 16 false 1 15,Zf 17 2 3,Zl 18 false 1 17,Zo 19 (.bin .neq (.t 16) (.t 18))]) (.cond (.t 19) (.seq (.reg [Zo 4 (.mv (.k (.bool false)))]) .ret) .skip)) (.seq (.seq (.reg [Zf 20 3 2,Zl 21 false 1 20,Zf 22 3 3,Zl 23 false 1 22,Zo 24 (.bin .neq (.t 21) (.t 23))]) (.cond (.t 24) (.seq (.reg [Zo 4 (.mv (.k (.bool false)))]) .ret) .skip)) (.seq (.reg [Zo 4 (.mv (.k (.bool true)))]) .ret))))))⟩
theorem a300_ok:J0a Tryz.prog Tryz.f300=some a300:=by kernel_rfl
def a284:AFn:= ⟨26,[.t 4],(.seq (.reg [Zo 2 (.boxv (.t 0)),Zo 4 (.mv (.k (.int .i64 0)))]) (.seq (.reg [Zv 5 1,Zf 6 0 2,Zl 7 false 1 6,Zo 8 (.len true (.t 7)),Zo 9 (.bin .sub (.t 5) (.t 8)),Zv 1 9]) (.seq (.seq (.reg [Zv 10 1,Zo 11 (.bin .lss (.t 10) (.k (.int .i64 0)))]) (.cond (.t 11) (.seq (.reg [Zo 4 (.mv (.k (.int .i64 (-1))))]) .ret) .skip)) (.seq (.reg [Zv 12 1,Zf 13 1 2,Zl 14 false 1 13,Zo 15 (.len true (.t 14)),Zo 16 (.bin .sub (.t 12) (.t 15)),Zv 1 16]) (.seq (.seq (.reg [Zv 17 1,Zo 18 (.bin .lss (.t 17) (.k (.int .i64 0)))]) (.cond (.t 18) (.seq (.reg [Zo 4 (.mv (.k (.int .i64 (-1))))]) .ret) .skip)) (.seq (.reg [Zf 19 2 2,Zl 20 false 1 19,Zv 21 1,Zc 22 315 [.t 20,.t 21],Zv 1 22]) (.seq (.seq (.reg [Zv 23 1,Zo 24 (.bin .lss (.t 23) (.k (.int .i64 0)))]) (.cond (.t 24) (.seq (.reg [Zo 4 (.mv (.k (.int .i64 (-1))))]) .ret) .skip)) (.seq (.reg [Zv 25 1,Zv 4 25]) .ret))))))))⟩
theorem a284_ok:J0a Tryz.prog Tryz.f284=some a284:=by kernel_rfl
def a291:AFn:= ⟨15,[(.c 2 true 3)],(.seq (.reg [Zo 1 (.boxv (.t 0)),Zo 2 (.box [(.str []),(.str []),(.nil 3)])]) (.seq (.reg [Zo 3 (.box [(.str []),(.str []),(.nil 3)])]) (.seq (.reg [Zf 4 0 1,Zl 5 false 1 4,Zf 6 0 3,⟨no,.st 1 (.t 6) (.t 5),no⟩]) (.seq (.reg [Zf 7 1 1,Zl 8 false 1 7,Zf 9 1 3,⟨no,.st 1 (.t 9) (.t 8),no⟩]) (.seq (.reg [Zf 10 2 1,Zl 11 false 1 10,Zc 12 321 [.t 11],Zf 13 2 3,⟨no,.st 1 (.t 13) (.t 12),no⟩]) (.seq (.reg [Zl 14 true 3 3,⟨no,.st 3 (.t 2) (.t 14),no⟩]) .ret))))))⟩
theorem a291_ok:J0a Tryz.prog Tryz.f291=some a291:=by kernel_rfl
def a302:AFn:= ⟨21,[.t 4],(.seq (.reg [Zo 2 (.boxv (.t 0)),Zo 3 (.boxv (.t 1)),Zo 4 (.mv (.k (.bool false)))]) (.seq (.seq (.reg [Zf 5 0 2,Zl 6 false 1 5,Zf 7 0 3,Zl 8 false 1 7,Zo 9 (.bin .neq (.t 6) (.t 8))]) (.cond (.t 9) (.seq (.reg [Zo 4 (.mv (.k (.bool false)))]) .ret) .skip)) (.seq (.seq (.reg [Zf 10 1 2,Zl 11 false 1 10,Zf 12 1 3,Zl 13 false 1 12,Zo 14 (.bin .neq (.t 11) (.t 13))]) (.cond (.t 14) (.seq (.reg [Zo 4 (.mv (.k (.bool false)))]) .ret) .skip)) (.seq (.seq (.reg [Zf 15 2 2,Zl 16 false 1 15,Zf 17 2 3,Zl 18 false 1 17,Zc 19 327 [.t 16,.t 18],Zo 20 (.un .not (.t 19))]) (.cond (.t 20) (.seq (.reg [Zo 4 (.mv (.k (.bool false)))]) .ret) .skip)) (.seq (.reg [Zo 4 (.mv (.k (.bool true)))]) .ret)))))⟩
theorem a302_ok:J0a Tryz.prog Tryz.f302=some a302:=by kernel_rfl
def a133:AFn:= ⟨37,[.t 4],(.seq (.reg [Zo 2 (.boxv (.t 0)),Zo 4 (.mv (.k (.int .i64 0)))]) (.seq (.reg [Zv 5 1,Zf 6 0 2,Zl 7 false 1 6,Zo 8 (.len true (.t 7)),Zo 9 (.bin .sub (.t 5) (.t 8)),Zv 1 9]) (.seq (.seq (.reg [Zv 10 1,Zo 11 (.bin .lss (.t 10) (.k (.int .i64 0)))]) (.cond (.t 11) (.seq (.reg [Zo 4 (.mv (.k (.int .i64 (-1))))]) .ret) .skip)) (.seq (.reg [Zf 12 1 2,Zl 13 false 1 12,Zv 14 1,Zc 15 212 [.t 13,.t 14],Zv 1 15]) (.seq (.seq (.reg [Zv 16 1,Zo 17 (.bin .lss (.t 16) (.k (.int .i64 0)))]) (.cond (.t 17) (.seq (.reg [Zo 4 (.mv (.k (.int .i64 (-1))))]) .ret) .skip)) (.seq (.reg [Zf 18 2 2,Zl 19 false 1 18,Zv 20 1,Zc 21 213 [.t 19,.t 20],Zv 1 21]) (.seq (.seq (.reg [Zv 22 1,Zo 23 (.bin .lss (.t 22) (.k (.int .i64 0)))]) (.cond (.t 23) (.seq (.reg [Zo 4 (.mv (.k (.int .i64 (-1))))]) .ret) .skip)) (.seq (.reg [Zf 24 3 2,Zl 25 false 1 24,Zv 26 1,Zc 27 214 [.t 25,.t 26],Zv 1 27]) (.seq (.seq (.reg [Zv 28 1,Zo 29 (.bin .lss (.t 28) (.k (.int .i64 0)))]) (.cond (.t 29) (.seq (.reg [Zo 4 (.mv (.k (.int .i64 (-1))))]) .ret) .skip)) (.seq (.reg [Zf 30 4 2,Zl 31 true 3 30,Zv 32 1,Zc 33 215 [.t 31,.t 32],Zv 1 33]) (.seq (.seq (.reg [Zv 34 1,Zo 35 (.bin .lss (.t 34) (.k (.int .i64 0)))]) (.cond (.t 35) (.seq (.reg [Zo 4 (.mv (.k (.int .i64 (-1))))]) .ret) .skip)) (.seq (.reg [Zv 36 1,Zv 4 36]) .ret))))))))))))⟩
theorem a133_ok:J0a Tryz.prog Tryz.f133=some a133:=by kernel_rfl
def a139:AFn:= ⟨24,[(.c 2 true 7)],(.seq (.reg [Zo 1 (.boxv (.t 0)),Zo 2 (.box [(.str []),(.nil 4),(.nil 2),(.nil 3),(.bool false),(.nil 2),(.str [])])]) (.seq (.reg [Zo 3 (.box [(.str []),(.nil 4),(.nil 2),(.nil 3),(.bool false),(.nil 2),(.str [])])]) (.seq (.reg [Zf 4 0 1,Zl 5 false 1 4,Zf 6 0 3,⟨no,.st 1 (.t 6) (.t 5),no⟩]) (.seq (.reg [Zf 7 1 1,Zl 8 false 1 7,Zc 9 226 [.t 8],Zf 10 1 3,⟨no,.st 1 (.t 10) (.t 9),no⟩]) (.seq (.reg [Zf 11 2 1,Zl 12 false 1 11,Zc 13 227 [.t 12],Zf 14 2 3,⟨no,.st 1 (.t 14) (.t 13),no⟩]) (.seq (.reg [Zf 15 3 1,Zl 16 false 1 15,Zc 17 228 [.t 16],Zf 18 3 3,⟨no,.st 1 (.t 18) (.t 17),no⟩]) (.seq (.reg [Zf 19 4 1,Zl 20 true 3 19,Zc 21 229 [.t 20],Zf 22 4 3,⟨no,.st 3 (.t 22) (.t 21),no⟩]) (.seq (.reg [Zl 23 true 7 3,⟨no,.st 7 (.t 2) (.t 23),no⟩]) .ret))))))))⟩
theorem a139_ok:J0a Tryz.prog Tryz.f139=some a139:=by kernel_rfl
def a155:AFn:= ⟨34,[.t 4],(.seq (.reg [Zo 2 (.boxv (.t 0)),Zo 3 (.boxv (.t 1)),Zo 4 (.mv (.k (.bool false)))]) (.seq (.seq (.reg [Zf 5 0 2,Zl 6 false 1 5,Zf 7 0 3,Zl 8 false 1 7,Zo 9 (.bin .neq (.t 6) (.t 8))]) (.cond (.t 9) (.seq (.reg [Zo 4 (.mv (.k (.bool false)))]) .ret) .skip)) (.seq (.seq (.reg [Zf 10 1 2,Zl 11 false 1 10,Zf 12 1 3,Zl 13 false 1 12,Zc 14 244 [.t 11,.t 13],Zo 15 (.un .not (.t 14))]) (.cond (.t 15) (.seq (.reg [Zo 4 (.mv (.k (.bool false)))]) .ret) .skip)) (.seq (.seq (.reg [Zf 16 2 2,Zl 17 false 1 16,Zf 18 2 3,Zl 19 false 1 18,Zc 20 245 [.t 17,.t 19],Zo 21 (.un .not (.t 20))]) (.cond (.t 21) (.seq (.reg [Zo 4 (.mv (.k (.bool false)))]) .ret) .skip)) (.seq (.seq (.reg [Zf 22 3 2,Zl 23 false 1 22,Zf 24 3 3,Zl 25 false 1 24,Zc 26 246 [.t 23,.t 25],Zo 27 (.un .not (.t 26))]) (.cond (.t 27) (.seq (.reg [Zo 4 (.mv (.k (.bool false)))]) .ret) .skip)) (.seq (.seq (.reg [Zf 28 4 2,Zl 29 true 3 28,Zf 30 4 3,Zl 31 true 3 30,Zc 32 247 [.t 29,.t 31],Zo 33 (.un .not (.t 32))]) (.cond (.t 33) (.seq (.reg [Zo 4 (.mv (.k (.bool false)))]) .ret) .skip)) (.seq (.reg [Zo 4 (.mv (.k (.bool true)))]) .ret)))))))⟩
theorem a155_ok:J0a Tryz.prog Tryz.f155=some a155:=by kernel_rfl
def a132:AFn:= ⟨25,[.t 4],(.seq (.reg [Zo 2 (.boxv (.t 0)),Zo 4 (.mv (.k (.int .i64 0)))]) (.seq (.reg [Zv 5 1,Zf 6 0 2,Zl 7 false 1 6,Zo 8 (.len true (.t 7)),Zo 9 (.bin .sub (.t 5) (.t 8)),Zv 1 9]) (.seq (.seq (.reg [Zv 10 1,Zo 11 (.bin .lss (.t 10) (.k (.int .i64 0)))]) (.cond (.t 11) (.seq (.reg [Zo 4 (.mv (.k (.int .i64 (-1))))]) .ret) .skip)) (.seq (.reg [Zf 12 1 2,Zl 13 false 1 12,Zv 14 1,Zc 15 211 [.t 13,.t 14],Zv 1 15]) (.seq (.seq (.reg [Zv 16 1,Zo 17 (.bin .lss (.t 16) (.k (.int .i64 0)))]) (.cond (.t 17) (.seq (.reg [Zo 4 (.mv (.k (.int .i64 (-1))))]) .ret) .skip)) (.seq (.reg [Zf 18 3 2,Zl 19 false 1 18,Zv 20 1,Zc 21 95 [.t 19,.t 20],Zv 1 21]) (.seq (.seq (.reg [Zv 22 1,Zo 23 (.bin .lss (.t 22) (.k (.int .i64 0)))]) (.cond (.t 23) (.seq (.reg [Zo 4 (.mv (.k (.int .i64 (-1))))]) .ret) .skip)) (.seq (.reg [Zv 24 1,Zv 4 24]) .ret))))))))⟩
theorem a132_ok:J0a Tryz.prog Tryz.f132=some a132:=by kernel_rfl
def a138:AFn:= ⟨19,[(.c 2 true 4)],(.seq (.reg [Zo 1 (.boxv (.t 0)),Zo 2 (.box [(.str []),(.nil 1),(.bool false),(.nil 2)])]) (.seq (.reg [Zo 3 (.box [(.str []),(.nil 1),(.bool false),(.nil 2)])]) (.seq (.reg [Zf 4 0 1,Zl 5 false 1 4,Zf 6 0 3,⟨no,.st 1 (.t 6) (.t 5),no⟩]) (.seq (.reg [Zf 7 1 1,Zl 8 false 1 7,Zc 9 225 [.t 8],Zf 10 1 3,⟨no,.st 1 (.t 10) (.t 9),no⟩]) (.seq (.reg [Zf 11 2 1,Zl 12 false 1 11,Zf 13 2 3,⟨no,.st 1 (.t 13) (.t 12),no⟩]) (.seq (.reg [Zf 14 3 1,Zl 15 false 1 14,Zc 16 101 [.t 15],Zf 17 3 3,⟨no,.st 1 (.t 17) (.t 16),no⟩]) (.seq (.reg [Zl 18 true 4 3,⟨no,.st 4 (.t 2) (.t 18),no⟩]) .ret)))))))⟩
theorem a138_ok:J0a Tryz.prog Tryz.f138=some a138:=by kernel_rfl
def a154:AFn:= ⟨27,[.t 4],(.seq (.reg [Zo 2 (.boxv (.t 0)),Zo 3 (.boxv (.t 1)),Zo 4 (.mv (.k (.bool false)))]) (.seq (.seq (.reg [Zf 5 0 2,Zl 6 false 1 5,Zf 7 0 3,Zl 8 false 1 7,Zo 9 (.bin .neq (.t 6) (.t 8))]) (.cond (.t 9) (.seq (.reg [Zo 4 (.mv (.k (.bool false)))]) .ret) .skip)) (.seq (.seq (.reg [Zf 10 1 2,Zl 11 false 1 10,Zf 12 1 3,Zl 13 false 1 12,Zc 14 73 [.t 11,.t 13],Zo 15 (.un .not (.t 14))]) (.cond (.t 15) (.seq (.reg [Zo 4 (.mv (.k (.bool false)))]) .ret) .skip)) (.seq (.seq (.reg [Zf 16 2 2,Zl 17 false 1 16,Zf 18 2 3,Zl 19 false 1 18,Zo 20 (.beq true (.t 17) (.t 19))]) (.cond (.t 20) (.seq (.reg [Zo 4 (.mv (.k (.bool false)))]) .ret) .skip)) (.seq (.seq (.reg [Zf 21 3 2,Zl 22 false 1 21,Zf 23 3 3,Zl 24 false 1 23,Zc 25 107 [.t 22,.t 24],Zo 26 (.un .not (.t 25))]) (.cond (.t 26) (.seq (.reg [Zo 4 (.mv (.k (.bool false)))]) .ret) .skip)) (.seq (.reg [Zo 4 (.mv (.k (.bool true)))]) .ret))))))⟩
theorem a154_ok:J0a Tryz.prog Tryz.f154=some a154:=by kernel_rfl
def a12:AFn:= ⟨18,[.t 4],(.seq (.reg [Zo 2 (.boxv (.t 0)),Zo 4 (.mv (.k (.int .i64 0)))]) (.seq (.reg [Zf 5 0 2,Zl 6 false 1 5,Zv 7 1,Zc 8 58 [.t 6,.t 7],Zv 1 8]) (.seq (.seq (.reg [Zv 9 1,Zo 10 (.bin .lss (.t 9) (.k (.int .i64 0)))]) (.cond (.t 10) (.seq (.reg [Zo 4 (.mv (.k (.int .i64 (-1))))]) .ret) .skip)) (.seq (.reg [Zf 11 1 2,Zl 12 false 1 11,Zv 13 1,Zc 14 59 [.t 12,.t 13],Zv 1 14]) (.seq (.seq (.reg [Zv 15 1,Zo 16 (.bin .lss (.t 15) (.k (.int .i64 0)))]) (.cond (.t 16) (.seq (.reg [Zo 4 (.mv (.k (.int .i64 (-1))))]) .ret) .skip)) (.seq (.reg [Zv 17 1,Zv 4 17]) .ret))))))⟩
theorem a12_ok:J0a Tryz.prog Tryz.f12=some a12:=by kernel_rfl
def a14:AFn:= ⟨13,[(.c 2 true 2)],(.seq (.reg [Zo 1 (.boxv (.t 0)),Zo 2 (.box [(.nil 4),(.nil 7)])]) (.seq (.reg [Zo 3 (.box [(.nil 4),(.nil 7)])]) (.seq (.reg [Zf 4 0 1,Zl 5 false 1 4,Zc 6 65 [.t 5],Zf 7 0 3,⟨no,.st 1 (.t 7) (.t 6),no⟩]) (.seq (.reg [Zf 8 1 1,Zl 9 false 1 8,Zc 10 66 [.t 9],Zf 11 1 3,⟨no,.st 1 (.t 11) (.t 10),no⟩]) (.seq (.reg [Zl 12 true 2 3,⟨no,.st 2 (.t 2) (.t 12),no⟩]) .ret)))))⟩
theorem a14_ok:J0a Tryz.prog Tryz.f14=some a14:=by kernel_rfl
def a17:AFn:= ⟨17,[.t 4],(.seq (.reg [Zo 2 (.boxv (.t 0)),Zo 3 (.boxv (.t 1)),Zo 4 (.mv (.k (.bool false)))]) (.seq (.seq (.reg [Zf 5 0 2,Zl 6 false 1 5,Zf 7 0 3,Zl 8 false 1 7,Zc 9 74 [.t 6,.t 8],Zo 10 (.un .not (.t 9))]) (.cond (.t 10) (.seq (.reg [Zo 4 (.mv (.k (.bool false)))]) .ret) .skip)) (.seq (.seq (.reg [Zf 11 1 2,Zl 12 false 1 11,Zf 13 1 3,Zl 14 false 1 13,Zc 15 75 [.t 12,.t 14],Zo 16 (.un .not (.t 15))]) (.cond (.t 16) (.seq (.reg [Zo 4 (.mv (.k (.bool false)))]) .ret) .skip)) (.seq (.reg [Zo 4 (.mv (.k (.bool true)))]) .ret))))⟩
theorem a17_ok:J0a Tryz.prog Tryz.f17=some a17:=by kernel_rfl
theorem Jqv (x:DTerm) (left:Int) (h0:0≤left∧left≤4611686018427387904):Holds Tryz.prog 332 [.agg (J10 x),i64 left] (fun r=>r=i64 (J3a left (J7g x))):=by
 refine J02 Tryz.func332 a332_ok rfl (by simp [a332]) ?_
 simp [a332,J10]
 have e0:J7g x=J7g x:=rfl
 conv at e0=>rhs;unfold J7g
 intro hl0
 rw [J19 (by unfold LIM at hl0;omega)]
 by_cases h1:left - (x.Name.length:Nat)<0
 case pos=>
  have q:left - (J7g x:Int)<0:=by omega
  simp [J3a,h1,q]
  try first|omega|(constructor <;> intros <;> omega)
 have g1:(x.Name.length:Nat)≤left:=by omega
 simp [J3a,h1,g1]
 try (rw [if_neg (by omega)];omega)
theorem Jso (x:DTerm) (_hw:J7g x≤1048576):Holds Tryz.prog 334 [.agg (J10 x)] (fun r=>r = .agg (J48 x)):=by
 have hw:=_hw;unfold J7g at hw
 refine J02 Tryz.func334 a334_ok rfl (by simp [a334]) ?_
 simp [a334,J10]
 try simp [J48]
theorem Jr3 (x y:DTerm):Holds Tryz.prog 337 [.agg (J10 x),.agg (J10 y)] (fun r=>r = .bool (decide (x=y))):=by
 refine J02 Tryz.func337 a337_ok rfl (by simp [a337]) ?_
 simp [a337,J10]
 by_cases h0:x.Coeff=y.Coeff
 case neg=>simp [h0];try exact fun e=>h0 (by rw [e])
 simp [h0]
 by_cases h1:x.Name=y.Name
 case neg=>simp [h1];try exact fun e=>h1 (by rw [e])
 simp [h1]
 cases x;cases y;simp_all
theorem a314_ok:J0a Tryz.prog Tryz.f314=some (tSz true 2 332):=by kernel_rfl
theorem Jpf (l:List DTerm) (left:Int) (h0:0≤left∧left≤4611686018427387904):Holds Tryz.prog 314 [.sl 2 (l.map J10),i64 left] (fun r=>r=i64 (J3a left (Je9 l))):=by
 rw [show Je9 l=wL J7g l from rfl,←J6c (w:=J7g) (g:=fun x lf=>J3a lf (J7g x)) (fun _ _ _=>rfl) l left h0.1]
 exact J5u Tryz.func314 a314_ok rfl (rowOf:=J10) (eltOf:=(fun x => .agg (J10 x))) (fun x=>by simp [J10]) (fun x h=>by simp [J10]) (fun x lf h=>J93 h) l left h0 (fun x lf _ hl=>Jqv x lf hl)
theorem a320_ok:J0a Tryz.prog Tryz.f320=some (tTo true 2 24 334 [.int .i64 0,.str []]):=by kernel_rfl
theorem Jms (l:List DTerm) (hw:Je9 l≤1048576):Holds Tryz.prog 320 [.sl 2 (l.map J10)] (fun r=>r = .us 2 (l.map J48)):=
 J5y Tryz.func320 a320_ok rfl (rowOf:=J10) (eltOf:=(fun x => .agg (J10 x))) (eltU:=(fun x => .agg (J48 x))) (fun x=>by simp [J10]) (fun x h=>by simp [J10]) (fun x=>by simp) (fun x=>by simp [J48]) (fun x=>by simp [J48]) rfl l (by have:=J2b J7g l;unfold Je9 at hw;unfold LIM;omega) (fun x h=>Jso x (by have:=J3o (w:=J7g) h;unfold Je9 at hw;omega))
theorem a326_ok:J0a Tryz.prog Tryz.f326=some (tEq true 2 337):=by kernel_rfl
theorem Jo9 (l m:List DTerm):Holds Tryz.prog 326 [.sl 2 (l.map J10),.sl 2 (m.map J10)] (fun r=>r = .bool (decide (l=m))):=by
 rw [←J82]
 exact J60 Tryz.func326 a326_ok rfl (rowOf:=J10) (eltOf:=(fun x => .agg (J10 x))) (fun x=>by simp [J10]) (fun x h=>by simp [J10]) l m (fun x y _ _=>Jr3 x y)
theorem Jud (x:DSum) (left:Int) (h0:0≤left∧left≤4611686018427387904):Holds Tryz.prog 283 [.agg (J1g x),i64 left] (fun r=>r=i64 (J3a left (Jbm x))):=by
 refine J02 Tryz.func283 a283_ok rfl (by simp [a283]) ?_
 simp [a283,J1g]
 have e0:Jbm x=Jbm x:=rfl
 conv at e0=>rhs;unfold Jbm
 refine J01 (Jpf x.Terms left (by omega)) (by simp) ?_
 rintro r rfl
 by_cases h1:left - (Je9 x.Terms:Nat)<0
 case pos=>
  have q:left - (Jbm x:Int)<0:=by omega
  simp [J3a,h1,q]
  try first|omega|(constructor <;> intros <;> omega)
 simp [J3a,h1]
 try (rw [if_neg (by omega)];omega)
theorem Jug (x:DSum) (_hw:Jbm x≤1048576):Holds Tryz.prog 290 [.agg (J1g x)] (fun r=>r = .agg (J58 x)):=by
 have hw:=_hw;unfold Jbm at hw
 refine J02 Tryz.func290 a290_ok rfl (by simp [a290]) ?_
 simp [a290,J1g]
 refine J01 (Jms x.Terms (by omega)) (by simp []) ?_
 rintro r rfl
 simp []
 try simp [J58]
theorem Jv1 (x y:DSum):Holds Tryz.prog 301 [.agg (J1g x),.agg (J1g y)] (fun r=>r = .bool (decide (x=y))):=by
 refine J02 Tryz.func301 a301_ok rfl (by simp [a301]) ?_
 simp [a301,J1g]
 by_cases h0:x.Const=y.Const
 case neg=>simp [h0];try exact fun e=>h0 (by rw [e])
 simp [h0]
 refine J01 (Jo9 x.Terms y.Terms) (by simp []) ?_
 rintro r rfl
 by_cases h1:x.Terms=y.Terms
 case neg=>simp [h1];try exact fun e=>h1 (by rw [e])
 simp [h1]
 cases x;cases y;simp_all
theorem a213_ok:J0a Tryz.prog Tryz.f213=some (tSz true 2 283):=by kernel_rfl
theorem Jlj (l:List DSum) (left:Int) (h0:0≤left∧left≤4611686018427387904):Holds Tryz.prog 213 [.sl 2 (l.map J1g),i64 left] (fun r=>r=i64 (J3a left (J65 l))):=by
 rw [show J65 l=wL Jbm l from rfl,←J6c (w:=Jbm) (g:=fun x lf=>J3a lf (Jbm x)) (fun _ _ _=>rfl) l left h0.1]
 exact J5u Tryz.func213 a213_ok rfl (rowOf:=J1g) (eltOf:=(fun x => .agg (J1g x))) (fun x=>by simp [J1g]) (fun x h=>by simp [J1g]) (fun x lf h=>J93 h) l left h0 (fun x lf _ hl=>Jud x lf hl)
theorem a227_ok:J0a Tryz.prog Tryz.f227=some (tTo true 2 32 290 [.int .i64 0,.nil 2]):=by kernel_rfl
theorem Jky (l:List DSum) (hw:J65 l≤1048576):Holds Tryz.prog 227 [.sl 2 (l.map J1g)] (fun r=>r = .us 2 (l.map J58)):=
 J5y Tryz.func227 a227_ok rfl (rowOf:=J1g) (eltOf:=(fun x => .agg (J1g x))) (eltU:=(fun x => .agg (J58 x))) (fun x=>by simp [J1g]) (fun x h=>by simp [J1g]) (fun x=>by simp) (fun x=>by simp [J58]) (fun x=>by simp [J58]) rfl l (by have:=J2b Jbm l;unfold J65 at hw;unfold LIM;omega) (fun x h=>Jug x (by have:=J3o (w:=Jbm) h;unfold J65 at hw;omega))
theorem a245_ok:J0a Tryz.prog Tryz.f245=some (tEq true 2 301):=by kernel_rfl
theorem Jk7 (l m:List DSum):Holds Tryz.prog 245 [.sl 2 (l.map J1g),.sl 2 (m.map J1g)] (fun r=>r = .bool (decide (l=m))):=by
 rw [←J82]
 exact J60 Tryz.func245 a245_ok rfl (rowOf:=J1g) (eltOf:=(fun x => .agg (J1g x))) (fun x=>by simp [J1g]) (fun x h=>by simp [J1g]) l m (fun x y _ _=>Jv1 x y)
theorem Jna (x:DArg) (left:Int) (h0:0≤left∧left≤4611686018427387904):Holds Tryz.prog 215 [.agg (J0x x),i64 left] (fun r=>r=i64 (J3a left (Jae x))):=by
 refine J02 Tryz.func215 a215_ok rfl (by simp [a215]) ?_
 simp [a215,J0x]
 have e0:Jae x=Jae x:=rfl
 conv at e0=>rhs;unfold Jae
 refine J01 (Jlj x.Heads left (by omega)) (by simp) ?_
 rintro r rfl
 by_cases h1:left - (J65 x.Heads:Nat)<0
 case pos=>
  have q:left - (Jae x:Int)<0:=by omega
  simp [J3a,h1,q]
  try first|omega|(constructor <;> intros <;> omega)
 simp [J3a,h1]
 intro hl1
 rw [J19 (by unfold LIM at hl1;omega)]
 by_cases h2:(left - (J65 x.Heads:Nat)) - (x.Base.length:Nat)<0
 case pos=>
  have q:left - (Jae x:Int)<0:=by omega
  simp [J3a,h2,q]
  try first|omega|(constructor <;> intros <;> omega)
 have g2:(x.Base.length:Nat)≤(left - (J65 x.Heads:Nat)):=by omega
 simp [J3a,h2,g2]
 try (rw [if_neg (by omega)];omega)
theorem Jnh (x:DArg) (_hw:Jae x≤1048576):Holds Tryz.prog 229 [.agg (J0x x)] (fun r=>r = .agg (J5b x)):=by
 have hw:=_hw;unfold Jae at hw
 refine J02 Tryz.func229 a229_ok rfl (by simp [a229]) ?_
 simp [a229,J0x]
 refine J01 (Jky x.Heads (by omega)) (by simp []) ?_
 rintro r rfl
 simp []
 try simp [J5b]
theorem Jnu (x y:DArg):Holds Tryz.prog 247 [.agg (J0x x),.agg (J0x y)] (fun r=>r = .bool (decide (x=y))):=by
 refine J02 Tryz.func247 a247_ok rfl (by simp [a247]) ?_
 simp [a247,J0x]
 by_cases h0:x.Lst=y.Lst
 case neg=>simp [h0];try exact fun e=>h0 (by rw [e])
 simp [h0]
 refine J01 (Jk7 x.Heads y.Heads) (by simp []) ?_
 rintro r rfl
 by_cases h1:x.Heads=y.Heads
 case neg=>simp [h1];try exact fun e=>h1 (by rw [e])
 simp [h1]
 by_cases h2:x.Base=y.Base
 case neg=>simp [h2];try exact fun e=>h2 (by rw [e])
 simp [h2]
 cases x;cases y;simp_all
theorem a315_ok:J0a Tryz.prog Tryz.f315=some (tSz true 3 215):=by kernel_rfl
theorem Jrb (l:List DArg) (left:Int) (h0:0≤left∧left≤4611686018427387904):Holds Tryz.prog 315 [.sl 3 (l.map J0x),i64 left] (fun r=>r=i64 (J3a left (Jet l))):=by
 rw [show Jet l=wL Jae l from rfl,←J6c (w:=Jae) (g:=fun x lf=>J3a lf (Jae x)) (fun _ _ _=>rfl) l left h0.1]
 exact J5u Tryz.func315 a315_ok rfl (rowOf:=J0x) (eltOf:=(fun x => .agg (J0x x))) (fun x=>by simp [J0x]) (fun x h=>by simp [J0x]) (fun x lf h=>J93 h) l left h0 (fun x lf _ hl=>Jna x lf hl)
theorem a321_ok:J0a Tryz.prog Tryz.f321=some (tTo true 3 48 229 [.bool false,.nil 2,.str []]):=by kernel_rfl
theorem Jr4 (l:List DArg) (hw:Jet l≤1048576):Holds Tryz.prog 321 [.sl 3 (l.map J0x)] (fun r=>r = .us 3 (l.map J5b)):=
 J5y Tryz.func321 a321_ok rfl (rowOf:=J0x) (eltOf:=(fun x => .agg (J0x x))) (eltU:=(fun x => .agg (J5b x))) (fun x=>by simp [J0x]) (fun x h=>by simp [J0x]) (fun x=>by simp) (fun x=>by simp [J5b]) (fun x=>by simp [J5b]) rfl l (by have:=J2b Jae l;unfold Jet at hw;unfold LIM;omega) (fun x h=>Jnh x (by have:=J3o (w:=Jae) h;unfold Jet at hw;omega))
theorem a327_ok:J0a Tryz.prog Tryz.f327=some (tEq true 3 247):=by kernel_rfl
theorem Jqi (l m:List DArg):Holds Tryz.prog 327 [.sl 3 (l.map J0x),.sl 3 (m.map J0x)] (fun r=>r = .bool (decide (l=m))):=by
 rw [←J82]
 exact J60 Tryz.func327 a327_ok rfl (rowOf:=J0x) (eltOf:=(fun x => .agg (J0x x))) (fun x=>by simp [J0x]) (fun x h=>by simp [J0x]) l m (fun x y _ _=>Jnu x y)
theorem Jj1 (x:DPattern) (left:Int) (h0:0≤left∧left≤4611686018427387904):Holds Tryz.prog 282 [.agg (J08 x),i64 left] (fun r=>r=i64 (J3a left (J38 x))):=by
 refine J02 Tryz.func282 a282_ok rfl (by simp [a282]) ?_
 simp [a282,J08]
 have e0:J38 x=J38 x:=rfl
 conv at e0=>rhs;unfold J38
 intro hl0
 rw [J19 (by unfold LIM at hl0;omega)]
 by_cases h1:left - (x.Lst.length:Nat)<0
 case pos=>
  have q:left - (J38 x:Int)<0:=by omega
  simp [J3a,h1,q]
  try first|omega|(constructor <;> intros <;> omega)
 have g1:(x.Lst.length:Nat)≤left:=by omega
 simp [J3a,h1,g1]
 intro hl1
 rw [J19 (by unfold LIM at hl1;omega)]
 by_cases h2:(left - (x.Lst.length:Nat)) - (x.Head.length:Nat)<0
 case pos=>
  have q:left - (J38 x:Int)<0:=by omega
  simp [J3a,h2,q]
  try first|omega|(constructor <;> intros <;> omega)
 have g2:(x.Head.length:Nat)≤(left - (x.Lst.length:Nat)):=by omega
 simp [J3a,h2,g2]
 intro hl2
 rw [J19 (by unfold LIM at hl2;omega)]
 by_cases h3:(left - (x.Lst.length:Nat) - (x.Head.length:Nat)) - (x.Tail.length:Nat)<0
 case pos=>
  have q:left - (J38 x:Int)<0:=by omega
  simp [J3a,h3,q]
  try first|omega|(constructor <;> intros <;> omega)
 have g3:(x.Tail.length:Nat)≤(left - (x.Lst.length:Nat) - (x.Head.length:Nat)):=by omega
 simp [J3a,h3,g3]
 try (rw [if_neg (by omega)];omega)
theorem Jiu (x:DPattern) (_hw:J38 x≤1048576):Holds Tryz.prog 289 [.agg (J08 x)] (fun r=>r = .agg (J1m x)):=by
 have hw:=_hw;unfold J38 at hw
 refine J02 Tryz.func289 a289_ok rfl (by simp [a289]) ?_
 simp [a289,J08]
 try simp [J1m]
theorem Jiz (x y:DPattern):Holds Tryz.prog 300 [.agg (J08 x),.agg (J08 y)] (fun r=>r = .bool (decide (x=y))):=by
 refine J02 Tryz.func300 a300_ok rfl (by simp [a300]) ?_
 simp [a300,J08]
 by_cases h0:x.Lst=y.Lst
 case neg=>simp [h0];try exact fun e=>h0 (by rw [e])
 simp [h0]
 by_cases h1:x.Cons=y.Cons
 case neg=>simp [h1];try exact fun e=>h1 (by rw [e])
 simp [h1]
 by_cases h2:x.Head=y.Head
 case neg=>simp [h2];try exact fun e=>h2 (by rw [e])
 simp [h2]
 by_cases h3:x.Tail=y.Tail
 case neg=>simp [h3];try exact fun e=>h3 (by rw [e])
 simp [h3]
 cases x;cases y;simp_all
theorem a212_ok:J0a Tryz.prog Tryz.f212=some (tSz true 4 282):=by kernel_rfl
theorem Ji1 (l:List DPattern) (left:Int) (h0:0≤left∧left≤4611686018427387904):Holds Tryz.prog 212 [.sl 4 (l.map J08),i64 left] (fun r=>r=i64 (J3a left (J31 l))):=by
 rw [show J31 l=wL J38 l from rfl,←J6c (w:=J38) (g:=fun x lf=>J3a lf (J38 x)) (fun _ _ _=>rfl) l left h0.1]
 exact J5u Tryz.func212 a212_ok rfl (rowOf:=J08) (eltOf:=(fun x => .agg (J08 x))) (fun x=>by simp [J08]) (fun x h=>by simp [J08]) (fun x lf h=>J93 h) l left h0 (fun x lf _ hl=>Jj1 x lf hl)
theorem a226_ok:J0a Tryz.prog Tryz.f226=some (tTo true 4 56 289 [.str [],.bool false,.str [],.str []]):=by kernel_rfl
theorem Jhy (l:List DPattern) (hw:J31 l≤1048576):Holds Tryz.prog 226 [.sl 4 (l.map J08)] (fun r=>r = .us 4 (l.map J1m)):=
 J5y Tryz.func226 a226_ok rfl (rowOf:=J08) (eltOf:=(fun x => .agg (J08 x))) (eltU:=(fun x => .agg (J1m x))) (fun x=>by simp [J08]) (fun x h=>by simp [J08]) (fun x=>by simp) (fun x=>by simp [J1m]) (fun x=>by simp [J1m]) rfl l (by have:=J2b J38 l;unfold J31 at hw;unfold LIM;omega) (fun x h=>Jiu x (by have:=J3o (w:=J38) h;unfold J31 at hw;omega))
theorem a244_ok:J0a Tryz.prog Tryz.f244=some (tEq true 4 300):=by kernel_rfl
theorem Jhv (l m:List DPattern):Holds Tryz.prog 244 [.sl 4 (l.map J08),.sl 4 (m.map J08)] (fun r=>r = .bool (decide (l=m))):=by
 rw [←J82]
 exact J60 Tryz.func244 a244_ok rfl (rowOf:=J08) (eltOf:=(fun x => .agg (J08 x))) (fun x=>by simp [J08]) (fun x h=>by simp [J08]) l m (fun x y _ _=>Jiz x y)
theorem Jq4 (x:DCall) (left:Int) (h0:0≤left∧left≤4611686018427387904):Holds Tryz.prog 284 [.agg (J0y x),i64 left] (fun r=>r=i64 (J3a left (J61 x))):=by
 refine J02 Tryz.func284 a284_ok rfl (by simp [a284]) ?_
 simp [a284,J0y]
 have e0:J61 x=J61 x:=rfl
 conv at e0=>rhs;unfold J61
 intro hl0
 rw [J19 (by unfold LIM at hl0;omega)]
 by_cases h1:left - (x.Bind.length:Nat)<0
 case pos=>
  have q:left - (J61 x:Int)<0:=by omega
  simp [J3a,h1,q]
  try first|omega|(constructor <;> intros <;> omega)
 have g1:(x.Bind.length:Nat)≤left:=by omega
 simp [J3a,h1,g1]
 intro hl1
 rw [J19 (by unfold LIM at hl1;omega)]
 by_cases h2:(left - (x.Bind.length:Nat)) - (x.Func.length:Nat)<0
 case pos=>
  have q:left - (J61 x:Int)<0:=by omega
  simp [J3a,h2,q]
  try first|omega|(constructor <;> intros <;> omega)
 have g2:(x.Func.length:Nat)≤(left - (x.Bind.length:Nat)):=by omega
 simp [J3a,h2,g2]
 refine J01 (Jrb x.Args (left - (x.Bind.length:Nat) - (x.Func.length:Nat)) (by omega)) (by simp) ?_
 rintro r rfl
 by_cases h3:(left - (x.Bind.length:Nat) - (x.Func.length:Nat)) - (Jet x.Args:Nat)<0
 case pos=>
  have q:left - (J61 x:Int)<0:=by omega
  simp [J3a,h3,q]
  try first|omega|(constructor <;> intros <;> omega)
 simp [J3a,h3]
 try (rw [if_neg (by omega)];omega)
theorem Jqo (x:DCall) (_hw:J61 x≤1048576):Holds Tryz.prog 291 [.agg (J0y x)] (fun r=>r = .agg (J3m x)):=by
 have hw:=_hw;unfold J61 at hw
 refine J02 Tryz.func291 a291_ok rfl (by simp [a291]) ?_
 simp [a291,J0y]
 refine J01 (Jr4 x.Args (by omega)) (by simp []) ?_
 rintro r rfl
 simp []
 try simp [J3m]
theorem Jrk (x y:DCall):Holds Tryz.prog 302 [.agg (J0y x),.agg (J0y y)] (fun r=>r = .bool (decide (x=y))):=by
 refine J02 Tryz.func302 a302_ok rfl (by simp [a302]) ?_
 simp [a302,J0y]
 by_cases h0:x.Bind=y.Bind
 case neg=>simp [h0];try exact fun e=>h0 (by rw [e])
 simp [h0]
 by_cases h1:x.Func=y.Func
 case neg=>simp [h1];try exact fun e=>h1 (by rw [e])
 simp [h1]
 refine J01 (Jqi x.Args y.Args) (by simp []) ?_
 rintro r rfl
 by_cases h2:x.Args=y.Args
 case neg=>simp [h2];try exact fun e=>h2 (by rw [e])
 simp [h2]
 cases x;cases y;simp_all
theorem a214_ok:J0a Tryz.prog Tryz.f214=some (tSz true 3 284):=by kernel_rfl
theorem Jmh (l:List DCall) (left:Int) (h0:0≤left∧left≤4611686018427387904):Holds Tryz.prog 214 [.sl 3 (l.map J0y),i64 left] (fun r=>r=i64 (J3a left (J8f l))):=by
 rw [show J8f l=wL J61 l from rfl,←J6c (w:=J61) (g:=fun x lf=>J3a lf (J61 x)) (fun _ _ _=>rfl) l left h0.1]
 exact J5u Tryz.func214 a214_ok rfl (rowOf:=J0y) (eltOf:=(fun x => .agg (J0y x))) (fun x=>by simp [J0y]) (fun x h=>by simp [J0y]) (fun x lf h=>J93 h) l left h0 (fun x lf _ hl=>Jq4 x lf hl)
theorem a228_ok:J0a Tryz.prog Tryz.f228=some (tTo true 3 56 291 [.str [],.str [],.nil 3]):=by kernel_rfl
theorem Jo4 (l:List DCall) (hw:J8f l≤1048576):Holds Tryz.prog 228 [.sl 3 (l.map J0y)] (fun r=>r = .us 3 (l.map J3m)):=
 J5y Tryz.func228 a228_ok rfl (rowOf:=J0y) (eltOf:=(fun x => .agg (J0y x))) (eltU:=(fun x => .agg (J3m x))) (fun x=>by simp [J0y]) (fun x h=>by simp [J0y]) (fun x=>by simp) (fun x=>by simp [J3m]) (fun x=>by simp [J3m]) rfl l (by have:=J2b J61 l;unfold J8f at hw;unfold LIM;omega) (fun x h=>Jqo x (by have:=J3o (w:=J61) h;unfold J8f at hw;omega))
theorem a246_ok:J0a Tryz.prog Tryz.f246=some (tEq true 3 302):=by kernel_rfl
theorem Jo2 (l m:List DCall):Holds Tryz.prog 246 [.sl 3 (l.map J0y),.sl 3 (m.map J0y)] (fun r=>r = .bool (decide (l=m))):=by
 rw [←J82]
 exact J60 Tryz.func246 a246_ok rfl (rowOf:=J0y) (eltOf:=(fun x => .agg (J0y x))) (fun x=>by simp [J0y]) (fun x h=>by simp [J0y]) l m (fun x y _ _=>Jrk x y)
theorem Jpx (x:DRule) (left:Int) (h0:0≤left∧left≤4611686018427387904):Holds Tryz.prog 133 [.agg (J0c x),i64 left] (fun r=>r=i64 (J3a left (J4l x))):=by
 refine J02 Tryz.func133 a133_ok rfl (by simp [a133]) ?_
 simp [a133,J0c]
 have e0:J4l x=J4l x:=rfl
 conv at e0=>rhs;unfold J4l
 intro hl0
 rw [J19 (by unfold LIM at hl0;omega)]
 by_cases h1:left - (x.Func.length:Nat)<0
 case pos=>
  have q:left - (J4l x:Int)<0:=by omega
  simp [J3a,h1,q]
  try first|omega|(constructor <;> intros <;> omega)
 have g1:(x.Func.length:Nat)≤left:=by omega
 simp [J3a,h1,g1]
 refine J01 (Ji1 x.Patterns (left - (x.Func.length:Nat)) (by omega)) (by simp) ?_
 rintro r rfl
 by_cases h2:(left - (x.Func.length:Nat)) - (J31 x.Patterns:Nat)<0
 case pos=>
  have q:left - (J4l x:Int)<0:=by omega
  simp [J3a,h2,q]
  try first|omega|(constructor <;> intros <;> omega)
 simp [J3a,h2]
 refine J01 (Jlj x.Guards (left - (x.Func.length:Nat) - (J31 x.Patterns:Nat)) (by omega)) (by simp) ?_
 rintro r rfl
 by_cases h3:(left - (x.Func.length:Nat) - (J31 x.Patterns:Nat)) - (J65 x.Guards:Nat)<0
 case pos=>
  have q:left - (J4l x:Int)<0:=by omega
  simp [J3a,h3,q]
  try first|omega|(constructor <;> intros <;> omega)
 simp [J3a,h3]
 refine J01 (Jmh x.Calls (left - (x.Func.length:Nat) - (J31 x.Patterns:Nat) - (J65 x.Guards:Nat)) (by omega)) (by simp) ?_
 rintro r rfl
 by_cases h4:(left - (x.Func.length:Nat) - (J31 x.Patterns:Nat) - (J65 x.Guards:Nat)) - (J8f x.Calls:Nat)<0
 case pos=>
  have q:left - (J4l x:Int)<0:=by omega
  simp [J3a,h4,q]
  try first|omega|(constructor <;> intros <;> omega)
 simp [J3a,h4]
 refine J01 (Jna x.Result (left - (x.Func.length:Nat) - (J31 x.Patterns:Nat) - (J65 x.Guards:Nat) - (J8f x.Calls:Nat)) (by omega)) (by simp [J0x]) ?_
 rintro r rfl
 by_cases h5:(left - (x.Func.length:Nat) - (J31 x.Patterns:Nat) - (J65 x.Guards:Nat) - (J8f x.Calls:Nat)) - (Jae x.Result:Nat)<0
 case pos=>
  have q:left - (J4l x:Int)<0:=by omega
  simp [J3a,h5,q]
  try first|omega|(constructor <;> intros <;> omega)
 simp [J3a,h5]
 try (rw [if_neg (by omega)];omega)
theorem Jq7 (x:DRule) (_hw:J4l x≤1048576):Holds Tryz.prog 139 [.agg (J0c x)] (fun r=>r = .agg (J27 x)):=by
 have hw:=_hw;unfold J4l at hw
 refine J02 Tryz.func139 a139_ok rfl (by simp [a139]) ?_
 simp [a139,J0c]
 refine J01 (Jhy x.Patterns (by omega)) (by simp []) ?_
 rintro r rfl
 simp []
 refine J01 (Jky x.Guards (by omega)) (by simp []) ?_
 rintro r rfl
 simp []
 refine J01 (Jo4 x.Calls (by omega)) (by simp []) ?_
 rintro r rfl
 simp []
 refine J01 (Jnh x.Result (by omega)) (by simp [J0x]) ?_
 rintro r rfl
 simp [J5b]
 try simp [J27]
theorem Jqe (x y:DRule):Holds Tryz.prog 155 [.agg (J0c x),.agg (J0c y)] (fun r=>r = .bool (decide (x=y))):=by
 refine J02 Tryz.func155 a155_ok rfl (by simp [a155]) ?_
 simp [a155,J0c]
 by_cases h0:x.Func=y.Func
 case neg=>simp [h0];try exact fun e=>h0 (by rw [e])
 simp [h0]
 refine J01 (Jhv x.Patterns y.Patterns) (by simp []) ?_
 rintro r rfl
 by_cases h1:x.Patterns=y.Patterns
 case neg=>simp [h1];try exact fun e=>h1 (by rw [e])
 simp [h1]
 refine J01 (Jk7 x.Guards y.Guards) (by simp []) ?_
 rintro r rfl
 by_cases h2:x.Guards=y.Guards
 case neg=>simp [h2];try exact fun e=>h2 (by rw [e])
 simp [h2]
 refine J01 (Jo2 x.Calls y.Calls) (by simp []) ?_
 rintro r rfl
 by_cases h3:x.Calls=y.Calls
 case neg=>simp [h3];try exact fun e=>h3 (by rw [e])
 simp [h3]
 refine J01 (Jnu x.Result y.Result) (by simp [J0x]) ?_
 rintro r rfl
 by_cases h4:x.Result=y.Result
 case neg=>simp [h4];try exact fun e=>h4 (by rw [e])
 simp [h4]
 cases x;cases y;simp_all
theorem a59_ok:J0a Tryz.prog Tryz.f59=some (tSz true 7 133):=by kernel_rfl
theorem Jov (l:List DRule) (left:Int) (h0:0≤left∧left≤4611686018427387904):Holds Tryz.prog 59 [.sl 7 (l.map J0c),i64 left] (fun r=>r=i64 (J3a left (J8w l))):=by
 rw [show J8w l=wL J4l l from rfl,←J6c (w:=J4l) (g:=fun x lf=>J3a lf (J4l x)) (fun _ _ _=>rfl) l left h0.1]
 exact J5u Tryz.func59 a59_ok rfl (rowOf:=J0c) (eltOf:=(fun x => .agg (J0c x))) (fun x=>by simp [J0c]) (fun x h=>by simp [J0c]) (fun x lf h=>J93 h) l left h0 (fun x lf _ hl=>Jpx x lf hl)
theorem a66_ok:J0a Tryz.prog Tryz.f66=some (tTo true 7 136 139 [.str [],.nil 4,.nil 2,.nil 3,.bool false,.nil 2,.str []]):=by kernel_rfl
theorem Jn8 (l:List DRule) (hw:J8w l≤1048576):Holds Tryz.prog 66 [.sl 7 (l.map J0c)] (fun r=>r = .us 7 (l.map J27)):=
 J5y Tryz.func66 a66_ok rfl (rowOf:=J0c) (eltOf:=(fun x => .agg (J0c x))) (eltU:=(fun x => .agg (J27 x))) (fun x=>by simp [J0c]) (fun x h=>by simp [J0c]) (fun x=>by simp) (fun x=>by simp [J27]) (fun x=>by simp [J27]) rfl l (by have:=J2b J4l l;unfold J8w at hw;unfold LIM;omega) (fun x h=>Jq7 x (by have:=J3o (w:=J4l) h;unfold J8w at hw;omega))
theorem a75_ok:J0a Tryz.prog Tryz.f75=some (tEq true 7 155):=by kernel_rfl
theorem Jmp (l m:List DRule):Holds Tryz.prog 75 [.sl 7 (l.map J0c),.sl 7 (m.map J0c)] (fun r=>r = .bool (decide (l=m))):=by
 rw [←J82]
 exact J60 Tryz.func75 a75_ok rfl (rowOf:=J0c) (eltOf:=(fun x => .agg (J0c x))) (fun x=>by simp [J0c]) (fun x h=>by simp [J0c]) l m (fun x y _ _=>Jqe x y)
theorem Jig (x:DFunction) (left:Int) (h0:0≤left∧left≤4611686018427387904):Holds Tryz.prog 132 [.agg (J05 x),i64 left] (fun r=>r=i64 (J3a left (J12 x))):=by
 refine J02 Tryz.func132 a132_ok rfl (by simp [a132]) ?_
 simp [a132,J05]
 have e0:J12 x=J12 x:=rfl
 conv at e0=>rhs;unfold J12
 intro hl0
 rw [J19 (by unfold LIM at hl0;omega)]
 by_cases h1:left - (x.Name.length:Nat)<0
 case pos=>
  have q:left - (J12 x:Int)<0:=by omega
  simp [J3a,h1,q]
  try first|omega|(constructor <;> intros <;> omega)
 have g1:(x.Name.length:Nat)≤left:=by omega
 simp [J3a,h1,g1]
 refine J01 (Jiw x.Params (left - (x.Name.length:Nat)) (by omega)) (by simp) ?_
 rintro r rfl
 by_cases h2:(left - (x.Name.length:Nat)) - (J44 x.Params:Nat)<0
 case pos=>
  have q:left - (J12 x:Int)<0:=by omega
  simp [J3a,h2,q]
  try first|omega|(constructor <;> intros <;> omega)
 simp [J3a,h2]
 refine J01 (Jpu x.Pre (left - (x.Name.length:Nat) - (J44 x.Params:Nat)) (by omega)) (by simp) ?_
 rintro r rfl
 by_cases h3:(left - (x.Name.length:Nat) - (J44 x.Params:Nat)) - (J5x x.Pre:Nat)<0
 case pos=>
  have q:left - (J12 x:Int)<0:=by omega
  simp [J3a,h3,q]
  try first|omega|(constructor <;> intros <;> omega)
 simp [J3a,h3]
 try (rw [if_neg (by omega)];omega)
theorem Jhd (x:DFunction) (_hw:J12 x≤1048576):Holds Tryz.prog 138 [.agg (J05 x)] (fun r=>r = .agg (J0j x)):=by
 have hw:=_hw;unfold J12 at hw
 refine J02 Tryz.func138 a138_ok rfl (by simp [a138]) ?_
 simp [a138,J05]
 refine J01 (Jjn x.Params (by omega)) (by simp []) ?_
 rintro r rfl
 simp []
 refine J01 (Jqm x.Pre (by omega)) (by simp []) ?_
 rintro r rfl
 simp []
 try simp [J0j]
theorem Ji2 (x y:DFunction):Holds Tryz.prog 154 [.agg (J05 x),.agg (J05 y)] (fun r=>r = .bool (decide (x=y))):=by
 refine J02 Tryz.func154 a154_ok rfl (by simp [a154]) ?_
 simp [a154,J05]
 by_cases h0:x.Name=y.Name
 case neg=>simp [h0];try exact fun e=>h0 (by rw [e])
 simp [h0]
 refine J01 (Jj9 x.Params y.Params) (by simp []) ?_
 rintro r rfl
 by_cases h1:x.Params=y.Params
 case neg=>simp [h1];try exact fun e=>h1 (by rw [e])
 simp [h1]
 by_cases h2:x.ListResult=y.ListResult
 case neg=>simp [h2];try exact fun e=>h2 (by rw [e])
 simp [h2]
 refine J01 (Jsf x.Pre y.Pre) (by simp []) ?_
 rintro r rfl
 by_cases h3:x.Pre=y.Pre
 case neg=>simp [h3];try exact fun e=>h3 (by rw [e])
 simp [h3]
 cases x;cases y;simp_all
theorem a58_ok:J0a Tryz.prog Tryz.f58=some (tSz true 4 132):=by kernel_rfl
theorem Jgg (l:List DFunction) (left:Int) (h0:0≤left∧left≤4611686018427387904):Holds Tryz.prog 58 [.sl 4 (l.map J05),i64 left] (fun r=>r=i64 (J3a left (J29 l))):=by
 rw [show J29 l=wL J12 l from rfl,←J6c (w:=J12) (g:=fun x lf=>J3a lf (J12 x)) (fun _ _ _=>rfl) l left h0.1]
 exact J5u Tryz.func58 a58_ok rfl (rowOf:=J05) (eltOf:=(fun x => .agg (J05 x))) (fun x=>by simp [J05]) (fun x h=>by simp [J05]) (fun x lf h=>J93 h) l left h0 (fun x lf _ hl=>Jig x lf hl)
theorem a65_ok:J0a Tryz.prog Tryz.f65=some (tTo true 4 72 138 [.str [],.nil 1,.bool false,.nil 2]):=by kernel_rfl
theorem Jgb (l:List DFunction) (hw:J29 l≤1048576):Holds Tryz.prog 65 [.sl 4 (l.map J05)] (fun r=>r = .us 4 (l.map J0j)):=
 J5y Tryz.func65 a65_ok rfl (rowOf:=J05) (eltOf:=(fun x => .agg (J05 x))) (eltU:=(fun x => .agg (J0j x))) (fun x=>by simp [J05]) (fun x h=>by simp [J05]) (fun x=>by simp) (fun x=>by simp [J0j]) (fun x=>by simp [J0j]) rfl l (by have:=J2b J12 l;unfold J29 at hw;unfold LIM;omega) (fun x h=>Jhd x (by have:=J3o (w:=J12) h;unfold J29 at hw;omega))
theorem a74_ok:J0a Tryz.prog Tryz.f74=some (tEq true 4 154):=by kernel_rfl
theorem Jg9 (l m:List DFunction):Holds Tryz.prog 74 [.sl 4 (l.map J05),.sl 4 (m.map J05)] (fun r=>r = .bool (decide (l=m))):=by
 rw [←J82]
 exact J60 Tryz.func74 a74_ok rfl (rowOf:=J05) (eltOf:=(fun x => .agg (J05 x))) (fun x=>by simp [J05]) (fun x h=>by simp [J05]) l m (fun x y _ _=>Ji2 x y)
theorem Jdv (x:DProgram) (left:Int) (h0:0≤left∧left≤4611686018427387904):Holds Tryz.prog 12 [.agg (J03 x),i64 left] (fun r=>r=i64 (J3a left (J0r x))):=by
 refine J02 Tryz.func12 a12_ok rfl (by simp [a12]) ?_
 simp [a12,J03]
 have e0:J0r x=J0r x:=rfl
 conv at e0=>rhs;unfold J0r
 refine J01 (Jgg x.Functions left (by omega)) (by simp) ?_
 rintro r rfl
 by_cases h1:left - (J29 x.Functions:Nat)<0
 case pos=>
  have q:left - (J0r x:Int)<0:=by omega
  simp [J3a,h1,q]
  try first|omega|(constructor <;> intros <;> omega)
 simp [J3a,h1]
 refine J01 (Jov x.Rules (left - (J29 x.Functions:Nat)) (by omega)) (by simp) ?_
 rintro r rfl
 by_cases h2:(left - (J29 x.Functions:Nat)) - (J8w x.Rules:Nat)<0
 case pos=>
  have q:left - (J0r x:Int)<0:=by omega
  simp [J3a,h2,q]
  try first|omega|(constructor <;> intros <;> omega)
 simp [J3a,h2]
 try (rw [if_neg (by omega)];omega)
theorem J5k (x:DProgram) (_hw:J0r x≤1048576):Holds Tryz.prog 14 [.agg (J03 x)] (fun r=>r = .agg (J1o x)):=by
 have hw:=_hw;unfold J0r at hw
 refine J02 Tryz.func14 a14_ok rfl (by simp [a14]) ?_
 simp [a14,J03]
 refine J01 (Jgb x.Functions (by omega)) (by simp []) ?_
 rintro r rfl
 simp []
 refine J01 (Jn8 x.Rules (by omega)) (by simp []) ?_
 rintro r rfl
 simp []
 try simp [J1o]
theorem Jdk (x y:DProgram):Holds Tryz.prog 17 [.agg (J03 x),.agg (J03 y)] (fun r=>r = .bool (decide (x=y))):=by
 refine J02 Tryz.func17 a17_ok rfl (by simp [a17]) ?_
 simp [a17,J03]
 refine J01 (Jg9 x.Functions y.Functions) (by simp []) ?_
 rintro r rfl
 by_cases h0:x.Functions=y.Functions
 case neg=>simp [h0];try exact fun e=>h0 (by rw [e])
 simp [h0]
 refine J01 (Jmp x.Rules y.Rules) (by simp []) ?_
 rintro r rfl
 by_cases h1:x.Rules=y.Rules
 case neg=>simp [h1];try exact fun e=>h1 (by rw [e])
 simp [h1]
 cases x;cases y;simp_all
def a93:AFn:= ⟨11,[.t 2],(.seq (.reg [Zo 2 (.mv (.k (.bool false)))]) (.seq (.reg [Zv 6 0,Zc 7 131 [.t 6],Zv 5 7,Zo 8 (.ext (.t 5) 0),Zo 9 (.ext (.t 5) 1),Zv 3 8,Zv 4 9]) (.seq (.reg [Zv 10 4,Zv 2 10]) .ret)))⟩
theorem a93_ok:J0a Tryz.prog Tryz.f93=some a93:=by kernel_rfl
def a29:AFn:= ⟨10,[.t 2],(.seq (.reg [Zo 1 (.boxv (.t 0)),Zo 2 (.mv (.k (.bool false)))]) (.seq (.reg [Zl 3 true 2 1,Zc 4 67 [.t 3],Zv 5 4,⟨some 6,.ld true 2 (.t 1),(some (5,true))⟩,⟨some 7,.call (.k (.fn (.func 94) [] [])) [.t 6],(some (5,true))⟩,⟨some 8,.call (.k (.fn (.func 93) [] [])) [.t 7],(some (5,true))⟩,Zo 9 (.pick (.t 5) (.t 8) (.k (.bool false))),Zv 2 9]) .ret))⟩
theorem a29_ok:J0a Tryz.prog Tryz.f29=some a29:=by kernel_rfl
def a28:AFn:= ⟨16,[.t 2],(.seq (.reg [Zo 1 (.boxv (.t 0)),Zo 2 (.mv (.k (.bool false)))]) (.seq (.reg [Zl 6 true 2 1,Zc 7 92 [.t 6],Zc 8 91 [.t 7],Zv 5 8,Zo 9 (.ext (.t 5) 0),Zo 10 (.ext (.t 5) 1),Zv 3 9,Zv 4 10]) (.seq (.reg [Zv 11 4,Zv 12 11,⟨some 13,.ld true 2 (.t 1),(some (12,true))⟩,⟨some 14,.call (.k (.fn (.func 61) [] [])) [.t 13],(some (12,true))⟩,Zo 15 (.pick (.t 12) (.t 14) (.k (.bool false))),Zv 2 15]) .ret)))⟩
theorem a28_ok:J0a Tryz.prog Tryz.f28=some a28:=by kernel_rfl
def a53:AFn:= ⟨23,[.t 4,.t 5],(.seq (.reg [Zo 2 (.boxv (.t 0)),Zo 3 (.boxv (.t 1)),Zo 4 (.mv (.k (.nil 2))),Zo 5 (.mv (.k (.bool false)))]) (.seq (.reg [Zl 9 true 2 2,Zl 10 true 2 3,Zc 11 33 [.t 9,.t 10],Zv 8 11,Zo 12 (.ext (.t 8) 0),Zo 13 (.ext (.t 8) 1),Zv 6 12,Zv 7 13]) (.seq (.seq (.reg [Zv 14 7,Zo 15 (.un .not (.t 14))]) (.cond (.t 15) (.seq (.reg [Zo 4 (.mv (.k (.nil 2))),Zo 5 (.mv (.k (.bool false)))]) .ret) .skip)) (.seq (.reg [Zl 16 true 2 2,Zc 17 94 [.t 16],Zv 18 6,Zo 19 (.app 64 4 (.t 17) (.t 18)),Zc 20 131 [.t 19],Zo 21 (.ext (.t 20) 0),Zo 22 (.ext (.t 20) 1),Zv 4 21,Zv 5 22]) .ret))))⟩
def Jkl (p:DProgram):Bool:=J4c p&&(J6f (Jgu p)).isSome
theorem Jan (os:List DObligation) (hol:os.length≤3000000):Holds Tryz.prog 93 [.sl 4 (os.map J0w)] (fun r=>r = .bool (J6f os).isSome):=by
 refine J02 Tryz.func93 a93_ok rfl (by simp [a93]) ?_
 simp [a93]
 first|refine J00 (Jfg os hol) (by first|simp;done|rfl) ?_|refine J01 (Jfg os hol) (by first|simp;done|rfl) ?_
 rintro r rfl
 simp [Ji0]
theorem Jfk (p:DProgram) (hp:J0r p≤1048576):Holds Tryz.prog 29 [.agg (J03 p)] (fun r=>r = .bool (Jkl p)):=by
 have h2:=Jbe p hp
 refine J02 Tryz.func29 a29_ok rfl (by simp [a29]) ?_
 simp [a29]
 first|refine J00 (J36 p hp) (by first|simp;done|rfl) ?_|refine J01 (J36 p hp) (by first|simp;done|rfl) ?_
 rintro r rfl
 unfold Jkl
 cases h1:J4c p
 ·simp
 simp [J03]
 first|refine J00 (J8e p hp) (by first|simp [J03];done|rfl) ?_|refine J01 (J8e p hp) (by first|simp [J03];done|rfl) ?_
 rintro r rfl
 generalize Jgu p=R at *
 simp
 first|refine J00 (Jan R (by omega)) (by first|simp;done|rfl) ?_|refine J01 (Jan R (by omega)) (by first|simp;done|rfl) ?_
 rintro r rfl
 simp
theorem Jeh (p:DProgram) (hp:J0r p≤1048576):Holds Tryz.prog 28 [.agg (J03 p)] (fun r=>r = .bool (Jkl p)):=by
 have h2:=Jbe p hp
 have ht:∀ l:List DObligation,List.take l.length (l.map J0i)=l.map J0i:=fun l=>List.take_of_length_le (by simp)
 refine J02 Tryz.func28 a28_ok rfl (by simp [a28]) ?_
 simp [a28]
 first|refine J00 (J7k p hp) (by first|simp;done|rfl) ?_|refine J01 (J7k p hp) (by first|simp;done|rfl) ?_
 rintro r rfl
 unfold Jkl
 generalize Jgu p=R at *
 simp
 first|refine J00 (Jeo R (by omega)) (by first|simp [ht];done|rfl) ?_|refine J01 (Jeo R (by omega)) (by first|simp [ht];done|rfl) ?_
 rintro r rfl
 unfold Ji0
 cases h1:(J6f R).isSome
 ·simp
 simp [J03]
 first|refine J00 (J2u p hp) (by first|simp [J03];done|rfl) ?_|refine J01 (J2u p hp) (by first|simp [J03];done|rfl) ?_
 rintro r rfl
 simp
end Go.Proofs.YtoclolkigjbcgaaGreat

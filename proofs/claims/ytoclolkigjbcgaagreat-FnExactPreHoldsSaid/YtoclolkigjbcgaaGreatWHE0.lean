/- Contracts: obligations of preconditions, of the program. -/
import Derived.Test.YtoclolkigjbcgaaGreatWHM6
import Derived.Test.YtoclolkigjbcgaaGreatWT1
import Derived.Test.YtoclolkigjbcgaaGreatProg
import Derived.Test.YtoclolkigjbcgaaGreatWC13
namespace Go.Proofs.YtoclolkigjbcgaaGreat
set_option maxRecDepth 40000
set_option maxHeartbeats 4000000
open Go Go.RowKit Go.Proofs
set_option linter.all false
def a128:AFn:= ⟨9,[(.c 2 true 2)],(.seq (.reg [Zo 1 (.boxv (.t 0)),Zo 2 (.box [(.int .i64 0),(.nil 2)])]) (.seq (.draw (.op (Zf 3 0 1) (.op (Zl 4 false 1 3) (.op (Zf 5 1 1) (.op (Zl 6 false 1 5) (.op (Zc 7 209 [.t 6]) (.op (Zo 8 (.build [(.int .i64 0),(.nil 2)] [(0,(1,(.t 4))),(1,(1,(.t 7)))])) (.hop ⟨no,.st 2 (.t 2) (.t 8),no⟩ [] .fin)))))))) .ret))⟩
theorem a128_ok:J0a Tryz.prog Tryz.f128=some a128:=by kernel_rfl
def a175:AFn:= ⟨27,[(.c 2 true 2)],(.seq (.reg [Zo 1 (.boxv (.t 0)),Zo 2 (.box [(.int .i64 0),(.nil 2)])]) (.seq (.reg [Zf 5 0 1,Zl 6 false 1 5,Zo 7 (.build [(.int .i64 0),(.nil 2)] [(0,(1,(.t 6)))]),Zo 3 (.box [(.int .i64 0),(.nil 2)]),⟨no,.st 2 (.t 3) (.t 7),no⟩]) (.seq (.seq (.reg [Zo 4 (.mv (.k (.int .i64 0)))]) (.blk 0 (.loop (.seq (.seq (.reg [Zv 8 4,Zf 9 1 1,Zl 10 false 1 9,Zo 11 (.len false (.t 10)),Zo 12 (.bin .lss (.t 8) (.t 11))]) (.cond (.t 12) .skip (.exit 0))) (.seq (.blk 1 (.draw (.op (Zf 15 1 3) (.op (Zl 16 false 1 15) (.op (Zf 17 1 1) (.op (Zl 18 false 1 17) (.op (Zv 19 4) (.op (Zo 20 (.ixa 2 (.t 18) (.t 19))) (.op (Zl 21 true 2 20) (.op (Zc 22 82 [.t 21]) (.hop (Zo 23 (.bsl 2 [.t 22])) [(.ld false 1 (.t 15)),(.fld 1 (.t 3))] (.hop (Zo 24 (.app 32 2 (.t 16) (.t 23))) [] (.op (Zf 25 1 3) (.hop ⟨no,.st 1 (.t 25) (.t 24),no⟩ [] .fin)))))))))))))) (.reg [Zv 13 4,Zo 14 (.bin .add (.t 13) (.k (.int .i64 1))),Zv 4 14])))))) (.seq (.reg [Zl 26 true 2 3,⟨no,.st 2 (.t 2) (.t 26),no⟩]) .ret))))⟩
theorem a175_ok:J0a Tryz.prog Tryz.f175=some a175:=by kernel_rfl
def po0:AC:=(.reg [Zo 1 (.boxv (.t 0)),Zo 2 (.mv (.k (.nil 4)))])
def po1:AC:=(.reg [Zo 3 (.mv (.k (.nil 4)))])
def pod:AC:=(.draw (.op (Zv 63 3) (.op (Zf 64 0 6) (.op (Zl 65 true 2 64) (.op (Zl 67 true 2 14) (.op (Zc 66 128 [.t 65]) (.op (Zo 68 (.build [(.int .i64 0),(.nil 2),(.int .i64 0),(.nil 1)] [(0,(2,(.t 66))),(2,(2,(.t 67)))])) (.hop (Zo 69 (.bsl 4 [.t 68])) [] (.hop (Zo 70 (.app 64 4 (.t 63) (.t 69))) [] (.hop (Zv 3 70) [] .fin))))))))))
def poi:AC:=(.seq (.reg [Zf 42 3 10,Zl 43 false 1 42,Zo 44 (.len false (.t 43)),Zo 45 (.mv (.k (.int .i64 0)))]) (.blk 2 (.loop (.seq (.reg [Zo 46 (.bin .lss (.t 45) (.t 44))]) (.seq (.cond (.t 46) .skip (.exit 2)) (.seq (.blk 3 (.seq (.reg [Zo 47 (.ixa 2 (.t 43) (.t 45)),Zl 48 true 2 47,Zo 13 (.box [(.int .i64 0),(.nil 1)]),⟨no,.st 2 (.t 13) (.t 48),no⟩]) (.seq (.reg [Zl 50 true 6 6,Zl 51 true 2 13,Zf 52 1 5,Zl 53 false 1 52,Zc 54 177 [.t 50,.t 51,.t 53],Zv 49 54,Zo 55 (.ext (.t 49) 0),Zo 56 (.ext (.t 49) 1),Zo 14 (.box [(.int .i64 0),(.nil 1)]),⟨no,.st 2 (.t 14) (.t 55),no⟩,Zv 15 56]) (.seq (.seq (.reg [Zv 57 15,Zo 58 (.un .not (.t 57))]) (.cond (.t 58) (.reg [Zf 59 0 6,Zf 60 0 59,Zl 61 false 1 60,Zc 62 178 [(.k (.int .i64 (-1))),.t 61],⟨no,.st 2 (.t 14) (.t 62),no⟩]) .skip)) pod)))) (.reg [Zo 71 (.bin .add (.t 45) (.k (.int .i64 1))),Zv 45 71])))))))
def po2:AC:=(.seq (.reg [Zl 16 true 2 1,Zc 17 125 [.t 16],Zo 18 (.len false (.t 17)),Zo 19 (.mv (.k (.int .i64 0)))]) (.blk 0 (.loop (.seq (.reg [Zo 20 (.bin .lss (.t 19) (.t 18))]) (.seq (.cond (.t 20) .skip (.exit 0)) (.seq (.blk 1 (.seq (.reg [Zo 21 (.ixa 2 (.t 17) (.t 19)),Zl 22 true 2 21,Zo 5 (.box [(.int .i64 0),(.int .i64 0)]),⟨no,.st 2 (.t 5) (.t 22),no⟩]) (.seq (.reg [Zl 24 true 2 1,Zf 25 0 5,Zl 26 false 1 25,Zc 27 126 [.t 24,.t 26],Zv 23 27,Zo 28 (.ext (.t 23) 0),Zo 29 (.ext (.t 23) 1),Zo 6 (.box [(.int .i64 0),(.nil 2),(.nil 2),(.nil 1),(.int .i64 0),(.nil 1)]),⟨no,.st 6 (.t 6) (.t 28),no⟩,Zv 7 29]) (.seq (.reg [Zl 31 true 2 1,Zl 32 true 2 5,Zc 33 152 [.t 31,.t 32],Zv 30 33,Zo 34 (.ext (.t 30) 0),Zo 35 (.ext (.t 30) 1),Zv 8 34,Zv 9 35]) (.seq (.reg [Zl 37 true 2 1,Zv 38 9,Zc 39 176 [.t 37,.t 38],Zv 36 39,Zo 40 (.ext (.t 36) 0),Zo 41 (.ext (.t 36) 1),Zo 10 (.box [(.str []),(.nil 1),(.bool false),(.nil 2)]),⟨no,.st 4 (.t 10) (.t 40),no⟩,Zv 11 41]) poi))))) (.reg [Zo 72 (.bin .add (.t 19) (.k (.int .i64 1))),Zv 19 72])))))))
def po3:AC:=(.reg [Zv 73 3,Zv 2 73])
def a94:AFn:=⟨74,[.t 2],(.seq po0 (.seq po1 (.seq po2 (.seq po3 .ret))))⟩
theorem a94_ok:J0a Tryz.prog Tryz.f94=some a94:=by kernel_rfl
theorem Js0 {l:List DLin}(h:∀ x∈l,x.Coeffs.length≤8):J5x l≤9*l.length:=by
 unfold J5x wL
 have:((l.map J9z).sum)≤8*l.length:=by
  induction l with
  | nil=>simp
  | cons e l ih=>
   have h1:=ih fun x hx=>h x (List.mem_cons_of_mem _ hx)
   have h2:=h e List.mem_cons_self
   simp only [List.map_cons,List.sum_cons,List.length_cons]
   rw [show J9z e=e.Coeffs.length from rfl]
   omega
 omega
theorem Jc7 (x:DSystem) (hw:J5x x.Rows≤1048576):Holds Tryz.prog 128 [.agg (J0f x)] (fun r=>r = .agg (J3d x)):=by
 refine J02 Tryz.func128 a128_ok rfl (by simp [a128]) ?_
 simp [a128,J0f]
 first|refine J00 (J9f x.Rows hw) (by first|simp;done|rfl) ?_|refine J01 (J9f x.Rows hw) (by first|simp;done|rfl) ?_
 rintro r rfl
 simp [J3d]
theorem Jif (x:DSystem) (hw:J5x x.Rows≤1048576):Holds Tryz.prog 175 [.agg (J0f x)] (fun r=>r = .agg (J3d x)):=by
 have hl:=J2b J9z x.Rows
 have hcl:∀ l∈x.Rows,l.Coeffs.length≤1048576:=fun l hl=>by
  have:=J3o (w:=J9z) hl
  rw [show J9z l=l.Coeffs.length from rfl] at this
  unfold J5x at hw;omega
 unfold J5x at hw
 refine J02 Tryz.func175 a175_ok rfl (by simp [a175]) ?_
 simp [a175,J0f]
 refine J0k [1,2,3] 4 x.Rows.length (fun i s h m=>2<m∧h 0=some ⟨true,2,[J0f x]⟩∧h 1=some ⟨true,2,[[.int .i64 0,.nil 2]]⟩∧∃ v,h 2=some ⟨true,2,[[.int .i64 x.N,v]]⟩∧J3v 2 2 ((x.Rows.take i).map J07) v h m) (by unfold LIM;omega) (by simp)
  ⟨by simp,by simp [J0f],by simp,.nil 2,by simp,.inl (by simp)⟩ ?_ ?_
 ·rintro i st h m R hi hg hk s4 hw' ⟨hm,e0,e1,v,e2,B⟩ hR _ _
  simp at hk
  have hcl:=hcl _ (List.getElem_mem hi)
  refine J09 (J0g [1,2,3,4] (fun s=>s 12 = .bool true) (by simp [hk,s4,hi,e0,J0f]) ?_)
  intro st1 hk1 s12
  simp at hk1
  refine J1u s12 (J09 (J0t ?_))
  have ne:¬0=m∧¬1=m∧¬2=m∧¬m=2∧¬m=1∧¬m=0∧¬m+1=2∧¬m=m+1∧¬m+1=m:=by omega
  have fr:∀ id,id<m→¬id=m∧¬id=m+1:=by intro id _;omega
  simp [hk1,hk,s4,hi,e0,e2,J0f]
  first|refine J00 (J2c (x.Rows[i]'hi) hcl) (by first|simp;done|rfl) ?_|refine J01 (J2c (x.Rows[i]'hi) hcl) (by first|simp;done|rfl) ?_
  rintro r rfl
  simp [J07,e2,ne,hk1,hk]
  refine J32 (rows:=(x.Rows.take i).map J07) (rows2:=[[.int .i64 (x.Rows[i]).Const,.us 1 (J0e (x.Rows[i]).Coeffs)]]) (B.keep (n':=m+1+1) (by omega) fun id _ hid _=>by simp [fr id hid]) (by simp) (fun l e=>by have:=(B.lt e).2.1;omega) (by omega) (by simp;unfold LIM;omega) ?_
  intro h1 f1 f2
  have bx:∀ id z rows,id<m→h id=some ⟨true,z,rows⟩→h1 id=h id:=by
   intro id z rows h1' h3'
   rw [f2 id (by omega) (by omega) fun l e=>B.not_box h3' e];simp [fr id h1']
  have g0:=bx 0 _ _ (by omega) e0
  have g1:=bx 1 _ _ (by omega) e1
  have g2:=bx 2 _ _ (by omega) e2
  simp [g2,e2,s4,hw',hk1,hk]
  refine hR _ _ _ (by simp [hk1,hk]) (by simp) ⟨by omega,by simp [g0,e0],by simp [g1,e1],.ref (m+2) 0 (i+1),?_,.inr ⟨m+2,by omega,by omega,by simp;omega,?_⟩⟩
  ·simp;omega
  ·simp [ne,f1]
   have hi':i<(x.Rows.map J07).length:=by simpa using hi
   rw [List.take_succ_eq_append_getElem hi']
   simp [J07]
 ·rintro st h m R hk s4 ⟨hm,e0,e1,v,e2,B⟩ _ hX
  simp at hk
  rw [List.take_length] at B
  refine J09 (J0g [1,2,3] (fun s=>s 12 = .bool false) (by simp [hk,s4,e0,J0f]) ?_)
  intro st1 hk1 s12
  simp at hk1
  refine J1s s12 ?_
  refine hX _ _ _ _ ?_
  have cB:=B.cell
  simp [hk1,hk,e2,e1,-dt,-dtl,-J0n,Jbv,cB]
  have B':J3v 2 2 (x.Rows.map J07) v (upd h 1 (some ⟨true,2,[[.int .i64 x.N,v]]⟩)) m:=B.keep (Nat.le_refl _) fun id hb hid e=>by
   have:¬id=1:=by omega
   simp [this]
  obtain ⟨h2,d1,_⟩:=B'.dt
  simp [d1,J3d]
def Jm3 (md:DModel) (l:DLin) (call:Int):DObligation:=⟨md.System,(J4q md l call).getD (J04 (-1) md.System.N)⟩
def Jhn (p:DProgram) (e:DEdge):DModel:=(Jcj p e.Rule).getD Jc8
def Jcu (p:DProgram) (e:DEdge):List DLin:=((J1p p.Functions (toE p e)).getD fn0).Pre
def J8h (p:DProgram) (e:DEdge):List DObligation:=(Jcu p e).map fun l=>Jm3 (Jhn p e) l e.Call
def Jgu (p:DProgram):List DObligation:=(J1y p).flatMap (J8h p)
theorem Jbe (p:DProgram) (hp:J0r p≤1048576):(Jgu p).length≤2097152:=by
 have h1:=Jaa p hp
 have h2:∀ l:List DEdge,(∀ e∈l,(J8h p e).length≤2)→(l.flatMap (J8h p)).length≤2*l.length:=by
  intro l
  induction l with
  | nil=>intro _;simp
  | cons e l ih=>
   intro h
   have g1:=ih fun x hx=>h x (List.mem_cons_of_mem _ hx)
   have g2:=h e List.mem_cons_self
   simp only [List.flatMap_cons,List.length_append,List.length_cons]
   omega
 have h3:=h2 (J1y p) fun e he=>by
  have hpo:J4c p=true:=by
   unfold J1y at he
   split at he
   ·assumption
   ·cases he
  simp only [J8h,List.length_map,Jcu]
  cases hf:J1p p.Functions (toE p e) with
  | none=>simp [fn0]
  | some g=>exact (Jni hpo hf).2.2.2
 unfold Jgu;omega
theorem Jmw {p:DProgram}(h1:J4c p=true) {i k:Nat}(hi:i<p.Rules.length):J5x (Jhn p ⟨i,k⟩).System.Rows≤1000:=by
 obtain ⟨f,hf,R⟩:=Jjk h1 (List.getElem_mem hi)
 have hg:p.Rules.getD (i:Int).toNat Jnb=p.Rules[i]:=by simp [hi]
 have hin:inR (i:Int) 0 ((p.Rules.length:Int) - 1)=true:=by simp [inR];omega
 have hfa:Jrj p p.Rules[i]=f:=by unfold Jrj;rw [hf];rfl
 have:Jhn p ⟨i,k⟩=J68 p.Rules[i] f:=by unfold Jhn Jcj;simp only [h1,hin,hg,hfa,Bool.and_self,if_true,Option.getD_some]
 rw [this]
 obtain ⟨q1,q2,_⟩:=Jnq h1 R
 have:=Js0 q2
 omega
theorem Jne {p:DProgram}{j:Nat}(hj:j<(J1y p).length):J4c p=true:=by
 unfold J1y at hj
 split at hj
 ·assumption
 ·simp at hj
section
variable {ks:List Kt}{s:Env}{h h':Heap}{n:Nat}{Q:Fin}
theorem Jx8 {md:DModel}{t:DLin}{acc:List DObligation}{v:AV}{k6 k14:Nat}(s3:s 3=v) (s6:s 6 = .ptr k6 0 0) (s14:s 14 = .ptr k14 0 0) (e6:h k6=some ⟨true,6,[J16 md]⟩) (L:J5e t k14 h n) (B:J3v 0 4 (acc.map J0i) v h n) (hw:J5x md.System.Rows≤1048576) (hl:acc.length≤3000000)
 (hK:∀ s' h' n',(∀ j∈[1,2,5,6,17,18,19,43,44,45],s' j=s j)→n≤n'→(∀ id z rows,id<n→h id=some ⟨true,z,rows⟩→h' id=h id)→J3v 0 4 ((acc++[(⟨md.System,t⟩:DObligation)]).map J0i) (s' 3) h' n'→J25 Tryz.prog ks .normal s' h' n' Q):rC Tryz.prog pod ks s h n Q:=by
 obtain ⟨q,hkn,hqn,hkb,hqb⟩:=L
 have ne:¬q=n∧¬n=q∧¬n=n+1∧¬n+1=n∧¬n+1=q∧¬q=n+1:=by omega
 have fr:∀ id,id<n→¬id=n∧¬id=n+1∧¬id=n+1+1:=by intro id _;omega
 have hqv:∀ l,v ≠ .ref q 0 l:=fun l e=>by have:=(B.lt e).2.2.1;rw [hqb] at this;simp at this
 simp [pod,s3,s6,s14,e6,hkb]
 first|refine J00 (Jc7 md.System hw) (by first|simp;done|rfl) ?_|refine J01 (Jc7 md.System hw) (by first|simp;done|rfl) ?_
 rintro r rfl
 simp [J3d,hqb,ne]
 refine J32 (rows:=acc.map J0i) (rows2:=[[.int .i64 md.System.N,.us 2 (md.System.Rows.map J07),.int .i64 t.Const,.us 1 (J0e t.Coeffs)]]) (B.keep (n':=n+1+1) (by omega) fun id _ hid e => ?_) (by simp) (fun l e=>by have:=(B.lt e).2.1;omega) (by omega) (by simp;unfold LIM;omega) ?_
 ·have:¬id=q:=fun e'=>hqv _ (by rw [←e'];exact e)
  simp [fr id hid,this]
 intro h1 f1 f2
 simp
 refine hK _ _ _ (by simp) (by omega) ?_ ?_
 ·intro id z rows h1' h3'
  have:¬id=q:=by rintro rfl;rw [hqb] at h3';simp at h3'
  rw [f2 id (by omega) (by omega) fun l e=>B.not_box h3' e];simp [fr id h1',this]
 ·simp
  exact .inr ⟨n+2,by omega,by omega,by simp,by simp [f1,J0i]⟩
theorem Jx6 {md:DModel}{e:DEdge}{g:DFunction}{acc0 T:List DObligation}{k5 k6 k10:Nat}{pr:List (List AV)}(s1:s 1 = .ptr 0 0 0) (s5:s 5 = .ptr k5 0 0) (s6:s 6 = .ptr k6 0 0) (s10:s 10 = .ptr k10 0 0) (hk5:k5<n) (hk6:k6<n) (hk0:0<n) (e0:h 0=some ⟨true,2,pr⟩) (e5:h k5=some ⟨true,2,[J2f e]⟩) (e6:h k6=some ⟨true,6,[J16 md]⟩) (e10:h k10=some ⟨true,4,[J05 g]⟩)
 (B:J3v 0 4 (acc0.map J0i) (s 3) h n) (hw:J5x md.System.Rows≤1048576) (hT:acc0++g.Pre.map (fun l=>Jm3 md l e.Call)=T) (hTl:T.length≤2097152) (hgl:g.Pre.length≤1048576)
 (hK:∀ s' h' n',(∀ j∈[1,2,17,18,19],s' j=s j)→0<n'→h' 0=some ⟨true,2,pr⟩→J3v 0 4 (T.map J0i) (s' 3) h' n'→J25 Tryz.prog ks .normal s' h' n' Q):rC Tryz.prog poi ks s h n Q:=by
 simp [poi,s10,e10,J05]
 intro _
 refine J0k [1,2,5,6,17,18,19,43,44] 45 g.Pre.length (fun i s h m=>k5<m∧k6<m∧0<m∧h 0=some ⟨true,2,pr⟩∧h k5=some ⟨true,2,[J2f e]⟩∧h k6=some ⟨true,6,[J16 md]⟩∧∃ acc,J3v 0 4 (acc.map J0i) (s 3) h m∧acc++(g.Pre.drop i).map (fun l=>Jm3 md l e.Call)=T) (by unfold LIM;omega) (by simp)
  ⟨hk5,hk6,hk0,e0,e5,e6,acc0,by simpa using B,by simpa using hT⟩ ?_ ?_
 ·rintro i st h m R hi hg hk s45 hw' ⟨m5,m6,m0,e0,e5,e6,acc,B,hJ⟩ hR _ _
  simp at hk
  rw [List.drop_eq_getElem_cons hi,List.map_cons] at hJ
  have hal:=congrArg List.length hJ
  simp at hal
  refine J0g [1,2,3,5,6,17,18,19,43,44,45] (fun s=>s 46 = .bool true) (by simp [hk,s45,hi]) ?_
  intro st1 hk1 s46
  simp at hk1
  refine J2m s46 (J09 (J0t ?_))
  have fr:∀ id,id<m→¬id=m:=by intro id _;omega
  refine J17 [1,2,3,5,6,17,18,19,43,44,45] (fun s h2 n2=>n2=m+1∧s 13 = .ptr m 0 0∧h2 m=some ⟨true,2,[J06 (g.Pre[i]'hi)]⟩∧∀ id,id<m→h2 id=h id) ?_ ?_
  ·simp [hk1,hk,s45,hi]
   exact fun id hid=>by simp [fr id hid]
  rintro st2 h2 n2 hk2 ⟨rfl,s13,em,hfr2⟩
  simp at hk2
  generalize g.Pre[i]=l at *
  have c5:=hfr2 k5 m5
  have c6:=hfr2 k6 m6
  rw [e5] at c5
  rw [e6] at c6
  have x5:st2 5 = .ptr k5 0 0:=by simp [hk2,hk1,hk,s5]
  have x6:st2 6 = .ptr k6 0 0:=by simp [hk2,hk1,hk,s6]
  refine J17 [1,2,3,5,6,17,18,19,43,44,45] (fun s h3 n3=>m+1<n3∧s 15 = .bool (J4q md l e.Call).isSome∧(∃ k,s 14 = .ptr k 0 0∧m<k∧J5e ((J4q md l e.Call).getD J1d) k h3 n3)∧∀ id,id<m→h3 id=h id) ?_ ?_
  ·simp [x5,x6,s13,em,c5,c6,J2f]
   first|refine J00 (Jek md l e.Call) (by first|simp;done|rfl) ?_|refine J01 (Jek md l e.Call) (by first|simp;done|rfl) ?_
   rintro r rfl
   rw [J0o]
   generalize (J4q md l e.Call).getD J1d=t
   generalize (J4q md l e.Call).isSome=b
   simp [J07]
   refine ⟨⟨by omega,m+1,by omega,by omega,by simp,by simp⟩,fun id hid => ?_⟩
   have:¬id=m+1∧¬id=m+1+1:=by omega
   simp [this,hfr2 id hid]
  rintro st3 h3 n3 hk3 ⟨hn3,s15,⟨k14,s14,hk14,q,y1,y2,y3,y4⟩,hfr3⟩
  simp at hk3
  have z6:st3 6 = .ptr k6 0 0:=by rw [hk3.2.2.2.2.1,x6]
  have d6:=hfr3 k6 m6
  rw [e6] at d6
  refine J17 [1,2,3,5,6,14,17,18,19,43,44,45] (fun s h4 n4=>n3≤n4∧J5e ((J4q md l e.Call).getD (J04 (-1) md.System.N)) k14 h4 n4∧∀ id,id<m→h4 id=h id) ?_ ?_
  ·cases ht:J4q md l e.Call with
   | some t=>
    rw [ht] at s15 y3 y4
    simp [s15]
    exact ⟨⟨q,y1,y2,y3,y4⟩,hfr3⟩
   | none=>
    rw [ht] at s15
    simp only [Option.isSome_none] at s15
    have nk:¬k14=n3∧¬n3=k14:=by omega
    simp [s15,z6,d6,J16]
    first|refine J00 (J11 (-1) md.System.N) (by first|simp;done|rfl) ?_|refine J01 (J11 (-1) md.System.N) (by first|simp;done|rfl) ?_
    rintro r rfl
    generalize J04 (-1) md.System.N=t
    simp [J07,s14,nk,y3]
    refine ⟨⟨n3,by omega,by omega,by simp,by simp [nk]⟩,fun id hid => ?_⟩
    have:¬id=k14∧¬id=n3:=by omega
    simp [this,hfr3 id hid]
  rintro st4 h4 n4 hk4 ⟨hn4,L4,hfr4⟩
  simp at hk4
  have B4:J3v 0 4 (acc.map J0i) (st 3) h4 n4:=B.keep (by omega) fun id _ hid _=>hfr4 id hid
  refine Jx8 (md:=md) (t:=(J4q md l e.Call).getD (J04 (-1) md.System.N)) (acc:=acc) (v:=st 3) (k6:=k6) (k14:=k14) (by simp [hk4,hk3,hk2,hk1]) (by simp [hk4,z6]) (by simp [hk4,s14]) (by rw [hfr4 k6 m6,e6]) L4 B4 hw (by omega) ?_
  intro st5 h5 n5 hk5 hn5 bx5 B5
  simp at hk5
  simp [hk5,hk4,hk3,hk2,hk1,s45,hw']
  have f0:=hfr4 0 m0
  have f5:=hfr4 k5 m5
  have f6:=hfr4 k6 m6
  rw [e0] at f0
  rw [e5] at f5
  rw [e6] at f6
  refine hR _ _ _ (by simp [hk5,hk4,hk3,hk2,hk1,hk]) (by simp) ⟨by omega,by omega,by omega,by rw [bx5 0 _ _ (by omega) f0,f0],by rw [bx5 k5 _ _ (by omega) f5,f5],by rw [bx5 k6 _ _ (by omega) f6,f6],acc++[Jm3 md l e.Call],?_,by simpa using hJ⟩
  simp
  simpa [Jm3] using B5
 ·rintro st h m R hk s45 ⟨m5,m6,m0,e0,e5,e6,acc,B,hJ⟩ _ hX
  simp at hk
  rw [List.drop_eq_nil_of_le (by omega)] at hJ
  simp at hJ
  subst hJ
  refine J0g [1,2,3,17,18,19] (fun s=>s 46 = .bool false) (by simp [hk,s45]) ?_
  intro st1 hk1 s46
  simp at hk1
  refine J2g s46 ?_
  refine hX _ _ _ _ ?_
  simp
  refine hK _ _ _ (by simp [hk1,hk]) m0 e0 ?_
  rw [hk1.2.2.1];exact B
end
theorem J8e (p:DProgram) (hp:J0r p≤1048576):Holds Tryz.prog 94 [.agg (J03 p)] (fun x=>x = .us 4 ((Jgu p).map J0i)):=by
 have hTl:=Jbe p hp
 have hel:=Jaa p hp
 refine J02 Tryz.func94 a94_ok rfl (by simp [a94]) ?_
 simp [a94,po0,po1,po2,J03]
 refine J7o (Jnx p hp) (by simp [J03]) ?_
 rintro _ rfl
 simp
 intro _
 unfold Jgu at hTl ⊢
 generalize hT:(J1y p).flatMap (J8h p)=T at *
 refine J0k [1,17,18] 19 (J1y p).length (fun i s h m=>0<m∧h 0=some ⟨true,2,[J03 p]⟩∧∃ acc,J3v 0 4 (acc.map J0i) (s 3) h m∧acc++((J1y p).drop i).flatMap (J8h p)=T) (by unfold LIM;omega) (by simp) ⟨by simp,by simp [J03],[],.inl (by simp),by simpa using hT⟩ ?_ ?_
 ·rintro i st h m R hi hg hk s19 hw' ⟨m0,e0,acc,B,hJ⟩ hR _ _
  simp at hk
  have hpo:=Jne hi
  rw [List.drop_eq_getElem_cons hi,List.flatMap_cons] at hJ
  obtain ⟨x,y,hx,hy,he,hf,ht0⟩:=Jf7 hi
  rw [←List.append_assoc] at hJ
  generalize hrest:List.flatMap (J8h p) (List.drop (i+1) (J1y p))=rest at hJ
  have hal:=congrArg List.length hJ
  simp only [List.length_append] at hal
  refine J0g [1,3,17,18,19] (fun s=>s 20 = .bool true) (by simp [hk,s19,hi]) ?_
  intro st1 hk1 s20
  simp at hk1
  refine J2m s20 (J09 (J0t ?_))
  have fr:∀ id,id<m→¬id=m∧¬id=m+1∧¬id=m+1+1:=by intro id _;omega
  have hedge:(J8h p (J1y p)[i])=((Jcu p ⟨x,y⟩).map fun l=>Jm3 (Jhn p ⟨x,y⟩) l (y:Int)):=by rw [he];rfl
  rw [hedge] at hJ hal
  have hpa:Jcu p ⟨x,y⟩=((J1p p.Functions ((p.Rules[x]).Calls[y]).Func).getD fn0).Pre:=by unfold Jcu;rw [ht0]
  have hgl:(Jcu p ⟨x,y⟩).length≤1048576:=by
   rw [hpa]
   cases hfn:J1p p.Functions ((p.Rules[x]).Calls[y]).Func with
   | none=>simp [fn0]
   | some g=>have:=(Jni hpo hfn).2.2.2;simp only [Option.getD_some];omega
  have hmsz:=Jmw hpo (k:=y) hx
  refine J17 [1,2,3,17,18,19] (fun s h2 n2=>n2=m+1∧s 5 = .ptr m 0 0∧h2 m=some ⟨true,2,[J2f ⟨x,y⟩]⟩∧∀ id,id<m→h2 id=h id) ?_ ?_
  ·simp [hk1,hk,s19,hi,he]
   exact fun id hid=>by simp [fr id hid]
  rintro st2 h2 n2 hk2 ⟨rfl,s5,em,hfr2⟩
  simp at hk2
  have c0:=hfr2 0 m0
  rw [e0] at c0
  have x1:st2 1 = .ptr 0 0 0:=by simp [hk2,hk1,hk]
  refine J17 [1,2,3,5,17,18,19] (fun s h3 n3=>n3=m+1+1∧s 6 = .ptr (m+1) 0 0∧h3 (m+1)=some ⟨true,6,[J16 (Jhn p ⟨x,y⟩)]⟩∧h3 m=some ⟨true,2,[J2f ⟨x,y⟩]⟩∧∀ id,id<m→h3 id=h id) ?_ ?_
  ·simp [x1,c0,s5,em,J2f]
   refine J7o (Jng p hp x) (by simp [J03]) ?_
   rintro _ rfl
   have hmd:(Jcj p x).getD Jc8=Jhn p ⟨x,y⟩:=rfl
   unfold J59
   rw [hmd]
   generalize Jhn p ⟨x,y⟩=md
   simp
   refine ⟨by simp [em,J2f],fun id hid=>by simp [fr id hid,hfr2 id hid]⟩
  rintro st3 h3 n3 hk3 ⟨rfl,s6,e6,e5,hfr3⟩
  simp at hk3
  have c0':=hfr3 0 m0
  rw [e0] at c0'
  refine J0g [1,2,3,5,6,17,18,19] (fun s=>s 9 = .str ((p.Rules[x]).Calls[y]).Func) ?_ ?_
  ·simp [hk3,x1,c0',s5,e5]
   first|refine J00 (Jtp p hx hy) (by first|simp [J03];done|rfl) ?_|refine J01 (Jtp p hx hy) (by first|simp [J03];done|rfl) ?_
   rintro r rfl
   simp [hk3,s5]
  intro st4 hk4 s9
  simp at hk4
  refine J17 [1,2,3,5,6,17,18,19] (fun s h5 n5=>n5=m+1+1+1∧s 10 = .ptr (m+1+1) 0 0∧h5 (m+1+1)=some ⟨true,4,[J05 ((J1p p.Functions ((p.Rules[x]).Calls[y]).Func).getD fn0)]⟩∧∀ id,id<m+1+1→h5 id=h3 id) ?_ ?_
  ·simp [hk4,hk3,x1,c0',s9]
   refine J7o (J23 p ((p.Rules[x]).Calls[y]).Func hp) (by simp [J03]) ?_
   rintro _ rfl
   unfold J8q
   generalize (J1p p.Functions ((p.Rules[x]).Calls[y]).Func).getD fn0=g
   simp
   intro id hid
   have:¬id=m+1+1:=by omega
   simp [this]
  rintro st5 h5 n5 hk5 ⟨rfl,s10,e10,hfr5⟩
  simp at hk5
  refine Jx6 (md:=Jhn p ⟨x,y⟩) (e:=⟨x,y⟩) (g:=(J1p p.Functions ((p.Rules[x]).Calls[y]).Func).getD fn0) (acc0:=acc) (T:=acc++(Jcu p ⟨x,y⟩).map fun l=>Jm3 (Jhn p ⟨x,y⟩) l (y:Int)) (k5:=m) (k6:=m+1) (k10:=m+1+1) (pr:=[J03 p]) (by simp [hk5,hk4,hk3,x1]) (by simp [hk5,hk4,hk3,s5]) (by simp [hk5,hk4,s6]) s10 (by omega) (by omega) (by omega) (by rw [hfr5 0 (by omega),c0']) (by rw [hfr5 m (by omega),e5]) (by rw [hfr5 (m+1) (by omega),e6]) e10 ?_ (by omega) (by rw [hpa]) (by simp only [List.length_append];omega) (by rw [←hpa];exact hgl) ?_
  ·have:st5 3=st 3:=by simp [hk5,hk4,hk3,hk2,hk1]
   rw [this]
   exact B.keep (by omega) fun id _ hid _=>by rw [hfr5 id (by omega),hfr3 id hid]
  intro st6 h6 n6 hk6 hn6 e06 B6
  simp at hk6
  simp [hk6,hk5,hk4,hk3,hk2,hk1,s19,hw']
  refine hR _ _ _ (by simp [hk6,hk5,hk4,hk3,hk2,hk1,hk]) (by simp) ⟨by omega,e06,_,?_,by rw [hrest];exact hJ⟩
  simp only [Jm1 (show ¬3=19 by omega),Jm1 (show ¬3=72 by omega)]
  exact B6
 ·rintro st h m R hk s19 ⟨m0,e0,acc,B,hJ⟩ _ hX
  simp at hk
  rw [List.drop_eq_nil_of_le (by omega)] at hJ
  simp at hJ
  subst hJ
  refine J0g [3] (fun s=>s 20 = .bool false) (by simp [hk,s19]) ?_
  intro st1 hk1 s20
  simp at hk1
  refine J2g s20 ?_
  refine hX _ _ _ _ ?_
  obtain ⟨h2,d1,_⟩:=B.dt
  simp [po3,hk1,-dt,-dtl,d1]
def bo2:AC:=(.reg [Zo 6 (.mv (.k (.nil 4)))])
def a270:AFn:= ⟨10,[.t 4],(.seq (.reg [Zo 4 (.mv (.k (.int .i64 0)))]) (.seq (.seq (.reg [Zv 5 0,Zv 6 1,Zo 7 (.bin .gtr (.t 5) (.t 6))]) (.cond (.t 7) (.seq (.reg [Zv 8 0,Zv 4 8]) .ret) .skip)) (.seq (.reg [Zv 9 1,Zv 4 9]) .ret)))⟩
theorem a270_ok:J0a Tryz.prog Tryz.f270=some a270:=by kernel_rfl
theorem Jkc (x y:Int):Holds Tryz.prog 270 [i64 x,i64 y] (fun r=>r=i64 (if x>y then x else y)):=by
 refine J02 Tryz.func270 a270_ok rfl (by simp [a270]) ?_
 simp [a270]
 refine ⟨fun _ _=>by omega,fun _ _=>by omega⟩
theorem Jed {a b:DDer}{va ma vb mb:AV}{N m v:Nat}{h:Heap}{n:Nat}{K:AV→Heap→Nat→Prop}(ga:GD N m a) (gb:GD N m b) (hm:m≤20) (hv:v<N) (hpa:0<J15 v a) (hqb:J15 v b<0) (A1:SVi a.l.Coeffs va h n) (A2:OVi (a.mult++[a.scale]) ma h n) (B1:SVi b.l.Coeffs vb h n) (B2:OVi (b.mult++[b.scale]) mb h n)
 (hK:∀ h' n' c k1 l1 k2 l2,n≤n'→(∀ id,id<n→h' id=h id)→(∀ d,J7q v a b=some d→J46 d [.int .i64 c,.ref k1 0 l1,.ref k2 0 l2] h' n')→K (.tup [.agg [.int .i64 c,.ref k1 0 l1,.ref k2 0 l2],.bool (J7q v a b).isSome]) h' n') :
 J30 Tryz.prog 304 [.agg [.int .i64 a.l.Const,va,ma],.agg [.int .i64 b.l.Const,vb,mb],i64 v] h n K:=by
 refine J1z Tryz.func304 a304_ok rfl (by simp [a304]) ?_
 unfold a304
 have c1:=A1.cell
 have c2:=A2.cell
 have c3:=B1.cell
 have c4:=B2.cell
 have hpa':=J5m.1 (ga.coef hv)
 have hqb':=J5m.1 (gb.coef hv)
 have hvl:v<a.l.Coeffs.length:=by rw [ga.cl];exact hv
 have hvl2:v<b.l.Coeffs.length:=by rw [gb.cl];exact hv
 have hca:a.l.Coeffs[v]=J15 v a:=by simp [J15,hvl]
 have hcb:b.l.Coeffs[v]=J15 v b:=by simp [J15,hvl2]
 have fr0:∀ id,id<n→¬id=n∧¬id=n+1∧¬id=n+1+1:=by intro id _;omega
 have ne:¬n=n+1+1∧¬n=n+1∧¬n+1=n+1+1∧n+2=n+1+1:=by omega
 refine J17 [2] (fun s h' m=>m=n+3∧(s 3 = .ptr n 0 0∧s 4 = .ptr (n+1) 0 0∧s 6 = .ptr (n+2) 0 0)∧(∀ id,id<n→h' id=h id) ∧
  h' n=some ⟨true,3,[[.int .i64 a.l.Const,va,ma]]⟩∧h' (n+1)=some ⟨true,3,[[.int .i64 b.l.Const,vb,mb]]⟩∧h' (n+2)=some ⟨true,3,[[.int .i64 0,.nil 1,.nil 1]]⟩) ?_ ?_
 ·simp [jn0,-J0n,c1,c2,c3,c4]
  simp [J0n]
  refine ⟨fun id hid => ?_,?_⟩
  ·simp [fr0 id hid]
  ·simp [ne]
 rintro s1 h1 n1 hk1 ⟨rfl,⟨s3,s4,s6⟩,fr,e3,e4,e6⟩
 simp at hk1
 have kp1:J1h h h1 n:=J1h.of fr
 refine J0g [2,3,4,6] (fun s=>s 8 = .int .i64 (J15 v a)) ?_ ?_
 ·simp [jn1,s3,hk1,e3]
  refine J74 (A1.keep (by omega) kp1) hvl ?_
  intro w1 hw1
  simp
  refine hw1 _ ?_
  rw [hca]
  simp
 intro s2 hk2 s8
 simp at hk2
 have hw:IntKind.i64.wrap (0 - J15 v b) = -(J15 v b):=by rw [J19 (by omega)];omega
 simp at hw
 refine J0g [2,3,4,6,8] (fun s=>s 9 = .int .i64 (-(J15 v b))) ?_ ?_
 ·simp [jn2,s4,hk2,hk1,e4]
  refine J74 (B1.keep (by omega) kp1) hvl2 ?_
  intro w1 hw1
  simp
  refine hw1 _ ?_
  rw [hcb]
  simp [hw]
 intro s3' hk3 s9
 simp at hk3
 generalize hg:Jlu (J15 v a) (-(J15 v b))=g
 have hg1:0<g:=by rw [←hg];exact Jks (by omega)
 have hg2:g≤1000000000:=by rw [←hg];exact Jnf (by omega) (by omega)
 refine J0g [3,4,6,8,9] (fun s=>s 10 = .int .i64 (g:Nat)) ?_ ?_
 ·have hpn:((J15 v a).toNat:Int)=J15 v a:=by omega
  have hqn:((-(J15 v b)).toNat:Int) = -(J15 v b):=by omega
  have hk:=Jvz (J15 v a).toNat (-(J15 v b)).toNat (by omega) (by omega)
  rw [hpn,hqn,show Nat.gcd (J15 v a).toNat (-(J15 v b)).toNat=Jlu (J15 v a) (-(J15 v b)) from rfl,hg] at hk
  simp [jn3,s9,hk3,s8]
  refine J01 hk (by simp) ?_
  rintro r rfl
  simp
  first|refine J00 (Jkc (g:Int) 1) (by first|simp;done|rfl) ?_|refine J01 (Jkc (g:Int) 1) (by first|simp;done|rfl) ?_
  rintro r rfl
  have:(if (g:Int)>1 then (g:Int) else 1)=g:=by split <;> omega
  rw [this]
  simp
 intro s4' hk4 s10
 simp at hk4
 have y3:s4' 3 = .ptr n 0 0:=by rw [hk4.1,hk3.2.1,hk2.2.1,s3]
 have y4:s4' 4 = .ptr (n+1) 0 0:=by rw [hk4.2.1,hk3.2.2.1,hk2.2.2.1,s4]
 have y6:s4' 6 = .ptr (n+2) 0 0:=by rw [hk4.2.2.1,hk3.2.2.2.1,hk2.2.2.2,s6]
 have y8:s4' 8 = .int .i64 (J15 v a):=by rw [hk4.2.2.2.1,hk3.2.2.2.2,s8]
 have y9:s4' 9 = .int .i64 (-(J15 v b)):=by rw [hk4.2.2.2.2,s9]
 have hja:J7q v a b=J87 a ((-(J15 v b)).tdiv g) b ((J15 v a).tdiv g):=by unfold J7q;rw [hg]
 rw [hja] at hK
 generalize hP:J15 v a=P at *
 generalize hQ : -(J15 v b)=Qq at *
 refine J09 (Jx5 (a:=a) (va:=va) (ma:=ma) (q:=Qq) (g:=g) ga (by omega) (by omega) y3 y9 s10 e3 (A1.keep (by omega) kp1) ?_)
 intro s5 h5 n5 k11 q11 hk5 hn5 hf5 s12 s11 L5
 simp at hk5
 rw [J2i]
 have hf50:∀ id,id<n→h5 id=h id:=fun id hid=>by rw [hf5 id (by omega),fr id hid]
 have kp5:J1h h h5 n:=J1h.of hf50
 refine J09 (Jwy (b:=b) (vb:=vb) (mb:=mb) (N:=N) (m:=m) (p:=P) (g:=g) (lo:=n+3) (by omega) (by omega) (by rw [hk5.2.1,y4]) (by rw [hk5.2.2.2.1,y8]) (by rw [hk5.2.2.2.2.2,s10]) s11 (by rw [hf5 _ (by omega),e4]) L5 (B1.keep (by omega) kp5) ?_)
 intro s6' h6 n6 k13 q13 hk6 hn6 hf6 s14 s13 L6
 simp at hk6
 rw [J2i]
 have hf60:∀ id,id<n→h6 id=h id:=fun id hid=>by rw [hf6 id (by omega),hf50 id hid]
 have kp6:J1h h h6 n:=J1h.of hf60
 have z3:h6 n=some ⟨true,3,[[.int .i64 a.l.Const,va,ma]]⟩:=by rw [hf6 _ (by omega),hf5 _ (by omega),e3]
 have z4:h6 (n+1)=some ⟨true,3,[[.int .i64 b.l.Const,vb,mb]]⟩:=by rw [hf6 _ (by omega),hf5 _ (by omega),e4]
 have z6:h6 (n+2)=some ⟨true,3,[[.int .i64 0,.nil 1,.nil 1]]⟩:=by rw [hf6 _ (by omega),hf5 _ (by omega),e6]
 have w1:=Jbx (p:=P) (g:=(g:Int)) (by omega) (by omega) (by omega)
 have w2:=Jbx (p:=Qq) (g:=(g:Int)) (by omega) (by omega) (by omega)
 have v1:IntKind.i64.wrap (P.tdiv g)=P.tdiv g:=J19 (by omega)
 have v2:IntKind.i64.wrap (Qq.tdiv g)=Qq.tdiv g:=J19 (by omega)
 have hgn:¬g=0:=by omega
 have hml:b.mult.length=a.mult.length:=by rw [ga.len,gb.len]
 have hml':(b.mult++[b.scale]).length=(a.mult++[a.scale]).length:=by simp [hml]
 have hm20:(a.mult++[a.scale]).length≤100:=by simp [ga.len];omega
 have hb1:=(A2.keep (n':=n6) (by omega) kp6).bw
 have hb2:=(B2.keep (n':=n6) (by omega) kp6).bw
 generalize hSC:scV (Qq.tdiv g) (a.mult++[a.scale]) (P.tdiv g) (b.mult++[b.scale])=SC at *
 generalize hOK:(J8l (Qq.tdiv g) (a.mult++[a.scale]) (P.tdiv g) (b.mult++[b.scale])).all (·.2)=OK at *
 generalize hT1:J0b (J04 0 a.l.Coeffs.length) (Qq.tdiv g) a.l=T1 at *
 generalize hT2:J0b (T1.getD J1d) (P.tdiv g) b.l=T2 at *
 have x6:s6' 6 = .ptr (n+2) 0 0:=by rw [hk6.2.2.1,hk5.2.2.1,y6]
 have x12:s6' 12 = .bool T1.isSome:=by rw [hk6.2.2.2.2.2.2,s12]
 refine J17 [6,12,13,14] (fun s h' m=>m=n6+1∧s 15 = .ref n6 0 SC.length∧s 16 = .bool OK∧h' n6=some ⟨false,1,J0e SC⟩∧∀ id,id<n6→h' id=h6 id) ?_ ?_
 ·simp [jn6,hk6,hk5,y3,y4,y8,y9,s10,z3,z4,hgn,v1,v2]
  refine J00 (Jjp (a.mult++[a.scale]) (b.mult++[b.scale]) (Qq.tdiv g) (P.tdiv g) hml' hm20) (by simp only [bwl,hb1,hb2];simp [bw]) ?_
  rintro r rfl
  rw [hSC,hOK]
  simp
  intro id hid
  have:¬id=n6:=by omega
  simp [this]
 rintro s7 h7 n7 hk7 ⟨rfl,s15,s16,e15,hf7⟩
 simp at hk7
 obtain ⟨q1,q2,q3,q4,q5,q6,q7⟩:=L6
 have u6:h7 (n+2)=some ⟨true,3,[[.int .i64 0,.nil 1,.nil 1]]⟩:=by rw [hf7 _ (by omega),z6]
 have u13:h7 k13=some ⟨true,2,[[.int .i64 (T2.getD J1d).Const,.ref q13 0 (T2.getD J1d).Coeffs.length]]⟩:=by rw [hf7 k13 q2,q6]
 have uq:h7 q13=some ⟨false,1,J0e (T2.getD J1d).Coeffs⟩:=by rw [hf7 q13 q4,q7]
 have hb:((T1.isSome&&T2.isSome)&&OK)=(J87 a (Qq.tdiv g) b (P.tdiv g)).isSome:=by
  cases T1 with
  | none=>rw [Job hT1];rfl
  | some l1=>
   simp only [Option.getD_some] at hT2
   cases T2 with
   | none=>rw [Jmf hT1 hT2];rfl
   | some l2=>
    rw [Jj6 hT1 hT2]
    rw [Jdl hml,List.all_append] at hOK
    rw [←hOK]
    cases h1:(J8l (Qq.tdiv g) a.mult (P.tdiv g) b.mult).all (·.2) <;> cases h2:(Jct (Qq.tdiv g) a.scale (P.tdiv g) b.scale).2 <;> simp [h2]
 have key:∀ h',(∀ id,id≠n+2→h' id=h7 id)→h' (n+2)=some ⟨true,3,[[.int .i64 (T2.getD J1d).Const,.ref q13 0 (T2.getD J1d).Coeffs.length,.ref n6 0 SC.length]]⟩→K (.tup [.agg [.int .i64 (T2.getD J1d).Const,.ref q13 0 (T2.getD J1d).Coeffs.length,.ref n6 0 SC.length],.bool ((T1.isSome&&T2.isSome)&&OK)]) h' (n6+1):=by
  intro h' hf' _
  rw [hb]
  have hfx:∀ id,id<n→h' id=h id:=fun id hid=>by rw [hf' id (by omega),hf7 id (by omega),hf60 id hid]
  have g1:h' q13=some ⟨false,1,J0e (T2.getD J1d).Coeffs⟩:=by rw [hf' q13 (by omega),uq]
  have g2:h' n6=some ⟨false,1,J0e SC⟩:=by rw [hf' n6 (by omega),e15]
  refine hK h' (n6+1) _ _ _ _ _ (by omega) hfx fun d hd => ?_
  have hs:(J87 a (Qq.tdiv g) b (P.tdiv g)).isSome=true:=by rw [hd];rfl
  rw [←hb] at hs
  simp only [Bool.and_eq_true] at hs
  obtain ⟨l1,rfl⟩:=Option.isSome_iff_exists.1 hs.1.1
  simp only [Option.getD_some] at hT2
  obtain ⟨l2,rfl⟩:=Option.isSome_iff_exists.1 hs.1.2
  have hoka:=hs.2
  have hJ:=Jj6 hT1 hT2
  have hSCv:SC=(J8l (Qq.tdiv g) a.mult (P.tdiv g) b.mult).map (·.1)++[(Jct (Qq.tdiv g) a.scale (P.tdiv g) b.scale).1]:=by
   rw [←hSC]
   unfold scV
   rw [hOK,hoka,if_pos rfl,Jdl hml];simp
  have hcond:((Jct (Qq.tdiv g) a.scale (P.tdiv g) b.scale).2&&(J8l (Qq.tdiv g) a.mult (P.tdiv g) b.mult).all (·.2))=true:=by
   rw [Jdl hml,List.all_append,hoka] at hOK
   simp at hOK
   simpa [and_comm] using hOK
  rw [hcond,if_pos rfl,hd] at hJ
  have hd':=Option.some.inj hJ
  subst hd'
  exact ⟨_,_,rfl,.inr (.inr ⟨q13,by omega,rfl,g1⟩),.inr ⟨n6,by omega,by rw [hSCv],by rw [g2,hSCv]⟩⟩
 have x13:s7 13 = .ptr k13 0 0:=by rw [hk7.2.2.1,s13]
 have y12:s7 12 = .bool T1.isSome:=by rw [hk7.2.1,x12]
 have y14:s7 14 = .bool T2.isSome:=by rw [hk7.2.2.2,s14]
 have y6:s7 6 = .ptr (n+2) 0 0:=by rw [hk7.1,x6]
 generalize T1.isSome=b1 at *
 generalize T2.isSome=b2 at *
 cases b1 <;> cases b2 <;> simp [jn7,x13,u13,s15,y12,y14,s16,y6,u6]
 all_goals
  exact key _ (fun id hid=>J0v _ _ _ _ hid) (J21 _ _ _)
theorem Jba {a b:DDer}{va ma vb mb:AV}{j k:Int}{h:Heap}{n:Nat}{K:AV→Heap→Nat→Prop}(hml:b.mult.length=a.mult.length) (hm20:a.mult.length≤20) (A1:SVi a.l.Coeffs va h n) (A2:OVi a.mult ma h n) (B1:SVi b.l.Coeffs vb h n) (B2:OVi b.mult mb h n)
 (hK:∀ h' n' o r,n≤n'→(∀ id,id<n→h' id=h id)→J3r o r h' n'→(∀ d,J87 a j b k=some d→o=d)→K (.tup [.agg r,.bool (J87 a j b k).isSome]) h' n') :
 J30 Tryz.prog 313 [.agg [.int .i64 a.l.Const,va,ma,.int .i64 a.scale],i64 j,.agg [.int .i64 b.l.Const,vb,mb,.int .i64 b.scale],i64 k] h n K:=by
 refine J1z Tryz.func313 a313_ok rfl (by simp [a313]) ?_
 unfold a313
 have c1:=A1.cell
 have c2:=A2.cell
 have c3:=B1.cell
 have c4:=B2.cell
 refine J17 [] (fun s h' m=>m=n+5∧(s 4 = .ptr n 0 0∧s 5 = .ptr (n+1) 0 0∧s 6 = .ptr (n+2) 0 0∧s 7 = .ptr (n+3) 0 0∧s 8 = .ptr (n+4) 0 0)∧(∀ id,id<n→h' id=h id) ∧
  h' n=some ⟨true,4,[[.int .i64 a.l.Const,va,ma,.int .i64 a.scale]]⟩∧h' (n+1)=some ⟨true,1,[[i64 j]]⟩∧h' (n+2)=some ⟨true,4,[[.int .i64 b.l.Const,vb,mb,.int .i64 b.scale]]⟩∧h' (n+3)=some ⟨true,1,[[i64 k]]⟩∧h' (n+4)=some ⟨true,4,[[.int .i64 0,.nil 1,.nil 1,.int .i64 0]]⟩) ?_ ?_
 ·simp [cb0,-J0n,c1,c2,c3,c4]
  simp [J0n]
  have ne:¬n=n+1+1+1+1∧¬n=n+1+1+1∧¬n=n+1+1∧¬n=n+1∧¬n+1=n+1+1+1+1∧¬n+1=n+1+1+1∧¬n+1=n+1+1∧¬n+2=n+1+1+1+1∧¬n+2=n+1+1+1∧¬n+3=n+1+1+1+1∧n+2=n+1+1∧n+3=n+1+1+1∧n+4=n+1+1+1+1:=by omega
  refine ⟨fun id hid => ?_,?_⟩
  ·have:¬id=n∧¬id=n+1∧¬id=n+1+1∧¬id=n+1+1+1∧¬id=n+1+1+1+1:=by omega
   simp [this]
  ·simp [ne]
 rintro s1 h1 n1 - ⟨rfl,⟨s4,s5,s6,s7,s8⟩,fr,e4,e5,e6,e7,e8⟩
 have A1':SVi a.l.Coeffs va h1 (n+5):=A1.keep (by omega) (J1h.of fr)
 refine J09 (Juw s4 s5 e4 e5 A1' ?_)
 intro s2 h2 n2 k10 q10 hk2 hn2 fr2 s11 s10 L2
 simp at hk2
 rw [J2i]
 have fr2':∀ id,id<n→h2 id=h id:=fun id hid=>by rw [fr2 id (by omega),fr id hid]
 have B1':SVi b.l.Coeffs vb h2 n2:=B1.keep (by omega) (J1h.of fr2')
 generalize hT1:J0b (J04 0 a.l.Coeffs.length) j a.l=T1 at *
 refine J09 (Ju2 (b:=b) (k:=k) (k6:=n+2) (k7:=n+3) (by rw [hk2.2.2.1,s6]) (by rw [hk2.2.2.2.1,s7]) s10 (by rw [fr2 _ (by omega),e6]) (by rw [fr2 _ (by omega),e7]) L2 B1' (by omega) ?_)
 intro s3 h3 n3 q hk3 hn3 fr3 s12 L3
 simp at hk3
 rw [J2i]
 have fr3':∀ id,id<n→h3 id=h id:=fun id hid=>by rw [fr3 id (by omega),fr2' id hid]
 have e8':h3 (n+4)=some ⟨true,4,[[.int .i64 0,.nil 1,.nil 1,.int .i64 0]]⟩:=by rw [fr3 _ (by omega),fr2 _ (by omega),e8]
 have bad:J87 a j b k=Option.none→K (.tup [.agg [.int .i64 0,.nil 1,.nil 1,.int .i64 0],.bool false]) h3 n3∧∀ h',(∀ id,id≠n+4→h' id=h3 id)→K (.tup [.agg [.int .i64 0,.nil 1,.nil 1,.int .i64 0],.bool false]) h' n3:=fun hj=>by
  have key:∀ h',(∀ id,id<n→h' id=h id)→K (.tup [.agg [.int .i64 0,.nil 1,.nil 1,.int .i64 0],.bool false]) h' n3:=fun h' hf=>by
   have:=hK h' n3 Ka8 _ (by omega) hf Jz1 (by rw [hj];simp)
   rw [hj] at this
   exact this
  exact ⟨key h3 fr3',fun h' hf=>key h' fun id hid=>by rw [hf id (by omega),fr3' id hid]⟩
 have x8:s3 8 = .ptr (n+4) 0 0:=by rw [hk3.2.2.2.2.1,hk2.2.2.2.2,s8]
 have x11:s3 11 = .bool T1.isSome:=by rw [hk3.2.2.2.2.2.2,s11]
 cases T1 with
 | none=>
  simp [cb3,x11,x8,e8']
  refine (bad (Job hT1)).2 _ ?_
  intro id hid
  simp [hid]
 | some l1=>
  simp only [Option.getD_some] at s12 L3 L2
  generalize hT2:J0b l1 k b.l=T2 at *
  cases T2 with
  | none=>
   simp [cb3,x11,x8,e8',s12]
   refine (bad (Jmf hT1 hT2)).2 _ ?_
   intro id hid
   simp [hid]
  | some l2=>
   simp only [Option.getD_some] at L3
   obtain ⟨q1,q2,q3,q4,q5,q6,q7⟩:=L3
   have y4:s3 4 = .ptr n 0 0:=by rw [hk3.1,hk2.1,s4]
   have y5:s3 5 = .ptr (n+1) 0 0:=by rw [hk3.2.1,hk2.2.1,s5]
   have y6:s3 6 = .ptr (n+2) 0 0:=by rw [hk3.2.2.1,hk2.2.2.1,s6]
   have y7:s3 7 = .ptr (n+3) 0 0:=by rw [hk3.2.2.2.1,hk2.2.2.2.1,s7]
   have y10:s3 10 = .ptr k10 0 0:=by rw [hk3.2.2.2.2.2.1,s10]
   have up:∀ id,id<n+5→h3 id=h1 id:=fun id hid=>by rw [fr3 id hid,fr2 id (by omega)]
   have u4:h3 n=some ⟨true,4,[[.int .i64 a.l.Const,va,ma,.int .i64 a.scale]]⟩:=by rw [up _ (by omega),e4]
   have u5:h3 (n+1)=some ⟨true,1,[[i64 j]]⟩:=by rw [up _ (by omega),e5]
   have u6:h3 (n+2)=some ⟨true,4,[[.int .i64 b.l.Const,vb,mb,.int .i64 b.scale]]⟩:=by rw [up _ (by omega),e6]
   have u7:h3 (n+3)=some ⟨true,1,[[i64 k]]⟩:=by rw [up _ (by omega),e7]
   have ne:¬n=n3∧¬n+1=n3∧¬n+2=n3∧¬n+3=n3∧¬n+4=n3∧¬q=n3∧¬k10=n3:=by omega
   simp [cb3,x11,s12,cb4,cb5,cb6,y5,y7,y10,y4,y6,q6,u4,u6,ne]
   refine Jkk (j:=j) (k:=k) (by simp [ne,u5]) (by simp [ne,u7]) ?_
   simp [J2v,cb7]
   refine Jva (n0:=n) (h0:=h) (a:=a) (b:=b) (va:=va) (ma:=ma) (vb:=vb) (mb:=mb) (j:=j) (k:=k) (k14:=n3) (l2:=l2) (q:=q) hml hm20 A2 B2 _ (by simp [y4]) (by simp [y6]) (by simp) (by simp) (by simp;rfl) ⟨by omega,by omega,by omega,by omega,?_,by simp [ne,u4],by simp [ne,u5],by simp [ne,u6],by simp [ne,u7],by simp [ne,e8'],by simp [ne,q7],.nil 1,by simp;rfl,.inl ⟨rfl,rfl⟩,by simp⟩ ?_
   ·intro id hid
    have:¬id=n3:=by omega
    simp [this,fr3' id hid]
   intro s4' h4 n4 hk4 s16 hn4 S
   obtain ⟨S1,S2,Sq0,Sqm,S3,S4,S5,S6,S7,S8,Sq,vm,S9,S10,S11⟩:=S
   simp at hk4
   have z8:s4' 8 = .ptr (n+4) 0 0:=by rw [hk4.1];simp [x8]
   have hj:=Jj6 hT1 hT2
   simp [cb9,hk4,x8,S8,S9,s16]
   have hx:∀ id,id<n→upd h4 (n+4) (some ⟨true,4,[[.int .i64 l2.Const,.ref q 0 l2.Coeffs.length,vm,.int .i64 (Jct j a.scale k b.scale).1]]⟩) id=h id:=fun id hid=>by
    have:¬id=n+4:=by omega
    simp [this,S3 id hid]
   have kp:J1h h4 (upd h4 (n+4) (some ⟨true,4,[[.int .i64 l2.Const,.ref q 0 l2.Coeffs.length,vm,.int .i64 (Jct j a.scale k b.scale).1]]⟩)) n4:=fun id z rows hid e=>by
    have:¬id=n+4:=by rintro rfl;rw [S8] at e;simp at e
    simp [this,e]
   have res:=hK _ n4 ⟨l2,(J8l j a.mult k b.mult).map (·.1),(Jct j a.scale k b.scale).1⟩ _ (by omega) hx ⟨.ref q 0 l2.Coeffs.length,vm,rfl,(SVi.keep (.inr (.inr ⟨q,Sqm,rfl,Sq⟩)) (Nat.le_refl _) kp),S10.keep (Nat.le_refl _) kp⟩ ?_
   ·have hs:(J87 a j b k).isSome=((Jct j a.scale k b.scale).2&&(J8l j a.mult k b.mult).all (·.2)):=by
     rw [hj];split <;> simp_all
    rw [hs] at res
    exact ⟨S10.cell,res⟩
   ·intro d hd
    rw [hj] at hd
    split at hd
    ·exact Option.some.inj hd
    ·cases hd
def wo0:AC:=(.reg [Zo 4 (.mv (.k (.nil 4)))])
def wo1:AC:=(.reg [Zo 5 (.mv (.k (.nil 4)))])
def wa:AC:=(.reg [Zo 21 (.ixa 4 (.t 17) (.t 19)),Zl 22 true 4 21,Zo 7 (.box [(.int .i64 0),(.nil 1),(.nil 1),(.int .i64 0)]),⟨no,.st 4 (.t 7) (.t 22),no⟩])
def wb:AC:=(.reg [Zf 23 0 7,Zf 24 1 23,Zl 25 false 1 24,Zv 26 1,Zo 27 (.ixa 1 (.t 25) (.t 26)),Zl 28 false 1 27,Zo 29 (.bin .eql (.t 28) (.k (.int .i64 0)))])
def wc:AC:=(.reg [Zv 30 5,Zl 31 true 4 7,Zo 32 (.bslb 4 [.t 31]),Zo 33 (.appb 64 4 (.t 30) (.t 32)),Zv 5 33])
def wo2:AC:=(.seq (.reg [Zv 17 0,Zo 18 (.len false (.t 17)),Zo 19 (.mv (.k (.int .i64 0)))]) (.blk 0 (.loop (.seq (.reg [Zo 20 (.bin .lss (.t 19) (.t 18))]) (.seq (.cond (.t 20) .skip (.exit 0)) (.seq (.blk 1 (.seq  wa (.seq  wb (.cond (.t 29)  wc .skip)))) (.reg [Zo 34 (.bin .add (.t 19) (.k (.int .i64 1))),Zv 19 34])))))))
def wd:AC:=(.reg [Zo 39 (.ixa 4 (.t 35) (.t 37)),Zl 40 true 4 39,Zo 9 (.box [(.int .i64 0),(.nil 1),(.nil 1),(.int .i64 0)]),⟨no,.st 4 (.t 9) (.t 40),no⟩])
def we:AC:=(.reg [Zf 41 0 9,Zf 42 1 41,Zl 43 false 1 42,Zv 44 1,Zo 45 (.ixa 1 (.t 43) (.t 44)),Zl 46 false 1 45,Zv 10 46])
def wg:AC:=(.reg [Zo 53 (.ixa 4 (.t 49) (.t 51)),Zl 54 true 4 53,Zo 12 (.box [(.int .i64 0),(.nil 1),(.nil 1),(.int .i64 0)]),⟨no,.st 4 (.t 12) (.t 54),no⟩])
def wh:AC:=(.reg [Zf 55 0 12,Zf 56 1 55,Zl 57 false 1 56,Zv 58 1,Zo 59 (.ixa 1 (.t 57) (.t 58)),Zl 60 false 1 59,Zo 61 (.un .neg (.t 60)),Zv 13 61])
def wi:AC:=(.reg [Zv 64 10,Zv 65 13,Zc 66 312 [.t 64,.t 65],Zv 14 66])
def wj:AC:=(.draw (.op (Zl 68 true 4 9) (.op (Zv 69 13) (.op (Zv 70 14) (.op (Zo 71 (.bin .quo (.t 69) (.t 70))) (.op (Zl 72 true 4 12) (.op (Zv 73 10) (.op (Zv 74 14) (.op (Zo 75 (.bin .quo (.t 73) (.t 74))) (.both (.op (Zc 76 313 [.t 68,.t 71,.t 72,.t 75]) (.op (Zv 67 76) (.op (Zo 77 (.ext (.t 67) 0)) (.op (Zo 78 (.ext (.t 67) 1)) (.op (Zo 15 (.box [(.int .i64 0),(.nil 1),(.nil 1),(.int .i64 0)])) (.hop ⟨no,.st 4 (.t 15) (.t 77),no⟩ [] (.op (Zv 16 78) .fin))))))) (.op (Zo 15 (.box [(.int .i64 0),(.nil 1),(.nil 1),(.int .i64 0)])) (.op (Zc 76 313 [.t 68,.t 71,.t 72,.t 75]) (.op (Zv 67 76) (.op (Zo 77 (.ext (.t 67) 0)) (.op (Zo 78 (.ext (.t 67) 1)) (.hop ⟨no,.st 4 (.t 15) (.t 77),no⟩ [] (.op (Zv 16 78) .fin)))))))))))))))))
def wl:AC:=(.reg [Zv 80 5,Zl 81 true 4 15,Zo 82 (.bslb 4 [.t 81]),Zo 83 (.appb 64 4 (.t 80) (.t 82)),Zv 5 83])
def win:AC:=(.blk 4 (.loop (.seq (.reg [Zo 52 (.bin .lss (.t 51) (.t 50))]) (.seq (.cond (.t 52) .skip (.exit 4)) (.seq (.blk 5 (.seq  wg (.seq  wh (.seq (.seq (.reg [Zv 62 13,Zo 63 (.bin .leq (.t 62) (.k (.int .i64 0)))]) (.cond (.t 63) (.exit 5) .skip)) (.seq  wi (.seq wj (.seq (.reg [Zv 79 16]) (.cond (.t 79)  wl .skip)))))))) (.reg [Zo 84 (.bin .add (.t 51) (.k (.int .i64 1))),Zv 51 84]))))))
def wo3:AC:=(.seq (.reg [Zv 35 0,Zo 36 (.len false (.t 35)),Zo 37 (.mv (.k (.int .i64 0)))]) (.blk 2 (.loop (.seq (.reg [Zo 38 (.bin .lss (.t 37) (.t 36))]) (.seq (.cond (.t 38) .skip (.exit 2)) (.seq (.blk 3 (.seq  wd (.seq  we (.seq (.seq (.reg [Zv 47 10,Zo 48 (.bin .leq (.t 47) (.k (.int .i64 0)))]) (.cond (.t 48) (.exit 3) .skip)) (.seq (.reg [Zv 49 0,Zo 50 (.len false (.t 49)),Zo 51 (.mv (.k (.int .i64 0)))]) win))))) (.reg [Zo 85 (.bin .add (.t 37) (.k (.int .i64 1))),Zv 37 85])))))))
def wo4:AC:=(.reg [Zv 86 5,Zv 4 86])
def a281:AFn:=⟨87,[.t 4],(.seq wo0 (.seq wo1 (.seq wo2 (.seq wo3 (.seq wo4 .ret)))))⟩
theorem a281_ok:J5h true Tryz.prog Tryz.f281=some a281:=by kernel_rfl
theorem J3r.cells {d:DDer}{r:List AV}{h:Heap}{n:Nat}(x:J3r d r h n):r.all J0n=true∧r.length=4:=by
 obtain ⟨vl,vm,rfl,h1,h2⟩:=x
 have c1:=h1.cell
 have c2:=h2.cell
 simp [-J0n,c1,c2]
 simp [J0n]
section
variable {ks:List Kt}{s:Env}{h h':Heap}{n:Nat}{Q:Fin}
theorem Jw3 {a:AC}{ds:List DDer}{vl:AV}{i lo x y b:Nat}(ha:a=wa∧x=17∧y=19∧b=7∨a=wd∧x=35∧y=37∧b=9∨a=wg∧x=49∧y=51∧b=12) (L:J2a J3r 4 lo ds vl h n) (hi:i<ds.length) (sx:s x=vl) (sy:s y = .int .i64 i)
 (hK:∀ s' h' r,(∀ j∈[0,1,5,17,18,19,35,36,37,49,50,51],s' j=s j)→(b=12→s' 9=s 9∧s' 10=s 10)→(∀ id,id<n→h' id=h id)→s' b = .ptr n 0 0→h' n=some ⟨true,4,[r]⟩→J3r ds[i] r h' (n+1)→J25 Tryz.prog ks .normal s' h' (n+1) Q):rC Tryz.prog a ks s h n Q:=by
 rcases ha with ⟨rfl,rfl,rfl,rfl⟩|⟨rfl,rfl,rfl,rfl⟩|⟨rfl,rfl,rfl,rfl⟩
 all_goals
  first|simp [-J0n,wa,sx,sy] | simp [-J0n,wd,sx,sy] | simp [-J0n,wg,sx,sy]
  refine J6e L hi ?_
  intro id rows r hid e hl hr hR
  have hne:¬id=n:=by omega
  have fr:∀ j,j<n→¬j=n:=by intro j _;omega
  have hR':=hR
  obtain ⟨v1,v2,rfl,g1,g2⟩:=hR
  have c1:=g1.cell
  have c2:=g2.cell
  simp [-J0n,e,hl,hr,c1,c2]
  simp [J0n]
  refine hK _ _ [.int .i64 ds[i].l.Const,v1,v2,.int .i64 ds[i].scale] (by simp) (by simp) (fun j hj=>by simp [fr j hj]) (by simp) (by simp) (hR'.keep (Nat.le_succ n) (J1h.of fun j hj=>by simp [fr j hj]))
theorem Ka9 {a:AC}{acc:List DDer}{d:DDer}{r:List AV}{v:AV}{q lo b:Nat}(ha:a=wc∧b=7∨a=wl∧b=15) (sb:s b = .ptr q 0 0) (s5:s 5=v) (eb:h q=some ⟨true,4,[r]⟩) (hqn:q<n) (hr:J3r d r h n) (B:J2a J3r 4 lo acc v h n) (hlo:lo≤n) (hl:acc.length≤4000)
 (hK:∀ s' h' n',(∀ j∈[0,1,17,18,19,35,36,37,49,50,51,9,10],s' j=s j)→n≤n'→J1h h h' n→(∀ id,id<n→(∀ k,v ≠ .ref id 0 k)→h' id=h id)→(∀ id k,s' 5 = .ref id 0 k→n≤id)→J2a J3r 4 lo (acc++[d]) (s' 5) h' n'→J25 Tryz.prog ks .normal s' h' n' Q):rC Tryz.prog a ks s h n Q:=by
 have hR':=hr
 obtain ⟨v1,v2,rfl,g1,g2⟩:=hr
 have c1:=g1.cell
 have c2:=g2.cell
 have fr:∀ j,j<n→¬j=n:=by intro j _;omega
 have kp:J1h h (upd h n (some ⟨true,4,[[.int .i64 d.l.Const,v1,v2,.int .i64 d.scale]]⟩)) n:=J1h.of fun j hj=>by simp [fr j hj]
 have B':=J2a.keep (R:=J3r) (h':=upd h n (some ⟨true,4,[[.int .i64 d.l.Const,v1,v2,.int .i64 d.scale]]⟩)) (n':=n+1) (fun _ _ _ _ _ _=>J3r.keep) B (Nat.le_succ n) kp fun id rows _ hid _ e=>by simp [fr id hid,e]
 rcases ha with ⟨rfl,rfl⟩|⟨rfl,rfl⟩
 all_goals
  first|simp [-J0n,wc,sb,s5,eb,c1,c2] | simp [-J0n,wl,sb,s5,eb,c1,c2]
  simp [J0n]
  refine J6p (R:=J3r) (fun _ _ _ _ _ _=>J3r.keep) B' (r:=[.int .i64 d.l.Const,v1,v2,.int .i64 d.scale]) (d:=d) (by simp [J3f]) (hR'.keep (Nat.le_succ n) kp) (by omega) (by unfold LIM;omega) ?_
  intro h' k1 k2 k3
  simp
  refine hK _ _ _ (by simp) (by omega) (kp.trans k1 (Nat.le_succ n)) (fun id hid hv=>by rw [k2 id (by omega) hv];simp [fr id hid]) (by simp) (by simpa using k3)
theorem Jtx {a:AC}{d:DDer}{r:List AV}{q N m v b:Nat}{J:Int}(ha:a=wb∧b=7∧J=J15 v d∨a=we∧b=9∧J=J15 v d∨a=wh∧b=12∧J = -(J15 v d)) (g:GD N m d) (hv:v<N) (sb:s b = .ptr q 0 0) (s1:s 1 = .int .i64 v) (eb:h q=some ⟨true,4,[r]⟩) (hr:J3r d r h n)
 (hK:∀ s',(∀ j∈[0,1,5,7,9,12,17,18,19,35,36,37,49,50,51],s' j=s j)→(b=7→s' 29 = .bool (J15 v d==0))→(b=9→s' 10 = .int .i64 (J15 v d))→(b=12→s' 13 = .int .i64 (-(J15 v d))∧s' 10=s 10)→J25 Tryz.prog ks .normal s' h n Q):rC Tryz.prog a ks s h n Q:=by
 obtain ⟨v1,v2,rfl,g1,g2⟩:=hr
 have hvl:v<d.l.Coeffs.length:=by rw [g.cl];exact hv
 have hc:d.l.Coeffs[v]=J15 v d:=by simp [J15,hvl]
 have hw:IntKind.i64.wrap (0 - J15 v d) = -(J15 v d):=by
  have:=J5m.1 (g.coef hv)
  rw [J19 (by omega)];omega
 simp at hw
 rcases ha with ⟨rfl,rfl,rfl⟩|⟨rfl,rfl,rfl⟩|⟨rfl,rfl,rfl⟩
 all_goals
  first|simp [wb,sb,s1,eb] | simp [we,sb,s1,eb] | simp [wh,sb,s1,eb]
  refine J74 g1 hvl ?_
  intro w1 hw1
  simp
  refine hw1 _ ?_
  rw [hc]
  simp [hw]
  refine hK _ (by simp) (by simp [BEq.beq]) (by simp) (by simp)
end
section
variable {ks:List Kt}{s:Env}{h h':Heap}{n:Nat}{Q:Fin}
theorem J2a.below {R:DDer→List AV→Heap→Nat→Prop}{z b:Nat}{ds:List DDer}{v:AV}(x:J2a R z b ds v h n) {q:Nat}(hq:n≤q):∀ k,v ≠ .ref q 0 k:=by
 rintro k rfl
 rcases x with ⟨h1,_⟩|⟨id,rows,_,h1,h2,_⟩
 ·cases h1
 ·simp at h2;omega
theorem J2a.from {R:DDer→List AV→Heap→Nat→Prop}{z b:Nat}{ds:List DDer}{v:AV}(x:J2a R z b ds v h n):∀ id k,v = .ref id 0 k→b≤id:=by
 rintro id k rfl
 rcases x with ⟨h1,_⟩|⟨id',rows,h0,h1,h2,_⟩
 ·cases h1
 ·simp at h2;omega
theorem Jw4 {ds:List DDer}{vl:AV}{N m v n0:Nat}{h0:Heap}(hg:∀ d∈ds,GD N m d) (hv:v<N) (hd:ds.length≤60) (hn0:n0≤n) (hf:∀ id,id<n0→h id=h0 id) (L:J2a J3r 4 0 ds vl h0 n0) (s0:s 0=vl) (s1:s 1 = .int .i64 v) (s5:s 5 = .nil 4)
 (hK:∀ s' h' n',(∀ j∈[0,1],s' j=s j)→n≤n'→(∀ id,id<n0→h' id=h0 id)→J2a J3r 4 n0 (ds.filter fun d=>J15 v d==0) (s' 5) h' n'→J25 Tryz.prog ks .normal s' h' n' Q):rC Tryz.prog wo2 ks s h n Q:=by
 have keepL:∀ {h' m'},n0≤m'→(∀ id,id<n0→h' id=h0 id)→J2a J3r 4 0 ds vl h' m':=fun hm hh=>J2a.keep (R:=J3r) (fun _ _ _ _ _ _=>J3r.keep) L hm (J1h.of hh) fun id rows _ hid _ e=>by rw [hh id hid,e]
 generalize hT:(ds.filter fun d=>J15 v d==0)=T at *
 have hTl:T.length≤60:=by rw [←hT];exact Nat.le_trans (List.length_filter_le _ _) hd
 simp [wo2,s0]
 refine J4f (keepL hn0 hf) (by unfold LIM;omega) ?_
 simp
 refine J0k [0,1,17,18] 19 ds.length (fun i s h m'=>n≤m'∧(∀ id,id<n0→h id=h0 id)∧∃ acc,J2a J3r 4 n0 acc (s 5) h m'∧acc++((ds.drop i).filter fun d=>J15 v d==0)=T) (by unfold LIM;omega) (by simp) ⟨Nat.le_refl _,hf,[],.inl ⟨by simp [s5],rfl⟩,by simpa using hT⟩ ?_ ?_
 ·rintro i st h1 m1 R hi hgi hk s19 hw ⟨hm1,hf1,acc,B,hJ⟩ hR hret _
  simp at hk
  rw [List.drop_eq_getElem_cons hi,List.filter_cons] at hJ
  have hal:=congrArg List.length hJ
  simp only [List.length_append] at hal
  refine J0g [0,1,5,17,18,19] (fun s=>s 20 = .bool true) (by simp [hk,s19,hi]) ?_
  intro st1 hk1 s20
  simp at hk1
  refine J2m s20 (J09 (J0t ?_))
  refine J09 (Jw3 (.inl ⟨rfl,rfl,rfl,rfl⟩) (keepL (by omega) hf1) hi (by simp [hk1,hk]) (by simp [hk1,s19]) ?_)
  intro st2 h2 r hk2 _ hf2 s7 e7 hr
  simp at hk2
  rw [J2i]
  have B2:J2a J3r 4 n0 acc (st 5) h2 (m1+1):=J2a.keep (R:=J3r) (fun _ _ _ _ _ _=>J3r.keep) B (Nat.le_succ m1) (J1h.of hf2) fun id rows _ hid _ e=>by rw [hf2 id hid,e]
  refine J09 (Jtx (.inl ⟨rfl,rfl,rfl⟩) (hg _ (List.getElem_mem hi)) hv s7 (by simp [hk2,hk1,hk,s1]) e7 hr ?_)
  intro st3 hk3 s29 _ _
  simp at hk3
  have s29:=s29 rfl
  rw [J2i]
  cases hc:(J15 v ds[i]==0)
  ·rw [hc] at hJ s29
   simp only [Bool.false_eq_true,if_false] at hJ
   simp [s29,hk3,hk2,hk1,s19,hw]
   exact hR _ _ _ (by simp [hk3,hk2,hk1,hk]) (by simp) ⟨by omega,fun id hid=>by rw [hf2 id (by omega),hf1 id hid],acc,by simpa [hk3,hk2,hk1] using B2,hJ⟩
  ·rw [hc] at hJ s29
   simp only [if_true] at hJ
   simp [s29]
   refine Ka9 (acc:=acc) (d:=ds[i]) (v:=st 5) (q:=m1) (.inl ⟨rfl,rfl⟩) (by simp [hk3,s7]) (by simp [hk3,hk2,hk1]) e7 (Nat.lt_succ_self m1) hr B2 (by omega) (by omega) ?_
   intro st4 h4 m4 hk4 hm4 kp4 hf4 hnew B4
   simp at hk4
   simp [hk4,hk3,hk2,hk1,s19,hw]
   refine hR _ _ _ (by simp [hk4,hk3,hk2,hk1,hk]) (by simp) ⟨by omega,fun id hid => ?_,acc++[ds[i]],by simpa using B4,by simpa using hJ⟩
   rw [hf4 id (by omega) fun k e => ?_,hf2 id (by omega),hf1 id hid]
   have:=B.from id k e
   omega
 ·rintro st h1 m1 R hk s19 ⟨hm1,hf1,acc,B,hJ⟩ hret hX
  simp at hk
  rw [List.drop_eq_nil_of_le (by omega)] at hJ
  simp at hJ
  subst hJ
  refine J0g [0,1,5] (fun s=>s 20 = .bool false) (by simp [hk,s19]) ?_
  intro st1 hk1 s20
  simp at hk1
  refine J2g s20 ?_
  refine hX _ _ _ _ ?_
  simp
  exact hK _ _ _ (by simp [hk1,hk]) hm1 hf1 (by simpa [hk1] using B)
end
def Jcq (v:Nat) (a b:DDer):Option DDer:=if -(J15 v b)≤0 then Option.none else J7q v a b
theorem Joi {v:Nat}{l:List DDer}{a:DDer}(h:¬J15 v a≤0):J9m v l a=l.filterMap (Jcq v a):=by unfold J9m;rw [if_neg h];rfl
section
variable {ks:List Kt}{s:Env}{h h':Heap}{n:Nat}{Q:Fin}
theorem K0p {a b:DDer}{ra rb:List AV}{N m k9 k12:Nat}{p q g:Int}(ga:GD N m a) (gb:GD N m b) (hm:m≤20) (hp:0≤p∧p≤1000000000) (hq:0≤q∧q≤1000000000) (hg0:0<g) (hg:g≤1000000000) (s9:s 9 = .ptr k9 0 0) (s12:s 12 = .ptr k12 0 0) (s10:s 10 = .int .i64 p) (s13:s 13 = .int .i64 q) (s14:s 14 = .int .i64 g)
 (e9:h k9=some ⟨true,4,[ra]⟩) (e12:h k12=some ⟨true,4,[rb]⟩) (hra:J3r a ra h n) (hrb:J3r b rb h n)
 (hK:∀ s' h' n' k o r,(∀ j∈[0,1,5,9,10,17,18,19,35,36,37,49,50,51],s' j=s j)→n≤n'→(∀ id,id<n→h' id=h id)→s' 16 = .bool (J87 a (q.tdiv g) b (p.tdiv g)).isSome→s' 15 = .ptr k 0 0→n≤k→k<n'→h' k=some ⟨true,4,[r]⟩→J3r o r h' n'→(∀ d,J87 a (q.tdiv g) b (p.tdiv g)=some d→o=d)→J25 Tryz.prog ks .normal s' h' n' Q):rC Tryz.prog wj ks s h n Q:=by
 have w1:=Jbx (g:=g) hp.1 hp.2 (by omega)
 have w2:=Jbx (g:=g) hq.1 hq.2 (by omega)
 have v1:IntKind.i64.wrap (p.tdiv g)=p.tdiv g:=J19 (by omega)
 have v2:IntKind.i64.wrap (q.tdiv g)=q.tdiv g:=J19 (by omega)
 have hgn:¬g=0:=by omega
 have c1:=hra.cells
 have c2:=hrb.cells
 obtain ⟨va,ma,rfl,A1,A2⟩:=hra
 obtain ⟨vb,mb,rfl,B1,B2⟩:=hrb
 have hml:b.mult.length=a.mult.length:=by rw [ga.len,gb.len]
 have hm20:a.mult.length≤20:=by rw [ga.len];exact hm
 have fr:∀ id,id<n→¬id=n:=by intro id _;omega
 simp [wj,s9,s10,s12,s13,s14,e9,e12,hgn,v1,v2]
 constructor
 ·refine Jb1 (Jba hml hm20 A1 A2 B1 B2 ?_)
  intro h' n' o r hn hf hr ho
  refine ⟨hf,?_⟩
  obtain ⟨vo,mo,rfl,O1,O2⟩:=id hr
  have k1:=O1.cell
  have k2:=O2.cell
  simp [-J0n,k1,k2]
  simp [J0n]
  have fr':∀ id,id<n'→¬id=n':=by intro id _;omega
  refine hK _ _ _ n' o _ (by simp) (by omega) (fun id hid=>by simp [fr' id (by omega),hf id hid]) (by simp) (by simp) (by omega) (by omega) (by simp) (hr.keep (by omega) (J1h.of fun id hid=>by simp [fr' id hid])) ho
 ·have kp:J1h h (upd h n (some ⟨true,4,[[.int .i64 0,.nil 1,.nil 1,.int .i64 0]]⟩)) n:=J1h.of fun id hid=>by simp [fr id hid]
  refine Jb1 (Jba hml hm20 (A1.keep (Nat.le_succ n) kp) (A2.keep (Nat.le_succ n) kp) (B1.keep (Nat.le_succ n) kp) (B2.keep (Nat.le_succ n) kp) ?_)
  intro h' n' o r hn hf hr ho
  refine ⟨hf,?_⟩
  obtain ⟨vo,mo,rfl,O1,O2⟩:=id hr
  have k1:=O1.cell
  have k2:=O2.cell
  have en:=hf n (Nat.lt_succ_self n)
  simp at en
  simp [-J0n,k1,k2,en]
  simp [J0n]
  have hx:∀ id,id<n→h' id=h id:=fun id hid=>by rw [hf id (by omega)];simp [fr id hid]
  have kp2:J1h h' (upd h' n (some ⟨true,4,[[.int .i64 o.l.Const,vo,mo,.int .i64 o.scale]]⟩)) n':=fun id z rows hid e=>by
   have:¬id=n:=by rintro rfl;rw [en] at e;simp at e
   simp [this,e]
  refine hK _ _ _ n o _ (by simp) (by omega) (fun id hid=>by simp [fr id hid,hx id hid]) (by simp) (by simp) (by omega) (by omega) (by simp) (hr.keep (Nat.le_refl _) kp2) ho
theorem Jwa {ds:List DDer}{vl:AV}{a:DDer}{ra:List AV}{N m v n0 k9:Nat}{h0:Heap}{acc0 T:List DDer}(hg:∀ d∈ds,GD N m d) (ga:GD N m a) (hm:m≤20) (hv:v<N) (hd:ds.length≤60) (hap:¬J15 v a≤0) (L:J2a J3r 4 0 ds vl h0 n0) (hn0:n0≤n) (hk9:n0≤k9∧k9<n)
 (s1:s 1 = .int .i64 v) (s9:s 9 = .ptr k9 0 0) (s10:s 10 = .int .i64 (J15 v a)) (s49:s 49=vl) (s50:s 50 = .int .i64 ds.length) (s51:s 51 = .int .i64 0)
 (hf:∀ id,id<n0→h id=h0 id) (e9:h k9=some ⟨true,4,[ra]⟩) (hra:J3r a ra h n) (B0:J2a J3r 4 n0 acc0 (s 5) h n) (hne0:∀ k,s 5 ≠ .ref k9 0 k) (hT:acc0++ds.filterMap (Jcq v a)=T) (hTl:T.length≤4000)
 (hK:∀ s' h' n',(∀ j∈[0,1,17,18,19,35,36,37],s' j=s j)→n≤n'→(∀ id,id<n0→h' id=h0 id)→J2a J3r 4 n0 T (s' 5) h' n'→J25 Tryz.prog ks .normal s' h' n' Q):rC Tryz.prog win ks s h n Q:=by
 have keepL:∀ {h' m'},n0≤m'→(∀ id,id<n0→h' id=h0 id)→J2a J3r 4 0 ds vl h' m':=fun hm hh=>J2a.keep (R:=J3r) (fun _ _ _ _ _ _=>J3r.keep) L hm (J1h.of hh) fun id rows _ hid _ e=>by rw [hh id hid,e]
 have hpa:=J5m.1 (ga.coef hv)
 refine J0t ?_
 rw [Jnw]
 refine J0k [0,1,9,10,17,18,19,35,36,37,49,50] 51 ds.length (fun i s h m'=>n≤m'∧(∀ id,id<n0→h id=h0 id)∧h k9=some ⟨true,4,[ra]⟩∧J3r a ra h m'∧(∀ k,s 5 ≠ .ref k9 0 k)∧∃ acc,J2a J3r 4 n0 acc (s 5) h m'∧acc++(ds.drop i).filterMap (Jcq v a)=T) (by unfold LIM;omega) (by simp [s51]) ⟨Nat.le_refl _,hf,e9,hra,hne0,acc0,B0,by simpa using hT⟩ ?_ ?_
 ·rintro i st h1 m1 R hi hgi hk s51 hw ⟨hm1,hf1,e9,hra,hne,acc,B,hJ⟩ hR hret _
  simp at hk
  rw [List.drop_eq_getElem_cons hi,List.filterMap_cons] at hJ
  have gb:=hg _ (List.getElem_mem hi)
  refine J0g [0,1,5,9,10,17,18,19,35,36,37,49,50,51] (fun s=>s 52 = .bool true) (by simp [hk,s51,hi,s50]) ?_
  intro st1 hk1 s52
  simp at hk1
  refine J2m s52 (J09 (J0t ?_))
  refine J09 (Jw3 (.inr (.inr ⟨rfl,rfl,rfl,rfl⟩)) (keepL (by omega) hf1) hi (by simp [hk1,hk,s49]) (by simp [hk1,s51]) ?_)
  intro st2 h2 r hk2 hk2b hf2 s12 e12 hr
  simp at hk2 hk2b
  rw [J2i]
  have B2:J2a J3r 4 n0 acc (st 5) h2 (m1+1):=J2a.keep (R:=J3r) (fun _ _ _ _ _ _=>J3r.keep) B (Nat.le_succ m1) (J1h.of hf2) fun id rows _ hid _ e=>by rw [hf2 id hid,e]
  have e92:h2 k9=some ⟨true,4,[ra]⟩:=by rw [hf2 k9 (by omega),e9]
  have hra2:=hra.keep (Nat.le_succ m1) (J1h.of hf2)
  refine J09 (Jtx (.inr (.inr ⟨rfl,rfl,rfl⟩)) gb hv s12 (by simp [hk2,hk1,hk,s1]) e12 hr ?_)
  intro st3 hk3 _ _ hx
  obtain ⟨s13,s10'⟩:=hx rfl
  simp at hk3
  rw [J2i]
  by_cases hq : -(J15 v ds[i])≤0
  ·have hJ0:Jcq v a ds[i]=Option.none:=by unfold Jcq;rw [if_pos hq]
   rw [hJ0] at hJ
   simp [s13,hq,hk3,hk2,hk1,s51,hw]
   exact hR _ _ _ (by simp [hk3,hk2,hk1,hk,hk2b,s10']) (by simp) ⟨by omega,fun id hid=>by rw [hf2 id (by omega),hf1 id hid],e92,hra2,by simpa [hk3,hk2,hk1] using hne,acc,by simpa [hk3,hk2,hk1] using B2,hJ⟩
  ·have hpb:=J5m.1 (gb.coef hv)
   have hJ1:Jcq v a ds[i]=J7q v a ds[i]:=by unfold Jcq;rw [if_neg hq]
   rw [hJ1] at hJ
   have hpn:((J15 v a).toNat:Int)=J15 v a:=by omega
   have hqn:((-(J15 v ds[i])).toNat:Int) = -(J15 v ds[i]):=by omega
   have hg1:0<Jlu (J15 v a) (-(J15 v ds[i])):=Jks (by omega)
   have hg2:=Jnf (p:=J15 v a) (q := -(J15 v ds[i])) (by omega) (by omega)
   simp [s13,hq,hk3,hk2,hk1,s51,hw]
   have s10'':st3 10 = .int .i64 (J15 v a):=by rw [s10',hk2b.2,hk1.2.2.2.2.1,hk.2.2.2.1,s10]
   rw [←Jc2]
   refine J0g [0,1,5,9,10,12,13,17,18,19,35,36,37,49,50,51] (fun s=>s 14 = .int .i64 (Jlu (J15 v a) (-(J15 v ds[i])):Nat)) ?_ ?_
   ·simp [wi,s10'',s13]
    have:=K1b (J15 v a).toNat (-(J15 v ds[i])).toNat (by omega) (by omega)
    rw [hpn,hqn] at this
    refine J01 this (by simp) ?_
    rintro r rfl
    simp [Jlu]
   intro st4 hk4 s14
   simp at hk4
   refine J09 (K0p (a:=a) (b:=ds[i]) (ra:=ra) (rb:=r) (k9:=k9) (k12:=m1) ga gb hm (p:=J15 v a) (q := -(J15 v ds[i])) (g:=(Jlu (J15 v a) (-(J15 v ds[i])):Nat)) (by omega) (by omega) (by omega) (by omega) (by simp [hk4,hk3,hk2b,hk1,hk,s9]) (by simp [hk4,hk3,s12]) (by simp [hk4,s10'']) (by simp [hk4,s13]) s14 e92 e12 hra2 hr ?_)
   intro st5 h5 m5 k15 o ro hk5 hm5 hf5 s16 s15 hk15 hk15b e15 hro ho
   simp at hk5
   rw [show J87 a ((-(J15 v ds[i])).tdiv ((Jlu (J15 v a) (-(J15 v ds[i])):Nat):Int)) ds[i] ((J15 v a).tdiv ((Jlu (J15 v a) (-(J15 v ds[i])):Nat):Int))=J7q v a ds[i] from rfl] at s16 ho
   have B5:J2a J3r 4 n0 acc (st 5) h5 m5:=J2a.keep (R:=J3r) (fun _ _ _ _ _ _=>J3r.keep) B2 hm5 (J1h.of hf5) fun id rows _ hid _ e=>by rw [hf5 id hid,e]
   have hf50:∀ id,id<n0→h5 id=h0 id:=fun id hid=>by rw [hf5 id (by omega),hf2 id (by omega),hf1 id hid]
   have e95:h5 k9=some ⟨true,4,[ra]⟩:=by rw [hf5 k9 (by omega),e92]
   have hra5:=hra2.keep hm5 (J1h.of hf5)
   have hal:=congrArg List.length hJ
   simp only [List.length_append] at hal
   rw [J2i]
   cases hj:J7q v a ds[i] with
   | none=>
    rw [hj] at s16 hJ
    simp at s16 hJ
    simp [s16,hk5,hk4,hk3,hk2,hk1,s51,hw]
    refine hR _ _ _ (by simp [hk5,hk4,hk3,hk2,hk1,hk,hk2b,s10'',s10]) (by simp) ⟨by omega,hf50,e95,hra5,by simpa [hk5,hk4,hk3,hk2,hk1] using hne,acc,by simpa [hk5,hk4,hk3,hk2,hk1] using B5,hJ⟩
   | some d=>
    rw [hj] at s16 hJ
    have ho:=ho d hj
    subst ho
    simp at s16 hJ
    simp [s16]
    refine Ka9 (acc:=acc) (d:=o) (v:=st 5) (q:=k15) (.inr ⟨rfl,rfl⟩) (by simp [s15]) (by simp [hk5,hk4,hk3,hk2,hk1]) e15 hk15b hro B5 (by omega) (by omega) ?_
    intro st6 h6 m6 hk6 hm6 kp6 hf6 hnew B6
    simp at hk6
    simp [hk6,hk5,hk4,hk3,hk2,hk1,s51,hw]
    refine hR _ _ _ (by simp [hk6,hk5,hk4,hk3,hk2,hk1,hk,hk2b,s10'',s10]) (by simp) ⟨by omega,fun id hid => ?_,?_,hra5.keep hm6 kp6,?_,acc++[o],by simpa using B6,by simpa using hJ⟩
    ·rw [hf6 id (by omega) fun k e => ?_,hf50 id hid]
     have:=B.from id k e
     omega
    ·rw [hf6 k9 (by omega) hne,e95]
    ·intro k e
     have:=hnew k9 k (by simpa using e)
     omega
 ·rintro st h1 m1 R hk s51 ⟨hm1,hf1,e9,hra,hne,acc,B,hJ⟩ hret hX
  simp at hk
  rw [List.drop_eq_nil_of_le (by omega)] at hJ
  simp at hJ
  subst hJ
  refine J0g [0,1,5,17,18,19,35,36,37] (fun s=>s 52 = .bool false) (by simp [hk,s51,s50]) ?_
  intro st1 hk1 s52
  simp at hk1
  refine J2g s52 ?_
  refine hX _ _ _ _ ?_
  simp
  exact hK _ _ _ (by simp [hk1,hk]) hm1 hf1 (by simpa [hk1] using B)
end
def el0:AC:=(.reg [Zo 4 (.mv (.k (.nil 3)))])
def el1:AC:=(.reg [Zo 11 (.bslb 3 []),Zv 5 11])
def ea:AC:=(.reg [Zv 18 0,Zv 19 6,Zo 20 (.ixa 3 (.t 18) (.t 19)),Zf 21 0 20,Zf 22 1 21,Zl 23 false 1 22,Zv 24 1,Zo 25 (.ixa 1 (.t 23) (.t 24)),Zl 26 false 1 25,Zo 27 (.bin .eql (.t 26) (.k (.int .i64 0)))])
def eb:AC:=(.reg [Zv 28 5,Zv 29 0,Zv 30 6,Zo 31 (.ixa 3 (.t 29) (.t 30)),Zl 32 true 3 31,Zo 33 (.bslb 3 [.t 32]),Zo 34 (.appb 56 3 (.t 28) (.t 33)),Zv 5 34])
def el2:AC:=(.seq (.reg [Zo 6 (.mv (.k (.int .i64 0)))]) (.blk 0 (.loop (.seq (.seq (.reg [Zv 12 6,Zv 13 0,Zo 14 (.len false (.t 13)),Zo 15 (.bin .lss (.t 12) (.t 14))]) (.cond (.t 15) .skip (.exit 0))) (.seq (.blk 1 (.seq  ea (.cond (.t 27)  eb .skip))) (.reg [Zv 16 6,Zo 17 (.bin .add (.t 16) (.k (.int .i64 1))),Zv 6 17]))))))
def eh:AC:=(.reg [Zv 41 8,Zv 42 0,Zo 43 (.len false (.t 42)),Zo 44 (.bin .lss (.t 41) (.t 43)),Zv 45 44,⟨some 46,.mv (.t 0),(some (45,true))⟩,⟨some 47,.mv (.t 7),(some (45,true))⟩,⟨some 48,.ixa 3 (.t 46) (.t 47),(some (45,true))⟩,⟨some 49,.fld 0 (.t 48),(some (45,true))⟩,⟨some 50,.fld 1 (.t 49),(some (45,true))⟩,⟨some 51,.ld false 1 (.t 50),(some (45,true))⟩,⟨some 52,.mv (.t 1),(some (45,true))⟩,⟨some 53,.ixa 1 (.t 51) (.t 52),(some (45,true))⟩,⟨some 54,.ld false 1 (.t 53),(some (45,true))⟩,⟨some 55,.bin .gtr (.t 54) (.k (.int .i64 0)),(some (45,true))⟩,Zo 56 (.pick (.t 45) (.t 55) (.k (.bool false)))])
def ec:AC:=(.reg [Zv 59 0,Zv 60 8,Zo 61 (.ixa 3 (.t 59) (.t 60)),Zf 62 0 61,Zf 63 1 62,Zl 64 false 1 63,Zv 65 1,Zo 66 (.ixa 1 (.t 64) (.t 65)),Zl 67 false 1 66,Zo 68 (.bin .geq (.t 67) (.k (.int .i64 0)))])
def ed:AC:=(.draw (.op (Zv 70 0) (.op (Zv 71 7) (.op (Zo 72 (.ixa 3 (.t 70) (.t 71))) (.op (Zl 73 true 3 72) (.op (Zv 74 0) (.op (Zv 75 8) (.op (Zo 76 (.ixa 3 (.t 74) (.t 75))) (.op (Zl 77 true 3 76) (.op (Zv 78 1) (.both (.op (Zc 79 304 [.t 73,.t 77,.t 78]) (.op (Zv 69 79) (.op (Zo 80 (.ext (.t 69) 0)) (.op (Zo 81 (.ext (.t 69) 1)) (.op (Zo 9 (.box [(.int .i64 0),(.nil 1),(.nil 1)])) (.hop ⟨no,.st 3 (.t 9) (.t 80),no⟩ [] (.op (Zv 10 81) .fin))))))) (.op (Zo 9 (.box [(.int .i64 0),(.nil 1),(.nil 1)])) (.op (Zc 79 304 [.t 73,.t 77,.t 78]) (.op (Zv 69 79) (.op (Zo 80 (.ext (.t 69) 0)) (.op (Zo 81 (.ext (.t 69) 1)) (.hop ⟨no,.st 3 (.t 9) (.t 80),no⟩ [] (.op (Zv 10 81) .fin))))))))))))))))))
def ee:AC:=(.reg [Zv 83 5,Zl 84 true 3 9,Zo 85 (.bslb 3 [.t 84]),Zo 86 (.appb 56 3 (.t 83) (.t 85)),Zv 5 86])
def ein:AC:=(.blk 4 (.loop (.seq (.seq  eh (.cond (.t 56) .skip (.exit 4))) (.seq (.blk 5 (.seq (.seq  ec (.cond (.t 68) (.exit 5) .skip)) (.seq ed (.seq (.reg [Zv 82 10]) (.cond (.t 82)  ee .skip))))) (.reg [Zv 57 8,Zo 58 (.bin .add (.t 57) (.k (.int .i64 1))),Zv 8 58])))))
def el3:AC:=(.seq (.reg [Zo 7 (.mv (.k (.int .i64 0)))]) (.blk 2 (.loop (.seq (.seq (.reg [Zv 35 7,Zv 36 0,Zo 37 (.len false (.t 36)),Zo 38 (.bin .lss (.t 35) (.t 37))]) (.cond (.t 38) .skip (.exit 2))) (.seq (.blk 3 (.seq (.reg [Zo 8 (.mv (.k (.int .i64 0)))]) ein)) (.reg [Zv 39 7,Zo 40 (.bin .add (.t 39) (.k (.int .i64 1))),Zv 7 40]))))))
def el4:AC:=(.reg [Zv 87 5,Zv 4 87])
def a259:AFn:=⟨88,[.t 4],(.seq el0 (.seq el1 (.seq el2 (.seq el3 (.seq el4 .ret)))))⟩
theorem a259_ok:J5h true Tryz.prog Tryz.f259=some a259:=by kernel_rfl
section
variable {ks:List Kt}{s:Env}{h h':Heap}{n:Nat}{Q:Fin}
theorem Jzm {ds:List DDer}{vl:AV}{N m v i lo:Nat}(L:J2a J46 3 lo ds vl h n) (hg:∀ d∈ds,GD N m d) (hv:v<N) (hi:i<ds.length) (s0:s 0=vl) (s1:s 1 = .int .i64 v) (s6:s 6 = .int .i64 i)
 (hK:∀ s',(∀ j∈[0,1,5,6],s' j=s j)→s' 27 = .bool (J15 v ds[i]==0)→J25 Tryz.prog ks .normal s' h n Q):rC Tryz.prog ea ks s h n Q:=by
 have g:=hg _ (List.getElem_mem hi)
 have hvl:v<ds[i].l.Coeffs.length:=by rw [g.cl];exact hv
 have hc:ds[i].l.Coeffs[v]=J15 v ds[i]:=by simp [J15,hvl]
 simp [ea,s0,s1,s6]
 refine J6e L hi ?_
 intro id rows r hid e hl hr hD
 obtain ⟨v1,v2,rfl,g1,g2⟩:=hD
 simp [e,hl,hr,s1]
 refine J74 g1 hvl ?_
 intro w1 hw1
 simp
 refine hw1 _ ?_
 rw [hc]
 simp
 refine hK _ (by simp) (by simp [BEq.beq])
theorem K0c {ds acc:List DDer}{vl v:AV}{i lo lo2:Nat}(L:J2a J46 3 lo ds vl h n) (hi:i<ds.length) (s0:s 0=vl) (s6:s 6 = .int .i64 i) (s5:s 5=v) (B:J2a J46 3 lo2 acc v h n) (hlo:lo2≤n) (hl:acc.length≤4000)
 (hK:∀ s' h' n',(∀ j∈[0,1,6],s' j=s j)→n≤n'→J1h h h' n→(∀ id,id<n→(∀ k,v ≠ .ref id 0 k)→h' id=h id)→J2a J46 3 lo2 (acc++[ds[i]]) (s' 5) h' n'→J25 Tryz.prog ks .normal s' h' n' Q):rC Tryz.prog eb ks s h n Q:=by
 have fr:∀ j,j<n→¬j=n:=by intro j _;omega
 simp [-J0n,eb,s0,s5,s6]
 refine J6e L hi ?_
 intro id rows r hid e hlr hr hD
 have hD':=hD
 obtain ⟨v1,v2,rfl,g1,g2⟩:=hD
 have c1:=g1.cell
 have c2:=g2.cell
 have kp:J1h h (upd h n (some ⟨true,3,[[.int .i64 ds[i].l.Const,v1,v2]]⟩)) n:=J1h.of fun j hj=>by simp [fr j hj]
 have B':=J2a.keep (R:=J46) (h':=upd h n (some ⟨true,3,[[.int .i64 ds[i].l.Const,v1,v2]]⟩)) (n':=n+1) (fun _ _ _ _ _ _=>J46.keep) B (Nat.le_succ n) kp fun id rows _ hid _ e=>by simp [fr id hid,e]
 simp [-J0n,e,hlr,hr,c1,c2]
 simp [J0n]
 refine J6p (R:=J46) (fun _ _ _ _ _ _=>J46.keep) B' (r:=[.int .i64 ds[i].l.Const,v1,v2]) (d:=ds[i]) (by simp [J3f]) (hD'.keep (Nat.le_succ n) kp) (by omega) (by unfold LIM;omega) ?_
 intro h' k1 k2 k3
 simp
 exact hK _ _ _ (by simp) (by omega) (kp.trans k1 (Nat.le_succ n)) (fun id hid hv=>by rw [k2 id (by omega) hv];simp [fr id hid]) (by simpa using k3)
theorem Jzq {acc:List DDer}{d:DDer}{r:List AV}{v:AV}{q lo:Nat}(s9:s 9 = .ptr q 0 0) (s5:s 5=v) (eb:h q=some ⟨true,3,[r]⟩) (hqn:q<n) (hr:J46 d r h n) (B:J2a J46 3 lo acc v h n) (hlo:lo≤n) (hl:acc.length≤4000)
 (hK:∀ s' h' n',(∀ j∈[0,1,7,8],s' j=s j)→n≤n'→J1h h h' n→(∀ id,id<n→(∀ k,v ≠ .ref id 0 k)→h' id=h id)→J2a J46 3 lo (acc++[d]) (s' 5) h' n'→J25 Tryz.prog ks .normal s' h' n' Q):rC Tryz.prog ee ks s h n Q:=by
 have hR':=hr
 obtain ⟨v1,v2,rfl,g1,g2⟩:=hr
 have c1:=g1.cell
 have c2:=g2.cell
 have fr:∀ j,j<n→¬j=n:=by intro j _;omega
 have kp:J1h h (upd h n (some ⟨true,3,[[.int .i64 d.l.Const,v1,v2]]⟩)) n:=J1h.of fun j hj=>by simp [fr j hj]
 have B':=J2a.keep (R:=J46) (h':=upd h n (some ⟨true,3,[[.int .i64 d.l.Const,v1,v2]]⟩)) (n':=n+1) (fun _ _ _ _ _ _=>J46.keep) B (Nat.le_succ n) kp fun id rows _ hid _ e=>by simp [fr id hid,e]
 simp [-J0n,ee,s9,s5,eb,c1,c2]
 simp [J0n]
 refine J6p (R:=J46) (fun _ _ _ _ _ _=>J46.keep) B' (r:=[.int .i64 d.l.Const,v1,v2]) (d:=d) (by simp [J3f]) (hR'.keep (Nat.le_succ n) kp) (by omega) (by unfold LIM;omega) ?_
 intro h' k1 k2 k3
 simp
 exact hK _ _ _ (by simp) (by omega) (kp.trans k1 (Nat.le_succ n)) (fun id hid hv=>by rw [k2 id (by omega) hv];simp [fr id hid]) (by simpa using k3)
theorem Juk {ds:List DDer}{vl:AV}{N m v n0:Nat}{h0:Heap}(hg:∀ d∈ds,GD N m d) (hv:v<N) (hd:ds.length≤60) (hn0:n0≤n) (hf:∀ id,id<n0→h id=h0 id) (L:J2a J46 3 0 ds vl h0 n0) (s0:s 0=vl) (s1:s 1 = .int .i64 v) (B0:J2a J46 3 n0 [] (s 5) h n)
 (hK:∀ s' h' n',(∀ j∈[0,1],s' j=s j)→n≤n'→(∀ id,id<n0→h' id=h0 id)→J2a J46 3 n0 (ds.filter fun d=>J15 v d==0) (s' 5) h' n'→J25 Tryz.prog ks .normal s' h' n' Q):rC Tryz.prog el2 ks s h n Q:=by
 have keepL:∀ {h' m'},n0≤m'→(∀ id,id<n0→h' id=h0 id)→J2a J46 3 0 ds vl h' m':=fun hm hh=>J2a.keep (R:=J46) (fun _ _ _ _ _ _=>J46.keep) L hm (J1h.of hh) fun id rows _ hid _ e=>by rw [hh id hid,e]
 generalize hT:(ds.filter fun d=>J15 v d==0)=T at *
 have hTl:T.length≤60:=by rw [←hT];exact Nat.le_trans (List.length_filter_le _ _) hd
 simp [el2]
 refine J0k [0,1] 6 ds.length (fun i s h m'=>n≤m'∧(∀ id,id<n0→h id=h0 id)∧∃ acc,J2a J46 3 n0 acc (s 5) h m'∧acc++((ds.drop i).filter fun d=>J15 v d==0)=T) (by unfold LIM;omega) (by simp) ⟨Nat.le_refl _,hf,[],by simpa using B0,by simpa using hT⟩ ?_ ?_
 ·rintro i st h1 m1 R hi hgi hk s6 hw ⟨hm1,hf1,acc,B,hJ⟩ hR hret _
  simp at hk
  rw [List.drop_eq_getElem_cons hi,List.filter_cons] at hJ
  have hal:=congrArg List.length hJ
  simp only [List.length_append] at hal
  refine J09 (J0g [0,1,5,6] (fun s=>s 15 = .bool true) ?_ ?_)
  ·simp [hk,s0]
   refine J4f (keepL (by omega) hf1) (by unfold LIM;omega) ?_
   simp [hk,s6,hi]
  intro st1 hk1 s15
  simp at hk1
  refine J1u s15 (J09 (J0t ?_))
  refine J09 (Jzm (keepL (by omega) hf1) hg hv hi (by simp [hk1,hk,s0]) (by simp [hk1,hk,s1]) (by simp [hk1,s6]) ?_)
  intro st2 hk2 s27
  simp at hk2
  rw [J2i]
  cases hc:(J15 v ds[i]==0)
  ·rw [hc] at hJ s27
   simp only [Bool.false_eq_true,if_false] at hJ
   simp [s27,hk2,hk1,s6,hw]
   exact hR _ _ _ (by simp [hk2,hk1,hk]) (by simp) ⟨by omega,hf1,acc,by simpa [hk2,hk1] using B,hJ⟩
  ·rw [hc] at hJ s27
   simp only [if_true] at hJ
   simp [s27]
   refine K0c (acc:=acc) (v:=st 5) (keepL (by omega) hf1) hi (by simp [hk2,hk1,hk,s0]) (by simp [hk2,hk1,s6]) (by simp [hk2,hk1]) B (by omega) (by omega) ?_
   intro st4 h4 m4 hk4 hm4 kp4 hf4 B4
   simp at hk4
   simp [hk4,hk2,hk1,s6,hw]
   refine hR _ _ _ (by simp [hk4,hk2,hk1,hk]) (by simp) ⟨by omega,fun id hid => ?_,acc++[ds[i]],by simpa using B4,by simpa using hJ⟩
   rw [hf4 id (by omega) fun k e => ?_,hf1 id hid]
   have:=B.from id k e
   omega
 ·rintro st h1 m1 R hk s6 ⟨hm1,hf1,acc,B,hJ⟩ hret hX
  simp at hk
  rw [List.drop_eq_nil_of_le (by omega)] at hJ
  simp at hJ
  subst hJ
  refine J09 (J0g [0,1,5] (fun s=>s 15 = .bool false) ?_ ?_)
  ·simp [hk,s0]
   refine J4f (keepL (by omega) hf1) (by unfold LIM;omega) ?_
   simp [hk,s6]
  intro st1 hk1 s15
  simp at hk1
  refine J1s s15 ?_
  refine hX _ _ _ _ ?_
  simp
  exact hK _ _ _ (by simp [hk1,hk]) hm1 hf1 (by simpa [hk1] using B)
end
section
variable {ks:List Kt}{s:Env}{h h':Heap}{n:Nat}{Q:Fin}
theorem Jp3 {ds:List DDer}{vl:AV}{N m v i j lo:Nat}(L:J2a J46 3 lo ds vl h n) (hd:ds.length≤60) (hg:∀ d∈ds,GD N m d) (hv:v<N) (hi:i<ds.length) (hj:j≤ds.length) (s0:s 0=vl) (s1:s 1 = .int .i64 v) (s7:s 7 = .int .i64 i) (s8:s 8 = .int .i64 j)
 (hK:∀ s',(∀ j∈[0,1,5,7,8],s' j=s j)→s' 56 = .bool (decide (j<ds.length)&&decide (0<J15 v ds[i]))→J25 Tryz.prog ks .normal s' h n Q):rC Tryz.prog eh ks s h n Q:=by
 have g:=hg _ (List.getElem_mem hi)
 have hvl:v<ds[i].l.Coeffs.length:=by rw [g.cl];exact hv
 have hc:ds[i].l.Coeffs[v]=J15 v ds[i]:=by simp [J15,hvl]
 simp [eh,s0,s8]
 refine J4f L (by unfold LIM;omega) ?_
 by_cases hjl:j<ds.length
 ·simp [hjl,s0,s7]
  refine J6e L hi ?_
  intro id rows r hid e hl hr hD
  obtain ⟨v1,v2,rfl,g1,g2⟩:=hD
  simp [e,hl,hr,s1]
  refine J74 g1 hvl ?_
  intro w1 hw1
  simp
  refine hw1 _ ?_
  rw [hc]
  simp
  exact hK _ (by simp [s0,s1,s7,s8]) (by simp [hjl])
 ·simp [hjl]
  exact hK _ (by simp [s0,s8]) (by simp [hjl])
theorem K1f {ds:List DDer}{vl:AV}{N m v j lo:Nat}(L:J2a J46 3 lo ds vl h n) (hg:∀ d∈ds,GD N m d) (hv:v<N) (hj:j<ds.length) (s0:s 0=vl) (s1:s 1 = .int .i64 v) (s8:s 8 = .int .i64 j)
 (hK:∀ s',(∀ j∈[0,1,5,7,8],s' j=s j)→s' 68 = .bool (decide (0≤J15 v ds[j]))→J25 Tryz.prog ks .normal s' h n Q):rC Tryz.prog ec ks s h n Q:=by
 have g:=hg _ (List.getElem_mem hj)
 have hvl:v<ds[j].l.Coeffs.length:=by rw [g.cl];exact hv
 have hc:ds[j].l.Coeffs[v]=J15 v ds[j]:=by simp [J15,hvl]
 simp [ec,s0,s8]
 refine J6e L hj ?_
 intro id rows r hid e hl hr hD
 obtain ⟨v1,v2,rfl,g1,g2⟩:=hD
 simp [e,hl,hr,s1]
 refine J74 g1 hvl ?_
 intro w1 hw1
 simp
 refine hw1 _ ?_
 rw [hc]
 simp
 exact hK _ (by simp [s0,s1,s8]) (by simp)
theorem K1o {ds:List DDer}{vl:AV}{N m v i j lo:Nat}(L:J2a J46 3 lo ds vl h n) (hg:∀ d∈ds,GD N m d) (hm:m≤20) (hv:v<N) (hi:i<ds.length) (hj:j<ds.length) (hp:0<J15 v ds[i]) (hq:J15 v ds[j]<0) (s0:s 0=vl) (s1:s 1 = .int .i64 v) (s7:s 7 = .int .i64 i) (s8:s 8 = .int .i64 j)
 (hK:∀ s' h' n' k r,(∀ j∈[0,1,5,7,8],s' j=s j)→n≤n'→(∀ id,id<n→h' id=h id)→s' 10 = .bool (J7q v ds[i] ds[j]).isSome→s' 9 = .ptr k 0 0→n≤k→k<n'→h' k=some ⟨true,3,[r]⟩→(∀ d,J7q v ds[i] ds[j]=some d→J46 d r h' n')→J25 Tryz.prog ks .normal s' h' n' Q):rC Tryz.prog ed ks s h n Q:=by
 have ga:=hg _ (List.getElem_mem hi)
 have gb:=hg _ (List.getElem_mem hj)
 have fr:∀ id,id<n→¬id=n:=by intro id _;omega
 simp [ed,s0,s7]
 refine J6e L hi ?_
 intro id rows r hid e hl hr hD
 obtain ⟨va,ma,rfl,A1,A2⟩:=hD
 simp [e,hl,hr,s0,s8]
 refine J6e L hj ?_
 intro id2 rows2 r2 hid2 e2 hl2 hr2 hD2
 obtain ⟨vb,mb,rfl,B1,B2⟩:=hD2
 simp [e2,hl2,hr2,s1]
 constructor
 ·refine Jb1 (Jed ga gb hm hv hp hq A1 A2 B1 B2 ?_)
  intro h' n' c k1 l1 k2 l2 hn hf hr
  refine ⟨hf,?_⟩
  have fr':∀ id,id<n'→¬id=n':=by intro id _;omega
  simp
  refine hK _ _ _ n' [.int .i64 c,.ref k1 0 l1,.ref k2 0 l2] (by simp [s0,s1,s7,s8]) (by omega) (fun id hid=>by simp [fr' id (by omega),hf id hid]) (by simp) (by simp) (by omega) (by omega) (by simp) (fun d hd=>(hr d hd).keep (by omega) (J1h.of fun id hid=>by simp [fr' id hid]))
 ·have kp:J1h h (upd h n (some ⟨true,3,[[.int .i64 0,.nil 1,.nil 1]]⟩)) n:=J1h.of fun id hid=>by simp [fr id hid]
  refine Jb1 (Jed ga gb hm hv hp hq (A1.keep (Nat.le_succ n) kp) (A2.keep (Nat.le_succ n) kp) (B1.keep (Nat.le_succ n) kp) (B2.keep (Nat.le_succ n) kp) ?_)
  intro h' n' c k1 l1 k2 l2 hn hf hr
  refine ⟨hf,?_⟩
  have en:=hf n (Nat.lt_succ_self n)
  simp at en
  have hx:∀ id,id<n→h' id=h id:=fun id hid=>by rw [hf id (by omega)];simp [fr id hid]
  have kp2:∀ B,J1h h' (upd h' n B) n':=fun B id z rows hid e=>by
   have:¬id=n:=by rintro rfl;rw [en] at e;simp at e
   simp [this,e]
  simp [en]
  refine hK _ _ _ n [.int .i64 c,.ref k1 0 l1,.ref k2 0 l2] (by simp [s0,s1,s7,s8]) (by omega) (fun id hid=>by simp [fr id hid,hx id hid]) (by simp) (by simp) (by omega) (by omega) (by simp) (fun d hd=>(hr d hd).keep (Nat.le_refl _) (kp2 _))
theorem Jwo {v:Nat}{a b:DDer}(h:J15 v b<0):Jcq v a b=J7q v a b:=by unfold Jcq;rw [if_neg (by omega)]
theorem Ju4 {v:Nat}{a b:DDer}(h:¬J15 v b<0):Jcq v a b=Option.none:=by unfold Jcq;rw [if_pos (by omega)]
theorem Jvi {ds:List DDer}{vl:AV}{N m v n0 i:Nat}{h0:Heap}{acc0 T:List DDer}(hg:∀ d∈ds,GD N m d) (hm:m≤20) (hv:v<N) (hd:ds.length≤60) (hi:i<ds.length) (L:J2a J46 3 0 ds vl h0 n0) (hn0:n0≤n)
 (s0:s 0=vl) (s1:s 1 = .int .i64 v) (s7:s 7 = .int .i64 i) (s8:s 8 = .int .i64 0) (hf:∀ id,id<n0→h id=h0 id) (B0:J2a J46 3 n0 acc0 (s 5) h n) (hT:acc0++J9m v ds ds[i]=T) (hTl:T.length≤4000)
 (hK:∀ s' h' n',(∀ j∈[0,1,7],s' j=s j)→n≤n'→(∀ id,id<n0→h' id=h0 id)→J2a J46 3 n0 T (s' 5) h' n'→J25 Tryz.prog ks .normal s' h' n' Q):rC Tryz.prog ein ks s h n Q:=by
 have keepL:∀ {h' m'},n0≤m'→(∀ id,id<n0→h' id=h0 id)→J2a J46 3 0 ds vl h' m':=fun hm hh=>J2a.keep (R:=J46) (fun _ _ _ _ _ _=>J46.keep) L hm (J1h.of hh) fun id rows _ hid _ e=>by rw [hh id hid,e]
 refine J0t ?_
 rw [Jnw]
 by_cases hp:0<J15 v ds[i]
 ·rw [Joi (by omega)] at hT
  refine J0k [0,1,7] 8 ds.length (fun j s h m'=>n≤m'∧(∀ id,id<n0→h id=h0 id)∧∃ acc,J2a J46 3 n0 acc (s 5) h m'∧acc++(ds.drop j).filterMap (Jcq v ds[i])=T) (by unfold LIM;omega) (by simp [s8]) ⟨Nat.le_refl _,hf,acc0,B0,by simpa using hT⟩ ?_ ?_
  ·rintro j st h1 m1 R hj hgj hk s8 hw ⟨hm1,hf1,acc,B,hJ⟩ hR hret _
   simp at hk
   rw [List.drop_eq_getElem_cons hj,List.filterMap_cons] at hJ
   refine J09 (J09 (Jp3 (keepL (by omega) hf1) hd hg hv hi (by omega) (by simp [hk,s0]) (by simp [hk,s1]) (by simp [hk,s7]) s8 ?_))
   intro st1 hk1 s56
   simp at hk1
   rw [J2i]
   refine J1u (by simpa [hj,hp] using s56) (J09 (J0t (J09 (J09 (K1f (keepL (by omega) hf1) hg hv hj (by simp [hk1,hk,s0]) (by simp [hk1,hk,s1]) (by simp [hk1,s8]) ?_)))))
   intro st2 hk2 s68
   simp at hk2
   rw [J2i]
   by_cases hq:J15 v ds[j]<0
   ·have hq':¬0≤J15 v ds[j]:=by omega
    rw [Jwo hq] at hJ
    simp [s68,hq']
    refine K1o (keepL (by omega) hf1) hg hm hv hi hj hp hq (by simp [hk2,hk1,hk,s0]) (by simp [hk2,hk1,hk,s1]) (by simp [hk2,hk1,hk,s7]) (by simp [hk2,hk1,s8]) ?_
    intro st5 h5 m5 k9 r hk5 hm5 hf5 s10 s9 hk9 hk9b e9 hr
    simp at hk5
    have B5:J2a J46 3 n0 acc (st 5) h5 m5:=J2a.keep (R:=J46) (fun _ _ _ _ _ _=>J46.keep) B hm5 (J1h.of hf5) fun id rows _ hid _ e=>by rw [hf5 id hid,e]
    have hf50:∀ id,id<n0→h5 id=h0 id:=fun id hid=>by rw [hf5 id (by omega),hf1 id hid]
    have hal:=congrArg List.length hJ
    simp only [List.length_append] at hal
    rw [J2i]
    cases hjn:J7q v ds[i] ds[j] with
    | none=>
     rw [hjn] at s10 hJ
     simp at s10 hJ
     simp [s10,hk5,hk2,hk1,s8,hw]
     exact hR _ _ _ (by simp [hk5,hk2,hk1,hk]) (by simp) ⟨by omega,hf50,acc,by simpa [hk5,hk2,hk1] using B5,hJ⟩
    | some d=>
     rw [hjn] at s10 hJ
     have hrd:=hr d hjn
     simp at s10 hJ
     simp [s10]
     refine Jzq (acc:=acc) (d:=d) (v:=st 5) (q:=k9) (by simp [s9]) (by simp [hk5,hk2,hk1]) e9 hk9b hrd B5 (by omega) (by omega) ?_
     intro st6 h6 m6 hk6 hm6 kp6 hf6 B6
     simp at hk6
     simp [hk6,hk5,hk2,hk1,s8,hw]
     refine hR _ _ _ (by simp [hk6,hk5,hk2,hk1,hk]) (by simp) ⟨by omega,fun id hid => ?_,acc++[d],by simpa using B6,by simpa using hJ⟩
     rw [hf6 id (by omega) fun k e => ?_,hf50 id hid]
     have:=B.from id k e
     omega
   ·have hq':0≤J15 v ds[j]:=by omega
    rw [Ju4 hq] at hJ
    simp [s68,hq',hk2,hk1,s8,hw]
    exact hR _ _ _ (by simp [hk2,hk1,hk]) (by simp) ⟨by omega,hf1,acc,by simpa [hk2,hk1] using B,hJ⟩
  ·rintro st h1 m1 R hk s8 ⟨hm1,hf1,acc,B,hJ⟩ hret hX
   simp at hk
   rw [List.drop_eq_nil_of_le (by omega)] at hJ
   simp at hJ
   subst hJ
   refine J09 (J09 (Jp3 (keepL (by omega) hf1) hd hg hv hi (Nat.le_refl _) (by simp [hk,s0]) (by simp [hk,s1]) (by simp [hk,s7]) s8 ?_))
   intro st1 hk1 s56
   simp at hk1
   rw [J2i]
   refine J1s (by simpa using s56) ?_
   refine hX _ _ _ _ ?_
   simp
   exact hK _ _ _ (by simp [hk1,hk]) hm1 hf1 (by simpa [hk1] using B)
 ·have hj0:J9m v ds ds[i]=[]:=by unfold J9m;rw [if_pos (by omega)]
  rw [hj0,List.append_nil] at hT
  subst hT
  refine Jb2 (fun k s' h' m'=>s'=s∧h'=h∧m'=n) 0 ⟨rfl,rfl,rfl⟩ ?_
  rintro k s' h' m' ⟨rfl,rfl,rfl⟩
  refine J09 (J09 (Jp3 (keepL hn0 hf) hd hg hv hi (j:=0) (by omega) s0 s1 s7 (by simpa using s8) ?_))
  intro st1 hk1 s56
  simp at hk1
  rw [J2i]
  refine J1s (by simpa [hp] using s56) ?_
  simp
  exact hK _ _ _ (by simp [hk1]) (Nat.le_refl _) hf (by simpa [hk1] using B0)
end
section
variable {ks:List Kt}{s:Env}{h h':Heap}{n:Nat}{Q:Fin}
theorem Jxa {ds:List DDer}{vl:AV}{N m v n0:Nat}{h0:Heap}{acc0 T:List DDer}(hg:∀ d∈ds,GD N m d) (hm:m≤20) (hv:v<N) (hd:ds.length≤60) (L:J2a J46 3 0 ds vl h0 n0) (hn0:n0≤n)
 (s0:s 0=vl) (s1:s 1 = .int .i64 v) (hf:∀ id,id<n0→h id=h0 id) (B0:J2a J46 3 n0 acc0 (s 5) h n) (hT:acc0++ds.flatMap (J9m v ds)=T) (hTl:T.length≤4000)
 (hK:∀ s' h' n',n≤n'→(∀ id,id<n0→h' id=h0 id)→J2a J46 3 n0 T (s' 5) h' n'→J25 Tryz.prog ks .normal s' h' n' Q):rC Tryz.prog el3 ks s h n Q:=by
 have keepL:∀ {h' m'},n0≤m'→(∀ id,id<n0→h' id=h0 id)→J2a J46 3 0 ds vl h' m':=fun hm hh=>J2a.keep (R:=J46) (fun _ _ _ _ _ _=>J46.keep) L hm (J1h.of hh) fun id rows _ hid _ e=>by rw [hh id hid,e]
 simp [el3]
 refine J0k [0,1] 7 ds.length (fun i s h m'=>n≤m'∧(∀ id,id<n0→h id=h0 id)∧∃ acc,J2a J46 3 n0 acc (s 5) h m'∧acc++(ds.drop i).flatMap (J9m v ds)=T) (by unfold LIM;omega) (by simp) ⟨Nat.le_refl _,hf,acc0,by simpa using B0,by simpa using hT⟩ ?_ ?_
 ·rintro i st h1 m1 R hi hgi hk s7 hw ⟨hm1,hf1,acc,B,hJ⟩ hR hret _
  simp at hk
  rw [List.drop_eq_getElem_cons hi,List.flatMap_cons,←List.append_assoc] at hJ
  have hal:=congrArg List.length hJ
  simp only [List.length_append] at hal
  refine J09 (J0g [0,1,5,7] (fun s=>s 38 = .bool true) ?_ ?_)
  ·simp [hk,s0]
   refine J4f (keepL (by omega) hf1) (by unfold LIM;omega) ?_
   simp [hk,s7,hi]
  intro st1 hk1 s38
  simp at hk1
  refine J1u s38 (J09 (J0t ?_))
  simp
  refine Jvi (acc0:=acc) hg hm hv hd hi L (by omega) (by simp [hk1,hk,s0]) (by simp [hk1,hk,s1]) (by simp [hk1,s7]) (by simp) hf1 (by simpa [hk1] using B) rfl (by simp;omega) ?_
  intro st4 h4 m4 hk4 hm4 hf4 B4
  simp at hk4
  simp [hk4,hk1,s7,hw]
  exact hR _ _ _ (by simp [hk4,hk1,hk]) (by simp) ⟨by omega,hf4,_,by simpa using B4,hJ⟩
 ·rintro st h1 m1 R hk s7 ⟨hm1,hf1,acc,B,hJ⟩ hret hX
  simp at hk
  rw [List.drop_eq_nil_of_le (by omega)] at hJ
  simp at hJ
  subst hJ
  refine J09 (J0g [5] (fun s=>s 38 = .bool false) ?_ ?_)
  ·simp [hk,s0]
   refine J4f (keepL (by omega) hf1) (by unfold LIM;omega) ?_
   simp [hk,s7]
  intro st1 hk1 s38
  simp at hk1
  refine J1s s38 ?_
  refine hX _ _ _ _ ?_
  simp
  exact hK _ _ _ hm1 hf1 (by simpa [hk1] using B)
end
theorem Jcw {ds:List DDer}{vl:AV}{N m v:Nat}{h:Heap}{n:Nat}{K:AV→Heap→Nat→Prop}(hg:∀ d∈ds,GD N m d) (hm:m≤20) (hv:v<N) (hd:ds.length≤60) (L:J2a J46 3 0 ds vl h n)
 (hK:∀ a h' n',n≤n'→(∀ id,id<n→h' id=h id)→J2a J46 3 n (J6s v ds) a h' n'→K a h' n'):J30 Tryz.prog 259 [vl,i64 v] h n K:=by
 refine J1z Tryz.func259 a259_ok rfl (by simp [a259]) ?_
 simp [a259,el0,el1]
 have fr:∀ id,id<n→¬id=n:=by intro id _;omega
 refine Juk (n0:=n) (h0:=h) hg hv hd (Nat.le_succ n) (fun id hid=>by simp [fr id hid]) L (by simp) (by simp) (.inr ⟨n,[],Nat.le_refl n,Nat.lt_succ_self n,by simp,by simp,rfl,by simp⟩) ?_
 intro s1 h1 n1 hk1 hn1 hf1 B1
 simp at hk1
 simp
 have hl:=Jbk (v:=v) (l:=ds)
 have h60:ds.length*ds.length≤60*60:=Nat.mul_le_mul hd hd
 refine Jxa (n0:=n) (h0:=h) hg hm hv hd L (by omega) (by simp [hk1]) (by simp [hk1]) hf1 B1 (show _=J6s v ds from rfl) (by omega) ?_
 intro s2 h2 n2 hn2 hf2 B2
 simp [el4]
 exact hK _ _ _ (by omega) hf2 B2
end Go.Proofs.YtoclolkigjbcgaaGreat

/- Contracts: RankObligations of the program. -/
import Derived.Test.YtoclolkigjbcgaaGreatXC10
import Derived.Test.YtoclolkigjbcgaaGreatXHM3
import Derived.Test.YtoclolkigjbcgaaGreatXRE
import Derived.Test.YtoclolkigjbcgaaGreatProg
namespace Go.Proofs.YtoclolkigjbcgaaGreat
set_option maxRecDepth 40000
set_option maxHeartbeats 4000000
open Go Go.RowKit Go.Proofs
set_option linter.all false
theorem Jhd {p:DProgram}{x:DRanking}{i:Nat}(hi:i<(J0h p).length) (he:x.Edges.length=(J0h p).length):(((J0h p).zip x.Edges).drop i).flatMap (fun y=>rkE p x.Levels y.1 y.2)=rkE p x.Levels (J0h p)[i] (x.Edges[i]'(by omega))++(((J0h p).zip x.Edges).drop (i+1)).flatMap (fun y=>rkE p x.Levels y.1 y.2):=by
 have hz:i<((J0h p).zip x.Edges).length:=by simp;omega
 rw [List.drop_eq_getElem_cons hz,List.flatMap_cons]
 simp
def Jkp (p:DProgram) (x:DRanking) (i:Nat):List (Option DObligation):=(((J0h p).zip x.Edges).drop i).flatMap fun y=>rkE p x.Levels y.1 y.2
section
variable {ks:List Kt}{s:Env}{h h':Heap}{n:Nat}{Q:Fin}
theorem K07 {p:DProgram}(hp:J0k p≤1048576) {x:DRanking}(hR:Jct p x=true) {F:Option (List DObligation)}(hn:1<n) (s2:s 2 = .ptr 0 0 0) (s3:s 3 = .ptr 1 0 0) (s6:s 6 = .nil 4) (e0:h 0=some ⟨true,2,[J00 p]⟩) (e1:h 1=some ⟨true,2,[J0e x]⟩) (hF:goO [] (J9q p x)=F)
 (hret:F=Option.none→∀ s' h' n',s' 4 = .nil 4→s' 5 = .bool false→J2u Tryz.prog ks .ret s' h' n' Q)
 (hK:∀ s' h' n' acc,J41 1 4 (acc.map J0d) (s' 6) h' n'→some acc=F→J2u Tryz.prog ks .normal s' h' n' Q):rC Tryz.prog xa3 ks s h n Q:=by
 have h16:=Jb7 (p:=p)
 obtain ⟨hpo,hL,hE,_,_⟩:=Jfh hR
 simp [xa3,s2,e0]
 refine J9f (J9i p hp) (by simp) ?_
 rintro _ rfl
 simp
 intro _
 refine J0l [2,3,23,24] 25 (J0h p).length (fun i s h m=>1<m∧h 0=some ⟨true,2,[J00 p]⟩∧h 1=some ⟨true,2,[J0e x]⟩∧∃ acc,acc.length≤6*i∧J41 1 4 (acc.map J0d) (s 6) h m∧goO acc (Jkp p x i)=F) (by unfold LIM;omega) (by simp) ⟨hn,e0,e1,[],by simp,.inl ⟨rfl,by simp [s6]⟩,by simpa [Jkp,J9q] using hF⟩ ?_ ?_
 ·rintro i st h m R hi hg hk s25 hw' ⟨m1,e0,e1,acc,hal,B,hJ⟩ hRr hrt _
  simp at hk
  unfold Jkp at hJ
  rw [Jhd hi hE] at hJ
  obtain ⟨a,b,hab,E⟩:=Jk8 hR hi
  rw [hab] at hJ
  refine J0i [2,3,6,23,24,25] (fun s=>s 26 = .bool true) (by simp [hk,s25,hi]) ?_
  intro st1 hk1 s26
  simp at hk1
  refine J3x s26 (J0b (J1h ?_))
  have fr:∀ id,id<m→¬id=m:=by intro id _;omega
  refine J1n [2,3,6,23,24,25] (fun s h2 n2=>n2=m+1∧s 8 = .ptr m 0 0∧s 7 = .int .i64 i∧h2 m=some ⟨true,2,[J0q ⟨a,b⟩]⟩∧∀ id,id<m→h2 id=h id) ?_ ?_
  ·simp [xb1,hk1,hk,s25,hi,hab]
   exact fun id hid=>by simp [fr id hid]
  rintro st2 h2 n2 hk2 ⟨rfl,s8,s7,em,hfr2⟩
  simp at hk2
  have c0:h2 0=some ⟨true,2,[J00 p]⟩:=by rw [hfr2 0 (by omega),e0]
  have c1:h2 1=some ⟨true,2,[J0e x]⟩:=by rw [hfr2 1 (by omega),e1]
  refine J1n [2,3,6,7,8,23,24,25] (fun s h3 n3=>n3=m+2∧s 9 = .ptr (m+1) 0 0∧h3 (m+1)=some ⟨true,6,[J0o (Jdt p ⟨a,b⟩)]⟩∧∀ id,id<m+1→h3 id=h2 id) ?_ ?_
  ·simp [xb2,hk2,hk1,hk,s2,s8,em,c0,J0q]
   refine J9f (Jt7 p hp a) (by simp [J00]) ?_
   rintro _ rfl
   have hmd:(Jdi p a).getD Jho=Jdt p ⟨a,b⟩:=rfl
   unfold Jbh
   rw [hmd]
   generalize Jdt p ⟨a,b⟩=md
   simp
   intro id hid
   have:¬id=m+1:=by omega
   simp [this]
  rintro st3 h3 n3 hk3 ⟨rfl,s9,e9,hfr3⟩
  simp at hk3
  have d0:h3 0=some ⟨true,2,[J00 p]⟩:=by rw [hfr3 0 (by omega),c0]
  have d1:h3 1=some ⟨true,2,[J0e x]⟩:=by rw [hfr3 1 (by omega),c1]
  have d8:h3 m=some ⟨true,2,[J0q ⟨a,b⟩]⟩:=by rw [hfr3 m (by omega),em]
  have B3:J41 1 4 (acc.map J0d) (st 6) h3 (m+2):=B.keep (by omega) fun id _ hid _=>by rw [hfr3 id (by omega),hfr2 id hid]
  simp
  refine Jy5 (acc0:=acc) (k8:=m) (k9:=m+1) E (by simp [hk3,hk2,hk1,hk,s2]) (by simp [hk3,hk2,hk1,hk,s3]) (by simp [hk3,s7]) (by simp [hk3,s8]) (by simp [s9]) (by simp) (by omega) (by omega) d0 d1 d8 e9 (by simpa [hk3,hk2,hk1] using B3) (by omega) hJ ?_ ?_
  ·intro hno s' h' n' x4 x5
   simp
   exact hrt _ _ _ (hret hno _ _ _ x4 x5)
  ·intro st4 h4 m4 acc4 hk4 hm4 y0 y1 hal4 B4 hJ4
   simp at hk4
   simp [hk4,hk3,hk2,hk1,s25,hw']
   exact hRr _ _ _ (by simp [hk4,hk3,hk2,hk1,hk]) (by simp) ⟨by omega,y0,y1,acc4,by omega,by simpa using B4,hJ4⟩
 ·rintro st h m R hk s25 ⟨m1,e0,e1,acc,hal,B,hJ⟩ hrt hX
  simp at hk
  unfold Jkp at hJ
  rw [List.drop_eq_nil_of_le (by simp;omega)] at hJ
  simp only [List.flatMap_nil,goO] at hJ
  refine J0i [6] (fun s=>s 26 = .bool false) (by simp [hk,s25]) ?_
  intro st1 hk1 s26
  simp at hk1
  refine J3s s26 ?_
  refine hX _ _ _ _ ?_
  simp
  exact hK _ _ _ acc (by rw [hk1];exact B) hJ
end
theorem J52 (p:DProgram) (hp:J0k p≤1048576) (x:DRanking):Holds Tryz.prog 50 [.agg (J00 p),.agg (J0e x)] (fun r=>r = .tup [.us 4 (((J2l p x).getD []).map J0d),.bool (J2l p x).isSome]):=by
 refine J03 Tryz.func50 a50_ok rfl (by simp [a50]) ?_
 simp [a50,xa0,xa1]
 first|refine J01 (Jfa p hp x) (by first|simp;done|rfl) ?_|refine J02 (Jfa p hp x) (by first|simp;done|rfl) ?_
 rintro r rfl
 generalize hO:J2l p x=O
 unfold J2l at hO
 cases hB:Jct p x
 ·rw [hB] at hO
  simp at hO
  subst hO
  simp
 rw [hB,if_pos rfl] at hO
 simp [xa2]
 refine K07 hp hB (by omega) (by simp) (by simp) (by simp) (by simp) (by simp) hO ?_ ?_
 ·intro hno s' h' n' x4 x5
  subst hno
  simp [x4,x5]
 ·intro s' h' n' acc B hs
  obtain ⟨h2,hd,_⟩:=B.dt
  rw [←hs]
  simp [xa4,hd]
def le0:AC:=(.reg [Zo 4 (.boxv (.t 0)),Zo 6 (.boxv (.t 2)),Zo 8 (.mv (.k (.nil 4))),Zo 9 (.mv (.k (.bool false)))])
def le1:AC:=(.reg [Zl 20 true 2 4,Zf 21 0 6,Zl 22 false 1 21,Zc 23 184 [.t 20,.t 22],Zo 10 (.box [(.int .i64 0),(.nil 2),(.nil 2),(.nil 1),(.int .i64 0),(.nil 1)]),⟨no,.st 6 (.t 10) (.t 23),no⟩])
def le2:AC:=(.reg [Zo 24 (.bsl 4 []),Zv 11 24])
def lea:AC:=(.draw (.op (Zl 30 true 2 4) (.op (Zv 31 1) (.op (Zv 32 12) (.op (Zo 33 (.bin .sub (.t 32) (.k (.int .i64 1)))) (.op (Zo 34 (.ixa 1 (.t 31) (.t 33))) (.op (Zl 35 false 1 34) (.op (Zl 36 true 2 4) (.op (Zl 37 true 2 6) (.both (.op (Zc 38 199 [.t 36,.t 37]) (.both (.op (Zc 39 186 [.t 30,.t 35,.t 38]) (.op (Zo 13 (.box [(.int .i64 0),(.nil 1)])) (.hop ⟨no,.st 2 (.t 13) (.t 39),no⟩ [] .fin))) (.op (Zo 13 (.box [(.int .i64 0),(.nil 1)])) (.op (Zc 39 186 [.t 30,.t 35,.t 38]) (.hop ⟨no,.st 2 (.t 13) (.t 39),no⟩ [] .fin))))) (.op (Zo 13 (.box [(.int .i64 0),(.nil 1)])) (.op (Zc 38 199 [.t 36,.t 37]) (.op (Zc 39 186 [.t 30,.t 35,.t 38]) (.hop ⟨no,.st 2 (.t 13) (.t 39),no⟩ [] .fin))))))))))))))
def leb:AC:=(.draw (.op (Zl 40 true 2 4) (.op (Zv 41 1) (.op (Zv 42 12) (.op (Zo 43 (.bin .sub (.t 42) (.k (.int .i64 1)))) (.op (Zo 44 (.ixa 1 (.t 41) (.t 43))) (.op (Zl 45 false 1 44) (.op (Zl 46 true 2 4) (.op (Zl 47 true 2 6) (.both (.op (Zc 48 173 [.t 46,.t 47]) (.both (.op (Zc 49 186 [.t 40,.t 45,.t 48]) (.op (Zo 14 (.box [(.int .i64 0),(.nil 1)])) (.hop ⟨no,.st 2 (.t 14) (.t 49),no⟩ [] .fin))) (.op (Zo 14 (.box [(.int .i64 0),(.nil 1)])) (.op (Zc 49 186 [.t 40,.t 45,.t 48]) (.hop ⟨no,.st 2 (.t 14) (.t 49),no⟩ [] .fin))))) (.op (Zo 14 (.box [(.int .i64 0),(.nil 1)])) (.op (Zc 48 173 [.t 46,.t 47]) (.op (Zc 49 186 [.t 40,.t 45,.t 48]) (.hop ⟨no,.st 2 (.t 14) (.t 49),no⟩ [] .fin))))))))))))))
def led:AC:=(.reg [Zl 54 true 6 10,Zl 55 true 2 13,Zf 56 1 6,Zl 57 false 1 56,Zl 58 true 2 14,Zv 59 15,Zc 60 200 [.t 54,.t 55,.t 57,.t 58,.t 59],Zv 53 60,Zo 61 (.ext (.t 53) 0),Zo 62 (.ext (.t 53) 1),Zo 16 (.box [(.int .i64 0),(.nil 1)]),⟨no,.st 2 (.t 16) (.t 61),no⟩,Zv 17 62])
def leo:AC:=(.draw (.op (Zv 66 11) (.op (Zf 67 0 10) (.op (Zl 68 true 2 67) (.op (Zl 70 true 2 16) (.op (Zc 69 175 [.t 68]) (.op (Zo 71 (.build [(.int .i64 0),(.nil 2),(.int .i64 0),(.nil 1)] [(0,(2,(.t 69))),(2,(2,(.t 70)))])) (.hop (Zo 72 (.bsl 4 [.t 71])) [] (.hop (Zo 73 (.app 64 4 (.t 66) (.t 72))) [] (.hop (Zv 11 73) [] .fin))))))))))
def lep:AC:=(.reg [Zl 78 true 6 10,Zl 79 true 2 13,Zf 80 2 10,Zl 81 false 1 80,Zc 82 185 [.t 78,.t 79,.t 81],Zv 77 82,Zo 83 (.ext (.t 77) 0),Zo 84 (.ext (.t 77) 1),Zo 18 (.box [(.int .i64 0),(.nil 1)]),⟨no,.st 2 (.t 18) (.t 83),no⟩,Zv 19 84])
def leq:AC:=(.draw (.op (Zv 88 11) (.op (Zf 89 0 10) (.op (Zl 90 true 2 89) (.op (Zl 92 true 2 18) (.op (Zc 91 175 [.t 90]) (.op (Zo 93 (.build [(.int .i64 0),(.nil 2),(.int .i64 0),(.nil 1)] [(0,(2,(.t 91))),(2,(2,(.t 92)))])) (.hop (Zo 94 (.bsl 4 [.t 93])) [] (.hop (Zo 95 (.app 64 4 (.t 88) (.t 94))) [] (.hop (Zv 11 95) [] .fin))))))))))
def le3:AC:=(.seq (.reg [Zo 12 (.mv (.k (.int .i64 1)))]) (.blk 0 (.loop (.seq (.seq (.reg [Zv 25 12,Zv 26 3,Zo 27 (.bin .leq (.t 25) (.t 26))]) (.cond (.t 27) .skip (.exit 0))) (.seq (.blk 1 (.seq lea (.seq leb (.seq (.reg [Zo 15 (.mv (.k (.int .i64 0)))]) (.seq (.seq (.reg [Zv 50 12,Zv 51 3,Zo 52 (.bin .eql (.t 50) (.t 51))]) (.cond (.t 52) (.reg [Zo 15 (.mv (.k (.int .i64 1)))]) .skip)) (.seq  led (.seq (.seq (.reg [Zv 63 17,Zo 64 (.un .not (.t 63))]) (.cond (.t 64) (.seq (.reg [Zv 65 11,Zv 8 65,Zo 9 (.mv (.k (.bool false)))]) .ret) .skip)) (.seq leo (.seq (.reg [Zv 74 12,Zv 75 3,Zo 76 (.bin .eql (.t 74) (.t 75))]) (.cond (.t 76) (.seq  lep (.seq (.seq (.reg [Zv 85 19,Zo 86 (.un .not (.t 85))]) (.cond (.t 86) (.seq (.reg [Zv 87 11,Zv 8 87,Zo 9 (.mv (.k (.bool false)))]) .ret) .skip)) leq)) .skip)))))))))) (.reg [Zv 28 12,Zo 29 (.bin .add (.t 28) (.k (.int .i64 1))),Zv 12 29]))))))
def le4:AC:=(.reg [Zv 96 11,Zv 8 96,Zo 9 (.mv (.k (.bool true)))])
def a123:AFn:=⟨97,[.t 8,.t 9],(.seq le0 (.seq le1 (.seq le2 (.seq le3 (.seq le4 .ret)))))⟩
theorem a123_ok:J06 Tryz.prog Tryz.f123=some a123:=by kernel_rfl
structure EdgeS (p:DProgram) (Ls:List (List DLin)) (a b:Nat) (nE:Int):Prop where
 hp:J0k p≤1048576
 hpo:J2s p=true
 ha:a<p.Rules.length
 hb:b<(p.Rules[a]).Calls.length
 hf:(J1o p.Functions (p.Rules[a]).Func).isSome=true
 hg:(J1o p.Functions ((p.Rules[a]).Calls[b]).Func).isSome=true
 hn:0≤nE∧nE≤Ls.length
 hL:Ls.length≤3
 lv:∀ l∈Ls,l.length=p.Functions.length
section
variable {ks:List Kt}{s:Env}{h h':Heap}{n:Nat}{Q:Fin}
theorem Jzr {p:DProgram}{Ls:List (List DLin)}{a b i:Nat}{nE:Int}(E:EdgeS p Ls a b nE) (hi:i<Ls.length) (s4:s 4 = .ptr 0 0 0) (s6:s 6 = .ptr 1 0 0) (s1:s 1 = .sl 1 (Ls.map J2x)) (s12:s 12 = .int .i64 ((i:Int)+1)) (e0:h 0=some ⟨true,2,[J00 p]⟩) (e1:h 1=some ⟨true,2,[J0q ⟨a,b⟩]⟩)
 (hK:∀ s' h',(∀ j∈[1,3,4,6,10,11,12],s' j=s j)→(∀ id,id<n→h' id=h id)→s' 13 = .ptr n 0 0→h' n=some ⟨true,2,[J05 (J4f p (lvB Ls[i]) (p.Rules[a]'E.ha).Func)]⟩→J2u Tryz.prog ks .normal s' h' (n+1) Q) (h0:1<n):rC Tryz.prog lea ks s h n Q:=by
 obtain ⟨hp,hpo,ha,hb,hf,hg,hn,hL,hlv⟩:=E
 have hwi:IntKind.i64.wrap (i:Int)=(i:Int):=J0r (by omega)
 have fr:∀ id,id<n→¬id=n:=by intro id _;omega
 have ne:¬0=n∧¬1=n:=by omega
 have hlb:(lvB Ls[i]).Lins.length=p.Functions.length:=hlv _ (List.getElem_mem hi)
 simp [lea,s4,s6,s1,s12,e0,e1,hwi,hi,J2x]
 refine ⟨?_,?_⟩
 ·first|refine J01 (J5o p ha (k:=b)) (by simp) ?_|refine J02 (J5o p ha (k:=b)) (by simp) ?_
  rintro r rfl
  simp
  refine ⟨?_,?_⟩
  ·refine J8h hp hf hlb ?_
   simp [J05]
   exact hK _ _ (by simp [s1,s12]) (fun id hid=>by simp [fr id hid]) (by simp) (by simp [J05])
  ·refine J8h hp hf hlb ?_
   simp [J05]
   exact hK _ _ (by simp [s1,s12]) (fun id hid=>by simp [fr id hid]) (by simp) (by simp [J05])
 ·first|refine J01 (J5o p ha (k:=b)) (by simp) ?_|refine J02 (J5o p ha (k:=b)) (by simp) ?_
  rintro r rfl
  simp
  refine J8h hp hf hlb ?_
  simp [J05]
  exact hK _ _ (by simp [s1,s12]) (fun id hid=>by simp [fr id hid]) (by simp) (by simp [J05])
theorem Jz7 {p:DProgram}{Ls:List (List DLin)}{a b i:Nat}{nE:Int}(E:EdgeS p Ls a b nE) (hi:i<Ls.length) (s4:s 4 = .ptr 0 0 0) (s6:s 6 = .ptr 1 0 0) (s1:s 1 = .sl 1 (Ls.map J2x)) (s12:s 12 = .int .i64 ((i:Int)+1)) (e0:h 0=some ⟨true,2,[J00 p]⟩) (e1:h 1=some ⟨true,2,[J0q ⟨a,b⟩]⟩)
 (hK:∀ s' h',(∀ j∈[1,3,4,6,10,11,12,13],s' j=s j)→(∀ id,id<n→h' id=h id)→s' 14 = .ptr n 0 0→h' n=some ⟨true,2,[J05 (J4f p (lvB Ls[i]) ((p.Rules[a]'E.ha).Calls[b]'E.hb).Func)]⟩→J2u Tryz.prog ks .normal s' h' (n+1) Q) (h0:1<n):rC Tryz.prog leb ks s h n Q:=by
 obtain ⟨hp,hpo,ha,hb,hf,hg,hn,hL,hlv⟩:=E
 have hwi:IntKind.i64.wrap (i:Int)=(i:Int):=J0r (by omega)
 have fr:∀ id,id<n→¬id=n:=by intro id _;omega
 have ne:¬0=n∧¬1=n:=by omega
 have hlb:(lvB Ls[i]).Lins.length=p.Functions.length:=hlv _ (List.getElem_mem hi)
 simp [leb,s4,s6,s1,s12,e0,e1,hwi,hi,J2x]
 refine ⟨?_,?_⟩
 ·first|refine J01 (J6g p ha hb) (by simp) ?_|refine J02 (J6g p ha hb) (by simp) ?_
  rintro r rfl
  simp
  refine ⟨?_,?_⟩
  ·refine J8h hp hg hlb ?_
   simp [J05]
   exact hK _ _ (by simp [s1,s12]) (fun id hid=>by simp [fr id hid]) (by simp) (by simp [J05])
  ·refine J8h hp hg hlb ?_
   simp [J05]
   exact hK _ _ (by simp [s1,s12]) (fun id hid=>by simp [fr id hid]) (by simp) (by simp [J05])
 ·first|refine J01 (J6g p ha hb) (by simp) ?_|refine J02 (J6g p ha hb) (by simp) ?_
  rintro r rfl
  simp
  refine J8h hp hg hlb ?_
  simp [J05]
  exact hK _ _ (by simp [s1,s12]) (fun id hid=>by simp [fr id hid]) (by simp) (by simp [J05])
theorem Kdx {a:AC}{md:DModel}{t:DLin}{acc:List DObligation}{v:AV}{k10 k b:Nat}(ha:a=leo∧b=16∨a=leq∧b=18) (s11:s 11=v) (s10:s 10 = .ptr k10 0 0) (sb:s b = .ptr k 0 0) (e10:h k10=some ⟨true,6,[J0o md]⟩) (L:J67 t k h n) (B:J41 2 4 (acc.map J0d) v h n) (hw:J5h md.System.Rows≤1048576) (hl:acc.length≤3000000) (hn2:2<n)
 (hK:∀ s' h' n',(∀ j∈[1,3,4,6,10,12,13,15],s' j=s j)→n≤n'→(∀ id z rows,id<n→h id=some ⟨true,z,rows⟩→h' id=h id)→J41 2 4 ((acc++[(⟨md.System,t⟩:DObligation)]).map J0d) (s' 11) h' n'→J2u Tryz.prog ks .normal s' h' n' Q):rC Tryz.prog a ks s h n Q:=by
 obtain ⟨q,hkn,hqn,hkb,hqb⟩:=L
 have ne:¬q=n∧¬n=q∧¬n=n+1∧¬n+1=n∧¬n+1=q∧¬q=n+1:=by omega
 have fr:∀ id,id<n→¬id=n∧¬id=n+1∧¬id=n+1+1:=by intro id _;omega
 have hqv:∀ l,v ≠ .ref q 0 l:=fun l e=>by have:=(B.lt e).2.2.1;rw [hqb] at this;simp at this
 rcases ha with ⟨rfl,rfl⟩|⟨rfl,rfl⟩
 all_goals
  first|simp [leo,s11,s10,sb,e10,hkb] | simp [leq,s11,s10,sb,e10,hkb]
  refine J01 (Jqt md.System hw) (by simp) ?_
  rintro r rfl
  simp [J42,hqb,ne]
  refine J3w (rows:=acc.map J0d) (rows2:=[[.int .i64 md.System.N,.us 2 (md.System.Rows.map J08),.int .i64 t.Const,.us 1 (J0m t.Coeffs)]]) (B.keep (n':=n+1+1) (by omega) fun id _ hid e => ?_) (by simp) (fun l e=>by have:=(B.lt e).2.1;omega) (by omega) (by simp;unfold LIM;omega) ?_
  ·have:¬id=q:=fun e'=>hqv _ (by rw [←e'];exact e)
   simp [fr id hid,this]
  intro h1 f1 f2
  simp
  refine hK _ _ _ (by simp) (by omega) ?_ ?_
  ·intro id z rows h1' h3'
   have:¬id=q:=by rintro rfl;rw [hqb] at h3';simp at h3'
   rw [f2 id (by omega) (by omega) fun l e=>B.not_box h3' e];simp [fr id h1',this]
  ·simp
   exact .inr ⟨n+2,by omega,by omega,by simp,by simp [f1,J0d]⟩
end
section
variable {ks:List Kt}{s:Env}{h h':Heap}{n:Nat}{Q:Fin}
theorem K0a {md:DModel}{la lb:DLin}{a b k10 k13 k14:Nat}{K:Int}(s6:s 6 = .ptr 1 0 0) (s10:s 10 = .ptr k10 0 0) (s13:s 13 = .ptr k13 0 0) (s14:s 14 = .ptr k14 0 0) (s15:s 15 = .int .i64 K) (e1:h 1=some ⟨true,2,[J0q ⟨a,b⟩]⟩) (e10:h k10=some ⟨true,6,[J0o md]⟩) (e13:h k13=some ⟨true,2,[J05 la]⟩) (e14:h k14=some ⟨true,2,[J05 lb]⟩)
 (hK:∀ s' h' n' k,(∀ j∈[1,3,4,6,10,11,12,13,15],s' j=s j)→n≤n'→(∀ id,id<n→h' id=h id)→s' 17 = .bool (J84 md la b lb K).isSome→s' 16 = .ptr k 0 0→J67 ((J84 md la b lb K).getD J1g) k h' n'→J2u Tryz.prog ks .normal s' h' n' Q):rC Tryz.prog led ks s h n Q:=by
 have fr:∀ id,id<n→¬id=n∧¬id=n+1:=by intro id _;omega
 simp [led,s6,s10,s13,s14,s15,e1,e10,e13,e14,J0q]
 refine J02 (Jji md la b lb K) (by simp) ?_
 rintro r rfl
 rw [J0u]
 generalize J84 md la b lb K=T at *
 simp [J08]
 exact hK _ _ _ (n+1) (by simp) (by omega) (fun id hid=>by simp [fr id hid]) (by simp) (by simp) ⟨n,by omega,by omega,by simp,by simp⟩
theorem K0d {md:DModel}{la:DLin}{k10 k13:Nat}(s10:s 10 = .ptr k10 0 0) (s13:s 13 = .ptr k13 0 0) (e10:h k10=some ⟨true,6,[J0o md]⟩) (e13:h k13=some ⟨true,2,[J05 la]⟩)
 (hK:∀ s' h' n' k,(∀ j∈[1,3,4,6,10,11,12],s' j=s j)→n≤n'→(∀ id,id<n→h' id=h id)→s' 19 = .bool (J0s la md.Params md.System.N).isSome→s' 18 = .ptr k 0 0→J67 ((J0s la md.Params md.System.N).getD J1g) k h' n'→J2u Tryz.prog ks .normal s' h' n' Q):rC Tryz.prog lep ks s h n Q:=by
 have fr:∀ id,id<n→¬id=n∧¬id=n+1:=by intro id _;omega
 simp [lep,s10,s13,e10,e13,J0o]
 refine J02 (J7h md la md.Params) (by simp [J0o]) ?_
 rintro r rfl
 rw [J0u]
 generalize J0s la md.Params md.System.N=T at *
 simp [J08]
 exact hK _ _ _ (n+1) (by simp) (by omega) (fun id hid=>by simp [fr id hid]) (by simp) (by simp) ⟨n,by omega,by omega,by simp,by simp⟩
theorem K0r {p:DProgram}{Ls:List (List DLin)}{a b k10:Nat}{nE:Int}{F:Option (List DObligation)}(E:EdgeS p Ls a b nE) (s1:s 1 = .sl 1 (Ls.map J2x)) (s3:s 3 = .int .i64 nE) (s4:s 4 = .ptr 0 0 0) (s6:s 6 = .ptr 1 0 0) (s10:s 10 = .ptr k10 0 0) (hk10:1<k10∧k10<n) (hn2:2<n)
 (e0:h 0=some ⟨true,2,[J00 p]⟩) (e1:h 1=some ⟨true,2,[J0q ⟨a,b⟩]⟩) (e10:h k10=some ⟨true,6,[J0o (Jdt p ⟨a,b⟩)]⟩) (B0:J41 2 4 [] (s 11) h n) (hF:goO [] (rkE p Ls ⟨a,b⟩ nE)=F)
 (hret:F=Option.none→∀ s' h' n' (acc:List DObligation),acc.length≤6→J41 2 4 (acc.map J0d) (s' 8) h' n'→s' 9 = .bool false→J2u Tryz.prog ks .ret s' h' n' Q)
 (hK:∀ s' h' n' (acc:List DObligation),acc.length≤6→J41 2 4 (acc.map J0d) (s' 11) h' n'→some acc=F→J2u Tryz.prog ks .normal s' h' n' Q):rC Tryz.prog le3 ks s h n Q:=by
 have hE:=E
 obtain ⟨hp,hpo,ha,hb,hf,hg,hnn,hL,hlv⟩:=E
 have hsz:=Jqn hpo (k:=b) ha
 generalize hmd:Jdt p ⟨a,b⟩=md at *
 unfold rkE at hF
 rw [hmd] at hF
 simp [le3]
 refine Jsv [1,3,4,6,10] 12 nE.toNat 1 (fun i s h m=>n≤m∧h 0=some ⟨true,2,[J00 p]⟩∧h 1=some ⟨true,2,[J0q ⟨a,b⟩]⟩∧h k10=some ⟨true,6,[J0o md]⟩∧∃ acc,acc.length≤2*i∧J41 2 4 (acc.map J0d) (s 11) h m∧goO acc (((List.range nE.toNat).drop i).flatMap (rk1 p md ⟨a,b⟩ Ls nE))=F) (by unfold LIM;omega) (by simp) ⟨Nat.le_refl _,e0,e1,e10,[],by simp,by simpa using B0,by simpa using hF⟩ ?_ ?_
 ·rintro i st h1 m1 R hi hk s12 hw ⟨hm1,e0,e1,e10,acc,hal,B,hJ⟩ hR hrt _
  simp at hk
  have s12:st 12 = .int .i64 ((i:Int)+1):=by simpa using s12
  have hir:i<(List.range nE.toNat).length:=by simpa using hi
  rw [List.drop_eq_getElem_cons hir,List.flatMap_cons] at hJ
  simp only [List.getElem_range] at hJ
  have hil:i<Ls.length:=by omega
  have hgd:Ls.getD i []=Ls[i]:=by simp [hil]
  have hle:(i:Int)+1≤nE:=by omega
  refine J0b (J0i [1,3,4,6,10,11,12] (fun s=>s 27 = .bool true) (by simp [hk,s12,s3,hle]) ?_)
  intro st1 hk1 s27
  simp at hk1
  refine J25 s27 (J0b (J1h ?_))
  refine J0b (Jzr hE hil (by simp [hk1,hk,s4]) (by simp [hk1,hk,s6]) (by simp [hk1,hk,s1]) (by simp [hk1,s12]) e0 e1 ?_ (by omega))
  intro st2 h2 hk2 hf2 s13 e13
  simp at hk2
  rw [J5u]
  have z0:h2 0=some ⟨true,2,[J00 p]⟩:=by rw [hf2 0 (by omega),e0]
  have z1:h2 1=some ⟨true,2,[J0q ⟨a,b⟩]⟩:=by rw [hf2 1 (by omega),e1]
  refine J0b (Jz7 hE hil (by simp [hk2,hk1,hk,s4]) (by simp [hk2,hk1,hk,s6]) (by simp [hk2,hk1,hk,s1]) (by simp [hk2,hk1,s12]) z0 z1 ?_ (by omega))
  intro st3 h3 hk3 hf3 s14 e14
  simp at hk3
  rw [J5u]
  have hf30:∀ id,id<m1→h3 id=h1 id:=fun id hid=>by rw [hf3 id (by omega),hf2 id hid]
  have y0:h3 0=some ⟨true,2,[J00 p]⟩:=by rw [hf30 0 (by omega),e0]
  have y1:h3 1=some ⟨true,2,[J0q ⟨a,b⟩]⟩:=by rw [hf30 1 (by omega),e1]
  have y10:h3 k10=some ⟨true,6,[J0o md]⟩:=by rw [hf30 k10 (by omega),e10]
  have y13:h3 m1=some ⟨true,2,[J05 (J4f p (lvB Ls[i]) (p.Rules[a]'ha).Func)]⟩:=by rw [hf3 m1 (by omega),e13]
  have B3:J41 2 4 (acc.map J0d) (st 11) h3 (m1+1+1):=B.keep (by omega) fun id _ hid _=>hf30 id hid
  refine J0i [1,3,4,6,10,11,12,13,14] (fun s=>s 15 = .int .i64 0) (by simp) ?_
  intro st4 hk4 s15
  simp at hk4
  refine J0i [1,3,4,6,10,11,12,13,14] (fun s=>s 15 = .int .i64 (if (i:Int)+1=nE then 1 else 0)) ?_ ?_
  ·by_cases hq:(i:Int)+1=nE
   ·simp [hk4,hk3,hk2,hk1,hk,s12,s3,hq]
   ·simp [hk4,hk3,hk2,hk1,hk,s12,s3,hq,s15]
  intro st5 hk5 s15'
  simp at hk5
  obtain ⟨K,hKd⟩:∃ K:Int,(if (i:Int)+1=nE then (1:Int) else 0)=K:=⟨_,rfl⟩
  rw [hKd] at s15'
  have x13:st5 13 = .ptr m1 0 0:=by simp [hk5,hk4,hk3,s13]
  have x14:st5 14 = .ptr (m1+1) 0 0:=by simp [hk5,hk4,s14]
  have x6:st5 6 = .ptr 1 0 0:=by simp [hk5,hk4,hk3,hk2,hk1,hk,s6]
  have x10:st5 10 = .ptr k10 0 0:=by simp [hk5,hk4,hk3,hk2,hk1,hk,s10]
  refine J0b (K0a (md:=md) (K:=K) x6 x10 x13 x14 s15' y1 y10 y13 e14 ?_)
  intro st6 h6 m6 k16 hk6 hm6 hf6 s17 s16 L16
  simp at hk6
  rw [J5u]
  generalize hT:J84 md (J4f p (lvB Ls[i]) (p.Rules[a]'ha).Func) b (J4f p (lvB Ls[i]) ((p.Rules[a]'ha).Calls[b]'hb).Func) K=T at *
  have hobd:obD p md ⟨a,b⟩ (Ls.getD i []) K=T.map fun t=>⟨md.System,t⟩:=by rw [hgd,Jxj ha hb,hT]
  have w0:h6 0=some ⟨true,2,[J00 p]⟩:=by rw [hf6 0 (by omega),y0]
  have w1:h6 1=some ⟨true,2,[J0q ⟨a,b⟩]⟩:=by rw [hf6 1 (by omega),y1]
  have w10:h6 k10=some ⟨true,6,[J0o md]⟩:=by rw [hf6 k10 (by omega),y10]
  have w13:h6 m1=some ⟨true,2,[J05 (J4f p (lvB Ls[i]) (p.Rules[a]'ha).Func)]⟩:=by rw [hf6 m1 (by omega),y13]
  have B6:J41 2 4 (acc.map J0d) (st 11) h6 m6:=B3.keep hm6 fun id _ hid _=>hf6 id hid
  have x11:st6 11=st 11:=by simp [hk6,hk5,hk4,hk3,hk2,hk1]
  cases T with
  | none=>
   simp only [Option.map_none] at hobd
   have hnone:F=Option.none:=by
    rw [←hJ]
    unfold rk1
    by_cases hq:(i:Int)+1=nE
    ·rw [if_pos hq] at hKd
     rw [←hKd] at hobd
     rw [if_pos hq,hobd];rfl
    ·rw [if_neg hq] at hKd
     rw [←hKd] at hobd
     rw [if_neg hq,hobd];rfl
   simp [s17]
   exact hrt _ _ _ (hret hnone _ _ _ acc (by omega) (by simpa [x11] using B6) (by simp))
  | some t=>
   simp only [Option.map_some] at hobd
   simp only [Option.getD_some] at L16
   simp [s17]
   refine Kdx (md:=md) (t:=t) (acc:=acc) (v:=st 11) (k10:=k10) (k:=k16) (.inl ⟨rfl,rfl⟩) (by simp [x11]) (by simp [hk6,x10]) (by simp [s16]) w10 L16 B6 (by omega) (by omega) (by omega) ?_
   intro st7 h7 m7 hk7 hm7 bx7 B7
   simp at hk7
   have u0:=bx7 0 _ _ (by omega) w0
   have u1:=bx7 1 _ _ (by omega) w1
   have u10:=bx7 k10 _ _ (by omega) w10
   have u13:=bx7 m1 _ _ (by omega) w13
   rw [w0] at u0
   rw [w1] at u1
   rw [w10] at u10
   rw [w13] at u13
   rw [J5u]
   have hw':IntKind.i64.wrap ((i:Int)+1+1)=(i:Int)+1+1:=by simpa using hw
   have x12:st7 12 = .int .i64 ((i:Int)+1):=by simp [hk7,hk6,hk5,hk4,hk3,hk2,hk1,s12]
   have x3:st7 3 = .int .i64 nE:=by simp [hk7,hk6,hk5,hk4,hk3,hk2,hk1,hk,s3]
   by_cases hq:(i:Int)+1=nE
   ·rw [if_pos hq] at hKd
    subst hKd
    have hrk:rk1 p md ⟨a,b⟩ Ls nE i=[some ⟨md.System,t⟩,obC p md ⟨a,b⟩ (Ls.getD i [])]:=by unfold rk1;rw [if_pos hq,hobd]
    rw [hrk] at hJ
    simp only [List.cons_append,List.nil_append,goO] at hJ
    refine J0b ?_
    simp [x12,x3,hq]
    refine K0d (md:=md) (la:=J4f p (lvB Ls[i]) (p.Rules[a]'ha).Func) (k10:=k10) (k13:=m1) (by simp [hk7,hk6,x10]) (by simp [hk7,hk6,x13]) u10 u13 ?_
    intro st8 h8 m8 k18 hk8 hm8 hf8 s19 s18 L18
    simp at hk8
    rw [J5u]
    rw [hgd,Jwl ha] at hJ
    generalize J0s (J4f p (lvB Ls[i]) (p.Rules[a]'ha).Func) md.Params md.System.N=U at *
    have B8:J41 2 4 ((acc++[(⟨md.System,t⟩:DObligation)]).map J0d) (st7 11) h8 m8:=B7.keep hm8 fun id _ hid _=>hf8 id hid
    have v0:h8 0=some ⟨true,2,[J00 p]⟩:=by rw [hf8 0 (by omega),u0]
    have v1:h8 1=some ⟨true,2,[J0q ⟨a,b⟩]⟩:=by rw [hf8 1 (by omega),u1]
    have v10:h8 k10=some ⟨true,6,[J0o md]⟩:=by rw [hf8 k10 (by omega),u10]
    cases U with
    | none=>
     simp [goO] at hJ
     simp [s19]
     exact hrt _ _ _ (hret hJ.symm _ _ _ (acc++[⟨md.System,t⟩]) (by simp;omega) (by simpa [hk8] using B8) (by simp))
    | some u=>
     simp only [Option.map_some,goO] at hJ
     simp only [Option.getD_some] at L18
     simp [s19]
     refine Kdx (md:=md) (t:=u) (acc:=acc++[⟨md.System,t⟩]) (v:=st7 11) (k10:=k10) (k:=k18) (.inr ⟨rfl,rfl⟩) (by simp [hk8]) (by simp [hk8,hk7,hk6,x10]) (by simp [s18]) v10 L18 B8 (by omega) (by simp;omega) (by omega) ?_
     intro st9 h9 m9 hk9 hm9 bx9 B9
     simp at hk9
     have t0:=bx9 0 _ _ (by omega) v0
     have t1:=bx9 1 _ _ (by omega) v1
     have t10:=bx9 k10 _ _ (by omega) v10
     rw [v0] at t0
     rw [v1] at t1
     rw [v10] at t10
     have hw2:IntKind.i64.wrap (nE+1)=nE+1:=by rw [←hq];exact hw'
     simp [hk9,hk8,hq,x12,hw2]
     exact hR _ _ _ (by simp [hk9,hk8,hk7,hk6,hk5,hk4,hk3,hk2,hk1,hk]) (by simp [←hq]) ⟨by omega,t0,t1,t10,_,by simp;omega,by simpa using B9,hJ⟩
   ·rw [if_neg hq] at hKd
    subst hKd
    have hrk:rk1 p md ⟨a,b⟩ Ls nE i=[some ⟨md.System,t⟩]:=by unfold rk1;rw [if_neg hq,hobd]
    rw [hrk] at hJ
    simp only [List.cons_append,List.nil_append,goO] at hJ
    simp [x12,x3,hq,hw']
    exact hR _ _ _ (by simp [hk7,hk6,hk5,hk4,hk3,hk2,hk1,hk]) (by simp) ⟨by omega,u0,u1,u10,_,by simp;omega,by simpa using B7,hJ⟩
 ·rintro st h1 m1 R hk s12 ⟨hm1,e0,e1,e10,acc,hal,B,hJ⟩ hrt hX
  simp at hk
  rw [List.drop_eq_nil_of_le (by simp)] at hJ
  simp only [List.flatMap_nil,goO] at hJ
  refine J0b (J0i [11] (fun s=>s 27 = .bool false) (by simp [hk,s12,s3];omega) ?_)
  intro st1 hk1 s27
  simp at hk1
  refine J29 s27 ?_
  refine hX _ _ _ _ ?_
  simp
  exact hK _ _ _ acc (by omega) (by simpa [hk1] using B) hJ
end
theorem Jpn {p:DProgram}{Ls:List (List DLin)}{a b:Nat}{nE:Int}(E:EdgeS p Ls a b nE):Holds Tryz.prog 123 [.agg (J00 p),.sl 1 (Ls.map J2x),.agg (J0q ⟨a,b⟩),i64 nE] (fun r=>∃ o:List DObligation,r = .tup [.us 4 (o.map J0d),.bool (goO [] (rkE p Ls ⟨a,b⟩ nE)).isSome]∧o.length≤6∧∀ y,goO [] (rkE p Ls ⟨a,b⟩ nE)=some y→o=y):=by
 obtain ⟨f,hff,_⟩:=Jb8 E.hpo (List.getElem_mem E.ha)
 have hmd:J66 (p.Rules[a]'E.ha) (Jm5 p (p.Rules[a]'E.ha))=Jdt p ⟨a,b⟩:=by
  have:=K4l E.hpo E.ha hff
  have hfa:Jm5 p (p.Rules[a]'E.ha)=f:=by unfold Jm5;rw [hff];rfl
  rw [hfa,←this];rfl
 refine J03 Tryz.func123 a123_ok rfl (by simp [a123]) ?_
 simp [a123,le0,le1,J0q]
 refine J9f (Jlh p E.hp E.hpo E.ha) (by simp) ?_
 rintro _ rfl
 rw [hmd]
 generalize hF:goO [] (rkE p Ls ⟨a,b⟩ nE)=F
 have hEF:=hF
 simp [le2]
 refine K0r (k10:=2) (F:=F) E (by simp) (by simp) (by simp) (by simp) (by simp) (by omega) (by omega) (by simp) (by simp [J0q]) (by simp) (.inr ⟨3,by omega,by omega,by simp,by simp⟩) hF ?_ ?_
 ·intro hno s' h' n' acc hal B s9
  obtain ⟨h2,hd,_⟩:=B.dt
  subst hno
  simp [s9,hd]
  exact ⟨acc,rfl,hal⟩
 ·intro s' h' n' acc hal B hs
  obtain ⟨h2,hd,_⟩:=B.dt
  subst hs
  simp [le4,hd]
  exact hal
def lq0:AC:=(.reg [Zo 2 (.boxv (.t 0)),Zo 3 (.boxv (.t 1)),Zo 4 (.mv (.k (.nil 4))),Zo 5 (.mv (.k (.bool false)))])
def lq1:AC:=(.seq (.reg [Zl 11 true 2 2,Zl 12 true 2 3,Zc 13 121 [.t 11,.t 12],Zo 14 (.un .not (.t 13))]) (.cond (.t 14) (.seq (.reg [Zo 15 (.bsl 4 []),Zv 4 15,Zo 5 (.mv (.k (.bool false)))]) .ret) .skip))
def lq2:AC:=(.reg [Zo 16 (.bsl 4 []),Zv 6 16])
def lq3:AC:=(.reg [Zl 17 true 2 2,Zc 18 122 [.t 17],Zv 7 18])
def lqd:AC:=(.draw (.op (Zl 26 true 2 2) (.op (Zf 27 0 3) (.op (Zl 28 false 1 27) (.op (Zv 29 7) (.op (Zv 30 8) (.op (Zo 31 (.ixa 2 (.t 29) (.t 30))) (.op (Zl 32 true 2 31) (.op (Zf 33 1 3) (.op (Zl 34 false 1 33) (.op (Zv 35 8) (.op (Zo 36 (.ixa 1 (.t 34) (.t 35))) (.op (Zl 37 false 1 36) (.op (Zc 38 123 [.t 26,.t 28,.t 32,.t 37]) (.op (Zv 25 38) (.op (Zo 39 (.ext (.t 25) 0)) (.op (Zo 40 (.ext (.t 25) 1)) (.op (Zv 9 39) (.op (Zv 10 40) .fin)))))))))))))))))))
def lq4:AC:=(.seq (.reg [Zo 8 (.mv (.k (.int .i64 0)))]) (.blk 0 (.loop (.seq (.seq (.reg [Zv 19 8,Zv 20 7,Zo 21 (.len false (.t 20)),Zo 22 (.bin .lss (.t 19) (.t 21))]) (.cond (.t 22) .skip (.exit 0))) (.seq (.blk 1 (.seq lqd (.seq (.seq (.reg [Zv 41 10,Zo 42 (.un .not (.t 41))]) (.cond (.t 42) (.seq (.reg [Zo 43 (.bsl 4 []),Zv 4 43,Zo 5 (.mv (.k (.bool false)))]) .ret) .skip)) (.reg [Zv 44 6,Zv 45 9,Zo 46 (.app 64 4 (.t 44) (.t 45)),Zv 6 46])))) (.reg [Zv 23 8,Zo 24 (.bin .add (.t 23) (.k (.int .i64 1))),Zv 8 24]))))))
def lq5:AC:=(.reg [Zv 47 6,Zv 4 47,Zo 5 (.mv (.k (.bool true)))])
def a49:AFn:=⟨48,[.t 4,.t 5],(.seq lq0 (.seq lq1 (.seq lq2 (.seq lq3 (.seq lq4 (.seq lq5 .ret))))))⟩
theorem a49_ok:J06 Tryz.prog Tryz.f49=some a49:=by kernel_rfl
theorem Ju4 {p:DProgram}{x:DRanking}{a b i0:Nat}(hp:J0k p≤1048576) (E:EdgeAt p x a b i0):EdgeS p x.Levels a b (x.Edges[i0]'E.he):=⟨hp,E.hpo,E.ha,E.hb,E.hf,E.hg,E.hn,E.hL,E.lv⟩
section
variable {ks:List Kt}{s:Env}{h h':Heap}{n:Nat}{Q:Fin}
theorem Jzb {p:DProgram}(hp:J0k p≤1048576) {x:DRanking}(hR:Jct p x=true) {F:Option (List DObligation)}(hn:3<n) (s2:s 2 = .ptr 0 0 0) (s3:s 3 = .ptr 1 0 0) (s7:s 7 = .ref 3 0 (J0h p).length) (B0:J41 1 4 [] (s 6) h n) (e0:h 0=some ⟨true,2,[J00 p]⟩) (e1:h 1=some ⟨true,2,[J0e x]⟩) (e3:h 3=some ⟨false,2,(J0h p).map J1y⟩) (hF:goO [] (J9q p x)=F)
 (hret:F=Option.none→∀ s' h' n' k,s' 4 = .ref k 0 0→h' k=some ⟨false,4,[]⟩→s' 5 = .bool false→J2u Tryz.prog ks .ret s' h' n' Q)
 (hK:∀ s' h' n' acc,J41 1 4 (acc.map J0d) (s' 6) h' n'→some acc=F→J2u Tryz.prog ks .normal s' h' n' Q):rC Tryz.prog lq4 ks s h n Q:=by
 have h16:=Jb7 (p:=p)
 obtain ⟨hpo,hL,hE,_,_⟩:=Jfh hR
 simp [lq4]
 refine J0l [2,3,7] 8 (J0h p).length (fun i s h m=>3<m∧h 0=some ⟨true,2,[J00 p]⟩∧h 1=some ⟨true,2,[J0e x]⟩∧h 3=some ⟨false,2,(J0h p).map J1y⟩∧∃ acc,acc.length≤6*i∧J41 1 4 (acc.map J0d) (s 6) h m∧goO acc (Jkp p x i)=F) (by unfold LIM;omega) (by simp) ⟨hn,e0,e1,e3,[],by simp,by simpa using B0,by simpa [Jkp,J9q] using hF⟩ ?_ ?_
 ·rintro i st h m R hi hg hk s8 hw' ⟨m1,e0,e1,e3,acc,hal,B,hJ⟩ hRr hrt _
  simp at hk
  unfold Jkp at hJ
  rw [Jhd hi hE] at hJ
  obtain ⟨a,b,hab,E⟩:=Jk8 hR hi
  rw [hab] at hJ
  have hie:=E.he
  refine J0b (J0i [2,3,6,7,8] (fun s=>s 22 = .bool true) (by simp [hk,s8,s7,hi,e3]) ?_)
  intro st1 hk1 s22
  simp at hk1
  refine J25 s22 (J0b (J1h ?_))
  generalize hG:goO [] (rkE p x.Levels ⟨a,b⟩ x.Edges[i])=G
  refine J1n [2,3,6,7,8] (fun s h2 n2=>(∀ id,id<m→h2 id=h id)∧s 10 = .bool G.isSome∧∃ o:List DObligation,J41 1 4 (o.map J0d) (s 9) h2 n2∧(∀ j l,s 9 = .ref j 0 l→m≤j)∧m≤n2∧o.length≤6∧∀ y,G=some y→o=y) ?_ ?_
  ·simp [lqd,hk1,hk,s2,s3,s7,s8,e0,e1,e3,hi,hab,hie,J1y,J0e]
   refine J01 (Jpn (Ju4 hp E)) (by simp [J0q]) ?_
   rintro r ⟨o,rfl,ho,hy⟩
   simp
   refine ⟨fun id hid e=>by omega,by rw [hG],o,.inr ⟨m,by omega,by omega,by simp,by simp⟩,ho,fun y e=>hy y (by rw [hG];exact e)⟩
  rintro st2 h2 n2 hk2 ⟨hf2,s10,o,Bo,Bm,hn2,ho,hoy⟩
  simp at hk2
  have c0:h2 0=some ⟨true,2,[J00 p]⟩:=by rw [hf2 0 (by omega),e0]
  have c1:h2 1=some ⟨true,2,[J0e x]⟩:=by rw [hf2 1 (by omega),e1]
  have c3:h2 3=some ⟨false,2,(J0h p).map J1y⟩:=by rw [hf2 3 (by omega),e3]
  have B2:J41 1 4 (acc.map J0d) (st2 6) h2 n2:=by
   rw [hk2.2.2.1,hk1.2.2.1]
   exact B.keep hn2 fun id _ hid _=>hf2 id hid
  rw [Jxx,Jg4] at hJ
  change ((goO [] (rkE p x.Levels ⟨a,b⟩ x.Edges[i])).map _).bind _=F at hJ
  rw [hG] at hJ
  cases G with
  | none=>
   simp at hJ
   simp [s10]
   exact hrt _ _ _ (hret hJ.symm _ _ _ n2 (by simp) (by simp) (by simp))
  | some y=>
   have:=hoy y rfl
   subst this
   simp at hJ
   simp [s10]
   refine Jk7 B2 Bo ?_ (by simp;unfold LIM;omega) ?_
   ·intro j k l e1 e2
    have g1:=B.lt (i:=j) (k:=k) (by rw [←hk1.2.2.1,←hk2.2.2.1];exact e1)
    have g2:=Bm _ _ e2
    omega
   intro h3 hn3 hf3
   have bx0:∀ id z rows,h2 id=some ⟨true,z,rows⟩→id<n2→h3 id=h2 id:=fun id z rows e hid=>hf3 id (by omega) (fun l e'=>B2.not_box e e') (fun l e'=>Bo.not_box e e')
   have bx3:h3 3=h2 3:=by
    refine hf3 3 (by omega) (fun l e' => ?_) (fun l e' => ?_)
    ·have g:=(B2.lt e').2.2.1
     rw [c3] at g
     simp at g
    ·have g:=Bm _ _ e'
     omega
   have d0:h3 0=some ⟨true,2,[J00 p]⟩:=by rw [bx0 0 _ _ c0 (by omega),c0]
   have d1:h3 1=some ⟨true,2,[J0e x]⟩:=by rw [bx0 1 _ _ c1 (by omega),c1]
   have d3:h3 3=some ⟨false,2,(J0h p).map J1y⟩:=by rw [bx3,c3]
   simp [hk2,hk1,s8,hw']
   exact hRr _ _ _ (by simp [hk2,hk1,hk]) (by simp) ⟨by omega,d0,d1,d3,acc++o,by simp;omega,.inr ⟨n2,by omega,by omega,by simp,by simpa using hn3⟩,hJ⟩
 ·rintro st h m R hk s8 ⟨m1,e0,e1,e3,acc,hal,B,hJ⟩ hrt hX
  simp at hk
  unfold Jkp at hJ
  rw [List.drop_eq_nil_of_le (by simp;omega)] at hJ
  simp only [List.flatMap_nil,goO] at hJ
  refine J0b (J0i [6] (fun s=>s 22 = .bool false) (by simp [hk,s8,s7,e3]) ?_)
  intro st1 hk1 s22
  simp at hk1
  refine J29 s22 ?_
  refine hX _ _ _ _ ?_
  simp
  exact hK _ _ _ acc (by rw [hk1];exact B) hJ
end
theorem J7t (p:DProgram) (hp:J0k p≤1048576) (x:DRanking):Holds Tryz.prog 49 [.agg (J00 p),.agg (J0e x)] (fun r=>r = .tup [.us 4 (((J2l p x).getD []).map J0d),.bool (J2l p x).isSome]):=by
 refine J03 Tryz.func49 a49_ok rfl (by simp [a49]) ?_
 simp [a49,lq0,lq1]
 first|refine J01 (Jhl p hp x) (by first|simp;done|rfl) ?_|refine J02 (Jhl p hp x) (by first|simp;done|rfl) ?_
 rintro r rfl
 generalize hO:J2l p x=O
 unfold J2l at hO
 cases hB:Jct p x
 ·rw [hB] at hO
  simp at hO
  subst hO
  simp
 rw [hB,if_pos rfl] at hO
 simp [lq2,lq3]
 first|refine J01 (J7b p hp) (by first|simp;done|rfl) ?_|refine J02 (J7b p hp) (by first|simp;done|rfl) ?_
 rintro r rfl
 simp
 refine Jzb hp hB (by omega) (by simp) (by simp) (by simp) (.inr ⟨2,by omega,by omega,by simp,by simp⟩) (by simp) (by simp) (by simp) hO ?_ ?_
 ·intro hno s' h' n' k x4 hk4 x5
  subst hno
  simp [x4,x5,hk4]
 ·intro s' h' n' acc B hs
  obtain ⟨h2,hd,_⟩:=B.dt
  rw [←hs]
  simp [lq5,hd]
def a156:AFn:= ⟨20,[.t 2],(.seq (.reg [Zo 2 (.mv (.k (.str [])))]) (.seq (.seq (.reg [Zv 4 0,Zo 5 (.bin .leq (.t 4) (.k (.int .i64 0)))]) (.cond (.t 5) (.seq (.reg [Zo 2 (.mv (.k (.str [109,48])))]) .ret) .skip)) (.seq (.reg [Zo 3 (.mv (.k (.str [])))]) (.seq (.blk 0 (.loop (.seq (.seq (.reg [Zv 6 0,Zo 7 (.bin .gtr (.t 6) (.k (.int .i64 0)))]) (.cond (.t 7) .skip (.exit 0))) (.blk 1 (.seq (.reg [Zv 8 0,Zo 9 (.bin .rem (.t 8) (.k (.int .i64 10))),Zo 10 (.bin .add (.k (.int .i64 48)) (.t 9)),Zo 11 (.cvi .u8 (.t 10)),Zo 12 (.bsl 1 [.t 11]),Zo 13 (.cvb (.t 12)),Zv 14 3,Zo 15 (.bin .add (.t 13) (.t 14)),Zv 3 15]) (.reg [Zv 16 0,Zo 17 (.bin .quo (.t 16) (.k (.int .i64 10))),Zv 0 17])))))) (.seq (.reg [Zv 18 3,Zo 19 (.bin .add (.k (.str [109])) (.t 18)),Zv 2 19]) .ret)))))⟩
theorem a156_ok:J06 Tryz.prog Tryz.f156=some a156:=by kernel_rfl
theorem Jz2 {n:Nat}(h:¬n=0):dig n=dig (n / 10)++[UInt8.ofNat (48+n % 10)]:=by
 rw [dig];simp [h]
theorem Jup:dig 0=[]:=by rw [dig];simp
theorem J1s (k:Int) (h0:0≤k∧k≤4611686018427387904):Holds Tryz.prog 156 [i64 k] (fun r=>r = .str (mtx k)):=by
 refine J03 Tryz.func156 a156_ok rfl (by simp [a156]) ?_
 simp [a156]
 refine ⟨fun h1=>by simp [h1,mtx],fun h1 => ?_⟩
 refine Jd6 (fun j s h n=>∃ (l:List UInt8),s 0=i64 j∧s 3 = .str l∧dig j++l=dig k.toNat∧l.length≤20∧j*10 ^ (l.length)≤4611686018427387904) k.toNat ⟨[],by simp;rw [Int.max_eq_left h0.1],by simp,by simp,by simp,by simp;omega⟩ ?_
 rintro j s h n ⟨l,s0,s3,hd,hl,hb⟩
 by_cases hj:j=0
 ·subst hj
  rw [Jup,List.nil_append] at hd
  simp [s0,s3]
  refine ⟨by unfold LIM;omega,?_⟩
  rw [hd,mtx,if_neg (by omega)]
 ·have hj':0<j:=by omega
  simp [s0,s3,hj']
  have hj2:j≤4611686018427387904:=Nat.le_trans (Nat.le_mul_of_pos_right j (Nat.pow_pos (by decide))) hb
  have e1:((j:Int)).tmod 10=((j % 10:Nat):Int):=rfl
  rw [e1,J0r (by omega)]
  have e2:IntKind.u8.wrap (48+((j % 10:Nat):Int))=((48+j % 10:Nat):Int):=by
   have:48+j % 10<256:=by omega
   unfold IntKind.wrap
   simp [IntKind.bits,IntKind.signed]
   omega
  rw [e2]
  simp [bytesOf]
  have hl20:l.length<20:=by
   apply Classical.byContradiction
   intro hc
   have h20:l.length=20:=by omega
   rw [h20] at hb
   omega
  refine ⟨by unfold LIM;omega,j / 10,by omega,by rw [J0r (by omega)];omega,?_,by omega,?_⟩
  ·have e3:UInt8.ofNat (48+(j:Int) % 10).toNat=UInt8.ofNat (48+j % 10):=by congr 1
   rw [←hd,Jz2 hj];simp [e3]
  ·rw [Nat.add_comm,Nat.pow_succ]
   refine Nat.le_trans ?_ hb
   rw [Nat.mul_comm (10 ^ l.length) 10,←Nat.mul_assoc]
   exact Nat.mul_le_mul_right _ (by omega)
def a88:AFn:= ⟨19,[.t 4],(.seq (.reg [Zo 4 (.mv (.k (.int .i64 0)))]) (.seq (.seq (.reg [Zo 5 (.mv (.k (.int .i64 0)))]) (.blk 0 (.loop (.seq (.seq (.reg [Zv 6 5,Zv 7 0,Zo 8 (.len false (.t 7)),Zo 9 (.bin .lss (.t 6) (.t 8))]) (.cond (.t 9) .skip (.exit 0))) (.seq (.blk 1 (.seq (.reg [Zv 12 0,Zv 13 5,Zv 14 1,Zo 15 (.ixa 1 (.t 12) (.t 13)),⟨no,.st 1 (.t 15) (.t 14),no⟩]) (.reg [Zv 16 1,Zo 17 (.bin .add (.t 16) (.k (.int .i64 1))),Zv 1 17]))) (.reg [Zv 10 5,Zo 11 (.bin .add (.t 10) (.k (.int .i64 1))),Zv 5 11])))))) (.seq (.reg [Zv 18 1,Zv 4 18]) .ret)))⟩
theorem a88_ok:J06 Tryz.prog Tryz.f88=some a88:=by kernel_rfl
def a110:AFn:= ⟨21,[.t 4],(.seq (.reg [Zo 4 (.mv (.k (.int .i64 0)))]) (.seq (.seq (.reg [Zo 5 (.mv (.k (.int .i64 0)))]) (.blk 0 (.loop (.seq (.seq (.reg [Zv 6 5,Zv 7 0,Zo 8 (.len false (.t 7)),Zo 9 (.bin .lss (.t 6) (.t 8))]) (.cond (.t 9) .skip (.exit 0))) (.seq (.blk 1 (.seq (.seq (.reg [Zv 12 0,Zv 13 5,Zo 14 (.ixa 1 (.t 12) (.t 13)),Zl 15 false 1 14,Zv 16 1,Zo 17 (.bin .neq (.t 15) (.t 16))]) (.cond (.t 17) (.seq (.reg [Zo 4 (.mv (.k (.int .i64 (-1))))]) .ret) .skip)) (.reg [Zv 18 1,Zo 19 (.bin .add (.t 18) (.k (.int .i64 1))),Zv 1 19]))) (.reg [Zv 10 5,Zo 11 (.bin .add (.t 10) (.k (.int .i64 1))),Zv 5 11])))))) (.seq (.reg [Zv 20 1,Zv 4 20]) .ret)))⟩
theorem a110_ok:J06 Tryz.prog Tryz.f110=some a110:=by kernel_rfl
def a108:AFn:= ⟨27,[.t 4],(.seq (.reg [Zo 4 (.mv (.k (.int .i64 0)))]) (.seq (.seq (.reg [Zo 5 (.mv (.k (.int .i64 0)))]) (.blk 0 (.loop (.seq (.seq (.reg [Zv 6 5,Zv 7 0,Zo 8 (.len false (.t 7)),Zo 9 (.bin .lss (.t 6) (.t 8))]) (.cond (.t 9) .skip (.exit 0))) (.seq (.blk 1 (.seq (.reg [Zv 12 0,Zv 13 5,Zv 14 1,Zo 15 (.ixa 2 (.t 12) (.t 13)),Zf 16 0 15,⟨no,.st 1 (.t 16) (.t 14),no⟩]) (.seq (.reg [Zv 17 1,Zo 18 (.bin .add (.t 17) (.k (.int .i64 1))),Zv 1 18]) (.reg [Zv 19 0,Zv 20 5,Zo 21 (.ixa 2 (.t 19) (.t 20)),Zf 22 1 21,Zl 23 false 1 22,Zv 24 1,Zc 25 88 [.t 23,.t 24],Zv 1 25])))) (.reg [Zv 10 5,Zo 11 (.bin .add (.t 10) (.k (.int .i64 1))),Zv 5 11])))))) (.seq (.reg [Zv 26 1,Zv 4 26]) .ret)))⟩
theorem a108_ok:J06 Tryz.prog Tryz.f108=some a108:=by kernel_rfl
def a109:AFn:= ⟨31,[.t 4],(.seq (.reg [Zo 4 (.mv (.k (.int .i64 0)))]) (.seq (.seq (.reg [Zo 5 (.mv (.k (.int .i64 0)))]) (.blk 0 (.loop (.seq (.seq (.reg [Zv 6 5,Zv 7 0,Zo 8 (.len false (.t 7)),Zo 9 (.bin .lss (.t 6) (.t 8))]) (.cond (.t 9) .skip (.exit 0))) (.seq (.blk 1 (.seq (.seq (.reg [Zv 12 0,Zv 13 5,Zo 14 (.ixa 2 (.t 12) (.t 13)),Zf 15 0 14,Zl 16 false 1 15,Zv 17 1,Zo 18 (.bin .neq (.t 16) (.t 17))]) (.cond (.t 18) (.seq (.reg [Zo 4 (.mv (.k (.int .i64 (-1))))]) .ret) .skip)) (.seq (.reg [Zv 19 1,Zo 20 (.bin .add (.t 19) (.k (.int .i64 1))),Zv 1 20]) (.seq (.reg [Zv 21 0,Zv 22 5,Zo 23 (.ixa 2 (.t 21) (.t 22)),Zf 24 1 23,Zl 25 false 1 24,Zv 26 1,Zc 27 110 [.t 25,.t 26],Zv 1 27]) (.seq (.reg [Zv 28 1,Zo 29 (.bin .lss (.t 28) (.k (.int .i64 0)))]) (.cond (.t 29) (.seq (.reg [Zo 4 (.mv (.k (.int .i64 (-1))))]) .ret) .skip)))))) (.reg [Zv 10 5,Zo 11 (.bin .add (.t 10) (.k (.int .i64 1))),Zv 5 11])))))) (.seq (.reg [Zv 30 1,Zv 4 30]) .ret)))⟩
theorem a109_ok:J06 Tryz.prog Tryz.f109=some a109:=by kernel_rfl
def a78:AFn:= ⟨20,[.t 4],(.seq (.reg [Zo 4 (.mv (.k (.int .i64 0)))]) (.seq (.seq (.reg [Zo 5 (.mv (.k (.int .i64 0)))]) (.blk 0 (.loop (.seq (.seq (.reg [Zv 6 5,Zv 7 0,Zo 8 (.len false (.t 7)),Zo 9 (.bin .lss (.t 6) (.t 8))]) (.cond (.t 9) .skip (.exit 0))) (.seq (.blk 1 (.seq (.reg [Zv 12 0,Zv 13 5,Zv 14 1,Zc 15 156 [.t 14],Zo 16 (.ixa 1 (.t 12) (.t 13)),⟨no,.st 1 (.t 16) (.t 15),no⟩]) (.reg [Zv 17 1,Zo 18 (.bin .add (.t 17) (.k (.int .i64 1))),Zv 1 18]))) (.reg [Zv 10 5,Zo 11 (.bin .add (.t 10) (.k (.int .i64 1))),Zv 5 11])))))) (.seq (.reg [Zv 19 1,Zv 4 19]) .ret)))⟩
theorem a78_ok:J06 Tryz.prog Tryz.f78=some a78:=by kernel_rfl
def a37:AFn:= ⟨45,[.t 4],(.seq (.reg [Zo 4 (.mv (.k (.int .i64 0)))]) (.seq (.seq (.reg [Zo 5 (.mv (.k (.int .i64 0)))]) (.blk 0 (.loop (.seq (.seq (.reg [Zv 6 5,Zv 7 0,Zo 8 (.len false (.t 7)),Zo 9 (.bin .lss (.t 6) (.t 8))]) (.cond (.t 9) .skip (.exit 0))) (.seq (.blk 1 (.seq (.reg [Zv 12 0,Zv 13 5,Zv 14 1,Zo 15 (.ixa 4 (.t 12) (.t 13)),Zf 16 0 15,Zf 17 0 16,⟨no,.st 1 (.t 17) (.t 14),no⟩]) (.seq (.reg [Zv 18 1,Zo 19 (.bin .add (.t 18) (.k (.int .i64 1))),Zv 1 19]) (.seq (.reg [Zv 20 0,Zv 21 5,Zo 22 (.ixa 4 (.t 20) (.t 21)),Zf 23 0 22,Zf 24 1 23,Zl 25 false 1 24,Zv 26 1,Zc 27 108 [.t 25,.t 26],Zv 1 27]) (.seq (.reg [Zv 28 0,Zv 29 5,Zv 30 1,Zo 31 (.ixa 4 (.t 28) (.t 29)),Zf 32 2 31,Zf 33 0 32,⟨no,.st 1 (.t 33) (.t 30),no⟩]) (.seq (.reg [Zv 34 1,Zo 35 (.bin .add (.t 34) (.k (.int .i64 1))),Zv 1 35]) (.reg [Zv 36 0,Zv 37 5,Zo 38 (.ixa 4 (.t 36) (.t 37)),Zf 39 2 38,Zf 40 1 39,Zl 41 false 1 40,Zv 42 1,Zc 43 88 [.t 41,.t 42],Zv 1 43]))))))) (.reg [Zv 10 5,Zo 11 (.bin .add (.t 10) (.k (.int .i64 1))),Zv 5 11])))))) (.seq (.reg [Zv 44 1,Zv 4 44]) .ret)))⟩
theorem a37_ok:J06 Tryz.prog Tryz.f37=some a37:=by kernel_rfl
def a38:AFn:= ⟨53,[.t 4],(.seq (.reg [Zo 4 (.mv (.k (.int .i64 0)))]) (.seq (.seq (.reg [Zo 5 (.mv (.k (.int .i64 0)))]) (.blk 0 (.loop (.seq (.seq (.reg [Zv 6 5,Zv 7 0,Zo 8 (.len false (.t 7)),Zo 9 (.bin .lss (.t 6) (.t 8))]) (.cond (.t 9) .skip (.exit 0))) (.seq (.blk 1 (.seq (.seq (.reg [Zv 12 0,Zv 13 5,Zo 14 (.ixa 4 (.t 12) (.t 13)),Zf 15 0 14,Zf 16 0 15,Zl 17 false 1 16,Zv 18 1,Zo 19 (.bin .neq (.t 17) (.t 18))]) (.cond (.t 19) (.seq (.reg [Zo 4 (.mv (.k (.int .i64 (-1))))]) .ret) .skip)) (.seq (.reg [Zv 20 1,Zo 21 (.bin .add (.t 20) (.k (.int .i64 1))),Zv 1 21]) (.seq (.reg [Zv 22 0,Zv 23 5,Zo 24 (.ixa 4 (.t 22) (.t 23)),Zf 25 0 24,Zf 26 1 25,Zl 27 false 1 26,Zv 28 1,Zc 29 109 [.t 27,.t 28],Zv 1 29]) (.seq (.seq (.reg [Zv 30 1,Zo 31 (.bin .lss (.t 30) (.k (.int .i64 0)))]) (.cond (.t 31) (.seq (.reg [Zo 4 (.mv (.k (.int .i64 (-1))))]) .ret) .skip)) (.seq (.seq (.reg [Zv 32 0,Zv 33 5,Zo 34 (.ixa 4 (.t 32) (.t 33)),Zf 35 2 34,Zf 36 0 35,Zl 37 false 1 36,Zv 38 1,Zo 39 (.bin .neq (.t 37) (.t 38))]) (.cond (.t 39) (.seq (.reg [Zo 4 (.mv (.k (.int .i64 (-1))))]) .ret) .skip)) (.seq (.reg [Zv 40 1,Zo 41 (.bin .add (.t 40) (.k (.int .i64 1))),Zv 1 41]) (.seq (.reg [Zv 42 0,Zv 43 5,Zo 44 (.ixa 4 (.t 42) (.t 43)),Zf 45 2 44,Zf 46 1 45,Zl 47 false 1 46,Zv 48 1,Zc 49 110 [.t 47,.t 48],Zv 1 49]) (.seq (.reg [Zv 50 1,Zo 51 (.bin .lss (.t 50) (.k (.int .i64 0)))]) (.cond (.t 51) (.seq (.reg [Zo 4 (.mv (.k (.int .i64 (-1))))]) .ret) .skip)))))))))) (.reg [Zv 10 5,Zo 11 (.bin .add (.t 10) (.k (.int .i64 1))),Zv 5 11])))))) (.seq (.reg [Zv 52 1,Zv 4 52]) .ret)))⟩
theorem a38_ok:J06 Tryz.prog Tryz.f38=some a38:=by kernel_rfl
set_option maxHeartbeats 1000000 in
theorem Jcw (l:List Int) (k:Int) (h0:0≤k∧k+Jc8 l≤4611686018427387904):J9d Tryz.prog 88 (.us 1 (J0m l)) k (.us 1 (J0m (Jew l k))) (k+Jc8 l):=by
 intro h n a I K hT hI hn hK
 obtain ⟨id,rows0,I0,rfl,_,hB,_⟩:=Jci hT
 simp only [J0m,List.length_map] at hT hB hK ⊢
 refine J4i Tryz.func88 rfl rfl (by rw [hB];simp) fun hlim => ?_
 refine J17 Tryz.func88 a88_ok rfl (by simp [a88]) ?_
 simp [a88]
 unfold Jc8 at *
 refine J0l [0] 5 l.length (fun i s h1 n1=>MJ (fun _ k=>k) (fun _=>1) (fun n=>[i64 n]) 1 h n id I l k i (s 1) h1 n1) hlim (by simp) (by simpa using MJ.start hT) ?_ ?_
 ·rintro i s h1 n1 R hi hg hk s5 hw hJ hR hret _
  simp at hk
  obtain ⟨x,ki,rows,cells,I2,s1,hki,hki2,hlen,hc0,hnd,hI2,hstart,hclose⟩:=hJ.step2 hI hn hi
  obtain ⟨_,rfl,hc1⟩:=J6v.1 hc0
  obtain ⟨rfl,rfl⟩:=J2t.1 hc1
  have S:=hstart _ Kids.nil
  have e:=S.e
  have w0:IntKind.i64.wrap (ki+1)=ki+1:=J0r (by omega)
  simp [hk,s5,hi,hw,s1,e,hlen,w0]
  intro _
  refine hR _ _ _ (by simp [hk]) (by simp) (hclose _ _ [.int .i64 (ki)] _ _ S.store (J6v.2 ⟨_,rfl,(J2t.2 ⟨rfl,rfl⟩)⟩) (by simp [i64];try omega))
 ·rintro s h1 n1 R hk s5 hJ hret hX
  simp at hk
  obtain ⟨s1,hn1,hf,ht⟩:=hJ.fin
  simp [hk,s5,s1]
  refine ⟨J6x ht,fun _ => ?_⟩
  refine hX _ _ _ _ ?_
  simp [hk,s5,s1]
  exact hK _ _ hn1 hf ht
set_option maxHeartbeats 1000000 in
theorem Jaa (l:List Int) (k:Int) (h0:0≤k∧k+Jc8 l≤4611686018427387904):Holds Tryz.prog 110 [.sl 1 (J0m (Jew l k)),i64 k] (fun r=>r=i64 (k+Jc8 l)):=by
 refine J1l Tryz.func110 rfl rfl fun hlim => ?_
 simp at hlim
 generalize hM:Jew l k=M at *
 refine J03 Tryz.func110 a110_ok rfl (by simp [a110]) ?_
 simp [a110]
 unfold Jc8 at *
 refine J0l [0] 5 M.length (fun i s h1 n1=>HJ (fun _ k=>k) (fun _=>1) M l k i (s 1)) hlim (by simp) (by rw [←hM];simp;exact HJ.start) ?_ ?_
 ·rintro i s h1 n1 R hi hg hk s5 hw hJ hR hret _
  simp at hk
  obtain ⟨x,ki,s1,hki,hki2,hx,hclose⟩:=hJ.step hi
  have w0:IntKind.i64.wrap (ki+1)=ki+1:=J0r (by omega)
  simp [hk,s5,hi,hw,s1,hx,w0]
  intro _
  first|done|refine hR _ _ _ (by simp [hk]) (by simp) (hclose _ (by simp [i64];try omega))
 ·rintro s h1 n1 R hk s5 hJ hret hX
  simp at hk
  have s1:=hJ.fin (Nat.le_refl _)
  simp [hk,s5,s1]
  first|refine hX _ _ _ _ ?_|(intro _;refine hX _ _ _ _ ?_)
  simp [hk,s5,s1]
set_option maxHeartbeats 1000000 in
theorem Jd7 (l:List DLin) (k:Int) (h0:0≤k∧k+J6m l≤4611686018427387904):J9d Tryz.prog 108 (.us 2 (l.map J08)) k (.us 2 ((Jf3 l k).map J08)) (k+J6m l):=by
 intro h n a I K hT hI hn hK
 obtain ⟨id,rows0,I0,rfl,_,hB,_⟩:=Jci hT
 simp only [List.length_map] at hT hB hK ⊢
 refine J4i Tryz.func108 rfl rfl (by rw [hB];simp) fun hlim => ?_
 refine J17 Tryz.func108 a108_ok rfl (by simp [a108]) ?_
 simp [a108]
 unfold J6m at *
 refine J0l [0] 5 l.length (fun i s h1 n1=>MJ Jdx Jfq J08 2 h n id I l k i (s 1) h1 n1) hlim (by simp) (by simpa using MJ.start hT) ?_ ?_
 ·rintro i s h1 n1 R hi hg hk s5 hw hJ hR hret _
  simp at hk
  obtain ⟨x,ki,rows,cells,I2,s1,hki,hki2,hlen,hc0,hnd,hI2,hstart,hclose⟩:=hJ.step2 hI hn hi
  simp only [J08] at hc0
  simp only [Jfq] at hki2
  obtain ⟨_,rfl,hc1⟩:=J6v.1 hc0
  obtain ⟨d1,len1,_,J1,_,rfl,rfl,hl1,ht1,hc2⟩:=J6p hc1
  have hq1:len1=(x.Coeffs).length:=by simpa using hl1
  subst hq1
  obtain ⟨rfl,rfl⟩:=J2t.1 hc2
  have S:=hstart _ (Kids.cons ht1 hnd hI2 fun hnd hI2=>Kids.nil)
  have e:=S.e
  have w0:IntKind.i64.wrap (ki+1)=ki+1:=J0r (by omega)
  simp [hk,s5,hi,hw,s1,e,hlen,w0]
  intro _
  refine RS.mark (T1:=[]) (Jcw _ _ (by omega)) S.store ?_
  clear S e
  intro h2 n2 S
  have e:=S.e
  simp [hk,s5,hi,hw,s1,e,hlen,w0]
  refine hR _ _ _ (by simp [hk]) (by simp) (hclose _ _ [.int .i64 (ki),.ref d1 0 (x.Coeffs).length] _ _ S (J6v.2 ⟨_,rfl,(J3t (S.live.ids (_,.ref d1 0 _,J1) (by simp [Jdx])).1 (J2t.2 ⟨rfl,rfl⟩))⟩) (by simp [i64,Jfq];try omega))
 ·rintro s h1 n1 R hk s5 hJ hret hX
  simp at hk
  obtain ⟨s1,hn1,hf,ht⟩:=hJ.fin
  simp [hk,s5,s1]
  refine ⟨J6x ht,fun _ => ?_⟩
  refine hX _ _ _ _ ?_
  simp [hk,s5,s1]
  exact hK _ _ hn1 hf ht
set_option maxHeartbeats 1000000 in
theorem Ji3 (l:List DLin) (k:Int) (h0:0≤k∧k+J6m l≤4611686018427387904):Holds Tryz.prog 109 [.sl 2 ((Jf3 l k).map J05),i64 k] (fun r=>r=i64 (k+J6m l)):=by
 refine J1l Tryz.func109 rfl rfl fun hlim => ?_
 simp at hlim
 generalize hM:Jf3 l k=M at *
 refine J03 Tryz.func109 a109_ok rfl (by simp [a109]) ?_
 simp [a109]
 unfold J6m at *
 refine J0l [0] 5 M.length (fun i s h1 n1=>HJ Jdx Jfq M l k i (s 1)) hlim (by simp) (by rw [←hM];simp;exact HJ.start) ?_ ?_
 ·rintro i s h1 n1 R hi hg hk s5 hw hJ hR hret _
  simp at hk
  obtain ⟨x,ki,s1,hki,hki2,hx,hclose⟩:=hJ.step hi
  simp only [Jfq] at hki2
  have w0:IntKind.i64.wrap (ki+1)=ki+1:=J0r (by omega)
  simp [hk,s5,hi,hw,s1,hx,Jdx,w0]
  intro _
  first|refine J01 (Jaa (x.Coeffs) (ki+1) (by omega)) (by simp [hk,s5,hi,hw,s1,hx,Jdx,w0]) ?_|refine J02 (Jaa (x.Coeffs) (ki+1) (by omega)) (by simp [hk,s5,hi,hw,s1,hx,Jdx,w0]) ?_
  rintro r rfl
  have g1:¬ki+1+(Jc8 x.Coeffs:Int)<0:=by omega
  simp [hk,s5,hi,hw,s1,hx,Jdx,w0,g1]
  first|done|refine hR _ _ _ (by simp [hk]) (by simp) (hclose _ (by simp [i64,Jfq];try omega))
 ·rintro s h1 n1 R hk s5 hJ hret hX
  simp at hk
  have s1:=hJ.fin (Nat.le_refl _)
  simp [hk,s5,s1]
  first|refine hX _ _ _ _ ?_|(intro _;refine hX _ _ _ _ ?_)
  simp [hk,s5,s1]
set_option maxHeartbeats 1000000 in
theorem Jja (l:List Str) (k:Int) (h0:0≤k∧k+J61 l≤4611686018427387904):J9d Tryz.prog 78 (.us 1 (J0a l)) k (.us 1 (J0a (Jl2 l k))) (k+J61 l):=by
 intro h n a I K hT hI hn hK
 obtain ⟨id,rows0,I0,rfl,_,hB,_⟩:=Jci hT
 simp only [J0a,List.length_map] at hT hB hK ⊢
 refine J4i Tryz.func78 rfl rfl (by rw [hB];simp) fun hlim => ?_
 refine J17 Tryz.func78 a78_ok rfl (by simp [a78]) ?_
 simp [a78]
 unfold J61 at *
 refine J0l [0] 5 l.length (fun i s h1 n1=>MJ (fun _ k=>mtx k) (fun _=>1) (fun s=>[.str s]) 1 h n id I l k i (s 1) h1 n1) hlim (by simp) (by simpa using MJ.start hT) ?_ ?_
 ·rintro i s h1 n1 R hi hg hk s5 hw hJ hR hret _
  simp at hk
  obtain ⟨x,ki,rows,cells,I2,s1,hki,hki2,hlen,hc0,hnd,hI2,hstart,hclose⟩:=hJ.step2 hI hn hi
  obtain ⟨_,rfl,hc1⟩:=J3o.1 hc0
  obtain ⟨rfl,rfl⟩:=J2t.1 hc1
  have S:=hstart _ Kids.nil
  have e:=S.e
  have w0:IntKind.i64.wrap (ki+1)=ki+1:=J0r (by omega)
  simp [hk,s5,hi,hw,s1,e,hlen,w0]
  intro _
  first|refine J01 (J1s (ki) (by omega)) (by simp) ?_|refine J02 (J1s (ki) (by omega)) (by simp) ?_
  rintro r rfl
  simp [hk,s5,hi,hw,s1,e,hlen,w0]
  refine hR _ _ _ (by simp [hk]) (by simp) (hclose _ _ [.str (mtx (ki))] _ _ S.store (J3o.2 ⟨_,rfl,(J2t.2 ⟨rfl,rfl⟩)⟩) (by simp [i64];try omega))
 ·rintro s h1 n1 R hk s5 hJ hret hX
  simp at hk
  obtain ⟨s1,hn1,hf,ht⟩:=hJ.fin
  simp [hk,s5,s1]
  refine ⟨J6x ht,fun _ => ?_⟩
  refine hX _ _ _ _ ?_
  simp [hk,s5,s1]
  exact hK _ _ hn1 hf ht
set_option maxHeartbeats 1000000 in
theorem Jd2 (l:List DObligation) (k:Int) (h0:0≤k∧k+J2e l≤4611686018427387904):J9d Tryz.prog 37 (.us 4 (l.map J0d)) k (.us 4 ((J8t l k).map J0d)) (k+J2e l):=by
 intro h n a I K hT hI hn hK
 obtain ⟨id,rows0,I0,rfl,_,hB,_⟩:=Jci hT
 simp only [List.length_map] at hT hB hK ⊢
 refine J4i Tryz.func37 rfl rfl (by rw [hB];simp) fun hlim => ?_
 refine J17 Tryz.func37 a37_ok rfl (by simp [a37]) ?_
 simp [a37]
 unfold J2e at *
 refine J0l [0] 5 l.length (fun i s h1 n1=>MJ J2a J2y J0d 4 h n id I l k i (s 1) h1 n1) hlim (by simp) (by simpa using MJ.start hT) ?_ ?_
 ·rintro i s h1 n1 R hi hg hk s5 hw hJ hR hret _
  simp at hk
  obtain ⟨x,ki,rows,cells,I2,s1,hki,hki2,hlen,hc0,hnd,hI2,hstart,hclose⟩:=hJ.step2 hI hn hi
  simp only [J0d] at hc0
  simp only [J2y] at hki2
  obtain ⟨_,rfl,hc1⟩:=J6v.1 hc0
  obtain ⟨d1,len1,_,J1,_,rfl,rfl,hl1,ht1,hc2⟩:=J6p hc1
  have hq1:len1=(x.System.Rows).length:=by simpa using hl1
  subst hq1
  obtain ⟨_,rfl,hc3⟩:=J6v.1 hc2
  obtain ⟨d3,len3,_,J3,_,rfl,rfl,hl3,ht3,hc4⟩:=J6p hc3
  have hq3:len3=(x.Target.Coeffs).length:=by simpa using hl3
  subst hq3
  obtain ⟨rfl,rfl⟩:=J2t.1 hc4
  have S:=hstart _ (Kids.cons ht1 hnd hI2 fun hnd hI2=>(Kids.cons ht3 hnd hI2 fun hnd hI2=>Kids.nil))
  have e:=S.e
  have w0:IntKind.i64.wrap (ki+1)=ki+1:=J0r (by omega)
  have w1:IntKind.i64.wrap (ki+1+J6m x.System.Rows+1)=ki+1+J6m x.System.Rows+1:=J0r (by omega)
  simp [hk,s5,hi,hw,s1,e,hlen,w0,w1]
  intro _
  refine RS.mark (T1:=[]) (Jd7 _ _ (by omega)) S.store ?_
  clear S e
  intro h2 n2 S
  have e:=S.e
  simp [hk,s5,hi,hw,s1,e,hlen,w0,w1]
  refine RS.mark (T1:=[_]) (Jcw _ _ (by omega)) S.store ?_
  clear S e
  intro h2 n2 S
  have e:=S.e
  simp [hk,s5,hi,hw,s1,e,hlen,w0,w1]
  refine hR _ _ _ (by simp [hk]) (by simp) (hclose _ _ [.int .i64 (ki),.ref d1 0 (x.System.Rows).length,.int .i64 (ki+1+J6m x.System.Rows),.ref d3 0 (x.Target.Coeffs).length] _ _ S (J6v.2 ⟨_,rfl,(J3t (S.live.ids (_,.ref d1 0 _,J1) (by simp [J2a])).1 (J6v.2 ⟨_,rfl,(J3t (S.live.ids (_,.ref d3 0 _,J3) (by simp [J2a])).1 (J2t.2 ⟨rfl,rfl⟩))⟩))⟩) (by simp [i64,J2y];try omega))
 ·rintro s h1 n1 R hk s5 hJ hret hX
  simp at hk
  obtain ⟨s1,hn1,hf,ht⟩:=hJ.fin
  simp [hk,s5,s1]
  refine ⟨J6x ht,fun _ => ?_⟩
  refine hX _ _ _ _ ?_
  simp [hk,s5,s1]
  exact hK _ _ hn1 hf ht
set_option maxHeartbeats 1000000 in
theorem J50 (l:List DObligation) (k:Int) (h0:0≤k∧k+J2e l≤4611686018427387904):Holds Tryz.prog 38 [.sl 4 ((J8t l k).map J0p),i64 k] (fun r=>r=i64 (k+J2e l)):=by
 refine J1l Tryz.func38 rfl rfl fun hlim => ?_
 simp at hlim
 generalize hM:J8t l k=M at *
 refine J03 Tryz.func38 a38_ok rfl (by simp [a38]) ?_
 simp [a38]
 unfold J2e at *
 refine J0l [0] 5 M.length (fun i s h1 n1=>HJ J2a J2y M l k i (s 1)) hlim (by simp) (by rw [←hM];simp;exact HJ.start) ?_ ?_
 ·rintro i s h1 n1 R hi hg hk s5 hw hJ hR hret _
  simp at hk
  obtain ⟨x,ki,s1,hki,hki2,hx,hclose⟩:=hJ.step hi
  simp only [J2y] at hki2
  have w0:IntKind.i64.wrap (ki+1)=ki+1:=J0r (by omega)
  have w1:IntKind.i64.wrap (ki+1+J6m x.System.Rows+1)=ki+1+J6m x.System.Rows+1:=J0r (by omega)
  simp [hk,s5,hi,hw,s1,hx,J2a,w0,w1]
  intro _
  first|refine J01 (Ji3 (x.System.Rows) (ki+1) (by omega)) (by simp [hk,s5,hi,hw,s1,hx,J2a,w0,w1]) ?_|refine J02 (Ji3 (x.System.Rows) (ki+1) (by omega)) (by simp [hk,s5,hi,hw,s1,hx,J2a,w0,w1]) ?_
  rintro r rfl
  have g1:¬ki+1+(J6m x.System.Rows:Int)<0:=by omega
  simp [hk,s5,hi,hw,s1,hx,J2a,w0,w1,g1]
  first|refine J01 (Jaa (x.Target.Coeffs) (ki+1+J6m x.System.Rows+1) (by omega)) (by simp [hk,s5,hi,hw,s1,hx,J2a,w0,w1]) ?_|refine J02 (Jaa (x.Target.Coeffs) (ki+1+J6m x.System.Rows+1) (by omega)) (by simp [hk,s5,hi,hw,s1,hx,J2a,w0,w1]) ?_
  rintro r rfl
  have g3:¬ki+1+J6m x.System.Rows+1+(Jc8 x.Target.Coeffs:Int)<0:=by omega
  simp [hk,s5,hi,hw,s1,hx,J2a,w0,w1,g3]
  first|done|refine hR _ _ _ (by simp [hk]) (by simp) (hclose _ (by simp [i64,J2y];try omega))
 ·rintro s h1 n1 R hk s5 hJ hret hX
  simp at hk
  have s1:=hJ.fin (Nat.le_refl _)
  simp [hk,s5,s1]
  first|refine hX _ _ _ _ ?_|(intro _;refine hX _ _ _ _ ?_)
  simp [hk,s5,s1]
def a248:AFn:= ⟨28,[.t 4],(.seq (.reg [Zo 4 (.mv (.k (.int .i64 0)))]) (.seq (.seq (.reg [Zo 5 (.mv (.k (.int .i64 0)))]) (.blk 0 (.loop (.seq (.seq (.reg [Zv 6 5,Zv 7 0,Zo 8 (.len false (.t 7)),Zo 9 (.bin .lss (.t 6) (.t 8))]) (.cond (.t 9) .skip (.exit 0))) (.seq (.blk 1 (.seq (.reg [Zv 12 0,Zv 13 5,Zv 14 1,Zo 15 (.ixa 2 (.t 12) (.t 13)),Zf 16 0 15,⟨no,.st 1 (.t 16) (.t 14),no⟩]) (.seq (.reg [Zv 17 1,Zo 18 (.bin .add (.t 17) (.k (.int .i64 1))),Zv 1 18]) (.seq (.reg [Zv 19 0,Zv 20 5,Zv 21 1,Zc 22 156 [.t 21],Zo 23 (.ixa 2 (.t 19) (.t 20)),Zf 24 1 23,⟨no,.st 1 (.t 24) (.t 22),no⟩]) (.reg [Zv 25 1,Zo 26 (.bin .add (.t 25) (.k (.int .i64 1))),Zv 1 26]))))) (.reg [Zv 10 5,Zo 11 (.bin .add (.t 10) (.k (.int .i64 1))),Zv 5 11])))))) (.seq (.reg [Zv 27 1,Zv 4 27]) .ret)))⟩
theorem a248_ok:J06 Tryz.prog Tryz.f248=some a248:=by kernel_rfl
def a158:AFn:= ⟨27,[.t 4],(.seq (.reg [Zo 4 (.mv (.k (.int .i64 0)))]) (.seq (.seq (.reg [Zo 5 (.mv (.k (.int .i64 0)))]) (.blk 0 (.loop (.seq (.seq (.reg [Zv 6 5,Zv 7 0,Zo 8 (.len false (.t 7)),Zo 9 (.bin .lss (.t 6) (.t 8))]) (.cond (.t 9) .skip (.exit 0))) (.seq (.blk 1 (.seq (.reg [Zv 12 0,Zv 13 5,Zv 14 1,Zo 15 (.ixa 2 (.t 12) (.t 13)),Zf 16 0 15,⟨no,.st 1 (.t 16) (.t 14),no⟩]) (.seq (.reg [Zv 17 1,Zo 18 (.bin .add (.t 17) (.k (.int .i64 1))),Zv 1 18]) (.reg [Zv 19 0,Zv 20 5,Zo 21 (.ixa 2 (.t 19) (.t 20)),Zf 22 1 21,Zl 23 false 1 22,Zv 24 1,Zc 25 248 [.t 23,.t 24],Zv 1 25])))) (.reg [Zv 10 5,Zo 11 (.bin .add (.t 10) (.k (.int .i64 1))),Zv 5 11])))))) (.seq (.reg [Zv 26 1,Zv 4 26]) .ret)))⟩
theorem a158_ok:J06 Tryz.prog Tryz.f158=some a158:=by kernel_rfl
def a249:AFn:= ⟨37,[.t 4],(.seq (.reg [Zo 4 (.mv (.k (.int .i64 0)))]) (.seq (.seq (.reg [Zo 5 (.mv (.k (.int .i64 0)))]) (.blk 0 (.loop (.seq (.seq (.reg [Zv 6 5,Zv 7 0,Zo 8 (.len false (.t 7)),Zo 9 (.bin .lss (.t 6) (.t 8))]) (.cond (.t 9) .skip (.exit 0))) (.seq (.blk 1 (.seq (.reg [Zv 12 0,Zv 13 5,Zv 14 1,Zo 15 (.bin .rem (.t 14) (.k (.int .i64 3))),Zo 16 (.bin .eql (.t 15) (.k (.int .i64 0))),Zo 17 (.ixa 3 (.t 12) (.t 13)),Zf 18 0 17,⟨no,.st 1 (.t 18) (.t 16),no⟩]) (.seq (.reg [Zv 19 1,Zo 20 (.bin .add (.t 19) (.k (.int .i64 1))),Zv 1 20]) (.seq (.reg [Zv 21 0,Zv 22 5,Zo 23 (.ixa 3 (.t 21) (.t 22)),Zf 24 1 23,Zl 25 false 1 24,Zv 26 1,Zc 27 158 [.t 25,.t 26],Zv 1 27]) (.seq (.reg [Zv 28 0,Zv 29 5,Zv 30 1,Zc 31 156 [.t 30],Zo 32 (.ixa 3 (.t 28) (.t 29)),Zf 33 2 32,⟨no,.st 1 (.t 33) (.t 31),no⟩]) (.reg [Zv 34 1,Zo 35 (.bin .add (.t 34) (.k (.int .i64 1))),Zv 1 35])))))) (.reg [Zv 10 5,Zo 11 (.bin .add (.t 10) (.k (.int .i64 1))),Zv 5 11])))))) (.seq (.reg [Zv 36 1,Zv 4 36]) .ret)))⟩
theorem a249_ok:J06 Tryz.prog Tryz.f249=some a249:=by kernel_rfl
def a76:AFn:= ⟨44,[.t 4],(.seq (.reg [Zo 4 (.mv (.k (.int .i64 0)))]) (.seq (.seq (.reg [Zo 5 (.mv (.k (.int .i64 0)))]) (.blk 0 (.loop (.seq (.seq (.reg [Zv 6 5,Zv 7 0,Zo 8 (.len false (.t 7)),Zo 9 (.bin .lss (.t 6) (.t 8))]) (.cond (.t 9) .skip (.exit 0))) (.seq (.blk 1 (.seq (.reg [Zv 12 0,Zv 13 5,Zv 14 1,Zc 15 156 [.t 14],Zo 16 (.ixa 4 (.t 12) (.t 13)),Zf 17 0 16,⟨no,.st 1 (.t 17) (.t 15),no⟩]) (.seq (.reg [Zv 18 1,Zo 19 (.bin .add (.t 18) (.k (.int .i64 1))),Zv 1 19]) (.seq (.reg [Zv 20 0,Zv 21 5,Zo 22 (.ixa 4 (.t 20) (.t 21)),Zf 23 1 22,Zl 24 false 1 23,Zv 25 1,Zc 26 78 [.t 24,.t 25],Zv 1 26]) (.seq (.reg [Zv 27 0,Zv 28 5,Zv 29 1,Zo 30 (.bin .rem (.t 29) (.k (.int .i64 3))),Zo 31 (.bin .eql (.t 30) (.k (.int .i64 0))),Zo 32 (.ixa 4 (.t 27) (.t 28)),Zf 33 2 32,⟨no,.st 1 (.t 33) (.t 31),no⟩]) (.seq (.reg [Zv 34 1,Zo 35 (.bin .add (.t 34) (.k (.int .i64 1))),Zv 1 35]) (.reg [Zv 36 0,Zv 37 5,Zo 38 (.ixa 4 (.t 36) (.t 37)),Zf 39 3 38,Zl 40 false 1 39,Zv 41 1,Zc 42 108 [.t 40,.t 41],Zv 1 42]))))))) (.reg [Zv 10 5,Zo 11 (.bin .add (.t 10) (.k (.int .i64 1))),Zv 5 11])))))) (.seq (.reg [Zv 43 1,Zv 4 43]) .ret)))⟩
theorem a76_ok:J06 Tryz.prog Tryz.f76=some a76:=by kernel_rfl
def a157:AFn:= ⟨46,[.t 4],(.seq (.reg [Zo 4 (.mv (.k (.int .i64 0)))]) (.seq (.seq (.reg [Zo 5 (.mv (.k (.int .i64 0)))]) (.blk 0 (.loop (.seq (.seq (.reg [Zv 6 5,Zv 7 0,Zo 8 (.len false (.t 7)),Zo 9 (.bin .lss (.t 6) (.t 8))]) (.cond (.t 9) .skip (.exit 0))) (.seq (.blk 1 (.seq (.reg [Zv 12 0,Zv 13 5,Zv 14 1,Zc 15 156 [.t 14],Zo 16 (.ixa 4 (.t 12) (.t 13)),Zf 17 0 16,⟨no,.st 1 (.t 17) (.t 15),no⟩]) (.seq (.reg [Zv 18 1,Zo 19 (.bin .add (.t 18) (.k (.int .i64 1))),Zv 1 19]) (.seq (.reg [Zv 20 0,Zv 21 5,Zv 22 1,Zo 23 (.bin .rem (.t 22) (.k (.int .i64 3))),Zo 24 (.bin .eql (.t 23) (.k (.int .i64 0))),Zo 25 (.ixa 4 (.t 20) (.t 21)),Zf 26 1 25,⟨no,.st 1 (.t 26) (.t 24),no⟩]) (.seq (.reg [Zv 27 1,Zo 28 (.bin .add (.t 27) (.k (.int .i64 1))),Zv 1 28]) (.seq (.reg [Zv 29 0,Zv 30 5,Zv 31 1,Zc 32 156 [.t 31],Zo 33 (.ixa 4 (.t 29) (.t 30)),Zf 34 2 33,⟨no,.st 1 (.t 34) (.t 32),no⟩]) (.seq (.reg [Zv 35 1,Zo 36 (.bin .add (.t 35) (.k (.int .i64 1))),Zv 1 36]) (.seq (.reg [Zv 37 0,Zv 38 5,Zv 39 1,Zc 40 156 [.t 39],Zo 41 (.ixa 4 (.t 37) (.t 38)),Zf 42 3 41,⟨no,.st 1 (.t 42) (.t 40),no⟩]) (.reg [Zv 43 1,Zo 44 (.bin .add (.t 43) (.k (.int .i64 1))),Zv 1 44]))))))))) (.reg [Zv 10 5,Zo 11 (.bin .add (.t 10) (.k (.int .i64 1))),Zv 5 11])))))) (.seq (.reg [Zv 45 1,Zv 4 45]) .ret)))⟩
theorem a157_ok:J06 Tryz.prog Tryz.f157=some a157:=by kernel_rfl
def a159:AFn:= ⟨36,[.t 4],(.seq (.reg [Zo 4 (.mv (.k (.int .i64 0)))]) (.seq (.seq (.reg [Zo 5 (.mv (.k (.int .i64 0)))]) (.blk 0 (.loop (.seq (.seq (.reg [Zv 6 5,Zv 7 0,Zo 8 (.len false (.t 7)),Zo 9 (.bin .lss (.t 6) (.t 8))]) (.cond (.t 9) .skip (.exit 0))) (.seq (.blk 1 (.seq (.reg [Zv 12 0,Zv 13 5,Zv 14 1,Zc 15 156 [.t 14],Zo 16 (.ixa 3 (.t 12) (.t 13)),Zf 17 0 16,⟨no,.st 1 (.t 17) (.t 15),no⟩]) (.seq (.reg [Zv 18 1,Zo 19 (.bin .add (.t 18) (.k (.int .i64 1))),Zv 1 19]) (.seq (.reg [Zv 20 0,Zv 21 5,Zv 22 1,Zc 23 156 [.t 22],Zo 24 (.ixa 3 (.t 20) (.t 21)),Zf 25 1 24,⟨no,.st 1 (.t 25) (.t 23),no⟩]) (.seq (.reg [Zv 26 1,Zo 27 (.bin .add (.t 26) (.k (.int .i64 1))),Zv 1 27]) (.reg [Zv 28 0,Zv 29 5,Zo 30 (.ixa 3 (.t 28) (.t 29)),Zf 31 2 30,Zl 32 false 1 31,Zv 33 1,Zc 34 249 [.t 32,.t 33],Zv 1 34])))))) (.reg [Zv 10 5,Zo 11 (.bin .add (.t 10) (.k (.int .i64 1))),Zv 5 11])))))) (.seq (.reg [Zv 35 1,Zv 4 35]) .ret)))⟩
theorem a159_ok:J06 Tryz.prog Tryz.f159=some a159:=by kernel_rfl
def a77:AFn:= ⟨69,[.t 4],(.seq (.reg [Zo 4 (.mv (.k (.int .i64 0)))]) (.seq (.seq (.reg [Zo 5 (.mv (.k (.int .i64 0)))]) (.blk 0 (.loop (.seq (.seq (.reg [Zv 6 5,Zv 7 0,Zo 8 (.len false (.t 7)),Zo 9 (.bin .lss (.t 6) (.t 8))]) (.cond (.t 9) .skip (.exit 0))) (.seq (.blk 1 (.seq (.reg [Zv 12 0,Zv 13 5,Zv 14 1,Zc 15 156 [.t 14],Zo 16 (.ixa 7 (.t 12) (.t 13)),Zf 17 0 16,⟨no,.st 1 (.t 17) (.t 15),no⟩]) (.seq (.reg [Zv 18 1,Zo 19 (.bin .add (.t 18) (.k (.int .i64 1))),Zv 1 19]) (.seq (.reg [Zv 20 0,Zv 21 5,Zo 22 (.ixa 7 (.t 20) (.t 21)),Zf 23 1 22,Zl 24 false 1 23,Zv 25 1,Zc 26 157 [.t 24,.t 25],Zv 1 26]) (.seq (.reg [Zv 27 0,Zv 28 5,Zo 29 (.ixa 7 (.t 27) (.t 28)),Zf 30 2 29,Zl 31 false 1 30,Zv 32 1,Zc 33 158 [.t 31,.t 32],Zv 1 33]) (.seq (.reg [Zv 34 0,Zv 35 5,Zo 36 (.ixa 7 (.t 34) (.t 35)),Zf 37 3 36,Zl 38 false 1 37,Zv 39 1,Zc 40 159 [.t 38,.t 39],Zv 1 40]) (.seq (.reg [Zv 41 0,Zv 42 5,Zv 43 1,Zo 44 (.bin .rem (.t 43) (.k (.int .i64 3))),Zo 45 (.bin .eql (.t 44) (.k (.int .i64 0))),Zo 46 (.ixa 7 (.t 41) (.t 42)),Zf 47 4 46,Zf 48 0 47,⟨no,.st 1 (.t 48) (.t 45),no⟩]) (.seq (.reg [Zv 49 1,Zo 50 (.bin .add (.t 49) (.k (.int .i64 1))),Zv 1 50]) (.seq (.reg [Zv 51 0,Zv 52 5,Zo 53 (.ixa 7 (.t 51) (.t 52)),Zf 54 4 53,Zf 55 1 54,Zl 56 false 1 55,Zv 57 1,Zc 58 158 [.t 56,.t 57],Zv 1 58]) (.seq (.reg [Zv 59 0,Zv 60 5,Zv 61 1,Zc 62 156 [.t 61],Zo 63 (.ixa 7 (.t 59) (.t 60)),Zf 64 4 63,Zf 65 2 64,⟨no,.st 1 (.t 65) (.t 62),no⟩]) (.reg [Zv 66 1,Zo 67 (.bin .add (.t 66) (.k (.int .i64 1))),Zv 1 67]))))))))))) (.reg [Zv 10 5,Zo 11 (.bin .add (.t 10) (.k (.int .i64 1))),Zv 5 11])))))) (.seq (.reg [Zv 68 1,Zv 4 68]) .ret)))⟩
theorem a77_ok:J06 Tryz.prog Tryz.f77=some a77:=by kernel_rfl
def a18:AFn:= ⟨14,[.t 4],(.seq (.reg [Zo 2 (.boxv (.t 0)),Zo 4 (.mv (.k (.int .i64 0)))]) (.seq (.reg [Zf 5 0 2,Zl 6 false 1 5,Zv 7 1,Zc 8 76 [.t 6,.t 7],Zv 1 8]) (.seq (.reg [Zf 9 1 2,Zl 10 false 1 9,Zv 11 1,Zc 12 77 [.t 10,.t 11],Zv 1 12]) (.seq (.reg [Zv 13 1,Zv 4 13]) .ret))))⟩
theorem a18_ok:J06 Tryz.prog Tryz.f18=some a18:=by kernel_rfl
set_option maxHeartbeats 1000000 in
theorem Jms (l:List DTerm) (k:Int) (h0:0≤k∧k+Jk0 l≤4611686018427387904):J9d Tryz.prog 248 (.us 2 (l.map J4c)) k (.us 2 ((Jrn l k).map J4c)) (k+Jk0 l):=by
 intro h n a I K hT hI hn hK
 obtain ⟨id,rows0,I0,rfl,_,hB,_⟩:=Jci hT
 simp only [List.length_map] at hT hB hK ⊢
 refine J4i Tryz.func248 rfl rfl (by rw [hB];simp) fun hlim => ?_
 refine J17 Tryz.func248 a248_ok rfl (by simp [a248]) ?_
 simp [a248]
 unfold Jk0 at *
 refine J0l [0] 5 l.length (fun i s h1 n1=>MJ Jqs Jgd J4c 2 h n id I l k i (s 1) h1 n1) hlim (by simp) (by simpa using MJ.start hT) ?_ ?_
 ·rintro i s h1 n1 R hi hg hk s5 hw hJ hR hret _
  simp at hk
  obtain ⟨x,ki,rows,cells,I2,s1,hki,hki2,hlen,hc0,hnd,hI2,hstart,hclose⟩:=hJ.step2 hI hn hi
  simp only [J4c] at hc0
  simp only [Jgd] at hki2
  obtain ⟨_,rfl,hc1⟩:=J6v.1 hc0
  obtain ⟨_,rfl,hc2⟩:=J3o.1 hc1
  obtain ⟨rfl,rfl⟩:=J2t.1 hc2
  have S:=hstart _ Kids.nil
  have e:=S.e
  have w0:IntKind.i64.wrap (ki+1)=ki+1:=J0r (by omega)
  have w1:IntKind.i64.wrap (ki+1+1)=ki+1+1:=J0r (by omega)
  simp [hk,s5,hi,hw,s1,e,hlen,w0,w1]
  intro _
  first|refine J01 (J1s (ki+1) (by omega)) (by simp) ?_|refine J02 (J1s (ki+1) (by omega)) (by simp) ?_
  rintro r rfl
  simp [hk,s5,hi,hw,s1,e,hlen,w0,w1]
  refine hR _ _ _ (by simp [hk]) (by simp) (hclose _ _ [.int .i64 (ki),.str (mtx (ki+1))] _ _ S.store (J6v.2 ⟨_,rfl,(J3o.2 ⟨_,rfl,(J2t.2 ⟨rfl,rfl⟩)⟩)⟩) (by simp [i64,Jgd];try omega))
 ·rintro s h1 n1 R hk s5 hJ hret hX
  simp at hk
  obtain ⟨s1,hn1,hf,ht⟩:=hJ.fin
  simp [hk,s5,s1]
  refine ⟨J6x ht,fun _ => ?_⟩
  refine hX _ _ _ _ ?_
  simp [hk,s5,s1]
  exact hK _ _ hn1 hf ht
set_option maxHeartbeats 1000000 in
theorem Jcq (l:List DSum) (k:Int) (h0:0≤k∧k+J4s l≤4611686018427387904):J9d Tryz.prog 158 (.us 2 (l.map J58)) k (.us 2 ((Jo9 l k).map J58)) (k+J4s l):=by
 intro h n a I K hT hI hn hK
 obtain ⟨id,rows0,I0,rfl,_,hB,_⟩:=Jci hT
 simp only [List.length_map] at hT hB hK ⊢
 refine J4i Tryz.func158 rfl rfl (by rw [hB];simp) fun hlim => ?_
 refine J17 Tryz.func158 a158_ok rfl (by simp [a158]) ?_
 simp [a158]
 unfold J4s at *
 refine J0l [0] 5 l.length (fun i s h1 n1=>MJ Jr8 Jli J58 2 h n id I l k i (s 1) h1 n1) hlim (by simp) (by simpa using MJ.start hT) ?_ ?_
 ·rintro i s h1 n1 R hi hg hk s5 hw hJ hR hret _
  simp at hk
  obtain ⟨x,ki,rows,cells,I2,s1,hki,hki2,hlen,hc0,hnd,hI2,hstart,hclose⟩:=hJ.step2 hI hn hi
  simp only [J58] at hc0
  simp only [Jli] at hki2
  obtain ⟨_,rfl,hc1⟩:=J6v.1 hc0
  obtain ⟨d1,len1,_,J1,_,rfl,rfl,hl1,ht1,hc2⟩:=J6p hc1
  have hq1:len1=(x.Terms).length:=by simpa using hl1
  subst hq1
  obtain ⟨rfl,rfl⟩:=J2t.1 hc2
  have S:=hstart _ (Kids.cons ht1 hnd hI2 fun hnd hI2=>Kids.nil)
  have e:=S.e
  have w0:IntKind.i64.wrap (ki+1)=ki+1:=J0r (by omega)
  simp [hk,s5,hi,hw,s1,e,hlen,w0]
  intro _
  refine RS.mark (T1:=[]) (Jms _ _ (by omega)) S.store ?_
  clear S e
  intro h2 n2 S
  have e:=S.e
  simp [hk,s5,hi,hw,s1,e,hlen,w0]
  refine hR _ _ _ (by simp [hk]) (by simp) (hclose _ _ [.int .i64 (ki),.ref d1 0 (x.Terms).length] _ _ S (J6v.2 ⟨_,rfl,(J3t (S.live.ids (_,.ref d1 0 _,J1) (by simp [Jr8])).1 (J2t.2 ⟨rfl,rfl⟩))⟩) (by simp [i64,Jli];try omega))
 ·rintro s h1 n1 R hk s5 hJ hret hX
  simp at hk
  obtain ⟨s1,hn1,hf,ht⟩:=hJ.fin
  simp [hk,s5,s1]
  refine ⟨J6x ht,fun _ => ?_⟩
  refine hX _ _ _ _ ?_
  simp [hk,s5,s1]
  exact hK _ _ hn1 hf ht
set_option maxHeartbeats 1000000 in
theorem Jpa (l:List DArg) (k:Int) (h0:0≤k∧k+Jss l≤4611686018427387904):J9d Tryz.prog 249 (.us 3 (l.map J5e)) k (.us 3 ((Jxf l k).map J5e)) (k+Jss l):=by
 intro h n a I K hT hI hn hK
 obtain ⟨id,rows0,I0,rfl,_,hB,_⟩:=Jci hT
 simp only [List.length_map] at hT hB hK ⊢
 refine J4i Tryz.func249 rfl rfl (by rw [hB];simp) fun hlim => ?_
 refine J17 Tryz.func249 a249_ok rfl (by simp [a249]) ?_
 simp [a249]
 unfold Jss at *
 refine J0l [0] 5 l.length (fun i s h1 n1=>MJ Jq7 Jmv J5e 3 h n id I l k i (s 1) h1 n1) hlim (by simp) (by simpa using MJ.start hT) ?_ ?_
 ·rintro i s h1 n1 R hi hg hk s5 hw hJ hR hret _
  simp at hk
  obtain ⟨x,ki,rows,cells,I2,s1,hki,hki2,hlen,hc0,hnd,hI2,hstart,hclose⟩:=hJ.step2 hI hn hi
  simp only [J5e] at hc0
  simp only [Jmv] at hki2
  obtain ⟨_,rfl,hc1⟩:=J7z.1 hc0
  obtain ⟨d1,len1,_,J1,_,rfl,rfl,hl1,ht1,hc2⟩:=J6p hc1
  have hq1:len1=(x.Heads).length:=by simpa using hl1
  subst hq1
  obtain ⟨_,rfl,hc3⟩:=J3o.1 hc2
  obtain ⟨rfl,rfl⟩:=J2t.1 hc3
  have S:=hstart _ (Kids.cons ht1 hnd hI2 fun hnd hI2=>Kids.nil)
  have e:=S.e
  have w0:IntKind.i64.wrap (ki+1)=ki+1:=J0r (by omega)
  have w1:IntKind.i64.wrap (ki+1+J4s x.Heads+1)=ki+1+J4s x.Heads+1:=J0r (by omega)
  simp [hk,s5,hi,hw,s1,e,hlen,w0,w1]
  intro _
  refine RS.mark (T1:=[]) (Jcq _ _ (by omega)) S.store ?_
  clear S e
  intro h2 n2 S
  have e:=S.e
  simp [hk,s5,hi,hw,s1,e,hlen,w0,w1]
  first|refine J01 (J1s (ki+1+J4s x.Heads) (by omega)) (by simp) ?_|refine J02 (J1s (ki+1+J4s x.Heads) (by omega)) (by simp) ?_
  rintro r rfl
  simp [hk,s5,hi,hw,s1,e,hlen,w0,w1]
  have S:=S.store (cells':=[.bool ((ki).tmod 3==0),.ref d1 0 (x.Heads).length,.str (mtx (ki+1+J4s x.Heads))])
  refine hR _ _ _ (by simp [hk]) (by simp) (hclose _ _ [.bool ((ki).tmod 3==0),.ref d1 0 (x.Heads).length,.str (mtx (ki+1+J4s x.Heads))] _ _ S (J7z.2 ⟨_,rfl,(J3t (S.live.ids (_,.ref d1 0 _,J1) (by simp [Jq7])).1 (J3o.2 ⟨_,rfl,(J2t.2 ⟨rfl,rfl⟩)⟩))⟩) (by simp [i64,Jmv];try omega))
 ·rintro s h1 n1 R hk s5 hJ hret hX
  simp at hk
  obtain ⟨s1,hn1,hf,ht⟩:=hJ.fin
  simp [hk,s5,s1]
  refine ⟨J6x ht,fun _ => ?_⟩
  refine hX _ _ _ _ ?_
  simp [hk,s5,s1]
  exact hK _ _ hn1 hf ht
set_option maxHeartbeats 1000000 in
theorem Jfl (l:List DFunction) (k:Int) (h0:0≤k∧k+J5n l≤4611686018427387904):J9d Tryz.prog 76 (.us 4 (l.map J0g)) k (.us 4 ((Jb6 l k).map J0g)) (k+J5n l):=by
 intro h n a I K hT hI hn hK
 obtain ⟨id,rows0,I0,rfl,_,hB,_⟩:=Jci hT
 simp only [List.length_map] at hT hB hK ⊢
 refine J4i Tryz.func76 rfl rfl (by rw [hB];simp) fun hlim => ?_
 refine J17 Tryz.func76 a76_ok rfl (by simp [a76]) ?_
 simp [a76]
 unfold J5n at *
 refine J0l [0] 5 l.length (fun i s h1 n1=>MJ J8u J68 J0g 4 h n id I l k i (s 1) h1 n1) hlim (by simp) (by simpa using MJ.start hT) ?_ ?_
 ·rintro i s h1 n1 R hi hg hk s5 hw hJ hR hret _
  simp at hk
  obtain ⟨x,ki,rows,cells,I2,s1,hki,hki2,hlen,hc0,hnd,hI2,hstart,hclose⟩:=hJ.step2 hI hn hi
  simp only [J0g] at hc0
  simp only [J68] at hki2
  obtain ⟨_,rfl,hc1⟩:=J3o.1 hc0
  obtain ⟨d1,len1,_,J1,_,rfl,rfl,hl1,ht1,hc2⟩:=J6p hc1
  have hq1:len1=(x.Params).length:=by simpa using hl1
  subst hq1
  obtain ⟨_,rfl,hc3⟩:=J7z.1 hc2
  obtain ⟨d3,len3,_,J3,_,rfl,rfl,hl3,ht3,hc4⟩:=J6p hc3
  have hq3:len3=(x.Pre).length:=by simpa using hl3
  subst hq3
  obtain ⟨rfl,rfl⟩:=J2t.1 hc4
  have S:=hstart _ (Kids.cons ht1 hnd hI2 fun hnd hI2=>(Kids.cons ht3 hnd hI2 fun hnd hI2=>Kids.nil))
  have e:=S.e
  have w0:IntKind.i64.wrap (ki+1)=ki+1:=J0r (by omega)
  have w1:IntKind.i64.wrap (ki+1+J61 x.Params+1)=ki+1+J61 x.Params+1:=J0r (by omega)
  simp [hk,s5,hi,hw,s1,e,hlen,w0,w1]
  intro _
  first|refine J01 (J1s (ki) (by omega)) (by simp) ?_|refine J02 (J1s (ki) (by omega)) (by simp) ?_
  rintro r rfl
  simp [hk,s5,hi,hw,s1,e,hlen,w0,w1]
  refine RS.mark (T1:=[]) (Jja _ _ (by omega)) S.store ?_
  clear S e
  intro h2 n2 S
  have e:=S.e
  simp [hk,s5,hi,hw,s1,e,hlen,w0,w1]
  refine RS.mark (T1:=[_]) (Jd7 _ _ (by omega)) S.store ?_
  clear S e
  intro h2 n2 S
  have e:=S.e
  simp [hk,s5,hi,hw,s1,e,hlen,w0,w1]
  refine hR _ _ _ (by simp [hk]) (by simp) (hclose _ _ [.str (mtx (ki)),.ref d1 0 (x.Params).length,.bool ((ki+1+J61 x.Params).tmod 3==0),.ref d3 0 (x.Pre).length] _ _ S (J3o.2 ⟨_,rfl,(J3t (S.live.ids (_,.ref d1 0 _,J1) (by simp [J8u])).1 (J7z.2 ⟨_,rfl,(J3t (S.live.ids (_,.ref d3 0 _,J3) (by simp [J8u])).1 (J2t.2 ⟨rfl,rfl⟩))⟩))⟩) (by simp [i64,J68];try omega))
 ·rintro s h1 n1 R hk s5 hJ hret hX
  simp at hk
  obtain ⟨s1,hn1,hf,ht⟩:=hJ.fin
  simp [hk,s5,s1]
  refine ⟨J6x ht,fun _ => ?_⟩
  refine hX _ _ _ _ ?_
  simp [hk,s5,s1]
  exact hK _ _ hn1 hf ht
set_option maxHeartbeats 1000000 in
theorem Jgx (l:List DPattern) (k:Int) (h0:0≤k∧k+J2d l≤4611686018427387904):J9d Tryz.prog 157 (.us 4 (l.map J1e)) k (.us 4 ((Ji7 l k).map J1e)) (k+J2d l):=by
 intro h n a I K hT hI hn hK
 obtain ⟨id,rows0,I0,rfl,_,hB,_⟩:=Jci hT
 simp only [List.length_map] at hT hB hK ⊢
 refine J4i Tryz.func157 rfl rfl (by rw [hB];simp) fun hlim => ?_
 refine J17 Tryz.func157 a157_ok rfl (by simp [a157]) ?_
 simp [a157]
 unfold J2d at *
 refine J0l [0] 5 l.length (fun i s h1 n1=>MJ Jhz J7e J1e 4 h n id I l k i (s 1) h1 n1) hlim (by simp) (by simpa using MJ.start hT) ?_ ?_
 ·rintro i s h1 n1 R hi hg hk s5 hw hJ hR hret _
  simp at hk
  obtain ⟨x,ki,rows,cells,I2,s1,hki,hki2,hlen,hc0,hnd,hI2,hstart,hclose⟩:=hJ.step2 hI hn hi
  simp only [J1e] at hc0
  simp only [J7e] at hki2
  obtain ⟨_,rfl,hc1⟩:=J3o.1 hc0
  obtain ⟨_,rfl,hc2⟩:=J7z.1 hc1
  obtain ⟨_,rfl,hc3⟩:=J3o.1 hc2
  obtain ⟨_,rfl,hc4⟩:=J3o.1 hc3
  obtain ⟨rfl,rfl⟩:=J2t.1 hc4
  have S:=hstart _ Kids.nil
  have e:=S.e
  have w0:IntKind.i64.wrap (ki+1)=ki+1:=J0r (by omega)
  have w1:IntKind.i64.wrap (ki+1+1)=ki+1+1:=J0r (by omega)
  have w2:IntKind.i64.wrap (ki+1+1+1)=ki+1+1+1:=J0r (by omega)
  have w3:IntKind.i64.wrap (ki+1+1+1+1)=ki+1+1+1+1:=J0r (by omega)
  simp [hk,s5,hi,hw,s1,e,hlen,w0,w1,w2,w3]
  intro _
  first|refine J01 (J1s (ki) (by omega)) (by simp) ?_|refine J02 (J1s (ki) (by omega)) (by simp) ?_
  rintro r rfl
  simp [hk,s5,hi,hw,s1,e,hlen,w0,w1,w2,w3]
  first|refine J01 (J1s (ki+1+1) (by omega)) (by simp) ?_|refine J02 (J1s (ki+1+1) (by omega)) (by simp) ?_
  rintro r rfl
  simp [hk,s5,hi,hw,s1,e,hlen,w0,w1,w2,w3]
  first|refine J01 (J1s (ki+1+1+1) (by omega)) (by simp) ?_|refine J02 (J1s (ki+1+1+1) (by omega)) (by simp) ?_
  rintro r rfl
  simp [hk,s5,hi,hw,s1,e,hlen,w0,w1,w2,w3]
  refine hR _ _ _ (by simp [hk]) (by simp) (hclose _ _ [.str (mtx (ki)),.bool ((ki+1).tmod 3==0),.str (mtx (ki+1+1)),.str (mtx (ki+1+1+1))] _ _ S.store (J3o.2 ⟨_,rfl,(J7z.2 ⟨_,rfl,(J3o.2 ⟨_,rfl,(J3o.2 ⟨_,rfl,(J2t.2 ⟨rfl,rfl⟩)⟩)⟩)⟩)⟩) (by simp [i64,J7e];try omega))
 ·rintro s h1 n1 R hk s5 hJ hret hX
  simp at hk
  obtain ⟨s1,hn1,hf,ht⟩:=hJ.fin
  simp [hk,s5,s1]
  refine ⟨J6x ht,fun _ => ?_⟩
  refine hX _ _ _ _ ?_
  simp [hk,s5,s1]
  exact hK _ _ hn1 hf ht
set_option maxHeartbeats 1000000 in
theorem Jlm (l:List DCall) (k:Int) (h0:0≤k∧k+J65 l≤4611686018427387904):J9d Tryz.prog 159 (.us 3 (l.map J3m)) k (.us 3 ((Jsz l k).map J3m)) (k+J65 l):=by
 intro h n a I K hT hI hn hK
 obtain ⟨id,rows0,I0,rfl,_,hB,_⟩:=Jci hT
 simp only [List.length_map] at hT hB hK ⊢
 refine J4i Tryz.func159 rfl rfl (by rw [hB];simp) fun hlim => ?_
 refine J17 Tryz.func159 a159_ok rfl (by simp [a159]) ?_
 simp [a159]
 unfold J65 at *
 refine J0l [0] 5 l.length (fun i s h1 n1=>MJ Jm7 Jfr J3m 3 h n id I l k i (s 1) h1 n1) hlim (by simp) (by simpa using MJ.start hT) ?_ ?_
 ·rintro i s h1 n1 R hi hg hk s5 hw hJ hR hret _
  simp at hk
  obtain ⟨x,ki,rows,cells,I2,s1,hki,hki2,hlen,hc0,hnd,hI2,hstart,hclose⟩:=hJ.step2 hI hn hi
  simp only [J3m] at hc0
  simp only [Jfr] at hki2
  obtain ⟨_,rfl,hc1⟩:=J3o.1 hc0
  obtain ⟨_,rfl,hc2⟩:=J3o.1 hc1
  obtain ⟨d2,len2,_,J2,_,rfl,rfl,hl2,ht2,hc3⟩:=J6p hc2
  have hq2:len2=(x.Args).length:=by simpa using hl2
  subst hq2
  obtain ⟨rfl,rfl⟩:=J2t.1 hc3
  have S:=hstart _ (Kids.cons ht2 hnd hI2 fun hnd hI2=>Kids.nil)
  have e:=S.e
  have w0:IntKind.i64.wrap (ki+1)=ki+1:=J0r (by omega)
  have w1:IntKind.i64.wrap (ki+1+1)=ki+1+1:=J0r (by omega)
  simp [hk,s5,hi,hw,s1,e,hlen,w0,w1]
  intro _
  first|refine J01 (J1s (ki) (by omega)) (by simp) ?_|refine J02 (J1s (ki) (by omega)) (by simp) ?_
  rintro r rfl
  simp [hk,s5,hi,hw,s1,e,hlen,w0,w1]
  first|refine J01 (J1s (ki+1) (by omega)) (by simp) ?_|refine J02 (J1s (ki+1) (by omega)) (by simp) ?_
  rintro r rfl
  simp [hk,s5,hi,hw,s1,e,hlen,w0,w1]
  refine RS.mark (T1:=[]) (Jpa _ _ (by omega)) S.store ?_
  clear S e
  intro h2 n2 S
  have e:=S.e
  simp [hk,s5,hi,hw,s1,e,hlen,w0,w1]
  refine hR _ _ _ (by simp [hk]) (by simp) (hclose _ _ [.str (mtx (ki)),.str (mtx (ki+1)),.ref d2 0 (x.Args).length] _ _ S (J3o.2 ⟨_,rfl,(J3o.2 ⟨_,rfl,(J3t (S.live.ids (_,.ref d2 0 _,J2) (by simp [Jm7])).1 (J2t.2 ⟨rfl,rfl⟩))⟩)⟩) (by simp [i64,Jfr];try omega))
 ·rintro s h1 n1 R hk s5 hJ hret hX
  simp at hk
  obtain ⟨s1,hn1,hf,ht⟩:=hJ.fin
  simp [hk,s5,s1]
  refine ⟨J6x ht,fun _ => ?_⟩
  refine hX _ _ _ _ ?_
  simp [hk,s5,s1]
  exact hK _ _ hn1 hf ht
set_option maxHeartbeats 1000000 in
theorem Jmz (l:List DRule) (k:Int) (h0:0≤k∧k+Jl6 l≤4611686018427387904):J9d Tryz.prog 77 (.us 7 (l.map J23)) k (.us 7 ((Jmj l k).map J23)) (k+Jl6 l):=by
 intro h n a I K hT hI hn hK
 obtain ⟨id,rows0,I0,rfl,_,hB,_⟩:=Jci hT
 simp only [List.length_map] at hT hB hK ⊢
 refine J4i Tryz.func77 rfl rfl (by rw [hB];simp) fun hlim => ?_
 refine J17 Tryz.func77 a77_ok rfl (by simp [a77]) ?_
 simp [a77]
 unfold Jl6 at *
 refine J0l [0] 5 l.length (fun i s h1 n1=>MJ Jcn Jgc J23 7 h n id I l k i (s 1) h1 n1) hlim (by simp) (by simpa using MJ.start hT) ?_ ?_
 ·rintro i s h1 n1 R hi hg hk s5 hw hJ hR hret _
  simp at hk
  obtain ⟨x,ki,rows,cells,I2,s1,hki,hki2,hlen,hc0,hnd,hI2,hstart,hclose⟩:=hJ.step2 hI hn hi
  simp only [J23] at hc0
  simp only [Jgc] at hki2
  obtain ⟨_,rfl,hc1⟩:=J3o.1 hc0
  obtain ⟨d1,len1,_,J1,_,rfl,rfl,hl1,ht1,hc2⟩:=J6p hc1
  have hq1:len1=(x.Patterns).length:=by simpa using hl1
  subst hq1
  obtain ⟨d2,len2,_,J2,_,rfl,rfl,hl2,ht2,hc3⟩:=J6p hc2
  have hq2:len2=(x.Guards).length:=by simpa using hl2
  subst hq2
  obtain ⟨d3,len3,_,J3,_,rfl,rfl,hl3,ht3,hc4⟩:=J6p hc3
  have hq3:len3=(x.Calls).length:=by simpa using hl3
  subst hq3
  obtain ⟨_,rfl,hc5⟩:=J7z.1 hc4
  obtain ⟨d5,len5,_,J5,_,rfl,rfl,hl5,ht5,hc6⟩:=J6p hc5
  have hq5:len5=(x.Result.Heads).length:=by simpa using hl5
  subst hq5
  obtain ⟨_,rfl,hc7⟩:=J3o.1 hc6
  obtain ⟨rfl,rfl⟩:=J2t.1 hc7
  have S:=hstart _ (Kids.cons ht1 hnd hI2 fun hnd hI2=>(Kids.cons ht2 hnd hI2 fun hnd hI2=>(Kids.cons ht3 hnd hI2 fun hnd hI2=>(Kids.cons ht5 hnd hI2 fun hnd hI2=>Kids.nil))))
  have e:=S.e
  have w0:IntKind.i64.wrap (ki+1)=ki+1:=J0r (by omega)
  have w1:IntKind.i64.wrap (ki+1+J2d x.Patterns+J4s x.Guards+J65 x.Calls+1)=ki+1+J2d x.Patterns+J4s x.Guards+J65 x.Calls+1:=J0r (by omega)
  have w2:IntKind.i64.wrap (ki+1+J2d x.Patterns+J4s x.Guards+J65 x.Calls+1+J4s x.Result.Heads+1)=ki+1+J2d x.Patterns+J4s x.Guards+J65 x.Calls+1+J4s x.Result.Heads+1:=J0r (by omega)
  simp [hk,s5,hi,hw,s1,e,hlen,w0,w1,w2]
  intro _
  first|refine J01 (J1s (ki) (by omega)) (by simp) ?_|refine J02 (J1s (ki) (by omega)) (by simp) ?_
  rintro r rfl
  simp [hk,s5,hi,hw,s1,e,hlen,w0,w1,w2]
  refine RS.mark (T1:=[]) (Jgx _ _ (by omega)) S.store ?_
  clear S e
  intro h2 n2 S
  have e:=S.e
  simp [hk,s5,hi,hw,s1,e,hlen,w0,w1,w2]
  refine RS.mark (T1:=[_]) (Jcq _ _ (by omega)) S ?_
  clear S e
  intro h2 n2 S
  have e:=S.e
  simp [hk,s5,hi,hw,s1,e,hlen,w0,w1,w2]
  refine RS.mark (T1:=[_,_]) (Jlm _ _ (by omega)) S ?_
  clear S e
  intro h2 n2 S
  have e:=S.e
  simp [hk,s5,hi,hw,s1,e,hlen,w0,w1,w2]
  refine RS.mark (T1:=[_,_,_]) (Jcq _ _ (by omega)) S.store ?_
  clear S e
  intro h2 n2 S
  have e:=S.e
  simp [hk,s5,hi,hw,s1,e,hlen,w0,w1,w2]
  first|refine J01 (J1s (ki+1+J2d x.Patterns+J4s x.Guards+J65 x.Calls+1+J4s x.Result.Heads) (by omega)) (by simp) ?_|refine J02 (J1s (ki+1+J2d x.Patterns+J4s x.Guards+J65 x.Calls+1+J4s x.Result.Heads) (by omega)) (by simp) ?_
  rintro r rfl
  simp [hk,s5,hi,hw,s1,e,hlen,w0,w1,w2]
  have S:=S.store (cells':=[.str (mtx (ki)),.ref d1 0 (x.Patterns).length,.ref d2 0 (x.Guards).length,.ref d3 0 (x.Calls).length,.bool ((ki+1+J2d x.Patterns+J4s x.Guards+J65 x.Calls).tmod 3==0),.ref d5 0 (x.Result.Heads).length,.str (mtx (ki+1+J2d x.Patterns+J4s x.Guards+J65 x.Calls+1+J4s x.Result.Heads))])
  refine hR _ _ _ (by simp [hk]) (by simp) (hclose _ _ [.str (mtx (ki)),.ref d1 0 (x.Patterns).length,.ref d2 0 (x.Guards).length,.ref d3 0 (x.Calls).length,.bool ((ki+1+J2d x.Patterns+J4s x.Guards+J65 x.Calls).tmod 3==0),.ref d5 0 (x.Result.Heads).length,.str (mtx (ki+1+J2d x.Patterns+J4s x.Guards+J65 x.Calls+1+J4s x.Result.Heads))] _ _ S (J3o.2 ⟨_,rfl,(J3t (S.live.ids (_,.ref d1 0 _,J1) (by simp [Jcn])).1 (J3t (S.live.ids (_,.ref d2 0 _,J2) (by simp [Jcn])).1 (J3t (S.live.ids (_,.ref d3 0 _,J3) (by simp [Jcn])).1 (J7z.2 ⟨_,rfl,(J3t (S.live.ids (_,.ref d5 0 _,J5) (by simp [Jcn])).1 (J3o.2 ⟨_,rfl,(J2t.2 ⟨rfl,rfl⟩)⟩))⟩))))⟩) (by simp [i64,Jgc];try omega))
 ·rintro s h1 n1 R hk s5 hJ hret hX
  simp at hk
  obtain ⟨s1,hn1,hf,ht⟩:=hJ.fin
  simp [hk,s5,s1]
  refine ⟨J6x ht,fun _ => ?_⟩
  refine hX _ _ _ _ ?_
  simp [hk,s5,s1]
  exact hK _ _ hn1 hf ht
set_option maxHeartbeats 1000000 in
theorem Jjf (x:DProgram) (k:Int) (h0:0≤k∧k+J78 x≤4611686018427387904):J9d Tryz.prog 18 (.agg (J2k x)) k (.agg (J2k (Jke x k))) (k+J78 x):=by
 intro h n a I K hT hI hn hK
 obtain ⟨cs,rfl,hc0⟩:=Jxi.1 hT
 simp only [J78] at h0
 obtain ⟨d0,len0,_,J0,_,rfl,rfl,hl0,ht0,hc1⟩:=J6p hc0
 have hq0:len0=(x.Functions).length:=by simpa using hl0
 subst hq0
 obtain ⟨d1,len1,_,J1,_,rfl,rfl,hl1,ht1,hc2⟩:=J6p hc1
 have hq1:len1=(x.Rules).length:=by simpa using hl1
 subst hq1
 obtain ⟨rfl,rfl⟩:=J2t.1 hc2
 refine J17 Tryz.func18 a18_ok rfl (by simp [a18]) ?_
 simp [a18]
 have S:=RS.box (sz:=2) (cells:=[.ref d0 0 (x.Functions).length,.ref d1 0 (x.Rules).length]) (Kids.cons (ht0) hI hn fun hI hn=>(Kids.cons (ht1) hI hn fun hI hn=>Kids.nil)) hn
 refine RS.mark (T1:=[]) (Jfl x.Functions (k) (by omega)) S ?_
 clear S
 intro h2 n2 S
 have e:=S.e
 simp [e]
 refine RS.mark (T1:=[_]) (Jmz x.Rules (k+J5n x.Functions) (by omega)) S ?_
 clear S
 intro h2 n2 S
 have e:=S.e
 simp [e]
 have hb:=S.unbox
 have ht:TR h2 (.agg (J2k (Jke x k))) _ _:=Js4.2 (J3t (S.live.ids (.us 4 ((Jb6 x.Functions (k)).map J0g),.ref d0 0 (x.Functions).length,J0) (by simp)).1 (J3t (S.live.ids (.us 7 ((Jmj x.Rules (k+J5n x.Functions)).map J23),.ref d1 0 (x.Rules).length,J1) (by simp)).1 (J2t.2 ⟨rfl,rfl⟩)))
 have hk:=hK _ _ hb.1 hb.2 ht
 simp only [J78] at hk
 refine cast ?_ hk
 congr 2
 first|done|(simp;try omega)
def a130:AFn:= ⟨19,[.t 4],(.seq (.reg [Zo 4 (.mv (.k (.int .i64 0)))]) (.seq (.seq (.reg [Zo 5 (.mv (.k (.int .i64 0)))]) (.blk 0 (.loop (.seq (.seq (.reg [Zv 6 5,Zv 7 0,Zo 8 (.len false (.t 7)),Zo 9 (.bin .lss (.t 6) (.t 8))]) (.cond (.t 9) .skip (.exit 0))) (.seq (.blk 1 (.reg [Zv 12 0,Zv 13 5,Zo 14 (.ixa 1 (.t 12) (.t 13)),Zl 15 false 1 14,Zv 16 1,Zc 17 108 [.t 15,.t 16],Zv 1 17])) (.reg [Zv 10 5,Zo 11 (.bin .add (.t 10) (.k (.int .i64 1))),Zv 5 11])))))) (.seq (.reg [Zv 18 1,Zv 4 18]) .ret)))⟩
theorem a130_ok:J06 Tryz.prog Tryz.f130=some a130:=by kernel_rfl
set_option maxHeartbeats 1000000 in
theorem Jma (l:List (List DLin)) (k:Int) (h0:0≤k∧k+Jdn l≤4611686018427387904):J9d Tryz.prog 130 (.us 1 (l.map J1u)) k (.us 1 ((Jmf l k).map J1u)) (k+Jdn l):=by
 intro h n a I K hT hI hn hK
 obtain ⟨id,rows0,I0,rfl,_,hB,_⟩:=Jci hT
 simp only [List.length_map] at hT hB hK ⊢
 refine J4i Tryz.func130 rfl rfl (by rw [hB];simp) fun hlim => ?_
 refine J17 Tryz.func130 a130_ok rfl (by simp [a130]) ?_
 simp [a130]
 unfold Jdn at *
 refine J0l [0] 5 l.length (fun i s h1 n1=>MJ Jf3 J6m J1u 1 h n id I l k i (s 1) h1 n1) hlim (by simp) (by simpa using MJ.start hT) ?_ ?_
 ·rintro i s h1 n1 R hi hg hk s5 hw hJ hR hret _
  simp at hk
  obtain ⟨x,ki,rows,cells,I2,s1,hki,hki2,hlen,hc0,hnd,hI2,hstart,hclose⟩:=hJ.step2 hI hn hi
  simp only [J1u] at hc0
  obtain ⟨d0,len0,_,J0,_,rfl,rfl,hl0,ht0,hc1⟩:=J6p hc0
  have hq0:len0=(x).length:=by simpa using hl0
  subst hq0
  obtain ⟨rfl,rfl⟩:=J2t.1 hc1
  have S:=hstart _ (Kids.cons ht0 hnd hI2 fun hnd hI2=>Kids.nil)
  have e:=S.e
  simp [hk,s5,hi,hw,s1,e,hlen]
  intro _
  refine RS.mark (T1:=[]) (Jd7 _ _ (by omega)) S ?_
  clear S e
  intro h2 n2 S
  have e:=S.e
  simp [hk,s5,hi,hw,s1,e,hlen]
  refine hR _ _ _ (by simp [hk]) (by simp) (hclose _ _ [.ref d0 0 (x).length] _ _ S (J3t (S.live.ids (_,.ref d0 0 _,J0) (by simp)).1 (J2t.2 ⟨rfl,rfl⟩)) (by simp [i64];try omega))
 ·rintro s h1 n1 R hk s5 hJ hret hX
  simp at hk
  obtain ⟨s1,hn1,hf,ht⟩:=hJ.fin
  simp [hk,s5,s1]
  refine ⟨J6x ht,fun _ => ?_⟩
  refine hX _ _ _ _ ?_
  simp [hk,s5,s1]
  exact hK _ _ hn1 hf ht
end Go.Proofs.YtoclolkigjbcgaaGreat

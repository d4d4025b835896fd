/- Contracts: BoundObligations of the program. -/
import Derived.Test.YtoclolkigjbcgaaGreatJHSC
import Derived.Test.YtoclolkigjbcgaaGreatJHM4
namespace Go.Proofs.YtoclolkigjbcgaaGreat
set_option maxRecDepth 40000
set_option maxHeartbeats 4000000
open Go Go.RowKit Go.Proofs
set_option linter.all false
def K7t:AC:=(.reg [⟨some 36,.ld true 2 (.t 2),no⟩,⟨some 37,.ld true 2 (.t 3),no⟩,⟨some 38,.mv (.t 7),no⟩,⟨some 39,.call (.k (.fn (.func 104) [] [])) [.t 36,.t 37,.t 38],no⟩,⟨some 35,.mv (.t 39),no⟩,⟨some 40,.ext (.t 35) 0,no⟩,⟨some 41,.ext (.t 35) 1,no⟩,⟨some 8,.box [(.int .i64 0),(.nil 2),(.int .i64 0),(.nil 1)],no⟩,⟨no,.st 4 (.t 8) (.t 40),no⟩,⟨some 9,.mv (.t 41),no⟩])
def K8b:AC:=(.reg [⟨some 44,.mv (.t 6),no⟩,⟨some 45,.ld true 4 (.t 8),no⟩,⟨some 46,.bsl 4 [.t 45],no⟩,⟨some 47,.app 64 4 (.t 44) (.t 46),no⟩,⟨some 6,.mv (.t 47),no⟩])
def K9f:AC:=(.reg [⟨some 56,.ld true 2 (.t 2),no⟩,⟨some 57,.ld true 2 (.t 3),no⟩,⟨some 58,.mv (.t 10),no⟩,⟨some 59,.call (.k (.fn (.func 105) [] [])) [.t 56,.t 57,.t 58],no⟩,⟨some 55,.mv (.t 59),no⟩,⟨some 60,.ext (.t 55) 0,no⟩,⟨some 61,.ext (.t 55) 1,no⟩,⟨some 11,.box [(.int .i64 0),(.nil 2),(.int .i64 0),(.nil 1)],no⟩,⟨no,.st 4 (.t 11) (.t 60),no⟩,⟨some 12,.mv (.t 61),no⟩])
def K8n:AC:=(.reg [⟨some 64,.mv (.t 6),no⟩,⟨some 65,.ld true 4 (.t 11),no⟩,⟨some 66,.bsl 4 [.t 65],no⟩,⟨some 67,.app 64 4 (.t 64) (.t 66),no⟩,⟨some 6,.mv (.t 67),no⟩])
def bo0:AC:=(.reg [⟨some 2,.boxv (.t 0),no⟩,⟨some 3,.boxv (.t 1),no⟩,⟨some 4,.mv (.k (.nil 4)),no⟩,⟨some 5,.mv (.k (.bool false)),no⟩])
def bo1:AC:=(.seq (.reg [⟨some 13,.ld true 2 (.t 2),no⟩,⟨some 14,.call (.k (.fn (.func 67) [] [])) [.t 13],no⟩,⟨some 15,.un .not (.t 14),no⟩,⟨some 16,.mv (.t 15),no⟩,⟨some 17,.fld 0 (.t 3),(some (16,false))⟩,⟨some 18,.ld false 1 (.t 17),(some (16,false))⟩,⟨some 19,.call (.k (.fn (.func 102) [] [])) [.t 18,(.k (.int .i64 1)),(.k (.int .i64 2))],(some (16,false))⟩,⟨some 20,.un .not (.t 19),(some (16,false))⟩,⟨some 21,.pick (.t 16) (.k (.bool true)) (.t 20),no⟩,⟨some 22,.mv (.t 21),no⟩,⟨some 23,.ld true 2 (.t 2),(some (22,false))⟩,⟨some 24,.fld 1 (.t 3),(some (22,false))⟩,⟨some 25,.ld false 1 (.t 24),(some (22,false))⟩,⟨some 26,.call (.k (.fn (.func 103) [] [])) [.t 23,.t 25],(some (22,false))⟩,⟨some 27,.un .not (.t 26),(some (22,false))⟩,⟨some 28,.pick (.t 22) (.k (.bool true)) (.t 27),no⟩]) (.cond (.t 28) (.seq (.reg [⟨some 4,.mv (.k (.nil 4)),no⟩,⟨some 5,.mv (.k (.bool false)),no⟩]) .ret) .skip))
def bo2:AC:=(.reg [⟨some 6,.mv (.k (.nil 4)),no⟩])
def bo3:AC:=(.seq (.reg [⟨some 29,.fld 0 (.t 2),no⟩,⟨some 30,.ld false 1 (.t 29),no⟩,⟨some 31,.len false (.t 30),no⟩,⟨some 32,.mv (.k (.int .i64 0)),no⟩]) (.blk 0 (.loop (.seq (.reg [⟨some 33,.bin .lss (.t 32) (.t 31),no⟩]) (.seq (.cond (.t 33) .skip (.exit 0)) (.seq (.blk 1 (.seq (.reg [⟨some 34,.mv (.t 32),no⟩,⟨some 7,.mv (.t 34),no⟩]) (.seq  K7t (.seq (.seq (.reg [⟨some 42,.mv (.t 9),no⟩,⟨some 43,.un .not (.t 42),no⟩]) (.cond (.t 43) (.seq (.reg [⟨some 4,.mv (.k (.nil 4)),no⟩,⟨some 5,.mv (.k (.bool false)),no⟩]) .ret) .skip))  K8b)))) (.reg [⟨some 48,.bin .add (.t 32) (.k (.int .i64 1)),no⟩,⟨some 32,.mv (.t 48),no⟩])))))))
def bo4:AC:=(.seq (.reg [⟨some 49,.fld 1 (.t 2),no⟩,⟨some 50,.ld false 1 (.t 49),no⟩,⟨some 51,.len false (.t 50),no⟩,⟨some 52,.mv (.k (.int .i64 0)),no⟩]) (.blk 2 (.loop (.seq (.reg [⟨some 53,.bin .lss (.t 52) (.t 51),no⟩]) (.seq (.cond (.t 53) .skip (.exit 2)) (.seq (.blk 3 (.seq (.reg [⟨some 54,.mv (.t 52),no⟩,⟨some 10,.mv (.t 54),no⟩]) (.seq  K9f (.seq (.seq (.reg [⟨some 62,.mv (.t 12),no⟩,⟨some 63,.un .not (.t 62),no⟩]) (.cond (.t 63) (.seq (.reg [⟨some 4,.mv (.k (.nil 4)),no⟩,⟨some 5,.mv (.k (.bool false)),no⟩]) .ret) .skip))  K8n)))) (.reg [⟨some 68,.bin .add (.t 52) (.k (.int .i64 1)),no⟩,⟨some 52,.mv (.t 68),no⟩])))))))
def bo5:AC:=(.reg [⟨some 69,.mv (.t 6),no⟩,⟨some 4,.mv (.t 69),no⟩,⟨some 5,.mv (.k (.bool true)),no⟩])
def a33:AFn:=⟨70,[.t 4,.t 5],(.seq bo0 (.seq bo1 (.seq bo2 (.seq bo3 (.seq bo4 (.seq bo5 .ret))))))⟩
theorem a33_ok:J09 Tryz.prog Tryz.f33=some a33:=by kernel_rfl
def Jd6 (o:DObligation) (q:Nat) (h:Heap):Prop:=h (q+2)=some ⟨true,4,[[.int .i64 o.System.N,.ref q 0 o.System.Rows.length,.int .i64 o.Target.Const,.ref (q+1) 0 o.Target.Coeffs.length]]⟩∧h q=some ⟨false,2,o.System.Rows.map J08⟩∧h (q+1)=some ⟨false,1,J0k o.Target.Coeffs⟩
def goO:List DObligation→List (Option DObligation)→Option (List DObligation)
 | acc,[]=>some acc
 | _,Option.none::_=>Option.none
 | acc,some x::l=>goO (acc++[x]) l
def mdR (p:DProgram) (i:Int):DModel:=(J90 p i).getD J9e
def J97 (p:DProgram) (b:DBounds):List (Option DObligation):=(List.range p.Functions.length).map fun i:Nat=>(J75 b (b.Lins.getD i J1s)).map fun t=>⟨J5r p (p.Functions.getD i fn0).Name,t⟩
def J85 (p:DProgram) (b:DBounds):List (Option DObligation):=(List.range p.Rules.length).map fun i:Nat=>(J51 p b (mdR p i) (p.Rules.getD i Jix)).map fun t=>⟨(mdR p i).System,t⟩
def J1k (p:DProgram) (b:DBounds):Option (List DObligation):=if J2e p b then goO [] (J97 p b++J85 p b) else Option.none
def J93 (o:Option (List DObligation)):AV := .tup [.us 4 ((o.getD []).map J0a),.bool o.isSome]
theorem Jrb:∀ {l:List (Option DObligation)}{acc o:List DObligation},goO acc l=some o→o.length=acc.length+l.length
 | [],acc,o,h=>by simp only [goO,Option.some.injEq] at h;subst h;simp
 | Option.none::_,_,_,h=>by simp [goO] at h
 | some x::l,acc,o,h=>by
  simp only [goO] at h
  have:=Jrb h
  simp at this ⊢;omega
theorem Jn9 {p:DProgram}{b:DBounds}{i:Nat}(hi:i<p.Functions.length) (hb:b.Lins.length=p.Functions.length):(J97 p b).drop i=((J75 b (b.Lins[i]'(by omega))).map fun t=>(⟨J5r p (p.Functions[i]).Name,t⟩:DObligation))::(J97 p b).drop (i+1):=by
 have hl:i<(J97 p b).length:=by simpa [J97] using hi
 rw [List.drop_eq_getElem_cons hl]
 congr 1
 have hb':i<b.Lins.length:=by omega
 simp [J97,hi,hb']
theorem Jmq {p:DProgram}{b:DBounds}{i:Nat}(hi:i<p.Rules.length):(J85 p b).drop i=((J51 p b (mdR p i) p.Rules[i]).map fun t=>(⟨(mdR p i).System,t⟩:DObligation))::(J85 p b).drop (i+1):=by
 have hl:i<(J85 p b).length:=by simpa [J85] using hi
 rw [List.drop_eq_getElem_cons hl]
 congr 1
 simp [J85,hi]
theorem J6d {p:DProgram}{b:DBounds}(h:J2e p b=true):J34 p=true∧inR b.Kind 1 2=true∧b.Lins.length=p.Functions.length:=by
 unfold J2e Jjg at h
 simp only [Bool.and_eq_true,decide_eq_true_eq] at h
 exact ⟨h.1.1,h.1.2,h.2.1⟩
section
variable {ks:List Kt}{s:Env}{h h':Heap}{n:Nat}{Q:Fin}
theorem Jsd {p:DProgram}(hp:J0h p≤1048576) {b:DBounds}{i:Nat}(hi:i<p.Functions.length) (hb:i<b.Lins.length) (s2:s 2 = .ptr 0 0 0) (s3:s 3 = .ptr 1 0 0) (s7:s 7 = .int .i64 i) (e0:h 0=some ⟨true,2,[J02 p]⟩) (e1:h 1=some ⟨true,2,[J0g b]⟩)
 (hK:∀ s' h',(∀ j∈[2,3,4,5,6,30,31,32],s' j=s j)→s' 9 = .bool (J75 b b.Lins[i]).isSome→s' 8 = .ptr (n+2) 0 0→Jd6 ⟨J5r p (p.Functions[i]).Name,(J75 b b.Lins[i]).getD J1s⟩ n h'→(∀ id,id<n→h' id=h id)→J2l Tryz.prog ks .normal s' h' (n+3) Q):rC Tryz.prog K7t ks s h n Q:=by
 simp [K7t,s2,s3,s7,e0,e1]
 first|refine J00 (J6o p hp b hi hb) (by first|simp;done|rfl) ?_|refine J01 (J6o p hp b hi hb) (by first|simp;done|rfl) ?_
 rintro r rfl
 unfold Jxx
 generalize J5r p (p.Functions[i]).Name=S at *
 generalize J75 b b.Lins[i]=T at *
 simp [J0a]
 refine hK _ _ (by simp) (by simp) (by simp) (by simp [Jd6]) ?_
 intro id hid
 have:¬id=n∧¬id=n+1∧¬id=n+2:=by omega
 simp [this]
theorem Jtg {p:DProgram}(hp:J0h p≤1048576) {b:DBounds}(hb:b.Lins.length=p.Functions.length) {i:Nat}(hi:i<p.Rules.length) (hf:(J16 p.Functions (p.Rules[i]).Func).isSome=true) (hfc:∀ c∈(p.Rules[i]).Calls,(J16 p.Functions c.Func).isSome=true) (hcl:(p.Rules[i]).Calls.length≤2) (s2:s 2 = .ptr 0 0 0) (s3:s 3 = .ptr 1 0 0) (s10:s 10 = .int .i64 i) (e0:h 0=some ⟨true,2,[J02 p]⟩) (e1:h 1=some ⟨true,2,[J0g b]⟩)
 (hK:∀ s' h' o,(∀ j∈[2,3,4,5,6,50,51,52],s' j=s j)→s' 12 = .bool (J51 p b (mdR p i) p.Rules[i]).isSome→s' 11 = .ptr (n+2) 0 0→Jd6 o n h'→(∀ t,J51 p b (mdR p i) p.Rules[i]=some t→o=⟨(mdR p i).System,t⟩)→(∀ id,id<n→h' id=h id)→J2l Tryz.prog ks .normal s' h' (n+3) Q):rC Tryz.prog K9f ks s h n Q:=by
 simp [K9f,s2,s3,s10,e0,e1]
 refine J01 (Jdm p hp b hb hi hf hfc hcl) (by simp) ?_
 rintro _ ⟨o,rfl,ho⟩
 rw [show (J90 p i).getD J9e=mdR p i from rfl] at *
 generalize J51 p b (mdR p i) p.Rules[i]=T at *
 simp [J0a]
 refine hK _ _ o (by simp) (by simp) (by simp) (by simp [Jd6]) ho ?_
 intro id hid
 have:¬id=n∧¬id=n+1∧¬id=n+2:=by omega
 simp [this]
theorem K3q {acc:List DObligation}{o:DObligation}{v:AV}{q:Nat}{a:AC}(hacc:a=K8b∧s 8 = .ptr (q+2) 0 0∨a=K8n∧s 11 = .ptr (q+2) 0 0) (s6:s 6=v) (O:Jd6 o q h) (B:J46 1 4 (acc.map J0a) v h q) (hq:n=q+3) (hl:acc.length≤3000000)
 (hK:∀ s' h' n',(∀ j∈[2,3,4,5,30,31,32,50,51,52],s' j=s j)→n≤n'→(∀ id z rows,id<q→h id=some ⟨true,z,rows⟩→h' id=h id)→J46 1 4 ((acc++[o]).map J0a) (s' 6) h' n'→J2l Tryz.prog ks .normal s' h' n' Q):rC Tryz.prog a ks s h n Q:=by
 subst hq
 obtain ⟨o1,o2,o3⟩:=O
 have fr:∀ id,id<q→¬id=q∧¬id=q+1∧¬id=q+3:=by intro id _;omega
 rcases hacc with ⟨rfl,s8⟩|⟨rfl,s8⟩
 ·simp [K8b,s6,s8,o1,o2,o3]
  refine J38 (rows:=acc.map J0a) (rows2:=[[.int .i64 o.System.N,.us 2 (o.System.Rows.map J08),.int .i64 o.Target.Const,.us 1 (J0k o.Target.Coeffs)]]) (B.keep (n':=q+3+1) (by omega) fun id _ hid e=>by simp [fr id hid]) (by simp) (fun l e=>by have:=(B.lt e).2.1;omega) (by omega) (by simp;unfold LIM;omega) ?_
  intro h1 f1 f2
  simp
  refine hK _ _ _ (by simp) (by omega) ?_ ?_
  ·intro id z rows h1' h3'
   rw [f2 id (by omega) (by omega) fun l e=>B.not_box h3' e];simp [fr id h1']
  ·simp
   exact .inr ⟨q+4,by omega,by omega,by simp,by simp [f1,J0a]⟩
 ·simp [K8n,s6,s8,o1,o2,o3]
  refine J38 (rows:=acc.map J0a) (rows2:=[[.int .i64 o.System.N,.us 2 (o.System.Rows.map J08),.int .i64 o.Target.Const,.us 1 (J0k o.Target.Coeffs)]]) (B.keep (n':=q+3+1) (by omega) fun id _ hid e=>by simp [fr id hid]) (by simp) (fun l e=>by have:=(B.lt e).2.1;omega) (by omega) (by simp;unfold LIM;omega) ?_
  intro h1 f1 f2
  simp
  refine hK _ _ _ (by simp) (by omega) ?_ ?_
  ·intro id z rows h1' h3'
   rw [f2 id (by omega) (by omega) fun l e=>B.not_box h3' e];simp [fr id h1']
  ·simp
   exact .inr ⟨q+4,by omega,by omega,by simp,by simp [f1,J0a]⟩
theorem Jxs {p:DProgram}(hp:J0h p≤1048576) {b:DBounds}(hb:b.Lins.length=p.Functions.length) (hpo:J34 p=true) {l2:List (Option DObligation)}{F:Option (List DObligation)}(hn:1<n) (s2:s 2 = .ptr 0 0 0) (s3:s 3 = .ptr 1 0 0) (s6:s 6 = .nil 4) (e0:h 0=some ⟨true,2,[J02 p]⟩) (e1:h 1=some ⟨true,2,[J0g b]⟩) (hF:goO [] (J97 p b++l2)=F)
 (hret:F=Option.none→∀ s' h' n',s' 4 = .nil 4→s' 5 = .bool false→J2l Tryz.prog ks .ret s' h' n' Q)
 (hK:∀ s' h' n',(∀ j∈[2,3],s' j=s j)→1<n'→h' 0=some ⟨true,2,[J02 p]⟩→h' 1=some ⟨true,2,[J0g b]⟩→(∃ acc,acc.length≤3∧J46 1 4 (acc.map J0a) (s' 6) h' n'∧goO acc l2=F)→J2l Tryz.prog ks .normal s' h' n' Q):rC Tryz.prog bo3 ks s h n Q:=by
 have hfl:=(J5g hpo).2.2.1
 simp [bo3,s2,e0,J02]
 intro _
 refine J0m [2,3,30,31] 32 p.Functions.length (fun i s h m=>1<m∧h 0=some ⟨true,2,[J02 p]⟩∧h 1=some ⟨true,2,[J0g b]⟩∧∃ acc,acc.length=i∧J46 1 4 (acc.map J0a) (s 6) h m∧goO acc ((J97 p b).drop i++l2)=F) (by unfold LIM;omega) (by simp) ⟨hn,e0,e1,[],rfl,.inl ⟨rfl,by simp [s6]⟩,by simpa using hF⟩ ?_ ?_
 ·rintro i st h m R hi hg hk s32 hw' ⟨m1,e0,e1,acc,hal,B,hJ⟩ hR hrt _
  simp at hk
  have hib:i<b.Lins.length:=by omega
  rw [Jn9 hi hb,List.cons_append] at hJ
  refine J0i [2,3,6,30,31,32] (fun s=>s 33 = .bool true) (by simp [hk,s32,hi]) ?_
  intro st1 hk1 s33
  simp at hk1
  refine J41 s33 (J0c (J1p ?_))
  refine J0i [2,3,6,30,31,32] (fun s=>s 7 = .int .i64 i) (by simp [hk1,s32]) ?_
  intro st2 hk2 s7
  simp at hk2
  refine J0c (Jsd hp (b:=b) hi hib (by simp [hk2,hk1,hk,s2]) (by simp [hk2,hk1,hk,s3]) s7 e0 e1 ?_)
  intro st3 h3 hk3 s9 s8 O hfr
  simp at hk3
  generalize hT:J75 b b.Lins[i]=T at *
  cases T with
  | none=>
   simp only [Option.map_none,goO] at hJ
   simp [s9]
   exact hrt _ _ _ (hret hJ.symm _ _ _ (by simp) (by simp))
  | some t=>
   simp only [Option.map_some,goO] at hJ
   simp at O
   simp [s9]
   refine K3q (acc:=acc) (o:=⟨J5r p (p.Functions[i]).Name,t⟩) (v:=st 6) (q:=m) (.inl ⟨rfl,by simp [s8]⟩) (by simp [hk3,hk2,hk1]) O (B.keep (Nat.le_refl _) fun id _ hid _=>hfr id hid) rfl (by omega) ?_
   intro st4 h4 n4 hk4 hn4 bx4 B4
   simp at hk4
   have g0:=hfr 0 (by omega)
   have g1:=hfr 1 (by omega)
   rw [e0] at g0
   rw [e1] at g1
   simp [hk4,hk3,hk2,hk1,s32,hw']
   refine hR _ _ _ (by simp [hk4,hk3,hk2,hk1,hk]) (by simp) ⟨by omega,by rw [bx4 0 _ _ (by omega) g0,g0],by rw [bx4 1 _ _ (by omega) g1,g1],acc++[⟨J5r p (p.Functions[i]).Name,t⟩],by simp [hal],?_,hJ⟩
   simpa using B4
 ·rintro st h m R hk s32 ⟨m1,e0,e1,acc,hal,B,hJ⟩ _ hX
  simp at hk
  rw [List.drop_eq_nil_of_le (by simp [J97]),List.nil_append] at hJ
  refine J0i [2,3,6] (fun s=>s 33 = .bool false) (by simp [hk,s32]) ?_
  intro st1 hk1 s33
  simp at hk1
  refine J45 s33 ?_
  refine hX _ _ _ _ ?_
  simp
  refine hK _ _ _ (by simp [hk1,hk]) m1 e0 e1 ⟨acc,by omega,?_,hJ⟩
  rw [hk1.2.2];exact B
theorem Jxe {p:DProgram}(hp:J0h p≤1048576) {b:DBounds}(hb:b.Lins.length=p.Functions.length) (hpo:J34 p=true) {acc0:List DObligation}{F:Option (List DObligation)}(hn:1<n) (s2:s 2 = .ptr 0 0 0) (s3:s 3 = .ptr 1 0 0) (e0:h 0=some ⟨true,2,[J02 p]⟩) (e1:h 1=some ⟨true,2,[J0g b]⟩) (hal0:acc0.length≤3) (B0:J46 1 4 (acc0.map J0a) (s 6) h n) (hF:goO acc0 (J85 p b)=F)
 (hret:F=Option.none→∀ s' h' n',s' 4 = .nil 4→s' 5 = .bool false→J2l Tryz.prog ks .ret s' h' n' Q)
 (hK:∀ s' h' n' acc,J46 1 4 (acc.map J0a) (s' 6) h' n'→some acc=F→J2l Tryz.prog ks .normal s' h' n' Q):rC Tryz.prog bo4 ks s h n Q:=by
 have hrl:=(J5g hpo).2.2.2
 simp [bo4,s2,e0,J02]
 intro _
 refine J0m [2,3,50,51] 52 p.Rules.length (fun i s h m=>1<m∧h 0=some ⟨true,2,[J02 p]⟩∧h 1=some ⟨true,2,[J0g b]⟩∧∃ acc,acc.length=acc0.length+i∧J46 1 4 (acc.map J0a) (s 6) h m∧goO acc ((J85 p b).drop i)=F) (by unfold LIM;omega) (by simp) ⟨hn,e0,e1,acc0,rfl,by simpa using B0,by simpa using hF⟩ ?_ ?_
 ·rintro i st h m R hi hg hk s52 hw' ⟨m1,e0,e1,acc,hal,B,hJ⟩ hR hrt _
  simp at hk
  obtain ⟨f,hff,RI⟩:=Jci hpo (List.getElem_mem hi)
  have hfc:=Jih RI.calls
  have hcl:=RI.ncalls
  rw [Jmq hi] at hJ
  refine J0i [2,3,6,50,51,52] (fun s=>s 53 = .bool true) (by simp [hk,s52,hi]) ?_
  intro st1 hk1 s53
  simp at hk1
  refine J41 s53 (J0c (J1p ?_))
  refine J0i [2,3,6,50,51,52] (fun s=>s 10 = .int .i64 i) (by simp [hk1,s52]) ?_
  intro st2 hk2 s10
  simp at hk2
  refine J0c (Jtg hp (b:=b) hb hi (by rw [hff];rfl) hfc hcl (by simp [hk2,hk1,hk,s2]) (by simp [hk2,hk1,hk,s3]) s10 e0 e1 ?_)
  intro st3 h3 o hk3 s12 s11 O ho hfr
  simp at hk3
  generalize hT:J51 p b (mdR p i) p.Rules[i]=T at *
  cases T with
  | none=>
   simp only [Option.map_none,goO] at hJ
   simp [s12]
   exact hrt _ _ _ (hret hJ.symm _ _ _ (by simp) (by simp))
  | some t=>
   simp only [Option.map_some,goO] at hJ
   obtain rfl:=ho t rfl
   simp [s12]
   refine K3q (acc:=acc) (o:=⟨(mdR p i).System,t⟩) (v:=st 6) (q:=m) (.inr ⟨rfl,by simp [s11]⟩) (by simp [hk3,hk2,hk1]) O (B.keep (Nat.le_refl _) fun id _ hid _=>hfr id hid) rfl (by omega) ?_
   intro st4 h4 n4 hk4 hn4 bx4 B4
   simp at hk4
   have g0:=hfr 0 (by omega)
   have g1:=hfr 1 (by omega)
   rw [e0] at g0
   rw [e1] at g1
   simp [hk4,hk3,hk2,hk1,s52,hw']
   refine hR _ _ _ (by simp [hk4,hk3,hk2,hk1,hk]) (by simp) ⟨by omega,by rw [bx4 0 _ _ (by omega) g0,g0],by rw [bx4 1 _ _ (by omega) g1,g1],acc++[⟨(mdR p i).System,t⟩],by simp [hal];omega,?_,hJ⟩
   simpa using B4
 ·rintro st h m R hk s52 ⟨m1,e0,e1,acc,hal,B,hJ⟩ _ hX
  simp at hk
  rw [List.drop_eq_nil_of_le (by simp [J85])] at hJ
  refine J0i [2,3,6] (fun s=>s 53 = .bool false) (by simp [hk,s52]) ?_
  intro st1 hk1 s53
  simp at hk1
  refine J45 s53 ?_
  refine hX _ _ _ _ ?_
  simp
  refine hK _ _ _ acc ?_ hJ
  rw [hk1.2.2];exact B
end
theorem J4d (p:DProgram) (hp:J0h p≤1048576) (b:DBounds):Holds Tryz.prog 33 [.agg (J02 p),.agg (J0g b)] (fun x=>x=J93 (J1k p b)):=by
 refine J03 Tryz.func33 a33_ok rfl (by simp [a33]) ?_
 simp [a33,bo0]
 rw [←Jan]
 refine J1i [2,3,4,5] (fun s h2 n2=>J2e p b=true∧n2=2∧h2 0=some ⟨true,2,[J02 p]⟩∧h2 1=some ⟨true,2,[J0g b]⟩) ?_ ?_
 ·simp [bo1]
  first|refine J00 (J3g p hp) (by first|simp;done|rfl) ?_|refine J01 (J3g p hp) (by first|simp;done|rfl) ?_
  rintro r rfl
  have hret:J1k p b=Option.none→True:=fun _=>trivial
  clear hret
  cases hpo:J34 p
  ·have:J1k p b=Option.none:=by simp [J1k,J2e,hpo]
   simp [this,J93]
  simp [J0g]
  first|refine J00 (J1y b.Kind 1 2) (by first|simp;done|rfl) ?_|refine J01 (J1y b.Kind 1 2) (by first|simp;done|rfl) ?_
  rintro r rfl
  cases hin:inR b.Kind 1 2
  ·have:J1k p b=Option.none:=by simp [J1k,J2e,hin]
   simp [this,J93]
  simp [J0g]
  first|refine J00 (Jml p b.Lins) (by first|simp [J02];done|rfl) ?_|refine J01 (Jml p b.Lins) (by first|simp [J02];done|rfl) ?_
  rintro r rfl
  cases hlb:Jjg p.Functions b.Lins
  ·have:J1k p b=Option.none:=by simp [J1k,J2e,hlb]
   simp [this,J93]
  simp [J2e,hpo,hin,hlb,J0g]
 rintro st1 h1 _ hk1 ⟨hB,rfl,e0,e1⟩
 simp at hk1
 obtain ⟨hpo,hin,hbl⟩:=J6d hB
 have hbo:J1k p b=goO [] (J97 p b++J85 p b):=by simp [J1k,hB]
 rw [hbo]
 clear hbo
 generalize hF:goO [] (J97 p b++J85 p b)=F
 simp [bo2]
 refine Jxs hp hbl hpo (F:=F) (l2:=J85 p b) (by omega) (by simp [hk1]) (by simp [hk1]) (by simp) e0 e1 hF ?_ ?_
 ·rintro rfl s' h' n' s4 s5
  simp [s4,s5,J93]
 rintro st2 h2 n2 hk2 hn2 f0 f1 ⟨acc,hal,B,hJ⟩
 simp at hk2
 simp
 refine Jxe hp hbl hpo (F:=F) hn2 (by simp [hk2,hk1]) (by simp [hk2,hk1]) f0 f1 hal B hJ ?_ ?_
 ·rintro rfl s' h' n' s4 s5
  simp [s4,s5,J93]
 rintro st3 h3 n3 acc3 B3 rfl
 obtain ⟨h4,d1,_⟩:=B3.dt
 simp [bo5,-dt,-dtl,J93]
 simp [dt,dtl,d1]
def a60:AFn:= ⟨23,[.t 2],(.seq (.reg [⟨some 1,.boxv (.t 0),no⟩,⟨some 2,.mv (.k (.nil 1)),no⟩]) (.seq (.reg [⟨some 5,.bsl 1 [],no⟩,⟨some 3,.mv (.t 5),no⟩]) (.seq (.seq (.reg [⟨some 4,.mv (.k (.int .i64 0)),no⟩]) (.blk 0 (.loop (.seq (.seq (.reg [⟨some 6,.mv (.t 4),no⟩,⟨some 7,.fld 0 (.t 1),no⟩,⟨some 8,.ld false 1 (.t 7),no⟩,⟨some 9,.len false (.t 8),no⟩,⟨some 10,.bin .lss (.t 6) (.t 9),no⟩]) (.cond (.t 10) .skip (.exit 0))) (.seq (.blk 1 (.reg [⟨some 13,.mv (.t 3),no⟩,⟨some 14,.fld 0 (.t 1),no⟩,⟨some 15,.ld false 1 (.t 14),no⟩,⟨some 16,.mv (.t 4),no⟩,⟨some 17,.ixa 4 (.t 15) (.t 16),no⟩,⟨some 18,.fld 0 (.t 17),no⟩,⟨some 19,.ld false 1 (.t 18),no⟩,⟨some 20,.bsl 1 [.t 19],no⟩,⟨some 21,.app 16 1 (.t 13) (.t 20),no⟩,⟨some 3,.mv (.t 21),no⟩])) (.reg [⟨some 11,.mv (.t 4),no⟩,⟨some 12,.bin .add (.t 11) (.k (.int .i64 1)),no⟩,⟨some 4,.mv (.t 12),no⟩])))))) (.seq (.reg [⟨some 22,.mv (.t 3),no⟩,⟨some 2,.mv (.t 22),no⟩]) .ret))))⟩
theorem a60_ok:J09 Tryz.prog Tryz.f60=some a60:=by kernel_rfl
theorem Jex (p:DProgram) (hp:J0h p≤1048576):Holds Tryz.prog 60 [.agg (J02 p)] (fun x=>x = .us 1 (J0d (J9c p))):=by
 have hfl:p.Functions.length≤1048576:=by have:=J2h J0w p.Functions;unfold J0h J21 at hp;omega
 refine J03 Tryz.func60 a60_ok rfl (by simp [a60]) ?_
 simp [a60,J02]
 generalize hT:J9c p=T
 have hTl:T.length=p.Functions.length:=by rw [←hT];simp [J9c]
 refine J0m [1] 4 p.Functions.length (fun i s h n=>h 0=some ⟨true,2,[J02 p]⟩∧∃ (acc:List Str) (id:Nat),acc++T.drop i=T∧0<id∧id<n∧s 3 = .ref id 0 acc.length∧h id=some ⟨false,1,J0d acc⟩) (by unfold LIM;omega) (by simp) ⟨by simp [J02],[],1,by simp,by simp,by simp,by simp,by simp [J0d]⟩ ?_ ?_
 ·rintro i st h n R hi hg hk s4 hw ⟨e0,acc,id,hJ,hid0,hid,s3,eid⟩ hR hret _
  simp at hk
  have hin:i<T.length:=by omega
  have hni:T[i]=(p.Functions[i]).Name:=by subst hT;simp [J9c]
  rw [List.drop_eq_getElem_cons hin,hni] at hJ
  have hal:=congrArg List.length hJ
  simp only [List.length_append,List.length_cons] at hal
  have z0:¬id=n:=by omega
  have z1:¬id=n+1:=by omega
  have z2:¬n+1=id:=by omega
  have z3:¬n=id:=by omega
  have z4:¬0=id:=by omega
  have z5:¬0=n:=by omega
  have z6:¬n=0:=by omega
  have z7:¬id=0:=by omega
  simp [hk,s4,hi,e0,J02,J04,s3,eid,z0,z1,z2,z3,z4,z5,z6,z7,hw]
  intro _
  refine ⟨by unfold LIM;omega,?_⟩
  exact hR _ _ _ (by simp [hk]) (by simp) ⟨by simp [e0,z0,z1,z2,z3,z4,z5,z6,z7,J02],acc++[(p.Functions[i]).Name],n+1,by simpa using hJ,by omega,by omega,by simp,by simp [J0d,List.take_of_length_le]⟩
 rintro st h n R hk s4 ⟨e0,acc,id,hJ,hid0,hid,s3,eid⟩ hret hX
 simp at hk
 rw [List.drop_eq_nil_of_le (by omega),List.append_nil] at hJ
 subst hJ
 simp [hk,s4,e0,J02]
 intro _
 refine hX _ _ _ _ ?_
 simp [s3,eid]
def a270:AFn:= ⟨10,[.t 4],(.seq (.reg [⟨some 4,.mv (.k (.int .i64 0)),no⟩]) (.seq (.seq (.reg [⟨some 5,.mv (.t 0),no⟩,⟨some 6,.mv (.t 1),no⟩,⟨some 7,.bin .gtr (.t 5) (.t 6),no⟩]) (.cond (.t 7) (.seq (.reg [⟨some 8,.mv (.t 0),no⟩,⟨some 4,.mv (.t 8),no⟩]) .ret) .skip)) (.seq (.reg [⟨some 9,.mv (.t 1),no⟩,⟨some 4,.mv (.t 9),no⟩]) .ret)))⟩
theorem a270_ok:J09 Tryz.prog Tryz.f270=some a270:=by kernel_rfl
def a186:AFn:= ⟨15,[(.c 6 true 2)],(.seq (.reg [⟨some 3,.boxv (.t 0),no⟩,⟨some 6,.box [(.int .i64 0),(.nil 1)],no⟩]) (.seq (.reg [⟨some 7,.mv (.t 1),no⟩,⟨some 8,.ld true 2 (.t 3),no⟩,⟨some 9,.call (.k (.fn (.func 60) [] [])) [.t 8],no⟩,⟨some 10,.mv (.t 2),no⟩,⟨some 11,.call (.k (.fn (.func 63) [] [])) [.t 9,.t 10],no⟩,⟨some 12,.call (.k (.fn (.func 270) [] [])) [.t 11,(.k (.int .i64 0))],no⟩,⟨some 13,.ixa 2 (.t 7) (.t 12),no⟩,⟨some 14,.ld true 2 (.t 13),no⟩,⟨no,.st 2 (.t 6) (.t 14),no⟩]) .ret))⟩
theorem a186_ok:J09 Tryz.prog Tryz.f186=some a186:=by kernel_rfl
theorem Jk4 {t:DLin}{n k:Int}(h:J1j t n=true) (hk:0≤k∧k≤1048576):J0l t (-1) (J05 k n)=J61 t (-k):=by
 have hl:=J1t h
 have hkc:okC k=true:=by rw [Jfr];omega
 have hkn:okC (-k)=true:=by rw [Jfr];omega
 have hc:J05 k n=⟨k,List.replicate n.toNat 0⟩:=by
  unfold J05
  rw [if_pos (by rw [hkc];simp [inR];omega)]
 have hm1:okC (-1)=true:=by decide
 have hz:∀ c,okC c=true→J2b c (-1) 0=some c:=fun c hc=>by
  have h0:okC 0=true:=by decide
  simp [J2b,Jds,Jgy,h0,hm1,hc]
 have h1:J2b t.Const (-1) k=if (Jgy t.Const (-k)).2 then some (Jgy t.Const (-k)).1 else Option.none:=by
  simp [J2b,Jds,hm1,hkc,hkn]
 have hok:J1j t t.Coeffs.length=true:=by rw [hl.1];exact h
 have hok2:J1j (J05 k n) t.Coeffs.length=true:=by
  rw [hc];unfold J1j
  simp [inR]
  exact ⟨⟨⟨by omega,by omega⟩,hkc⟩,.inr (by decide)⟩
 have hall:t.Coeffs.all okC=true:=by
  unfold J1j at h;simp at h;simpa using h.2
 have hZ:J50 t (-1) (J05 k n)=t.Coeffs.map some:=by
  rw [hc]
  unfold J50
  refine List.ext_getElem (by simp;omega) fun i h1 h2 => ?_
  simp
  exact hz _ (List.all_eq_true.1 hall _ (List.getElem_mem _))
 have hO:Jd5 t (-1) (J05 k n)=true:=by unfold Jd5;rw [hZ];simp
 unfold J0l J61
 rw [hok,hok2,hO,hZ]
 have hc1:(J05 k n).Const=k:=by rw [hc]
 rw [hc1,h1,hm1]
 cases (Jgy t.Const (-k)).2 <;> simp [Function.comp_def]
theorem Jjq {n:Nat} : ∀ {xs:List Str}{a:MS},(xs.foldl (J98 n) a).pars=a.pars++Jnl n xs a.nx
 | [],a=>by simp [Jnl]
 | x::xs,a=>by
  rw [List.foldl_cons,Jjq]
  simp [J98,Jnl]
theorem Jnh {p:DProgram}{r:DRule}{f:DFunction}(R:RuleIn p r f):(J56 r f).Params=(List.range f.Params.length).map fun i:Nat=>J2n i (J0x r f):=by
 have h1:(J56 r f).Params=(ss5 r f).pars:=rfl
 have h2:(ss5 r f).pars=(ss3 r f).pars:=by
  unfold ss5
  rw [Jf7.2.1];rfl
 have h3:(ss3 r f).pars=(ss1 r f).pars:=by
  unfold ss3
  rw [Jew];rfl
 have h4:(ss1 r f).pars=Jnl (J0x r f) f.Params 0:=by
  unfold ss1
  rw [Jjq];simp
 rw [h1,h2,h3,h4,Jkh R.par]
theorem Jvb {p:DProgram}(h1:J34 p=true) {i:Nat}(hi:i<p.Rules.length) {f:DFunction}(hf:J16 p.Functions (p.Rules[i]).Func=some f):mdR p i=J56 p.Rules[i] f:=by
 have hg:p.Rules.getD (i:Int).toNat Jix=p.Rules[i]:=by simp [hi]
 have hin:inR (i:Int) 0 ((p.Rules.length:Int) - 1)=true:=by simp [inR];omega
 have hfa:Jnz p p.Rules[i]=f:=by unfold Jnz;rw [hf];rfl
 unfold mdR J90
 simp only [h1,hin,hg,hfa,Bool.and_self,if_true,Option.getD_some]
theorem Jrf {p:DProgram}{b:DBounds}(hB:J2e p b=true) {j:Nat}(hj:j<p.Functions.length) (hj':j<b.Lins.length):J1j b.Lins[j] (p.Functions[j]).Params.length=true:=by
 unfold J2e Jjg at hB
 simp only [Bool.and_eq_true,decide_eq_true_eq,List.all_eq_true] at hB
 have hm:(b.Lins[j],p.Functions[j])∈b.Lins.zip p.Functions:=by
  rw [List.mem_iff_getElem]
  exact ⟨j,by simp;omega,by simp⟩
 exact hB.2.2 _ hm
theorem Jub {p:DProgram}{b:DBounds}(hB:J2e p b=true) {name:Str}{f:DFunction}(hf:J16 p.Functions name=some f):J1j (J52 p b name) f.Params.length=true:=by
 obtain ⟨_,_,hbl⟩:=J6d hB
 rcases J7r (p:=fun f:DFunction=>f.Name==name) (l:=p.Functions) (k:=0) with ⟨h1,_⟩|⟨j,hj,h1,_⟩
 ·unfold J16 at hf;rw [h1] at hf;cases hf
 ·rename_i h2
  unfold J16 at hf
  rw [h2,Option.some.injEq] at hf
  have hj':j<b.Lins.length:=by omega
  have hl:J52 p b name=b.Lins[j]:=by unfold J52;rw [h1];simp [hj']
  rw [hl,←hf]
  exact Jrf hB hj hj'
theorem Jtt {l:DLin}{m n:Nat}(hmn:m≤n) (hn:n≤8) (h:J1j l m=true):J1j (J3k n l) n=true:=by
 have hl:=J1t h
 unfold J1j at h ⊢
 simp only [Bool.and_eq_true,decide_eq_true_eq,List.all_eq_true] at h ⊢
 refine ⟨⟨⟨by simp [inR];omega,by simp [J3k];omega⟩,h.1.2⟩,?_⟩
 intro y hy
 simp only [J3k,List.mem_append,List.mem_replicate] at hy
 rcases hy with hy|⟨_,rfl⟩
 ·exact h.2 _ hy
 ·decide
theorem Jp5 {p:DProgram}{b:DBounds}(hB:J2e p b=true) {i:Nat}(hi:i<p.Rules.length):∃ t,J1w (J52 p b (p.Rules[i]).Func) (mdR p i).Params (mdR p i).System.N=some t∧J1j t (mdR p i).System.N=true:=by
 obtain ⟨hpo,_,_⟩:=J6d hB
 obtain ⟨f,hf,R⟩:=Jci hpo (List.getElem_mem hi)
 rw [Jvb hpo hi hf,Jnh R]
 have hN:(J56 p.Rules[i] f).System.N=(J0x p.Rules[i] f:Nat):=rfl
 rw [hN]
 have hs:=R.size
 have hmn:f.Params.length≤J0x p.Rules[i] f:=by unfold J0x;omega
 have hl:=Jub hB hf
 exact ⟨_,Jf3 R.par hmn (by omega) hl,Jtt hmn (by omega) hl⟩
theorem Jwr {l:List DFunction}(hn:(l.map (·.Name)).Nodup) {i:Nat}(hi:i<l.length):J16 l (l[i]).Name=some l[i]:=by
 unfold J16
 cases h:l.find? fun f=>f.Name==(l[i]).Name with
 | none=>
  have:=List.find?_eq_none.1 h _ (List.getElem_mem hi)
  simp at this
 | some g=>
  have hg:=List.find?_some h
  have hm:=List.mem_of_find?_eq_some h
  simp only [beq_iff_eq] at hg
  obtain ⟨j,hj,rfl⟩:=List.mem_iff_getElem.1 hm
  have hij:j=i:=by
   have h1:(l.map (·.Name))[j]'(by simpa using hj)=(l.map (·.Name))[i]'(by simpa using hi):=by simpa using hg
   rcases Nat.lt_trichotomy j i with h|h|h
   ·exact absurd h1 (List.pairwise_iff_getElem.1 hn j i (by simpa using hj) (by simpa using hi) h)
   ·exact h
   ·exact absurd h1.symm (List.pairwise_iff_getElem.1 hn i j (by simpa using hi) (by simpa using hj) h)
  subst hij;rfl
theorem K2s {p:DProgram}(hpo:J34 p=true) {i:Nat}(hi:i<p.Functions.length):(J5r p (p.Functions[i]).Name).N=((p.Functions[i]).Params.length:Nat):=by
 have h1:=Jwr (J5g hpo).1 hi
 unfold J5r Jof
 rw [hpo,if_pos rfl,h1];rfl
theorem Jyv {p:DProgram}{b:DBounds}(hB:J2e p b=true) {i:Nat}(hi:i<p.Functions.length) (hb:i<b.Lins.length):J0l b.Lins[i] (-1) (J05 (J3v b.Kind) (J5r p (p.Functions[i]).Name).N)=J75 b b.Lins[i]:=by
 rw [K2s (J6d hB).1 hi]
 unfold J75
 exact Jk4 (Jrf hB hi hb) (by unfold J3v;split <;> omega)
theorem Jms (x y:Int):Holds Tryz.prog 270 [i64 x,i64 y] (fun r=>r=i64 (if x>y then x else y)):=by
 refine J03 Tryz.func270 a270_ok rfl (by simp [a270]) ?_
 simp [a270]
 refine ⟨fun _ _=>by omega,fun _ _=>by omega⟩
theorem Jqs {name:Str} : ∀ {l:List DFunction}{k:Nat},J1f (fun x=>x==name) (l.map (·.Name)) k=J1f (fun f:DFunction=>f.Name==name) l k
 | [],_=>rfl
 | f::l,k=>by
  simp only [List.map_cons,J1f]
  rw [Jqs]
theorem Jr9 {P:Program}{f:FuncId}{xs:List AV}{h:Heap}{n:Nat}{K:AV→Heap→Nat→Prop}
 (hA:J25 P f xs h n fun r h' _=>idb n r∧(∀ id,id<n→h' id=h id)∧K r h n):J25 P f xs h n K:=by
 refine ⟨hA.1,fun base w0 w L F vs H hv => ?_⟩
 refine (hA.2 base w0 w L F vs H hv).mono ?_
 rintro e w' ⟨v,r,L',n',F',h',rfl,H',J7h,hr,hs,hh,hk⟩
 refine ⟨v,r,Jt7 n L',n,_,h,rfl,H.cut H' hh,?_,Jam (Ext.cut _ _ _) _ _ _ (Je5 _ _ _ hr hs),hk⟩
 exact ⟨Nat.le_refl _,fun id l hid hl=>J7h.old id l hid (J6e hl).2,J7h.size,fun b hb ho=>⟨(J7h.block b hb ho).1,fun h=>(J7h.block b hb ho).2 h.cut⟩⟩
theorem Jtw {p:DProgram}(hp:J0h p≤1048576) {b:DBounds}{name:Str}(hf:(J16 p.Functions name).isSome=true) (hb:b.Lins.length=p.Functions.length) {h:Heap}{n:Nat}{K:AV→Heap→Nat→Prop}
 (hK:K (.agg (J06 (J52 p b name))) h n):J25 Tryz.prog 186 [.agg (J02 p),.sl 2 (b.Lins.map J06),.str name] h n K:=by
 obtain ⟨j,hj,hji⟩:=Jqm hf
 have hjl:j<b.Lins.length:=by omega
 have hl:J52 p b name=b.Lins[j]:=by unfold J52;rw [hji];simp [hjl]
 rw [hl] at hK
 have ne:¬n=n+1∧¬n+1=n∧¬n=n+1+1∧¬n+1=n+1+1:=by omega
 have fr:∀ id,id<n→¬id=n∧¬id=n+1∧¬id=n+1+1:=by intro id _;omega
 refine Jr9 (J0z Tryz.func186 a186_ok rfl (by simp [a186]) ?_)
 simp [a186,J02]
 first|refine J00 (Jex p hp) (by first|simp [J02];done|rfl) ?_|refine J01 (Jex p hp) (by first|simp [J02];done|rfl) ?_
 rintro r rfl
 simp
 first|refine J00 (J49 (J9c p) name) (by first|simp [ne];done|rfl) ?_|refine J01 (J49 (J9c p) name) (by first|simp [ne];done|rfl) ?_
 rintro r rfl
 have hx:J1f (fun x=>x==name) (J9c p) 0=(j:Int):=by unfold J9c;rw [Jqs,hji]
 simp [hx]
 first|refine J00 (Jms (j:Int) 0) (by first|simp;done|rfl) ?_|refine J01 (Jms (j:Int) 0) (by first|simp;done|rfl) ?_
 rintro r rfl
 have hm:(if (j:Int)>0 then (j:Int) else 0)=j:=by split <;> omega
 rw [hm]
 simp [hjl,J06,ne]
 refine ⟨by simp [idb,Jil],?_,hK⟩
 intro id hid
 simp [fr id hid]
theorem Jc1 {p:DProgram}(hp:J0h p≤1048576) {b:DBounds}{name:Str}(hf:(J16 p.Functions name).isSome=true) (hb:b.Lins.length=p.Functions.length) {h:Heap}{n:Nat}{K:AV→Heap→Nat→Prop}
 (hk:K (.agg (J06 (J52 p b name))) h n):J25 Tryz.prog 186 [.agg (J02 p),.sl 2 (b.Lins.map J06),.str name] h n (hK h K):=Jtw hp hf hb (by simpa using hk)
def uz0:AC:=(.reg [⟨some 2,.boxv (.t 0),no⟩,⟨some 3,.boxv (.t 1),no⟩,⟨some 4,.mv (.k (.bool false)),no⟩])
def uz1:AC:=(.seq (.reg [⟨some 6,.ld true 2 (.t 2),no⟩,⟨some 7,.call (.k (.fn (.func 61) [] [])) [.t 6],no⟩,⟨some 8,.un .not (.t 7),no⟩,⟨some 9,.mv (.t 8),no⟩,⟨some 10,.fld 0 (.t 3),(some (9,false))⟩,⟨some 11,.ld false 1 (.t 10),(some (9,false))⟩,⟨some 12,.bin .neq (.t 11) (.k (.int .i64 1)),(some (9,false))⟩,⟨some 13,.mv (.t 12),(some (9,false))⟩,⟨some 14,.fld 0 (.t 3),(some (13,true))⟩,⟨some 15,.ld false 1 (.t 14),(some (13,true))⟩,⟨some 16,.bin .neq (.t 15) (.k (.int .i64 2)),(some (13,true))⟩,⟨some 17,.pick (.t 13) (.t 16) (.k (.bool false)),(some (9,false))⟩,⟨some 18,.pick (.t 9) (.k (.bool true)) (.t 17),no⟩,⟨some 19,.mv (.t 18),no⟩,⟨some 20,.fld 1 (.t 3),(some (19,false))⟩,⟨some 21,.ld false 1 (.t 20),(some (19,false))⟩,⟨some 22,.len false (.t 21),(some (19,false))⟩,⟨some 23,.fld 0 (.t 2),(some (19,false))⟩,⟨some 24,.ld false 1 (.t 23),(some (19,false))⟩,⟨some 25,.len false (.t 24),(some (19,false))⟩,⟨some 26,.bin .neq (.t 22) (.t 25),(some (19,false))⟩,⟨some 27,.pick (.t 19) (.k (.bool true)) (.t 26),no⟩]) (.cond (.t 27) (.seq (.reg [⟨some 4,.mv (.k (.bool false)),no⟩]) .ret) .skip))
def uz2:AC:=(.seq (.reg [⟨some 5,.mv (.k (.int .i64 0)),no⟩]) (.blk 0 (.loop (.seq (.seq (.reg [⟨some 28,.mv (.t 5),no⟩,⟨some 29,.fld 1 (.t 3),no⟩,⟨some 30,.ld false 1 (.t 29),no⟩,⟨some 31,.len false (.t 30),no⟩,⟨some 32,.bin .lss (.t 28) (.t 31),no⟩]) (.cond (.t 32) .skip (.exit 0))) (.seq (.blk 1 (.seq (.draw (.op ⟨some 35,.fld 1 (.t 3),no⟩ (.op ⟨some 36,.ld false 1 (.t 35),no⟩ (.op ⟨some 37,.mv (.t 5),no⟩ (.op ⟨some 38,.ixa 2 (.t 36) (.t 37),no⟩ (.op ⟨some 39,.ld true 2 (.t 38),no⟩ (.op ⟨some 40,.fld 0 (.t 2),no⟩ (.op ⟨some 41,.ld false 1 (.t 40),no⟩ (.op ⟨some 42,.mv (.t 5),no⟩ (.op ⟨some 43,.ixa 4 (.t 41) (.t 42),no⟩ (.op ⟨some 44,.fld 1 (.t 43),no⟩ (.op ⟨some 45,.ld false 1 (.t 44),no⟩ (.op ⟨some 46,.len false (.t 45),no⟩ (.op ⟨some 47,.call (.k (.fn (.func 179) [] [])) [.t 39,.t 46],no⟩ (.op ⟨some 48,.un .not (.t 47),no⟩ .fin))))))))))))))) (.cond (.t 48) (.seq (.reg [⟨some 4,.mv (.k (.bool false)),no⟩]) .ret) .skip))) (.reg [⟨some 33,.mv (.t 5),no⟩,⟨some 34,.bin .add (.t 33) (.k (.int .i64 1)),no⟩,⟨some 5,.mv (.t 34),no⟩]))))))
def uz3:AC:=(.reg [⟨some 4,.mv (.k (.bool true)),no⟩])
def a96:AFn:=⟨49,[.t 4],(.seq uz0 (.seq uz1 (.seq uz2 (.seq uz3 .ret))))⟩
theorem a96_ok:J09 Tryz.prog Tryz.f96=some a96:=by kernel_rfl
theorem Jqt {k:Int} : inR k 1 2=true↔k=1∨k=2:=by simp [inR];omega
theorem Jg4 (p:DProgram) (hp:J0h p≤1048576) (b:DBounds):Holds Tryz.prog 96 [.agg (J02 p),.agg (J0g b)] (fun x=>x = .bool (J2e p b)):=by
 refine J1e Tryz.func96 rfl rfl fun hlm => ?_
 simp [J02,J0g] at hlm
 refine J03 Tryz.func96 a96_ok rfl (by simp [a96]) ?_
 simp [a96,uz0]
 rw [←Jan]
 refine J1i [2,3,4] (fun s h2 n2=>J34 p=true∧inR b.Kind 1 2=true∧b.Lins.length=p.Functions.length∧n2=2∧h2 0=some ⟨true,2,[J02 p]⟩∧h2 1=some ⟨true,2,[J0g b]⟩) ?_ ?_
 ·simp [uz1]
  first|refine J00 (J4t p hp) (by first|simp;done|rfl) ?_|refine J01 (J4t p hp) (by first|simp;done|rfl) ?_
  rintro r rfl
  cases hpo:J34 p
  ·simp [J2e,hpo]
  by_cases hk:b.Kind=1∨b.Kind=2
  ·have hin:=Jqt.2 hk
   by_cases hl:b.Lins.length=p.Functions.length
   ·rcases hk with hk|hk
    ·simp [J0g,J02,hk,hl,hpo,hin]
     simp [inR]
    ·simp [J0g,J02,hk,hl,hpo,hin]
     simp [inR]
   ·have hb:J2e p b=false:=by simp [J2e,Jjg,hl]
    have hl':¬(b.Lins.length:Int)=p.Functions.length:=by omega
    rcases hk with hk|hk
    ·simp [J0g,J02,hk,hl,hl',hb]
    ·simp [J0g,J02,hk,hl,hl',hb]
  ·have hin:inR b.Kind 1 2=false:=by
    cases h:inR b.Kind 1 2
    ·rfl
    ·exact absurd (Jqt.1 h) hk
   have hb:J2e p b=false:=by simp [J2e,hin]
   have h1:¬b.Kind=1:=fun h=>hk (.inl h)
   have h2:¬b.Kind=2:=fun h=>hk (.inr h)
   simp [J0g,h1,h2,hb]
 rintro st1 h1 _ hk1 ⟨hpo,hin,hbl,rfl,e0,e1⟩
 simp at hk1
 have hb:J2e p b=(b.Lins.zip p.Functions).all fun x=>J1j x.1 x.2.Params.length:=by
  simp [J2e,Jjg,hpo,hin,hbl]
 simp [uz2]
 refine J4h [2,3] 5 b.Lins.length (fun i _=>((b.Lins.drop i).zip (p.Functions.drop i)).all (fun x=>J1j x.1 x.2.Params.length)=J2e p b) hlm.2 (by simp) (by rw [hb];rfl) ?_ ?_
 ·rintro i s h R hi hg hk s5 hw hJ hh hR hret _
  have hi':i<p.Functions.length:=by omega
  simp at hk
  have d0:=hh 0
  have d1:=hh 1
  rw [e0] at d0
  rw [e1] at d1
  rw [List.drop_eq_getElem_cons hi,List.drop_eq_getElem_cons hi',List.zip_cons_cons,List.all_cons] at hJ
  simp [hk,hk1,s5,hi,hi',hg,hw,d0,d1,J0g,J02,J04,J06]
  intro _
  first|refine J00 (J10 (b.Lins[i]'hi) (p.Functions[i]'hi').Params.length) (by first|simp [J06];done|rfl) ?_|refine J01 (J10 (b.Lins[i]'hi) (p.Functions[i]'hi').Params.length) (by first|simp [J06];done|rfl) ?_
  rintro r rfl
  cases h0:J1j b.Lins[i] (p.Functions[i]).Params.length
  ·rw [h0] at hJ
   have hJ:J2e p b=false:=by rw [←hJ];rfl
   simp
   refine hret _ _ _ ?_
   simp [hJ]
  ·rw [h0,Bool.true_and] at hJ
   simp [hk,s5,hi,hg,hw]
   exact hR _ (by simp [hk]) (by simp) hJ
 ·rintro s h R hk s5 hJ hh _ hX
  simp at hk
  have d0:=hh 0
  have d1:=hh 1
  rw [e0] at d0
  rw [e1] at d1
  rw [List.drop_eq_nil_of_le (Nat.le_refl _)] at hJ
  simp [hk,hk1,s5,d1,J0g]
  intro _
  refine hX _ _ ?_
  simp [uz3,←hJ]
def K9y:AC:=(.draw (.op ⟨some 63,.ld true 6 (.t 8),no⟩ (.op ⟨some 64,.ld true 2 (.t 3),no⟩ (.op ⟨some 65,.fld 1 (.t 4),no⟩ (.op ⟨some 66,.ld false 1 (.t 65),no⟩ (.op ⟨some 67,.fld 3 (.t 9),no⟩ (.op ⟨some 68,.ld false 1 (.t 67),no⟩ (.op ⟨some 69,.mv (.t 12),no⟩ (.op ⟨some 70,.ixa 3 (.t 68) (.t 69),no⟩ (.op ⟨some 71,.fld 1 (.t 70),no⟩ (.op ⟨some 72,.ld false 1 (.t 71),no⟩ (.op ⟨some 74,.mv (.t 12),no⟩ (.both (.op ⟨some 73,.call (.k (.fn (.func 186) [] [])) [.t 64,.t 66,.t 72],no⟩ (.both (.op ⟨some 75,.call (.k (.fn (.func 174) [] [])) [.t 63,.t 73,.t 74],no⟩ (.op ⟨some 62,.mv (.t 75),no⟩ (.op ⟨some 76,.ext (.t 62) 0,no⟩ (.op ⟨some 77,.ext (.t 62) 1,no⟩ (.op ⟨some 13,.box [(.int .i64 0),(.nil 1)],no⟩ (.hop ⟨no,.st 2 (.t 13) (.t 76),no⟩ [] (.op ⟨some 14,.mv (.t 77),no⟩ .fin))))))) (.op ⟨some 13,.box [(.int .i64 0),(.nil 1)],no⟩ (.op ⟨some 75,.call (.k (.fn (.func 174) [] [])) [.t 63,.t 73,.t 74],no⟩ (.op ⟨some 62,.mv (.t 75),no⟩ (.op ⟨some 76,.ext (.t 62) 0,no⟩ (.op ⟨some 77,.ext (.t 62) 1,no⟩ (.hop ⟨no,.st 2 (.t 13) (.t 76),no⟩ [] (.op ⟨some 14,.mv (.t 77),no⟩ .fin))))))))) (.op ⟨some 13,.box [(.int .i64 0),(.nil 1)],no⟩ (.op ⟨some 73,.call (.k (.fn (.func 186) [] [])) [.t 64,.t 66,.t 72],no⟩ (.op ⟨some 75,.call (.k (.fn (.func 174) [] [])) [.t 63,.t 73,.t 74],no⟩ (.op ⟨some 62,.mv (.t 75),no⟩ (.op ⟨some 76,.ext (.t 62) 0,no⟩ (.op ⟨some 77,.ext (.t 62) 1,no⟩ (.hop ⟨no,.st 2 (.t 13) (.t 76),no⟩ [] (.op ⟨some 14,.mv (.t 77),no⟩ .fin)))))))))))))))))))))
def K73:AC:=(.reg [⟨some 82,.ld true 2 (.t 10),no⟩,⟨some 83,.ld true 2 (.t 13),no⟩,⟨some 84,.call (.k (.fn (.func 98) [] [])) [.t 82,(.k (.int .i64 (-1))),.t 83],no⟩,⟨some 81,.mv (.t 84),no⟩,⟨some 85,.ext (.t 81) 0,no⟩,⟨some 86,.ext (.t 81) 1,no⟩,⟨no,.st 2 (.t 10) (.t 85),no⟩,⟨some 11,.mv (.t 86),no⟩])
def uy0:AC:=(.reg [⟨some 3,.boxv (.t 0),no⟩,⟨some 4,.boxv (.t 1),no⟩,⟨some 6,.box [(.int .i64 0),(.nil 2),(.int .i64 0),(.nil 1)],no⟩,⟨some 7,.mv (.k (.bool false)),no⟩])
def uy1:AC:=(.reg [⟨some 15,.ld true 2 (.t 3),no⟩,⟨some 16,.mv (.t 2),no⟩,⟨some 17,.call (.k (.fn (.func 184) [] [])) [.t 15,.t 16],no⟩,⟨some 8,.box [(.int .i64 0),(.nil 2),(.nil 2),(.nil 1),(.int .i64 0),(.nil 1)],no⟩,⟨no,.st 6 (.t 8) (.t 17),no⟩])
def uy2:AC:=(.reg [⟨some 18,.fld 1 (.t 3),no⟩,⟨some 19,.ld false 1 (.t 18),no⟩,⟨some 20,.mv (.t 2),no⟩,⟨some 21,.ixa 7 (.t 19) (.t 20),no⟩,⟨some 22,.ld true 7 (.t 21),no⟩,⟨some 9,.box [(.str []),(.nil 4),(.nil 2),(.nil 3),(.bool false),(.nil 2),(.str [])],no⟩,⟨no,.st 7 (.t 9) (.t 22),no⟩])
def uy3:AC:=(.draw (.op ⟨some 24,.ld true 6 (.t 8),no⟩ (.op ⟨some 25,.ld true 2 (.t 3),no⟩ (.op ⟨some 26,.fld 1 (.t 4),no⟩ (.op ⟨some 27,.ld false 1 (.t 26),no⟩ (.op ⟨some 28,.fld 0 (.t 9),no⟩ (.op ⟨some 29,.ld false 1 (.t 28),no⟩ (.op ⟨some 31,.fld 2 (.t 8),no⟩ (.op ⟨some 32,.ld false 1 (.t 31),no⟩ (.both (.op ⟨some 30,.call (.k (.fn (.func 186) [] [])) [.t 25,.t 27,.t 29],no⟩ (.both (.op ⟨some 33,.call (.k (.fn (.func 185) [] [])) [.t 24,.t 30,.t 32],no⟩ (.op ⟨some 23,.mv (.t 33),no⟩ (.op ⟨some 34,.ext (.t 23) 0,no⟩ (.op ⟨some 35,.ext (.t 23) 1,no⟩ (.op ⟨some 10,.box [(.int .i64 0),(.nil 1)],no⟩ (.hop ⟨no,.st 2 (.t 10) (.t 34),no⟩ [] (.op ⟨some 11,.mv (.t 35),no⟩ .fin))))))) (.op ⟨some 10,.box [(.int .i64 0),(.nil 1)],no⟩ (.op ⟨some 33,.call (.k (.fn (.func 185) [] [])) [.t 24,.t 30,.t 32],no⟩ (.op ⟨some 23,.mv (.t 33),no⟩ (.op ⟨some 34,.ext (.t 23) 0,no⟩ (.op ⟨some 35,.ext (.t 23) 1,no⟩ (.hop ⟨no,.st 2 (.t 10) (.t 34),no⟩ [] (.op ⟨some 11,.mv (.t 35),no⟩ .fin))))))))) (.op ⟨some 10,.box [(.int .i64 0),(.nil 1)],no⟩ (.op ⟨some 30,.call (.k (.fn (.func 186) [] [])) [.t 25,.t 27,.t 29],no⟩ (.op ⟨some 33,.call (.k (.fn (.func 185) [] [])) [.t 24,.t 30,.t 32],no⟩ (.op ⟨some 23,.mv (.t 33),no⟩ (.op ⟨some 34,.ext (.t 23) 0,no⟩ (.op ⟨some 35,.ext (.t 23) 1,no⟩ (.hop ⟨no,.st 2 (.t 10) (.t 34),no⟩ [] (.op ⟨some 11,.mv (.t 35),no⟩ .fin))))))))))))))))))
def uy4:AC:=(.seq (.reg [⟨some 36,.mv (.t 11),no⟩,⟨some 37,.un .not (.t 36),no⟩]) (.cond (.t 37) (.seq (.reg [⟨some 38,.build [(.int .i64 0),(.nil 2),(.int .i64 0),(.nil 1)] [],no⟩,⟨no,.st 4 (.t 6) (.t 38),no⟩,⟨some 7,.mv (.k (.bool false)),no⟩]) .ret) .skip))
def uy5:AC:=(.draw (.op ⟨some 40,.ld true 2 (.t 10),no⟩ (.op ⟨some 41,.ld true 7 (.t 9),no⟩ (.op ⟨some 42,.fld 0 (.t 4),no⟩ (.op ⟨some 43,.ld false 1 (.t 42),no⟩ (.op ⟨some 45,.fld 0 (.t 8),no⟩ (.op ⟨some 46,.fld 0 (.t 45),no⟩ (.op ⟨some 47,.ld false 1 (.t 46),no⟩ (.op ⟨some 44,.call (.k (.fn (.func 187) [] [])) [.t 41,.t 43],no⟩ (.op ⟨some 48,.call (.k (.fn (.func 99) [] [])) [.t 44,.t 47],no⟩ (.op ⟨some 49,.call (.k (.fn (.func 98) [] [])) [.t 40,(.k (.int .i64 (-1))),.t 48],no⟩ (.op ⟨some 39,.mv (.t 49),no⟩ (.op ⟨some 50,.ext (.t 39) 0,no⟩ (.op ⟨some 51,.ext (.t 39) 1,no⟩ (.hop ⟨no,.st 2 (.t 10) (.t 50),no⟩ [] (.op ⟨some 11,.mv (.t 51),no⟩ .fin))))))))))))))))
def uy6:AC:=(.seq (.reg [⟨some 12,.mv (.k (.int .i64 0)),no⟩]) (.blk 0 (.loop (.seq (.seq (.reg [⟨some 52,.mv (.t 12),no⟩,⟨some 53,.fld 3 (.t 9),no⟩,⟨some 54,.ld false 1 (.t 53),no⟩,⟨some 55,.len false (.t 54),no⟩,⟨some 56,.bin .lss (.t 52) (.t 55),no⟩,⟨some 57,.mv (.t 56),no⟩,⟨some 58,.mv (.t 11),(some (57,true))⟩,⟨some 59,.pick (.t 57) (.t 58) (.k (.bool false)),no⟩]) (.cond (.t 59) .skip (.exit 0))) (.seq (.blk 1 (.seq K9y (.seq (.seq (.reg [⟨some 78,.mv (.t 14),no⟩,⟨some 79,.un .not (.t 78),no⟩]) (.cond (.t 79) (.seq (.reg [⟨some 80,.build [(.int .i64 0),(.nil 2),(.int .i64 0),(.nil 1)] [],no⟩,⟨no,.st 4 (.t 6) (.t 80),no⟩,⟨some 7,.mv (.k (.bool false)),no⟩]) .ret) .skip))  K73))) (.reg [⟨some 60,.mv (.t 12),no⟩,⟨some 61,.bin .add (.t 60) (.k (.int .i64 1)),no⟩,⟨some 12,.mv (.t 61),no⟩]))))))
def uy7:AC:=(.reg [⟨some 87,.fld 0 (.t 8),no⟩,⟨some 88,.ld true 2 (.t 87),no⟩,⟨some 89,.ld true 2 (.t 10),no⟩,⟨some 90,.build [(.int .i64 0),(.nil 2),(.int .i64 0),(.nil 1)] [(0,(2,(.t 88))),(2,(2,(.t 89)))],no⟩,⟨some 91,.mv (.t 11),no⟩,⟨no,.st 4 (.t 6) (.t 90),no⟩,⟨some 7,.mv (.t 91),no⟩])
def a100:AFn:=⟨92,[(.c 6 true 4),.t 7],(.seq uy0 (.seq uy1 (.seq uy2 (.seq uy3 (.seq uy4 (.seq uy5 (.seq uy6 (.seq uy7 .ret))))))))⟩
theorem a100_ok:J09 Tryz.prog Tryz.f100=some a100:=by kernel_rfl
section
variable {ks:List Kt}{s:Env}{h h':Heap}{n:Nat}{Q:Fin}
theorem Jzi {p:DProgram}(hp:J0h p≤1048576) (hpo:J34 p=true) {i:Nat}(hi:i<p.Rules.length) {md:DModel}(hmd:J56 p.Rules[i] (Jnz p p.Rules[i])=md) (s2:s 2 = .int .i64 i) (s3:s 3 = .ptr 0 0 0) (e0:h 0=some ⟨true,2,[J02 p]⟩)
 (hK:∀ s' h',(∀ j∈[2,3,4,6],s' j=s j)→s' 8 = .ptr (n+4) 0 0→J6n md n h'→(∀ id,id<n→h' id=h id)→J2l Tryz.prog ks .normal s' h' (n+5) Q):rC Tryz.prog uy1 ks s h n Q:=by
 simp [uy1,s2,s3,e0]
 first|refine J00 (Jev p hp hpo hi) (by first|simp [J02];done|rfl) ?_|refine J01 (Jev p hp hpo hi) (by first|simp [J02];done|rfl) ?_
 rintro r rfl
 rw [hmd]
 simp [J29]
 refine hK _ _ (by simp) (by simp) ?_ ?_
 ·have:¬n=n+1+1+1∧¬n=n+1+1:=by omega
  simp [J6n,this]
 ·intro id hid
  have:¬id=n∧¬id=n+1∧¬id=n+2∧¬id=n+3∧¬id=n+4:=by omega
  simp [this]
theorem Jz0 {p:DProgram}(hp:J0h p≤1048576) {b:DBounds}{md:DModel}{r:DRule}{k9 q:Nat}(hf:(J16 p.Functions r.Func).isSome=true) (hb:b.Lins.length=p.Functions.length) (s3:s 3 = .ptr 0 0 0) (s4:s 4 = .ptr 1 0 0) (s9:s 9 = .ptr k9 0 0) (s8:s 8 = .ptr (q+4) 0 0) (e0:h 0=some ⟨true,2,[J02 p]⟩) (e1:h 1=some ⟨true,2,[J0g b]⟩) (e9:h k9=some ⟨true,7,[J0b r]⟩) (M:J6n md q h) (hq:q+4<n) (h1:1<n) (h9:k9<n)
 (hK:∀ s' h',(∀ j∈[2,3,4,6,8,9],s' j=s j)→s' 11 = .bool (J1w (J52 p b r.Func) md.Params md.System.N).isSome→(∃ k q,s' 10 = .ptr k 0 0∧n≤k∧n≤q∧k<n+2∧q<n+2∧J3x ((J1w (J52 p b r.Func) md.Params md.System.N).getD J1s) k q h')→(∀ id,id<n→h' id=h id)→J2l Tryz.prog ks .normal s' h' (n+2) Q):rC Tryz.prog uy3 ks s h n Q:=by
 obtain ⟨m1,m2,m3,m4,m5⟩:=M
 have fr:∀ id,id<n→¬id=n∧¬id=n+1:=by intro id _;omega
 have ne:¬n=n+1∧¬n+1=n:=by omega
 have ne2:¬0=n∧¬1=n∧¬k9=n∧¬q=n∧¬q+1=n∧¬q+2=n∧¬q+3=n∧¬q+4=n:=by omega
 simp [uy3,s3,s4,s8,s9,e0,e1,e9,m1,J0g,J0b]
 constructor
 ·refine Jc1 hp hf hb ?_
  generalize J52 p b r.Func=l at *
  simp [J06]
  constructor
  ·skip
   first|refine J00 (J4p md l md.Params) (by first|simp [m1,m2,m3,m4,m5,J06,J1a];done|rfl) ?_|refine J01 (J4p md l md.Params) (by first|simp [m1,m2,m3,m4,m5,J06,J1a];done|rfl) ?_
   rintro r rfl
   rw [J0o]
   generalize J1w l md.Params md.System.N=T at *
   simp [J08,ne]
   exact hK _ _ (by simp) (by simp) ⟨n+1,n,by simp,by omega,by omega,by omega,by omega,by simp [J3x,ne]⟩ fun id hid=>by simp [fr id hid]
  ·skip
   first|refine J00 (J4p md l md.Params) (by first|simp [m1,m2,m3,m4,m5,J06,J1a,ne2];done|rfl) ?_|refine J01 (J4p md l md.Params) (by first|simp [m1,m2,m3,m4,m5,J06,J1a,ne2];done|rfl) ?_
   rintro r rfl
   rw [J0o]
   generalize J1w l md.Params md.System.N=T at *
   simp [J08,ne]
   exact hK _ _ (by simp) (by simp) ⟨n,n+1,by simp,by omega,by omega,by omega,by omega,by simp [J3x,ne]⟩ fun id hid=>by simp [fr id hid]
 ·refine Jc1 hp hf hb ?_
  generalize J52 p b r.Func=l at *
  simp [J06]
  first|refine J00 (J4p md l md.Params) (by first|simp [m1,m2,m3,m4,m5,J06,J1a,ne2];done|rfl) ?_|refine J01 (J4p md l md.Params) (by first|simp [m1,m2,m3,m4,m5,J06,J1a,ne2];done|rfl) ?_
  rintro r rfl
  rw [J0o]
  generalize J1w l md.Params md.System.N=T at *
  simp [J08,ne]
  exact hK _ _ (by simp) (by simp) ⟨n,n+1,by simp,by omega,by omega,by omega,by omega,by simp [J3x,ne]⟩ fun id hid=>by simp [fr id hid]
theorem Jx5 {b:DBounds}{r:DRule}{md:DModel}{t:DLin}{k9 k q e:Nat}(hw:J3f r≤1048576) (ht:J1j t md.System.N=true) (s4:s 4 = .ptr 1 0 0) (s8:s 8 = .ptr (e+4) 0 0) (s9:s 9 = .ptr k9 0 0) (s10:s 10 = .ptr k 0 0) (e1:h 1=some ⟨true,2,[J0g b]⟩) (e9:h k9=some ⟨true,7,[J0b r]⟩) (M:J6n md e h) (B:J3x t k q h) (hk:k<n) (hq:q<n)
 (hK:∀ s' h' n' q',(∀ j∈[2,3,4,6,8,9,10],s' j=s j)→s' 11 = .bool (J61 t (-(J3z r b.Kind))).isSome→J3x ((J61 t (-(J3z r b.Kind))).getD J1s) k q' h'→n≤n'→n≤q'→q'<n'→(∀ id,id<n→id≠k→h' id=h id)→J2l Tryz.prog ks .normal s' h' n' Q):rC Tryz.prog uy5 ks s h n Q:=by
 obtain ⟨b1,b2⟩:=B
 obtain ⟨m1,m2,m3,m4,m5⟩:=M
 have fr:∀ id,id<n→¬id=n∧¬id=n+1:=by intro id _;omega
 have ne:¬k=n∧¬n=k∧¬k=n+1∧¬n+1=k∧¬q=n:=by omega
 have hc:=Jql (r:=r) (k:=b.Kind) hw
 have hma:=Jk4 (k:=J3z r b.Kind) ht hc
 simp [uy5,s4,s8,s9,s10,e1,e9,b1,m1,J0g]
 first|refine J00 (Jfd r b.Kind hw) (by first|simp;done|rfl) ?_|refine J01 (Jfd r b.Kind hw) (by first|simp;done|rfl) ?_
 rintro r rfl
 simp
 first|refine J00 (J1o (J3z r b.Kind) md.System.N) (by first|simp;done|rfl) ?_|refine J01 (J1o (J3z r b.Kind) md.System.N) (by first|simp;done|rfl) ?_
 rintro r rfl
 generalize J05 (J3z r b.Kind) md.System.N=c at *
 simp [J08]
 first|refine J00 (J0q t (-1) c) (by first|simp [b2,J06,ne];done|rfl) ?_|refine J01 (J0q t (-1) c) (by first|simp [b2,J06,ne];done|rfl) ?_
 rintro r rfl
 rw [hma,J0o]
 generalize J61 t (-(J3z r b.Kind))=T at *
 simp [J08,ne,b1,s10]
 refine hK _ _ _ (n+1) (by simp) (by simp) ?_ (by omega) (by omega) (by omega) fun id hid hne=>by simp [fr id hid,hne]
 simp [J3x,ne]
theorem Juj {p:DProgram}(hp:J0h p≤1048576) {b:DBounds}{md:DModel}{r:DRule}{k9 q j:Nat}(hj:j<r.Calls.length) (hf:(J16 p.Functions (r.Calls[j]).Func).isSome=true) (hb:b.Lins.length=p.Functions.length) (s3:s 3 = .ptr 0 0 0) (s4:s 4 = .ptr 1 0 0) (s9:s 9 = .ptr k9 0 0) (s12:s 12 = .int .i64 j) (s8:s 8 = .ptr (q+4) 0 0) (e0:h 0=some ⟨true,2,[J02 p]⟩) (e1:h 1=some ⟨true,2,[J0g b]⟩) (e9:h k9=some ⟨true,7,[J0b r]⟩) (M:J6n md q h) (hq:q+4<n) (h1:1<n) (h9:k9<n)
 (hK:∀ s' h',(∀ j∈[2,3,4,6,8,9,10,11,12],s' j=s j)→s' 14 = .bool (J60 md (J52 p b (r.Calls[j]).Func) j).isSome→(∃ k q,s' 13 = .ptr k 0 0∧n≤k∧n≤q∧k<n+2∧q<n+2∧J3x ((J60 md (J52 p b (r.Calls[j]).Func) j).getD J1s) k q h')→(∀ id,id<n→h' id=h id)→J2l Tryz.prog ks .normal s' h' (n+2) Q):rC Tryz.prog K9y ks s h n Q:=by
 obtain ⟨m1,m2,m3,m4,m5⟩:=M
 have fr:∀ id,id<n→¬id=n∧¬id=n+1:=by intro id _;omega
 have ne:¬n=n+1∧¬n+1=n:=by omega
 have ne2:¬0=n∧¬1=n∧¬k9=n∧¬q=n∧¬q+1=n∧¬q+2=n∧¬q+3=n∧¬q+4=n:=by omega
 simp [K9y,s3,s4,s8,s9,s12,e0,e1,e9,m1,J0g,J0b,J0r,hj]
 constructor
 ·refine Jc1 hp hf hb ?_
  generalize J52 p b (r.Calls[j]).Func=l at *
  simp [J06]
  constructor
  ·skip
   first|refine J00 (J5h md l (j:Int)) (by first|simp [m1,m2,m3,m4,m5,J06,J1a];done|rfl) ?_|refine J01 (J5h md l (j:Int)) (by first|simp [m1,m2,m3,m4,m5,J06,J1a];done|rfl) ?_
   rintro r rfl
   rw [J0o]
   generalize J60 md l (j:Int)=T at *
   simp [J08,ne]
   exact hK _ _ (by simp) (by simp) ⟨n+1,n,by simp,by omega,by omega,by omega,by omega,by simp [J3x,ne]⟩ fun id hid=>by simp [fr id hid]
  ·skip
   first|refine J00 (J5h md l (j:Int)) (by first|simp [m1,m2,m3,m4,m5,J06,J1a,ne2];done|rfl) ?_|refine J01 (J5h md l (j:Int)) (by first|simp [m1,m2,m3,m4,m5,J06,J1a,ne2];done|rfl) ?_
   rintro r rfl
   rw [J0o]
   generalize J60 md l (j:Int)=T at *
   simp [J08,ne]
   exact hK _ _ (by simp) (by simp) ⟨n,n+1,by simp,by omega,by omega,by omega,by omega,by simp [J3x,ne]⟩ fun id hid=>by simp [fr id hid]
 ·refine Jc1 hp hf hb ?_
  generalize J52 p b (r.Calls[j]).Func=l at *
  simp [J06]
  first|refine J00 (J5h md l (j:Int)) (by first|simp [m1,m2,m3,m4,m5,J06,J1a,ne2];done|rfl) ?_|refine J01 (J5h md l (j:Int)) (by first|simp [m1,m2,m3,m4,m5,J06,J1a,ne2];done|rfl) ?_
  rintro r rfl
  rw [J0o]
  generalize J60 md l (j:Int)=T at *
  simp [J08,ne]
  exact hK _ _ (by simp) (by simp) ⟨n,n+1,by simp,by omega,by omega,by omega,by omega,by simp [J3x,ne]⟩ fun id hid=>by simp [fr id hid]
theorem Ju3 {t x:DLin}{k q k5 q5:Nat}(s10:s 10 = .ptr k 0 0) (s13:s 13 = .ptr k5 0 0) (B:J3x t k q h) (B5:J3x x k5 q5 h) (hk:k<n) (hq:q<n)
 (hK:∀ s' h',(∀ j∈[2,3,4,6,8,9,10,12],s' j=s j)→s' 11 = .bool (J0l t (-1) x).isSome→J3x ((J0l t (-1) x).getD J1s) k n h'→(∀ id,id<n→id≠k→h' id=h id)→J2l Tryz.prog ks .normal s' h' (n+1) Q):rC Tryz.prog K73 ks s h n Q:=by
 obtain ⟨b1,b2⟩:=B
 obtain ⟨b3,b4⟩:=B5
 have fr:∀ id,id<n→¬id=n:=by intro id _;omega
 have ne:¬k=n∧¬n=k:=by omega
 simp [K73,s10,s13,b1,b3]
 first|refine J00 (J0q t (-1) x) (by first|simp [b2,b4,J06];done|rfl) ?_|refine J01 (J0q t (-1) x) (by first|simp [b2,b4,J06];done|rfl) ?_
 rintro r rfl
 rw [J0o]
 generalize J0l t (-1) x=T at *
 simp [J08,ne,b1,s10]
 refine hK _ _ (by simp) (by simp) ?_ fun id hid hne=>by simp [fr id hid,hne]
 simp [J3x,ne]
end
theorem Jpq {p:DProgram}{md:DModel}{F T:Option DLin}{st:Env}{h:Heap}{m k q:Nat}(x6:st 6 = .ptr 2 0 0) (x8:st 8 = .ptr 7 0 0) (x10:st 10 = .ptr k 0 0) (x11:st 11 = .bool T.isSome) (e2:h 2=some ⟨true,4,[[.int .i64 0,.nil 2,.int .i64 0,.nil 1]]⟩) (M:J6n md 3 h) (B:J3x (T.getD J1s) k q h) (hq:7<q) (hT:T=F) :
 rC Tryz.prog uy7 [Kt.seq .ret] st h m (K2g [RV.c 6 true 4,RV.t 7] (J9g md F)):=by
 subst hT
 obtain ⟨m1,m2,m3,m4,m5⟩:=M
 obtain ⟨b1,b2⟩:=B
 have nq:¬3=q∧¬q=3∧¬q=2:=by omega
 simp [uy7,x8,x10,x6,x11,m1,m2,b1,b2,e2,nq,J9g]
 exact ⟨⟨md.System,T.getD J1s⟩,by simp [J0a],fun t ht=>by subst ht;rfl⟩
theorem Jnq (p:DProgram) (hp:J0h p≤1048576) (b:DBounds) (hB:J2e p b=true) {i:Nat}(hi:i<p.Rules.length) :
 Holds Tryz.prog 100 [.agg (J02 p),.agg (J0g b),i64 i] (J9g (mdR p i) (J51 p b (mdR p i) p.Rules[i])):=by
 obtain ⟨hpo,hin,hb⟩:=J6d hB
 obtain ⟨f,hff,RI⟩:=Jci hpo (List.getElem_mem hi)
 have hfc:=Jih RI.calls
 have hcl:=RI.ncalls
 have hf:(J16 p.Functions (p.Rules[i]).Func).isSome=true:=by rw [hff];rfl
 have hwr:J3f p.Rules[i]≤1048576:=by
  have:=J3n (w:=J3f) (List.getElem_mem hi)
  unfold J0h J94 at hp
  omega
 obtain ⟨t0,ht0,hok0⟩:=Jp5 hB hi
 have hmd:J56 p.Rules[i] (Jnz p p.Rules[i])=mdR p i:=by
  rw [Jvb hpo hi hff];unfold Jnz;rw [hff];rfl
 refine J03 Tryz.func100 a100_ok rfl (by simp [a100]) ?_
 simp [a100,uy0]
 refine Jzi hp hpo hi hmd (by simp) (by simp) (by simp) ?_
 clear hmd
 intro st1 h1 hk1 s8 M hf1
 simp at hk1
 generalize mdR p i=md at *
 have f0:=hf1 0 (by omega)
 have f1:=hf1 1 (by omega)
 have f2:=hf1 2 (by omega)
 simp at f0 f1 f2
 simp
 rw [←Jan]
 refine J1i [2,3,4,6,8] (fun s h2 n2=>n2=9∧s 9 = .ptr 8 0 0∧h2 8=some ⟨true,7,[J0b (p.Rules[i]'hi)]⟩∧∀ id,id<8→h2 id=h1 id) ?_ ?_
 ·simp [uy2,hk1,f0,J02,hi]
  intro id hid
  have:¬id=8:=by omega
  simp [this]
 rintro st2 h2 _ hk2 ⟨rfl,s9,e8,hf2⟩
 simp at hk2
 generalize p.Rules[i]=r at *
 have g0:=hf2 0 (by omega)
 have g1:=hf2 1 (by omega)
 have g2:=hf2 2 (by omega)
 rw [f0] at g0
 rw [f1] at g1
 rw [f2] at g2
 obtain ⟨m1,m2,m3,m4,m5⟩:=M
 have M2:J6n md 3 h2:=⟨by rw [hf2 7 (by omega)];exact m1,by rw [hf2 3 (by omega)];exact m2,by rw [hf2 4 (by omega)];exact m3,by rw [hf2 5 (by omega)];exact m4,by rw [hf2 6 (by omega)];exact m5⟩
 clear m1 m2 m3 m4 m5
 refine J0c (Jz0 hp (p:=p) (b:=b) (md:=md) (r:=r) (k9:=8) (q:=3) hf hb (by simp [hk2,hk1]) (by simp [hk2,hk1]) s9 (by simp [hk2,s8]) g0 g1 e8 M2 (by omega) (by omega) (by omega) ?_)
 rintro st3 h3 hk3 s11 ⟨k10,q10,s10,hk10,hq10,hk10',hq10',B3⟩ hf3
 simp at hk3
 rw [ht0] at s11 B3
 simp at s11 B3
 have j1:=hf3 1 (by omega)
 have j8:=hf3 8 (by omega)
 rw [g1] at j1
 rw [e8] at j8
 obtain ⟨m1,m2,m3,m4,m5⟩:=M2
 have M3:J6n md 3 h3:=⟨by rw [hf3 7 (by omega)];exact m1,by rw [hf3 3 (by omega)];exact m2,by rw [hf3 4 (by omega)];exact m3,by rw [hf3 5 (by omega)];exact m4,by rw [hf3 6 (by omega)];exact m5⟩
 simp [uy4,s11]
 refine Jx5 (b:=b) (r:=r) (md:=md) (t:=t0) (k9:=8) (k:=k10) (q:=q10) (e:=3) hwr hok0 (by simp [hk3,hk2,hk1]) (by simp [hk3,hk2,s8]) (by simp [hk3,s9]) (by simp [s10]) j1 j8 M3 B3 hk10' hq10' ?_
 intro st4 h4 n4 q4 hk4 s11' B4 hn4 hq4 hq4' hf4
 simp at hk4
 have hr0:J51 p b md r=Jaf p b md 0 r.Calls (J61 t0 (-(J3z r b.Kind))):=by
  unfold J51 Jl0
  rw [ht0];rfl
 rw [hr0]
 clear hr0
 generalize J61 t0 (-(J3z r b.Kind))=T0 at *
 have low:∀ id,id<9→h4 id=h2 id:=fun id hid=>by rw [hf4 id (by omega) (by omega),hf3 id hid]
 have M4:J6n md 3 h4:=⟨by rw [low 7 (by omega)];exact m1,by rw [low 3 (by omega)];exact m2,by rw [low 4 (by omega)];exact m3,by rw [low 5 (by omega)];exact m4,by rw [low 6 (by omega)];exact m5⟩
 clear m1 m2 m3 m4 m5 M3
 have l0:=low 0 (by omega)
 have l1:=low 1 (by omega)
 have l2:=low 2 (by omega)
 have l8:=low 8 (by omega)
 rw [g0] at l0
 rw [g1] at l1
 rw [g2] at l2
 rw [e8] at l8
 have x3:st4 3 = .ptr 0 0 0:=by simp [hk4,hk3,hk2,hk1]
 have x4:st4 4 = .ptr 1 0 0:=by simp [hk4,hk3,hk2,hk1]
 have x6:st4 6 = .ptr 2 0 0:=by simp [hk4,hk3,hk2,hk1]
 have x8:st4 8 = .ptr 7 0 0:=by simp [hk4,hk3,hk2,s8]
 have x9:st4 9 = .ptr 8 0 0:=by simp [hk4,hk3,s9]
 have x10:st4 10 = .ptr k10 0 0:=by simp [hk4,s10]
 clear hk4 hk3 hk2 hk1 hf4 hf3 hf2 low
 simp [uy6]
 generalize hF:Jaf p b md 0 r.Calls T0=F at *
 refine J0m [3,4,6,8,9,10] 12 r.Calls.length (fun j s h m=>8<m∧k10<m∧h 0=some ⟨true,2,[J02 p]⟩∧h 1=some ⟨true,2,[J0g b]⟩∧h 2=some ⟨true,4,[[.int .i64 0,.nil 2,.int .i64 0,.nil 1]]⟩∧h 8=some ⟨true,7,[J0b r]⟩∧J6n md 3 h∧∃ T q,8<q∧q≠k10∧q<m∧s 11 = .bool T.isSome∧J3x (T.getD J1s) k10 q h∧Jaf p b md j (r.Calls.drop j) T=F) (by unfold LIM;omega) (by simp) ⟨by omega,by omega,l0,l1,l2,l8,M4,T0,q4,by omega,by omega,by omega,by simp [s11'],B4,by simpa using hF⟩ ?_ ?_
 ·rintro j st h m R hj hg hk s12 hw' ⟨m8,mk,e0,e1,e2,e8,M,T,q,hq8,hqk,hqm,s11,B,hJ⟩ hR hret hX
  simp at hk
  cases T with
  | none=>
   rw [J88] at hJ
   refine J0c (J0i [3,4,6,8,9,10,11,12] (fun s=>s 59 = .bool false) (by simp [hk,x9,s12,s11,e8,J0b,hj]) ?_)
   intro st1 hk1 s59
   simp at hk1
   refine J2s s59 ?_
   refine hX _ _ _ _ ?_
   simp
   exact Jpq (p:=p) (T:=Option.none) (k:=k10) (q:=q) (by simp [hk1,hk,x6]) (by simp [hk1,hk,x8]) (by simp [hk1,hk,x10]) (by simp [hk1,s11]) e2 M B (by omega) hJ
  | some t=>
  rw [List.drop_eq_getElem_cons hj] at hJ
  simp only [Jaf,Option.bind_some] at hJ
  have hfj:=hfc _ (List.getElem_mem hj)
  refine J0c (J0i [3,4,6,8,9,10,11,12] (fun s=>s 59 = .bool true) (by simp [hk,x9,s12,s11,e8,J0b,hj]) ?_)
  intro st1 hk1 s59
  simp at hk1
  refine J30 s59 (J0c (J1p ?_))
  obtain ⟨m1,m2,m3,m4,m5⟩:=M
  refine J0c (Juj hp (p:=p) (b:=b) (md:=md) (r:=r) (k9:=8) (q:=3) (j:=j) hj hfj hb (by simp [hk1,hk,x3]) (by simp [hk1,hk,x4]) (by simp [hk1,hk,x9]) (by simp [hk1,s12]) (by simp [hk1,hk,x8]) e0 e1 e8 ⟨m1,m2,m3,m4,m5⟩ (by omega) (by omega) (by omega) ?_)
  rintro st3 h3 hk3 s14 ⟨k13,q13,s13,hk13,hq13,hk13',hq13',B13⟩ hfr3
  simp at hk3
  have B3:J3x t k10 q h3:=⟨by rw [hfr3 k10 mk];exact B.1,by rw [hfr3 q hqm];exact B.2⟩
  have z2:=hfr3 2 (by omega)
  rw [e2] at z2
  have y6:st3 6 = .ptr 2 0 0:=by simp [hk3,hk1,hk,x6]
  have y10:st3 10 = .ptr k10 0 0:=by simp [hk3,hk1,hk,x10]
  generalize r.Calls[j]=c at *
  generalize hX':J60 md (J52 p b c.Func) (j:Int)=X at *
  cases X with
  | none=>
   simp only [Option.bind_none,J88] at hJ
   subst hJ
   simp [y6,z2,s14]
   refine hret _ _ _ ?_
   simp [J9g,y6]
   exact ⟨⟨⟨0,[]⟩,⟨0,[]⟩⟩,by simp [J0a,J0k]⟩
  | some x=>
   simp only [Option.bind_some] at hJ
   simp at B13
   simp [s14]
   refine Ju3 (t:=t) (x:=x) (k:=k10) (q:=q) (k5:=k13) (q5:=q13) (by simp [y10]) (by simp [s13]) B3 B13 (by omega) (by omega) ?_
   intro st4 h4 hk4 t11 B4 hfr4
   simp at hk4
   simp [hk4,hk3,hk1,s12,hw']
   have low4:∀ id,id<9→h4 id=h id:=fun id hid=>by rw [hfr4 id (by omega) (by omega),hfr3 id (by omega)]
   refine hR _ _ _ (by simp [hk4,hk3,hk1,hk]) (by simp) ⟨by omega,by omega,by rw [low4 0 (by omega),e0],by rw [low4 1 (by omega),e1],by rw [low4 2 (by omega),e2],by rw [low4 8 (by omega),e8],⟨by rw [low4 7 (by omega)];exact m1,by rw [low4 3 (by omega)];exact m2,by rw [low4 4 (by omega)];exact m3,by rw [low4 5 (by omega)];exact m4,by rw [low4 6 (by omega)];exact m5⟩,_,m+2,by omega,by omega,by omega,by simp [t11],B4,hJ⟩
 ·rintro st h m R hk s12 ⟨m8,mk,e0,e1,e2,e8,M,T,q,hq8,hqk,hqm,s11,B,hJ⟩ _ hX
  simp at hk
  rw [List.drop_eq_nil_of_le (by omega)] at hJ
  simp only [Jaf] at hJ
  refine J0c (J0i [3,4,6,8,9,10,11] (fun s=>s 59 = .bool false) (by simp [hk,x9,s12,s11,e8,J0b]) ?_)
  intro st1 hk1 s59
  simp at hk1
  refine J2s s59 ?_
  refine hX _ _ _ _ ?_
  simp
  exact Jpq (p:=p) (T:=T) (k:=k10) (q:=q) (by simp [hk1,hk,x6]) (by simp [hk1,hk,x8]) (by simp [hk1,hk,x10]) (by simp [hk1,s11]) e2 M B (by omega) hJ
def K80:AC:=(.draw (.op ⟨some 33,.ld true 2 (.t 2),no⟩ (.op ⟨some 34,.fld 0 (.t 2),no⟩ (.op ⟨some 35,.ld false 1 (.t 34),no⟩ (.op ⟨some 36,.mv (.t 8),no⟩ (.op ⟨some 37,.ixa 4 (.t 35) (.t 36),no⟩ (.op ⟨some 38,.fld 0 (.t 37),no⟩ (.op ⟨some 39,.ld false 1 (.t 38),no⟩ (.both (.op ⟨some 40,.call (.k (.fn (.func 97) [] [])) [.t 33,.t 39],no⟩ (.op ⟨some 32,.mv (.t 40),no⟩ (.op ⟨some 41,.ext (.t 32) 0,no⟩ (.op ⟨some 42,.ext (.t 32) 1,no⟩ (.op ⟨some 9,.box [(.int .i64 0),(.nil 2)],no⟩ (.hop ⟨no,.st 2 (.t 9) (.t 41),no⟩ [] (.op ⟨some 10,.mv (.t 42),no⟩ .fin))))))) (.op ⟨some 9,.box [(.int .i64 0),(.nil 2)],no⟩ (.op ⟨some 40,.call (.k (.fn (.func 97) [] [])) [.t 33,.t 39],no⟩ (.op ⟨some 32,.mv (.t 40),no⟩ (.op ⟨some 41,.ext (.t 32) 0,no⟩ (.op ⟨some 42,.ext (.t 32) 1,no⟩ (.hop ⟨no,.st 2 (.t 9) (.t 41),no⟩ [] (.op ⟨some 10,.mv (.t 42),no⟩ .fin))))))))))))))))
def Ka2:AC:=(.draw (.op ⟨some 44,.fld 1 (.t 3),no⟩ (.op ⟨some 45,.ld false 1 (.t 44),no⟩ (.op ⟨some 46,.mv (.t 8),no⟩ (.op ⟨some 47,.ixa 2 (.t 45) (.t 46),no⟩ (.op ⟨some 48,.ld true 2 (.t 47),no⟩ (.op ⟨some 49,.mv (.t 7),no⟩ (.op ⟨some 50,.fld 0 (.t 9),no⟩ (.op ⟨some 51,.ld false 1 (.t 50),no⟩ (.both (.op ⟨some 52,.call (.k (.fn (.func 99) [] [])) [.t 49,.t 51],no⟩ (.both (.op ⟨some 53,.call (.k (.fn (.func 98) [] [])) [.t 48,(.k (.int .i64 (-1))),.t 52],no⟩ (.op ⟨some 43,.mv (.t 53),no⟩ (.op ⟨some 54,.ext (.t 43) 0,no⟩ (.op ⟨some 55,.ext (.t 43) 1,no⟩ (.op ⟨some 11,.box [(.int .i64 0),(.nil 1)],no⟩ (.hop ⟨no,.st 2 (.t 11) (.t 54),no⟩ [] (.op ⟨some 12,.mv (.t 55),no⟩ .fin))))))) (.op ⟨some 11,.box [(.int .i64 0),(.nil 1)],no⟩ (.op ⟨some 53,.call (.k (.fn (.func 98) [] [])) [.t 48,(.k (.int .i64 (-1))),.t 52],no⟩ (.op ⟨some 43,.mv (.t 53),no⟩ (.op ⟨some 54,.ext (.t 43) 0,no⟩ (.op ⟨some 55,.ext (.t 43) 1,no⟩ (.hop ⟨no,.st 2 (.t 11) (.t 54),no⟩ [] (.op ⟨some 12,.mv (.t 55),no⟩ .fin))))))))) (.op ⟨some 11,.box [(.int .i64 0),(.nil 1)],no⟩ (.op ⟨some 52,.call (.k (.fn (.func 99) [] [])) [.t 49,.t 51],no⟩ (.op ⟨some 53,.call (.k (.fn (.func 98) [] [])) [.t 48,(.k (.int .i64 (-1))),.t 52],no⟩ (.op ⟨some 43,.mv (.t 53),no⟩ (.op ⟨some 54,.ext (.t 43) 0,no⟩ (.op ⟨some 55,.ext (.t 43) 1,no⟩ (.hop ⟨no,.st 2 (.t 11) (.t 54),no⟩ [] (.op ⟨some 12,.mv (.t 55),no⟩ .fin))))))))))))))))))
def K7a:AC:=(.reg [⟨some 59,.mv (.t 6),no⟩,⟨some 60,.ld true 2 (.t 9),no⟩,⟨some 61,.ld true 2 (.t 11),no⟩,⟨some 62,.build [(.int .i64 0),(.nil 2),(.int .i64 0),(.nil 1)] [(0,(2,(.t 60))),(2,(2,(.t 61)))],no⟩,⟨some 63,.bsl 4 [.t 62],no⟩,⟨some 64,.app 64 4 (.t 59) (.t 63),no⟩,⟨some 6,.mv (.t 64),no⟩])
def K6z:AC:=(.reg [⟨some 73,.ld true 2 (.t 2),no⟩,⟨some 74,.ld true 2 (.t 3),no⟩,⟨some 75,.mv (.t 13),no⟩,⟨some 76,.call (.k (.fn (.func 100) [] [])) [.t 73,.t 74,.t 75],no⟩,⟨some 72,.mv (.t 76),no⟩,⟨some 77,.ext (.t 72) 0,no⟩,⟨some 78,.ext (.t 72) 1,no⟩,⟨some 14,.box [(.int .i64 0),(.nil 2),(.int .i64 0),(.nil 1)],no⟩,⟨no,.st 4 (.t 14) (.t 77),no⟩,⟨some 15,.mv (.t 78),no⟩])
def K8y:AC:=(.reg [⟨some 82,.mv (.t 6),no⟩,⟨some 83,.ld true 4 (.t 14),no⟩,⟨some 84,.bsl 4 [.t 83],no⟩,⟨some 85,.app 64 4 (.t 82) (.t 84),no⟩,⟨some 6,.mv (.t 85),no⟩])
def ub0:AC:=(.reg [⟨some 2,.boxv (.t 0),no⟩,⟨some 3,.boxv (.t 1),no⟩,⟨some 4,.mv (.k (.nil 4)),no⟩,⟨some 5,.mv (.k (.bool false)),no⟩])
def ub1:AC:=(.seq (.reg [⟨some 16,.ld true 2 (.t 2),no⟩,⟨some 17,.ld true 2 (.t 3),no⟩,⟨some 18,.call (.k (.fn (.func 96) [] [])) [.t 16,.t 17],no⟩,⟨some 19,.un .not (.t 18),no⟩]) (.cond (.t 19) (.seq (.reg [⟨some 20,.bsl 4 [],no⟩,⟨some 4,.mv (.t 20),no⟩,⟨some 5,.mv (.k (.bool false)),no⟩]) .ret) .skip))
def ub2:AC:=(.reg [⟨some 21,.bsl 4 [],no⟩,⟨some 6,.mv (.t 21),no⟩])
def ub3:AC:=(.reg [⟨some 7,.mv (.k (.int .i64 0)),no⟩])
def ub4:AC:=(.seq (.reg [⟨some 22,.fld 0 (.t 3),no⟩,⟨some 23,.ld false 1 (.t 22),no⟩,⟨some 24,.bin .eql (.t 23) (.k (.int .i64 1)),no⟩]) (.cond (.t 24) (.reg [⟨some 7,.mv (.k (.int .i64 1)),no⟩]) .skip))
def ub5:AC:=(.seq (.reg [⟨some 8,.mv (.k (.int .i64 0)),no⟩]) (.blk 0 (.loop (.seq (.seq (.reg [⟨some 25,.mv (.t 8),no⟩,⟨some 26,.fld 0 (.t 2),no⟩,⟨some 27,.ld false 1 (.t 26),no⟩,⟨some 28,.len false (.t 27),no⟩,⟨some 29,.bin .lss (.t 25) (.t 28),no⟩]) (.cond (.t 29) .skip (.exit 0))) (.seq (.blk 1 (.seq K80 (.seq Ka2 (.seq (.seq (.reg [⟨some 56,.mv (.t 12),no⟩,⟨some 57,.un .not (.t 56),no⟩]) (.cond (.t 57) (.seq (.reg [⟨some 58,.bsl 4 [],no⟩,⟨some 4,.mv (.t 58),no⟩,⟨some 5,.mv (.k (.bool false)),no⟩]) .ret) .skip))  K7a)))) (.reg [⟨some 30,.mv (.t 8),no⟩,⟨some 31,.bin .add (.t 30) (.k (.int .i64 1)),no⟩,⟨some 8,.mv (.t 31),no⟩]))))))
def ub6:AC:=(.seq (.reg [⟨some 13,.mv (.k (.int .i64 0)),no⟩]) (.blk 2 (.loop (.seq (.seq (.reg [⟨some 65,.mv (.t 13),no⟩,⟨some 66,.fld 1 (.t 2),no⟩,⟨some 67,.ld false 1 (.t 66),no⟩,⟨some 68,.len false (.t 67),no⟩,⟨some 69,.bin .lss (.t 65) (.t 68),no⟩]) (.cond (.t 69) .skip (.exit 2))) (.seq (.blk 3 (.seq  K6z (.seq (.seq (.reg [⟨some 79,.mv (.t 15),no⟩,⟨some 80,.un .not (.t 79),no⟩]) (.cond (.t 80) (.seq (.reg [⟨some 81,.bsl 4 [],no⟩,⟨some 4,.mv (.t 81),no⟩,⟨some 5,.mv (.k (.bool false)),no⟩]) .ret) .skip))  K8y))) (.reg [⟨some 70,.mv (.t 13),no⟩,⟨some 71,.bin .add (.t 70) (.k (.int .i64 1)),no⟩,⟨some 13,.mv (.t 71),no⟩]))))))
def ub7:AC:=(.reg [⟨some 86,.mv (.t 6),no⟩,⟨some 4,.mv (.t 86),no⟩,⟨some 5,.mv (.k (.bool true)),no⟩])
def a31:AFn:=⟨87,[.t 4,.t 5],(.seq ub0 (.seq ub1 (.seq ub2 (.seq ub3 (.seq ub4 (.seq ub5 (.seq ub6 (.seq ub7 .ret))))))))⟩
theorem a31_ok:J09 Tryz.prog Tryz.f31=some a31:=by kernel_rfl
section
variable {ks:List Kt}{s:Env}{h h':Heap}{n:Nat}{Q:Fin}
theorem Jus {p:DProgram}(hp:J0h p≤1048576) {i:Nat}(hi:i<p.Functions.length) (s8:s 8 = .int .i64 i) (s2:s 2 = .ptr 0 0 0) (e0:h 0=some ⟨true,2,[J02 p]⟩)
 (hK:∀ s' h',(∀ j∈[2,3,4,5,6,7,8],s' j=s j)→(∀ id,id<n→h' id=h id)→(∃ k q,s' 9 = .ptr k 0 0∧n≤k∧n≤q∧k<n+2∧q<n+2∧h' k=some ⟨true,2,[[.int .i64 (J5r p (p.Functions[i]).Name).N,.ref q 0 (J5r p (p.Functions[i]).Name).Rows.length]]⟩∧h' q=some ⟨false,2,(J5r p (p.Functions[i]).Name).Rows.map J08⟩)→J2l Tryz.prog ks .normal s' h' (n+2) Q):rC Tryz.prog K80 ks s h n Q:=by
 have fr:∀ id,id<n→¬id=n∧¬id=n+1:=by intro id _;omega
 have ne:¬n=n+1∧¬n+1=n:=by omega
 simp [K80,s2,s8,e0,hi,J02,J04]
 generalize hnm:(p.Functions[i]).Name=nm at *
 constructor
 ·skip
  first|refine J00 (J8k p hp nm) (by first|simp [J02];done|rfl) ?_|refine J01 (J8k p hp nm) (by first|simp [J02];done|rfl) ?_
  rintro r rfl
  unfold J8h
  rw [show (Jof p nm).getD Jnv=J5r p nm from rfl]
  generalize J5r p nm=S at *
  simp [J2k,ne]
  exact hK _ _ (by simp) (fun id hid=>by simp [fr id hid]) ⟨n+1,n,by simp,by omega,by omega,by omega,by omega,by simp,by simp [ne]⟩
 ·skip
  first|refine J00 (J8k p hp nm) (by first|simp [J02];done|rfl) ?_|refine J01 (J8k p hp nm) (by first|simp [J02];done|rfl) ?_
  rintro r rfl
  unfold J8h
  rw [show (Jof p nm).getD Jnv=J5r p nm from rfl]
  generalize J5r p nm=S at *
  simp [J2k,ne]
  exact hK _ _ (by simp) (fun id hid=>by simp [fr id hid]) ⟨n,n+1,by simp,by omega,by omega,by omega,by omega,by simp,by simp [ne]⟩
theorem Jte {b:DBounds}{i k9:Nat}{S:DSystem}{v:AV}{F:Option DLin}(hb:i<b.Lins.length) (hF:J0l b.Lins[i] (-1) (J05 (J3v b.Kind) S.N)=F) (s8:s 8 = .int .i64 i) (s3:s 3 = .ptr 1 0 0) (s7:s 7 = .int .i64 (J3v b.Kind)) (s9:s 9 = .ptr k9 0 0) (e1:h 1=some ⟨true,2,[J0g b]⟩) (e9:h k9=some ⟨true,2,[[.int .i64 S.N,v]]⟩) (h1:1<n) (h9:k9<n)
 (hK:∀ s' h' n',(∀ j∈[2,3,4,5,6,7,8,9],s' j=s j)→(∀ id,id<n→h' id=h id)→s' 12 = .bool F.isSome→(∃ k q,s' 11 = .ptr k 0 0∧n≤k∧n≤q∧k<n'∧q<n'∧J3x (F.getD J1s) k q h')→n≤n'→J2l Tryz.prog ks .normal s' h' n' Q):rC Tryz.prog Ka2 ks s h n Q:=by
 have fr:∀ id,id<n→¬id=n∧¬id=n+1∧¬id=n+2:=by intro id _;omega
 have ne:¬n=n+1∧¬n+1=n∧¬n=n+2∧¬n+2=n∧¬n+1=n+2∧¬n+2=n+1∧¬n=n+1+1∧¬n+1+1=n:=by omega
 simp [Ka2,s3,s7,s8,s9,e1,e9,hb,J0g]
 constructor
 ·refine J83 (J1o (J3v b.Kind) S.N) (by simp) ?_
  rintro _ rfl
  generalize J05 (J3v b.Kind) S.N=c at *
  simp
  constructor
  ·skip
   first|refine J00 (J0q (b.Lins[i]'hb) (-1) c) (by first|simp [J06];done|rfl) ?_|refine J01 (J0q (b.Lins[i]'hb) (-1) c) (by first|simp [J06];done|rfl) ?_
   rintro r rfl
   rw [hF,J0o]
   simp [J08,ne]
   exact hK _ _ _ (by simp) (fun id hid=>by simp [fr id hid]) (by simp) ⟨n+1,n,by simp,by omega,by omega,by omega,by omega,by simp [J3x,ne]⟩ (by omega)
  ·skip
   first|refine J00 (J0q (b.Lins[i]'hb) (-1) c) (by first|simp [J06];done|rfl) ?_|refine J01 (J0q (b.Lins[i]'hb) (-1) c) (by first|simp [J06];done|rfl) ?_
   rintro r rfl
   rw [hF,J0o]
   simp [J08,ne]
   exact hK _ _ _ (by simp) (fun id hid=>by simp [fr id hid]) (by simp) ⟨n,n+1,by simp,by omega,by omega,by omega,by omega,by simp [J3x,ne]⟩ (by omega)
 ·refine J83 (J1o (J3v b.Kind) S.N) (by simp) ?_
  rintro _ rfl
  generalize J05 (J3v b.Kind) S.N=c at *
  simp
  first|refine J00 (J0q (b.Lins[i]'hb) (-1) c) (by first|simp [J06];done|rfl) ?_|refine J01 (J0q (b.Lins[i]'hb) (-1) c) (by first|simp [J06];done|rfl) ?_
  rintro r rfl
  rw [hF,J0o]
  simp [J08,ne]
  exact hK _ _ _ (by simp) (fun id hid=>by simp [fr id hid]) (by simp) ⟨n,n+1,by simp,by omega,by omega,by omega,by omega,by simp [J3x,ne]⟩ (by omega)
theorem Jsq {p:DProgram}(hp:J0h p≤1048576) {b:DBounds}(hB:J2e p b=true) {i:Nat}(hi:i<p.Rules.length) (s2:s 2 = .ptr 0 0 0) (s3:s 3 = .ptr 1 0 0) (s13:s 13 = .int .i64 i) (e0:h 0=some ⟨true,2,[J02 p]⟩) (e1:h 1=some ⟨true,2,[J0g b]⟩)
 (hK:∀ s' h' o,(∀ j∈[2,3,4,5,6,13],s' j=s j)→s' 15 = .bool (J51 p b (mdR p i) p.Rules[i]).isSome→s' 14 = .ptr (n+2) 0 0→Jd6 o n h'→(∀ t,J51 p b (mdR p i) p.Rules[i]=some t→o=⟨(mdR p i).System,t⟩)→(∀ id,id<n→h' id=h id)→J2l Tryz.prog ks .normal s' h' (n+3) Q):rC Tryz.prog K6z ks s h n Q:=by
 simp [K6z,s2,s3,s13,e0,e1]
 refine J01 (Jnq p hp b hB hi) (by simp) ?_
 rintro _ ⟨o,rfl,ho⟩
 generalize J51 p b (mdR p i) p.Rules[i]=T at *
 simp [J0a]
 refine hK _ _ o (by simp) (by simp) (by simp) (by simp [Jd6]) ho ?_
 intro id hid
 have:¬id=n∧¬id=n+1∧¬id=n+2:=by omega
 simp [this]
theorem Jt9 {acc:List DObligation}{S:DSystem}{t:DLin}{v:AV}{m k q k1 q1:Nat}(s6:s 6=v) (s9:s 9 = .ptr k 0 0) (s11:s 11 = .ptr k1 0 0) (b1:h k=some ⟨true,2,[[.int .i64 S.N,.ref q 0 S.Rows.length]]⟩) (b2:h q=some ⟨false,2,S.Rows.map J08⟩) (B5:J3x t k1 q1 h) (B:J46 1 4 (acc.map J0a) v h m) (hm:m≤n) (hk:m≤k∧k<n) (hq:m≤q∧q<n) (hk1:m≤k1∧k1<n) (hq1:m≤q1∧q1<n) (hqq:¬q=q1) (hl:acc.length≤3000000)
 (hK:∀ s' h' n',(∀ j∈[2,3,4,5,7,8,13],s' j=s j)→n≤n'→(∀ id z rows,id<m→h id=some ⟨true,z,rows⟩→h' id=h id)→J46 1 4 ((acc++[(⟨S,t⟩:DObligation)]).map J0a) (s' 6) h' n'→J2l Tryz.prog ks .normal s' h' n' Q):rC Tryz.prog K7a ks s h n Q:=by
 obtain ⟨b3,b4⟩:=B5
 have fr:∀ id,id<m→¬id=n∧¬id=q∧¬id=q1:=by intro id _;omega
 have ne:¬q=q1∧¬q1=q:=by omega
 simp [K7a,s6,s9,s11,b1,b2,b3,b4,ne]
 refine J38 (rows:=acc.map J0a) (rows2:=[[.int .i64 S.N,.us 2 (S.Rows.map J08),.int .i64 t.Const,.us 1 (J0k t.Coeffs)]]) (B.keep (n':=n+1) (by omega) fun id _ hid e=>by simp [fr id hid]) (by simp) (fun l e=>by have:=(B.lt e).2.1;omega) (by omega) (by simp;unfold LIM;omega) ?_
 intro h1 f1 f2
 simp
 refine hK _ _ _ (by simp) (by omega) ?_ ?_
 ·intro id z rows h1' h3'
  rw [f2 id (by omega) (by omega) fun l e=>B.not_box h3' e];simp [fr id h1']
 ·simp
  exact .inr ⟨n+1,by omega,by omega,by simp,by simp [f1,J0a]⟩
theorem Jt4 {acc:List DObligation}{o:DObligation}{v:AV}{q:Nat}(s8:s 14 = .ptr (q+2) 0 0) (s6:s 6=v) (O:Jd6 o q h) (B:J46 1 4 (acc.map J0a) v h q) (hq:n=q+3) (hl:acc.length≤3000000)
 (hK:∀ s' h' n',(∀ j∈[2,3,4,5,13],s' j=s j)→n≤n'→(∀ id z rows,id<q→h id=some ⟨true,z,rows⟩→h' id=h id)→J46 1 4 ((acc++[o]).map J0a) (s' 6) h' n'→J2l Tryz.prog ks .normal s' h' n' Q):rC Tryz.prog K8y ks s h n Q:=by
 subst hq
 obtain ⟨o1,o2,o3⟩:=O
 have fr:∀ id,id<q→¬id=q∧¬id=q+1∧¬id=q+3:=by intro id _;omega
 simp [K8y,s6,s8,o1,o2,o3]
 refine J38 (rows:=acc.map J0a) (rows2:=[[.int .i64 o.System.N,.us 2 (o.System.Rows.map J08),.int .i64 o.Target.Const,.us 1 (J0k o.Target.Coeffs)]]) (B.keep (n':=q+3+1) (by omega) fun id _ hid e=>by simp [fr id hid]) (by simp) (fun l e=>by have:=(B.lt e).2.1;omega) (by omega) (by simp;unfold LIM;omega) ?_
 intro h1 f1 f2
 simp
 refine hK _ _ _ (by simp) (by omega) ?_ ?_
 ·intro id z rows h1' h3'
  rw [f2 id (by omega) (by omega) fun l e=>B.not_box h3' e];simp [fr id h1']
 ·simp
  exact .inr ⟨q+4,by omega,by omega,by simp,by simp [f1,J0a]⟩
theorem Jyz {p:DProgram}(hp:J0h p≤1048576) {b:DBounds}(hB:J2e p b=true) {l2:List (Option DObligation)}{F:Option (List DObligation)}(hn:1<n) (s2:s 2 = .ptr 0 0 0) (s3:s 3 = .ptr 1 0 0) (s7:s 7 = .int .i64 (J3v b.Kind)) (B0:J46 1 4 [] (s 6) h n) (e0:h 0=some ⟨true,2,[J02 p]⟩) (e1:h 1=some ⟨true,2,[J0g b]⟩) (hF:goO [] (J97 p b++l2)=F)
 (hret:F=Option.none→∀ s' h' n' k,s' 4 = .ref k 0 0→h' k=some ⟨false,4,[]⟩→s' 5 = .bool false→J2l Tryz.prog ks .ret s' h' n' Q)
 (hK:∀ s' h' n',(∀ j∈[2,3],s' j=s j)→1<n'→h' 0=some ⟨true,2,[J02 p]⟩→h' 1=some ⟨true,2,[J0g b]⟩→(∃ acc,acc.length≤3∧J46 1 4 (acc.map J0a) (s' 6) h' n'∧goO acc l2=F)→J2l Tryz.prog ks .normal s' h' n' Q):rC Tryz.prog ub5 ks s h n Q:=by
 obtain ⟨hpo,hin,hb⟩:=J6d hB
 have hfl:=(J5g hpo).2.2.1
 simp [ub5]
 refine J0m [2,3,7] 8 p.Functions.length (fun i s h m=>1<m∧h 0=some ⟨true,2,[J02 p]⟩∧h 1=some ⟨true,2,[J0g b]⟩∧∃ acc,acc.length=i∧J46 1 4 (acc.map J0a) (s 6) h m∧goO acc ((J97 p b).drop i++l2)=F) (by unfold LIM;omega) (by simp) ⟨hn,e0,e1,[],rfl,by simpa using B0,by simpa using hF⟩ ?_ ?_
 ·rintro i st h m R hi hg hk s8 hw' ⟨m1,e0,e1,acc,hal,B,hJ⟩ hR hrt _
  simp at hk
  have hib:i<b.Lins.length:=by omega
  rw [Jn9 hi hb,List.cons_append] at hJ
  refine J0c (J0i [2,3,6,7,8] (fun s=>s 29 = .bool true) (by simp [hk,s2,e0,J02,s8,hi]) ?_)
  intro st1 hk1 s29
  simp at hk1
  refine J30 s29 (J0c (J1p ?_))
  refine J0c (Jus hp hi (by simp [hk1,s8]) (by simp [hk1,hk,s2]) e0 ?_)
  rintro st2 h2 hk2 hf2 ⟨k9,q9,s9,hk9,hq9,hk9',hq9',b1,b2⟩
  simp at hk2
  have f0:=hf2 0 (by omega)
  have f1:=hf2 1 (by omega)
  rw [e0] at f0
  rw [e1] at f1
  refine J5b (J0c (Jte (b:=b) (i:=i) (k9:=k9) (S:=J5r p (p.Functions[i]).Name) (F:=J75 b b.Lins[i]) hib (Jyv hB hi hib) (by simp [hk2,hk1,s8]) (by simp [hk2,hk1,hk,s3]) (by simp [hk2,hk1,hk,s7]) s9 f1 b1 (by omega) hk9' ?_))
  rintro st3 h3 n3 hk3 hf3 s12 ⟨k11,q11,s11,hk11,hq11,hk11',hq11',B5⟩ hn3
  simp at hk3
  have b1':=hf3 k9 hk9'
  have b2':=hf3 q9 hq9'
  rw [b1] at b1'
  rw [b2] at b2'
  generalize hT:J75 b b.Lins[i]=T at *
  cases T with
  | none=>
   simp only [Option.map_none,goO] at hJ
   simp [s12]
   exact hrt _ _ _ (hret hJ.symm _ _ _ n3 (by simp) (by simp) (by simp))
  | some t=>
   simp only [Option.map_some,goO] at hJ
   simp at B5
   simp [s12]
   refine Jt9 (acc:=acc) (S:=J5r p (p.Functions[i]).Name) (t:=t) (v:=st 6) (m:=m) (k:=k9) (q:=q9) (k1:=k11) (q1:=q11) (by simp [hk3,hk2,hk1]) (by simp [hk3,s9]) (by simp [s11]) b1' b2' B5 (B.keep (Nat.le_refl _) fun id _ hid _=>by rw [hf3 id (by omega),hf2 id hid]) (by omega) ⟨hk9,by omega⟩ ⟨hq9,by omega⟩ ⟨by omega,hk11'⟩ ⟨by omega,hq11'⟩ (by omega) (by omega) ?_
   intro st4 h4 n4 hk4 hn4 bx4 B4
   simp at hk4
   have g0:=hf3 0 (by omega)
   have g1:=hf3 1 (by omega)
   rw [f0] at g0
   rw [f1] at g1
   simp [hk4,hk3,hk2,hk1,s8,hw']
   refine hR _ _ _ (by simp [hk4,hk3,hk2,hk1,hk]) (by simp) ⟨by omega,by rw [bx4 0 _ _ (by omega) g0,g0],by rw [bx4 1 _ _ (by omega) g1,g1],acc++[⟨J5r p (p.Functions[i]).Name,t⟩],by simp [hal],?_,hJ⟩
   simpa using B4
 ·rintro st h m R hk s8 ⟨m1,e0,e1,acc,hal,B,hJ⟩ _ hX
  simp at hk
  rw [List.drop_eq_nil_of_le (by simp [J97]),List.nil_append] at hJ
  refine J0c (J0i [2,3,6] (fun s=>s 29 = .bool false) (by simp [hk,s2,e0,J02,s8]) ?_)
  intro st1 hk1 s29
  simp at hk1
  refine J2s s29 ?_
  refine hX _ _ _ _ ?_
  simp
  refine hK _ _ _ (by simp [hk1,hk]) m1 e0 e1 ⟨acc,by omega,?_,hJ⟩
  rw [hk1.2.2];exact B
theorem Jwy {p:DProgram}(hp:J0h p≤1048576) {b:DBounds}(hB:J2e p b=true) {acc0:List DObligation}{F:Option (List DObligation)}(hn:1<n) (s2:s 2 = .ptr 0 0 0) (s3:s 3 = .ptr 1 0 0) (e0:h 0=some ⟨true,2,[J02 p]⟩) (e1:h 1=some ⟨true,2,[J0g b]⟩) (hal0:acc0.length≤3) (B0:J46 1 4 (acc0.map J0a) (s 6) h n) (hF:goO acc0 (J85 p b)=F)
 (hret:F=Option.none→∀ s' h' n' k,s' 4 = .ref k 0 0→h' k=some ⟨false,4,[]⟩→s' 5 = .bool false→J2l Tryz.prog ks .ret s' h' n' Q)
 (hK:∀ s' h' n' acc,J46 1 4 (acc.map J0a) (s' 6) h' n'→some acc=F→J2l Tryz.prog ks .normal s' h' n' Q):rC Tryz.prog ub6 ks s h n Q:=by
 obtain ⟨hpo,hin,hb⟩:=J6d hB
 have hrl:=(J5g hpo).2.2.2
 simp [ub6]
 refine J0m [2,3] 13 p.Rules.length (fun i s h m=>1<m∧h 0=some ⟨true,2,[J02 p]⟩∧h 1=some ⟨true,2,[J0g b]⟩∧∃ acc,acc.length=acc0.length+i∧J46 1 4 (acc.map J0a) (s 6) h m∧goO acc ((J85 p b).drop i)=F) (by unfold LIM;omega) (by simp) ⟨hn,e0,e1,acc0,rfl,by simpa using B0,by simpa using hF⟩ ?_ ?_
 ·rintro i st h m R hi hg hk s13 hw' ⟨m1,e0,e1,acc,hal,B,hJ⟩ hR hrt _
  simp at hk
  rw [Jmq hi] at hJ
  refine J0c (J0i [2,3,6,13] (fun s=>s 69 = .bool true) (by simp [hk,s2,e0,J02,s13,hi]) ?_)
  intro st1 hk1 s69
  simp at hk1
  refine J30 s69 (J0c (J1p ?_))
  refine J0c (Jsq hp (b:=b) hB hi (by simp [hk1,hk,s2]) (by simp [hk1,hk,s3]) (by simp [hk1,s13]) e0 e1 ?_)
  intro st3 h3 o hk3 s15 s14 O ho hfr
  simp at hk3
  generalize hT:J51 p b (mdR p i) p.Rules[i]=T at *
  cases T with
  | none=>
   simp only [Option.map_none,goO] at hJ
   simp [s15]
   exact hrt _ _ _ (hret hJ.symm _ _ _ (m+3) (by simp) (by simp) (by simp))
  | some t=>
   simp only [Option.map_some,goO] at hJ
   obtain rfl:=ho t rfl
   simp [s15]
   refine Jt4 (acc:=acc) (o:=⟨(mdR p i).System,t⟩) (v:=st 6) (q:=m) (by simp [s14]) (by simp [hk3,hk1]) O (B.keep (Nat.le_refl _) fun id _ hid _=>hfr id hid) rfl (by omega) ?_
   intro st4 h4 n4 hk4 hn4 bx4 B4
   simp at hk4
   have g0:=hfr 0 (by omega)
   have g1:=hfr 1 (by omega)
   rw [e0] at g0
   rw [e1] at g1
   simp [hk4,hk3,hk1,s13,hw']
   refine hR _ _ _ (by simp [hk4,hk3,hk1,hk]) (by simp) ⟨by omega,by rw [bx4 0 _ _ (by omega) g0,g0],by rw [bx4 1 _ _ (by omega) g1,g1],acc++[⟨(mdR p i).System,t⟩],by simp [hal];omega,?_,hJ⟩
   simpa using B4
 ·rintro st h m R hk s13 ⟨m1,e0,e1,acc,hal,B,hJ⟩ _ hX
  simp at hk
  rw [List.drop_eq_nil_of_le (by simp [J85])] at hJ
  refine J0c (J0i [2,3,6] (fun s=>s 69 = .bool false) (by simp [hk,s2,e0,J02,s13]) ?_)
  intro st1 hk1 s69
  simp at hk1
  refine J2s s69 ?_
  refine hX _ _ _ _ ?_
  simp
  refine hK _ _ _ acc ?_ hJ
  rw [hk1.2.2];exact B
end
theorem J7k (p:DProgram) (hp:J0h p≤1048576) (b:DBounds):Holds Tryz.prog 31 [.agg (J02 p),.agg (J0g b)] (fun x=>x=J93 (J1k p b)):=by
 refine J03 Tryz.func31 a31_ok rfl (by simp [a31]) ?_
 simp [a31,ub0]
 rw [←Jan]
 refine J1i [2,3,4,5] (fun s h2 n2=>J2e p b=true∧n2=2∧h2 0=some ⟨true,2,[J02 p]⟩∧h2 1=some ⟨true,2,[J0g b]⟩) ?_ ?_
 ·simp [ub1]
  first|refine J00 (Jg4 p hp b) (by first|simp;done|rfl) ?_|refine J01 (Jg4 p hp b) (by first|simp;done|rfl) ?_
  rintro r rfl
  cases hB:J2e p b
  ·have:J1k p b=Option.none:=by simp [J1k,hB]
   simp [this,J93]
  simp
 rintro st1 h1 _ hk1 ⟨hB,rfl,e0,e1⟩
 simp at hk1
 have hbo:J1k p b=goO [] (J97 p b++J85 p b):=by simp [J1k,hB]
 rw [hbo]
 clear hbo
 generalize hF:goO [] (J97 p b++J85 p b)=F
 refine J1i [2,3] (fun s h2 n2=>n2=3∧s 6 = .ref 2 0 0∧h2 2=some ⟨false,4,[]⟩∧h2 0=some ⟨true,2,[J02 p]⟩∧h2 1=some ⟨true,2,[J0g b]⟩) ?_ ?_
 ·simp [ub2,e0,e1]
 rintro st2 h2 _ hk2 ⟨rfl,s6,e2,f0,f1⟩
 simp at hk2
 refine J0i [2,3,6] (fun s=>s 7 = .int .i64 0) (by simp [ub3]) ?_
 intro st3 hk3 s7
 simp at hk3
 refine J0i [2,3,6] (fun s=>s 7 = .int .i64 (J3v b.Kind)) ?_ ?_
 ·unfold J3v
  by_cases hk:b.Kind=1
  ·simp [ub4,hk3,hk2,hk1,f1,J0g,hk]
  ·simp [ub4,hk3,hk2,hk1,f1,J0g,hk,s7]
 intro st4 hk4 s7'
 simp at hk4
 refine J0c (Jyz hp hB (F:=F) (l2:=J85 p b) (by omega) (by simp [hk4,hk3,hk2,hk1]) (by simp [hk4,hk3,hk2,hk1]) s7' (.inr ⟨2,by omega,by omega,by simp [hk4,hk3,s6],e2⟩) f0 f1 hF ?_ ?_)
 ·rintro rfl s' h' n' k s4 ek s5
  simp [s4,s5,ek,J93]
 rintro st5 h5 n5 hk5 hn5 g0 g1 ⟨acc,hal,B,hJ⟩
 simp at hk5
 refine J5b (J0c (Jwy hp hB (F:=F) hn5 (by simp [hk5,hk4,hk3,hk2,hk1]) (by simp [hk5,hk4,hk3,hk2,hk1]) g0 g1 hal B hJ ?_ ?_))
 ·rintro rfl s' h' n' k s4 ek s5
  simp [s4,s5,ek,J93]
 rintro st6 h6 n6 acc6 B6 rfl
 obtain ⟨h7,d1,_⟩:=B6.dt
 simp [ub7,-dt,-dtl,J93]
 simp [dt,dtl,d1]
theorem Jrh {p:DProgram}(h1:J34 p=true) {i k:Nat}(hi:i<p.Rules.length):(K2f p ⟨i,k⟩).System.Rows.length≤10∧∀ l∈(K2f p ⟨i,k⟩).System.Rows,l.Coeffs.length≤8:=by
 obtain ⟨f,hf,R⟩:=Jci h1 (List.getElem_mem hi)
 have hg:p.Rules.getD (i:Int).toNat Jix=p.Rules[i]:=by simp [hi]
 have hin:inR (i:Int) 0 ((p.Rules.length:Int) - 1)=true:=by simp [inR];omega
 have hfa:Jnz p p.Rules[i]=f:=by unfold Jnz;rw [hf];rfl
 have:K2f p ⟨i,k⟩=J56 p.Rules[i] f:=by unfold K2f J90;simp only [h1,hin,hg,hfa,Bool.and_self,if_true,Option.getD_some]
 rw [this]
 obtain ⟨q1,q2,_⟩:=Jqo h1 R
 exact ⟨q1,q2⟩
theorem K1p {b:Nat} : ∀ (l:List DObligation),(∀ o∈l,J2j o≤b)→J26 l≤b*l.length:=by
 intro l
 induction l with
 | nil=>intro _;simp [J26,cL]
 | cons e l ih=>
  intro h
  have h1:=ih fun x hx=>h x (List.mem_cons_of_mem _ hx)
  have h2:=h e List.mem_cons_self
  unfold J26 at *
  simp only [cL,List.length_cons,Nat.mul_add,Nat.mul_one]
  omega
end Go.Proofs.YtoclolkigjbcgaaGreat

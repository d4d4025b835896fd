/- The program's ModelOf: maps of expressions, what the heap holds; functions that read such a map. -/
import Derived.Test.YtoclolkigjbcgaaGreatKC13
namespace Go.Proofs.YtoclolkigjbcgaaGreat
set_option maxRecDepth 40000
set_option maxHeartbeats 4000000
open Go Go.RowKit Go.Proofs
set_option linter.all false
def a206:AFn:= ⟨34,[(.c 6 true 2)],(.seq (.reg [⟨some 4,.boxv (.t 1),no⟩,⟨some 6,.box [(.int .i64 0),(.nil 1)],no⟩]) (.seq (.reg [⟨some 10,.fld 0 (.t 4),no⟩,⟨some 11,.ld false 1 (.t 10),no⟩,⟨some 12,.mv (.t 2),no⟩,⟨some 13,.call (.k (.fn (.func 178) [] [])) [.t 11,.t 12],no⟩,⟨some 7,.box [(.int .i64 0),(.nil 1)],no⟩,⟨no,.st 2 (.t 7) (.t 13),no⟩]) (.seq (.seq (.reg [⟨some 14,.fld 1 (.t 4),no⟩,⟨some 15,.ld false 1 (.t 14),no⟩,⟨some 16,.len false (.t 15),no⟩,⟨some 17,.mv (.k (.int .i64 0)),no⟩]) (.blk 0 (.loop (.seq (.reg [⟨some 18,.bin .lss (.t 17) (.t 16),no⟩]) (.seq (.cond (.t 18) .skip (.exit 0)) (.seq (.blk 1 (.seq (.reg [⟨some 19,.ixa 2 (.t 15) (.t 17),no⟩,⟨some 20,.ld true 2 (.t 19),no⟩,⟨some 9,.box [(.int .i64 0),(.str [])],no⟩,⟨no,.st 2 (.t 9) (.t 20),no⟩]) (.reg [⟨some 22,.ld true 2 (.t 7),no⟩,⟨some 23,.fld 0 (.t 9),no⟩,⟨some 24,.ld false 1 (.t 23),no⟩,⟨some 25,.mv (.t 0),no⟩,⟨some 26,.fld 1 (.t 9),no⟩,⟨some 27,.ld false 1 (.t 26),no⟩,⟨some 28,.mget (.agg [(.int .i64 0),(.nil 1)]) (.t 25) (.t 27),no⟩,⟨some 29,.call (.k (.fn (.func 193) [] [])) [.t 22,.t 24,.t 28],no⟩,⟨some 21,.mv (.t 29),no⟩,⟨some 30,.ext (.t 21) 0,no⟩,⟨some 31,.ext (.t 21) 1,no⟩,⟨no,.st 2 (.t 7) (.t 30),no⟩]))) (.reg [⟨some 32,.bin .add (.t 17) (.k (.int .i64 1)),no⟩,⟨some 17,.mv (.t 32),no⟩]))))))) (.seq (.reg [⟨some 33,.ld true 2 (.t 7),no⟩,⟨no,.st 2 (.t 6) (.t 33),no⟩]) .ret))))⟩
theorem a206_ok:J0a Tryz.prog Tryz.f206=some a206:=by kernel_rfl
def a207:AFn:= ⟨36,[(.c 6 true 2)],(.seq (.reg [⟨some 4,.boxv (.t 1),no⟩,⟨some 6,.box [(.int .i64 0),(.nil 1)],no⟩]) (.seq (.seq (.reg [⟨some 8,.fld 0 (.t 4),no⟩,⟨some 9,.ld false 1 (.t 8),no⟩,⟨some 10,.un .not (.t 9),no⟩]) (.cond (.t 10) (.seq (.reg [⟨some 11,.mv (.t 0),no⟩,⟨some 12,.fld 1 (.t 4),no⟩,⟨some 13,.ld false 1 (.t 12),no⟩,⟨some 14,.ixa 2 (.t 13) (.k (.int .i64 0)),no⟩,⟨some 15,.ld true 2 (.t 14),no⟩,⟨some 16,.mv (.t 2),no⟩,⟨some 17,.call (.k (.fn (.func 206) [] [])) [.t 11,.t 15,.t 16],no⟩,⟨no,.st 2 (.t 6) (.t 17),no⟩]) .ret) .skip)) (.seq (.reg [⟨some 18,.fld 1 (.t 4),no⟩,⟨some 19,.ld false 1 (.t 18),no⟩,⟨some 20,.len false (.t 19),no⟩,⟨some 21,.mv (.t 2),no⟩,⟨some 22,.call (.k (.fn (.func 178) [] [])) [.t 20,.t 21],no⟩,⟨some 7,.box [(.int .i64 0),(.nil 1)],no⟩,⟨no,.st 2 (.t 7) (.t 22),no⟩]) (.seq (.seq (.reg [⟨some 23,.fld 2 (.t 4),no⟩,⟨some 24,.ld false 1 (.t 23),no⟩,⟨some 25,.bin .neq (.t 24) (.k (.str [])),no⟩]) (.cond (.t 25) (.reg [⟨some 27,.ld true 2 (.t 7),no⟩,⟨some 28,.mv (.t 0),no⟩,⟨some 29,.fld 2 (.t 4),no⟩,⟨some 30,.ld false 1 (.t 29),no⟩,⟨some 31,.mget (.agg [(.int .i64 0),(.nil 1)]) (.t 28) (.t 30),no⟩,⟨some 32,.call (.k (.fn (.func 193) [] [])) [.t 27,(.k (.int .i64 1)),.t 31],no⟩,⟨some 26,.mv (.t 32),no⟩,⟨some 33,.ext (.t 26) 0,no⟩,⟨some 34,.ext (.t 26) 1,no⟩,⟨no,.st 2 (.t 7) (.t 33),no⟩]) .skip)) (.seq (.reg [⟨some 35,.ld true 2 (.t 7),no⟩,⟨no,.st 2 (.t 6) (.t 35),no⟩]) .ret)))))⟩
theorem a207_ok:J0a Tryz.prog Tryz.f207=some a207:=by kernel_rfl
theorem Jek {P:Program}{f:FuncId}{xs:List AV}{h:Heap}{n:Nat}{K:AV→Heap→Nat→Prop}
 (hA:J3w P f xs h n fun r h' n'=>(∀ id,id<n→h' id=h id)∧K r h' n'):J3w P f xs h n (hK h K):=by
 refine ⟨hA.1,fun base w0 w L F vs H hv => ?_⟩
 refine (hA.2 base w0 w L F vs H hv).mono ?_
 rintro e w' ⟨v,r,L',n',F',h',rfl,H',hx,hr,hh,hk⟩
 refine ⟨v,r,L',n',F',h',rfl,H',hx,hr,fun id B hB => ?_,hk⟩
 have hlt:id<n:=by
  cases hl:L id with
  | none=>rw [H.mod id hl] at hB;cases hB
  | some l=>exact H.lt id l hl
 rw [hh id hlt];exact hB
def Jip (l:DLin) (q:Nat):AV := .agg [i64 l.Const,.ref q 0 l.Coeffs.length]
structure Ent where
 k:Str
 l:DLin
 q:Nat
def Ent.row (e:Ent):List AV:=[.str e.k,Jip e.l e.q]
def Jjw (es:List Ent):SEnv:=es.map fun e=>(e.k,e.l)
def Jaa:List Ent→Str→DLin→Nat→List Ent
 | [],k,l,q=>[⟨k,l,q⟩]
 | e::es,k,l,q=>if e.k=k then ⟨k,l,q⟩::es else e::Jaa es k l q
theorem Jlw {k:Str}{l:DLin}{q:Nat} : ∀ {es:List Ent},Jjw (Jaa es k l q)=Jlf (Jjw es) k l
 | []=>rfl
 | e::es=>by
  have ih:=Jlw (k:=k) (l:=l) (q:=q) (es:=es)
  simp only [Jaa,Jjw,List.map_cons,Jlf] at ih ⊢
  split
  ·rfl
  ·rw [List.map_cons,ih]
theorem Jf0 {k:Str}{l:DLin}{q:Nat} : ∀ {es:List Ent},Jpc (es.map Ent.row) k (Jip l q)=(Jaa es k l q).map Ent.row
 | []=>rfl
 | e::es=>by
  have ih:=Jf0 (k:=k) (l:=l) (q:=q) (es:=es)
  simp only [List.map_cons,Ent.row,Jpc,Jaa] at ih ⊢
  split
  ·rfl
  ·simp only [List.map_cons,Ent.row,List.cons.injEq,true_and];exact ih
theorem Jgq {k:Str}{l:DLin}{q:Nat} : ∀ {es:List Ent}{e:Ent},e∈Jaa es k l q→e∈es∨e=⟨k,l,q⟩
 | [],e,h=>by simp [Jaa] at h;exact .inr h
 | a::es,e,h=>by
  simp only [Jaa] at h
  split at h
  ·rcases List.mem_cons.1 h with h|h
   ·exact .inr h
   ·exact .inl (List.mem_cons_of_mem _ h)
  ·rcases List.mem_cons.1 h with rfl|h
   ·exact .inl List.mem_cons_self
   ·rcases Jgq h with h|h
    ·exact .inl (List.mem_cons_of_mem _ h)
    ·exact .inr h
theorem Jcj {k:Str} : ∀ {es:List Ent},(Jao (es.map Ent.row) k=Option.none∧∀ d,J2w d (Jjw es) k=d)∨∃ e∈es,Jao (es.map Ent.row) k=some (Jip e.l e.q)∧∀ d,J2w d (Jjw es) k=e.l
 | [] => .inl ⟨rfl,fun _=>rfl⟩
 | a::es=>by
  simp only [List.map_cons,Ent.row,Jao,Jjw,J2w,List.find?_cons]
  by_cases h:a.k=k
  ·exact .inr ⟨a,List.mem_cons_self,by rw [if_pos h],fun d=>by simp [h]⟩
  ·rw [if_neg h]
   have hb:(a.k==k)=false:=by simpa using h
   rcases Jcj (k:=k) (es:=es) with ⟨h1,h2⟩|⟨e,he,h1,h2⟩
   ·exact .inl ⟨h1,fun d=>by rw [hb];exact h2 d⟩
   ·exact .inr ⟨e,List.mem_cons_of_mem _ he,h1,fun d=>by rw [hb];exact h2 d⟩
def Jc4 (d:Nat) (E:SEnv) (h:Heap) (n:Nat):Prop:=∃ es:List Ent,Jjw es=E∧h d=some ⟨true,0,es.map Ent.row⟩∧∀ e∈es,e.q<n∧h e.q=some ⟨false,1,J0k e.l.Coeffs⟩
theorem Jc4.keep {d:Nat}{E:SEnv}{h h':Heap}{n n':Nat}(M:Jc4 d E h n) (hd:d<n) (hn:n≤n') (hh:∀ id,id<n→h' id=h id):Jc4 d E h' n':=by
 obtain ⟨es,h1,h2,h3⟩:=M
 exact ⟨es,h1,by rw [hh d hd,h2],fun e he=>⟨by have:=(h3 e he).1;omega,by rw [hh _ (h3 e he).1];exact (h3 e he).2⟩⟩
theorem Jc4.get {d:Nat}{E:SEnv}{h:Heap}{n:Nat}(M:Jc4 d E h n) (x:Str):∃ rows w,h d=some ⟨true,0,rows⟩∧(Jao rows x).getD (.agg [.int .i64 0,.nil 1]) = .agg [.int .i64 (J2w J1b E x).Const,w]∧bw w h=some (.sl 1 (J0k (J2w J1b E x).Coeffs)):=by
 obtain ⟨es,rfl,h2,h3⟩:=M
 refine ⟨es.map Ent.row,?_⟩
 rcases Jcj (k:=x) (es:=es) with ⟨g1,g2⟩|⟨e,he,g1,g2⟩
 ·exact ⟨.nil 1,h2,by rw [g1,g2];rfl,by rw [g2];rfl⟩
 ·refine ⟨.ref e.q 0 e.l.Coeffs.length,h2,by rw [g1,g2];rfl,?_⟩
  rw [g2]
  simp [bw,(h3 e he).2]
theorem Jc4.get2 {d:Nat}{E:SEnv}{h:Heap}{n:Nat}(M:Jc4 d E h n) (x:Str):∃ rows w,h d=some ⟨true,0,rows⟩∧(Jao rows x).getD (.agg [.int .i64 0,.nil 1]) = .agg [.int .i64 (J2w J1b E x).Const,w] ∧
 ((w = .nil 1∧(J2w J1b E x).Coeffs=[])∨∃ q,q<n∧w = .ref q 0 (J2w J1b E x).Coeffs.length∧h q=some ⟨false,1,J0k (J2w J1b E x).Coeffs⟩):=by
 obtain ⟨es,rfl,h2,h3⟩:=M
 refine ⟨es.map Ent.row,?_⟩
 rcases Jcj (k:=x) (es:=es) with ⟨g1,g2⟩|⟨e,he,g1,g2⟩
 ·exact ⟨.nil 1,h2,by rw [g1,g2];rfl,.inl ⟨rfl,by rw [g2];rfl⟩⟩
 ·refine ⟨.ref e.q 0 e.l.Coeffs.length,h2,by rw [g1,g2];rfl,.inr ⟨e.q,(h3 e he).1,by rw [g2],by rw [g2];exact (h3 e he).2⟩⟩
theorem Jd1 {d:Nat}{E:SEnv}{h:Heap}{n N:Nat}{s:DSum}(hs:s.Terms.length≤1048576) (M:Jc4 d E h n) (hd:d<n) {K:AV→Heap→Nat→Prop}
 (hK:∀ q h' n',n≤q→q<n'→(∀ id,id<n→h' id=h id)→h' q=some ⟨false,1,J0k (Jfv E N s).Coeffs⟩→K (Jip (Jfv E N s) q) h' n') :
 J3w Tryz.prog 206 [.mp d,.agg (J1g s),i64 N] h n K:=by
 refine J2g Tryz.func206 a206_ok rfl (by simp [a206]) ?_
 have z0:¬n=n+1:=by omega
 have z1:¬n+1=n:=by omega
 have z2:¬n=n+1+1:=by omega
 have z3:¬n=n+1+1+1:=by omega
 have z4:¬n+1=n+1+1:=by omega
 have z5:¬n+1=n+1+1+1:=by omega
 have z6:¬n+1+1=n:=by omega
 have z7:¬n+1+1+1=n:=by omega
 simp [a206,J1g]
 first|refine J00 (J1t s.Const N) (by first|simp;done|rfl) ?_|refine J02 (J1t s.Const N) (by first|simp;done|rfl) ?_
 rintro r rfl
 simp [J08,J1g,z0,z1,z2,z3,z4,z5,z6,z7]
 intro _
 unfold Jfv at hK
 generalize hT:s.Terms.foldl (fun o t=>J88 o t.Coeff (J2w J1b E t.Name)) (J05 s.Const N)=T at hK
 refine J0o [0,2,4,6,7,15,16] 17 s.Terms.length (fun i st h' m=>n+3<m∧(∀ id,id<n→h' id=h id)∧h' n=some ⟨true,2,[[.int .i64 s.Const,.sl 2 (s.Terms.map J12)]]⟩∧h' (n+1)=some ⟨true,2,[[.int .i64 0,.nil 1]]⟩ ∧
  ∃ (o:DLin) (q:Nat),h' (n+3)=some ⟨true,2,[[.int .i64 o.Const,.ref q 0 o.Coeffs.length]]⟩∧h' q=some ⟨false,1,J0k o.Coeffs⟩∧(q=n+2∨n+3<q)∧q<m∧(s.Terms.drop i).foldl (fun o t=>J88 o t.Coeff (J2w J1b E t.Name)) o=T) (by unfold LIM;omega) (by simp) ?_ ?_ ?_
 ·refine ⟨by omega,?_,by simp [z0,z1,z2,z3,z4,z5,z6,z7],by simp [z0,z1,z2,z3,z4,z5,z6,z7],J05 s.Const N,n+2,by simp [z0,z1,z2,z3,z4,z5,z6,z7],by simp,.inl rfl,by omega,hT⟩
  intro id hid
  have y0:¬id=n:=by omega
  have y1:¬id=n+1:=by omega
  have y2:¬id=n+1+1:=by omega
  have y3:¬id=n+1+1+1:=by omega
  have y4:¬id=n+2:=by omega
  have y5:¬id=n+3:=by omega
  simp [y0,y1,y2,y3,y4,y5]
 ·rintro i st h' m R hi hg hk s17 hw ⟨hm,hfr,e0,e1,o,q,eb,eq,hq,hqm,hJ⟩ hR _ _
  simp at hk
  rw [List.drop_eq_getElem_cons hi,List.foldl_cons] at hJ
  refine J0i [0,2,4,6,7,15,16,17] (fun s=>s 18 = .bool true) (by simp [hk,s17,hi]) ?_
  intro st1 hk1 s18
  simp at hk1
  refine J3g s18 (J0b (J1c ?_))
  refine J15 [0,2,4,6,7,15,16,17] (fun st2 h2 m2=>m2=m+1∧st2 9 = .ptr m 0 0∧h2 m=some ⟨true,2,[J12 s.Terms[i]]⟩∧∀ id,id<m→h2 id=h' id) ?_ ?_
  ·simp [hk1,hk,s17,hi,J12]
   intro id hid
   have:¬id=m:=by omega
   simp [this]
  rintro st2 h2 m2 hk2 ⟨rfl,s9,em,hfr2⟩
  simp at hk2
  have M2:Jc4 d E h2 (m+1):=M.keep hd (by omega) fun id hid=>by rw [hfr2 id (by omega),hfr id hid]
  obtain ⟨rows,w,hdr,hv,hbw⟩:=M2.get (s.Terms[i]).Name
  have eb2:=hfr2 (n+3) (by omega)
  have eq2:=hfr2 q (by omega)
  rw [eb] at eb2
  rw [eq] at eq2
  simp [hk2,hk1,hk,s17,s9,em,eb2,J12,hdr,hv]
  first|refine J00 (J1r o (s.Terms[i]'hi).Coeff (J2w J1b E (s.Terms[i]'hi).Name)) (by first|simp [J07,eq2,hbw];done|rfl) ?_|refine J02 (J1r o (s.Terms[i]'hi).Coeff (J2w J1b E (s.Terms[i]'hi).Name)) (by first|simp [J07,eq2,hbw];done|rfl) ?_
  rintro r rfl
  rw [J0l]
  have hadd:(J0j o (s.Terms[i]).Coeff (J2w J1b E (s.Terms[i]).Name)).getD J1b=J88 o (s.Terms[i]).Coeff (J2w J1b E (s.Terms[i]).Name):=rfl
  rw [hadd]
  generalize J88 o (s.Terms[i]).Coeff (J2w J1b E (s.Terms[i]).Name)=o' at *
  have b1:¬n+3=m+1:=by omega
  have b2:¬m+1=n+3:=by omega
  have b3:¬n=m+1:=by omega
  have b4:¬n+1=m+1:=by omega
  have b5:¬n+1+1=m:=by omega
  have b6:¬m=n+1+1:=by omega
  have b7:¬m=n+2:=by omega
  have b8:¬n+2=m:=by omega
  simp [hk2,hk1,hk,s17,hw,J08,eb2,b1,b2,b5,b6]
  refine hR _ _ _ (by simp [hk2,hk1,hk]) (by simp) ⟨by omega,?_,?_,?_,o',m+1,by simp,by simp [b2,b6,b7],.inr (by omega),by omega,hJ⟩
  ·intro id hid
   have y0:¬id=n+3:=by omega
   have y1:¬id=m+1:=by omega
   simp [y0,y1,hfr2 id (by omega),hfr id hid]
  ·simp [b3,hfr2 n (by omega),e0,z3]
  ·have:¬n+1=n+3:=by omega
   simp [b4,hfr2 (n+1) (by omega),e1]
   try omega
 ·rintro st h' m R hk s17 ⟨hm,hfr,e0,e1,o,q,eb,eq,hq,hqm,hJ⟩ hret hX
  simp at hk
  rw [List.drop_eq_nil_of_le (by omega)] at hJ
  simp only [List.foldl_nil] at hJ
  subst hJ
  refine J0i [6,7] (fun s=>s 18 = .bool false) (by simp [hk,s17]) ?_
  intro st1 hk1 s18
  simp at hk1
  refine J37 s18 ?_
  refine hX _ _ _ _ ?_
  have c1:¬q=n+1:=by omega
  simp [hk1,hk,eb,e1]
  refine hK q _ _ (by omega) hqm ?_ (by simp [c1,eq])
  intro id hid
  have y0:¬id=n+1:=by omega
  simp [y0,hfr id hid]
theorem Jd2 {d:Nat}{E:SEnv}{h:Heap}{n N:Nat}{a:DArg}(hs:∀ s∈a.Heads,s.Terms.length≤1048576) (hne:a.Lst=false→0<a.Heads.length) (M:Jc4 d E h n) (hd:d<n) {K:AV→Heap→Nat→Prop}
 (hK:∀ q h' n',n≤q→q<n'→(∀ id,id<n→h' id=h id)→h' q=some ⟨false,1,J0k (Jgd E N a).Coeffs⟩→K (Jip (Jgd E N a) q) h' n') :
 J3w Tryz.prog 207 [.mp d,.agg (J0v a),i64 N] h n K:=by
 refine J2g Tryz.func207 a207_ok rfl (by simp [a207]) ?_
 have z0:¬n=n+1:=by omega
 have z1:¬n+1=n:=by omega
 have z2:¬n=n+1+1:=by omega
 have z3:¬n=n+1+1+1:=by omega
 have z4:¬n+1=n+1+1:=by omega
 have z5:¬n+1=n+1+1+1:=by omega
 have z6:¬n+1+1=n:=by omega
 have z7:¬n+1+1+1=n:=by omega
 unfold Jgd at hK
 have M2:Jc4 d E (upd (upd h n (some ⟨true,3,[J0v a]⟩)) (n+1) (some ⟨true,2,[[.int .i64 0,.nil 1]]⟩)) (n+2):=M.keep hd (by omega) fun id hid=>by
  have y0:¬id=n:=by omega
  have y1:¬id=n+1:=by omega
  simp [y0,y1]
 cases hL:a.Lst
 ·rw [hL] at hK
  have hz:=hne hL
  obtain ⟨s,l,hsl⟩:∃ s l,a.Heads=s::l:=by
   cases hh:a.Heads with
   | nil=>rw [hh] at hz;cases hz
   | cons s l=>exact ⟨s,l,rfl⟩
  have hs0:=hs s (by rw [hsl];exact List.mem_cons_self)
  simp [hsl] at hK
  simp [a207,J0v,hL,hsl,z0,z1]
  refine Jd1 (E:=E) hs0 (by simpa [J0v,hL,hsl] using M2) (by omega) ?_
  intro q h' n' hq hq' hfr hqb
  have f1:=hfr (n+1) (by omega)
  simp at f1
  simp [Jip,f1]
  have y2:¬q=n+1:=by omega
  refine hK q _ _ (by omega) hq' ?_ (by simp [y2,hqb])
  intro id hid
  have y0:¬id=n:=by omega
  have y1:¬id=n+1:=by omega
  simp [y0,y1,hfr id (by omega)]
 ·rw [hL] at hK
  simp at hK
  simp [a207,J0v,hL,z0,z1]
  intro _
  first|refine J00 (J1t a.Heads.length N) (by first|simp;done|rfl) ?_|refine J02 (J1t a.Heads.length N) (by first|simp;done|rfl) ?_
  rintro r rfl
  obtain ⟨rows,w,hdr,hv,hw⟩:=M.get2 a.Base
  have d0:¬d=n:=by omega
  have d1:¬d=n+1:=by omega
  have d2:¬d=n+1+1:=by omega
  have d3:¬d=n+1+1+1:=by omega
  have d4:¬n+1=n+3:=by omega
  have d5:¬n+1+1=n+3:=by omega
  have fr:∀ id,id<n→¬id=n∧¬id=n+1∧¬id=n+1+1∧¬id=n+1+1+1∧¬id=n+2∧¬id=n+3∧¬id=n+1+1+1+1∧¬id=n+4:=fun id hid=>by omega
  simp [J08,z0,z1,z2,z3,z4,z5,z6,z7]
  constructor
  ·intro hb
   rw [if_neg hb] at hK
   simp [d0,d1,d2,d3,hdr,hv]
   unfold J88 at hK
   rcases hw with ⟨rfl,hc⟩|⟨q,hq,rfl,hqb⟩
   ·have hl:J2w J1b E a.Base=⟨(J2w J1b E a.Base).Const,[]⟩:=by rw [←hc]
    generalize (J2w J1b E a.Base).Const=cc at *
    rw [hl] at hK
    have en:J0k []=[]:=rfl
    first|refine J00 (J1r (J05 a.Heads.length N) 1 ⟨cc,[]⟩) (by first|simp [J07,J08,en,z0,z1,z2,z3,z4,z5,z6,z7];done|rfl) ?_|refine J02 (J1r (J05 a.Heads.length N) 1 ⟨cc,[]⟩) (by first|simp [J07,J08,en,z0,z1,z2,z3,z4,z5,z6,z7];done|rfl) ?_
    rintro r rfl
    rw [J0l]
    generalize (J0j (J05 a.Heads.length N) 1 ⟨cc,[]⟩).getD J1b=o' at *
    simp [J08,z0,z1,z2,z3,z4,z5,z6,z7]
    refine hK (n+4) _ _ (by omega) (by omega) (fun id hid=>by simp [fr id hid]) (by simp)
   ·obtain ⟨q0,q1,q2,q3,q4,q5,q6,q7⟩:=fr q hq
    first|refine J00 (J1r (J05 a.Heads.length N) 1 (J2w J1b E a.Base)) (by first|simp [J07,J08,z0,z1,z2,z3,z4,z5,z6,z7,hqb,q0,q1,q2,q3];done|rfl) ?_|refine J02 (J1r (J05 a.Heads.length N) 1 (J2w J1b E a.Base)) (by first|simp [J07,J08,z0,z1,z2,z3,z4,z5,z6,z7,hqb,q0,q1,q2,q3];done|rfl) ?_
    rintro r rfl
    rw [J0l]
    generalize (J0j (J05 a.Heads.length N) 1 (J2w J1b E a.Base)).getD J1b=o' at *
    simp [J08,z0,z1,z2,z3,z4,z5,z6,z7]
    refine hK (n+4) _ _ (by omega) (by omega) (fun id hid=>by simp [fr id hid]) (by simp)
  ·intro hb
   rw [if_pos hb] at hK
   refine hK (n+2) _ _ (by omega) (by omega) (fun id hid=>by simp [fr id hid]) (by simp)
def a230:AFn:= ⟨10,[.t 2],(.seq (.reg [⟨some 2,.mv (.k (.bool false)),no⟩]) (.seq (.seq (.reg [⟨some 3,.mv (.t 0),no⟩]) (.blk 0 (.seq (.seq (.reg [⟨some 5,.bin .eql (.t 3) (.k (.str [102,117,110])),no⟩,⟨some 4,.mv (.t 5),no⟩]) (.cond (.t 4) .skip (.seq (.reg [⟨some 6,.bin .eql (.t 3) (.k (.str [112,114,101])),no⟩,⟨some 4,.mv (.t 6),no⟩]) (.cond (.t 4) .skip (.seq (.reg [⟨some 7,.bin .eql (.t 3) (.k (.str [114,117,108,101])),no⟩,⟨some 4,.mv (.t 7),no⟩]) (.cond (.t 4) .skip (.seq (.reg [⟨some 8,.bin .eql (.t 3) (.k (.str [114,101,116,117,114,110])),no⟩,⟨some 4,.mv (.t 8),no⟩]) (.cond (.t 4) .skip (.reg [⟨some 9,.bin .eql (.t 3) (.k (.str [110,105,108])),no⟩,⟨some 4,.mv (.t 9),no⟩]))))))))) (.cond (.t 4) (.seq (.reg [⟨some 2,.mv (.k (.bool true)),no⟩]) .ret) .skip)))) (.seq (.reg [⟨some 2,.mv (.k (.bool false)),no⟩]) .ret)))⟩
theorem a230_ok:J0a Tryz.prog Tryz.f230=some a230:=by kernel_rfl
def a224:AFn:= ⟨18,[.t 4],(.seq (.reg [⟨some 4,.mv (.k (.bool false)),no⟩]) (.seq (.seq (.reg [⟨some 5,.mv (.k (.int .i64 0)),no⟩]) (.blk 0 (.loop (.seq (.seq (.reg [⟨some 6,.mv (.t 5),no⟩,⟨some 7,.mv (.t 0),no⟩,⟨some 8,.len false (.t 7),no⟩,⟨some 9,.bin .lss (.t 6) (.t 8),no⟩]) (.cond (.t 9) .skip (.exit 0))) (.seq (.blk 1 (.seq (.reg [⟨some 12,.mv (.t 0),no⟩,⟨some 13,.mv (.t 5),no⟩,⟨some 14,.ixa 1 (.t 12) (.t 13),no⟩,⟨some 15,.ld false 1 (.t 14),no⟩,⟨some 16,.mv (.t 1),no⟩,⟨some 17,.bin .eql (.t 15) (.t 16),no⟩]) (.cond (.t 17) (.seq (.reg [⟨some 4,.mv (.k (.bool true)),no⟩]) .ret) .skip))) (.reg [⟨some 10,.mv (.t 5),no⟩,⟨some 11,.bin .add (.t 10) (.k (.int .i64 1)),no⟩,⟨some 5,.mv (.t 11),no⟩])))))) (.seq (.reg [⟨some 4,.mv (.k (.bool false)),no⟩]) .ret)))⟩
theorem a224_ok:J0a Tryz.prog Tryz.f224=some a224:=by kernel_rfl
def a153:AFn:= ⟨19,[.t 4],(.seq (.reg [⟨some 4,.mv (.k (.int .i64 0)),no⟩]) (.seq (.seq (.reg [⟨some 6,.mv (.t 0),no⟩,⟨some 7,.len false (.t 6),no⟩,⟨some 8,.mv (.k (.int .i64 0)),no⟩]) (.blk 0 (.loop (.seq (.reg [⟨some 9,.bin .lss (.t 8) (.t 7),no⟩]) (.seq (.cond (.t 9) .skip (.exit 0)) (.seq (.blk 1 (.seq (.reg [⟨some 10,.mv (.t 8),no⟩,⟨some 5,.mv (.t 10),no⟩]) (.seq (.reg [⟨some 11,.mv (.t 1),no⟩,⟨some 12,.mv (.t 0),no⟩,⟨some 13,.mv (.t 5),no⟩,⟨some 14,.ixa 1 (.t 12) (.t 13),no⟩,⟨some 15,.ld false 1 (.t 14),no⟩,⟨some 16,.bin .eql (.t 11) (.t 15),no⟩]) (.cond (.t 16) (.seq (.reg [⟨some 17,.mv (.t 5),no⟩,⟨some 4,.mv (.t 17),no⟩]) .ret) .skip)))) (.reg [⟨some 18,.bin .add (.t 8) (.k (.int .i64 1)),no⟩,⟨some 8,.mv (.t 18),no⟩]))))))) (.seq (.reg [⟨some 4,.mv (.k (.int .i64 (-1))),no⟩]) .ret)))⟩
theorem a153_ok:J0a Tryz.prog Tryz.f153=some a153:=by kernel_rfl
def a72:AFn:= ⟨9,[.t 4],(.seq (.reg [⟨some 4,.mv (.k (.bool false)),no⟩]) (.seq (.reg [⟨some 5,.mv (.t 0),no⟩,⟨some 6,.mv (.t 1),no⟩,⟨some 7,.call (.k (.fn (.func 153) [] [])) [.t 5,.t 6],no⟩,⟨some 8,.bin .geq (.t 7) (.k (.int .i64 0)),no⟩,⟨some 4,.mv (.t 8),no⟩]) .ret))⟩
theorem a72_ok:J0a Tryz.prog Tryz.f72=some a72:=by kernel_rfl
def a63:AFn:= ⟨19,[.t 4],(.seq (.reg [⟨some 4,.mv (.k (.int .i64 0)),no⟩]) (.seq (.seq (.reg [⟨some 5,.mv (.k (.int .i64 0)),no⟩]) (.blk 0 (.loop (.seq (.seq (.reg [⟨some 6,.mv (.t 5),no⟩,⟨some 7,.mv (.t 0),no⟩,⟨some 8,.len false (.t 7),no⟩,⟨some 9,.bin .lss (.t 6) (.t 8),no⟩]) (.cond (.t 9) .skip (.exit 0))) (.seq (.blk 1 (.seq (.reg [⟨some 12,.mv (.t 0),no⟩,⟨some 13,.mv (.t 5),no⟩,⟨some 14,.ixa 1 (.t 12) (.t 13),no⟩,⟨some 15,.ld false 1 (.t 14),no⟩,⟨some 16,.mv (.t 1),no⟩,⟨some 17,.bin .eql (.t 15) (.t 16),no⟩]) (.cond (.t 17) (.seq (.reg [⟨some 18,.mv (.t 5),no⟩,⟨some 4,.mv (.t 18),no⟩]) .ret) .skip))) (.reg [⟨some 10,.mv (.t 5),no⟩,⟨some 11,.bin .add (.t 10) (.k (.int .i64 1)),no⟩,⟨some 5,.mv (.t 11),no⟩])))))) (.seq (.reg [⟨some 4,.mv (.k (.int .i64 (-1))),no⟩]) .ret)))⟩
theorem a63_ok:J0a Tryz.prog Tryz.f63=some a63:=by kernel_rfl
def a333:AFn:= ⟨2,[.t 0],(.seq (.reg [⟨some 0,.mv (.k (.nil 1)),no⟩]) (.seq (.reg [⟨some 1,.bsl 1 [(.k (.str [102,117,110])),(.k (.str [112,114,101])),(.k (.str [114,117,108,101])),(.k (.str [114,101,116,117,114,110])),(.k (.str [110,105,108]))],no⟩,⟨some 0,.mv (.t 1),no⟩]) .ret))⟩
theorem a333_ok:J0a Tryz.prog Tryz.f333=some a333:=by kernel_rfl
def a317:AFn:= ⟨6,[.t 2],(.seq (.reg [⟨some 2,.mv (.k (.bool false)),no⟩]) (.seq (.reg [⟨some 3,.call (.k (.fn (.func 333) [] [])) [],no⟩,⟨some 4,.mv (.t 0),no⟩,⟨some 5,.call (.k (.fn (.func 224) [] [])) [.t 3,.t 4],no⟩,⟨some 2,.mv (.t 5),no⟩]) .ret))⟩
theorem a317_ok:J0a Tryz.prog Tryz.f317=some a317:=by kernel_rfl
def a143:AFn:= ⟨50,[.t 2],(.seq (.reg [⟨some 2,.mv (.k (.bool false)),no⟩]) (.seq (.seq (.reg [⟨some 6,.mv (.t 0),no⟩,⟨some 7,.len true (.t 6),no⟩,⟨some 8,.call (.k (.fn (.func 102) [] [])) [.t 7,(.k (.int .i64 1)),(.k (.int .i64 8))],no⟩,⟨some 9,.un .not (.t 8),no⟩,⟨some 10,.mv (.t 9),no⟩,⟨some 11,.mv (.t 0),(some (10,false))⟩,⟨some 12,.call (.k (.fn (.func 230) [] [])) [.t 11],(some (10,false))⟩,⟨some 13,.pick (.t 10) (.k (.bool true)) (.t 12),no⟩]) (.cond (.t 13) (.seq (.reg [⟨some 2,.mv (.k (.bool false)),no⟩]) .ret) .skip)) (.seq (.seq (.reg [⟨some 3,.mv (.k (.int .i64 0)),no⟩]) (.blk 0 (.loop (.seq (.seq (.reg [⟨some 14,.mv (.t 3),no⟩,⟨some 15,.mv (.t 0),no⟩,⟨some 16,.len true (.t 15),no⟩,⟨some 17,.bin .lss (.t 14) (.t 16),no⟩]) (.cond (.t 17) .skip (.exit 0))) (.seq (.blk 1 (.seq (.reg [⟨some 20,.mv (.t 0),no⟩,⟨some 21,.mv (.t 3),no⟩,⟨some 22,.ixs (.t 20) (.t 21),no⟩,⟨some 23,.bin .geq (.t 22) (.k (.int .u8 97)),no⟩,⟨some 24,.mv (.t 23),no⟩,⟨some 25,.mv (.t 0),(some (24,true))⟩,⟨some 26,.mv (.t 3),(some (24,true))⟩,⟨some 27,.ixs (.t 25) (.t 26),(some (24,true))⟩,⟨some 28,.bin .leq (.t 27) (.k (.int .u8 122)),(some (24,true))⟩,⟨some 29,.pick (.t 24) (.t 28) (.k (.bool false)),no⟩,⟨some 4,.mv (.t 29),no⟩]) (.seq (.reg [⟨some 30,.mv (.t 0),no⟩,⟨some 31,.mv (.t 3),no⟩,⟨some 32,.ixs (.t 30) (.t 31),no⟩,⟨some 33,.bin .geq (.t 32) (.k (.int .u8 48)),no⟩,⟨some 34,.mv (.t 33),no⟩,⟨some 35,.mv (.t 0),(some (34,true))⟩,⟨some 36,.mv (.t 3),(some (34,true))⟩,⟨some 37,.ixs (.t 35) (.t 36),(some (34,true))⟩,⟨some 38,.bin .leq (.t 37) (.k (.int .u8 57)),(some (34,true))⟩,⟨some 39,.pick (.t 34) (.t 38) (.k (.bool false)),no⟩,⟨some 5,.mv (.t 39),no⟩]) (.seq (.reg [⟨some 40,.mv (.t 4),no⟩,⟨some 41,.un .not (.t 40),no⟩,⟨some 42,.mv (.t 41),no⟩,⟨some 43,.mv (.t 5),(some (42,true))⟩,⟨some 44,.mv (.t 43),(some (42,true))⟩,⟨some 45,.mv (.t 3),(some (44,true))⟩,⟨some 46,.bin .gtr (.t 45) (.k (.int .i64 0)),(some (44,true))⟩,⟨some 47,.pick (.t 44) (.t 46) (.k (.bool false)),(some (42,true))⟩,⟨some 48,.un .not (.t 47),(some (42,true))⟩,⟨some 49,.pick (.t 42) (.t 48) (.k (.bool false)),no⟩]) (.cond (.t 49) (.seq (.reg [⟨some 2,.mv (.k (.bool false)),no⟩]) .ret) .skip))))) (.reg [⟨some 18,.mv (.t 3),no⟩,⟨some 19,.bin .add (.t 18) (.k (.int .i64 1)),no⟩,⟨some 3,.mv (.t 19),no⟩])))))) (.seq (.reg [⟨some 2,.mv (.k (.bool true)),no⟩]) .ret))))⟩
theorem a143_ok:J0a Tryz.prog Tryz.f143=some a143:=by kernel_rfl
def a316:AFn:= ⟨45,[.t 2],(.seq (.reg [⟨some 2,.mv (.k (.bool false)),no⟩]) (.seq (.seq (.reg [⟨some 3,.mv (.k (.int .i64 0)),no⟩]) (.blk 0 (.loop (.seq (.seq (.reg [⟨some 6,.mv (.t 3),no⟩,⟨some 7,.mv (.t 0),no⟩,⟨some 8,.len true (.t 7),no⟩,⟨some 9,.bin .lss (.t 6) (.t 8),no⟩]) (.cond (.t 9) .skip (.exit 0))) (.seq (.blk 1 (.seq (.reg [⟨some 12,.mv (.t 0),no⟩,⟨some 13,.mv (.t 3),no⟩,⟨some 14,.ixs (.t 12) (.t 13),no⟩,⟨some 15,.bin .geq (.t 14) (.k (.int .u8 97)),no⟩,⟨some 16,.mv (.t 15),no⟩,⟨some 17,.mv (.t 0),(some (16,true))⟩,⟨some 18,.mv (.t 3),(some (16,true))⟩,⟨some 19,.ixs (.t 17) (.t 18),(some (16,true))⟩,⟨some 20,.bin .leq (.t 19) (.k (.int .u8 122)),(some (16,true))⟩,⟨some 21,.pick (.t 16) (.t 20) (.k (.bool false)),no⟩,⟨some 4,.mv (.t 21),no⟩]) (.seq (.reg [⟨some 22,.mv (.t 0),no⟩,⟨some 23,.mv (.t 3),no⟩,⟨some 24,.ixs (.t 22) (.t 23),no⟩,⟨some 25,.bin .geq (.t 24) (.k (.int .u8 48)),no⟩,⟨some 26,.mv (.t 25),no⟩,⟨some 27,.mv (.t 0),(some (26,true))⟩,⟨some 28,.mv (.t 3),(some (26,true))⟩,⟨some 29,.ixs (.t 27) (.t 28),(some (26,true))⟩,⟨some 30,.bin .leq (.t 29) (.k (.int .u8 57)),(some (26,true))⟩,⟨some 31,.pick (.t 26) (.t 30) (.k (.bool false)),no⟩,⟨some 5,.mv (.t 31),no⟩]) (.seq (.reg [⟨some 32,.mv (.t 4),no⟩,⟨some 33,.un .not (.t 32),no⟩,⟨some 34,.mv (.t 33),no⟩,⟨some 35,.mv (.t 3),(some (34,true))⟩,⟨some 36,.bin .eql (.t 35) (.k (.int .i64 0)),(some (34,true))⟩,⟨some 37,.mv (.t 36),(some (34,true))⟩,⟨some 38,.mv (.t 5),(some (37,false))⟩,⟨some 39,.un .not (.t 38),(some (37,false))⟩,⟨some 40,.pick (.t 37) (.k (.bool true)) (.t 39),(some (34,true))⟩,⟨some 41,.pick (.t 34) (.t 40) (.k (.bool false)),no⟩]) (.cond (.t 41) (.seq (.reg [⟨some 2,.mv (.k (.bool false)),no⟩]) .ret) .skip))))) (.reg [⟨some 10,.mv (.t 3),no⟩,⟨some 11,.bin .add (.t 10) (.k (.int .i64 1)),no⟩,⟨some 3,.mv (.t 11),no⟩])))))) (.seq (.reg [⟨some 42,.mv (.t 0),no⟩,⟨some 43,.len true (.t 42),no⟩,⟨some 44,.bin .gtr (.t 43) (.k (.int .i64 0)),no⟩,⟨some 2,.mv (.t 44),no⟩]) .ret)))⟩
theorem a316_ok:J0a Tryz.prog Tryz.f316=some a316:=by kernel_rfl
def a285:AFn:= ⟨15,[.t 2],(.seq (.reg [⟨some 2,.mv (.k (.bool false)),no⟩]) (.seq (.reg [⟨some 3,.mv (.t 0),no⟩,⟨some 4,.call (.k (.fn (.func 316) [] [])) [.t 3],no⟩,⟨some 5,.mv (.t 4),no⟩,⟨some 6,.mv (.t 0),(some (5,true))⟩,⟨some 7,.len true (.t 6),(some (5,true))⟩,⟨some 8,.bin .leq (.t 7) (.k (.int .i64 8)),(some (5,true))⟩,⟨some 9,.pick (.t 5) (.t 8) (.k (.bool false)),no⟩,⟨some 10,.mv (.t 9),no⟩,⟨some 11,.mv (.t 0),(some (10,true))⟩,⟨some 12,.call (.k (.fn (.func 317) [] [])) [.t 11],(some (10,true))⟩,⟨some 13,.un .not (.t 12),(some (10,true))⟩,⟨some 14,.pick (.t 10) (.t 13) (.k (.bool false)),no⟩,⟨some 2,.mv (.t 14),no⟩]) .ret))⟩
theorem a285_ok:J0a Tryz.prog Tryz.f285=some a285:=by kernel_rfl
def a205:AFn:= ⟨13,[.t 2],(.seq (.reg [⟨some 2,.mv (.k (.bool false)),no⟩]) (.seq (.reg [⟨some 3,.mv (.t 0),no⟩,⟨some 4,.call (.k (.fn (.func 143) [] [])) [.t 3],no⟩,⟨some 5,.mv (.t 4),no⟩,⟨some 6,.mv (.t 0),(some (5,true))⟩,⟨some 7,.mv (.t 0),(some (5,true))⟩,⟨some 8,.len true (.t 7),(some (5,true))⟩,⟨some 9,.bin .sub (.t 8) (.k (.int .i64 1)),(some (5,true))⟩,⟨some 10,.ixs (.t 6) (.t 9),(some (5,true))⟩,⟨some 11,.bin .eql (.t 10) (.k (.int .u8 115)),(some (5,true))⟩,⟨some 12,.pick (.t 5) (.t 11) (.k (.bool false)),no⟩,⟨some 2,.mv (.t 12),no⟩]) .ret))⟩
theorem a205_ok:J0a Tryz.prog Tryz.f205=some a205:=by kernel_rfl
def a140:AFn:= ⟨10,[.t 2],(.seq (.reg [⟨some 2,.mv (.k (.bool false)),no⟩]) (.seq (.reg [⟨some 3,.mv (.t 0),no⟩,⟨some 4,.call (.k (.fn (.func 143) [] [])) [.t 3],no⟩,⟨some 5,.mv (.t 4),no⟩,⟨some 6,.mv (.t 0),(some (5,true))⟩,⟨some 7,.call (.k (.fn (.func 205) [] [])) [.t 6],(some (5,true))⟩,⟨some 8,.un .not (.t 7),(some (5,true))⟩,⟨some 9,.pick (.t 5) (.t 8) (.k (.bool false)),no⟩,⟨some 2,.mv (.t 9),no⟩]) .ret))⟩
theorem a140_ok:J0a Tryz.prog Tryz.f140=some a140:=by kernel_rfl
def a260:AFn:= ⟨13,[.t 2],(.seq (.reg [⟨some 2,.mv (.k (.bool false)),no⟩]) (.seq (.reg [⟨some 3,.mv (.t 0),no⟩,⟨some 4,.call (.k (.fn (.func 285) [] [])) [.t 3],no⟩,⟨some 5,.mv (.t 4),no⟩,⟨some 6,.mv (.t 0),(some (5,true))⟩,⟨some 7,.mv (.t 0),(some (5,true))⟩,⟨some 8,.len true (.t 7),(some (5,true))⟩,⟨some 9,.bin .sub (.t 8) (.k (.int .i64 1)),(some (5,true))⟩,⟨some 10,.ixs (.t 6) (.t 9),(some (5,true))⟩,⟨some 11,.bin .eql (.t 10) (.k (.int .u8 115)),(some (5,true))⟩,⟨some 12,.pick (.t 5) (.t 11) (.k (.bool false)),no⟩,⟨some 2,.mv (.t 12),no⟩]) .ret))⟩
theorem a260_ok:J0a Tryz.prog Tryz.f260=some a260:=by kernel_rfl
def a216:AFn:= ⟨10,[.t 2],(.seq (.reg [⟨some 2,.mv (.k (.bool false)),no⟩]) (.seq (.reg [⟨some 3,.mv (.t 0),no⟩,⟨some 4,.call (.k (.fn (.func 285) [] [])) [.t 3],no⟩,⟨some 5,.mv (.t 4),no⟩,⟨some 6,.mv (.t 0),(some (5,true))⟩,⟨some 7,.call (.k (.fn (.func 260) [] [])) [.t 6],(some (5,true))⟩,⟨some 8,.un .not (.t 7),(some (5,true))⟩,⟨some 9,.pick (.t 5) (.t 8) (.k (.bool false)),no⟩,⟨some 2,.mv (.t 9),no⟩]) .ret))⟩
theorem a216_ok:J0a Tryz.prog Tryz.f216=some a216:=by kernel_rfl
theorem Jd4 (s:Str):Holds Tryz.prog 230 [.str s] (fun r=>r = .bool (Jmx s)):=by
 by_cases e1:s=[102,117,110]
 ·subst e1
  refine J03 Tryz.func230 a230_ok rfl (by simp [a230]) ?_
  simp [a230,Jmx,J47,Jej]
 by_cases e2:s=[112,114,101]
 ·subst e2
  refine J03 Tryz.func230 a230_ok rfl (by simp [a230]) ?_
  simp [a230,Jmx,J47,Jej]
 by_cases e3:s=[114,117,108,101]
 ·subst e3
  refine J03 Tryz.func230 a230_ok rfl (by simp [a230]) ?_
  simp [a230,Jmx,J47,Jej]
 by_cases e4:s=[114,101,116,117,114,110]
 ·subst e4
  refine J03 Tryz.func230 a230_ok rfl (by simp [a230]) ?_
  simp [a230,Jmx,J47,Jej]
 by_cases e5:s=[110,105,108]
 ·subst e5
  refine J03 Tryz.func230 a230_ok rfl (by simp [a230]) ?_
  simp [a230,Jmx,J47,Jej]
 have hr:Jmx s=false:=by simp [Jmx,J47,Jej,Ne.symm e1,Ne.symm e2,Ne.symm e3,Ne.symm e4,Ne.symm e5]
 rw [hr]
 refine J03 Tryz.func230 a230_ok rfl (by simp [a230]) ?_
 simp [a230,e1,e2,e3,e4,e5]
theorem Jnj {l:List Str}{s:Str}{i:Nat}(hi:i<l.length):J47 (l.drop i) s=((l[i]==s)||J47 (l.drop (i+1)) s):=by
 rw [List.drop_eq_getElem_cons hi];rfl
theorem J9q (l:List Str) (s:Str):Holds Tryz.prog 224 [.sl 1 (J0e l),.str s] (fun r=>r = .bool (J47 l s)):=by
 refine J1h Tryz.func224 rfl rfl fun hl => ?_
 simp at hl
 refine J03 Tryz.func224 a224_ok rfl (by simp [a224]) ?_
 simp [a224]
 generalize hB:J47 l s=B
 refine J3t [0,1] 5 l.length (fun i _=>J47 (l.drop i) s=B) hl.1 (by simp) (by simpa using hB) ?_ ?_
 ·rintro i st h R hi hg hk s5 hw hJ hh hR hret _
  simp at hk
  rw [Jnj hi] at hJ
  simp [hk,s5,hi,hg]
  intro _
  by_cases hx:l[i]=s
  ·simp [hx] at hJ
   simp [hx]
   refine hret _ _ _ ?_
   simp [hJ]
  ·have:(l[i]==s)=false:=by simpa using hx
   rw [this,Bool.false_or] at hJ
   simp [hx,hk,s5,hw]
   exact hR _ (by simp [hk]) (by simp) hJ
 ·rintro st h R hk s5 hJ hh _ hX
  simp at hk
  rw [List.drop_eq_nil_of_le (by omega)] at hJ
  simp [hk,s5]
  intro _
  refine hX _ _ ?_
  simp [←hJ,J47]
theorem Joy (l:List Str) (s:Str):Holds Tryz.prog 153 [.sl 1 (J0e l),.str s] (fun r=>r=i64 (J1i (fun x=>x==s) l 0)):=by
 refine J1h Tryz.func153 rfl rfl fun hl => ?_
 simp at hl
 refine J03 Tryz.func153 a153_ok rfl (by simp [a153]) ?_
 simp [a153]
 intro _
 generalize hB:J1i (fun x=>x==s) l 0=B
 refine J3t [0,1,7] 8 l.length (fun i _=>J1i (fun x=>x==s) (l.drop i) i=B) hl.1 (by simp) (by simpa using hB) ?_ ?_
 ·rintro i st h R hi hg hk s8 hw hJ hh hR hret _
  simp at hk
  rw [List.drop_eq_getElem_cons hi] at hJ
  simp only [J1i] at hJ
  simp [hk,s8,hi,hg]
  by_cases hx:s=l[i]
  ·rw [if_pos (by simp [hx])] at hJ
   simp [hx]
   refine hret _ _ _ ?_
   simp [hJ]
  ·rw [if_neg (by simpa using fun h=>hx h.symm)] at hJ
   simp [hx,hk,s8,hw]
   exact hR _ (by simp [hk]) (by simp) hJ
 ·rintro st h R hk s8 hJ hh _ hX
  simp at hk
  rw [List.drop_eq_nil_of_le (by omega)] at hJ
  simp [hk,s8]
  refine hX _ _ ?_
  simp [←hJ,J1i]
theorem J6s (l:List Str) (s:Str):Holds Tryz.prog 72 [.sl 1 (J0e l),.str s] (fun r=>r = .bool (J47 l s)):=by
 refine J03 Tryz.func72 a72_ok rfl (by simp [a72]) ?_
 simp [a72]
 first|refine J00 (Joy l s) (by first|simp;done|rfl) ?_|refine J02 (Joy l s) (by first|simp;done|rfl) ?_
 rintro r rfl
 have:=Jap (p:=fun x=>x==s) (l:=l) (i:=0)
 simp only [ge_iff_le] at this
 simp [this,J47]
theorem J4a (l:List Str) (s:Str):Holds Tryz.prog 63 [.sl 1 (J0e l),.str s] (fun r=>r=i64 (J1i (fun x=>x==s) l 0)):=by
 refine J1h Tryz.func63 rfl rfl fun hl => ?_
 simp at hl
 refine J03 Tryz.func63 a63_ok rfl (by simp [a63]) ?_
 simp [a63]
 generalize hB:J1i (fun x=>x==s) l 0=B
 refine J3t [0,1] 5 l.length (fun i _=>J1i (fun x=>x==s) (l.drop i) i=B) hl.1 (by simp) (by simpa using hB) ?_ ?_
 ·rintro i st h R hi hg hk s5 hw hJ hh hR hret _
  simp at hk
  rw [List.drop_eq_getElem_cons hi] at hJ
  simp only [J1i] at hJ
  simp [hk,s5,hi,hg]
  intro _
  by_cases hx:l[i]=s
  ·rw [if_pos (by simp [hx])] at hJ
   simp [hx,s5]
   refine hret _ _ _ ?_
   simp [hJ]
  ·rw [if_neg (by simpa using hx)] at hJ
   simp [hx,hk,s5,hw]
   exact hR _ (by simp [hk]) (by simp) hJ
 ·rintro st h R hk s5 hJ hh _ hX
  simp at hk
  rw [List.drop_eq_nil_of_le (by omega)] at hJ
  simp [hk,s5]
  intro _
  refine hX _ _ ?_
  simp [←hJ,J1i]
theorem Jb9:Holds Tryz.prog 333 [] (fun r=>r = .us 1 (J0e Jej)):=by
 refine J03 Tryz.func333 a333_ok rfl (by simp [a333]) ?_
 simp [a333]
 simp [J0e,Jej]
theorem Jbn (s:Str):Holds Tryz.prog 317 [.str s] (fun r=>r = .bool (Jmx s)):=by
 refine J03 Tryz.func317 a317_ok rfl (by simp [a317]) ?_
 simp [a317]
 first|refine J00 (Jb9) (by first|simp;done|rfl) ?_|refine J02 (Jb9) (by first|simp;done|rfl) ?_
 rintro r rfl
 simp
 first|refine J00 (J9q Jej s) (by first|simp;done|rfl) ?_|refine J02 (J9q Jej s) (by first|simp;done|rfl) ?_
 rintro r rfl
 simp [Jmx]
theorem Jgs {s:Str}{i:Nat}(hi:i<s.length):J44 i (s.drop i)=((Jhh s[i]||(decide (i≠0)&&Jlk s[i]))&&J44 (i+1) (s.drop (i+1))):=by
 rw [List.drop_eq_getElem_cons hi];rfl
theorem J4q (s:Str):Holds Tryz.prog 143 [.str s] (fun r=>r = .bool (J3i s)):=by
 refine J03 Tryz.func143 a143_ok rfl (by simp [a143]) ?_
 simp [a143]
 intro hl
 first|refine J00 (J1s s.length 1 8) (by first|simp;done|rfl) ?_|refine J02 (J1s s.length 1 8) (by first|simp;done|rfl) ?_
 rintro r rfl
 unfold J3i
 cases h1:inR s.length 1 8
 ·simp
 simp
 first|refine J00 (Jd4 s) (by first|simp;done|rfl) ?_|refine J02 (Jd4 s) (by first|simp;done|rfl) ?_
 rintro r rfl
 cases h2:Jmx s
 case true=>simp
 simp
 generalize hB:J44 0 s=B
 refine J3t [0] 3 s.length (fun i _=>J44 i (s.drop i)=B) hl (by simp) (by simpa using hB) ?_ ?_
 ·rintro i st h R hi hg hk s3 hw hJ hh hR hret _
  simp at hk
  rw [Jgs hi] at hJ
  have hgd:s[i]?.getD 0=s[i]:=by simp [hi]
  unfold Jhh Jlk at hJ
  obtain ⟨m,hm⟩:∃ m:Int,((s[i]).toNat:Int)=m:=⟨_,rfl⟩
  rw [hm] at hJ
  refine J0i [0,3] (fun _=>True) (by simp [hk,s3,hi]) ?_
  intro s1 hk1 _
  simp at hk1
  refine J0b (J1c (J0i [0,3] (fun s=>s 4 = .bool (decide (97≤m)&&decide (m≤122))) ?_ ?_))
  ·by_cases u1:97≤m <;> by_cases u2:m≤122 <;> simp [hk,s3,hk1,hi,hgd,hm,u1,u2]
  intro s2 hk2 s4
  simp at hk2
  refine J0i [0,3,4] (fun s=>s 5 = .bool (decide (48≤m)&&decide (m≤57))) ?_ ?_
  ·by_cases u1:48≤m <;> by_cases u2:m≤57 <;> simp [hk,s3,hk1,hk2,hi,hgd,hm,u1,u2]
  intro s5 hk5 s55
  simp at hk5
  generalize (decide (97≤m)&&decide (m≤122))=L at *
  generalize (decide (48≤m)&&decide (m≤57))=D at *
  cases L
  ·cases D
   ·rw [Bool.and_false,Bool.or_false,Bool.false_and] at hJ
    simp [hk,s3,hk1,hk2,hk5,s4,s55]
    refine hret _ _ _ ?_
    simp [hJ]
   ·by_cases h0:i=0
    ·subst h0
     simp at hJ
     simp [hk,s3,hk1,hk2,hk5,s4,s55]
     refine hret _ _ _ ?_
     simp [hJ]
    ·simp [h0] at hJ
     simp [hk,s3,hk1,hk2,hk5,s4,s55,hw,(by omega:0<i)]
     exact hR _ (by simp [hk,hk1,hk2,hk5]) (by simp) hJ
  ·simp at hJ
   simp [hk,s3,hk1,hk2,hk5,s4,s55,hw]
   exact hR _ (by simp [hk,hk1,hk2,hk5]) (by simp) hJ
 ·rintro st h R hk s3 hJ hh _ hX
  simp at hk
  rw [List.drop_eq_nil_of_le (by omega)] at hJ
  simp [hk,s3]
  intro _
  refine hX _ _ ?_
  simp [←hJ,J44]
set_option maxHeartbeats 1000000 in
theorem Jfx (s:Str):Holds Tryz.prog 316 [.str s] (fun r=>r = .bool (J44 0 s&&decide (0<s.length))):=by
 refine J1h Tryz.func316 rfl rfl fun hl => ?_
 simp at hl
 refine J03 Tryz.func316 a316_ok rfl (by simp [a316]) ?_
 simp [a316]
 generalize hB:J44 0 s=B
 refine J3t [0] 3 s.length (fun i _=>J44 i (s.drop i)=B) hl (by simp) (by simpa using hB) ?_ ?_
 ·rintro i st h R hi hg hk s3 hw hJ hh hR hret _
  simp at hk
  rw [Jgs hi] at hJ
  have hgd:s[i]?.getD 0=s[i]:=by simp [hi]
  unfold Jhh Jlk at hJ
  obtain ⟨m,hm⟩:∃ m:Int,((s[i]).toNat:Int)=m:=⟨_,rfl⟩
  rw [hm] at hJ
  refine J0i [0,3] (fun _=>True) (by simp [hk,s3,hi]) ?_
  intro s1 hk1 _
  simp at hk1
  refine J0b (J1c (J0i [0,3] (fun s=>s 4 = .bool (decide (97≤m)&&decide (m≤122))) ?_ ?_))
  ·by_cases u1:97≤m <;> by_cases u2:m≤122 <;> simp [hk,s3,hk1,hi,hgd,hm,u1,u2]
  intro s2 hk2 s4
  simp at hk2
  refine J0i [0,3,4] (fun s=>s 5 = .bool (decide (48≤m)&&decide (m≤57))) ?_ ?_
  ·by_cases u1:48≤m <;> by_cases u2:m≤57 <;> simp [hk,s3,hk1,hk2,hi,hgd,hm,u1,u2]
  intro s5 hk5 s55
  simp at hk5
  generalize (decide (97≤m)&&decide (m≤122))=L at *
  generalize (decide (48≤m)&&decide (m≤57))=D at *
  cases L
  ·cases D
   ·rw [Bool.and_false,Bool.or_false,Bool.false_and] at hJ
    subst hJ
    by_cases h0:i=0
    ·subst h0
     simp [hk,s3,hk1,hk2,hk5,s4,s55]
     refine hret _ _ _ ?_
     simp
    ·simp [hk,s3,hk1,hk2,hk5,s4,s55,h0]
     refine hret _ _ _ ?_
     simp
   ·by_cases h0:i=0
    ·subst h0
     simp at hJ
     subst hJ
     simp [hk,s3,hk1,hk2,hk5,s4,s55]
     refine hret _ _ _ ?_
     simp
    ·simp [h0] at hJ
     simp [hk,s3,hk1,hk2,hk5,s4,s55,hw,h0]
     exact hR _ (by simp [hk,hk1,hk2,hk5]) (by simp) hJ
  ·simp at hJ
   simp [hk,s3,hk1,hk2,hk5,s4,s55,hw]
   exact hR _ (by simp [hk,hk1,hk2,hk5]) (by simp) hJ
 ·rintro st h R hk s3 hJ hh _ hX
  simp at hk
  rw [List.drop_eq_nil_of_le (by omega)] at hJ
  refine J0i [] (fun _=>False) ?_ (fun _ _ h=>h.elim)
  simp [hk,s3]
  intro _
  refine hX _ _ ?_
  subst hJ
  simp [hk,J44]
theorem J34 (s:Str):Holds Tryz.prog 285 [.str s] (fun r=>r = .bool (J3i s)):=by
 refine J03 Tryz.func285 a285_ok rfl (by simp [a285]) ?_
 simp [a285]
 first|refine J00 (Jfx s) (by first|simp;done|rfl) ?_|refine J02 (Jfx s) (by first|simp;done|rfl) ?_
 rintro r rfl
 unfold J3i inR
 cases h1:J44 0 s
 ·simp
 by_cases h2:0<s.length
 case neg=>
  have:s.length=0:=by omega
  simp [this]
 have h2':(1:Int)≤s.length:=by omega
 simp [h2,h2']
 intro _
 by_cases h3:s.length≤8
 case neg=>
  have h3':¬(s.length:Int)≤8:=by omega
  simp [h3,h3']
 have h3':(s.length:Int)≤8:=by omega
 simp [h3,h3',Int.not_lt.2 h3']
 first|refine J00 (Jbn s) (by first|simp;done|rfl) ?_|refine J02 (Jbn s) (by first|simp;done|rfl) ?_
 rintro r rfl
 simp
theorem Jtg (c:UInt8):((c.toNat:Int)==115)=(c==115):=by
 rw [Bool.eq_iff_iff]
 simp only [beq_iff_eq]
 constructor
 ·intro h
  exact UInt8.toNat_inj.1 (by simp;omega)
 ·rintro rfl
  rfl
theorem J1o (s:Str):Holds Tryz.prog 205 [.str s] (fun r=>r = .bool (J0n s)):=by
 refine J03 Tryz.func205 a205_ok rfl (by simp [a205]) ?_
 simp [a205]
 first|refine J00 (J4q s) (by first|simp;done|rfl) ?_|refine J02 (J4q s) (by first|simp;done|rfl) ?_
 rintro r rfl
 unfold J0n
 cases h1:J3i s
 ·simp
 obtain ⟨h2,h3⟩:=Jgc h1
 simp
 intro _
 rw [J1e (by omega)]
 have e:((s.length:Int) - 1).toNat=s.length - 1:=by omega
 simp [e]
 refine ⟨by omega,by omega,?_⟩
 exact Jtg _
theorem J4g (s:Str):Holds Tryz.prog 140 [.str s] (fun r=>r = .bool (J2f s)):=by
 refine J03 Tryz.func140 a140_ok rfl (by simp [a140]) ?_
 simp [a140]
 first|refine J00 (J4q s) (by first|simp;done|rfl) ?_|refine J02 (J4q s) (by first|simp;done|rfl) ?_
 rintro r rfl
 unfold J2f
 cases h1:J3i s
 ·simp
 simp
 first|refine J00 (J1o s) (by first|simp;done|rfl) ?_|refine J02 (J1o s) (by first|simp;done|rfl) ?_
 rintro r rfl
 simp
theorem J16 (s:Str):Holds Tryz.prog 260 [.str s] (fun r=>r = .bool (J0n s)):=by
 refine J03 Tryz.func260 a260_ok rfl (by simp [a260]) ?_
 simp [a260]
 first|refine J00 (J34 s) (by first|simp;done|rfl) ?_|refine J02 (J34 s) (by first|simp;done|rfl) ?_
 rintro r rfl
 unfold J0n
 cases h1:J3i s
 ·simp
 obtain ⟨h2,h3⟩:=Jgc h1
 simp
 intro _
 rw [J1e (by omega)]
 have e:((s.length:Int) - 1).toNat=s.length - 1:=by omega
 simp [e]
 refine ⟨by omega,by omega,?_⟩
 exact Jtg _
theorem J4r (s:Str):Holds Tryz.prog 216 [.str s] (fun r=>r = .bool (J2f s)):=by
 refine J03 Tryz.func216 a216_ok rfl (by simp [a216]) ?_
 simp [a216]
 first|refine J00 (J34 s) (by first|simp;done|rfl) ?_|refine J02 (J34 s) (by first|simp;done|rfl) ?_
 rintro r rfl
 unfold J2f
 cases h1:J3i s
 ·simp
 simp
 first|refine J00 (J16 s) (by first|simp;done|rfl) ?_|refine J02 (J16 s) (by first|simp;done|rfl) ?_
 rintro r rfl
 simp
def a305:AFn:= ⟨21,[(.c 6 true 2)],(.seq (.reg [⟨some 3,.boxv (.t 0),no⟩,⟨some 6,.box [(.int .i64 0),(.nil 1)],no⟩]) (.seq (.reg [⟨some 8,.fld 0 (.t 3),no⟩,⟨some 9,.ld false 1 (.t 8),no⟩,⟨some 10,.mv (.t 1),no⟩,⟨some 11,.call (.k (.fn (.func 63) [] [])) [.t 9,.t 10],no⟩,⟨some 7,.mv (.t 11),no⟩]) (.seq (.seq (.reg [⟨some 12,.mv (.t 7),no⟩,⟨some 13,.bin .lss (.t 12) (.k (.int .i64 0)),no⟩]) (.cond (.t 13) (.seq (.reg [⟨some 14,.mv (.t 2),no⟩,⟨some 15,.call (.k (.fn (.func 99) [] [])) [(.k (.int .i64 0)),.t 14],no⟩,⟨no,.st 2 (.t 6) (.t 15),no⟩]) .ret) .skip)) (.seq (.reg [⟨some 16,.fld 1 (.t 3),no⟩,⟨some 17,.ld false 1 (.t 16),no⟩,⟨some 18,.mv (.t 7),no⟩,⟨some 19,.ixa 2 (.t 17) (.t 18),no⟩,⟨some 20,.ld true 2 (.t 19),no⟩,⟨no,.st 2 (.t 6) (.t 20),no⟩]) .ret))))⟩
theorem a305_ok:J0a Tryz.prog Tryz.f305=some a305:=by kernel_rfl
def a265:AFn:= ⟨19,[.t 2],(.seq (.reg [⟨some 2,.mv (.k (.int .i64 0)),no⟩]) (.seq (.reg [⟨some 3,.mv (.k (.int .i64 0)),no⟩]) (.seq (.seq (.reg [⟨some 4,.mv (.k (.int .i64 0)),no⟩]) (.blk 0 (.loop (.seq (.seq (.reg [⟨some 5,.mv (.t 4),no⟩,⟨some 6,.mv (.t 0),no⟩,⟨some 7,.len false (.t 6),no⟩,⟨some 8,.bin .lss (.t 5) (.t 7),no⟩]) (.cond (.t 8) .skip (.exit 0))) (.seq (.blk 1 (.seq (.reg [⟨some 11,.mv (.t 0),no⟩,⟨some 12,.mv (.t 4),no⟩,⟨some 13,.ixa 4 (.t 11) (.t 12),no⟩,⟨some 14,.fld 1 (.t 13),no⟩,⟨some 15,.ld false 1 (.t 14),no⟩]) (.cond (.t 15) (.reg [⟨some 16,.mv (.t 3),no⟩,⟨some 17,.bin .add (.t 16) (.k (.int .i64 1)),no⟩,⟨some 3,.mv (.t 17),no⟩]) .skip))) (.reg [⟨some 9,.mv (.t 4),no⟩,⟨some 10,.bin .add (.t 9) (.k (.int .i64 1)),no⟩,⟨some 4,.mv (.t 10),no⟩])))))) (.seq (.reg [⟨some 18,.mv (.t 3),no⟩,⟨some 2,.mv (.t 18),no⟩]) .ret))))⟩
theorem a265_ok:J0a Tryz.prog Tryz.f265=some a265:=by kernel_rfl
theorem J3c.bwS {b:Nat}{l:List Str}{v:AV}{h:Heap}{n:Nat}(x:J3c b 1 (J0e l) v h n):bw v h=some (.sl 1 (J0e l)):=by
 rcases x with ⟨h1,rfl⟩|⟨i,_,_,rfl,hb⟩
 ·rw [h1];rfl
 ·simp [hb,List.take_of_length_le]
def J35 (E:SEnv):List DLin:=E.map (·.2)
theorem J7x {P:Program}{f:FuncId}{xs xs':List AV}{h:Heap}{n:Nat}{Qr:AV→Prop}{K:AV→Heap→Nat→Prop}(hh:Holds P f xs' Qr) (hb:bwl xs h=some xs') (hK:∀ r,Qr r→K (dr r) h n):J3w P f xs h n K:=by
 refine ⟨hh.1,fun base w0 w L F vs H hv => ?_⟩
 refine (hh.2 w vs (J69 H xs hv hb)).mono ?_
 rintro e w' ⟨v,r,S,rfl,hq,hcl,hbel,hr,hnd,hS⟩
 obtain ⟨g1,g2⟩:=H.after hbel
 exact ⟨v,dr r,L,n,F,h,rfl,g1,g2,Jvv _ _ _ (Jnv r v S hcl (fun b hb ho=>absurd (H.own_lt ho) (by have:=(hS b hb).1;omega)) hr),hK r hq⟩
theorem J49 {P:Program}{f:FuncId}{xs xs':List AV}{h:Heap}{n:Nat}{Qr:AV→Prop}{K:AV→Heap→Nat→Prop}(hh:Holds P f xs' Qr) (hb:bwl xs h=some xs') (hk:∀ r,Qr r→K (dr r) h n):J3w P f xs h n (hK h K):=
 J7x hh hb fun r hr=>⟨J81.refl h,hk r hr⟩
@[simp] theorem Jqz (x:DLin):drl (J07 x)=J07 x:=by simp [J07]
@[simp] theorem K1e (l:List DLin):drr (l.map J07)=l.map J07:=by rw [J4t,List.map_map];exact List.map_congr_left fun x _=>Jqz x
@[simp] theorem K3h (x:DLin) (h:Heap):dtl (J07 x) h=some (J07 x,h):=by simp [J07]
theorem J3c.bwA {b:Nat}{l:List DLin}{v:AV}{h:Heap}{n:Nat}(x:J3c b 2 (l.map J07) v h n):bw v h=some (.sl 2 (l.map J07)):=by
 rcases x with ⟨h1,rfl⟩|⟨i,_,_,rfl,hb⟩
 ·have:l=[]:=by simpa using h1
  subst this;simp
 ·simp [hb,List.take_of_length_le]
def SVs (v:AV) (l:List Str) (h:Heap) (n:Nat):Prop:=v = .sl 1 (J0e l)∨∃ b,J3c b 1 (J0e l) v h n
def SVl (v:AV) (l:List DLin) (h:Heap) (n:Nat):Prop:=v = .sl 2 (l.map J07)∨∃ b,J3c b 2 (l.map J07) v h n
theorem SVs.bw {v:AV}{l:List Str}{h h':Heap}{n:Nat}(x:SVs v l h n) (hh:∀ id,id<n→h' id=h id):Go.Proofs.YtoclolkigjbcgaaGreat.bw v h'=some (.sl 1 (J0e l)):=by
 rcases x with rfl|⟨b,x⟩
 ·simp
 ·exact (x.keep (Nat.le_refl _) fun id _ hid _=>hh id hid).bwS
theorem SVs.cell {v:AV}{l:List Str}{h:Heap}{n:Nat}(x:SVs v l h n):J18 v=true:=by
 rcases x with rfl|⟨b,⟨_,rfl⟩|⟨i,_,_,rfl,_⟩⟩ <;> rfl
theorem SVl.cell {v:AV}{l:List DLin}{h:Heap}{n:Nat}(x:SVl v l h n):J18 v=true:=by
 rcases x with rfl|⟨b,⟨_,rfl⟩|⟨i,_,_,rfl,_⟩⟩ <;> rfl
theorem Jom {x:Str}{E:SEnv} : (J1i (fun y=>y==x) (J19 E) 0 = -1∧∀ d,J2w d E x=d)∨∃ j:Nat,∃ hj:j<E.length,J1i (fun y=>y==x) (J19 E) 0=(j:Int)∧∀ d,J2w d E x=(E[j]).2:=by
 have key:∀ (E:SEnv) (k:Nat),(J1i (fun y=>y==x) (J19 E) k = -1∧∀ d,J2w d E x=d)∨∃ j:Nat,∃ hj:j<E.length,J1i (fun y=>y==x) (J19 E) k=((k+j:Nat):Int)∧∀ d,J2w d E x=(E[j]).2:=by
  intro E
  induction E with
  | nil=>intro k;exact .inl ⟨rfl,fun _=>rfl⟩
  | cons e E ih=>
   intro k
   simp only [J19,List.map_cons,J1i,J2w,List.find?_cons]
   cases hb:e.1==x
   ·simp only [Bool.false_eq_true,if_false]
    rcases ih (k+1) with ⟨h1,h2⟩|⟨j,hj,h1,h2⟩
    ·exact .inl ⟨h1,h2⟩
    ·exact .inr ⟨j+1,by simp;omega,by rw [J19] at h1;rw [h1];congr 1;omega,by simpa [J2w] using h2⟩
   ·exact .inr ⟨0,by simp,by simp,fun d=>by simp⟩
 simpa using key E 0
theorem Jhj {E:SEnv}{vN vL:AV}{h:Heap}{n N:Nat}{x:Str}(A:SVs vN (J19 E) h n) (B:SVl vL (J35 E) h n) (hE:E.length≤1048576) {K:AV→Heap→Nat→Prop}
 (hK:∀ w h' n',n≤n'→(∀ id,id<n→h' id=h id)→J18 w=true→(∀ H:Heap,(∀ id,id<n'→H id=h' id)→bw w H=some (.sl 1 (J0k (J2w (J05 0 N) E x).Coeffs)))→K (.agg [.int .i64 (J2w (J05 0 N) E x).Const,w]) h' n') :
 J3w Tryz.prog 305 [.agg [vN,vL],.str x,i64 N] h n K:=by
 refine J2g Tryz.func305 a305_ok rfl (by simp [a305]) ?_
 have ne:¬n=n+1∧¬n+1=n∧¬n=n+1+1∧¬n+1+1=n∧¬n+1=n+1+1∧¬n+1+1=n+1:=by omega
 have fr:∀ id,id<n→¬id=n∧¬id=n+1∧¬id=n+1+1∧¬id=n+2:=by intro id _;omega
 have cN:=A.cell
 have cL:=B.cell
 have hbN:∀ y z,bw vN (upd (upd h n y) (n+1) z)=some (.sl 1 (J0e (J19 E))):=fun y z=>A.bw fun id hid=>by simp [fr id hid]
 simp [a305,-J18,cN,cL,ne]
 first|refine J00 (J4a (J19 E) x) (by first|simp [hbN];done|rfl) ?_|refine J02 (J4a (J19 E) x) (by first|simp [hbN];done|rfl) ?_
 rintro r rfl
 rcases Jom (x:=x) (E:=E) with ⟨h1,h2⟩|⟨j,hj,h1,h2⟩
 ·rw [h1]
  rw [h2] at hK
  simp [ne]
  first|refine J00 (J13 0 N) (by first|simp;done|rfl) ?_|refine J02 (J13 0 N) (by first|simp;done|rfl) ?_
  rintro r rfl
  simp [J08,ne]
  refine hK _ _ _ (by omega) (fun id hid=>by simp [fr id hid]) rfl fun H hH => ?_
  have:=hH (n+2) (by omega)
  simp at this
  simp [this]
 ·rw [h1]
  rw [h2] at hK
  have hj0:¬(j:Int)<0:=by omega
  have hjv:j<(J35 E).length:=by simpa [J35] using hj
  have hve:(J35 E)[j]=(E[j]).2:=by simp [J35]
  rcases B with rfl|⟨b,⟨hz,rfl⟩|⟨i,_,hin,rfl,hib⟩⟩
  ·simp [ne,hjv,hj0,hve,J07]
   exact hK _ _ _ (by omega) (fun id hid=>by simp [fr id hid]) rfl fun H hH=>by simp
  ·have:E=[]:=by simpa [J35] using hz
   subst this;simp at hj
  ·have ni:=fr i hin
   simp [ne,hjv,hj0,ni,hib,hve,J07]
   exact hK _ _ _ (by omega) (fun id hid=>by simp [fr id hid]) rfl fun H hH=>by simp
theorem Jjx {E:SEnv}{vN vL:AV}{h:Heap}{n N:Nat}{x:Str}{d:DLin}(A:SVs vN (J19 E) h n) (B:SVl vL (J35 E) h n) (hx:x∈J19 E) {K:AV→Heap→Nat→Prop}
 (hK:∀ h' n',n≤n'→(∀ id,id<n→h' id=h id)→K (.agg (J07 (J2w d E x))) h' n') :
 J3w Tryz.prog 305 [.agg [vN,vL],.str x,i64 N] h n K:=by
 refine J2g Tryz.func305 a305_ok rfl (by simp [a305]) ?_
 have ne:¬n=n+1∧¬n+1=n∧¬n=n+1+1∧¬n+1+1=n∧¬n+1=n+1+1∧¬n+1+1=n+1:=by omega
 have fr:∀ id,id<n→¬id=n∧¬id=n+1∧¬id=n+1+1∧¬id=n+2:=by intro id _;omega
 have cN:=A.cell
 have cL:=B.cell
 have hbN:∀ y z,bw vN (upd (upd h n y) (n+1) z)=some (.sl 1 (J0e (J19 E))):=fun y z=>A.bw fun id hid=>by simp [fr id hid]
 simp [a305,-J18,cN,cL,ne]
 first|refine J00 (J4a (J19 E) x) (by first|simp [hbN];done|rfl) ?_|refine J02 (J4a (J19 E) x) (by first|simp [hbN];done|rfl) ?_
 rintro r rfl
 rcases Jom (x:=x) (E:=E) with ⟨h1,h2⟩|⟨j,hj,h1,h2⟩
 ·obtain ⟨l,_,hl⟩:=Je1 J1b hx
  have e1:=hl J1b []
  have e2:=hl ⟨1,[]⟩ []
  rw [List.append_nil] at e1 e2
  rw [h2] at e1 e2
  rw [←e1] at e2
  simp [J1b] at e2
 ·rw [h1]
  rw [h2] at hK
  have hj0:¬(j:Int)<0:=by omega
  have hjv:j<(J35 E).length:=by simpa [J35] using hj
  have hve:(J35 E)[j]=(E[j]).2:=by simp [J35]
  rcases B with rfl|⟨b,⟨hz,rfl⟩|⟨i,_,hin,rfl,hib⟩⟩
  ·simp [ne,hjv,hj0,hve,J07]
   exact hK _ _ (by omega) (fun id hid=>by simp [fr id hid])
  ·have:E=[]:=by simpa [J35] using hz
   subst this;simp at hj
  ·have ni:=fr i hin
   simp [ne,hjv,hj0,ni,hib,hve,J07]
   exact hK _ _ (by omega) (fun id hid=>by simp [fr id hid])
theorem Jmo (l:List DPattern):Holds Tryz.prog 265 [.sl 4 (l.map J09)] (fun r=>r=i64 (J3e l)):=by
 refine J1h Tryz.func265 rfl rfl fun hl => ?_
 simp at hl
 refine J03 Tryz.func265 a265_ok rfl (by simp [a265]) ?_
 simp [a265]
 generalize hT:J3e l=T
 refine J3t [0] 4 l.length (fun i s=>∃ c:Nat,c≤i∧s 3 = .int .i64 c∧c+J3e (l.drop i)=T) (by first|exact hl|exact hl.1) (by simp) ⟨0,by omega,by simp,by simpa using hT⟩ ?_ ?_
 ·rintro i st h R hi hg hk s4 hw ⟨c,hc,s3,hJ⟩ hh hR _ _
  simp at hk hh
  rw [List.drop_eq_getElem_cons hi] at hJ
  unfold J3e at hJ
  rw [List.filter_cons] at hJ
  have hw2:IntKind.i64.wrap ((c:Int)+1)=(c:Int)+1:=J1e (by unfold LIM at hl;omega)
  cases hc2:(l[i]).Cons
  ·rw [hc2] at hJ
   simp [hk,s4,hi,s3,hw,J09,hc2]
   try intro _
   exact hR _ (by simp [hk]) (by simp) ⟨c,by omega,by simp [s3],by simpa [J3e] using hJ⟩
  ·rw [hc2] at hJ
   simp only [if_true,List.length_cons] at hJ
   simp [hk,s4,hi,s3,hw,hw2,J09,hc2]
   try intro _
   exact hR _ (by simp [hk]) (by simp) ⟨c+1,by omega,by simp,by unfold J3e;omega⟩
 ·rintro st h R hk s4 ⟨c,hc,s3,hJ⟩ hh _ hX
  simp at hk hh
  rw [List.drop_eq_nil_of_le (by omega)] at hJ
  simp [J3e] at hJ
  subst hJ
  simp [hk,s4]
  try intro _
  refine hX _ _ ?_
  simp [hk,s3]
def a202:AFn:= ⟨16,[(.c 5 true 2)],(.seq (.reg [⟨some 5,.box [(.int .i64 0),(.nil 1)],no⟩]) (.seq (.reg [⟨some 7,.ld false 1 (.t 1),no⟩,⟨some 8,.ld false 1 (.t 2),no⟩,⟨some 9,.call (.k (.fn (.func 203) [] [])) [.t 7,.t 8],no⟩,⟨some 6,.box [(.int .i64 0),(.nil 1)],no⟩,⟨no,.st 2 (.t 6) (.t 9),no⟩]) (.seq (.reg [⟨some 10,.ld false 1 (.t 3),no⟩,⟨some 11,.mv (.t 0),no⟩,⟨some 12,.ld true 2 (.t 6),no⟩,⟨no,.mput (.t 10) (.t 11) (.t 12),no⟩]) (.seq (.reg [⟨some 13,.ld false 1 (.t 1),no⟩,⟨some 14,.bin .add (.t 13) (.k (.int .i64 1)),no⟩,⟨no,.st 1 (.t 1) (.t 14),no⟩]) (.seq (.reg [⟨some 15,.ld true 2 (.t 6),no⟩,⟨no,.st 2 (.t 5) (.t 15),no⟩]) .ret)))))⟩
theorem a202_ok:J0a Tryz.prog Tryz.f202=some a202:=by kernel_rfl
def a204:AFn:= ⟨12,[],(.seq (.reg [⟨some 2,.boxv (.t 0),no⟩]) (.draw (.op ⟨some 3,.fld 0 (.t 1),no⟩ (.op ⟨some 4,.fld 1 (.t 3),no⟩ (.op ⟨some 5,.ld false 1 (.t 4),no⟩ (.op ⟨some 6,.ld true 2 (.t 2),no⟩ (.op ⟨some 7,.call (.k (.fn (.func 86) [] [])) [.t 6],no⟩ (.hop ⟨some 8,.bsl 2 [.t 7],no⟩ [(.ld false 1 (.t 4)),(.fld 1 (.t 3)),(.fld 0 (.t 1))] (.hop ⟨some 9,.app 32 2 (.t 5) (.t 8),no⟩ [] (.op ⟨some 10,.fld 0 (.t 1),no⟩ (.op ⟨some 11,.fld 1 (.t 10),no⟩ (.hop ⟨no,.st 1 (.t 11) (.t 9),no⟩ [] .fin))))))))))))⟩
theorem a204_ok:J0a Tryz.prog Tryz.f204=some a204:=by kernel_rfl
structure Ids where
 m:Nat
 d:Nat
 s:Nat
 x:Nat
def J5b (N:Nat) (vR vP vA:AV):List AV:=[.int .i64 N,vR,vP,vA,.int .i64 0,.nil 1]
def K0t (N:Nat) (I:Ids) (st:MS) (h:Heap) (n:Nat):Prop:=∃ vR vP vA,h I.m=some ⟨true,6,[J5b N vR vP vA]⟩∧J3c I.x 2 (st.rows.map J08) vR h n∧J3c I.x 2 (st.pars.map J08) vP h n ∧
 J3c I.x 1 (st.args.map J24) vA h n∧(st.args=[]→vA = .nil 1)∧∀ i k j l,vR = .ref i 0 k→vP = .ref j 0 l→i≠j
structure MI (p:DProgram) (r:DRule) (f:DFunction) (N:Nat) (I:Ids) (st:MS) (h:Heap) (n:Nat):Prop where
 hp:h 0=some ⟨true,2,[J01 p]⟩
 hz:h 1=some ⟨true,6,[[.int .i64 0,.nil 2,.nil 2,.nil 1,.int .i64 0,.nil 1]]⟩
 hr:h 2=some ⟨true,7,[J0c r]⟩
 h3:h 3=some ⟨false,1,J0e f.Params⟩
 h4:h 4=some ⟨false,2,f.Pre.map J08⟩
 hf:h 5=some ⟨true,4,[[.str f.Name,.ref 3 0 f.Params.length,.bool f.ListResult,.ref 4 0 f.Pre.length]]⟩
 hn:h 6=some ⟨true,1,[[.int .i64 N]]⟩
 lt:6<I.m∧I.m<I.d∧I.d<I.s∧I.s<I.x∧I.x<n
 hmp:h I.s=some ⟨true,1,[[.mp I.d]]⟩
 hnx:h I.x=some ⟨true,1,[[.int .i64 st.nx]]⟩
 map:Jc4 I.d st.E h n
 acc:K0t N I st h n
section
variable {p:DProgram}{r:DRule}{f:DFunction}{N:Nat}{I:Ids}{st st':MS}{h h':Heap}{n n':Nat}
theorem K0t.frame (A:K0t N I st h n) (hm:I.m<n) (hn:n≤n') (hh:∀ id,id<n→h' id=h id):K0t N I st h' n':=by
 obtain ⟨vR,vP,vA,g1,g2,g3,g4,g6,g5⟩:=A
 exact ⟨vR,vP,vA,by rw [hh _ hm,g1],g2.keep hn fun id _ hid _=>hh id hid,g3.keep hn fun id _ hid _=>hh id hid,g4.keep hn fun id _ hid _=>hh id hid,g6,g5⟩
theorem MI.frame (M:MI p r f N I st h n) (hn:n≤n') (hh:∀ id,id<n→h' id=h id):MI p r f N I st h' n':=by
 obtain ⟨l1,l2,l3,l4,l5⟩:=M.lt
 refine ⟨?_,?_,?_,?_,?_,?_,?_,⟨l1,l2,l3,l4,by omega⟩,?_,?_,M.map.keep (by omega) hn hh,M.acc.frame (by omega) hn hh⟩
 ·rw [hh 0 (by omega),M.hp]
 ·rw [hh 1 (by omega),M.hz]
 ·rw [hh 2 (by omega),M.hr]
 ·rw [hh 3 (by omega),M.h3]
 ·rw [hh 4 (by omega),M.h4]
 ·rw [hh 5 (by omega),M.hf]
 ·rw [hh 6 (by omega),M.hn]
 ·rw [hh I.s (by omega),M.hmp]
 ·rw [hh I.x (by omega),M.hnx]
theorem MI.upd_acc (M:MI p r f N I st h n) (hE:st'.E=st.E) (hx:st'.nx=st.nx) (hn:n≤n') (bad:Nat→Prop) (hbad:∀ id,bad id→I.x<id∧∀ l,h id≠some ⟨false,1,J0k l⟩) (hh:∀ id,id<n→id≠I.m→¬bad id→h' id=h id)
 (hacc:K0t N I st' h' n'):MI p r f N I st' h' n':=by
 obtain ⟨l1,l2,l3,l4,l5⟩:=M.lt
 have low:∀ id,id≤I.x→id≠I.m→h' id=h id:=fun id hid hne=>hh id (by omega) hne fun hb=>by have:=(hbad id hb).1;omega
 refine ⟨?_,?_,?_,?_,?_,?_,?_,⟨l1,l2,l3,l4,by omega⟩,?_,?_,?_,hacc⟩
 ·rw [low 0 (by omega) (by omega),M.hp]
 ·rw [low 1 (by omega) (by omega),M.hz]
 ·rw [low 2 (by omega) (by omega),M.hr]
 ·rw [low 3 (by omega) (by omega),M.h3]
 ·rw [low 4 (by omega) (by omega),M.h4]
 ·rw [low 5 (by omega) (by omega),M.hf]
 ·rw [low 6 (by omega) (by omega),M.hn]
 ·rw [low I.s (by omega) (by omega),M.hmp]
 ·rw [low I.x (by omega) (by omega),M.hnx,hx]
 ·rw [hE]
  obtain ⟨es,h1,h2,h3⟩:=M.map
  refine ⟨es,h1,by rw [low I.d (by omega) (by omega),h2],fun e he=>⟨by have:=(h3 e he).1;omega,?_⟩⟩
  obtain ⟨k1,k2⟩:=h3 e he
  rw [hh e.q k1 (fun g => ?_) fun hb=>(hbad _ hb).2 _ k2,k2]
  obtain ⟨vR,vP,vA,g1,_⟩:=M.acc
  rw [g,g1] at k2
  simp at k2
theorem MI.upd_map (M:MI p r f N I st h n) {x:Str}{l:DLin}{q:Nat}(hE:st'.E=Jlf st.E x l) (hR:st'.rows=st.rows) (hP:st'.pars=st.pars) (hA:st'.args=st.args) (hn:n≤n') (hq:q<n') (hqb:h' q=some ⟨false,1,J0k l.Coeffs⟩)
 (hx':h' I.x=some ⟨true,1,[[.int .i64 st'.nx]]⟩)
 (hh:∀ id,id<n→id≠I.d→id≠I.x→h' id=h id) (hm:∀ es,h I.d=some ⟨true,0,es.map Ent.row⟩→h' I.d=some ⟨true,0,(Jaa es x l q).map Ent.row⟩):MI p r f N I st' h' n':=by
 obtain ⟨l1,l2,l3,l4,l5⟩:=M.lt
 refine ⟨?_,?_,?_,?_,?_,?_,?_,⟨l1,l2,l3,l4,by omega⟩,?_,hx',?_,?_⟩
 ·rw [hh 0 (by omega) (by omega) (by omega),M.hp]
 ·rw [hh 1 (by omega) (by omega) (by omega),M.hz]
 ·rw [hh 2 (by omega) (by omega) (by omega),M.hr]
 ·rw [hh 3 (by omega) (by omega) (by omega),M.h3]
 ·rw [hh 4 (by omega) (by omega) (by omega),M.h4]
 ·rw [hh 5 (by omega) (by omega) (by omega),M.hf]
 ·rw [hh 6 (by omega) (by omega) (by omega),M.hn]
 ·rw [hh I.s (by omega) (by omega) (by omega),M.hmp]
 ·obtain ⟨es,h1,h2,h3⟩:=M.map
  refine ⟨Jaa es x l q,by rw [Jlw,h1,hE],hm es h2,fun e he => ?_⟩
  rcases Jgq he with he|rfl
  ·obtain ⟨k1,k2⟩:=h3 e he
   refine ⟨by omega,?_⟩
   rw [hh e.q k1 (fun g => ?_) (fun g => ?_),k2]
   ·rw [g,h2] at k2;simp at k2
   ·rw [g,M.hnx] at k2;simp at k2
  ·exact ⟨hq,hqb⟩
 ·obtain ⟨vR,vP,vA,g1,g2,g3,g4,g6,g5⟩:=M.acc
  rw [←hR] at g2
  rw [←hP] at g3
  rw [←hA] at g4 g6
  exact ⟨vR,vP,vA,by rw [hh I.m (by omega) (by omega) (by omega),g1],g2.keep hn fun id hb hid _=>hh id hid (by omega) (by omega),g3.keep hn fun id hb hid _=>hh id hid (by omega) (by omega),g4.keep hn fun id hb hid _=>hh id hid (by omega) (by omega),g6,g5⟩
end
def Jhm (st:MS) (x:Str) (l:DLin) (k:Nat):MS:=⟨Jlf st.E x l,k,st.rows,st.pars,st.args⟩
def Jj9 (st:MS) (l:DLin):MS:=⟨st.E,st.nx,st.rows++[l],st.pars,st.args⟩
def Jqb (st:MS) (l:DLin):MS:=⟨st.E,st.nx,st.rows,st.pars++[l],st.args⟩
def Je9 (st:MS) (l:List DLin):MS:=⟨st.E,st.nx,st.rows,st.pars,st.args++[l]⟩
section
variable {p:DProgram}{r:DRule}{f:DFunction}{N:Nat}{I:Ids}{st:MS}{h:Heap}{n:Nat}{K:AV→Heap→Nat→Prop}
theorem Jci (M:MI p r f N I st h n) (x:Str) (hx:st.nx≤100000000)
 (hK:∀ q h' n',n≤q→q<n'→(∀ id,id<n→id≠I.d→id≠I.x→h' id=h id)→h' q=some ⟨false,1,J0k (J2q st.nx N).Coeffs⟩→MI p r f N I (Jhm st x (J2q st.nx N) (st.nx+1)) h' n'→K (Jip (J2q st.nx N) q) h' n') :
 J3w Tryz.prog 202 [.str x,.ptr I.x 0 0,.ptr 6 0 0,.ptr I.s 0 0] h n K:=by
 obtain ⟨l1,l2,l3,l4,l5⟩:=M.lt
 refine J2g Tryz.func202 a202_ok rfl (by simp [a202]) ?_
 have ne:¬I.x=n∧¬I.x=n+1∧¬I.x=n+1+1∧¬I.d=n∧¬I.d=n+1∧¬I.d=n+1+1∧¬I.s=n∧¬I.s=n+1∧¬I.s=n+1+1∧¬I.d=I.x∧¬I.x=I.d∧¬I.s=I.d∧¬I.s=I.x∧¬6=n∧¬6=n+1∧¬6=n+1+1∧¬n=6∧¬n=5∧¬n=4∧¬5=n∧¬4=n ∧
  ¬n=I.x∧¬n+1=I.x∧¬n+1+1=I.x∧¬n=I.d∧¬n+1=I.d∧¬n+1+1=I.d∧¬n=n+1∧¬n+1=n∧¬n=n+1+1∧¬n+1+1=n∧¬n+1=n+1+1:=by omega
 have hw:IntKind.i64.wrap ((st.nx:Int)+1)=(st.nx:Int)+1:=J1e (by omega)
 obtain ⟨es,hE,hd,hes⟩:=M.map
 simp [a202,M.hnx,M.hn,M.hmp,ne]
 first|refine J00 (J9w st.nx N) (by first|simp;done|rfl) ?_|refine J02 (J9w st.nx N) (by first|simp;done|rfl) ?_
 rintro r rfl
 simp [J08,M.hnx,M.hn,M.hmp,ne,hd,hw]
 refine hK (n+1) _ _ (by omega) (by omega) ?_ ?_ ?_
 ·intro id hid h1 h2
  have:¬id=n∧¬id=n+1∧¬id=n+1+1:=by omega
  simp [this,h1,h2]
 ·simp [ne]
 ·refine M.upd_map (x:=x) (l:=J2q st.nx N) (q:=n+1) rfl rfl rfl rfl (by omega) (by omega) (by simp [ne]) (by simp [ne,Jhm]) ?_ ?_
  ·intro id hid h1 h2
   have:¬id=n∧¬id=n+1∧¬id=n+1+1:=by omega
   simp [this,h1,h2]
  ·intro es' hd'
   rw [hd] at hd'
   simp only [Option.some.injEq,Blk.mk.injEq,true_and] at hd'
   rw [←Jf0,←hd']
   simp [ne,Jip]
theorem J9t (M:MI p r f N I st h n) {l:DLin}{q:Nat}(hl:l.Coeffs.length≤1048576) (hqn:q<n) (hq:h q=some ⟨false,1,J0k l.Coeffs⟩) (hrl:st.rows.length≤1000000)
 (hK:∀ h' n',n≤n'→(∀ id,id<n→id≠I.m→(∀ l,h id≠some ⟨false,2,l⟩)→h' id=h id)→MI p r f N I (Jj9 st l) h' n'→K (.tup []) h' n') :
 J3w Tryz.prog 204 [Jip l q,.ptr I.m 0 0] h n K:=by
 obtain ⟨l1,l2,l3,l4,l5⟩:=M.lt
 refine J2g Tryz.func204 a204_ok rfl (by simp [a204]) ?_
 have ne:¬I.m=n∧¬I.m=n+1∧¬I.m=n+1+1∧¬I.m=n+1+1+1∧¬I.m=n+2∧¬n=I.m∧¬n+1=I.m∧¬n+1+1=I.m∧¬n+2=I.m∧¬n+1+1+1=I.m∧¬q=n∧¬q=n+1∧¬n=n+1∧¬n+1=n∧¬n=n+1+1∧¬n+1+1=n∧¬n+1=n+1+1∧¬n+2=n+1∧¬n+1=n+2∧¬n+3=I.m∧¬I.m=n+3:=by omega
 obtain ⟨vR,vP,vA,g1,g2,g3,g4,g6,g5⟩:=M.acc
 simp [a204,Jip,g1,J5b,ne]
 first|refine J00 (J4w l hl) (by first|simp [J07,hq,ne];done|rfl) ?_|refine J02 (J4w l hl) (by first|simp [J07,hq,ne];done|rfl) ?_
 rintro r rfl
 rcases g2 with ⟨hz,rfl⟩|⟨i,hi,hin,rfl,hib⟩
 ·have hz':st.rows=[]:=by simpa using hz
  simp [J08,g1,J5b,ne]
  refine ⟨by unfold LIM;omega,?_⟩
  refine hK _ _ (by omega) ?_ (M.upd_acc (st':=Jj9 st l) rfl rfl (by omega) (fun _=>False) (fun _ h=>h.elim) ?_ ?_)
  ·intro id hid hm _
   have:¬id=n∧¬id=n+1∧¬id=n+1+1∧¬id=n+1+1+1:=by omega
   simp [this,hm]
  ·intro id hid hm _
   have:¬id=n∧¬id=n+1∧¬id=n+1+1∧¬id=n+1+1+1:=by omega
   simp [this,hm]
  ·have fr:∀ id,id<n→I.x<id→¬id=n∧¬id=n+1∧¬id=n+1+1∧¬id=n+1+1+1∧¬id=I.m:=by intro id _ _;omega
   refine ⟨.ref (n+3) 0 1,vP,vA,by simp [J5b],.inr ⟨n+3,by omega,by omega,by simp [Jj9,hz'],by simp [Jj9,hz',J08,ne]⟩,g3.keep (by omega) fun id hb hid _=>by simp [fr id hid hb],g4.keep (by omega) fun id hb hid _=>by simp [fr id hid hb],g6,?_⟩
   intro i k j l' e1 e2
   simp only [AV.ref.injEq] at e1
   rcases g3 with ⟨_,e⟩|⟨j',_,hj',e,_⟩
   ·rw [e] at e2;cases e2
   ·rw [e] at e2;simp only [AV.ref.injEq] at e2;omega
 ·have hi1:st.rows.length<1000001:=by omega
  have ni:¬i=n∧¬i=n+1∧¬i=n+1+1∧¬i=n+1+1+1∧¬i=I.m∧¬I.m=i∧¬n=i∧¬n+1=i∧¬n+1+1=i∧¬n+1+1+1=i:=by omega
  simp [J08,g1,J5b,ne,ni,hib]
  refine ⟨by unfold LIM;omega,?_⟩
  refine hK _ _ (by omega) ?_ (M.upd_acc (st':=Jj9 st l) rfl rfl (by omega) (fun id=>id=i) (fun id e=>⟨by omega,fun l hl=>by rw [e,hib] at hl;simp at hl⟩) ?_ ?_)
  ·intro id hid hm h2
   have:¬id=n∧¬id=n+1∧¬id=n+1+1∧¬id=n+1+1+1:=by omega
   have hii:¬id=i:=fun e=>h2 _ (by rw [e];exact hib)
   simp [this,hm,hii]
  ·intro id hid hm hii
   have:¬id=n∧¬id=n+1∧¬id=n+1+1∧¬id=n+1+1+1:=by omega
   simp [this,hm,hii]
  ·have fr:∀ id,id<n→I.x<id→¬id=n∧¬id=n+1∧¬id=n+1+1∧¬id=n+1+1+1∧¬id=I.m:=by intro id _ _;omega
   refine ⟨.ref (n+3) 0 (st.rows.length+1),vP,vA,by simp [J5b],.inr ⟨n+3,by omega,by omega,by simp [Jj9],by simp [Jj9,J08,ne,List.take_of_length_le]⟩,g3.keep (by omega) fun id hb hid e => ?_,g4.keep (by omega) fun id hb hid e => ?_,g6,?_⟩
   ·have hii:¬id=i:=fun e'=>g5 i _ id _ rfl e e'.symm
    simp [fr id hid hb,hii]
   ·have hii:¬id=i:=by
     intro e'
     rcases g4 with ⟨_,e2⟩|⟨j',_,_,e2,hjb⟩
     ·rw [e2] at e;cases e
     ·rw [e2] at e;simp only [AV.ref.injEq] at e
      rw [e.1,e',hib] at hjb
      simp at hjb
    simp [fr id hid hb,hii]
   ·intro i' k j l' e1 e2
    simp only [AV.ref.injEq] at e1
    rcases g3 with ⟨_,e⟩|⟨j',_,hj',e,_⟩
    ·rw [e] at e2;cases e2
    ·rw [e] at e2;simp only [AV.ref.injEq] at e2;omega
end
def a295:AFn:= ⟨5,[.t 2],(.seq (.reg [⟨some 2,.mv (.k (.bool false)),no⟩]) (.seq (.reg [⟨some 3,.mv (.t 0),no⟩,⟨some 4,.call (.k (.fn (.func 102) [] [])) [.t 3,(.k (.int .i64 (-1000000))),(.k (.int .i64 1000000))],no⟩,⟨some 2,.mv (.t 4),no⟩]) .ret))⟩
theorem a295_ok:J0a Tryz.prog Tryz.f295=some a295:=by kernel_rfl
def a318:AFn:= ⟨5,[.t 2],(.seq (.reg [⟨some 2,.mv (.k (.bool false)),no⟩]) (.seq (.reg [⟨some 3,.mv (.t 0),no⟩,⟨some 4,.call (.k (.fn (.func 183) [] [])) [.t 3,(.k (.int .i64 (-1000000))),(.k (.int .i64 1000000))],no⟩,⟨some 2,.mv (.t 4),no⟩]) .ret))⟩
theorem a318_ok:J0a Tryz.prog Tryz.f318=some a318:=by kernel_rfl
def a141:AFn:= ⟨18,[.t 2],(.seq (.reg [⟨some 2,.mv (.k (.bool false)),no⟩]) (.seq (.seq (.reg [⟨some 5,.mv (.t 0),no⟩,⟨some 6,.len false (.t 5),no⟩,⟨some 7,.mv (.k (.int .i64 0)),no⟩]) (.blk 0 (.loop (.seq (.reg [⟨some 8,.bin .lss (.t 7) (.t 6),no⟩]) (.seq (.cond (.t 8) .skip (.exit 0)) (.seq (.blk 1 (.seq (.reg [⟨some 9,.mv (.t 7),no⟩,⟨some 10,.ixa 1 (.t 5) (.t 7),no⟩,⟨some 11,.ld false 1 (.t 10),no⟩,⟨some 3,.mv (.t 9),no⟩,⟨some 4,.mv (.t 11),no⟩]) (.seq (.reg [⟨some 12,.mv (.t 0),no⟩,⟨some 13,.mv (.t 3),no⟩,⟨some 14,.slc false 1 (.t 12) Option.none (some (.t 13)),no⟩,⟨some 15,.mv (.t 4),no⟩,⟨some 16,.call (.k (.fn (.func 72) [] [])) [.t 14,.t 15],no⟩]) (.cond (.t 16) (.seq (.reg [⟨some 2,.mv (.k (.bool false)),no⟩]) .ret) .skip)))) (.reg [⟨some 17,.bin .add (.t 7) (.k (.int .i64 1)),no⟩,⟨some 7,.mv (.t 17),no⟩]))))))) (.seq (.reg [⟨some 2,.mv (.k (.bool true)),no⟩]) .ret)))⟩
theorem a141_ok:J0a Tryz.prog Tryz.f141=some a141:=by kernel_rfl
def a218:AFn:= ⟨18,[.t 2],(.seq (.reg [⟨some 2,.mv (.k (.bool false)),no⟩]) (.seq (.seq (.reg [⟨some 3,.mv (.k (.int .i64 0)),no⟩]) (.blk 0 (.loop (.seq (.seq (.reg [⟨some 4,.mv (.t 3),no⟩,⟨some 5,.mv (.t 0),no⟩,⟨some 6,.len false (.t 5),no⟩,⟨some 7,.bin .lss (.t 4) (.t 6),no⟩]) (.cond (.t 7) .skip (.exit 0))) (.seq (.blk 1 (.seq (.draw (.op ⟨some 10,.mv (.t 0),no⟩ (.op ⟨some 11,.mv (.t 3),no⟩ (.op ⟨some 12,.slc false 1 (.t 10) Option.none (some (.t 11)),no⟩ (.op ⟨some 13,.mv (.t 0),no⟩ (.op ⟨some 14,.mv (.t 3),no⟩ (.op ⟨some 15,.ixa 1 (.t 13) (.t 14),no⟩ (.op ⟨some 16,.ld false 1 (.t 15),no⟩ (.op ⟨some 17,.call (.k (.fn (.func 224) [] [])) [.t 12,.t 16],no⟩ .fin))))))))) (.cond (.t 17) (.seq (.reg [⟨some 2,.mv (.k (.bool false)),no⟩]) .ret) .skip))) (.reg [⟨some 8,.mv (.t 3),no⟩,⟨some 9,.bin .add (.t 8) (.k (.int .i64 1)),no⟩,⟨some 3,.mv (.t 9),no⟩])))))) (.seq (.reg [⟨some 2,.mv (.k (.bool true)),no⟩]) .ret)))⟩
theorem a218_ok:J0a Tryz.prog Tryz.f218=some a218:=by kernel_rfl
def a296:AFn:= ⟨8,[.t 3],(.seq (.reg [⟨some 3,.mv (.k (.bool false)),no⟩]) (.seq (.reg [⟨some 4,.ld false 1 (.t 1),no⟩,⟨some 5,.mv (.t 0),no⟩,⟨some 6,.call (.k (.fn (.func 72) [] [])) [.t 4,.t 5],no⟩,⟨some 7,.un .not (.t 6),no⟩,⟨some 3,.mv (.t 7),no⟩]) .ret))⟩
theorem a296_ok:J0a Tryz.prog Tryz.f296=some a296:=by kernel_rfl
def a238:AFn:= ⟨9,[.t 4],(.seq (.reg [⟨some 3,.boxv (.t 1),no⟩,⟨some 4,.mv (.k (.bool false)),no⟩]) (.seq (.reg [⟨some 5,.mv (.t 0),no⟩,⟨some 6,.mkf (.func 296) [] [.t 3],no⟩,⟨some 7,.call (.k (.fn (.func 69) [] [])) [.t 5,.t 6],no⟩,⟨some 8,.un .not (.t 7),no⟩,⟨some 4,.mv (.t 8),no⟩]) .ret))⟩
theorem a238_ok:J0a Tryz.prog Tryz.f238=some a238:=by kernel_rfl
def a137:AFn:= ⟨29,[.t 4],(.seq (.reg [⟨some 4,.mv (.k (.nil 1)),no⟩]) (.seq (.reg [⟨some 7,.bsl 1 [],no⟩,⟨some 5,.mv (.t 7),no⟩]) (.seq (.seq (.reg [⟨some 6,.mv (.k (.int .i64 0)),no⟩]) (.blk 0 (.loop (.seq (.seq (.reg [⟨some 8,.mv (.t 6),no⟩,⟨some 9,.mv (.t 0),no⟩,⟨some 10,.len false (.t 9),no⟩,⟨some 11,.bin .lss (.t 8) (.t 10),no⟩]) (.cond (.t 11) .skip (.exit 0))) (.seq (.blk 1 (.seq (.reg [⟨some 14,.mv (.t 1),no⟩,⟨some 15,.mv (.t 0),no⟩,⟨some 16,.mv (.t 6),no⟩,⟨some 17,.ixa 1 (.t 15) (.t 16),no⟩,⟨some 18,.ld false 1 (.t 17),no⟩,⟨some 19,.call (.k (.fn (.func 224) [] [])) [.t 14,.t 18],no⟩,⟨some 20,.un .not (.t 19),no⟩]) (.cond (.t 20) (.reg [⟨some 21,.mv (.t 5),no⟩,⟨some 22,.mv (.t 0),no⟩,⟨some 23,.mv (.t 6),no⟩,⟨some 24,.ixa 1 (.t 22) (.t 23),no⟩,⟨some 25,.ld false 1 (.t 24),no⟩,⟨some 26,.bsl 1 [.t 25],no⟩,⟨some 27,.app 16 1 (.t 21) (.t 26),no⟩,⟨some 5,.mv (.t 27),no⟩]) .skip))) (.reg [⟨some 12,.mv (.t 6),no⟩,⟨some 13,.bin .add (.t 12) (.k (.int .i64 1)),no⟩,⟨some 6,.mv (.t 13),no⟩])))))) (.seq (.reg [⟨some 28,.mv (.t 5),no⟩,⟨some 4,.mv (.t 28),no⟩]) .ret))))⟩
theorem a137_ok:J0a Tryz.prog Tryz.f137=some a137:=by kernel_rfl
theorem a69_ok:J0a Tryz.prog Tryz.f69=some (J31 150):=by kernel_rfl
theorem a150_ok:J0a Tryz.prog Tryz.f150=some (J3p false 1):=by kernel_rfl
theorem a297_ok:J0a Tryz.prog Tryz.f297=some (J31 323):=by kernel_rfl
theorem a323_ok:J0a Tryz.prog Tryz.f323=some (J3p true 2):=by kernel_rfl
theorem Jht {P:Program}{s:Env}{h:Heap}{n:Nat}{Q:Fin}{ks:List Kt}{c:Nat}{e:AC}(hc:s c = .bool false) (h1:J2b P ks .normal s h n Q):rC P (.cond (.t c) e .skip) ks s h n Q:=by
 rw [Jaq]
 have:ev s (.t c) = .bool false:=hc
 rw [this]
 simpa using h1
theorem Jlt (n:Int):Holds Tryz.prog 295 [i64 n] (fun r=>r = .bool (Jn0 n)):=by
 refine J03 Tryz.func295 a295_ok rfl (by simp [a295]) ?_
 simp [a295]
 first|refine J00 (J1s n (-1000000) 1000000) (by first|simp;done|rfl) ?_|refine J02 (J1s n (-1000000) 1000000) (by first|simp;done|rfl) ?_
 rintro r rfl
 simp
 rfl
theorem Jhk (n:Int):Holds Tryz.prog 318 [i64 n] (fun r=>r = .bool (Jn0 n)):=by
 refine J03 Tryz.func318 a318_ok rfl (by simp [a318]) ?_
 simp [a318]
 first|refine J00 (J4d n (-1000000) 1000000) (by first|simp;done|rfl) ?_|refine J02 (J4d n (-1000000) 1000000) (by first|simp;done|rfl) ?_
 rintro r rfl
 simp
 rfl
theorem J6q (l:List Str):Holds Tryz.prog 141 [.sl 1 (J0e l)] (fun r=>r = .bool (J85 l)):=by
 refine J1h Tryz.func141 rfl rfl fun hl => ?_
 simp at hl
 refine J03 Tryz.func141 a141_ok rfl (by simp [a141]) ?_
 simp [a141]
 intro _
 unfold J85
 generalize hB:J3n [] l=B
 refine J3t [0,5,6] 7 l.length (fun i _=>J3n (l.take i) (l.drop i)=B) hl (by simp) (by simpa using hB) ?_ ?_
 ·rintro i st h R hi hg hk s7 hw hJ hh hR hret _
  simp at hk
  rw [List.drop_eq_getElem_cons hi] at hJ
  simp only [J3n] at hJ
  rw [List.take_append_getElem hi] at hJ
  simp [hk,s7,hi,hg,J4f,asI]
  refine ⟨by omega,?_⟩
  have ht:List.take i (J0e l)=J0e (l.take i):=by simp [J0e]
  first|refine J00 (J6s (l.take i) (l[i]'hi)) (by first|simp [ht];done|rfl) ?_|refine J02 (J6s (l.take i) (l[i]'hi)) (by first|simp [ht];done|rfl) ?_
  rintro r rfl
  cases hc:J47 (l.take i) l[i]
  ·rw [hc] at hJ
   simp at hJ
   simp [hk,s7,hw]
   exact hR _ (by simp [hk]) (by simp) hJ
  ·rw [hc] at hJ
   simp at hJ
   simp
   refine hret _ _ _ ?_
   simp [hJ]
 ·rintro st h R hk s7 hJ hh _ hX
  simp at hk
  rw [List.drop_eq_nil_of_le (by omega)] at hJ
  simp [hk,s7]
  refine hX _ _ ?_
  simp [←hJ,J3n]
theorem J48 (l:List Str):Holds Tryz.prog 218 [.sl 1 (J0e l)] (fun r=>r = .bool (J85 l)):=by
 refine J1h Tryz.func218 rfl rfl fun hl => ?_
 simp at hl
 refine J03 Tryz.func218 a218_ok rfl (by simp [a218]) ?_
 simp [a218]
 unfold J85
 generalize hB:J3n [] l=B
 refine J3t [0] 3 l.length (fun i _=>J3n (l.take i) (l.drop i)=B) hl (by simp) (by simpa using hB) ?_ ?_
 ·rintro i st h R hi hg hk s3 hw hJ hh hR hret _
  simp at hk
  rw [List.drop_eq_getElem_cons hi] at hJ
  simp only [J3n] at hJ
  rw [List.take_append_getElem hi] at hJ
  simp [hk,s3,hi,hg,J4f,asI]
  intro _
  refine ⟨by omega,?_⟩
  have ht:List.take i (J0e l)=J0e (l.take i):=by simp [J0e]
  first|refine J00 (J9q (l.take i) (l[i]'hi)) (by first|simp [ht];done|rfl) ?_|refine J02 (J9q (l.take i) (l[i]'hi)) (by first|simp [ht];done|rfl) ?_
  rintro r rfl
  cases hc:J47 (l.take i) l[i]
  ·rw [hc] at hJ
   simp at hJ
   simp [hk,s3,hw]
   exact hR _ (by simp [hk]) (by simp) hJ
  ·rw [hc] at hJ
   simp at hJ
   simp
   refine hret _ _ _ ?_
   simp [hJ]
 ·rintro st h R hk s3 hJ hh _ hX
  simp at hk
  rw [List.drop_eq_nil_of_le (by omega)] at hJ
  simp [hk,s3]
  intro _
  refine hX _ _ ?_
  simp [←hJ,J3n]
theorem Jsa (l scope:List Str):(l.any fun s => !J47 scope s) = !Jmy l scope:=by unfold Jmy;rw [J89]
theorem Jmk {h:Heap}{n id:Nat}{scope:List Str}(x:Str) (hv:h id=some ⟨true,1,[[.sl 1 (J0e scope)]]⟩) (hid:id<n):Jfp Tryz.prog 296 [] [.ptr id 0 0] h n (.str x) (.bool (!J47 scope x)):=by
 intro K hK
 refine J9x ?_
 refine J2g Tryz.func296 a296_ok rfl (by simp [a296]) ?_
 have n1:¬id=n:=by omega
 simp [a296,hv,n1]
 first|refine J00 (J6s scope x) (by first|simp;done|rfl) ?_|refine J02 (J6s scope x) (by first|simp;done|rfl) ?_
 rintro r rfl
 simp [Jnp,hK]
theorem J97 (l scope:List Str):Holds Tryz.prog 238 [.sl 1 (J0e l),.sl 1 (J0e scope)] (fun r=>r = .bool (Jmy l scope)):=by
 refine J03 Tryz.func238 a238_ok rfl (by simp [a238]) ?_
 simp [a238]
 refine J1d (p:=fun s => !J47 scope s) (rowOf:=fun s=>[.str s]) (eltOf:=fun s => .str s) Tryz.func69 a69_ok rfl Tryz.func150 a150_ok rfl (fun x=>by simp) l
  (fun x _=>Jmk (scope:=scope) x (by simp) (by omega)) ?_
 rw [Jsa]
 simp
theorem Ji8 {l scope:List Str}{i:Nat}(hi:i<l.length):J6o (l.drop i) scope=(if J47 scope l[i] then [] else [l[i]])++J6o (l.drop (i+1)) scope:=by
 rw [List.drop_eq_getElem_cons hi]
 unfold J6o
 rw [List.filter_cons]
 cases J47 scope l[i] <;> simp
theorem Jfu (l scope:List Str) (hl:l.length≤1048576):Holds Tryz.prog 137 [.sl 1 (J0e l),.sl 1 (J0e scope)] (fun r=>r = .us 1 (J0e (J6o l scope))):=by
 refine J03 Tryz.func137 a137_ok rfl (by simp [a137]) ?_
 simp [a137]
 generalize hB:J6o l scope=B
 have hBl:B.length≤l.length:=by rw [←hB];exact List.length_filter_le _ _
 refine J0o [0,1] 6 l.length (fun i s h n=>∃ (acc:List Str) (id:Nat),s 5 = .ref id 0 acc.length∧h id=some ⟨false,1,J0e acc⟩∧id<n∧acc++J6o (l.drop i) scope=B)
  (by unfold LIM;omega) (by simp) ⟨[],0,by simp,by simp [J0e],by simp,by simpa using hB⟩ ?_ ?_
 ·rintro i st h n R hi hg hk s6 hw ⟨acc,id,s5,eid,hidn,hJ⟩ hR _ _
  simp at hk
  rw [Ji8 hi] at hJ
  have hal:=congrArg List.length hJ
  simp only [List.length_append] at hal
  simp [hk,s6,hi,hg]
  intro _
  first|refine J00 (J9q scope (l[i]'hi)) (by first|simp;done|rfl) ?_|refine J02 (J9q scope (l[i]'hi)) (by first|simp;done|rfl) ?_
  rintro r rfl
  have n0:¬id=n:=by omega
  have n1:¬id=n+1:=by omega
  have n2:¬n+1=id:=by omega
  have n3:¬n=id:=by omega
  cases hc:J47 scope l[i]
  ·rw [hc] at hJ hal
   simp at hJ hal
   simp [hk,s6,hi,hg,s5,eid,n0,n1,n2,n3,hw]
   refine ⟨by unfold LIM;omega,?_⟩
   exact hR _ _ _ (by simp [hk]) (by simp) ⟨acc++[l[i]],n+1,by simp,by simp [J0e],by omega,by simpa using hJ⟩
  ·rw [hc] at hJ
   simp at hJ
   simp [hk,s6,hi,hg,hw]
   exact hR _ _ _ (by simp [hk]) (by simp) ⟨acc,id,by simp [s5],by simp [eid],by omega,hJ⟩
 ·rintro st h n R hk s6 ⟨acc,id,s5,eid,hidn,hJ⟩ hret hX
  simp at hk
  rw [List.drop_eq_nil_of_le (by omega)] at hJ
  simp [J6o] at hJ
  subst hJ
  simp [hk,s6]
  intro _
  refine hX _ _ _ _ ?_
  simp [s5,eid]
def a237:AFn:= ⟨55,[.t 2],(.seq (.reg [⟨some 1,.boxv (.t 0),no⟩,⟨some 2,.mv (.k (.bool false)),no⟩]) (.seq (.seq (.reg [⟨some 5,.fld 0 (.t 1),no⟩,⟨some 6,.ld false 1 (.t 5),no⟩,⟨some 7,.call (.k (.fn (.func 295) [] [])) [.t 6],no⟩,⟨some 8,.un .not (.t 7),no⟩,⟨some 9,.mv (.t 8),no⟩,⟨some 10,.fld 1 (.t 1),(some (9,false))⟩,⟨some 11,.ld false 1 (.t 10),(some (9,false))⟩,⟨some 12,.len false (.t 11),(some (9,false))⟩,⟨some 13,.bin .gtr (.t 12) (.k (.int .i64 4)),(some (9,false))⟩,⟨some 14,.pick (.t 9) (.k (.bool true)) (.t 13),no⟩]) (.cond (.t 14) (.seq (.reg [⟨some 2,.mv (.k (.bool false)),no⟩]) .ret) .skip)) (.seq (.seq (.reg [⟨some 15,.fld 1 (.t 1),no⟩,⟨some 16,.ld false 1 (.t 15),no⟩,⟨some 17,.len false (.t 16),no⟩,⟨some 18,.mv (.k (.int .i64 0)),no⟩]) (.blk 0 (.loop (.seq (.reg [⟨some 19,.bin .lss (.t 18) (.t 17),no⟩]) (.seq (.cond (.t 19) .skip (.exit 0)) (.seq (.blk 1 (.seq (.reg [⟨some 20,.mv (.t 18),no⟩,⟨some 21,.ixa 2 (.t 16) (.t 18),no⟩,⟨some 22,.ld true 2 (.t 21),no⟩,⟨some 4,.box [(.int .i64 0),(.str [])],no⟩,⟨some 3,.mv (.t 20),no⟩,⟨no,.st 2 (.t 4) (.t 22),no⟩]) (.seq (.draw (.op ⟨some 23,.fld 0 (.t 4),no⟩ (.op ⟨some 24,.ld false 1 (.t 23),no⟩ (.op ⟨some 25,.bin .eql (.t 24) (.k (.int .i64 0)),no⟩ (.op ⟨some 26,.mv (.t 25),no⟩ (.op ⟨some 27,.fld 0 (.t 4),(some (26,false))⟩ (.op ⟨some 28,.ld false 1 (.t 27),(some (26,false))⟩ (.op ⟨some 29,.call (.k (.fn (.func 295) [] [])) [.t 28],(some (26,false))⟩ (.op ⟨some 30,.un .not (.t 29),(some (26,false))⟩ (.op ⟨some 31,.pick (.t 26) (.k (.bool true)) (.t 30),no⟩ (.op ⟨some 32,.mv (.t 31),no⟩ (.op ⟨some 33,.fld 1 (.t 4),(some (32,false))⟩ (.op ⟨some 34,.ld false 1 (.t 33),(some (32,false))⟩ (.op ⟨some 35,.call (.k (.fn (.func 140) [] [])) [.t 34],(some (32,false))⟩ (.op ⟨some 36,.un .not (.t 35),(some (32,false))⟩ (.op ⟨some 37,.pick (.t 32) (.k (.bool true)) (.t 36),no⟩ (.op ⟨some 38,.mv (.t 37),no⟩ (.op ⟨some 39,.mv (.t 3),(some (38,false))⟩ (.op ⟨some 40,.bin .gtr (.t 39) (.k (.int .i64 0)),(some (38,false))⟩ (.op ⟨some 41,.mv (.t 40),(some (38,false))⟩ (.op ⟨some 42,.fld 1 (.t 1),(some (41,true))⟩ (.op ⟨some 43,.ld false 1 (.t 42),(some (41,true))⟩ (.op ⟨some 44,.mv (.t 3),(some (41,true))⟩ (.op ⟨some 45,.bin .sub (.t 44) (.k (.int .i64 1)),(some (41,true))⟩ (.op ⟨some 46,.ixa 2 (.t 43) (.t 45),(some (41,true))⟩ (.op ⟨some 47,.fld 1 (.t 46),(some (41,true))⟩ (.op ⟨some 48,.ld false 1 (.t 47),(some (41,true))⟩ (.op ⟨some 49,.fld 1 (.t 4),(some (41,true))⟩ (.op ⟨some 50,.ld false 1 (.t 49),(some (41,true))⟩ (.op ⟨some 51,.bin .geq (.t 48) (.t 50),(some (41,true))⟩ (.op ⟨some 52,.pick (.t 41) (.t 51) (.k (.bool false)),(some (38,false))⟩ (.op ⟨some 53,.pick (.t 38) (.k (.bool true)) (.t 52),no⟩ .fin)))))))))))))))))))))))))))))))) (.cond (.t 53) (.seq (.reg [⟨some 2,.mv (.k (.bool false)),no⟩]) .ret) .skip)))) (.reg [⟨some 54,.bin .add (.t 18) (.k (.int .i64 1)),no⟩,⟨some 18,.mv (.t 54),no⟩]))))))) (.seq (.reg [⟨some 2,.mv (.k (.bool true)),no⟩]) .ret))))⟩
theorem a237_ok:J0a Tryz.prog Tryz.f237=some a237:=by kernel_rfl
def Jdb (l:List DTerm) (i:Nat):Option Str:=if i=0 then Option.none else (l[i - 1]?).map (·.Name)
theorem J9v {l:List DTerm}{i:Nat}(hi:i<l.length):Jdb l (i+1)=some (l[i]).Name:=by simp [Jdb,hi]
set_option maxHeartbeats 1000000 in
theorem J7b (x:DSum):Holds Tryz.prog 237 [.agg (J1g x)] (fun r=>r = .bool (J8y x)):=by
 refine J03 Tryz.func237 a237_ok rfl (by simp [a237]) ?_
 simp [a237,J1g]
 first|refine J00 (Jlt x.Const) (by first|simp;done|rfl) ?_|refine J02 (Jlt x.Const) (by first|simp;done|rfl) ?_
 rintro r rfl
 unfold J8y
 cases h1:Jn0 x.Const
 ·simp
 simp
 intro hl
 have hd:decide (x.Terms.length≤4)=decide ((x.Terms.length:Int)≤4):=by rw [decide_eq_decide];omega
 rw [hd]
 by_cases h2:(x.Terms.length:Int)≤4
 case neg=>
  have h2n:¬x.Terms.length≤4:=by omega
  simp [h2,h2n,Int.not_le.1 h2]
 simp [h2,Int.not_lt.2 h2]
 intro _
 generalize hB:J6e Option.none x.Terms=B
 refine J0o [1,16,17] 18 x.Terms.length (fun i s h n=>0<n∧h 0=some ⟨true,2,[[i64 x.Const,.sl 2 (x.Terms.map J12)]]⟩∧J6e (Jdb x.Terms i) (x.Terms.drop i)=B) hl (by simp) ⟨by simp,by simp,by simpa [Jdb] using hB⟩ ?_ ?_
 ·rintro i st h n R hi hg hk s18 hw ⟨hn,e0,hJ⟩ hR hret _
  simp at hk
  rw [List.drop_eq_getElem_cons hi] at hJ
  simp only [J6e] at hJ
  have z0:¬0=n:=by omega
  refine J0i [1,16,17,18] (fun s=>s 19 = .bool true) (by simp [hk,s18,hi]) ?_
  intro st1 hk1 s19
  simp at hk1
  refine J3g s19 (J0b (J1c ?_))
  refine J15 [1,16,17,18] (fun s h' n'=>s 3 = .int .i64 i∧s 4 = .ptr n 0 0∧n'=n+1∧h' n=some ⟨true,2,[J12 x.Terms[i]]⟩∧h' 0=some ⟨true,2,[[i64 x.Const,.sl 2 (x.Terms.map J12)]]⟩) (by simp [hk,hk1,s18,hi,J12,e0,z0]) ?_
  rintro st2 h2 n2 hk2 ⟨s3,s4,rfl,en,e0'⟩
  simp at hk2
  obtain ⟨bad,hbad⟩:∃ bad,bad=(((x.Terms[i]).Coeff==0 || !Jn0 (x.Terms[i]).Coeff || !J2f (x.Terms[i]).Name)||(match Jdb x.Terms i with|Option.none=>false|some q => !(Op.bytesLess q (x.Terms[i]).Name))):=⟨_,rfl⟩
  refine J0i [1,16,17,18] (fun s=>s 53 = .bool bad) ?_ ?_
  ·subst hbad
   by_cases c0:(x.Terms[i]).Coeff=0
   ·simp [hk,hk1,hk2,s18,hi,J12,e0',en,z0,s3,s4,c0]
   simp [hk,hk1,hk2,s18,hi,J12,e0',en,z0,s3,s4,c0]
   first|refine J00 (Jlt (x.Terms[i]'hi).Coeff) (by first|simp;done|rfl) ?_|refine J02 (Jlt (x.Terms[i]'hi).Coeff) (by first|simp;done|rfl) ?_
   rintro r rfl
   cases c1:Jn0 (x.Terms[i]).Coeff
   ·simp [hk,hk1,hk2,s18,hi,J12,e0',en,z0,s3,s4]
   simp [hk,hk1,hk2,s18,hi,J12,e0',en,z0,s3,s4]
   first|refine J00 (J4g (x.Terms[i]'hi).Name) (by first|simp;done|rfl) ?_|refine J02 (J4g (x.Terms[i]'hi).Name) (by first|simp;done|rfl) ?_
   rintro r rfl
   cases c2:J2f (x.Terms[i]).Name
   ·simp [hk,hk1,hk2,s18,hi,J12,e0',en,z0,s3,s4]
   cases i with
   | zero=>simp [hk,hk1,hk2,s18,hi,J12,e0',en,z0,s3,s4,Jdb,c0,c1,c2]
   | succ i=>
    have hi':i<x.Terms.length:=by omega
    have hwr:IntKind.i64.wrap (i:Int)=i:=J1e (by unfold LIM at hl;omega)
    simp [hk,hk1,hk2,s18,hi,hi',J12,e0',en,z0,s3,s4,J9v hi',hwr,c0,c1,c2]
  intro st3 hk3 s53
  simp at hk3
  have hJ':(!bad&&J6e (some (x.Terms[i]).Name) (x.Terms.drop (i+1)))=B:=by
   rw [←hJ,hbad]
   cases ((x.Terms[i]).Coeff==0) <;> cases (Jn0 (x.Terms[i]).Coeff) <;> cases (J2f (x.Terms[i]).Name) <;> cases (Jdb x.Terms i) <;> simp
  rw [←J9v hi] at hJ'
  clear hJ hbad
  cases bad
  ·simp [hk,hk1,hk2,hk3,s18,s53,hw]
   exact hR _ _ _ (by simp [hk,hk1,hk2,hk3]) (by simp) ⟨by omega,by simp [e0'],by simpa using hJ'⟩
  ·simp [hk,hk1,hk2,hk3,s18,s53,hw]
   simp at hJ'
   refine hret _ _ _ ?_
   simp [hJ']
 ·rintro st h n R hk s18 ⟨hn,e0,hJ⟩ hret hX
  simp at hk
  rw [List.drop_eq_nil_of_le (by omega)] at hJ
  refine J0i [1,16,17,18] (fun s=>s 19 = .bool false) (by simp [hk,s18]) ?_
  intro st1 hk1 s19
  simp at hk1
  refine J37 s19 ?_
  simp
  refine hX _ _ _ _ ?_
  simp [←hJ,J6e]
end Go.Proofs.YtoclolkigjbcgaaGreat

/- The program's ModelOf: maps of expressions, what the heap holds; functions that read such a map. -/
import Derived.Test.YtilcageplifbgaaGreatJC13
namespace Go.Proofs.YtilcageplifbgaaGreat
set_option linter.all false
open Go Go.RowKit Go.Proofs
def a105:AFn:=
⟨34,[(.c 6 true 2)],(.seq
 (.reg [⟨some 4,.boxv (.t 1),no⟩,⟨some 6,.box [(.int .i64 0),(.nil 1)],no⟩]) (.seq
 (.reg [⟨some 10,.fld 0 (.t 4),no⟩,⟨some 11,.ld false 1 (.t 10),no⟩,⟨some 12,.mv (.t 2),no⟩,⟨some 13,.call (.k (.fn (.func 103) [] [])) [.t 11,.t 12],no⟩,⟨some 7,.box [(.int .i64 0),(.nil 1)],no⟩,⟨no,.st 2 (.t 7) (.t 13),no⟩]) (.seq (.seq
 (.reg [⟨some 14,.fld 1 (.t 4),no⟩,⟨some 15,.ld false 1 (.t 14),no⟩,⟨some 16,.len false (.t 15),no⟩,⟨some 17,.mv (.k (.int .i64 0)),no⟩]) (.blk 0 (.loop (.seq
 (.reg [⟨some 18,.bin .lss (.t 17) (.t 16),no⟩]) (.seq (.cond (.t 18) .skip (.exit 0)) (.seq (.blk 1 (.seq
 (.reg [⟨some 19,.ixa 2 (.t 15) (.t 17),no⟩,⟨some 20,.ld true 2 (.t 19),no⟩,⟨some 9,.box [(.int .i64 0),(.str [])],no⟩,⟨no,.st 2 (.t 9) (.t 20),no⟩])
 (.reg [⟨some 22,.ld true 2 (.t 7),no⟩,⟨some 23,.fld 0 (.t 9),no⟩,⟨some 24,.ld false 1 (.t 23),no⟩,⟨some 25,.mv (.t 0),no⟩,⟨some 26,.fld 1 (.t 9),no⟩,⟨some 27,.ld false 1 (.t 26),no⟩,⟨some 28,.mget (.agg [(.int .i64 0),(.nil 1)]) (.t 25) (.t 27),no⟩,⟨some 29,.call (.k (.fn (.func 102) [] [])) [.t 22,.t 24,.t 28],no⟩,⟨some 21,.mv (.t 29),no⟩,⟨some 30,.ext (.t 21) 0,no⟩,⟨some 31,.ext (.t 21) 1,no⟩,⟨no,.st 2 (.t 7) (.t 30),no⟩])))
 (.reg [⟨some 32,.bin .add (.t 17) (.k (.int .i64 1)),no⟩,⟨some 17,.mv (.t 32),no⟩]))))))) (.seq
 (.reg [⟨some 33,.ld true 2 (.t 7),no⟩,⟨no,.st 2 (.t 6) (.t 33),no⟩]) .ret))))⟩
theorem a105_ok:compFn Tryz.prog Tryz.f105=some a105:=by kernel_rfl
def a106:AFn:=
⟨36,[(.c 6 true 2)],(.seq
 (.reg [⟨some 4,.boxv (.t 1),no⟩,⟨some 6,.box [(.int .i64 0),(.nil 1)],no⟩]) (.seq (.seq
 (.reg [⟨some 8,.fld 0 (.t 4),no⟩,⟨some 9,.ld false 1 (.t 8),no⟩,⟨some 10,.un .not (.t 9),no⟩]) (.cond (.t 10) (.seq
 (.reg [⟨some 11,.mv (.t 0),no⟩,⟨some 12,.fld 1 (.t 4),no⟩,⟨some 13,.ld false 1 (.t 12),no⟩,⟨some 14,.ixa 2 (.t 13) (.k (.int .i64 0)),no⟩,⟨some 15,.ld true 2 (.t 14),no⟩,⟨some 16,.mv (.t 2),no⟩,⟨some 17,.call (.k (.fn (.func 105) [] [])) [.t 11,.t 15,.t 16],no⟩,⟨no,.st 2 (.t 6) (.t 17),no⟩]) .ret) .skip)) (.seq
 (.reg [⟨some 18,.fld 1 (.t 4),no⟩,⟨some 19,.ld false 1 (.t 18),no⟩,⟨some 20,.len false (.t 19),no⟩,⟨some 21,.mv (.t 2),no⟩,⟨some 22,.call (.k (.fn (.func 103) [] [])) [.t 20,.t 21],no⟩,⟨some 7,.box [(.int .i64 0),(.nil 1)],no⟩,⟨no,.st 2 (.t 7) (.t 22),no⟩]) (.seq (.seq
 (.reg [⟨some 23,.fld 2 (.t 4),no⟩,⟨some 24,.ld false 1 (.t 23),no⟩,⟨some 25,.bin .neq (.t 24) (.k (.str [])),no⟩]) (.cond (.t 25)
 (.reg [⟨some 27,.ld true 2 (.t 7),no⟩,⟨some 28,.mv (.t 0),no⟩,⟨some 29,.fld 2 (.t 4),no⟩,⟨some 30,.ld false 1 (.t 29),no⟩,⟨some 31,.mget (.agg [(.int .i64 0),(.nil 1)]) (.t 28) (.t 30),no⟩,⟨some 32,.call (.k (.fn (.func 102) [] [])) [.t 27,(.k (.int .i64 1)),.t 31],no⟩,⟨some 26,.mv (.t 32),no⟩,⟨some 33,.ext (.t 26) 0,no⟩,⟨some 34,.ext (.t 26) 1,no⟩,⟨no,.st 2 (.t 7) (.t 33),no⟩]) .skip)) (.seq
 (.reg [⟨some 35,.ld true 2 (.t 7),no⟩,⟨no,.st 2 (.t 6) (.t 35),no⟩]) .ret)))))⟩
theorem a106_ok:compFn Tryz.prog Tryz.f106=some a106:=by kernel_rfl
theorem acall_ext {P:Program} {f:FuncId} {xs:List AV} {h:Heap} {n:Nat} {K:AV→Heap→Nat→Prop}
   (hA:ACall P f xs h n fun r h' n'=>(∀ id,id<n→h' id=h id)∧K r h' n'):ACall P f xs h n (hK h K):=by
 refine ⟨hA.1,fun base w0 w L F vs H hv => ?_⟩
 refine (hA.2 base w0 w L F vs H hv).mono ?_
 rintro e w' ⟨v,r,L',n',F',h',rfl,H',hx,hr,hh,hk⟩
 refine ⟨v,r,L',n',F',h',rfl,H',hx,hr,fun id B hB => ?_,hk⟩
 have hlt:id<n:=by
   cases hl:L id with
   | none=>rw [H.mod id hl] at hB; cases hB
   | some l=>exact H.lt id l hl
 rw [hh id hlt]; exact hB
def linV (l:DLin) (q:Nat):AV := .agg [i64 l.Const,.ref q 0 l.Coeffs.length]
structure Ent where
 k:Str
 l:DLin
 q:Nat
def Ent.row (e:Ent):List AV:=[.str e.k,linV e.l e.q]
def entsE (es:List Ent):SEnv:=es.map fun e=>(e.k,e.l)
def setEnt:List Ent→Str→DLin→Nat→List Ent
 | [],k,l,q=>[⟨k,l,q⟩]
 | e::es,k,l,q=>if e.k=k then ⟨k,l,q⟩::es else e::setEnt es k l q
theorem setEnt_E {k:Str} {l:DLin} {q:Nat} : ∀ {es:List Ent},entsE (setEnt es k l q)=eset (entsE es) k l
 | []=>rfl
 | e::es=>by
   have ih:=setEnt_E (k:=k) (l:=l) (q:=q) (es:=es)
   simp only [setEnt,entsE,List.map_cons,eset] at ih ⊢
   split
   · rfl
   · rw [List.map_cons,ih]
theorem mset_ents {k:Str} {l:DLin} {q:Nat} : ∀ {es:List Ent},mset (es.map Ent.row) k (linV l q)=(setEnt es k l q).map Ent.row
 | []=>rfl
 | e::es=>by
   have ih:=mset_ents (k:=k) (l:=l) (q:=q) (es:=es)
   simp only [List.map_cons,Ent.row,mset,setEnt] at ih ⊢
   split
   · rfl
   · simp only [List.map_cons,Ent.row,List.cons.injEq,true_and]; exact ih
theorem setEnt_mem {k:Str} {l:DLin} {q:Nat} : ∀ {es:List Ent} {e:Ent},e∈setEnt es k l q→e∈es∨e=⟨k,l,q⟩
 | [],e,h=>by simp [setEnt] at h; exact .inr h
 | a::es,e,h=>by
   simp only [setEnt] at h
   split at h
   · rcases List.mem_cons.1 h with h | h
     · exact .inr h
     · exact .inl (List.mem_cons_of_mem _ h)
   · rcases List.mem_cons.1 h with rfl | h
     · exact .inl List.mem_cons_self
     · rcases setEnt_mem h with h | h
       · exact .inl (List.mem_cons_of_mem _ h)
       · exact .inr h
theorem mfind_ents {k:Str} : ∀ {es:List Ent},(mfind (es.map Ent.row) k=Option.none∧∀ d,eget d (entsE es) k=d)∨∃ e∈es,mfind (es.map Ent.row) k=some (linV e.l e.q)∧∀ d,eget d (entsE es) k=e.l
 | [] => .inl ⟨rfl,fun _=>rfl⟩
 | a::es=>by
   simp only [List.map_cons,Ent.row,mfind,entsE,eget,List.find?_cons]
   by_cases h:a.k=k
   · exact .inr ⟨a,List.mem_cons_self,by rw [if_pos h],fun d=>by simp [h]⟩
   · rw [if_neg h]
     have hb:(a.k==k)=false:=by simpa using h
     rcases mfind_ents (k:=k) (es:=es) with ⟨h1,h2⟩ | ⟨e,he,h1,h2⟩
     · exact .inl ⟨h1,fun d=>by rw [hb]; exact h2 d⟩
     · exact .inr ⟨e,List.mem_cons_of_mem _ he,h1,fun d=>by rw [hb]; exact h2 d⟩
def MapIs (d:Nat) (E:SEnv) (h:Heap) (n:Nat):Prop:=∃ es:List Ent,entsE es=E∧h d=some ⟨true,0,es.map Ent.row⟩∧∀ e∈es,e.q<n∧h e.q=some ⟨false,1,intsR e.l.Coeffs⟩
theorem MapIs.keep {d:Nat} {E:SEnv} {h h':Heap} {n n':Nat} (M:MapIs d E h n) (hd:d<n) (hn:n≤n') (hh:∀ id,id<n→h' id=h id):MapIs d E h' n':=by
 obtain ⟨es,h1,h2,h3⟩:=M
 exact ⟨es,h1,by rw [hh d hd,h2],fun e he=>⟨by have:=(h3 e he).1; omega,by rw [hh _ (h3 e he).1]; exact (h3 e he).2⟩⟩
theorem MapIs.get {d:Nat} {E:SEnv} {h:Heap} {n:Nat} (M:MapIs d E h n) (x:Str):∃ rows w,h d=some ⟨true,0,rows⟩∧(mfind rows x).getD (.agg [.int .i64 0,.nil 1]) = .agg [.int .i64 (eget lin0 E x).Const,w]∧bw w h=some (.sl 1 (intsR (eget lin0 E x).Coeffs)):=by
 obtain ⟨es,rfl,h2,h3⟩:=M
 refine ⟨es.map Ent.row,?_⟩
 rcases mfind_ents (k:=x) (es:=es) with ⟨g1,g2⟩ | ⟨e,he,g1,g2⟩
 · exact ⟨.nil 1,h2,by rw [g1,g2]; rfl,by rw [g2]; rfl⟩
 · refine ⟨.ref e.q 0 e.l.Coeffs.length,h2,by rw [g1,g2]; rfl,?_⟩
   rw [g2]
   simp [bw,(h3 e he).2]
theorem MapIs.get2 {d:Nat} {E:SEnv} {h:Heap} {n:Nat} (M:MapIs d E h n) (x:Str):∃ rows w,h d=some ⟨true,0,rows⟩∧(mfind rows x).getD (.agg [.int .i64 0,.nil 1]) = .agg [.int .i64 (eget lin0 E x).Const,w] ∧
   ((w = .nil 1∧(eget lin0 E x).Coeffs=[])∨∃ q,q<n∧w = .ref q 0 (eget lin0 E x).Coeffs.length∧h q=some ⟨false,1,intsR (eget lin0 E x).Coeffs⟩):=by
 obtain ⟨es,rfl,h2,h3⟩:=M
 refine ⟨es.map Ent.row,?_⟩
 rcases mfind_ents (k:=x) (es:=es) with ⟨g1,g2⟩ | ⟨e,he,g1,g2⟩
 · exact ⟨.nil 1,h2,by rw [g1,g2]; rfl,.inl ⟨rfl,by rw [g2]; rfl⟩⟩
 · refine ⟨.ref e.q 0 e.l.Coeffs.length,h2,by rw [g1,g2]; rfl,.inr ⟨e.q,(h3 e he).1,by rw [g2],by rw [g2]; exact (h3 e he).2⟩⟩
set_option maxRecDepth 20000
set_option maxHeartbeats 2000000
theorem call_sumSize {d:Nat} {E:SEnv} {h:Heap} {n N:Nat} {s:DSum} (hs:s.Terms.length≤1048576) (M:MapIs d E h n) (hd:d<n) {K:AV→Heap→Nat→Prop}
   (hK:∀ q h' n',n≤q→q<n'→(∀ id,id<n→h' id=h id)→h' q=some ⟨false,1,intsR (sumI E N s).Coeffs⟩→K (linV (sumI E N s) q) h' n') :
   ACall Tryz.prog 105 [.mp d,.agg (rASum s),i64 N] h n K:=by
 refine acall_body Tryz.func105 a105_ok rfl (by simp [a105]) ?_
 have z0:¬n=n+1:=by omega
 have z1:¬n+1=n:=by omega
 have z2:¬n=n+1+1:=by omega
 have z3:¬n=n+1+1+1:=by omega
 have z4:¬n+1=n+1+1:=by omega
 have z5:¬n+1=n+1+1+1:=by omega
 have z6:¬n+1+1=n:=by omega
 have z7:¬n+1+1+1=n:=by omega
 simp [a105,rASum]
 first|refine callD_of (k_ConstLin s.Const N) (by first|(simp;done)|rfl) ?_|refine call_of (k_ConstLin s.Const N) (by first|(simp;done)|rfl) ?_
 rintro r rfl
 simp [rULin,rASum,z0,z1,z2,z3,z4,z5,z6,z7]
 intro _
 unfold sumI at hK
 generalize hT:s.Terms.foldl (fun o t=>addS o t.Coeff (eget lin0 E t.Name)) (constLin s.Const N)=T at hK
 refine rL_forO [0,2,4,6,7,15,16] 17 s.Terms.length (fun i st h' m=>n+3<m∧(∀ id,id<n→h' id=h id)∧h' n=some ⟨true,2,[[.int .i64 s.Const,.sl 2 (s.Terms.map rATerm)]]⟩∧h' (n+1)=some ⟨true,2,[[.int .i64 0,.nil 1]]⟩ ∧
     ∃ (o:DLin) (q:Nat),h' (n+3)=some ⟨true,2,[[.int .i64 o.Const,.ref q 0 o.Coeffs.length]]⟩∧h' q=some ⟨false,1,intsR o.Coeffs⟩∧(q=n+2∨n+3<q)∧q<m∧(s.Terms.drop i).foldl (fun o t=>addS o t.Coeff (eget lin0 E t.Name)) o=T) (by unfold LIM; omega) (by simp) ?_ ?_ ?_
 · refine ⟨by omega,?_,by simp [z0,z1,z2,z3,z4,z5,z6,z7],by simp [z0,z1,z2,z3,z4,z5,z6,z7],constLin s.Const N,n+2,by simp [z0,z1,z2,z3,z4,z5,z6,z7],by simp,.inl rfl,by omega,hT⟩
   intro id hid
   have y0:¬id=n:=by omega
   have y1:¬id=n+1:=by omega
   have y2:¬id=n+1+1:=by omega
   have y3:¬id=n+1+1+1:=by omega
   have y4:¬id=n+2:=by omega
   have y5:¬id=n+3:=by omega
   simp [y0,y1,y2,y3,y4,y5]
 · rintro i st h' m R hi hg hk s17 hw ⟨hm,hfr,e0,e1,o,q,eb,eq,hq,hqm,hJ⟩ hR _ _
   simp at hk
   rw [List.drop_eq_getElem_cons hi,List.foldl_cons] at hJ
   refine rC_cut [0,2,4,6,7,15,16,17] (fun s=>s 18 = .bool true) (by simp [hk,s17,hi]) ?_
   intro st1 hk1 s18
   simp at hk1
   refine rC_pass s18 (rC_seqI (rC_blkI ?_))
   refine rC_cutH [0,2,4,6,7,15,16,17] (fun st2 h2 m2=>m2=m+1∧st2 9 = .ptr m 0 0∧h2 m=some ⟨true,2,[rATerm s.Terms[i]]⟩∧∀ id,id<m→h2 id=h' id) ?_ ?_
   · simp [hk1,hk,s17,hi,rATerm]
     intro id hid
     have:¬id=m:=by omega
     simp [this]
   rintro st2 h2 m2 hk2 ⟨rfl,s9,em,hfr2⟩
   simp at hk2
   have M2:MapIs d E h2 (m+1):=M.keep hd (by omega) fun id hid=>by rw [hfr2 id (by omega),hfr id hid]
   obtain ⟨rows,w,hdr,hv,hbw⟩:=M2.get (s.Terms[i]).Name
   have eb2:=hfr2 (n+3) (by omega)
   have eq2:=hfr2 q (by omega)
   rw [eb] at eb2
   rw [eq] at eq2
   simp [hk2,hk1,hk,s17,s9,em,eb2,rATerm,hdr,hv]
   first|refine callD_of (k_AddScaled o (s.Terms[i]'hi).Coeff (eget lin0 E (s.Terms[i]'hi).Name)) (by first|(simp [rALin,eq2,hbw];done)|rfl) ?_|refine call_of (k_AddScaled o (s.Terms[i]'hi).Coeff (eget lin0 E (s.Terms[i]'hi).Name)) (by first|(simp [rALin,eq2,hbw];done)|rfl) ?_
   rintro r rfl
   rw [optLin_eq]
   have hadd:(addScaled o (s.Terms[i]).Coeff (eget lin0 E (s.Terms[i]).Name)).getD lin0=addS o (s.Terms[i]).Coeff (eget lin0 E (s.Terms[i]).Name):=rfl
   rw [hadd]
   generalize addS o (s.Terms[i]).Coeff (eget lin0 E (s.Terms[i]).Name)=o' at *
   have b1:¬n+3=m+1:=by omega
   have b2:¬m+1=n+3:=by omega
   have b3:¬n=m+1:=by omega
   have b4:¬n+1=m+1:=by omega
   have b5:¬n+1+1=m:=by omega
   have b6:¬m=n+1+1:=by omega
   have b7:¬m=n+2:=by omega
   have b8:¬n+2=m:=by omega
   simp [hk2,hk1,hk,s17,hw,rULin,eb2,b1,b2,b5,b6]
   refine hR _ _ _ (by simp [hk2,hk1,hk]) (by simp) ⟨by omega,?_,?_,?_,o',m+1,by simp,by simp [b2,b6,b7],.inr (by omega),by omega,hJ⟩
   · intro id hid
     have y0:¬id=n+3:=by omega
     have y1:¬id=m+1:=by omega
     simp [y0,y1,hfr2 id (by omega),hfr id hid]
   · simp [b3,hfr2 n (by omega),e0,z3]
   · have:¬n+1=n+3:=by omega
     simp [b4,hfr2 (n+1) (by omega),e1]
     try omega
 · rintro st h' m R hk s17 ⟨hm,hfr,e0,e1,o,q,eb,eq,hq,hqm,hJ⟩ hret hX
   simp at hk
   rw [List.drop_eq_nil_of_le (by omega)] at hJ
   simp only [List.foldl_nil] at hJ
   subst hJ
   refine rC_cut [6,7] (fun s=>s 18 = .bool false) (by simp [hk,s17]) ?_
   intro st1 hk1 s18
   simp at hk1
   refine rC_stop s18 ?_
   refine hX _ _ _ _ ?_
   have c1:¬q=n+1:=by omega
   simp [hk1,hk,eb,e1]
   refine hK q _ _ (by omega) hqm ?_ (by simp [c1,eq])
   intro id hid
   have y0:¬id=n+1:=by omega
   simp [y0,hfr id hid]
theorem call_argSize {d:Nat} {E:SEnv} {h:Heap} {n N:Nat} {a:DArg} (hs:∀ s∈a.Heads,s.Terms.length≤1048576) (hne:a.Lst=false→0<a.Heads.length) (M:MapIs d E h n) (hd:d<n) {K:AV→Heap→Nat→Prop}
   (hK:∀ q h' n',n≤q→q<n'→(∀ id,id<n→h' id=h id)→h' q=some ⟨false,1,intsR (argI E N a).Coeffs⟩→K (linV (argI E N a) q) h' n') :
   ACall Tryz.prog 106 [.mp d,.agg (rAArg a),i64 N] h n K:=by
 refine acall_body Tryz.func106 a106_ok rfl (by simp [a106]) ?_
 have z0:¬n=n+1:=by omega
 have z1:¬n+1=n:=by omega
 have z2:¬n=n+1+1:=by omega
 have z3:¬n=n+1+1+1:=by omega
 have z4:¬n+1=n+1+1:=by omega
 have z5:¬n+1=n+1+1+1:=by omega
 have z6:¬n+1+1=n:=by omega
 have z7:¬n+1+1+1=n:=by omega
 unfold argI at hK
 have M2:MapIs d E (upd (upd h n (some ⟨true,3,[rAArg a]⟩)) (n+1) (some ⟨true,2,[[.int .i64 0,.nil 1]]⟩)) (n+2):=M.keep hd (by omega) fun id hid=>by
   have y0:¬id=n:=by omega
   have y1:¬id=n+1:=by omega
   simp [y0,y1]
 cases hL:a.Lst
 · rw [hL] at hK
   have hz:=hne hL
   obtain ⟨s,l,hsl⟩:∃ s l,a.Heads=s::l:=by
     cases hh:a.Heads with
     | nil=>rw [hh] at hz; cases hz
     | cons s l=>exact ⟨s,l,rfl⟩
   have hs0:=hs s (by rw [hsl]; exact List.mem_cons_self)
   simp [hsl] at hK
   simp [a106,rAArg,hL,hsl,z0,z1]
   refine call_sumSize (E:=E) hs0 (by simpa [rAArg,hL,hsl] using M2) (by omega) ?_
   intro q h' n' hq hq' hfr hqb
   have f1:=hfr (n+1) (by omega)
   simp at f1
   simp [linV,f1]
   have y2:¬q=n+1:=by omega
   refine hK q _ _ (by omega) hq' ?_ (by simp [y2,hqb])
   intro id hid
   have y0:¬id=n:=by omega
   have y1:¬id=n+1:=by omega
   simp [y0,y1,hfr id (by omega)]
 · rw [hL] at hK
   simp at hK
   simp [a106,rAArg,hL,z0,z1]
   intro _
   first|refine callD_of (k_ConstLin a.Heads.length N) (by first|(simp;done)|rfl) ?_|refine call_of (k_ConstLin a.Heads.length N) (by first|(simp;done)|rfl) ?_
   rintro r rfl
   obtain ⟨rows,w,hdr,hv,hw⟩:=M.get2 a.Base
   have d0:¬d=n:=by omega
   have d1:¬d=n+1:=by omega
   have d2:¬d=n+1+1:=by omega
   have d3:¬d=n+1+1+1:=by omega
   have d4:¬n+1=n+3:=by omega
   have d5:¬n+1+1=n+3:=by omega
   have fr:∀ id,id<n→¬id=n∧¬id=n+1∧¬id=n+1+1∧¬id=n+1+1+1∧¬id=n+2∧¬id=n+3∧¬id=n+1+1+1+1∧¬id=n+4:=fun id hid=>by omega
   simp [rULin,z0,z1,z2,z3,z4,z5,z6,z7]
   constructor
   · intro hb
     rw [if_neg hb] at hK
     simp [d0,d1,d2,d3,hdr,hv]
     unfold addS at hK
     rcases hw with ⟨rfl,hc⟩ | ⟨q,hq,rfl,hqb⟩
     · have hl:eget lin0 E a.Base=⟨(eget lin0 E a.Base).Const,[]⟩:=by rw [←hc]
       generalize (eget lin0 E a.Base).Const=cc at *
       rw [hl] at hK
       have en:intsR []=[]:=rfl
       first|refine callD_of (k_AddScaled (constLin a.Heads.length N) 1 ⟨cc,[]⟩) (by first|(simp [rALin,rULin,en,z0,z1,z2,z3,z4,z5,z6,z7];done)|rfl) ?_|refine call_of (k_AddScaled (constLin a.Heads.length N) 1 ⟨cc,[]⟩) (by first|(simp [rALin,rULin,en,z0,z1,z2,z3,z4,z5,z6,z7];done)|rfl) ?_
       rintro r rfl
       rw [optLin_eq]
       generalize (addScaled (constLin a.Heads.length N) 1 ⟨cc,[]⟩).getD lin0=o' at *
       simp [rULin,z0,z1,z2,z3,z4,z5,z6,z7]
       refine hK (n+4) _ _ (by omega) (by omega) (fun id hid=>by simp [fr id hid]) (by simp)
     · obtain ⟨q0,q1,q2,q3,q4,q5,q6,q7⟩:=fr q hq
       first|refine callD_of (k_AddScaled (constLin a.Heads.length N) 1 (eget lin0 E a.Base)) (by first|(simp [rALin,rULin,z0,z1,z2,z3,z4,z5,z6,z7,hqb,q0,q1,q2,q3];done)|rfl) ?_|refine call_of (k_AddScaled (constLin a.Heads.length N) 1 (eget lin0 E a.Base)) (by first|(simp [rALin,rULin,z0,z1,z2,z3,z4,z5,z6,z7,hqb,q0,q1,q2,q3];done)|rfl) ?_
       rintro r rfl
       rw [optLin_eq]
       generalize (addScaled (constLin a.Heads.length N) 1 (eget lin0 E a.Base)).getD lin0=o' at *
       simp [rULin,z0,z1,z2,z3,z4,z5,z6,z7]
       refine hK (n+4) _ _ (by omega) (by omega) (fun id hid=>by simp [fr id hid]) (by simp)
   · intro hb
     rw [if_pos hb] at hK
     refine hK (n+2) _ _ (by omega) (by omega) (fun id hid=>by simp [fr id hid]) (by simp)
end Go.Proofs.YtilcageplifbgaaGreat

namespace Go.Proofs.YtilcageplifbgaaGreat
set_option linter.all false
open Go Go.RowKit Go.Proofs
def a219:AFn:=
⟨10,[.t 2],(.seq
 (.reg [⟨some 2,.mv (.k (.bool false)),no⟩]) (.seq (.seq
 (.reg [⟨some 3,.mv (.t 0),no⟩]) (.blk 0 (.seq (.seq
 (.reg [⟨some 5,.bin .eql (.t 3) (.k (.str [102,117,110])),no⟩,⟨some 4,.mv (.t 5),no⟩]) (.cond (.t 4) .skip (.seq
 (.reg [⟨some 6,.bin .eql (.t 3) (.k (.str [112,114,101])),no⟩,⟨some 4,.mv (.t 6),no⟩]) (.cond (.t 4) .skip (.seq
 (.reg [⟨some 7,.bin .eql (.t 3) (.k (.str [114,117,108,101])),no⟩,⟨some 4,.mv (.t 7),no⟩]) (.cond (.t 4) .skip (.seq
 (.reg [⟨some 8,.bin .eql (.t 3) (.k (.str [114,101,116,117,114,110])),no⟩,⟨some 4,.mv (.t 8),no⟩]) (.cond (.t 4) .skip
 (.reg [⟨some 9,.bin .eql (.t 3) (.k (.str [110,105,108])),no⟩,⟨some 4,.mv (.t 9),no⟩]))))))))) (.cond (.t 4) (.seq
 (.reg [⟨some 2,.mv (.k (.bool true)),no⟩]) .ret) .skip)))) (.seq
 (.reg [⟨some 2,.mv (.k (.bool false)),no⟩]) .ret)))⟩
theorem a219_ok:compFn Tryz.prog Tryz.f219=some a219:=by kernel_rfl
def a239:AFn:=
⟨18,[.t 4],(.seq
 (.reg [⟨some 4,.mv (.k (.bool false)),no⟩]) (.seq (.seq
 (.reg [⟨some 5,.mv (.k (.int .i64 0)),no⟩]) (.blk 0 (.loop (.seq (.seq
 (.reg [⟨some 6,.mv (.t 5),no⟩,⟨some 7,.mv (.t 0),no⟩,⟨some 8,.len false (.t 7),no⟩,⟨some 9,.bin .lss (.t 6) (.t 8),no⟩]) (.cond (.t 9) .skip (.exit 0))) (.seq (.blk 1 (.seq
 (.reg [⟨some 12,.mv (.t 0),no⟩,⟨some 13,.mv (.t 5),no⟩,⟨some 14,.ixa 1 (.t 12) (.t 13),no⟩,⟨some 15,.ld false 1 (.t 14),no⟩,⟨some 16,.mv (.t 1),no⟩,⟨some 17,.bin .eql (.t 15) (.t 16),no⟩]) (.cond (.t 17) (.seq
 (.reg [⟨some 4,.mv (.k (.bool true)),no⟩]) .ret) .skip)))
 (.reg [⟨some 10,.mv (.t 5),no⟩,⟨some 11,.bin .add (.t 10) (.k (.int .i64 1)),no⟩,⟨some 5,.mv (.t 11),no⟩])))))) (.seq
 (.reg [⟨some 4,.mv (.k (.bool false)),no⟩]) .ret)))⟩
theorem a239_ok:compFn Tryz.prog Tryz.f239=some a239:=by kernel_rfl
def a169:AFn:=
⟨19,[.t 4],(.seq
 (.reg [⟨some 4,.mv (.k (.int .i64 0)),no⟩]) (.seq (.seq
 (.reg [⟨some 6,.mv (.t 0),no⟩,⟨some 7,.len false (.t 6),no⟩,⟨some 8,.mv (.k (.int .i64 0)),no⟩]) (.blk 0 (.loop (.seq
 (.reg [⟨some 9,.bin .lss (.t 8) (.t 7),no⟩]) (.seq (.cond (.t 9) .skip (.exit 0)) (.seq (.blk 1 (.seq
 (.reg [⟨some 10,.mv (.t 8),no⟩,⟨some 5,.mv (.t 10),no⟩]) (.seq
 (.reg [⟨some 11,.mv (.t 1),no⟩,⟨some 12,.mv (.t 0),no⟩,⟨some 13,.mv (.t 5),no⟩,⟨some 14,.ixa 1 (.t 12) (.t 13),no⟩,⟨some 15,.ld false 1 (.t 14),no⟩,⟨some 16,.bin .eql (.t 11) (.t 15),no⟩]) (.cond (.t 16) (.seq
 (.reg [⟨some 17,.mv (.t 5),no⟩,⟨some 4,.mv (.t 17),no⟩]) .ret) .skip))))
 (.reg [⟨some 18,.bin .add (.t 8) (.k (.int .i64 1)),no⟩,⟨some 8,.mv (.t 18),no⟩]))))))) (.seq
 (.reg [⟨some 4,.mv (.k (.int .i64 (-1))),no⟩]) .ret)))⟩
theorem a169_ok:compFn Tryz.prog Tryz.f169=some a169:=by kernel_rfl
def a81:AFn:=
⟨9,[.t 4],(.seq
 (.reg [⟨some 4,.mv (.k (.bool false)),no⟩]) (.seq
 (.reg [⟨some 5,.mv (.t 0),no⟩,⟨some 6,.mv (.t 1),no⟩,⟨some 7,.call (.k (.fn (.func 169) [] [])) [.t 5,.t 6],no⟩,⟨some 8,.bin .geq (.t 7) (.k (.int .i64 0)),no⟩,⟨some 4,.mv (.t 8),no⟩]) .ret))⟩
theorem a81_ok:compFn Tryz.prog Tryz.f81=some a81:=by kernel_rfl
def a75:AFn:=
⟨19,[.t 4],(.seq
 (.reg [⟨some 4,.mv (.k (.int .i64 0)),no⟩]) (.seq (.seq
 (.reg [⟨some 5,.mv (.k (.int .i64 0)),no⟩]) (.blk 0 (.loop (.seq (.seq
 (.reg [⟨some 6,.mv (.t 5),no⟩,⟨some 7,.mv (.t 0),no⟩,⟨some 8,.len false (.t 7),no⟩,⟨some 9,.bin .lss (.t 6) (.t 8),no⟩]) (.cond (.t 9) .skip (.exit 0))) (.seq (.blk 1 (.seq
 (.reg [⟨some 12,.mv (.t 0),no⟩,⟨some 13,.mv (.t 5),no⟩,⟨some 14,.ixa 1 (.t 12) (.t 13),no⟩,⟨some 15,.ld false 1 (.t 14),no⟩,⟨some 16,.mv (.t 1),no⟩,⟨some 17,.bin .eql (.t 15) (.t 16),no⟩]) (.cond (.t 17) (.seq
 (.reg [⟨some 18,.mv (.t 5),no⟩,⟨some 4,.mv (.t 18),no⟩]) .ret) .skip)))
 (.reg [⟨some 10,.mv (.t 5),no⟩,⟨some 11,.bin .add (.t 10) (.k (.int .i64 1)),no⟩,⟨some 5,.mv (.t 11),no⟩])))))) (.seq
 (.reg [⟨some 4,.mv (.k (.int .i64 (-1))),no⟩]) .ret)))⟩
theorem a75_ok:compFn Tryz.prog Tryz.f75=some a75:=by kernel_rfl
def a295:AFn:=
⟨2,[.t 0],(.seq
 (.reg [⟨some 0,.mv (.k (.nil 1)),no⟩]) (.seq
 (.reg [⟨some 1,.bsl 1 [(.k (.str [102,117,110])),(.k (.str [112,114,101])),(.k (.str [114,117,108,101])),(.k (.str [114,101,116,117,114,110])),(.k (.str [110,105,108]))],no⟩,⟨some 0,.mv (.t 1),no⟩]) .ret))⟩
theorem a295_ok:compFn Tryz.prog Tryz.f295=some a295:=by kernel_rfl
def a271:AFn:=
⟨6,[.t 2],(.seq
 (.reg [⟨some 2,.mv (.k (.bool false)),no⟩]) (.seq
 (.reg [⟨some 3,.call (.k (.fn (.func 295) [] [])) [],no⟩,⟨some 4,.mv (.t 0),no⟩,⟨some 5,.call (.k (.fn (.func 239) [] [])) [.t 3,.t 4],no⟩,⟨some 2,.mv (.t 5),no⟩]) .ret))⟩
theorem a271_ok:compFn Tryz.prog Tryz.f271=some a271:=by kernel_rfl
def a152:AFn:=
⟨50,[.t 2],(.seq
 (.reg [⟨some 2,.mv (.k (.bool false)),no⟩]) (.seq (.seq
 (.reg [⟨some 6,.mv (.t 0),no⟩,⟨some 7,.len true (.t 6),no⟩,⟨some 8,.call (.k (.fn (.func 98) [] [])) [.t 7,(.k (.int .i64 1)),(.k (.int .i64 8))],no⟩,⟨some 9,.un .not (.t 8),no⟩,⟨some 10,.mv (.t 9),no⟩,⟨some 11,.mv (.t 0),(some (10,false))⟩,⟨some 12,.call (.k (.fn (.func 219) [] [])) [.t 11],(some (10,false))⟩,⟨some 13,.pick (.t 10) (.k (.bool true)) (.t 12),no⟩]) (.cond (.t 13) (.seq
 (.reg [⟨some 2,.mv (.k (.bool false)),no⟩]) .ret) .skip)) (.seq (.seq
 (.reg [⟨some 3,.mv (.k (.int .i64 0)),no⟩]) (.blk 0 (.loop (.seq (.seq
 (.reg [⟨some 14,.mv (.t 3),no⟩,⟨some 15,.mv (.t 0),no⟩,⟨some 16,.len true (.t 15),no⟩,⟨some 17,.bin .lss (.t 14) (.t 16),no⟩]) (.cond (.t 17) .skip (.exit 0))) (.seq (.blk 1 (.seq
 (.reg [⟨some 20,.mv (.t 0),no⟩,⟨some 21,.mv (.t 3),no⟩,⟨some 22,.ixs (.t 20) (.t 21),no⟩,⟨some 23,.bin .geq (.t 22) (.k (.int .u8 97)),no⟩,⟨some 24,.mv (.t 23),no⟩,⟨some 25,.mv (.t 0),(some (24,true))⟩,⟨some 26,.mv (.t 3),(some (24,true))⟩,⟨some 27,.ixs (.t 25) (.t 26),(some (24,true))⟩,⟨some 28,.bin .leq (.t 27) (.k (.int .u8 122)),(some (24,true))⟩,⟨some 29,.pick (.t 24) (.t 28) (.k (.bool false)),no⟩,⟨some 4,.mv (.t 29),no⟩]) (.seq
 (.reg [⟨some 30,.mv (.t 0),no⟩,⟨some 31,.mv (.t 3),no⟩,⟨some 32,.ixs (.t 30) (.t 31),no⟩,⟨some 33,.bin .geq (.t 32) (.k (.int .u8 48)),no⟩,⟨some 34,.mv (.t 33),no⟩,⟨some 35,.mv (.t 0),(some (34,true))⟩,⟨some 36,.mv (.t 3),(some (34,true))⟩,⟨some 37,.ixs (.t 35) (.t 36),(some (34,true))⟩,⟨some 38,.bin .leq (.t 37) (.k (.int .u8 57)),(some (34,true))⟩,⟨some 39,.pick (.t 34) (.t 38) (.k (.bool false)),no⟩,⟨some 5,.mv (.t 39),no⟩]) (.seq
 (.reg [⟨some 40,.mv (.t 4),no⟩,⟨some 41,.un .not (.t 40),no⟩,⟨some 42,.mv (.t 41),no⟩,⟨some 43,.mv (.t 5),(some (42,true))⟩,⟨some 44,.mv (.t 43),(some (42,true))⟩,⟨some 45,.mv (.t 3),(some (44,true))⟩,⟨some 46,.bin .gtr (.t 45) (.k (.int .i64 0)),(some (44,true))⟩,⟨some 47,.pick (.t 44) (.t 46) (.k (.bool false)),(some (42,true))⟩,⟨some 48,.un .not (.t 47),(some (42,true))⟩,⟨some 49,.pick (.t 42) (.t 48) (.k (.bool false)),no⟩]) (.cond (.t 49) (.seq
 (.reg [⟨some 2,.mv (.k (.bool false)),no⟩]) .ret) .skip)))))
 (.reg [⟨some 18,.mv (.t 3),no⟩,⟨some 19,.bin .add (.t 18) (.k (.int .i64 1)),no⟩,⟨some 3,.mv (.t 19),no⟩])))))) (.seq
 (.reg [⟨some 2,.mv (.k (.bool true)),no⟩]) .ret))))⟩
theorem a152_ok:compFn Tryz.prog Tryz.f152=some a152:=by kernel_rfl
def a270:AFn:=
⟨45,[.t 2],(.seq
 (.reg [⟨some 2,.mv (.k (.bool false)),no⟩]) (.seq (.seq
 (.reg [⟨some 3,.mv (.k (.int .i64 0)),no⟩]) (.blk 0 (.loop (.seq (.seq
 (.reg [⟨some 6,.mv (.t 3),no⟩,⟨some 7,.mv (.t 0),no⟩,⟨some 8,.len true (.t 7),no⟩,⟨some 9,.bin .lss (.t 6) (.t 8),no⟩]) (.cond (.t 9) .skip (.exit 0))) (.seq (.blk 1 (.seq
 (.reg [⟨some 12,.mv (.t 0),no⟩,⟨some 13,.mv (.t 3),no⟩,⟨some 14,.ixs (.t 12) (.t 13),no⟩,⟨some 15,.bin .geq (.t 14) (.k (.int .u8 97)),no⟩,⟨some 16,.mv (.t 15),no⟩,⟨some 17,.mv (.t 0),(some (16,true))⟩,⟨some 18,.mv (.t 3),(some (16,true))⟩,⟨some 19,.ixs (.t 17) (.t 18),(some (16,true))⟩,⟨some 20,.bin .leq (.t 19) (.k (.int .u8 122)),(some (16,true))⟩,⟨some 21,.pick (.t 16) (.t 20) (.k (.bool false)),no⟩,⟨some 4,.mv (.t 21),no⟩]) (.seq
 (.reg [⟨some 22,.mv (.t 0),no⟩,⟨some 23,.mv (.t 3),no⟩,⟨some 24,.ixs (.t 22) (.t 23),no⟩,⟨some 25,.bin .geq (.t 24) (.k (.int .u8 48)),no⟩,⟨some 26,.mv (.t 25),no⟩,⟨some 27,.mv (.t 0),(some (26,true))⟩,⟨some 28,.mv (.t 3),(some (26,true))⟩,⟨some 29,.ixs (.t 27) (.t 28),(some (26,true))⟩,⟨some 30,.bin .leq (.t 29) (.k (.int .u8 57)),(some (26,true))⟩,⟨some 31,.pick (.t 26) (.t 30) (.k (.bool false)),no⟩,⟨some 5,.mv (.t 31),no⟩]) (.seq
 (.reg [⟨some 32,.mv (.t 4),no⟩,⟨some 33,.un .not (.t 32),no⟩,⟨some 34,.mv (.t 33),no⟩,⟨some 35,.mv (.t 3),(some (34,true))⟩,⟨some 36,.bin .eql (.t 35) (.k (.int .i64 0)),(some (34,true))⟩,⟨some 37,.mv (.t 36),(some (34,true))⟩,⟨some 38,.mv (.t 5),(some (37,false))⟩,⟨some 39,.un .not (.t 38),(some (37,false))⟩,⟨some 40,.pick (.t 37) (.k (.bool true)) (.t 39),(some (34,true))⟩,⟨some 41,.pick (.t 34) (.t 40) (.k (.bool false)),no⟩]) (.cond (.t 41) (.seq
 (.reg [⟨some 2,.mv (.k (.bool false)),no⟩]) .ret) .skip)))))
 (.reg [⟨some 10,.mv (.t 3),no⟩,⟨some 11,.bin .add (.t 10) (.k (.int .i64 1)),no⟩,⟨some 3,.mv (.t 11),no⟩])))))) (.seq
 (.reg [⟨some 42,.mv (.t 0),no⟩,⟨some 43,.len true (.t 42),no⟩,⟨some 44,.bin .gtr (.t 43) (.k (.int .i64 0)),no⟩,⟨some 2,.mv (.t 44),no⟩]) .ret)))⟩
theorem a270_ok:compFn Tryz.prog Tryz.f270=some a270:=by kernel_rfl
def a212:AFn:=
⟨15,[.t 2],(.seq
 (.reg [⟨some 2,.mv (.k (.bool false)),no⟩]) (.seq
 (.reg [⟨some 3,.mv (.t 0),no⟩,⟨some 4,.call (.k (.fn (.func 270) [] [])) [.t 3],no⟩,⟨some 5,.mv (.t 4),no⟩,⟨some 6,.mv (.t 0),(some (5,true))⟩,⟨some 7,.len true (.t 6),(some (5,true))⟩,⟨some 8,.bin .leq (.t 7) (.k (.int .i64 8)),(some (5,true))⟩,⟨some 9,.pick (.t 5) (.t 8) (.k (.bool false)),no⟩,⟨some 10,.mv (.t 9),no⟩,⟨some 11,.mv (.t 0),(some (10,true))⟩,⟨some 12,.call (.k (.fn (.func 271) [] [])) [.t 11],(some (10,true))⟩,⟨some 13,.un .not (.t 12),(some (10,true))⟩,⟨some 14,.pick (.t 10) (.t 13) (.k (.bool false)),no⟩,⟨some 2,.mv (.t 14),no⟩]) .ret))⟩
theorem a212_ok:compFn Tryz.prog Tryz.f212=some a212:=by kernel_rfl
def a64:AFn:=
⟨13,[.t 2],(.seq
 (.reg [⟨some 2,.mv (.k (.bool false)),no⟩]) (.seq
 (.reg [⟨some 3,.mv (.t 0),no⟩,⟨some 4,.call (.k (.fn (.func 152) [] [])) [.t 3],no⟩,⟨some 5,.mv (.t 4),no⟩,⟨some 6,.mv (.t 0),(some (5,true))⟩,⟨some 7,.mv (.t 0),(some (5,true))⟩,⟨some 8,.len true (.t 7),(some (5,true))⟩,⟨some 9,.bin .sub (.t 8) (.k (.int .i64 1)),(some (5,true))⟩,⟨some 10,.ixs (.t 6) (.t 9),(some (5,true))⟩,⟨some 11,.bin .eql (.t 10) (.k (.int .u8 115)),(some (5,true))⟩,⟨some 12,.pick (.t 5) (.t 11) (.k (.bool false)),no⟩,⟨some 2,.mv (.t 12),no⟩]) .ret))⟩
theorem a64_ok:compFn Tryz.prog Tryz.f64=some a64:=by kernel_rfl
def a149:AFn:=
⟨10,[.t 2],(.seq
 (.reg [⟨some 2,.mv (.k (.bool false)),no⟩]) (.seq
 (.reg [⟨some 3,.mv (.t 0),no⟩,⟨some 4,.call (.k (.fn (.func 152) [] [])) [.t 3],no⟩,⟨some 5,.mv (.t 4),no⟩,⟨some 6,.mv (.t 0),(some (5,true))⟩,⟨some 7,.call (.k (.fn (.func 64) [] [])) [.t 6],(some (5,true))⟩,⟨some 8,.un .not (.t 7),(some (5,true))⟩,⟨some 9,.pick (.t 5) (.t 8) (.k (.bool false)),no⟩,⟨some 2,.mv (.t 9),no⟩]) .ret))⟩
theorem a149_ok:compFn Tryz.prog Tryz.f149=some a149:=by kernel_rfl
def a143:AFn:=
⟨13,[.t 2],(.seq
 (.reg [⟨some 2,.mv (.k (.bool false)),no⟩]) (.seq
 (.reg [⟨some 3,.mv (.t 0),no⟩,⟨some 4,.call (.k (.fn (.func 212) [] [])) [.t 3],no⟩,⟨some 5,.mv (.t 4),no⟩,⟨some 6,.mv (.t 0),(some (5,true))⟩,⟨some 7,.mv (.t 0),(some (5,true))⟩,⟨some 8,.len true (.t 7),(some (5,true))⟩,⟨some 9,.bin .sub (.t 8) (.k (.int .i64 1)),(some (5,true))⟩,⟨some 10,.ixs (.t 6) (.t 9),(some (5,true))⟩,⟨some 11,.bin .eql (.t 10) (.k (.int .u8 115)),(some (5,true))⟩,⟨some 12,.pick (.t 5) (.t 11) (.k (.bool false)),no⟩,⟨some 2,.mv (.t 12),no⟩]) .ret))⟩
theorem a143_ok:compFn Tryz.prog Tryz.f143=some a143:=by kernel_rfl
def a204:AFn:=
⟨10,[.t 2],(.seq
 (.reg [⟨some 2,.mv (.k (.bool false)),no⟩]) (.seq
 (.reg [⟨some 3,.mv (.t 0),no⟩,⟨some 4,.call (.k (.fn (.func 212) [] [])) [.t 3],no⟩,⟨some 5,.mv (.t 4),no⟩,⟨some 6,.mv (.t 0),(some (5,true))⟩,⟨some 7,.call (.k (.fn (.func 143) [] [])) [.t 6],(some (5,true))⟩,⟨some 8,.un .not (.t 7),(some (5,true))⟩,⟨some 9,.pick (.t 5) (.t 8) (.k (.bool false)),no⟩,⟨some 2,.mv (.t 9),no⟩]) .ret))⟩
theorem a204_ok:compFn Tryz.prog Tryz.f204=some a204:=by kernel_rfl
theorem k_IsReserved (s:Str):Holds Tryz.prog 219 [.str s] (fun r=>r = .bool (resv s)):=by
 by_cases e1:s=[102,117,110]
 · subst e1
   refine holds_of_run Tryz.func219 a219_ok rfl (by simp [a219]) ?_
   simp [a219,resv,hasS,resvL]
 by_cases e2:s=[112,114,101]
 · subst e2
   refine holds_of_run Tryz.func219 a219_ok rfl (by simp [a219]) ?_
   simp [a219,resv,hasS,resvL]
 by_cases e3:s=[114,117,108,101]
 · subst e3
   refine holds_of_run Tryz.func219 a219_ok rfl (by simp [a219]) ?_
   simp [a219,resv,hasS,resvL]
 by_cases e4:s=[114,101,116,117,114,110]
 · subst e4
   refine holds_of_run Tryz.func219 a219_ok rfl (by simp [a219]) ?_
   simp [a219,resv,hasS,resvL]
 by_cases e5:s=[110,105,108]
 · subst e5
   refine holds_of_run Tryz.func219 a219_ok rfl (by simp [a219]) ?_
   simp [a219,resv,hasS,resvL]
 have hr:resv s=false:=by simp [resv,hasS,resvL,Ne.symm e1,Ne.symm e2,Ne.symm e3,Ne.symm e4,Ne.symm e5]
 rw [hr]
 refine holds_of_run Tryz.func219 a219_ok rfl (by simp [a219]) ?_
 simp [a219,e1,e2,e3,e4,e5]
theorem hasS_drop {l:List Str} {s:Str} {i:Nat} (hi:i<l.length):hasS (l.drop i) s=((l[i]==s)||hasS (l.drop (i+1)) s):=by
 rw [List.drop_eq_getElem_cons hi]; rfl
theorem ks_l1Has (l:List Str) (s:Str):Holds Tryz.prog 239 [.sl 1 (strsR l),.str s] (fun r=>r = .bool (hasS l s)):=by
 refine holds_of_lim Tryz.func239 rfl rfl fun hl => ?_
 simp at hl
 refine holds_of_run Tryz.func239 a239_ok rfl (by simp [a239]) ?_
 simp [a239]
 generalize hB:hasS l s=B
 refine rL_forS [0,1] 5 l.length (fun i _=>hasS (l.drop i) s=B) hl.1 (by simp) (by simpa using hB) ?_ ?_
 · rintro i st h R hi hg hk s5 hw hJ hh hR hret _
   simp at hk
   rw [hasS_drop hi] at hJ
   simp [hk,s5,hi,hg]
   intro _
   by_cases hx:l[i]=s
   · simp [hx] at hJ
     simp [hx]
     refine hret _ _ _ ?_
     simp [hJ]
   · have:(l[i]==s)=false:=by simpa using hx
     rw [this,Bool.false_or] at hJ
     simp [hx,hk,s5,hw]
     exact hR _ (by simp [hk]) (by simp) hJ
 · rintro st h R hk s5 hJ hh _ hX
   simp at hk
   rw [List.drop_eq_nil_of_le (by omega)] at hJ
   simp [hk,s5]
   intro _
   refine hX _ _ ?_
   simp [←hJ,hasS]
theorem k_Index (l:List Str) (s:Str):Holds Tryz.prog 169 [.sl 1 (strsR l),.str s] (fun r=>r=i64 (idxFrom (fun x=>x==s) l 0)):=by
 refine holds_of_lim Tryz.func169 rfl rfl fun hl => ?_
 simp at hl
 refine holds_of_run Tryz.func169 a169_ok rfl (by simp [a169]) ?_
 simp [a169]
 intro _
 generalize hB:idxFrom (fun x=>x==s) l 0=B
 refine rL_forS [0,1,7] 8 l.length (fun i _=>idxFrom (fun x=>x==s) (l.drop i) i=B) hl.1 (by simp) (by simpa using hB) ?_ ?_
 · rintro i st h R hi hg hk s8 hw hJ hh hR hret _
   simp at hk
   rw [List.drop_eq_getElem_cons hi] at hJ
   simp only [idxFrom] at hJ
   simp [hk,s8,hi,hg]
   by_cases hx:s=l[i]
   · rw [if_pos (by simp [hx])] at hJ
     simp [hx]
     refine hret _ _ _ ?_
     simp [hJ]
   · rw [if_neg (by simpa using fun h=>hx h.symm)] at hJ
     simp [hx,hk,s8,hw]
     exact hR _ (by simp [hk]) (by simp) hJ
 · rintro st h R hk s8 hJ hh _ hX
   simp at hk
   rw [List.drop_eq_nil_of_le (by omega)] at hJ
   simp [hk,s8]
   refine hX _ _ ?_
   simp [←hJ,idxFrom]
theorem k_Contains (l:List Str) (s:Str):Holds Tryz.prog 81 [.sl 1 (strsR l),.str s] (fun r=>r = .bool (hasS l s)):=by
 refine holds_of_run Tryz.func81 a81_ok rfl (by simp [a81]) ?_
 simp [a81]
 first|refine callD_of (k_Index l s) (by first|(simp;done)|rfl) ?_|refine call_of (k_Index l s) (by first|(simp;done)|rfl) ?_
 rintro r rfl
 have:=idxFrom_any (p:=fun x=>x==s) (l:=l) (i:=0)
 simp only [ge_iff_le] at this
 simp [this,hasS]
theorem ks_IndexOf (l:List Str) (s:Str):Holds Tryz.prog 75 [.sl 1 (strsR l),.str s] (fun r=>r=i64 (idxFrom (fun x=>x==s) l 0)):=by
 refine holds_of_lim Tryz.func75 rfl rfl fun hl => ?_
 simp at hl
 refine holds_of_run Tryz.func75 a75_ok rfl (by simp [a75]) ?_
 simp [a75]
 generalize hB:idxFrom (fun x=>x==s) l 0=B
 refine rL_forS [0,1] 5 l.length (fun i _=>idxFrom (fun x=>x==s) (l.drop i) i=B) hl.1 (by simp) (by simpa using hB) ?_ ?_
 · rintro i st h R hi hg hk s5 hw hJ hh hR hret _
   simp at hk
   rw [List.drop_eq_getElem_cons hi] at hJ
   simp only [idxFrom] at hJ
   simp [hk,s5,hi,hg]
   intro _
   by_cases hx:l[i]=s
   · rw [if_pos (by simp [hx])] at hJ
     simp [hx,s5]
     refine hret _ _ _ ?_
     simp [hJ]
   · rw [if_neg (by simpa using hx)] at hJ
     simp [hx,hk,s5,hw]
     exact hR _ (by simp [hk]) (by simp) hJ
 · rintro st h R hk s5 hJ hh _ hX
   simp at hk
   rw [List.drop_eq_nil_of_le (by omega)] at hJ
   simp [hk,s5]
   intro _
   refine hX _ _ ?_
   simp [←hJ,idxFrom]
theorem ks_l2Reserved:Holds Tryz.prog 295 [] (fun r=>r = .us 1 (strsR resvL)):=by
 refine holds_of_run Tryz.func295 a295_ok rfl (by simp [a295]) ?_
 simp [a295]
 simp [strsR,resvL]
theorem ks_IsReserved (s:Str):Holds Tryz.prog 271 [.str s] (fun r=>r = .bool (resv s)):=by
 refine holds_of_run Tryz.func271 a271_ok rfl (by simp [a271]) ?_
 simp [a271]
 first|refine callD_of (ks_l2Reserved) (by first|(simp;done)|rfl) ?_|refine call_of (ks_l2Reserved) (by first|(simp;done)|rfl) ?_
 rintro r rfl
 simp
 first|refine callD_of (ks_l1Has resvL s) (by first|(simp;done)|rfl) ?_|refine call_of (ks_l1Has resvL s) (by first|(simp;done)|rfl) ?_
 rintro r rfl
 simp [resv]
theorem shape_drop {s:Str} {i:Nat} (hi:i<s.length):shapeFrom i (s.drop i)=((letterB s[i]||(decide (i≠0)&&digitB s[i]))&&shapeFrom (i+1) (s.drop (i+1))):=by
 rw [List.drop_eq_getElem_cons hi]; rfl
set_option maxRecDepth 20000 in
theorem k_IsValidName (s:Str):Holds Tryz.prog 152 [.str s] (fun r=>r = .bool (okName s)):=by
 refine holds_of_run Tryz.func152 a152_ok rfl (by simp [a152]) ?_
 simp [a152]
 intro hl
 first|refine callD_of (k_within s.length 1 8) (by first|(simp;done)|rfl) ?_|refine call_of (k_within s.length 1 8) (by first|(simp;done)|rfl) ?_
 rintro r rfl
 unfold okName
 cases h1:inR s.length 1 8
 · simp
 simp
 first|refine callD_of (k_IsReserved s) (by first|(simp;done)|rfl) ?_|refine call_of (k_IsReserved s) (by first|(simp;done)|rfl) ?_
 rintro r rfl
 cases h2:resv s
 case true=>simp
 simp
 generalize hB:shapeFrom 0 s=B
 refine rL_forS [0] 3 s.length (fun i _=>shapeFrom i (s.drop i)=B) hl (by simp) (by simpa using hB) ?_ ?_
 · rintro i st h R hi hg hk s3 hw hJ hh hR hret _
   simp at hk
   rw [shape_drop hi] at hJ
   have hgd:s[i]?.getD 0=s[i]:=by simp [hi]
   unfold letterB digitB at hJ
   obtain ⟨m,hm⟩:∃ m:Int,((s[i]).toNat:Int)=m:=⟨_,rfl⟩
   rw [hm] at hJ
   refine rC_cut [0,3] (fun _=>True) (by simp [hk,s3,hi]) ?_
   intro s1 hk1 _
   simp at hk1
   refine rC_seqI (rC_blkI (rC_cut [0,3] (fun s=>s 4 = .bool (decide (97≤m)&&decide (m≤122))) ?_ ?_))
   · by_cases u1:97≤m <;> by_cases u2:m≤122 <;> simp [hk,s3,hk1,hi,hgd,hm,u1,u2]
   intro s2 hk2 s4
   simp at hk2
   refine rC_cut [0,3,4] (fun s=>s 5 = .bool (decide (48≤m)&&decide (m≤57))) ?_ ?_
   · by_cases u1:48≤m <;> by_cases u2:m≤57 <;> simp [hk,s3,hk1,hk2,hi,hgd,hm,u1,u2]
   intro s5 hk5 s55
   simp at hk5
   generalize (decide (97≤m)&&decide (m≤122))=L at *
   generalize (decide (48≤m)&&decide (m≤57))=D at *
   cases L
   · cases D
     · rw [Bool.and_false,Bool.or_false,Bool.false_and] at hJ
       simp [hk,s3,hk1,hk2,hk5,s4,s55]
       refine hret _ _ _ ?_
       simp [hJ]
     · by_cases h0:i=0
       · subst h0
         simp at hJ
         simp [hk,s3,hk1,hk2,hk5,s4,s55]
         refine hret _ _ _ ?_
         simp [hJ]
       · simp [h0] at hJ
         simp [hk,s3,hk1,hk2,hk5,s4,s55,hw,(by omega:0<i)]
         exact hR _ (by simp [hk,hk1,hk2,hk5]) (by simp) hJ
   · simp at hJ
     simp [hk,s3,hk1,hk2,hk5,s4,s55,hw]
     exact hR _ (by simp [hk,hk1,hk2,hk5]) (by simp) hJ
 · rintro st h R hk s3 hJ hh _ hX
   simp at hk
   rw [List.drop_eq_nil_of_le (by omega)] at hJ
   simp [hk,s3]
   intro _
   refine hX _ _ ?_
   simp [←hJ,shapeFrom]
set_option maxRecDepth 20000 in
set_option maxHeartbeats 1000000 in
theorem ks_l2Shape (s:Str):Holds Tryz.prog 270 [.str s] (fun r=>r = .bool (shapeFrom 0 s&&decide (0<s.length))):=by
 refine holds_of_lim Tryz.func270 rfl rfl fun hl => ?_
 simp at hl
 refine holds_of_run Tryz.func270 a270_ok rfl (by simp [a270]) ?_
 simp [a270]
 generalize hB:shapeFrom 0 s=B
 refine rL_forS [0] 3 s.length (fun i _=>shapeFrom i (s.drop i)=B) hl (by simp) (by simpa using hB) ?_ ?_
 · rintro i st h R hi hg hk s3 hw hJ hh hR hret _
   simp at hk
   rw [shape_drop hi] at hJ
   have hgd:s[i]?.getD 0=s[i]:=by simp [hi]
   unfold letterB digitB at hJ
   obtain ⟨m,hm⟩:∃ m:Int,((s[i]).toNat:Int)=m:=⟨_,rfl⟩
   rw [hm] at hJ
   refine rC_cut [0,3] (fun _=>True) (by simp [hk,s3,hi]) ?_
   intro s1 hk1 _
   simp at hk1
   refine rC_seqI (rC_blkI (rC_cut [0,3] (fun s=>s 4 = .bool (decide (97≤m)&&decide (m≤122))) ?_ ?_))
   · by_cases u1:97≤m <;> by_cases u2:m≤122 <;> simp [hk,s3,hk1,hi,hgd,hm,u1,u2]
   intro s2 hk2 s4
   simp at hk2
   refine rC_cut [0,3,4] (fun s=>s 5 = .bool (decide (48≤m)&&decide (m≤57))) ?_ ?_
   · by_cases u1:48≤m <;> by_cases u2:m≤57 <;> simp [hk,s3,hk1,hk2,hi,hgd,hm,u1,u2]
   intro s5 hk5 s55
   simp at hk5
   generalize (decide (97≤m)&&decide (m≤122))=L at *
   generalize (decide (48≤m)&&decide (m≤57))=D at *
   cases L
   · cases D
     · rw [Bool.and_false,Bool.or_false,Bool.false_and] at hJ
       subst hJ
       by_cases h0:i=0
       · subst h0
         simp [hk,s3,hk1,hk2,hk5,s4,s55]
         refine hret _ _ _ ?_
         simp
       · simp [hk,s3,hk1,hk2,hk5,s4,s55,h0]
         refine hret _ _ _ ?_
         simp
     · by_cases h0:i=0
       · subst h0
         simp at hJ
         subst hJ
         simp [hk,s3,hk1,hk2,hk5,s4,s55]
         refine hret _ _ _ ?_
         simp
       · simp [h0] at hJ
         simp [hk,s3,hk1,hk2,hk5,s4,s55,hw,h0]
         exact hR _ (by simp [hk,hk1,hk2,hk5]) (by simp) hJ
   · simp at hJ
     simp [hk,s3,hk1,hk2,hk5,s4,s55,hw]
     exact hR _ (by simp [hk,hk1,hk2,hk5]) (by simp) hJ
 · rintro st h R hk s3 hJ hh _ hX
   simp at hk
   rw [List.drop_eq_nil_of_le (by omega)] at hJ
   refine rC_cut [] (fun _=>False) ?_ (fun _ _ h=>h.elim)
   simp [hk,s3]
   intro _
   refine hX _ _ ?_
   subst hJ
   simp [hk,shapeFrom]
theorem ks_IsValidName (s:Str):Holds Tryz.prog 212 [.str s] (fun r=>r = .bool (okName s)):=by
 refine holds_of_run Tryz.func212 a212_ok rfl (by simp [a212]) ?_
 simp [a212]
 first|refine callD_of (ks_l2Shape s) (by first|(simp;done)|rfl) ?_|refine call_of (ks_l2Shape s) (by first|(simp;done)|rfl) ?_
 rintro r rfl
 unfold okName inR
 cases h1:shapeFrom 0 s
 · simp
 by_cases h2:0<s.length
 case neg=>
   have:s.length=0:=by omega
   simp [this]
 have h2':(1:Int)≤s.length:=by omega
 simp [h2,h2']
 intro _
 by_cases h3:s.length≤8
 case neg=>
   have h3':¬(s.length:Int)≤8:=by omega
   simp [h3,h3']
 have h3':(s.length:Int)≤8:=by omega
 simp [h3,h3',Int.not_lt.2 h3']
 first|refine callD_of (ks_IsReserved s) (by first|(simp;done)|rfl) ?_|refine call_of (ks_IsReserved s) (by first|(simp;done)|rfl) ?_
 rintro r rfl
 simp
theorem beq115 (c:UInt8):((c.toNat:Int)==115)=(c==115):=by
 rw [Bool.eq_iff_iff]
 simp only [beq_iff_eq]
 constructor
 · intro h
   exact UInt8.toNat_inj.1 (by simp; omega)
 · rintro rfl
   rfl
theorem k_IsListName (s:Str):Holds Tryz.prog 64 [.str s] (fun r=>r = .bool (listName s)):=by
 refine holds_of_run Tryz.func64 a64_ok rfl (by simp [a64]) ?_
 simp [a64]
 first|refine callD_of (k_IsValidName s) (by first|(simp;done)|rfl) ?_|refine call_of (k_IsValidName s) (by first|(simp;done)|rfl) ?_
 rintro r rfl
 unfold listName
 cases h1:okName s
 · simp
 obtain ⟨h2,h3⟩:=okName_len h1
 simp
 intro _
 rw [wrap64 (by omega)]
 have e:((s.length:Int) - 1).toNat=s.length - 1:=by omega
 simp [e]
 refine ⟨by omega,by omega,?_⟩
 exact beq115 _
theorem k_isIntName (s:Str):Holds Tryz.prog 149 [.str s] (fun r=>r = .bool (intName s)):=by
 refine holds_of_run Tryz.func149 a149_ok rfl (by simp [a149]) ?_
 simp [a149]
 first|refine callD_of (k_IsValidName s) (by first|(simp;done)|rfl) ?_|refine call_of (k_IsValidName s) (by first|(simp;done)|rfl) ?_
 rintro r rfl
 unfold intName
 cases h1:okName s
 · simp
 simp
 first|refine callD_of (k_IsListName s) (by first|(simp;done)|rfl) ?_|refine call_of (k_IsListName s) (by first|(simp;done)|rfl) ?_
 rintro r rfl
 simp
theorem ks_IsListName (s:Str):Holds Tryz.prog 143 [.str s] (fun r=>r = .bool (listName s)):=by
 refine holds_of_run Tryz.func143 a143_ok rfl (by simp [a143]) ?_
 simp [a143]
 first|refine callD_of (ks_IsValidName s) (by first|(simp;done)|rfl) ?_|refine call_of (ks_IsValidName s) (by first|(simp;done)|rfl) ?_
 rintro r rfl
 unfold listName
 cases h1:okName s
 · simp
 obtain ⟨h2,h3⟩:=okName_len h1
 simp
 intro _
 rw [wrap64 (by omega)]
 have e:((s.length:Int) - 1).toNat=s.length - 1:=by omega
 simp [e]
 refine ⟨by omega,by omega,?_⟩
 exact beq115 _
theorem ks_l10IntName (s:Str):Holds Tryz.prog 204 [.str s] (fun r=>r = .bool (intName s)):=by
 refine holds_of_run Tryz.func204 a204_ok rfl (by simp [a204]) ?_
 simp [a204]
 first|refine callD_of (ks_IsValidName s) (by first|(simp;done)|rfl) ?_|refine call_of (ks_IsValidName s) (by first|(simp;done)|rfl) ?_
 rintro r rfl
 unfold intName
 cases h1:okName s
 · simp
 simp
 first|refine callD_of (ks_IsListName s) (by first|(simp;done)|rfl) ?_|refine call_of (ks_IsListName s) (by first|(simp;done)|rfl) ?_
 rintro r rfl
 simp
end Go.Proofs.YtilcageplifbgaaGreat

namespace Go.Proofs.YtilcageplifbgaaGreat
set_option linter.all false
open Go Go.RowKit Go.Proofs
def a247:AFn:=
⟨21,[(.c 6 true 2)],(.seq
 (.reg [⟨some 3,.boxv (.t 0),no⟩,⟨some 6,.box [(.int .i64 0),(.nil 1)],no⟩]) (.seq
 (.reg [⟨some 8,.fld 0 (.t 3),no⟩,⟨some 9,.ld false 1 (.t 8),no⟩,⟨some 10,.mv (.t 1),no⟩,⟨some 11,.call (.k (.fn (.func 75) [] [])) [.t 9,.t 10],no⟩,⟨some 7,.mv (.t 11),no⟩]) (.seq (.seq
 (.reg [⟨some 12,.mv (.t 7),no⟩,⟨some 13,.bin .lss (.t 12) (.k (.int .i64 0)),no⟩]) (.cond (.t 13) (.seq
 (.reg [⟨some 14,.mv (.t 2),no⟩,⟨some 15,.call (.k (.fn (.func 114) [] [])) [(.k (.int .i64 0)),.t 14],no⟩,⟨no,.st 2 (.t 6) (.t 15),no⟩]) .ret) .skip)) (.seq
 (.reg [⟨some 16,.fld 1 (.t 3),no⟩,⟨some 17,.ld false 1 (.t 16),no⟩,⟨some 18,.mv (.t 7),no⟩,⟨some 19,.ixa 2 (.t 17) (.t 18),no⟩,⟨some 20,.ld true 2 (.t 19),no⟩,⟨no,.st 2 (.t 6) (.t 20),no⟩]) .ret))))⟩
theorem a247_ok:compFn Tryz.prog Tryz.f247=some a247:=by kernel_rfl
def a178:AFn:=
⟨19,[.t 2],(.seq
 (.reg [⟨some 2,.mv (.k (.int .i64 0)),no⟩]) (.seq
 (.reg [⟨some 3,.mv (.k (.int .i64 0)),no⟩]) (.seq (.seq
 (.reg [⟨some 4,.mv (.k (.int .i64 0)),no⟩]) (.blk 0 (.loop (.seq (.seq
 (.reg [⟨some 5,.mv (.t 4),no⟩,⟨some 6,.mv (.t 0),no⟩,⟨some 7,.len false (.t 6),no⟩,⟨some 8,.bin .lss (.t 5) (.t 7),no⟩]) (.cond (.t 8) .skip (.exit 0))) (.seq (.blk 1 (.seq
 (.reg [⟨some 11,.mv (.t 0),no⟩,⟨some 12,.mv (.t 4),no⟩,⟨some 13,.ixa 4 (.t 11) (.t 12),no⟩,⟨some 14,.fld 1 (.t 13),no⟩,⟨some 15,.ld false 1 (.t 14),no⟩]) (.cond (.t 15)
 (.reg [⟨some 16,.mv (.t 3),no⟩,⟨some 17,.bin .add (.t 16) (.k (.int .i64 1)),no⟩,⟨some 3,.mv (.t 17),no⟩]) .skip)))
 (.reg [⟨some 9,.mv (.t 4),no⟩,⟨some 10,.bin .add (.t 9) (.k (.int .i64 1)),no⟩,⟨some 4,.mv (.t 10),no⟩])))))) (.seq
 (.reg [⟨some 18,.mv (.t 3),no⟩,⟨some 2,.mv (.t 18),no⟩]) .ret))))⟩
theorem a178_ok:compFn Tryz.prog Tryz.f178=some a178:=by kernel_rfl
theorem AccV.bwS {b:Nat} {l:List Str} {v:AV} {h:Heap} {n:Nat} (x:AccV b 1 (strsR l) v h n):bw v h=some (.sl 1 (strsR l)):=by
 rcases x with ⟨h1,rfl⟩ | ⟨i,_,_,rfl,hb⟩
 · rw [h1]; rfl
 · simp [hb,List.take_of_length_le]
def valsE (E:SEnv):List DLin:=E.map (·.2)
theorem call_view {P:Program} {f:FuncId} {xs xs':List AV} {h:Heap} {n:Nat} {Qr:AV→Prop} {K:AV→Heap→Nat→Prop} (hh:Holds P f xs' Qr) (hb:bwl xs h=some xs') (hK:∀ r,Qr r→K (dr r) h n):ACall P f xs h n K:=by
 refine ⟨hh.1,fun base w0 w L F vs H hv => ?_⟩
 refine (hh.2 w vs (bwl_sound H xs hv hb)).mono ?_
 rintro e w' ⟨v,r,S,rfl,hq,hcl,hbel,hr,hnd,hS⟩
 obtain ⟨g1,g2⟩:=H.after hbel
 exact ⟨v,dr r,L,n,F,h,rfl,g1,g2,VR_dr _ _ _ (VR_env r v S hcl (fun b hb ho=>absurd (H.own_lt ho) (by have:=(hS b hb).1; omega)) hr),hK r hq⟩
theorem callD_view {P:Program} {f:FuncId} {xs xs':List AV} {h:Heap} {n:Nat} {Qr:AV→Prop} {K:AV→Heap→Nat→Prop} (hh:Holds P f xs' Qr) (hb:bwl xs h=some xs') (hk:∀ r,Qr r→K (dr r) h n):ACall P f xs h n (hK h K):=
 call_view hh hb fun r hr=>⟨hext.refl h,hk r hr⟩
@[simp] theorem drl_ALin (x:DLin):drl (rALin x)=rALin x:=by simp [rALin]
@[simp] theorem drrm_ALin (l:List DLin):drr (l.map rALin)=l.map rALin:=by rw [drr_eq,List.map_map]; exact List.map_congr_left fun x _=>drl_ALin x
@[simp] theorem dtl_ALin (x:DLin) (h:Heap):dtl (rALin x) h=some (rALin x,h):=by simp [rALin]
theorem AccV.bwA {b:Nat} {l:List DLin} {v:AV} {h:Heap} {n:Nat} (x:AccV b 2 (l.map rALin) v h n):bw v h=some (.sl 2 (l.map rALin)):=by
 rcases x with ⟨h1,rfl⟩ | ⟨i,_,_,rfl,hb⟩
 · have:l=[]:=by simpa using h1
   subst this; simp
 · simp [hb,List.take_of_length_le]
def SVs (v:AV) (l:List Str) (h:Heap) (n:Nat):Prop:=v = .sl 1 (strsR l)∨∃ b,AccV b 1 (strsR l) v h n
def SVl (v:AV) (l:List DLin) (h:Heap) (n:Nat):Prop:=v = .sl 2 (l.map rALin)∨∃ b,AccV b 2 (l.map rALin) v h n
theorem SVs.bw {v:AV} {l:List Str} {h h':Heap} {n:Nat} (x:SVs v l h n) (hh:∀ id,id<n→h' id=h id):Go.Proofs.YtilcageplifbgaaGreat.bw v h'=some (.sl 1 (strsR l)):=by
 rcases x with rfl | ⟨b,x⟩
 · simp
 · exact (x.keep (Nat.le_refl _) fun id _ hid _=>hh id hid).bwS
theorem SVs.cell {v:AV} {l:List Str} {h:Heap} {n:Nat} (x:SVs v l h n):isCell v=true:=by
 rcases x with rfl | ⟨b,⟨_,rfl⟩ | ⟨i,_,_,rfl,_⟩⟩ <;> rfl
theorem SVl.cell {v:AV} {l:List DLin} {h:Heap} {n:Nat} (x:SVl v l h n):isCell v=true:=by
 rcases x with rfl | ⟨b,⟨_,rfl⟩ | ⟨i,_,_,rfl,_⟩⟩ <;> rfl
theorem get_idx {x:Str} {E:SEnv} : (idxFrom (fun y=>y==x) (keysE E) 0 = -1∧∀ d,eget d E x=d)∨∃ j:Nat,∃ hj:j<E.length,idxFrom (fun y=>y==x) (keysE E) 0=(j:Int)∧∀ d,eget d E x=(E[j]).2:=by
 have key:∀ (E:SEnv) (k:Nat),(idxFrom (fun y=>y==x) (keysE E) k = -1∧∀ d,eget d E x=d)∨∃ j:Nat,∃ hj:j<E.length,idxFrom (fun y=>y==x) (keysE E) k=((k+j:Nat):Int)∧∀ d,eget d E x=(E[j]).2:=by
   intro E
   induction E with
   | nil=>intro k; exact .inl ⟨rfl,fun _=>rfl⟩
   | cons e E ih=>
     intro k
     simp only [keysE,List.map_cons,idxFrom,eget,List.find?_cons]
     cases hb:e.1==x
     · simp only [Bool.false_eq_true,if_false]
       rcases ih (k+1) with ⟨h1,h2⟩ | ⟨j,hj,h1,h2⟩
       · exact .inl ⟨h1,h2⟩
       · exact .inr ⟨j+1,by simp; omega,by rw [keysE] at h1; rw [h1]; congr 1; omega,by simpa [eget] using h2⟩
     · exact .inr ⟨0,by simp,by simp,fun d=>by simp⟩
 simpa using key E 0
set_option maxRecDepth 20000
set_option maxHeartbeats 2000000
theorem call_get {E:SEnv} {vN vL:AV} {h:Heap} {n N:Nat} {x:Str} (A:SVs vN (keysE E) h n) (B:SVl vL (valsE E) h n) (hE:E.length≤1048576) {K:AV→Heap→Nat→Prop}
   (hK:∀ w h' n',n≤n'→(∀ id,id<n→h' id=h id)→isCell w=true→(∀ H:Heap,(∀ id,id<n'→H id=h' id)→bw w H=some (.sl 1 (intsR (eget (constLin 0 N) E x).Coeffs)))→K (.agg [.int .i64 (eget (constLin 0 N) E x).Const,w]) h' n') :
   ACall Tryz.prog 247 [.agg [vN,vL],.str x,i64 N] h n K:=by
 refine acall_body Tryz.func247 a247_ok rfl (by simp [a247]) ?_
 have ne:¬n=n+1∧¬n+1=n∧¬n=n+1+1∧¬n+1+1=n∧¬n+1=n+1+1∧¬n+1+1=n+1:=by omega
 have fr:∀ id,id<n→¬id=n∧¬id=n+1∧¬id=n+1+1∧¬id=n+2:=by intro id _; omega
 have cN:=A.cell
 have cL:=B.cell
 have hbN:∀ y z,bw vN (upd (upd h n y) (n+1) z)=some (.sl 1 (strsR (keysE E))):=fun y z=>A.bw fun id hid=>by simp [fr id hid]
 simp [a247,-isCell,cN,cL,ne]
 first|refine callD_of (ks_IndexOf (keysE E) x) (by first|(simp [hbN];done)|rfl) ?_|refine call_of (ks_IndexOf (keysE E) x) (by first|(simp [hbN];done)|rfl) ?_
 rintro r rfl
 rcases get_idx (x:=x) (E:=E) with ⟨h1,h2⟩ | ⟨j,hj,h1,h2⟩
 · rw [h1]
   rw [h2] at hK
   simp [ne]
   first|refine callD_of (ks_ConstLin 0 N) (by first|(simp;done)|rfl) ?_|refine call_of (ks_ConstLin 0 N) (by first|(simp;done)|rfl) ?_
   rintro r rfl
   simp [rULin,ne]
   refine hK _ _ _ (by omega) (fun id hid=>by simp [fr id hid]) rfl fun H hH => ?_
   have:=hH (n+2) (by omega)
   simp at this
   simp [this]
 · rw [h1]
   rw [h2] at hK
   have hj0:¬(j:Int)<0:=by omega
   have hjv:j<(valsE E).length:=by simpa [valsE] using hj
   have hve:(valsE E)[j]=(E[j]).2:=by simp [valsE]
   rcases B with rfl | ⟨b,⟨hz,rfl⟩ | ⟨i,_,hin,rfl,hib⟩⟩
   · simp [ne,hjv,hj0,hve,rALin]
     exact hK _ _ _ (by omega) (fun id hid=>by simp [fr id hid]) rfl fun H hH=>by simp
   · have:E=[]:=by simpa [valsE] using hz
     subst this; simp at hj
   · have ni:=fr i hin
     simp [ne,hjv,hj0,ni,hib,hve,rALin]
     exact hK _ _ _ (by omega) (fun id hid=>by simp [fr id hid]) rfl fun H hH=>by simp
theorem call_get_in {E:SEnv} {vN vL:AV} {h:Heap} {n N:Nat} {x:Str} {d:DLin} (A:SVs vN (keysE E) h n) (B:SVl vL (valsE E) h n) (hx:x∈keysE E) {K:AV→Heap→Nat→Prop}
   (hK:∀ h' n',n≤n'→(∀ id,id<n→h' id=h id)→K (.agg (rALin (eget d E x))) h' n') :
   ACall Tryz.prog 247 [.agg [vN,vL],.str x,i64 N] h n K:=by
 refine acall_body Tryz.func247 a247_ok rfl (by simp [a247]) ?_
 have ne:¬n=n+1∧¬n+1=n∧¬n=n+1+1∧¬n+1+1=n∧¬n+1=n+1+1∧¬n+1+1=n+1:=by omega
 have fr:∀ id,id<n→¬id=n∧¬id=n+1∧¬id=n+1+1∧¬id=n+2:=by intro id _; omega
 have cN:=A.cell
 have cL:=B.cell
 have hbN:∀ y z,bw vN (upd (upd h n y) (n+1) z)=some (.sl 1 (strsR (keysE E))):=fun y z=>A.bw fun id hid=>by simp [fr id hid]
 simp [a247,-isCell,cN,cL,ne]
 first|refine callD_of (ks_IndexOf (keysE E) x) (by first|(simp [hbN];done)|rfl) ?_|refine call_of (ks_IndexOf (keysE E) x) (by first|(simp [hbN];done)|rfl) ?_
 rintro r rfl
 rcases get_idx (x:=x) (E:=E) with ⟨h1,h2⟩ | ⟨j,hj,h1,h2⟩
 · obtain ⟨l,_,hl⟩:=eget_in lin0 hx
   have e1:=hl lin0 []
   have e2:=hl ⟨1,[]⟩ []
   rw [List.append_nil] at e1 e2
   rw [h2] at e1 e2
   rw [←e1] at e2
   simp [lin0] at e2
 · rw [h1]
   rw [h2] at hK
   have hj0:¬(j:Int)<0:=by omega
   have hjv:j<(valsE E).length:=by simpa [valsE] using hj
   have hve:(valsE E)[j]=(E[j]).2:=by simp [valsE]
   rcases B with rfl | ⟨b,⟨hz,rfl⟩ | ⟨i,_,hin,rfl,hib⟩⟩
   · simp [ne,hjv,hj0,hve,rALin]
     exact hK _ _ (by omega) (fun id hid=>by simp [fr id hid])
   · have:E=[]:=by simpa [valsE] using hz
     subst this; simp at hj
   · have ni:=fr i hin
     simp [ne,hjv,hj0,ni,hib,hve,rALin]
     exact hK _ _ (by omega) (fun id hid=>by simp [fr id hid])
theorem ks_l14Cons (l:List DPattern):Holds Tryz.prog 178 [.sl 4 (l.map rAPattern)] (fun r=>r=i64 (consN l)):=by
 refine holds_of_lim Tryz.func178 rfl rfl fun hl => ?_
 simp at hl
 refine holds_of_run Tryz.func178 a178_ok rfl (by simp [a178]) ?_
 simp [a178]
 generalize hT:consN l=T
 refine rL_forS [0] 4 l.length (fun i s=>∃ c:Nat,c≤i∧s 3 = .int .i64 c∧c+consN (l.drop i)=T) (by first | exact hl | exact hl.1) (by simp) ⟨0,by omega,by simp,by simpa using hT⟩ ?_ ?_
 · rintro i st h R hi hg hk s4 hw ⟨c,hc,s3,hJ⟩ hh hR _ _
   simp at hk hh
   rw [List.drop_eq_getElem_cons hi] at hJ
   unfold consN at hJ
   rw [List.filter_cons] at hJ
   have hw2:IntKind.i64.wrap ((c:Int)+1)=(c:Int)+1:=wrap64 (by unfold LIM at hl; omega)
   cases hc2:(l[i]).Cons
   · rw [hc2] at hJ
     simp [hk,s4,hi,s3,hw,rAPattern,hc2]
     try intro _
     exact hR _ (by simp [hk]) (by simp) ⟨c,by omega,by simp [s3],by simpa [consN] using hJ⟩
   · rw [hc2] at hJ
     simp only [if_true,List.length_cons] at hJ
     simp [hk,s4,hi,s3,hw,hw2,rAPattern,hc2]
     try intro _
     exact hR _ (by simp [hk]) (by simp) ⟨c+1,by omega,by simp,by unfold consN; omega⟩
 · rintro st h R hk s4 ⟨c,hc,s3,hJ⟩ hh _ hX
   simp at hk hh
   rw [List.drop_eq_nil_of_le (by omega)] at hJ
   simp [consN] at hJ
   subst hJ
   simp [hk,s4]
   try intro _
   refine hX _ _ ?_
   simp [hk,s3]
end Go.Proofs.YtilcageplifbgaaGreat

namespace Go.Proofs.YtilcageplifbgaaGreat
set_option linter.all false
open Go Go.RowKit Go.Proofs
def a99:AFn:=
⟨16,[(.c 5 true 2)],(.seq
 (.reg [⟨some 5,.box [(.int .i64 0),(.nil 1)],no⟩]) (.seq
 (.reg [⟨some 7,.ld false 1 (.t 1),no⟩,⟨some 8,.ld false 1 (.t 2),no⟩,⟨some 9,.call (.k (.fn (.func 65) [] [])) [.t 7,.t 8],no⟩,⟨some 6,.box [(.int .i64 0),(.nil 1)],no⟩,⟨no,.st 2 (.t 6) (.t 9),no⟩]) (.seq
 (.reg [⟨some 10,.ld false 1 (.t 3),no⟩,⟨some 11,.mv (.t 0),no⟩,⟨some 12,.ld true 2 (.t 6),no⟩,⟨no,.mput (.t 10) (.t 11) (.t 12),no⟩]) (.seq
 (.reg [⟨some 13,.ld false 1 (.t 1),no⟩,⟨some 14,.bin .add (.t 13) (.k (.int .i64 1)),no⟩,⟨no,.st 1 (.t 1) (.t 14),no⟩]) (.seq
 (.reg [⟨some 15,.ld true 2 (.t 6),no⟩,⟨no,.st 2 (.t 5) (.t 15),no⟩]) .ret)))))⟩
theorem a99_ok:compFn Tryz.prog Tryz.f99=some a99:=by kernel_rfl
def a100:AFn:=
⟨12,[],(.seq
 (.reg [⟨some 2,.boxv (.t 0),no⟩]) (.draw (.op ⟨some 3,.fld 0 (.t 1),no⟩ (.op ⟨some 4,.fld 1 (.t 3),no⟩ (.op ⟨some 5,.ld false 1 (.t 4),no⟩ (.op ⟨some 6,.ld true 2 (.t 2),no⟩ (.op ⟨some 7,.call (.k (.fn (.func 91) [] [])) [.t 6],no⟩ (.hop ⟨some 8,.bsl 2 [.t 7],no⟩ [(.ld false 1 (.t 4)),(.fld 1 (.t 3)),(.fld 0 (.t 1))] (.hop ⟨some 9,.app 32 2 (.t 5) (.t 8),no⟩ [] (.op ⟨some 10,.fld 0 (.t 1),no⟩ (.op ⟨some 11,.fld 1 (.t 10),no⟩ (.hop ⟨no,.st 1 (.t 11) (.t 9),no⟩ [] .fin))))))))))))⟩
theorem a100_ok:compFn Tryz.prog Tryz.f100=some a100:=by kernel_rfl
structure Ids where
 m:Nat
 d:Nat
 s:Nat
 x:Nat
def mRow (N:Nat) (vR vP vA:AV):List AV:=[.int .i64 N,vR,vP,vA,.int .i64 0,.nil 1]
def Accs (N:Nat) (I:Ids) (st:MS) (h:Heap) (n:Nat):Prop:=∃ vR vP vA,h I.m=some ⟨true,6,[mRow N vR vP vA]⟩∧AccV I.x 2 (st.rows.map rULin) vR h n∧AccV I.x 2 (st.pars.map rULin) vP h n ∧
 AccV I.x 1 (st.args.map rULinS) vA h n∧(st.args=[]→vA = .nil 1)∧∀ i k j l,vR = .ref i 0 k→vP = .ref j 0 l→i≠j
structure MI (p:DProgram) (r:DRule) (f:DFunction) (N:Nat) (I:Ids) (st:MS) (h:Heap) (n:Nat):Prop where
 hp:h 0=some ⟨true,2,[rAProgram p]⟩
 hz:h 1=some ⟨true,6,[[.int .i64 0,.nil 2,.nil 2,.nil 1,.int .i64 0,.nil 1]]⟩
 hr:h 2=some ⟨true,7,[rARule r]⟩
 h3:h 3=some ⟨false,1,strsR f.Params⟩
 h4:h 4=some ⟨false,2,f.Pre.map rULin⟩
 hf:h 5=some ⟨true,4,[[.str f.Name,.ref 3 0 f.Params.length,.bool f.ListResult,.ref 4 0 f.Pre.length]]⟩
 hn:h 6=some ⟨true,1,[[.int .i64 N]]⟩
 lt:6<I.m∧I.m<I.d∧I.d<I.s∧I.s<I.x∧I.x<n
 hmp:h I.s=some ⟨true,1,[[.mp I.d]]⟩
 hnx:h I.x=some ⟨true,1,[[.int .i64 st.nx]]⟩
 map:MapIs I.d st.E h n
 acc:Accs N I st h n
section
variable {p:DProgram} {r:DRule} {f:DFunction} {N:Nat} {I:Ids} {st st':MS} {h h':Heap} {n n':Nat}
theorem Accs.frame (A:Accs N I st h n) (hm:I.m<n) (hn:n≤n') (hh:∀ id,id<n→h' id=h id):Accs N I st h' n':=by
 obtain ⟨vR,vP,vA,g1,g2,g3,g4,g6,g5⟩:=A
 exact ⟨vR,vP,vA,by rw [hh _ hm,g1],g2.keep hn fun id _ hid _=>hh id hid,g3.keep hn fun id _ hid _=>hh id hid,g4.keep hn fun id _ hid _=>hh id hid,g6,g5⟩
theorem MI.frame (M:MI p r f N I st h n) (hn:n≤n') (hh:∀ id,id<n→h' id=h id):MI p r f N I st h' n':=by
 obtain ⟨l1,l2,l3,l4,l5⟩:=M.lt
 refine ⟨?_,?_,?_,?_,?_,?_,?_,⟨l1,l2,l3,l4,by omega⟩,?_,?_,M.map.keep (by omega) hn hh,M.acc.frame (by omega) hn hh⟩
 · rw [hh 0 (by omega),M.hp]
 · rw [hh 1 (by omega),M.hz]
 · rw [hh 2 (by omega),M.hr]
 · rw [hh 3 (by omega),M.h3]
 · rw [hh 4 (by omega),M.h4]
 · rw [hh 5 (by omega),M.hf]
 · rw [hh 6 (by omega),M.hn]
 · rw [hh I.s (by omega),M.hmp]
 · rw [hh I.x (by omega),M.hnx]
theorem MI.upd_acc (M:MI p r f N I st h n) (hE:st'.E=st.E) (hx:st'.nx=st.nx) (hn:n≤n') (bad:Nat→Prop) (hbad:∀ id,bad id→I.x<id∧∀ l,h id≠some ⟨false,1,intsR l⟩) (hh:∀ id,id<n→id≠I.m→¬bad id→h' id=h id)
   (hacc:Accs N I st' h' n'):MI p r f N I st' h' n':=by
 obtain ⟨l1,l2,l3,l4,l5⟩:=M.lt
 have low:∀ id,id≤I.x→id≠I.m→h' id=h id:=fun id hid hne=>hh id (by omega) hne fun hb=>by have:=(hbad id hb).1; omega
 refine ⟨?_,?_,?_,?_,?_,?_,?_,⟨l1,l2,l3,l4,by omega⟩,?_,?_,?_,hacc⟩
 · rw [low 0 (by omega) (by omega),M.hp]
 · rw [low 1 (by omega) (by omega),M.hz]
 · rw [low 2 (by omega) (by omega),M.hr]
 · rw [low 3 (by omega) (by omega),M.h3]
 · rw [low 4 (by omega) (by omega),M.h4]
 · rw [low 5 (by omega) (by omega),M.hf]
 · rw [low 6 (by omega) (by omega),M.hn]
 · rw [low I.s (by omega) (by omega),M.hmp]
 · rw [low I.x (by omega) (by omega),M.hnx,hx]
 · rw [hE]
   obtain ⟨es,h1,h2,h3⟩:=M.map
   refine ⟨es,h1,by rw [low I.d (by omega) (by omega),h2],fun e he=>⟨by have:=(h3 e he).1; omega,?_⟩⟩
   obtain ⟨k1,k2⟩:=h3 e he
   rw [hh e.q k1 (fun g => ?_) fun hb=>(hbad _ hb).2 _ k2,k2]
   obtain ⟨vR,vP,vA,g1,_⟩:=M.acc
   rw [g,g1] at k2
   simp at k2
theorem MI.upd_map (M:MI p r f N I st h n) {x:Str} {l:DLin} {q:Nat} (hE:st'.E=eset st.E x l) (hR:st'.rows=st.rows) (hP:st'.pars=st.pars) (hA:st'.args=st.args) (hn:n≤n') (hq:q<n') (hqb:h' q=some ⟨false,1,intsR l.Coeffs⟩)
   (hx':h' I.x=some ⟨true,1,[[.int .i64 st'.nx]]⟩)
   (hh:∀ id,id<n→id≠I.d→id≠I.x→h' id=h id) (hm:∀ es,h I.d=some ⟨true,0,es.map Ent.row⟩→h' I.d=some ⟨true,0,(setEnt es x l q).map Ent.row⟩):MI p r f N I st' h' n':=by
 obtain ⟨l1,l2,l3,l4,l5⟩:=M.lt
 refine ⟨?_,?_,?_,?_,?_,?_,?_,⟨l1,l2,l3,l4,by omega⟩,?_,hx',?_,?_⟩
 · rw [hh 0 (by omega) (by omega) (by omega),M.hp]
 · rw [hh 1 (by omega) (by omega) (by omega),M.hz]
 · rw [hh 2 (by omega) (by omega) (by omega),M.hr]
 · rw [hh 3 (by omega) (by omega) (by omega),M.h3]
 · rw [hh 4 (by omega) (by omega) (by omega),M.h4]
 · rw [hh 5 (by omega) (by omega) (by omega),M.hf]
 · rw [hh 6 (by omega) (by omega) (by omega),M.hn]
 · rw [hh I.s (by omega) (by omega) (by omega),M.hmp]
 · obtain ⟨es,h1,h2,h3⟩:=M.map
   refine ⟨setEnt es x l q,by rw [setEnt_E,h1,hE],hm es h2,fun e he => ?_⟩
   rcases setEnt_mem he with he | rfl
   · obtain ⟨k1,k2⟩:=h3 e he
     refine ⟨by omega,?_⟩
     rw [hh e.q k1 (fun g => ?_) (fun g => ?_),k2]
     · rw [g,h2] at k2; simp at k2
     · rw [g,M.hnx] at k2; simp at k2
   · exact ⟨hq,hqb⟩
 · obtain ⟨vR,vP,vA,g1,g2,g3,g4,g6,g5⟩:=M.acc
   rw [←hR] at g2
   rw [←hP] at g3
   rw [←hA] at g4 g6
   exact ⟨vR,vP,vA,by rw [hh I.m (by omega) (by omega) (by omega),g1],g2.keep hn fun id hb hid _=>hh id hid (by omega) (by omega),g3.keep hn fun id hb hid _=>hh id hid (by omega) (by omega),g4.keep hn fun id hb hid _=>hh id hid (by omega) (by omega),g6,g5⟩
end
def setX (st:MS) (x:Str) (l:DLin) (k:Nat):MS:=⟨eset st.E x l,k,st.rows,st.pars,st.args⟩
def addR (st:MS) (l:DLin):MS:=⟨st.E,st.nx,st.rows++[l],st.pars,st.args⟩
def addP (st:MS) (l:DLin):MS:=⟨st.E,st.nx,st.rows,st.pars++[l],st.args⟩
def addA (st:MS) (l:List DLin):MS:=⟨st.E,st.nx,st.rows,st.pars,st.args++[l]⟩
set_option maxRecDepth 20000
set_option maxHeartbeats 2000000
section
variable {p:DProgram} {r:DRule} {f:DFunction} {N:Nat} {I:Ids} {st:MS} {h:Heap} {n:Nat} {K:AV→Heap→Nat→Prop}
theorem call_fresh (M:MI p r f N I st h n) (x:Str) (hx:st.nx≤100000000)
   (hK:∀ q h' n',n≤q→q<n'→(∀ id,id<n→id≠I.d→id≠I.x→h' id=h id)→h' q=some ⟨false,1,intsR (varL st.nx N).Coeffs⟩→MI p r f N I (setX st x (varL st.nx N) (st.nx+1)) h' n'→K (linV (varL st.nx N) q) h' n') :
   ACall Tryz.prog 99 [.str x,.ptr I.x 0 0,.ptr 6 0 0,.ptr I.s 0 0] h n K:=by
 obtain ⟨l1,l2,l3,l4,l5⟩:=M.lt
 refine acall_body Tryz.func99 a99_ok rfl (by simp [a99]) ?_
 have ne:¬I.x=n∧¬I.x=n+1∧¬I.x=n+1+1∧¬I.d=n∧¬I.d=n+1∧¬I.d=n+1+1∧¬I.s=n∧¬I.s=n+1∧¬I.s=n+1+1∧¬I.d=I.x∧¬I.x=I.d∧¬I.s=I.d∧¬I.s=I.x∧¬6=n∧¬6=n+1∧¬6=n+1+1∧¬n=6∧¬n=5∧¬n=4∧¬5=n∧¬4=n ∧
   ¬n=I.x∧¬n+1=I.x∧¬n+1+1=I.x∧¬n=I.d∧¬n+1=I.d∧¬n+1+1=I.d∧¬n=n+1∧¬n+1=n∧¬n=n+1+1∧¬n+1+1=n∧¬n+1=n+1+1:=by omega
 have hw:IntKind.i64.wrap ((st.nx:Int)+1)=(st.nx:Int)+1:=wrap64 (by omega)
 obtain ⟨es,hE,hd,hes⟩:=M.map
 simp [a99,M.hnx,M.hn,M.hmp,ne]
 first|refine callD_of (k_VarLin st.nx N) (by first|(simp;done)|rfl) ?_|refine call_of (k_VarLin st.nx N) (by first|(simp;done)|rfl) ?_
 rintro r rfl
 simp [rULin,M.hnx,M.hn,M.hmp,ne,hd,hw]
 refine hK (n+1) _ _ (by omega) (by omega) ?_ ?_ ?_
 · intro id hid h1 h2
   have:¬id=n∧¬id=n+1∧¬id=n+1+1:=by omega
   simp [this,h1,h2]
 · simp [ne]
 · refine M.upd_map (x:=x) (l:=varL st.nx N) (q:=n+1) rfl rfl rfl rfl (by omega) (by omega) (by simp [ne]) (by simp [ne,setX]) ?_ ?_
   · intro id hid h1 h2
     have:¬id=n∧¬id=n+1∧¬id=n+1+1:=by omega
     simp [this,h1,h2]
   · intro es' hd'
     rw [hd] at hd'
     simp only [Option.some.injEq,Blk.mk.injEq,true_and] at hd'
     rw [←mset_ents,←hd']
     simp [ne,linV]
theorem call_row (M:MI p r f N I st h n) {l:DLin} {q:Nat} (hl:l.Coeffs.length≤1048576) (hqn:q<n) (hq:h q=some ⟨false,1,intsR l.Coeffs⟩) (hrl:st.rows.length≤1000000)
   (hK:∀ h' n',n≤n'→(∀ id,id<n→id≠I.m→(∀ l,h id≠some ⟨false,2,l⟩)→h' id=h id)→MI p r f N I (addR st l) h' n'→K (.tup []) h' n') :
   ACall Tryz.prog 100 [linV l q,.ptr I.m 0 0] h n K:=by
 obtain ⟨l1,l2,l3,l4,l5⟩:=M.lt
 refine acall_body Tryz.func100 a100_ok rfl (by simp [a100]) ?_
 have ne:¬I.m=n∧¬I.m=n+1∧¬I.m=n+1+1∧¬I.m=n+1+1+1∧¬I.m=n+2∧¬n=I.m∧¬n+1=I.m∧¬n+1+1=I.m∧¬n+2=I.m∧¬n+1+1+1=I.m∧¬q=n∧¬q=n+1∧¬n=n+1∧¬n+1=n∧¬n=n+1+1∧¬n+1+1=n∧¬n+1=n+1+1∧¬n+2=n+1∧¬n+1=n+2∧¬n+3=I.m∧¬I.m=n+3:=by omega
 obtain ⟨vR,vP,vA,g1,g2,g3,g4,g6,g5⟩:=M.acc
 simp [a100,linV,g1,mRow,ne]
 first|refine callD_of (k_copyLin l hl) (by first|(simp [rALin,hq,ne];done)|rfl) ?_|refine call_of (k_copyLin l hl) (by first|(simp [rALin,hq,ne];done)|rfl) ?_
 rintro r rfl
 rcases g2 with ⟨hz,rfl⟩ | ⟨i,hi,hin,rfl,hib⟩
 · have hz':st.rows=[]:=by simpa using hz
   simp [rULin,g1,mRow,ne]
   refine ⟨by unfold LIM; omega,?_⟩
   refine hK _ _ (by omega) ?_ (M.upd_acc (st':=addR st l) rfl rfl (by omega) (fun _=>False) (fun _ h=>h.elim) ?_ ?_)
   · intro id hid hm _
     have:¬id=n∧¬id=n+1∧¬id=n+1+1∧¬id=n+1+1+1:=by omega
     simp [this,hm]
   · intro id hid hm _
     have:¬id=n∧¬id=n+1∧¬id=n+1+1∧¬id=n+1+1+1:=by omega
     simp [this,hm]
   · have fr:∀ id,id<n→I.x<id→¬id=n∧¬id=n+1∧¬id=n+1+1∧¬id=n+1+1+1∧¬id=I.m:=by intro id _ _; omega
     refine ⟨.ref (n+3) 0 1,vP,vA,by simp [mRow],.inr ⟨n+3,by omega,by omega,by simp [addR,hz'],by simp [addR,hz',rULin,ne]⟩,g3.keep (by omega) fun id hb hid _=>by simp [fr id hid hb],g4.keep (by omega) fun id hb hid _=>by simp [fr id hid hb],g6,?_⟩
     intro i k j l' e1 e2
     simp only [AV.ref.injEq] at e1
     rcases g3 with ⟨_,e⟩ | ⟨j',_,hj',e,_⟩
     · rw [e] at e2; cases e2
     · rw [e] at e2; simp only [AV.ref.injEq] at e2; omega
 · have hi1:st.rows.length<1000001:=by omega
   have ni:¬i=n∧¬i=n+1∧¬i=n+1+1∧¬i=n+1+1+1∧¬i=I.m∧¬I.m=i∧¬n=i∧¬n+1=i∧¬n+1+1=i∧¬n+1+1+1=i:=by omega
   simp [rULin,g1,mRow,ne,ni,hib]
   refine ⟨by unfold LIM; omega,?_⟩
   refine hK _ _ (by omega) ?_ (M.upd_acc (st':=addR st l) rfl rfl (by omega) (fun id=>id=i) (fun id e=>⟨by omega,fun l hl=>by rw [e,hib] at hl; simp at hl⟩) ?_ ?_)
   · intro id hid hm h2
     have:¬id=n∧¬id=n+1∧¬id=n+1+1∧¬id=n+1+1+1:=by omega
     have hii:¬id=i:=fun e=>h2 _ (by rw [e]; exact hib)
     simp [this,hm,hii]
   · intro id hid hm hii
     have:¬id=n∧¬id=n+1∧¬id=n+1+1∧¬id=n+1+1+1:=by omega
     simp [this,hm,hii]
   · have fr:∀ id,id<n→I.x<id→¬id=n∧¬id=n+1∧¬id=n+1+1∧¬id=n+1+1+1∧¬id=I.m:=by intro id _ _; omega
     refine ⟨.ref (n+3) 0 (st.rows.length+1),vP,vA,by simp [mRow],.inr ⟨n+3,by omega,by omega,by simp [addR],by simp [addR,rULin,ne,List.take_of_length_le]⟩,g3.keep (by omega) fun id hb hid e => ?_,g4.keep (by omega) fun id hb hid e => ?_,g6,?_⟩
     · have hii:¬id=i:=fun e'=>g5 i _ id _ rfl e e'.symm
       simp [fr id hid hb,hii]
     · have hii:¬id=i:=by
         intro e'
         rcases g4 with ⟨_,e2⟩ | ⟨j',_,_,e2,hjb⟩
         · rw [e2] at e; cases e
         · rw [e2] at e; simp only [AV.ref.injEq] at e
           rw [e.1,e',hib] at hjb
           simp at hjb
       simp [fr id hid hb,hii]
     · intro i' k j l' e1 e2
       simp only [AV.ref.injEq] at e1
       rcases g3 with ⟨_,e⟩ | ⟨j',_,hj',e,_⟩
       · rw [e] at e2; cases e2
       · rw [e] at e2; simp only [AV.ref.injEq] at e2; omega
end
end Go.Proofs.YtilcageplifbgaaGreat

namespace Go.Proofs.YtilcageplifbgaaGreat
set_option linter.all false
open Go Go.RowKit Go.Proofs
def a278:AFn:=
⟨5,[.t 2],(.seq
 (.reg [⟨some 2,.mv (.k (.bool false)),no⟩]) (.seq
 (.reg [⟨some 3,.mv (.t 0),no⟩,⟨some 4,.call (.k (.fn (.func 98) [] [])) [.t 3,(.k (.int .i64 (-1000000))),(.k (.int .i64 1000000))],no⟩,⟨some 2,.mv (.t 4),no⟩]) .ret))⟩
theorem a278_ok:compFn Tryz.prog Tryz.f278=some a278:=by kernel_rfl
def a293:AFn:=
⟨5,[.t 2],(.seq
 (.reg [⟨some 2,.mv (.k (.bool false)),no⟩]) (.seq
 (.reg [⟨some 3,.mv (.t 0),no⟩,⟨some 4,.call (.k (.fn (.func 96) [] [])) [.t 3,(.k (.int .i64 (-1000000))),(.k (.int .i64 1000000))],no⟩,⟨some 2,.mv (.t 4),no⟩]) .ret))⟩
theorem a293_ok:compFn Tryz.prog Tryz.f293=some a293:=by kernel_rfl
def a150:AFn:=
⟨18,[.t 2],(.seq
 (.reg [⟨some 2,.mv (.k (.bool false)),no⟩]) (.seq (.seq
 (.reg [⟨some 5,.mv (.t 0),no⟩,⟨some 6,.len false (.t 5),no⟩,⟨some 7,.mv (.k (.int .i64 0)),no⟩]) (.blk 0 (.loop (.seq
 (.reg [⟨some 8,.bin .lss (.t 7) (.t 6),no⟩]) (.seq (.cond (.t 8) .skip (.exit 0)) (.seq (.blk 1 (.seq
 (.reg [⟨some 9,.mv (.t 7),no⟩,⟨some 10,.ixa 1 (.t 5) (.t 7),no⟩,⟨some 11,.ld false 1 (.t 10),no⟩,⟨some 3,.mv (.t 9),no⟩,⟨some 4,.mv (.t 11),no⟩]) (.seq
 (.reg [⟨some 12,.mv (.t 0),no⟩,⟨some 13,.mv (.t 3),no⟩,⟨some 14,.slc false 1 (.t 12) Option.none (some (.t 13)),no⟩,⟨some 15,.mv (.t 4),no⟩,⟨some 16,.call (.k (.fn (.func 81) [] [])) [.t 14,.t 15],no⟩]) (.cond (.t 16) (.seq
 (.reg [⟨some 2,.mv (.k (.bool false)),no⟩]) .ret) .skip))))
 (.reg [⟨some 17,.bin .add (.t 7) (.k (.int .i64 1)),no⟩,⟨some 7,.mv (.t 17),no⟩]))))))) (.seq
 (.reg [⟨some 2,.mv (.k (.bool true)),no⟩]) .ret)))⟩
theorem a150_ok:compFn Tryz.prog Tryz.f150=some a150:=by kernel_rfl
def a206:AFn:=
⟨18,[.t 2],(.seq
 (.reg [⟨some 2,.mv (.k (.bool false)),no⟩]) (.seq (.seq
 (.reg [⟨some 3,.mv (.k (.int .i64 0)),no⟩]) (.blk 0 (.loop (.seq (.seq
 (.reg [⟨some 4,.mv (.t 3),no⟩,⟨some 5,.mv (.t 0),no⟩,⟨some 6,.len false (.t 5),no⟩,⟨some 7,.bin .lss (.t 4) (.t 6),no⟩]) (.cond (.t 7) .skip (.exit 0))) (.seq (.blk 1 (.seq (.draw (.op ⟨some 10,.mv (.t 0),no⟩ (.op ⟨some 11,.mv (.t 3),no⟩ (.op ⟨some 12,.slc false 1 (.t 10) Option.none (some (.t 11)),no⟩ (.op ⟨some 13,.mv (.t 0),no⟩ (.op ⟨some 14,.mv (.t 3),no⟩ (.op ⟨some 15,.ixa 1 (.t 13) (.t 14),no⟩ (.op ⟨some 16,.ld false 1 (.t 15),no⟩ (.op ⟨some 17,.call (.k (.fn (.func 239) [] [])) [.t 12,.t 16],no⟩ .fin))))))))) (.cond (.t 17) (.seq
 (.reg [⟨some 2,.mv (.k (.bool false)),no⟩]) .ret) .skip)))
 (.reg [⟨some 8,.mv (.t 3),no⟩,⟨some 9,.bin .add (.t 8) (.k (.int .i64 1)),no⟩,⟨some 3,.mv (.t 9),no⟩])))))) (.seq
 (.reg [⟨some 2,.mv (.k (.bool true)),no⟩]) .ret)))⟩
theorem a206_ok:compFn Tryz.prog Tryz.f206=some a206:=by kernel_rfl
def a279:AFn:=
⟨8,[.t 3],(.seq
 (.reg [⟨some 3,.mv (.k (.bool false)),no⟩]) (.seq
 (.reg [⟨some 4,.ld false 1 (.t 1),no⟩,⟨some 5,.mv (.t 0),no⟩,⟨some 6,.call (.k (.fn (.func 81) [] [])) [.t 4,.t 5],no⟩,⟨some 7,.un .not (.t 6),no⟩,⟨some 3,.mv (.t 7),no⟩]) .ret))⟩
theorem a279_ok:compFn Tryz.prog Tryz.f279=some a279:=by kernel_rfl
def a226:AFn:=
⟨9,[.t 4],(.seq
 (.reg [⟨some 3,.boxv (.t 1),no⟩,⟨some 4,.mv (.k (.bool false)),no⟩]) (.seq
 (.reg [⟨some 5,.mv (.t 0),no⟩,⟨some 6,.mkf (.func 279) [] [.t 3],no⟩,⟨some 7,.call (.k (.fn (.func 78) [] [])) [.t 5,.t 6],no⟩,⟨some 8,.un .not (.t 7),no⟩,⟨some 4,.mv (.t 8),no⟩]) .ret))⟩
theorem a226_ok:compFn Tryz.prog Tryz.f226=some a226:=by kernel_rfl
def a166:AFn:=
⟨29,[.t 4],(.seq
 (.reg [⟨some 4,.mv (.k (.nil 1)),no⟩]) (.seq
 (.reg [⟨some 7,.bsl 1 [],no⟩,⟨some 5,.mv (.t 7),no⟩]) (.seq (.seq
 (.reg [⟨some 6,.mv (.k (.int .i64 0)),no⟩]) (.blk 0 (.loop (.seq (.seq
 (.reg [⟨some 8,.mv (.t 6),no⟩,⟨some 9,.mv (.t 0),no⟩,⟨some 10,.len false (.t 9),no⟩,⟨some 11,.bin .lss (.t 8) (.t 10),no⟩]) (.cond (.t 11) .skip (.exit 0))) (.seq (.blk 1 (.seq
 (.reg [⟨some 14,.mv (.t 1),no⟩,⟨some 15,.mv (.t 0),no⟩,⟨some 16,.mv (.t 6),no⟩,⟨some 17,.ixa 1 (.t 15) (.t 16),no⟩,⟨some 18,.ld false 1 (.t 17),no⟩,⟨some 19,.call (.k (.fn (.func 239) [] [])) [.t 14,.t 18],no⟩,⟨some 20,.un .not (.t 19),no⟩]) (.cond (.t 20)
 (.reg [⟨some 21,.mv (.t 5),no⟩,⟨some 22,.mv (.t 0),no⟩,⟨some 23,.mv (.t 6),no⟩,⟨some 24,.ixa 1 (.t 22) (.t 23),no⟩,⟨some 25,.ld false 1 (.t 24),no⟩,⟨some 26,.bsl 1 [.t 25],no⟩,⟨some 27,.app 16 1 (.t 21) (.t 26),no⟩,⟨some 5,.mv (.t 27),no⟩]) .skip)))
 (.reg [⟨some 12,.mv (.t 6),no⟩,⟨some 13,.bin .add (.t 12) (.k (.int .i64 1)),no⟩,⟨some 6,.mv (.t 13),no⟩])))))) (.seq
 (.reg [⟨some 28,.mv (.t 5),no⟩,⟨some 4,.mv (.t 28),no⟩]) .ret))))⟩
theorem a166_ok:compFn Tryz.prog Tryz.f166=some a166:=by kernel_rfl
theorem a78_ok:compFn Tryz.prog Tryz.f78=some (tContainsFunc 167):=by kernel_rfl
theorem a167_ok:compFn Tryz.prog Tryz.f167=some (tIndexFunc false 1):=by kernel_rfl
theorem a280_ok:compFn Tryz.prog Tryz.f280=some (tContainsFunc 299):=by kernel_rfl
theorem a299_ok:compFn Tryz.prog Tryz.f299=some (tIndexFunc true 2):=by kernel_rfl
theorem rC_condF {P:Program} {s:Env} {h:Heap} {n:Nat} {Q:Fin} {ks:List Kt} {c:Nat} {e:AC} (hc:s c = .bool false) (h1:kont P ks .normal s h n Q):rC P (.cond (.t c) e .skip) ks s h n Q:=by
 rw [rC_cond]
 have:ev s (.t c) = .bool false:=hc
 rw [this]
 simpa using h1
theorem k_Fits (n:Int):Holds Tryz.prog 278 [i64 n] (fun r=>r = .bool (fits n)):=by
 refine holds_of_run Tryz.func278 a278_ok rfl (by simp [a278]) ?_
 simp [a278]
 first|refine callD_of (k_within n (-1000000) 1000000) (by first|(simp;done)|rfl) ?_|refine call_of (k_within n (-1000000) 1000000) (by first|(simp;done)|rfl) ?_
 rintro r rfl
 simp
 rfl
theorem ks_Fits (n:Int):Holds Tryz.prog 293 [i64 n] (fun r=>r = .bool (fits n)):=by
 refine holds_of_run Tryz.func293 a293_ok rfl (by simp [a293]) ?_
 simp [a293]
 first|refine callD_of (k_l1In n (-1000000) 1000000) (by first|(simp;done)|rfl) ?_|refine call_of (k_l1In n (-1000000) 1000000) (by first|(simp;done)|rfl) ?_
 rintro r rfl
 simp
 rfl
theorem k_AllDistinct (l:List Str):Holds Tryz.prog 150 [.sl 1 (strsR l)] (fun r=>r = .bool (distB l)):=by
 refine holds_of_lim Tryz.func150 rfl rfl fun hl => ?_
 simp at hl
 refine holds_of_run Tryz.func150 a150_ok rfl (by simp [a150]) ?_
 simp [a150]
 intro _
 unfold distB
 generalize hB:distFrom [] l=B
 refine rL_forS [0,5,6] 7 l.length (fun i _=>distFrom (l.take i) (l.drop i)=B) hl (by simp) (by simpa using hB) ?_ ?_
 · rintro i st h R hi hg hk s7 hw hJ hh hR hret _
   simp at hk
   rw [List.drop_eq_getElem_cons hi] at hJ
   simp only [distFrom] at hJ
   rw [List.take_append_getElem hi] at hJ
   simp [hk,s7,hi,hg,lowOf,asI]
   refine ⟨by omega,?_⟩
   have ht:List.take i (strsR l)=strsR (l.take i):=by simp [strsR]
   first|refine callD_of (k_Contains (l.take i) (l[i]'hi)) (by first|(simp [ht];done)|rfl) ?_|refine call_of (k_Contains (l.take i) (l[i]'hi)) (by first|(simp [ht];done)|rfl) ?_
   rintro r rfl
   cases hc:hasS (l.take i) l[i]
   · rw [hc] at hJ
     simp at hJ
     simp [hk,s7,hw]
     exact hR _ (by simp [hk]) (by simp) hJ
   · rw [hc] at hJ
     simp at hJ
     simp
     refine hret _ _ _ ?_
     simp [hJ]
 · rintro st h R hk s7 hJ hh _ hX
   simp at hk
   rw [List.drop_eq_nil_of_le (by omega)] at hJ
   simp [hk,s7]
   refine hX _ _ ?_
   simp [←hJ,distFrom]
theorem ks_AllDistinct (l:List Str):Holds Tryz.prog 206 [.sl 1 (strsR l)] (fun r=>r = .bool (distB l)):=by
 refine holds_of_lim Tryz.func206 rfl rfl fun hl => ?_
 simp at hl
 refine holds_of_run Tryz.func206 a206_ok rfl (by simp [a206]) ?_
 simp [a206]
 unfold distB
 generalize hB:distFrom [] l=B
 refine rL_forS [0] 3 l.length (fun i _=>distFrom (l.take i) (l.drop i)=B) hl (by simp) (by simpa using hB) ?_ ?_
 · rintro i st h R hi hg hk s3 hw hJ hh hR hret _
   simp at hk
   rw [List.drop_eq_getElem_cons hi] at hJ
   simp only [distFrom] at hJ
   rw [List.take_append_getElem hi] at hJ
   simp [hk,s3,hi,hg,lowOf,asI]
   intro _
   refine ⟨by omega,?_⟩
   have ht:List.take i (strsR l)=strsR (l.take i):=by simp [strsR]
   first|refine callD_of (ks_l1Has (l.take i) (l[i]'hi)) (by first|(simp [ht];done)|rfl) ?_|refine call_of (ks_l1Has (l.take i) (l[i]'hi)) (by first|(simp [ht];done)|rfl) ?_
   rintro r rfl
   cases hc:hasS (l.take i) l[i]
   · rw [hc] at hJ
     simp at hJ
     simp [hk,s3,hw]
     exact hR _ (by simp [hk]) (by simp) hJ
   · rw [hc] at hJ
     simp at hJ
     simp
     refine hret _ _ _ ?_
     simp [hJ]
 · rintro st h R hk s3 hJ hh _ hX
   simp at hk
   rw [List.drop_eq_nil_of_le (by omega)] at hJ
   simp [hk,s3]
   intro _
   refine hX _ _ ?_
   simp [←hJ,distFrom]
theorem any_notS (l scope:List Str):(l.any fun s => !hasS scope s) = !allS l scope:=by unfold allS; rw [any_not]
theorem pure_allIn {h:Heap} {n id:Nat} {scope:List Str} (x:Str) (hv:h id=some ⟨true,1,[[.sl 1 (strsR scope)]]⟩) (hid:id<n):Pure1 Tryz.prog 279 [] [.ptr id 0 0] h n (.str x) (.bool (!hasS scope x)):=by
 intro K hK
 refine acall_gc ?_
 refine acall_body Tryz.func279 a279_ok rfl (by simp [a279]) ?_
 have n1:¬id=n:=by omega
 simp [a279,hv,n1]
 first|refine callD_of (k_Contains scope x) (by first|(simp;done)|rfl) ?_|refine call_of (k_Contains scope x) (by first|(simp;done)|rfl) ?_
 rintro r rfl
 simp [scal,hK]
theorem k_allIn (l scope:List Str):Holds Tryz.prog 226 [.sl 1 (strsR l),.sl 1 (strsR scope)] (fun r=>r = .bool (allS l scope)):=by
 refine holds_of_run Tryz.func226 a226_ok rfl (by simp [a226]) ?_
 simp [a226]
 refine acall_tContainsFunc (p:=fun s => !hasS scope s) (rowOf:=fun s=>[.str s]) (eltOf:=fun s => .str s) Tryz.func78 a78_ok rfl Tryz.func167 a167_ok rfl (fun x=>by simp) l
   (fun x _=>pure_allIn (scope:=scope) x (by simp) (by omega)) ?_
 rw [any_notS]
 simp
theorem without_drop {l scope:List Str} {i:Nat} (hi:i<l.length):withoutL (l.drop i) scope=(if hasS scope l[i] then [] else [l[i]])++withoutL (l.drop (i+1)) scope:=by
 rw [List.drop_eq_getElem_cons hi]
 unfold withoutL
 rw [List.filter_cons]
 cases hasS scope l[i] <;> simp
theorem ks_Without (l scope:List Str) (hl:l.length≤1048576):Holds Tryz.prog 166 [.sl 1 (strsR l),.sl 1 (strsR scope)] (fun r=>r = .us 1 (strsR (withoutL l scope))):=by
 refine holds_of_run Tryz.func166 a166_ok rfl (by simp [a166]) ?_
 simp [a166]
 generalize hB:withoutL l scope=B
 have hBl:B.length≤l.length:=by rw [←hB]; exact List.length_filter_le _ _
 refine rL_forO [0,1] 6 l.length (fun i s h n=>∃ (acc:List Str) (id:Nat),s 5 = .ref id 0 acc.length∧h id=some ⟨false,1,strsR acc⟩∧id<n∧acc++withoutL (l.drop i) scope=B)
   (by unfold LIM; omega) (by simp) ⟨[],0,by simp,by simp [strsR],by simp,by simpa using hB⟩ ?_ ?_
 · rintro i st h n R hi hg hk s6 hw ⟨acc,id,s5,eid,hidn,hJ⟩ hR _ _
   simp at hk
   rw [without_drop hi] at hJ
   have hal:=congrArg List.length hJ
   simp only [List.length_append] at hal
   simp [hk,s6,hi,hg]
   intro _
   first|refine callD_of (ks_l1Has scope (l[i]'hi)) (by first|(simp;done)|rfl) ?_|refine call_of (ks_l1Has scope (l[i]'hi)) (by first|(simp;done)|rfl) ?_
   rintro r rfl
   have n0:¬id=n:=by omega
   have n1:¬id=n+1:=by omega
   have n2:¬n+1=id:=by omega
   have n3:¬n=id:=by omega
   cases hc:hasS scope l[i]
   · rw [hc] at hJ hal
     simp at hJ hal
     simp [hk,s6,hi,hg,s5,eid,n0,n1,n2,n3,hw]
     refine ⟨by unfold LIM; omega,?_⟩
     exact hR _ _ _ (by simp [hk]) (by simp) ⟨acc++[l[i]],n+1,by simp,by simp [strsR],by omega,by simpa using hJ⟩
   · rw [hc] at hJ
     simp at hJ
     simp [hk,s6,hi,hg,hw]
     exact hR _ _ _ (by simp [hk]) (by simp) ⟨acc,id,by simp [s5],by simp [eid],by omega,hJ⟩
 · rintro st h n R hk s6 ⟨acc,id,s5,eid,hidn,hJ⟩ hret hX
   simp at hk
   rw [List.drop_eq_nil_of_le (by omega)] at hJ
   simp [withoutL] at hJ
   subst hJ
   simp [hk,s6]
   intro _
   refine hX _ _ _ _ ?_
   simp [s5,eid]
end Go.Proofs.YtilcageplifbgaaGreat

namespace Go.Proofs.YtilcageplifbgaaGreat
set_option linter.all false
open Go Go.RowKit Go.Proofs
def a225:AFn:=
⟨55,[.t 2],(.seq
 (.reg [⟨some 1,.boxv (.t 0),no⟩,⟨some 2,.mv (.k (.bool false)),no⟩]) (.seq (.seq
 (.reg [⟨some 5,.fld 0 (.t 1),no⟩,⟨some 6,.ld false 1 (.t 5),no⟩,⟨some 7,.call (.k (.fn (.func 278) [] [])) [.t 6],no⟩,⟨some 8,.un .not (.t 7),no⟩,⟨some 9,.mv (.t 8),no⟩,⟨some 10,.fld 1 (.t 1),(some (9,false))⟩,⟨some 11,.ld false 1 (.t 10),(some (9,false))⟩,⟨some 12,.len false (.t 11),(some (9,false))⟩,⟨some 13,.bin .gtr (.t 12) (.k (.int .i64 4)),(some (9,false))⟩,⟨some 14,.pick (.t 9) (.k (.bool true)) (.t 13),no⟩]) (.cond (.t 14) (.seq
 (.reg [⟨some 2,.mv (.k (.bool false)),no⟩]) .ret) .skip)) (.seq (.seq
 (.reg [⟨some 15,.fld 1 (.t 1),no⟩,⟨some 16,.ld false 1 (.t 15),no⟩,⟨some 17,.len false (.t 16),no⟩,⟨some 18,.mv (.k (.int .i64 0)),no⟩]) (.blk 0 (.loop (.seq
 (.reg [⟨some 19,.bin .lss (.t 18) (.t 17),no⟩]) (.seq (.cond (.t 19) .skip (.exit 0)) (.seq (.blk 1 (.seq
 (.reg [⟨some 20,.mv (.t 18),no⟩,⟨some 21,.ixa 2 (.t 16) (.t 18),no⟩,⟨some 22,.ld true 2 (.t 21),no⟩,⟨some 4,.box [(.int .i64 0),(.str [])],no⟩,⟨some 3,.mv (.t 20),no⟩,⟨no,.st 2 (.t 4) (.t 22),no⟩]) (.seq (.draw (.op ⟨some 23,.fld 0 (.t 4),no⟩ (.op ⟨some 24,.ld false 1 (.t 23),no⟩ (.op ⟨some 25,.bin .eql (.t 24) (.k (.int .i64 0)),no⟩ (.op ⟨some 26,.mv (.t 25),no⟩ (.op ⟨some 27,.fld 0 (.t 4),(some (26,false))⟩ (.op ⟨some 28,.ld false 1 (.t 27),(some (26,false))⟩ (.op ⟨some 29,.call (.k (.fn (.func 278) [] [])) [.t 28],(some (26,false))⟩ (.op ⟨some 30,.un .not (.t 29),(some (26,false))⟩ (.op ⟨some 31,.pick (.t 26) (.k (.bool true)) (.t 30),no⟩ (.op ⟨some 32,.mv (.t 31),no⟩ (.op ⟨some 33,.fld 1 (.t 4),(some (32,false))⟩ (.op ⟨some 34,.ld false 1 (.t 33),(some (32,false))⟩ (.op ⟨some 35,.call (.k (.fn (.func 149) [] [])) [.t 34],(some (32,false))⟩ (.op ⟨some 36,.un .not (.t 35),(some (32,false))⟩ (.op ⟨some 37,.pick (.t 32) (.k (.bool true)) (.t 36),no⟩ (.op ⟨some 38,.mv (.t 37),no⟩ (.op ⟨some 39,.mv (.t 3),(some (38,false))⟩ (.op ⟨some 40,.bin .gtr (.t 39) (.k (.int .i64 0)),(some (38,false))⟩ (.op ⟨some 41,.mv (.t 40),(some (38,false))⟩ (.op ⟨some 42,.fld 1 (.t 1),(some (41,true))⟩ (.op ⟨some 43,.ld false 1 (.t 42),(some (41,true))⟩ (.op ⟨some 44,.mv (.t 3),(some (41,true))⟩ (.op ⟨some 45,.bin .sub (.t 44) (.k (.int .i64 1)),(some (41,true))⟩ (.op ⟨some 46,.ixa 2 (.t 43) (.t 45),(some (41,true))⟩ (.op ⟨some 47,.fld 1 (.t 46),(some (41,true))⟩ (.op ⟨some 48,.ld false 1 (.t 47),(some (41,true))⟩ (.op ⟨some 49,.fld 1 (.t 4),(some (41,true))⟩ (.op ⟨some 50,.ld false 1 (.t 49),(some (41,true))⟩ (.op ⟨some 51,.bin .geq (.t 48) (.t 50),(some (41,true))⟩ (.op ⟨some 52,.pick (.t 41) (.t 51) (.k (.bool false)),(some (38,false))⟩ (.op ⟨some 53,.pick (.t 38) (.k (.bool true)) (.t 52),no⟩ .fin)))))))))))))))))))))))))))))))) (.cond (.t 53) (.seq
 (.reg [⟨some 2,.mv (.k (.bool false)),no⟩]) .ret) .skip))))
 (.reg [⟨some 54,.bin .add (.t 18) (.k (.int .i64 1)),no⟩,⟨some 18,.mv (.t 54),no⟩]))))))) (.seq
 (.reg [⟨some 2,.mv (.k (.bool true)),no⟩]) .ret))))⟩
theorem a225_ok:compFn Tryz.prog Tryz.f225=some a225:=by kernel_rfl
def prevN (l:List DTerm) (i:Nat):Option Str:=if i=0 then Option.none else (l[i - 1]?).map (·.Name)
theorem prevN_succ {l:List DTerm} {i:Nat} (hi:i<l.length):prevN l (i+1)=some (l[i]).Name:=by simp [prevN,hi]
set_option maxRecDepth 20000 in
set_option maxHeartbeats 1000000 in
theorem k_IsValidSum (x:DSum):Holds Tryz.prog 225 [.agg (rASum x)] (fun r=>r = .bool (okSum x)):=by
 refine holds_of_run Tryz.func225 a225_ok rfl (by simp [a225]) ?_
 simp [a225,rASum]
 first|refine callD_of (k_Fits x.Const) (by first|(simp;done)|rfl) ?_|refine call_of (k_Fits x.Const) (by first|(simp;done)|rfl) ?_
 rintro r rfl
 unfold okSum
 cases h1:fits x.Const
 · simp
 simp
 intro hl
 have hd:decide (x.Terms.length≤4)=decide ((x.Terms.length:Int)≤4):=by rw [decide_eq_decide]; omega
 rw [hd]
 by_cases h2:(x.Terms.length:Int)≤4
 case neg=>
   have h2n:¬x.Terms.length≤4:=by omega
   simp [h2,h2n,Int.not_le.1 h2]
 simp [h2,Int.not_lt.2 h2]
 intro _
 generalize hB:termsOk Option.none x.Terms=B
 refine rL_forO [1,16,17] 18 x.Terms.length (fun i s h n=>0<n∧h 0=some ⟨true,2,[[i64 x.Const,.sl 2 (x.Terms.map rATerm)]]⟩∧termsOk (prevN x.Terms i) (x.Terms.drop i)=B) hl (by simp) ⟨by simp,by simp,by simpa [prevN] using hB⟩ ?_ ?_
 · rintro i st h n R hi hg hk s18 hw ⟨hn,e0,hJ⟩ hR hret _
   simp at hk
   rw [List.drop_eq_getElem_cons hi] at hJ
   simp only [termsOk] at hJ
   have z0:¬0=n:=by omega
   refine rC_cut [1,16,17,18] (fun s=>s 19 = .bool true) (by simp [hk,s18,hi]) ?_
   intro st1 hk1 s19
   simp at hk1
   refine rC_pass s19 (rC_seqI (rC_blkI ?_))
   refine rC_cutH [1,16,17,18] (fun s h' n'=>s 3 = .int .i64 i∧s 4 = .ptr n 0 0∧n'=n+1∧h' n=some ⟨true,2,[rATerm x.Terms[i]]⟩∧h' 0=some ⟨true,2,[[i64 x.Const,.sl 2 (x.Terms.map rATerm)]]⟩) (by simp [hk,hk1,s18,hi,rATerm,e0,z0]) ?_
   rintro st2 h2 n2 hk2 ⟨s3,s4,rfl,en,e0'⟩
   simp at hk2
   obtain ⟨bad,hbad⟩:∃ bad,bad=(((x.Terms[i]).Coeff==0 || !fits (x.Terms[i]).Coeff || !intName (x.Terms[i]).Name)||(match prevN x.Terms i with | Option.none=>false | some q => !(Op.bytesLess q (x.Terms[i]).Name))):=⟨_,rfl⟩
   refine rC_cut [1,16,17,18] (fun s=>s 53 = .bool bad) ?_ ?_
   · subst hbad
     by_cases c0:(x.Terms[i]).Coeff=0
     · simp [hk,hk1,hk2,s18,hi,rATerm,e0',en,z0,s3,s4,c0]
     simp [hk,hk1,hk2,s18,hi,rATerm,e0',en,z0,s3,s4,c0]
     first|refine callD_of (k_Fits (x.Terms[i]'hi).Coeff) (by first|(simp;done)|rfl) ?_|refine call_of (k_Fits (x.Terms[i]'hi).Coeff) (by first|(simp;done)|rfl) ?_
     rintro r rfl
     cases c1:fits (x.Terms[i]).Coeff
     · simp [hk,hk1,hk2,s18,hi,rATerm,e0',en,z0,s3,s4]
     simp [hk,hk1,hk2,s18,hi,rATerm,e0',en,z0,s3,s4]
     first|refine callD_of (k_isIntName (x.Terms[i]'hi).Name) (by first|(simp;done)|rfl) ?_|refine call_of (k_isIntName (x.Terms[i]'hi).Name) (by first|(simp;done)|rfl) ?_
     rintro r rfl
     cases c2:intName (x.Terms[i]).Name
     · simp [hk,hk1,hk2,s18,hi,rATerm,e0',en,z0,s3,s4]
     cases i with
     | zero=>simp [hk,hk1,hk2,s18,hi,rATerm,e0',en,z0,s3,s4,prevN,c0,c1,c2]
     | succ i=>
       have hi':i<x.Terms.length:=by omega
       have hwr:IntKind.i64.wrap (i:Int)=i:=wrap64 (by unfold LIM at hl; omega)
       simp [hk,hk1,hk2,s18,hi,hi',rATerm,e0',en,z0,s3,s4,prevN_succ hi',hwr,c0,c1,c2]
   intro st3 hk3 s53
   simp at hk3
   have hJ':(!bad&&termsOk (some (x.Terms[i]).Name) (x.Terms.drop (i+1)))=B:=by
     rw [←hJ,hbad]
     cases ((x.Terms[i]).Coeff==0) <;> cases (fits (x.Terms[i]).Coeff) <;> cases (intName (x.Terms[i]).Name) <;> cases (prevN x.Terms i) <;> simp
   rw [←prevN_succ hi] at hJ'
   clear hJ hbad
   cases bad
   · simp [hk,hk1,hk2,hk3,s18,s53,hw]
     exact hR _ _ _ (by simp [hk,hk1,hk2,hk3]) (by simp) ⟨by omega,by simp [e0'],by simpa using hJ'⟩
   · simp [hk,hk1,hk2,hk3,s18,s53,hw]
     simp at hJ'
     refine hret _ _ _ ?_
     simp [hJ']
 · rintro st h n R hk s18 ⟨hn,e0,hJ⟩ hret hX
   simp at hk
   rw [List.drop_eq_nil_of_le (by omega)] at hJ
   refine rC_cut [1,16,17,18] (fun s=>s 19 = .bool false) (by simp [hk,s18]) ?_
   intro st1 hk1 s19
   simp at hk1
   refine rC_stop s19 ?_
   simp
   refine hX _ _ _ _ ?_
   simp [←hJ,termsOk]
end Go.Proofs.YtilcageplifbgaaGreat

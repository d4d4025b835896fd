/- The program's ModelOf, part by part: conditions, patterns. -/
import Derived.Test.YtoclolkigjbcgaaGreatXV7
import Derived.Test.YtoclolkigjbcgaaGreatXC13
import Derived.Test.YtoclolkigjbcgaaGreatXQ1
import Derived.Test.YtoclolkigjbcgaaGreatXHS3
namespace Go.Proofs.YtoclolkigjbcgaaGreat
set_option maxRecDepth 40000
set_option maxHeartbeats 4000000
open Go Go.RowKit Go.Proofs
set_option linter.all false
section
variable {p:DProgram}{r:DRule}{f:DFunction}{N:Nat}{I:Ids}{ks:List Kt}{s:Env}{h:Heap}{n:Nat}{Q:Fin}
theorem J7o.of {s':Env}(S:J7o I s) (hk:s' 2=s 2∧s' 4=s 4∧s' 6=s 6∧s' 7=s 7∧s' 9=s 9∧s' 12=s 12∧s' 13=s 13∧s' 15=s 15∧s' 16=s 16):J7o I s':=S.keep (by simpa [moK] using hk)
theorem J41.bw {b:Nat}{l:List DLin}{v:AV}(x:J41 b 2 (l.map J08) v h n):Go.Proofs.YtoclolkigjbcgaaGreat.bw v h=some (.sl 2 (l.map J05)):=by
 rcases x with ⟨h1,rfl⟩|⟨i,_,_,rfl,hb⟩
 ·have:l=[]:=by simpa using h1
  subst this;simp
 ·simp [hb,List.take_of_length_le]
def Jr3 (N:Nat) (l:List DLin) (i:Nat):List DLin:=(l.take i).map (J4g N)
theorem Jt2 {l:List DLin}{i:Nat}(hi:i<l.length):Jr3 N l (i+1)=Jr3 N l i++[J4g N (l[i]'hi)]:=by unfold Jr3;rw [List.take_succ_eq_append_getElem hi,List.map_append];rfl
theorem Jtt {l:List DLin} : Jr3 N l l.length=l.map (J4g N):=by unfold Jr3;rw [List.take_length]
theorem Jtr {ma:MS}(S:J7o I s) (M:MI p r f N I ma h n) (hl2:f.Pre.length≤2) (hr2:ma.rows.length≤100) (hpl:∀ l∈f.Pre,J0s l ma.pars N=some (J4g N l)) (hwl:∀ l∈f.Pre,(J4g N l).Coeffs.length≤1048576)
 (hK:∀ s' h' n',J7o I s'→MI p r f N I (J0y ma (f.Pre.map (J4g N))) h' n'→J2u Tryz.prog ks .normal s' h' n' Q):rC Tryz.prog K9s ks s h n Q:=by
 have S0:=S
 obtain ⟨s2,s4,s6,s7,s9,s12,s13,s15,s16⟩:=S0
 simp [K9s,s7,M.hf,M.h4]
 intro _
 refine J0l [2,4,6,7,9,12,13,15,16,114,115] 116 f.Pre.length (fun i s' h' n'=>MI p r f N I (J0y ma (Jr3 N f.Pre i)) h' n') (by unfold LIM;omega) (by simp) (by simpa [J0y,Jr3] using M) ?_ ?_
 ·rintro i st h' m R hi hg hk s116 hw M hR _ _
  simp at hk
  rw [Jt2 hi] at hR
  have hpl:=hpl _ (List.getElem_mem hi)
  have hwl:=hwl _ (List.getElem_mem hi)
  refine J0i [2,4,6,7,9,12,13,15,16,114,115,116] (fun s=>s 117 = .bool true) (by simp [hk,s116,hi]) ?_
  intro st1 hk1 s117
  simp at hk1
  refine J3x s117 (J0b (J1h ?_))
  refine J1n [2,4,6,7,9,12,13,15,16,114,115,116] (fun s h' n'=>∃ k,s 21 = .ptr k 0 0∧k<n'∧h' k=some ⟨true,2,[J05 (f.Pre[i]'hi)]⟩∧MI p r f N I (J0y ma (Jr3 N f.Pre i)) h' n') ?_ ?_
  ·have fr:∀ id,id<m→¬id=m:=by intro id _;omega
   simp [hk1,hk,s116,hi,M.h4]
   exact M.frame (by omega) fun id hid=>by simp [fr id hid]
  rintro st2 h2 n2 hk2 ⟨k,s21,hkn,hkb,M2⟩
  simp at hk2
  generalize f.Pre[i]=l at *
  generalize hms:J0y ma (Jr3 N f.Pre i)=ms at *
  have hmp:ms.pars=ma.pars:=by rw [←hms];rfl
  have hmr:ms.rows.length≤102:=by rw [←hms];simp [J0y,Jr3];omega
  obtain ⟨vR,vP,vA,g1,g2,g3,g4,g6,g5⟩:=M2.acc
  have hbP:=g3.bw
  rw [hmp] at hbP
  refine J1n [2,4,6,7,9,12,13,15,16,114,115,116] (fun s h' n'=>s 23 = .bool true∧∃ k,s 22 = .ptr k 0 0∧J67 (J4g N l) k h' n'∧MI p r f N I ms h' n') ?_ ?_
  ·have fr:∀ id,id<n2→¬id=n2∧¬id=n2+1:=by intro id _;omega
   have S2:J7o I st2:=S.of (by simp [hk2,hk1,hk])
   obtain ⟨t2,t4,t6,t7,t9,t12,t13,t15,t16⟩:=S2
   simp [s21,hkb,t12,g1,J5q,t9,M2.hn]
   first|refine J01 (J3f l ma.pars N) (by first|simp [J05,hbP];done|rfl) ?_|refine J02 (J3f l ma.pars N) (by first|simp [J05,hbP];done|rfl) ?_
   rintro r rfl
   rw [hpl]
   simp [J18,J08]
   exact ⟨⟨n2,by omega,by omega,by simp,by simp⟩,M2.frame (by omega) fun id hid=>by simp [fr id hid]⟩
  rintro st3 h3 n3 hk3 ⟨s23,k3,s22,L3,M3⟩
  simp at hk3
  have S3:J7o I st3:=S.of (by simp [hk3,hk2,hk1,hk])
  obtain ⟨t2,t4,t6,t7,t9,t12,t13,t15,t16⟩:=S3
  obtain ⟨q,hkn,hqn,hkb,hqb⟩:=L3
  simp [s23,t16,s22,hkb]
  refine J9w M3 (l:=J4g N l) (q:=q) hwl hqn hqb (by omega) ?_
  intro h6 n6 hn6 _ M6
  simp [hk3,hk2,hk1,hk,s116,hw]
  refine hR _ _ _ (by simp [hk3,hk2,hk1,hk]) (by simp) ?_
  have:Jjy ms (J4g N l)=J0y ma (Jr3 N f.Pre i++[J4g N l]):=by rw [←hms];simp [Jjy,J0y]
  rw [←this];exact M6
 ·rintro st h' m R hk s116 M _ hX
  simp at hk
  rw [Jtt] at M
  refine J0i [2,4,6,7,9,12,13,15,16] (fun s=>s 117 = .bool false) (by simp [hk,s116]) ?_
  intro st1 hk1 s117
  simp at hk1
  refine J3s s117 ?_
  refine hX _ _ _ _ ?_
  simp
  exact hK _ _ _ (S.of (by simp [hk1,hk])) M
theorem Jck.bw2 {d:Nat}{E:SEnv}(M:Jck d E h n) (x:Str):∃ rows w,h d=some ⟨true,0,rows⟩∧(J99 rows x).getD (.agg [.int .i64 0,.nil 1]) = .agg [.int .i64 (J38 J1g E x).Const,w] ∧
 ∀ h',(∀ id,id<n→h' id=h id)→Go.Proofs.YtoclolkigjbcgaaGreat.bw w h'=some (.sl 1 (J0m (J38 J1g E x).Coeffs)):=by
 obtain ⟨rows,w,h1,h2,h3⟩:=M.get2 x
 refine ⟨rows,w,h1,h2,fun h' hh => ?_⟩
 rcases h3 with ⟨rfl,hc⟩|⟨q,hq,rfl,hb⟩
 ·rw [hc];rfl
 ·rw [←hh q hq] at hb
  simp [hb]
theorem Jrm {ms:MS}{q:DPattern}{k:Nat}(s9:s 9 = .ptr 6 0 0) (s13:s 13 = .ptr I.s 0 0) (s25:s 25 = .ptr k 0 0) (M:MI p r f N I ms h n) (hkb:h k=some ⟨true,4,[J07 q]⟩)
 (hK:∀ s' h' n',(∀ j,j<145→j≠26→j≠27→s' j=s j)→(∃ k,s' 26 = .ptr k 0 0∧J67 (J8m (J09 0 N) (-1) (J38 J1g ms.E q.Lst)) k h' n')→MI p r f N I ms h' n'→J2u Tryz.prog ks .normal s' h' n' Q):rC Tryz.prog K00 ks s h n Q:=by
 obtain ⟨l1,l2,l3,l4,l5⟩:=M.lt
 obtain ⟨rows,w,hdr,hv,hbw⟩:=M.map.bw2 q.Lst
 have fr:∀ id,id<n→¬id=n∧¬id=n+1∧¬id=n+1+1∧¬id=n+2:=by intro id _;omega
 have hb1:∀ x,Go.Proofs.YtoclolkigjbcgaaGreat.bw w (upd h n x)=some (.sl 1 (J0m (J38 J1g ms.E q.Lst).Coeffs)):=fun x=>hbw _ fun id hid=>by simp [fr id hid]
 have hb2:∀ x y,Go.Proofs.YtoclolkigjbcgaaGreat.bw w (upd (upd h n x) (n+1) y)=some (.sl 1 (J0m (J38 J1g ms.E q.Lst).Coeffs)):=fun x y=>hbw _ fun id hid=>by simp [fr id hid]
 have kp:∀ j,j<145→¬j=145∧¬j=146∧¬j=147∧¬j=148∧¬j=149∧¬j=150∧¬j=151∧¬j=152∧¬j=153∧¬j=154:=by intro j _;omega
 have ne:¬n=n+1∧¬n+1=n∧¬n=n+1+1∧¬n+1+1=n∧¬n+1=n+1+1∧¬n+1+1=n+1:=by omega
 simp [K00,s9,s13,s25,M.hn,M.hmp,hkb,hdr,J07,hv]
 constructor
 ·skip
  first|refine J01 (J27 0 N) (by first|simp;done|rfl) ?_|refine J02 (J27 0 N) (by first|simp;done|rfl) ?_
  rintro r rfl
  simp [J08,ne]
  constructor
  ·skip
   first|refine J01 (J22 (J09 0 N) (-1) (J38 J1g ms.E q.Lst)) (by first|simp [J05,hb1];done|rfl) ?_|refine J02 (J22 (J09 0 N) (-1) (J38 J1g ms.E q.Lst)) (by first|simp [J05,hb1];done|rfl) ?_
   rintro r rfl
   rw [J0u]
   have hadd:(J0j (J09 0 N) (-1) (J38 J1g ms.E q.Lst)).getD J1g=J8m (J09 0 N) (-1) (J38 J1g ms.E q.Lst):=rfl
   rw [hadd]
   generalize J8m (J09 0 N) (-1) (J38 J1g ms.E q.Lst)=l at *
   simp [J08,ne]
   refine hK _ _ _ (fun j hj h26 h27=>by simp [kp j hj,h26,h27]) ⟨n+2,by simp,n+1,by omega,by omega,by simp [ne],by simp [ne]⟩ (M.frame (by omega) fun id hid=>by simp [fr id hid])
  ·skip
   first|refine J01 (J22 (J09 0 N) (-1) (J38 J1g ms.E q.Lst)) (by first|simp [J05,hb2,ne];done|rfl) ?_|refine J02 (J22 (J09 0 N) (-1) (J38 J1g ms.E q.Lst)) (by first|simp [J05,hb2,ne];done|rfl) ?_
   rintro r rfl
   rw [J0u]
   have hadd:(J0j (J09 0 N) (-1) (J38 J1g ms.E q.Lst)).getD J1g=J8m (J09 0 N) (-1) (J38 J1g ms.E q.Lst):=rfl
   rw [hadd]
   generalize J8m (J09 0 N) (-1) (J38 J1g ms.E q.Lst)=l at *
   simp [J08,ne]
   refine hK _ _ _ (fun j hj h26 h27=>by simp [kp j hj,h26,h27]) ⟨n+1,by simp,n+2,by omega,by omega,by simp [ne],by simp [ne]⟩ (M.frame (by omega) fun id hid=>by simp [fr id hid])
 ·skip
  first|refine J01 (J27 0 N) (by first|simp;done|rfl) ?_|refine J02 (J27 0 N) (by first|simp;done|rfl) ?_
  rintro r rfl
  simp [J08,ne]
  ·skip
   first|refine J01 (J22 (J09 0 N) (-1) (J38 J1g ms.E q.Lst)) (by first|simp [J05,hb2,ne];done|rfl) ?_|refine J02 (J22 (J09 0 N) (-1) (J38 J1g ms.E q.Lst)) (by first|simp [J05,hb2,ne];done|rfl) ?_
   rintro r rfl
   rw [J0u]
   have hadd:(J0j (J09 0 N) (-1) (J38 J1g ms.E q.Lst)).getD J1g=J8m (J09 0 N) (-1) (J38 J1g ms.E q.Lst):=rfl
   rw [hadd]
   generalize J8m (J09 0 N) (-1) (J38 J1g ms.E q.Lst)=l at *
   simp [J08,ne]
   refine hK _ _ _ (fun j hj h26 h27=>by simp [kp j hj,h26,h27]) ⟨n,by simp,n+2,by omega,by omega,by simp [ne],by simp [ne]⟩ (M.frame (by omega) fun id hid=>by simp [fr id hid])
end
section
variable {p:DProgram}{r:DRule}{f:DFunction}{N:Nat}{I:Ids}{ks:List Kt}{s:Env}{h:Heap}{n:Nat}{Q:Fin}
theorem J9u {a b:DLin}{k:Int} : (J8m a k b).Coeffs.length≤8:=by
 unfold J8m
 cases ha:J0j a k b with
 | none=>simp [J1g]
 | some o=>
  have h1:=(J6e ha).1
  unfold J0j at ha
  split at ha
  ·rename_i hc
   simp only [Bool.and_eq_true] at hc
   have h2:=J1z hc.1.1.1.1
   simp only [Option.getD_some];omega
  ·cases ha
theorem Jsh {a:DLin}{k:Int} : ((Jbs a k).getD J1g).Coeffs.length≤8:=by
 unfold Jbs
 split
 ·rename_i hc
  simp only [Bool.and_eq_true] at hc
  have h2:=J1z hc.2
  simp only [Option.getD_some];omega
 ·simp [J1g]
theorem MI.ne_m {ms:MS}(M:MI p r f N I ms h n) {k z:Nat}{rows:List (List AV)}(hk:h k=some ⟨true,z,rows⟩) (hz:z≠6):k≠I.m:=by
 rintro rfl
 obtain ⟨vR,vP,vA,g1,_⟩:=M.acc
 rw [hk] at g1;simp at g1;exact hz g1.1
theorem MI.ne_d {ms:MS}(M:MI p r f N I ms h n) {k z:Nat}{rows:List (List AV)}(hk:h k=some ⟨true,z,rows⟩) (hz:z≠0):k≠I.d:=by
 rintro rfl
 obtain ⟨es,_,g1,_⟩:=M.map
 rw [hk] at g1;simp at g1;exact hz g1.1
theorem MI.ne_x {ms:MS}(M:MI p r f N I ms h n) {k z:Nat}{rows:List (List AV)}(hk:h k=some ⟨true,z,rows⟩) (hz:z≠1):k≠I.x:=by
 rintro rfl
 rw [M.hnx] at hk;simp at hk;exact hz hk.1.symm
theorem Jva {ma:MS}(S:J7o I s) (M:MI p r f N I ma h n) (hl2:r.Patterns.length≤2) (hx2:ma.nx≤100) (hr2:ma.rows.length≤100) (hN:N≤8)
 (hK:∀ s' h' n',J7o I s'→MI p r f N I (r.Patterns.foldl (Jd4 N) ma) h' n'→J2u Tryz.prog ks .normal s' h' n' Q):rC Tryz.prog Kab ks s h n Q:=by
 have S0:=S
 obtain ⟨s2,s4,s6,s7,s9,s12,s13,s15,s16⟩:=S0
 simp [Kab,s6,M.hr,J0c]
 intro _
 generalize hT:r.Patterns.foldl (Jd4 N) ma=T at hK
 refine J0l [2,4,6,7,9,12,13,15,16,136,137] 138 r.Patterns.length (fun i s' h' n'=>∃ ms:MS,MI p r f N I ms h' n'∧(r.Patterns.drop i).foldl (Jd4 N) ms=T∧ms.nx≤100+i∧ms.rows.length≤100+i) (by unfold LIM;omega) (by simp)
  ⟨_,M,by simpa using hT,by omega,by omega⟩ ?_ ?_
 ·rintro i st h' m R hi hg hk s138 hw ⟨ms,M,hJ,hb1,hb2⟩ hR _ _
  simp at hk
  rw [List.drop_eq_getElem_cons hi,List.foldl_cons] at hJ
  obtain ⟨l1,l2,l3,l4,l5⟩:=M.lt
  refine J0i [2,4,6,7,9,12,13,15,16,136,137,138] (fun s=>s 139 = .bool true) (by simp [hk,s138,hi]) ?_
  intro st1 hk1 s139
  simp at hk1
  refine J3x s139 (J0b (J1h ?_))
  refine J1n [2,4,6,7,9,12,13,15,16,136,137,138] (fun s h' n'=>∃ k,s 25 = .ptr k 0 0∧k<n'∧h' k=some ⟨true,4,[J07 (r.Patterns[i]'hi)]⟩∧MI p r f N I ms h' n') ?_ ?_
  ·have fr:∀ id,id<m→¬id=m:=by intro id _;omega
   simp [hk1,hk,s138,hi,J07]
   exact M.frame (by omega) fun id hid=>by simp [fr id hid]
  rintro st2 h2 n2 hk2 ⟨k,s25,hkn,hkb,M2⟩
  simp at hk2
  generalize r.Patterns[i]=q at *
  have S2:J7o I st2:=S.of (by simp [hk2,hk1,hk])
  obtain ⟨t2,t4,t6,t7,t9,t12,t13,t15,t16⟩:=S2
  have kk:∀ j∈[2,4,6,7,9,12,13,15,16,136,137,138],st2 j=st j:=by simp [hk2,hk1]
  simp at kk
  cases hc:q.Cons
  ·have hiP:Jd4 N ms q=Jjy ms (J8m (J09 0 N) (-1) (J38 J1g ms.E q.Lst)):=by unfold Jd4;rw [hc];rfl
   rw [hiP] at hJ
   refine J0b ?_
   refine J0i [2,4,6,7,9,12,13,15,16,136,137,138,25] (fun s=>s 144 = .bool true) (by simp [s25,hkb,J07,hc]) ?_
   intro st3 hk3 s144
   simp at hk3
   rw [Jjg (show ev st3 (.t 144) = .bool true from s144)]
   refine J0b (Jrm (q:=q) (k:=k) (by rw [hk3.2.2.2.2.1,t9]) (by rw [hk3.2.2.2.2.2.2.1,t13]) (by rw [hk3.2.2.2.2.2.2.2.2.2.2.2.2,s25]) M2 hkb ?_)
   rintro st4 h4 n4 hk4 ⟨k4,s26,q4,hkn4,hqn4,hkb4,hqb4⟩ M4
   have kp:∀ j∈[2,4,6,7,9,12,13,15,16,136,137,138],st4 j=st j:=by
    simp [hk4 2 (by omega) (by omega) (by omega),hk4 4 (by omega) (by omega) (by omega),hk4 6 (by omega) (by omega) (by omega),hk4 7 (by omega) (by omega) (by omega),hk4 9 (by omega) (by omega) (by omega),hk4 12 (by omega) (by omega) (by omega),hk4 13 (by omega) (by omega) (by omega),hk4 15 (by omega) (by omega) (by omega),hk4 16 (by omega) (by omega) (by omega),hk4 136 (by omega) (by omega) (by omega),hk4 137 (by omega) (by omega) (by omega),hk4 138 (by omega) (by omega) (by omega),hk3,kk]
   simp at kp
   have u16:st4 16 = .fn (.func 204) [] [.ptr I.m 0 0]:=by rw [kp.2.2.2.2.2.2.2.2.1,←kk.2.2.2.2.2.2.2.2.1,t16]
   refine J6b ?_
   simp [u16,s26,hkb4]
   refine J9w M4 (q:=q4) (by have:=J9u (a:=J09 0 N) (k := -1) (b:=J38 J1g ms.E q.Lst);omega) hqn4 hqb4 (by omega) ?_
   intro h6 n6 hn6 _ M6
   simp [kp,s138,hw]
   exact hR _ _ _ (by simp [kp,hk]) (by simp) ⟨_,M6,hJ,by show ms.nx≤_;omega,by show (ms.rows++[_]).length≤_;simp;omega⟩
  ·have hlx:(J37 ms.nx N).Coeffs.length≤8:=J6u N (by omega)
   have hiP:Jd4 N ms q=Jjy (Jj3 (Jj3 ms q.Head (J37 ms.nx N) (ms.nx+1)) q.Tail (Jp9 N ms q) (ms.nx+1)) (Jp9 N ms q):=by unfold Jd4;rw [hc];rfl
   rw [hiP] at hJ
   refine J0b ?_
   refine J0i [2,4,6,7,9,12,13,15,16,136,137,138,25] (fun s=>s 144 = .bool false) (by simp [s25,hkb,J07,hc]) ?_
   intro st3 hk3 s144
   simp at hk3
   rw [Jno (show ev st3 (.t 144) = .bool false from s144),Jrv]
   refine J6b ?_
   have e25:st3 25 = .ptr k 0 0:=by rw [hk3.2.2.2.2.2.2.2.2.2.2.2.2,s25]
   have e15:st3 15 = .fn (.func 202) [] [.ptr I.x 0 0,.ptr 6 0 0,.ptr I.s 0 0]:=by rw [hk3.2.2.2.2.2.2.2.1,t15]
   have nd:=M2.ne_d hkb (by omega)
   have nx:=M2.ne_x hkb (by omega)
   refine J1n [2,4,6,7,9,12,13,15,16,136,137,138,25] (fun s h' n'=>MI p r f N I (Jj3 ms q.Head (J37 ms.nx N) (ms.nx+1)) h' n'∧k<n'∧h' k=some ⟨true,4,[J07 q]⟩) ?_ ?_
   ·simp [e25,e15,hkb,J07]
    refine Jcy M2 q.Head (by omega) ?_
    intro q' h1 n1 hq hq1 hfr hqb M1
    simp
    exact ⟨M1,by omega,by rw [hfr k hkn nd nx,hkb];rfl⟩
   rintro st4 h4 n4 hk4 ⟨M4,hkn4,hkb4⟩
   simp at hk4
   have e13:st4 13 = .ptr I.s 0 0:=by rw [hk4.2.2.2.2.2.2.1,hk3.2.2.2.2.2.2.1,t13]
   have f25:st4 25 = .ptr k 0 0:=by rw [hk4.2.2.2.2.2.2.2.2.2.2.2.2,e25]
   have hpE:(Jj3 ms q.Head (J37 ms.nx N) (ms.nx+1)).E=Jzs N ms q:=rfl
   refine J1n [2,4,6,7,9,12,13,15,16,136,137,138,25] (fun s h' n'=>MI p r f N I (Jj3 ms q.Head (J37 ms.nx N) (ms.nx+1)) h' n'∧k<n'∧h' k=some ⟨true,4,[J07 q]⟩∧∃ k,s 28 = .ptr k 0 0∧J67 (Jp9 N ms q) k h' n') ?_ ?_
   ·obtain ⟨rows,w,hdr,hv,hbw⟩:=M4.map.get q.Lst
    rw [hpE] at hv hbw
    simp [e13,f25,hkb4,J07,M4.hmp,hdr,hv]
    first|refine J01 (Jnd (J38 J1g (Jzs N ms q) q.Lst) (-1)) (by first|simp [J05,hbw];done|rfl) ?_|refine J02 (Jnd (J38 J1g (Jzs N ms q) q.Lst) (-1)) (by first|simp [J05,hbw];done|rfl) ?_
    rintro r rfl
    rw [J0u,show (Jbs (J38 J1g (Jzs N ms q) q.Lst) (-1)).getD J1g=Jp9 N ms q from rfl]
    generalize Jp9 N ms q=l at *
    have fr:∀ id,id<n4→¬id=n4∧¬id=n4+1:=by intro id _;omega
    have ne:¬n4=n4+1∧¬n4+1=n4:=by omega
    simp [J08,ne]
    exact ⟨M4.frame (by omega) fun id hid=>by simp [fr id hid],by omega,by simp [fr k hkn4,hkb4,J07],n4,by omega,by omega,by simp,by simp [ne]⟩
   rintro st5 h5 n5 hk5 ⟨M5,hkn5,hkb5,k5,s28,q5,w5,b5,c5,d5⟩
   simp at hk5
   have g13:st5 13 = .ptr I.s 0 0:=by rw [hk5.2.2.2.2.2.2.1,e13]
   have g25:st5 25 = .ptr k 0 0:=by rw [hk5.2.2.2.2.2.2.2.2.2.2.2.2,f25]
   have hpl8:(Jp9 N ms q).Coeffs.length≤8:=Jsh
   refine J1n [2,4,6,7,9,12,13,15,16,136,137,138,28] (fun s h' n'=>MI p r f N I (Jj3 (Jj3 ms q.Head (J37 ms.nx N) (ms.nx+1)) q.Tail (Jp9 N ms q) (ms.nx+1)) h' n'∧J67 (Jp9 N ms q) k5 h' n') ?_ ?_
   ·obtain ⟨es,hE,hd,hes⟩:=M5.map
    have n5d:=M5.ne_d c5 (by omega)
    have n5x:=M5.ne_x c5 (by omega)
    have q5d:¬q5=I.d:=by rintro rfl;rw [d5] at hd;simp at hd
    have ldx:¬I.x=I.d:=by omega
    simp [g13,g25,hkb5,J07,M5.hmp,s28,c5,hd]
    refine ⟨M5.upd_map (x:=q.Tail) (l:=Jp9 N ms q) (q:=q5) rfl rfl rfl rfl (Nat.le_refl _) b5 (by simp [q5d,d5]) (by simp [ldx,M5.hnx,Jj3]) (fun id hid h1 h2=>by simp [h1]) ?_,q5,w5,b5,by simp [n5d,c5],by simp [q5d,d5]⟩
    intro es' hd'
    rw [hd] at hd'
    simp only [Option.some.injEq,Blk.mk.injEq,true_and] at hd'
    rw [←Jfk,←hd']
    simp [Jjp]
   rintro st6 h6 n6 hk6 ⟨M6,q6,w6,b6,c6,d6⟩
   simp at hk6
   have g16:st6 16 = .fn (.func 204) [] [.ptr I.m 0 0]:=by rw [hk6.2.2.2.2.2.2.2.2.1,hk5.2.2.2.2.2.2.2.2.1,hk4.2.2.2.2.2.2.2.2.1,hk3.2.2.2.2.2.2.2.2.1,t16]
   have g28:st6 28 = .ptr k5 0 0:=by rw [hk6.2.2.2.2.2.2.2.2.2.2.2.2,s28]
   simp [g16,g28,c6]
   refine J9w M6 (q:=q6) (by omega) b6 d6 (by show ms.rows.length≤_;omega) ?_
   intro h7 n7 hn7 _ M7
   simp [hk6,hk5,hk4,hk3,kk,s138,hw]
   exact hR _ _ _ (by simp [hk6,hk5,hk4,hk3,kk,hk]) (by simp) ⟨_,M7,hJ,by show ms.nx+1≤_;omega,by show (ms.rows++[_]).length≤_;simp;omega⟩
 ·rintro st h' m R hk s138 ⟨ms,M,hJ,hb1,hb2⟩ _ hX
  simp at hk
  rw [List.drop_eq_nil_of_le (by omega)] at hJ
  simp only [List.foldl_nil] at hJ
  subst hJ
  refine J0i [2,4,6,7,9,12,13,15,16] (fun s=>s 139 = .bool false) (by simp [hk,s138]) ?_
  intro st1 hk1 s139
  simp at hk1
  refine J3s s139 ?_
  refine hX _ _ _ _ ?_
  simp
  exact hK _ _ _ (S.of (by simp [hk1,hk])) M
end
section
variable {p:DProgram}{r:DRule}{f:DFunction}{N:Nat}{I:Ids}{ks:List Kt}{s:Env}{h:Heap}{n:Nat}{Q:Fin}
theorem J7g (c:Int) (n:Int):(J09 c n).Coeffs.length≤8:=by
 unfold J09
 split
 ·rename_i h
  simp [inR] at h
  simp;omega
 ·simp
theorem Jol {E:SEnv}{x:DSum} : (Jh3 E N x).Coeffs.length≤8:=by
 unfold Jh3
 have:∀ (ts:List DTerm) (o:DLin),o.Coeffs.length≤8→(ts.foldl (fun o t=>J8m o t.Coeff (J38 J1g E t.Name)) o).Coeffs.length≤8:=by
  intro ts
  induction ts with
  | nil=>intro o h;exact h
  | cons t ts ih=>intro o _;exact ih _ J9u
 exact this _ _ (J7g _ _)
theorem Juz {E:SEnv}{x:DArg} : (Jhx E N x).Coeffs.length≤8:=by
 unfold Jhx
 split
 ·split
  ·exact J7g _ _
  ·exact J9u
 ·exact Jol
def gdL (E:SEnv) (N:Nat) (l:List DSum) (i:Nat):List DLin:=(l.take i).map (Jh3 E N)
theorem Jwc {E:SEnv}{l:List DSum}{i:Nat}(hi:i<l.length):gdL E N l (i+1)=gdL E N l i++[Jh3 E N (l[i]'hi)]:=by unfold gdL;rw [List.take_succ_eq_append_getElem hi,List.map_append];rfl
theorem Jxw {E:SEnv}{l:List DSum} : gdL E N l l.length=l.map (Jh3 E N):=by unfold gdL;rw [List.take_length]
theorem Jvn {ma:MS}(S:J7o I s) (M:MI p r f N I ma h n) (hl2:r.Guards.length≤2) (hr2:ma.rows.length≤1000) (hts:∀ g∈r.Guards,g.Terms.length≤1048576)
 (hK:∀ s' h' n',J7o I s'→MI p r f N I (J0y ma (r.Guards.map (Jh3 ma.E N))) h' n'→J2u Tryz.prog ks .normal s' h' n' Q):rC Tryz.prog K9o ks s h n Q:=by
 have S0:=S
 obtain ⟨s2,s4,s6,s7,s9,s12,s13,s15,s16⟩:=S0
 simp [K9o,s6,M.hr,J0c]
 intro _
 refine J0l [2,4,6,7,9,12,13,15,16,179,180] 181 r.Guards.length (fun i s' h' n'=>MI p r f N I (J0y ma (gdL ma.E N r.Guards i)) h' n') (by unfold LIM;omega) (by simp) (by simpa [J0y,gdL] using M) ?_ ?_
 ·rintro i st h' m R hi hg hk s181 hw M hR _ _
  simp at hk
  rw [Jwc hi] at hR
  have hts:=hts _ (List.getElem_mem hi)
  refine J0i [2,4,6,7,9,12,13,15,16,179,180,181] (fun s=>s 182 = .bool true) (by simp [hk,s181,hi]) ?_
  intro st1 hk1 s182
  simp at hk1
  refine J3x s182 (J0b (J1h ?_))
  refine J1n [2,4,6,7,9,12,13,15,16,179,180,181] (fun s h' n'=>∃ k,s 31 = .ptr k 0 0∧k<n'∧h' k=some ⟨true,2,[J1j (r.Guards[i]'hi)]⟩∧MI p r f N I (J0y ma (gdL ma.E N r.Guards i)) h' n') ?_ ?_
  ·have fr:∀ id,id<m→¬id=m:=by intro id _;omega
   simp [hk1,hk,s181,hi,J1j]
   exact M.frame (by omega) fun id hid=>by simp [fr id hid]
  rintro st2 h2 n2 hk2 ⟨k,s31,hkn,hkb,M2⟩
  simp at hk2
  generalize r.Guards[i]=g at *
  generalize hms:J0y ma (gdL ma.E N r.Guards i)=ms at *
  have hmE:ms.E=ma.E:=by rw [←hms];rfl
  have hmr:ms.rows.length≤1002:=by rw [←hms];simp [J0y,gdL];omega
  obtain ⟨l1,l2,l3,l4,l5⟩:=M2.lt
  have S2:J7o I st2:=S.of (by simp [hk2,hk1,hk])
  obtain ⟨t2,t4,t6,t7,t9,t12,t13,t15,t16⟩:=S2
  simp [t16,t13,M2.hmp,s31,hkb,t9,M2.hn]
  refine Jdq (E:=ma.E) hts (by rw [←hmE];exact M2.map) (by omega) ?_
  intro q h3 n3 hq hqn hfr hqb
  simp [Jjp]
  have M3:=M2.frame (h':=h3) (n':=n3) (by omega) hfr
  have hs8:(Jh3 ma.E N g).Coeffs.length≤8:=Jol
  refine J9w M3 (q:=q) (by omega) hqn hqb (by omega) ?_
  intro h6 n6 hn6 _ M6
  simp [hk2,hk1,hk,s181,hw]
  refine hR _ _ _ (by simp [hk2,hk1,hk]) (by simp) ?_
  have:Jjy ms (Jh3 ma.E N g)=J0y ma (gdL ma.E N r.Guards i++[Jh3 ma.E N g]):=by rw [←hms];simp [Jjy,J0y]
  rw [←this];exact M6
 ·rintro st h' m R hk s181 M _ hX
  simp at hk
  rw [Jxw] at M
  refine J0i [2,4,6,7,9,12,13,15,16] (fun s=>s 182 = .bool false) (by simp [hk,s181]) ?_
  intro st1 hk1 s182
  simp at hk1
  refine J3s s182 ?_
  refine hX _ _ _ _ ?_
  simp
  exact hK _ _ _ (S.of (by simp [hk1,hk])) M
theorem Jrw {ms:MS}{c:DCall}{k:Nat}(s9:s 9 = .ptr 6 0 0) (s13:s 13 = .ptr I.s 0 0) (s33:s 33 = .ptr k 0 0) (s34:s 34 = .nil 2) (M:MI p r f N I ms h n) (hkn:k<n) (hkb:h k=some ⟨true,3,[J14 c]⟩)
 (hal:c.Args.length≤1048576) (hts:∀ a∈c.Args,∀ x∈a.Heads,x.Terms.length≤1048576) (hne:∀ a∈c.Args,a.Lst=false→0<a.Heads.length)
 (hK:∀ s' h' n',(∀ j∈[2,4,6,7,9,12,13,15,16,193,194,195,33],s' j=s j)→n≤n'→(∀ id,id<n→h' id=h id)→J41 (n - 1) 2 ((c.Args.map (Jhx ms.E N)).map J08) (s' 34) h' n'→J2u Tryz.prog ks .normal s' h' n' Q):rC Tryz.prog Jzq ks s h n Q:=by
 obtain ⟨l1,l2,l3,l4,l5⟩:=M.lt
 simp [Jzq,s33,hkb,J14]
 intro _
 generalize hT:c.Args.map (Jhx ms.E N)=T at hK
 have hTl:T.length≤1048576:=by rw [←hT];simpa using hal
 have hTl2:∀ i,i≤c.Args.length→∀ acc:List DLin,acc++(c.Args.drop i).map (Jhx ms.E N)=T→acc.length≤1048576:=by
  intro i _ acc h
  have:=congrArg List.length h
  simp at this;omega
 refine J0l [2,4,6,7,9,12,13,15,16,193,194,195,33,200,201] 202 c.Args.length (fun i s' h' n'=>n≤n'∧(∀ id,id<n→h' id=h id)∧∃ acc:List DLin,J41 (n - 1) 2 (acc.map J08) (s' 34) h' n'∧acc++(c.Args.drop i).map (Jhx ms.E N)=T) (by unfold LIM;omega) (by simp)
  ⟨Nat.le_refl _,fun _ _=>rfl,[],.inl (by simp [s34]),by simpa using hT⟩ ?_ ?_
 ·rintro i st h' m R hi hg hk s202 hw ⟨hm,hfr,acc,hA,hJ⟩ hR _ _
  have hal2:=hTl2 i (by omega) acc hJ
  simp at hk
  rw [List.drop_eq_getElem_cons hi,List.map_cons] at hJ
  have hts:=hts _ (List.getElem_mem hi)
  have hne:=hne _ (List.getElem_mem hi)
  refine J0i [2,4,6,7,9,12,13,15,16,193,194,195,33,200,201,202,34] (fun s=>s 203 = .bool true) (by simp [hk,s202,hi]) ?_
  intro st1 hk1 s203
  simp at hk1
  refine J3x s203 (J0b (J1h ?_))
  refine J1n [2,4,6,7,9,12,13,15,16,193,194,195,33,200,201,202,34] (fun s h2 n2=>n2=m+1∧s 36 = .ptr m 0 0∧h2 m=some ⟨true,3,[J15 (c.Args[i]'hi)]⟩∧∀ id,id<m→h2 id=h' id) ?_ ?_
  ·have fr:∀ id,id<m→¬id=m:=by intro id _;omega
   simp [hk1,hk,s202,hi,J15]
   exact fun id hid=>by simp [fr id hid]
  rintro st2 h2 n2 hk2 ⟨rfl,s36,em,hfr2⟩
  simp at hk2
  generalize c.Args[i]=x at *
  have M2:=M.frame (h':=h2) (n':=m+1) (by omega) fun id hid=>by rw [hfr2 id (by omega),hfr id hid]
  have u13:st2 13 = .ptr I.s 0 0:=by simp [hk2,hk1,hk,s13]
  have u9:st2 9 = .ptr 6 0 0:=by simp [hk2,hk1,hk,s9]
  simp [u13,u9,M2.hmp,M2.hn,s36,em]
  refine Jdy (E:=ms.E) hts hne M2.map (by omega) ?_
  intro q h3 n3 hq hqn hfr3 hqb
  have frm:∀ id,id<n→h3 id=h id:=fun id hid=>by rw [hfr3 id (by omega),hfr2 id (by omega),hfr id hid]
  have hl8:(Jhx ms.E N x).Coeffs.length≤8:=Juz
  generalize Jhx ms.E N x=l at *
  have w34:st2 34=st 34:=by simp [hk2,hk1]
  have ne:¬q=n3∧¬n3=q:=by omega
  have fr:∀ id,id<n→¬id=q∧¬id=n3∧¬id=n3+1:=by intro id _;omega
  rcases hA with ⟨hz,hv⟩|⟨id0,hid1,hid2,hv,hid3⟩
  ·have hz':acc=[]:=by simpa using hz
   subst hz'
   rw [hv] at w34
   simp [Jjp,hqb,w34,ne,hk2,hk1,hk,s202,hw]
   refine ⟨by unfold LIM;omega,?_⟩
   exact hR _ _ _ (by simp [hk2,hk1,hk]) (by simp) ⟨by omega,fun id hid=>by simp [fr id hid,frm id hid],[l],.inr ⟨n3+1,by omega,by omega,by simp,by simp [J08]⟩,by simpa using hJ⟩
  ·rw [hv] at w34
   have e0:h3 id0=some ⟨false,2,acc.map J08⟩:=by rw [hfr3 id0 (by omega),hfr2 id0 (by omega),hid3]
   have nid:¬id0=n3∧¬n3=id0∧¬id0=n3+1∧¬n3+1=id0∧¬id0=q∧¬q=id0:=by omega
   have fr0:∀ id,id<n→¬id=id0:=by intro id _;omega
   simp [Jjp,hqb,w34,ne,nid,e0,hk2,hk1,hk,s202,hw]
   refine ⟨by unfold LIM;omega,?_⟩
   exact hR _ _ _ (by simp [hk2,hk1,hk]) (by simp) ⟨by omega,fun id hid=>by simp [fr id hid,fr0 id hid,frm id hid],acc++[l],.inr ⟨n3+1,by omega,by omega,by simp,by simp [J08,List.take_of_length_le]⟩,by simpa using hJ⟩
 ·rintro st h' m R hk s202 ⟨hm,hfr,acc,hA,hJ⟩ _ hX
  simp at hk
  rw [List.drop_eq_nil_of_le (by omega)] at hJ
  simp at hJ
  subst hJ
  refine J0i [2,4,6,7,9,12,13,15,16,193,194,195,33,34] (fun s=>s 203 = .bool false) (by simp [hk,s202]) ?_
  intro st1 hk1 s203
  simp at hk1
  refine J3s s203 ?_
  refine hX _ _ _ _ ?_
  simp
  refine hK _ _ _ (by simp [hk1,hk]) hm hfr ?_
  rw [hk1.2.2.2.2.2.2.2.2.2.2.2.2.2];exact hA
end
section
variable {p:DProgram}{r:DRule}{f:DFunction}{N:Nat}{I:Ids}{ks:List Kt}{s:Env}{h:Heap}{n:Nat}{Q:Fin}
theorem Jrp {l:List (List DLin)}(hl:l≠[]) (m:List Int) (h:l.map J1u=J0m m):False:=by
 cases l with
 | nil=>exact hl rfl
 | cons x l=>
  cases m with
  | nil=>simp [J0m] at h
  | cons y m=>simp [J0m,J1u,i64] at h
theorem Jsi {ms:MS}{c:DCall}{k n0:Nat}{h0:Heap}{as':List DLin}{v:AV}(s12:s 12 = .ptr I.m 0 0) (s34:s 34=v) (M:MI p r f N I ms h0 n0) (hkn:k<n0) (hkb:h0 k=some ⟨true,3,[J14 c]⟩) (hn:n0≤n) (hfr:∀ id,id<n0→h id=h0 id)
 (A:J41 (n0 - 1) 2 (as'.map J08) v h n) (hal:ms.args.length≤1048576) (hasl:as'.length≤100000000)
 (hK:∀ s' h' n',(∀ j∈[2,4,6,7,9,12,13,15,16,193,194,195,33],s' j=s j)→MI p r f N I (Jg9 ms as') h' n'→k<n'→h' k=some ⟨true,3,[J14 c]⟩→J2u Tryz.prog ks .normal s' h' n' Q):rC Tryz.prog Jzc ks s h n Q:=by
 obtain ⟨l1,l2,l3,l4,l5⟩:=M.lt
 obtain ⟨vR,vP,vA,g1,g2,g3,g4,g6,g5⟩:=M.acc
 have hkm:¬k=I.m:=M.ne_m hkb (by omega)
 have g1':h I.m=some ⟨true,6,[J5q N vR vP vA]⟩:=by rw [hfr _ (by omega),g1]
 have hkb':h k=some ⟨true,3,[J14 c]⟩:=by rw [hfr _ hkn,hkb]
 have ne:¬I.m=n∧¬I.m=n+1∧¬n=I.m∧¬n+1=I.m∧¬k=n∧¬k=n+1∧¬n=n+1∧¬n+1=n:=by omega
 have fr:∀ id,id<n0→¬id=n∧¬id=n+1:=by intro id _;omega
 have fm:∀ id,I.x<id→¬id=I.m:=by intro id _;omega
 have hul:J1u as'=[.us 2 (as'.map J08)]:=rfl
 simp [Jzc,s12,s34,g1',J5q]
 rcases A with ⟨hz,rfl⟩|⟨j0,hj0,hjn,rfl,hjb⟩
 ·have hz':as'=[]:=by simpa using hz
  subst hz'
  rcases g4 with ⟨hzA,rfl⟩|⟨iA,hA1,hA2,rfl,hibA⟩
  ·have hz2:ms.args=[]:=by simpa using hzA
   simp [ne,g1',J5q,s12]
   refine ⟨by unfold LIM;omega,?_⟩
   refine hK _ _ _ (by simp) (M.upd_acc (st':=Jg9 ms []) rfl rfl (by omega) (fun _=>False) (fun _ h=>h.elim) ?_ ?_) (by omega) (by simp [ne,hkm,hkb'])
   ·intro id hid hm _
    simp [fr id hid,hm,hfr id hid]
   ·refine ⟨vR,vP,.ref (n+1) 0 1,by simp [J5q],g2.keep (by omega) fun id hb hid _=>by simp [fr id hid,fm id hb,hfr id hid],g3.keep (by omega) fun id hb hid _=>by simp [fr id hid,fm id hb,hfr id hid],.inr ⟨n+1,by omega,by omega,by simp [Jg9,hz2],by simp [Jg9,hz2,ne,J1u]⟩,by simp [Jg9],g5⟩
  ·have hibA':h iA=some ⟨false,1,ms.args.map J1u⟩:=by rw [hfr _ hA2,hibA]
   have ni:¬iA=n∧¬iA=n+1∧¬iA=I.m∧¬I.m=iA∧¬n=iA∧¬n+1=iA:=by omega
   have hik:¬k=iA:=by rintro rfl;rw [hkb] at hibA;simp at hibA
   have hne:ms.args≠[]:=fun e=>by have:=g6 e;simp at this
   simp [ne,ni,g1',J5q,s12,hibA']
   refine ⟨by unfold LIM;omega,?_⟩
   refine hK _ _ _ (by simp) (M.upd_acc (st':=Jg9 ms []) rfl rfl (by omega) (fun id=>id=iA) (fun id e=>⟨by omega,fun l hl=>by rw [e,hibA] at hl;simp at hl;exact Jrp hne l hl⟩) ?_ ?_) (by omega) (by simp [ne,hkm,hik,hkb'])
   ·intro id hid hm hii
    simp [fr id hid,hm,hii,hfr id hid]
   ·refine ⟨vR,vP,.ref (n+1) 0 (ms.args.length+1),by simp [J5q],g2.keep (by omega) fun id hb hid e => ?_,g3.keep (by omega) fun id hb hid e => ?_,.inr ⟨n+1,by omega,by omega,by simp [Jg9],by simp [Jg9,ne,J1u,List.take_of_length_le]⟩,by simp [Jg9],g5⟩
    ·have hii:¬id=iA:=by
      intro e'
      rcases g2 with ⟨_,e2⟩|⟨j',_,_,e2,hjb⟩
      ·rw [e2] at e;cases e
      ·rw [e2] at e;simp only [AV.ref.injEq] at e
       rw [e.1,e',hibA] at hjb
       simp at hjb
     simp [fr id hid,fm id hb,hii,hfr id hid]
    ·have hii:¬id=iA:=by
      intro e'
      rcases g3 with ⟨_,e2⟩|⟨j',_,_,e2,hjb⟩
      ·rw [e2] at e;cases e
      ·rw [e2] at e;simp only [AV.ref.injEq] at e
       rw [e.1,e',hibA] at hjb
       simp at hjb
     simp [fr id hid,fm id hb,hii,hfr id hid]
 ·have nj:¬j0=n∧¬j0=n+1∧¬n=j0∧¬n+1=j0∧¬j0=I.m∧¬I.m=j0:=by omega
  have fj:¬k=j0∧¬j0=k:=by omega
  have frj:∀ id,id<n0→¬id=j0:=by intro id _;omega
  rcases g4 with ⟨hzA,rfl⟩|⟨iA,hA1,hA2,rfl,hibA⟩
  ·have hz2:ms.args=[]:=by simpa using hzA
   simp [ne,g1',J5q,s12,hjb,nj,fj]
   refine ⟨by unfold LIM;omega,?_⟩
   refine hK _ _ _ (by simp) (M.upd_acc (st':=Jg9 ms as') rfl rfl (by omega) (fun _=>False) (fun _ h=>h.elim) ?_ ?_) (by omega) (by simp [ne,hkm,hkb',hjb,nj,fj])
   ·intro id hid hm _
    simp [fr id hid,hm,hfr id hid,frj id hid]
   ·refine ⟨vR,vP,.ref (n+1) 0 1,by simp [J5q],g2.keep (by omega) fun id hb hid _=>by simp [fr id hid,fm id hb,hfr id hid,frj id hid],g3.keep (by omega) fun id hb hid _=>by simp [fr id hid,fm id hb,hfr id hid,frj id hid],.inr ⟨n+1,by omega,by omega,by simp [Jg9,hz2],by simp [Jg9,hz2,ne,J1u,List.take_of_length_le]⟩,by simp [Jg9],g5⟩
  ·have nij:¬iA=j0∧¬j0=iA:=by omega
   have hibA':h iA=some ⟨false,1,ms.args.map J1u⟩:=by rw [hfr _ hA2,hibA]
   have ni:¬iA=n∧¬iA=n+1∧¬iA=I.m∧¬I.m=iA∧¬n=iA∧¬n+1=iA:=by omega
   have hik:¬k=iA:=by rintro rfl;rw [hkb] at hibA;simp at hibA
   have hne:ms.args≠[]:=fun e=>by have:=g6 e;simp at this
   simp [ne,ni,g1',J5q,s12,hibA',hjb,nj,fj,nij]
   refine ⟨by unfold LIM;omega,?_⟩
   refine hK _ _ _ (by simp) (M.upd_acc (st':=Jg9 ms as') rfl rfl (by omega) (fun id=>id=iA) (fun id e=>⟨by omega,fun l hl=>by rw [e,hibA] at hl;simp at hl;exact Jrp hne l hl⟩) ?_ ?_) (by omega) (by simp [ne,hkm,hik,hkb',hjb,nj,fj,nij])
   ·intro id hid hm hii
    simp [fr id hid,hm,hii,hfr id hid,frj id hid]
   ·refine ⟨vR,vP,.ref (n+1) 0 (ms.args.length+1),by simp [J5q],g2.keep (by omega) fun id hb hid e => ?_,g3.keep (by omega) fun id hb hid e => ?_,.inr ⟨n+1,by omega,by omega,by simp [Jg9],by simp [Jg9,ne,J1u,List.take_of_length_le]⟩,by simp [Jg9],g5⟩
    ·have hii:¬id=iA:=by
      intro e'
      rcases g2 with ⟨_,e2⟩|⟨j',_,_,e2,hjb⟩
      ·rw [e2] at e;cases e
      ·rw [e2] at e;simp only [AV.ref.injEq] at e
       rw [e.1,e',hibA] at hjb
       simp at hjb
     simp [fr id hid,fm id hb,hii,hfr id hid,frj id hid]
    ·have hii:¬id=iA:=by
      intro e'
      rcases g3 with ⟨_,e2⟩|⟨j',_,_,e2,hjb⟩
      ·rw [e2] at e;cases e
      ·rw [e2] at e;simp only [AV.ref.injEq] at e
       rw [e.1,e',hibA] at hjb
       simp at hjb
     simp [fr id hid,fm id hb,hii,hfr id hid,frj id hid]
theorem Juw {ma:MS}(S:J7o I s) (M:MI p r f N I ma h n) (hp:J0k p≤1048576) (hl2:r.Calls.length≤2) (hx2:ma.nx≤1000) (hr2:ma.rows.length≤10000) (ha2:ma.args.length≤10) (hN:N≤8)
 (hargs:∀ c∈r.Calls,c.Args.length≤1048576∧(∀ a∈c.Args,∀ x∈a.Heads,x.Terms.length≤1048576)∧∀ a∈c.Args,a.Lst=false→0<a.Heads.length)
 (hK:∀ s' h' n',J7o I s'→MI p r f N I (r.Calls.foldl (Jgy p N) ma) h' n'→J2u Tryz.prog ks .normal s' h' n' Q):rC Tryz.prog K8t ks s h n Q:=by
 have S0:=S
 obtain ⟨s2,s4,s6,s7,s9,s12,s13,s15,s16⟩:=S0
 simp [K8t,s6,M.hr,J0c]
 intro _
 generalize hT:r.Calls.foldl (Jgy p N) ma=T at hK
 refine J0l [2,4,6,7,9,12,13,15,16,193,194] 195 r.Calls.length (fun i s' h' n'=>∃ ms:MS,MI p r f N I ms h' n'∧(r.Calls.drop i).foldl (Jgy p N) ms=T∧ms.nx≤1000+i∧ms.rows.length≤10000+i∧ms.args.length≤10+i) (by unfold LIM;omega) (by simp)
  ⟨_,M,by simpa using hT,by omega,by omega,by omega⟩ ?_ ?_
 ·rintro i st h' m R hi hg hk s195 hw ⟨ms,M,hJ,hb1,hb2,hb3⟩ hR _ _
  simp at hk
  rw [List.drop_eq_getElem_cons hi,List.foldl_cons] at hJ
  obtain ⟨ha1,ha2,ha3⟩:=hargs _ (List.getElem_mem hi)
  obtain ⟨l1,l2,l3,l4,l5⟩:=M.lt
  refine J0i [2,4,6,7,9,12,13,15,16,193,194,195] (fun s=>s 196 = .bool true) (by simp [hk,s195,hi]) ?_
  intro st1 hk1 s196
  simp at hk1
  refine J3x s196 (J0b (J1h ?_))
  refine J1n [2,4,6,7,9,12,13,15,16,193,194,195] (fun s h' n'=>∃ k,s 33 = .ptr k 0 0∧k<n'∧h' k=some ⟨true,3,[J14 (r.Calls[i]'hi)]⟩∧MI p r f N I ms h' n') ?_ ?_
  ·have fr:∀ id,id<m→¬id=m:=by intro id _;omega
   simp [hk1,hk,s195,hi,J14]
   exact M.frame (by omega) fun id hid=>by simp [fr id hid]
  rintro st2 h2 n2 hk2 ⟨k,s33,hkn,hkb,M2⟩
  simp at hk2
  generalize r.Calls[i]=c at *
  refine J0i [2,4,6,7,9,12,13,15,16,193,194,195,33] (fun s=>s 34 = .nil 2) (by simp) ?_
  intro st3 hk3 s34
  simp at hk3
  have S3:J7o I st3:=S.of (by simp [hk3,hk2,hk1,hk])
  obtain ⟨t2,t4,t6,t7,t9,t12,t13,t15,t16⟩:=S3
  refine J0b (Jrw t9 t13 (by rw [hk3.2.2.2.2.2.2.2.2.2.2.2.2,s33]) s34 M2 hkn hkb ha1 ha2 ha3 ?_)
  intro st4 h4 n4 hk4 hn4 hfr4 A4
  simp at hk4
  refine J6b (J0b (Jsi (c:=c) (k:=k) (by rw [hk4.2.2.2.2.2.1,t12]) rfl M2 hkn hkb hn4 hfr4 A4 (by omega) (by simp;omega) ?_))
  intro st5 h5 n5 hk5 M5 hkn5 hkb5
  simp at hk5
  generalize hal:c.Args.map (Jhx ms.E N)=as' at *
  have hlx:(J37 ms.nx N).Coeffs.length≤8:=J6u N (by omega)
  generalize hLR:((J1o p.Functions c.Func).getD fn0).ListResult=LR at *
  have hiC:Jgy p N ms c=if LR then Jjy (Jj3 (Jg9 ms as') c.Bind (J37 ms.nx N) (ms.nx+1)) (J37 ms.nx N) else Jj3 (Jg9 ms as') c.Bind (J37 ms.nx N) (ms.nx+1):=by
   unfold Jgy;rw [hal,hLR];cases LR <;> simp [Jjy,Jj3,Jg9]
  rw [hiC] at hJ
  have u15:st5 15 = .fn (.func 202) [] [.ptr I.x 0 0,.ptr 6 0 0,.ptr I.s 0 0]:=by rw [hk5.2.2.2.2.2.2.2.1,hk4.2.2.2.2.2.2.2.1,t15]
  have u33:st5 33 = .ptr k 0 0:=by rw [hk5.2.2.2.2.2.2.2.2.2.2.2.2,hk4.2.2.2.2.2.2.2.2.2.2.2.2,hk3.2.2.2.2.2.2.2.2.2.2.2.2,s33]
  have nd:=M5.ne_d hkb5 (by omega)
  have nx:=M5.ne_x hkb5 (by omega)
  have hnx5:(Jg9 ms as').nx=ms.nx:=rfl
  refine J6b (J1n [2,4,6,7,9,12,13,15,16,193,194,195,33] (fun s h' n'=>MI p r f N I (Jj3 (Jg9 ms as') c.Bind (J37 ms.nx N) (ms.nx+1)) h' n'∧k<n'∧h' k=some ⟨true,3,[J14 c]⟩∧∃ k,s 37 = .ptr k 0 0∧J67 (J37 ms.nx N) k h' n') ?_ ?_)
  ·simp [u33,u15,hkb5,J14]
   refine Jcy M5 c.Bind (by rw [hnx5];omega) ?_
   rw [hnx5]
   intro q' h1 n1 hq hq1 hfr hqb M1
   have fr:∀ id,id<n1→¬id=n1:=by intro id _;omega
   generalize J37 ms.nx N=l at *
   simp [Jjp]
   exact ⟨M1.frame (by omega) fun id hid=>by simp [fr id hid],by omega,by simp [fr k (by omega),hfr k hkn5 nd nx,hkb5,J14],q',by omega,by omega,by simp,by simp [fr q' hq1,hqb]⟩
  rintro st6 h6 n6 hk6 ⟨M6,hkn6,hkb6,k37,s37,q7,x7,y7,z7,w7⟩
  simp at hk6
  have v2:st6 2 = .ptr 0 0 0:=by rw [hk6.1,hk5.1,hk4.1,t2]
  have v33:st6 33 = .ptr k 0 0:=by rw [hk6.2.2.2.2.2.2.2.2.2.2.2.2,u33]
  refine J1n [2,4,6,7,9,12,13,15,16,193,194,195,37] (fun s h' n'=>MI p r f N I (Jj3 (Jg9 ms as') c.Bind (J37 ms.nx N) (ms.nx+1)) h' n'∧J67 (J37 ms.nx N) k37 h' n'∧∃ k x y z,s 38 = .ptr k 0 0∧h' k=some ⟨true,4,[[x,y,.bool LR,z]]⟩) ?_ ?_
  ·simp [v2,v33,hkb6,J14,M6.hp]
   first|refine J01 (J2i p c.Func hp) (by first|simp [J00];done|rfl) ?_|refine J02 (J2i p c.Func hp) (by first|simp [J00];done|rfl) ?_
   rintro r rfl
   unfold Jcg
   rw [←hLR]
   generalize (J1o p.Functions c.Func).getD fn0=G at *
   have fr:∀ id,id<n6→¬id=n6∧¬id=n6+1∧¬id=n6+1+1:=by intro id _;omega
   simp [J0g]
   exact ⟨M6.frame (by omega) fun id hid=>by simp [fr id hid],q7,by omega,by omega,by simp [fr k37 x7,z7],by simp [fr q7 y7,w7]⟩
  rintro st7 h7 n7 hk7 ⟨M7,⟨q8,x8,y8,z8,w8⟩,k38,x,y,z,s38,hkb8⟩
  simp at hk7
  refine J0i [2,4,6,7,9,12,13,15,16,193,194,195,37] (fun s=>s 232 = .bool LR) (by simp [s38,hkb8]) ?_
  intro st8 hk8 s232
  simp at hk8
  have kp:∀ j∈[2,4,6,7,9,12,13,15,16,193,194,195],st8 j=st j:=by simp [hk8,hk7,hk6,hk5,hk4,hk3,hk2,hk1]
  simp at kp
  have g16:st8 16 = .fn (.func 204) [] [.ptr I.m 0 0]:=by rw [hk8.2.2.2.2.2.2.2.2.1,hk7.2.2.2.2.2.2.2.2.1,hk6.2.2.2.2.2.2.2.2.1,hk5.2.2.2.2.2.2.2.2.1,hk4.2.2.2.2.2.2.2.2.1,t16]
  have g37:st8 37 = .ptr k37 0 0:=by rw [hk8.2.2.2.2.2.2.2.2.2.2.2.2,hk7.2.2.2.2.2.2.2.2.2.2.2.2,s37]
  cases LR
  ·simp only [Bool.false_eq_true,if_false] at hJ
   simp [s232,kp,s195,hw]
   exact hR _ _ _ (by simp [kp,hk]) (by simp) ⟨_,M7,hJ,by show ms.nx+1≤_;omega,by show ms.rows.length≤_;omega,by show (ms.args++[_]).length≤_;simp;omega⟩
  ·simp only [if_true] at hJ
   simp [s232,g16,g37,z8]
   refine J9w M7 (q:=q8) (by omega) y8 w8 (by show ms.rows.length≤_;omega) ?_
   intro h9 n9 hn9 _ M9
   simp [kp,s195,hw]
   exact hR _ _ _ (by simp [kp,hk]) (by simp) ⟨_,M9,hJ,by show ms.nx+1≤_;omega,by show (ms.rows++[_]).length≤_;simp;omega,by show (ms.args++[_]).length≤_;simp;omega⟩
 ·rintro st h' m R hk s195 ⟨ms,M,hJ,hb1,hb2,hb3⟩ _ hX
  simp at hk
  rw [List.drop_eq_nil_of_le (by omega)] at hJ
  simp only [List.foldl_nil] at hJ
  subst hJ
  refine J0i [2,4,6,7,9,12,13,15,16] (fun s=>s 196 = .bool false) (by simp [hk,s195]) ?_
  intro st1 hk1 s196
  simp at hk1
  refine J3s s196 ?_
  refine hX _ _ _ _ ?_
  simp
  exact hK _ _ _ (S.of (by simp [hk1,hk])) M
end
def Jho:DModel:=⟨⟨0,[]⟩,[],[],⟨0,[]⟩⟩
def Jbh (o:Option DModel):AV := .tup [.agg (J2h (o.getD Jho)),.bool o.isSome]
def Jou:DRule:=⟨[],[],[],[],⟨false,[],[]⟩⟩
def Jm5 (p:DProgram) (r:DRule):DFunction:=(J1o p.Functions r.Func).getD fn0
def Jdi (p:DProgram) (k:Int):Option DModel:=
 if J2s p&&inR k 0 ((p.Rules.length:Int) - 1) then some (J66 (p.Rules.getD k.toNat Jou) (Jm5 p (p.Rules.getD k.toNat Jou))) else Option.none
theorem Jc1 {a:DArg}(h:Jb0 a=true):(∀ x∈a.Heads,x.Terms.length≤4)∧(a.Lst=false→0<a.Heads.length):=by
 unfold Jb0 at h
 simp only [Bool.and_eq_true,List.all_eq_true] at h
 obtain ⟨h1,h2⟩:=h
 refine ⟨fun x hx => ?_,fun hL => ?_⟩
 ·have:=h1 x hx
  unfold J98 at this
  simp only [Bool.and_eq_true,decide_eq_true_eq] at this
  exact this.1.2
 ·rw [hL] at h2
  simp at h2;omega
theorem Jin {a:DArg}{b:Bool}{K:List Str}(h:J6n a b K=true):Jb0 a=true:=by
 unfold J6n at h;simp only [Bool.and_eq_true] at h;exact h.1.1
theorem Jce {p:DProgram}{r:DRule} : ∀ {l:List DCall}{k:Nat},J2m p r k l=true→∀ c∈l,∃ s,J9k p c s=true
 | [],_,_,_,h=>by cases h
 | c::l,k,h,d,hd=>by
  simp only [J2m,Bool.and_eq_true] at h
  rcases List.mem_cons.1 hd with rfl|hd
  ·exact ⟨_,h.1⟩
  ·exact Jce h.2 d hd
theorem RuleIn.args {p:DProgram}{r:DRule}{f:DFunction}(hp:J2s p=true) (R:RuleIn p r f):∀ c∈r.Calls,c.Args.length≤2∧∀ a∈c.Args,Jb0 a=true:=by
 intro c hc
 obtain ⟨s,hs⟩:=Jce R.calls c hc
 have h1:=(Jnn hs).1
 refine ⟨?_,fun a ha => ?_⟩
 ·unfold J9k at hs
  simp only [Bool.and_eq_true,decide_eq_true_eq] at hs
  obtain ⟨⟨⟨g1,g2⟩,_⟩,_⟩:=hs
  obtain ⟨g,hg⟩:=Option.isSome_iff_exists.1 g1
  rw [hg] at g2
  have:=(K3m hp hg).1
  simp only [Option.getD_some] at g2
  omega
 ·obtain ⟨b,hb⟩:=h1 a ha
  exact Jin hb
theorem Ji0 {n:Nat} : ∀ {xs:List Str}{a:MS},(xs.foldl (Jbw n) a).nx=a.nx+xs.length∧(xs.foldl (Jbw n) a).rows.length≤a.rows.length+xs.length∧(xs.foldl (Jbw n) a).args=a.args
 | [],a=>by simp
 | x::xs,a=>by
  obtain ⟨h1,h2,h3⟩:=Ji0 (n:=n) (xs:=xs) (a:=Jbw n a x)
  simp only [List.foldl_cons,List.length_cons]
  refine ⟨by rw [h1];show a.nx+1+_=_;omega,?_,by rw [h3];rfl⟩
  have:(Jbw n a x).rows.length≤a.rows.length+1:=by unfold Jbw;simp only [List.length_append];split <;> simp
  omega
theorem Jh9 {n:Nat} : ∀ {xs:List DPattern}{a:MS},(xs.foldl (Jd4 n) a).nx≤a.nx+xs.length∧(xs.foldl (Jd4 n) a).rows.length≤a.rows.length+xs.length∧(xs.foldl (Jd4 n) a).args=a.args∧(xs.foldl (Jd4 n) a).pars=a.pars
 | [],a=>by simp
 | x::xs,a=>by
  obtain ⟨h1,h2,h3,h4⟩:=Jh9 (n:=n) (xs:=xs) (a:=Jd4 n a x)
  simp only [List.foldl_cons,List.length_cons]
  have g1:(Jd4 n a x).rows.length≤a.rows.length+1:=by unfold Jd4;split <;> simp
  have g2:(Jd4 n a x).nx≤a.nx+1:=by unfold Jd4;split <;> simp
  have g3:(Jd4 n a x).args=a.args:=by unfold Jd4;split <;> rfl
  have g4:(Jd4 n a x).pars=a.pars:=by unfold Jd4;split <;> rfl
  exact ⟨by omega,by omega,by rw [h3,g3],by rw [h4,g4]⟩
theorem Jt7 (p:DProgram) (hp:J0k p≤1048576) (k:Int):Holds Tryz.prog 126 [.agg (J00 p),i64 k] (fun r=>r=Jbh (Jdi p k)):=by
 refine J03 Tryz.func126 a126_ok rfl (by simp [a126]) ?_
 simp [a126,mo0,mo1,J00]
 first|refine J01 (J2q p hp) (by first|simp [J00];done|rfl) ?_|refine J02 (J2q p hp) (by first|simp [J00];done|rfl) ?_
 rintro r rfl
 unfold Jdi
 cases h1:J2s p
 ·simp [Jbh,Jho,J2h,J0m]
 simp
 intro hrl
 have hw:IntKind.i64.wrap ((p.Rules.length:Int) - 1)=(p.Rules.length:Int) - 1:=J0r (by unfold LIM at hrl;omega)
 rw [hw]
 first|refine J01 (J24 k 0 ((p.Rules.length:Int) - 1)) (by first|simp;done|rfl) ?_|refine J02 (J24 k 0 ((p.Rules.length:Int) - 1)) (by first|simp;done|rfl) ?_
 rintro r rfl
 cases h2:inR k 0 ((p.Rules.length:Int) - 1)
 ·simp [Jbh,Jho,J2h,J0m]
 have hk0:0≤k∧k≤(p.Rules.length:Int) - 1:=by simpa [inR] using h2
 obtain ⟨j,rfl⟩:∃ j:Nat,k=j:=⟨k.toNat,by omega⟩
 have hj:j<p.Rules.length:=by omega
 have hgd:p.Rules.getD ((j:Int).toNat) Jou=p.Rules[j]:=by simp [hj]
 obtain ⟨f,hf,R⟩:=Jb8 h1 (List.getElem_mem hj)
 have hfa:Jm5 p p.Rules[j]=f:=by unfold Jm5;rw [hf];rfl
 have hwr:IntKind.i64.wrap ((f.Params.length:Int)+((p.Rules[j]).Calls.length:Int))=(f.Params.length:Int)+((p.Rules[j]).Calls.length:Int):=by
  have:=R.par;have:=R.ncalls;exact J0r (by omega)
 simp [mo2,mo3,mo4,hj]
 first|refine J01 (J2i p (p.Rules[j]).Func hp) (by first|simp [J00];done|rfl) ?_|refine J02 (J2i p (p.Rules[j]).Func hp) (by first|simp [J00];done|rfl) ?_
 rintro r rfl
 rw [hfa,hf]
 have hmeq:=Jvu hf R
 generalize p.Rules[j]=r at *
 simp [Jcg,J0g,J0c,hwr]
 intro _ _
 have hpar:=R.par
 have hnpre:=R.npre
 have hnp:=R.npats
 have hnc:=R.ncalls
 have h6:=R.size
 have hrargs:=R.args h1
 have hrres:=Jc1 (Jin R.res)
 refine Jye (r:=r) (c:=f.Params.length+r.Calls.length) (by simp) (by simp) (by simp [J0c]) (by simp) (by omega) (by omega) (by omega) ?_
 intro s1 h1 n1 hk1 hn1 hfr1 e6
 have hpre:∀ l∈f.Pre,J0s l (st1 r f).pars (J19 r f)=some (J4g (J19 r f) l):=by
  intro l hl
  have hd:=R.nd
  rw [List.append_assoc,List.nodup_append] at hd
  obtain ⟨_,_,_,e4,_⟩:=Jih (n:=J19 r f) (xs:=f.Params) (a:=⟨[],0,[],[],[]⟩) (b:=⟨[],0,Jec f (J19 r f),[],[]⟩) rfl rfl rfl rfl hd.1 (by simp [J1d])
  unfold st1
  rw [e4]
  simp only [List.nil_append]
  rw [Jqd R.par]
  exact Jl7 R.par (by unfold J19;omega) (by omega) (R.pre l hl)
 have hmI:Jni p r f=some (K1l (J19 r f) (st5 p r f (f.Pre.map (J4g (J19 r f)))) (Jhx (st5 p r f (f.Pre.map (J4g (J19 r f)))).E (J19 r f) r.Result)):=by
  unfold Jni;rw [Jmu hpre]
 rw [hmeq] at hmI
 have hmS:=Option.some.inj hmI
 rw [show f.Params.length+r.Calls.length+J3p r.Patterns=J19 r f from rfl] at e6
 have hsc:∀ l∈f.Pre,(J4g (J19 r f) l).Coeffs.length≤1048576:=by
  intro l hl
  have:=(J1z (R.pre l hl)).1
  simp [J4g];omega
 have st1d:st1 r f=f.Params.foldl (Jbw (J19 r f)) ⟨[],0,[],[],[]⟩:=rfl
 have st3d:∀ pre,st3 r f pre=r.Patterns.foldl (Jd4 (J19 r f)) (J0y (st1 r f) pre):=fun _=>rfl
 have st5d:∀ pre,st5 p r f pre=r.Calls.foldl (Jgy p (J19 r f)) (J0y (st3 r f pre) (r.Guards.map (Jh3 (st3 r f pre).E (J19 r f)))):=fun _=>rfl
 have b1:(st1 r f).nx≤2∧(st1 r f).rows.length≤2∧(st1 r f).args=[]:=by
  obtain ⟨g1,g2,g3⟩:=Ji0 (n:=J19 r f) (xs:=f.Params) (a:=⟨[],0,[],[],[]⟩)
  rw [←st1d] at g1 g2 g3
  refine ⟨by rw [g1];simpa using hpar,?_,g3⟩
  simp at g2;omega
 generalize hN:J19 r f=N at *
 generalize hpreL:f.Pre.map (J4g N)=preR at *
 have b2:(st3 r f preR).nx≤4∧(st3 r f preR).rows.length≤6∧(st3 r f preR).args=[]:=by
  obtain ⟨g1,g2,g3,_⟩:=Jh9 (n:=N) (xs:=r.Patterns) (a:=J0y (st1 r f) preR)
  rw [←st3d] at g1 g2 g3
  have hpl:preR.length≤2:=by rw [←hpreL];simpa using hnpre
  have e1:(J0y (st1 r f) preR).nx=(st1 r f).nx:=rfl
  have e2:(J0y (st1 r f) preR).rows.length=(st1 r f).rows.length+preR.length:=by simp [J0y]
  have e3:(J0y (st1 r f) preR).args=(st1 r f).args:=rfl
  refine ⟨by omega,by omega,by rw [g3,e3];exact b1.2.2⟩
 simp at hk1
 have f0:=hfr1 0 (by omega) (by omega)
 have f1:=hfr1 1 (by omega) (by omega)
 have f2:=hfr1 2 (by omega) (by omega)
 have f3:=hfr1 3 (by omega) (by omega)
 have f4:=hfr1 4 (by omega) (by omega)
 have f5:=hfr1 5 (by omega) (by omega)
 simp at f0 f1 f2 f3 f4 f5
 have ne:¬0=n1∧¬1=n1∧¬2=n1∧¬3=n1∧¬4=n1∧¬5=n1∧¬6=n1∧¬n1=0∧¬n1=1∧¬n1=2∧¬n1=3∧¬n1=4∧¬n1=5∧¬n1=6∧¬n1=n1+1∧¬n1+1=n1∧¬n1=n1+1+1∧¬n1+1+1=n1∧¬n1=n1+1+1+1∧¬n1+1+1+1=n1∧¬n1+1=n1+1+1∧¬n1+1=n1+1+1+1∧¬n1+1+1=n1+1+1+1:=by omega
 refine J6b ?_
 simp [mo6,mo7,mo8,mo9,Kdr,hk1,e6,ne]
 refine Jtn (I:=⟨n1,n1+1,n1+1+1,n1+1+1+1⟩) (p:=p) (r:=r) (f:=f) (N:=N) (by simp [J7o,hk1]) ?_ hpar (by omega) ?_
 ·refine ⟨by simp [f0,ne,J00],by simp [f1,ne],by simp [f2,ne,J0c],by simp [f3,ne],by simp [f4,ne],by simp [f5,ne],by simp [e6,ne],by simp only;omega,by simp [ne],by simp [ne],⟨[],rfl,by simp [ne],by simp⟩,.nil 2,.nil 2,.nil 1,by simp [ne,J5q],.inl (by simp),.inl (by simp),.inl (by simp),by simp,by simp⟩
 intro s2 h2 n2 S2 M2
 rw [←st1d] at M2
 refine J6b (J0b (Jtr S2 M2 hnpre (by omega) hpre hsc ?_))
 intro s3 h3 n3 S3 M3
 rw [hpreL] at M3
 have hw1:(J0y (st1 r f) preR).rows.length≤100:=by
  have hpl:preR.length≤2:=by rw [←hpreL];simpa using hnpre
  simp [J0y];omega
 refine J6b (J0b (Jva S3 M3 (by omega) (by show (st1 r f).nx≤_;omega) hw1 (by omega) ?_))
 intro s4 h4 n4 S4 M4
 rw [←st3d] at M4
 refine J6b (J0b (Jvn S4 M4 R.nguards (by omega) (fun g hg => ?_) ?_))
 ·have:=R.guards g hg
  unfold J4e J98 at this
  simp only [Bool.and_eq_true,decide_eq_true_eq] at this
  omega
 intro s5 h5 n5 S5 M5
 have hw2:(J0y (st3 r f preR) (r.Guards.map (Jh3 (st3 r f preR).E N))).rows.length≤10000:=by
  have:=R.nguards
  simp [J0y];omega
 refine J6b (J0b (Juw S5 M5 hp (by omega) (by show (st3 r f preR).nx≤_;omega) hw2 (by show (st3 r f preR).args.length≤_;rw [b2.2.2];simp) (by omega) (fun c hc => ?_) ?_))
 ·obtain ⟨g1,g2⟩:=hrargs c hc
  refine ⟨by omega,fun a ha x hx => ?_,fun a ha=>(Jc1 (g2 a ha)).2⟩
  have:=(Jc1 (g2 a ha)).1 x hx
  omega
 intro s6 h6' n6 S6 M6
 rw [←st5d] at M6
 generalize st5 p r f preR=ms at *
 obtain ⟨l1,l2,l3,l4,l5⟩:=M6.lt
 generalize (⟨n1,n1+1,n1+1+1,n1+1+1+1⟩:Ids)=I at *
 obtain ⟨s2,s4,s6,s7,s9,s12,s13,s15,s16⟩:=S6
 refine J6b ?_
 simp [Ke7,s13,s6,s9,M6.hmp,M6.hr,M6.hn,J0c]
 refine Jdy (a:=r.Result) (E:=ms.E) (fun x hx=>by have:=hrres.1 x hx;omega) hrres.2 M6.map (by omega) ?_
 intro q h7 n7 hq hqn hfr7 hqb
 have M7:=M6.frame (h':=h7) (n':=n7) (by omega) hfr7
 generalize hres:Jhx ms.E N r.Result=res at *
 obtain ⟨vR,vP,vA,g1,g2,g3,g4,g6,g5⟩:=M6.acc
 rw [←hfr7 I.m (by omega)] at g1
 have hqm:¬q=I.m:=by omega
 have cR:=g2.cell
 have cP:=g3.cell
 have cA:=g4.cell
 have n1m:¬1=I.m:=by omega
 simp [Jjp,s12,g1,J5q,Ke4,s4,M7.hz,n1m,-dt,-dtl,-J0x,Jd1,Jhi,cR,cP,cA]
 generalize hH:upd (upd h7 I.m _) 1 _=H
 have fH:∀ id,I.x<id→id<n7→H id=h7 id:=by
  intro id hid _
  have:¬id=1∧¬id=I.m:=by omega
  rw [←hH];simp [this]
 have k2:J41 I.x 2 (ms.rows.map J08) vR H n6:=g2.keep (Nat.le_refl _) fun id hb hid _=>by rw [fH id hb (by omega),hfr7 id hid]
 have k3:J41 I.x 2 (ms.pars.map J08) vP H n6:=g3.keep (Nat.le_refl _) fun id hb hid _=>by rw [fH id hb (by omega),hfr7 id hid]
 have k4:J41 I.x 1 (ms.args.map J1u) vA H n6:=g4.keep (Nat.le_refl _) fun id hb hid _=>by rw [fH id hb (by omega),hfr7 id hid]
 have kq:H q=some ⟨false,1,J0m res.Coeffs⟩:=by rw [fH q (by omega) hqn,hqb]
 obtain ⟨H1,d1,e1⟩:=k2.dt
 have k3':J41 I.x 2 (ms.pars.map J08) vP H1 n6:=k3.keep (Nat.le_refl _) fun id hb hid e=>e1 id fun l el=>g5 id _ id _ el e rfl
 obtain ⟨H2,d2,e2⟩:=k3'.dt
 have k4':J41 I.x 1 (ms.args.map J1u) vA H2 n6:=k4.keep (Nat.le_refl _) fun id hb hid e=>by
  rw [e2 id fun l el=>k3.ne_sz k4 (by omega) el e,e1 id fun l el=>k2.ne_sz k4 (by omega) el e]
 obtain ⟨H3,d3,e3⟩:=k4'.dt
 have kq3:H3 q=some ⟨false,1,J0m res.Coeffs⟩:=by
  rw [e3 q fun l el=>k4.ne_ge hq el,e2 q fun l el=>k3.ne_ge hq el,e1 q fun l el=>k2.ne_ge hq el,kq]
 simp [d1,d2,d3,kq3,Jbh,J2h,hmS,K1l,hres]
def a134:AFn:= ⟨69,[.t 2],(.seq (.reg [Zo 2 (.mv (.k (.bool false)))]) (.seq (.reg [Zo 7 (.bsl 1 []),Zv 3 7]) (.seq (.seq (.reg [Zo 4 (.mv (.k (.int .i64 0)))]) (.blk 0 (.loop (.seq (.seq (.reg [Zv 8 4,Zv 9 0,Zo 10 (.len false (.t 9)),Zo 11 (.bin .lss (.t 8) (.t 10))]) (.cond (.t 11) .skip (.exit 0))) (.seq (.blk 1 (.seq (.reg [Zv 14 0,Zv 15 4,Zo 16 (.ixa 4 (.t 14) (.t 15)),Zl 17 true 4 16,Zo 5 (.box [(.str []),(.nil 1),(.bool false),(.nil 2)]),⟨no,.st 4 (.t 5) (.t 17),no⟩]) (.seq (.seq (.reg [Zf 18 0 5,Zl 19 false 1 18,Zc 20 216 [.t 19],Zo 21 (.un .not (.t 20)),Zv 22 21,⟨some 23,.fld 1 (.t 5),(some (22,false))⟩,⟨some 24,.ld false 1 (.t 23),(some (22,false))⟩,⟨some 25,.len false (.t 24),(some (22,false))⟩,⟨some 26,.bin .gtr (.t 25) (.k (.int .i64 2)),(some (22,false))⟩,Zo 27 (.pick (.t 22) (.k (.bool true)) (.t 26)),Zv 28 27,⟨some 29,.fld 1 (.t 5),(some (28,false))⟩,⟨some 30,.ld false 1 (.t 29),(some (28,false))⟩,⟨some 31,.call (.k (.fn (.func 217) [] [])) [.t 30],(some (28,false))⟩,⟨some 32,.un .not (.t 31),(some (28,false))⟩,Zo 33 (.pick (.t 28) (.k (.bool true)) (.t 32)),Zv 34 33,⟨some 35,.fld 3 (.t 5),(some (34,false))⟩,⟨some 36,.ld false 1 (.t 35),(some (34,false))⟩,⟨some 37,.len false (.t 36),(some (34,false))⟩,⟨some 38,.bin .gtr (.t 37) (.k (.int .i64 2)),(some (34,false))⟩,Zo 39 (.pick (.t 34) (.k (.bool true)) (.t 38))]) (.cond (.t 39) (.seq (.reg [Zo 2 (.mv (.k (.bool false)))]) .ret) .skip)) (.seq (.seq (.reg [Zo 6 (.mv (.k (.int .i64 0)))]) (.blk 2 (.loop (.seq (.seq (.reg [Zv 40 6,Zf 41 3 5,Zl 42 false 1 41,Zo 43 (.len false (.t 42)),Zo 44 (.bin .lss (.t 40) (.t 43))]) (.cond (.t 44) .skip (.exit 2))) (.seq (.blk 3 (.seq (.draw (.op (Zf 47 3 5) (.op (Zl 48 false 1 47) (.op (Zv 49 6) (.op (Zo 50 (.ixa 2 (.t 48) (.t 49))) (.op (Zl 51 true 2 50) (.op (Zf 52 1 5) (.op (Zl 53 false 1 52) (.op (Zo 54 (.len false (.t 53))) (.op (Zc 55 179 [.t 51,.t 54]) (.op (Zo 56 (.un .not (.t 55))) .fin))))))))))) (.cond (.t 56) (.seq (.reg [Zo 2 (.mv (.k (.bool false)))]) .ret) .skip))) (.reg [Zv 45 6,Zo 46 (.bin .add (.t 45) (.k (.int .i64 1))),Zv 6 46])))))) (.reg [Zv 57 3,Zf 58 0 5,Zl 59 false 1 58,Zo 60 (.bsl 1 [.t 59]),Zo 61 (.app 16 1 (.t 57) (.t 60)),Zv 3 61]))))) (.reg [Zv 12 4,Zo 13 (.bin .add (.t 12) (.k (.int .i64 1))),Zv 4 13])))))) (.seq (.reg [Zv 62 0,Zo 63 (.len false (.t 62)),Zc 64 183 [.t 63,(.k (.int .i64 1)),(.k (.int .i64 3))],Zv 65 64,⟨some 66,.mv (.t 3),(some (65,true))⟩,⟨some 67,.call (.k (.fn (.func 218) [] [])) [.t 66],(some (65,true))⟩,Zo 68 (.pick (.t 65) (.t 67) (.k (.bool false))),Zv 2 68]) .ret))))⟩
theorem a134_ok:J06 Tryz.prog Tryz.f134=some a134:=by kernel_rfl
def a61:AFn:= ⟨29,[.t 2],(.seq (.reg [Zo 1 (.boxv (.t 0)),Zo 2 (.mv (.k (.bool false)))]) (.seq (.seq (.reg [Zf 4 0 1,Zl 5 false 1 4,Zc 6 134 [.t 5],Zo 7 (.un .not (.t 6)),Zv 8 7,⟨some 9,.fld 1 (.t 1),(some (8,false))⟩,⟨some 10,.ld false 1 (.t 9),(some (8,false))⟩,⟨some 11,.len false (.t 10),(some (8,false))⟩,⟨some 12,.bin .gtr (.t 11) (.k (.int .i64 8)),(some (8,false))⟩,Zo 13 (.pick (.t 8) (.k (.bool true)) (.t 12))]) (.cond (.t 13) (.seq (.reg [Zo 2 (.mv (.k (.bool false)))]) .ret) .skip)) (.seq (.seq (.reg [Zo 3 (.mv (.k (.int .i64 0)))]) (.blk 0 (.loop (.seq (.seq (.reg [Zv 14 3,Zf 15 1 1,Zl 16 false 1 15,Zo 17 (.len false (.t 16)),Zo 18 (.bin .lss (.t 14) (.t 17))]) (.cond (.t 18) .skip (.exit 0))) (.seq (.blk 1 (.seq (.draw (.op (Zl 21 true 2 1) (.op (Zf 22 1 1) (.op (Zl 23 false 1 22) (.op (Zv 24 3) (.op (Zo 25 (.ixa 7 (.t 23) (.t 24))) (.op (Zl 26 true 7 25) (.op (Zc 27 135 [.t 21,.t 26]) (.op (Zo 28 (.un .not (.t 27))) .fin))))))))) (.cond (.t 28) (.seq (.reg [Zo 2 (.mv (.k (.bool false)))]) .ret) .skip))) (.reg [Zv 19 3,Zo 20 (.bin .add (.t 19) (.k (.int .i64 1))),Zv 3 20])))))) (.seq (.reg [Zo 2 (.mv (.k (.bool true)))]) .ret))))⟩
theorem a61_ok:J06 Tryz.prog Tryz.f61=some a61:=by kernel_rfl
theorem Jip {α:Type}{p:α→Bool}{l:List α}{i:Nat}(hi:i<l.length):(l.drop i).all p=(p l[i]&&(l.drop (i+1)).all p):=by rw [List.drop_eq_getElem_cons hi,List.all_cons]
theorem Jom {l:List DFunction}{i:Nat}(hi:i≤l.length):(Jiy l i).length=i:=by simp [Jiy];omega
theorem J9r (fs:List DFunction) (hlf:fs.length≤1048576) (hpre:∀ f∈fs,f.Pre.length≤1048576):Holds Tryz.prog 134 [.sl 4 (fs.map J04)] (fun x=>x = .bool (fs.all Jlq&&inR fs.length 1 3&&J8k (fs.map (·.Name)))):=by
 refine J03 Tryz.func134 a134_ok rfl (by simp [a134]) ?_
 simp [a134]
 generalize hB:fs.all Jlq=B
 refine J0l [0] 4 fs.length (fun i s h n=>(fs.drop i).all Jlq=B∧∃ id,id<n∧s 3 = .ref id 0 i∧h id=some ⟨false,1,J0a (Jiy fs i)⟩) (by unfold LIM;omega) (by simp) ⟨by simpa using hB,0,by simp,by simp,by simp [J0a,Jiy]⟩ ?_ ?_
 ·rintro i st h n R hi hg hk s4 hw ⟨hJ,id,hid,s3,eid⟩ hR hret _
  simp at hk
  rw [Jip hi] at hJ
  have z0:¬id=n:=by omega
  have z1:¬n=id:=by omega
  refine J0b (J0i [0,3,4] (fun s=>s 11 = .bool true) (by simp [hk,s4,hi]) ?_)
  intro st1 hk1 s11
  simp at hk1
  refine J25 s11 (J0b (J1h ?_))
  refine J1n [0,3,4] (fun s h' n'=>s 5 = .ptr n 0 0∧n'=n+1∧h' n=some ⟨true,4,[J04 fs[i]]⟩∧h' id=some ⟨false,1,J0a (Jiy fs i)⟩) (by simp [hk,hk1,s4,hi,J04,eid,z0,z1]) ?_
  rintro st2 h2' n2 hk2 ⟨s5,rfl,en,eid'⟩
  simp at hk2
  have hfp:=hpre _ (List.getElem_mem hi)
  generalize hf:fs[i]=f at *
  refine J0b (J0i [0,3,4,5] (fun s=>s 39 = .bool (!J2o f.Name || !decide (f.Params.length≤2) || !(f.Params.all J3v&&J8k f.Params) || !decide (f.Pre.length≤2))) ?_ ?_)
  ·have hdp:decide (f.Params.length≤2)=decide ((f.Params.length:Int)≤2):=by rw [decide_eq_decide];omega
   have hdq:decide (f.Pre.length≤2)=decide ((f.Pre.length:Int)≤2):=by rw [decide_eq_decide];omega
   obtain ⟨E,hE⟩:∃ E,E=(f.Params.all J3v&&J8k f.Params):=⟨_,rfl⟩
   rw [hdp,hdq,←hE]
   simp [hk,hk1,hk2,s5,en,J04]
   first|refine J01 (J54 f.Name) (by first|simp;done|rfl) ?_|refine J02 (J54 f.Name) (by first|simp;done|rfl) ?_
   rintro r rfl
   cases g1:J2o f.Name
   ·simp
   simp [hk,hk1,hk2,s5,en,J04]
   intro _
   by_cases g3:(f.Params.length:Int)≤2
   case neg=>simp [g3,Int.not_le.1 g3]
   simp [g3,Int.not_lt.2 g3,hk,hk1,hk2,s5,en,J04]
   first|refine J01 (Jhp f.Params) (by first|simp;done|rfl) ?_|refine J02 (Jhp f.Params) (by first|simp;done|rfl) ?_
   rintro r rfl
   rw [←hE]
   clear hE
   cases E
   ·simp
   simp [hk,hk1,hk2,s5,en,J04]
   intro _
   by_cases g5:(f.Pre.length:Int)≤2
   ·simp [g5,Int.not_lt.2 g5]
   ·simp [g5,Int.not_le.1 g5]
  intro st3 hk3 s39
  simp at hk3
  generalize hcc:(!J2o f.Name || !decide (f.Params.length≤2) || !(f.Params.all J3v&&J8k f.Params) || !decide (f.Pre.length≤2))=cc at *
  have hbody:Jlq f=(!cc&&f.Pre.all fun l=>J1q l f.Params.length):=by
   rw [←hcc]
   unfold Jlq
   cases J2o f.Name <;> cases decide (f.Params.length≤2) <;> cases f.Params.all J3v <;> cases J8k f.Params <;> cases decide (f.Pre.length≤2) <;> simp
  rw [hbody] at hJ
  clear hbody hcc
  cases cc
  case true=>
   simp at hJ
   simp [s39]
   refine hret _ _ _ ?_
   simp [hJ]
  refine Jj2 s39 ?_
  simp only [J5u]
  simp only [Bool.not_false,Bool.true_and] at hJ
  simp [hk,hk1,hk2,hk3]
  generalize hB2:(f.Pre.all fun l=>J1q l f.Params.length)=B2 at *
  refine J0l [0,3,4,5] 6 f.Pre.length (fun j s h' n'=>n<n'∧h' n=some ⟨true,4,[J04 f]⟩∧h' id=some ⟨false,1,J0a (Jiy fs i)⟩∧((f.Pre.drop j).all fun l=>J1q l f.Params.length)=B2) (by unfold LIM;omega) (by simp) ⟨by omega,by simpa using en,by simpa using eid',by simpa using hB2⟩ ?_ ?_
  ·rintro j stj hj nj Rj hji hjg hkj s6 hwj ⟨hnj,enj,eidj,hJj⟩ hRj hretj _
   simp at hkj
   rw [Jip hji] at hJj
   refine J0b (J0i [0,3,4,5,6] (fun s=>s 44 = .bool true) (by simp [hkj,hk3,s5,s6,hji,enj,J04]) ?_)
   intro stk hkk s44
   simp at hkk
   refine J25 s44 (J0b (J1h ?_))
   refine J0i [0,3,4,5,6] (fun s=>s 56 = .bool (!J1q f.Pre[j] f.Params.length)) ?_ ?_
   ·simp [hkj,hkk,hk3,s5,s6,hji,hjg,enj,J04]
    first|refine J01 (J1a (f.Pre[j]'hji) f.Params.length) (by first|simp;done|rfl) ?_|refine J02 (J1a (f.Pre[j]'hji) f.Params.length) (by first|simp;done|rfl) ?_
    rintro r rfl
    simp
   intro stm hkm s56
   simp at hkm
   generalize J1q f.Pre[j] f.Params.length=D at *
   cases D
   ·rw [Bool.false_and] at hJj
    subst hJj
    simp at hJ
    subst hJ
    simp [s56]
    refine hretj _ _ _ ?_
    simp
    refine hret _ _ _ ?_
    simp
   ·rw [Bool.true_and] at hJj
    simp [hkj,hkk,hkm,s56,s6,hwj]
    exact hRj _ _ _ (by simp [hkj,hkk,hkm]) (by simp) ⟨hnj,enj,eidj,hJj⟩
  rintro stj hj nj Rj hkj s6 ⟨hnj,enj,eidj,hJj⟩ hretj hXj
  simp at hkj
  rw [List.drop_eq_nil_of_le (by omega)] at hJj
  simp at hJj
  subst hJj
  rw [Bool.true_and] at hJ
  refine J0b (J0i [0,3,4,5] (fun s=>s 44 = .bool false) (by simp [hkj,hk3,s5,s6,enj,J04]) ?_)
  intro stk hkk s44
  simp at hkk
  refine J29 s44 ?_
  simp
  refine hXj _ _ _ _ ?_
  have y0:¬id=nj:=by omega
  have y1:¬nj=id:=by omega
  have y2:¬id=nj+1:=by omega
  have y3:¬nj+1=id:=by omega
  have y4:¬n=nj:=by omega
  have y5:¬nj=n:=by omega
  have hl:=Jom (l:=fs) (i:=i) (by omega)
  simp [hk,hk1,hk2,hk3,hkj,hkk,s3,s4,s5,enj,eidj,J04,y0,y1,y2,y3,y4,y5,hl,hw]
  refine ⟨by unfold LIM;omega,?_⟩
  have hs:=Jkw hi
  rw [hf] at hs
  exact hR _ _ _ (by simp [hk,hk1,hk2,hk3,hkj,hkk]) (by simp) ⟨hJ,nj+1,by omega,by simp,by simp [hs,J0a,List.take_of_length_le,hl]⟩
 rintro st h n R hk s4 ⟨hJ,id,hid,s3,eid⟩ hret hX
 simp at hk
 rw [List.drop_eq_nil_of_le (by omega)] at hJ
 simp at hJ
 subst hJ
 refine J0b (J0i [0,3,4] (fun s=>s 11 = .bool false) (by simp [hk,s4]) ?_)
 intro st1 hk1 s11
 simp at hk1
 refine J29 s11 ?_
 refine hX _ _ _ _ ?_
 have hnam:Jiy fs fs.length=fs.map (·.Name):=by simp [Jiy]
 have hnl:=Jom (l:=fs) (i:=fs.length) (by omega)
 rw [hnam] at eid hnl
 simp [hk,hk1]
 intro _
 first|refine J01 (J5m fs.length 1 3) (by first|simp;done|rfl) ?_|refine J02 (J5m fs.length 1 3) (by first|simp;done|rfl) ?_
 rintro r rfl
 cases h1:inR fs.length 1 3
 ·simp
 simp [hk1,s3]
 have ht:List.take fs.length (J0a (fs.map (·.Name)))=J0a (fs.map (·.Name)):=List.take_of_length_le (by simp)
 first|refine J01 (J4m (fs.map (·.Name))) (by first|simp [eid,ht];done|rfl) ?_|refine J02 (J4m (fs.map (·.Name))) (by first|simp [eid,ht];done|rfl) ?_
 rintro r rfl
 simp
theorem J3g (p:DProgram) (hp:J0k p≤1048576):Holds Tryz.prog 61 [.agg (J00 p)] (fun x=>x = .bool (J2s p)):=by
 have hlf:p.Functions.length≤1048576:=by have:=J2b J0v p.Functions;unfold J0k J1x at hp;omega
 have hpre:∀ f∈p.Functions,f.Pre.length≤1048576:=fun f hf=>by
  have h1:=J4b (w:=J0v) hf
  have h2:=J2b Jab f.Pre
  unfold J0k J1x at hp
  rw [show J0v f=f.Name.length+J44 f.Params+J5h f.Pre from rfl] at h1
  unfold J5h at h1
  omega
 have hlr:p.Rules.length≤1048576:=by have:=J2b J4v p.Rules;unfold J0k J94 at hp;omega
 refine J03 Tryz.func61 a61_ok rfl (by simp [a61]) ?_
 simp [a61,J00]
 first|refine J01 (J9r p.Functions hlf hpre) (by first|simp;done|rfl) ?_|refine J02 (J9r p.Functions hlf hpre) (by first|simp;done|rfl) ?_
 rintro r rfl
 have hord:J2s p=(p.Functions.all Jlq&&inR p.Functions.length 1 3&&J8k (p.Functions.map (·.Name))&&decide (p.Rules.length≤8)&&p.Rules.all (J7u p)):=by
  unfold J2s
  rw [Ja1]
  unfold J8k
  cases inR p.Functions.length 1 3 <;> cases p.Functions.all Jlq <;> simp
 rw [hord]
 generalize (p.Functions.all Jlq&&inR p.Functions.length 1 3&&J8k (p.Functions.map (·.Name)))=E
 cases E
 ·simp
 simp
 intro _
 have hdg:decide (p.Rules.length≤8)=decide ((p.Rules.length:Int)≤8):=by rw [decide_eq_decide];omega
 by_cases h2:(p.Rules.length:Int)≤8
 case neg=>
  have h2n:¬p.Rules.length≤8:=by omega
  simp [h2,h2n,Int.not_le.1 h2]
 have h2n:p.Rules.length≤8:=by omega
 simp [h2,h2n,Int.not_lt.2 h2]
 generalize hB:p.Rules.all (J7u p)=B
 refine J0l [1] 3 p.Rules.length (fun i s h n=>0<n∧h 0=some ⟨true,2,[J00 p]⟩∧(p.Rules.drop i).all (J7u p)=B) (by unfold LIM;omega) (by simp) ⟨by simp,by simp [J00],by simpa using hB⟩ ?_ ?_
 ·rintro i st h n R hi hg hk s3 hw ⟨hn,e0,hJ⟩ hR hret _
  simp at hk
  rw [Jip hi] at hJ
  refine J0b (J0i [1,3] (fun s=>s 18 = .bool true) (by simp [hk,s3,hi,e0,J00]) ?_)
  intro st1 hk1 s18
  simp at hk1
  refine J25 s18 (J0b (J1h ?_))
  refine J0i [1,3] (fun s=>s 28 = .bool (!J7u p p.Rules[i])) ?_ ?_
  ·simp [hk,hk1,s3,hi,hg,e0,J00]
   first|refine J01 (J6d p (p.Rules[i]'hi) hp (Ja8 hp _ (List.getElem_mem hi))) (by simp [J00]) ?_|refine J02 (J6d p (p.Rules[i]'hi) hp (Ja8 hp _ (List.getElem_mem hi))) (by simp [J00]) ?_|refine J01 (J6d p (p.Rules[i]'hi) hp (Ja8 hp _ (List.getElem_mem hi))) rfl ?_|refine J02 (J6d p (p.Rules[i]'hi) hp (Ja8 hp _ (List.getElem_mem hi))) rfl ?_
   rintro r rfl
   simp
  intro st2 hk2 s28
  simp at hk2
  generalize J7u p p.Rules[i]=D at *
  cases D
  ·rw [Bool.false_and] at hJ
   subst hJ
   simp [s28]
   refine hret _ _ _ ?_
   simp
  ·rw [Bool.true_and] at hJ
   simp [hk,hk1,hk2,s28,s3,hw]
   exact hR _ _ _ (by simp [hk,hk1,hk2]) (by simp) ⟨hn,e0,hJ⟩
 rintro st h n R hk s3 ⟨hn,e0,hJ⟩ hret hX
 simp at hk
 rw [List.drop_eq_nil_of_le (by omega)] at hJ
 simp at hJ
 subst hJ
 refine J0b (J0i [1] (fun s=>s 18 = .bool false) (by simp [hk,s3,e0,J00]) ?_)
 intro st1 hk1 s18
 refine J29 s18 ?_
 refine hX _ _ _ _ ?_
 simp
def a180:AFn:= ⟨46,[.t 4],(.seq (.reg [Zo 2 (.boxv (.t 0)),Zo 4 (.mv (.k (.nil 2)))]) (.seq (.reg [Zo 8 (.bsl 2 []),Zv 5 8]) (.seq (.seq (.reg [Zo 6 (.mv (.k (.int .i64 0)))]) (.blk 0 (.loop (.seq (.seq (.reg [Zv 9 6,Zf 10 1 2,Zl 11 false 1 10,Zo 12 (.len false (.t 11)),Zo 13 (.bin .lss (.t 9) (.t 12))]) (.cond (.t 13) .skip (.exit 0))) (.seq (.blk 1 (.seq (.reg [Zf 16 1 2,Zl 17 false 1 16,Zv 18 6,Zo 19 (.ixa 1 (.t 17) (.t 18)),Zl 20 false 1 19,Zc 21 260 [.t 20]]) (.cond (.t 21) (.reg [Zv 22 5,Zv 23 6,Zv 24 1,Zc 25 261 [.t 23,.t 24],Zo 26 (.bsl 2 [.t 25]),Zo 27 (.app 32 2 (.t 22) (.t 26)),Zv 5 27]) .skip))) (.reg [Zv 14 6,Zo 15 (.bin .add (.t 14) (.k (.int .i64 1))),Zv 6 15])))))) (.seq (.seq (.reg [Zo 7 (.mv (.k (.int .i64 0)))]) (.blk 2 (.loop (.seq (.seq (.reg [Zv 28 7,Zf 29 3 2,Zl 30 false 1 29,Zo 31 (.len false (.t 30)),Zo 32 (.bin .lss (.t 28) (.t 31))]) (.cond (.t 32) .skip (.exit 2))) (.seq (.blk 3 (.reg [Zv 35 5,Zf 36 3 2,Zl 37 false 1 36,Zv 38 7,Zo 39 (.ixa 2 (.t 37) (.t 38)),Zl 40 true 2 39,Zv 41 1,Zc 42 262 [.t 40,.t 41],Zo 43 (.bsl 2 [.t 42]),Zo 44 (.app 32 2 (.t 35) (.t 43)),Zv 5 44])) (.reg [Zv 33 7,Zo 34 (.bin .add (.t 33) (.k (.int .i64 1))),Zv 7 34])))))) (.seq (.reg [Zv 45 5,Zv 4 45]) .ret)))))⟩
theorem a180_ok:J06 Tryz.prog Tryz.f180=some a180:=by kernel_rfl
theorem Jbg {n:Nat} : ∀ {xs:List Str}{i:Nat},(Je3 n xs i).length≤xs.length
 | [],_=>Nat.le_refl _
 | x::xs,i=>by
  have:=Jbg (n:=n) (xs:=xs) (i:=i+1)
  simp only [Je3,List.length_append,List.length_cons]
  split <;> simp <;> omega
theorem K5j {f:DFunction}(hw:J0v f≤1048576):f.Params.length≤1048576∧f.Pre.length≤1048576∧∀ l∈f.Pre,l.Coeffs.length≤1048576:=by
 have h3:J0v f=f.Name.length+J44 f.Params+J5h f.Pre:=rfl
 have h4:=J2b List.length f.Params
 have h5:=J2b Jab f.Pre
 unfold J44 J5h at h3
 refine ⟨by omega,by omega,fun l hl => ?_⟩
 have:=J4b (w:=Jab) hl
 rw [show Jab l=l.Coeffs.length from rfl] at this
 omega
theorem fn_w {p:DProgram}{name:Str}{f:DFunction}(hp:J0k p≤1048576) (hf:J1o p.Functions name=some f):J0v f≤1048576:=by
 have h3:=J4b (w:=J0v) (List.mem_of_find?_eq_some hf)
 unfold J0k J1x at hp;omega
theorem Je0 (f:DFunction) (n:Nat) (hw:J0v f≤1048576) (hn:n≤1048576) (hpre:∀ l∈f.Pre,l.Coeffs.length≤n):Holds Tryz.prog 180 [.agg (J04 f),i64 n] (fun r=>r = .us 2 ((Jec f n).map J08)):=by
 obtain ⟨hl1,hl2,hl3⟩:=K5j hw
 have hr0:=Jbg (n:=n) (xs:=f.Params) (i:=0)
 refine J03 Tryz.func180 a180_ok rfl (by simp [a180]) ?_
 simp [a180,J04]
 generalize hT1:Je3 n f.Params 0=T1
 rw [hT1] at hr0
 have hdom:Jec f n=T1++f.Pre.map (J4g n):=by unfold Jec;rw [hT1]
 refine J0l [1,2] 6 f.Params.length (fun i s h m=>1<m∧h 0=some ⟨true,4,[J04 f]⟩∧∃ (acc:List DLin) (id:Nat),acc++Je3 n (f.Params.drop i) i=T1∧id≠0∧id<m∧s 5 = .ref id 0 acc.length∧h id=some ⟨false,2,acc.map J08⟩) (by unfold LIM;omega) (by simp) ⟨by simp,by simp [J04],[],1,by simpa using hT1,by simp,by simp,by simp,by simp⟩ ?_ ?_
 ·rintro i st h m R hi hg hk s6 hw ⟨hm,e0,acc,id,hJ,hid0,hid,s5,eid⟩ hR _ _
  simp at hk
  rw [List.drop_eq_getElem_cons hi] at hJ
  simp only [Je3] at hJ
  refine J0b (J0i [1,2,5,6] (fun s=>s 13 = .bool true) (by simp [hk,s6,hi,e0,J04]) ?_)
  intro st1 hk1 s13
  simp at hk1
  refine J25 s13 (J0b (J1h ?_))
  refine J0i [1,2,5,6] (fun s=>s 21 = .bool (J0n f.Params[i])) ?_ ?_
  ·simp [hk1,hk,s6,hi,e0,J04]
   first|refine J01 (J1c (f.Params[i]'hi)) (by first|simp;done|rfl) ?_|refine J02 (J1c (f.Params[i]'hi)) (by first|simp;done|rfl) ?_
   rintro r rfl
   simp
  intro st2 hk2 s21
  simp at hk2
  have z0:¬0=m:=by omega
  have z1:¬m=0:=by omega
  have z2:¬id=m:=by omega
  have z3:¬m=id:=by omega
  have z4:¬0=id:=by omega
  have z5:¬0=m+1:=by omega
  have z6:¬id=m+1:=by omega
  have z7:¬m+1=id:=by omega
  have z8:¬0=m+2:=by omega
  have z9:¬0=m+1+1:=by omega
  cases c1:J0n f.Params[i]
  ·rw [c1] at hJ s21
   simp only [Bool.false_eq_true,if_false,List.nil_append] at hJ
   simp [hk2,hk1,hk,s21,s6,hw]
   exact hR _ _ _ (by simp [hk2,hk1,hk]) (by simp) ⟨hm,e0,acc,id,hJ,hid0,hid,by simp [hk2,hk1,s5],eid⟩
  ·rw [c1] at hJ s21
   simp only [if_true] at hJ
   have hal:=congrArg List.length hJ
   simp only [List.length_append,List.length_cons,List.length_nil] at hal
   simp [hk2,hk1,hk,s21,s6,hw,e0]
   first|refine J01 (J7i i n) (by first|simp;done|rfl) ?_|refine J02 (J7i i n) (by first|simp;done|rfl) ?_
   rintro r rfl
   simp [hk2,hk1,hk,s21,s6,hw,e0,eid,s5,J08,z0,z1,z2,z3,z4,z5,z6,z7,z8,z9]
   refine ⟨by unfold LIM;omega,?_⟩
   exact hR _ _ _ (by simp [hk2,hk1,hk]) (by simp) ⟨by omega,by simp [e0,z0,z4,z5,z8,z9],acc++[J37 i n],m+2,by simpa using hJ,by omega,by omega,by simp,by simp [J08,List.take_of_length_le]⟩
 rintro st h m R hk s6 ⟨hm,e0,acc,id,hJ,hid0,hid,s5,eid⟩ hret hX
 simp at hk
 rw [List.drop_eq_nil_of_le (by omega)] at hJ
 simp only [Je3,List.append_nil] at hJ
 subst hJ
 refine J0b (J0i [1,2,5] (fun s=>s 13 = .bool false) (by simp [hk,s6,e0,J04]) ?_)
 intro st1 hk1 s13
 simp at hk1
 refine J29 s13 ?_
 refine hX _ _ _ _ ?_
 simp [hk1,s5]
 generalize hT2:acc++f.Pre.map (J4g n)=T2
 refine J0l [1,2] 7 f.Pre.length (fun i s h m=>1<m∧h 0=some ⟨true,4,[J04 f]⟩∧∃ (acc:List DLin) (id:Nat),acc++(f.Pre.drop i).map (J4g n)=T2∧id≠0∧id<m∧s 5 = .ref id 0 acc.length∧h id=some ⟨false,2,acc.map J08⟩) (by unfold LIM;omega) (by simp) ⟨hm,e0,acc,id,by simpa using hT2,hid0,hid,by simp [hk1,s5],eid⟩ ?_ ?_
 ·rintro i tt h m R hi hg hl s7 hw ⟨hm,e0,acc,id,hJ,hid0,hid,s5,eid⟩ hR _ _
  simp [hk1,hk] at hl
  rw [List.drop_eq_getElem_cons hi,List.map_cons] at hJ
  refine J0b (J0i [1,2,5,7] (fun s=>s 32 = .bool true) (by simp [hl,s7,hi,e0,J04]) ?_)
  intro tt1 hl1 s32
  simp at hl1
  refine J25 s32 (J0b (J1h ?_))
  have z0:¬0=m:=by omega
  have z1:¬m=0:=by omega
  have z2:¬id=m:=by omega
  have z3:¬m=id:=by omega
  have z4:¬0=id:=by omega
  have z5:¬0=m+1:=by omega
  have z6:¬id=m+1:=by omega
  have z7:¬m+1=id:=by omega
  have z8:¬0=m+2:=by omega
  have z9:¬0=m+1+1:=by omega
  have hal:=congrArg List.length hJ
  simp only [List.length_append,List.length_cons,List.length_map,List.length_drop] at hal
  have hT2l:T2.length≤3000000:=by rw [←hT2];simp;omega
  simp [hl1,hl,s7,hi,hw,e0,J04]
  first|refine J01 (J8w (f.Pre[i]'hi) n (hpre _ (List.getElem_mem hi)) hn) (by simp) ?_|refine J02 (J8w (f.Pre[i]'hi) n (hpre _ (List.getElem_mem hi)) hn) (by simp) ?_|refine J01 (J8w (f.Pre[i]'hi) n (hpre _ (List.getElem_mem hi)) hn) rfl ?_|refine J02 (J8w (f.Pre[i]'hi) n (hpre _ (List.getElem_mem hi)) hn) rfl ?_
  rintro r rfl
  simp [hl1,hl,s7,hw,e0,eid,s5,J08,z0,z1,z2,z3,z4,z5,z6,z7,z8,z9]
  refine ⟨by unfold LIM;omega,?_⟩
  exact hR _ _ _ (by simp [hl1,hl,hk1,hk]) (by simp) ⟨by omega,by simp [e0,z0,z4,z5,z8,z9],acc++[J4g n f.Pre[i]],m+2,by simpa using hJ,by omega,by omega,by simp,by simp [J08,List.take_of_length_le]⟩
 rintro tt h m R hl s7 ⟨hm,e0,acc,id,hJ,hid0,hid,s5,eid⟩ hret hX
 simp [hk1,hk] at hl
 rw [List.drop_eq_nil_of_le (by omega)] at hJ
 simp only [List.map_nil,List.append_nil] at hJ
 subst hJ
 refine J0b (J0i [1,2,5] (fun s=>s 32 = .bool false) (by simp [hl,s7,e0,J04]) ?_)
 intro tt1 hl1 s32
 simp at hl1
 refine J29 s32 ?_
 refine hX _ _ _ _ ?_
 simp [hl1,s5,eid,hdom,hT2]
theorem Jf8 {n:Nat} : ∀ {xs:List Str}{a:MS},(xs.foldl (J9a n) a).nx=a.nx+xs.length∧(xs.foldl (J9a n) a).E.length=a.E.length+xs.length∧(xs.foldl (J9a n) a).args=a.args∧(xs.foldl (J9a n) a).rows=a.rows∧J1d (xs.foldl (J9a n) a).E=J1d a.E++xs
 | [],a=>by simp
 | x::xs,a=>by
  obtain ⟨h1,h2,h3,h4,h5⟩:=Jf8 (n:=n) (xs:=xs) (a:=J9a n a x)
  simp only [List.foldl_cons,List.length_cons]
  refine ⟨by rw [h1];show a.nx+1+_=_;omega,by rw [h2];simp [J9a];omega,by rw [h3];rfl,by rw [h4];rfl,by rw [h5];simp [J9a,J1d]⟩
theorem Jop {n:Nat}(hn:n≤8):∀ {xs:List Str}{a:MS},(∀ e∈a.E,e.2.Coeffs.length≤8)→∀ e∈(xs.foldl (J9a n) a).E,e.2.Coeffs.length≤8
 | [],_,h=>h
 | x::xs,a,h=>by
  simp only [List.foldl_cons]
  refine Jop hn ?_
  intro e he
  rcases List.mem_append.1 he with he|he
  ·exact h e he
  ·simp at he;subst he;exact J6u n hn
theorem Jc2 {n:Nat} : ∀ {xs:List DPattern}{a:MS},(xs.foldl (J62 n) a).rows.length=a.rows.length+xs.length∧(xs.foldl (J62 n) a).E.length≤a.E.length+2*xs.length∧(xs.foldl (J62 n) a).args=a.args∧(xs.foldl (J62 n) a).nx=a.nx+J3p xs
 | [],a=>by simp [J3p]
 | x::xs,a=>by
  obtain ⟨h1,h2,h3,h4⟩:=Jc2 (n:=n) (xs:=xs) (a:=J62 n a x)
  simp only [List.foldl_cons,List.length_cons]
  have g1:(J62 n a x).rows.length=a.rows.length+1:=by unfold J62;split <;> simp
  have g2:(J62 n a x).E.length≤a.E.length+2:=by unfold J62;split <;> simp
  have g3:(J62 n a x).args=a.args:=by unfold J62;split <;> rfl
  have g4:(J62 n a x).nx=a.nx+(if x.Cons then 1 else 0):=by unfold J62;cases x.Cons <;> simp
  exact ⟨by omega,by omega,by rw [h3,g3],by rw [h4,g4,Ji1];omega⟩
theorem Jhn {n:Nat} : ∀ {xs:List DCall}{a:MS},(xs.foldl (J69 n) a).E.length=a.E.length+xs.length
 | [],a=>by simp
 | x::xs,a=>by
  have h1:=Jhn (n:=n) (xs:=xs) (a:=J69 n a x)
  simp only [List.foldl_cons,List.length_cons]
  rw [h1];simp [J69];omega
theorem Jlh (p:DProgram) (hp:J0k p≤1048576) (h1:J2s p=true) {j:Nat}(hj:j<p.Rules.length):Holds Tryz.prog 184 [.agg (J00 p),i64 j] (fun x=>x = .agg (J2h (J66 (p.Rules[j]) (Jm5 p (p.Rules[j]))))):=by
 refine J03 Tryz.func184 a184_ok rfl (by simp [a184]) ?_
 obtain ⟨f,hf,R⟩:=Jb8 h1 (List.getElem_mem hj)
 have hfa:Jm5 p p.Rules[j]=f:=by unfold Jm5;rw [hf];rfl
 simp [a184,lm0,lm1,lm2,J00,hj]
 first|refine J01 (J30 p (p.Rules[j]).Func hp) (by first|simp [J00];done|rfl) ?_|refine J02 (J30 p (p.Rules[j]).Func hp) (by first|simp [J00];done|rfl) ?_
 rintro r rfl
 rw [hfa,hf]
 have hwf:=fn_w hp hf
 have hpar:=R.par
 have hnpre:=R.npre
 have hnp:=R.npats
 have hnc:=R.ncalls
 have h6:=R.size
 have hrargs:=R.args h1
 have hrres:=Jc1 (Jin R.res)
 generalize p.Rules[j]=r at *
 simp [Jcg,J0g,J0c,lm3,lm4]
 intro _
 refine J01 (Jor r.Patterns) (by simp) ?_
 rintro _ rfl
 have hcl:=Jo8 r.Patterns
 have hw1:IntKind.i64.wrap ((f.Params.length:Int)+(J3p r.Patterns:Int))=(f.Params.length:Int)+(J3p r.Patterns:Int):=J0r (by omega)
 have hw2:IntKind.i64.wrap ((f.Params.length:Int)+(J3p r.Patterns:Int)+(r.Calls.length:Int))=(J19 r f:Int):=by rw [J0r (by omega)];unfold J19;omega
 have hpl:∀ l∈f.Pre,l.Coeffs.length≤J19 r f:=fun l hl=>by
  have h1:=(J1z (R.pre l hl)).1
  have h2:f.Params.length≤J19 r f:=by unfold J19;omega
  omega
 simp [hw1,hw2,lm5]
 have hkE:=Jf8 (n:=J19 r f) (xs:=f.Params) (a:=⟨[],0,Jec f (J19 r f),[],[]⟩)
 have hvE:=Jop (n:=J19 r f) (by omega) (xs:=f.Params) (a:=⟨[],0,Jec f (J19 r f),[],[]⟩) (by simp)
 have hdl:(Jec f (J19 r f)).length≤4:=by
  unfold Jec
  have:=Jbg (n:=J19 r f) (xs:=f.Params) (i:=0)
  simp;omega
 rw [←show ss1 r f=f.Params.foldl (J9a (J19 r f)) ⟨[],0,Jec f (J19 r f),[],[]⟩ from rfl] at hkE hvE
 have hsz:r.Calls.length≤J19 r f∧f.Params.length+J3p r.Patterns=J19 r f - r.Calls.length:=by unfold J19;omega
 have ss3d:ss3 r f=r.Patterns.foldl (J62 (J19 r f)) (Jcl (ss1 r f) f.Params.length):=rfl
 have hp3:=Jc2 (n:=J19 r f) (xs:=r.Patterns) (a:=Jcl (ss1 r f) f.Params.length)
 rw [←ss3d] at hp3
 have ss5d:ss5 r f=r.Calls.foldl (J69 (J19 r f)) (J0y (Jcl (ss3 r f) (f.Params.length+J3p r.Patterns)) (r.Guards.map (Jel (ss3 r f).E (J19 r f)))):=rfl
 have hc5:=Jhn (n:=J19 r f) (xs:=r.Calls) (a:=J0y (Jcl (ss3 r f) (f.Params.length+J3p r.Patterns)) (r.Guards.map (Jel (ss3 r f).E (J19 r f))))
 rw [←ss5d] at hc5
 have hmS:J66 r f=K1l (J19 r f) (ss5 r f) (Jhe (ss5 r f).E (J19 r f) r.Result):=rfl
 rw [hmS]
 have hrr:(r.Patterns.foldl (J62 (J19 r f)) ⟨(ss1 r f).E,f.Params.length,[],[],[]⟩).rows.length≤100000:=by
  have:=(Jc2 (n:=J19 r f) (xs:=r.Patterns) (a:=⟨(ss1 r f).E,f.Params.length,[],[],[]⟩)).1
  rw [this];simp;omega
 generalize hN:J19 r f=N at *
 first|refine J01 (Je0 f N hwf (by omega) hpl) (by first|simp [J04];done|rfl) ?_|refine J02 (Je0 f N hwf (by omega) hpl) (by first|simp [J04];done|rfl) ?_
 rintro r rfl
 simp [lm6]
 refine K0v (r:=r) (f:=f) (N:=N) (R0:=Jec f N) (by simp) (by simp) (by simp) (by simp) (by simp) ?_ hpar ?_
 ·refine ⟨by simp,by simp [J0c],by simp,by simp,by omega,.nil 1,.nil 2,.ref 6 0 (Jec f N).length,.nil 2,.nil 1,by simp,by simp [J5q],?_,?_⟩
  ·intro x hx
   simp only [List.mem_cons,List.not_mem_nil,or_false] at hx
   rcases hx with rfl|rfl|rfl|rfl|rfl
   ·exact .inl (by simp [J1d,J0a])
   ·exact .inl (by simp [J3h])
   ·exact .inr ⟨6,by omega,by omega,by simp,by simp⟩
   ·exact .inl (by simp)
   ·exact .inl (by simp)
  ·simp only [List.pairwise_cons,List.mem_cons,List.not_mem_nil,or_false,forall_eq_or_imp,forall_eq]
   refine ⟨⟨?_,?_,?_,?_⟩,⟨?_,?_,?_⟩,⟨?_,?_⟩,?_,by simp⟩ <;> intro i k l e1 e2 <;> first|cases e1;done|(cases e2;done)
 intro s1 h1' n1 hk1 M1
 simp at hk1
 rw [show f.Params.foldl (J9a N) ⟨[],0,Jec f N,[],[]⟩=ss1 r f by unfold ss1;rw [hN]] at M1
 refine J6b (Jvy (m:=f.Params.length) (by simp [hk1]) (by simp [hk1]) (by simp [hk1]) (by simp [hk1]) (by simp [hk1]) M1 (by omega) (by omega) (by rw [hkE.2.1];simp;omega) (by omega) (by rw [hkE.2.2.2.1];show (Jec f N).length≤_;omega) ?_ hvE hrr ?_)
 ·intro q hq
  rw [hkE.2.2.2.2]
  simpa [J1d] using R.pats q hq
 intro s2 h2 n2 hk2 M2
 simp at hk2
 rw [←ss3d] at M2
 have hE3:(ss3 r f).E.length≤1000:=by
  have e1:(Jcl (ss1 r f) f.Params.length).E.length=f.Params.length:=by show (ss1 r f).E.length=_;rw [hkE.2.1];simp
  omega
 have hR3:(ss3 r f).rows.length≤1000:=by
  have e1:(Jcl (ss1 r f) f.Params.length).rows.length=(Jec f N).length:=by show (ss1 r f).rows.length=_;rw [hkE.2.2.2.1]
  omega
 refine J0b (Jvd (by simp [hk2,hk1]) (by simp [hk2,hk1]) (by simp [hk2,hk1]) (by simp [hk2,hk1]) M2 (by omega) R.nguards (fun g hg => ?_) (by omega) ?_)
 ·have:=R.guards g hg
  unfold J4e J98 at this
  simp only [Bool.and_eq_true,decide_eq_true_eq] at this
  omega
 intro s3 h3 n3 hk3 M3
 simp at hk3
 have M3':SM r f N (J0y (Jcl (ss3 r f) (f.Params.length+J3p r.Patterns)) (r.Guards.map (Jel (ss3 r f).E N))) h3 n3:=M3
 refine J6b (J0b (Juu (by simp [hk3,hk2,hk1]) (by simp [hk3,hk2,hk1]) (by simp [hk3,hk2,hk1]) (by simp [hk3,hk2,hk1]) M3' (by omega) (by show (ss3 r f).E.length≤_;omega) hnc (by omega) (by show f.Params.length+J3p r.Patterns=_;omega) (by have:=R.nguards;show ((ss3 r f).rows++_).length≤_;simp;omega) ?_ (fun c hc=>⟨(hrargs c hc).1,fun x hx=>Jc1 ((hrargs c hc).2 x hx)⟩) ?_))
 ·show (ss3 r f).args.length≤_
  rw [hp3.2.2.1]
  show (ss1 r f).args.length≤_
  rw [hkE.2.2.1];simp
 intro s4 h4 n4 hk4 M4
 simp at hk4
 rw [←ss5d] at M4
 have hE5:(ss5 r f).E.length≤2000:=by
  rw [hc5]
  show (ss3 r f).E.length+_≤_
  omega
 generalize ss5 r f=ms at *
 obtain ⟨vN,vL,e8,hbw⟩:=M4.bws
 obtain ⟨b1,b2⟩:=hbw h4 fun _ _=>rfl
 have l4:=M4.lt
 refine J6b ?_
 simp [Kdu,hk4,hk3,hk2,hk1,e8,M4.hr,J0c]
 first|refine J01 (J7a ms.E (by omega) r.Result (fun x hx=>by have:=hrres.1 x hx;omega) hrres.2 N) (by first|simp [Jhw,b1,b2,J15];done|rfl) ?_|refine J02 (J7a ms.E (by omega) r.Result (fun x hx=>by have:=hrres.1 x hx;omega) hrres.2 N) (by first|simp [Jhw,b1,b2,J15];done|rfl) ?_
 rintro r rfl
 rw [J0u,show (Jzz ms.E N r.Result).getD J1g=Jhe ms.E N r.Result from rfl]
 generalize Jhe ms.E N r.Result=res at *
 obtain ⟨vN2,vL2,vR,vP,vA,e8',e7,AS⟩:=M4.acc
 obtain ⟨AS1,AS2⟩:=AS
 simp only [List.pairwise_cons,List.mem_cons,List.not_mem_nil,or_false,forall_eq_or_imp,forall_eq] at AS2
 obtain ⟨_,_,⟨d8,d9⟩,d10,_⟩:=AS2
 have k2:=AS1 (2,ms.rows.map J08,vR) (by simp)
 have k3:=AS1 (2,ms.pars.map J08,vP) (by simp)
 have k4:=AS1 (1,ms.args.map J1u,vA) (by simp)
 have cR:=k2.cell
 have cP:=k3.cell
 have cA:=k4.cell
 have ne:¬7=n4∧¬1=n4∧¬n4=7∧¬n4=1:=by omega
 simp [J08,hk4,hk3,hk2,hk1,e7,J5q,Kd4,M4.hz,ne,-dt,-dtl,-J0x,Jd1,Jhi,cR,cP,cA]
 generalize hH:upd (upd (upd h4 n4 _) 7 _) 1 _=H
 have fH:∀ id,5<id→id<n4→id≠7→H id=h4 id:=by
  intro id hid _ _
  have:¬id=1∧¬id=7∧¬id=n4:=by omega
  rw [←hH];simp [this]
 have nb:∀ {z:Nat}{rows:List (List AV)}{v:AV}(x:J41 5 z rows v h4 n4),J41 5 z rows v H n4:=fun x=>x.keep (Nat.le_refl _) fun id hb hid e=>fH id hb hid fun e'=>x.not_box e7 (by rw [←e'];exact e)
 have m2:=nb k2
 have m3:=nb k3
 have m4:=nb k4
 have kq:H n4=some ⟨false,1,J0m res.Coeffs⟩:=by rw [←hH];simp [ne]
 obtain ⟨H1,dd1,e1⟩:=m2.dt
 have m3':J41 5 2 (ms.pars.map J08) vP H1 n4:=m3.keep (Nat.le_refl _) fun id hb hid e=>e1 id fun l el=>d8 id _ _ el e
 obtain ⟨H2,dd2,e2⟩:=m3'.dt
 have m4':J41 5 1 (ms.args.map J1u) vA H2 n4:=m4.keep (Nat.le_refl _) fun id hb hid e=>by
  rw [e2 id fun l el=>d10 id _ _ el e,e1 id fun l el=>d9 id _ _ el e]
 obtain ⟨H3,dd3,e3⟩:=m4'.dt
 have kq3:H3 n4=some ⟨false,1,J0m res.Coeffs⟩:=by
  rw [e3 n4 fun l el=>m4.ne_ge (Nat.le_refl _) el,e2 n4 fun l el=>m3.ne_ge (Nat.le_refl _) el,e1 n4 fun l el=>m2.ne_ge (Nat.le_refl _) el,kq]
 simp [dd1,dd2,dd3,kq3,J2h,K1l]
end Go.Proofs.YtoclolkigjbcgaaGreat

/- The program's ModelOf, part by part: patterns, guards. -/
import Derived.Test.YtoclolkigjbcgaaGreatKHS4
import Derived.Test.YtoclolkigjbcgaaGreatKV7S
import Derived.Test.YtoclolkigjbcgaaGreatKC13
namespace Go.Proofs.YtoclolkigjbcgaaGreat
set_option maxRecDepth 40000
set_option maxHeartbeats 4000000
open Go Go.RowKit Go.Proofs
set_option linter.all false
section
variable {p:DProgram}{r:DRule}{f:DFunction}{N:Nat}{I:Ids}{ks:List Kt}{s:Env}{h:Heap}{n:Nat}{Q:Fin}
theorem J9m {a b:DLin}{k:Int} : (J88 a k b).Coeffs.length≤8:=by
 unfold J88
 cases ha:J0j a k b with
 | none=>simp [J1b]
 | some o=>
  have h1:=(Ja8 ha).1
  unfold J0j at ha
  split at ha
  ·rename_i hc
   simp only [Bool.and_eq_true] at hc
   have h2:=J1u hc.1.1.1.1
   simp only [Option.getD_some];omega
  ·cases ha
theorem Jpz {a:DLin}{k:Int} : ((J4b a k).getD J1b).Coeffs.length≤8:=by
 unfold J4b
 split
 ·rename_i hc
  simp only [Bool.and_eq_true] at hc
  have h2:=J1u hc.2
  simp only [Option.getD_some];omega
 ·simp [J1b]
theorem MI.ne_m {ms:MS}(M:MI p r f N I ms h n) {k z:Nat}{rows:List (List AV)}(hk:h k=some ⟨true,z,rows⟩) (hz:z≠6):k≠I.m:=by
 rintro rfl
 obtain ⟨vR,vP,vA,g1,_⟩:=M.acc
 rw [hk] at g1;simp at g1;exact hz g1.1
theorem MI.ne_d {ms:MS}(M:MI p r f N I ms h n) {k z:Nat}{rows:List (List AV)}(hk:h k=some ⟨true,z,rows⟩) (hz:z≠0):k≠I.d:=by
 rintro rfl
 obtain ⟨es,_,g1,_⟩:=M.map
 rw [hk] at g1;simp at g1;exact hz g1.1
theorem MI.ne_x {ms:MS}(M:MI p r f N I ms h n) {k z:Nat}{rows:List (List AV)}(hk:h k=some ⟨true,z,rows⟩) (hz:z≠1):k≠I.x:=by
 rintro rfl
 rw [M.hnx] at hk;simp at hk;exact hz hk.1.symm
theorem Js1 {ma:MS}(S:J6x I s) (M:MI p r f N I ma h n) (hl2:r.Patterns.length≤2) (hx2:ma.nx≤100) (hr2:ma.rows.length≤100) (hN:N≤8)
 (hK:∀ s' h' n',J6x I s'→MI p r f N I (r.Patterns.foldl (Jch N) ma) h' n'→J2b Tryz.prog ks .normal s' h' n' Q):rC Tryz.prog K5n ks s h n Q:=by
 have S0:=S
 obtain ⟨s2,s4,s6,s7,s9,s12,s13,s15,s16⟩:=S0
 simp [K5n,s6,M.hr,J0c]
 intro _
 generalize hT:r.Patterns.foldl (Jch N) ma=T at hK
 refine J0o [2,4,6,7,9,12,13,15,16,136,137] 138 r.Patterns.length (fun i s' h' n'=>∃ ms:MS,MI p r f N I ms h' n'∧(r.Patterns.drop i).foldl (Jch N) ms=T∧ms.nx≤100+i∧ms.rows.length≤100+i) (by unfold LIM;omega) (by simp)
  ⟨_,M,by simpa using hT,by omega,by omega⟩ ?_ ?_
 ·rintro i st h' m R hi hg hk s138 hw ⟨ms,M,hJ,hb1,hb2⟩ hR _ _
  simp at hk
  rw [List.drop_eq_getElem_cons hi,List.foldl_cons] at hJ
  obtain ⟨l1,l2,l3,l4,l5⟩:=M.lt
  refine J0i [2,4,6,7,9,12,13,15,16,136,137,138] (fun s=>s 139 = .bool true) (by simp [hk,s138,hi]) ?_
  intro st1 hk1 s139
  simp at hk1
  refine J3g s139 (J0b (J1c ?_))
  refine J15 [2,4,6,7,9,12,13,15,16,136,137,138] (fun s h' n'=>∃ k,s 25 = .ptr k 0 0∧k<n'∧h' k=some ⟨true,4,[J09 (r.Patterns[i]'hi)]⟩∧MI p r f N I ms h' n') ?_ ?_
  ·have fr:∀ id,id<m→¬id=m:=by intro id _;omega
   simp [hk1,hk,s138,hi,J09]
   exact M.frame (by omega) fun id hid=>by simp [fr id hid]
  rintro st2 h2 n2 hk2 ⟨k,s25,hkn,hkb,M2⟩
  simp at hk2
  generalize r.Patterns[i]=q at *
  have S2:J6x I st2:=S.of (by simp [hk2,hk1,hk])
  obtain ⟨t2,t4,t6,t7,t9,t12,t13,t15,t16⟩:=S2
  have kk:∀ j∈[2,4,6,7,9,12,13,15,16,136,137,138],st2 j=st j:=by simp [hk2,hk1]
  simp at kk
  cases hc:q.Cons
  ·have hiP:Jch N ms q=Jj9 ms (J88 (J05 0 N) (-1) (J2w J1b ms.E q.Lst)):=by unfold Jch;rw [hc];rfl
   rw [hiP] at hJ
   refine J0b ?_
   refine J0i [2,4,6,7,9,12,13,15,16,136,137,138,25] (fun s=>s 144 = .bool true) (by simp [s25,hkb,J09,hc]) ?_
   intro st3 hk3 s144
   simp at hk3
   rw [Jhv (show ev st3 (.t 144) = .bool true from s144)]
   refine J0b (Jpx (q:=q) (k:=k) (by rw [hk3.2.2.2.2.1,t9]) (by rw [hk3.2.2.2.2.2.2.1,t13]) (by rw [hk3.2.2.2.2.2.2.2.2.2.2.2.2,s25]) M2 hkb ?_)
   rintro st4 h4 n4 hk4 ⟨k4,s26,q4,hkn4,hqn4,hkb4,hqb4⟩ M4
   have kp:∀ j∈[2,4,6,7,9,12,13,15,16,136,137,138],st4 j=st j:=by
    simp [hk4 2 (by omega) (by omega) (by omega),hk4 4 (by omega) (by omega) (by omega),hk4 6 (by omega) (by omega) (by omega),hk4 7 (by omega) (by omega) (by omega),hk4 9 (by omega) (by omega) (by omega),hk4 12 (by omega) (by omega) (by omega),hk4 13 (by omega) (by omega) (by omega),hk4 15 (by omega) (by omega) (by omega),hk4 16 (by omega) (by omega) (by omega),hk4 136 (by omega) (by omega) (by omega),hk4 137 (by omega) (by omega) (by omega),hk4 138 (by omega) (by omega) (by omega),hk3,kk]
   simp at kp
   have u16:st4 16 = .fn (.func 204) [] [.ptr I.m 0 0]:=by rw [kp.2.2.2.2.2.2.2.2.1,←kk.2.2.2.2.2.2.2.2.1,t16]
   refine J4p ?_
   simp [u16,s26,hkb4]
   refine J9t M4 (q:=q4) (by have:=J9m (a:=J05 0 N) (k := -1) (b:=J2w J1b ms.E q.Lst);omega) hqn4 hqb4 (by omega) ?_
   intro h6 n6 hn6 _ M6
   simp [kp,s138,hw]
   exact hR _ _ _ (by simp [kp,hk]) (by simp) ⟨_,M6,hJ,by show ms.nx≤_;omega,by show (ms.rows++[_]).length≤_;simp;omega⟩
  ·have hlx:(J2q ms.nx N).Coeffs.length≤8:=J6f N (by omega)
   have hiP:Jch N ms q=Jj9 (Jhm (Jhm ms q.Head (J2q ms.nx N) (ms.nx+1)) q.Tail (Jmv N ms q) (ms.nx+1)) (Jmv N ms q):=by unfold Jch;rw [hc];rfl
   rw [hiP] at hJ
   refine J0b ?_
   refine J0i [2,4,6,7,9,12,13,15,16,136,137,138,25] (fun s=>s 144 = .bool false) (by simp [s25,hkb,J09,hc]) ?_
   intro st3 hk3 s144
   simp at hk3
   rw [Jly (show ev st3 (.t 144) = .bool false from s144),Jp2]
   refine J4p ?_
   have e25:st3 25 = .ptr k 0 0:=by rw [hk3.2.2.2.2.2.2.2.2.2.2.2.2,s25]
   have e15:st3 15 = .fn (.func 202) [] [.ptr I.x 0 0,.ptr 6 0 0,.ptr I.s 0 0]:=by rw [hk3.2.2.2.2.2.2.2.1,t15]
   have nd:=M2.ne_d hkb (by omega)
   have nx:=M2.ne_x hkb (by omega)
   refine J15 [2,4,6,7,9,12,13,15,16,136,137,138,25] (fun s h' n'=>MI p r f N I (Jhm ms q.Head (J2q ms.nx N) (ms.nx+1)) h' n'∧k<n'∧h' k=some ⟨true,4,[J09 q]⟩) ?_ ?_
   ·simp [e25,e15,hkb,J09]
    refine Jci M2 q.Head (by omega) ?_
    intro q' h1 n1 hq hq1 hfr hqb M1
    simp
    exact ⟨M1,by omega,by rw [hfr k hkn nd nx,hkb];rfl⟩
   rintro st4 h4 n4 hk4 ⟨M4,hkn4,hkb4⟩
   simp at hk4
   have e13:st4 13 = .ptr I.s 0 0:=by rw [hk4.2.2.2.2.2.2.1,hk3.2.2.2.2.2.2.1,t13]
   have f25:st4 25 = .ptr k 0 0:=by rw [hk4.2.2.2.2.2.2.2.2.2.2.2.2,e25]
   have hpE:(Jhm ms q.Head (J2q ms.nx N) (ms.nx+1)).E=Jws N ms q:=rfl
   refine J15 [2,4,6,7,9,12,13,15,16,136,137,138,25] (fun s h' n'=>MI p r f N I (Jhm ms q.Head (J2q ms.nx N) (ms.nx+1)) h' n'∧k<n'∧h' k=some ⟨true,4,[J09 q]⟩∧∃ k,s 28 = .ptr k 0 0∧J5s (Jmv N ms q) k h' n') ?_ ?_
   ·obtain ⟨rows,w,hdr,hv,hbw⟩:=M4.map.get q.Lst
    rw [hpE] at hv hbw
    simp [e13,f25,hkb4,J09,M4.hmp,hdr,hv]
    first|refine J00 (J8v (J2w J1b (Jws N ms q) q.Lst) (-1)) (by first|simp [J07,hbw];done|rfl) ?_|refine J02 (J8v (J2w J1b (Jws N ms q) q.Lst) (-1)) (by first|simp [J07,hbw];done|rfl) ?_
    rintro r rfl
    rw [J0l,show (J4b (J2w J1b (Jws N ms q) q.Lst) (-1)).getD J1b=Jmv N ms q from rfl]
    generalize Jmv N ms q=l at *
    have fr:∀ id,id<n4→¬id=n4∧¬id=n4+1:=by intro id _;omega
    have ne:¬n4=n4+1∧¬n4+1=n4:=by omega
    simp [J08,ne]
    exact ⟨M4.frame (by omega) fun id hid=>by simp [fr id hid],by omega,by simp [fr k hkn4,hkb4,J09],n4,by omega,by omega,by simp,by simp [ne]⟩
   rintro st5 h5 n5 hk5 ⟨M5,hkn5,hkb5,k5,s28,q5,w5,b5,c5,d5⟩
   simp at hk5
   have g13:st5 13 = .ptr I.s 0 0:=by rw [hk5.2.2.2.2.2.2.1,e13]
   have g25:st5 25 = .ptr k 0 0:=by rw [hk5.2.2.2.2.2.2.2.2.2.2.2.2,f25]
   have hpl8:(Jmv N ms q).Coeffs.length≤8:=Jpz
   refine J15 [2,4,6,7,9,12,13,15,16,136,137,138,28] (fun s h' n'=>MI p r f N I (Jhm (Jhm ms q.Head (J2q ms.nx N) (ms.nx+1)) q.Tail (Jmv N ms q) (ms.nx+1)) h' n'∧J5s (Jmv N ms q) k5 h' n') ?_ ?_
   ·obtain ⟨es,hE,hd,hes⟩:=M5.map
    have n5d:=M5.ne_d c5 (by omega)
    have n5x:=M5.ne_x c5 (by omega)
    have q5d:¬q5=I.d:=by rintro rfl;rw [d5] at hd;simp at hd
    have ldx:¬I.x=I.d:=by omega
    simp [g13,g25,hkb5,J09,M5.hmp,s28,c5,hd]
    refine ⟨M5.upd_map (x:=q.Tail) (l:=Jmv N ms q) (q:=q5) rfl rfl rfl rfl (Nat.le_refl _) b5 (by simp [q5d,d5]) (by simp [ldx,M5.hnx,Jhm]) (fun id hid h1 h2=>by simp [h1]) ?_,q5,w5,b5,by simp [n5d,c5],by simp [q5d,d5]⟩
    intro es' hd'
    rw [hd] at hd'
    simp only [Option.some.injEq,Blk.mk.injEq,true_and] at hd'
    rw [←Jf0,←hd']
    simp [Jip]
   rintro st6 h6 n6 hk6 ⟨M6,q6,w6,b6,c6,d6⟩
   simp at hk6
   have g16:st6 16 = .fn (.func 204) [] [.ptr I.m 0 0]:=by rw [hk6.2.2.2.2.2.2.2.2.1,hk5.2.2.2.2.2.2.2.2.1,hk4.2.2.2.2.2.2.2.2.1,hk3.2.2.2.2.2.2.2.2.1,t16]
   have g28:st6 28 = .ptr k5 0 0:=by rw [hk6.2.2.2.2.2.2.2.2.2.2.2.2,s28]
   simp [g16,g28,c6]
   refine J9t M6 (q:=q6) (by omega) b6 d6 (by show ms.rows.length≤_;omega) ?_
   intro h7 n7 hn7 _ M7
   simp [hk6,hk5,hk4,hk3,kk,s138,hw]
   exact hR _ _ _ (by simp [hk6,hk5,hk4,hk3,kk,hk]) (by simp) ⟨_,M7,hJ,by show ms.nx+1≤_;omega,by show (ms.rows++[_]).length≤_;simp;omega⟩
 ·rintro st h' m R hk s138 ⟨ms,M,hJ,hb1,hb2⟩ _ hX
  simp at hk
  rw [List.drop_eq_nil_of_le (by omega)] at hJ
  simp only [List.foldl_nil] at hJ
  subst hJ
  refine J0i [2,4,6,7,9,12,13,15,16] (fun s=>s 139 = .bool false) (by simp [hk,s138]) ?_
  intro st1 hk1 s139
  simp at hk1
  refine J37 s139 ?_
  refine hX _ _ _ _ ?_
  simp
  exact hK _ _ _ (S.of (by simp [hk1,hk])) M
end
section
variable {p:DProgram}{r:DRule}{f:DFunction}{N:Nat}{I:Ids}{ks:List Kt}{s:Env}{h:Heap}{n:Nat}{Q:Fin}
theorem J75 (c:Int) (n:Int):(J05 c n).Coeffs.length≤8:=by
 unfold J05
 split
 ·rename_i h
  simp [inR] at h
  simp;omega
 ·simp
theorem Jkz {E:SEnv}{x:DSum} : (Jfv E N x).Coeffs.length≤8:=by
 unfold Jfv
 have:∀ (ts:List DTerm) (o:DLin),o.Coeffs.length≤8→(ts.foldl (fun o t=>J88 o t.Coeff (J2w J1b E t.Name)) o).Coeffs.length≤8:=by
  intro ts
  induction ts with
  | nil=>intro o h;exact h
  | cons t ts ih=>intro o _;exact ih _ J9m
 exact this _ _ (J75 _ _)
theorem Jt0 {E:SEnv}{x:DArg} : (Jgd E N x).Coeffs.length≤8:=by
 unfold Jgd
 split
 ·split
  ·exact J75 _ _
  ·exact J9m
 ·exact Jkz
def gdL (E:SEnv) (N:Nat) (l:List DSum) (i:Nat):List DLin:=(l.take i).map (Jfv E N)
theorem Jsd {E:SEnv}{l:List DSum}{i:Nat}(hi:i<l.length):gdL E N l (i+1)=gdL E N l i++[Jfv E N (l[i]'hi)]:=by unfold gdL;rw [List.take_succ_eq_append_getElem hi,List.map_append];rfl
theorem Jv0 {E:SEnv}{l:List DSum} : gdL E N l l.length=l.map (Jfv E N):=by unfold gdL;rw [List.take_length]
theorem Jqg {ma:MS}(S:J6x I s) (M:MI p r f N I ma h n) (hl2:r.Guards.length≤2) (hr2:ma.rows.length≤1000) (hts:∀ g∈r.Guards,g.Terms.length≤1048576)
 (hK:∀ s' h' n',J6x I s'→MI p r f N I (J0w ma (r.Guards.map (Jfv ma.E N))) h' n'→J2b Tryz.prog ks .normal s' h' n' Q):rC Tryz.prog K5e ks s h n Q:=by
 have S0:=S
 obtain ⟨s2,s4,s6,s7,s9,s12,s13,s15,s16⟩:=S0
 simp [K5e,s6,M.hr,J0c]
 intro _
 refine J0o [2,4,6,7,9,12,13,15,16,179,180] 181 r.Guards.length (fun i s' h' n'=>MI p r f N I (J0w ma (gdL ma.E N r.Guards i)) h' n') (by unfold LIM;omega) (by simp) (by simpa [J0w,gdL] using M) ?_ ?_
 ·rintro i st h' m R hi hg hk s181 hw M hR _ _
  simp at hk
  rw [Jsd hi] at hR
  have hts:=hts _ (List.getElem_mem hi)
  refine J0i [2,4,6,7,9,12,13,15,16,179,180,181] (fun s=>s 182 = .bool true) (by simp [hk,s181,hi]) ?_
  intro st1 hk1 s182
  simp at hk1
  refine J3g s182 (J0b (J1c ?_))
  refine J15 [2,4,6,7,9,12,13,15,16,179,180,181] (fun s h' n'=>∃ k,s 31 = .ptr k 0 0∧k<n'∧h' k=some ⟨true,2,[J1g (r.Guards[i]'hi)]⟩∧MI p r f N I (J0w ma (gdL ma.E N r.Guards i)) h' n') ?_ ?_
  ·have fr:∀ id,id<m→¬id=m:=by intro id _;omega
   simp [hk1,hk,s181,hi,J1g]
   exact M.frame (by omega) fun id hid=>by simp [fr id hid]
  rintro st2 h2 n2 hk2 ⟨k,s31,hkn,hkb,M2⟩
  simp at hk2
  generalize r.Guards[i]=g at *
  generalize hms:J0w ma (gdL ma.E N r.Guards i)=ms at *
  have hmE:ms.E=ma.E:=by rw [←hms];rfl
  have hmr:ms.rows.length≤1002:=by rw [←hms];simp [J0w,gdL];omega
  obtain ⟨l1,l2,l3,l4,l5⟩:=M2.lt
  have S2:J6x I st2:=S.of (by simp [hk2,hk1,hk])
  obtain ⟨t2,t4,t6,t7,t9,t12,t13,t15,t16⟩:=S2
  simp [t16,t13,M2.hmp,s31,hkb,t9,M2.hn]
  refine Jd1 (E:=ma.E) hts (by rw [←hmE];exact M2.map) (by omega) ?_
  intro q h3 n3 hq hqn hfr hqb
  simp [Jip]
  have M3:=M2.frame (h':=h3) (n':=n3) (by omega) hfr
  have hs8:(Jfv ma.E N g).Coeffs.length≤8:=Jkz
  refine J9t M3 (q:=q) (by omega) hqn hqb (by omega) ?_
  intro h6 n6 hn6 _ M6
  simp [hk2,hk1,hk,s181,hw]
  refine hR _ _ _ (by simp [hk2,hk1,hk]) (by simp) ?_
  have:Jj9 ms (Jfv ma.E N g)=J0w ma (gdL ma.E N r.Guards i++[Jfv ma.E N g]):=by rw [←hms];simp [Jj9,J0w]
  rw [←this];exact M6
 ·rintro st h' m R hk s181 M _ hX
  simp at hk
  rw [Jv0] at M
  refine J0i [2,4,6,7,9,12,13,15,16] (fun s=>s 182 = .bool false) (by simp [hk,s181]) ?_
  intro st1 hk1 s182
  simp at hk1
  refine J37 s182 ?_
  refine hX _ _ _ _ ?_
  simp
  exact hK _ _ _ (S.of (by simp [hk1,hk])) M
theorem Jny {ms:MS}{c:DCall}{k:Nat}(s9:s 9 = .ptr 6 0 0) (s13:s 13 = .ptr I.s 0 0) (s33:s 33 = .ptr k 0 0) (s34:s 34 = .nil 2) (M:MI p r f N I ms h n) (hkn:k<n) (hkb:h k=some ⟨true,3,[J0s c]⟩)
 (hal:c.Args.length≤1048576) (hts:∀ a∈c.Args,∀ x∈a.Heads,x.Terms.length≤1048576) (hne:∀ a∈c.Args,a.Lst=false→0<a.Heads.length)
 (hK:∀ s' h' n',(∀ j∈[2,4,6,7,9,12,13,15,16,193,194,195,33],s' j=s j)→n≤n'→(∀ id,id<n→h' id=h id)→J3c (n - 1) 2 ((c.Args.map (Jgd ms.E N)).map J08) (s' 34) h' n'→J2b Tryz.prog ks .normal s' h' n' Q):rC Tryz.prog Jvo ks s h n Q:=by
 obtain ⟨l1,l2,l3,l4,l5⟩:=M.lt
 simp [Jvo,s33,hkb,J0s]
 intro _
 generalize hT:c.Args.map (Jgd ms.E N)=T at hK
 have hTl:T.length≤1048576:=by rw [←hT];simpa using hal
 have hTl2:∀ i,i≤c.Args.length→∀ acc:List DLin,acc++(c.Args.drop i).map (Jgd ms.E N)=T→acc.length≤1048576:=by
  intro i _ acc h
  have:=congrArg List.length h
  simp at this;omega
 refine J0o [2,4,6,7,9,12,13,15,16,193,194,195,33,200,201] 202 c.Args.length (fun i s' h' n'=>n≤n'∧(∀ id,id<n→h' id=h id)∧∃ acc:List DLin,J3c (n - 1) 2 (acc.map J08) (s' 34) h' n'∧acc++(c.Args.drop i).map (Jgd ms.E N)=T) (by unfold LIM;omega) (by simp)
  ⟨Nat.le_refl _,fun _ _=>rfl,[],.inl (by simp [s34]),by simpa using hT⟩ ?_ ?_
 ·rintro i st h' m R hi hg hk s202 hw ⟨hm,hfr,acc,hA,hJ⟩ hR _ _
  have hal2:=hTl2 i (by omega) acc hJ
  simp at hk
  rw [List.drop_eq_getElem_cons hi,List.map_cons] at hJ
  have hts:=hts _ (List.getElem_mem hi)
  have hne:=hne _ (List.getElem_mem hi)
  refine J0i [2,4,6,7,9,12,13,15,16,193,194,195,33,200,201,202,34] (fun s=>s 203 = .bool true) (by simp [hk,s202,hi]) ?_
  intro st1 hk1 s203
  simp at hk1
  refine J3g s203 (J0b (J1c ?_))
  refine J15 [2,4,6,7,9,12,13,15,16,193,194,195,33,200,201,202,34] (fun s h2 n2=>n2=m+1∧s 36 = .ptr m 0 0∧h2 m=some ⟨true,3,[J0v (c.Args[i]'hi)]⟩∧∀ id,id<m→h2 id=h' id) ?_ ?_
  ·have fr:∀ id,id<m→¬id=m:=by intro id _;omega
   simp [hk1,hk,s202,hi,J0v]
   exact fun id hid=>by simp [fr id hid]
  rintro st2 h2 n2 hk2 ⟨rfl,s36,em,hfr2⟩
  simp at hk2
  generalize c.Args[i]=x at *
  have M2:=M.frame (h':=h2) (n':=m+1) (by omega) fun id hid=>by rw [hfr2 id (by omega),hfr id hid]
  have u13:st2 13 = .ptr I.s 0 0:=by simp [hk2,hk1,hk,s13]
  have u9:st2 9 = .ptr 6 0 0:=by simp [hk2,hk1,hk,s9]
  simp [u13,u9,M2.hmp,M2.hn,s36,em]
  refine Jd2 (E:=ms.E) hts hne M2.map (by omega) ?_
  intro q h3 n3 hq hqn hfr3 hqb
  have frm:∀ id,id<n→h3 id=h id:=fun id hid=>by rw [hfr3 id (by omega),hfr2 id (by omega),hfr id hid]
  have hl8:(Jgd ms.E N x).Coeffs.length≤8:=Jt0
  generalize Jgd ms.E N x=l at *
  have w34:st2 34=st 34:=by simp [hk2,hk1]
  have ne:¬q=n3∧¬n3=q:=by omega
  have fr:∀ id,id<n→¬id=q∧¬id=n3∧¬id=n3+1:=by intro id _;omega
  rcases hA with ⟨hz,hv⟩|⟨id0,hid1,hid2,hv,hid3⟩
  ·have hz':acc=[]:=by simpa using hz
   subst hz'
   rw [hv] at w34
   simp [Jip,hqb,w34,ne,hk2,hk1,hk,s202,hw]
   refine ⟨by unfold LIM;omega,?_⟩
   exact hR _ _ _ (by simp [hk2,hk1,hk]) (by simp) ⟨by omega,fun id hid=>by simp [fr id hid,frm id hid],[l],.inr ⟨n3+1,by omega,by omega,by simp,by simp [J08]⟩,by simpa using hJ⟩
  ·rw [hv] at w34
   have e0:h3 id0=some ⟨false,2,acc.map J08⟩:=by rw [hfr3 id0 (by omega),hfr2 id0 (by omega),hid3]
   have nid:¬id0=n3∧¬n3=id0∧¬id0=n3+1∧¬n3+1=id0∧¬id0=q∧¬q=id0:=by omega
   have fr0:∀ id,id<n→¬id=id0:=by intro id _;omega
   simp [Jip,hqb,w34,ne,nid,e0,hk2,hk1,hk,s202,hw]
   refine ⟨by unfold LIM;omega,?_⟩
   exact hR _ _ _ (by simp [hk2,hk1,hk]) (by simp) ⟨by omega,fun id hid=>by simp [fr id hid,fr0 id hid,frm id hid],acc++[l],.inr ⟨n3+1,by omega,by omega,by simp,by simp [J08,List.take_of_length_le]⟩,by simpa using hJ⟩
 ·rintro st h' m R hk s202 ⟨hm,hfr,acc,hA,hJ⟩ _ hX
  simp at hk
  rw [List.drop_eq_nil_of_le (by omega)] at hJ
  simp at hJ
  subst hJ
  refine J0i [2,4,6,7,9,12,13,15,16,193,194,195,33,34] (fun s=>s 203 = .bool false) (by simp [hk,s202]) ?_
  intro st1 hk1 s203
  simp at hk1
  refine J37 s203 ?_
  refine hX _ _ _ _ ?_
  simp
  refine hK _ _ _ (by simp [hk1,hk]) hm hfr ?_
  rw [hk1.2.2.2.2.2.2.2.2.2.2.2.2.2];exact hA
end
section
variable {p:DProgram}{r:DRule}{f:DFunction}{N:Nat}{I:Ids}{ks:List Kt}{s:Env}{h:Heap}{n:Nat}{Q:Fin}
theorem Jp3 {l:List (List DLin)}(hl:l≠[]) (m:List Int) (h:l.map J24=J0k m):False:=by
 cases l with
 | nil=>exact hl rfl
 | cons x l=>
  cases m with
  | nil=>simp [J0k] at h
  | cons y m=>simp [J0k,J24,i64] at h
theorem Jn3 {ms:MS}{c:DCall}{k n0:Nat}{h0:Heap}{as':List DLin}{v:AV}(s12:s 12 = .ptr I.m 0 0) (s34:s 34=v) (M:MI p r f N I ms h0 n0) (hkn:k<n0) (hkb:h0 k=some ⟨true,3,[J0s c]⟩) (hn:n0≤n) (hfr:∀ id,id<n0→h id=h0 id)
 (A:J3c (n0 - 1) 2 (as'.map J08) v h n) (hal:ms.args.length≤1048576) (hasl:as'.length≤100000000)
 (hK:∀ s' h' n',(∀ j∈[2,4,6,7,9,12,13,15,16,193,194,195,33],s' j=s j)→MI p r f N I (Je9 ms as') h' n'→k<n'→h' k=some ⟨true,3,[J0s c]⟩→J2b Tryz.prog ks .normal s' h' n' Q):rC Tryz.prog Jwr ks s h n Q:=by
 obtain ⟨l1,l2,l3,l4,l5⟩:=M.lt
 obtain ⟨vR,vP,vA,g1,g2,g3,g4,g6,g5⟩:=M.acc
 have hkm:¬k=I.m:=M.ne_m hkb (by omega)
 have g1':h I.m=some ⟨true,6,[J5b N vR vP vA]⟩:=by rw [hfr _ (by omega),g1]
 have hkb':h k=some ⟨true,3,[J0s c]⟩:=by rw [hfr _ hkn,hkb]
 have ne:¬I.m=n∧¬I.m=n+1∧¬n=I.m∧¬n+1=I.m∧¬k=n∧¬k=n+1∧¬n=n+1∧¬n+1=n:=by omega
 have fr:∀ id,id<n0→¬id=n∧¬id=n+1:=by intro id _;omega
 have fm:∀ id,I.x<id→¬id=I.m:=by intro id _;omega
 have hul:J24 as'=[.us 2 (as'.map J08)]:=rfl
 simp [Jwr,s12,s34,g1',J5b]
 rcases A with ⟨hz,rfl⟩|⟨j0,hj0,hjn,rfl,hjb⟩
 ·have hz':as'=[]:=by simpa using hz
  subst hz'
  rcases g4 with ⟨hzA,rfl⟩|⟨iA,hA1,hA2,rfl,hibA⟩
  ·have hz2:ms.args=[]:=by simpa using hzA
   simp [ne,g1',J5b,s12]
   refine ⟨by unfold LIM;omega,?_⟩
   refine hK _ _ _ (by simp) (M.upd_acc (st':=Je9 ms []) rfl rfl (by omega) (fun _=>False) (fun _ h=>h.elim) ?_ ?_) (by omega) (by simp [ne,hkm,hkb'])
   ·intro id hid hm _
    simp [fr id hid,hm,hfr id hid]
   ·refine ⟨vR,vP,.ref (n+1) 0 1,by simp [J5b],g2.keep (by omega) fun id hb hid _=>by simp [fr id hid,fm id hb,hfr id hid],g3.keep (by omega) fun id hb hid _=>by simp [fr id hid,fm id hb,hfr id hid],.inr ⟨n+1,by omega,by omega,by simp [Je9,hz2],by simp [Je9,hz2,ne,J24]⟩,by simp [Je9],g5⟩
  ·have hibA':h iA=some ⟨false,1,ms.args.map J24⟩:=by rw [hfr _ hA2,hibA]
   have ni:¬iA=n∧¬iA=n+1∧¬iA=I.m∧¬I.m=iA∧¬n=iA∧¬n+1=iA:=by omega
   have hik:¬k=iA:=by rintro rfl;rw [hkb] at hibA;simp at hibA
   have hne:ms.args≠[]:=fun e=>by have:=g6 e;simp at this
   simp [ne,ni,g1',J5b,s12,hibA']
   refine ⟨by unfold LIM;omega,?_⟩
   refine hK _ _ _ (by simp) (M.upd_acc (st':=Je9 ms []) rfl rfl (by omega) (fun id=>id=iA) (fun id e=>⟨by omega,fun l hl=>by rw [e,hibA] at hl;simp at hl;exact Jp3 hne l hl⟩) ?_ ?_) (by omega) (by simp [ne,hkm,hik,hkb'])
   ·intro id hid hm hii
    simp [fr id hid,hm,hii,hfr id hid]
   ·refine ⟨vR,vP,.ref (n+1) 0 (ms.args.length+1),by simp [J5b],g2.keep (by omega) fun id hb hid e => ?_,g3.keep (by omega) fun id hb hid e => ?_,.inr ⟨n+1,by omega,by omega,by simp [Je9],by simp [Je9,ne,J24,List.take_of_length_le]⟩,by simp [Je9],g5⟩
    ·have hii:¬id=iA:=by
      intro e'
      rcases g2 with ⟨_,e2⟩|⟨j',_,_,e2,hjb⟩
      ·rw [e2] at e;cases e
      ·rw [e2] at e;simp only [AV.ref.injEq] at e
       rw [e.1,e',hibA] at hjb
       simp at hjb
     simp [fr id hid,fm id hb,hii,hfr id hid]
    ·have hii:¬id=iA:=by
      intro e'
      rcases g3 with ⟨_,e2⟩|⟨j',_,_,e2,hjb⟩
      ·rw [e2] at e;cases e
      ·rw [e2] at e;simp only [AV.ref.injEq] at e
       rw [e.1,e',hibA] at hjb
       simp at hjb
     simp [fr id hid,fm id hb,hii,hfr id hid]
 ·have nj:¬j0=n∧¬j0=n+1∧¬n=j0∧¬n+1=j0∧¬j0=I.m∧¬I.m=j0:=by omega
  have fj:¬k=j0∧¬j0=k:=by omega
  have frj:∀ id,id<n0→¬id=j0:=by intro id _;omega
  rcases g4 with ⟨hzA,rfl⟩|⟨iA,hA1,hA2,rfl,hibA⟩
  ·have hz2:ms.args=[]:=by simpa using hzA
   simp [ne,g1',J5b,s12,hjb,nj,fj]
   refine ⟨by unfold LIM;omega,?_⟩
   refine hK _ _ _ (by simp) (M.upd_acc (st':=Je9 ms as') rfl rfl (by omega) (fun _=>False) (fun _ h=>h.elim) ?_ ?_) (by omega) (by simp [ne,hkm,hkb',hjb,nj,fj])
   ·intro id hid hm _
    simp [fr id hid,hm,hfr id hid,frj id hid]
   ·refine ⟨vR,vP,.ref (n+1) 0 1,by simp [J5b],g2.keep (by omega) fun id hb hid _=>by simp [fr id hid,fm id hb,hfr id hid,frj id hid],g3.keep (by omega) fun id hb hid _=>by simp [fr id hid,fm id hb,hfr id hid,frj id hid],.inr ⟨n+1,by omega,by omega,by simp [Je9,hz2],by simp [Je9,hz2,ne,J24,List.take_of_length_le]⟩,by simp [Je9],g5⟩
  ·have nij:¬iA=j0∧¬j0=iA:=by omega
   have hibA':h iA=some ⟨false,1,ms.args.map J24⟩:=by rw [hfr _ hA2,hibA]
   have ni:¬iA=n∧¬iA=n+1∧¬iA=I.m∧¬I.m=iA∧¬n=iA∧¬n+1=iA:=by omega
   have hik:¬k=iA:=by rintro rfl;rw [hkb] at hibA;simp at hibA
   have hne:ms.args≠[]:=fun e=>by have:=g6 e;simp at this
   simp [ne,ni,g1',J5b,s12,hibA',hjb,nj,fj,nij]
   refine ⟨by unfold LIM;omega,?_⟩
   refine hK _ _ _ (by simp) (M.upd_acc (st':=Je9 ms as') rfl rfl (by omega) (fun id=>id=iA) (fun id e=>⟨by omega,fun l hl=>by rw [e,hibA] at hl;simp at hl;exact Jp3 hne l hl⟩) ?_ ?_) (by omega) (by simp [ne,hkm,hik,hkb',hjb,nj,fj,nij])
   ·intro id hid hm hii
    simp [fr id hid,hm,hii,hfr id hid,frj id hid]
   ·refine ⟨vR,vP,.ref (n+1) 0 (ms.args.length+1),by simp [J5b],g2.keep (by omega) fun id hb hid e => ?_,g3.keep (by omega) fun id hb hid e => ?_,.inr ⟨n+1,by omega,by omega,by simp [Je9],by simp [Je9,ne,J24,List.take_of_length_le]⟩,by simp [Je9],g5⟩
    ·have hii:¬id=iA:=by
      intro e'
      rcases g2 with ⟨_,e2⟩|⟨j',_,_,e2,hjb⟩
      ·rw [e2] at e;cases e
      ·rw [e2] at e;simp only [AV.ref.injEq] at e
       rw [e.1,e',hibA] at hjb
       simp at hjb
     simp [fr id hid,fm id hb,hii,hfr id hid,frj id hid]
    ·have hii:¬id=iA:=by
      intro e'
      rcases g3 with ⟨_,e2⟩|⟨j',_,_,e2,hjb⟩
      ·rw [e2] at e;cases e
      ·rw [e2] at e;simp only [AV.ref.injEq] at e
       rw [e.1,e',hibA] at hjb
       simp at hjb
     simp [fr id hid,fm id hb,hii,hfr id hid,frj id hid]
theorem Jrv {ma:MS}(S:J6x I s) (M:MI p r f N I ma h n) (hp:J0f p≤1048576) (hl2:r.Calls.length≤2) (hx2:ma.nx≤1000) (hr2:ma.rows.length≤10000) (ha2:ma.args.length≤10) (hN:N≤8)
 (hargs:∀ c∈r.Calls,c.Args.length≤1048576∧(∀ a∈c.Args,∀ x∈a.Heads,x.Terms.length≤1048576)∧∀ a∈c.Args,a.Lst=false→0<a.Heads.length)
 (hK:∀ s' h' n',J6x I s'→MI p r f N I (r.Calls.foldl (Jfj p N) ma) h' n'→J2b Tryz.prog ks .normal s' h' n' Q):rC Tryz.prog K6k ks s h n Q:=by
 have S0:=S
 obtain ⟨s2,s4,s6,s7,s9,s12,s13,s15,s16⟩:=S0
 simp [K6k,s6,M.hr,J0c]
 intro _
 generalize hT:r.Calls.foldl (Jfj p N) ma=T at hK
 refine J0o [2,4,6,7,9,12,13,15,16,193,194] 195 r.Calls.length (fun i s' h' n'=>∃ ms:MS,MI p r f N I ms h' n'∧(r.Calls.drop i).foldl (Jfj p N) ms=T∧ms.nx≤1000+i∧ms.rows.length≤10000+i∧ms.args.length≤10+i) (by unfold LIM;omega) (by simp)
  ⟨_,M,by simpa using hT,by omega,by omega,by omega⟩ ?_ ?_
 ·rintro i st h' m R hi hg hk s195 hw ⟨ms,M,hJ,hb1,hb2,hb3⟩ hR _ _
  simp at hk
  rw [List.drop_eq_getElem_cons hi,List.foldl_cons] at hJ
  obtain ⟨ha1,ha2,ha3⟩:=hargs _ (List.getElem_mem hi)
  obtain ⟨l1,l2,l3,l4,l5⟩:=M.lt
  refine J0i [2,4,6,7,9,12,13,15,16,193,194,195] (fun s=>s 196 = .bool true) (by simp [hk,s195,hi]) ?_
  intro st1 hk1 s196
  simp at hk1
  refine J3g s196 (J0b (J1c ?_))
  refine J15 [2,4,6,7,9,12,13,15,16,193,194,195] (fun s h' n'=>∃ k,s 33 = .ptr k 0 0∧k<n'∧h' k=some ⟨true,3,[J0s (r.Calls[i]'hi)]⟩∧MI p r f N I ms h' n') ?_ ?_
  ·have fr:∀ id,id<m→¬id=m:=by intro id _;omega
   simp [hk1,hk,s195,hi,J0s]
   exact M.frame (by omega) fun id hid=>by simp [fr id hid]
  rintro st2 h2 n2 hk2 ⟨k,s33,hkn,hkb,M2⟩
  simp at hk2
  generalize r.Calls[i]=c at *
  refine J0i [2,4,6,7,9,12,13,15,16,193,194,195,33] (fun s=>s 34 = .nil 2) (by simp) ?_
  intro st3 hk3 s34
  simp at hk3
  have S3:J6x I st3:=S.of (by simp [hk3,hk2,hk1,hk])
  obtain ⟨t2,t4,t6,t7,t9,t12,t13,t15,t16⟩:=S3
  refine J0b (Jny t9 t13 (by rw [hk3.2.2.2.2.2.2.2.2.2.2.2.2,s33]) s34 M2 hkn hkb ha1 ha2 ha3 ?_)
  intro st4 h4 n4 hk4 hn4 hfr4 A4
  simp at hk4
  refine J4p (J0b (Jn3 (c:=c) (k:=k) (by rw [hk4.2.2.2.2.2.1,t12]) rfl M2 hkn hkb hn4 hfr4 A4 (by omega) (by simp;omega) ?_))
  intro st5 h5 n5 hk5 M5 hkn5 hkb5
  simp at hk5
  generalize hal:c.Args.map (Jgd ms.E N)=as' at *
  have hlx:(J2q ms.nx N).Coeffs.length≤8:=J6f N (by omega)
  generalize hLR:((J0t p.Functions c.Func).getD fn0).ListResult=LR at *
  have hiC:Jfj p N ms c=if LR then Jj9 (Jhm (Je9 ms as') c.Bind (J2q ms.nx N) (ms.nx+1)) (J2q ms.nx N) else Jhm (Je9 ms as') c.Bind (J2q ms.nx N) (ms.nx+1):=by
   unfold Jfj;rw [hal,hLR];cases LR <;> simp [Jj9,Jhm,Je9]
  rw [hiC] at hJ
  have u15:st5 15 = .fn (.func 202) [] [.ptr I.x 0 0,.ptr 6 0 0,.ptr I.s 0 0]:=by rw [hk5.2.2.2.2.2.2.2.1,hk4.2.2.2.2.2.2.2.1,t15]
  have u33:st5 33 = .ptr k 0 0:=by rw [hk5.2.2.2.2.2.2.2.2.2.2.2.2,hk4.2.2.2.2.2.2.2.2.2.2.2.2,hk3.2.2.2.2.2.2.2.2.2.2.2.2,s33]
  have nd:=M5.ne_d hkb5 (by omega)
  have nx:=M5.ne_x hkb5 (by omega)
  have hnx5:(Je9 ms as').nx=ms.nx:=rfl
  refine J4p (J15 [2,4,6,7,9,12,13,15,16,193,194,195,33] (fun s h' n'=>MI p r f N I (Jhm (Je9 ms as') c.Bind (J2q ms.nx N) (ms.nx+1)) h' n'∧k<n'∧h' k=some ⟨true,3,[J0s c]⟩∧∃ k,s 37 = .ptr k 0 0∧J5s (J2q ms.nx N) k h' n') ?_ ?_)
  ·simp [u33,u15,hkb5,J0s]
   refine Jci M5 c.Bind (by rw [hnx5];omega) ?_
   rw [hnx5]
   intro q' h1 n1 hq hq1 hfr hqb M1
   have fr:∀ id,id<n1→¬id=n1:=by intro id _;omega
   generalize J2q ms.nx N=l at *
   simp [Jip]
   exact ⟨M1.frame (by omega) fun id hid=>by simp [fr id hid],by omega,by simp [fr k (by omega),hfr k hkn5 nd nx,hkb5,J0s],q',by omega,by omega,by simp,by simp [fr q' hq1,hqb]⟩
  rintro st6 h6 n6 hk6 ⟨M6,hkn6,hkb6,k37,s37,q7,x7,y7,z7,w7⟩
  simp at hk6
  have v2:st6 2 = .ptr 0 0 0:=by rw [hk6.1,hk5.1,hk4.1,t2]
  have v33:st6 33 = .ptr k 0 0:=by rw [hk6.2.2.2.2.2.2.2.2.2.2.2.2,u33]
  refine J15 [2,4,6,7,9,12,13,15,16,193,194,195,37] (fun s h' n'=>MI p r f N I (Jhm (Je9 ms as') c.Bind (J2q ms.nx N) (ms.nx+1)) h' n'∧J5s (J2q ms.nx N) k37 h' n'∧∃ k x y z,s 38 = .ptr k 0 0∧h' k=some ⟨true,4,[[x,y,.bool LR,z]]⟩) ?_ ?_
  ·simp [v2,v33,hkb6,J0s,M6.hp]
   first|refine J00 (J1v p c.Func hp) (by first|simp [J01];done|rfl) ?_|refine J02 (J1v p c.Func hp) (by first|simp [J01];done|rfl) ?_
   rintro r rfl
   unfold J7z
   rw [←hLR]
   generalize (J0t p.Functions c.Func).getD fn0=G at *
   have fr:∀ id,id<n6→¬id=n6∧¬id=n6+1∧¬id=n6+1+1:=by intro id _;omega
   simp [J0h]
   exact ⟨M6.frame (by omega) fun id hid=>by simp [fr id hid],q7,by omega,by omega,by simp [fr k37 x7,z7],by simp [fr q7 y7,w7]⟩
  rintro st7 h7 n7 hk7 ⟨M7,⟨q8,x8,y8,z8,w8⟩,k38,x,y,z,s38,hkb8⟩
  simp at hk7
  refine J0i [2,4,6,7,9,12,13,15,16,193,194,195,37] (fun s=>s 232 = .bool LR) (by simp [s38,hkb8]) ?_
  intro st8 hk8 s232
  simp at hk8
  have kp:∀ j∈[2,4,6,7,9,12,13,15,16,193,194,195],st8 j=st j:=by simp [hk8,hk7,hk6,hk5,hk4,hk3,hk2,hk1]
  simp at kp
  have g16:st8 16 = .fn (.func 204) [] [.ptr I.m 0 0]:=by rw [hk8.2.2.2.2.2.2.2.2.1,hk7.2.2.2.2.2.2.2.2.1,hk6.2.2.2.2.2.2.2.2.1,hk5.2.2.2.2.2.2.2.2.1,hk4.2.2.2.2.2.2.2.2.1,t16]
  have g37:st8 37 = .ptr k37 0 0:=by rw [hk8.2.2.2.2.2.2.2.2.2.2.2.2,hk7.2.2.2.2.2.2.2.2.2.2.2.2,s37]
  cases LR
  ·simp only [Bool.false_eq_true,if_false] at hJ
   simp [s232,kp,s195,hw]
   exact hR _ _ _ (by simp [kp,hk]) (by simp) ⟨_,M7,hJ,by show ms.nx+1≤_;omega,by show ms.rows.length≤_;omega,by show (ms.args++[_]).length≤_;simp;omega⟩
  ·simp only [if_true] at hJ
   simp [s232,g16,g37,z8]
   refine J9t M7 (q:=q8) (by omega) y8 w8 (by show ms.rows.length≤_;omega) ?_
   intro h9 n9 hn9 _ M9
   simp [kp,s195,hw]
   exact hR _ _ _ (by simp [kp,hk]) (by simp) ⟨_,M9,hJ,by show ms.nx+1≤_;omega,by show (ms.rows++[_]).length≤_;simp;omega,by show (ms.args++[_]).length≤_;simp;omega⟩
 ·rintro st h' m R hk s195 ⟨ms,M,hJ,hb1,hb2,hb3⟩ _ hX
  simp at hk
  rw [List.drop_eq_nil_of_le (by omega)] at hJ
  simp only [List.foldl_nil] at hJ
  subst hJ
  refine J0i [2,4,6,7,9,12,13,15,16] (fun s=>s 196 = .bool false) (by simp [hk,s195]) ?_
  intro st1 hk1 s196
  simp at hk1
  refine J37 s196 ?_
  refine hX _ _ _ _ ?_
  simp
  exact hK _ _ _ (S.of (by simp [hk1,hk])) M
end
def J73:DModel:=⟨⟨0,[]⟩,[],[],⟨0,[]⟩⟩
def J51 (o:Option DModel):AV := .tup [.agg (J1z (o.getD J73)),.bool o.isSome]
def Jk8:DRule:=⟨[],[],[],[],⟨false,[],[]⟩⟩
def Jkv (p:DProgram) (r:DRule):DFunction:=(J0t p.Functions r.Func).getD fn0
def J6i (p:DProgram) (k:Int):Option DModel:=
 if J2l p&&inR k 0 ((p.Rules.length:Int) - 1) then some (J4v (p.Rules.getD k.toNat Jk8) (Jkv p (p.Rules.getD k.toNat Jk8))) else Option.none
theorem Jbk {a:DArg}(h:Jaz a=true):(∀ x∈a.Heads,x.Terms.length≤4)∧(a.Lst=false→0<a.Heads.length):=by
 unfold Jaz at h
 simp only [Bool.and_eq_true,List.all_eq_true] at h
 obtain ⟨h1,h2⟩:=h
 refine ⟨fun x hx => ?_,fun hL => ?_⟩
 ·have:=h1 x hx
  unfold J8y at this
  simp only [Bool.and_eq_true,decide_eq_true_eq] at this
  exact this.1.2
 ·rw [hL] at h2
  simp at h2;omega
theorem Jgw {a:DArg}{b:Bool}{K:List Str}(h:J6b a b K=true):Jaz a=true:=by
 unfold J6b at h;simp only [Bool.and_eq_true] at h;exact h.1.1
theorem Jbw {p:DProgram}{r:DRule} : ∀ {l:List DCall}{k:Nat},J2c p r k l=true→∀ c∈l,∃ s,J9g p c s=true
 | [],_,_,_,h=>by cases h
 | c::l,k,h,d,hd=>by
  simp only [J2c,Bool.and_eq_true] at h
  rcases List.mem_cons.1 hd with rfl|hd
  ·exact ⟨_,h.1⟩
  ·exact Jbw h.2 d hd
theorem RuleIn.args {p:DProgram}{r:DRule}{f:DFunction}(hp:J2l p=true) (R:RuleIn p r f):∀ c∈r.Calls,c.Args.length≤2∧∀ a∈c.Args,Jaz a=true:=by
 intro c hc
 obtain ⟨s,hs⟩:=Jbw R.calls c hc
 have h1:=(Jli hs).1
 refine ⟨?_,fun a ha => ?_⟩
 ·unfold J9g at hs
  simp only [Bool.and_eq_true,decide_eq_true_eq] at hs
  obtain ⟨⟨⟨g1,g2⟩,_⟩,_⟩:=hs
  obtain ⟨g,hg⟩:=Option.isSome_iff_exists.1 g1
  rw [hg] at g2
  have:=(Jk2 hp hg).1
  simp only [Option.getD_some] at g2
  omega
 ·obtain ⟨b,hb⟩:=h1 a ha
  exact Jgw hb
theorem Jg8 {n:Nat} : ∀ {xs:List Str}{a:MS},(xs.foldl (Jb6 n) a).nx=a.nx+xs.length∧(xs.foldl (Jb6 n) a).rows.length≤a.rows.length+xs.length∧(xs.foldl (Jb6 n) a).args=a.args
 | [],a=>by simp
 | x::xs,a=>by
  obtain ⟨h1,h2,h3⟩:=Jg8 (n:=n) (xs:=xs) (a:=Jb6 n a x)
  simp only [List.foldl_cons,List.length_cons]
  refine ⟨by rw [h1];show a.nx+1+_=_;omega,?_,by rw [h3];rfl⟩
  have:(Jb6 n a x).rows.length≤a.rows.length+1:=by unfold Jb6;simp only [List.length_append];split <;> simp
  omega
theorem Jgj {n:Nat} : ∀ {xs:List DPattern}{a:MS},(xs.foldl (Jch n) a).nx≤a.nx+xs.length∧(xs.foldl (Jch n) a).rows.length≤a.rows.length+xs.length∧(xs.foldl (Jch n) a).args=a.args∧(xs.foldl (Jch n) a).pars=a.pars
 | [],a=>by simp
 | x::xs,a=>by
  obtain ⟨h1,h2,h3,h4⟩:=Jgj (n:=n) (xs:=xs) (a:=Jch n a x)
  simp only [List.foldl_cons,List.length_cons]
  have g1:(Jch n a x).rows.length≤a.rows.length+1:=by unfold Jch;split <;> simp
  have g2:(Jch n a x).nx≤a.nx+1:=by unfold Jch;split <;> simp
  have g3:(Jch n a x).args=a.args:=by unfold Jch;split <;> rfl
  have g4:(Jch n a x).pars=a.pars:=by unfold Jch;split <;> rfl
  exact ⟨by omega,by omega,by rw [h3,g3],by rw [h4,g4]⟩
theorem Jdy (p:DProgram) (hp:J0f p≤1048576) (k:Int):Holds Tryz.prog 126 [.agg (J01 p),i64 k] (fun r=>r=J51 (J6i p k)):=by
 refine J03 Tryz.func126 a126_ok rfl (by simp [a126]) ?_
 simp [a126,mo0,mo1,J01]
 first|refine J00 (J2h p hp) (by first|simp [J01];done|rfl) ?_|refine J02 (J2h p hp) (by first|simp [J01];done|rfl) ?_
 rintro r rfl
 unfold J6i
 cases h1:J2l p
 ·simp [J51,J73,J1z,J0k]
 simp
 intro hrl
 have hw:IntKind.i64.wrap ((p.Rules.length:Int) - 1)=(p.Rules.length:Int) - 1:=J1e (by unfold LIM at hrl;omega)
 rw [hw]
 first|refine J00 (J1s k 0 ((p.Rules.length:Int) - 1)) (by first|simp;done|rfl) ?_|refine J02 (J1s k 0 ((p.Rules.length:Int) - 1)) (by first|simp;done|rfl) ?_
 rintro r rfl
 cases h2:inR k 0 ((p.Rules.length:Int) - 1)
 ·simp [J51,J73,J1z,J0k]
 have hk0:0≤k∧k≤(p.Rules.length:Int) - 1:=by simpa [inR] using h2
 obtain ⟨j,rfl⟩:∃ j:Nat,k=j:=⟨k.toNat,by omega⟩
 have hj:j<p.Rules.length:=by omega
 have hgd:p.Rules.getD ((j:Int).toNat) Jk8=p.Rules[j]:=by simp [hj]
 obtain ⟨f,hf,R⟩:=Jcb h1 (List.getElem_mem hj)
 have hfa:Jkv p p.Rules[j]=f:=by unfold Jkv;rw [hf];rfl
 have hwr:IntKind.i64.wrap ((f.Params.length:Int)+((p.Rules[j]).Calls.length:Int))=(f.Params.length:Int)+((p.Rules[j]).Calls.length:Int):=by
  have:=R.par;have:=R.ncalls;exact J1e (by omega)
 simp [mo2,mo3,mo4,hj]
 first|refine J00 (J1v p (p.Rules[j]).Func hp) (by first|simp [J01];done|rfl) ?_|refine J02 (J1v p (p.Rules[j]).Func hp) (by first|simp [J01];done|rfl) ?_
 rintro r rfl
 rw [hfa,hf]
 have hmeq:=Jrd hf R
 generalize p.Rules[j]=r at *
 simp [J7z,J0h,J0c,hwr]
 intro _ _
 have hpar:=R.par
 have hnpre:=R.npre
 have hnp:=R.npats
 have hnc:=R.ncalls
 have h6:=R.size
 have hrargs:=R.args h1
 have hrres:=Jbk (Jgw R.res)
 refine Jus (r:=r) (c:=f.Params.length+r.Calls.length) (by simp) (by simp) (by simp [J0c]) (by simp) (by omega) (by omega) (by omega) ?_
 intro s1 h1 n1 hk1 hn1 hfr1 e6
 have hpre:∀ l∈f.Pre,J22 l (st1 r f).pars (J10 r f)=some (J3k (J10 r f) l):=by
  intro l hl
  have hd:=R.nd
  rw [List.append_assoc,List.nodup_append] at hd
  obtain ⟨_,_,_,e4,_⟩:=Jh1 (n:=J10 r f) (xs:=f.Params) (a:=⟨[],0,[],[],[]⟩) (b:=⟨[],0,Jcc f (J10 r f),[],[]⟩) rfl rfl rfl rfl hd.1 (by simp [J19])
  unfold st1
  rw [e4]
  simp only [List.nil_append]
  rw [Jjv R.par]
  exact Je5 R.par (by unfold J10;omega) (by omega) (R.pre l hl)
 have hmI:Jm1 p r f=some (Jyx (J10 r f) (st5 p r f (f.Pre.map (J3k (J10 r f)))) (Jgd (st5 p r f (f.Pre.map (J3k (J10 r f)))).E (J10 r f) r.Result)):=by
  unfold Jm1;rw [Jjc hpre]
 rw [hmeq] at hmI
 have hmS:=Option.some.inj hmI
 rw [show f.Params.length+r.Calls.length+J3e r.Patterns=J10 r f from rfl] at e6
 have hsc:∀ l∈f.Pre,(J3k (J10 r f) l).Coeffs.length≤1048576:=by
  intro l hl
  have:=(J1u (R.pre l hl)).1
  simp [J3k];omega
 have st1d:st1 r f=f.Params.foldl (Jb6 (J10 r f)) ⟨[],0,[],[],[]⟩:=rfl
 have st3d:∀ pre,st3 r f pre=r.Patterns.foldl (Jch (J10 r f)) (J0w (st1 r f) pre):=fun _=>rfl
 have st5d:∀ pre,st5 p r f pre=r.Calls.foldl (Jfj p (J10 r f)) (J0w (st3 r f pre) (r.Guards.map (Jfv (st3 r f pre).E (J10 r f)))):=fun _=>rfl
 have b1:(st1 r f).nx≤2∧(st1 r f).rows.length≤2∧(st1 r f).args=[]:=by
  obtain ⟨g1,g2,g3⟩:=Jg8 (n:=J10 r f) (xs:=f.Params) (a:=⟨[],0,[],[],[]⟩)
  rw [←st1d] at g1 g2 g3
  refine ⟨by rw [g1];simpa using hpar,?_,g3⟩
  simp at g2;omega
 generalize hN:J10 r f=N at *
 generalize hpreL:f.Pre.map (J3k N)=preR at *
 have b2:(st3 r f preR).nx≤4∧(st3 r f preR).rows.length≤6∧(st3 r f preR).args=[]:=by
  obtain ⟨g1,g2,g3,_⟩:=Jgj (n:=N) (xs:=r.Patterns) (a:=J0w (st1 r f) preR)
  rw [←st3d] at g1 g2 g3
  have hpl:preR.length≤2:=by rw [←hpreL];simpa using hnpre
  have e1:(J0w (st1 r f) preR).nx=(st1 r f).nx:=rfl
  have e2:(J0w (st1 r f) preR).rows.length=(st1 r f).rows.length+preR.length:=by simp [J0w]
  have e3:(J0w (st1 r f) preR).args=(st1 r f).args:=rfl
  refine ⟨by omega,by omega,by rw [g3,e3];exact b1.2.2⟩
 simp at hk1
 have f0:=hfr1 0 (by omega) (by omega)
 have f1:=hfr1 1 (by omega) (by omega)
 have f2:=hfr1 2 (by omega) (by omega)
 have f3:=hfr1 3 (by omega) (by omega)
 have f4:=hfr1 4 (by omega) (by omega)
 have f5:=hfr1 5 (by omega) (by omega)
 simp at f0 f1 f2 f3 f4 f5
 have ne:¬0=n1∧¬1=n1∧¬2=n1∧¬3=n1∧¬4=n1∧¬5=n1∧¬6=n1∧¬n1=0∧¬n1=1∧¬n1=2∧¬n1=3∧¬n1=4∧¬n1=5∧¬n1=6∧¬n1=n1+1∧¬n1+1=n1∧¬n1=n1+1+1∧¬n1+1+1=n1∧¬n1=n1+1+1+1∧¬n1+1+1+1=n1∧¬n1+1=n1+1+1∧¬n1+1=n1+1+1+1∧¬n1+1+1=n1+1+1+1:=by omega
 refine J4p ?_
 simp [mo6,mo7,mo8,mo9,K9o,hk1,e6,ne]
 refine Jrh (I:=⟨n1,n1+1,n1+1+1,n1+1+1+1⟩) (p:=p) (r:=r) (f:=f) (N:=N) (by simp [J6x,hk1]) ?_ hpar (by omega) ?_
 ·refine ⟨by simp [f0,ne,J01],by simp [f1,ne],by simp [f2,ne,J0c],by simp [f3,ne],by simp [f4,ne],by simp [f5,ne],by simp [e6,ne],by simp only;omega,by simp [ne],by simp [ne],⟨[],rfl,by simp [ne],by simp⟩,.nil 2,.nil 2,.nil 1,by simp [ne,J5b],.inl (by simp),.inl (by simp),.inl (by simp),by simp,by simp⟩
 intro s2 h2 n2 S2 M2
 rw [←st1d] at M2
 refine J4p (J0b (Jqw S2 M2 hnpre (by omega) hpre hsc ?_))
 intro s3 h3 n3 S3 M3
 rw [hpreL] at M3
 have hw1:(J0w (st1 r f) preR).rows.length≤100:=by
  have hpl:preR.length≤2:=by rw [←hpreL];simpa using hnpre
  simp [J0w];omega
 refine J4p (J0b (Js1 S3 M3 (by omega) (by show (st1 r f).nx≤_;omega) hw1 (by omega) ?_))
 intro s4 h4 n4 S4 M4
 rw [←st3d] at M4
 refine J4p (J0b (Jqg S4 M4 R.nguards (by omega) (fun g hg => ?_) ?_))
 ·have:=R.guards g hg
  unfold J42 J8y at this
  simp only [Bool.and_eq_true,decide_eq_true_eq] at this
  omega
 intro s5 h5 n5 S5 M5
 have hw2:(J0w (st3 r f preR) (r.Guards.map (Jfv (st3 r f preR).E N))).rows.length≤10000:=by
  have:=R.nguards
  simp [J0w];omega
 refine J4p (J0b (Jrv S5 M5 hp (by omega) (by show (st3 r f preR).nx≤_;omega) hw2 (by show (st3 r f preR).args.length≤_;rw [b2.2.2];simp) (by omega) (fun c hc => ?_) ?_))
 ·obtain ⟨g1,g2⟩:=hrargs c hc
  refine ⟨by omega,fun a ha x hx => ?_,fun a ha=>(Jbk (g2 a ha)).2⟩
  have:=(Jbk (g2 a ha)).1 x hx
  omega
 intro s6 h6' n6 S6 M6
 rw [←st5d] at M6
 generalize st5 p r f preR=ms at *
 obtain ⟨l1,l2,l3,l4,l5⟩:=M6.lt
 generalize (⟨n1,n1+1,n1+1+1,n1+1+1+1⟩:Ids)=I at *
 obtain ⟨s2,s4,s6,s7,s9,s12,s13,s15,s16⟩:=S6
 refine J4p ?_
 simp [K95,s13,s6,s9,M6.hmp,M6.hr,M6.hn,J0c]
 refine Jd2 (a:=r.Result) (E:=ms.E) (fun x hx=>by have:=hrres.1 x hx;omega) hrres.2 M6.map (by omega) ?_
 intro q h7 n7 hq hqn hfr7 hqb
 have M7:=M6.frame (h':=h7) (n':=n7) (by omega) hfr7
 generalize hres:Jgd ms.E N r.Result=res at *
 obtain ⟨vR,vP,vA,g1,g2,g3,g4,g6,g5⟩:=M6.acc
 rw [←hfr7 I.m (by omega)] at g1
 have hqm:¬q=I.m:=by omega
 have cR:=g2.cell
 have cP:=g3.cell
 have cA:=g4.cell
 have n1m:¬1=I.m:=by omega
 simp [Jip,s12,g1,J5b,Kal,s4,M7.hz,n1m,-dt,-dtl,-J18,Jcl,Jge,cR,cP,cA]
 generalize hH:upd (upd h7 I.m _) 1 _=H
 have fH:∀ id,I.x<id→id<n7→H id=h7 id:=by
  intro id hid _
  have:¬id=1∧¬id=I.m:=by omega
  rw [←hH];simp [this]
 have k2:J3c I.x 2 (ms.rows.map J08) vR H n6:=g2.keep (Nat.le_refl _) fun id hb hid _=>by rw [fH id hb (by omega),hfr7 id hid]
 have k3:J3c I.x 2 (ms.pars.map J08) vP H n6:=g3.keep (Nat.le_refl _) fun id hb hid _=>by rw [fH id hb (by omega),hfr7 id hid]
 have k4:J3c I.x 1 (ms.args.map J24) vA H n6:=g4.keep (Nat.le_refl _) fun id hb hid _=>by rw [fH id hb (by omega),hfr7 id hid]
 have kq:H q=some ⟨false,1,J0k res.Coeffs⟩:=by rw [fH q (by omega) hqn,hqb]
 obtain ⟨H1,d1,e1⟩:=k2.dt
 have k3':J3c I.x 2 (ms.pars.map J08) vP H1 n6:=k3.keep (Nat.le_refl _) fun id hb hid e=>e1 id fun l el=>g5 id _ id _ el e rfl
 obtain ⟨H2,d2,e2⟩:=k3'.dt
 have k4':J3c I.x 1 (ms.args.map J24) vA H2 n6:=k4.keep (Nat.le_refl _) fun id hb hid e=>by
  rw [e2 id fun l el=>k3.ne_sz k4 (by omega) el e,e1 id fun l el=>k2.ne_sz k4 (by omega) el e]
 obtain ⟨H3,d3,e3⟩:=k4'.dt
 have kq3:H3 q=some ⟨false,1,J0k res.Coeffs⟩:=by
  rw [e3 q fun l el=>k4.ne_ge hq el,e2 q fun l el=>k3.ne_ge hq el,e1 q fun l el=>k2.ne_ge hq el,kq]
 simp [d1,d2,d3,kq3,J51,J1z,hmS,Jyx,hres]
def a134:AFn:= ⟨69,[.t 2],(.seq (.reg [⟨some 2,.mv (.k (.bool false)),no⟩]) (.seq (.reg [⟨some 7,.bsl 1 [],no⟩,⟨some 3,.mv (.t 7),no⟩]) (.seq (.seq (.reg [⟨some 4,.mv (.k (.int .i64 0)),no⟩]) (.blk 0 (.loop (.seq (.seq (.reg [⟨some 8,.mv (.t 4),no⟩,⟨some 9,.mv (.t 0),no⟩,⟨some 10,.len false (.t 9),no⟩,⟨some 11,.bin .lss (.t 8) (.t 10),no⟩]) (.cond (.t 11) .skip (.exit 0))) (.seq (.blk 1 (.seq (.reg [⟨some 14,.mv (.t 0),no⟩,⟨some 15,.mv (.t 4),no⟩,⟨some 16,.ixa 4 (.t 14) (.t 15),no⟩,⟨some 17,.ld true 4 (.t 16),no⟩,⟨some 5,.box [(.str []),(.nil 1),(.bool false),(.nil 2)],no⟩,⟨no,.st 4 (.t 5) (.t 17),no⟩]) (.seq (.seq (.reg [⟨some 18,.fld 0 (.t 5),no⟩,⟨some 19,.ld false 1 (.t 18),no⟩,⟨some 20,.call (.k (.fn (.func 216) [] [])) [.t 19],no⟩,⟨some 21,.un .not (.t 20),no⟩,⟨some 22,.mv (.t 21),no⟩,⟨some 23,.fld 1 (.t 5),(some (22,false))⟩,⟨some 24,.ld false 1 (.t 23),(some (22,false))⟩,⟨some 25,.len false (.t 24),(some (22,false))⟩,⟨some 26,.bin .gtr (.t 25) (.k (.int .i64 2)),(some (22,false))⟩,⟨some 27,.pick (.t 22) (.k (.bool true)) (.t 26),no⟩,⟨some 28,.mv (.t 27),no⟩,⟨some 29,.fld 1 (.t 5),(some (28,false))⟩,⟨some 30,.ld false 1 (.t 29),(some (28,false))⟩,⟨some 31,.call (.k (.fn (.func 217) [] [])) [.t 30],(some (28,false))⟩,⟨some 32,.un .not (.t 31),(some (28,false))⟩,⟨some 33,.pick (.t 28) (.k (.bool true)) (.t 32),no⟩,⟨some 34,.mv (.t 33),no⟩,⟨some 35,.fld 3 (.t 5),(some (34,false))⟩,⟨some 36,.ld false 1 (.t 35),(some (34,false))⟩,⟨some 37,.len false (.t 36),(some (34,false))⟩,⟨some 38,.bin .gtr (.t 37) (.k (.int .i64 2)),(some (34,false))⟩,⟨some 39,.pick (.t 34) (.k (.bool true)) (.t 38),no⟩]) (.cond (.t 39) (.seq (.reg [⟨some 2,.mv (.k (.bool false)),no⟩]) .ret) .skip)) (.seq (.seq (.reg [⟨some 6,.mv (.k (.int .i64 0)),no⟩]) (.blk 2 (.loop (.seq (.seq (.reg [⟨some 40,.mv (.t 6),no⟩,⟨some 41,.fld 3 (.t 5),no⟩,⟨some 42,.ld false 1 (.t 41),no⟩,⟨some 43,.len false (.t 42),no⟩,⟨some 44,.bin .lss (.t 40) (.t 43),no⟩]) (.cond (.t 44) .skip (.exit 2))) (.seq (.blk 3 (.seq (.draw (.op ⟨some 47,.fld 3 (.t 5),no⟩ (.op ⟨some 48,.ld false 1 (.t 47),no⟩ (.op ⟨some 49,.mv (.t 6),no⟩ (.op ⟨some 50,.ixa 2 (.t 48) (.t 49),no⟩ (.op ⟨some 51,.ld true 2 (.t 50),no⟩ (.op ⟨some 52,.fld 1 (.t 5),no⟩ (.op ⟨some 53,.ld false 1 (.t 52),no⟩ (.op ⟨some 54,.len false (.t 53),no⟩ (.op ⟨some 55,.call (.k (.fn (.func 179) [] [])) [.t 51,.t 54],no⟩ (.op ⟨some 56,.un .not (.t 55),no⟩ .fin))))))))))) (.cond (.t 56) (.seq (.reg [⟨some 2,.mv (.k (.bool false)),no⟩]) .ret) .skip))) (.reg [⟨some 45,.mv (.t 6),no⟩,⟨some 46,.bin .add (.t 45) (.k (.int .i64 1)),no⟩,⟨some 6,.mv (.t 46),no⟩])))))) (.reg [⟨some 57,.mv (.t 3),no⟩,⟨some 58,.fld 0 (.t 5),no⟩,⟨some 59,.ld false 1 (.t 58),no⟩,⟨some 60,.bsl 1 [.t 59],no⟩,⟨some 61,.app 16 1 (.t 57) (.t 60),no⟩,⟨some 3,.mv (.t 61),no⟩]))))) (.reg [⟨some 12,.mv (.t 4),no⟩,⟨some 13,.bin .add (.t 12) (.k (.int .i64 1)),no⟩,⟨some 4,.mv (.t 13),no⟩])))))) (.seq (.reg [⟨some 62,.mv (.t 0),no⟩,⟨some 63,.len false (.t 62),no⟩,⟨some 64,.call (.k (.fn (.func 183) [] [])) [.t 63,(.k (.int .i64 1)),(.k (.int .i64 3))],no⟩,⟨some 65,.mv (.t 64),no⟩,⟨some 66,.mv (.t 3),(some (65,true))⟩,⟨some 67,.call (.k (.fn (.func 218) [] [])) [.t 66],(some (65,true))⟩,⟨some 68,.pick (.t 65) (.t 67) (.k (.bool false)),no⟩,⟨some 2,.mv (.t 68),no⟩]) .ret))))⟩
theorem a134_ok:J0a Tryz.prog Tryz.f134=some a134:=by kernel_rfl
def a61:AFn:= ⟨29,[.t 2],(.seq (.reg [⟨some 1,.boxv (.t 0),no⟩,⟨some 2,.mv (.k (.bool false)),no⟩]) (.seq (.seq (.reg [⟨some 4,.fld 0 (.t 1),no⟩,⟨some 5,.ld false 1 (.t 4),no⟩,⟨some 6,.call (.k (.fn (.func 134) [] [])) [.t 5],no⟩,⟨some 7,.un .not (.t 6),no⟩,⟨some 8,.mv (.t 7),no⟩,⟨some 9,.fld 1 (.t 1),(some (8,false))⟩,⟨some 10,.ld false 1 (.t 9),(some (8,false))⟩,⟨some 11,.len false (.t 10),(some (8,false))⟩,⟨some 12,.bin .gtr (.t 11) (.k (.int .i64 8)),(some (8,false))⟩,⟨some 13,.pick (.t 8) (.k (.bool true)) (.t 12),no⟩]) (.cond (.t 13) (.seq (.reg [⟨some 2,.mv (.k (.bool false)),no⟩]) .ret) .skip)) (.seq (.seq (.reg [⟨some 3,.mv (.k (.int .i64 0)),no⟩]) (.blk 0 (.loop (.seq (.seq (.reg [⟨some 14,.mv (.t 3),no⟩,⟨some 15,.fld 1 (.t 1),no⟩,⟨some 16,.ld false 1 (.t 15),no⟩,⟨some 17,.len false (.t 16),no⟩,⟨some 18,.bin .lss (.t 14) (.t 17),no⟩]) (.cond (.t 18) .skip (.exit 0))) (.seq (.blk 1 (.seq (.draw (.op ⟨some 21,.ld true 2 (.t 1),no⟩ (.op ⟨some 22,.fld 1 (.t 1),no⟩ (.op ⟨some 23,.ld false 1 (.t 22),no⟩ (.op ⟨some 24,.mv (.t 3),no⟩ (.op ⟨some 25,.ixa 7 (.t 23) (.t 24),no⟩ (.op ⟨some 26,.ld true 7 (.t 25),no⟩ (.op ⟨some 27,.call (.k (.fn (.func 135) [] [])) [.t 21,.t 26],no⟩ (.op ⟨some 28,.un .not (.t 27),no⟩ .fin))))))))) (.cond (.t 28) (.seq (.reg [⟨some 2,.mv (.k (.bool false)),no⟩]) .ret) .skip))) (.reg [⟨some 19,.mv (.t 3),no⟩,⟨some 20,.bin .add (.t 19) (.k (.int .i64 1)),no⟩,⟨some 3,.mv (.t 20),no⟩])))))) (.seq (.reg [⟨some 2,.mv (.k (.bool true)),no⟩]) .ret))))⟩
theorem a61_ok:J0a Tryz.prog Tryz.f61=some a61:=by kernel_rfl
theorem Jhu {α:Type}{p:α→Bool}{l:List α}{i:Nat}(hi:i<l.length):(l.drop i).all p=(p l[i]&&(l.drop (i+1)).all p):=by rw [List.drop_eq_getElem_cons hi,List.all_cons]
theorem Jl7 {l:List DFunction}{i:Nat}(hi:i≤l.length):(Jgv l i).length=i:=by simp [Jgv];omega
theorem J9d (fs:List DFunction) (hlf:fs.length≤1048576) (hpre:∀ f∈fs,f.Pre.length≤1048576):Holds Tryz.prog 134 [.sl 4 (fs.map J04)] (fun x=>x = .bool (fs.all Jji&&inR fs.length 1 3&&J85 (fs.map (·.Name)))):=by
 refine J03 Tryz.func134 a134_ok rfl (by simp [a134]) ?_
 simp [a134]
 generalize hB:fs.all Jji=B
 refine J0o [0] 4 fs.length (fun i s h n=>(fs.drop i).all Jji=B∧∃ id,id<n∧s 3 = .ref id 0 i∧h id=some ⟨false,1,J0e (Jgv fs i)⟩) (by unfold LIM;omega) (by simp) ⟨by simpa using hB,0,by simp,by simp,by simp [J0e,Jgv]⟩ ?_ ?_
 ·rintro i st h n R hi hg hk s4 hw ⟨hJ,id,hid,s3,eid⟩ hR hret _
  simp at hk
  rw [Jhu hi] at hJ
  have z0:¬id=n:=by omega
  have z1:¬n=id:=by omega
  refine J0b (J0i [0,3,4] (fun s=>s 11 = .bool true) (by simp [hk,s4,hi]) ?_)
  intro st1 hk1 s11
  simp at hk1
  refine J29 s11 (J0b (J1c ?_))
  refine J15 [0,3,4] (fun s h' n'=>s 5 = .ptr n 0 0∧n'=n+1∧h' n=some ⟨true,4,[J04 fs[i]]⟩∧h' id=some ⟨false,1,J0e (Jgv fs i)⟩) (by simp [hk,hk1,s4,hi,J04,eid,z0,z1]) ?_
  rintro st2 h2' n2 hk2 ⟨s5,rfl,en,eid'⟩
  simp at hk2
  have hfp:=hpre _ (List.getElem_mem hi)
  generalize hf:fs[i]=f at *
  refine J0b (J0i [0,3,4,5] (fun s=>s 39 = .bool (!J2f f.Name || !decide (f.Params.length≤2) || !(f.Params.all J3i&&J85 f.Params) || !decide (f.Pre.length≤2))) ?_ ?_)
  ·have hdp:decide (f.Params.length≤2)=decide ((f.Params.length:Int)≤2):=by rw [decide_eq_decide];omega
   have hdq:decide (f.Pre.length≤2)=decide ((f.Pre.length:Int)≤2):=by rw [decide_eq_decide];omega
   obtain ⟨E,hE⟩:∃ E,E=(f.Params.all J3i&&J85 f.Params):=⟨_,rfl⟩
   rw [hdp,hdq,←hE]
   simp [hk,hk1,hk2,s5,en,J04]
   first|refine J00 (J4r f.Name) (by first|simp;done|rfl) ?_|refine J02 (J4r f.Name) (by first|simp;done|rfl) ?_
   rintro r rfl
   cases g1:J2f f.Name
   ·simp
   simp [hk,hk1,hk2,s5,en,J04]
   intro _
   by_cases g3:(f.Params.length:Int)≤2
   case neg=>simp [g3,Int.not_le.1 g3]
   simp [g3,Int.not_lt.2 g3,hk,hk1,hk2,s5,en,J04]
   first|refine J00 (Jg3 f.Params) (by first|simp;done|rfl) ?_|refine J02 (Jg3 f.Params) (by first|simp;done|rfl) ?_
   rintro r rfl
   rw [←hE]
   clear hE
   cases E
   ·simp
   simp [hk,hk1,hk2,s5,en,J04]
   intro _
   by_cases g5:(f.Pre.length:Int)≤2
   ·simp [g5,Int.not_lt.2 g5]
   ·simp [g5,Int.not_le.1 g5]
  intro st3 hk3 s39
  simp at hk3
  generalize hcc:(!J2f f.Name || !decide (f.Params.length≤2) || !(f.Params.all J3i&&J85 f.Params) || !decide (f.Pre.length≤2))=cc at *
  have hbody:Jji f=(!cc&&f.Pre.all fun l=>J14 l f.Params.length):=by
   rw [←hcc]
   unfold Jji
   cases J2f f.Name <;> cases decide (f.Params.length≤2) <;> cases f.Params.all J3i <;> cases J85 f.Params <;> cases decide (f.Pre.length≤2) <;> simp
  rw [hbody] at hJ
  clear hbody hcc
  cases cc
  case true=>
   simp at hJ
   simp [s39]
   refine hret _ _ _ ?_
   simp [hJ]
  refine Jht s39 ?_
  simp only [Jhg]
  simp only [Bool.not_false,Bool.true_and] at hJ
  simp [hk,hk1,hk2,hk3]
  generalize hB2:(f.Pre.all fun l=>J14 l f.Params.length)=B2 at *
  refine J0o [0,3,4,5] 6 f.Pre.length (fun j s h' n'=>n<n'∧h' n=some ⟨true,4,[J04 f]⟩∧h' id=some ⟨false,1,J0e (Jgv fs i)⟩∧((f.Pre.drop j).all fun l=>J14 l f.Params.length)=B2) (by unfold LIM;omega) (by simp) ⟨by omega,by simpa using en,by simpa using eid',by simpa using hB2⟩ ?_ ?_
  ·rintro j stj hj nj Rj hji hjg hkj s6 hwj ⟨hnj,enj,eidj,hJj⟩ hRj hretj _
   simp at hkj
   rw [Jhu hji] at hJj
   refine J0b (J0i [0,3,4,5,6] (fun s=>s 44 = .bool true) (by simp [hkj,hk3,s5,s6,hji,enj,J04]) ?_)
   intro stk hkk s44
   simp at hkk
   refine J29 s44 (J0b (J1c ?_))
   refine J0i [0,3,4,5,6] (fun s=>s 56 = .bool (!J14 f.Pre[j] f.Params.length)) ?_ ?_
   ·simp [hkj,hkk,hk3,s5,s6,hji,hjg,enj,J04]
    first|refine J00 (J0q (f.Pre[j]'hji) f.Params.length) (by first|simp;done|rfl) ?_|refine J02 (J0q (f.Pre[j]'hji) f.Params.length) (by first|simp;done|rfl) ?_
    rintro r rfl
    simp
   intro stm hkm s56
   simp at hkm
   generalize J14 f.Pre[j] f.Params.length=D at *
   cases D
   ·rw [Bool.false_and] at hJj
    subst hJj
    simp at hJ
    subst hJ
    simp [s56]
    refine hretj _ _ _ ?_
    simp
    refine hret _ _ _ ?_
    simp
   ·rw [Bool.true_and] at hJj
    simp [hkj,hkk,hkm,s56,s6,hwj]
    exact hRj _ _ _ (by simp [hkj,hkk,hkm]) (by simp) ⟨hnj,enj,eidj,hJj⟩
  rintro stj hj nj Rj hkj s6 ⟨hnj,enj,eidj,hJj⟩ hretj hXj
  simp at hkj
  rw [List.drop_eq_nil_of_le (by omega)] at hJj
  simp at hJj
  subst hJj
  rw [Bool.true_and] at hJ
  refine J0b (J0i [0,3,4,5] (fun s=>s 44 = .bool false) (by simp [hkj,hk3,s5,s6,enj,J04]) ?_)
  intro stk hkk s44
  simp at hkk
  refine J23 s44 ?_
  simp
  refine hXj _ _ _ _ ?_
  have y0:¬id=nj:=by omega
  have y1:¬nj=id:=by omega
  have y2:¬id=nj+1:=by omega
  have y3:¬nj+1=id:=by omega
  have y4:¬n=nj:=by omega
  have y5:¬nj=n:=by omega
  have hl:=Jl7 (l:=fs) (i:=i) (by omega)
  simp [hk,hk1,hk2,hk3,hkj,hkk,s3,s4,s5,enj,eidj,J04,y0,y1,y2,y3,y4,y5,hl,hw]
  refine ⟨by unfold LIM;omega,?_⟩
  have hs:=Jiz hi
  rw [hf] at hs
  exact hR _ _ _ (by simp [hk,hk1,hk2,hk3,hkj,hkk]) (by simp) ⟨hJ,nj+1,by omega,by simp,by simp [hs,J0e,List.take_of_length_le,hl]⟩
 rintro st h n R hk s4 ⟨hJ,id,hid,s3,eid⟩ hret hX
 simp at hk
 rw [List.drop_eq_nil_of_le (by omega)] at hJ
 simp at hJ
 subst hJ
 refine J0b (J0i [0,3,4] (fun s=>s 11 = .bool false) (by simp [hk,s4]) ?_)
 intro st1 hk1 s11
 simp at hk1
 refine J23 s11 ?_
 refine hX _ _ _ _ ?_
 have hnam:Jgv fs fs.length=fs.map (·.Name):=by simp [Jgv]
 have hnl:=Jl7 (l:=fs) (i:=fs.length) (by omega)
 rw [hnam] at eid hnl
 simp [hk,hk1]
 intro _
 first|refine J00 (J4d fs.length 1 3) (by first|simp;done|rfl) ?_|refine J02 (J4d fs.length 1 3) (by first|simp;done|rfl) ?_
 rintro r rfl
 cases h1:inR fs.length 1 3
 ·simp
 simp [hk1,s3]
 have ht:List.take fs.length (J0e (fs.map (·.Name)))=J0e (fs.map (·.Name)):=List.take_of_length_le (by simp)
 first|refine J00 (J48 (fs.map (·.Name))) (by first|simp [eid,ht];done|rfl) ?_|refine J02 (J48 (fs.map (·.Name))) (by first|simp [eid,ht];done|rfl) ?_
 rintro r rfl
 simp
theorem J26 (p:DProgram) (hp:J0f p≤1048576):Holds Tryz.prog 61 [.agg (J01 p)] (fun x=>x = .bool (J2l p)):=by
 have hlf:p.Functions.length≤1048576:=by have:=J27 J11 p.Functions;unfold J0f J28 at hp;omega
 have hpre:∀ f∈p.Functions,f.Pre.length≤1048576:=fun f hf=>by
  have h1:=J3d (w:=J11) hf
  have h2:=J27 Jai f.Pre
  unfold J0f J28 at hp
  rw [show J11 f=f.Name.length+J4e f.Params+J5n f.Pre from rfl] at h1
  unfold J5n at h1
  omega
 have hlr:p.Rules.length≤1048576:=by have:=J27 J39 p.Rules;unfold J0f J7v at hp;omega
 refine J03 Tryz.func61 a61_ok rfl (by simp [a61]) ?_
 simp [a61,J01]
 first|refine J00 (J9d p.Functions hlf hpre) (by first|simp;done|rfl) ?_|refine J02 (J9d p.Functions hlf hpre) (by first|simp;done|rfl) ?_
 rintro r rfl
 have hord:J2l p=(p.Functions.all Jji&&inR p.Functions.length 1 3&&J85 (p.Functions.map (·.Name))&&decide (p.Rules.length≤8)&&p.Rules.all (J7e p)):=by
  unfold J2l
  rw [J9l]
  unfold J85
  cases inR p.Functions.length 1 3 <;> cases p.Functions.all Jji <;> simp
 rw [hord]
 generalize (p.Functions.all Jji&&inR p.Functions.length 1 3&&J85 (p.Functions.map (·.Name)))=E
 cases E
 ·simp
 simp
 intro _
 have hdg:decide (p.Rules.length≤8)=decide ((p.Rules.length:Int)≤8):=by rw [decide_eq_decide];omega
 by_cases h2:(p.Rules.length:Int)≤8
 case neg=>
  have h2n:¬p.Rules.length≤8:=by omega
  simp [h2,h2n,Int.not_le.1 h2]
 have h2n:p.Rules.length≤8:=by omega
 simp [h2,h2n,Int.not_lt.2 h2]
 generalize hB:p.Rules.all (J7e p)=B
 refine J0o [1] 3 p.Rules.length (fun i s h n=>0<n∧h 0=some ⟨true,2,[J01 p]⟩∧(p.Rules.drop i).all (J7e p)=B) (by unfold LIM;omega) (by simp) ⟨by simp,by simp [J01],by simpa using hB⟩ ?_ ?_
 ·rintro i st h n R hi hg hk s3 hw ⟨hn,e0,hJ⟩ hR hret _
  simp at hk
  rw [Jhu hi] at hJ
  refine J0b (J0i [1,3] (fun s=>s 18 = .bool true) (by simp [hk,s3,hi,e0,J01]) ?_)
  intro st1 hk1 s18
  simp at hk1
  refine J29 s18 (J0b (J1c ?_))
  refine J0i [1,3] (fun s=>s 28 = .bool (!J7e p p.Rules[i])) ?_ ?_
  ·simp [hk,hk1,s3,hi,hg,e0,J01]
   first|refine J00 (J64 p (p.Rules[i]'hi) hp (J9j hp _ (List.getElem_mem hi))) (by simp [J01]) ?_|refine J02 (J64 p (p.Rules[i]'hi) hp (J9j hp _ (List.getElem_mem hi))) (by simp [J01]) ?_|refine J00 (J64 p (p.Rules[i]'hi) hp (J9j hp _ (List.getElem_mem hi))) rfl ?_|refine J02 (J64 p (p.Rules[i]'hi) hp (J9j hp _ (List.getElem_mem hi))) rfl ?_
   rintro r rfl
   simp
  intro st2 hk2 s28
  simp at hk2
  generalize J7e p p.Rules[i]=D at *
  cases D
  ·rw [Bool.false_and] at hJ
   subst hJ
   simp [s28]
   refine hret _ _ _ ?_
   simp
  ·rw [Bool.true_and] at hJ
   simp [hk,hk1,hk2,s28,s3,hw]
   exact hR _ _ _ (by simp [hk,hk1,hk2]) (by simp) ⟨hn,e0,hJ⟩
 rintro st h n R hk s3 ⟨hn,e0,hJ⟩ hret hX
 simp at hk
 rw [List.drop_eq_nil_of_le (by omega)] at hJ
 simp at hJ
 subst hJ
 refine J0b (J0i [1] (fun s=>s 18 = .bool false) (by simp [hk,s3,e0,J01]) ?_)
 intro st1 hk1 s18
 refine J23 s18 ?_
 refine hX _ _ _ _ ?_
 simp
def a180:AFn:= ⟨46,[.t 4],(.seq (.reg [⟨some 2,.boxv (.t 0),no⟩,⟨some 4,.mv (.k (.nil 2)),no⟩]) (.seq (.reg [⟨some 8,.bsl 2 [],no⟩,⟨some 5,.mv (.t 8),no⟩]) (.seq (.seq (.reg [⟨some 6,.mv (.k (.int .i64 0)),no⟩]) (.blk 0 (.loop (.seq (.seq (.reg [⟨some 9,.mv (.t 6),no⟩,⟨some 10,.fld 1 (.t 2),no⟩,⟨some 11,.ld false 1 (.t 10),no⟩,⟨some 12,.len false (.t 11),no⟩,⟨some 13,.bin .lss (.t 9) (.t 12),no⟩]) (.cond (.t 13) .skip (.exit 0))) (.seq (.blk 1 (.seq (.reg [⟨some 16,.fld 1 (.t 2),no⟩,⟨some 17,.ld false 1 (.t 16),no⟩,⟨some 18,.mv (.t 6),no⟩,⟨some 19,.ixa 1 (.t 17) (.t 18),no⟩,⟨some 20,.ld false 1 (.t 19),no⟩,⟨some 21,.call (.k (.fn (.func 260) [] [])) [.t 20],no⟩]) (.cond (.t 21) (.reg [⟨some 22,.mv (.t 5),no⟩,⟨some 23,.mv (.t 6),no⟩,⟨some 24,.mv (.t 1),no⟩,⟨some 25,.call (.k (.fn (.func 261) [] [])) [.t 23,.t 24],no⟩,⟨some 26,.bsl 2 [.t 25],no⟩,⟨some 27,.app 32 2 (.t 22) (.t 26),no⟩,⟨some 5,.mv (.t 27),no⟩]) .skip))) (.reg [⟨some 14,.mv (.t 6),no⟩,⟨some 15,.bin .add (.t 14) (.k (.int .i64 1)),no⟩,⟨some 6,.mv (.t 15),no⟩])))))) (.seq (.seq (.reg [⟨some 7,.mv (.k (.int .i64 0)),no⟩]) (.blk 2 (.loop (.seq (.seq (.reg [⟨some 28,.mv (.t 7),no⟩,⟨some 29,.fld 3 (.t 2),no⟩,⟨some 30,.ld false 1 (.t 29),no⟩,⟨some 31,.len false (.t 30),no⟩,⟨some 32,.bin .lss (.t 28) (.t 31),no⟩]) (.cond (.t 32) .skip (.exit 2))) (.seq (.blk 3 (.reg [⟨some 35,.mv (.t 5),no⟩,⟨some 36,.fld 3 (.t 2),no⟩,⟨some 37,.ld false 1 (.t 36),no⟩,⟨some 38,.mv (.t 7),no⟩,⟨some 39,.ixa 2 (.t 37) (.t 38),no⟩,⟨some 40,.ld true 2 (.t 39),no⟩,⟨some 41,.mv (.t 1),no⟩,⟨some 42,.call (.k (.fn (.func 262) [] [])) [.t 40,.t 41],no⟩,⟨some 43,.bsl 2 [.t 42],no⟩,⟨some 44,.app 32 2 (.t 35) (.t 43),no⟩,⟨some 5,.mv (.t 44),no⟩])) (.reg [⟨some 33,.mv (.t 7),no⟩,⟨some 34,.bin .add (.t 33) (.k (.int .i64 1)),no⟩,⟨some 7,.mv (.t 34),no⟩])))))) (.seq (.reg [⟨some 45,.mv (.t 5),no⟩,⟨some 4,.mv (.t 45),no⟩]) .ret)))))⟩
theorem a180_ok:J0a Tryz.prog Tryz.f180=some a180:=by kernel_rfl
def a97:AFn:= ⟨31,[(.c 4 true 2),.t 5],(.seq (.reg [⟨some 2,.boxv (.t 0),no⟩,⟨some 4,.box [(.int .i64 0),(.nil 2)],no⟩,⟨some 5,.mv (.k (.bool false)),no⟩]) (.seq (.reg [⟨some 9,.ld true 2 (.t 2),no⟩,⟨some 10,.mv (.t 1),no⟩,⟨some 11,.call (.k (.fn (.func 172) [] [])) [.t 9,.t 10],no⟩,⟨some 8,.mv (.t 11),no⟩,⟨some 12,.ext (.t 8) 0,no⟩,⟨some 13,.ext (.t 8) 1,no⟩,⟨some 6,.box [(.str []),(.nil 1),(.bool false),(.nil 2)],no⟩,⟨no,.st 4 (.t 6) (.t 12),no⟩,⟨some 7,.mv (.t 13),no⟩]) (.seq (.seq (.reg [⟨some 14,.mv (.t 7),no⟩,⟨some 15,.un .not (.t 14),no⟩,⟨some 16,.mv (.t 15),no⟩,⟨some 17,.ld true 2 (.t 2),(some (16,false))⟩,⟨some 18,.call (.k (.fn (.func 61) [] [])) [.t 17],(some (16,false))⟩,⟨some 19,.un .not (.t 18),(some (16,false))⟩,⟨some 20,.pick (.t 16) (.k (.bool true)) (.t 19),no⟩]) (.cond (.t 20) (.seq (.reg [⟨some 21,.build [(.int .i64 0),(.nil 2)] [],no⟩,⟨no,.st 2 (.t 4) (.t 21),no⟩,⟨some 5,.mv (.k (.bool false)),no⟩]) .ret) .skip)) (.seq (.draw (.op ⟨some 22,.fld 1 (.t 6),no⟩ (.op ⟨some 23,.ld false 1 (.t 22),no⟩ (.op ⟨some 24,.len false (.t 23),no⟩ (.op ⟨some 25,.ld true 4 (.t 6),no⟩ (.op ⟨some 26,.fld 1 (.t 6),no⟩ (.op ⟨some 27,.ld false 1 (.t 26),no⟩ (.op ⟨some 28,.len false (.t 27),no⟩ (.op ⟨some 29,.call (.k (.fn (.func 180) [] [])) [.t 25,.t 28],no⟩ (.op ⟨some 30,.build [(.int .i64 0),(.nil 2)] [(0,(1,(.t 24))),(1,(1,(.t 29)))],no⟩ (.hop ⟨no,.st 2 (.t 4) (.t 30),no⟩ [] (.op ⟨some 5,.mv (.k (.bool true)),no⟩ .fin)))))))))))) .ret))))⟩
theorem a97_ok:J0a Tryz.prog Tryz.f97=some a97:=by kernel_rfl
def a188:AFn:= ⟨56,[(.c 4 true 2),.t 5],(.seq (.reg [⟨some 2,.boxv (.t 0),no⟩,⟨some 4,.box [(.int .i64 0),(.nil 2)],no⟩,⟨some 5,.mv (.k (.bool false)),no⟩]) (.seq (.reg [⟨some 12,.ld true 2 (.t 2),no⟩,⟨some 13,.mv (.t 1),no⟩,⟨some 14,.call (.k (.fn (.func 176) [] [])) [.t 12,.t 13],no⟩,⟨some 11,.mv (.t 14),no⟩,⟨some 15,.ext (.t 11) 0,no⟩,⟨some 16,.ext (.t 11) 1,no⟩,⟨some 6,.box [(.str []),(.nil 1),(.bool false),(.nil 2)],no⟩,⟨no,.st 4 (.t 6) (.t 15),no⟩,⟨some 7,.mv (.t 16),no⟩]) (.seq (.seq (.reg [⟨some 17,.ld true 2 (.t 2),no⟩,⟨some 18,.call (.k (.fn (.func 67) [] [])) [.t 17],no⟩,⟨some 19,.un .not (.t 18),no⟩,⟨some 20,.mv (.t 19),no⟩,⟨some 21,.mv (.t 7),(some (20,false))⟩,⟨some 22,.un .not (.t 21),(some (20,false))⟩,⟨some 23,.pick (.t 20) (.k (.bool true)) (.t 22),no⟩]) (.cond (.t 23) (.seq (.reg [⟨some 24,.build [(.int .i64 0),(.nil 2)] [],no⟩,⟨no,.st 2 (.t 4) (.t 24),no⟩,⟨some 5,.mv (.k (.bool false)),no⟩]) .ret) .skip)) (.seq (.reg [⟨some 25,.fld 1 (.t 6),no⟩,⟨some 26,.ld false 1 (.t 25),no⟩,⟨some 27,.len false (.t 26),no⟩,⟨some 28,.build [(.int .i64 0),(.nil 2)] [(0,(1,(.t 27)))],no⟩,⟨some 8,.box [(.int .i64 0),(.nil 2)],no⟩,⟨no,.st 2 (.t 8) (.t 28),no⟩]) (.seq (.seq (.reg [⟨some 29,.fld 1 (.t 6),no⟩,⟨some 30,.ld false 1 (.t 29),no⟩,⟨some 31,.len false (.t 30),no⟩,⟨some 32,.mv (.k (.int .i64 0)),no⟩]) (.blk 0 (.loop (.seq (.reg [⟨some 33,.bin .lss (.t 32) (.t 31),no⟩]) (.seq (.cond (.t 33) .skip (.exit 0)) (.seq (.blk 1 (.seq (.reg [⟨some 34,.mv (.t 32),no⟩,⟨some 35,.ixa 1 (.t 30) (.t 32),no⟩,⟨some 36,.ld false 1 (.t 35),no⟩,⟨some 9,.mv (.t 34),no⟩,⟨some 10,.mv (.t 36),no⟩]) (.seq (.reg [⟨some 37,.mv (.t 10),no⟩,⟨some 38,.call (.k (.fn (.func 205) [] [])) [.t 37],no⟩]) (.cond (.t 38) (.draw (.op ⟨some 39,.fld 1 (.t 8),no⟩ (.op ⟨some 40,.ld false 1 (.t 39),no⟩ (.op ⟨some 41,.mv (.t 9),no⟩ (.op ⟨some 42,.fld 0 (.t 8),no⟩ (.op ⟨some 43,.ld false 1 (.t 42),no⟩ (.op ⟨some 44,.call (.k (.fn (.func 203) [] [])) [.t 41,.t 43],no⟩ (.hop ⟨some 45,.bsl 2 [.t 44],no⟩ [(.ld false 1 (.t 39)),(.fld 1 (.t 8))] (.hop ⟨some 46,.app 32 2 (.t 40) (.t 45),no⟩ [] (.op ⟨some 47,.fld 1 (.t 8),no⟩ (.hop ⟨no,.st 1 (.t 47) (.t 46),no⟩ [] .fin))))))))))) .skip)))) (.reg [⟨some 48,.bin .add (.t 32) (.k (.int .i64 1)),no⟩,⟨some 32,.mv (.t 48),no⟩]))))))) (.seq (.reg [⟨some 49,.fld 1 (.t 8),no⟩,⟨some 50,.ld false 1 (.t 49),no⟩,⟨some 51,.fld 3 (.t 6),no⟩,⟨some 52,.ld false 1 (.t 51),no⟩,⟨some 53,.app 32 2 (.t 50) (.t 52),no⟩,⟨some 54,.fld 1 (.t 8),no⟩,⟨no,.st 1 (.t 54) (.t 53),no⟩]) (.seq (.reg [⟨some 55,.ld true 2 (.t 8),no⟩,⟨no,.st 2 (.t 4) (.t 55),no⟩,⟨some 5,.mv (.k (.bool true)),no⟩]) .ret)))))))⟩
theorem a188_ok:J0a Tryz.prog Tryz.f188=some a188:=by kernel_rfl
theorem J9c {n:Nat} : ∀ {xs:List Str}{i:Nat},(J94 n xs i).length≤xs.length
 | [],_=>Nat.le_refl _
 | x::xs,i=>by
  have:=J9c (n:=n) (xs:=xs) (i:=i+1)
  simp only [J94,List.length_append,List.length_cons]
  split <;> simp <;> omega
theorem Jtz {f:DFunction}(hw:J11 f≤1048576):f.Params.length≤1048576∧f.Pre.length≤1048576∧∀ l∈f.Pre,l.Coeffs.length≤1048576:=by
 have h3:J11 f=f.Name.length+J4e f.Params+J5n f.Pre:=rfl
 have h4:=J27 List.length f.Params
 have h5:=J27 Jai f.Pre
 unfold J4e J5n at h3
 refine ⟨by omega,by omega,fun l hl => ?_⟩
 have:=J3d (w:=Jai) hl
 rw [show Jai l=l.Coeffs.length from rfl] at this
 omega
theorem K7n {p:DProgram}{name:Str}{f:DFunction}(hp:J0f p≤1048576) (hf:J0t p.Functions name=some f):J11 f≤1048576:=by
 have h3:=J3d (w:=J11) (List.mem_of_find?_eq_some hf)
 unfold J0f J28 at hp;omega
theorem J7h (f:DFunction) (n:Nat) (hw:J11 f≤1048576) (hn:n≤1048576) (hpre:∀ l∈f.Pre,l.Coeffs.length≤n):Holds Tryz.prog 180 [.agg (J04 f),i64 n] (fun r=>r = .us 2 ((Jcc f n).map J08)):=by
 obtain ⟨hl1,hl2,hl3⟩:=Jtz hw
 have hr0:=J9c (n:=n) (xs:=f.Params) (i:=0)
 refine J03 Tryz.func180 a180_ok rfl (by simp [a180]) ?_
 simp [a180,J04]
 generalize hT1:J94 n f.Params 0=T1
 rw [hT1] at hr0
 have hdom:Jcc f n=T1++f.Pre.map (J3k n):=by unfold Jcc;rw [hT1]
 refine J0o [1,2] 6 f.Params.length (fun i s h m=>1<m∧h 0=some ⟨true,4,[J04 f]⟩∧∃ (acc:List DLin) (id:Nat),acc++J94 n (f.Params.drop i) i=T1∧id≠0∧id<m∧s 5 = .ref id 0 acc.length∧h id=some ⟨false,2,acc.map J08⟩) (by unfold LIM;omega) (by simp) ⟨by simp,by simp [J04],[],1,by simpa using hT1,by simp,by simp,by simp,by simp⟩ ?_ ?_
 ·rintro i st h m R hi hg hk s6 hw ⟨hm,e0,acc,id,hJ,hid0,hid,s5,eid⟩ hR _ _
  simp at hk
  rw [List.drop_eq_getElem_cons hi] at hJ
  simp only [J94] at hJ
  refine J0b (J0i [1,2,5,6] (fun s=>s 13 = .bool true) (by simp [hk,s6,hi,e0,J04]) ?_)
  intro st1 hk1 s13
  simp at hk1
  refine J29 s13 (J0b (J1c ?_))
  refine J0i [1,2,5,6] (fun s=>s 21 = .bool (J0n f.Params[i])) ?_ ?_
  ·simp [hk1,hk,s6,hi,e0,J04]
   first|refine J00 (J16 (f.Params[i]'hi)) (by first|simp;done|rfl) ?_|refine J02 (J16 (f.Params[i]'hi)) (by first|simp;done|rfl) ?_
   rintro r rfl
   simp
  intro st2 hk2 s21
  simp at hk2
  have z0:¬0=m:=by omega
  have z1:¬m=0:=by omega
  have z2:¬id=m:=by omega
  have z3:¬m=id:=by omega
  have z4:¬0=id:=by omega
  have z5:¬0=m+1:=by omega
  have z6:¬id=m+1:=by omega
  have z7:¬m+1=id:=by omega
  have z8:¬0=m+2:=by omega
  have z9:¬0=m+1+1:=by omega
  cases c1:J0n f.Params[i]
  ·rw [c1] at hJ s21
   simp only [Bool.false_eq_true,if_false,List.nil_append] at hJ
   simp [hk2,hk1,hk,s21,s6,hw]
   exact hR _ _ _ (by simp [hk2,hk1,hk]) (by simp) ⟨hm,e0,acc,id,hJ,hid0,hid,by simp [hk2,hk1,s5],eid⟩
  ·rw [c1] at hJ s21
   simp only [if_true] at hJ
   have hal:=congrArg List.length hJ
   simp only [List.length_append,List.length_cons,List.length_nil] at hal
   simp [hk2,hk1,hk,s21,s6,hw,e0]
   first|refine J00 (J74 i n) (by first|simp;done|rfl) ?_|refine J02 (J74 i n) (by first|simp;done|rfl) ?_
   rintro r rfl
   simp [hk2,hk1,hk,s21,s6,hw,e0,eid,s5,J08,z0,z1,z2,z3,z4,z5,z6,z7,z8,z9]
   refine ⟨by unfold LIM;omega,?_⟩
   exact hR _ _ _ (by simp [hk2,hk1,hk]) (by simp) ⟨by omega,by simp [e0,z0,z4,z5,z8,z9],acc++[J2q i n],m+2,by simpa using hJ,by omega,by omega,by simp,by simp [J08,List.take_of_length_le]⟩
 rintro st h m R hk s6 ⟨hm,e0,acc,id,hJ,hid0,hid,s5,eid⟩ hret hX
 simp at hk
 rw [List.drop_eq_nil_of_le (by omega)] at hJ
 simp only [J94,List.append_nil] at hJ
 subst hJ
 refine J0b (J0i [1,2,5] (fun s=>s 13 = .bool false) (by simp [hk,s6,e0,J04]) ?_)
 intro st1 hk1 s13
 simp at hk1
 refine J23 s13 ?_
 refine hX _ _ _ _ ?_
 simp [hk1,s5]
 generalize hT2:acc++f.Pre.map (J3k n)=T2
 refine J0o [1,2] 7 f.Pre.length (fun i s h m=>1<m∧h 0=some ⟨true,4,[J04 f]⟩∧∃ (acc:List DLin) (id:Nat),acc++(f.Pre.drop i).map (J3k n)=T2∧id≠0∧id<m∧s 5 = .ref id 0 acc.length∧h id=some ⟨false,2,acc.map J08⟩) (by unfold LIM;omega) (by simp) ⟨hm,e0,acc,id,by simpa using hT2,hid0,hid,by simp [hk1,s5],eid⟩ ?_ ?_
 ·rintro i tt h m R hi hg hl s7 hw ⟨hm,e0,acc,id,hJ,hid0,hid,s5,eid⟩ hR _ _
  simp [hk1,hk] at hl
  rw [List.drop_eq_getElem_cons hi,List.map_cons] at hJ
  refine J0b (J0i [1,2,5,7] (fun s=>s 32 = .bool true) (by simp [hl,s7,hi,e0,J04]) ?_)
  intro tt1 hl1 s32
  simp at hl1
  refine J29 s32 (J0b (J1c ?_))
  have z0:¬0=m:=by omega
  have z1:¬m=0:=by omega
  have z2:¬id=m:=by omega
  have z3:¬m=id:=by omega
  have z4:¬0=id:=by omega
  have z5:¬0=m+1:=by omega
  have z6:¬id=m+1:=by omega
  have z7:¬m+1=id:=by omega
  have z8:¬0=m+2:=by omega
  have z9:¬0=m+1+1:=by omega
  have hal:=congrArg List.length hJ
  simp only [List.length_append,List.length_cons,List.length_map,List.length_drop] at hal
  have hT2l:T2.length≤3000000:=by rw [←hT2];simp;omega
  simp [hl1,hl,s7,hi,hw,e0,J04]
  first|refine J00 (J8n (f.Pre[i]'hi) n (hpre _ (List.getElem_mem hi)) hn) (by simp) ?_|refine J02 (J8n (f.Pre[i]'hi) n (hpre _ (List.getElem_mem hi)) hn) (by simp) ?_|refine J00 (J8n (f.Pre[i]'hi) n (hpre _ (List.getElem_mem hi)) hn) rfl ?_|refine J02 (J8n (f.Pre[i]'hi) n (hpre _ (List.getElem_mem hi)) hn) rfl ?_
  rintro r rfl
  simp [hl1,hl,s7,hw,e0,eid,s5,J08,z0,z1,z2,z3,z4,z5,z6,z7,z8,z9]
  refine ⟨by unfold LIM;omega,?_⟩
  exact hR _ _ _ (by simp [hl1,hl,hk1,hk]) (by simp) ⟨by omega,by simp [e0,z0,z4,z5,z8,z9],acc++[J3k n f.Pre[i]],m+2,by simpa using hJ,by omega,by omega,by simp,by simp [J08,List.take_of_length_le]⟩
 rintro tt h m R hl s7 ⟨hm,e0,acc,id,hJ,hid0,hid,s5,eid⟩ hret hX
 simp [hk1,hk] at hl
 rw [List.drop_eq_nil_of_le (by omega)] at hJ
 simp only [List.map_nil,List.append_nil] at hJ
 subst hJ
 refine J0b (J0i [1,2,5] (fun s=>s 32 = .bool false) (by simp [hl,s7,e0,J04]) ?_)
 intro tt1 hl1 s32
 simp at hl1
 refine J23 s32 ?_
 refine hX _ _ _ _ ?_
 simp [hl1,s5,eid,hdom,hT2]
def Jq8:DSystem:=⟨0,[]⟩
def Jq2 (p:DProgram) (name:Str):Option DSystem:=if J2l p then (J0t p.Functions name).map fun f=>⟨f.Params.length,Jcc f f.Params.length⟩ else Option.none
def J7t (o:Option DSystem):AV := .tup [.agg (J1x (o.getD Jq8)),.bool o.isSome]
theorem J8i (p:DProgram) (hp:J0f p≤1048576) (name:Str):Holds Tryz.prog 97 [.agg (J01 p),.str name] (fun r=>r=J7t (Jq2 p name)):=by
 refine J03 Tryz.func97 a97_ok rfl (by simp [a97]) ?_
 simp [a97,J01]
 first|refine J00 (J1q p name hp) (by first|simp [J01];done|rfl) ?_|refine J02 (J1q p name hp) (by first|simp [J01];done|rfl) ?_
 rintro r rfl
 unfold J7z Jq2
 cases hf:J0t p.Functions name with
 | none=>simp [J7t,Jq8,J1x,J0h,fn0]
 | some f=>
  have hwf:=K7n hp hf
  simp [J0h]
  first|refine J00 (J26 p hp) (by first|simp [J01];done|rfl) ?_|refine J02 (J26 p hp) (by first|simp [J01];done|rfl) ?_
  rintro r rfl
  cases h1:J2l p
  ·simp [J7t,Jq8,J1x]
  obtain ⟨k1,_,k3,_⟩:=Jk2 h1 hf
  simp
  first|refine J00 (J7h f f.Params.length hwf (by omega) (fun l hl=>by have:=(J1u (k3 l hl)).1;omega)) (by first|simp [J04];done|rfl) ?_|refine J02 (J7h f f.Params.length hwf (by omega) (fun l hl=>by have:=(J1u (k3 l hl)).1;omega)) (by first|simp [J04];done|rfl) ?_
  rintro r rfl
  simp [J7t,J1x]
theorem J9z (p:DProgram) (hp:J0f p≤1048576) (name:Str):Holds Tryz.prog 188 [.agg (J01 p),.str name] (fun r=>r=J7t (Jq2 p name)):=by
 refine J03 Tryz.func188 a188_ok rfl (by simp [a188]) ?_
 simp [a188,J01]
 first|refine J00 (J1v p name hp) (by first|simp [J01];done|rfl) ?_|refine J02 (J1v p name hp) (by first|simp [J01];done|rfl) ?_
 rintro r rfl
 unfold J7z Jq2
 simp [J0h]
 first|refine J00 (J2h p hp) (by first|simp [J01];done|rfl) ?_|refine J02 (J2h p hp) (by first|simp [J01];done|rfl) ?_
 rintro r rfl
 cases h1:J2l p
 ·simp [J7t,Jq8,J1x]
 cases hf:J0t p.Functions name with
 | none=>simp [J7t,Jq8,J1x,fn0]
 | some f=>
  have hwf:=K7n hp hf
  obtain ⟨hl1,hl2,hl3⟩:=Jtz hwf
  have hself:=Jqf h1 hf
  have hr0:=J9c (n:=f.Params.length) (xs:=f.Params) (i:=0)
  simp
  intro _
  generalize hT1:J94 f.Params.length f.Params 0=T1
  rw [hT1] at hr0 hself
  refine J0o [4,6,8,30,31] 32 f.Params.length (fun i s h m=>5<m∧h 1=some ⟨true,2,[[.int .i64 0,.nil 2]]⟩∧h 2=some ⟨false,1,J0e f.Params⟩∧h 3=some ⟨false,2,f.Pre.map J08⟩∧h 4=some ⟨true,4,[[.str f.Name,.ref 2 0 f.Params.length,.bool f.ListResult,.ref 3 0 f.Pre.length]]⟩ ∧
   ∃ (acc:List DLin) (v:AV),acc++J94 f.Params.length (f.Params.drop i) i=T1∧h 5=some ⟨true,2,[[.int .i64 f.Params.length,v]]⟩∧J3c 5 2 (acc.map J08) v h m) (by unfold LIM;omega) (by simp) ⟨by simp,by simp,by simp,by simp,by simp,[],.nil 2,by simpa using hT1,by simp,.inl (by simp)⟩ ?_ ?_
  ·rintro i st h m R hi hg hk s32 hw ⟨hm,e1,e2,e3,e4,acc,v,hJ,e5,hA⟩ hR _ _
   simp at hk
   rw [List.drop_eq_getElem_cons hi] at hJ
   simp only [J94] at hJ
   refine J0i [4,6,8,30,31,32] (fun s=>s 33 = .bool true) (by simp [hk,s32,hi]) ?_
   intro st1 hk1 s33
   simp at hk1
   refine J3g s33 (J0b (J1c ?_))
   refine J0i [4,6,8,30,31,32] (fun s=>s 9 = .int .i64 i∧s 10 = .str (f.Params[i]'hi)) (by simp [hk1,hk,s32,hi,e2]) ?_
   rintro st2 hk2 ⟨s9,s10⟩
   simp at hk2
   refine J0i [4,6,8,9,30,31,32] (fun s=>s 38 = .bool (J0n f.Params[i])) ?_ ?_
   ·simp [s10]
    first|refine J00 (J1o (f.Params[i]'hi)) (by first|simp;done|rfl) ?_|refine J02 (J1o (f.Params[i]'hi)) (by first|simp;done|rfl) ?_
    rintro r rfl
    simp [hk2,hk1,hk,s9]
   intro st3 hk3 s38
   simp at hk3
   cases c1:J0n f.Params[i]
   ·rw [c1] at hJ s38
    simp only [Bool.false_eq_true,if_false,List.nil_append] at hJ
    simp [hk3,hk2,hk1,hk,s38,s32,hw]
    exact hR _ _ _ (by simp [hk3,hk2,hk1,hk]) (by simp) ⟨hm,e1,e2,e3,e4,acc,v,hJ,e5,hA⟩
   rw [c1] at hJ s38
   simp only [if_true] at hJ
   have hal:=congrArg List.length hJ
   simp only [List.length_append,List.length_cons,List.length_nil] at hal
   have z1:¬1=m:=by omega
   have z2:¬2=m:=by omega
   have z3:¬3=m:=by omega
   have z4:¬4=m:=by omega
   have z5:¬5=m:=by omega
   have z6:¬m=5:=by omega
   have w1:¬1=m+1:=by omega
   have w2:¬2=m+1:=by omega
   have w3:¬3=m+1:=by omega
   have w4:¬4=m+1:=by omega
   have w5:¬5=m+1:=by omega
   have w6:¬m=4:=by omega
   have u1:¬1=m+1+1:=by omega
   have u2:¬2=m+1+1:=by omega
   have u3:¬3=m+1+1:=by omega
   have u4:¬4=m+1+1:=by omega
   have u5:¬5=m+1+1:=by omega
   have u6:¬m=3:=by omega
   have u7:¬m=0:=by omega
   have u8:¬m=1:=by omega
   have u9:¬m=2:=by omega
   rcases hA with ⟨hz,rfl⟩|⟨id,hb,hidm,rfl,eid⟩
   ·have hz':acc=[]:=by simpa using hz
    subst hz'
    simp [hk3,hk2,hk1,hk,s38,s9,s32,hw,e5]
    first|refine J00 (J9w i f.Params.length) (by first|simp;done|rfl) ?_|refine J02 (J9w i f.Params.length) (by first|simp;done|rfl) ?_
    rintro r rfl
    simp [hk3,hk2,hk1,hk,s38,s9,s32,hw,e5,J08,z1,z2,z3,z4,z5,z6,w1,w2,w3,w4,w5,w6,u1,u2,u3,u4,u5,u6,u7,u8,u9]
    refine ⟨by unfold LIM;omega,?_⟩
    exact hR _ _ _ (by simp [hk3,hk2,hk1,hk]) (by simp) ⟨by omega,by simp [e1,z1,w1,u1,u7],by simp [e2,z2,w2,u2,u8,u7],by simp [e3,z3,w3,u3,u9,u7,u8],by simp [e4,z4,w4,u4,u6,u9],[J2q i f.Params.length],.ref (m+2) 0 1,by simpa using hJ,by simp,.inr ⟨m+2,by omega,by omega,by simp,by simp [J08,u6]⟩⟩
   ·have i1:¬id=m:=by omega
    have i2:¬id=m+1:=by omega
    have i3:¬id=5:=by omega
    have i4:¬m=id:=by omega
    have i5:¬m+1=id:=by omega
    have i6:¬1=id:=by omega
    have i7:¬2=id:=by omega
    have i8:¬3=id:=by omega
    have i9:¬4=id:=by omega
    have i0:¬5=id:=by omega
    simp [hk3,hk2,hk1,hk,s38,s9,s32,hw,e5]
    first|refine J00 (J9w i f.Params.length) (by first|simp;done|rfl) ?_|refine J02 (J9w i f.Params.length) (by first|simp;done|rfl) ?_
    rintro r rfl
    simp [hk3,hk2,hk1,hk,s38,s9,s32,hw,e5,eid,J08,z1,z2,z3,z4,z5,z6,w1,w2,w3,w4,w5,w6,u1,u2,u3,u4,u5,u6,u7,u8,u9,i1,i2,i3,i4,i5,i6,i7,i8,i9,i0]
    refine ⟨by unfold LIM;omega,?_⟩
    exact hR _ _ _ (by simp [hk3,hk2,hk1,hk]) (by simp) ⟨by omega,by simp [e1,z1,w1,u1,u7,i6],by simp [e2,z2,w2,u2,u8,i7,u7],by simp [e3,z3,w3,u3,u9,i8,u7,u8],by simp [e4,z4,w4,u4,u6,i9,u9],acc++[J2q i f.Params.length],.ref (m+2) 0 (acc.length+1),by simpa using hJ,by simp,.inr ⟨m+2,by omega,by omega,by simp,by simp [J08,u6,List.take_of_length_le]⟩⟩
  rintro st h m R hk s32 ⟨hm,e1,e2,e3,e4,acc,v,hJ,e5,hA⟩ hret hX
  simp at hk
  rw [List.drop_eq_nil_of_le (by omega)] at hJ
  simp only [J94,List.append_nil] at hJ
  subst hJ
  refine J0i [4,6,8] (fun s=>s 33 = .bool false) (by simp [hk,s32]) ?_
  intro st1 hk1 s33
  simp at hk1
  refine J37 s33 ?_
  refine hX _ _ _ _ ?_
  have z1:¬1=m:=by omega
  have z2:¬2=m:=by omega
  have z3:¬3=m:=by omega
  have z5:¬5=m:=by omega
  have z6:¬m=5:=by omega
  have z7:¬m=1:=by omega
  rcases hA with ⟨hz,rfl⟩|⟨id,hb,hidm,rfl,eid⟩
  ·have hz':acc=[]:=by simpa using hz
   subst hz'
   simp [hk1,hk,e5,e4,e3,z1,z2,z3,z5,z6,z7,e1]
   refine ⟨by unfold LIM;omega,?_⟩
   simp [J7t,J1x,hself]
  ·have i1:¬id=m:=by omega
   have i3:¬id=5:=by omega
   have i4:¬m=id:=by omega
   have i6:¬1=id:=by omega
   have i8:¬3=id:=by omega
   have i9:¬id=3:=by omega
   have i0:¬5=id:=by omega
   simp [hk1,hk,e5,e4,e3,eid,z1,z2,z3,z5,z6,z7,e1,i1,i3,i4,i6,i8,i9,i0]
   refine ⟨by unfold LIM;omega,?_⟩
   simp [J7t,J1x,hself]
   rw [←List.map_append,List.take_of_length_le (by simp)]
   exact ⟨Jjn _,rfl⟩
end Go.Proofs.YtoclolkigjbcgaaGreat

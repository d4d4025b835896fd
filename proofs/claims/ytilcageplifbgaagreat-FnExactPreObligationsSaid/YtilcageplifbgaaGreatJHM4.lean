/- The program's ModelOf, part by part: patterns, guards. -/
import Derived.Test.YtilcageplifbgaaGreatJHS4
import Derived.Test.YtilcageplifbgaaGreatJV7S
import Derived.Test.YtilcageplifbgaaGreatJC13
namespace Go.Proofs.YtilcageplifbgaaGreat
set_option linter.all false
open Go Go.RowKit Go.Proofs
set_option maxRecDepth 20000
set_option maxHeartbeats 2000000
section
variable {p:DProgram} {r:DRule} {f:DFunction} {N:Nat} {I:Ids} {ks:List Kt} {s:Env} {h:Heap} {n:Nat} {Q:Fin}
theorem addS_len {a b:DLin} {k:Int} : (addS a k b).Coeffs.length≤8:=by
 unfold addS
 cases ha:addScaled a k b with
 | none=>simp [lin0]
 | some o=>
   have h1:=(addScaled_some ha).1
   unfold addScaled at ha
   split at ha
   · rename_i hc
     simp only [Bool.and_eq_true] at hc
     have h2:=okLin_len hc.1.1.1.1
     simp only [Option.getD_some]; omega
   · cases ha
theorem plusL_len {a:DLin} {k:Int} : ((plusL a k).getD lin0).Coeffs.length≤8:=by
 unfold plusL
 split
 · rename_i hc
   simp only [Bool.and_eq_true] at hc
   have h2:=okLin_len hc.2
   simp only [Option.getD_some]; omega
 · simp [lin0]
theorem MI.ne_m {ms:MS} (M:MI p r f N I ms h n) {k z:Nat} {rows:List (List AV)} (hk:h k=some ⟨true,z,rows⟩) (hz:z≠6):k≠I.m:=by
 rintro rfl
 obtain ⟨vR,vP,vA,g1,_⟩:=M.acc
 rw [hk] at g1; simp at g1; exact hz g1.1
theorem MI.ne_d {ms:MS} (M:MI p r f N I ms h n) {k z:Nat} {rows:List (List AV)} (hk:h k=some ⟨true,z,rows⟩) (hz:z≠0):k≠I.d:=by
 rintro rfl
 obtain ⟨es,_,g1,_⟩:=M.map
 rw [hk] at g1; simp at g1; exact hz g1.1
theorem MI.ne_x {ms:MS} (M:MI p r f N I ms h n) {k z:Nat} {rows:List (List AV)} (hk:h k=some ⟨true,z,rows⟩) (hz:z≠1):k≠I.x:=by
 rintro rfl
 rw [M.hnx] at hk; simp at hk; exact hz hk.1.symm
theorem mo13_run {ma:MS} (S:Slots I s) (M:MI p r f N I ma h n) (hl2:r.Patterns.length≤2) (hx2:ma.nx≤100) (hr2:ma.rows.length≤100) (hN:N≤8)
   (hK:∀ s' h' n',Slots I s'→MI p r f N I (r.Patterns.foldl (iPat N) ma) h' n'→kont Tryz.prog ks .normal s' h' n' Q):rC Tryz.prog mo13 ks s h n Q:=by
 have S0:=S
 obtain ⟨s2,s4,s6,s7,s9,s12,s13,s15,s16⟩:=S0
 simp [mo13,s6,M.hr,rARule]
 intro _
 generalize hT:r.Patterns.foldl (iPat N) ma=T at hK
 refine rL_forO [2,4,6,7,9,12,13,15,16,136,137] 138 r.Patterns.length (fun i s' h' n'=>∃ ms:MS,MI p r f N I ms h' n'∧(r.Patterns.drop i).foldl (iPat N) ms=T∧ms.nx≤100+i∧ms.rows.length≤100+i) (by unfold LIM; omega) (by simp)
   ⟨_,M,by simpa using hT,by omega,by omega⟩ ?_ ?_
 · rintro i st h' m R hi hg hk s138 hw ⟨ms,M,hJ,hb1,hb2⟩ hR _ _
   simp at hk
   rw [List.drop_eq_getElem_cons hi,List.foldl_cons] at hJ
   obtain ⟨l1,l2,l3,l4,l5⟩:=M.lt
   refine rC_cut [2,4,6,7,9,12,13,15,16,136,137,138] (fun s=>s 139 = .bool true) (by simp [hk,s138,hi]) ?_
   intro st1 hk1 s139
   simp at hk1
   refine rC_pass s139 (rC_seqI (rC_blkI ?_))
   refine rC_cutH [2,4,6,7,9,12,13,15,16,136,137,138] (fun s h' n'=>∃ k,s 25 = .ptr k 0 0∧k<n'∧h' k=some ⟨true,4,[rAPattern (r.Patterns[i]'hi)]⟩∧MI p r f N I ms h' n') ?_ ?_
   · have fr:∀ id,id<m→¬id=m:=by intro id _; omega
     simp [hk1,hk,s138,hi,rAPattern]
     exact M.frame (by omega) fun id hid=>by simp [fr id hid]
   rintro st2 h2 n2 hk2 ⟨k,s25,hkn,hkb,M2⟩
   simp at hk2
   generalize r.Patterns[i]=q at *
   have S2:Slots I st2:=S.of (by simp [hk2,hk1,hk])
   obtain ⟨t2,t4,t6,t7,t9,t12,t13,t15,t16⟩:=S2
   have kk:∀ j∈[2,4,6,7,9,12,13,15,16,136,137,138],st2 j=st j:=by simp [hk2,hk1]
   simp at kk
   cases hc:q.Cons
   · have hiP:iPat N ms q=addR ms (addS (constLin 0 N) (-1) (eget lin0 ms.E q.Lst)):=by unfold iPat; rw [hc]; rfl
     rw [hiP] at hJ
     refine rC_seqI ?_
     refine rC_cut [2,4,6,7,9,12,13,15,16,136,137,138,25] (fun s=>s 144 = .bool true) (by simp [s25,hkb,rAPattern,hc]) ?_
     intro st3 hk3 s144
     simp at hk3
     rw [rC_condt (show ev st3 (.t 144) = .bool true from s144)]
     refine rC_seqI (mo13d_run (q:=q) (k:=k) (by rw [hk3.2.2.2.2.1,t9]) (by rw [hk3.2.2.2.2.2.2.1,t13]) (by rw [hk3.2.2.2.2.2.2.2.2.2.2.2.2,s25]) M2 hkb ?_)
     rintro st4 h4 n4 hk4 ⟨k4,s26,q4,hkn4,hqn4,hkb4,hqb4⟩ M4
     have kp:∀ j∈[2,4,6,7,9,12,13,15,16,136,137,138],st4 j=st j:=by
       simp [hk4 2 (by omega) (by omega) (by omega),hk4 4 (by omega) (by omega) (by omega),hk4 6 (by omega) (by omega) (by omega),hk4 7 (by omega) (by omega) (by omega),hk4 9 (by omega) (by omega) (by omega),hk4 12 (by omega) (by omega) (by omega),hk4 13 (by omega) (by omega) (by omega),hk4 15 (by omega) (by omega) (by omega),hk4 16 (by omega) (by omega) (by omega),hk4 136 (by omega) (by omega) (by omega),hk4 137 (by omega) (by omega) (by omega),hk4 138 (by omega) (by omega) (by omega),hk3,kk]
     simp at kp
     have u16:st4 16 = .fn (.func 100) [] [.ptr I.m 0 0]:=by rw [kp.2.2.2.2.2.2.2.2.1,←kk.2.2.2.2.2.2.2.2.1,t16]
     refine kontI ?_
     simp [u16,s26,hkb4]
     refine call_row M4 (q:=q4) (by have:=addS_len (a:=constLin 0 N) (k := -1) (b:=eget lin0 ms.E q.Lst); omega) hqn4 hqb4 (by omega) ?_
     intro h6 n6 hn6 _ M6
     simp [kp,s138,hw]
     exact hR _ _ _ (by simp [kp,hk]) (by simp) ⟨_,M6,hJ,by show ms.nx≤_; omega,by show (ms.rows++[_]).length≤_; simp; omega⟩
   · have hlx:(varL ms.nx N).Coeffs.length≤8:=varL_le N (by omega)
     have hiP:iPat N ms q=addR (setX (setX ms q.Head (varL ms.nx N) (ms.nx+1)) q.Tail (patL N ms q) (ms.nx+1)) (patL N ms q):=by unfold iPat; rw [hc]; rfl
     rw [hiP] at hJ
     refine rC_seqI ?_
     refine rC_cut [2,4,6,7,9,12,13,15,16,136,137,138,25] (fun s=>s 144 = .bool false) (by simp [s25,hkb,rAPattern,hc]) ?_
     intro st3 hk3 s144
     simp at hk3
     rw [rC_condf (show ev st3 (.t 144) = .bool false from s144),rC_skip]
     refine kontI ?_
     have e25:st3 25 = .ptr k 0 0:=by rw [hk3.2.2.2.2.2.2.2.2.2.2.2.2,s25]
     have e15:st3 15 = .fn (.func 99) [] [.ptr I.x 0 0,.ptr 6 0 0,.ptr I.s 0 0]:=by rw [hk3.2.2.2.2.2.2.2.1,t15]
     have nd:=M2.ne_d hkb (by omega)
     have nx:=M2.ne_x hkb (by omega)
     refine rC_cutH [2,4,6,7,9,12,13,15,16,136,137,138,25] (fun s h' n'=>MI p r f N I (setX ms q.Head (varL ms.nx N) (ms.nx+1)) h' n'∧k<n'∧h' k=some ⟨true,4,[rAPattern q]⟩) ?_ ?_
     · simp [e25,e15,hkb,rAPattern]
       refine call_fresh M2 q.Head (by omega) ?_
       intro q' h1 n1 hq hq1 hfr hqb M1
       simp
       exact ⟨M1,by omega,by rw [hfr k hkn nd nx,hkb]; rfl⟩
     rintro st4 h4 n4 hk4 ⟨M4,hkn4,hkb4⟩
     simp at hk4
     have e13:st4 13 = .ptr I.s 0 0:=by rw [hk4.2.2.2.2.2.2.1,hk3.2.2.2.2.2.2.1,t13]
     have f25:st4 25 = .ptr k 0 0:=by rw [hk4.2.2.2.2.2.2.2.2.2.2.2.2,e25]
     have hpE:(setX ms q.Head (varL ms.nx N) (ms.nx+1)).E=patE N ms q:=rfl
     refine rC_cutH [2,4,6,7,9,12,13,15,16,136,137,138,25] (fun s h' n'=>MI p r f N I (setX ms q.Head (varL ms.nx N) (ms.nx+1)) h' n'∧k<n'∧h' k=some ⟨true,4,[rAPattern q]⟩∧∃ k,s 28 = .ptr k 0 0∧LinBox (patL N ms q) k h' n') ?_ ?_
     · obtain ⟨rows,w,hdr,hv,hbw⟩:=M4.map.get q.Lst
       rw [hpE] at hv hbw
       simp [e13,f25,hkb4,rAPattern,M4.hmp,hdr,hv]
       first|refine callD_of (k_plus (eget lin0 (patE N ms q) q.Lst) (-1)) (by first|(simp [rALin,hbw];done)|rfl) ?_|refine call_of (k_plus (eget lin0 (patE N ms q) q.Lst) (-1)) (by first|(simp [rALin,hbw];done)|rfl) ?_
       rintro r rfl
       rw [optLin_eq,show (plusL (eget lin0 (patE N ms q) q.Lst) (-1)).getD lin0=patL N ms q from rfl]
       generalize patL N ms q=l at *
       have fr:∀ id,id<n4→¬id=n4∧¬id=n4+1:=by intro id _; omega
       have ne:¬n4=n4+1∧¬n4+1=n4:=by omega
       simp [rULin,ne]
       exact ⟨M4.frame (by omega) fun id hid=>by simp [fr id hid],by omega,by simp [fr k hkn4,hkb4,rAPattern],n4,by omega,by omega,by simp,by simp [ne]⟩
     rintro st5 h5 n5 hk5 ⟨M5,hkn5,hkb5,k5,s28,q5,w5,b5,c5,d5⟩
     simp at hk5
     have g13:st5 13 = .ptr I.s 0 0:=by rw [hk5.2.2.2.2.2.2.1,e13]
     have g25:st5 25 = .ptr k 0 0:=by rw [hk5.2.2.2.2.2.2.2.2.2.2.2.2,f25]
     have hpl8:(patL N ms q).Coeffs.length≤8:=plusL_len
     refine rC_cutH [2,4,6,7,9,12,13,15,16,136,137,138,28] (fun s h' n'=>MI p r f N I (setX (setX ms q.Head (varL ms.nx N) (ms.nx+1)) q.Tail (patL N ms q) (ms.nx+1)) h' n'∧LinBox (patL N ms q) k5 h' n') ?_ ?_
     · obtain ⟨es,hE,hd,hes⟩:=M5.map
       have n5d:=M5.ne_d c5 (by omega)
       have n5x:=M5.ne_x c5 (by omega)
       have q5d:¬q5=I.d:=by rintro rfl; rw [d5] at hd; simp at hd
       have ldx:¬I.x=I.d:=by omega
       simp [g13,g25,hkb5,rAPattern,M5.hmp,s28,c5,hd]
       refine ⟨M5.upd_map (x:=q.Tail) (l:=patL N ms q) (q:=q5) rfl rfl rfl rfl (Nat.le_refl _) b5 (by simp [q5d,d5]) (by simp [ldx,M5.hnx,setX]) (fun id hid h1 h2=>by simp [h1]) ?_,q5,w5,b5,by simp [n5d,c5],by simp [q5d,d5]⟩
       intro es' hd'
       rw [hd] at hd'
       simp only [Option.some.injEq,Blk.mk.injEq,true_and] at hd'
       rw [←mset_ents,←hd']
       simp [linV]
     rintro st6 h6 n6 hk6 ⟨M6,q6,w6,b6,c6,d6⟩
     simp at hk6
     have g16:st6 16 = .fn (.func 100) [] [.ptr I.m 0 0]:=by rw [hk6.2.2.2.2.2.2.2.2.1,hk5.2.2.2.2.2.2.2.2.1,hk4.2.2.2.2.2.2.2.2.1,hk3.2.2.2.2.2.2.2.2.1,t16]
     have g28:st6 28 = .ptr k5 0 0:=by rw [hk6.2.2.2.2.2.2.2.2.2.2.2.2,s28]
     simp [g16,g28,c6]
     refine call_row M6 (q:=q6) (by omega) b6 d6 (by show ms.rows.length≤_; omega) ?_
     intro h7 n7 hn7 _ M7
     simp [hk6,hk5,hk4,hk3,kk,s138,hw]
     exact hR _ _ _ (by simp [hk6,hk5,hk4,hk3,kk,hk]) (by simp) ⟨_,M7,hJ,by show ms.nx+1≤_; omega,by show (ms.rows++[_]).length≤_; simp; omega⟩
 · rintro st h' m R hk s138 ⟨ms,M,hJ,hb1,hb2⟩ _ hX
   simp at hk
   rw [List.drop_eq_nil_of_le (by omega)] at hJ
   simp only [List.foldl_nil] at hJ
   subst hJ
   refine rC_cut [2,4,6,7,9,12,13,15,16] (fun s=>s 139 = .bool false) (by simp [hk,s138]) ?_
   intro st1 hk1 s139
   simp at hk1
   refine rC_stop s139 ?_
   refine hX _ _ _ _ ?_
   simp
   exact hK _ _ _ (S.of (by simp [hk1,hk])) M
end
end Go.Proofs.YtilcageplifbgaaGreat

namespace Go.Proofs.YtilcageplifbgaaGreat
set_option linter.all false
open Go Go.RowKit Go.Proofs
set_option maxRecDepth 20000
set_option maxHeartbeats 2000000
section
variable {p:DProgram} {r:DRule} {f:DFunction} {N:Nat} {I:Ids} {ks:List Kt} {s:Env} {h:Heap} {n:Nat} {Q:Fin}
theorem constLin_l8 (c:Int) (n:Int):(constLin c n).Coeffs.length≤8:=by
 unfold constLin
 split
 · rename_i h
   simp [inR] at h
   simp; omega
 · simp
theorem sumI_len {E:SEnv} {x:DSum} : (sumI E N x).Coeffs.length≤8:=by
 unfold sumI
 have:∀ (ts:List DTerm) (o:DLin),o.Coeffs.length≤8→(ts.foldl (fun o t=>addS o t.Coeff (eget lin0 E t.Name)) o).Coeffs.length≤8:=by
   intro ts
   induction ts with
   | nil=>intro o h; exact h
   | cons t ts ih=>intro o _; exact ih _ addS_len
 exact this _ _ (constLin_l8 _ _)
theorem argI_len {E:SEnv} {x:DArg} : (argI E N x).Coeffs.length≤8:=by
 unfold argI
 split
 · split
   · exact constLin_l8 _ _
   · exact addS_len
 · exact sumI_len
def gdL (E:SEnv) (N:Nat) (l:List DSum) (i:Nat):List DLin:=(l.take i).map (sumI E N)
theorem gdL_succ {E:SEnv} {l:List DSum} {i:Nat} (hi:i<l.length):gdL E N l (i+1)=gdL E N l i++[sumI E N (l[i]'hi)]:=by unfold gdL; rw [List.take_succ_eq_append_getElem hi,List.map_append]; rfl
theorem gdL_all {E:SEnv} {l:List DSum} : gdL E N l l.length=l.map (sumI E N):=by unfold gdL; rw [List.take_length]
theorem mo14_run {ma:MS} (S:Slots I s) (M:MI p r f N I ma h n) (hl2:r.Guards.length≤2) (hr2:ma.rows.length≤1000) (hts:∀ g∈r.Guards,g.Terms.length≤1048576)
   (hK:∀ s' h' n',Slots I s'→MI p r f N I (withRows ma (r.Guards.map (sumI ma.E N))) h' n'→kont Tryz.prog ks .normal s' h' n' Q):rC Tryz.prog mo14 ks s h n Q:=by
 have S0:=S
 obtain ⟨s2,s4,s6,s7,s9,s12,s13,s15,s16⟩:=S0
 simp [mo14,s6,M.hr,rARule]
 intro _
 refine rL_forO [2,4,6,7,9,12,13,15,16,179,180] 181 r.Guards.length (fun i s' h' n'=>MI p r f N I (withRows ma (gdL ma.E N r.Guards i)) h' n') (by unfold LIM; omega) (by simp) (by simpa [withRows,gdL] using M) ?_ ?_
 · rintro i st h' m R hi hg hk s181 hw M hR _ _
   simp at hk
   rw [gdL_succ hi] at hR
   have hts:=hts _ (List.getElem_mem hi)
   refine rC_cut [2,4,6,7,9,12,13,15,16,179,180,181] (fun s=>s 182 = .bool true) (by simp [hk,s181,hi]) ?_
   intro st1 hk1 s182
   simp at hk1
   refine rC_pass s182 (rC_seqI (rC_blkI ?_))
   refine rC_cutH [2,4,6,7,9,12,13,15,16,179,180,181] (fun s h' n'=>∃ k,s 31 = .ptr k 0 0∧k<n'∧h' k=some ⟨true,2,[rASum (r.Guards[i]'hi)]⟩∧MI p r f N I (withRows ma (gdL ma.E N r.Guards i)) h' n') ?_ ?_
   · have fr:∀ id,id<m→¬id=m:=by intro id _; omega
     simp [hk1,hk,s181,hi,rASum]
     exact M.frame (by omega) fun id hid=>by simp [fr id hid]
   rintro st2 h2 n2 hk2 ⟨k,s31,hkn,hkb,M2⟩
   simp at hk2
   generalize r.Guards[i]=g at *
   generalize hms:withRows ma (gdL ma.E N r.Guards i)=ms at *
   have hmE:ms.E=ma.E:=by rw [←hms]; rfl
   have hmr:ms.rows.length≤1002:=by rw [←hms]; simp [withRows,gdL]; omega
   obtain ⟨l1,l2,l3,l4,l5⟩:=M2.lt
   have S2:Slots I st2:=S.of (by simp [hk2,hk1,hk])
   obtain ⟨t2,t4,t6,t7,t9,t12,t13,t15,t16⟩:=S2
   simp [t16,t13,M2.hmp,s31,hkb,t9,M2.hn]
   refine call_sumSize (E:=ma.E) hts (by rw [←hmE]; exact M2.map) (by omega) ?_
   intro q h3 n3 hq hqn hfr hqb
   simp [linV]
   have M3:=M2.frame (h':=h3) (n':=n3) (by omega) hfr
   have hs8:(sumI ma.E N g).Coeffs.length≤8:=sumI_len
   refine call_row M3 (q:=q) (by omega) hqn hqb (by omega) ?_
   intro h6 n6 hn6 _ M6
   simp [hk2,hk1,hk,s181,hw]
   refine hR _ _ _ (by simp [hk2,hk1,hk]) (by simp) ?_
   have:addR ms (sumI ma.E N g)=withRows ma (gdL ma.E N r.Guards i++[sumI ma.E N g]):=by rw [←hms]; simp [addR,withRows]
   rw [←this]; exact M6
 · rintro st h' m R hk s181 M _ hX
   simp at hk
   rw [gdL_all] at M
   refine rC_cut [2,4,6,7,9,12,13,15,16] (fun s=>s 182 = .bool false) (by simp [hk,s181]) ?_
   intro st1 hk1 s182
   simp at hk1
   refine rC_stop s182 ?_
   refine hX _ _ _ _ ?_
   simp
   exact hK _ _ _ (S.of (by simp [hk1,hk])) M
theorem mo15i_run {ms:MS} {c:DCall} {k:Nat} (s9:s 9 = .ptr 6 0 0) (s13:s 13 = .ptr I.s 0 0) (s33:s 33 = .ptr k 0 0) (s34:s 34 = .nil 2) (M:MI p r f N I ms h n) (hkn:k<n) (hkb:h k=some ⟨true,3,[rACall c]⟩)
   (hal:c.Args.length≤1048576) (hts:∀ a∈c.Args,∀ x∈a.Heads,x.Terms.length≤1048576) (hne:∀ a∈c.Args,a.Lst=false→0<a.Heads.length)
   (hK:∀ s' h' n',(∀ j∈[2,4,6,7,9,12,13,15,16,193,194,195,33],s' j=s j)→n≤n'→(∀ id,id<n→h' id=h id)→AccV (n - 1) 2 ((c.Args.map (argI ms.E N)).map rULin) (s' 34) h' n'→kont Tryz.prog ks .normal s' h' n' Q):rC Tryz.prog mo15i ks s h n Q:=by
 obtain ⟨l1,l2,l3,l4,l5⟩:=M.lt
 simp [mo15i,s33,hkb,rACall]
 intro _
 generalize hT:c.Args.map (argI ms.E N)=T at hK
 have hTl:T.length≤1048576:=by rw [←hT]; simpa using hal
 have hTl2:∀ i,i≤c.Args.length→∀ acc:List DLin,acc++(c.Args.drop i).map (argI ms.E N)=T→acc.length≤1048576:=by
   intro i _ acc h
   have:=congrArg List.length h
   simp at this; omega
 refine rL_forO [2,4,6,7,9,12,13,15,16,193,194,195,33,200,201] 202 c.Args.length (fun i s' h' n'=>n≤n'∧(∀ id,id<n→h' id=h id)∧∃ acc:List DLin,AccV (n - 1) 2 (acc.map rULin) (s' 34) h' n'∧acc++(c.Args.drop i).map (argI ms.E N)=T) (by unfold LIM; omega) (by simp)
   ⟨Nat.le_refl _,fun _ _=>rfl,[],.inl (by simp [s34]),by simpa using hT⟩ ?_ ?_
 · rintro i st h' m R hi hg hk s202 hw ⟨hm,hfr,acc,hA,hJ⟩ hR _ _
   have hal2:=hTl2 i (by omega) acc hJ
   simp at hk
   rw [List.drop_eq_getElem_cons hi,List.map_cons] at hJ
   have hts:=hts _ (List.getElem_mem hi)
   have hne:=hne _ (List.getElem_mem hi)
   refine rC_cut [2,4,6,7,9,12,13,15,16,193,194,195,33,200,201,202,34] (fun s=>s 203 = .bool true) (by simp [hk,s202,hi]) ?_
   intro st1 hk1 s203
   simp at hk1
   refine rC_pass s203 (rC_seqI (rC_blkI ?_))
   refine rC_cutH [2,4,6,7,9,12,13,15,16,193,194,195,33,200,201,202,34] (fun s h2 n2=>n2=m+1∧s 36 = .ptr m 0 0∧h2 m=some ⟨true,3,[rAArg (c.Args[i]'hi)]⟩∧∀ id,id<m→h2 id=h' id) ?_ ?_
   · have fr:∀ id,id<m→¬id=m:=by intro id _; omega
     simp [hk1,hk,s202,hi,rAArg]
     exact fun id hid=>by simp [fr id hid]
   rintro st2 h2 n2 hk2 ⟨rfl,s36,em,hfr2⟩
   simp at hk2
   generalize c.Args[i]=x at *
   have M2:=M.frame (h':=h2) (n':=m+1) (by omega) fun id hid=>by rw [hfr2 id (by omega),hfr id hid]
   have u13:st2 13 = .ptr I.s 0 0:=by simp [hk2,hk1,hk,s13]
   have u9:st2 9 = .ptr 6 0 0:=by simp [hk2,hk1,hk,s9]
   simp [u13,u9,M2.hmp,M2.hn,s36,em]
   refine call_argSize (E:=ms.E) hts hne M2.map (by omega) ?_
   intro q h3 n3 hq hqn hfr3 hqb
   have frm:∀ id,id<n→h3 id=h id:=fun id hid=>by rw [hfr3 id (by omega),hfr2 id (by omega),hfr id hid]
   have hl8:(argI ms.E N x).Coeffs.length≤8:=argI_len
   generalize argI ms.E N x=l at *
   have w34:st2 34=st 34:=by simp [hk2,hk1]
   have ne:¬q=n3∧¬n3=q:=by omega
   have fr:∀ id,id<n→¬id=q∧¬id=n3∧¬id=n3+1:=by intro id _; omega
   rcases hA with ⟨hz,hv⟩ | ⟨id0,hid1,hid2,hv,hid3⟩
   · have hz':acc=[]:=by simpa using hz
     subst hz'
     rw [hv] at w34
     simp [linV,hqb,w34,ne,hk2,hk1,hk,s202,hw]
     refine ⟨by unfold LIM; omega,?_⟩
     exact hR _ _ _ (by simp [hk2,hk1,hk]) (by simp) ⟨by omega,fun id hid=>by simp [fr id hid,frm id hid],[l],.inr ⟨n3+1,by omega,by omega,by simp,by simp [rULin]⟩,by simpa using hJ⟩
   · rw [hv] at w34
     have e0:h3 id0=some ⟨false,2,acc.map rULin⟩:=by rw [hfr3 id0 (by omega),hfr2 id0 (by omega),hid3]
     have nid:¬id0=n3∧¬n3=id0∧¬id0=n3+1∧¬n3+1=id0∧¬id0=q∧¬q=id0:=by omega
     have fr0:∀ id,id<n→¬id=id0:=by intro id _; omega
     simp [linV,hqb,w34,ne,nid,e0,hk2,hk1,hk,s202,hw]
     refine ⟨by unfold LIM; omega,?_⟩
     exact hR _ _ _ (by simp [hk2,hk1,hk]) (by simp) ⟨by omega,fun id hid=>by simp [fr id hid,fr0 id hid,frm id hid],acc++[l],.inr ⟨n3+1,by omega,by omega,by simp,by simp [rULin,List.take_of_length_le]⟩,by simpa using hJ⟩
 · rintro st h' m R hk s202 ⟨hm,hfr,acc,hA,hJ⟩ _ hX
   simp at hk
   rw [List.drop_eq_nil_of_le (by omega)] at hJ
   simp at hJ
   subst hJ
   refine rC_cut [2,4,6,7,9,12,13,15,16,193,194,195,33,34] (fun s=>s 203 = .bool false) (by simp [hk,s202]) ?_
   intro st1 hk1 s203
   simp at hk1
   refine rC_stop s203 ?_
   refine hX _ _ _ _ ?_
   simp
   refine hK _ _ _ (by simp [hk1,hk]) hm hfr ?_
   rw [hk1.2.2.2.2.2.2.2.2.2.2.2.2.2]; exact hA
end
end Go.Proofs.YtilcageplifbgaaGreat

namespace Go.Proofs.YtilcageplifbgaaGreat
set_option linter.all false
open Go Go.RowKit Go.Proofs
set_option maxRecDepth 20000
set_option maxHeartbeats 2000000
section
variable {p:DProgram} {r:DRule} {f:DFunction} {N:Nat} {I:Ids} {ks:List Kt} {s:Env} {h:Heap} {n:Nat} {Q:Fin}
theorem args_ne {l:List (List DLin)} (hl:l≠[]) (m:List Int) (h:l.map rULinS=intsR m):False:=by
 cases l with
 | nil=>exact hl rfl
 | cons x l=>
   cases m with
   | nil=>simp [intsR] at h
   | cons y m=>simp [intsR,rULinS,i64] at h
theorem mo15c_run {ms:MS} {c:DCall} {k n0:Nat} {h0:Heap} {as':List DLin} {v:AV} (s12:s 12 = .ptr I.m 0 0) (s34:s 34=v) (M:MI p r f N I ms h0 n0) (hkn:k<n0) (hkb:h0 k=some ⟨true,3,[rACall c]⟩) (hn:n0≤n) (hfr:∀ id,id<n0→h id=h0 id)
   (A:AccV (n0 - 1) 2 (as'.map rULin) v h n) (hal:ms.args.length≤1048576) (hasl:as'.length≤100000000)
   (hK:∀ s' h' n',(∀ j∈[2,4,6,7,9,12,13,15,16,193,194,195,33],s' j=s j)→MI p r f N I (addA ms as') h' n'→k<n'→h' k=some ⟨true,3,[rACall c]⟩→kont Tryz.prog ks .normal s' h' n' Q):rC Tryz.prog mo15c ks s h n Q:=by
 obtain ⟨l1,l2,l3,l4,l5⟩:=M.lt
 obtain ⟨vR,vP,vA,g1,g2,g3,g4,g6,g5⟩:=M.acc
 have hkm:¬k=I.m:=M.ne_m hkb (by omega)
 have g1':h I.m=some ⟨true,6,[mRow N vR vP vA]⟩:=by rw [hfr _ (by omega),g1]
 have hkb':h k=some ⟨true,3,[rACall c]⟩:=by rw [hfr _ hkn,hkb]
 have ne:¬I.m=n∧¬I.m=n+1∧¬n=I.m∧¬n+1=I.m∧¬k=n∧¬k=n+1∧¬n=n+1∧¬n+1=n:=by omega
 have fr:∀ id,id<n0→¬id=n∧¬id=n+1:=by intro id _; omega
 have fm:∀ id,I.x<id→¬id=I.m:=by intro id _; omega
 have hul:rULinS as'=[.us 2 (as'.map rULin)]:=rfl
 simp [mo15c,s12,s34,g1',mRow]
 rcases A with ⟨hz,rfl⟩ | ⟨j0,hj0,hjn,rfl,hjb⟩
 · have hz':as'=[]:=by simpa using hz
   subst hz'
   rcases g4 with ⟨hzA,rfl⟩ | ⟨iA,hA1,hA2,rfl,hibA⟩
   · have hz2:ms.args=[]:=by simpa using hzA
     simp [ne,g1',mRow,s12]
     refine ⟨by unfold LIM; omega,?_⟩
     refine hK _ _ _ (by simp) (M.upd_acc (st':=addA ms []) rfl rfl (by omega) (fun _=>False) (fun _ h=>h.elim) ?_ ?_) (by omega) (by simp [ne,hkm,hkb'])
     · intro id hid hm _
       simp [fr id hid,hm,hfr id hid]
     · refine ⟨vR,vP,.ref (n+1) 0 1,by simp [mRow],g2.keep (by omega) fun id hb hid _=>by simp [fr id hid,fm id hb,hfr id hid],g3.keep (by omega) fun id hb hid _=>by simp [fr id hid,fm id hb,hfr id hid],.inr ⟨n+1,by omega,by omega,by simp [addA,hz2],by simp [addA,hz2,ne,rULinS]⟩,by simp [addA],g5⟩
   · have hibA':h iA=some ⟨false,1,ms.args.map rULinS⟩:=by rw [hfr _ hA2,hibA]
     have ni:¬iA=n∧¬iA=n+1∧¬iA=I.m∧¬I.m=iA∧¬n=iA∧¬n+1=iA:=by omega
     have hik:¬k=iA:=by rintro rfl; rw [hkb] at hibA; simp at hibA
     have hne:ms.args≠[]:=fun e=>by have:=g6 e; simp at this
     simp [ne,ni,g1',mRow,s12,hibA']
     refine ⟨by unfold LIM; omega,?_⟩
     refine hK _ _ _ (by simp) (M.upd_acc (st':=addA ms []) rfl rfl (by omega) (fun id=>id=iA) (fun id e=>⟨by omega,fun l hl=>by rw [e,hibA] at hl; simp at hl; exact args_ne hne l hl⟩) ?_ ?_) (by omega) (by simp [ne,hkm,hik,hkb'])
     · intro id hid hm hii
       simp [fr id hid,hm,hii,hfr id hid]
     · refine ⟨vR,vP,.ref (n+1) 0 (ms.args.length+1),by simp [mRow],g2.keep (by omega) fun id hb hid e => ?_,g3.keep (by omega) fun id hb hid e => ?_,.inr ⟨n+1,by omega,by omega,by simp [addA],by simp [addA,ne,rULinS,List.take_of_length_le]⟩,by simp [addA],g5⟩
       · have hii:¬id=iA:=by
           intro e'
           rcases g2 with ⟨_,e2⟩ | ⟨j',_,_,e2,hjb⟩
           · rw [e2] at e; cases e
           · rw [e2] at e; simp only [AV.ref.injEq] at e
             rw [e.1,e',hibA] at hjb
             simp at hjb
         simp [fr id hid,fm id hb,hii,hfr id hid]
       · have hii:¬id=iA:=by
           intro e'
           rcases g3 with ⟨_,e2⟩ | ⟨j',_,_,e2,hjb⟩
           · rw [e2] at e; cases e
           · rw [e2] at e; simp only [AV.ref.injEq] at e
             rw [e.1,e',hibA] at hjb
             simp at hjb
         simp [fr id hid,fm id hb,hii,hfr id hid]
 · have nj:¬j0=n∧¬j0=n+1∧¬n=j0∧¬n+1=j0∧¬j0=I.m∧¬I.m=j0:=by omega
   have fj:¬k=j0∧¬j0=k:=by omega
   have frj:∀ id,id<n0→¬id=j0:=by intro id _; omega
   rcases g4 with ⟨hzA,rfl⟩ | ⟨iA,hA1,hA2,rfl,hibA⟩
   · have hz2:ms.args=[]:=by simpa using hzA
     simp [ne,g1',mRow,s12,hjb,nj,fj]
     refine ⟨by unfold LIM; omega,?_⟩
     refine hK _ _ _ (by simp) (M.upd_acc (st':=addA ms as') rfl rfl (by omega) (fun _=>False) (fun _ h=>h.elim) ?_ ?_) (by omega) (by simp [ne,hkm,hkb',hjb,nj,fj])
     · intro id hid hm _
       simp [fr id hid,hm,hfr id hid,frj id hid]
     · refine ⟨vR,vP,.ref (n+1) 0 1,by simp [mRow],g2.keep (by omega) fun id hb hid _=>by simp [fr id hid,fm id hb,hfr id hid,frj id hid],g3.keep (by omega) fun id hb hid _=>by simp [fr id hid,fm id hb,hfr id hid,frj id hid],.inr ⟨n+1,by omega,by omega,by simp [addA,hz2],by simp [addA,hz2,ne,rULinS,List.take_of_length_le]⟩,by simp [addA],g5⟩
   · have nij:¬iA=j0∧¬j0=iA:=by omega
     have hibA':h iA=some ⟨false,1,ms.args.map rULinS⟩:=by rw [hfr _ hA2,hibA]
     have ni:¬iA=n∧¬iA=n+1∧¬iA=I.m∧¬I.m=iA∧¬n=iA∧¬n+1=iA:=by omega
     have hik:¬k=iA:=by rintro rfl; rw [hkb] at hibA; simp at hibA
     have hne:ms.args≠[]:=fun e=>by have:=g6 e; simp at this
     simp [ne,ni,g1',mRow,s12,hibA',hjb,nj,fj,nij]
     refine ⟨by unfold LIM; omega,?_⟩
     refine hK _ _ _ (by simp) (M.upd_acc (st':=addA ms as') rfl rfl (by omega) (fun id=>id=iA) (fun id e=>⟨by omega,fun l hl=>by rw [e,hibA] at hl; simp at hl; exact args_ne hne l hl⟩) ?_ ?_) (by omega) (by simp [ne,hkm,hik,hkb',hjb,nj,fj,nij])
     · intro id hid hm hii
       simp [fr id hid,hm,hii,hfr id hid,frj id hid]
     · refine ⟨vR,vP,.ref (n+1) 0 (ms.args.length+1),by simp [mRow],g2.keep (by omega) fun id hb hid e => ?_,g3.keep (by omega) fun id hb hid e => ?_,.inr ⟨n+1,by omega,by omega,by simp [addA],by simp [addA,ne,rULinS,List.take_of_length_le]⟩,by simp [addA],g5⟩
       · have hii:¬id=iA:=by
           intro e'
           rcases g2 with ⟨_,e2⟩ | ⟨j',_,_,e2,hjb⟩
           · rw [e2] at e; cases e
           · rw [e2] at e; simp only [AV.ref.injEq] at e
             rw [e.1,e',hibA] at hjb
             simp at hjb
         simp [fr id hid,fm id hb,hii,hfr id hid,frj id hid]
       · have hii:¬id=iA:=by
           intro e'
           rcases g3 with ⟨_,e2⟩ | ⟨j',_,_,e2,hjb⟩
           · rw [e2] at e; cases e
           · rw [e2] at e; simp only [AV.ref.injEq] at e
             rw [e.1,e',hibA] at hjb
             simp at hjb
         simp [fr id hid,fm id hb,hii,hfr id hid,frj id hid]
theorem mo15_run {ma:MS} (S:Slots I s) (M:MI p r f N I ma h n) (hp:wProgram p≤1048576) (hl2:r.Calls.length≤2) (hx2:ma.nx≤1000) (hr2:ma.rows.length≤10000) (ha2:ma.args.length≤10) (hN:N≤8)
   (hargs:∀ c∈r.Calls,c.Args.length≤1048576∧(∀ a∈c.Args,∀ x∈a.Heads,x.Terms.length≤1048576)∧∀ a∈c.Args,a.Lst=false→0<a.Heads.length)
   (hK:∀ s' h' n',Slots I s'→MI p r f N I (r.Calls.foldl (iCall p N) ma) h' n'→kont Tryz.prog ks .normal s' h' n' Q):rC Tryz.prog mo15 ks s h n Q:=by
 have S0:=S
 obtain ⟨s2,s4,s6,s7,s9,s12,s13,s15,s16⟩:=S0
 simp [mo15,s6,M.hr,rARule]
 intro _
 generalize hT:r.Calls.foldl (iCall p N) ma=T at hK
 refine rL_forO [2,4,6,7,9,12,13,15,16,193,194] 195 r.Calls.length (fun i s' h' n'=>∃ ms:MS,MI p r f N I ms h' n'∧(r.Calls.drop i).foldl (iCall p N) ms=T∧ms.nx≤1000+i∧ms.rows.length≤10000+i∧ms.args.length≤10+i) (by unfold LIM; omega) (by simp)
   ⟨_,M,by simpa using hT,by omega,by omega,by omega⟩ ?_ ?_
 · rintro i st h' m R hi hg hk s195 hw ⟨ms,M,hJ,hb1,hb2,hb3⟩ hR _ _
   simp at hk
   rw [List.drop_eq_getElem_cons hi,List.foldl_cons] at hJ
   obtain ⟨ha1,ha2,ha3⟩:=hargs _ (List.getElem_mem hi)
   obtain ⟨l1,l2,l3,l4,l5⟩:=M.lt
   refine rC_cut [2,4,6,7,9,12,13,15,16,193,194,195] (fun s=>s 196 = .bool true) (by simp [hk,s195,hi]) ?_
   intro st1 hk1 s196
   simp at hk1
   refine rC_pass s196 (rC_seqI (rC_blkI ?_))
   refine rC_cutH [2,4,6,7,9,12,13,15,16,193,194,195] (fun s h' n'=>∃ k,s 33 = .ptr k 0 0∧k<n'∧h' k=some ⟨true,3,[rACall (r.Calls[i]'hi)]⟩∧MI p r f N I ms h' n') ?_ ?_
   · have fr:∀ id,id<m→¬id=m:=by intro id _; omega
     simp [hk1,hk,s195,hi,rACall]
     exact M.frame (by omega) fun id hid=>by simp [fr id hid]
   rintro st2 h2 n2 hk2 ⟨k,s33,hkn,hkb,M2⟩
   simp at hk2
   generalize r.Calls[i]=c at *
   refine rC_cut [2,4,6,7,9,12,13,15,16,193,194,195,33] (fun s=>s 34 = .nil 2) (by simp) ?_
   intro st3 hk3 s34
   simp at hk3
   have S3:Slots I st3:=S.of (by simp [hk3,hk2,hk1,hk])
   obtain ⟨t2,t4,t6,t7,t9,t12,t13,t15,t16⟩:=S3
   refine rC_seqI (mo15i_run t9 t13 (by rw [hk3.2.2.2.2.2.2.2.2.2.2.2.2,s33]) s34 M2 hkn hkb ha1 ha2 ha3 ?_)
   intro st4 h4 n4 hk4 hn4 hfr4 A4
   simp at hk4
   refine kontI (rC_seqI (mo15c_run (c:=c) (k:=k) (by rw [hk4.2.2.2.2.2.1,t12]) rfl M2 hkn hkb hn4 hfr4 A4 (by omega) (by simp; omega) ?_))
   intro st5 h5 n5 hk5 M5 hkn5 hkb5
   simp at hk5
   generalize hal:c.Args.map (argI ms.E N)=as' at *
   have hlx:(varL ms.nx N).Coeffs.length≤8:=varL_le N (by omega)
   generalize hLR:((findFn p.Functions c.Func).getD fn0).ListResult=LR at *
   have hiC:iCall p N ms c=if LR then addR (setX (addA ms as') c.Bind (varL ms.nx N) (ms.nx+1)) (varL ms.nx N) else setX (addA ms as') c.Bind (varL ms.nx N) (ms.nx+1):=by
     unfold iCall; rw [hal,hLR]; cases LR <;> simp [addR,setX,addA]
   rw [hiC] at hJ
   have u15:st5 15 = .fn (.func 99) [] [.ptr I.x 0 0,.ptr 6 0 0,.ptr I.s 0 0]:=by rw [hk5.2.2.2.2.2.2.2.1,hk4.2.2.2.2.2.2.2.1,t15]
   have u33:st5 33 = .ptr k 0 0:=by rw [hk5.2.2.2.2.2.2.2.2.2.2.2.2,hk4.2.2.2.2.2.2.2.2.2.2.2.2,hk3.2.2.2.2.2.2.2.2.2.2.2.2,s33]
   have nd:=M5.ne_d hkb5 (by omega)
   have nx:=M5.ne_x hkb5 (by omega)
   have hnx5:(addA ms as').nx=ms.nx:=rfl
   refine kontI (rC_cutH [2,4,6,7,9,12,13,15,16,193,194,195,33] (fun s h' n'=>MI p r f N I (setX (addA ms as') c.Bind (varL ms.nx N) (ms.nx+1)) h' n'∧k<n'∧h' k=some ⟨true,3,[rACall c]⟩∧∃ k,s 37 = .ptr k 0 0∧LinBox (varL ms.nx N) k h' n') ?_ ?_)
   · simp [u33,u15,hkb5,rACall]
     refine call_fresh M5 c.Bind (by rw [hnx5]; omega) ?_
     rw [hnx5]
     intro q' h1 n1 hq hq1 hfr hqb M1
     have fr:∀ id,id<n1→¬id=n1:=by intro id _; omega
     generalize varL ms.nx N=l at *
     simp [linV]
     exact ⟨M1.frame (by omega) fun id hid=>by simp [fr id hid],by omega,by simp [fr k (by omega),hfr k hkn5 nd nx,hkb5,rACall],q',by omega,by omega,by simp,by simp [fr q' hq1,hqb]⟩
   rintro st6 h6 n6 hk6 ⟨M6,hkn6,hkb6,k37,s37,q7,x7,y7,z7,w7⟩
   simp at hk6
   have v2:st6 2 = .ptr 0 0 0:=by rw [hk6.1,hk5.1,hk4.1,t2]
   have v33:st6 33 = .ptr k 0 0:=by rw [hk6.2.2.2.2.2.2.2.2.2.2.2.2,u33]
   refine rC_cutH [2,4,6,7,9,12,13,15,16,193,194,195,37] (fun s h' n'=>MI p r f N I (setX (addA ms as') c.Bind (varL ms.nx N) (ms.nx+1)) h' n'∧LinBox (varL ms.nx N) k37 h' n'∧∃ k x y z,s 38 = .ptr k 0 0∧h' k=some ⟨true,4,[[x,y,.bool LR,z]]⟩) ?_ ?_
   · simp [v2,v33,hkb6,rACall,M6.hp]
     first|refine callD_of (k_FindFunction p c.Func hp) (by first|(simp [rAProgram];done)|rfl) ?_|refine call_of (k_FindFunction p c.Func hp) (by first|(simp [rAProgram];done)|rfl) ?_
     rintro r rfl
     unfold optFn
     rw [←hLR]
     generalize (findFn p.Functions c.Func).getD fn0=G at *
     have fr:∀ id,id<n6→¬id=n6∧¬id=n6+1∧¬id=n6+1+1:=by intro id _; omega
     simp [rUFunction]
     exact ⟨M6.frame (by omega) fun id hid=>by simp [fr id hid],q7,by omega,by omega,by simp [fr k37 x7,z7],by simp [fr q7 y7,w7]⟩
   rintro st7 h7 n7 hk7 ⟨M7,⟨q8,x8,y8,z8,w8⟩,k38,x,y,z,s38,hkb8⟩
   simp at hk7
   refine rC_cut [2,4,6,7,9,12,13,15,16,193,194,195,37] (fun s=>s 232 = .bool LR) (by simp [s38,hkb8]) ?_
   intro st8 hk8 s232
   simp at hk8
   have kp:∀ j∈[2,4,6,7,9,12,13,15,16,193,194,195],st8 j=st j:=by simp [hk8,hk7,hk6,hk5,hk4,hk3,hk2,hk1]
   simp at kp
   have g16:st8 16 = .fn (.func 100) [] [.ptr I.m 0 0]:=by rw [hk8.2.2.2.2.2.2.2.2.1,hk7.2.2.2.2.2.2.2.2.1,hk6.2.2.2.2.2.2.2.2.1,hk5.2.2.2.2.2.2.2.2.1,hk4.2.2.2.2.2.2.2.2.1,t16]
   have g37:st8 37 = .ptr k37 0 0:=by rw [hk8.2.2.2.2.2.2.2.2.2.2.2.2,hk7.2.2.2.2.2.2.2.2.2.2.2.2,s37]
   cases LR
   · simp only [Bool.false_eq_true,if_false] at hJ
     simp [s232,kp,s195,hw]
     exact hR _ _ _ (by simp [kp,hk]) (by simp) ⟨_,M7,hJ,by show ms.nx+1≤_; omega,by show ms.rows.length≤_; omega,by show (ms.args++[_]).length≤_; simp; omega⟩
   · simp only [if_true] at hJ
     simp [s232,g16,g37,z8]
     refine call_row M7 (q:=q8) (by omega) y8 w8 (by show ms.rows.length≤_; omega) ?_
     intro h9 n9 hn9 _ M9
     simp [kp,s195,hw]
     exact hR _ _ _ (by simp [kp,hk]) (by simp) ⟨_,M9,hJ,by show ms.nx+1≤_; omega,by show (ms.rows++[_]).length≤_; simp; omega,by show (ms.args++[_]).length≤_; simp; omega⟩
 · rintro st h' m R hk s195 ⟨ms,M,hJ,hb1,hb2,hb3⟩ _ hX
   simp at hk
   rw [List.drop_eq_nil_of_le (by omega)] at hJ
   simp only [List.foldl_nil] at hJ
   subst hJ
   refine rC_cut [2,4,6,7,9,12,13,15,16] (fun s=>s 196 = .bool false) (by simp [hk,s195]) ?_
   intro st1 hk1 s196
   simp at hk1
   refine rC_stop s196 ?_
   refine hX _ _ _ _ ?_
   simp
   exact hK _ _ _ (S.of (by simp [hk1,hk])) M
end
end Go.Proofs.YtilcageplifbgaaGreat

namespace Go.Proofs.YtilcageplifbgaaGreat
set_option linter.all false
open Go Go.RowKit Go.Proofs
def model0:DModel:=⟨⟨0,[]⟩,[],[],⟨0,[]⟩⟩
def optModel (o:Option DModel):AV := .tup [.agg (rUModel (o.getD model0)),.bool o.isSome]
def rule0:DRule:=⟨[],[],[],[],⟨false,[],[]⟩⟩
def fnAt (p:DProgram) (r:DRule):DFunction:=(findFn p.Functions r.Func).getD fn0
def modelP (p:DProgram) (k:Int):Option DModel:=
 if progOk p&&inR k 0 ((p.Rules.length:Int) - 1) then some (modelS (p.Rules.getD k.toNat rule0) (fnAt p (p.Rules.getD k.toNat rule0))) else Option.none
theorem okArg_in {a:DArg} (h:okArg a=true):(∀ x∈a.Heads,x.Terms.length≤4)∧(a.Lst=false→0<a.Heads.length):=by
 unfold okArg at h
 simp only [Bool.and_eq_true,List.all_eq_true] at h
 obtain ⟨h1,h2⟩:=h
 refine ⟨fun x hx => ?_,fun hL => ?_⟩
 · have:=h1 x hx
   unfold okSum at this
   simp only [Bool.and_eq_true,decide_eq_true_eq] at this
   exact this.1.2
 · rw [hL] at h2
   simp at h2; omega
theorem argOk_ok {a:DArg} {b:Bool} {K:List Str} (h:argOk a b K=true):okArg a=true:=by
 unfold argOk at h; simp only [Bool.and_eq_true] at h; exact h.1.1
theorem callsFrom_all {p:DProgram} {r:DRule} : ∀ {l:List DCall} {k:Nat},callsFrom p r k l=true→∀ c∈l,∃ s,callB p c s=true
 | [],_,_,_,h=>by cases h
 | c::l,k,h,d,hd=>by
   simp only [callsFrom,Bool.and_eq_true] at h
   rcases List.mem_cons.1 hd with rfl | hd
   · exact ⟨_,h.1⟩
   · exact callsFrom_all h.2 d hd
theorem RuleIn.args {p:DProgram} {r:DRule} {f:DFunction} (hp:progOk p=true) (R:RuleIn p r f):∀ c∈r.Calls,c.Args.length≤2∧∀ a∈c.Args,okArg a=true:=by
 intro c hc
 obtain ⟨s,hs⟩:=callsFrom_all R.calls c hc
 have h1:=(callB_in hs).1
 refine ⟨?_,fun a ha => ?_⟩
 · unfold callB at hs
   simp only [Bool.and_eq_true,decide_eq_true_eq] at hs
   obtain ⟨⟨⟨g1,g2⟩,_⟩,_⟩:=hs
   obtain ⟨g,hg⟩:=Option.isSome_iff_exists.1 g1
   rw [hg] at g2
   have:=(fn_in hp hg).1
   simp only [Option.getD_some] at g2
   omega
 · obtain ⟨b,hb⟩:=h1 a ha
   exact argOk_ok hb
theorem foldl_iPar {n:Nat} : ∀ {xs:List Str} {a:MS},(xs.foldl (iPar n) a).nx=a.nx+xs.length∧(xs.foldl (iPar n) a).rows.length≤a.rows.length+xs.length∧(xs.foldl (iPar n) a).args=a.args
 | [],a=>by simp
 | x::xs,a=>by
   obtain ⟨h1,h2,h3⟩:=foldl_iPar (n:=n) (xs:=xs) (a:=iPar n a x)
   simp only [List.foldl_cons,List.length_cons]
   refine ⟨by rw [h1]; show a.nx+1+_=_; omega,?_,by rw [h3]; rfl⟩
   have:(iPar n a x).rows.length≤a.rows.length+1:=by unfold iPar; simp only [List.length_append]; split <;> simp
   omega
theorem foldl_iPat {n:Nat} : ∀ {xs:List DPattern} {a:MS},(xs.foldl (iPat n) a).nx≤a.nx+xs.length∧(xs.foldl (iPat n) a).rows.length≤a.rows.length+xs.length∧(xs.foldl (iPat n) a).args=a.args∧(xs.foldl (iPat n) a).pars=a.pars
 | [],a=>by simp
 | x::xs,a=>by
   obtain ⟨h1,h2,h3,h4⟩:=foldl_iPat (n:=n) (xs:=xs) (a:=iPat n a x)
   simp only [List.foldl_cons,List.length_cons]
   have g1:(iPat n a x).rows.length≤a.rows.length+1:=by unfold iPat; split <;> simp
   have g2:(iPat n a x).nx≤a.nx+1:=by unfold iPat; split <;> simp
   have g3:(iPat n a x).args=a.args:=by unfold iPat; split <;> rfl
   have g4:(iPat n a x).pars=a.pars:=by unfold iPat; split <;> rfl
   exact ⟨by omega,by omega,by rw [h3,g3],by rw [h4,g4]⟩
set_option maxRecDepth 20000
set_option maxHeartbeats 4000000
theorem k_ModelOf (p:DProgram) (hp:wProgram p≤1048576) (k:Int):Holds Tryz.prog 33 [.agg (rAProgram p),i64 k] (fun r=>r=optModel (modelP p k)):=by
 refine holds_of_run Tryz.func33 a33_ok rfl (by simp [a33]) ?_
 simp [a33,mo0,mo1,rAProgram]
 first|refine callD_of (k_IsValidProgram p hp) (by first|(simp [rAProgram];done)|rfl) ?_|refine call_of (k_IsValidProgram p hp) (by first|(simp [rAProgram];done)|rfl) ?_
 rintro r rfl
 unfold modelP
 cases h1:progOk p
 · simp [optModel,model0,rUModel,intsR]
 simp
 intro hrl
 have hw:IntKind.i64.wrap ((p.Rules.length:Int) - 1)=(p.Rules.length:Int) - 1:=wrap64 (by unfold LIM at hrl; omega)
 rw [hw]
 first|refine callD_of (k_within k 0 ((p.Rules.length:Int) - 1)) (by first|(simp;done)|rfl) ?_|refine call_of (k_within k 0 ((p.Rules.length:Int) - 1)) (by first|(simp;done)|rfl) ?_
 rintro r rfl
 cases h2:inR k 0 ((p.Rules.length:Int) - 1)
 · simp [optModel,model0,rUModel,intsR]
 have hk0:0≤k∧k≤(p.Rules.length:Int) - 1:=by simpa [inR] using h2
 obtain ⟨j,rfl⟩:∃ j:Nat,k=j:=⟨k.toNat,by omega⟩
 have hj:j<p.Rules.length:=by omega
 have hgd:p.Rules.getD ((j:Int).toNat) rule0=p.Rules[j]:=by simp [hj]
 obtain ⟨f,hf,R⟩:=rule_in h1 (List.getElem_mem hj)
 have hfa:fnAt p p.Rules[j]=f:=by unfold fnAt; rw [hf]; rfl
 have hwr:IntKind.i64.wrap ((f.Params.length:Int)+((p.Rules[j]).Calls.length:Int))=(f.Params.length:Int)+((p.Rules[j]).Calls.length:Int):=by
   have:=R.par; have:=R.ncalls; exact wrap64 (by omega)
 simp [mo2,mo3,mo4,hj]
 first|refine callD_of (k_FindFunction p (p.Rules[j]).Func hp) (by first|(simp [rAProgram];done)|rfl) ?_|refine call_of (k_FindFunction p (p.Rules[j]).Func hp) (by first|(simp [rAProgram];done)|rfl) ?_
 rintro r rfl
 rw [hfa,hf]
 have hmeq:=model_eq hf R
 generalize p.Rules[j]=r at *
 simp [optFn,rUFunction,rARule,hwr]
 intro _ _
 have hpar:=R.par
 have hnpre:=R.npre
 have hnp:=R.npats
 have hnc:=R.ncalls
 have h6:=R.size
 have hrargs:=R.args h1
 have hrres:=okArg_in (argOk_ok R.res)
 refine mo5_run (r:=r) (c:=f.Params.length+r.Calls.length) (by simp) (by simp) (by simp [rARule]) (by simp) (by omega) (by omega) (by omega) ?_
 intro s1 h1 n1 hk1 hn1 hfr1 e6
 have hpre:∀ l∈f.Pre,placeLin l (st1 r f).pars (sizeN r f)=some (widen (sizeN r f) l):=by
   intro l hl
   have hd:=R.nd
   rw [List.append_assoc,List.nodup_append] at hd
   obtain ⟨_,_,_,e4,_⟩:=par_fold (n:=sizeN r f) (xs:=f.Params) (a:=⟨[],0,[],[],[]⟩) (b:=⟨[],0,domL f (sizeN r f),[],[]⟩) rfl rfl rfl rfl hd.1 (by simp [keysE])
   unfold st1
   rw [e4]
   simp only [List.nil_append]
   rw [parL_eq R.par]
   exact place_var R.par (by unfold sizeN; omega) (by omega) (R.pre l hl)
 have hmI:modelI p r f=some (endM (sizeN r f) (st5 p r f (f.Pre.map (widen (sizeN r f)))) (argI (st5 p r f (f.Pre.map (widen (sizeN r f)))).E (sizeN r f) r.Result)):=by
   unfold modelI; rw [preI_eq hpre]
 rw [hmeq] at hmI
 have hmS:=Option.some.inj hmI
 rw [show f.Params.length+r.Calls.length+consN r.Patterns=sizeN r f from rfl] at e6
 have hsc:∀ l∈f.Pre,(widen (sizeN r f) l).Coeffs.length≤1048576:=by
   intro l hl
   have:=(okLin_len (R.pre l hl)).1
   simp [widen]; omega
 have st1d:st1 r f=f.Params.foldl (iPar (sizeN r f)) ⟨[],0,[],[],[]⟩:=rfl
 have st3d:∀ pre,st3 r f pre=r.Patterns.foldl (iPat (sizeN r f)) (withRows (st1 r f) pre):=fun _=>rfl
 have st5d:∀ pre,st5 p r f pre=r.Calls.foldl (iCall p (sizeN r f)) (withRows (st3 r f pre) (r.Guards.map (sumI (st3 r f pre).E (sizeN r f)))):=fun _=>rfl
 have b1:(st1 r f).nx≤2∧(st1 r f).rows.length≤2∧(st1 r f).args=[]:=by
   obtain ⟨g1,g2,g3⟩:=foldl_iPar (n:=sizeN r f) (xs:=f.Params) (a:=⟨[],0,[],[],[]⟩)
   rw [←st1d] at g1 g2 g3
   refine ⟨by rw [g1]; simpa using hpar,?_,g3⟩
   simp at g2; omega
 generalize hN:sizeN r f=N at *
 generalize hpreL:f.Pre.map (widen N)=preR at *
 have b2:(st3 r f preR).nx≤4∧(st3 r f preR).rows.length≤6∧(st3 r f preR).args=[]:=by
   obtain ⟨g1,g2,g3,_⟩:=foldl_iPat (n:=N) (xs:=r.Patterns) (a:=withRows (st1 r f) preR)
   rw [←st3d] at g1 g2 g3
   have hpl:preR.length≤2:=by rw [←hpreL]; simpa using hnpre
   have e1:(withRows (st1 r f) preR).nx=(st1 r f).nx:=rfl
   have e2:(withRows (st1 r f) preR).rows.length=(st1 r f).rows.length+preR.length:=by simp [withRows]
   have e3:(withRows (st1 r f) preR).args=(st1 r f).args:=rfl
   refine ⟨by omega,by omega,by rw [g3,e3]; exact b1.2.2⟩
 simp at hk1
 have f0:=hfr1 0 (by omega) (by omega)
 have f1:=hfr1 1 (by omega) (by omega)
 have f2:=hfr1 2 (by omega) (by omega)
 have f3:=hfr1 3 (by omega) (by omega)
 have f4:=hfr1 4 (by omega) (by omega)
 have f5:=hfr1 5 (by omega) (by omega)
 simp at f0 f1 f2 f3 f4 f5
 have ne:¬0=n1∧¬1=n1∧¬2=n1∧¬3=n1∧¬4=n1∧¬5=n1∧¬6=n1∧¬n1=0∧¬n1=1∧¬n1=2∧¬n1=3∧¬n1=4∧¬n1=5∧¬n1=6∧¬n1=n1+1∧¬n1+1=n1∧¬n1=n1+1+1∧¬n1+1+1=n1∧¬n1=n1+1+1+1∧¬n1+1+1+1=n1∧¬n1+1=n1+1+1∧¬n1+1=n1+1+1+1∧¬n1+1+1=n1+1+1+1:=by omega
 refine kontI ?_
 simp [mo6,mo7,mo8,mo9,mo10,hk1,e6,ne]
 refine mo11_run (I:=⟨n1,n1+1,n1+1+1,n1+1+1+1⟩) (p:=p) (r:=r) (f:=f) (N:=N) (by simp [Slots,hk1]) ?_ hpar (by omega) ?_
 · refine ⟨by simp [f0,ne,rAProgram],by simp [f1,ne],by simp [f2,ne,rARule],by simp [f3,ne],by simp [f4,ne],by simp [f5,ne],by simp [e6,ne],by simp only; omega,by simp [ne],by simp [ne],⟨[],rfl,by simp [ne],by simp⟩,.nil 2,.nil 2,.nil 1,by simp [ne,mRow],.inl (by simp),.inl (by simp),.inl (by simp),by simp,by simp⟩
 intro s2 h2 n2 S2 M2
 rw [←st1d] at M2
 refine kontI (rC_seqI (mo12_run S2 M2 hnpre (by omega) hpre hsc ?_))
 intro s3 h3 n3 S3 M3
 rw [hpreL] at M3
 have hw1:(withRows (st1 r f) preR).rows.length≤100:=by
   have hpl:preR.length≤2:=by rw [←hpreL]; simpa using hnpre
   simp [withRows]; omega
 refine kontI (rC_seqI (mo13_run S3 M3 (by omega) (by show (st1 r f).nx≤_; omega) hw1 (by omega) ?_))
 intro s4 h4 n4 S4 M4
 rw [←st3d] at M4
 refine kontI (rC_seqI (mo14_run S4 M4 R.nguards (by omega) (fun g hg => ?_) ?_))
 · have:=R.guards g hg
   unfold guardOk okSum at this
   simp only [Bool.and_eq_true,decide_eq_true_eq] at this
   omega
 intro s5 h5 n5 S5 M5
 have hw2:(withRows (st3 r f preR) (r.Guards.map (sumI (st3 r f preR).E N))).rows.length≤10000:=by
   have:=R.nguards
   simp [withRows]; omega
 refine kontI (rC_seqI (mo15_run S5 M5 hp (by omega) (by show (st3 r f preR).nx≤_; omega) hw2 (by show (st3 r f preR).args.length≤_; rw [b2.2.2]; simp) (by omega) (fun c hc => ?_) ?_))
 · obtain ⟨g1,g2⟩:=hrargs c hc
   refine ⟨by omega,fun a ha x hx => ?_,fun a ha=>(okArg_in (g2 a ha)).2⟩
   have:=(okArg_in (g2 a ha)).1 x hx
   omega
 intro s6 h6' n6 S6 M6
 rw [←st5d] at M6
 generalize st5 p r f preR=ms at *
 obtain ⟨l1,l2,l3,l4,l5⟩:=M6.lt
 generalize (⟨n1,n1+1,n1+1+1,n1+1+1+1⟩:Ids)=I at *
 obtain ⟨s2,s4,s6,s7,s9,s12,s13,s15,s16⟩:=S6
 refine kontI ?_
 simp [mo16,s13,s6,s9,M6.hmp,M6.hr,M6.hn,rARule]
 refine call_argSize (a:=r.Result) (E:=ms.E) (fun x hx=>by have:=hrres.1 x hx; omega) hrres.2 M6.map (by omega) ?_
 intro q h7 n7 hq hqn hfr7 hqb
 have M7:=M6.frame (h':=h7) (n':=n7) (by omega) hfr7
 generalize hres:argI ms.E N r.Result=res at *
 obtain ⟨vR,vP,vA,g1,g2,g3,g4,g6,g5⟩:=M6.acc
 rw [←hfr7 I.m (by omega)] at g1
 have hqm:¬q=I.m:=by omega
 have cR:=g2.cell
 have cP:=g3.cell
 have cA:=g4.cell
 have n1m:¬1=I.m:=by omega
 simp [linV,s12,g1,mRow,mo17,s4,M7.hz,n1m,-dt,-dtl,-isCell,isCell_int,isCell_ref,cR,cP,cA]
 generalize hH:upd (upd h7 I.m _) 1 _=H
 have fH:∀ id,I.x<id→id<n7→H id=h7 id:=by
   intro id hid _
   have:¬id=1∧¬id=I.m:=by omega
   rw [←hH]; simp [this]
 have k2:AccV I.x 2 (ms.rows.map rULin) vR H n6:=g2.keep (Nat.le_refl _) fun id hb hid _=>by rw [fH id hb (by omega),hfr7 id hid]
 have k3:AccV I.x 2 (ms.pars.map rULin) vP H n6:=g3.keep (Nat.le_refl _) fun id hb hid _=>by rw [fH id hb (by omega),hfr7 id hid]
 have k4:AccV I.x 1 (ms.args.map rULinS) vA H n6:=g4.keep (Nat.le_refl _) fun id hb hid _=>by rw [fH id hb (by omega),hfr7 id hid]
 have kq:H q=some ⟨false,1,intsR res.Coeffs⟩:=by rw [fH q (by omega) hqn,hqb]
 obtain ⟨H1,d1,e1⟩:=k2.dt
 have k3':AccV I.x 2 (ms.pars.map rULin) vP H1 n6:=k3.keep (Nat.le_refl _) fun id hb hid e=>e1 id fun l el=>g5 id _ id _ el e rfl
 obtain ⟨H2,d2,e2⟩:=k3'.dt
 have k4':AccV I.x 1 (ms.args.map rULinS) vA H2 n6:=k4.keep (Nat.le_refl _) fun id hb hid e=>by
   rw [e2 id fun l el=>k3.ne_sz k4 (by omega) el e,e1 id fun l el=>k2.ne_sz k4 (by omega) el e]
 obtain ⟨H3,d3,e3⟩:=k4'.dt
 have kq3:H3 q=some ⟨false,1,intsR res.Coeffs⟩:=by
   rw [e3 q fun l el=>k4.ne_ge hq el,e2 q fun l el=>k3.ne_ge hq el,e1 q fun l el=>k2.ne_ge hq el,kq]
 simp [d1,d2,d3,kq3,optModel,rUModel,hmS,endM,hres]
end Go.Proofs.YtilcageplifbgaaGreat

namespace Go.Proofs.YtilcageplifbgaaGreat
set_option linter.all false
open Go Go.RowKit Go.Proofs
def a141:AFn:=
⟨69,[.t 2],(.seq
 (.reg [⟨some 2,.mv (.k (.bool false)),no⟩]) (.seq
 (.reg [⟨some 7,.bsl 1 [],no⟩,⟨some 3,.mv (.t 7),no⟩]) (.seq (.seq
 (.reg [⟨some 4,.mv (.k (.int .i64 0)),no⟩]) (.blk 0 (.loop (.seq (.seq
 (.reg [⟨some 8,.mv (.t 4),no⟩,⟨some 9,.mv (.t 0),no⟩,⟨some 10,.len false (.t 9),no⟩,⟨some 11,.bin .lss (.t 8) (.t 10),no⟩]) (.cond (.t 11) .skip (.exit 0))) (.seq (.blk 1 (.seq
 (.reg [⟨some 14,.mv (.t 0),no⟩,⟨some 15,.mv (.t 4),no⟩,⟨some 16,.ixa 4 (.t 14) (.t 15),no⟩,⟨some 17,.ld true 4 (.t 16),no⟩,⟨some 5,.box [(.str []),(.nil 1),(.bool false),(.nil 2)],no⟩,⟨no,.st 4 (.t 5) (.t 17),no⟩]) (.seq (.seq
 (.reg [⟨some 18,.fld 0 (.t 5),no⟩,⟨some 19,.ld false 1 (.t 18),no⟩,⟨some 20,.call (.k (.fn (.func 204) [] [])) [.t 19],no⟩,⟨some 21,.un .not (.t 20),no⟩,⟨some 22,.mv (.t 21),no⟩,⟨some 23,.fld 1 (.t 5),(some (22,false))⟩,⟨some 24,.ld false 1 (.t 23),(some (22,false))⟩,⟨some 25,.len false (.t 24),(some (22,false))⟩,⟨some 26,.bin .gtr (.t 25) (.k (.int .i64 2)),(some (22,false))⟩,⟨some 27,.pick (.t 22) (.k (.bool true)) (.t 26),no⟩,⟨some 28,.mv (.t 27),no⟩,⟨some 29,.fld 1 (.t 5),(some (28,false))⟩,⟨some 30,.ld false 1 (.t 29),(some (28,false))⟩,⟨some 31,.call (.k (.fn (.func 205) [] [])) [.t 30],(some (28,false))⟩,⟨some 32,.un .not (.t 31),(some (28,false))⟩,⟨some 33,.pick (.t 28) (.k (.bool true)) (.t 32),no⟩,⟨some 34,.mv (.t 33),no⟩,⟨some 35,.fld 3 (.t 5),(some (34,false))⟩,⟨some 36,.ld false 1 (.t 35),(some (34,false))⟩,⟨some 37,.len false (.t 36),(some (34,false))⟩,⟨some 38,.bin .gtr (.t 37) (.k (.int .i64 2)),(some (34,false))⟩,⟨some 39,.pick (.t 34) (.k (.bool true)) (.t 38),no⟩]) (.cond (.t 39) (.seq
 (.reg [⟨some 2,.mv (.k (.bool false)),no⟩]) .ret) .skip)) (.seq (.seq
 (.reg [⟨some 6,.mv (.k (.int .i64 0)),no⟩]) (.blk 2 (.loop (.seq (.seq
 (.reg [⟨some 40,.mv (.t 6),no⟩,⟨some 41,.fld 3 (.t 5),no⟩,⟨some 42,.ld false 1 (.t 41),no⟩,⟨some 43,.len false (.t 42),no⟩,⟨some 44,.bin .lss (.t 40) (.t 43),no⟩]) (.cond (.t 44) .skip (.exit 2))) (.seq (.blk 3 (.seq (.draw (.op ⟨some 47,.fld 3 (.t 5),no⟩ (.op ⟨some 48,.ld false 1 (.t 47),no⟩ (.op ⟨some 49,.mv (.t 6),no⟩ (.op ⟨some 50,.ixa 2 (.t 48) (.t 49),no⟩ (.op ⟨some 51,.ld true 2 (.t 50),no⟩ (.op ⟨some 52,.fld 1 (.t 5),no⟩ (.op ⟨some 53,.ld false 1 (.t 52),no⟩ (.op ⟨some 54,.len false (.t 53),no⟩ (.op ⟨some 55,.call (.k (.fn (.func 191) [] [])) [.t 51,.t 54],no⟩ (.op ⟨some 56,.un .not (.t 55),no⟩ .fin))))))))))) (.cond (.t 56) (.seq
 (.reg [⟨some 2,.mv (.k (.bool false)),no⟩]) .ret) .skip)))
 (.reg [⟨some 45,.mv (.t 6),no⟩,⟨some 46,.bin .add (.t 45) (.k (.int .i64 1)),no⟩,⟨some 6,.mv (.t 46),no⟩]))))))
 (.reg [⟨some 57,.mv (.t 3),no⟩,⟨some 58,.fld 0 (.t 5),no⟩,⟨some 59,.ld false 1 (.t 58),no⟩,⟨some 60,.bsl 1 [.t 59],no⟩,⟨some 61,.app 16 1 (.t 57) (.t 60),no⟩,⟨some 3,.mv (.t 61),no⟩])))))
 (.reg [⟨some 12,.mv (.t 4),no⟩,⟨some 13,.bin .add (.t 12) (.k (.int .i64 1)),no⟩,⟨some 4,.mv (.t 13),no⟩])))))) (.seq
 (.reg [⟨some 62,.mv (.t 0),no⟩,⟨some 63,.len false (.t 62),no⟩,⟨some 64,.call (.k (.fn (.func 96) [] [])) [.t 63,(.k (.int .i64 1)),(.k (.int .i64 3))],no⟩,⟨some 65,.mv (.t 64),no⟩,⟨some 66,.mv (.t 3),(some (65,true))⟩,⟨some 67,.call (.k (.fn (.func 206) [] [])) [.t 66],(some (65,true))⟩,⟨some 68,.pick (.t 65) (.t 67) (.k (.bool false)),no⟩,⟨some 2,.mv (.t 68),no⟩]) .ret))))⟩
theorem a141_ok:compFn Tryz.prog Tryz.f141=some a141:=by kernel_rfl
def a58:AFn:=
⟨29,[.t 2],(.seq
 (.reg [⟨some 1,.boxv (.t 0),no⟩,⟨some 2,.mv (.k (.bool false)),no⟩]) (.seq (.seq
 (.reg [⟨some 4,.fld 0 (.t 1),no⟩,⟨some 5,.ld false 1 (.t 4),no⟩,⟨some 6,.call (.k (.fn (.func 141) [] [])) [.t 5],no⟩,⟨some 7,.un .not (.t 6),no⟩,⟨some 8,.mv (.t 7),no⟩,⟨some 9,.fld 1 (.t 1),(some (8,false))⟩,⟨some 10,.ld false 1 (.t 9),(some (8,false))⟩,⟨some 11,.len false (.t 10),(some (8,false))⟩,⟨some 12,.bin .gtr (.t 11) (.k (.int .i64 8)),(some (8,false))⟩,⟨some 13,.pick (.t 8) (.k (.bool true)) (.t 12),no⟩]) (.cond (.t 13) (.seq
 (.reg [⟨some 2,.mv (.k (.bool false)),no⟩]) .ret) .skip)) (.seq (.seq
 (.reg [⟨some 3,.mv (.k (.int .i64 0)),no⟩]) (.blk 0 (.loop (.seq (.seq
 (.reg [⟨some 14,.mv (.t 3),no⟩,⟨some 15,.fld 1 (.t 1),no⟩,⟨some 16,.ld false 1 (.t 15),no⟩,⟨some 17,.len false (.t 16),no⟩,⟨some 18,.bin .lss (.t 14) (.t 17),no⟩]) (.cond (.t 18) .skip (.exit 0))) (.seq (.blk 1 (.seq (.draw (.op ⟨some 21,.ld true 2 (.t 1),no⟩ (.op ⟨some 22,.fld 1 (.t 1),no⟩ (.op ⟨some 23,.ld false 1 (.t 22),no⟩ (.op ⟨some 24,.mv (.t 3),no⟩ (.op ⟨some 25,.ixa 7 (.t 23) (.t 24),no⟩ (.op ⟨some 26,.ld true 7 (.t 25),no⟩ (.op ⟨some 27,.call (.k (.fn (.func 142) [] [])) [.t 21,.t 26],no⟩ (.op ⟨some 28,.un .not (.t 27),no⟩ .fin))))))))) (.cond (.t 28) (.seq
 (.reg [⟨some 2,.mv (.k (.bool false)),no⟩]) .ret) .skip)))
 (.reg [⟨some 19,.mv (.t 3),no⟩,⟨some 20,.bin .add (.t 19) (.k (.int .i64 1)),no⟩,⟨some 3,.mv (.t 20),no⟩])))))) (.seq
 (.reg [⟨some 2,.mv (.k (.bool true)),no⟩]) .ret))))⟩
theorem a58_ok:compFn Tryz.prog Tryz.f58=some a58:=by kernel_rfl
theorem all_drop {α:Type} {p:α→Bool} {l:List α} {i:Nat} (hi:i<l.length):(l.drop i).all p=(p l[i]&&(l.drop (i+1)).all p):=by rw [List.drop_eq_getElem_cons hi,List.all_cons]
theorem namN_len {l:List DFunction} {i:Nat} (hi:i≤l.length):(namN l i).length=i:=by simp [namN]; omega
set_option maxRecDepth 20000 in
set_option maxHeartbeats 2000000 in
theorem ks_l10Functions (fs:List DFunction) (hlf:fs.length≤1048576) (hpre:∀ f∈fs,f.Pre.length≤1048576):Holds Tryz.prog 141 [.sl 4 (fs.map rAFunction)] (fun x=>x = .bool (fs.all fnOk&&inR fs.length 1 3&&distB (fs.map (·.Name)))):=by
 refine holds_of_run Tryz.func141 a141_ok rfl (by simp [a141]) ?_
 simp [a141]
 generalize hB:fs.all fnOk=B
 refine rL_forO [0] 4 fs.length (fun i s h n=>(fs.drop i).all fnOk=B∧∃ id,id<n∧s 3 = .ref id 0 i∧h id=some ⟨false,1,strsR (namN fs i)⟩) (by unfold LIM; omega) (by simp) ⟨by simpa using hB,0,by simp,by simp,by simp [strsR,namN]⟩ ?_ ?_
 · rintro i st h n R hi hg hk s4 hw ⟨hJ,id,hid,s3,eid⟩ hR hret _
   simp at hk
   rw [all_drop hi] at hJ
   have z0:¬id=n:=by omega
   have z1:¬n=id:=by omega
   refine rC_seqI (rC_cut [0,3,4] (fun s=>s 11 = .bool true) (by simp [hk,s4,hi]) ?_)
   intro st1 hk1 s11
   simp at hk1
   refine rC_pass1 s11 (rC_seqI (rC_blkI ?_))
   refine rC_cutH [0,3,4] (fun s h' n'=>s 5 = .ptr n 0 0∧n'=n+1∧h' n=some ⟨true,4,[rAFunction fs[i]]⟩∧h' id=some ⟨false,1,strsR (namN fs i)⟩) (by simp [hk,hk1,s4,hi,rAFunction,eid,z0,z1]) ?_
   rintro st2 h2' n2 hk2 ⟨s5,rfl,en,eid'⟩
   simp at hk2
   have hfp:=hpre _ (List.getElem_mem hi)
   generalize hf:fs[i]=f at *
   refine rC_seqI (rC_cut [0,3,4,5] (fun s=>s 39 = .bool (!intName f.Name || !decide (f.Params.length≤2) || !(f.Params.all okName&&distB f.Params) || !decide (f.Pre.length≤2))) ?_ ?_)
   · have hdp:decide (f.Params.length≤2)=decide ((f.Params.length:Int)≤2):=by rw [decide_eq_decide]; omega
     have hdq:decide (f.Pre.length≤2)=decide ((f.Pre.length:Int)≤2):=by rw [decide_eq_decide]; omega
     obtain ⟨E,hE⟩:∃ E,E=(f.Params.all okName&&distB f.Params):=⟨_,rfl⟩
     rw [hdp,hdq,←hE]
     simp [hk,hk1,hk2,s5,en,rAFunction]
     first|refine callD_of (ks_l10IntName f.Name) (by first|(simp;done)|rfl) ?_|refine call_of (ks_l10IntName f.Name) (by first|(simp;done)|rfl) ?_
     rintro r rfl
     cases g1:intName f.Name
     · simp
     simp [hk,hk1,hk2,s5,en,rAFunction]
     intro _
     by_cases g3:(f.Params.length:Int)≤2
     case neg=>simp [g3,Int.not_le.1 g3]
     simp [g3,Int.not_lt.2 g3,hk,hk1,hk2,s5,en,rAFunction]
     first|refine callD_of (ks_l5Names f.Params) (by first|(simp;done)|rfl) ?_|refine call_of (ks_l5Names f.Params) (by first|(simp;done)|rfl) ?_
     rintro r rfl
     rw [←hE]
     clear hE
     cases E
     · simp
     simp [hk,hk1,hk2,s5,en,rAFunction]
     intro _
     by_cases g5:(f.Pre.length:Int)≤2
     · simp [g5,Int.not_lt.2 g5]
     · simp [g5,Int.not_le.1 g5]
   intro st3 hk3 s39
   simp at hk3
   generalize hcc:(!intName f.Name || !decide (f.Params.length≤2) || !(f.Params.all okName&&distB f.Params) || !decide (f.Pre.length≤2))=cc at *
   have hbody:fnOk f=(!cc&&f.Pre.all fun l=>okLin l f.Params.length):=by
     rw [←hcc]
     unfold fnOk
     cases intName f.Name <;> cases decide (f.Params.length≤2) <;> cases f.Params.all okName <;> cases distB f.Params <;> cases decide (f.Pre.length≤2) <;> simp
   rw [hbody] at hJ
   clear hbody hcc
   cases cc
   case true=>
     simp at hJ
     simp [s39]
     refine hret _ _ _ ?_
     simp [hJ]
   refine rC_condF s39 ?_
   simp only [kont_seq]
   simp only [Bool.not_false,Bool.true_and] at hJ
   simp [hk,hk1,hk2,hk3]
   generalize hB2:(f.Pre.all fun l=>okLin l f.Params.length)=B2 at *
   refine rL_forO [0,3,4,5] 6 f.Pre.length (fun j s h' n'=>n<n'∧h' n=some ⟨true,4,[rAFunction f]⟩∧h' id=some ⟨false,1,strsR (namN fs i)⟩∧((f.Pre.drop j).all fun l=>okLin l f.Params.length)=B2) (by unfold LIM; omega) (by simp) ⟨by omega,by simpa using en,by simpa using eid',by simpa using hB2⟩ ?_ ?_
   · rintro j stj hj nj Rj hji hjg hkj s6 hwj ⟨hnj,enj,eidj,hJj⟩ hRj hretj _
     simp at hkj
     rw [all_drop hji] at hJj
     refine rC_seqI (rC_cut [0,3,4,5,6] (fun s=>s 44 = .bool true) (by simp [hkj,hk3,s5,s6,hji,enj,rAFunction]) ?_)
     intro stk hkk s44
     simp at hkk
     refine rC_pass1 s44 (rC_seqI (rC_blkI ?_))
     refine rC_cut [0,3,4,5,6] (fun s=>s 56 = .bool (!okLin f.Pre[j] f.Params.length)) ?_ ?_
     · simp [hkj,hkk,hk3,s5,s6,hji,hjg,enj,rAFunction]
       first|refine callD_of (ks_IsValidLin (f.Pre[j]'hji) f.Params.length) (by first|(simp;done)|rfl) ?_|refine call_of (ks_IsValidLin (f.Pre[j]'hji) f.Params.length) (by first|(simp;done)|rfl) ?_
       rintro r rfl
       simp
     intro stm hkm s56
     simp at hkm
     generalize okLin f.Pre[j] f.Params.length=D at *
     cases D
     · rw [Bool.false_and] at hJj
       subst hJj
       simp at hJ
       subst hJ
       simp [s56]
       refine hretj _ _ _ ?_
       simp
       refine hret _ _ _ ?_
       simp
     · rw [Bool.true_and] at hJj
       simp [hkj,hkk,hkm,s56,s6,hwj]
       exact hRj _ _ _ (by simp [hkj,hkk,hkm]) (by simp) ⟨hnj,enj,eidj,hJj⟩
   rintro stj hj nj Rj hkj s6 ⟨hnj,enj,eidj,hJj⟩ hretj hXj
   simp at hkj
   rw [List.drop_eq_nil_of_le (by omega)] at hJj
   simp at hJj
   subst hJj
   rw [Bool.true_and] at hJ
   refine rC_seqI (rC_cut [0,3,4,5] (fun s=>s 44 = .bool false) (by simp [hkj,hk3,s5,s6,enj,rAFunction]) ?_)
   intro stk hkk s44
   simp at hkk
   refine rC_stop1 s44 ?_
   simp
   refine hXj _ _ _ _ ?_
   have y0:¬id=nj:=by omega
   have y1:¬nj=id:=by omega
   have y2:¬id=nj+1:=by omega
   have y3:¬nj+1=id:=by omega
   have y4:¬n=nj:=by omega
   have y5:¬nj=n:=by omega
   have hl:=namN_len (l:=fs) (i:=i) (by omega)
   simp [hk,hk1,hk2,hk3,hkj,hkk,s3,s4,s5,enj,eidj,rAFunction,y0,y1,y2,y3,y4,y5,hl,hw]
   refine ⟨by unfold LIM; omega,?_⟩
   have hs:=namN_succ hi
   rw [hf] at hs
   exact hR _ _ _ (by simp [hk,hk1,hk2,hk3,hkj,hkk]) (by simp) ⟨hJ,nj+1,by omega,by simp,by simp [hs,strsR,List.take_of_length_le,hl]⟩
 rintro st h n R hk s4 ⟨hJ,id,hid,s3,eid⟩ hret hX
 simp at hk
 rw [List.drop_eq_nil_of_le (by omega)] at hJ
 simp at hJ
 subst hJ
 refine rC_seqI (rC_cut [0,3,4] (fun s=>s 11 = .bool false) (by simp [hk,s4]) ?_)
 intro st1 hk1 s11
 simp at hk1
 refine rC_stop1 s11 ?_
 refine hX _ _ _ _ ?_
 have hnam:namN fs fs.length=fs.map (·.Name):=by simp [namN]
 have hnl:=namN_len (l:=fs) (i:=fs.length) (by omega)
 rw [hnam] at eid hnl
 simp [hk,hk1]
 intro _
 first|refine callD_of (k_l1In fs.length 1 3) (by first|(simp;done)|rfl) ?_|refine call_of (k_l1In fs.length 1 3) (by first|(simp;done)|rfl) ?_
 rintro r rfl
 cases h1:inR fs.length 1 3
 · simp
 simp [hk1,s3]
 have ht:List.take fs.length (strsR (fs.map (·.Name)))=strsR (fs.map (·.Name)):=List.take_of_length_le (by simp)
 first|refine callD_of (ks_AllDistinct (fs.map (·.Name))) (by first|(simp [eid,ht];done)|rfl) ?_|refine call_of (ks_AllDistinct (fs.map (·.Name))) (by first|(simp [eid,ht];done)|rfl) ?_
 rintro r rfl
 simp
set_option maxRecDepth 20000 in
set_option maxHeartbeats 2000000 in
theorem ks_IsValidProgram (p:DProgram) (hp:wProgram p≤1048576):Holds Tryz.prog 58 [.agg (rAProgram p)] (fun x=>x = .bool (progOk p)):=by
 have hlf:p.Functions.length≤1048576:=by have:=wL_len wFunction p.Functions; unfold wProgram wFunctionS at hp; omega
 have hpre:∀ f∈p.Functions,f.Pre.length≤1048576:=fun f hf=>by
   have h1:=wL_mem (w:=wFunction) hf
   have h2:=wL_len wLin f.Pre
   unfold wProgram wFunctionS at hp
   rw [show wFunction f=f.Name.length+wStringS f.Params+wLinS f.Pre from rfl] at h1
   unfold wLinS at h1
   omega
 have hlr:p.Rules.length≤1048576:=by have:=wL_len wRule p.Rules; unfold wProgram wRuleS at hp; omega
 refine holds_of_run Tryz.func58 a58_ok rfl (by simp [a58]) ?_
 simp [a58,rAProgram]
 first|refine callD_of (ks_l10Functions p.Functions hlf hpre) (by first|(simp;done)|rfl) ?_|refine call_of (ks_l10Functions p.Functions hlf hpre) (by first|(simp;done)|rfl) ?_
 rintro r rfl
 have hord:progOk p=(p.Functions.all fnOk&&inR p.Functions.length 1 3&&distB (p.Functions.map (·.Name))&&decide (p.Rules.length≤8)&&p.Rules.all (ruleOk p)):=by
   unfold progOk
   rw [fnsFrom_eq]
   unfold distB
   cases inR p.Functions.length 1 3 <;> cases p.Functions.all fnOk <;> simp
 rw [hord]
 generalize (p.Functions.all fnOk&&inR p.Functions.length 1 3&&distB (p.Functions.map (·.Name)))=E
 cases E
 · simp
 simp
 intro _
 have hdg:decide (p.Rules.length≤8)=decide ((p.Rules.length:Int)≤8):=by rw [decide_eq_decide]; omega
 by_cases h2:(p.Rules.length:Int)≤8
 case neg=>
   have h2n:¬p.Rules.length≤8:=by omega
   simp [h2,h2n,Int.not_le.1 h2]
 have h2n:p.Rules.length≤8:=by omega
 simp [h2,h2n,Int.not_lt.2 h2]
 generalize hB:p.Rules.all (ruleOk p)=B
 refine rL_forO [1] 3 p.Rules.length (fun i s h n=>0<n∧h 0=some ⟨true,2,[rAProgram p]⟩∧(p.Rules.drop i).all (ruleOk p)=B) (by unfold LIM; omega) (by simp) ⟨by simp,by simp [rAProgram],by simpa using hB⟩ ?_ ?_
 · rintro i st h n R hi hg hk s3 hw ⟨hn,e0,hJ⟩ hR hret _
   simp at hk
   rw [all_drop hi] at hJ
   refine rC_seqI (rC_cut [1,3] (fun s=>s 18 = .bool true) (by simp [hk,s3,hi,e0,rAProgram]) ?_)
   intro st1 hk1 s18
   simp at hk1
   refine rC_pass1 s18 (rC_seqI (rC_blkI ?_))
   refine rC_cut [1,3] (fun s=>s 28 = .bool (!ruleOk p p.Rules[i])) ?_ ?_
   · simp [hk,hk1,s3,hi,hg,e0,rAProgram]
     first | refine callD_of (ks_IsValidRule p (p.Rules[i]'hi) hp (wRule_of hp _ (List.getElem_mem hi))) (by simp [rAProgram]) ?_ | refine call_of (ks_IsValidRule p (p.Rules[i]'hi) hp (wRule_of hp _ (List.getElem_mem hi))) (by simp [rAProgram]) ?_ | refine callD_of (ks_IsValidRule p (p.Rules[i]'hi) hp (wRule_of hp _ (List.getElem_mem hi))) rfl ?_ | refine call_of (ks_IsValidRule p (p.Rules[i]'hi) hp (wRule_of hp _ (List.getElem_mem hi))) rfl ?_
     rintro r rfl
     simp
   intro st2 hk2 s28
   simp at hk2
   generalize ruleOk p p.Rules[i]=D at *
   cases D
   · rw [Bool.false_and] at hJ
     subst hJ
     simp [s28]
     refine hret _ _ _ ?_
     simp
   · rw [Bool.true_and] at hJ
     simp [hk,hk1,hk2,s28,s3,hw]
     exact hR _ _ _ (by simp [hk,hk1,hk2]) (by simp) ⟨hn,e0,hJ⟩
 rintro st h n R hk s3 ⟨hn,e0,hJ⟩ hret hX
 simp at hk
 rw [List.drop_eq_nil_of_le (by omega)] at hJ
 simp at hJ
 subst hJ
 refine rC_seqI (rC_cut [1] (fun s=>s 18 = .bool false) (by simp [hk,s3,e0,rAProgram]) ?_)
 intro st1 hk1 s18
 refine rC_stop1 s18 ?_
 refine hX _ _ _ _ ?_
 simp
end Go.Proofs.YtilcageplifbgaaGreat

namespace Go.Proofs.YtilcageplifbgaaGreat
set_option linter.all false
open Go Go.RowKit Go.Proofs
def a59:AFn:=
⟨46,[.t 4],(.seq
 (.reg [⟨some 2,.boxv (.t 0),no⟩,⟨some 4,.mv (.k (.nil 2)),no⟩]) (.seq
 (.reg [⟨some 8,.bsl 2 [],no⟩,⟨some 5,.mv (.t 8),no⟩]) (.seq (.seq
 (.reg [⟨some 6,.mv (.k (.int .i64 0)),no⟩]) (.blk 0 (.loop (.seq (.seq
 (.reg [⟨some 9,.mv (.t 6),no⟩,⟨some 10,.fld 1 (.t 2),no⟩,⟨some 11,.ld false 1 (.t 10),no⟩,⟨some 12,.len false (.t 11),no⟩,⟨some 13,.bin .lss (.t 9) (.t 12),no⟩]) (.cond (.t 13) .skip (.exit 0))) (.seq (.blk 1 (.seq
 (.reg [⟨some 16,.fld 1 (.t 2),no⟩,⟨some 17,.ld false 1 (.t 16),no⟩,⟨some 18,.mv (.t 6),no⟩,⟨some 19,.ixa 1 (.t 17) (.t 18),no⟩,⟨some 20,.ld false 1 (.t 19),no⟩,⟨some 21,.call (.k (.fn (.func 143) [] [])) [.t 20],no⟩]) (.cond (.t 21)
 (.reg [⟨some 22,.mv (.t 5),no⟩,⟨some 23,.mv (.t 6),no⟩,⟨some 24,.mv (.t 1),no⟩,⟨some 25,.call (.k (.fn (.func 144) [] [])) [.t 23,.t 24],no⟩,⟨some 26,.bsl 2 [.t 25],no⟩,⟨some 27,.app 32 2 (.t 22) (.t 26),no⟩,⟨some 5,.mv (.t 27),no⟩]) .skip)))
 (.reg [⟨some 14,.mv (.t 6),no⟩,⟨some 15,.bin .add (.t 14) (.k (.int .i64 1)),no⟩,⟨some 6,.mv (.t 15),no⟩])))))) (.seq (.seq
 (.reg [⟨some 7,.mv (.k (.int .i64 0)),no⟩]) (.blk 2 (.loop (.seq (.seq
 (.reg [⟨some 28,.mv (.t 7),no⟩,⟨some 29,.fld 3 (.t 2),no⟩,⟨some 30,.ld false 1 (.t 29),no⟩,⟨some 31,.len false (.t 30),no⟩,⟨some 32,.bin .lss (.t 28) (.t 31),no⟩]) (.cond (.t 32) .skip (.exit 2))) (.seq (.blk 3
 (.reg [⟨some 35,.mv (.t 5),no⟩,⟨some 36,.fld 3 (.t 2),no⟩,⟨some 37,.ld false 1 (.t 36),no⟩,⟨some 38,.mv (.t 7),no⟩,⟨some 39,.ixa 2 (.t 37) (.t 38),no⟩,⟨some 40,.ld true 2 (.t 39),no⟩,⟨some 41,.mv (.t 1),no⟩,⟨some 42,.call (.k (.fn (.func 145) [] [])) [.t 40,.t 41],no⟩,⟨some 43,.bsl 2 [.t 42],no⟩,⟨some 44,.app 32 2 (.t 35) (.t 43),no⟩,⟨some 5,.mv (.t 44),no⟩]))
 (.reg [⟨some 33,.mv (.t 7),no⟩,⟨some 34,.bin .add (.t 33) (.k (.int .i64 1)),no⟩,⟨some 7,.mv (.t 34),no⟩])))))) (.seq
 (.reg [⟨some 45,.mv (.t 5),no⟩,⟨some 4,.mv (.t 45),no⟩]) .ret)))))⟩
theorem a59_ok:compFn Tryz.prog Tryz.f59=some a59:=by kernel_rfl
theorem lrows_len {n:Nat} : ∀ {xs:List Str} {i:Nat},(lrows n xs i).length≤xs.length
 | [],_=>Nat.le_refl _
 | x::xs,i=>by
   have:=lrows_len (n:=n) (xs:=xs) (i:=i+1)
   simp only [lrows,List.length_append,List.length_cons]
   split <;> simp <;> omega
theorem fn_len {f:DFunction} (hw:wFunction f≤1048576):f.Params.length≤1048576∧f.Pre.length≤1048576∧∀ l∈f.Pre,l.Coeffs.length≤1048576:=by
 have h3:wFunction f=f.Name.length+wStringS f.Params+wLinS f.Pre:=rfl
 have h4:=wL_len List.length f.Params
 have h5:=wL_len wLin f.Pre
 unfold wStringS wLinS at h3
 refine ⟨by omega,by omega,fun l hl => ?_⟩
 have:=wL_mem (w:=wLin) hl
 rw [show wLin l=l.Coeffs.length from rfl] at this
 omega
theorem fn_w {p:DProgram} {name:Str} {f:DFunction} (hp:wProgram p≤1048576) (hf:findFn p.Functions name=some f):wFunction f≤1048576:=by
 have h3:=wL_mem (w:=wFunction) (List.mem_of_find?_eq_some hf)
 unfold wProgram wFunctionS at hp; omega
set_option maxRecDepth 20000
set_option maxHeartbeats 2000000
theorem ks_l14Domain (f:DFunction) (n:Nat) (hw:wFunction f≤1048576) (hn:n≤1048576) (hpre:∀ l∈f.Pre,l.Coeffs.length≤n):Holds Tryz.prog 59 [.agg (rAFunction f),i64 n] (fun r=>r = .us 2 ((domL f n).map rULin)):=by
 obtain ⟨hl1,hl2,hl3⟩:=fn_len hw
 have hr0:=lrows_len (n:=n) (xs:=f.Params) (i:=0)
 refine holds_of_run Tryz.func59 a59_ok rfl (by simp [a59]) ?_
 simp [a59,rAFunction]
 generalize hT1:lrows n f.Params 0=T1
 rw [hT1] at hr0
 have hdom:domL f n=T1++f.Pre.map (widen n):=by unfold domL; rw [hT1]
 refine rL_forO [1,2] 6 f.Params.length (fun i s h m=>1<m∧h 0=some ⟨true,4,[rAFunction f]⟩∧∃ (acc:List DLin) (id:Nat),acc++lrows n (f.Params.drop i) i=T1∧id≠0∧id<m∧s 5 = .ref id 0 acc.length∧h id=some ⟨false,2,acc.map rULin⟩) (by unfold LIM; omega) (by simp) ⟨by simp,by simp [rAFunction],[],1,by simpa using hT1,by simp,by simp,by simp,by simp⟩ ?_ ?_
 · rintro i st h m R hi hg hk s6 hw ⟨hm,e0,acc,id,hJ,hid0,hid,s5,eid⟩ hR _ _
   simp at hk
   rw [List.drop_eq_getElem_cons hi] at hJ
   simp only [lrows] at hJ
   refine rC_seqI (rC_cut [1,2,5,6] (fun s=>s 13 = .bool true) (by simp [hk,s6,hi,e0,rAFunction]) ?_)
   intro st1 hk1 s13
   simp at hk1
   refine rC_pass1 s13 (rC_seqI (rC_blkI ?_))
   refine rC_cut [1,2,5,6] (fun s=>s 21 = .bool (listName f.Params[i])) ?_ ?_
   · simp [hk1,hk,s6,hi,e0,rAFunction]
     first|refine callD_of (ks_IsListName (f.Params[i]'hi)) (by first|(simp;done)|rfl) ?_|refine call_of (ks_IsListName (f.Params[i]'hi)) (by first|(simp;done)|rfl) ?_
     rintro r rfl
     simp
   intro st2 hk2 s21
   simp at hk2
   have z0:¬0=m:=by omega
   have z1:¬m=0:=by omega
   have z2:¬id=m:=by omega
   have z3:¬m=id:=by omega
   have z4:¬0=id:=by omega
   have z5:¬0=m+1:=by omega
   have z6:¬id=m+1:=by omega
   have z7:¬m+1=id:=by omega
   have z8:¬0=m+2:=by omega
   have z9:¬0=m+1+1:=by omega
   cases c1:listName f.Params[i]
   · rw [c1] at hJ s21
     simp only [Bool.false_eq_true,if_false,List.nil_append] at hJ
     simp [hk2,hk1,hk,s21,s6,hw]
     exact hR _ _ _ (by simp [hk2,hk1,hk]) (by simp) ⟨hm,e0,acc,id,hJ,hid0,hid,by simp [hk2,hk1,s5],eid⟩
   · rw [c1] at hJ s21
     simp only [if_true] at hJ
     have hal:=congrArg List.length hJ
     simp only [List.length_append,List.length_cons,List.length_nil] at hal
     simp [hk2,hk1,hk,s21,s6,hw,e0]
     first|refine callD_of (ks_VarLin i n) (by first|(simp;done)|rfl) ?_|refine call_of (ks_VarLin i n) (by first|(simp;done)|rfl) ?_
     rintro r rfl
     simp [hk2,hk1,hk,s21,s6,hw,e0,eid,s5,rULin,z0,z1,z2,z3,z4,z5,z6,z7,z8,z9]
     refine ⟨by unfold LIM; omega,?_⟩
     exact hR _ _ _ (by simp [hk2,hk1,hk]) (by simp) ⟨by omega,by simp [e0,z0,z4,z5,z8,z9],acc++[varL i n],m+2,by simpa using hJ,by omega,by omega,by simp,by simp [rULin,List.take_of_length_le]⟩
 rintro st h m R hk s6 ⟨hm,e0,acc,id,hJ,hid0,hid,s5,eid⟩ hret hX
 simp at hk
 rw [List.drop_eq_nil_of_le (by omega)] at hJ
 simp only [lrows,List.append_nil] at hJ
 subst hJ
 refine rC_seqI (rC_cut [1,2,5] (fun s=>s 13 = .bool false) (by simp [hk,s6,e0,rAFunction]) ?_)
 intro st1 hk1 s13
 simp at hk1
 refine rC_stop1 s13 ?_
 refine hX _ _ _ _ ?_
 simp [hk1,s5]
 generalize hT2:acc++f.Pre.map (widen n)=T2
 refine rL_forO [1,2] 7 f.Pre.length (fun i s h m=>1<m∧h 0=some ⟨true,4,[rAFunction f]⟩∧∃ (acc:List DLin) (id:Nat),acc++(f.Pre.drop i).map (widen n)=T2∧id≠0∧id<m∧s 5 = .ref id 0 acc.length∧h id=some ⟨false,2,acc.map rULin⟩) (by unfold LIM; omega) (by simp) ⟨hm,e0,acc,id,by simpa using hT2,hid0,hid,by simp [hk1,s5],eid⟩ ?_ ?_
 · rintro i tt h m R hi hg hl s7 hw ⟨hm,e0,acc,id,hJ,hid0,hid,s5,eid⟩ hR _ _
   simp [hk1,hk] at hl
   rw [List.drop_eq_getElem_cons hi,List.map_cons] at hJ
   refine rC_seqI (rC_cut [1,2,5,7] (fun s=>s 32 = .bool true) (by simp [hl,s7,hi,e0,rAFunction]) ?_)
   intro tt1 hl1 s32
   simp at hl1
   refine rC_pass1 s32 (rC_seqI (rC_blkI ?_))
   have z0:¬0=m:=by omega
   have z1:¬m=0:=by omega
   have z2:¬id=m:=by omega
   have z3:¬m=id:=by omega
   have z4:¬0=id:=by omega
   have z5:¬0=m+1:=by omega
   have z6:¬id=m+1:=by omega
   have z7:¬m+1=id:=by omega
   have z8:¬0=m+2:=by omega
   have z9:¬0=m+1+1:=by omega
   have hal:=congrArg List.length hJ
   simp only [List.length_append,List.length_cons,List.length_map,List.length_drop] at hal
   have hT2l:T2.length≤3000000:=by rw [←hT2]; simp; omega
   simp [hl1,hl,s7,hi,hw,e0,rAFunction]
   first | refine callD_of (ks_l14Widen (f.Pre[i]'hi) n (hpre _ (List.getElem_mem hi)) hn) (by simp) ?_ | refine call_of (ks_l14Widen (f.Pre[i]'hi) n (hpre _ (List.getElem_mem hi)) hn) (by simp) ?_ | refine callD_of (ks_l14Widen (f.Pre[i]'hi) n (hpre _ (List.getElem_mem hi)) hn) rfl ?_ | refine call_of (ks_l14Widen (f.Pre[i]'hi) n (hpre _ (List.getElem_mem hi)) hn) rfl ?_
   rintro r rfl
   simp [hl1,hl,s7,hw,e0,eid,s5,rULin,z0,z1,z2,z3,z4,z5,z6,z7,z8,z9]
   refine ⟨by unfold LIM; omega,?_⟩
   exact hR _ _ _ (by simp [hl1,hl,hk1,hk]) (by simp) ⟨by omega,by simp [e0,z0,z4,z5,z8,z9],acc++[widen n f.Pre[i]],m+2,by simpa using hJ,by omega,by omega,by simp,by simp [rULin,List.take_of_length_le]⟩
 rintro tt h m R hl s7 ⟨hm,e0,acc,id,hJ,hid0,hid,s5,eid⟩ hret hX
 simp [hk1,hk] at hl
 rw [List.drop_eq_nil_of_le (by omega)] at hJ
 simp only [List.map_nil,List.append_nil] at hJ
 subst hJ
 refine rC_seqI (rC_cut [1,2,5] (fun s=>s 32 = .bool false) (by simp [hl,s7,e0,rAFunction]) ?_)
 intro tt1 hl1 s32
 simp at hl1
 refine rC_stop1 s32 ?_
 refine hX _ _ _ _ ?_
 simp [hl1,s5,eid,hdom,hT2]
end Go.Proofs.YtilcageplifbgaaGreat

namespace Go.Proofs.YtilcageplifbgaaGreat
set_option linter.all false
open Go Go.RowKit Go.Proofs
def a32:AFn:=
⟨22,[(.c 4 true 6),.t 5],(.seq
 (.reg [⟨some 2,.boxv (.t 0),no⟩,⟨some 4,.box [(.int .i64 0),(.nil 2),(.nil 2),(.nil 1),(.int .i64 0),(.nil 1)],no⟩,⟨some 5,.mv (.k (.bool false)),no⟩]) (.seq (.seq
 (.reg [⟨some 6,.ld true 2 (.t 2),no⟩,⟨some 7,.call (.k (.fn (.func 58) [] [])) [.t 6],no⟩,⟨some 8,.un .not (.t 7),no⟩,⟨some 9,.mv (.t 8),no⟩,⟨some 10,.mv (.t 1),(some (9,false))⟩,⟨some 11,.fld 1 (.t 2),(some (9,false))⟩,⟨some 12,.ld false 1 (.t 11),(some (9,false))⟩,⟨some 13,.len false (.t 12),(some (9,false))⟩,⟨some 14,.bin .sub (.t 13) (.k (.int .i64 1)),(some (9,false))⟩,⟨some 15,.call (.k (.fn (.func 96) [] [])) [.t 10,(.k (.int .i64 0)),.t 14],(some (9,false))⟩,⟨some 16,.un .not (.t 15),(some (9,false))⟩,⟨some 17,.pick (.t 9) (.k (.bool true)) (.t 16),no⟩]) (.cond (.t 17) (.seq
 (.reg [⟨some 18,.build [(.int .i64 0),(.nil 2),(.nil 2),(.nil 1),(.int .i64 0),(.nil 1)] [],no⟩,⟨no,.st 6 (.t 4) (.t 18),no⟩,⟨some 5,.mv (.k (.bool false)),no⟩]) .ret) .skip)) (.seq
 (.reg [⟨some 19,.ld true 2 (.t 2),no⟩,⟨some 20,.mv (.t 1),no⟩,⟨some 21,.call (.k (.fn (.func 97) [] [])) [.t 19,.t 20],no⟩,⟨no,.st 6 (.t 4) (.t 21),no⟩,⟨some 5,.mv (.k (.bool true)),no⟩]) .ret)))⟩
theorem a32_ok:compFn Tryz.prog Tryz.f32=some a32:=by kernel_rfl
theorem sPar_fold {n:Nat} : ∀ {xs:List Str} {a:MS},(xs.foldl (sPar n) a).nx=a.nx+xs.length∧(xs.foldl (sPar n) a).E.length=a.E.length+xs.length∧(xs.foldl (sPar n) a).args=a.args∧(xs.foldl (sPar n) a).rows=a.rows∧keysE (xs.foldl (sPar n) a).E=keysE a.E++xs
 | [],a=>by simp
 | x::xs,a=>by
   obtain ⟨h1,h2,h3,h4,h5⟩:=sPar_fold (n:=n) (xs:=xs) (a:=sPar n a x)
   simp only [List.foldl_cons,List.length_cons]
   refine ⟨by rw [h1]; show a.nx+1+_=_; omega,by rw [h2]; simp [sPar]; omega,by rw [h3]; rfl,by rw [h4]; rfl,by rw [h5]; simp [sPar,keysE]⟩
theorem sPar_val {n:Nat} (hn:n≤8):∀ {xs:List Str} {a:MS},(∀ e∈a.E,e.2.Coeffs.length≤8)→∀ e∈(xs.foldl (sPar n) a).E,e.2.Coeffs.length≤8
 | [],_,h=>h
 | x::xs,a,h=>by
   simp only [List.foldl_cons]
   refine sPar_val hn ?_
   intro e he
   rcases List.mem_append.1 he with he | he
   · exact h e he
   · simp at he; subst he; exact varL_le n hn
theorem sPat_fold {n:Nat} : ∀ {xs:List DPattern} {a:MS},(xs.foldl (sPat n) a).rows.length=a.rows.length+xs.length∧(xs.foldl (sPat n) a).E.length≤a.E.length+2*xs.length∧(xs.foldl (sPat n) a).args=a.args∧(xs.foldl (sPat n) a).nx=a.nx+consN xs
 | [],a=>by simp [consN]
 | x::xs,a=>by
   obtain ⟨h1,h2,h3,h4⟩:=sPat_fold (n:=n) (xs:=xs) (a:=sPat n a x)
   simp only [List.foldl_cons,List.length_cons]
   have g1:(sPat n a x).rows.length=a.rows.length+1:=by unfold sPat; split <;> simp
   have g2:(sPat n a x).E.length≤a.E.length+2:=by unfold sPat; split <;> simp
   have g3:(sPat n a x).args=a.args:=by unfold sPat; split <;> rfl
   have g4:(sPat n a x).nx=a.nx+(if x.Cons then 1 else 0):=by unfold sPat; cases x.Cons <;> simp
   exact ⟨by omega,by omega,by rw [h3,g3],by rw [h4,g4,consN_cons]; omega⟩
theorem sCall_fold {n:Nat} : ∀ {xs:List DCall} {a:MS},(xs.foldl (sCall n) a).E.length=a.E.length+xs.length
 | [],a=>by simp
 | x::xs,a=>by
   have h1:=sCall_fold (n:=n) (xs:=xs) (a:=sCall n a x)
   simp only [List.foldl_cons,List.length_cons]
   rw [h1]; simp [sCall]; omega
set_option maxRecDepth 20000
set_option maxHeartbeats 4000000
theorem ks_l14Model (p:DProgram) (hp:wProgram p≤1048576) (h1:progOk p=true) {j:Nat} (hj:j<p.Rules.length):Holds Tryz.prog 97 [.agg (rAProgram p),i64 j] (fun x=>x = .agg (rUModel (modelS (p.Rules[j]) (fnAt p (p.Rules[j]))))):=by
 refine holds_of_run Tryz.func97 a97_ok rfl (by simp [a97]) ?_
 obtain ⟨f,hf,R⟩:=rule_in h1 (List.getElem_mem hj)
 have hfa:fnAt p p.Rules[j]=f:=by unfold fnAt; rw [hf]; rfl
 simp [a97,lm0,lm1,lm2,rAProgram,hj]
 first|refine callD_of (ks_FindFunction p (p.Rules[j]).Func hp) (by first|(simp [rAProgram];done)|rfl) ?_|refine call_of (ks_FindFunction p (p.Rules[j]).Func hp) (by first|(simp [rAProgram];done)|rfl) ?_
 rintro r rfl
 rw [hfa,hf]
 have hwf:=fn_w hp hf
 have hpar:=R.par
 have hnpre:=R.npre
 have hnp:=R.npats
 have hnc:=R.ncalls
 have h6:=R.size
 have hrargs:=R.args h1
 have hrres:=okArg_in (argOk_ok R.res)
 generalize p.Rules[j]=r at *
 simp [optFn,rUFunction,rARule,lm3,lm4]
 intro _
 refine callD_of (ks_l14Cons r.Patterns) (by simp) ?_
 rintro _ rfl
 have hcl:=consN_le r.Patterns
 have hw1:IntKind.i64.wrap ((f.Params.length:Int)+(consN r.Patterns:Int))=(f.Params.length:Int)+(consN r.Patterns:Int):=wrap64 (by omega)
 have hw2:IntKind.i64.wrap ((f.Params.length:Int)+(consN r.Patterns:Int)+(r.Calls.length:Int))=(sizeN r f:Int):=by rw [wrap64 (by omega)]; unfold sizeN; omega
 have hpl:∀ l∈f.Pre,l.Coeffs.length≤sizeN r f:=fun l hl=>by
   have h1:=(okLin_len (R.pre l hl)).1
   have h2:f.Params.length≤sizeN r f:=by unfold sizeN; omega
   omega
 simp [hw1,hw2,lm5]
 have hkE:=sPar_fold (n:=sizeN r f) (xs:=f.Params) (a:=⟨[],0,domL f (sizeN r f),[],[]⟩)
 have hvE:=sPar_val (n:=sizeN r f) (by omega) (xs:=f.Params) (a:=⟨[],0,domL f (sizeN r f),[],[]⟩) (by simp)
 have hdl:(domL f (sizeN r f)).length≤4:=by
   unfold domL
   have:=lrows_len (n:=sizeN r f) (xs:=f.Params) (i:=0)
   simp; omega
 rw [←show ss1 r f=f.Params.foldl (sPar (sizeN r f)) ⟨[],0,domL f (sizeN r f),[],[]⟩ from rfl] at hkE hvE
 have hsz:r.Calls.length≤sizeN r f∧f.Params.length+consN r.Patterns=sizeN r f - r.Calls.length:=by unfold sizeN; omega
 have ss3d:ss3 r f=r.Patterns.foldl (sPat (sizeN r f)) (atNx (ss1 r f) f.Params.length):=rfl
 have hp3:=sPat_fold (n:=sizeN r f) (xs:=r.Patterns) (a:=atNx (ss1 r f) f.Params.length)
 rw [←ss3d] at hp3
 have ss5d:ss5 r f=r.Calls.foldl (sCall (sizeN r f)) (withRows (atNx (ss3 r f) (f.Params.length+consN r.Patterns)) (r.Guards.map (sumS (ss3 r f).E (sizeN r f)))):=rfl
 have hc5:=sCall_fold (n:=sizeN r f) (xs:=r.Calls) (a:=withRows (atNx (ss3 r f) (f.Params.length+consN r.Patterns)) (r.Guards.map (sumS (ss3 r f).E (sizeN r f))))
 rw [←ss5d] at hc5
 have hmS:modelS r f=endM (sizeN r f) (ss5 r f) (argS (ss5 r f).E (sizeN r f) r.Result):=rfl
 rw [hmS]
 have hrr:(r.Patterns.foldl (sPat (sizeN r f)) ⟨(ss1 r f).E,f.Params.length,[],[],[]⟩).rows.length≤100000:=by
   have:=(sPat_fold (n:=sizeN r f) (xs:=r.Patterns) (a:=⟨(ss1 r f).E,f.Params.length,[],[],[]⟩)).1
   rw [this]; simp; omega
 generalize hN:sizeN r f=N at *
 first|refine callD_of (ks_l14Domain f N hwf (by omega) hpl) (by first|(simp [rAFunction];done)|rfl) ?_|refine call_of (ks_l14Domain f N hwf (by omega) hpl) (by first|(simp [rAFunction];done)|rfl) ?_
 rintro r rfl
 simp [lm6]
 refine lm7_run (r:=r) (f:=f) (N:=N) (R0:=domL f N) (by simp) (by simp) (by simp) (by simp) (by simp) ?_ hpar ?_
 · refine ⟨by simp,by simp [rARule],by simp,by simp,by omega,.nil 1,.nil 2,.ref 6 0 (domL f N).length,.nil 2,.nil 1,by simp,by simp [mRow],?_,?_⟩
   · intro x hx
     simp only [List.mem_cons,List.not_mem_nil,or_false] at hx
     rcases hx with rfl | rfl | rfl | rfl | rfl
     · exact .inl (by simp [keysE,strsR])
     · exact .inl (by simp [valsE])
     · exact .inr ⟨6,by omega,by omega,by simp,by simp⟩
     · exact .inl (by simp)
     · exact .inl (by simp)
   · simp only [List.pairwise_cons,List.mem_cons,List.not_mem_nil,or_false,forall_eq_or_imp,forall_eq]
     refine ⟨⟨?_,?_,?_,?_⟩,⟨?_,?_,?_⟩,⟨?_,?_⟩,?_,by simp⟩ <;> intro i k l e1 e2 <;> first | cases e1; done | (cases e2; done)
 intro s1 h1' n1 hk1 M1
 simp at hk1
 rw [show f.Params.foldl (sPar N) ⟨[],0,domL f N,[],[]⟩=ss1 r f by unfold ss1; rw [hN]] at M1
 refine kontI (lm89_run (m:=f.Params.length) (by simp [hk1]) (by simp [hk1]) (by simp [hk1]) (by simp [hk1]) (by simp [hk1]) M1 (by omega) (by omega) (by rw [hkE.2.1]; simp; omega) (by omega) (by rw [hkE.2.2.2.1]; show (domL f N).length≤_; omega) ?_ hvE hrr ?_)
 · intro q hq
   rw [hkE.2.2.2.2]
   simpa [keysE] using R.pats q hq
 intro s2 h2 n2 hk2 M2
 simp at hk2
 rw [←ss3d] at M2
 have hE3:(ss3 r f).E.length≤1000:=by
   have e1:(atNx (ss1 r f) f.Params.length).E.length=f.Params.length:=by show (ss1 r f).E.length=_; rw [hkE.2.1]; simp
   omega
 have hR3:(ss3 r f).rows.length≤1000:=by
   have e1:(atNx (ss1 r f) f.Params.length).rows.length=(domL f N).length:=by show (ss1 r f).rows.length=_; rw [hkE.2.2.2.1]
   omega
 refine rC_seqI (lm10_run (by simp [hk2,hk1]) (by simp [hk2,hk1]) (by simp [hk2,hk1]) (by simp [hk2,hk1]) M2 (by omega) R.nguards (fun g hg => ?_) (by omega) ?_)
 · have:=R.guards g hg
   unfold guardOk okSum at this
   simp only [Bool.and_eq_true,decide_eq_true_eq] at this
   omega
 intro s3 h3 n3 hk3 M3
 simp at hk3
 have M3':SM r f N (withRows (atNx (ss3 r f) (f.Params.length+consN r.Patterns)) (r.Guards.map (sumS (ss3 r f).E N))) h3 n3:=M3
 refine kontI (rC_seqI (lm11_run (by simp [hk3,hk2,hk1]) (by simp [hk3,hk2,hk1]) (by simp [hk3,hk2,hk1]) (by simp [hk3,hk2,hk1]) M3' (by omega) (by show (ss3 r f).E.length≤_; omega) hnc (by omega) (by show f.Params.length+consN r.Patterns=_; omega) (by have:=R.nguards; show ((ss3 r f).rows++_).length≤_; simp; omega) ?_ (fun c hc=>⟨(hrargs c hc).1,fun x hx=>okArg_in ((hrargs c hc).2 x hx)⟩) ?_))
 · show (ss3 r f).args.length≤_
   rw [hp3.2.2.1]
   show (ss1 r f).args.length≤_
   rw [hkE.2.2.1]; simp
 intro s4 h4 n4 hk4 M4
 simp at hk4
 rw [←ss5d] at M4
 have hE5:(ss5 r f).E.length≤2000:=by
   rw [hc5]
   show (ss3 r f).E.length+_≤_
   omega
 generalize ss5 r f=ms at *
 obtain ⟨vN,vL,e8,hbw⟩:=M4.bws
 obtain ⟨b1,b2⟩:=hbw h4 fun _ _=>rfl
 have l4:=M4.lt
 refine kontI ?_
 simp [lm12,hk4,hk3,hk2,hk1,e8,M4.hr,rARule]
 first|refine callD_of (ks_l14Size ms.E (by omega) r.Result (fun x hx=>by have:=hrres.1 x hx; omega) hrres.2 N) (by first|(simp [envA,b1,b2,rAArg];done)|rfl) ?_|refine call_of (ks_l14Size ms.E (by omega) r.Result (fun x hx=>by have:=hrres.1 x hx; omega) hrres.2 N) (by first|(simp [envA,b1,b2,rAArg];done)|rfl) ?_
 rintro r rfl
 rw [optLin_eq,show (argO ms.E N r.Result).getD lin0=argS ms.E N r.Result from rfl]
 generalize argS ms.E N r.Result=res at *
 obtain ⟨vN2,vL2,vR,vP,vA,e8',e7,AS⟩:=M4.acc
 obtain ⟨AS1,AS2⟩:=AS
 simp only [List.pairwise_cons,List.mem_cons,List.not_mem_nil,or_false,forall_eq_or_imp,forall_eq] at AS2
 obtain ⟨_,_,⟨d8,d9⟩,d10,_⟩:=AS2
 have k2:=AS1 (2,ms.rows.map rULin,vR) (by simp)
 have k3:=AS1 (2,ms.pars.map rULin,vP) (by simp)
 have k4:=AS1 (1,ms.args.map rULinS,vA) (by simp)
 have cR:=k2.cell
 have cP:=k3.cell
 have cA:=k4.cell
 have ne:¬7=n4∧¬1=n4∧¬n4=7∧¬n4=1:=by omega
 simp [rULin,hk4,hk3,hk2,hk1,e7,mRow,lm13,M4.hz,ne,-dt,-dtl,-isCell,isCell_int,isCell_ref,cR,cP,cA]
 generalize hH:upd (upd (upd h4 n4 _) 7 _) 1 _=H
 have fH:∀ id,5<id→id<n4→id≠7→H id=h4 id:=by
   intro id hid _ _
   have:¬id=1∧¬id=7∧¬id=n4:=by omega
   rw [←hH]; simp [this]
 have nb:∀ {z:Nat} {rows:List (List AV)} {v:AV} (x:AccV 5 z rows v h4 n4),AccV 5 z rows v H n4:=fun x=>x.keep (Nat.le_refl _) fun id hb hid e=>fH id hb hid fun e'=>x.not_box e7 (by rw [←e']; exact e)
 have m2:=nb k2
 have m3:=nb k3
 have m4:=nb k4
 have kq:H n4=some ⟨false,1,intsR res.Coeffs⟩:=by rw [←hH]; simp [ne]
 obtain ⟨H1,dd1,e1⟩:=m2.dt
 have m3':AccV 5 2 (ms.pars.map rULin) vP H1 n4:=m3.keep (Nat.le_refl _) fun id hb hid e=>e1 id fun l el=>d8 id _ _ el e
 obtain ⟨H2,dd2,e2⟩:=m3'.dt
 have m4':AccV 5 1 (ms.args.map rULinS) vA H2 n4:=m4.keep (Nat.le_refl _) fun id hb hid e=>by
   rw [e2 id fun l el=>d10 id _ _ el e,e1 id fun l el=>d9 id _ _ el e]
 obtain ⟨H3,dd3,e3⟩:=m4'.dt
 have kq3:H3 n4=some ⟨false,1,intsR res.Coeffs⟩:=by
   rw [e3 n4 fun l el=>m4.ne_ge (Nat.le_refl _) el,e2 n4 fun l el=>m3.ne_ge (Nat.le_refl _) el,e1 n4 fun l el=>m2.ne_ge (Nat.le_refl _) el,kq]
 simp [dd1,dd2,dd3,kq3,rUModel,endM]
theorem ks_ModelOf (p:DProgram) (hp:wProgram p≤1048576) (k:Int):Holds Tryz.prog 32 [.agg (rAProgram p),i64 k] (fun r=>r=optModel (modelP p k)):=by
 refine holds_of_run Tryz.func32 a32_ok rfl (by simp [a32]) ?_
 simp [a32,rAProgram]
 first|refine callD_of (ks_IsValidProgram p hp) (by first|(simp [rAProgram];done)|rfl) ?_|refine call_of (ks_IsValidProgram p hp) (by first|(simp [rAProgram];done)|rfl) ?_
 rintro r rfl
 unfold modelP
 cases h1:progOk p
 · simp [optModel,model0,rUModel,intsR]
 simp
 intro hrl
 have hw:IntKind.i64.wrap ((p.Rules.length:Int) - 1)=(p.Rules.length:Int) - 1:=wrap64 (by unfold LIM at hrl; omega)
 rw [hw]
 first|refine callD_of (k_l1In k 0 ((p.Rules.length:Int) - 1)) (by first|(simp;done)|rfl) ?_|refine call_of (k_l1In k 0 ((p.Rules.length:Int) - 1)) (by first|(simp;done)|rfl) ?_
 rintro r rfl
 cases h2:inR k 0 ((p.Rules.length:Int) - 1)
 · simp [optModel,model0,rUModel,intsR]
 have hk0:0≤k∧k≤(p.Rules.length:Int) - 1:=by simpa [inR] using h2
 obtain ⟨j,rfl⟩:∃ j:Nat,k=j:=⟨k.toNat,by omega⟩
 have hj:j<p.Rules.length:=by omega
 have hgd:p.Rules.getD ((j:Int).toNat) rule0=p.Rules[j]:=by simp [hj]
 simp [hj]
 first|refine callD_of (ks_l14Model p hp h1 hj) (by first|(simp [rAProgram];done)|rfl) ?_|refine call_of (ks_l14Model p hp h1 hj) (by first|(simp [rAProgram];done)|rfl) ?_
 rintro r rfl
 generalize modelS (p.Rules[j]) (fnAt p (p.Rules[j]))=md
 simp [optModel,rUModel]
end Go.Proofs.YtilcageplifbgaaGreat

/- Contracts: FindFarkas of the program. -/
import Derived.Test.YtoclolkigjbcgaaKFFF
import Derived.Test.YtoclolkigjbcgaaKT1
import Derived.Test.YtoclolkigjbcgaaProg
namespace Go.Proofs.Ytoclolkigjbcgaa
set_option linter.all false
open Go Go.RowKit Go.Proofs
set_option maxRecDepth 20000
set_option maxHeartbeats 2000000
section
variable {ks:List Kt} {s:Env} {h h':Heap} {n:Nat} {Q:Fin}
theorem fk6_run {x:DSystem} {last:DLin} {acc:List DDer} {lo k6 q6:Nat} (hm:x.Rows.length≤20) (s2:s 2 = .ptr 0 0 0) (s6:s 6 = .ptr k6 0 0) (e0:h 0=some ⟨true,2,[rASystem x]⟩) (h0:0<n) (L:LinQ last k6 q6 h 3 n) (hlo:lo≤n) (B:LstV DerR 4 lo acc (s 8) h n) (hl:acc.length≤4000)
   (hK:∀ s' h' n',(∀ j∈[2,3,4],s' j=s j)→n≤n'→(∀ id,id<n→(∀ k,s 8 ≠ .ref id 0 k)→h' id=h id)→LstV DerR 4 lo (acc++[⟨last,List.replicate x.Rows.length 0,1⟩]) (s' 8) h' n'→kont Try.prog ks .normal s' h' n' Q):rC Try.prog fk6 ks s h n Q:=by
 obtain ⟨q1,q2,q3,q4,q5,e6,eq⟩:=L
 have ne:¬n=n+1∧¬n+1=n∧¬n=n+1+1∧¬n+1+1=n∧¬n+1=n+1+1∧¬n+1+1=n+1∧¬0=n∧¬0=n+1:=by omega
 have fr:∀ id,id<n→¬id=n∧¬id=n+1∧¬id=n+1+1:=by intro id _; omega
 have hz:=zero_rows (m:=x.Rows.length)
 simp only [i64] at hz
 simp [fk6,s2,s6,e0,e6,rASystem]
 rw [hz]
 refine ⟨by unfold LIM; omega,?_⟩
 have kp2:Keeps h (upd (upd h n (some ⟨false,1,intsR (List.replicate x.Rows.length 0)⟩)) (n+1) (some ⟨true,4,[[.int .i64 last.Const,.ref q6 0 last.Coeffs.length,.ref n 0 x.Rows.length,.int .i64 1]]⟩)) n:=Keeps.of fun id hid=>by simp [fr id hid]
 have B':=LstV.keep (R:=DerR) (n':=n+1+1) (fun _ _ _ _ _ _=>DerR.keep) B (by omega) kp2 fun id rows _ hid _ e=>by simp [fr id hid,e]
 refine appbV_lst (R:=DerR) (fun _ _ _ _ _ _=>DerR.keep) B' (r:=[.int .i64 last.Const,.ref q6 0 last.Coeffs.length,.ref n 0 x.Rows.length,.int .i64 1]) (d:=⟨last,List.replicate x.Rows.length 0,1⟩) (by simp [srcRowsB]) ⟨_,_,rfl,.inr (.inr ⟨q6,by omega,rfl,by simp [fr q6 q4,eq]⟩),.inr ⟨n,by omega,by simp,by simp [ne]⟩⟩ (by omega) (by unfold LIM; omega) ?_
 intro h' k1 k2 k3
 simp
 exact hK _ _ _ (by simp) (by omega) (fun id hid hv=>by rw [k2 id (by omega) hv]; simp [fr id hid]) (by simpa using k3)
theorem goE_none {v n:Nat} {l:List DDer} (h:¬(elimD v l).length≤60):goE v (n+1) l=Option.none:=by simp only [goE]; rw [if_neg h]
theorem goE_some {v n:Nat} {l:List DDer} (h:(elimD v l).length≤60):goE v (n+1) l=goE (v+1) n (elimD v l):=by simp only [goE]; rw [if_pos h]
theorem fk7_run {x:DSystem} {m n0:Nat} {h0:Heap} {F:Option (List DDer)} {l0:List DDer} (hm:m≤20) (hx:0≤x.N∧x.N≤8) (s2:s 2 = .ptr 0 0 0) (s4:s 4 = .ptr 2 0 0) (e0:h0 0=some ⟨true,2,[rASystem x]⟩) (e2:h0 2=some ⟨true,2,[[.int .i64 0,.nil 1]]⟩) (hn0:2<n0) (hn:n0≤n) (hf:∀ id,id<n0→h id=h0 id)
   (hg0:∀ d∈l0,GD x.N.toNat m d) (hl0:l0.length≤60) (B0:LstV DerR 4 n0 l0 (s 8) h n) (hF:goE 0 x.N.toNat l0=F)
   (hret:F=Option.none→∀ s' h' n',s' 4 = .ptr 2 0 0→s' 5 = .bool false→h' 2=some ⟨true,2,[[.int .i64 0,.nil 1]]⟩→kont Try.prog ks .ret s' h' n' Q)
   (hK:∀ s' h' n' L,(∀ j∈[2,3,4],s' j=s j)→n0≤n'→(∀ id,id<n0→h' id=h0 id)→F=some L→L.length≤60→LstV DerR 4 n0 L (s' 8) h' n'→kont Try.prog ks .normal s' h' n' Q):rC Try.prog fk7 ks s h n Q:=by
 have e0':∀ {h':Heap},(∀ id,id<n0→h' id=h0 id)→h' 0=some ⟨true,2,[[.int .i64 x.N,.sl 2 (x.Rows.map rALin)]]⟩:=fun hh=>by rw [hh 0 (by omega),e0]; rfl
 have hN:((x.N.toNat:Nat):Int)=x.N:=by omega
 simp [fk7]
 refine rL_forO [2,3,4] 12 x.N.toNat (fun i s h m'=>n0≤m'∧(∀ id,id<n0→h id=h0 id)∧∃ l,(∀ d∈l,GD x.N.toNat m d)∧l.length≤60∧LstV DerR 4 n0 l (s 8) h m'∧goE i (x.N.toNat - i) l=F) (by unfold LIM; omega) (by simp) ⟨hn,hf,l0,hg0,hl0,by simpa using B0,by simpa using hF⟩ ?_ ?_
 · rintro i st h1 m1 R hi hgi hk s12 hw ⟨hm1,hf1,l,hg,hl,B,hJ⟩ hR hrt _
   simp at hk
   have hiN:(i:Int)<x.N:=by omega
   refine rC_seqI (rC_cut [2,3,4,8,12] (fun s=>s 72 = .bool true) (by simp [hk,s12,s2,e0' hf1,hiN]) ?_)
   intro st1 hk1 s72
   simp at hk1
   refine rC_pass1 s72 (rC_seqI (rC_blkI ?_))
   have hl2:=elimD_len (v:=i) (l:=l)
   have h60:l.length*l.length≤60*60:=Nat.mul_le_mul hl hl
   refine rC_cutH [2,3,4,12] (fun s h' m'=>m1≤m'∧(∀ id,id<m1→h' id=h1 id)∧LstV DerR 4 m1 (elimD i l) (s 8) h' m') ?_ ?_
   · simp [hk1,s12]
     refine call_without hg hm hi hl (B.low (Nat.zero_le _)) ?_
     intro a h' n' g1 g2 g3
     simp
     exact ⟨g1,g2,g3⟩
   rintro st2 h2 m2 hk2 ⟨hm2,hf2,B2⟩
   simp at hk2
   have hf20:∀ id,id<n0→h2 id=h0 id:=fun id hid=>by rw [hf2 id (by omega),hf1 id hid]
   have hs:x.N.toNat - i=(x.N.toNat - (i+1))+1:=by omega
   rw [hs] at hJ
   refine rC_cut [2,3,4,8,12] (fun s=>s 80 = .bool (decide (60<(elimD i l).length))) ?_ ?_
   · simp
     refine lenV_lst B2 (by unfold LIM; omega) ?_
     simp
     omega
   intro st3 hk3 s80
   simp at hk3
   by_cases h6:(elimD i l).length≤60
   · rw [goE_some h6] at hJ
     have h6':¬60<(elimD i l).length:=by omega
     simp [s80,h6',h6,hk3,hk2,hk1,s12,hw]
     exact hR _ _ _ (by simp [hk3,hk2,hk1,hk]) (by simp) ⟨by omega,hf20,_,elimD_GD hg,h6,by simpa [hk3] using B2.low hm1,hJ⟩
   · rw [goE_none h6] at hJ
     have h6':60<(elimD i l).length:=by omega
     have x4:h2 2=some ⟨true,2,[[.int .i64 0,.nil 1]]⟩:=by rw [hf20 2 hn0,e2]
     simp [s80,h6',h6,hk3,hk2,hk1,hk,s4,x4]
     refine hrt _ _ _ (hret hJ.symm _ _ _ (by simp [hk3,hk2,hk1,hk,s4]) (by simp) (by simp))
 · rintro st h1 m1 R hk s12 ⟨hm1,hf1,l,hg,hl,B,hJ⟩ hrt hX
   simp at hk
   rw [Nat.sub_self] at hJ
   simp only [goE] at hJ
   have hiN:¬((x.N.toNat:Nat):Int)<x.N:=by omega
   refine rC_seqI (rC_cut [2,3,4,8] (fun s=>s 72 = .bool false) (by simp [hk,s12,s2,e0' hf1]; omega) ?_)
   intro st1 hk1 s72
   simp at hk1
   refine rC_stop1 s72 ?_
   refine hX _ _ _ _ ?_
   simp
   exact hK _ _ _ l (by simp [hk1,hk]) hm1 hf1 hJ.symm hl (by simpa [hk1] using B)
end
end Go.Proofs.Ytoclolkigjbcgaa

namespace Go.Proofs.Ytoclolkigjbcgaa
set_option linter.all false
open Go Go.RowKit Go.Proofs
set_option maxRecDepth 20000
set_option maxHeartbeats 2000000
section
variable {ks:List Kt} {s:Env} {h h':Heap} {n:Nat} {Q:Fin}
def ResF (o:Option DFarkas) (s:Env) (h:Heap) (n:Nat):Prop:=s 4 = .ptr 2 0 0∧s 5 = .bool o.isSome∧∃ vm,h 2=some ⟨true,2,[[.int .i64 (o.getD farkas0).Scale,vm]]⟩∧OVi (o.getD farkas0).Mult vm h n
theorem ResF.fin {o:Option DFarkas} (x:ResF o s h n):finH [.c 4 true 2,.t 5] (fun r=>r=optFk o) .ret s h n:=by
 obtain ⟨s4,s5,vm,e,hv⟩:=x
 rcases hv with ⟨rfl,hz⟩ | ⟨id,_,rfl,ei⟩
 · simp [s4,s5,e,optFk,rUFarkas,hz,intsR]
 · simp [s4,s5,e,ei,optFk,rUFarkas]
theorem ResF.no (s4:s 4 = .ptr 2 0 0) (s5:s 5 = .bool false) (e:h 2=some ⟨true,2,[[.int .i64 0,.nil 1]]⟩):ResF Option.none s h n:=⟨s4,s5,.nil 1,e,.inl ⟨rfl,rfl⟩⟩
theorem fk8_run {x:DSystem} {t:DLin} {L:List DDer} {n0:Nat} (hL:L.length≤60) (hn0:2<n0) (hn:n0≤n) (s2:s 2 = .ptr 0 0 0) (s3:s 3 = .ptr 1 0 0) (s4:s 4 = .ptr 2 0 0) (e0:h 0=some ⟨true,2,[rASystem x]⟩) (e1:h 1=some ⟨true,2,[rALin t]⟩) (e2:h 2=some ⟨true,2,[[.int .i64 0,.nil 1]]⟩) (B0:LstV DerR 4 n0 L (s 8) h n)
   (hret:∀ s' h' n',ResF (findL x t L) s' h' n'→kont Try.prog ks .ret s' h' n' Q)
   (hK:∀ s' h' n',findL x t L=Option.none→s' 4 = .ptr 2 0 0→h' 2=some ⟨true,2,[[.int .i64 0,.nil 1]]⟩→kont Try.prog ks .normal s' h' n' Q):rC Try.prog fk8 ks s h n Q:=by
 simp [fk8]
 refine lenV_lst B0 (by unfold LIM; omega) ?_
 simp
 refine rL_forO [2,3,4,82,83] 84 L.length (fun i s h' m=>n≤m∧(∀ id,id<n→h' id=h id)∧findL x t (L.drop i)=findL x t L) (by unfold LIM; omega) (by simp) ⟨Nat.le_refl _,fun _ _=>rfl,by simp⟩ ?_ ?_
 · rintro i st h1 m1 R hi hgi hk s84 hw ⟨hm1,hf1,hJ⟩ hR hrt _
   simp at hk
   rw [List.drop_eq_getElem_cons hi] at hJ
   have B1:LstV DerR 4 n0 L (st 82) h1 m1:=by
     rw [hk.2.2.2.1]
     exact LstV.keep (R:=DerR) (fun _ _ _ _ _ _=>DerR.keep) B0 hm1 (Keeps.of hf1) fun id rows _ hid _ e=>by rw [hf1 id hid,e]
   refine rC_cut [2,3,4,82,83,84] (fun s=>s 85 = .bool true) (by simp [hk,s84,hi]) ?_
   intro st1 hk1 s85
   simp at hk1
   refine rC_pass s85 (rC_seqI (rC_blkI ?_))
   have fr:∀ id,id<m1→¬id=m1:=by intro id _; omega
   refine rC_cutH [2,3,4,82,83,84] (fun s h' m'=>m'=m1+1∧s 14 = .ptr m1 0 0∧(∀ id,id<m1→h' id=h1 id)∧∃ r,h' m1=some ⟨true,4,[r]⟩∧DerR L[i] r h' (m1+1)) ?_ ?_
   · simp [-isCell,ga,hk1,s84]
     refine ixaV_lst B1 hi ?_
     intro id rows r hid e hl hr hD
     have hne:¬id=m1:=by omega
     have hD':=hD
     obtain ⟨v1,v2,rfl,g1,g2⟩:=hD
     have c1:=g1.cell
     have c2:=g2.cell
     simp [-isCell,e,hl,hr,c1,c2]
     simp [isCell]
     exact ⟨fun id hid=>by simp [fr id hid],hD'.keep (Nat.le_succ m1) (Keeps.of fun id hid=>by simp [fr id hid])⟩
   rintro st2 h2 m2 hk2 ⟨rfl,s14,hf2,r,e14,hD⟩
   simp at hk2
   have hf20:∀ id,id<n→h2 id=h id:=fun id hid=>by rw [hf2 id (by omega),hf1 id hid]
   have e0':h2 0=some ⟨true,2,[rASystem x]⟩:=by rw [hf20 0 (by omega),e0]
   have e1':h2 1=some ⟨true,2,[rALin t]⟩:=by rw [hf20 1 (by omega),e1]
   have e2':h2 2=some ⟨true,2,[[.int .i64 0,.nil 1]]⟩:=by rw [hf20 2 (by omega),e2]
   obtain ⟨v1,vm,rfl,g1,g2⟩:=hD
   have c2:=g2.cell
   have n2:¬2=m1+1∧¬1=m1+1∧¬0=m1+1∧¬m1=0:=by omega
   by_cases hc:(L[i]).l.Const<0
   · have hfind:findL x t (L[i]::L.drop (i+1))=if checkF x t ⟨L[i].scale,L[i].mult⟩ then some ⟨L[i].scale,L[i].mult⟩ else Option.none:=by
       unfold findL
       rw [List.find?_cons,decide_eq_true hc]
     rw [hfind] at hJ
     have g2':OVi L[i].mult vm (upd h2 (m1+1) (some ⟨true,2,[[.int .i64 L[i].scale,vm]]⟩)) (m1+1+1):=g2.keep (Nat.le_succ _) (Keeps.of fun id hid=>by rw [upd_other]; omega)
     have hcall:∀ {K:AV→Heap→Nat→Prop},K (.bool (checkF x t ⟨L[i].scale,L[i].mult⟩)) (upd h2 (m1+1) (some ⟨true,2,[[.int .i64 L[i].scale,vm]]⟩)) (m1+1+1)→ACall Try.prog 37 [.agg (rASystem x),.agg (rALin t),.agg [.int .i64 L[i].scale,vm]] (upd h2 (m1+1) (some ⟨true,2,[[.int .i64 L[i].scale,vm]]⟩)) (m1+1+1) K:=by
       intro K hk
       have hb:=g2'.bw
       refine call_of (k_CheckFarkas x t ⟨L[i].scale,L[i].mult⟩) ?_ ?_
       · simp only [bwl,bw]
         rw [hb]
         simp [rASystem,rALin,rAFarkas]
       · rintro r rfl
         simpa using hk
     have fin:∀ {st':Env} {h':Heap} {m':Nat},st' 4 = .ptr 2 0 0→st' 5 = .bool (checkF x t ⟨L[i].scale,L[i].mult⟩)→(checkF x t ⟨L[i].scale,L[i].mult⟩=true→OVi L[i].mult vm h' m'∧h' 2=some ⟨true,2,[[.int .i64 L[i].scale,vm]]⟩)→(checkF x t ⟨L[i].scale,L[i].mult⟩=false→h' 2=some ⟨true,2,[[.int .i64 0,.nil 1]]⟩)→R .ret st' h' m':=by
       intro st' h' m' x4 x5 y1 y2
       refine hrt _ _ _ (hret _ _ _ ?_)
       rw [←hJ]
       cases hch:checkF x t ⟨L[i].scale,L[i].mult⟩
       · rw [hch] at x5
         exact ResF.no x4 x5 (y2 hch)
       · rw [hch] at x5
         exact ⟨x4,x5,vm,(y1 hch).2,(y1 hch).1⟩
     have kp2:∀ B,Keeps (upd h2 (m1+1) (some ⟨true,2,[[.int .i64 L[i].scale,vm]]⟩)) (upd (upd h2 (m1+1) (some ⟨true,2,[[.int .i64 L[i].scale,vm]]⟩)) 2 B) (m1+1+1):=fun B id z rows hid e=>by
       have:¬id=2:=by rintro rfl; simp [n2,e2'] at e
       rw [upd_other _ _ _ _ this]; exact e
     have hcase:vm = .nil 1∨∃ id l,vm = .ref id 0 l:=by
       rcases g2 with ⟨rfl,_⟩ | ⟨id,_,rfl,_⟩
       · exact .inl rfl
       · exact .inr ⟨_,_,rfl⟩
     rcases hcase with rfl | ⟨id',l',rfl⟩
     all_goals
       simp [gb,s14,e14,hc,hk2,hk1,hk,s2,s3,e0',e1',n2,rASystem,rALin]
       refine hcall ?_
       cases hch:checkF x t ⟨L[i].scale,L[i].mult⟩
       · simp [hk2,hk1,hk,s4,e2',n2]
         exact fin (by simp [hk2,hk1,hk,s4]) (by simp [hch]) (fun e=>by rw [hch] at e; cases e) (fun _=>by simp)
       · simp [hk2,hk1,hk,s4,e2',n2]
         exact fin (by simp [hk2,hk1,hk,s4]) (by simp [hch]) (fun _=>⟨g2'.keep (Nat.le_refl _) (kp2 _),by simp⟩) (fun e=>by rw [hch] at e; cases e)
   · have hfind:findL x t (L[i]::L.drop (i+1))=findL x t (L.drop (i+1)):=by
       unfold findL
       rw [List.find?_cons,decide_eq_false hc]
     rw [hfind] at hJ
     simp [s14,e14,hc,hk2,hk1,s84,hw]
     exact hR _ _ _ (by simp [hk2,hk1,hk]) (by simp) ⟨by omega,hf20,hJ⟩
 · rintro st h1 m1 R hk s84 ⟨hm1,hf1,hJ⟩ hrt hX
   simp at hk
   rw [List.drop_eq_nil_of_le (by omega)] at hJ
   refine rC_cut [2,3,4,82,83] (fun s=>s 85 = .bool false) (by simp [hk,s84]) ?_
   intro st1 hk1 s85
   simp at hk1
   refine rC_stop s85 ?_
   refine hX _ _ _ _ ?_
   simp
   exact hK _ _ _ hJ.symm (by simp [hk1,hk,s4]) (by rw [hf1 2 (by omega),e2])
end
theorem k_FindFarkas (x:DSystem) (t:DLin):Holds Try.prog 16 [.agg (rASystem x),.agg (rALin t)] (fun r=>r=optFk (findF x t)):=by
 refine holds_of_run Try.func16 a16_ok rfl (by simp [a16]) ?_
 simp [a16,fk0,fk1]
 first|refine callD_of (k_IsValidSystem x) (by first|simp;done|rfl) ?_|refine call_of (k_IsValidSystem x) (by first|simp;done|rfl) ?_
 rintro r rfl
 generalize hF:findF x t=F
 cases h1:okSys x
 · have:=findF_no (x:=x) (t:=t) (by rw [h1]; rfl)
   rw [this] at hF
   subst hF
   simp [optFk,farkas0,rUFarkas,intsR]
 simp [rASystem]
 first|refine callD_of (k_IsValidLin t x.N) (by first|simp;done|rfl) ?_|refine call_of (k_IsValidLin t x.N) (by first|simp;done|rfl) ?_
 rintro r rfl
 cases h2:okLin t x.N
 · have:=findF_no (x:=x) (t:=t) (by rw [h1,h2]; rfl)
   rw [this] at hF
   subst hF
   simp [optFk,farkas0,rUFarkas,intsR]
 simp
 refine fk2_run (x:=x) (t:=t) (by simp) (by simp) (by simp [rASystem]) (by simp [rALin]) ?_
 intro s1 h3 n1 k6 q6 hk1 hn1 hf1 s7 s6 L6
 simp at hk1
 have hf1:∀ id,id<3→h3 id=_:=hf1
 have z0:h3 0=some ⟨true,2,[rASystem x]⟩:=by rw [hf1 0 (by omega)]; simp [rASystem]
 have z1:h3 1=some ⟨true,2,[rALin t]⟩:=by rw [hf1 1 (by omega)]; simp [rALin]
 have z2:h3 2=some ⟨true,2,[[.int .i64 0,.nil 1]]⟩:=by rw [hf1 2 (by omega)]; simp
 cases hT:addScaled (constLin (-1) x.N) (-1) t with
 | none=>
   rw [findF_1 hT] at hF
   subst hF
   simp [fk3,s7,hT,hk1,z2,optFk,farkas0,rUFarkas,intsR]
 | some last=>
   rw [findF_2 (by rw [h1,h2]; rfl) hT] at hF
   rw [hT] at s7 L6
   simp only [Option.getD_some] at L6
   have hsys:=sys_rows h1
   simp [fk3,s7,fk4]
   refine fk5_run (n0:=n1) (h0:=h3) hsys.1 (by simp [hk1]) (by simp) z0 (by omega) (Nat.le_refl _) (fun _ _=>rfl) ?_
   intro s4 h4 n4 hk4 hn4 hf4 B4
   simp at hk4
   simp
   have L6':LinQ last k6 q6 h4 3 n4:=by
     obtain ⟨q1,q2,q3,q4,q5,e6,eq⟩:=L6
     exact ⟨q1,by omega,q3,by omega,q5,by rw [hf4 k6 q2,e6],by rw [hf4 q6 q4,eq]⟩
   refine fk6_run (last:=last) hsys.1 (by simp [hk4,hk1]) (by simp [hk4,s6]) (by rw [hf4 0 (by omega),z0]) (by omega) L6' hn4 B4 (by simp [stR]; omega) ?_
   intro s5 h5 n5 hk5 hn5 hf5 B5
   simp at hk5
   simp
   have hf50:∀ id,id<n1→h5 id=h3 id:=fun id hid=>by
     rw [hf5 id (by omega) fun k e => ?_,hf4 id hid]
     have:=B4.from id k e
     omega
   rw [show stR x.Rows++[⟨last,List.replicate x.Rows.length 0,1⟩]=startD x.Rows last from rfl] at B5
   refine fk7_run (x:=x) (n0:=n1) (h0:=h3) (F:=goE 0 x.N.toNat (startD x.Rows last)) hsys.1 hsys.2.1 (by simp [hk5,hk4,hk1]) (by simp [hk5,hk4,hk1]) z0 z2 (by omega) (by omega) hf50 (start_GD h1 hT) (by rw [startD_len]; omega) B5 rfl ?_ ?_
   · intro hn s' h' n' x4 x5 x2
     rw [hn] at hF
     simp at hF
     subst hF
     simp only [kont_seq_ret,kont_nil]
     exact (ResF.no (n:=n') x4 x5 x2).fin
   · intro s7' h7 n7 L hk7 hn7 hf7 hL hLl B7
     rw [hL] at hF
     simp only [Option.bind_some] at hF
     simp at hk7
     simp
     refine fk8_run (x:=x) (t:=t) (n0:=n1) hLl (by omega) hn7 (by simp [hk7,hk5,hk4,hk1]) (by simp [hk7,hk5,hk4,hk1]) (by simp [hk7,hk5,hk4,hk1]) (by rw [hf7 0 (by omega),z0]) (by rw [hf7 1 (by omega),z1]) (by rw [hf7 2 (by omega),z2]) B7 ?_ ?_
     · intro s' h' n' hr
       rw [hF] at hr
       simp only [kont_seq_ret,kont_nil]
       exact hr.fin
     · intro s' h' n' hno x4 x2
       rw [hno] at hF
       subst hF
       simp [fk9,x4,x2,optFk,farkas0,rUFarkas,intsR]
end Go.Proofs.Ytoclolkigjbcgaa

namespace Go.Proofs.Ytoclolkigjbcgaa
set_option linter.all false
open Go Go.RowKit Go.Proofs
def sk0:AC:=(.reg [⟨some 2,.boxv (.t 0),no⟩,⟨some 3,.boxv (.t 1),no⟩,⟨some 4,.box [(.int .i64 0),(.nil 1)],no⟩,⟨some 5,.mv (.k (.bool false)),no⟩])
def sk1:AC:=(.seq  (.reg [⟨some 16,.ld true 2 (.t 2),no⟩,⟨some 17,.call (.k (.fn (.func 24) [] [])) [.t 16],no⟩,⟨some 18,.un .not (.t 17),no⟩,⟨some 19,.mv (.t 18),no⟩,⟨some 20,.ld true 2 (.t 3),(some (19,false))⟩,⟨some 21,.fld 0 (.t 2),(some (19,false))⟩,⟨some 22,.ld false 1 (.t 21),(some (19,false))⟩,⟨some 23,.call (.k (.fn (.func 25) [] [])) [.t 20,.t 22],(some (19,false))⟩,⟨some 24,.un .not (.t 23),(some (19,false))⟩,⟨some 25,.pick (.t 19) (.k (.bool true)) (.t 24),no⟩]) (.cond (.t 25) (.seq  (.reg [⟨some 26,.build [(.int .i64 0),(.nil 1)] [],no⟩,⟨no,.st 2 (.t 4) (.t 26),no⟩,⟨some 5,.mv (.k (.bool false)),no⟩]) .ret) .skip))
def sk2:AC:=(.reg [⟨some 27,.fld 1 (.t 2),no⟩,⟨some 28,.ld false 1 (.t 27),no⟩,⟨some 29,.len false (.t 28),no⟩,⟨some 6,.mv (.t 29),no⟩])
def sk3:AC:=(.reg [⟨some 30,.bslb 3 [],no⟩,⟨some 7,.mv (.t 30),no⟩])
def ska:AC:=(.reg [⟨some 36,.mv (.t 6),no⟩,⟨some 37,.bin .add (.t 36) (.k (.int .i64 1)),no⟩,⟨some 38,.mks 8 [(.int .i64 0)] (.t 37) (.t 37),no⟩,⟨some 9,.mv (.t 38),no⟩])
def skb:AC:=(.reg [⟨some 39,.mv (.t 9),no⟩,⟨some 40,.mv (.t 8),no⟩,⟨some 41,.ixa 1 (.t 39) (.t 40),no⟩,⟨no,.st 1 (.t 41) (.k (.int .i64 1)),no⟩])
def skc:AC:=(.reg [⟨some 42,.mv (.t 7),no⟩,⟨some 43,.fld 1 (.t 2),no⟩,⟨some 44,.ld false 1 (.t 43),no⟩,⟨some 45,.mv (.t 8),no⟩,⟨some 46,.ixa 2 (.t 44) (.t 45),no⟩,⟨some 47,.ld true 2 (.t 46),no⟩,⟨some 48,.mv (.t 9),no⟩,⟨some 49,.build [(.int .i64 0),(.nil 1),(.nil 1)] [(0,(2,(.t 47))),(2,(1,(.t 48)))],no⟩,⟨some 50,.bslb 3 [.t 49],no⟩,⟨some 51,.appb 56 3 (.t 42) (.t 50),no⟩,⟨some 7,.mv (.t 51),no⟩])
def sk4:AC:=(.seq  (.reg [⟨some 8,.mv (.k (.int .i64 0)),no⟩]) (.blk 0 (.loop (.seq (.seq  (.reg [⟨some 31,.mv (.t 8),no⟩,⟨some 32,.mv (.t 6),no⟩,⟨some 33,.bin .lss (.t 31) (.t 32),no⟩]) (.cond (.t 33) .skip (.exit 0))) (.seq (.blk 1 (.seq  ska (.seq  skb  skc)))  (.reg [⟨some 34,.mv (.t 8),no⟩,⟨some 35,.bin .add (.t 34) (.k (.int .i64 1)),no⟩,⟨some 8,.mv (.t 35),no⟩]))))))
def sk5:AC:=(.draw (.op ⟨some 53,.fld 0 (.t 2),no⟩ (.op ⟨some 54,.ld false 1 (.t 53),no⟩ (.op ⟨some 56,.ld true 2 (.t 3),no⟩ (.both (.op ⟨some 55,.call (.k (.fn (.func 27) [] [])) [(.k (.int .i64 (-1))),.t 54],no⟩ (.both (.op ⟨some 57,.call (.k (.fn (.func 26) [] [])) [.t 55,(.k (.int .i64 (-1))),.t 56],no⟩ (.op ⟨some 52,.mv (.t 57),no⟩ (.op ⟨some 58,.ext (.t 52) 0,no⟩ (.op ⟨some 59,.ext (.t 52) 1,no⟩ (.op ⟨some 10,.box [(.int .i64 0),(.nil 1)],no⟩ (.hop ⟨no,.st 2 (.t 10) (.t 58),no⟩ [] (.op ⟨some 11,.mv (.t 59),no⟩ .fin))))))) (.op ⟨some 10,.box [(.int .i64 0),(.nil 1)],no⟩ (.op ⟨some 57,.call (.k (.fn (.func 26) [] [])) [.t 55,(.k (.int .i64 (-1))),.t 56],no⟩ (.op ⟨some 52,.mv (.t 57),no⟩ (.op ⟨some 58,.ext (.t 52) 0,no⟩ (.op ⟨some 59,.ext (.t 52) 1,no⟩ (.hop ⟨no,.st 2 (.t 10) (.t 58),no⟩ [] (.op ⟨some 11,.mv (.t 59),no⟩ .fin))))))))) (.op ⟨some 10,.box [(.int .i64 0),(.nil 1)],no⟩ (.op ⟨some 55,.call (.k (.fn (.func 27) [] [])) [(.k (.int .i64 (-1))),.t 54],no⟩ (.op ⟨some 57,.call (.k (.fn (.func 26) [] [])) [.t 55,(.k (.int .i64 (-1))),.t 56],no⟩ (.op ⟨some 52,.mv (.t 57),no⟩ (.op ⟨some 58,.ext (.t 52) 0,no⟩ (.op ⟨some 59,.ext (.t 52) 1,no⟩ (.hop ⟨no,.st 2 (.t 10) (.t 58),no⟩ [] (.op ⟨some 11,.mv (.t 59),no⟩ .fin)))))))))))))
def sk6:AC:=(.seq  (.reg [⟨some 60,.mv (.t 11),no⟩,⟨some 61,.un .not (.t 60),no⟩]) (.cond (.t 61) (.seq  (.reg [⟨some 62,.build [(.int .i64 0),(.nil 1)] [],no⟩,⟨no,.st 2 (.t 4) (.t 62),no⟩,⟨some 5,.mv (.k (.bool false)),no⟩]) .ret) .skip))
def sk7:AC:=(.reg [⟨some 63,.mv (.t 6),no⟩,⟨some 64,.bin .add (.t 63) (.k (.int .i64 1)),no⟩,⟨some 65,.mks 8 [(.int .i64 0)] (.t 64) (.t 64),no⟩,⟨some 12,.mv (.t 65),no⟩])
def sk8:AC:=(.reg [⟨some 66,.mv (.t 12),no⟩,⟨some 67,.mv (.t 6),no⟩,⟨some 68,.ixa 1 (.t 66) (.t 67),no⟩,⟨no,.st 1 (.t 68) (.k (.int .i64 1)),no⟩])
def sk9:AC:=(.reg [⟨some 69,.mv (.t 7),no⟩,⟨some 70,.ld true 2 (.t 10),no⟩,⟨some 71,.mv (.t 12),no⟩,⟨some 72,.build [(.int .i64 0),(.nil 1),(.nil 1)] [(0,(2,(.t 70))),(2,(1,(.t 71)))],no⟩,⟨some 73,.bslb 3 [.t 72],no⟩,⟨some 74,.appb 56 3 (.t 69) (.t 73),no⟩,⟨some 7,.mv (.t 74),no⟩])
def sk10:AC:=(.seq  (.reg [⟨some 13,.mv (.k (.int .i64 0)),no⟩]) (.blk 2 (.loop (.seq (.seq  (.reg [⟨some 75,.mv (.t 13),no⟩,⟨some 76,.fld 0 (.t 2),no⟩,⟨some 77,.ld false 1 (.t 76),no⟩,⟨some 78,.bin .lss (.t 75) (.t 77),no⟩]) (.cond (.t 78) .skip (.exit 2))) (.seq (.blk 3 (.seq  (.reg [⟨some 81,.mv (.t 7),no⟩,⟨some 82,.mv (.t 13),no⟩,⟨some 83,.call (.k (.fn (.func 28) [] [])) [.t 81,.t 82],no⟩,⟨some 7,.mv (.t 83),no⟩]) (.seq  (.reg [⟨some 84,.mv (.t 7),no⟩,⟨some 85,.len false (.t 84),no⟩,⟨some 86,.bin .gtr (.t 85) (.k (.int .i64 60)),no⟩]) (.cond (.t 86) (.seq  (.reg [⟨some 87,.build [(.int .i64 0),(.nil 1)] [],no⟩,⟨no,.st 2 (.t 4) (.t 87),no⟩,⟨some 5,.mv (.k (.bool false)),no⟩]) .ret) .skip))))  (.reg [⟨some 79,.mv (.t 13),no⟩,⟨some 80,.bin .add (.t 79) (.k (.int .i64 1)),no⟩,⟨some 13,.mv (.t 80),no⟩]))))))
def skg:AC:=(.reg [⟨some 94,.mv (.t 7),no⟩,⟨some 95,.mv (.t 14),no⟩,⟨some 96,.ixa 3 (.t 94) (.t 95),no⟩,⟨some 97,.fld 0 (.t 96),no⟩,⟨some 98,.fld 0 (.t 97),no⟩,⟨some 99,.ld false 1 (.t 98),no⟩,⟨some 100,.bin .lss (.t 99) (.k (.int .i64 0)),no⟩])
def skh:AC:=(.draw (.op ⟨some 101,.mv (.t 7),no⟩ (.op ⟨some 102,.mv (.t 14),no⟩ (.op ⟨some 103,.ixa 3 (.t 101) (.t 102),no⟩ (.op ⟨some 104,.fld 2 (.t 103),no⟩ (.op ⟨some 105,.ld false 1 (.t 104),no⟩ (.op ⟨some 106,.mv (.t 6),no⟩ (.op ⟨some 107,.ixa 1 (.t 105) (.t 106),no⟩ (.op ⟨some 108,.ld false 1 (.t 107),no⟩ (.op ⟨some 110,.mv (.t 7),no⟩ (.op ⟨some 111,.mv (.t 14),no⟩ (.op ⟨some 112,.ixa 3 (.t 110) (.t 111),no⟩ (.op ⟨some 113,.fld 2 (.t 112),no⟩ (.op ⟨some 114,.ld false 1 (.t 113),no⟩ (.op ⟨some 115,.mv (.t 6),no⟩ (.op ⟨some 116,.slc false 1 (.t 114) Option.none (some (.t 115)),no⟩ (.both (.hop ⟨some 109,.bsl 1 [],no⟩ [(.slc false 1 (.t 114) Option.none (some (.t 115))),(.ld false 1 (.t 113)),(.fld 2 (.t 112)),(.ixa 3 (.t 110) (.t 111)),(.ld false 1 (.t 107)),(.ixa 1 (.t 105) (.t 106)),(.ld false 1 (.t 104)),(.fld 2 (.t 103)),(.ixa 3 (.t 101) (.t 102))] (.both (.hop ⟨some 117,.app 8 1 (.t 109) (.t 116),no⟩ [(.ld false 1 (.t 107)),(.ixa 1 (.t 105) (.t 106)),(.ld false 1 (.t 104)),(.fld 2 (.t 103)),(.ixa 3 (.t 101) (.t 102))] (.op ⟨some 118,.build [(.int .i64 0),(.nil 1)] [(0,(1,(.t 108))),(1,(1,(.t 117)))],no⟩ (.op ⟨some 15,.box [(.int .i64 0),(.nil 1)],no⟩ (.hop ⟨no,.st 2 (.t 15) (.t 118),no⟩ [] .fin)))) (.op ⟨some 15,.box [(.int .i64 0),(.nil 1)],no⟩ (.hop ⟨some 117,.app 8 1 (.t 109) (.t 116),no⟩ [(.ld false 1 (.t 107)),(.ixa 1 (.t 105) (.t 106)),(.ld false 1 (.t 104)),(.fld 2 (.t 103)),(.ixa 3 (.t 101) (.t 102))] (.op ⟨some 118,.build [(.int .i64 0),(.nil 1)] [(0,(1,(.t 108))),(1,(1,(.t 117)))],no⟩ (.hop ⟨no,.st 2 (.t 15) (.t 118),no⟩ [] .fin)))))) (.op ⟨some 15,.box [(.int .i64 0),(.nil 1)],no⟩ (.hop ⟨some 109,.bsl 1 [],no⟩ [(.slc false 1 (.t 114) Option.none (some (.t 115))),(.ld false 1 (.t 113)),(.fld 2 (.t 112)),(.ixa 3 (.t 110) (.t 111)),(.ld false 1 (.t 107)),(.ixa 1 (.t 105) (.t 106)),(.ld false 1 (.t 104)),(.fld 2 (.t 103)),(.ixa 3 (.t 101) (.t 102))] (.hop ⟨some 117,.app 8 1 (.t 109) (.t 116),no⟩ [(.ld false 1 (.t 107)),(.ixa 1 (.t 105) (.t 106)),(.ld false 1 (.t 104)),(.fld 2 (.t 103)),(.ixa 3 (.t 101) (.t 102))] (.op ⟨some 118,.build [(.int .i64 0),(.nil 1)] [(0,(1,(.t 108))),(1,(1,(.t 117)))],no⟩ (.hop ⟨no,.st 2 (.t 15) (.t 118),no⟩ [] .fin))))))))))))))))))))))
def ski:AC:=(.seq skh (.seq (.seq  (.reg [⟨some 119,.ld true 2 (.t 2),no⟩,⟨some 120,.ld true 2 (.t 3),no⟩,⟨some 121,.ld true 2 (.t 15),no⟩,⟨some 122,.call (.k (.fn (.func 29) [] [])) [.t 119,.t 120,.t 121],no⟩,⟨some 123,.un .not (.t 122),no⟩]) (.cond (.t 123) (.seq  (.reg [⟨some 124,.build [(.int .i64 0),(.nil 1)] [],no⟩,⟨no,.st 2 (.t 4) (.t 124),no⟩,⟨some 5,.mv (.k (.bool false)),no⟩]) .ret) .skip)) (.seq  (.reg [⟨some 125,.ld true 2 (.t 15),no⟩,⟨no,.st 2 (.t 4) (.t 125),no⟩,⟨some 5,.mv (.k (.bool true)),no⟩]) .ret)))
def sk11:AC:=(.seq  (.reg [⟨some 14,.mv (.k (.int .i64 0)),no⟩]) (.blk 4 (.loop (.seq (.seq  (.reg [⟨some 88,.mv (.t 14),no⟩,⟨some 89,.mv (.t 7),no⟩,⟨some 90,.len false (.t 89),no⟩,⟨some 91,.bin .lss (.t 88) (.t 90),no⟩]) (.cond (.t 91) .skip (.exit 4))) (.seq (.blk 5 (.seq  skg (.cond (.t 100) ski .skip)))  (.reg [⟨some 92,.mv (.t 14),no⟩,⟨some 93,.bin .add (.t 92) (.k (.int .i64 1)),no⟩,⟨some 14,.mv (.t 93),no⟩]))))))
def sk12:AC:=(.reg [⟨some 126,.build [(.int .i64 0),(.nil 1)] [],no⟩,⟨no,.st 2 (.t 4) (.t 126),no⟩,⟨some 5,.mv (.k (.bool false)),no⟩])
def a14:AFn:=⟨127,[(.c 4 true 2),.t 5],(.seq sk0 (.seq sk1 (.seq sk2 (.seq sk3 (.seq sk4 (.seq sk5 (.seq sk6 (.seq sk7 (.seq sk8 (.seq sk9 (.seq sk10 (.seq sk11 (.seq sk12 .ret)))))))))))))⟩
theorem a14_ok:compFnX true Try.prog Try.f14=some a14:=by kernel_rfl
set_option maxRecDepth 20000
set_option maxHeartbeats 2000000
theorem unit_app {m k:Nat} (hk:k<m):(List.replicate (m+1) (0:Int)).set k 1=unitI m k++[0]:=by
 rw [List.replicate_succ',List.set_append_left _ _ (by simpa using hk)]; rfl
theorem last_app {m:Nat} : (List.replicate (m+1) (0:Int)).set m 1=List.replicate m 0++[1]:=by
 rw [List.replicate_succ',List.set_append_right _ _ (by simp)]; simp
theorem set_rows {m k:Nat} : (List.replicate m [i64 0]).set k [i64 1]=intsR ((List.replicate m 0).set k 1):=unit_rows
section
variable {ks:List Kt} {s:Env} {h h':Heap} {n:Nat} {Q:Fin}
theorem sk5_run {x:DSystem} {t:DLin} (s2:s 2 = .ptr 0 0 0) (s3:s 3 = .ptr 1 0 0) (e0:h 0=some ⟨true,2,[rASystem x]⟩) (e1:h 1=some ⟨true,2,[rALin t]⟩)
   (hK:∀ s' h' n' k q,(∀ i∈[2,3,4,6,7],s' i=s i)→n≤n'→(∀ id,id<n→h' id=h id)→s' 11 = .bool (addScaled (constLin (-1) x.N) (-1) t).isSome→s' 10 = .ptr k 0 0→LinQ ((addScaled (constLin (-1) x.N) (-1) t).getD lin0) k q h' n n'→kont Try.prog ks .normal s' h' n' Q):rC Try.prog sk5 ks s h n Q:=by
 have fr:∀ id,id<n→¬id=n∧¬id=n+1∧¬id=n+2∧¬id=n+1+1:=by intro id _; omega
 have ne:¬n=n+1∧¬n+1=n∧¬n=n+1+1∧¬n+1+1=n∧¬n+1=n+1+1∧¬n+1+1=n+1:=by omega
 simp [sk5,s2,s3,e0,e1,rASystem,rALin]
 refine ⟨?_,?_⟩
 · skip
   first|refine callD_of (ks_ConstLin (-1) x.N) (by first|simp;done|rfl) ?_|refine call_of (ks_ConstLin (-1) x.N) (by first|simp;done|rfl) ?_
   rintro r rfl
   simp [rULin]
   refine ⟨?_,?_⟩
   · skip
     first|refine callD_of (ks_AddScaled (constLin (-1) x.N) (-1) t) (by first|simp [rALin];done|rfl) ?_|refine call_of (ks_AddScaled (constLin (-1) x.N) (-1) t) (by first|simp [rALin];done|rfl) ?_
     rintro r rfl
     rw [optLin_eq]
     generalize addScaled (constLin (-1) x.N) (-1) t=T at *
     simp [rULin,ne]
     exact hK _ _ _ (n+1+1) (n+1) (by simp) (by omega) (fun id hid=>by simp [fr id hid]) (by simp) (by simp) ⟨by omega,by omega,by omega,by omega,by omega,by simp,by simp [ne]⟩
   · skip
     first|refine callD_of (ks_AddScaled (constLin (-1) x.N) (-1) t) (by first|simp [rALin,ne];done|rfl) ?_|refine call_of (ks_AddScaled (constLin (-1) x.N) (-1) t) (by first|simp [rALin,ne];done|rfl) ?_
     rintro r rfl
     rw [optLin_eq]
     generalize addScaled (constLin (-1) x.N) (-1) t=T at *
     simp [rULin,ne]
     exact hK _ _ _ (n+1) (n+1+1) (by simp) (by omega) (fun id hid=>by simp [fr id hid]) (by simp) (by simp) ⟨by omega,by omega,by omega,by omega,by omega,by simp [ne],by simp [ne]⟩
 · skip
   first|refine callD_of (ks_ConstLin (-1) x.N) (by first|simp;done|rfl) ?_|refine call_of (ks_ConstLin (-1) x.N) (by first|simp;done|rfl) ?_
   rintro r rfl
   simp [rULin,ne]
   first|refine callD_of (ks_AddScaled (constLin (-1) x.N) (-1) t) (by first|simp [rALin,ne];done|rfl) ?_|refine call_of (ks_AddScaled (constLin (-1) x.N) (-1) t) (by first|simp [rALin,ne];done|rfl) ?_
   rintro r rfl
   rw [optLin_eq]
   generalize addScaled (constLin (-1) x.N) (-1) t=T at *
   simp [rULin,ne]
   exact hK _ _ _ n (n+1+1) (by simp) (by omega) (fun id hid=>by simp [fr id hid]) (by simp) (by simp) ⟨by omega,by omega,by omega,by omega,by omega,by simp [ne],by simp [ne]⟩
theorem srow_run {x:DSystem} {acc:List DDer} {i lo:Nat} (hi:i<x.Rows.length) (hm:x.Rows.length≤20) (s2:s 2 = .ptr 0 0 0) (s6:s 6 = .int .i64 x.Rows.length) (s8:s 8 = .int .i64 i) (e0:h 0=some ⟨true,2,[rASystem x]⟩) (h0:0<n) (hlo:lo≤n) (B:LstV DerS 3 lo acc (s 7) h n) (hl:acc.length≤4000)
   (hK:∀ s' h' n',(∀ j∈[2,3,4,6,8],s' j=s j)→n≤n'→Keeps h h' n→(∀ id,id<n→(∀ k,s 7 ≠ .ref id 0 k)→h' id=h id)→LstV DerS 3 lo (acc++[⟨x.Rows[i],unitI x.Rows.length i,0⟩]) (s' 7) h' n'→kont Try.prog ks .normal s' h' n' Q):rC Try.prog (.seq ska (.seq skb skc)) ks s h n Q:=by
 have ne:¬n=n+1∧¬n+1=n∧¬n=n+1+1∧¬n+1+1=n∧¬n+1=n+1+1∧¬n+1+1=n+1∧¬0=n∧¬0=n+1:=by omega
 have fr:∀ id,id<n→¬id=n∧¬id=n+1∧¬id=n+1+1:=by intro id _; omega
 have hw:IntKind.i64.wrap ((x.Rows.length:Int)+1)=(x.Rows.length:Int)+1:=wrap64 (by omega)
 have hi2:i<x.Rows.length+1:=by omega
 have hnn:¬((x.Rows.length:Int)+1<0):=by omega
 have hi3:(i:Int)<(x.Rows.length:Int)+1:=by omega
 simp [ska,skb,s2,s6,s8,hw,List.getElem?_replicate,hi2,hi3]
 refine ⟨by omega,by unfold LIM; omega,by omega,?_⟩
 have hu:=set_rows (m:=x.Rows.length+1) (k:=i)
 rw [unit_app hi] at hu
 simp only [i64] at hu
 rw [hu]
 have kp:Keeps h (upd h n (some ⟨false,1,intsR (unitI x.Rows.length i++[0])⟩)) n:=Keeps.of fun id hid=>by simp [fr id hid]
 have hul:(unitI x.Rows.length i++[0]).length=x.Rows.length+1:=by simp [unitI]
 simp [skc,ne,s2,s8,e0,hi,rASystem,rALin]
 have kp2:Keeps h (upd (upd h n (some ⟨false,1,intsR (unitI x.Rows.length i++[0])⟩)) (n+1) (some ⟨true,3,[[.int .i64 x.Rows[i].Const,.sl 1 (intsR x.Rows[i].Coeffs),.ref n 0 (x.Rows.length+1)]]⟩)) n:=Keeps.of fun id hid=>by simp [fr id hid]
 have B':=LstV.keep (R:=DerS) (n':=n+1+1) (fun _ _ _ _ _ _=>DerS.keep) B (by omega) kp2 fun id rows _ hid _ e=>by simp [fr id hid,e]
 refine appbV_lst (R:=DerS) (fun _ _ _ _ _ _=>DerS.keep) B' (r:=[.int .i64 x.Rows[i].Const,.sl 1 (intsR x.Rows[i].Coeffs),.ref n 0 (x.Rows.length+1)]) (d:=⟨x.Rows[i],unitI x.Rows.length i,0⟩) (by simp [srcRowsB]) ⟨_,_,rfl,.inl rfl,.inr ⟨n,by omega,by rw [hul],by simp [ne]⟩⟩ (by omega) (by unfold LIM; omega) ?_
 intro h' k1 k2 k3
 simp
 refine hK _ _ _ (by simp) (by omega) (kp2.trans k1 (by omega)) (fun id hid hv=>by rw [k2 id (by omega) hv]; simp [fr id hid]) (by simpa using k3)
theorem sk4_run {x:DSystem} {n0:Nat} {h0:Heap} (hm:x.Rows.length≤20) (s2:s 2 = .ptr 0 0 0) (s6:s 6 = .int .i64 x.Rows.length) (e0:h0 0=some ⟨true,2,[rASystem x]⟩) (hn0:0<n0) (hn:n0≤n) (hf:∀ id,id<n0→h id=h0 id) (B0:LstV DerS 3 n0 [] (s 7) h n)
   (hK:∀ s' h' n',(∀ j∈[2,3,4,6],s' j=s j)→n0≤n'→(∀ id,id<n0→h' id=h0 id)→LstV DerS 3 n0 (stR x.Rows) (s' 7) h' n'→kont Try.prog ks .normal s' h' n' Q):rC Try.prog sk4 ks s h n Q:=by
 simp [sk4]
 refine rL_forO [2,3,4,6] 8 x.Rows.length (fun i s h m=>n0≤m∧(∀ id,id<n0→h id=h0 id)∧LstV DerS 3 n0 ((stR x.Rows).take i) (s 7) h m) (by unfold LIM; omega) (by simp) ⟨hn,hf,by simpa using B0⟩ ?_ ?_
 · rintro i st h1 m1 R hi hgi hk s8 hw ⟨hm1,hf1,B⟩ hR hret _
   simp at hk
   refine rC_seqI (rC_cut [2,3,4,6,7,8] (fun s=>s 33 = .bool true) (by simp [hk,s8,hi,s6]) ?_)
   intro st1 hk1 s33
   simp at hk1
   refine rC_pass1 s33 (rC_seqI (rC_blkI ?_))
   refine srow_run (acc:=(stR x.Rows).take i) (lo:=n0) hi hm (by simp [hk1,hk,s2]) (by simp [hk1,hk,s6]) (by simp [hk1,s8]) (by rw [hf1 0 hn0,e0]) (by omega) hm1 (by simpa [hk1] using B) (by simp [stR]; omega) ?_
   intro st2 h2 m2 hk2 hm2 kp2 hf2 B2
   simp at hk2
   simp [hk2,hk1,s8,hw]
   refine hR _ _ _ (by simp [hk2,hk1,hk]) (by simp) ⟨by omega,fun id hid => ?_,?_⟩
   · rw [hf2 id (by omega) fun k e => ?_,hf1 id hid]
     have:=B.from id k (by simpa [hk1] using e)
     omega
   · rw [stR_succ hi]
     simpa using B2
 · rintro st h1 m1 R hk s8 ⟨hm1,hf1,B⟩ hret hX
   simp at hk
   have ht:(stR x.Rows).take x.Rows.length=stR x.Rows:=List.take_of_length_le (by simp [stR])
   rw [ht] at B
   refine rC_seqI (rC_cut [2,3,4,6,7] (fun s=>s 33 = .bool false) (by simp [hk,s8,s6]) ?_)
   intro st1 hk1 s33
   simp at hk1
   refine rC_stop1 s33 ?_
   refine hX _ _ _ _ ?_
   simp
   exact hK _ _ _ (by simp [hk1,hk]) hm1 hf1 (by simpa [hk1] using B)
theorem sk789_run {b:AC} {x:DSystem} {last:DLin} {acc:List DDer} {lo k10 q10 l3:Nat} (hm:x.Rows.length≤20) (s6:s 6 = .int .i64 x.Rows.length) (s10:s 10 = .ptr k10 0 0) (L:LinQ last k10 q10 h l3 n) (hlo:lo≤n) (B:LstV DerS 3 lo acc (s 7) h n) (hl:acc.length≤4000)
   (hK:∀ s' h' n',(∀ j∈[2,3,4,6],s' j=s j)→n≤n'→(∀ id,id<n→(∀ k,s 7 ≠ .ref id 0 k)→h' id=h id)→LstV DerS 3 lo (acc++[⟨last,List.replicate x.Rows.length 0,1⟩]) (s' 7) h' n'→rC Try.prog b ks s' h' n' Q):rC Try.prog (.seq sk7 (.seq sk8 (.seq sk9 b))) ks s h n Q:=by
 obtain ⟨q1,q2,q3,q4,q5,e6,eq⟩:=L
 have ne:¬n=n+1∧¬n+1=n∧¬n=n+1+1∧¬n+1+1=n∧¬n+1=n+1+1∧¬n+1+1=n+1∧¬k10=n:=by omega
 have fr:∀ id,id<n→¬id=n∧¬id=n+1∧¬id=n+1+1:=by intro id _; omega
 have hw:IntKind.i64.wrap ((x.Rows.length:Int)+1)=(x.Rows.length:Int)+1:=wrap64 (by omega)
 have hi3:(x.Rows.length:Int)<(x.Rows.length:Int)+1:=by omega
 simp [sk7,sk8,s6,hw,List.getElem?_replicate,hi3]
 refine ⟨by omega,by unfold LIM; omega,by omega,?_⟩
 have hu:=set_rows (m:=x.Rows.length+1) (k:=x.Rows.length)
 rw [last_app] at hu
 simp only [i64] at hu
 rw [hu]
 have hul:(List.replicate x.Rows.length (0:Int)++[1]).length=x.Rows.length+1:=by simp
 simp [sk9,ne,s10,e6]
 have kp2:Keeps h (upd (upd h n (some ⟨false,1,intsR (List.replicate x.Rows.length 0++[1])⟩)) (n+1) (some ⟨true,3,[[.int .i64 last.Const,.ref q10 0 last.Coeffs.length,.ref n 0 (x.Rows.length+1)]]⟩)) n:=Keeps.of fun id hid=>by simp [fr id hid]
 have B':=LstV.keep (R:=DerS) (n':=n+1+1) (fun _ _ _ _ _ _=>DerS.keep) B (by omega) kp2 fun id rows _ hid _ e=>by simp [fr id hid,e]
 refine appbV_lst (R:=DerS) (fun _ _ _ _ _ _=>DerS.keep) B' (r:=[.int .i64 last.Const,.ref q10 0 last.Coeffs.length,.ref n 0 (x.Rows.length+1)]) (d:=⟨last,List.replicate x.Rows.length 0,1⟩) (by simp [srcRowsB]) ⟨_,_,rfl,.inr (.inr ⟨q10,by omega,rfl,by simp [fr q10 q4,eq]⟩),.inr ⟨n,by omega,by rw [hul],by simp [ne]⟩⟩ (by omega) (by unfold LIM; omega) ?_
 intro h' k1 k2 k3
 simp
 exact hK _ _ _ (by simp) (by omega) (fun id hid hv=>by rw [k2 id (by omega) hv]; simp [fr id hid]) (by simpa using k3)
end
end Go.Proofs.Ytoclolkigjbcgaa

namespace Go.Proofs.Ytoclolkigjbcgaa
set_option linter.all false
open Go Go.RowKit Go.Proofs
set_option maxRecDepth 20000
set_option maxHeartbeats 2000000
section
variable {ks:List Kt} {s:Env} {h h':Heap} {n:Nat} {Q:Fin}
theorem sk10_run {x:DSystem} {m n0:Nat} {h0:Heap} {F:Option (List DDer)} {l0:List DDer} (hm:m≤20) (hx:0≤x.N∧x.N≤8) (s2:s 2 = .ptr 0 0 0) (s4:s 4 = .ptr 2 0 0) (e0:h0 0=some ⟨true,2,[rASystem x]⟩) (e2:h0 2=some ⟨true,2,[[.int .i64 0,.nil 1]]⟩) (hn0:2<n0) (hn:n0≤n) (hf:∀ id,id<n0→h id=h0 id)
   (hg0:∀ d∈l0,GD x.N.toNat m d) (hl0:l0.length≤60) (B0:LstV DerS 3 n0 l0 (s 7) h n) (hF:goE 0 x.N.toNat l0=F)
   (hret:F=Option.none→∀ s' h' n',s' 4 = .ptr 2 0 0→s' 5 = .bool false→h' 2=some ⟨true,2,[[.int .i64 0,.nil 1]]⟩→kont Try.prog ks .ret s' h' n' Q)
   (hK:∀ s' h' n' L,(∀ j∈[2,3,4,6],s' j=s j)→n0≤n'→(∀ id,id<n0→h' id=h0 id)→F=some L→L.length≤60→LstV DerS 3 n0 L (s' 7) h' n'→kont Try.prog ks .normal s' h' n' Q):rC Try.prog sk10 ks s h n Q:=by
 have e0':∀ {h':Heap},(∀ id,id<n0→h' id=h0 id)→h' 0=some ⟨true,2,[[.int .i64 x.N,.sl 2 (x.Rows.map rALin)]]⟩:=fun hh=>by rw [hh 0 (by omega),e0]; rfl
 have hN:((x.N.toNat:Nat):Int)=x.N:=by omega
 simp [sk10]
 refine rL_forO [2,3,4,6] 13 x.N.toNat (fun i s h m'=>n0≤m'∧(∀ id,id<n0→h id=h0 id)∧∃ l,(∀ d∈l,GD x.N.toNat m d)∧l.length≤60∧LstV DerS 3 n0 l (s 7) h m'∧goE i (x.N.toNat - i) l=F) (by unfold LIM; omega) (by simp) ⟨hn,hf,l0,hg0,hl0,by simpa using B0,by simpa using hF⟩ ?_ ?_
 · rintro i st h1 m1 R hi hgi hk s13 hw ⟨hm1,hf1,l,hg,hl,B,hJ⟩ hR hrt _
   simp at hk
   have hiN:(i:Int)<x.N:=by omega
   refine rC_seqI (rC_cut [2,3,4,6,7,13] (fun s=>s 78 = .bool true) (by simp [hk,s13,s2,e0' hf1,hiN]) ?_)
   intro st1 hk1 s78
   simp at hk1
   refine rC_pass1 s78 (rC_seqI (rC_blkI ?_))
   have hl2:=elimD_len (v:=i) (l:=l)
   have h60:l.length*l.length≤60*60:=Nat.mul_le_mul hl hl
   refine rC_cutH [2,3,4,6,13] (fun s h' m'=>m1≤m'∧(∀ id,id<m1→h' id=h1 id)∧LstV DerS 3 m1 (elimD i l) (s 7) h' m') ?_ ?_
   · simp [hk1,s13]
     refine call_l8Eliminate hg hm hi hl (B.low (Nat.zero_le _)) ?_
     intro a h' n' g1 g2 g3
     simp
     exact ⟨g1,g2,g3⟩
   rintro st2 h2 m2 hk2 ⟨hm2,hf2,B2⟩
   simp at hk2
   have hf20:∀ id,id<n0→h2 id=h0 id:=fun id hid=>by rw [hf2 id (by omega),hf1 id hid]
   have hs:x.N.toNat - i=(x.N.toNat - (i+1))+1:=by omega
   rw [hs] at hJ
   refine rC_cut [2,3,4,6,7,13] (fun s=>s 86 = .bool (decide (60<(elimD i l).length))) ?_ ?_
   · simp
     refine lenV_lst B2 (by unfold LIM; omega) ?_
     simp
     omega
   intro st3 hk3 s86
   simp at hk3
   by_cases h6:(elimD i l).length≤60
   · rw [goE_some h6] at hJ
     have h6':¬60<(elimD i l).length:=by omega
     simp [s86,h6',h6,hk3,hk2,hk1,s13,hw]
     exact hR _ _ _ (by simp [hk3,hk2,hk1,hk]) (by simp) ⟨by omega,hf20,_,elimD_GD hg,h6,by simpa [hk3] using B2.low hm1,hJ⟩
   · rw [goE_none h6] at hJ
     have h6':60<(elimD i l).length:=by omega
     have x4:h2 2=some ⟨true,2,[[.int .i64 0,.nil 1]]⟩:=by rw [hf20 2 hn0,e2]
     simp [s86,h6',h6,hk3,hk2,hk1,hk,s4,x4]
     refine hrt _ _ _ (hret hJ.symm _ _ _ (by simp [hk3,hk2,hk1,hk,s4]) (by simp) (by simp))
 · rintro st h1 m1 R hk s13 ⟨hm1,hf1,l,hg,hl,B,hJ⟩ hrt hX
   simp at hk
   rw [Nat.sub_self] at hJ
   simp only [goE] at hJ
   have hiN:¬((x.N.toNat:Nat):Int)<x.N:=by omega
   refine rC_seqI (rC_cut [2,3,4,6,7] (fun s=>s 78 = .bool false) (by simp [hk,s13,s2,e0' hf1]; omega) ?_)
   intro st1 hk1 s78
   simp at hk1
   refine rC_stop1 s78 ?_
   refine hX _ _ _ _ ?_
   simp
   exact hK _ _ _ l (by simp [hk1,hk]) hm1 hf1 hJ.symm hl (by simpa [hk1] using B)
theorem skh_run {L:List DDer} {v:AV} {i lo:Nat} (B:LstV DerS 3 lo L v h n) (hi:i<L.length) (h20:L[i].mult.length≤20) (s7:s 7=v) (s14:s 14 = .int .i64 i) (s6:s 6 = .int .i64 L[i].mult.length)
   (hK:∀ s' h' n' k q,(∀ j∈[2,3,4,6,7,14],s' j=s j)→n≤n'→(∀ id,id<n→h' id=h id)→s' 15 = .ptr k 0 0→n≤k→k<n'→n≤q→q<n'→¬k=q→h' k=some ⟨true,2,[[.int .i64 L[i].scale,.ref q 0 L[i].mult.length]]⟩→h' q=some ⟨false,1,intsR L[i].mult⟩→kont Try.prog ks .normal s' h' n' Q):rC Try.prog skh ks s h n Q:=by
 have fr:∀ id,id<n→¬id=n∧¬id=n+1∧¬id=n+1+1:=by intro id _; omega
 have ne:¬n=n+1∧¬n+1=n∧¬n=n+1+1∧¬n+1+1=n∧¬n+1=n+1+1∧¬n+1+1=n+1:=by omega
 rcases B with ⟨_,rfl⟩ | ⟨id,rows,_,hid,rfl,e,hl,hx⟩
 · simp at hi
 obtain ⟨r,g1,v1,v2,rfl,_,g2⟩:=hx i L[i] (List.getElem?_eq_getElem hi)
 have hir:i<rows.length:=by omega
 rw [List.getElem?_eq_getElem hir] at g1
 have hr:=Option.some.inj g1
 rcases g2 with ⟨_,hz⟩ | ⟨im,him,rfl,eim⟩
 · simp at hz
 generalize hmu:L[i].mult=mu at *
 generalize hsc:L[i].scale=sc at *
 have f1:=fr id hid
 have f2:=fr im him
 have hii:¬im=id:=by rintro rfl; rw [e] at eim; simp at eim
 have hlt:(mu.length:Int)<(mu.length:Int)+1:=by omega
 have ht:List.take mu.length (intsR (mu++[sc]))=intsR mu:=by simp [intsR]
 have hii2:¬id=im:=fun e=>hii e.symm
 have f3:¬n=im∧¬n+1=im∧¬n+1+1=im:=by omega
 have hl8:mu.length*8≤LIM:=by unfold LIM; omega
 have hl9:(mu.length:Int)≤(mu.length:Int)+1:=by omega
 have hfr:∀ j,(if j=im then some (⟨false,1,intsR (mu++[sc])⟩:Blk) else h j)=h j:=fun j=>by
   by_cases hj:j=im
   · subst hj; simp [eim]
   · simp [hj]
 simp [skh,s7,s14,s6,e,hi,hir,hr,eim,lowOf,hlt,f1,f2,f3,hii,hii2,ht,ne,hl8,hl9]
 refine ⟨⟨?_,?_⟩,?_⟩
 · exact hK _ _ _ (n+1+1) (n+1) (by simp [s7,s14,s6]) (by omega) (fun j hj=>by simp [fr j hj,hfr j]) (by simp) (by omega) (by omega) (by omega) (by omega) (by omega) (by simp) (by simp [ne])
 · exact hK _ _ _ (n+1) (n+1+1) (by simp [s7,s14,s6]) (by omega) (fun j hj=>by simp [fr j hj,hfr j]) (by simp) (by omega) (by omega) (by omega) (by omega) (by omega) (by simp [ne]) (by simp [ne])
 · exact hK _ _ _ n (n+1+1) (by simp [s7,s14,s6]) (by omega) (fun j hj=>by simp [fr j hj,hfr j]) (by simp) (by omega) (by omega) (by omega) (by omega) (by omega) (by simp [ne]) (by simp [ne])
theorem sk11_run {x:DSystem} {t:DLin} {L:List DDer} {n0:Nat} (hgL:∀ d∈L,d.mult.length=x.Rows.length) (hm:x.Rows.length≤20) (hL:L.length≤60) (hn0:2<n0) (hn:n0≤n) (s2:s 2 = .ptr 0 0 0) (s3:s 3 = .ptr 1 0 0) (s4:s 4 = .ptr 2 0 0) (s6:s 6 = .int .i64 x.Rows.length) (e0:h 0=some ⟨true,2,[rASystem x]⟩) (e1:h 1=some ⟨true,2,[rALin t]⟩) (e2:h 2=some ⟨true,2,[[.int .i64 0,.nil 1]]⟩) (B0:LstV DerS 3 n0 L (s 7) h n)
   (hret:∀ s' h' n',ResF (findL x t L) s' h' n'→kont Try.prog ks .ret s' h' n' Q)
   (hK:∀ s' h' n',findL x t L=Option.none→s' 4 = .ptr 2 0 0→h' 2=some ⟨true,2,[[.int .i64 0,.nil 1]]⟩→kont Try.prog ks .normal s' h' n' Q):rC Try.prog sk11 ks s h n Q:=by
 simp [sk11]
 refine rL_forO [2,3,4,6,7] 14 L.length (fun i s h' m=>h'=h∧m=n∧findL x t (L.drop i)=findL x t L) (by unfold LIM; omega) (by simp) ⟨rfl,rfl,by simp⟩ ?_ ?_
 · rintro i st h1 m1 R hi hgi hk s14 hw ⟨rfl,rfl,hJ⟩ hR hrt _
   simp at hk
   rw [List.drop_eq_getElem_cons hi] at hJ
   have hmi:=hgL _ (List.getElem_mem hi)
   refine rC_seqI (rC_cut [2,3,4,6,7,14] (fun s=>s 91 = .bool true) ?_ ?_)
   · simp [hk,s14]
     refine lenV_lst B0 (by unfold LIM; omega) ?_
     simp [hk,s14,hi]
   intro st1 hk1 s91
   simp at hk1
   refine rC_pass1 s91 (rC_seqI (rC_blkI ?_))
   refine rC_cut [2,3,4,6,7,14] (fun s=>s 100 = .bool (decide ((L[i]).l.Const<0))) ?_ ?_
   · simp [skg,hk1,hk,s14]
     refine ixaV_lst B0 hi ?_
     intro id rows r hid e hl hr hD
     obtain ⟨v1,v2,rfl,g1,g2⟩:=hD
     simp [e,hl,hr]
   intro st2 hk2 s100
   simp at hk2
   by_cases hc:(L[i]).l.Const<0
   · have hfind:findL x t (L[i]::L.drop (i+1))=if checkF x t ⟨L[i].scale,L[i].mult⟩ then some ⟨L[i].scale,L[i].mult⟩ else Option.none:=by
       unfold findL
       rw [List.find?_cons,decide_eq_true hc]
     rw [hfind] at hJ
     simp [s100,hc,ski]
     refine skh_run B0 hi (by rw [hmi]; exact hm) (by simp [hk2,hk1,hk]) (by simp [hk2,hk1,s14]) (by rw [hk2.2.2.2.1,hk1.2.2.2.1,hk.2.2.2.1,s6,hmi]) ?_
     intro st3 h3 m3 k q hk3 hm3 hf3 s15 hk15 hkm hq hqm hkq ek eq
     simp at hk3
     have e0':h3 0=some ⟨true,2,[rASystem x]⟩:=by rw [hf3 0 (by omega),e0]
     have e1':h3 1=some ⟨true,2,[rALin t]⟩:=by rw [hf3 1 (by omega),e1]
     have e2':h3 2=some ⟨true,2,[[.int .i64 0,.nil 1]]⟩:=by rw [hf3 2 (by omega),e2]
     have y2:st3 2 = .ptr 0 0 0:=by rw [hk3.1,hk2.1,hk1.1,hk.1,s2]
     have y3:st3 3 = .ptr 1 0 0:=by rw [hk3.2.1,hk2.2.1,hk1.2.1,hk.2.1,s3]
     have y4:st3 4 = .ptr 2 0 0:=by rw [hk3.2.2.1,hk2.2.2.1,hk1.2.2.1,hk.2.2.1,s4]
     have n2:¬k=2:=by omega
     have hb:∀ H:Heap,H q=some ⟨false,1,intsR L[i].mult⟩→bw (.ref q 0 L[i].mult.length) H=some (.sl 1 (intsR L[i].mult)):=fun H hH=>by simp [hH]
     simp [y2,y3,s15,e0',e1',ek,rASystem,rALin]
     refine call_of (ks_CheckFarkas x t ⟨L[i].scale,L[i].mult⟩) ?_ ?_
     · simp only [bwl,bw]
       simp [eq,rASystem,rALin,rAFarkas]
     rintro r rfl
     cases hch:checkF x t ⟨L[i].scale,L[i].mult⟩
     · rw [hch] at hJ
       simp [y4,e2']
       refine hrt _ _ _ (hret _ _ _ ?_)
       rw [←hJ]
       exact ResF.no (by simp [y4]) (by simp) (by simp)
     · rw [hch] at hJ
       simp [y4,e2',s15,ek]
       refine hrt _ _ _ (hret _ _ _ ?_)
       rw [←hJ]
       refine ⟨by simp [y4],by simp,.ref q 0 L[i].mult.length,by simp,.inr ⟨q,hqm,rfl,?_⟩⟩
       have:¬q=2:=by omega
       simp [this,eq]
   · have hfind:findL x t (L[i]::L.drop (i+1))=findL x t (L.drop (i+1)):=by
       unfold findL
       rw [List.find?_cons,decide_eq_false hc]
     rw [hfind] at hJ
     simp [s100,hc,hk2,hk1,s14,hw]
     exact hR _ _ _ (by simp [hk2,hk1,hk]) (by simp) ⟨rfl,rfl,hJ⟩
 · rintro st h1 m1 R hk s14 ⟨rfl,rfl,hJ⟩ hrt hX
   simp at hk
   rw [List.drop_eq_nil_of_le (by omega)] at hJ
   refine rC_seqI (rC_cut [2,3,4] (fun s=>s 91 = .bool false) ?_ ?_)
   · simp [hk,s14]
     refine lenV_lst B0 (by unfold LIM; omega) ?_
     simp [hk,s14]
   intro st1 hk1 s91
   simp at hk1
   refine rC_stop1 s91 ?_
   refine hX _ _ _ _ ?_
   simp
   exact hK _ _ _ hJ.symm (by simp [hk1,hk,s4]) e2
end
theorem ks_FindFarkas (x:DSystem) (t:DLin):Holds Try.prog 14 [.agg (rASystem x),.agg (rALin t)] (fun r=>r=optFk (findF x t)):=by
 refine holds_of_run Try.func14 a14_ok rfl (by simp [a14]) ?_
 simp [a14,sk0,sk1]
 first|refine callD_of (ks_IsValidSystem x) (by first|simp;done|rfl) ?_|refine call_of (ks_IsValidSystem x) (by first|simp;done|rfl) ?_
 rintro r rfl
 generalize hF:findF x t=F
 cases h1:okSys x
 · have:=findF_no (x:=x) (t:=t) (by rw [h1]; rfl)
   rw [this] at hF
   subst hF
   simp [optFk,farkas0,rUFarkas,intsR]
 simp [rASystem]
 first|refine callD_of (ks_IsValidLin t x.N) (by first|simp;done|rfl) ?_|refine call_of (ks_IsValidLin t x.N) (by first|simp;done|rfl) ?_
 rintro r rfl
 cases h2:okLin t x.N
 · have:=findF_no (x:=x) (t:=t) (by rw [h1,h2]; rfl)
   rw [this] at hF
   subst hF
   simp [optFk,farkas0,rUFarkas,intsR]
 have hsys:=sys_rows h1
 simp [sk2,sk3,rASystem]
 intro _
 refine sk4_run (x:=x) (n0:=3) (h0:=upd (upd (upd noHeap 0 (some ⟨true,2,[rASystem x]⟩)) 1 (some ⟨true,2,[rALin t]⟩)) 2 (some ⟨true,2,[[.int .i64 0,.nil 1]]⟩)) hsys.1 (by simp) (by simp) (by simp) (by omega) (by omega) ?_ ?_ ?_
 · intro id hid
   have:¬id=3:=by omega
   simp [this,rASystem,rALin]
 · exact .inr ⟨3,[],Nat.le_refl _,by omega,by simp,by simp,rfl,by simp⟩
 intro s4 h4 n4 hk4 hn4 hf4 B4
 simp at hk4
 simp
 have z0:h4 0=some ⟨true,2,[rASystem x]⟩:=by rw [hf4 0 (by omega)]; simp
 have z1:h4 1=some ⟨true,2,[rALin t]⟩:=by rw [hf4 1 (by omega)]; simp
 have z2:h4 2=some ⟨true,2,[[.int .i64 0,.nil 1]]⟩:=by rw [hf4 2 (by omega)]; simp
 refine sk5_run (x:=x) (t:=t) (by simp [hk4]) (by simp [hk4]) z0 z1 ?_
 intro s5 h5 n5 k10 q10 hk5 hn5 hf5 s11 s10 L5
 simp at hk5
 simp
 have B5:LstV DerS 3 3 (stR x.Rows) (s4 7) h5 n5:=LstV.keep (R:=DerS) (fun _ _ _ _ _ _=>DerS.keep) B4 hn5 (Keeps.of hf5) fun id rows _ hid _ e=>by rw [hf5 id hid,e]
 have y0:h5 0=some ⟨true,2,[rASystem x]⟩:=by rw [hf5 0 (by omega),z0]
 have y1:h5 1=some ⟨true,2,[rALin t]⟩:=by rw [hf5 1 (by omega),z1]
 have y2:h5 2=some ⟨true,2,[[.int .i64 0,.nil 1]]⟩:=by rw [hf5 2 (by omega),z2]
 cases hT:addScaled (constLin (-1) x.N) (-1) t with
 | none=>
   rw [findF_1 hT] at hF
   subst hF
   simp [sk6,s11,hT,hk5,hk4,y2,optFk,farkas0,rUFarkas,intsR]
 | some last=>
   rw [findF_2 (by rw [h1,h2]; rfl) hT] at hF
   rw [hT] at s11 L5
   simp only [Option.getD_some] at L5
   simp [sk6,s11]
   rw [←rC_seq]
   refine sk789_run (x:=x) (last:=last) (acc:=stR x.Rows) (lo:=3) hsys.1 (by simp [hk5,hk4]) (by simp [s10]) L5 (by omega) (by simpa [hk5] using B5) (by simp [stR]; omega) ?_
   intro s6 h6 n6 hk6 hn6 hf6 B6
   simp at hk6
   rw [rC_seq]
   have hne:∀ id,id<3→∀ k,s5 7 ≠ .ref id 0 k:=fun id hid k e=>by
     have:=B4.from id k (by rw [←hk5.2.2.2.2]; exact e)
     omega
   have hf60:∀ id,id<3→h6 id=h4 id:=fun id hid=>by rw [hf6 id (by omega) (by simpa using hne id hid),hf5 id (by omega)]
   rw [show stR x.Rows++[⟨last,List.replicate x.Rows.length 0,1⟩]=startD x.Rows last from rfl] at B6
   refine sk10_run (x:=x) (n0:=3) (h0:=h4) (F:=goE 0 x.N.toNat (startD x.Rows last)) hsys.1 hsys.2.1 (by simp [hk6,hk5,hk4]) (by simp [hk6,hk5,hk4]) z0 z2 (by omega) (by omega) hf60 (start_GD h1 hT) (by rw [startD_len]; omega) B6 rfl ?_ ?_
   · intro hn s' h' n' x4 x5 x2
     rw [hn] at hF
     simp at hF
     subst hF
     simp only [kont_seq_ret,kont_nil]
     exact (ResF.no (n:=n') x4 x5 x2).fin
   · intro s7' h7 n7 L hk7 hn7 hf7 hL hLl B7
     have hgd:=goE_GD (start_GD h1 hT) hL
     rw [hL] at hF
     simp only [Option.bind_some] at hF
     simp at hk7
     simp
     refine sk11_run (x:=x) (t:=t) (n0:=3) (fun d hd=>(hgd d hd).len) hsys.1 hLl (by omega) hn7 (by simp [hk7,hk6,hk5,hk4]) (by simp [hk7,hk6,hk5,hk4]) (by simp [hk7,hk6,hk5,hk4]) (by simp [hk7,hk6,hk5,hk4]) (by rw [hf7 0 (by omega),z0]) (by rw [hf7 1 (by omega),z1]) (by rw [hf7 2 (by omega),z2]) B7 ?_ ?_
     · intro s' h' n' hr
       rw [hF] at hr
       simp only [kont_seq_ret,kont_nil]
       exact hr.fin
     · intro s' h' n' hno x4 x2
       rw [hno] at hF
       subst hF
       simp [sk12,x4,x2,optFk,farkas0,rUFarkas,intsR]
end Go.Proofs.Ytoclolkigjbcgaa

namespace Go.Proofs.Ytoclolkigjbcgaa
set_option linter.all false
open Go Go.RowKit Go.Proofs
def a7:AFn:=
⟨31,[.t 2,.t 3],(.seq
 (.reg [⟨some 2,.mv (.k (.nil 2)),no⟩,⟨some 3,.mv (.k (.bool false)),no⟩]) (.seq
 (.reg [⟨some 4,.mv (.k (.nil 2)),no⟩]) (.seq (.seq
 (.reg [⟨some 9,.mv (.t 0),no⟩,⟨some 10,.len false (.t 9),no⟩,⟨some 11,.mv (.k (.int .i64 0)),no⟩]) (.blk 0 (.loop (.seq
 (.reg [⟨some 12,.bin .lss (.t 11) (.t 10),no⟩]) (.seq (.cond (.t 12) .skip (.exit 0)) (.seq (.blk 1 (.seq
 (.reg [⟨some 13,.ixa 4 (.t 9) (.t 11),no⟩,⟨some 14,.ld true 4 (.t 13),no⟩,⟨some 6,.box [(.int .i64 0),(.nil 2),(.int .i64 0),(.nil 1)],no⟩,⟨no,.st 4 (.t 6) (.t 14),no⟩]) (.seq
 (.reg [⟨some 16,.fld 0 (.t 6),no⟩,⟨some 17,.ld true 2 (.t 16),no⟩,⟨some 18,.fld 2 (.t 6),no⟩,⟨some 19,.ld true 2 (.t 18),no⟩,⟨some 20,.call (.k (.fn (.func 16) [] [])) [.t 17,.t 19],no⟩,⟨some 15,.mv (.t 20),no⟩,⟨some 21,.ext (.t 15) 0,no⟩,⟨some 22,.ext (.t 15) 1,no⟩,⟨some 7,.box [(.int .i64 0),(.nil 1)],no⟩,⟨no,.st 2 (.t 7) (.t 21),no⟩,⟨some 8,.mv (.t 22),no⟩]) (.seq (.seq
 (.reg [⟨some 23,.mv (.t 8),no⟩,⟨some 24,.un .not (.t 23),no⟩]) (.cond (.t 24) (.seq
 (.reg [⟨some 2,.mv (.k (.nil 2)),no⟩,⟨some 3,.mv (.k (.bool false)),no⟩]) .ret) .skip))
 (.reg [⟨some 25,.mv (.t 4),no⟩,⟨some 26,.ld true 2 (.t 7),no⟩,⟨some 27,.bsl 2 [.t 26],no⟩,⟨some 28,.app 32 2 (.t 25) (.t 27),no⟩,⟨some 4,.mv (.t 28),no⟩])))))
 (.reg [⟨some 29,.bin .add (.t 11) (.k (.int .i64 1)),no⟩,⟨some 11,.mv (.t 29),no⟩]))))))) (.seq
 (.reg [⟨some 30,.mv (.t 4),no⟩,⟨some 2,.mv (.t 30),no⟩,⟨some 3,.mv (.k (.bool true)),no⟩]) .ret))))⟩
theorem a7_ok:compFn Try.prog Try.f7=some a7:=by kernel_rfl
def a5:AFn:=
⟨37,[.t 2,.t 3],(.seq
 (.reg [⟨some 2,.mv (.k (.nil 2)),no⟩,⟨some 3,.mv (.k (.bool false)),no⟩]) (.seq
 (.reg [⟨some 8,.bsl 2 [],no⟩,⟨some 4,.mv (.t 8),no⟩]) (.seq (.seq
 (.reg [⟨some 5,.mv (.k (.int .i64 0)),no⟩]) (.blk 0 (.loop (.seq (.seq
 (.reg [⟨some 9,.mv (.t 5),no⟩,⟨some 10,.mv (.t 0),no⟩,⟨some 11,.len false (.t 10),no⟩,⟨some 12,.bin .lss (.t 9) (.t 11),no⟩]) (.cond (.t 12) .skip (.exit 0))) (.seq (.blk 1 (.seq (.draw (.op ⟨some 16,.mv (.t 0),no⟩ (.op ⟨some 17,.mv (.t 5),no⟩ (.op ⟨some 18,.ixa 4 (.t 16) (.t 17),no⟩ (.op ⟨some 19,.fld 0 (.t 18),no⟩ (.op ⟨some 20,.ld true 2 (.t 19),no⟩ (.op ⟨some 21,.mv (.t 0),no⟩ (.op ⟨some 22,.mv (.t 5),no⟩ (.op ⟨some 23,.ixa 4 (.t 21) (.t 22),no⟩ (.op ⟨some 24,.fld 2 (.t 23),no⟩ (.op ⟨some 25,.ld true 2 (.t 24),no⟩ (.both (.op ⟨some 26,.call (.k (.fn (.func 14) [] [])) [.t 20,.t 25],no⟩ (.op ⟨some 15,.mv (.t 26),no⟩ (.op ⟨some 27,.ext (.t 15) 0,no⟩ (.op ⟨some 28,.ext (.t 15) 1,no⟩ (.op ⟨some 6,.box [(.int .i64 0),(.nil 1)],no⟩ (.hop ⟨no,.st 2 (.t 6) (.t 27),no⟩ [] (.op ⟨some 7,.mv (.t 28),no⟩ .fin))))))) (.op ⟨some 6,.box [(.int .i64 0),(.nil 1)],no⟩ (.op ⟨some 26,.call (.k (.fn (.func 14) [] [])) [.t 20,.t 25],no⟩ (.op ⟨some 15,.mv (.t 26),no⟩ (.op ⟨some 27,.ext (.t 15) 0,no⟩ (.op ⟨some 28,.ext (.t 15) 1,no⟩ (.hop ⟨no,.st 2 (.t 6) (.t 27),no⟩ [] (.op ⟨some 7,.mv (.t 28),no⟩ .fin))))))))))))))))))) (.seq (.seq
 (.reg [⟨some 29,.mv (.t 7),no⟩,⟨some 30,.un .not (.t 29),no⟩]) (.cond (.t 30) (.seq
 (.reg [⟨some 31,.bsl 2 [],no⟩,⟨some 2,.mv (.t 31),no⟩,⟨some 3,.mv (.k (.bool false)),no⟩]) .ret) .skip))
 (.reg [⟨some 32,.mv (.t 4),no⟩,⟨some 33,.ld true 2 (.t 6),no⟩,⟨some 34,.bsl 2 [.t 33],no⟩,⟨some 35,.app 32 2 (.t 32) (.t 34),no⟩,⟨some 4,.mv (.t 35),no⟩]))))
 (.reg [⟨some 13,.mv (.t 5),no⟩,⟨some 14,.bin .add (.t 13) (.k (.int .i64 1)),no⟩,⟨some 5,.mv (.t 14),no⟩])))))) (.seq
 (.reg [⟨some 36,.mv (.t 4),no⟩,⟨some 2,.mv (.t 36),no⟩,⟨some 3,.mv (.k (.bool true)),no⟩]) .ret))))⟩
theorem a5_ok:compFn Try.prog Try.f5=some a5:=by kernel_rfl
set_option maxRecDepth 20000
set_option maxHeartbeats 2000000
theorem AccV.lt {b z:Nat} {rows:List (List AV)} {v:AV} {h:Heap} {n i k:Nat} (x:AccV b z rows v h n) (e:v = .ref i 0 k):b<i∧i<n∧h i=some ⟨false,z,rows⟩∧k=rows.length:=by
 rcases x with ⟨_,rfl⟩ | ⟨j,h1,h2,rfl,hb⟩
 · cases e
 · simp only [AV.ref.injEq] at e
   obtain ⟨rfl,_,rfl⟩:=e
   exact ⟨h1,h2,hb,rfl⟩
theorem k_ProveAll (os:List DObligation) (hol:os.length≤3000000):Holds Try.prog 7 [.sl 4 (os.map rAObligation)] (fun r=>r=optFs (proveAll os)):=by
 refine holds_of_run Try.func7 a7_ok rfl (by simp [a7]) ?_
 simp [a7]
 intro _
 generalize hF:proveAll os=F
 refine rL_forO [9,10] 11 os.length (fun i s h m=>∃ acc,acc.length=i∧AccV 0 2 (acc.map rUFarkas) (s 4) h m∧proveG acc (os.drop i)=F) (by unfold LIM; omega) (by simp) ⟨[],rfl,.inl ⟨rfl,by simp⟩,by simpa [proveAll] using hF⟩ ?_ ?_
 · rintro i st h m R hi hg hk s11 hw ⟨acc,hal,B,hJ⟩ hR hret _
   simp at hk
   rw [List.drop_eq_getElem_cons hi] at hJ
   simp only [proveG] at hJ
   refine rC_cut [4,9,10,11] (fun s=>s 12 = .bool true) (by simp [hk,s11,hi]) ?_
   intro st1 hk1 s12
   simp at hk1
   refine rC_pass s12 (rC_seqI (rC_blkI ?_))
   have fr:∀ id,id<m→¬id=m∧¬id=m+1∧¬id=m+1+1∧¬id=m+1+1+1:=by intro id _; omega
   have ne:¬m=m+1∧¬m+1=m∧¬m=m+1+1∧¬m+1+1=m∧¬m+1=m+1+1∧¬m+1+1=m+1∧¬m+1=m+1+1+1∧¬m=m+1+1+1∧¬m+1+1=m+1+1+1:=by omega
   simp [hk1,hk,s11,hi,rAObligation]
   first|refine callD_of (k_FindFarkas (os[i]'hi).System (os[i]'hi).Target) (by first|simp [rASystem,rALin];done|rfl) ?_|refine call_of (k_FindFarkas (os[i]'hi).System (os[i]'hi).Target) (by first|simp [rASystem,rALin];done|rfl) ?_
   rintro r rfl
   unfold optFk
   cases hf:findF (os[i]).System (os[i]).Target with
   | none=>
     rw [hf] at hJ
     simp only at hJ
     simp [farkas0,rUFarkas,hk1,s11,ne]
     refine hret _ _ _ ?_
     simp [←hJ,optFs]
   | some f=>
     rw [hf] at hJ
     simp only at hJ
     simp [rUFarkas,hk1,s11,ne,hk]
     refine appV_acc (rows:=acc.map rUFarkas) (rows2:=[[.int .i64 f.Scale,.us 1 (intsR f.Mult)]]) (B.keep (n':=m+1+1+1+1) (by omega) fun id _ hid e=>by simp [fr id hid]) (by simp) (fun l e=>by have:=(B.lt e).2.1; omega) (by omega) (by simp; unfold LIM; omega) ?_
     intro h1 f1 f2
     simp [hk1,s11,hw]
     refine hR _ _ _ (by simp [hk1,hk]) (by simp) ⟨acc++[f],by simp [hal],?_,hJ⟩
     simp
     exact .inr ⟨m+1+1+1+1,by omega,by omega,by simp,by simp [f1,rUFarkas]⟩
 · rintro st h m R hk s11 ⟨acc,hal,B,hJ⟩ hret hX
   simp at hk
   rw [List.drop_eq_nil_of_le (by omega)] at hJ
   simp only [proveG] at hJ
   refine rC_cut [4] (fun s=>s 12 = .bool false) (by simp [hk,s11]) ?_
   intro st1 hk1 s12
   simp at hk1
   refine rC_stop s12 ?_
   refine hX _ _ _ _ ?_
   obtain ⟨h',hd,_⟩:=B.dt
   rw [←hJ]
   simp [hk1,hd,optFs]
theorem ks_ProveAll (os:List DObligation) (hol:os.length≤3000000):Holds Try.prog 5 [.sl 4 (os.map rAObligation)] (fun r=>r=optFs (proveAll os)):=by
 refine holds_of_run Try.func5 a5_ok rfl (by simp [a5]) ?_
 simp [a5]
 generalize hF:proveAll os=F
 refine rL_forO [0] 5 os.length (fun i s h m=>∃ acc,acc.length=i∧(∃ id,id<m∧s 4 = .ref id 0 acc.length∧h id=some ⟨false,2,acc.map rUFarkas⟩)∧proveG acc (os.drop i)=F) (by unfold LIM; omega) (by simp) ⟨[],rfl,⟨0,by simp,by simp,by simp⟩,by simpa [proveAll] using hF⟩ ?_ ?_
 · rintro i st h m R hi hg hk s5 hw ⟨acc,hal,⟨id,hid,s4,eid⟩,hJ⟩ hR hret _
   simp at hk
   rw [List.drop_eq_getElem_cons hi] at hJ
   simp only [proveG] at hJ
   refine rC_seqI (rC_cut [0,4,5] (fun s=>s 12 = .bool true) (by simp [hk,s5,hi]; try (intro _; exact hi)) ?_)
   intro st1 hk1 s12
   simp at hk1
   refine rC_pass1 s12 (rC_seqI (rC_blkI ?_))
   have ne:¬m=m+1∧¬m+1=m∧¬m=m+1+1∧¬m+1+1=m∧¬m+1=m+1+1∧¬m+1+1=m+1∧¬id=m∧¬id=m+1∧¬id=m+1+1∧¬m=id∧¬m+1=id∧¬m+1+1=id:=by omega
   have ht:List.take acc.length (acc.map rUFarkas)=acc.map rUFarkas:=List.take_of_length_le (by simp)
   cases hf:findF (os[i]).System (os[i]).Target with
   | none=>
     rw [hf] at hJ
     simp only at hJ
     simp [hk1,hk,s5,hi,rAObligation]
     refine ⟨?_,?_⟩
     all_goals
       first | refine callD_of (ks_FindFarkas (os[i]'hi).System (os[i]'hi).Target) (by simp [rASystem,rALin]) ?_
       rintro r rfl
       unfold optFk
       simp [hf,farkas0,rUFarkas,hk1,s5,ne]
       refine hret _ _ _ ?_
       simp [←hJ,optFs]
   | some f=>
     rw [hf] at hJ
     simp only at hJ
     simp [hk1,hk,s5,hi,rAObligation]
     refine ⟨?_,?_⟩
     all_goals
       first | refine callD_of (ks_FindFarkas (os[i]'hi).System (os[i]'hi).Target) (by simp [rASystem,rALin]) ?_
       rintro r rfl
       unfold optFk
       simp [hf,rUFarkas,hk1,s5,hw,ne,hk,s4,eid,ht]
       refine ⟨by unfold LIM; omega,?_⟩
       refine hR _ _ _ (by simp [hk1,hk]) (by simp) ⟨acc++[f],by simp [hal],⟨m+1+1+1,by omega,by simp,by simp [rUFarkas]⟩,hJ⟩
 · rintro st h m R hk s5 ⟨acc,hal,⟨id,hid,s4,eid⟩,hJ⟩ hret hX
   simp at hk
   rw [List.drop_eq_nil_of_le (by omega)] at hJ
   simp only [proveG] at hJ
   have ht:List.take acc.length (acc.map rUFarkas)=acc.map rUFarkas:=List.take_of_length_le (by simp)
   refine rC_seqI (rC_cut [4] (fun s=>s 12 = .bool false) (by simp [hk,s5]) ?_)
   intro st1 hk1 s12
   simp at hk1
   refine rC_stop1 s12 ?_
   refine hX _ _ _ _ ?_
   rw [←hJ]
   simp [hk1,s4,eid,ht,optFs]
end Go.Proofs.Ytoclolkigjbcgaa

namespace Go.Proofs.Ytoclolkigjbcgaa
set_option linter.all false
open Go Go.RowKit Go.Proofs
set_option maxRecDepth 20000
set_option maxHeartbeats 2000000
theorem cFk_le:∀ (l:List DFarkas),(∀ f∈l,f.Mult.length≤20)→cFarkasS l≤21*l.length:=by
 intro l
 induction l with
 | nil=>intro _; simp [cFarkasS,cL]
 | cons e l ih=>
   intro h
   have h1:=ih fun x hx=>h x (List.mem_cons_of_mem _ hx)
   have h2:=h e List.mem_cons_self
   have h3:crFarkas e≤21:=by simp only [crFarkas,cIntS_len]; omega
   unfold cFarkasS at *
   simp only [cL,List.length_cons]
   omega
theorem proveAll_cN (os:List DObligation):cFarkasS ((proveAll os).getD [])≤21*os.length:=by
 obtain ⟨h1,h2⟩:=proveAll_len os
 have:=cFk_le _ h2
 omega
theorem obl_len {os:List DObligation} (hw:wObligationS os≤1048576):os.length≤1048576:=by
 have:=wL_len wObligation os
 unfold wObligationS at hw
 omega
theorem k_ProveAllW (os:List DObligation) (hw:wObligationS os≤1048576):Holds Try.prog 7 [.sl 4 (os.map rAObligation)] (fun r=>r = .tup [.us 2 (((proveAll os).getD []).map rUFarkas),.bool (proveAll os).isSome]):=k_ProveAll os (by have:=obl_len hw; omega)
theorem ks_ProveAllW (os:List DObligation) (hw:wObligationS os≤1048576):Holds Try.prog 5 [.sl 4 (os.map rAObligation)] (fun r=>r = .tup [.us 2 (((proveAll os).getD []).map rUFarkas),.bool (proveAll os).isSome]):=ks_ProveAll os (by have:=obl_len hw; omega)
theorem proveAll_c (os:List DObligation) (hw:wObligationS os≤1048576):cFarkasS ((proveAll os).getD [])≤33554432:=by
 have h1:=proveAll_cN os
 have h2:=obl_len hw
 omega
end Go.Proofs.Ytoclolkigjbcgaa

namespace Go.Proofs.Ytoclolkigjbcgaa
set_option linter.all false
open Go Go.RowKit Go.Proofs
def a20:AFn:=
⟨19,[.t 4],(.seq
 (.reg [⟨some 4,.mv (.k (.int .i64 0)),no⟩]) (.seq (.seq
 (.reg [⟨some 5,.mv (.k (.int .i64 0)),no⟩]) (.blk 0 (.loop (.seq (.seq
 (.reg [⟨some 6,.mv (.t 5),no⟩,⟨some 7,.mv (.t 0),no⟩,⟨some 8,.len false (.t 7),no⟩,⟨some 9,.bin .lss (.t 6) (.t 8),no⟩]) (.cond (.t 9) .skip (.exit 0))) (.seq (.blk 1 (.seq
 (.reg [⟨some 12,.mv (.t 0),no⟩,⟨some 13,.mv (.t 5),no⟩,⟨some 14,.mv (.t 1),no⟩,⟨some 15,.ixa 1 (.t 12) (.t 13),no⟩,⟨no,.st 1 (.t 15) (.t 14),no⟩])
 (.reg [⟨some 16,.mv (.t 1),no⟩,⟨some 17,.bin .add (.t 16) (.k (.int .i64 1)),no⟩,⟨some 1,.mv (.t 17),no⟩])))
 (.reg [⟨some 10,.mv (.t 5),no⟩,⟨some 11,.bin .add (.t 10) (.k (.int .i64 1)),no⟩,⟨some 5,.mv (.t 11),no⟩])))))) (.seq
 (.reg [⟨some 18,.mv (.t 1),no⟩,⟨some 4,.mv (.t 18),no⟩]) .ret)))⟩
theorem a20_ok:compFn Try.prog Try.f20=some a20:=by kernel_rfl
def a21:AFn:=
⟨21,[.t 4],(.seq
 (.reg [⟨some 4,.mv (.k (.int .i64 0)),no⟩]) (.seq (.seq
 (.reg [⟨some 5,.mv (.k (.int .i64 0)),no⟩]) (.blk 0 (.loop (.seq (.seq
 (.reg [⟨some 6,.mv (.t 5),no⟩,⟨some 7,.mv (.t 0),no⟩,⟨some 8,.len false (.t 7),no⟩,⟨some 9,.bin .lss (.t 6) (.t 8),no⟩]) (.cond (.t 9) .skip (.exit 0))) (.seq (.blk 1 (.seq (.seq
 (.reg [⟨some 12,.mv (.t 0),no⟩,⟨some 13,.mv (.t 5),no⟩,⟨some 14,.ixa 1 (.t 12) (.t 13),no⟩,⟨some 15,.ld false 1 (.t 14),no⟩,⟨some 16,.mv (.t 1),no⟩,⟨some 17,.bin .neq (.t 15) (.t 16),no⟩]) (.cond (.t 17) (.seq
 (.reg [⟨some 4,.mv (.k (.int .i64 (-1))),no⟩]) .ret) .skip))
 (.reg [⟨some 18,.mv (.t 1),no⟩,⟨some 19,.bin .add (.t 18) (.k (.int .i64 1)),no⟩,⟨some 1,.mv (.t 19),no⟩])))
 (.reg [⟨some 10,.mv (.t 5),no⟩,⟨some 11,.bin .add (.t 10) (.k (.int .i64 1)),no⟩,⟨some 5,.mv (.t 11),no⟩])))))) (.seq
 (.reg [⟨some 20,.mv (.t 1),no⟩,⟨some 4,.mv (.t 20),no⟩]) .ret)))⟩
theorem a21_ok:compFn Try.prog Try.f21=some a21:=by kernel_rfl
def a19:AFn:=
⟨27,[.t 4],(.seq
 (.reg [⟨some 4,.mv (.k (.int .i64 0)),no⟩]) (.seq (.seq
 (.reg [⟨some 5,.mv (.k (.int .i64 0)),no⟩]) (.blk 0 (.loop (.seq (.seq
 (.reg [⟨some 6,.mv (.t 5),no⟩,⟨some 7,.mv (.t 0),no⟩,⟨some 8,.len false (.t 7),no⟩,⟨some 9,.bin .lss (.t 6) (.t 8),no⟩]) (.cond (.t 9) .skip (.exit 0))) (.seq (.blk 1 (.seq
 (.reg [⟨some 12,.mv (.t 0),no⟩,⟨some 13,.mv (.t 5),no⟩,⟨some 14,.mv (.t 1),no⟩,⟨some 15,.ixa 2 (.t 12) (.t 13),no⟩,⟨some 16,.fld 0 (.t 15),no⟩,⟨no,.st 1 (.t 16) (.t 14),no⟩]) (.seq
 (.reg [⟨some 17,.mv (.t 1),no⟩,⟨some 18,.bin .add (.t 17) (.k (.int .i64 1)),no⟩,⟨some 1,.mv (.t 18),no⟩])
 (.reg [⟨some 19,.mv (.t 0),no⟩,⟨some 20,.mv (.t 5),no⟩,⟨some 21,.ixa 2 (.t 19) (.t 20),no⟩,⟨some 22,.fld 1 (.t 21),no⟩,⟨some 23,.ld false 1 (.t 22),no⟩,⟨some 24,.mv (.t 1),no⟩,⟨some 25,.call (.k (.fn (.func 20) [] [])) [.t 23,.t 24],no⟩,⟨some 1,.mv (.t 25),no⟩]))))
 (.reg [⟨some 10,.mv (.t 5),no⟩,⟨some 11,.bin .add (.t 10) (.k (.int .i64 1)),no⟩,⟨some 5,.mv (.t 11),no⟩])))))) (.seq
 (.reg [⟨some 26,.mv (.t 1),no⟩,⟨some 4,.mv (.t 26),no⟩]) .ret)))⟩
theorem a19_ok:compFn Try.prog Try.f19=some a19:=by kernel_rfl
def a11:AFn:=
⟨27,[.t 4],(.seq
 (.reg [⟨some 4,.mv (.k (.int .i64 0)),no⟩]) (.seq (.seq
 (.reg [⟨some 5,.mv (.k (.int .i64 0)),no⟩]) (.blk 0 (.loop (.seq (.seq
 (.reg [⟨some 6,.mv (.t 5),no⟩,⟨some 7,.mv (.t 0),no⟩,⟨some 8,.len false (.t 7),no⟩,⟨some 9,.bin .lss (.t 6) (.t 8),no⟩]) (.cond (.t 9) .skip (.exit 0))) (.seq (.blk 1 (.seq
 (.reg [⟨some 12,.mv (.t 0),no⟩,⟨some 13,.mv (.t 5),no⟩,⟨some 14,.mv (.t 1),no⟩,⟨some 15,.ixa 2 (.t 12) (.t 13),no⟩,⟨some 16,.fld 0 (.t 15),no⟩,⟨no,.st 1 (.t 16) (.t 14),no⟩]) (.seq
 (.reg [⟨some 17,.mv (.t 1),no⟩,⟨some 18,.bin .add (.t 17) (.k (.int .i64 1)),no⟩,⟨some 1,.mv (.t 18),no⟩])
 (.reg [⟨some 19,.mv (.t 0),no⟩,⟨some 20,.mv (.t 5),no⟩,⟨some 21,.ixa 2 (.t 19) (.t 20),no⟩,⟨some 22,.fld 1 (.t 21),no⟩,⟨some 23,.ld false 1 (.t 22),no⟩,⟨some 24,.mv (.t 1),no⟩,⟨some 25,.call (.k (.fn (.func 20) [] [])) [.t 23,.t 24],no⟩,⟨some 1,.mv (.t 25),no⟩]))))
 (.reg [⟨some 10,.mv (.t 5),no⟩,⟨some 11,.bin .add (.t 10) (.k (.int .i64 1)),no⟩,⟨some 5,.mv (.t 11),no⟩])))))) (.seq
 (.reg [⟨some 26,.mv (.t 1),no⟩,⟨some 4,.mv (.t 26),no⟩]) .ret)))⟩
theorem a11_ok:compFn Try.prog Try.f11=some a11:=by kernel_rfl
def a12:AFn:=
⟨31,[.t 4],(.seq
 (.reg [⟨some 4,.mv (.k (.int .i64 0)),no⟩]) (.seq (.seq
 (.reg [⟨some 5,.mv (.k (.int .i64 0)),no⟩]) (.blk 0 (.loop (.seq (.seq
 (.reg [⟨some 6,.mv (.t 5),no⟩,⟨some 7,.mv (.t 0),no⟩,⟨some 8,.len false (.t 7),no⟩,⟨some 9,.bin .lss (.t 6) (.t 8),no⟩]) (.cond (.t 9) .skip (.exit 0))) (.seq (.blk 1 (.seq (.seq
 (.reg [⟨some 12,.mv (.t 0),no⟩,⟨some 13,.mv (.t 5),no⟩,⟨some 14,.ixa 2 (.t 12) (.t 13),no⟩,⟨some 15,.fld 0 (.t 14),no⟩,⟨some 16,.ld false 1 (.t 15),no⟩,⟨some 17,.mv (.t 1),no⟩,⟨some 18,.bin .neq (.t 16) (.t 17),no⟩]) (.cond (.t 18) (.seq
 (.reg [⟨some 4,.mv (.k (.int .i64 (-1))),no⟩]) .ret) .skip)) (.seq
 (.reg [⟨some 19,.mv (.t 1),no⟩,⟨some 20,.bin .add (.t 19) (.k (.int .i64 1)),no⟩,⟨some 1,.mv (.t 20),no⟩]) (.seq
 (.reg [⟨some 21,.mv (.t 0),no⟩,⟨some 22,.mv (.t 5),no⟩,⟨some 23,.ixa 2 (.t 21) (.t 22),no⟩,⟨some 24,.fld 1 (.t 23),no⟩,⟨some 25,.ld false 1 (.t 24),no⟩,⟨some 26,.mv (.t 1),no⟩,⟨some 27,.call (.k (.fn (.func 21) [] [])) [.t 25,.t 26],no⟩,⟨some 1,.mv (.t 27),no⟩]) (.seq
 (.reg [⟨some 28,.mv (.t 1),no⟩,⟨some 29,.bin .lss (.t 28) (.k (.int .i64 0)),no⟩]) (.cond (.t 29) (.seq
 (.reg [⟨some 4,.mv (.k (.int .i64 (-1))),no⟩]) .ret) .skip))))))
 (.reg [⟨some 10,.mv (.t 5),no⟩,⟨some 11,.bin .add (.t 10) (.k (.int .i64 1)),no⟩,⟨some 5,.mv (.t 11),no⟩])))))) (.seq
 (.reg [⟨some 30,.mv (.t 1),no⟩,⟨some 4,.mv (.t 30),no⟩]) .ret)))⟩
theorem a12_ok:compFn Try.prog Try.f12=some a12:=by kernel_rfl
def a10:AFn:=
⟨45,[.t 4],(.seq
 (.reg [⟨some 4,.mv (.k (.int .i64 0)),no⟩]) (.seq (.seq
 (.reg [⟨some 5,.mv (.k (.int .i64 0)),no⟩]) (.blk 0 (.loop (.seq (.seq
 (.reg [⟨some 6,.mv (.t 5),no⟩,⟨some 7,.mv (.t 0),no⟩,⟨some 8,.len false (.t 7),no⟩,⟨some 9,.bin .lss (.t 6) (.t 8),no⟩]) (.cond (.t 9) .skip (.exit 0))) (.seq (.blk 1 (.seq
 (.reg [⟨some 12,.mv (.t 0),no⟩,⟨some 13,.mv (.t 5),no⟩,⟨some 14,.mv (.t 1),no⟩,⟨some 15,.ixa 4 (.t 12) (.t 13),no⟩,⟨some 16,.fld 0 (.t 15),no⟩,⟨some 17,.fld 0 (.t 16),no⟩,⟨no,.st 1 (.t 17) (.t 14),no⟩]) (.seq
 (.reg [⟨some 18,.mv (.t 1),no⟩,⟨some 19,.bin .add (.t 18) (.k (.int .i64 1)),no⟩,⟨some 1,.mv (.t 19),no⟩]) (.seq
 (.reg [⟨some 20,.mv (.t 0),no⟩,⟨some 21,.mv (.t 5),no⟩,⟨some 22,.ixa 4 (.t 20) (.t 21),no⟩,⟨some 23,.fld 0 (.t 22),no⟩,⟨some 24,.fld 1 (.t 23),no⟩,⟨some 25,.ld false 1 (.t 24),no⟩,⟨some 26,.mv (.t 1),no⟩,⟨some 27,.call (.k (.fn (.func 19) [] [])) [.t 25,.t 26],no⟩,⟨some 1,.mv (.t 27),no⟩]) (.seq
 (.reg [⟨some 28,.mv (.t 0),no⟩,⟨some 29,.mv (.t 5),no⟩,⟨some 30,.mv (.t 1),no⟩,⟨some 31,.ixa 4 (.t 28) (.t 29),no⟩,⟨some 32,.fld 2 (.t 31),no⟩,⟨some 33,.fld 0 (.t 32),no⟩,⟨no,.st 1 (.t 33) (.t 30),no⟩]) (.seq
 (.reg [⟨some 34,.mv (.t 1),no⟩,⟨some 35,.bin .add (.t 34) (.k (.int .i64 1)),no⟩,⟨some 1,.mv (.t 35),no⟩])
 (.reg [⟨some 36,.mv (.t 0),no⟩,⟨some 37,.mv (.t 5),no⟩,⟨some 38,.ixa 4 (.t 36) (.t 37),no⟩,⟨some 39,.fld 2 (.t 38),no⟩,⟨some 40,.fld 1 (.t 39),no⟩,⟨some 41,.ld false 1 (.t 40),no⟩,⟨some 42,.mv (.t 1),no⟩,⟨some 43,.call (.k (.fn (.func 20) [] [])) [.t 41,.t 42],no⟩,⟨some 1,.mv (.t 43),no⟩])))))))
 (.reg [⟨some 10,.mv (.t 5),no⟩,⟨some 11,.bin .add (.t 10) (.k (.int .i64 1)),no⟩,⟨some 5,.mv (.t 11),no⟩])))))) (.seq
 (.reg [⟨some 44,.mv (.t 1),no⟩,⟨some 4,.mv (.t 44),no⟩]) .ret)))⟩
theorem a10_ok:compFn Try.prog Try.f10=some a10:=by kernel_rfl
set_option maxRecDepth 20000 in
set_option maxHeartbeats 1000000 in
theorem m_markIntS (l:List Int) (k:Int) (h0:0≤k∧k+cIntS l≤4611686018427387904):Marks Try.prog 20 (.us 1 (intsR l)) k (.us 1 (intsR (mkIntS l k))) (k+cIntS l):=by
 intro h n a I K hT hI hn hK
 obtain ⟨id,rows0,I0,rfl,_,hB,_⟩:=TR_us hT
 simp only [intsR,List.length_map] at hT hB hK ⊢
 refine acall_len Try.func20 rfl rfl (by rw [hB]; simp) fun hlim => ?_
 refine acall_body Try.func20 a20_ok rfl (by simp [a20]) ?_
 simp [a20]
 unfold cIntS at *
 refine rL_forO [0] 5 l.length (fun i s h1 n1=>MJ (fun _ k=>k) (fun _=>1) (fun n=>[i64 n]) 1 h n id I l k i (s 1) h1 n1) hlim (by simp) (by simpa using MJ.start hT) ?_ ?_
 · rintro i s h1 n1 R hi hg hk s5 hw hJ hR hret _
   simp at hk
   obtain ⟨x,ki,rows,cells,I2,s1,hki,hki2,hlen,hc0,hnd,hI2,hstart,hclose⟩:=hJ.step2 hI hn hi
   obtain ⟨_,rfl,hc1⟩:=TRl_int.1 hc0
   obtain ⟨rfl,rfl⟩:=TRl_nil.1 hc1
   have S:=hstart _ Kids.nil
   have e:=S.e
   have w0:IntKind.i64.wrap (ki+1)=ki+1:=wrap64 (by omega)
   simp [hk,s5,hi,hw,s1,e,hlen,w0]
   intro _
   refine hR _ _ _ (by simp [hk]) (by simp) (hclose _ _ [.int .i64 (ki)] _ _ S.store (TRl_int.2 ⟨_,rfl,(TRl_nil.2 ⟨rfl,rfl⟩)⟩) (by simp [i64]; try omega))
 · rintro s h1 n1 R hk s5 hJ hret hX
   simp at hk
   obtain ⟨s1,hn1,hf,ht⟩:=hJ.fin
   simp [hk,s5,s1]
   refine ⟨TR_some ht,fun _ => ?_⟩
   refine hX _ _ _ _ ?_
   simp [hk,s5,s1]
   exact hK _ _ hn1 hf ht
set_option maxRecDepth 20000 in
set_option maxHeartbeats 1000000 in
theorem k_heldIntS (l:List Int) (k:Int) (h0:0≤k∧k+cIntS l≤4611686018427387904):Holds Try.prog 21 [.sl 1 (intsR (mkIntS l k)),i64 k] (fun r=>r=i64 (k+cIntS l)):=by
 refine holds_of_lim Try.func21 rfl rfl fun hlim => ?_
 simp at hlim
 generalize hM:mkIntS l k=M at *
 refine holds_of_run Try.func21 a21_ok rfl (by simp [a21]) ?_
 simp [a21]
 unfold cIntS at *
 refine rL_forO [0] 5 M.length (fun i s h1 n1=>HJ (fun _ k=>k) (fun _=>1) M l k i (s 1)) hlim (by simp) (by rw [←hM]; simp; exact HJ.start) ?_ ?_
 · rintro i s h1 n1 R hi hg hk s5 hw hJ hR hret _
   simp at hk
   obtain ⟨x,ki,s1,hki,hki2,hx,hclose⟩:=hJ.step hi
   have w0:IntKind.i64.wrap (ki+1)=ki+1:=wrap64 (by omega)
   simp [hk,s5,hi,hw,s1,hx,w0]
   intro _
   first | done | refine hR _ _ _ (by simp [hk]) (by simp) (hclose _ (by simp [i64]; try omega))
 · rintro s h1 n1 R hk s5 hJ hret hX
   simp at hk
   have s1:=hJ.fin (Nat.le_refl _)
   simp [hk,s5,s1]
   first | refine hX _ _ _ _ ?_ | (intro _; refine hX _ _ _ _ ?_)
   simp [hk,s5,s1]
set_option maxRecDepth 20000 in
set_option maxHeartbeats 1000000 in
theorem m_markLinS (l:List DLin) (k:Int) (h0:0≤k∧k+cLinS l≤4611686018427387904):Marks Try.prog 19 (.us 2 (l.map rULin)) k (.us 2 ((mkLinS l k).map rULin)) (k+cLinS l):=by
 intro h n a I K hT hI hn hK
 obtain ⟨id,rows0,I0,rfl,_,hB,_⟩:=TR_us hT
 simp only [List.length_map] at hT hB hK ⊢
 refine acall_len Try.func19 rfl rfl (by rw [hB]; simp) fun hlim => ?_
 refine acall_body Try.func19 a19_ok rfl (by simp [a19]) ?_
 simp [a19]
 unfold cLinS at *
 refine rL_forO [0] 5 l.length (fun i s h1 n1=>MJ mkrLin crLin rULin 2 h n id I l k i (s 1) h1 n1) hlim (by simp) (by simpa using MJ.start hT) ?_ ?_
 · rintro i s h1 n1 R hi hg hk s5 hw hJ hR hret _
   simp at hk
   obtain ⟨x,ki,rows,cells,I2,s1,hki,hki2,hlen,hc0,hnd,hI2,hstart,hclose⟩:=hJ.step2 hI hn hi
   simp only [rULin] at hc0
   simp only [crLin] at hki2
   obtain ⟨_,rfl,hc1⟩:=TRl_int.1 hc0
   obtain ⟨d1,len1,_,J1,_,rfl,rfl,hl1,ht1,hc2⟩:=TRl_us hc1
   have hq1:len1=(x.Coeffs).length:=by simpa using hl1
   subst hq1
   obtain ⟨rfl,rfl⟩:=TRl_nil.1 hc2
   have S:=hstart _ (Kids.cons ht1 hnd hI2 fun hnd hI2=>Kids.nil)
   have e:=S.e
   have w0:IntKind.i64.wrap (ki+1)=ki+1:=wrap64 (by omega)
   simp [hk,s5,hi,hw,s1,e,hlen,w0]
   intro _
   refine RS.mark (T1:=[]) (m_markIntS _ _ (by omega)) S.store ?_
   clear S e
   intro h2 n2 S
   have e:=S.e
   simp [hk,s5,hi,hw,s1,e,hlen,w0]
   refine hR _ _ _ (by simp [hk]) (by simp) (hclose _ _ [.int .i64 (ki),.ref d1 0 (x.Coeffs).length] _ _ S (TRl_int.2 ⟨_,rfl,(TRl_cons (S.live.ids (_,.ref d1 0 _,J1) (by simp [mkrLin])).1 (TRl_nil.2 ⟨rfl,rfl⟩))⟩) (by simp [i64,crLin]; try omega))
 · rintro s h1 n1 R hk s5 hJ hret hX
   simp at hk
   obtain ⟨s1,hn1,hf,ht⟩:=hJ.fin
   simp [hk,s5,s1]
   refine ⟨TR_some ht,fun _ => ?_⟩
   refine hX _ _ _ _ ?_
   simp [hk,s5,s1]
   exact hK _ _ hn1 hf ht
set_option maxRecDepth 20000 in
set_option maxHeartbeats 1000000 in
theorem m_markFarkasS (l:List DFarkas) (k:Int) (h0:0≤k∧k+cFarkasS l≤4611686018427387904):Marks Try.prog 11 (.us 2 (l.map rUFarkas)) k (.us 2 ((mkFarkasS l k).map rUFarkas)) (k+cFarkasS l):=by
 intro h n a I K hT hI hn hK
 obtain ⟨id,rows0,I0,rfl,_,hB,_⟩:=TR_us hT
 simp only [List.length_map] at hT hB hK ⊢
 refine acall_len Try.func11 rfl rfl (by rw [hB]; simp) fun hlim => ?_
 refine acall_body Try.func11 a11_ok rfl (by simp [a11]) ?_
 simp [a11]
 unfold cFarkasS at *
 refine rL_forO [0] 5 l.length (fun i s h1 n1=>MJ mkrFarkas crFarkas rUFarkas 2 h n id I l k i (s 1) h1 n1) hlim (by simp) (by simpa using MJ.start hT) ?_ ?_
 · rintro i s h1 n1 R hi hg hk s5 hw hJ hR hret _
   simp at hk
   obtain ⟨x,ki,rows,cells,I2,s1,hki,hki2,hlen,hc0,hnd,hI2,hstart,hclose⟩:=hJ.step2 hI hn hi
   simp only [rUFarkas] at hc0
   simp only [crFarkas] at hki2
   obtain ⟨_,rfl,hc1⟩:=TRl_int.1 hc0
   obtain ⟨d1,len1,_,J1,_,rfl,rfl,hl1,ht1,hc2⟩:=TRl_us hc1
   have hq1:len1=(x.Mult).length:=by simpa using hl1
   subst hq1
   obtain ⟨rfl,rfl⟩:=TRl_nil.1 hc2
   have S:=hstart _ (Kids.cons ht1 hnd hI2 fun hnd hI2=>Kids.nil)
   have e:=S.e
   have w0:IntKind.i64.wrap (ki+1)=ki+1:=wrap64 (by omega)
   simp [hk,s5,hi,hw,s1,e,hlen,w0]
   intro _
   refine RS.mark (T1:=[]) (m_markIntS _ _ (by omega)) S.store ?_
   clear S e
   intro h2 n2 S
   have e:=S.e
   simp [hk,s5,hi,hw,s1,e,hlen,w0]
   refine hR _ _ _ (by simp [hk]) (by simp) (hclose _ _ [.int .i64 (ki),.ref d1 0 (x.Mult).length] _ _ S (TRl_int.2 ⟨_,rfl,(TRl_cons (S.live.ids (_,.ref d1 0 _,J1) (by simp [mkrFarkas])).1 (TRl_nil.2 ⟨rfl,rfl⟩))⟩) (by simp [i64,crFarkas]; try omega))
 · rintro s h1 n1 R hk s5 hJ hret hX
   simp at hk
   obtain ⟨s1,hn1,hf,ht⟩:=hJ.fin
   simp [hk,s5,s1]
   refine ⟨TR_some ht,fun _ => ?_⟩
   refine hX _ _ _ _ ?_
   simp [hk,s5,s1]
   exact hK _ _ hn1 hf ht
set_option maxRecDepth 20000 in
set_option maxHeartbeats 1000000 in
theorem k_heldFarkasS (l:List DFarkas) (k:Int) (h0:0≤k∧k+cFarkasS l≤4611686018427387904):Holds Try.prog 12 [.sl 2 ((mkFarkasS l k).map rAFarkas),i64 k] (fun r=>r=i64 (k+cFarkasS l)):=by
 refine holds_of_lim Try.func12 rfl rfl fun hlim => ?_
 simp at hlim
 generalize hM:mkFarkasS l k=M at *
 refine holds_of_run Try.func12 a12_ok rfl (by simp [a12]) ?_
 simp [a12]
 unfold cFarkasS at *
 refine rL_forO [0] 5 M.length (fun i s h1 n1=>HJ mkrFarkas crFarkas M l k i (s 1)) hlim (by simp) (by rw [←hM]; simp; exact HJ.start) ?_ ?_
 · rintro i s h1 n1 R hi hg hk s5 hw hJ hR hret _
   simp at hk
   obtain ⟨x,ki,s1,hki,hki2,hx,hclose⟩:=hJ.step hi
   simp only [crFarkas] at hki2
   have w0:IntKind.i64.wrap (ki+1)=ki+1:=wrap64 (by omega)
   simp [hk,s5,hi,hw,s1,hx,mkrFarkas,w0]
   intro _
   first | refine callD_of (k_heldIntS (x.Mult) (ki+1) (by omega)) (by simp [hk,s5,hi,hw,s1,hx,mkrFarkas,w0]) ?_ | refine call_of (k_heldIntS (x.Mult) (ki+1) (by omega)) (by simp [hk,s5,hi,hw,s1,hx,mkrFarkas,w0]) ?_
   rintro r rfl
   have g1:¬ki+1+(cIntS x.Mult:Int)<0:=by omega
   simp [hk,s5,hi,hw,s1,hx,mkrFarkas,w0,g1]
   first | done | refine hR _ _ _ (by simp [hk]) (by simp) (hclose _ (by simp [i64,crFarkas]; try omega))
 · rintro s h1 n1 R hk s5 hJ hret hX
   simp at hk
   have s1:=hJ.fin (Nat.le_refl _)
   simp [hk,s5,s1]
   first | refine hX _ _ _ _ ?_ | (intro _; refine hX _ _ _ _ ?_)
   simp [hk,s5,s1]
set_option maxRecDepth 20000 in
set_option maxHeartbeats 1000000 in
theorem m_markObligationS (l:List DObligation) (k:Int) (h0:0≤k∧k+cObligationS l≤4611686018427387904):Marks Try.prog 10 (.us 4 (l.map rUObligation)) k (.us 4 ((mkObligationS l k).map rUObligation)) (k+cObligationS l):=by
 intro h n a I K hT hI hn hK
 obtain ⟨id,rows0,I0,rfl,_,hB,_⟩:=TR_us hT
 simp only [List.length_map] at hT hB hK ⊢
 refine acall_len Try.func10 rfl rfl (by rw [hB]; simp) fun hlim => ?_
 refine acall_body Try.func10 a10_ok rfl (by simp [a10]) ?_
 simp [a10]
 unfold cObligationS at *
 refine rL_forO [0] 5 l.length (fun i s h1 n1=>MJ mkrObligation crObligation rUObligation 4 h n id I l k i (s 1) h1 n1) hlim (by simp) (by simpa using MJ.start hT) ?_ ?_
 · rintro i s h1 n1 R hi hg hk s5 hw hJ hR hret _
   simp at hk
   obtain ⟨x,ki,rows,cells,I2,s1,hki,hki2,hlen,hc0,hnd,hI2,hstart,hclose⟩:=hJ.step2 hI hn hi
   simp only [rUObligation] at hc0
   simp only [crObligation] at hki2
   obtain ⟨_,rfl,hc1⟩:=TRl_int.1 hc0
   obtain ⟨d1,len1,_,J1,_,rfl,rfl,hl1,ht1,hc2⟩:=TRl_us hc1
   have hq1:len1=(x.System.Rows).length:=by simpa using hl1
   subst hq1
   obtain ⟨_,rfl,hc3⟩:=TRl_int.1 hc2
   obtain ⟨d3,len3,_,J3,_,rfl,rfl,hl3,ht3,hc4⟩:=TRl_us hc3
   have hq3:len3=(x.Target.Coeffs).length:=by simpa using hl3
   subst hq3
   obtain ⟨rfl,rfl⟩:=TRl_nil.1 hc4
   have S:=hstart _ (Kids.cons ht1 hnd hI2 fun hnd hI2=>(Kids.cons ht3 hnd hI2 fun hnd hI2=>Kids.nil))
   have e:=S.e
   have w0:IntKind.i64.wrap (ki+1)=ki+1:=wrap64 (by omega)
   have w1:IntKind.i64.wrap (ki+1+cLinS x.System.Rows+1)=ki+1+cLinS x.System.Rows+1:=wrap64 (by omega)
   simp [hk,s5,hi,hw,s1,e,hlen,w0,w1]
   intro _
   refine RS.mark (T1:=[]) (m_markLinS _ _ (by omega)) S.store ?_
   clear S e
   intro h2 n2 S
   have e:=S.e
   simp [hk,s5,hi,hw,s1,e,hlen,w0,w1]
   refine RS.mark (T1:=[_]) (m_markIntS _ _ (by omega)) S.store ?_
   clear S e
   intro h2 n2 S
   have e:=S.e
   simp [hk,s5,hi,hw,s1,e,hlen,w0,w1]
   refine hR _ _ _ (by simp [hk]) (by simp) (hclose _ _ [.int .i64 (ki),.ref d1 0 (x.System.Rows).length,.int .i64 (ki+1+cLinS x.System.Rows),.ref d3 0 (x.Target.Coeffs).length] _ _ S (TRl_int.2 ⟨_,rfl,(TRl_cons (S.live.ids (_,.ref d1 0 _,J1) (by simp [mkrObligation])).1 (TRl_int.2 ⟨_,rfl,(TRl_cons (S.live.ids (_,.ref d3 0 _,J3) (by simp [mkrObligation])).1 (TRl_nil.2 ⟨rfl,rfl⟩))⟩))⟩) (by simp [i64,crObligation]; try omega))
 · rintro s h1 n1 R hk s5 hJ hret hX
   simp at hk
   obtain ⟨s1,hn1,hf,ht⟩:=hJ.fin
   simp [hk,s5,s1]
   refine ⟨TR_some ht,fun _ => ?_⟩
   refine hX _ _ _ _ ?_
   simp [hk,s5,s1]
   exact hK _ _ hn1 hf ht
end Go.Proofs.Ytoclolkigjbcgaa

/- Contracts: l8Join of the reference, at a call; the whole. -/
import Derived.Test.YtoclolkigjbcgaaKC6
namespace Go.Proofs.Ytoclolkigjbcgaa
set_option linter.all false
open Go Go.RowKit Go.Proofs
set_option maxRecDepth 20000
set_option maxHeartbeats 2000000
theorem call_l8Join {a b:DDer} {va ma vb mb:AV} {N m v:Nat} {h:Heap} {n:Nat} {K:AV→Heap→Nat→Prop} (ga:GD N m a) (gb:GD N m b) (hm:m≤20) (hv:v<N) (hpa:0<coefD v a) (hqb:coefD v b<0) (A1:SVi a.l.Coeffs va h n) (A2:OVi (a.mult++[a.scale]) ma h n) (B1:SVi b.l.Coeffs vb h n) (B2:OVi (b.mult++[b.scale]) mb h n)
   (hK:∀ h' n' c k1 l1 k2 l2,n≤n'→(∀ id,id<n→h' id=h id)→(∀ d,joinAt v a b=some d→DerS d [.int .i64 c,.ref k1 0 l1,.ref k2 0 l2] h' n')→K (.tup [.agg [.int .i64 c,.ref k1 0 l1,.ref k2 0 l2],.bool (joinAt v a b).isSome]) h' n') :
   ACall Try.prog 46 [.agg [.int .i64 a.l.Const,va,ma],.agg [.int .i64 b.l.Const,vb,mb],i64 v] h n K:=by
 refine acall_body Try.func46 a46_ok rfl (by simp [a46]) ?_
 unfold a46
 have c1:=A1.cell
 have c2:=A2.cell
 have c3:=B1.cell
 have c4:=B2.cell
 have hpa':=okC_iff.1 (ga.coef hv)
 have hqb':=okC_iff.1 (gb.coef hv)
 have hvl:v<a.l.Coeffs.length:=by rw [ga.cl]; exact hv
 have hvl2:v<b.l.Coeffs.length:=by rw [gb.cl]; exact hv
 have hca:a.l.Coeffs[v]=coefD v a:=by simp [coefD,hvl]
 have hcb:b.l.Coeffs[v]=coefD v b:=by simp [coefD,hvl2]
 have fr0:∀ id,id<n→¬id=n∧¬id=n+1∧¬id=n+1+1:=by intro id _; omega
 have ne:¬n=n+1+1∧¬n=n+1∧¬n+1=n+1+1∧n+2=n+1+1:=by omega
 refine rC_cutH [2] (fun s h' m=>m=n+3∧(s 3 = .ptr n 0 0∧s 4 = .ptr (n+1) 0 0∧s 6 = .ptr (n+2) 0 0)∧(∀ id,id<n→h' id=h id) ∧
   h' n=some ⟨true,3,[[.int .i64 a.l.Const,va,ma]]⟩∧h' (n+1)=some ⟨true,3,[[.int .i64 b.l.Const,vb,mb]]⟩∧h' (n+2)=some ⟨true,3,[[.int .i64 0,.nil 1,.nil 1]]⟩) ?_ ?_
 · simp [jn0,-isCell,c1,c2,c3,c4]
   simp [isCell]
   refine ⟨fun id hid => ?_,?_⟩
   · simp [fr0 id hid]
   · simp [ne]
 rintro s1 h1 n1 hk1 ⟨rfl,⟨s3,s4,s6⟩,fr,e3,e4,e6⟩
 simp at hk1
 have kp1:Keeps h h1 n:=Keeps.of fr
 refine rC_cut [2,3,4,6] (fun s=>s 8 = .int .i64 (coefD v a)) ?_ ?_
 · simp [jn1,s3,hk1,e3]
   refine ixaV_svi (A1.keep (by omega) kp1) hvl ?_
   intro w1 hw1
   simp
   refine hw1 _ ?_
   rw [hca]
   simp
 intro s2 hk2 s8
 simp at hk2
 have hw:IntKind.i64.wrap (0 - coefD v b) = -(coefD v b):=by rw [wrap64 (by omega)]; omega
 simp at hw
 refine rC_cut [2,3,4,6,8] (fun s=>s 9 = .int .i64 (-(coefD v b))) ?_ ?_
 · simp [jn2,s4,hk2,hk1,e4]
   refine ixaV_svi (B1.keep (by omega) kp1) hvl2 ?_
   intro w1 hw1
   simp
   refine hw1 _ ?_
   rw [hcb]
   simp [hw]
 intro s3' hk3 s9
 simp at hk3
 generalize hg:gcdP (coefD v a) (-(coefD v b))=g
 have hg1:0<g:=by rw [←hg]; exact gcdP_pos (by omega)
 have hg2:g≤1000000000:=by rw [←hg]; exact gcdP_le (by omega) (by omega)
 refine rC_cut [3,4,6,8,9] (fun s=>s 10 = .int .i64 (g:Nat)) ?_ ?_
 · have hpn:((coefD v a).toNat:Int)=coefD v a:=by omega
   have hqn:((-(coefD v b)).toNat:Int) = -(coefD v b):=by omega
   have hk:=ks_GcdN (coefD v a).toNat (-(coefD v b)).toNat (by omega) (by omega)
   rw [hpn,hqn,show Nat.gcd (coefD v a).toNat (-(coefD v b)).toNat=gcdP (coefD v a) (-(coefD v b)) from rfl,hg] at hk
   simp [jn3,s9,hk3,s8]
   refine call_of hk (by simp) ?_
   rintro r rfl
   simp
   first|refine callD_of (ks_l1Max (g:Int) 1) (by first|simp;done|rfl) ?_|refine call_of (ks_l1Max (g:Int) 1) (by first|simp;done|rfl) ?_
   rintro r rfl
   have:(if (g:Int)>1 then (g:Int) else 1)=g:=by split <;> omega
   rw [this]
   simp
 intro s4' hk4 s10
 simp at hk4
 have y3:s4' 3 = .ptr n 0 0:=by rw [hk4.1,hk3.2.1,hk2.2.1,s3]
 have y4:s4' 4 = .ptr (n+1) 0 0:=by rw [hk4.2.1,hk3.2.2.1,hk2.2.2.1,s4]
 have y6:s4' 6 = .ptr (n+2) 0 0:=by rw [hk4.2.2.1,hk3.2.2.2.1,hk2.2.2.2,s6]
 have y8:s4' 8 = .int .i64 (coefD v a):=by rw [hk4.2.2.2.1,hk3.2.2.2.2,s8]
 have y9:s4' 9 = .int .i64 (-(coefD v b)):=by rw [hk4.2.2.2.2,s9]
 have hja:joinAt v a b=joinD a ((-(coefD v b)).tdiv g) b ((coefD v a).tdiv g):=by unfold joinAt; rw [hg]
 rw [hja] at hK
 generalize hP:coefD v a=P at *
 generalize hQ : -(coefD v b)=Qq at *
 refine rC_seqI (jn4_run (a:=a) (va:=va) (ma:=ma) (q:=Qq) (g:=g) ga (by omega) (by omega) y3 y9 s10 e3 (A1.keep (by omega) kp1) ?_)
 intro s5 h5 n5 k11 q11 hk5 hn5 hf5 s12 s11 L5
 simp at hk5
 rw [kont_seq]
 have hf50:∀ id,id<n→h5 id=h id:=fun id hid=>by rw [hf5 id (by omega),fr id hid]
 have kp5:Keeps h h5 n:=Keeps.of hf50
 refine rC_seqI (jn5_run (b:=b) (vb:=vb) (mb:=mb) (N:=N) (m:=m) (p:=P) (g:=g) (lo:=n+3) (by omega) (by omega) (by rw [hk5.2.1,y4]) (by rw [hk5.2.2.2.1,y8]) (by rw [hk5.2.2.2.2.2,s10]) s11 (by rw [hf5 _ (by omega),e4]) L5 (B1.keep (by omega) kp5) ?_)
 intro s6' h6 n6 k13 q13 hk6 hn6 hf6 s14 s13 L6
 simp at hk6
 rw [kont_seq]
 have hf60:∀ id,id<n→h6 id=h id:=fun id hid=>by rw [hf6 id (by omega),hf50 id hid]
 have kp6:Keeps h h6 n:=Keeps.of hf60
 have z3:h6 n=some ⟨true,3,[[.int .i64 a.l.Const,va,ma]]⟩:=by rw [hf6 _ (by omega),hf5 _ (by omega),e3]
 have z4:h6 (n+1)=some ⟨true,3,[[.int .i64 b.l.Const,vb,mb]]⟩:=by rw [hf6 _ (by omega),hf5 _ (by omega),e4]
 have z6:h6 (n+2)=some ⟨true,3,[[.int .i64 0,.nil 1,.nil 1]]⟩:=by rw [hf6 _ (by omega),hf5 _ (by omega),e6]
 have w1:=tdiv_in (p:=P) (g:=(g:Int)) (by omega) (by omega) (by omega)
 have w2:=tdiv_in (p:=Qq) (g:=(g:Int)) (by omega) (by omega) (by omega)
 have v1:IntKind.i64.wrap (P.tdiv g)=P.tdiv g:=wrap64 (by omega)
 have v2:IntKind.i64.wrap (Qq.tdiv g)=Qq.tdiv g:=wrap64 (by omega)
 have hgn:¬g=0:=by omega
 have hml:b.mult.length=a.mult.length:=by rw [ga.len,gb.len]
 have hml':(b.mult++[b.scale]).length=(a.mult++[a.scale]).length:=by simp [hml]
 have hm20:(a.mult++[a.scale]).length≤100:=by simp [ga.len]; omega
 have hb1:=(A2.keep (n':=n6) (by omega) kp6).bw
 have hb2:=(B2.keep (n':=n6) (by omega) kp6).bw
 generalize hSC:scV (Qq.tdiv g) (a.mult++[a.scale]) (P.tdiv g) (b.mult++[b.scale])=SC at *
 generalize hOK:(mixs (Qq.tdiv g) (a.mult++[a.scale]) (P.tdiv g) (b.mult++[b.scale])).all (·.2)=OK at *
 generalize hT1:addScaled (constLin 0 a.l.Coeffs.length) (Qq.tdiv g) a.l=T1 at *
 generalize hT2:addScaled (T1.getD lin0) (P.tdiv g) b.l=T2 at *
 have x6:s6' 6 = .ptr (n+2) 0 0:=by rw [hk6.2.2.1,hk5.2.2.1,y6]
 have x12:s6' 12 = .bool T1.isSome:=by rw [hk6.2.2.2.2.2.2,s12]
 refine rC_cutH [6,12,13,14] (fun s h' m=>m=n6+1∧s 15 = .ref n6 0 SC.length∧s 16 = .bool OK∧h' n6=some ⟨false,1,intsR SC⟩∧∀ id,id<n6→h' id=h6 id) ?_ ?_
 · simp [jn6,hk6,hk5,y3,y4,y8,y9,s10,z3,z4,hgn,v1,v2]
   refine callD_of (ks_l8Scaled (a.mult++[a.scale]) (b.mult++[b.scale]) (Qq.tdiv g) (P.tdiv g) hml' hm20) (by simp only [bwl,hb1,hb2]; simp [bw]) ?_
   rintro r rfl
   rw [hSC,hOK]
   simp
   intro id hid
   have:¬id=n6:=by omega
   simp [this]
 rintro s7 h7 n7 hk7 ⟨rfl,s15,s16,e15,hf7⟩
 simp at hk7
 obtain ⟨q1,q2,q3,q4,q5,q6,q7⟩:=L6
 have u6:h7 (n+2)=some ⟨true,3,[[.int .i64 0,.nil 1,.nil 1]]⟩:=by rw [hf7 _ (by omega),z6]
 have u13:h7 k13=some ⟨true,2,[[.int .i64 (T2.getD lin0).Const,.ref q13 0 (T2.getD lin0).Coeffs.length]]⟩:=by rw [hf7 k13 q2,q6]
 have uq:h7 q13=some ⟨false,1,intsR (T2.getD lin0).Coeffs⟩:=by rw [hf7 q13 q4,q7]
 have hb:((T1.isSome&&T2.isSome)&&OK)=(joinD a (Qq.tdiv g) b (P.tdiv g)).isSome:=by
   cases T1 with
   | none=>rw [joinD_1 hT1]; rfl
   | some l1=>
     simp only [Option.getD_some] at hT2
     cases T2 with
     | none=>rw [joinD_2 hT1 hT2]; rfl
     | some l2=>
       rw [joinD_3 hT1 hT2]
       rw [mixs_snoc hml,List.all_append] at hOK
       rw [←hOK]
       cases h1:(mixs (Qq.tdiv g) a.mult (P.tdiv g) b.mult).all (·.2) <;> cases h2:(mixI (Qq.tdiv g) a.scale (P.tdiv g) b.scale).2 <;> simp [h2]
 have key:∀ h',(∀ id,id≠n+2→h' id=h7 id)→h' (n+2)=some ⟨true,3,[[.int .i64 (T2.getD lin0).Const,.ref q13 0 (T2.getD lin0).Coeffs.length,.ref n6 0 SC.length]]⟩→K (.tup [.agg [.int .i64 (T2.getD lin0).Const,.ref q13 0 (T2.getD lin0).Coeffs.length,.ref n6 0 SC.length],.bool ((T1.isSome&&T2.isSome)&&OK)]) h' (n6+1):=by
   intro h' hf' _
   rw [hb]
   have hfx:∀ id,id<n→h' id=h id:=fun id hid=>by rw [hf' id (by omega),hf7 id (by omega),hf60 id hid]
   have g1:h' q13=some ⟨false,1,intsR (T2.getD lin0).Coeffs⟩:=by rw [hf' q13 (by omega),uq]
   have g2:h' n6=some ⟨false,1,intsR SC⟩:=by rw [hf' n6 (by omega),e15]
   refine hK h' (n6+1) _ _ _ _ _ (by omega) hfx fun d hd => ?_
   have hs:(joinD a (Qq.tdiv g) b (P.tdiv g)).isSome=true:=by rw [hd]; rfl
   rw [←hb] at hs
   simp only [Bool.and_eq_true] at hs
   obtain ⟨l1,rfl⟩:=Option.isSome_iff_exists.1 hs.1.1
   simp only [Option.getD_some] at hT2
   obtain ⟨l2,rfl⟩:=Option.isSome_iff_exists.1 hs.1.2
   have hoka:=hs.2
   have hJ:=joinD_3 hT1 hT2
   have hSCv:SC=(mixs (Qq.tdiv g) a.mult (P.tdiv g) b.mult).map (·.1)++[(mixI (Qq.tdiv g) a.scale (P.tdiv g) b.scale).1]:=by
     rw [←hSC]
     unfold scV
     rw [hOK,hoka,if_pos rfl,mixs_snoc hml]; simp
   have hcond:((mixI (Qq.tdiv g) a.scale (P.tdiv g) b.scale).2&&(mixs (Qq.tdiv g) a.mult (P.tdiv g) b.mult).all (·.2))=true:=by
     rw [mixs_snoc hml,List.all_append,hoka] at hOK
     simp at hOK
     simpa [and_comm] using hOK
   rw [hcond,if_pos rfl,hd] at hJ
   have hd':=Option.some.inj hJ
   subst hd'
   exact ⟨_,_,rfl,.inr (.inr ⟨q13,by omega,rfl,g1⟩),.inr ⟨n6,by omega,by rw [hSCv],by rw [g2,hSCv]⟩⟩
 have x13:s7 13 = .ptr k13 0 0:=by rw [hk7.2.2.1,s13]
 have y12:s7 12 = .bool T1.isSome:=by rw [hk7.2.1,x12]
 have y14:s7 14 = .bool T2.isSome:=by rw [hk7.2.2.2,s14]
 have y6:s7 6 = .ptr (n+2) 0 0:=by rw [hk7.1,x6]
 generalize T1.isSome=b1 at *
 generalize T2.isSome=b2 at *
 cases b1 <;> cases b2 <;> simp [jn7,x13,u13,s15,y12,y14,s16,y6,u6]
 all_goals
   exact key _ (fun id hid=>upd_other _ _ _ _ hid) (upd_same _ _ _)
end Go.Proofs.Ytoclolkigjbcgaa

namespace Go.Proofs.Ytoclolkigjbcgaa
set_option linter.all false
open Go Go.RowKit Go.Proofs
set_option maxRecDepth 20000
set_option maxHeartbeats 2000000
theorem call_combined {a b:DDer} {va ma vb mb:AV} {j k:Int} {h:Heap} {n:Nat} {K:AV→Heap→Nat→Prop} (hml:b.mult.length=a.mult.length) (hm20:a.mult.length≤20) (A1:SVi a.l.Coeffs va h n) (A2:OVi a.mult ma h n) (B1:SVi b.l.Coeffs vb h n) (B2:OVi b.mult mb h n)
   (hK:∀ h' n' o r,n≤n'→(∀ id,id<n→h' id=h id)→DerR o r h' n'→(∀ d,joinD a j b k=some d→o=d)→K (.tup [.agg r,.bool (joinD a j b k).isSome]) h' n') :
   ACall Try.prog 57 [.agg [.int .i64 a.l.Const,va,ma,.int .i64 a.scale],i64 j,.agg [.int .i64 b.l.Const,vb,mb,.int .i64 b.scale],i64 k] h n K:=by
 refine acall_body Try.func57 a57_ok rfl (by simp [a57]) ?_
 unfold a57
 have c1:=A1.cell
 have c2:=A2.cell
 have c3:=B1.cell
 have c4:=B2.cell
 refine rC_cutH [] (fun s h' m=>m=n+5∧(s 4 = .ptr n 0 0∧s 5 = .ptr (n+1) 0 0∧s 6 = .ptr (n+2) 0 0∧s 7 = .ptr (n+3) 0 0∧s 8 = .ptr (n+4) 0 0)∧(∀ id,id<n→h' id=h id) ∧
   h' n=some ⟨true,4,[[.int .i64 a.l.Const,va,ma,.int .i64 a.scale]]⟩∧h' (n+1)=some ⟨true,1,[[i64 j]]⟩∧h' (n+2)=some ⟨true,4,[[.int .i64 b.l.Const,vb,mb,.int .i64 b.scale]]⟩∧h' (n+3)=some ⟨true,1,[[i64 k]]⟩∧h' (n+4)=some ⟨true,4,[[.int .i64 0,.nil 1,.nil 1,.int .i64 0]]⟩) ?_ ?_
 · simp [cb0,-isCell,c1,c2,c3,c4]
   simp [isCell]
   have ne:¬n=n+1+1+1+1∧¬n=n+1+1+1∧¬n=n+1+1∧¬n=n+1∧¬n+1=n+1+1+1+1∧¬n+1=n+1+1+1∧¬n+1=n+1+1∧¬n+2=n+1+1+1+1∧¬n+2=n+1+1+1∧¬n+3=n+1+1+1+1∧n+2=n+1+1∧n+3=n+1+1+1∧n+4=n+1+1+1+1:=by omega
   refine ⟨fun id hid => ?_,?_⟩
   · have:¬id=n∧¬id=n+1∧¬id=n+1+1∧¬id=n+1+1+1∧¬id=n+1+1+1+1:=by omega
     simp [this]
   · simp [ne]
 rintro s1 h1 n1 - ⟨rfl,⟨s4,s5,s6,s7,s8⟩,fr,e4,e5,e6,e7,e8⟩
 have A1':SVi a.l.Coeffs va h1 (n+5):=A1.keep (by omega) (Keeps.of fr)
 refine rC_seqI (cb1_run s4 s5 e4 e5 A1' ?_)
 intro s2 h2 n2 k10 q10 hk2 hn2 fr2 s11 s10 L2
 simp at hk2
 rw [kont_seq]
 have fr2':∀ id,id<n→h2 id=h id:=fun id hid=>by rw [fr2 id (by omega),fr id hid]
 have B1':SVi b.l.Coeffs vb h2 n2:=B1.keep (by omega) (Keeps.of fr2')
 generalize hT1:addScaled (constLin 0 a.l.Coeffs.length) j a.l=T1 at *
 refine rC_seqI (cb2_run (b:=b) (k:=k) (k6:=n+2) (k7:=n+3) (by rw [hk2.2.2.1,s6]) (by rw [hk2.2.2.2.1,s7]) s10 (by rw [fr2 _ (by omega),e6]) (by rw [fr2 _ (by omega),e7]) L2 B1' (by omega) ?_)
 intro s3 h3 n3 q hk3 hn3 fr3 s12 L3
 simp at hk3
 rw [kont_seq]
 have fr3':∀ id,id<n→h3 id=h id:=fun id hid=>by rw [fr3 id (by omega),fr2' id hid]
 have e8':h3 (n+4)=some ⟨true,4,[[.int .i64 0,.nil 1,.nil 1,.int .i64 0]]⟩:=by rw [fr3 _ (by omega),fr2 _ (by omega),e8]
 have bad:joinD a j b k=Option.none→K (.tup [.agg [.int .i64 0,.nil 1,.nil 1,.int .i64 0],.bool false]) h3 n3∧∀ h',(∀ id,id≠n+4→h' id=h3 id)→K (.tup [.agg [.int .i64 0,.nil 1,.nil 1,.int .i64 0],.bool false]) h' n3:=fun hj=>by
   have key:∀ h',(∀ id,id<n→h' id=h id)→K (.tup [.agg [.int .i64 0,.nil 1,.nil 1,.int .i64 0],.bool false]) h' n3:=fun h' hf=>by
     have:=hK h' n3 der0 _ (by omega) hf der0_R (by rw [hj]; simp)
     rw [hj] at this
     exact this
   exact ⟨key h3 fr3',fun h' hf=>key h' fun id hid=>by rw [hf id (by omega),fr3' id hid]⟩
 have x8:s3 8 = .ptr (n+4) 0 0:=by rw [hk3.2.2.2.2.1,hk2.2.2.2.2,s8]
 have x11:s3 11 = .bool T1.isSome:=by rw [hk3.2.2.2.2.2.2,s11]
 cases T1 with
 | none=>
   simp [cb3,x11,x8,e8']
   refine (bad (joinD_1 hT1)).2 _ ?_
   intro id hid
   simp [hid]
 | some l1=>
   simp only [Option.getD_some] at s12 L3 L2
   generalize hT2:addScaled l1 k b.l=T2 at *
   cases T2 with
   | none=>
     simp [cb3,x11,x8,e8',s12]
     refine (bad (joinD_2 hT1 hT2)).2 _ ?_
     intro id hid
     simp [hid]
   | some l2=>
     simp only [Option.getD_some] at L3
     obtain ⟨q1,q2,q3,q4,q5,q6,q7⟩:=L3
     have y4:s3 4 = .ptr n 0 0:=by rw [hk3.1,hk2.1,s4]
     have y5:s3 5 = .ptr (n+1) 0 0:=by rw [hk3.2.1,hk2.2.1,s5]
     have y6:s3 6 = .ptr (n+2) 0 0:=by rw [hk3.2.2.1,hk2.2.2.1,s6]
     have y7:s3 7 = .ptr (n+3) 0 0:=by rw [hk3.2.2.2.1,hk2.2.2.2.1,s7]
     have y10:s3 10 = .ptr k10 0 0:=by rw [hk3.2.2.2.2.2.1,s10]
     have up:∀ id,id<n+5→h3 id=h1 id:=fun id hid=>by rw [fr3 id hid,fr2 id (by omega)]
     have u4:h3 n=some ⟨true,4,[[.int .i64 a.l.Const,va,ma,.int .i64 a.scale]]⟩:=by rw [up _ (by omega),e4]
     have u5:h3 (n+1)=some ⟨true,1,[[i64 j]]⟩:=by rw [up _ (by omega),e5]
     have u6:h3 (n+2)=some ⟨true,4,[[.int .i64 b.l.Const,vb,mb,.int .i64 b.scale]]⟩:=by rw [up _ (by omega),e6]
     have u7:h3 (n+3)=some ⟨true,1,[[i64 k]]⟩:=by rw [up _ (by omega),e7]
     have ne:¬n=n3∧¬n+1=n3∧¬n+2=n3∧¬n+3=n3∧¬n+4=n3∧¬q=n3∧¬k10=n3:=by omega
     simp [cb3,x11,s12,cb4,cb5,cb6,y5,y7,y10,y4,y6,q6,u4,u6,ne]
     refine pure_mix (j:=j) (k:=k) (by simp [ne,u5]) (by simp [ne,u7]) ?_
     simp [pairA,cb7]
     refine cb8_run (n0:=n) (h0:=h) (a:=a) (b:=b) (va:=va) (ma:=ma) (vb:=vb) (mb:=mb) (j:=j) (k:=k) (k14:=n3) (l2:=l2) (q:=q) hml hm20 A2 B2 _ (by simp [y4]) (by simp [y6]) (by simp) (by simp) (by simp; rfl) ⟨by omega,by omega,by omega,by omega,?_,by simp [ne,u4],by simp [ne,u5],by simp [ne,u6],by simp [ne,u7],by simp [ne,e8'],by simp [ne,q7],.nil 1,by simp; rfl,.inl ⟨rfl,rfl⟩,by simp⟩ ?_
     · intro id hid
       have:¬id=n3:=by omega
       simp [this,fr3' id hid]
     intro s4' h4 n4 hk4 s16 hn4 S
     obtain ⟨S1,S2,Sq0,Sqm,S3,S4,S5,S6,S7,S8,Sq,vm,S9,S10,S11⟩:=S
     simp at hk4
     have z8:s4' 8 = .ptr (n+4) 0 0:=by rw [hk4.1]; simp [x8]
     have hj:=joinD_3 hT1 hT2
     simp [cb9,hk4,x8,S8,S9,s16]
     have hx:∀ id,id<n→upd h4 (n+4) (some ⟨true,4,[[.int .i64 l2.Const,.ref q 0 l2.Coeffs.length,vm,.int .i64 (mixI j a.scale k b.scale).1]]⟩) id=h id:=fun id hid=>by
       have:¬id=n+4:=by omega
       simp [this,S3 id hid]
     have kp:Keeps h4 (upd h4 (n+4) (some ⟨true,4,[[.int .i64 l2.Const,.ref q 0 l2.Coeffs.length,vm,.int .i64 (mixI j a.scale k b.scale).1]]⟩)) n4:=fun id z rows hid e=>by
       have:¬id=n+4:=by rintro rfl; rw [S8] at e; simp at e
       simp [this,e]
     have res:=hK _ n4 ⟨l2,(mixs j a.mult k b.mult).map (·.1),(mixI j a.scale k b.scale).1⟩ _ (by omega) hx ⟨.ref q 0 l2.Coeffs.length,vm,rfl,(SVi.keep (.inr (.inr ⟨q,Sqm,rfl,Sq⟩)) (Nat.le_refl _) kp),S10.keep (Nat.le_refl _) kp⟩ ?_
     · have hs:(joinD a j b k).isSome=((mixI j a.scale k b.scale).2&&(mixs j a.mult k b.mult).all (·.2)):=by
         rw [hj]; split <;> simp_all
       rw [hs] at res
       exact ⟨S10.cell,res⟩
     · intro d hd
       rw [hj] at hd
       split at hd
       · exact Option.some.inj hd
       · cases hd
end Go.Proofs.Ytoclolkigjbcgaa

namespace Go.Proofs.Ytoclolkigjbcgaa
set_option linter.all false
open Go Go.RowKit Go.Proofs
def wo0:AC:=(.reg [⟨some 4,.mv (.k (.nil 4)),no⟩])
def wo1:AC:=(.reg [⟨some 5,.mv (.k (.nil 4)),no⟩])
def wa:AC:=(.reg [⟨some 21,.ixa 4 (.t 17) (.t 19),no⟩,⟨some 22,.ld true 4 (.t 21),no⟩,⟨some 7,.box [(.int .i64 0),(.nil 1),(.nil 1),(.int .i64 0)],no⟩,⟨no,.st 4 (.t 7) (.t 22),no⟩])
def wb:AC:=(.reg [⟨some 23,.fld 0 (.t 7),no⟩,⟨some 24,.fld 1 (.t 23),no⟩,⟨some 25,.ld false 1 (.t 24),no⟩,⟨some 26,.mv (.t 1),no⟩,⟨some 27,.ixa 1 (.t 25) (.t 26),no⟩,⟨some 28,.ld false 1 (.t 27),no⟩,⟨some 29,.bin .eql (.t 28) (.k (.int .i64 0)),no⟩])
def wc:AC:=(.reg [⟨some 30,.mv (.t 5),no⟩,⟨some 31,.ld true 4 (.t 7),no⟩,⟨some 32,.bslb 4 [.t 31],no⟩,⟨some 33,.appb 64 4 (.t 30) (.t 32),no⟩,⟨some 5,.mv (.t 33),no⟩])
def wo2:AC:=(.seq  (.reg [⟨some 17,.mv (.t 0),no⟩,⟨some 18,.len false (.t 17),no⟩,⟨some 19,.mv (.k (.int .i64 0)),no⟩]) (.blk 0 (.loop (.seq  (.reg [⟨some 20,.bin .lss (.t 19) (.t 18),no⟩]) (.seq (.cond (.t 20) .skip (.exit 0)) (.seq (.blk 1 (.seq  wa (.seq  wb (.cond (.t 29)  wc .skip))))  (.reg [⟨some 34,.bin .add (.t 19) (.k (.int .i64 1)),no⟩,⟨some 19,.mv (.t 34),no⟩])))))))
def wd:AC:=(.reg [⟨some 39,.ixa 4 (.t 35) (.t 37),no⟩,⟨some 40,.ld true 4 (.t 39),no⟩,⟨some 9,.box [(.int .i64 0),(.nil 1),(.nil 1),(.int .i64 0)],no⟩,⟨no,.st 4 (.t 9) (.t 40),no⟩])
def we:AC:=(.reg [⟨some 41,.fld 0 (.t 9),no⟩,⟨some 42,.fld 1 (.t 41),no⟩,⟨some 43,.ld false 1 (.t 42),no⟩,⟨some 44,.mv (.t 1),no⟩,⟨some 45,.ixa 1 (.t 43) (.t 44),no⟩,⟨some 46,.ld false 1 (.t 45),no⟩,⟨some 10,.mv (.t 46),no⟩])
def wg:AC:=(.reg [⟨some 53,.ixa 4 (.t 49) (.t 51),no⟩,⟨some 54,.ld true 4 (.t 53),no⟩,⟨some 12,.box [(.int .i64 0),(.nil 1),(.nil 1),(.int .i64 0)],no⟩,⟨no,.st 4 (.t 12) (.t 54),no⟩])
def wh:AC:=(.reg [⟨some 55,.fld 0 (.t 12),no⟩,⟨some 56,.fld 1 (.t 55),no⟩,⟨some 57,.ld false 1 (.t 56),no⟩,⟨some 58,.mv (.t 1),no⟩,⟨some 59,.ixa 1 (.t 57) (.t 58),no⟩,⟨some 60,.ld false 1 (.t 59),no⟩,⟨some 61,.un .neg (.t 60),no⟩,⟨some 13,.mv (.t 61),no⟩])
def wi:AC:=(.reg [⟨some 64,.mv (.t 10),no⟩,⟨some 65,.mv (.t 13),no⟩,⟨some 66,.call (.k (.fn (.func 56) [] [])) [.t 64,.t 65],no⟩,⟨some 14,.mv (.t 66),no⟩])
def wj:AC:=(.draw (.op ⟨some 68,.ld true 4 (.t 9),no⟩ (.op ⟨some 69,.mv (.t 13),no⟩ (.op ⟨some 70,.mv (.t 14),no⟩ (.op ⟨some 71,.bin .quo (.t 69) (.t 70),no⟩ (.op ⟨some 72,.ld true 4 (.t 12),no⟩ (.op ⟨some 73,.mv (.t 10),no⟩ (.op ⟨some 74,.mv (.t 14),no⟩ (.op ⟨some 75,.bin .quo (.t 73) (.t 74),no⟩ (.both (.op ⟨some 76,.call (.k (.fn (.func 57) [] [])) [.t 68,.t 71,.t 72,.t 75],no⟩ (.op ⟨some 67,.mv (.t 76),no⟩ (.op ⟨some 77,.ext (.t 67) 0,no⟩ (.op ⟨some 78,.ext (.t 67) 1,no⟩ (.op ⟨some 15,.box [(.int .i64 0),(.nil 1),(.nil 1),(.int .i64 0)],no⟩ (.hop ⟨no,.st 4 (.t 15) (.t 77),no⟩ [] (.op ⟨some 16,.mv (.t 78),no⟩ .fin))))))) (.op ⟨some 15,.box [(.int .i64 0),(.nil 1),(.nil 1),(.int .i64 0)],no⟩ (.op ⟨some 76,.call (.k (.fn (.func 57) [] [])) [.t 68,.t 71,.t 72,.t 75],no⟩ (.op ⟨some 67,.mv (.t 76),no⟩ (.op ⟨some 77,.ext (.t 67) 0,no⟩ (.op ⟨some 78,.ext (.t 67) 1,no⟩ (.hop ⟨no,.st 4 (.t 15) (.t 77),no⟩ [] (.op ⟨some 16,.mv (.t 78),no⟩ .fin)))))))))))))))))
def wl:AC:=(.reg [⟨some 80,.mv (.t 5),no⟩,⟨some 81,.ld true 4 (.t 15),no⟩,⟨some 82,.bslb 4 [.t 81],no⟩,⟨some 83,.appb 64 4 (.t 80) (.t 82),no⟩,⟨some 5,.mv (.t 83),no⟩])
def win:AC:=(.blk 4 (.loop (.seq  (.reg [⟨some 52,.bin .lss (.t 51) (.t 50),no⟩]) (.seq (.cond (.t 52) .skip (.exit 4)) (.seq (.blk 5 (.seq  wg (.seq  wh (.seq (.seq  (.reg [⟨some 62,.mv (.t 13),no⟩,⟨some 63,.bin .leq (.t 62) (.k (.int .i64 0)),no⟩]) (.cond (.t 63) (.exit 5) .skip)) (.seq  wi (.seq wj (.seq  (.reg [⟨some 79,.mv (.t 16),no⟩]) (.cond (.t 79)  wl .skip))))))))  (.reg [⟨some 84,.bin .add (.t 51) (.k (.int .i64 1)),no⟩,⟨some 51,.mv (.t 84),no⟩]))))))
def wo3:AC:=(.seq  (.reg [⟨some 35,.mv (.t 0),no⟩,⟨some 36,.len false (.t 35),no⟩,⟨some 37,.mv (.k (.int .i64 0)),no⟩]) (.blk 2 (.loop (.seq  (.reg [⟨some 38,.bin .lss (.t 37) (.t 36),no⟩]) (.seq (.cond (.t 38) .skip (.exit 2)) (.seq (.blk 3 (.seq  wd (.seq  we (.seq (.seq  (.reg [⟨some 47,.mv (.t 10),no⟩,⟨some 48,.bin .leq (.t 47) (.k (.int .i64 0)),no⟩]) (.cond (.t 48) (.exit 3) .skip)) (.seq  (.reg [⟨some 49,.mv (.t 0),no⟩,⟨some 50,.len false (.t 49),no⟩,⟨some 51,.mv (.k (.int .i64 0)),no⟩]) win)))))  (.reg [⟨some 85,.bin .add (.t 37) (.k (.int .i64 1)),no⟩,⟨some 37,.mv (.t 85),no⟩])))))))
def wo4:AC:=(.reg [⟨some 86,.mv (.t 5),no⟩,⟨some 4,.mv (.t 86),no⟩])
def a36:AFn:=⟨87,[.t 4],(.seq wo0 (.seq wo1 (.seq wo2 (.seq wo3 (.seq wo4 .ret)))))⟩
theorem a36_ok:compFnX true Try.prog Try.f36=some a36:=by kernel_rfl
set_option maxRecDepth 20000
set_option maxHeartbeats 2000000
theorem DerR.cells {d:DDer} {r:List AV} {h:Heap} {n:Nat} (x:DerR d r h n):r.all isCell=true∧r.length=4:=by
 obtain ⟨vl,vm,rfl,h1,h2⟩:=x
 have c1:=h1.cell
 have c2:=h2.cell
 simp [-isCell,c1,c2]
 simp [isCell]
section
variable {ks:List Kt} {s:Env} {h h':Heap} {n:Nat} {Q:Fin}
theorem wload {a:AC} {ds:List DDer} {vl:AV} {i lo x y b:Nat} (ha:a=wa∧x=17∧y=19∧b=7∨a=wd∧x=35∧y=37∧b=9∨a=wg∧x=49∧y=51∧b=12) (L:LstV DerR 4 lo ds vl h n) (hi:i<ds.length) (sx:s x=vl) (sy:s y = .int .i64 i)
   (hK:∀ s' h' r,(∀ j∈[0,1,5,17,18,19,35,36,37,49,50,51],s' j=s j)→(b=12→s' 9=s 9∧s' 10=s 10)→(∀ id,id<n→h' id=h id)→s' b = .ptr n 0 0→h' n=some ⟨true,4,[r]⟩→DerR ds[i] r h' (n+1)→kont Try.prog ks .normal s' h' (n+1) Q):rC Try.prog a ks s h n Q:=by
 rcases ha with ⟨rfl,rfl,rfl,rfl⟩ | ⟨rfl,rfl,rfl,rfl⟩ | ⟨rfl,rfl,rfl,rfl⟩
 all_goals
   first | simp [-isCell,wa,sx,sy] | simp [-isCell,wd,sx,sy] | simp [-isCell,wg,sx,sy]
   refine ixaV_lst L hi ?_
   intro id rows r hid e hl hr hR
   have hne:¬id=n:=by omega
   have fr:∀ j,j<n→¬j=n:=by intro j _; omega
   have hR':=hR
   obtain ⟨v1,v2,rfl,g1,g2⟩:=hR
   have c1:=g1.cell
   have c2:=g2.cell
   simp [-isCell,e,hl,hr,c1,c2]
   simp [isCell]
   refine hK _ _ [.int .i64 ds[i].l.Const,v1,v2,.int .i64 ds[i].scale] (by simp) (by simp) (fun j hj=>by simp [fr j hj]) (by simp) (by simp) (hR'.keep (Nat.le_succ n) (Keeps.of fun j hj=>by simp [fr j hj]))
theorem wapp {a:AC} {acc:List DDer} {d:DDer} {r:List AV} {v:AV} {q lo b:Nat} (ha:a=wc∧b=7∨a=wl∧b=15) (sb:s b = .ptr q 0 0) (s5:s 5=v) (eb:h q=some ⟨true,4,[r]⟩) (hqn:q<n) (hr:DerR d r h n) (B:LstV DerR 4 lo acc v h n) (hlo:lo≤n) (hl:acc.length≤4000)
   (hK:∀ s' h' n',(∀ j∈[0,1,17,18,19,35,36,37,49,50,51,9,10],s' j=s j)→n≤n'→Keeps h h' n→(∀ id,id<n→(∀ k,v ≠ .ref id 0 k)→h' id=h id)→(∀ id k,s' 5 = .ref id 0 k→n≤id)→LstV DerR 4 lo (acc++[d]) (s' 5) h' n'→kont Try.prog ks .normal s' h' n' Q):rC Try.prog a ks s h n Q:=by
 have hR':=hr
 obtain ⟨v1,v2,rfl,g1,g2⟩:=hr
 have c1:=g1.cell
 have c2:=g2.cell
 have fr:∀ j,j<n→¬j=n:=by intro j _; omega
 have kp:Keeps h (upd h n (some ⟨true,4,[[.int .i64 d.l.Const,v1,v2,.int .i64 d.scale]]⟩)) n:=Keeps.of fun j hj=>by simp [fr j hj]
 have B':=LstV.keep (R:=DerR) (h':=upd h n (some ⟨true,4,[[.int .i64 d.l.Const,v1,v2,.int .i64 d.scale]]⟩)) (n':=n+1) (fun _ _ _ _ _ _=>DerR.keep) B (Nat.le_succ n) kp fun id rows _ hid _ e=>by simp [fr id hid,e]
 rcases ha with ⟨rfl,rfl⟩ | ⟨rfl,rfl⟩
 all_goals
   first | simp [-isCell,wc,sb,s5,eb,c1,c2] | simp [-isCell,wl,sb,s5,eb,c1,c2]
   simp [isCell]
   refine appbV_lst (R:=DerR) (fun _ _ _ _ _ _=>DerR.keep) B' (r:=[.int .i64 d.l.Const,v1,v2,.int .i64 d.scale]) (d:=d) (by simp [srcRowsB]) (hR'.keep (Nat.le_succ n) kp) (by omega) (by unfold LIM; omega) ?_
   intro h' k1 k2 k3
   simp
   refine hK _ _ _ (by simp) (by omega) (kp.trans k1 (Nat.le_succ n)) (fun id hid hv=>by rw [k2 id (by omega) hv]; simp [fr id hid]) (by simp) (by simpa using k3)
theorem wcoef {a:AC} {d:DDer} {r:List AV} {q N m v b:Nat} {J:Int} (ha:a=wb∧b=7∧J=coefD v d∨a=we∧b=9∧J=coefD v d∨a=wh∧b=12∧J = -(coefD v d)) (g:GD N m d) (hv:v<N) (sb:s b = .ptr q 0 0) (s1:s 1 = .int .i64 v) (eb:h q=some ⟨true,4,[r]⟩) (hr:DerR d r h n)
   (hK:∀ s',(∀ j∈[0,1,5,7,9,12,17,18,19,35,36,37,49,50,51],s' j=s j)→(b=7→s' 29 = .bool (coefD v d==0))→(b=9→s' 10 = .int .i64 (coefD v d))→(b=12→s' 13 = .int .i64 (-(coefD v d))∧s' 10=s 10)→kont Try.prog ks .normal s' h n Q):rC Try.prog a ks s h n Q:=by
 obtain ⟨v1,v2,rfl,g1,g2⟩:=hr
 have hvl:v<d.l.Coeffs.length:=by rw [g.cl]; exact hv
 have hc:d.l.Coeffs[v]=coefD v d:=by simp [coefD,hvl]
 have hw:IntKind.i64.wrap (0 - coefD v d) = -(coefD v d):=by
   have:=okC_iff.1 (g.coef hv)
   rw [wrap64 (by omega)]; omega
 simp at hw
 rcases ha with ⟨rfl,rfl,rfl⟩ | ⟨rfl,rfl,rfl⟩ | ⟨rfl,rfl,rfl⟩
 all_goals
   first | simp [wb,sb,s1,eb] | simp [we,sb,s1,eb] | simp [wh,sb,s1,eb]
   refine ixaV_svi g1 hvl ?_
   intro w1 hw1
   simp
   refine hw1 _ ?_
   rw [hc]
   simp [hw]
   refine hK _ (by simp) (by simp [BEq.beq]) (by simp) (by simp)
end
end Go.Proofs.Ytoclolkigjbcgaa

namespace Go.Proofs.Ytoclolkigjbcgaa
set_option linter.all false
open Go Go.RowKit Go.Proofs
set_option maxRecDepth 20000
set_option maxHeartbeats 2000000
section
variable {ks:List Kt} {s:Env} {h h':Heap} {n:Nat} {Q:Fin}
theorem LstV.below {R:DDer→List AV→Heap→Nat→Prop} {z b:Nat} {ds:List DDer} {v:AV} (x:LstV R z b ds v h n) {q:Nat} (hq:n≤q):∀ k,v ≠ .ref q 0 k:=by
 rintro k rfl
 rcases x with ⟨h1,_⟩ | ⟨id,rows,_,h1,h2,_⟩
 · cases h1
 · simp at h2; omega
theorem LstV.from {R:DDer→List AV→Heap→Nat→Prop} {z b:Nat} {ds:List DDer} {v:AV} (x:LstV R z b ds v h n):∀ id k,v = .ref id 0 k→b≤id:=by
 rintro id k rfl
 rcases x with ⟨h1,_⟩ | ⟨id',rows,h0,h1,h2,_⟩
 · cases h1
 · simp at h2; omega
theorem wo2_run {ds:List DDer} {vl:AV} {N m v n0:Nat} {h0:Heap} (hg:∀ d∈ds,GD N m d) (hv:v<N) (hd:ds.length≤60) (hn0:n0≤n) (hf:∀ id,id<n0→h id=h0 id) (L:LstV DerR 4 0 ds vl h0 n0) (s0:s 0=vl) (s1:s 1 = .int .i64 v) (s5:s 5 = .nil 4)
   (hK:∀ s' h' n',(∀ j∈[0,1],s' j=s j)→n≤n'→(∀ id,id<n0→h' id=h0 id)→LstV DerR 4 n0 (ds.filter fun d=>coefD v d==0) (s' 5) h' n'→kont Try.prog ks .normal s' h' n' Q):rC Try.prog wo2 ks s h n Q:=by
 have keepL:∀ {h' m'},n0≤m'→(∀ id,id<n0→h' id=h0 id)→LstV DerR 4 0 ds vl h' m':=fun hm hh=>LstV.keep (R:=DerR) (fun _ _ _ _ _ _=>DerR.keep) L hm (Keeps.of hh) fun id rows _ hid _ e=>by rw [hh id hid,e]
 generalize hT:(ds.filter fun d=>coefD v d==0)=T at *
 have hTl:T.length≤60:=by rw [←hT]; exact Nat.le_trans (List.length_filter_le _ _) hd
 simp [wo2,s0]
 refine lenV_lst (keepL hn0 hf) (by unfold LIM; omega) ?_
 simp
 refine rL_forO [0,1,17,18] 19 ds.length (fun i s h m'=>n≤m'∧(∀ id,id<n0→h id=h0 id)∧∃ acc,LstV DerR 4 n0 acc (s 5) h m'∧acc++((ds.drop i).filter fun d=>coefD v d==0)=T) (by unfold LIM; omega) (by simp) ⟨Nat.le_refl _,hf,[],.inl ⟨by simp [s5],rfl⟩,by simpa using hT⟩ ?_ ?_
 · rintro i st h1 m1 R hi hgi hk s19 hw ⟨hm1,hf1,acc,B,hJ⟩ hR hret _
   simp at hk
   rw [List.drop_eq_getElem_cons hi,List.filter_cons] at hJ
   have hal:=congrArg List.length hJ
   simp only [List.length_append] at hal
   refine rC_cut [0,1,5,17,18,19] (fun s=>s 20 = .bool true) (by simp [hk,s19,hi]) ?_
   intro st1 hk1 s20
   simp at hk1
   refine rC_pass s20 (rC_seqI (rC_blkI ?_))
   refine rC_seqI (wload (.inl ⟨rfl,rfl,rfl,rfl⟩) (keepL (by omega) hf1) hi (by simp [hk1,hk]) (by simp [hk1,s19]) ?_)
   intro st2 h2 r hk2 _ hf2 s7 e7 hr
   simp at hk2
   rw [kont_seq]
   have B2:LstV DerR 4 n0 acc (st 5) h2 (m1+1):=LstV.keep (R:=DerR) (fun _ _ _ _ _ _=>DerR.keep) B (Nat.le_succ m1) (Keeps.of hf2) fun id rows _ hid _ e=>by rw [hf2 id hid,e]
   refine rC_seqI (wcoef (.inl ⟨rfl,rfl,rfl⟩) (hg _ (List.getElem_mem hi)) hv s7 (by simp [hk2,hk1,hk,s1]) e7 hr ?_)
   intro st3 hk3 s29 _ _
   simp at hk3
   have s29:=s29 rfl
   rw [kont_seq]
   cases hc:(coefD v ds[i]==0)
   · rw [hc] at hJ s29
     simp only [Bool.false_eq_true,if_false] at hJ
     simp [s29,hk3,hk2,hk1,s19,hw]
     exact hR _ _ _ (by simp [hk3,hk2,hk1,hk]) (by simp) ⟨by omega,fun id hid=>by rw [hf2 id (by omega),hf1 id hid],acc,by simpa [hk3,hk2,hk1] using B2,hJ⟩
   · rw [hc] at hJ s29
     simp only [if_true] at hJ
     simp [s29]
     refine wapp (acc:=acc) (d:=ds[i]) (v:=st 5) (q:=m1) (.inl ⟨rfl,rfl⟩) (by simp [hk3,s7]) (by simp [hk3,hk2,hk1]) e7 (Nat.lt_succ_self m1) hr B2 (by omega) (by omega) ?_
     intro st4 h4 m4 hk4 hm4 kp4 hf4 hnew B4
     simp at hk4
     simp [hk4,hk3,hk2,hk1,s19,hw]
     refine hR _ _ _ (by simp [hk4,hk3,hk2,hk1,hk]) (by simp) ⟨by omega,fun id hid => ?_,acc++[ds[i]],by simpa using B4,by simpa using hJ⟩
     rw [hf4 id (by omega) fun k e => ?_,hf2 id (by omega),hf1 id hid]
     have:=B.from id k e
     omega
 · rintro st h1 m1 R hk s19 ⟨hm1,hf1,acc,B,hJ⟩ hret hX
   simp at hk
   rw [List.drop_eq_nil_of_le (by omega)] at hJ
   simp at hJ
   subst hJ
   refine rC_cut [0,1,5] (fun s=>s 20 = .bool false) (by simp [hk,s19]) ?_
   intro st1 hk1 s20
   simp at hk1
   refine rC_stop s20 ?_
   refine hX _ _ _ _ ?_
   simp
   exact hK _ _ _ (by simp [hk1,hk]) hm1 hf1 (by simpa [hk1] using B)
end
end Go.Proofs.Ytoclolkigjbcgaa

namespace Go.Proofs.Ytoclolkigjbcgaa
set_option linter.all false
open Go Go.RowKit Go.Proofs
set_option maxRecDepth 20000
set_option maxHeartbeats 2000000
def joinF (v:Nat) (a b:DDer):Option DDer:=if -(coefD v b)≤0 then Option.none else joinAt v a b
theorem joins_F {v:Nat} {l:List DDer} {a:DDer} (h:¬coefD v a≤0):joins v l a=l.filterMap (joinF v a):=by unfold joins; rw [if_neg h]; rfl
section
variable {ks:List Kt} {s:Env} {h h':Heap} {n:Nat} {Q:Fin}
theorem wj_run {a b:DDer} {ra rb:List AV} {N m k9 k12:Nat} {p q g:Int} (ga:GD N m a) (gb:GD N m b) (hm:m≤20) (hp:0≤p∧p≤1000000000) (hq:0≤q∧q≤1000000000) (hg0:0<g) (hg:g≤1000000000) (s9:s 9 = .ptr k9 0 0) (s12:s 12 = .ptr k12 0 0) (s10:s 10 = .int .i64 p) (s13:s 13 = .int .i64 q) (s14:s 14 = .int .i64 g)
   (e9:h k9=some ⟨true,4,[ra]⟩) (e12:h k12=some ⟨true,4,[rb]⟩) (hra:DerR a ra h n) (hrb:DerR b rb h n)
   (hK:∀ s' h' n' k o r,(∀ j∈[0,1,5,9,10,17,18,19,35,36,37,49,50,51],s' j=s j)→n≤n'→(∀ id,id<n→h' id=h id)→s' 16 = .bool (joinD a (q.tdiv g) b (p.tdiv g)).isSome→s' 15 = .ptr k 0 0→n≤k→k<n'→h' k=some ⟨true,4,[r]⟩→DerR o r h' n'→(∀ d,joinD a (q.tdiv g) b (p.tdiv g)=some d→o=d)→kont Try.prog ks .normal s' h' n' Q):rC Try.prog wj ks s h n Q:=by
 have w1:=tdiv_in (g:=g) hp.1 hp.2 (by omega)
 have w2:=tdiv_in (g:=g) hq.1 hq.2 (by omega)
 have v1:IntKind.i64.wrap (p.tdiv g)=p.tdiv g:=wrap64 (by omega)
 have v2:IntKind.i64.wrap (q.tdiv g)=q.tdiv g:=wrap64 (by omega)
 have hgn:¬g=0:=by omega
 have c1:=hra.cells
 have c2:=hrb.cells
 obtain ⟨va,ma,rfl,A1,A2⟩:=hra
 obtain ⟨vb,mb,rfl,B1,B2⟩:=hrb
 have hml:b.mult.length=a.mult.length:=by rw [ga.len,gb.len]
 have hm20:a.mult.length≤20:=by rw [ga.len]; exact hm
 have fr:∀ id,id<n→¬id=n:=by intro id _; omega
 simp [wj,s9,s10,s12,s13,s14,e9,e12,hgn,v1,v2]
 constructor
 · refine acallD_of (call_combined hml hm20 A1 A2 B1 B2 ?_)
   intro h' n' o r hn hf hr ho
   refine ⟨hf,?_⟩
   obtain ⟨vo,mo,rfl,O1,O2⟩:=id hr
   have k1:=O1.cell
   have k2:=O2.cell
   simp [-isCell,k1,k2]
   simp [isCell]
   have fr':∀ id,id<n'→¬id=n':=by intro id _; omega
   refine hK _ _ _ n' o _ (by simp) (by omega) (fun id hid=>by simp [fr' id (by omega),hf id hid]) (by simp) (by simp) (by omega) (by omega) (by simp) (hr.keep (by omega) (Keeps.of fun id hid=>by simp [fr' id hid])) ho
 · have kp:Keeps h (upd h n (some ⟨true,4,[[.int .i64 0,.nil 1,.nil 1,.int .i64 0]]⟩)) n:=Keeps.of fun id hid=>by simp [fr id hid]
   refine acallD_of (call_combined hml hm20 (A1.keep (Nat.le_succ n) kp) (A2.keep (Nat.le_succ n) kp) (B1.keep (Nat.le_succ n) kp) (B2.keep (Nat.le_succ n) kp) ?_)
   intro h' n' o r hn hf hr ho
   refine ⟨hf,?_⟩
   obtain ⟨vo,mo,rfl,O1,O2⟩:=id hr
   have k1:=O1.cell
   have k2:=O2.cell
   have en:=hf n (Nat.lt_succ_self n)
   simp at en
   simp [-isCell,k1,k2,en]
   simp [isCell]
   have hx:∀ id,id<n→h' id=h id:=fun id hid=>by rw [hf id (by omega)]; simp [fr id hid]
   have kp2:Keeps h' (upd h' n (some ⟨true,4,[[.int .i64 o.l.Const,vo,mo,.int .i64 o.scale]]⟩)) n':=fun id z rows hid e=>by
     have:¬id=n:=by rintro rfl; rw [en] at e; simp at e
     simp [this,e]
   refine hK _ _ _ n o _ (by simp) (by omega) (fun id hid=>by simp [fr id hid,hx id hid]) (by simp) (by simp) (by omega) (by omega) (by simp) (hr.keep (Nat.le_refl _) kp2) ho
theorem win_run {ds:List DDer} {vl:AV} {a:DDer} {ra:List AV} {N m v n0 k9:Nat} {h0:Heap} {acc0 T:List DDer} (hg:∀ d∈ds,GD N m d) (ga:GD N m a) (hm:m≤20) (hv:v<N) (hd:ds.length≤60) (hap:¬coefD v a≤0) (L:LstV DerR 4 0 ds vl h0 n0) (hn0:n0≤n) (hk9:n0≤k9∧k9<n)
   (s1:s 1 = .int .i64 v) (s9:s 9 = .ptr k9 0 0) (s10:s 10 = .int .i64 (coefD v a)) (s49:s 49=vl) (s50:s 50 = .int .i64 ds.length) (s51:s 51 = .int .i64 0)
   (hf:∀ id,id<n0→h id=h0 id) (e9:h k9=some ⟨true,4,[ra]⟩) (hra:DerR a ra h n) (B0:LstV DerR 4 n0 acc0 (s 5) h n) (hne0:∀ k,s 5 ≠ .ref k9 0 k) (hT:acc0++ds.filterMap (joinF v a)=T) (hTl:T.length≤4000)
   (hK:∀ s' h' n',(∀ j∈[0,1,17,18,19,35,36,37],s' j=s j)→n≤n'→(∀ id,id<n0→h' id=h0 id)→LstV DerR 4 n0 T (s' 5) h' n'→kont Try.prog ks .normal s' h' n' Q):rC Try.prog win ks s h n Q:=by
 have keepL:∀ {h' m'},n0≤m'→(∀ id,id<n0→h' id=h0 id)→LstV DerR 4 0 ds vl h' m':=fun hm hh=>LstV.keep (R:=DerR) (fun _ _ _ _ _ _=>DerR.keep) L hm (Keeps.of hh) fun id rows _ hid _ e=>by rw [hh id hid,e]
 have hpa:=okC_iff.1 (ga.coef hv)
 refine rC_blkI ?_
 rw [rC_loop]
 refine rL_forO [0,1,9,10,17,18,19,35,36,37,49,50] 51 ds.length (fun i s h m'=>n≤m'∧(∀ id,id<n0→h id=h0 id)∧h k9=some ⟨true,4,[ra]⟩∧DerR a ra h m'∧(∀ k,s 5 ≠ .ref k9 0 k)∧∃ acc,LstV DerR 4 n0 acc (s 5) h m'∧acc++(ds.drop i).filterMap (joinF v a)=T) (by unfold LIM; omega) (by simp [s51]) ⟨Nat.le_refl _,hf,e9,hra,hne0,acc0,B0,by simpa using hT⟩ ?_ ?_
 · rintro i st h1 m1 R hi hgi hk s51 hw ⟨hm1,hf1,e9,hra,hne,acc,B,hJ⟩ hR hret _
   simp at hk
   rw [List.drop_eq_getElem_cons hi,List.filterMap_cons] at hJ
   have gb:=hg _ (List.getElem_mem hi)
   refine rC_cut [0,1,5,9,10,17,18,19,35,36,37,49,50,51] (fun s=>s 52 = .bool true) (by simp [hk,s51,hi,s50]) ?_
   intro st1 hk1 s52
   simp at hk1
   refine rC_pass s52 (rC_seqI (rC_blkI ?_))
   refine rC_seqI (wload (.inr (.inr ⟨rfl,rfl,rfl,rfl⟩)) (keepL (by omega) hf1) hi (by simp [hk1,hk,s49]) (by simp [hk1,s51]) ?_)
   intro st2 h2 r hk2 hk2b hf2 s12 e12 hr
   simp at hk2 hk2b
   rw [kont_seq]
   have B2:LstV DerR 4 n0 acc (st 5) h2 (m1+1):=LstV.keep (R:=DerR) (fun _ _ _ _ _ _=>DerR.keep) B (Nat.le_succ m1) (Keeps.of hf2) fun id rows _ hid _ e=>by rw [hf2 id hid,e]
   have e92:h2 k9=some ⟨true,4,[ra]⟩:=by rw [hf2 k9 (by omega),e9]
   have hra2:=hra.keep (Nat.le_succ m1) (Keeps.of hf2)
   refine rC_seqI (wcoef (.inr (.inr ⟨rfl,rfl,rfl⟩)) gb hv s12 (by simp [hk2,hk1,hk,s1]) e12 hr ?_)
   intro st3 hk3 _ _ hx
   obtain ⟨s13,s10'⟩:=hx rfl
   simp at hk3
   rw [kont_seq]
   by_cases hq : -(coefD v ds[i])≤0
   · have hJ0:joinF v a ds[i]=Option.none:=by unfold joinF; rw [if_pos hq]
     rw [hJ0] at hJ
     simp [s13,hq,hk3,hk2,hk1,s51,hw]
     exact hR _ _ _ (by simp [hk3,hk2,hk1,hk,hk2b,s10']) (by simp) ⟨by omega,fun id hid=>by rw [hf2 id (by omega),hf1 id hid],e92,hra2,by simpa [hk3,hk2,hk1] using hne,acc,by simpa [hk3,hk2,hk1] using B2,hJ⟩
   · have hpb:=okC_iff.1 (gb.coef hv)
     have hJ1:joinF v a ds[i]=joinAt v a ds[i]:=by unfold joinF; rw [if_neg hq]
     rw [hJ1] at hJ
     have hpn:((coefD v a).toNat:Int)=coefD v a:=by omega
     have hqn:((-(coefD v ds[i])).toNat:Int) = -(coefD v ds[i]):=by omega
     have hg1:0<gcdP (coefD v a) (-(coefD v ds[i])):=gcdP_pos (by omega)
     have hg2:=gcdP_le (p:=coefD v a) (q := -(coefD v ds[i])) (by omega) (by omega)
     simp [s13,hq,hk3,hk2,hk1,s51,hw]
     have s10'':st3 10 = .int .i64 (coefD v a):=by rw [s10',hk2b.2,hk1.2.2.2.2.1,hk.2.2.2.1,s10]
     rw [←rC_seq]
     refine rC_cut [0,1,5,9,10,12,13,17,18,19,35,36,37,49,50,51] (fun s=>s 14 = .int .i64 (gcdP (coefD v a) (-(coefD v ds[i])):Nat)) ?_ ?_
     · simp [wi,s10'',s13]
       have:=k_GcdN (coefD v a).toNat (-(coefD v ds[i])).toNat (by omega) (by omega)
       rw [hpn,hqn] at this
       refine call_of this (by simp) ?_
       rintro r rfl
       simp [gcdP]
     intro st4 hk4 s14
     simp at hk4
     refine rC_seqI (wj_run (a:=a) (b:=ds[i]) (ra:=ra) (rb:=r) (k9:=k9) (k12:=m1) ga gb hm (p:=coefD v a) (q := -(coefD v ds[i])) (g:=(gcdP (coefD v a) (-(coefD v ds[i])):Nat)) (by omega) (by omega) (by omega) (by omega) (by simp [hk4,hk3,hk2b,hk1,hk,s9]) (by simp [hk4,hk3,s12]) (by simp [hk4,s10'']) (by simp [hk4,s13]) s14 e92 e12 hra2 hr ?_)
     intro st5 h5 m5 k15 o ro hk5 hm5 hf5 s16 s15 hk15 hk15b e15 hro ho
     simp at hk5
     rw [show joinD a ((-(coefD v ds[i])).tdiv ((gcdP (coefD v a) (-(coefD v ds[i])):Nat):Int)) ds[i] ((coefD v a).tdiv ((gcdP (coefD v a) (-(coefD v ds[i])):Nat):Int))=joinAt v a ds[i] from rfl] at s16 ho
     have B5:LstV DerR 4 n0 acc (st 5) h5 m5:=LstV.keep (R:=DerR) (fun _ _ _ _ _ _=>DerR.keep) B2 hm5 (Keeps.of hf5) fun id rows _ hid _ e=>by rw [hf5 id hid,e]
     have hf50:∀ id,id<n0→h5 id=h0 id:=fun id hid=>by rw [hf5 id (by omega),hf2 id (by omega),hf1 id hid]
     have e95:h5 k9=some ⟨true,4,[ra]⟩:=by rw [hf5 k9 (by omega),e92]
     have hra5:=hra2.keep hm5 (Keeps.of hf5)
     have hal:=congrArg List.length hJ
     simp only [List.length_append] at hal
     rw [kont_seq]
     cases hj:joinAt v a ds[i] with
     | none=>
       rw [hj] at s16 hJ
       simp at s16 hJ
       simp [s16,hk5,hk4,hk3,hk2,hk1,s51,hw]
       refine hR _ _ _ (by simp [hk5,hk4,hk3,hk2,hk1,hk,hk2b,s10'',s10]) (by simp) ⟨by omega,hf50,e95,hra5,by simpa [hk5,hk4,hk3,hk2,hk1] using hne,acc,by simpa [hk5,hk4,hk3,hk2,hk1] using B5,hJ⟩
     | some d=>
       rw [hj] at s16 hJ
       have ho:=ho d hj
       subst ho
       simp at s16 hJ
       simp [s16]
       refine wapp (acc:=acc) (d:=o) (v:=st 5) (q:=k15) (.inr ⟨rfl,rfl⟩) (by simp [s15]) (by simp [hk5,hk4,hk3,hk2,hk1]) e15 hk15b hro B5 (by omega) (by omega) ?_
       intro st6 h6 m6 hk6 hm6 kp6 hf6 hnew B6
       simp at hk6
       simp [hk6,hk5,hk4,hk3,hk2,hk1,s51,hw]
       refine hR _ _ _ (by simp [hk6,hk5,hk4,hk3,hk2,hk1,hk,hk2b,s10'',s10]) (by simp) ⟨by omega,fun id hid => ?_,?_,hra5.keep hm6 kp6,?_,acc++[o],by simpa using B6,by simpa using hJ⟩
       · rw [hf6 id (by omega) fun k e => ?_,hf50 id hid]
         have:=B.from id k e
         omega
       · rw [hf6 k9 (by omega) hne,e95]
       · intro k e
         have:=hnew k9 k (by simpa using e)
         omega
 · rintro st h1 m1 R hk s51 ⟨hm1,hf1,e9,hra,hne,acc,B,hJ⟩ hret hX
   simp at hk
   rw [List.drop_eq_nil_of_le (by omega)] at hJ
   simp at hJ
   subst hJ
   refine rC_cut [0,1,5,17,18,19,35,36,37] (fun s=>s 52 = .bool false) (by simp [hk,s51,s50]) ?_
   intro st1 hk1 s52
   simp at hk1
   refine rC_stop s52 ?_
   refine hX _ _ _ _ ?_
   simp
   exact hK _ _ _ (by simp [hk1,hk]) hm1 hf1 (by simpa [hk1] using B)
end
end Go.Proofs.Ytoclolkigjbcgaa

namespace Go.Proofs.Ytoclolkigjbcgaa
set_option linter.all false
open Go Go.RowKit Go.Proofs
def el0:AC:=(.reg [⟨some 4,.mv (.k (.nil 3)),no⟩])
def el1:AC:=(.reg [⟨some 11,.bslb 3 [],no⟩,⟨some 5,.mv (.t 11),no⟩])
def ea:AC:=(.reg [⟨some 18,.mv (.t 0),no⟩,⟨some 19,.mv (.t 6),no⟩,⟨some 20,.ixa 3 (.t 18) (.t 19),no⟩,⟨some 21,.fld 0 (.t 20),no⟩,⟨some 22,.fld 1 (.t 21),no⟩,⟨some 23,.ld false 1 (.t 22),no⟩,⟨some 24,.mv (.t 1),no⟩,⟨some 25,.ixa 1 (.t 23) (.t 24),no⟩,⟨some 26,.ld false 1 (.t 25),no⟩,⟨some 27,.bin .eql (.t 26) (.k (.int .i64 0)),no⟩])
def eb:AC:=(.reg [⟨some 28,.mv (.t 5),no⟩,⟨some 29,.mv (.t 0),no⟩,⟨some 30,.mv (.t 6),no⟩,⟨some 31,.ixa 3 (.t 29) (.t 30),no⟩,⟨some 32,.ld true 3 (.t 31),no⟩,⟨some 33,.bslb 3 [.t 32],no⟩,⟨some 34,.appb 56 3 (.t 28) (.t 33),no⟩,⟨some 5,.mv (.t 34),no⟩])
def el2:AC:=(.seq  (.reg [⟨some 6,.mv (.k (.int .i64 0)),no⟩]) (.blk 0 (.loop (.seq (.seq  (.reg [⟨some 12,.mv (.t 6),no⟩,⟨some 13,.mv (.t 0),no⟩,⟨some 14,.len false (.t 13),no⟩,⟨some 15,.bin .lss (.t 12) (.t 14),no⟩]) (.cond (.t 15) .skip (.exit 0))) (.seq (.blk 1 (.seq  ea (.cond (.t 27)  eb .skip)))  (.reg [⟨some 16,.mv (.t 6),no⟩,⟨some 17,.bin .add (.t 16) (.k (.int .i64 1)),no⟩,⟨some 6,.mv (.t 17),no⟩]))))))
def eh:AC:=(.reg [⟨some 41,.mv (.t 8),no⟩,⟨some 42,.mv (.t 0),no⟩,⟨some 43,.len false (.t 42),no⟩,⟨some 44,.bin .lss (.t 41) (.t 43),no⟩,⟨some 45,.mv (.t 44),no⟩,⟨some 46,.mv (.t 0),(some (45,true))⟩,⟨some 47,.mv (.t 7),(some (45,true))⟩,⟨some 48,.ixa 3 (.t 46) (.t 47),(some (45,true))⟩,⟨some 49,.fld 0 (.t 48),(some (45,true))⟩,⟨some 50,.fld 1 (.t 49),(some (45,true))⟩,⟨some 51,.ld false 1 (.t 50),(some (45,true))⟩,⟨some 52,.mv (.t 1),(some (45,true))⟩,⟨some 53,.ixa 1 (.t 51) (.t 52),(some (45,true))⟩,⟨some 54,.ld false 1 (.t 53),(some (45,true))⟩,⟨some 55,.bin .gtr (.t 54) (.k (.int .i64 0)),(some (45,true))⟩,⟨some 56,.pick (.t 45) (.t 55) (.k (.bool false)),no⟩])
def ec:AC:=(.reg [⟨some 59,.mv (.t 0),no⟩,⟨some 60,.mv (.t 8),no⟩,⟨some 61,.ixa 3 (.t 59) (.t 60),no⟩,⟨some 62,.fld 0 (.t 61),no⟩,⟨some 63,.fld 1 (.t 62),no⟩,⟨some 64,.ld false 1 (.t 63),no⟩,⟨some 65,.mv (.t 1),no⟩,⟨some 66,.ixa 1 (.t 64) (.t 65),no⟩,⟨some 67,.ld false 1 (.t 66),no⟩,⟨some 68,.bin .geq (.t 67) (.k (.int .i64 0)),no⟩])
def ed:AC:=(.draw (.op ⟨some 70,.mv (.t 0),no⟩ (.op ⟨some 71,.mv (.t 7),no⟩ (.op ⟨some 72,.ixa 3 (.t 70) (.t 71),no⟩ (.op ⟨some 73,.ld true 3 (.t 72),no⟩ (.op ⟨some 74,.mv (.t 0),no⟩ (.op ⟨some 75,.mv (.t 8),no⟩ (.op ⟨some 76,.ixa 3 (.t 74) (.t 75),no⟩ (.op ⟨some 77,.ld true 3 (.t 76),no⟩ (.op ⟨some 78,.mv (.t 1),no⟩ (.both (.op ⟨some 79,.call (.k (.fn (.func 46) [] [])) [.t 73,.t 77,.t 78],no⟩ (.op ⟨some 69,.mv (.t 79),no⟩ (.op ⟨some 80,.ext (.t 69) 0,no⟩ (.op ⟨some 81,.ext (.t 69) 1,no⟩ (.op ⟨some 9,.box [(.int .i64 0),(.nil 1),(.nil 1)],no⟩ (.hop ⟨no,.st 3 (.t 9) (.t 80),no⟩ [] (.op ⟨some 10,.mv (.t 81),no⟩ .fin))))))) (.op ⟨some 9,.box [(.int .i64 0),(.nil 1),(.nil 1)],no⟩ (.op ⟨some 79,.call (.k (.fn (.func 46) [] [])) [.t 73,.t 77,.t 78],no⟩ (.op ⟨some 69,.mv (.t 79),no⟩ (.op ⟨some 80,.ext (.t 69) 0,no⟩ (.op ⟨some 81,.ext (.t 69) 1,no⟩ (.hop ⟨no,.st 3 (.t 9) (.t 80),no⟩ [] (.op ⟨some 10,.mv (.t 81),no⟩ .fin))))))))))))))))))
def ee:AC:=(.reg [⟨some 83,.mv (.t 5),no⟩,⟨some 84,.ld true 3 (.t 9),no⟩,⟨some 85,.bslb 3 [.t 84],no⟩,⟨some 86,.appb 56 3 (.t 83) (.t 85),no⟩,⟨some 5,.mv (.t 86),no⟩])
def ein:AC:=(.blk 4 (.loop (.seq (.seq  eh (.cond (.t 56) .skip (.exit 4))) (.seq (.blk 5 (.seq (.seq  ec (.cond (.t 68) (.exit 5) .skip)) (.seq ed (.seq  (.reg [⟨some 82,.mv (.t 10),no⟩]) (.cond (.t 82)  ee .skip)))))  (.reg [⟨some 57,.mv (.t 8),no⟩,⟨some 58,.bin .add (.t 57) (.k (.int .i64 1)),no⟩,⟨some 8,.mv (.t 58),no⟩])))))
def el3:AC:=(.seq  (.reg [⟨some 7,.mv (.k (.int .i64 0)),no⟩]) (.blk 2 (.loop (.seq (.seq  (.reg [⟨some 35,.mv (.t 7),no⟩,⟨some 36,.mv (.t 0),no⟩,⟨some 37,.len false (.t 36),no⟩,⟨some 38,.bin .lss (.t 35) (.t 37),no⟩]) (.cond (.t 38) .skip (.exit 2))) (.seq (.blk 3 (.seq  (.reg [⟨some 8,.mv (.k (.int .i64 0)),no⟩]) ein))  (.reg [⟨some 39,.mv (.t 7),no⟩,⟨some 40,.bin .add (.t 39) (.k (.int .i64 1)),no⟩,⟨some 7,.mv (.t 40),no⟩]))))))
def el4:AC:=(.reg [⟨some 87,.mv (.t 5),no⟩,⟨some 4,.mv (.t 87),no⟩])
def a28:AFn:=⟨88,[.t 4],(.seq el0 (.seq el1 (.seq el2 (.seq el3 (.seq el4 .ret)))))⟩
theorem a28_ok:compFnX true Try.prog Try.f28=some a28:=by kernel_rfl
set_option maxRecDepth 20000
set_option maxHeartbeats 2000000
section
variable {ks:List Kt} {s:Env} {h h':Heap} {n:Nat} {Q:Fin}
theorem ea_run {ds:List DDer} {vl:AV} {N m v i lo:Nat} (L:LstV DerS 3 lo ds vl h n) (hg:∀ d∈ds,GD N m d) (hv:v<N) (hi:i<ds.length) (s0:s 0=vl) (s1:s 1 = .int .i64 v) (s6:s 6 = .int .i64 i)
   (hK:∀ s',(∀ j∈[0,1,5,6],s' j=s j)→s' 27 = .bool (coefD v ds[i]==0)→kont Try.prog ks .normal s' h n Q):rC Try.prog ea ks s h n Q:=by
 have g:=hg _ (List.getElem_mem hi)
 have hvl:v<ds[i].l.Coeffs.length:=by rw [g.cl]; exact hv
 have hc:ds[i].l.Coeffs[v]=coefD v ds[i]:=by simp [coefD,hvl]
 simp [ea,s0,s1,s6]
 refine ixaV_lst L hi ?_
 intro id rows r hid e hl hr hD
 obtain ⟨v1,v2,rfl,g1,g2⟩:=hD
 simp [e,hl,hr,s1]
 refine ixaV_svi g1 hvl ?_
 intro w1 hw1
 simp
 refine hw1 _ ?_
 rw [hc]
 simp
 refine hK _ (by simp) (by simp [BEq.beq])
theorem eb_run {ds acc:List DDer} {vl v:AV} {i lo lo2:Nat} (L:LstV DerS 3 lo ds vl h n) (hi:i<ds.length) (s0:s 0=vl) (s6:s 6 = .int .i64 i) (s5:s 5=v) (B:LstV DerS 3 lo2 acc v h n) (hlo:lo2≤n) (hl:acc.length≤4000)
   (hK:∀ s' h' n',(∀ j∈[0,1,6],s' j=s j)→n≤n'→Keeps h h' n→(∀ id,id<n→(∀ k,v ≠ .ref id 0 k)→h' id=h id)→LstV DerS 3 lo2 (acc++[ds[i]]) (s' 5) h' n'→kont Try.prog ks .normal s' h' n' Q):rC Try.prog eb ks s h n Q:=by
 have fr:∀ j,j<n→¬j=n:=by intro j _; omega
 simp [-isCell,eb,s0,s5,s6]
 refine ixaV_lst L hi ?_
 intro id rows r hid e hlr hr hD
 have hD':=hD
 obtain ⟨v1,v2,rfl,g1,g2⟩:=hD
 have c1:=g1.cell
 have c2:=g2.cell
 have kp:Keeps h (upd h n (some ⟨true,3,[[.int .i64 ds[i].l.Const,v1,v2]]⟩)) n:=Keeps.of fun j hj=>by simp [fr j hj]
 have B':=LstV.keep (R:=DerS) (h':=upd h n (some ⟨true,3,[[.int .i64 ds[i].l.Const,v1,v2]]⟩)) (n':=n+1) (fun _ _ _ _ _ _=>DerS.keep) B (Nat.le_succ n) kp fun id rows _ hid _ e=>by simp [fr id hid,e]
 simp [-isCell,e,hlr,hr,c1,c2]
 simp [isCell]
 refine appbV_lst (R:=DerS) (fun _ _ _ _ _ _=>DerS.keep) B' (r:=[.int .i64 ds[i].l.Const,v1,v2]) (d:=ds[i]) (by simp [srcRowsB]) (hD'.keep (Nat.le_succ n) kp) (by omega) (by unfold LIM; omega) ?_
 intro h' k1 k2 k3
 simp
 exact hK _ _ _ (by simp) (by omega) (kp.trans k1 (Nat.le_succ n)) (fun id hid hv=>by rw [k2 id (by omega) hv]; simp [fr id hid]) (by simpa using k3)
theorem ee_run {acc:List DDer} {d:DDer} {r:List AV} {v:AV} {q lo:Nat} (s9:s 9 = .ptr q 0 0) (s5:s 5=v) (eb:h q=some ⟨true,3,[r]⟩) (hqn:q<n) (hr:DerS d r h n) (B:LstV DerS 3 lo acc v h n) (hlo:lo≤n) (hl:acc.length≤4000)
   (hK:∀ s' h' n',(∀ j∈[0,1,7,8],s' j=s j)→n≤n'→Keeps h h' n→(∀ id,id<n→(∀ k,v ≠ .ref id 0 k)→h' id=h id)→LstV DerS 3 lo (acc++[d]) (s' 5) h' n'→kont Try.prog ks .normal s' h' n' Q):rC Try.prog ee ks s h n Q:=by
 have hR':=hr
 obtain ⟨v1,v2,rfl,g1,g2⟩:=hr
 have c1:=g1.cell
 have c2:=g2.cell
 have fr:∀ j,j<n→¬j=n:=by intro j _; omega
 have kp:Keeps h (upd h n (some ⟨true,3,[[.int .i64 d.l.Const,v1,v2]]⟩)) n:=Keeps.of fun j hj=>by simp [fr j hj]
 have B':=LstV.keep (R:=DerS) (h':=upd h n (some ⟨true,3,[[.int .i64 d.l.Const,v1,v2]]⟩)) (n':=n+1) (fun _ _ _ _ _ _=>DerS.keep) B (Nat.le_succ n) kp fun id rows _ hid _ e=>by simp [fr id hid,e]
 simp [-isCell,ee,s9,s5,eb,c1,c2]
 simp [isCell]
 refine appbV_lst (R:=DerS) (fun _ _ _ _ _ _=>DerS.keep) B' (r:=[.int .i64 d.l.Const,v1,v2]) (d:=d) (by simp [srcRowsB]) (hR'.keep (Nat.le_succ n) kp) (by omega) (by unfold LIM; omega) ?_
 intro h' k1 k2 k3
 simp
 exact hK _ _ _ (by simp) (by omega) (kp.trans k1 (Nat.le_succ n)) (fun id hid hv=>by rw [k2 id (by omega) hv]; simp [fr id hid]) (by simpa using k3)
theorem el2_run {ds:List DDer} {vl:AV} {N m v n0:Nat} {h0:Heap} (hg:∀ d∈ds,GD N m d) (hv:v<N) (hd:ds.length≤60) (hn0:n0≤n) (hf:∀ id,id<n0→h id=h0 id) (L:LstV DerS 3 0 ds vl h0 n0) (s0:s 0=vl) (s1:s 1 = .int .i64 v) (B0:LstV DerS 3 n0 [] (s 5) h n)
   (hK:∀ s' h' n',(∀ j∈[0,1],s' j=s j)→n≤n'→(∀ id,id<n0→h' id=h0 id)→LstV DerS 3 n0 (ds.filter fun d=>coefD v d==0) (s' 5) h' n'→kont Try.prog ks .normal s' h' n' Q):rC Try.prog el2 ks s h n Q:=by
 have keepL:∀ {h' m'},n0≤m'→(∀ id,id<n0→h' id=h0 id)→LstV DerS 3 0 ds vl h' m':=fun hm hh=>LstV.keep (R:=DerS) (fun _ _ _ _ _ _=>DerS.keep) L hm (Keeps.of hh) fun id rows _ hid _ e=>by rw [hh id hid,e]
 generalize hT:(ds.filter fun d=>coefD v d==0)=T at *
 have hTl:T.length≤60:=by rw [←hT]; exact Nat.le_trans (List.length_filter_le _ _) hd
 simp [el2]
 refine rL_forO [0,1] 6 ds.length (fun i s h m'=>n≤m'∧(∀ id,id<n0→h id=h0 id)∧∃ acc,LstV DerS 3 n0 acc (s 5) h m'∧acc++((ds.drop i).filter fun d=>coefD v d==0)=T) (by unfold LIM; omega) (by simp) ⟨Nat.le_refl _,hf,[],by simpa using B0,by simpa using hT⟩ ?_ ?_
 · rintro i st h1 m1 R hi hgi hk s6 hw ⟨hm1,hf1,acc,B,hJ⟩ hR hret _
   simp at hk
   rw [List.drop_eq_getElem_cons hi,List.filter_cons] at hJ
   have hal:=congrArg List.length hJ
   simp only [List.length_append] at hal
   refine rC_seqI (rC_cut [0,1,5,6] (fun s=>s 15 = .bool true) ?_ ?_)
   · simp [hk,s0]
     refine lenV_lst (keepL (by omega) hf1) (by unfold LIM; omega) ?_
     simp [hk,s6,hi]
   intro st1 hk1 s15
   simp at hk1
   refine rC_pass1 s15 (rC_seqI (rC_blkI ?_))
   refine rC_seqI (ea_run (keepL (by omega) hf1) hg hv hi (by simp [hk1,hk,s0]) (by simp [hk1,hk,s1]) (by simp [hk1,s6]) ?_)
   intro st2 hk2 s27
   simp at hk2
   rw [kont_seq]
   cases hc:(coefD v ds[i]==0)
   · rw [hc] at hJ s27
     simp only [Bool.false_eq_true,if_false] at hJ
     simp [s27,hk2,hk1,s6,hw]
     exact hR _ _ _ (by simp [hk2,hk1,hk]) (by simp) ⟨by omega,hf1,acc,by simpa [hk2,hk1] using B,hJ⟩
   · rw [hc] at hJ s27
     simp only [if_true] at hJ
     simp [s27]
     refine eb_run (acc:=acc) (v:=st 5) (keepL (by omega) hf1) hi (by simp [hk2,hk1,hk,s0]) (by simp [hk2,hk1,s6]) (by simp [hk2,hk1]) B (by omega) (by omega) ?_
     intro st4 h4 m4 hk4 hm4 kp4 hf4 B4
     simp at hk4
     simp [hk4,hk2,hk1,s6,hw]
     refine hR _ _ _ (by simp [hk4,hk2,hk1,hk]) (by simp) ⟨by omega,fun id hid => ?_,acc++[ds[i]],by simpa using B4,by simpa using hJ⟩
     rw [hf4 id (by omega) fun k e => ?_,hf1 id hid]
     have:=B.from id k e
     omega
 · rintro st h1 m1 R hk s6 ⟨hm1,hf1,acc,B,hJ⟩ hret hX
   simp at hk
   rw [List.drop_eq_nil_of_le (by omega)] at hJ
   simp at hJ
   subst hJ
   refine rC_seqI (rC_cut [0,1,5] (fun s=>s 15 = .bool false) ?_ ?_)
   · simp [hk,s0]
     refine lenV_lst (keepL (by omega) hf1) (by unfold LIM; omega) ?_
     simp [hk,s6]
   intro st1 hk1 s15
   simp at hk1
   refine rC_stop1 s15 ?_
   refine hX _ _ _ _ ?_
   simp
   exact hK _ _ _ (by simp [hk1,hk]) hm1 hf1 (by simpa [hk1] using B)
end
end Go.Proofs.Ytoclolkigjbcgaa

namespace Go.Proofs.Ytoclolkigjbcgaa
set_option linter.all false
open Go Go.RowKit Go.Proofs
set_option maxRecDepth 20000
set_option maxHeartbeats 2000000
section
variable {ks:List Kt} {s:Env} {h h':Heap} {n:Nat} {Q:Fin}
theorem eh_run {ds:List DDer} {vl:AV} {N m v i j lo:Nat} (L:LstV DerS 3 lo ds vl h n) (hd:ds.length≤60) (hg:∀ d∈ds,GD N m d) (hv:v<N) (hi:i<ds.length) (hj:j≤ds.length) (s0:s 0=vl) (s1:s 1 = .int .i64 v) (s7:s 7 = .int .i64 i) (s8:s 8 = .int .i64 j)
   (hK:∀ s',(∀ j∈[0,1,5,7,8],s' j=s j)→s' 56 = .bool (decide (j<ds.length)&&decide (0<coefD v ds[i]))→kont Try.prog ks .normal s' h n Q):rC Try.prog eh ks s h n Q:=by
 have g:=hg _ (List.getElem_mem hi)
 have hvl:v<ds[i].l.Coeffs.length:=by rw [g.cl]; exact hv
 have hc:ds[i].l.Coeffs[v]=coefD v ds[i]:=by simp [coefD,hvl]
 simp [eh,s0,s8]
 refine lenV_lst L (by unfold LIM; omega) ?_
 by_cases hjl:j<ds.length
 · simp [hjl,s0,s7]
   refine ixaV_lst L hi ?_
   intro id rows r hid e hl hr hD
   obtain ⟨v1,v2,rfl,g1,g2⟩:=hD
   simp [e,hl,hr,s1]
   refine ixaV_svi g1 hvl ?_
   intro w1 hw1
   simp
   refine hw1 _ ?_
   rw [hc]
   simp
   exact hK _ (by simp [s0,s1,s7,s8]) (by simp [hjl])
 · simp [hjl]
   exact hK _ (by simp [s0,s8]) (by simp [hjl])
theorem ec_run {ds:List DDer} {vl:AV} {N m v j lo:Nat} (L:LstV DerS 3 lo ds vl h n) (hg:∀ d∈ds,GD N m d) (hv:v<N) (hj:j<ds.length) (s0:s 0=vl) (s1:s 1 = .int .i64 v) (s8:s 8 = .int .i64 j)
   (hK:∀ s',(∀ j∈[0,1,5,7,8],s' j=s j)→s' 68 = .bool (decide (0≤coefD v ds[j]))→kont Try.prog ks .normal s' h n Q):rC Try.prog ec ks s h n Q:=by
 have g:=hg _ (List.getElem_mem hj)
 have hvl:v<ds[j].l.Coeffs.length:=by rw [g.cl]; exact hv
 have hc:ds[j].l.Coeffs[v]=coefD v ds[j]:=by simp [coefD,hvl]
 simp [ec,s0,s8]
 refine ixaV_lst L hj ?_
 intro id rows r hid e hl hr hD
 obtain ⟨v1,v2,rfl,g1,g2⟩:=hD
 simp [e,hl,hr,s1]
 refine ixaV_svi g1 hvl ?_
 intro w1 hw1
 simp
 refine hw1 _ ?_
 rw [hc]
 simp
 exact hK _ (by simp [s0,s1,s8]) (by simp)
theorem ed_run {ds:List DDer} {vl:AV} {N m v i j lo:Nat} (L:LstV DerS 3 lo ds vl h n) (hg:∀ d∈ds,GD N m d) (hm:m≤20) (hv:v<N) (hi:i<ds.length) (hj:j<ds.length) (hp:0<coefD v ds[i]) (hq:coefD v ds[j]<0) (s0:s 0=vl) (s1:s 1 = .int .i64 v) (s7:s 7 = .int .i64 i) (s8:s 8 = .int .i64 j)
   (hK:∀ s' h' n' k r,(∀ j∈[0,1,5,7,8],s' j=s j)→n≤n'→(∀ id,id<n→h' id=h id)→s' 10 = .bool (joinAt v ds[i] ds[j]).isSome→s' 9 = .ptr k 0 0→n≤k→k<n'→h' k=some ⟨true,3,[r]⟩→(∀ d,joinAt v ds[i] ds[j]=some d→DerS d r h' n')→kont Try.prog ks .normal s' h' n' Q):rC Try.prog ed ks s h n Q:=by
 have ga:=hg _ (List.getElem_mem hi)
 have gb:=hg _ (List.getElem_mem hj)
 have fr:∀ id,id<n→¬id=n:=by intro id _; omega
 simp [ed,s0,s7]
 refine ixaV_lst L hi ?_
 intro id rows r hid e hl hr hD
 obtain ⟨va,ma,rfl,A1,A2⟩:=hD
 simp [e,hl,hr,s0,s8]
 refine ixaV_lst L hj ?_
 intro id2 rows2 r2 hid2 e2 hl2 hr2 hD2
 obtain ⟨vb,mb,rfl,B1,B2⟩:=hD2
 simp [e2,hl2,hr2,s1]
 constructor
 · refine acallD_of (call_l8Join ga gb hm hv hp hq A1 A2 B1 B2 ?_)
   intro h' n' c k1 l1 k2 l2 hn hf hr
   refine ⟨hf,?_⟩
   have fr':∀ id,id<n'→¬id=n':=by intro id _; omega
   simp
   refine hK _ _ _ n' [.int .i64 c,.ref k1 0 l1,.ref k2 0 l2] (by simp [s0,s1,s7,s8]) (by omega) (fun id hid=>by simp [fr' id (by omega),hf id hid]) (by simp) (by simp) (by omega) (by omega) (by simp) (fun d hd=>(hr d hd).keep (by omega) (Keeps.of fun id hid=>by simp [fr' id hid]))
 · have kp:Keeps h (upd h n (some ⟨true,3,[[.int .i64 0,.nil 1,.nil 1]]⟩)) n:=Keeps.of fun id hid=>by simp [fr id hid]
   refine acallD_of (call_l8Join ga gb hm hv hp hq (A1.keep (Nat.le_succ n) kp) (A2.keep (Nat.le_succ n) kp) (B1.keep (Nat.le_succ n) kp) (B2.keep (Nat.le_succ n) kp) ?_)
   intro h' n' c k1 l1 k2 l2 hn hf hr
   refine ⟨hf,?_⟩
   have en:=hf n (Nat.lt_succ_self n)
   simp at en
   have hx:∀ id,id<n→h' id=h id:=fun id hid=>by rw [hf id (by omega)]; simp [fr id hid]
   have kp2:∀ B,Keeps h' (upd h' n B) n':=fun B id z rows hid e=>by
     have:¬id=n:=by rintro rfl; rw [en] at e; simp at e
     simp [this,e]
   simp [en]
   refine hK _ _ _ n [.int .i64 c,.ref k1 0 l1,.ref k2 0 l2] (by simp [s0,s1,s7,s8]) (by omega) (fun id hid=>by simp [fr id hid,hx id hid]) (by simp) (by simp) (by omega) (by omega) (by simp) (fun d hd=>(hr d hd).keep (Nat.le_refl _) (kp2 _))
theorem joinF_S {v:Nat} {a b:DDer} (h:coefD v b<0):joinF v a b=joinAt v a b:=by unfold joinF; rw [if_neg (by omega)]
theorem joinF_N {v:Nat} {a b:DDer} (h:¬coefD v b<0):joinF v a b=Option.none:=by unfold joinF; rw [if_pos (by omega)]
theorem ein_run {ds:List DDer} {vl:AV} {N m v n0 i:Nat} {h0:Heap} {acc0 T:List DDer} (hg:∀ d∈ds,GD N m d) (hm:m≤20) (hv:v<N) (hd:ds.length≤60) (hi:i<ds.length) (L:LstV DerS 3 0 ds vl h0 n0) (hn0:n0≤n)
   (s0:s 0=vl) (s1:s 1 = .int .i64 v) (s7:s 7 = .int .i64 i) (s8:s 8 = .int .i64 0) (hf:∀ id,id<n0→h id=h0 id) (B0:LstV DerS 3 n0 acc0 (s 5) h n) (hT:acc0++joins v ds ds[i]=T) (hTl:T.length≤4000)
   (hK:∀ s' h' n',(∀ j∈[0,1,7],s' j=s j)→n≤n'→(∀ id,id<n0→h' id=h0 id)→LstV DerS 3 n0 T (s' 5) h' n'→kont Try.prog ks .normal s' h' n' Q):rC Try.prog ein ks s h n Q:=by
 have keepL:∀ {h' m'},n0≤m'→(∀ id,id<n0→h' id=h0 id)→LstV DerS 3 0 ds vl h' m':=fun hm hh=>LstV.keep (R:=DerS) (fun _ _ _ _ _ _=>DerS.keep) L hm (Keeps.of hh) fun id rows _ hid _ e=>by rw [hh id hid,e]
 refine rC_blkI ?_
 rw [rC_loop]
 by_cases hp:0<coefD v ds[i]
 · rw [joins_F (by omega)] at hT
   refine rL_forO [0,1,7] 8 ds.length (fun j s h m'=>n≤m'∧(∀ id,id<n0→h id=h0 id)∧∃ acc,LstV DerS 3 n0 acc (s 5) h m'∧acc++(ds.drop j).filterMap (joinF v ds[i])=T) (by unfold LIM; omega) (by simp [s8]) ⟨Nat.le_refl _,hf,acc0,B0,by simpa using hT⟩ ?_ ?_
   · rintro j st h1 m1 R hj hgj hk s8 hw ⟨hm1,hf1,acc,B,hJ⟩ hR hret _
     simp at hk
     rw [List.drop_eq_getElem_cons hj,List.filterMap_cons] at hJ
     refine rC_seqI (rC_seqI (eh_run (keepL (by omega) hf1) hd hg hv hi (by omega) (by simp [hk,s0]) (by simp [hk,s1]) (by simp [hk,s7]) s8 ?_))
     intro st1 hk1 s56
     simp at hk1
     rw [kont_seq]
     refine rC_pass1 (by simpa [hj,hp] using s56) (rC_seqI (rC_blkI (rC_seqI (rC_seqI (ec_run (keepL (by omega) hf1) hg hv hj (by simp [hk1,hk,s0]) (by simp [hk1,hk,s1]) (by simp [hk1,s8]) ?_)))))
     intro st2 hk2 s68
     simp at hk2
     rw [kont_seq]
     by_cases hq:coefD v ds[j]<0
     · have hq':¬0≤coefD v ds[j]:=by omega
       rw [joinF_S hq] at hJ
       simp [s68,hq']
       refine ed_run (keepL (by omega) hf1) hg hm hv hi hj hp hq (by simp [hk2,hk1,hk,s0]) (by simp [hk2,hk1,hk,s1]) (by simp [hk2,hk1,hk,s7]) (by simp [hk2,hk1,s8]) ?_
       intro st5 h5 m5 k9 r hk5 hm5 hf5 s10 s9 hk9 hk9b e9 hr
       simp at hk5
       have B5:LstV DerS 3 n0 acc (st 5) h5 m5:=LstV.keep (R:=DerS) (fun _ _ _ _ _ _=>DerS.keep) B hm5 (Keeps.of hf5) fun id rows _ hid _ e=>by rw [hf5 id hid,e]
       have hf50:∀ id,id<n0→h5 id=h0 id:=fun id hid=>by rw [hf5 id (by omega),hf1 id hid]
       have hal:=congrArg List.length hJ
       simp only [List.length_append] at hal
       rw [kont_seq]
       cases hjn:joinAt v ds[i] ds[j] with
       | none=>
         rw [hjn] at s10 hJ
         simp at s10 hJ
         simp [s10,hk5,hk2,hk1,s8,hw]
         exact hR _ _ _ (by simp [hk5,hk2,hk1,hk]) (by simp) ⟨by omega,hf50,acc,by simpa [hk5,hk2,hk1] using B5,hJ⟩
       | some d=>
         rw [hjn] at s10 hJ
         have hrd:=hr d hjn
         simp at s10 hJ
         simp [s10]
         refine ee_run (acc:=acc) (d:=d) (v:=st 5) (q:=k9) (by simp [s9]) (by simp [hk5,hk2,hk1]) e9 hk9b hrd B5 (by omega) (by omega) ?_
         intro st6 h6 m6 hk6 hm6 kp6 hf6 B6
         simp at hk6
         simp [hk6,hk5,hk2,hk1,s8,hw]
         refine hR _ _ _ (by simp [hk6,hk5,hk2,hk1,hk]) (by simp) ⟨by omega,fun id hid => ?_,acc++[d],by simpa using B6,by simpa using hJ⟩
         rw [hf6 id (by omega) fun k e => ?_,hf50 id hid]
         have:=B.from id k e
         omega
     · have hq':0≤coefD v ds[j]:=by omega
       rw [joinF_N hq] at hJ
       simp [s68,hq',hk2,hk1,s8,hw]
       exact hR _ _ _ (by simp [hk2,hk1,hk]) (by simp) ⟨by omega,hf1,acc,by simpa [hk2,hk1] using B,hJ⟩
   · rintro st h1 m1 R hk s8 ⟨hm1,hf1,acc,B,hJ⟩ hret hX
     simp at hk
     rw [List.drop_eq_nil_of_le (by omega)] at hJ
     simp at hJ
     subst hJ
     refine rC_seqI (rC_seqI (eh_run (keepL (by omega) hf1) hd hg hv hi (Nat.le_refl _) (by simp [hk,s0]) (by simp [hk,s1]) (by simp [hk,s7]) s8 ?_))
     intro st1 hk1 s56
     simp at hk1
     rw [kont_seq]
     refine rC_stop1 (by simpa using s56) ?_
     refine hX _ _ _ _ ?_
     simp
     exact hK _ _ _ (by simp [hk1,hk]) hm1 hf1 (by simpa [hk1] using B)
 · have hj0:joins v ds ds[i]=[]:=by unfold joins; rw [if_pos (by omega)]
   rw [hj0,List.append_nil] at hT
   subst hT
   refine rL_of (fun k s' h' m'=>s'=s∧h'=h∧m'=n) 0 ⟨rfl,rfl,rfl⟩ ?_
   rintro k s' h' m' ⟨rfl,rfl,rfl⟩
   refine rC_seqI (rC_seqI (eh_run (keepL hn0 hf) hd hg hv hi (j:=0) (by omega) s0 s1 s7 (by simpa using s8) ?_))
   intro st1 hk1 s56
   simp at hk1
   rw [kont_seq]
   refine rC_stop1 (by simpa [hp] using s56) ?_
   simp
   exact hK _ _ _ (by simp [hk1]) (Nat.le_refl _) hf (by simpa [hk1] using B0)
end
end Go.Proofs.Ytoclolkigjbcgaa

namespace Go.Proofs.Ytoclolkigjbcgaa
set_option linter.all false
open Go Go.RowKit Go.Proofs
set_option maxRecDepth 20000
set_option maxHeartbeats 2000000
section
variable {ks:List Kt} {s:Env} {h h':Heap} {n:Nat} {Q:Fin}
theorem el3_run {ds:List DDer} {vl:AV} {N m v n0:Nat} {h0:Heap} {acc0 T:List DDer} (hg:∀ d∈ds,GD N m d) (hm:m≤20) (hv:v<N) (hd:ds.length≤60) (L:LstV DerS 3 0 ds vl h0 n0) (hn0:n0≤n)
   (s0:s 0=vl) (s1:s 1 = .int .i64 v) (hf:∀ id,id<n0→h id=h0 id) (B0:LstV DerS 3 n0 acc0 (s 5) h n) (hT:acc0++ds.flatMap (joins v ds)=T) (hTl:T.length≤4000)
   (hK:∀ s' h' n',n≤n'→(∀ id,id<n0→h' id=h0 id)→LstV DerS 3 n0 T (s' 5) h' n'→kont Try.prog ks .normal s' h' n' Q):rC Try.prog el3 ks s h n Q:=by
 have keepL:∀ {h' m'},n0≤m'→(∀ id,id<n0→h' id=h0 id)→LstV DerS 3 0 ds vl h' m':=fun hm hh=>LstV.keep (R:=DerS) (fun _ _ _ _ _ _=>DerS.keep) L hm (Keeps.of hh) fun id rows _ hid _ e=>by rw [hh id hid,e]
 simp [el3]
 refine rL_forO [0,1] 7 ds.length (fun i s h m'=>n≤m'∧(∀ id,id<n0→h id=h0 id)∧∃ acc,LstV DerS 3 n0 acc (s 5) h m'∧acc++(ds.drop i).flatMap (joins v ds)=T) (by unfold LIM; omega) (by simp) ⟨Nat.le_refl _,hf,acc0,by simpa using B0,by simpa using hT⟩ ?_ ?_
 · rintro i st h1 m1 R hi hgi hk s7 hw ⟨hm1,hf1,acc,B,hJ⟩ hR hret _
   simp at hk
   rw [List.drop_eq_getElem_cons hi,List.flatMap_cons,←List.append_assoc] at hJ
   have hal:=congrArg List.length hJ
   simp only [List.length_append] at hal
   refine rC_seqI (rC_cut [0,1,5,7] (fun s=>s 38 = .bool true) ?_ ?_)
   · simp [hk,s0]
     refine lenV_lst (keepL (by omega) hf1) (by unfold LIM; omega) ?_
     simp [hk,s7,hi]
   intro st1 hk1 s38
   simp at hk1
   refine rC_pass1 s38 (rC_seqI (rC_blkI ?_))
   simp
   refine ein_run (acc0:=acc) hg hm hv hd hi L (by omega) (by simp [hk1,hk,s0]) (by simp [hk1,hk,s1]) (by simp [hk1,s7]) (by simp) hf1 (by simpa [hk1] using B) rfl (by simp; omega) ?_
   intro st4 h4 m4 hk4 hm4 hf4 B4
   simp at hk4
   simp [hk4,hk1,s7,hw]
   exact hR _ _ _ (by simp [hk4,hk1,hk]) (by simp) ⟨by omega,hf4,_,by simpa using B4,hJ⟩
 · rintro st h1 m1 R hk s7 ⟨hm1,hf1,acc,B,hJ⟩ hret hX
   simp at hk
   rw [List.drop_eq_nil_of_le (by omega)] at hJ
   simp at hJ
   subst hJ
   refine rC_seqI (rC_cut [5] (fun s=>s 38 = .bool false) ?_ ?_)
   · simp [hk,s0]
     refine lenV_lst (keepL (by omega) hf1) (by unfold LIM; omega) ?_
     simp [hk,s7]
   intro st1 hk1 s38
   simp at hk1
   refine rC_stop1 s38 ?_
   refine hX _ _ _ _ ?_
   simp
   exact hK _ _ _ hm1 hf1 (by simpa [hk1] using B)
end
theorem call_l8Eliminate {ds:List DDer} {vl:AV} {N m v:Nat} {h:Heap} {n:Nat} {K:AV→Heap→Nat→Prop} (hg:∀ d∈ds,GD N m d) (hm:m≤20) (hv:v<N) (hd:ds.length≤60) (L:LstV DerS 3 0 ds vl h n)
   (hK:∀ a h' n',n≤n'→(∀ id,id<n→h' id=h id)→LstV DerS 3 n (elimD v ds) a h' n'→K a h' n'):ACall Try.prog 28 [vl,i64 v] h n K:=by
 refine acall_body Try.func28 a28_ok rfl (by simp [a28]) ?_
 simp [a28,el0,el1]
 have fr:∀ id,id<n→¬id=n:=by intro id _; omega
 refine el2_run (n0:=n) (h0:=h) hg hv hd (Nat.le_succ n) (fun id hid=>by simp [fr id hid]) L (by simp) (by simp) (.inr ⟨n,[],Nat.le_refl n,Nat.lt_succ_self n,by simp,by simp,rfl,by simp⟩) ?_
 intro s1 h1 n1 hk1 hn1 hf1 B1
 simp at hk1
 simp
 have hl:=elimD_len (v:=v) (l:=ds)
 have h60:ds.length*ds.length≤60*60:=Nat.mul_le_mul hd hd
 refine el3_run (n0:=n) (h0:=h) hg hm hv hd L (by omega) (by simp [hk1]) (by simp [hk1]) hf1 B1 (show _=elimD v ds from rfl) (by omega) ?_
 intro s2 h2 n2 hn2 hf2 B2
 simp [el4]
 exact hK _ _ _ (by omega) hf2 B2
end Go.Proofs.Ytoclolkigjbcgaa

namespace Go.Proofs.Ytoclolkigjbcgaa
set_option linter.all false
open Go Go.RowKit Go.Proofs
set_option maxRecDepth 20000
set_option maxHeartbeats 2000000
section
variable {ks:List Kt} {s:Env} {h h':Heap} {n:Nat} {Q:Fin}
theorem wo3_run {ds:List DDer} {vl:AV} {N m v n0:Nat} {h0:Heap} {acc0 T:List DDer} (hg:∀ d∈ds,GD N m d) (hm:m≤20) (hv:v<N) (hd:ds.length≤60) (L:LstV DerR 4 0 ds vl h0 n0) (hn0:n0≤n)
   (s0:s 0=vl) (s1:s 1 = .int .i64 v) (hf:∀ id,id<n0→h id=h0 id) (B0:LstV DerR 4 n0 acc0 (s 5) h n) (hT:acc0++ds.flatMap (joins v ds)=T) (hTl:T.length≤4000)
   (hK:∀ s' h' n',n≤n'→(∀ id,id<n0→h' id=h0 id)→LstV DerR 4 n0 T (s' 5) h' n'→kont Try.prog ks .normal s' h' n' Q):rC Try.prog wo3 ks s h n Q:=by
 have keepL:∀ {h' m'},n0≤m'→(∀ id,id<n0→h' id=h0 id)→LstV DerR 4 0 ds vl h' m':=fun hm hh=>LstV.keep (R:=DerR) (fun _ _ _ _ _ _=>DerR.keep) L hm (Keeps.of hh) fun id rows _ hid _ e=>by rw [hh id hid,e]
 simp [wo3,s0]
 refine lenV_lst (keepL hn0 hf) (by unfold LIM; omega) ?_
 simp
 refine rL_forO [0,1,35,36] 37 ds.length (fun i s h m'=>n≤m'∧(∀ id,id<n0→h id=h0 id)∧∃ acc,LstV DerR 4 n0 acc (s 5) h m'∧acc++(ds.drop i).flatMap (joins v ds)=T) (by unfold LIM; omega) (by simp) ⟨Nat.le_refl _,hf,acc0,B0,by simpa using hT⟩ ?_ ?_
 · rintro i st h1 m1 R hi hgi hk s37 hw ⟨hm1,hf1,acc,B,hJ⟩ hR hret _
   simp at hk
   rw [List.drop_eq_getElem_cons hi,List.flatMap_cons] at hJ
   have ga:=hg _ (List.getElem_mem hi)
   refine rC_cut [0,1,5,35,36,37] (fun s=>s 38 = .bool true) (by simp [hk,s37,hi]) ?_
   intro st1 hk1 s38
   simp at hk1
   refine rC_pass s38 (rC_seqI (rC_blkI ?_))
   refine rC_seqI (wload (.inr (.inl ⟨rfl,rfl,rfl,rfl⟩)) (keepL (by omega) hf1) hi (by simp [hk1,hk]) (by simp [hk1,s37]) ?_)
   intro st2 h2 r hk2 _ hf2 s9 e9 hr
   simp at hk2
   rw [kont_seq]
   have B2:LstV DerR 4 n0 acc (st 5) h2 (m1+1):=LstV.keep (R:=DerR) (fun _ _ _ _ _ _=>DerR.keep) B (Nat.le_succ m1) (Keeps.of hf2) fun id rows _ hid _ e=>by rw [hf2 id hid,e]
   have hf20:∀ id,id<n0→h2 id=h0 id:=fun id hid=>by rw [hf2 id (by omega),hf1 id hid]
   refine rC_seqI (wcoef (.inr (.inl ⟨rfl,rfl,rfl⟩)) ga hv s9 (by simp [hk2,hk1,hk,s1]) e9 hr ?_)
   intro st3 hk3 _ hx _
   have s10:=hx rfl
   simp at hk3
   rw [kont_seq]
   by_cases hp:coefD v ds[i]≤0
   · have hj:joins v ds ds[i]=[]:=by unfold joins; rw [if_pos hp]
     rw [hj,List.nil_append] at hJ
     simp [s10,hp,hk3,hk2,hk1,s37,hw]
     exact hR _ _ _ (by simp [hk3,hk2,hk1,hk]) (by simp) ⟨by omega,hf20,acc,by simpa [hk3,hk2,hk1] using B2,hJ⟩
   · rw [joins_F hp,←List.append_assoc] at hJ
     have hal:=congrArg List.length hJ
     simp only [List.length_append] at hal
     simp [s10,hp,hk3,hk2,hk1,hk,s0]
     refine lenV_lst (keepL (by omega) hf20) (by unfold LIM; omega) ?_
     simp
     refine win_run (ds:=ds) (vl:=vl) (a:=ds[i]) (ra:=r) (k9:=m1) (acc0:=acc) (v:=v) hg ga hm hv hd hp L (by omega) (by omega) (by simp [hk3,hk2,hk1,hk,s1]) (by simp [hk3,s9]) (by simp [s10]) (by simp) (by simp) (by simp) hf20 e9 hr (by simpa [hk3,hk2,hk1] using B2) (by simpa [hk3,hk2,hk1] using B.below (Nat.le_refl m1)) rfl (by simp; omega) ?_
     intro st4 h4 m4 hk4 hm4 hf4 B4
     simp at hk4
     simp [hk4,hk3,hk2,hk1,s37,hw]
     exact hR _ _ _ (by simp [hk4,hk3,hk2,hk1,hk]) (by simp) ⟨by omega,hf4,_,by simpa using B4,hJ⟩
 · rintro st h1 m1 R hk s37 ⟨hm1,hf1,acc,B,hJ⟩ hret hX
   simp at hk
   rw [List.drop_eq_nil_of_le (by omega)] at hJ
   simp at hJ
   subst hJ
   refine rC_cut [5] (fun s=>s 38 = .bool false) (by simp [hk,s37]) ?_
   intro st1 hk1 s38
   simp at hk1
   refine rC_stop s38 ?_
   refine hX _ _ _ _ ?_
   simp
   exact hK _ _ _ hm1 hf1 (by simpa [hk1] using B)
end
theorem call_without {ds:List DDer} {vl:AV} {N m v:Nat} {h:Heap} {n:Nat} {K:AV→Heap→Nat→Prop} (hg:∀ d∈ds,GD N m d) (hm:m≤20) (hv:v<N) (hd:ds.length≤60) (L:LstV DerR 4 0 ds vl h n)
   (hK:∀ a h' n',n≤n'→(∀ id,id<n→h' id=h id)→LstV DerR 4 n (elimD v ds) a h' n'→K a h' n'):ACall Try.prog 36 [vl,i64 v] h n K:=by
 refine acall_body Try.func36 a36_ok rfl (by simp [a36]) ?_
 simp [a36,wo0,wo1]
 refine wo2_run (n0:=n) (h0:=h) hg hv hd (Nat.le_refl n) (fun _ _=>rfl) L (by simp) (by simp) (by simp) ?_
 intro s1 h1 n1 hk1 hn1 hf1 B1
 simp at hk1
 simp
 have hl:=elimD_len (v:=v) (l:=ds)
 have h60:ds.length*ds.length≤60*60:=Nat.mul_le_mul hd hd
 refine wo3_run (n0:=n) (h0:=h) hg hm hv hd L hn1 (by simp [hk1]) (by simp [hk1]) hf1 B1 (show _=elimD v ds from rfl) (by omega) ?_
 intro s2 h2 n2 hn2 hf2 B2
 simp [wo4]
 exact hK _ _ _ (by omega) hf2 B2
end Go.Proofs.Ytoclolkigjbcgaa

namespace Go.Proofs.Ytoclolkigjbcgaa
set_option linter.all false
open Go Go.RowKit Go.Proofs
def fk0:AC:=(.reg [⟨some 2,.boxv (.t 0),no⟩,⟨some 3,.boxv (.t 1),no⟩,⟨some 4,.box [(.int .i64 0),(.nil 1)],no⟩,⟨some 5,.mv (.k (.bool false)),no⟩])
def fk1:AC:=(.seq  (.reg [⟨some 16,.ld true 2 (.t 2),no⟩,⟨some 17,.call (.k (.fn (.func 32) [] [])) [.t 16],no⟩,⟨some 18,.un .not (.t 17),no⟩,⟨some 19,.mv (.t 18),no⟩,⟨some 20,.ld true 2 (.t 3),(some (19,false))⟩,⟨some 21,.fld 0 (.t 2),(some (19,false))⟩,⟨some 22,.ld false 1 (.t 21),(some (19,false))⟩,⟨some 23,.call (.k (.fn (.func 33) [] [])) [.t 20,.t 22],(some (19,false))⟩,⟨some 24,.un .not (.t 23),(some (19,false))⟩,⟨some 25,.pick (.t 19) (.k (.bool true)) (.t 24),no⟩]) (.cond (.t 25) (.seq  (.reg [⟨some 26,.build [(.int .i64 0),(.nil 1)] [],no⟩,⟨no,.st 2 (.t 4) (.t 26),no⟩,⟨some 5,.mv (.k (.bool false)),no⟩]) .ret) .skip))
def fk2:AC:=(.draw (.op ⟨some 28,.fld 0 (.t 2),no⟩ (.op ⟨some 29,.ld false 1 (.t 28),no⟩ (.op ⟨some 31,.ld true 2 (.t 3),no⟩ (.both (.op ⟨some 30,.call (.k (.fn (.func 35) [] [])) [(.k (.int .i64 (-1))),.t 29],no⟩ (.both (.op ⟨some 32,.call (.k (.fn (.func 34) [] [])) [.t 30,(.k (.int .i64 (-1))),.t 31],no⟩ (.op ⟨some 27,.mv (.t 32),no⟩ (.op ⟨some 33,.ext (.t 27) 0,no⟩ (.op ⟨some 34,.ext (.t 27) 1,no⟩ (.op ⟨some 6,.box [(.int .i64 0),(.nil 1)],no⟩ (.hop ⟨no,.st 2 (.t 6) (.t 33),no⟩ [] (.op ⟨some 7,.mv (.t 34),no⟩ .fin))))))) (.op ⟨some 6,.box [(.int .i64 0),(.nil 1)],no⟩ (.op ⟨some 32,.call (.k (.fn (.func 34) [] [])) [.t 30,(.k (.int .i64 (-1))),.t 31],no⟩ (.op ⟨some 27,.mv (.t 32),no⟩ (.op ⟨some 33,.ext (.t 27) 0,no⟩ (.op ⟨some 34,.ext (.t 27) 1,no⟩ (.hop ⟨no,.st 2 (.t 6) (.t 33),no⟩ [] (.op ⟨some 7,.mv (.t 34),no⟩ .fin))))))))) (.op ⟨some 6,.box [(.int .i64 0),(.nil 1)],no⟩ (.op ⟨some 30,.call (.k (.fn (.func 35) [] [])) [(.k (.int .i64 (-1))),.t 29],no⟩ (.op ⟨some 32,.call (.k (.fn (.func 34) [] [])) [.t 30,(.k (.int .i64 (-1))),.t 31],no⟩ (.op ⟨some 27,.mv (.t 32),no⟩ (.op ⟨some 33,.ext (.t 27) 0,no⟩ (.op ⟨some 34,.ext (.t 27) 1,no⟩ (.hop ⟨no,.st 2 (.t 6) (.t 33),no⟩ [] (.op ⟨some 7,.mv (.t 34),no⟩ .fin)))))))))))))
def fk3:AC:=(.seq  (.reg [⟨some 35,.mv (.t 7),no⟩,⟨some 36,.un .not (.t 35),no⟩]) (.cond (.t 36) (.seq  (.reg [⟨some 37,.build [(.int .i64 0),(.nil 1)] [],no⟩,⟨no,.st 2 (.t 4) (.t 37),no⟩,⟨some 5,.mv (.k (.bool false)),no⟩]) .ret) .skip))
def fk4:AC:=(.reg [⟨some 8,.mv (.k (.nil 4)),no⟩])
def fa:AC:=(.reg [⟨some 43,.mv (.t 41),no⟩,⟨some 44,.ixa 2 (.t 39) (.t 41),no⟩,⟨some 45,.ld true 2 (.t 44),no⟩,⟨some 10,.box [(.int .i64 0),(.nil 1)],no⟩,⟨some 9,.mv (.t 43),no⟩,⟨no,.st 2 (.t 10) (.t 45),no⟩])
def fb:AC:=(.reg [⟨some 46,.fld 1 (.t 2),no⟩,⟨some 47,.ld false 1 (.t 46),no⟩,⟨some 48,.len false (.t 47),no⟩,⟨some 49,.mks 8 [(.int .i64 0)] (.t 48) (.t 48),no⟩,⟨some 11,.mv (.t 49),no⟩])
def fc:AC:=(.reg [⟨some 50,.mv (.t 11),no⟩,⟨some 51,.mv (.t 9),no⟩,⟨some 52,.ixa 1 (.t 50) (.t 51),no⟩,⟨no,.st 1 (.t 52) (.k (.int .i64 1)),no⟩])
def fd:AC:=(.reg [⟨some 53,.mv (.t 8),no⟩,⟨some 54,.ld true 2 (.t 10),no⟩,⟨some 55,.mv (.t 11),no⟩,⟨some 56,.build [(.int .i64 0),(.nil 1),(.nil 1),(.int .i64 0)] [(0,(2,(.t 54))),(2,(1,(.t 55))),(3,(1,(.k (.int .i64 0))))],no⟩,⟨some 57,.bslb 4 [.t 56],no⟩,⟨some 58,.appb 64 4 (.t 53) (.t 57),no⟩,⟨some 8,.mv (.t 58),no⟩])
def fk5:AC:=(.seq  (.reg [⟨some 38,.fld 1 (.t 2),no⟩,⟨some 39,.ld false 1 (.t 38),no⟩,⟨some 40,.len false (.t 39),no⟩,⟨some 41,.mv (.k (.int .i64 0)),no⟩]) (.blk 0 (.loop (.seq  (.reg [⟨some 42,.bin .lss (.t 41) (.t 40),no⟩]) (.seq (.cond (.t 42) .skip (.exit 0)) (.seq (.blk 1 (.seq  fa (.seq  fb (.seq  fc  fd))))  (.reg [⟨some 59,.bin .add (.t 41) (.k (.int .i64 1)),no⟩,⟨some 41,.mv (.t 59),no⟩])))))))
def fk6:AC:=(.draw (.op ⟨some 60,.mv (.t 8),no⟩ (.op ⟨some 61,.ld true 2 (.t 6),no⟩ (.op ⟨some 62,.fld 1 (.t 2),no⟩ (.op ⟨some 63,.ld false 1 (.t 62),no⟩ (.op ⟨some 64,.len false (.t 63),no⟩ (.op ⟨some 65,.mks 8 [(.int .i64 0)] (.t 64) (.t 64),no⟩ (.op ⟨some 66,.build [(.int .i64 0),(.nil 1),(.nil 1),(.int .i64 0)] [(0,(2,(.t 61))),(2,(1,(.t 65))),(3,(1,(.k (.int .i64 1))))],no⟩ (.hop ⟨some 67,.bslb 4 [.t 66],no⟩ [] (.hop ⟨some 68,.appb 64 4 (.t 60) (.t 67),no⟩ [] (.hop ⟨some 8,.mv (.t 68),no⟩ [] .fin)))))))))))
def fk7:AC:=(.seq  (.reg [⟨some 12,.mv (.k (.int .i64 0)),no⟩]) (.blk 2 (.loop (.seq (.seq  (.reg [⟨some 69,.mv (.t 12),no⟩,⟨some 70,.fld 0 (.t 2),no⟩,⟨some 71,.ld false 1 (.t 70),no⟩,⟨some 72,.bin .lss (.t 69) (.t 71),no⟩]) (.cond (.t 72) .skip (.exit 2))) (.seq (.blk 3 (.seq  (.reg [⟨some 75,.mv (.t 8),no⟩,⟨some 76,.mv (.t 12),no⟩,⟨some 77,.call (.k (.fn (.func 36) [] [])) [.t 75,.t 76],no⟩,⟨some 8,.mv (.t 77),no⟩]) (.seq  (.reg [⟨some 78,.mv (.t 8),no⟩,⟨some 79,.len false (.t 78),no⟩,⟨some 80,.bin .gtr (.t 79) (.k (.int .i64 60)),no⟩]) (.cond (.t 80) (.seq  (.reg [⟨some 81,.build [(.int .i64 0),(.nil 1)] [],no⟩,⟨no,.st 2 (.t 4) (.t 81),no⟩,⟨some 5,.mv (.k (.bool false)),no⟩]) .ret) .skip))))  (.reg [⟨some 73,.mv (.t 12),no⟩,⟨some 74,.bin .add (.t 73) (.k (.int .i64 1)),no⟩,⟨some 12,.mv (.t 74),no⟩]))))))
def ga:AC:=(.reg [⟨some 86,.ixa 4 (.t 82) (.t 84),no⟩,⟨some 87,.ld true 4 (.t 86),no⟩,⟨some 14,.box [(.int .i64 0),(.nil 1),(.nil 1),(.int .i64 0)],no⟩,⟨no,.st 4 (.t 14) (.t 87),no⟩])
def gb:AC:=(.seq  (.reg [⟨some 92,.fld 3 (.t 14),no⟩,⟨some 93,.ld false 1 (.t 92),no⟩,⟨some 94,.fld 2 (.t 14),no⟩,⟨some 95,.ld false 1 (.t 94),no⟩,⟨some 96,.build [(.int .i64 0),(.nil 1)] [(0,(1,(.t 93))),(1,(1,(.t 95)))],no⟩,⟨some 15,.box [(.int .i64 0),(.nil 1)],no⟩,⟨no,.st 2 (.t 15) (.t 96),no⟩]) (.seq (.seq  (.reg [⟨some 97,.ld true 2 (.t 2),no⟩,⟨some 98,.ld true 2 (.t 3),no⟩,⟨some 99,.ld true 2 (.t 15),no⟩,⟨some 100,.call (.k (.fn (.func 37) [] [])) [.t 97,.t 98,.t 99],no⟩,⟨some 101,.un .not (.t 100),no⟩]) (.cond (.t 101) (.seq  (.reg [⟨some 102,.build [(.int .i64 0),(.nil 1)] [],no⟩,⟨no,.st 2 (.t 4) (.t 102),no⟩,⟨some 5,.mv (.k (.bool false)),no⟩]) .ret) .skip)) (.seq  (.reg [⟨some 103,.ld true 2 (.t 15),no⟩,⟨no,.st 2 (.t 4) (.t 103),no⟩,⟨some 5,.mv (.k (.bool true)),no⟩]) .ret)))
def fk8:AC:=(.seq  (.reg [⟨some 82,.mv (.t 8),no⟩,⟨some 83,.len false (.t 82),no⟩,⟨some 84,.mv (.k (.int .i64 0)),no⟩]) (.blk 4 (.loop (.seq  (.reg [⟨some 85,.bin .lss (.t 84) (.t 83),no⟩]) (.seq (.cond (.t 85) .skip (.exit 4)) (.seq (.blk 5 (.seq  ga (.seq  (.reg [⟨some 88,.fld 0 (.t 14),no⟩,⟨some 89,.fld 0 (.t 88),no⟩,⟨some 90,.ld false 1 (.t 89),no⟩,⟨some 91,.bin .lss (.t 90) (.k (.int .i64 0)),no⟩]) (.cond (.t 91) gb .skip))))  (.reg [⟨some 104,.bin .add (.t 84) (.k (.int .i64 1)),no⟩,⟨some 84,.mv (.t 104),no⟩])))))))
def fk9:AC:=(.reg [⟨some 105,.build [(.int .i64 0),(.nil 1)] [],no⟩,⟨no,.st 2 (.t 4) (.t 105),no⟩,⟨some 5,.mv (.k (.bool false)),no⟩])
def a16:AFn:=⟨106,[(.c 4 true 2),.t 5],(.seq fk0 (.seq fk1 (.seq fk2 (.seq fk3 (.seq fk4 (.seq fk5 (.seq fk6 (.seq fk7 (.seq fk8 (.seq fk9 .ret))))))))))⟩
theorem a16_ok:compFnX true Try.prog Try.f16=some a16:=by kernel_rfl
set_option maxRecDepth 20000
set_option maxHeartbeats 2000000
theorem findF_no {x:DSystem} {t:DLin} (h:(okSys x&&okLin t x.N)=false):findF x t=Option.none:=by unfold findF; rw [h]; rfl
theorem findF_1 {x:DSystem} {t:DLin} (h:addScaled (constLin (-1) x.N) (-1) t=Option.none):findF x t=Option.none:=by unfold findF; rw [h]; split <;> rfl
theorem findF_2 {x:DSystem} {t last:DLin} (h0:(okSys x&&okLin t x.N)=true) (h:addScaled (constLin (-1) x.N) (-1) t=some last):findF x t=(goE 0 x.N.toNat (startD x.Rows last)).bind (findL x t):=by
 unfold findF; rw [h0,h]; simp only [if_true]
 cases goE 0 x.N.toNat (startD x.Rows last) <;> rfl
theorem unit_rows {m k:Nat} : (List.replicate m [i64 0]).set k [i64 1]=intsR (unitI m k):=by
 unfold unitI intsR
 rw [List.map_set,List.map_replicate]
theorem zero_rows {m:Nat} : List.replicate m [i64 0]=intsR (List.replicate m 0):=by
 unfold intsR
 rw [List.map_replicate]
section
variable {ks:List Kt} {s:Env} {h h':Heap} {n:Nat} {Q:Fin}
theorem fk2_run {x:DSystem} {t:DLin} (s2:s 2 = .ptr 0 0 0) (s3:s 3 = .ptr 1 0 0) (e0:h 0=some ⟨true,2,[rASystem x]⟩) (e1:h 1=some ⟨true,2,[rALin t]⟩)
   (hK:∀ s' h' n' k q,(∀ i∈[2,3,4],s' i=s i)→n≤n'→(∀ id,id<n→h' id=h id)→s' 7 = .bool (addScaled (constLin (-1) x.N) (-1) t).isSome→s' 6 = .ptr k 0 0→LinQ ((addScaled (constLin (-1) x.N) (-1) t).getD lin0) k q h' n n'→kont Try.prog ks .normal s' h' n' Q):rC Try.prog fk2 ks s h n Q:=by
 have fr:∀ id,id<n→¬id=n∧¬id=n+1∧¬id=n+2∧¬id=n+1+1:=by intro id _; omega
 have ne:¬n=n+1∧¬n+1=n∧¬n=n+1+1∧¬n+1+1=n∧¬n+1=n+1+1∧¬n+1+1=n+1:=by omega
 simp [fk2,s2,s3,e0,e1,rASystem,rALin]
 refine ⟨?_,?_⟩
 · skip
   first|refine callD_of (k_ConstLin (-1) x.N) (by first|simp;done|rfl) ?_|refine call_of (k_ConstLin (-1) x.N) (by first|simp;done|rfl) ?_
   rintro r rfl
   simp [rULin]
   refine ⟨?_,?_⟩
   · skip
     first|refine callD_of (k_AddScaled (constLin (-1) x.N) (-1) t) (by first|simp [rALin];done|rfl) ?_|refine call_of (k_AddScaled (constLin (-1) x.N) (-1) t) (by first|simp [rALin];done|rfl) ?_
     rintro r rfl
     rw [optLin_eq]
     generalize addScaled (constLin (-1) x.N) (-1) t=T at *
     simp [rULin,ne]
     exact hK _ _ _ (n+1+1) (n+1) (by simp) (by omega) (fun id hid=>by simp [fr id hid]) (by simp) (by simp) ⟨by omega,by omega,by omega,by omega,by omega,by simp,by simp [ne]⟩
   · skip
     first|refine callD_of (k_AddScaled (constLin (-1) x.N) (-1) t) (by first|simp [rALin,ne];done|rfl) ?_|refine call_of (k_AddScaled (constLin (-1) x.N) (-1) t) (by first|simp [rALin,ne];done|rfl) ?_
     rintro r rfl
     rw [optLin_eq]
     generalize addScaled (constLin (-1) x.N) (-1) t=T at *
     simp [rULin,ne]
     exact hK _ _ _ (n+1) (n+1+1) (by simp) (by omega) (fun id hid=>by simp [fr id hid]) (by simp) (by simp) ⟨by omega,by omega,by omega,by omega,by omega,by simp [ne],by simp [ne]⟩
 · skip
   first|refine callD_of (k_ConstLin (-1) x.N) (by first|simp;done|rfl) ?_|refine call_of (k_ConstLin (-1) x.N) (by first|simp;done|rfl) ?_
   rintro r rfl
   simp [rULin,ne]
   first|refine callD_of (k_AddScaled (constLin (-1) x.N) (-1) t) (by first|simp [rALin,ne];done|rfl) ?_|refine call_of (k_AddScaled (constLin (-1) x.N) (-1) t) (by first|simp [rALin,ne];done|rfl) ?_
   rintro r rfl
   rw [optLin_eq]
   generalize addScaled (constLin (-1) x.N) (-1) t=T at *
   simp [rULin,ne]
   exact hK _ _ _ n (n+1+1) (by simp) (by omega) (fun id hid=>by simp [fr id hid]) (by simp) (by simp) ⟨by omega,by omega,by omega,by omega,by omega,by simp [ne],by simp [ne]⟩
theorem frow_run {x:DSystem} {acc:List DDer} {i lo:Nat} (hi:i<x.Rows.length) (hm:x.Rows.length≤20) (s2:s 2 = .ptr 0 0 0) (s39:s 39 = .sl 2 (x.Rows.map rALin)) (s41:s 41 = .int .i64 i) (e0:h 0=some ⟨true,2,[rASystem x]⟩) (h0:0<n) (hlo:lo≤n) (B:LstV DerR 4 lo acc (s 8) h n) (hl:acc.length≤4000)
   (hK:∀ s' h' n',(∀ j∈[2,3,4,6,39,40,41],s' j=s j)→n≤n'→Keeps h h' n→(∀ id,id<n→(∀ k,s 8 ≠ .ref id 0 k)→h' id=h id)→LstV DerR 4 lo (acc++[⟨x.Rows[i],unitI x.Rows.length i,0⟩]) (s' 8) h' n'→kont Try.prog ks .normal s' h' n' Q):rC Try.prog (.seq fa (.seq fb (.seq fc fd))) ks s h n Q:=by
 have ne:¬n=n+1∧¬n+1=n∧¬n=n+1+1∧¬n+1+1=n∧¬n+1=n+1+1∧¬n+1+1=n+1∧¬0=n∧¬0=n+1:=by omega
 have fr:∀ id,id<n→¬id=n∧¬id=n+1∧¬id=n+1+1:=by intro id _; omega
 have hlim:(x.Rows.length:Int)*8≤LIM:=by unfold LIM; omega
 simp [fa,fb,fc,s2,s39,s41,e0,hi,ne,rASystem,rALin]
 intro _
 refine ⟨by unfold LIM at *; omega,?_⟩
 have hu:=unit_rows (m:=x.Rows.length) (k:=i)
 simp only [i64] at hu
 rw [hu]
 have kp:Keeps h (upd (upd h n (some ⟨true,2,[[.int .i64 x.Rows[i].Const,.sl 1 (intsR x.Rows[i].Coeffs)]]⟩)) (n+1) (some ⟨false,1,intsR (unitI x.Rows.length i)⟩)) n:=Keeps.of fun id hid=>by simp [fr id hid]
 have hul:(unitI x.Rows.length i).length=x.Rows.length:=by simp [unitI]
 simp [fd,ne]
 have kp2:Keeps h (upd (upd (upd h n (some ⟨true,2,[[.int .i64 x.Rows[i].Const,.sl 1 (intsR x.Rows[i].Coeffs)]]⟩)) (n+1) (some ⟨false,1,intsR (unitI x.Rows.length i)⟩)) (n+1+1) (some ⟨true,4,[[.int .i64 x.Rows[i].Const,.sl 1 (intsR x.Rows[i].Coeffs),.ref (n+1) 0 x.Rows.length,.int .i64 0]]⟩)) n:=Keeps.of fun id hid=>by simp [fr id hid]
 have B':=LstV.keep (R:=DerR) (n':=n+1+1+1) (fun _ _ _ _ _ _=>DerR.keep) B (by omega) kp2 fun id rows _ hid _ e=>by simp [fr id hid,e]
 refine appbV_lst (R:=DerR) (fun _ _ _ _ _ _=>DerR.keep) B' (r:=[.int .i64 x.Rows[i].Const,.sl 1 (intsR x.Rows[i].Coeffs),.ref (n+1) 0 x.Rows.length,.int .i64 0]) (d:=⟨x.Rows[i],unitI x.Rows.length i,0⟩) (by simp [srcRowsB]) ⟨_,_,rfl,.inl rfl,.inr ⟨n+1,by omega,by rw [hul],by simp [ne]⟩⟩ (by omega) (by unfold LIM; omega) ?_
 intro h' k1 k2 k3
 simp
 refine hK _ _ _ (by simp) (by omega) (kp2.trans k1 (by omega)) (fun id hid hv=>by rw [k2 id (by omega) hv]; simp [fr id hid]) (by simpa using k3)
def stR (rows:List DLin):List DDer:=(List.range rows.length).map fun k=>(⟨rows.getD k lin0,unitI rows.length k,0⟩:DDer)
theorem stR_succ {rows:List DLin} {i:Nat} (hi:i<rows.length):(stR rows).take (i+1)=(stR rows).take i++[⟨rows[i],unitI rows.length i,0⟩]:=by
 have hl:i<(stR rows).length:=by simpa [stR] using hi
 rw [List.take_succ_eq_append_getElem hl]
 congr 2
 simp [stR,hi]
theorem fk5_run {x:DSystem} {n0:Nat} {h0:Heap} (hm:x.Rows.length≤20) (s2:s 2 = .ptr 0 0 0) (s8:s 8 = .nil 4) (e0:h0 0=some ⟨true,2,[rASystem x]⟩) (hn0:0<n0) (hn:n0≤n) (hf:∀ id,id<n0→h id=h0 id)
   (hK:∀ s' h' n',(∀ j∈[2,3,4,6],s' j=s j)→n0≤n'→(∀ id,id<n0→h' id=h0 id)→LstV DerR 4 n0 (stR x.Rows) (s' 8) h' n'→kont Try.prog ks .normal s' h' n' Q):rC Try.prog fk5 ks s h n Q:=by
 have e0':h 0=some ⟨true,2,[[.int .i64 x.N,.sl 2 (x.Rows.map rALin)]]⟩:=by rw [hf 0 hn0,e0]; rfl
 simp [fk5,s2,e0']
 intro _
 refine rL_forO [2,3,4,6,39,40] 41 x.Rows.length (fun i s h m=>n0≤m∧(∀ id,id<n0→h id=h0 id)∧LstV DerR 4 n0 ((stR x.Rows).take i) (s 8) h m) (by unfold LIM; omega) (by simp) ⟨hn,hf,.inl ⟨by simp [s8],by simp⟩⟩ ?_ ?_
 · rintro i st h1 m1 R hi hgi hk s41 hw ⟨hm1,hf1,B⟩ hR hret _
   simp at hk
   refine rC_cut [2,3,4,6,8,39,40,41] (fun s=>s 42 = .bool true) (by simp [hk,s41,hi]) ?_
   intro st1 hk1 s42
   simp at hk1
   refine rC_pass s42 (rC_seqI (rC_blkI ?_))
   refine frow_run (acc:=(stR x.Rows).take i) (lo:=n0) hi hm (by simp [hk1,hk,s2]) (by simp [hk1,hk]) (by simp [hk1,s41]) (by rw [hf1 0 hn0,e0]) (by omega) hm1 (by simpa [hk1] using B) (by simp [stR]; omega) ?_
   intro st2 h2 m2 hk2 hm2 kp2 hf2 B2
   simp at hk2
   simp [hk2,hk1,s41,hw]
   refine hR _ _ _ (by simp [hk2,hk1,hk]) (by simp) ⟨by omega,fun id hid => ?_,?_⟩
   · rw [hf2 id (by omega) fun k e => ?_,hf1 id hid]
     have:=B.from id k (by simpa [hk1] using e)
     omega
   · rw [stR_succ hi]
     simpa using B2
 · rintro st h1 m1 R hk s41 ⟨hm1,hf1,B⟩ hret hX
   simp at hk
   have ht:(stR x.Rows).take x.Rows.length=stR x.Rows:=List.take_of_length_le (by simp [stR])
   rw [ht] at B
   refine rC_cut [2,3,4,6,8] (fun s=>s 42 = .bool false) (by simp [hk,s41]) ?_
   intro st1 hk1 s42
   simp at hk1
   refine rC_stop s42 ?_
   refine hX _ _ _ _ ?_
   simp
   exact hK _ _ _ (by simp [hk1,hk]) hm1 hf1 (by simpa [hk1] using B)
end
end Go.Proofs.Ytoclolkigjbcgaa

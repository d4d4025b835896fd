/- The program's ModelOf: calls, and the whole. -/
import Derived.Test.YtoclolkigjbcgaaGreatWHS6
import Derived.Test.YtoclolkigjbcgaaGreatWV8
import Derived.Test.YtoclolkigjbcgaaGreatWC9
import Derived.Test.YtoclolkigjbcgaaGreatWT1
namespace Go.Proofs.YtoclolkigjbcgaaGreat
set_option maxRecDepth 40000
set_option maxHeartbeats 4000000
open Go Go.RowKit Go.Proofs
set_option linter.all false
section
variable {p:DProgram}{r:DRule}{f:DFunction}{N:Nat}{I:Ids}{ks:List Kt}{s:Env}{h:Heap}{n:Nat}{Q:Fin}
theorem Jo5 {l:List (List DLin)}(hl:l≠[]) (m:List Int) (h:l.map J26=J0e m):False:=by
 cases l with
 | nil=>exact hl rfl
 | cons x l=>
  cases m with
  | nil=>simp [J0e] at h
  | cons y m=>simp [J0e,J26,i64] at h
theorem Jnm {ms:MS}{c:DCall}{k n0:Nat}{h0:Heap}{as':List DLin}{v:AV}(s12:s 12 = .ptr I.m 0 0) (s34:s 34=v) (M:MI p r f N I ms h0 n0) (hkn:k<n0) (hkb:h0 k=some ⟨true,3,[J0y c]⟩) (hn:n0≤n) (hfr:∀ id,id<n0→h id=h0 id)
 (A:J3v (n0 - 1) 2 (as'.map J07) v h n) (hal:ms.args.length≤1048576) (hasl:as'.length≤100000000)
 (hK:∀ s' h' n',(∀ j∈[2,4,6,7,9,12,13,15,16,193,194,195,33],s' j=s j)→MI p r f N I (Je5 ms as') h' n'→k<n'→h' k=some ⟨true,3,[J0y c]⟩→J25 Tryz.prog ks .normal s' h' n' Q):rC Tryz.prog Jwf ks s h n Q:=by
 obtain ⟨l1,l2,l3,l4,l5⟩:=M.lt
 obtain ⟨vR,vP,vA,g1,g2,g3,g4,g6,g5⟩:=M.acc
 have hkm:¬k=I.m:=M.ne_m hkb (by omega)
 have g1':h I.m=some ⟨true,6,[J52 N vR vP vA]⟩:=by rw [hfr _ (by omega),g1]
 have hkb':h k=some ⟨true,3,[J0y c]⟩:=by rw [hfr _ hkn,hkb]
 have ne:¬I.m=n∧¬I.m=n+1∧¬n=I.m∧¬n+1=I.m∧¬k=n∧¬k=n+1∧¬n=n+1∧¬n+1=n:=by omega
 have fr:∀ id,id<n0→¬id=n∧¬id=n+1:=by intro id _;omega
 have fm:∀ id,I.x<id→¬id=I.m:=by intro id _;omega
 have hul:J26 as'=[.us 2 (as'.map J07)]:=rfl
 simp [Jwf,s12,s34,g1',J52]
 rcases A with ⟨hz,rfl⟩|⟨j0,hj0,hjn,rfl,hjb⟩
 ·have hz':as'=[]:=by simpa using hz
  subst hz'
  rcases g4 with ⟨hzA,rfl⟩|⟨iA,hA1,hA2,rfl,hibA⟩
  ·have hz2:ms.args=[]:=by simpa using hzA
   simp [ne,g1',J52,s12]
   refine ⟨by unfold LIM;omega,?_⟩
   refine hK _ _ _ (by simp) (M.upd_acc (st':=Je5 ms []) rfl rfl (by omega) (fun _=>False) (fun _ h=>h.elim) ?_ ?_) (by omega) (by simp [ne,hkm,hkb'])
   ·intro id hid hm _
    simp [fr id hid,hm,hfr id hid]
   ·refine ⟨vR,vP,.ref (n+1) 0 1,by simp [J52],g2.keep (by omega) fun id hb hid _=>by simp [fr id hid,fm id hb,hfr id hid],g3.keep (by omega) fun id hb hid _=>by simp [fr id hid,fm id hb,hfr id hid],.inr ⟨n+1,by omega,by omega,by simp [Je5,hz2],by simp [Je5,hz2,ne,J26]⟩,by simp [Je5],g5⟩
  ·have hibA':h iA=some ⟨false,1,ms.args.map J26⟩:=by rw [hfr _ hA2,hibA]
   have ni:¬iA=n∧¬iA=n+1∧¬iA=I.m∧¬I.m=iA∧¬n=iA∧¬n+1=iA:=by omega
   have hik:¬k=iA:=by rintro rfl;rw [hkb] at hibA;simp at hibA
   have hne:ms.args≠[]:=fun e=>by have:=g6 e;simp at this
   simp [ne,ni,g1',J52,s12,hibA']
   refine ⟨by unfold LIM;omega,?_⟩
   refine hK _ _ _ (by simp) (M.upd_acc (st':=Je5 ms []) rfl rfl (by omega) (fun id=>id=iA) (fun id e=>⟨by omega,fun l hl=>by rw [e,hibA] at hl;simp at hl;exact Jo5 hne l hl⟩) ?_ ?_) (by omega) (by simp [ne,hkm,hik,hkb'])
   ·intro id hid hm hii
    simp [fr id hid,hm,hii,hfr id hid]
   ·refine ⟨vR,vP,.ref (n+1) 0 (ms.args.length+1),by simp [J52],g2.keep (by omega) fun id hb hid e => ?_,g3.keep (by omega) fun id hb hid e => ?_,.inr ⟨n+1,by omega,by omega,by simp [Je5],by simp [Je5,ne,J26,List.take_of_length_le]⟩,by simp [Je5],g5⟩
    ·have hii:¬id=iA:=by
      intro e'
      rcases g2 with ⟨_,e2⟩|⟨j',_,_,e2,hjb⟩
      ·rw [e2] at e;cases e
      ·rw [e2] at e;simp only [AV.ref.injEq] at e
       rw [e.1,e',hibA] at hjb
       simp at hjb
     simp [fr id hid,fm id hb,hii,hfr id hid]
    ·have hii:¬id=iA:=by
      intro e'
      rcases g3 with ⟨_,e2⟩|⟨j',_,_,e2,hjb⟩
      ·rw [e2] at e;cases e
      ·rw [e2] at e;simp only [AV.ref.injEq] at e
       rw [e.1,e',hibA] at hjb
       simp at hjb
     simp [fr id hid,fm id hb,hii,hfr id hid]
 ·have nj:¬j0=n∧¬j0=n+1∧¬n=j0∧¬n+1=j0∧¬j0=I.m∧¬I.m=j0:=by omega
  have fj:¬k=j0∧¬j0=k:=by omega
  have frj:∀ id,id<n0→¬id=j0:=by intro id _;omega
  rcases g4 with ⟨hzA,rfl⟩|⟨iA,hA1,hA2,rfl,hibA⟩
  ·have hz2:ms.args=[]:=by simpa using hzA
   simp [ne,g1',J52,s12,hjb,nj,fj]
   refine ⟨by unfold LIM;omega,?_⟩
   refine hK _ _ _ (by simp) (M.upd_acc (st':=Je5 ms as') rfl rfl (by omega) (fun _=>False) (fun _ h=>h.elim) ?_ ?_) (by omega) (by simp [ne,hkm,hkb',hjb,nj,fj])
   ·intro id hid hm _
    simp [fr id hid,hm,hfr id hid,frj id hid]
   ·refine ⟨vR,vP,.ref (n+1) 0 1,by simp [J52],g2.keep (by omega) fun id hb hid _=>by simp [fr id hid,fm id hb,hfr id hid,frj id hid],g3.keep (by omega) fun id hb hid _=>by simp [fr id hid,fm id hb,hfr id hid,frj id hid],.inr ⟨n+1,by omega,by omega,by simp [Je5,hz2],by simp [Je5,hz2,ne,J26,List.take_of_length_le]⟩,by simp [Je5],g5⟩
  ·have nij:¬iA=j0∧¬j0=iA:=by omega
   have hibA':h iA=some ⟨false,1,ms.args.map J26⟩:=by rw [hfr _ hA2,hibA]
   have ni:¬iA=n∧¬iA=n+1∧¬iA=I.m∧¬I.m=iA∧¬n=iA∧¬n+1=iA:=by omega
   have hik:¬k=iA:=by rintro rfl;rw [hkb] at hibA;simp at hibA
   have hne:ms.args≠[]:=fun e=>by have:=g6 e;simp at this
   simp [ne,ni,g1',J52,s12,hibA',hjb,nj,fj,nij]
   refine ⟨by unfold LIM;omega,?_⟩
   refine hK _ _ _ (by simp) (M.upd_acc (st':=Je5 ms as') rfl rfl (by omega) (fun id=>id=iA) (fun id e=>⟨by omega,fun l hl=>by rw [e,hibA] at hl;simp at hl;exact Jo5 hne l hl⟩) ?_ ?_) (by omega) (by simp [ne,hkm,hik,hkb',hjb,nj,fj,nij])
   ·intro id hid hm hii
    simp [fr id hid,hm,hii,hfr id hid,frj id hid]
   ·refine ⟨vR,vP,.ref (n+1) 0 (ms.args.length+1),by simp [J52],g2.keep (by omega) fun id hb hid e => ?_,g3.keep (by omega) fun id hb hid e => ?_,.inr ⟨n+1,by omega,by omega,by simp [Je5],by simp [Je5,ne,J26,List.take_of_length_le]⟩,by simp [Je5],g5⟩
    ·have hii:¬id=iA:=by
      intro e'
      rcases g2 with ⟨_,e2⟩|⟨j',_,_,e2,hjb⟩
      ·rw [e2] at e;cases e
      ·rw [e2] at e;simp only [AV.ref.injEq] at e
       rw [e.1,e',hibA] at hjb
       simp at hjb
     simp [fr id hid,fm id hb,hii,hfr id hid,frj id hid]
    ·have hii:¬id=iA:=by
      intro e'
      rcases g3 with ⟨_,e2⟩|⟨j',_,_,e2,hjb⟩
      ·rw [e2] at e;cases e
      ·rw [e2] at e;simp only [AV.ref.injEq] at e
       rw [e.1,e',hibA] at hjb
       simp at hjb
     simp [fr id hid,fm id hb,hii,hfr id hid,frj id hid]
theorem Jq0 {ma:MS}(S:J6o I s) (M:MI p r f N I ma h n) (hp:J0r p≤1048576) (hl2:r.Calls.length≤2) (hx2:ma.nx≤1000) (hr2:ma.rows.length≤10000) (ha2:ma.args.length≤10) (hN:N≤8)
 (hargs:∀ c∈r.Calls,c.Args.length≤1048576∧(∀ a∈c.Args,∀ x∈a.Heads,x.Terms.length≤1048576)∧∀ a∈c.Args,a.Lst=false→0<a.Heads.length)
 (hK:∀ s' h' n',J6o I s'→MI p r f N I (r.Calls.foldl (Jer p N) ma) h' n'→J25 Tryz.prog ks .normal s' h' n' Q):rC Tryz.prog K6r ks s h n Q:=by
 have S0:=S
 obtain ⟨s2,s4,s6,s7,s9,s12,s13,s15,s16⟩:=S0
 simp [K6r,s6,M.hr,J0c]
 intro _
 generalize hT:r.Calls.foldl (Jer p N) ma=T at hK
 refine J0k [2,4,6,7,9,12,13,15,16,193,194] 195 r.Calls.length (fun i s' h' n'=>∃ ms:MS,MI p r f N I ms h' n'∧(r.Calls.drop i).foldl (Jer p N) ms=T∧ms.nx≤1000+i∧ms.rows.length≤10000+i∧ms.args.length≤10+i) (by unfold LIM;omega) (by simp)
  ⟨_,M,by simpa using hT,by omega,by omega,by omega⟩ ?_ ?_
 ·rintro i st h' m R hi hg hk s195 hw ⟨ms,M,hJ,hb1,hb2,hb3⟩ hR _ _
  simp at hk
  rw [List.drop_eq_getElem_cons hi,List.foldl_cons] at hJ
  obtain ⟨ha1,ha2,ha3⟩:=hargs _ (List.getElem_mem hi)
  obtain ⟨l1,l2,l3,l4,l5⟩:=M.lt
  refine J0g [2,4,6,7,9,12,13,15,16,193,194,195] (fun s=>s 196 = .bool true) (by simp [hk,s195,hi]) ?_
  intro st1 hk1 s196
  simp at hk1
  refine J2m s196 (J09 (J0t ?_))
  refine J17 [2,4,6,7,9,12,13,15,16,193,194,195] (fun s h' n'=>∃ k,s 33 = .ptr k 0 0∧k<n'∧h' k=some ⟨true,3,[J0y (r.Calls[i]'hi)]⟩∧MI p r f N I ms h' n') ?_ ?_
  ·have fr:∀ id,id<m→¬id=m:=by intro id _;omega
   simp [hk1,hk,s195,hi,J0y]
   exact M.frame (by omega) fun id hid=>by simp [fr id hid]
  rintro st2 h2 n2 hk2 ⟨k,s33,hkn,hkb,M2⟩
  simp at hk2
  generalize r.Calls[i]=c at *
  refine J0g [2,4,6,7,9,12,13,15,16,193,194,195,33] (fun s=>s 34 = .nil 2) (by simp) ?_
  intro st3 hk3 s34
  simp at hk3
  have S3:J6o I st3:=S.of (by simp [hk3,hk2,hk1,hk])
  obtain ⟨t2,t4,t6,t7,t9,t12,t13,t15,t16⟩:=S3
  refine J09 (Joj t9 t13 (by rw [hk3.2.2.2.2.2.2.2.2.2.2.2.2,s33]) s34 M2 hkn hkb ha1 ha2 ha3 ?_)
  intro st4 h4 n4 hk4 hn4 hfr4 A4
  simp at hk4
  refine J53 (J09 (Jnm (c:=c) (k:=k) (by rw [hk4.2.2.2.2.2.1,t12]) rfl M2 hkn hkb hn4 hfr4 A4 (by omega) (by simp;omega) ?_))
  intro st5 h5 n5 hk5 M5 hkn5 hkb5
  simp at hk5
  generalize hal:c.Args.map (Jfx ms.E N)=as' at *
  have hlx:(J2k ms.nx N).Coeffs.length≤8:=J66 N (by omega)
  generalize hLR:((J1p p.Functions c.Func).getD fn0).ListResult=LR at *
  have hiC:Jer p N ms c=if LR then Jib (Jg8 (Je5 ms as') c.Bind (J2k ms.nx N) (ms.nx+1)) (J2k ms.nx N) else Jg8 (Je5 ms as') c.Bind (J2k ms.nx N) (ms.nx+1):=by
   unfold Jer;rw [hal,hLR];cases LR <;> simp [Jib,Jg8,Je5]
  rw [hiC] at hJ
  have u15:st5 15 = .fn (.func 202) [] [.ptr I.x 0 0,.ptr 6 0 0,.ptr I.s 0 0]:=by rw [hk5.2.2.2.2.2.2.2.1,hk4.2.2.2.2.2.2.2.1,t15]
  have u33:st5 33 = .ptr k 0 0:=by rw [hk5.2.2.2.2.2.2.2.2.2.2.2.2,hk4.2.2.2.2.2.2.2.2.2.2.2.2,hk3.2.2.2.2.2.2.2.2.2.2.2.2,s33]
  have nd:=M5.ne_d hkb5 (by omega)
  have nx:=M5.ne_x hkb5 (by omega)
  have hnx5:(Je5 ms as').nx=ms.nx:=rfl
  refine J53 (J17 [2,4,6,7,9,12,13,15,16,193,194,195,33] (fun s h' n'=>MI p r f N I (Jg8 (Je5 ms as') c.Bind (J2k ms.nx N) (ms.nx+1)) h' n'∧k<n'∧h' k=some ⟨true,3,[J0y c]⟩∧∃ k,s 37 = .ptr k 0 0∧J5e (J2k ms.nx N) k h' n') ?_ ?_)
  ·simp [u33,u15,hkb5,J0y]
   refine Jbn M5 c.Bind (by rw [hnx5];omega) ?_
   rw [hnx5]
   intro q' h1 n1 hq hq1 hfr hqb M1
   have fr:∀ id,id<n1→¬id=n1:=by intro id _;omega
   generalize J2k ms.nx N=l at *
   simp [Jij]
   exact ⟨M1.frame (by omega) fun id hid=>by simp [fr id hid],by omega,by simp [fr k (by omega),hfr k hkn5 nd nx,hkb5,J0y],q',by omega,by omega,by simp,by simp [fr q' hq1,hqb]⟩
  rintro st6 h6 n6 hk6 ⟨M6,hkn6,hkb6,k37,s37,q7,x7,y7,z7,w7⟩
  simp at hk6
  have v2:st6 2 = .ptr 0 0 0:=by rw [hk6.1,hk5.1,hk4.1,t2]
  have v33:st6 33 = .ptr k 0 0:=by rw [hk6.2.2.2.2.2.2.2.2.2.2.2.2,u33]
  refine J17 [2,4,6,7,9,12,13,15,16,193,194,195,37] (fun s h' n'=>MI p r f N I (Jg8 (Je5 ms as') c.Bind (J2k ms.nx N) (ms.nx+1)) h' n'∧J5e (J2k ms.nx N) k37 h' n'∧∃ k x y z,s 38 = .ptr k 0 0∧h' k=some ⟨true,4,[[x,y,.bool LR,z]]⟩) ?_ ?_
  ·simp [v2,v33,hkb6,J0y,M6.hp]
   first|refine J00 (J23 p c.Func hp) (by first|simp [J03];done|rfl) ?_|refine J01 (J23 p c.Func hp) (by first|simp [J03];done|rfl) ?_
   rintro r rfl
   unfold J8q
   rw [←hLR]
   generalize (J1p p.Functions c.Func).getD fn0=G at *
   have fr:∀ id,id<n6→¬id=n6∧¬id=n6+1∧¬id=n6+1+1:=by intro id _;omega
   simp [J0j]
   exact ⟨M6.frame (by omega) fun id hid=>by simp [fr id hid],q7,by omega,by omega,by simp [fr k37 x7,z7],by simp [fr q7 y7,w7]⟩
  rintro st7 h7 n7 hk7 ⟨M7,⟨q8,x8,y8,z8,w8⟩,k38,x,y,z,s38,hkb8⟩
  simp at hk7
  refine J0g [2,4,6,7,9,12,13,15,16,193,194,195,37] (fun s=>s 232 = .bool LR) (by simp [s38,hkb8]) ?_
  intro st8 hk8 s232
  simp at hk8
  have kp:∀ j∈[2,4,6,7,9,12,13,15,16,193,194,195],st8 j=st j:=by simp [hk8,hk7,hk6,hk5,hk4,hk3,hk2,hk1]
  simp at kp
  have g16:st8 16 = .fn (.func 204) [] [.ptr I.m 0 0]:=by rw [hk8.2.2.2.2.2.2.2.2.1,hk7.2.2.2.2.2.2.2.2.1,hk6.2.2.2.2.2.2.2.2.1,hk5.2.2.2.2.2.2.2.2.1,hk4.2.2.2.2.2.2.2.2.1,t16]
  have g37:st8 37 = .ptr k37 0 0:=by rw [hk8.2.2.2.2.2.2.2.2.2.2.2.2,hk7.2.2.2.2.2.2.2.2.2.2.2.2,s37]
  cases LR
  ·simp only [Bool.false_eq_true,if_false] at hJ
   simp [s232,kp,s195,hw]
   exact hR _ _ _ (by simp [kp,hk]) (by simp) ⟨_,M7,hJ,by show ms.nx+1≤_;omega,by show ms.rows.length≤_;omega,by show (ms.args++[_]).length≤_;simp;omega⟩
  ·simp only [if_true] at hJ
   simp [s232,g16,g37,z8]
   refine J9i M7 (q:=q8) (by omega) y8 w8 (by show ms.rows.length≤_;omega) ?_
   intro h9 n9 hn9 _ M9
   simp [kp,s195,hw]
   exact hR _ _ _ (by simp [kp,hk]) (by simp) ⟨_,M9,hJ,by show ms.nx+1≤_;omega,by show (ms.rows++[_]).length≤_;simp;omega,by show (ms.args++[_]).length≤_;simp;omega⟩
 ·rintro st h' m R hk s195 ⟨ms,M,hJ,hb1,hb2,hb3⟩ _ hX
  simp at hk
  rw [List.drop_eq_nil_of_le (by omega)] at hJ
  simp only [List.foldl_nil] at hJ
  subst hJ
  refine J0g [2,4,6,7,9,12,13,15,16] (fun s=>s 196 = .bool false) (by simp [hk,s195]) ?_
  intro st1 hk1 s196
  simp at hk1
  refine J2g s196 ?_
  refine hX _ _ _ _ ?_
  simp
  exact hK _ _ _ (S.of (by simp [hk1,hk])) M
end
def Jc8:DModel:=⟨⟨0,[]⟩,[],[],⟨0,[]⟩⟩
def J59 (o:Option DModel):AV := .tup [.agg (J22 (o.getD Jc8)),.bool o.isSome]
def Jnb:DRule:=⟨[],[],[],[],⟨false,[],[]⟩⟩
def Jrj (p:DProgram) (r:DRule):DFunction:=(J1p p.Functions r.Func).getD fn0
def Jcj (p:DProgram) (k:Int):Option DModel:=
 if J4c p&&inR k 0 ((p.Rules.length:Int) - 1) then some (J68 (p.Rules.getD k.toNat Jnb) (Jrj p (p.Rules.getD k.toNat Jnb))) else Option.none
theorem Jaj {a:DArg}(h:Jac a=true):(∀ x∈a.Heads,x.Terms.length≤4)∧(a.Lst=false→0<a.Heads.length):=by
 unfold Jac at h
 simp only [Bool.and_eq_true,List.all_eq_true] at h
 obtain ⟨h1,h2⟩:=h
 refine ⟨fun x hx => ?_,fun hL => ?_⟩
 ·have:=h1 x hx
  unfold J8o at this
  simp only [Bool.and_eq_true,decide_eq_true_eq] at this
  exact this.1.2
 ·rw [hL] at h2
  simp at h2;omega
theorem Jgi {a:DArg}{b:Bool}{K:List Str}(h:J5t a b K=true):Jac a=true:=by
 unfold J5t at h;simp only [Bool.and_eq_true] at h;exact h.1.1
theorem Jag {p:DProgram}{r:DRule} : ∀ {l:List DCall}{k:Nat},J2y p r k l=true→∀ c∈l,∃ s,Jaz p c s=true
 | [],_,_,_,h=>by cases h
 | c::l,k,h,d,hd=>by
  simp only [J2y,Bool.and_eq_true] at h
  rcases List.mem_cons.1 hd with rfl|hd
  ·exact ⟨_,h.1⟩
  ·exact Jag h.2 d hd
theorem RuleIn.args {p:DProgram}{r:DRule}{f:DFunction}(hp:J4c p=true) (R:RuleIn p r f):∀ c∈r.Calls,c.Args.length≤2∧∀ a∈c.Args,Jac a=true:=by
 intro c hc
 obtain ⟨s,hs⟩:=Jag R.calls c hc
 have h1:=(Jl8 hs).1
 refine ⟨?_,fun a ha => ?_⟩
 ·unfold Jaz at hs
  simp only [Bool.and_eq_true,decide_eq_true_eq] at hs
  obtain ⟨⟨⟨g1,g2⟩,_⟩,_⟩:=hs
  obtain ⟨g,hg⟩:=Option.isSome_iff_exists.1 g1
  rw [hg] at g2
  have:=(Jni hp hg).1
  simp only [Option.getD_some] at g2
  omega
 ·obtain ⟨b,hb⟩:=h1 a ha
  exact Jgi hb
theorem Jf5 {n:Nat} : ∀ {xs:List Str}{a:MS},(xs.foldl (Jaf n) a).nx=a.nx+xs.length∧(xs.foldl (Jaf n) a).rows.length≤a.rows.length+xs.length∧(xs.foldl (Jaf n) a).args=a.args
 | [],a=>by simp
 | x::xs,a=>by
  obtain ⟨h1,h2,h3⟩:=Jf5 (n:=n) (xs:=xs) (a:=Jaf n a x)
  simp only [List.foldl_cons,List.length_cons]
  refine ⟨by rw [h1];show a.nx+1+_=_;omega,?_,by rw [h3];rfl⟩
  have:(Jaf n a x).rows.length≤a.rows.length+1:=by unfold Jaf;simp only [List.length_append];split <;> simp
  omega
theorem Jfh {n:Nat} : ∀ {xs:List DPattern}{a:MS},(xs.foldl (Jbs n) a).nx≤a.nx+xs.length∧(xs.foldl (Jbs n) a).rows.length≤a.rows.length+xs.length∧(xs.foldl (Jbs n) a).args=a.args∧(xs.foldl (Jbs n) a).pars=a.pars
 | [],a=>by simp
 | x::xs,a=>by
  obtain ⟨h1,h2,h3,h4⟩:=Jfh (n:=n) (xs:=xs) (a:=Jbs n a x)
  simp only [List.foldl_cons,List.length_cons]
  have g1:(Jbs n a x).rows.length≤a.rows.length+1:=by unfold Jbs;split <;> simp
  have g2:(Jbs n a x).nx≤a.nx+1:=by unfold Jbs;split <;> simp
  have g3:(Jbs n a x).args=a.args:=by unfold Jbs;split <;> rfl
  have g4:(Jbs n a x).pars=a.pars:=by unfold Jbs;split <;> rfl
  exact ⟨by omega,by omega,by rw [h3,g3],by rw [h4,g4]⟩
theorem Jng (p:DProgram) (hp:J0r p≤1048576) (k:Int):Holds Tryz.prog 126 [.agg (J03 p),i64 k] (fun r=>r=J59 (Jcj p k)):=by
 refine J02 Tryz.func126 a126_ok rfl (by simp [a126]) ?_
 simp [a126,mo0,mo1,J03]
 first|refine J00 (J36 p hp) (by first|simp [J03];done|rfl) ?_|refine J01 (J36 p hp) (by first|simp [J03];done|rfl) ?_
 rintro r rfl
 unfold Jcj
 cases h1:J4c p
 ·simp [J59,Jc8,J22,J0e]
 simp
 intro hrl
 have hw:IntKind.i64.wrap ((p.Rules.length:Int) - 1)=(p.Rules.length:Int) - 1:=J19 (by unfold LIM at hrl;omega)
 rw [hw]
 first|refine J00 (J1v k 0 ((p.Rules.length:Int) - 1)) (by first|simp;done|rfl) ?_|refine J01 (J1v k 0 ((p.Rules.length:Int) - 1)) (by first|simp;done|rfl) ?_
 rintro r rfl
 cases h2:inR k 0 ((p.Rules.length:Int) - 1)
 ·simp [J59,Jc8,J22,J0e]
 have hk0:0≤k∧k≤(p.Rules.length:Int) - 1:=by simpa [inR] using h2
 obtain ⟨j,rfl⟩:∃ j:Nat,k=j:=⟨k.toNat,by omega⟩
 have hj:j<p.Rules.length:=by omega
 have hgd:p.Rules.getD ((j:Int).toNat) Jnb=p.Rules[j]:=by simp [hj]
 obtain ⟨f,hf,R⟩:=Jjk h1 (List.getElem_mem hj)
 have hfa:Jrj p p.Rules[j]=f:=by unfold Jrj;rw [hf];rfl
 have hwr:IntKind.i64.wrap ((f.Params.length:Int)+((p.Rules[j]).Calls.length:Int))=(f.Params.length:Int)+((p.Rules[j]).Calls.length:Int):=by
  have:=R.par;have:=R.ncalls;exact J19 (by omega)
 simp [mo2,mo3,mo4,hj]
 first|refine J00 (J23 p (p.Rules[j]).Func hp) (by first|simp [J03];done|rfl) ?_|refine J01 (J23 p (p.Rules[j]).Func hp) (by first|simp [J03];done|rfl) ?_
 rintro r rfl
 rw [hfa,hf]
 have hmeq:=Jqg hf R
 generalize p.Rules[j]=r at *
 simp [J8q,J0j,J0c,hwr]
 intro _ _
 have hpar:=R.par
 have hnpre:=R.npre
 have hnp:=R.npats
 have hnc:=R.ncalls
 have h6:=R.size
 have hrargs:=R.args h1
 have hrres:=Jaj (Jgi R.res)
 refine Jvf (r:=r) (c:=f.Params.length+r.Calls.length) (by simp) (by simp) (by simp [J0c]) (by simp) (by omega) (by omega) (by omega) ?_
 intro s1 h1 n1 hk1 hn1 hfr1 e6
 have hpre:∀ l∈f.Pre,J56 l (st1 r f).pars (J14 r f)=some (J3u (J14 r f) l):=by
  intro l hl
  have hd:=R.nd
  rw [List.append_assoc,List.nodup_append] at hd
  obtain ⟨_,_,_,e4,_⟩:=Jgx (n:=J14 r f) (xs:=f.Params) (a:=⟨[],0,[],[],[]⟩) (b:=⟨[],0,Jd6 f (J14 r f),[],[]⟩) rfl rfl rfl rfl hd.1 (by simp [J1a])
  unfold st1
  rw [e4]
  simp only [List.nil_append]
  rw [Jp4 R.par]
  exact Jik R.par (by unfold J14;omega) (by omega) (R.pre l hl)
 have hmI:Jkp p r f=some (Jxn (J14 r f) (st5 p r f (f.Pre.map (J3u (J14 r f)))) (Jfx (st5 p r f (f.Pre.map (J3u (J14 r f)))).E (J14 r f) r.Result)):=by
  unfold Jkp;rw [Jjx hpre]
 rw [hmeq] at hmI
 have hmS:=Option.some.inj hmI
 rw [show f.Params.length+r.Calls.length+J34 r.Patterns=J14 r f from rfl] at e6
 have hsc:∀ l∈f.Pre,(J3u (J14 r f) l).Coeffs.length≤1048576:=by
  intro l hl
  have:=(J1t (R.pre l hl)).1
  simp [J3u];omega
 have st1d:st1 r f=f.Params.foldl (Jaf (J14 r f)) ⟨[],0,[],[],[]⟩:=rfl
 have st3d:∀ pre,st3 r f pre=r.Patterns.foldl (Jbs (J14 r f)) (J0u (st1 r f) pre):=fun _=>rfl
 have st5d:∀ pre,st5 p r f pre=r.Calls.foldl (Jer p (J14 r f)) (J0u (st3 r f pre) (r.Guards.map (Jfv (st3 r f pre).E (J14 r f)))):=fun _=>rfl
 have b1:(st1 r f).nx≤2∧(st1 r f).rows.length≤2∧(st1 r f).args=[]:=by
  obtain ⟨g1,g2,g3⟩:=Jf5 (n:=J14 r f) (xs:=f.Params) (a:=⟨[],0,[],[],[]⟩)
  rw [←st1d] at g1 g2 g3
  refine ⟨by rw [g1];simpa using hpar,?_,g3⟩
  simp at g2;omega
 generalize hN:J14 r f=N at *
 generalize hpreL:f.Pre.map (J3u N)=preR at *
 have b2:(st3 r f preR).nx≤4∧(st3 r f preR).rows.length≤6∧(st3 r f preR).args=[]:=by
  obtain ⟨g1,g2,g3,_⟩:=Jfh (n:=N) (xs:=r.Patterns) (a:=J0u (st1 r f) preR)
  rw [←st3d] at g1 g2 g3
  have hpl:preR.length≤2:=by rw [←hpreL];simpa using hnpre
  have e1:(J0u (st1 r f) preR).nx=(st1 r f).nx:=rfl
  have e2:(J0u (st1 r f) preR).rows.length=(st1 r f).rows.length+preR.length:=by simp [J0u]
  have e3:(J0u (st1 r f) preR).args=(st1 r f).args:=rfl
  refine ⟨by omega,by omega,by rw [g3,e3];exact b1.2.2⟩
 simp at hk1
 have f0:=hfr1 0 (by omega) (by omega)
 have f1:=hfr1 1 (by omega) (by omega)
 have f2:=hfr1 2 (by omega) (by omega)
 have f3:=hfr1 3 (by omega) (by omega)
 have f4:=hfr1 4 (by omega) (by omega)
 have f5:=hfr1 5 (by omega) (by omega)
 simp at f0 f1 f2 f3 f4 f5
 have ne:¬0=n1∧¬1=n1∧¬2=n1∧¬3=n1∧¬4=n1∧¬5=n1∧¬6=n1∧¬n1=0∧¬n1=1∧¬n1=2∧¬n1=3∧¬n1=4∧¬n1=5∧¬n1=6∧¬n1=n1+1∧¬n1+1=n1∧¬n1=n1+1+1∧¬n1+1+1=n1∧¬n1=n1+1+1+1∧¬n1+1+1+1=n1∧¬n1+1=n1+1+1∧¬n1+1=n1+1+1+1∧¬n1+1+1=n1+1+1+1:=by omega
 refine J53 ?_
 simp [mo6,mo7,mo8,mo9,K9z,hk1,e6,ne]
 refine Jqz (I:=⟨n1,n1+1,n1+1+1,n1+1+1+1⟩) (p:=p) (r:=r) (f:=f) (N:=N) (by simp [J6o,hk1]) ?_ hpar (by omega) ?_
 ·refine ⟨by simp [f0,ne,J03],by simp [f1,ne],by simp [f2,ne,J0c],by simp [f3,ne],by simp [f4,ne],by simp [f5,ne],by simp [e6,ne],by simp only;omega,by simp [ne],by simp [ne],⟨[],rfl,by simp [ne],by simp⟩,.nil 2,.nil 2,.nil 1,by simp [ne,J52],.inl (by simp),.inl (by simp),.inl (by simp),by simp,by simp⟩
 intro s2 h2 n2 S2 M2
 rw [←st1d] at M2
 refine J53 (J09 (Jqb S2 M2 hnpre (by omega) hpre hsc ?_))
 intro s3 h3 n3 S3 M3
 rw [hpreL] at M3
 have hw1:(J0u (st1 r f) preR).rows.length≤100:=by
  have hpl:preR.length≤2:=by rw [←hpreL];simpa using hnpre
  simp [J0u];omega
 refine J53 (J09 (Jpv S3 M3 (by omega) (by show (st1 r f).nx≤_;omega) hw1 (by omega) ?_))
 intro s4 h4 n4 S4 M4
 rw [←st3d] at M4
 refine J53 (J09 (Jru S4 M4 R.nguards (by omega) (fun g hg => ?_) ?_))
 ·have:=R.guards g hg
  unfold J3p J8o at this
  simp only [Bool.and_eq_true,decide_eq_true_eq] at this
  omega
 intro s5 h5 n5 S5 M5
 have hw2:(J0u (st3 r f preR) (r.Guards.map (Jfv (st3 r f preR).E N))).rows.length≤10000:=by
  have:=R.nguards
  simp [J0u];omega
 refine J53 (J09 (Jq0 S5 M5 hp (by omega) (by show (st3 r f preR).nx≤_;omega) hw2 (by show (st3 r f preR).args.length≤_;rw [b2.2.2];simp) (by omega) (fun c hc => ?_) ?_))
 ·obtain ⟨g1,g2⟩:=hrargs c hc
  refine ⟨by omega,fun a ha x hx => ?_,fun a ha=>(Jaj (g2 a ha)).2⟩
  have:=(Jaj (g2 a ha)).1 x hx
  omega
 intro s6 h6' n6 S6 M6
 rw [←st5d] at M6
 generalize st5 p r f preR=ms at *
 obtain ⟨l1,l2,l3,l4,l5⟩:=M6.lt
 generalize (⟨n1,n1+1,n1+1+1,n1+1+1+1⟩:Ids)=I at *
 obtain ⟨s2,s4,s6,s7,s9,s12,s13,s15,s16⟩:=S6
 refine J53 ?_
 simp [K8o,s13,s6,s9,M6.hmp,M6.hr,M6.hn,J0c]
 refine Jc6 (a:=r.Result) (E:=ms.E) (fun x hx=>by have:=hrres.1 x hx;omega) hrres.2 M6.map (by omega) ?_
 intro q h7 n7 hq hqn hfr7 hqb
 have M7:=M6.frame (h':=h7) (n':=n7) (by omega) hfr7
 generalize hres:Jfx ms.E N r.Result=res at *
 obtain ⟨vR,vP,vA,g1,g2,g3,g4,g6,g5⟩:=M6.acc
 rw [←hfr7 I.m (by omega)] at g1
 have hqm:¬q=I.m:=by omega
 have cR:=g2.cell
 have cP:=g3.cell
 have cA:=g4.cell
 have n1m:¬1=I.m:=by omega
 simp [Jij,s12,g1,J52,K9i,s4,M7.hz,n1m,-dt,-dtl,-J0n,Jbv,Jf9,cR,cP,cA]
 generalize hH:upd (upd h7 I.m _) 1 _=H
 have fH:∀ id,I.x<id→id<n7→H id=h7 id:=by
  intro id hid _
  have:¬id=1∧¬id=I.m:=by omega
  rw [←hH];simp [this]
 have k2:J3v I.x 2 (ms.rows.map J07) vR H n6:=g2.keep (Nat.le_refl _) fun id hb hid _=>by rw [fH id hb (by omega),hfr7 id hid]
 have k3:J3v I.x 2 (ms.pars.map J07) vP H n6:=g3.keep (Nat.le_refl _) fun id hb hid _=>by rw [fH id hb (by omega),hfr7 id hid]
 have k4:J3v I.x 1 (ms.args.map J26) vA H n6:=g4.keep (Nat.le_refl _) fun id hb hid _=>by rw [fH id hb (by omega),hfr7 id hid]
 have kq:H q=some ⟨false,1,J0e res.Coeffs⟩:=by rw [fH q (by omega) hqn,hqb]
 obtain ⟨H1,d1,e1⟩:=k2.dt
 have k3':J3v I.x 2 (ms.pars.map J07) vP H1 n6:=k3.keep (Nat.le_refl _) fun id hb hid e=>e1 id fun l el=>g5 id _ id _ el e rfl
 obtain ⟨H2,d2,e2⟩:=k3'.dt
 have k4':J3v I.x 1 (ms.args.map J26) vA H2 n6:=k4.keep (Nat.le_refl _) fun id hb hid e=>by
  rw [e2 id fun l el=>k3.ne_sz k4 (by omega) el e,e1 id fun l el=>k2.ne_sz k4 (by omega) el e]
 obtain ⟨H3,d3,e3⟩:=k4'.dt
 have kq3:H3 q=some ⟨false,1,J0e res.Coeffs⟩:=by
  rw [e3 q fun l el=>k4.ne_ge hq el,e2 q fun l el=>k3.ne_ge hq el,e1 q fun l el=>k2.ne_ge hq el,kq]
 simp [d1,d2,d3,kq3,J59,J22,hmS,Jxn,hres]
def a134:AFn:= ⟨69,[.t 2],(.seq (.reg [Zo 2 (.mv (.k (.bool false)))]) (.seq (.reg [Zo 7 (.bsl 1 []),Zv 3 7]) (.seq (.seq (.reg [Zo 4 (.mv (.k (.int .i64 0)))]) (.blk 0 (.loop (.seq (.seq (.reg [Zv 8 4,Zv 9 0,Zo 10 (.len false (.t 9)),Zo 11 (.bin .lss (.t 8) (.t 10))]) (.cond (.t 11) .skip (.exit 0))) (.seq (.blk 1 (.seq (.reg [Zv 14 0,Zv 15 4,Zo 16 (.ixa 4 (.t 14) (.t 15)),Zl 17 true 4 16,Zo 5 (.box [(.str []),(.nil 1),(.bool false),(.nil 2)]),⟨no,.st 4 (.t 5) (.t 17),no⟩]) (.seq (.seq (.reg [Zf 18 0 5,Zl 19 false 1 18,Zc 20 216 [.t 19],Zo 21 (.un .not (.t 20)),Zv 22 21,⟨some 23,.fld 1 (.t 5),(some (22,false))⟩,⟨some 24,.ld false 1 (.t 23),(some (22,false))⟩,⟨some 25,.len false (.t 24),(some (22,false))⟩,⟨some 26,.bin .gtr (.t 25) (.k (.int .i64 2)),(some (22,false))⟩,Zo 27 (.pick (.t 22) (.k (.bool true)) (.t 26)),Zv 28 27,⟨some 29,.fld 1 (.t 5),(some (28,false))⟩,⟨some 30,.ld false 1 (.t 29),(some (28,false))⟩,⟨some 31,.call (.k (.fn (.func 217) [] [])) [.t 30],(some (28,false))⟩,⟨some 32,.un .not (.t 31),(some (28,false))⟩,Zo 33 (.pick (.t 28) (.k (.bool true)) (.t 32)),Zv 34 33,⟨some 35,.fld 3 (.t 5),(some (34,false))⟩,⟨some 36,.ld false 1 (.t 35),(some (34,false))⟩,⟨some 37,.len false (.t 36),(some (34,false))⟩,⟨some 38,.bin .gtr (.t 37) (.k (.int .i64 2)),(some (34,false))⟩,Zo 39 (.pick (.t 34) (.k (.bool true)) (.t 38))]) (.cond (.t 39) (.seq (.reg [Zo 2 (.mv (.k (.bool false)))]) .ret) .skip)) (.seq (.seq (.reg [Zo 6 (.mv (.k (.int .i64 0)))]) (.blk 2 (.loop (.seq (.seq (.reg [Zv 40 6,Zf 41 3 5,Zl 42 false 1 41,Zo 43 (.len false (.t 42)),Zo 44 (.bin .lss (.t 40) (.t 43))]) (.cond (.t 44) .skip (.exit 2))) (.seq (.blk 3 (.seq (.draw (.op (Zf 47 3 5) (.op (Zl 48 false 1 47) (.op (Zv 49 6) (.op (Zo 50 (.ixa 2 (.t 48) (.t 49))) (.op (Zl 51 true 2 50) (.op (Zf 52 1 5) (.op (Zl 53 false 1 52) (.op (Zo 54 (.len false (.t 53))) (.op (Zc 55 179 [.t 51,.t 54]) (.op (Zo 56 (.un .not (.t 55))) .fin))))))))))) (.cond (.t 56) (.seq (.reg [Zo 2 (.mv (.k (.bool false)))]) .ret) .skip))) (.reg [Zv 45 6,Zo 46 (.bin .add (.t 45) (.k (.int .i64 1))),Zv 6 46])))))) (.reg [Zv 57 3,Zf 58 0 5,Zl 59 false 1 58,Zo 60 (.bsl 1 [.t 59]),Zo 61 (.app 16 1 (.t 57) (.t 60)),Zv 3 61]))))) (.reg [Zv 12 4,Zo 13 (.bin .add (.t 12) (.k (.int .i64 1))),Zv 4 13])))))) (.seq (.reg [Zv 62 0,Zo 63 (.len false (.t 62)),Zc 64 183 [.t 63,(.k (.int .i64 1)),(.k (.int .i64 3))],Zv 65 64,⟨some 66,.mv (.t 3),(some (65,true))⟩,⟨some 67,.call (.k (.fn (.func 218) [] [])) [.t 66],(some (65,true))⟩,Zo 68 (.pick (.t 65) (.t 67) (.k (.bool false))),Zv 2 68]) .ret))))⟩
theorem a134_ok:J0a Tryz.prog Tryz.f134=some a134:=by kernel_rfl
def a61:AFn:= ⟨29,[.t 2],(.seq (.reg [Zo 1 (.boxv (.t 0)),Zo 2 (.mv (.k (.bool false)))]) (.seq (.seq (.reg [Zf 4 0 1,Zl 5 false 1 4,Zc 6 134 [.t 5],Zo 7 (.un .not (.t 6)),Zv 8 7,⟨some 9,.fld 1 (.t 1),(some (8,false))⟩,⟨some 10,.ld false 1 (.t 9),(some (8,false))⟩,⟨some 11,.len false (.t 10),(some (8,false))⟩,⟨some 12,.bin .gtr (.t 11) (.k (.int .i64 8)),(some (8,false))⟩,Zo 13 (.pick (.t 8) (.k (.bool true)) (.t 12))]) (.cond (.t 13) (.seq (.reg [Zo 2 (.mv (.k (.bool false)))]) .ret) .skip)) (.seq (.seq (.reg [Zo 3 (.mv (.k (.int .i64 0)))]) (.blk 0 (.loop (.seq (.seq (.reg [Zv 14 3,Zf 15 1 1,Zl 16 false 1 15,Zo 17 (.len false (.t 16)),Zo 18 (.bin .lss (.t 14) (.t 17))]) (.cond (.t 18) .skip (.exit 0))) (.seq (.blk 1 (.seq (.draw (.op (Zl 21 true 2 1) (.op (Zf 22 1 1) (.op (Zl 23 false 1 22) (.op (Zv 24 3) (.op (Zo 25 (.ixa 7 (.t 23) (.t 24))) (.op (Zl 26 true 7 25) (.op (Zc 27 135 [.t 21,.t 26]) (.op (Zo 28 (.un .not (.t 27))) .fin))))))))) (.cond (.t 28) (.seq (.reg [Zo 2 (.mv (.k (.bool false)))]) .ret) .skip))) (.reg [Zv 19 3,Zo 20 (.bin .add (.t 19) (.k (.int .i64 1))),Zv 3 20])))))) (.seq (.reg [Zo 2 (.mv (.k (.bool true)))]) .ret))))⟩
theorem a61_ok:J0a Tryz.prog Tryz.f61=some a61:=by kernel_rfl
theorem Jh2 {α:Type}{p:α→Bool}{l:List α}{i:Nat}(hi:i<l.length):(l.drop i).all p=(p l[i]&&(l.drop (i+1)).all p):=by rw [List.drop_eq_getElem_cons hi,List.all_cons]
theorem Jl7 {l:List DFunction}{i:Nat}(hi:i≤l.length):(Jgo l i).length=i:=by simp [Jgo];omega
theorem J8v (fs:List DFunction) (hlf:fs.length≤1048576) (hpre:∀ f∈fs,f.Pre.length≤1048576):Holds Tryz.prog 134 [.sl 4 (fs.map J05)] (fun x=>x = .bool (fs.all Jjj&&inR fs.length 1 3&&J7x (fs.map (·.Name)))):=by
 refine J02 Tryz.func134 a134_ok rfl (by simp [a134]) ?_
 simp [a134]
 generalize hB:fs.all Jjj=B
 refine J0k [0] 4 fs.length (fun i s h n=>(fs.drop i).all Jjj=B∧∃ id,id<n∧s 3 = .ref id 0 i∧h id=some ⟨false,1,J0d (Jgo fs i)⟩) (by unfold LIM;omega) (by simp) ⟨by simpa using hB,0,by simp,by simp,by simp [J0d,Jgo]⟩ ?_ ?_
 ·rintro i st h n R hi hg hk s4 hw ⟨hJ,id,hid,s3,eid⟩ hR hret _
  simp at hk
  rw [Jh2 hi] at hJ
  have z0:¬id=n:=by omega
  have z1:¬n=id:=by omega
  refine J09 (J0g [0,3,4] (fun s=>s 11 = .bool true) (by simp [hk,s4,hi]) ?_)
  intro st1 hk1 s11
  simp at hk1
  refine J1u s11 (J09 (J0t ?_))
  refine J17 [0,3,4] (fun s h' n'=>s 5 = .ptr n 0 0∧n'=n+1∧h' n=some ⟨true,4,[J05 fs[i]]⟩∧h' id=some ⟨false,1,J0d (Jgo fs i)⟩) (by simp [hk,hk1,s4,hi,J05,eid,z0,z1]) ?_
  rintro st2 h2' n2 hk2 ⟨s5,rfl,en,eid'⟩
  simp at hk2
  have hfp:=hpre _ (List.getElem_mem hi)
  generalize hf:fs[i]=f at *
  refine J09 (J0g [0,3,4,5] (fun s=>s 39 = .bool (!J28 f.Name || !decide (f.Params.length≤2) || !(f.Params.all J37&&J7x f.Params) || !decide (f.Pre.length≤2))) ?_ ?_)
  ·have hdp:decide (f.Params.length≤2)=decide ((f.Params.length:Int)≤2):=by rw [decide_eq_decide];omega
   have hdq:decide (f.Pre.length≤2)=decide ((f.Pre.length:Int)≤2):=by rw [decide_eq_decide];omega
   obtain ⟨E,hE⟩:∃ E,E=(f.Params.all J37&&J7x f.Params):=⟨_,rfl⟩
   rw [hdp,hdq,←hE]
   simp [hk,hk1,hk2,s5,en,J05]
   first|refine J00 (J4g f.Name) (by first|simp;done|rfl) ?_|refine J01 (J4g f.Name) (by first|simp;done|rfl) ?_
   rintro r rfl
   cases g1:J28 f.Name
   ·simp
   simp [hk,hk1,hk2,s5,en,J05]
   intro _
   by_cases g3:(f.Params.length:Int)≤2
   case neg=>simp [g3,Int.not_le.1 g3]
   simp [g3,Int.not_lt.2 g3,hk,hk1,hk2,s5,en,J05]
   first|refine J00 (Jfs f.Params) (by first|simp;done|rfl) ?_|refine J01 (Jfs f.Params) (by first|simp;done|rfl) ?_
   rintro r rfl
   rw [←hE]
   clear hE
   cases E
   ·simp
   simp [hk,hk1,hk2,s5,en,J05]
   intro _
   by_cases g5:(f.Pre.length:Int)≤2
   ·simp [g5,Int.not_lt.2 g5]
   ·simp [g5,Int.not_le.1 g5]
  intro st3 hk3 s39
  simp at hk3
  generalize hcc:(!J28 f.Name || !decide (f.Params.length≤2) || !(f.Params.all J37&&J7x f.Params) || !decide (f.Pre.length≤2))=cc at *
  have hbody:Jjj f=(!cc&&f.Pre.all fun l=>J1c l f.Params.length):=by
   rw [←hcc]
   unfold Jjj
   cases J28 f.Name <;> cases decide (f.Params.length≤2) <;> cases f.Params.all J37 <;> cases J7x f.Params <;> cases decide (f.Pre.length≤2) <;> simp
  rw [hbody] at hJ
  clear hbody hcc
  cases cc
  case true=>
   simp at hJ
   simp [s39]
   refine hret _ _ _ ?_
   simp [hJ]
  refine Jgt s39 ?_
  simp only [J2i]
  simp only [Bool.not_false,Bool.true_and] at hJ
  simp [hk,hk1,hk2,hk3]
  generalize hB2:(f.Pre.all fun l=>J1c l f.Params.length)=B2 at *
  refine J0k [0,3,4,5] 6 f.Pre.length (fun j s h' n'=>n<n'∧h' n=some ⟨true,4,[J05 f]⟩∧h' id=some ⟨false,1,J0d (Jgo fs i)⟩∧((f.Pre.drop j).all fun l=>J1c l f.Params.length)=B2) (by unfold LIM;omega) (by simp) ⟨by omega,by simpa using en,by simpa using eid',by simpa using hB2⟩ ?_ ?_
  ·rintro j stj hj nj Rj hji hjg hkj s6 hwj ⟨hnj,enj,eidj,hJj⟩ hRj hretj _
   simp at hkj
   rw [Jh2 hji] at hJj
   refine J09 (J0g [0,3,4,5,6] (fun s=>s 44 = .bool true) (by simp [hkj,hk3,s5,s6,hji,enj,J05]) ?_)
   intro stk hkk s44
   simp at hkk
   refine J1u s44 (J09 (J0t ?_))
   refine J0g [0,3,4,5,6] (fun s=>s 56 = .bool (!J1c f.Pre[j] f.Params.length)) ?_ ?_
   ·simp [hkj,hkk,hk3,s5,s6,hji,hjg,enj,J05]
    first|refine J00 (J0p (f.Pre[j]'hji) f.Params.length) (by first|simp;done|rfl) ?_|refine J01 (J0p (f.Pre[j]'hji) f.Params.length) (by first|simp;done|rfl) ?_
    rintro r rfl
    simp
   intro stm hkm s56
   simp at hkm
   generalize J1c f.Pre[j] f.Params.length=D at *
   cases D
   ·rw [Bool.false_and] at hJj
    subst hJj
    simp at hJ
    subst hJ
    simp [s56]
    refine hretj _ _ _ ?_
    simp
    refine hret _ _ _ ?_
    simp
   ·rw [Bool.true_and] at hJj
    simp [hkj,hkk,hkm,s56,s6,hwj]
    exact hRj _ _ _ (by simp [hkj,hkk,hkm]) (by simp) ⟨hnj,enj,eidj,hJj⟩
  rintro stj hj nj Rj hkj s6 ⟨hnj,enj,eidj,hJj⟩ hretj hXj
  simp at hkj
  rw [List.drop_eq_nil_of_le (by omega)] at hJj
  simp at hJj
  subst hJj
  rw [Bool.true_and] at hJ
  refine J09 (J0g [0,3,4,5] (fun s=>s 44 = .bool false) (by simp [hkj,hk3,s5,s6,enj,J05]) ?_)
  intro stk hkk s44
  simp at hkk
  refine J1s s44 ?_
  simp
  refine hXj _ _ _ _ ?_
  have y0:¬id=nj:=by omega
  have y1:¬nj=id:=by omega
  have y2:¬id=nj+1:=by omega
  have y3:¬nj+1=id:=by omega
  have y4:¬n=nj:=by omega
  have y5:¬nj=n:=by omega
  have hl:=Jl7 (l:=fs) (i:=i) (by omega)
  simp [hk,hk1,hk2,hk3,hkj,hkk,s3,s4,s5,enj,eidj,J05,y0,y1,y2,y3,y4,y5,hl,hw]
  refine ⟨by unfold LIM;omega,?_⟩
  have hs:=Jio hi
  rw [hf] at hs
  exact hR _ _ _ (by simp [hk,hk1,hk2,hk3,hkj,hkk]) (by simp) ⟨hJ,nj+1,by omega,by simp,by simp [hs,J0d,List.take_of_length_le,hl]⟩
 rintro st h n R hk s4 ⟨hJ,id,hid,s3,eid⟩ hret hX
 simp at hk
 rw [List.drop_eq_nil_of_le (by omega)] at hJ
 simp at hJ
 subst hJ
 refine J09 (J0g [0,3,4] (fun s=>s 11 = .bool false) (by simp [hk,s4]) ?_)
 intro st1 hk1 s11
 simp at hk1
 refine J1s s11 ?_
 refine hX _ _ _ _ ?_
 have hnam:Jgo fs fs.length=fs.map (·.Name):=by simp [Jgo]
 have hnl:=Jl7 (l:=fs) (i:=fs.length) (by omega)
 rw [hnam] at eid hnl
 simp [hk,hk1]
 intro _
 first|refine J00 (J43 fs.length 1 3) (by first|simp;done|rfl) ?_|refine J01 (J43 fs.length 1 3) (by first|simp;done|rfl) ?_
 rintro r rfl
 cases h1:inR fs.length 1 3
 ·simp
 simp [hk1,s3]
 have ht:List.take fs.length (J0d (fs.map (·.Name)))=J0d (fs.map (·.Name)):=List.take_of_length_le (by simp)
 first|refine J00 (J3y (fs.map (·.Name))) (by first|simp [eid,ht];done|rfl) ?_|refine J01 (J3y (fs.map (·.Name))) (by first|simp [eid,ht];done|rfl) ?_
 rintro r rfl
 simp
theorem J2u (p:DProgram) (hp:J0r p≤1048576):Holds Tryz.prog 61 [.agg (J03 p)] (fun x=>x = .bool (J4c p)):=by
 have hlf:p.Functions.length≤1048576:=by have:=J2b J12 p.Functions;unfold J0r J29 at hp;omega
 have hpre:∀ f∈p.Functions,f.Pre.length≤1048576:=fun f hf=>by
  have h1:=J3o (w:=J12) hf
  have h2:=J2b J9z f.Pre
  unfold J0r J29 at hp
  rw [show J12 f=f.Name.length+J44 f.Params+J5x f.Pre from rfl] at h1
  unfold J5x at h1
  omega
 have hlr:p.Rules.length≤1048576:=by have:=J2b J4l p.Rules;unfold J0r J8w at hp;omega
 refine J02 Tryz.func61 a61_ok rfl (by simp [a61]) ?_
 simp [a61,J03]
 first|refine J00 (J8v p.Functions hlf hpre) (by first|simp;done|rfl) ?_|refine J01 (J8v p.Functions hlf hpre) (by first|simp;done|rfl) ?_
 rintro r rfl
 have hord:J4c p=(p.Functions.all Jjj&&inR p.Functions.length 1 3&&J7x (p.Functions.map (·.Name))&&decide (p.Rules.length≤8)&&p.Rules.all (J7v p)):=by
  unfold J4c
  rw [Jbt]
  unfold J7x
  cases inR p.Functions.length 1 3 <;> cases p.Functions.all Jjj <;> simp
 rw [hord]
 generalize (p.Functions.all Jjj&&inR p.Functions.length 1 3&&J7x (p.Functions.map (·.Name)))=E
 cases E
 ·simp
 simp
 intro _
 have hdg:decide (p.Rules.length≤8)=decide ((p.Rules.length:Int)≤8):=by rw [decide_eq_decide];omega
 by_cases h2:(p.Rules.length:Int)≤8
 case neg=>
  have h2n:¬p.Rules.length≤8:=by omega
  simp [h2,h2n,Int.not_le.1 h2]
 have h2n:p.Rules.length≤8:=by omega
 simp [h2,h2n,Int.not_lt.2 h2]
 generalize hB:p.Rules.all (J7v p)=B
 refine J0k [1] 3 p.Rules.length (fun i s h n=>0<n∧h 0=some ⟨true,2,[J03 p]⟩∧(p.Rules.drop i).all (J7v p)=B) (by unfold LIM;omega) (by simp) ⟨by simp,by simp [J03],by simpa using hB⟩ ?_ ?_
 ·rintro i st h n R hi hg hk s3 hw ⟨hn,e0,hJ⟩ hR hret _
  simp at hk
  rw [Jh2 hi] at hJ
  refine J09 (J0g [1,3] (fun s=>s 18 = .bool true) (by simp [hk,s3,hi,e0,J03]) ?_)
  intro st1 hk1 s18
  simp at hk1
  refine J1u s18 (J09 (J0t ?_))
  refine J0g [1,3] (fun s=>s 28 = .bool (!J7v p p.Rules[i])) ?_ ?_
  ·simp [hk,hk1,s3,hi,hg,e0,J03]
   first|refine J00 (J5o p (p.Rules[i]'hi) hp (J9j hp _ (List.getElem_mem hi))) (by simp [J03]) ?_|refine J01 (J5o p (p.Rules[i]'hi) hp (J9j hp _ (List.getElem_mem hi))) (by simp [J03]) ?_|refine J00 (J5o p (p.Rules[i]'hi) hp (J9j hp _ (List.getElem_mem hi))) rfl ?_|refine J01 (J5o p (p.Rules[i]'hi) hp (J9j hp _ (List.getElem_mem hi))) rfl ?_
   rintro r rfl
   simp
  intro st2 hk2 s28
  simp at hk2
  generalize J7v p p.Rules[i]=D at *
  cases D
  ·rw [Bool.false_and] at hJ
   subst hJ
   simp [s28]
   refine hret _ _ _ ?_
   simp
  ·rw [Bool.true_and] at hJ
   simp [hk,hk1,hk2,s28,s3,hw]
   exact hR _ _ _ (by simp [hk,hk1,hk2]) (by simp) ⟨hn,e0,hJ⟩
 rintro st h n R hk s3 ⟨hn,e0,hJ⟩ hret hX
 simp at hk
 rw [List.drop_eq_nil_of_le (by omega)] at hJ
 simp at hJ
 subst hJ
 refine J09 (J0g [1] (fun s=>s 18 = .bool false) (by simp [hk,s3,e0,J03]) ?_)
 intro st1 hk1 s18
 refine J1s s18 ?_
 refine hX _ _ _ _ ?_
 simp
def a180:AFn:= ⟨46,[.t 4],(.seq (.reg [Zo 2 (.boxv (.t 0)),Zo 4 (.mv (.k (.nil 2)))]) (.seq (.reg [Zo 8 (.bsl 2 []),Zv 5 8]) (.seq (.seq (.reg [Zo 6 (.mv (.k (.int .i64 0)))]) (.blk 0 (.loop (.seq (.seq (.reg [Zv 9 6,Zf 10 1 2,Zl 11 false 1 10,Zo 12 (.len false (.t 11)),Zo 13 (.bin .lss (.t 9) (.t 12))]) (.cond (.t 13) .skip (.exit 0))) (.seq (.blk 1 (.seq (.reg [Zf 16 1 2,Zl 17 false 1 16,Zv 18 6,Zo 19 (.ixa 1 (.t 17) (.t 18)),Zl 20 false 1 19,Zc 21 260 [.t 20]]) (.cond (.t 21) (.reg [Zv 22 5,Zv 23 6,Zv 24 1,Zc 25 261 [.t 23,.t 24],Zo 26 (.bsl 2 [.t 25]),Zo 27 (.app 32 2 (.t 22) (.t 26)),Zv 5 27]) .skip))) (.reg [Zv 14 6,Zo 15 (.bin .add (.t 14) (.k (.int .i64 1))),Zv 6 15])))))) (.seq (.seq (.reg [Zo 7 (.mv (.k (.int .i64 0)))]) (.blk 2 (.loop (.seq (.seq (.reg [Zv 28 7,Zf 29 3 2,Zl 30 false 1 29,Zo 31 (.len false (.t 30)),Zo 32 (.bin .lss (.t 28) (.t 31))]) (.cond (.t 32) .skip (.exit 2))) (.seq (.blk 3 (.reg [Zv 35 5,Zf 36 3 2,Zl 37 false 1 36,Zv 38 7,Zo 39 (.ixa 2 (.t 37) (.t 38)),Zl 40 true 2 39,Zv 41 1,Zc 42 262 [.t 40,.t 41],Zo 43 (.bsl 2 [.t 42]),Zo 44 (.app 32 2 (.t 35) (.t 43)),Zv 5 44])) (.reg [Zv 33 7,Zo 34 (.bin .add (.t 33) (.k (.int .i64 1))),Zv 7 34])))))) (.seq (.reg [Zv 45 5,Zv 4 45]) .ret)))))⟩
theorem a180_ok:J0a Tryz.prog Tryz.f180=some a180:=by kernel_rfl
theorem Jar {n:Nat} : ∀ {xs:List Str}{i:Nat},(Jcy n xs i).length≤xs.length
 | [],_=>Nat.le_refl _
 | x::xs,i=>by
  have:=Jar (n:=n) (xs:=xs) (i:=i+1)
  simp only [Jcy,List.length_append,List.length_cons]
  split <;> simp <;> omega
theorem K0r {f:DFunction}(hw:J12 f≤1048576):f.Params.length≤1048576∧f.Pre.length≤1048576∧∀ l∈f.Pre,l.Coeffs.length≤1048576:=by
 have h3:J12 f=f.Name.length+J44 f.Params+J5x f.Pre:=rfl
 have h4:=J2b List.length f.Params
 have h5:=J2b J9z f.Pre
 unfold J44 J5x at h3
 refine ⟨by omega,by omega,fun l hl => ?_⟩
 have:=J3o (w:=J9z) hl
 rw [show J9z l=l.Coeffs.length from rfl] at this
 omega
theorem fn_w {p:DProgram}{name:Str}{f:DFunction}(hp:J0r p≤1048576) (hf:J1p p.Functions name=some f):J12 f≤1048576:=by
 have h3:=J3o (w:=J12) (List.mem_of_find?_eq_some hf)
 unfold J0r J29 at hp;omega
theorem Jc3 (f:DFunction) (n:Nat) (hw:J12 f≤1048576) (hn:n≤1048576) (hpre:∀ l∈f.Pre,l.Coeffs.length≤n):Holds Tryz.prog 180 [.agg (J05 f),i64 n] (fun r=>r = .us 2 ((Jd6 f n).map J07)):=by
 obtain ⟨hl1,hl2,hl3⟩:=K0r hw
 have hr0:=Jar (n:=n) (xs:=f.Params) (i:=0)
 refine J02 Tryz.func180 a180_ok rfl (by simp [a180]) ?_
 simp [a180,J05]
 generalize hT1:Jcy n f.Params 0=T1
 rw [hT1] at hr0
 have hdom:Jd6 f n=T1++f.Pre.map (J3u n):=by unfold Jd6;rw [hT1]
 refine J0k [1,2] 6 f.Params.length (fun i s h m=>1<m∧h 0=some ⟨true,4,[J05 f]⟩∧∃ (acc:List DLin) (id:Nat),acc++Jcy n (f.Params.drop i) i=T1∧id≠0∧id<m∧s 5 = .ref id 0 acc.length∧h id=some ⟨false,2,acc.map J07⟩) (by unfold LIM;omega) (by simp) ⟨by simp,by simp [J05],[],1,by simpa using hT1,by simp,by simp,by simp,by simp⟩ ?_ ?_
 ·rintro i st h m R hi hg hk s6 hw ⟨hm,e0,acc,id,hJ,hid0,hid,s5,eid⟩ hR _ _
  simp at hk
  rw [List.drop_eq_getElem_cons hi] at hJ
  simp only [Jcy] at hJ
  refine J09 (J0g [1,2,5,6] (fun s=>s 13 = .bool true) (by simp [hk,s6,hi,e0,J05]) ?_)
  intro st1 hk1 s13
  simp at hk1
  refine J1u s13 (J09 (J0t ?_))
  refine J0g [1,2,5,6] (fun s=>s 21 = .bool (J0l f.Params[i])) ?_ ?_
  ·simp [hk1,hk,s6,hi,e0,J05]
   first|refine J00 (J18 (f.Params[i]'hi)) (by first|simp;done|rfl) ?_|refine J01 (J18 (f.Params[i]'hi)) (by first|simp;done|rfl) ?_
   rintro r rfl
   simp
  intro st2 hk2 s21
  simp at hk2
  have z0:¬0=m:=by omega
  have z1:¬m=0:=by omega
  have z2:¬id=m:=by omega
  have z3:¬m=id:=by omega
  have z4:¬0=id:=by omega
  have z5:¬0=m+1:=by omega
  have z6:¬id=m+1:=by omega
  have z7:¬m+1=id:=by omega
  have z8:¬0=m+2:=by omega
  have z9:¬0=m+1+1:=by omega
  cases c1:J0l f.Params[i]
  ·rw [c1] at hJ s21
   simp only [Bool.false_eq_true,if_false,List.nil_append] at hJ
   simp [hk2,hk1,hk,s21,s6,hw]
   exact hR _ _ _ (by simp [hk2,hk1,hk]) (by simp) ⟨hm,e0,acc,id,hJ,hid0,hid,by simp [hk2,hk1,s5],eid⟩
  ·rw [c1] at hJ s21
   simp only [if_true] at hJ
   have hal:=congrArg List.length hJ
   simp only [List.length_append,List.length_cons,List.length_nil] at hal
   simp [hk2,hk1,hk,s21,s6,hw,e0]
   first|refine J00 (J6w i n) (by first|simp;done|rfl) ?_|refine J01 (J6w i n) (by first|simp;done|rfl) ?_
   rintro r rfl
   simp [hk2,hk1,hk,s21,s6,hw,e0,eid,s5,J07,z0,z1,z2,z3,z4,z5,z6,z7,z8,z9]
   refine ⟨by unfold LIM;omega,?_⟩
   exact hR _ _ _ (by simp [hk2,hk1,hk]) (by simp) ⟨by omega,by simp [e0,z0,z4,z5,z8,z9],acc++[J2k i n],m+2,by simpa using hJ,by omega,by omega,by simp,by simp [J07,List.take_of_length_le]⟩
 rintro st h m R hk s6 ⟨hm,e0,acc,id,hJ,hid0,hid,s5,eid⟩ hret hX
 simp at hk
 rw [List.drop_eq_nil_of_le (by omega)] at hJ
 simp only [Jcy,List.append_nil] at hJ
 subst hJ
 refine J09 (J0g [1,2,5] (fun s=>s 13 = .bool false) (by simp [hk,s6,e0,J05]) ?_)
 intro st1 hk1 s13
 simp at hk1
 refine J1s s13 ?_
 refine hX _ _ _ _ ?_
 simp [hk1,s5]
 generalize hT2:acc++f.Pre.map (J3u n)=T2
 refine J0k [1,2] 7 f.Pre.length (fun i s h m=>1<m∧h 0=some ⟨true,4,[J05 f]⟩∧∃ (acc:List DLin) (id:Nat),acc++(f.Pre.drop i).map (J3u n)=T2∧id≠0∧id<m∧s 5 = .ref id 0 acc.length∧h id=some ⟨false,2,acc.map J07⟩) (by unfold LIM;omega) (by simp) ⟨hm,e0,acc,id,by simpa using hT2,hid0,hid,by simp [hk1,s5],eid⟩ ?_ ?_
 ·rintro i tt h m R hi hg hl s7 hw ⟨hm,e0,acc,id,hJ,hid0,hid,s5,eid⟩ hR _ _
  simp [hk1,hk] at hl
  rw [List.drop_eq_getElem_cons hi,List.map_cons] at hJ
  refine J09 (J0g [1,2,5,7] (fun s=>s 32 = .bool true) (by simp [hl,s7,hi,e0,J05]) ?_)
  intro tt1 hl1 s32
  simp at hl1
  refine J1u s32 (J09 (J0t ?_))
  have z0:¬0=m:=by omega
  have z1:¬m=0:=by omega
  have z2:¬id=m:=by omega
  have z3:¬m=id:=by omega
  have z4:¬0=id:=by omega
  have z5:¬0=m+1:=by omega
  have z6:¬id=m+1:=by omega
  have z7:¬m+1=id:=by omega
  have z8:¬0=m+2:=by omega
  have z9:¬0=m+1+1:=by omega
  have hal:=congrArg List.length hJ
  simp only [List.length_append,List.length_cons,List.length_map,List.length_drop] at hal
  have hT2l:T2.length≤3000000:=by rw [←hT2];simp;omega
  simp [hl1,hl,s7,hi,hw,e0,J05]
  first|refine J00 (J86 (f.Pre[i]'hi) n (hpre _ (List.getElem_mem hi)) hn) (by simp) ?_|refine J01 (J86 (f.Pre[i]'hi) n (hpre _ (List.getElem_mem hi)) hn) (by simp) ?_|refine J00 (J86 (f.Pre[i]'hi) n (hpre _ (List.getElem_mem hi)) hn) rfl ?_|refine J01 (J86 (f.Pre[i]'hi) n (hpre _ (List.getElem_mem hi)) hn) rfl ?_
  rintro r rfl
  simp [hl1,hl,s7,hw,e0,eid,s5,J07,z0,z1,z2,z3,z4,z5,z6,z7,z8,z9]
  refine ⟨by unfold LIM;omega,?_⟩
  exact hR _ _ _ (by simp [hl1,hl,hk1,hk]) (by simp) ⟨by omega,by simp [e0,z0,z4,z5,z8,z9],acc++[J3u n f.Pre[i]],m+2,by simpa using hJ,by omega,by omega,by simp,by simp [J07,List.take_of_length_le]⟩
 rintro tt h m R hl s7 ⟨hm,e0,acc,id,hJ,hid0,hid,s5,eid⟩ hret hX
 simp [hk1,hk] at hl
 rw [List.drop_eq_nil_of_le (by omega)] at hJ
 simp only [List.map_nil,List.append_nil] at hJ
 subst hJ
 refine J09 (J0g [1,2,5] (fun s=>s 32 = .bool false) (by simp [hl,s7,e0,J05]) ?_)
 intro tt1 hl1 s32
 simp at hl1
 refine J1s s32 ?_
 refine hX _ _ _ _ ?_
 simp [hl1,s5,eid,hdom,hT2]
def a171:AFn:= ⟨22,[(.c 4 true 6),.t 5],(.seq (.reg [Zo 2 (.boxv (.t 0)),Zo 4 (.box [(.int .i64 0),(.nil 2),(.nil 2),(.nil 1),(.int .i64 0),(.nil 1)]),Zo 5 (.mv (.k (.bool false)))]) (.seq (.seq (.reg [Zl 6 true 2 2,Zc 7 61 [.t 6],Zo 8 (.un .not (.t 7)),Zv 9 8,⟨some 10,.mv (.t 1),(some (9,false))⟩,⟨some 11,.fld 1 (.t 2),(some (9,false))⟩,⟨some 12,.ld false 1 (.t 11),(some (9,false))⟩,⟨some 13,.len false (.t 12),(some (9,false))⟩,⟨some 14,.bin .sub (.t 13) (.k (.int .i64 1)),(some (9,false))⟩,⟨some 15,.call (.k (.fn (.func 183) [] [])) [.t 10,(.k (.int .i64 0)),.t 14],(some (9,false))⟩,⟨some 16,.un .not (.t 15),(some (9,false))⟩,Zo 17 (.pick (.t 9) (.k (.bool true)) (.t 16))]) (.cond (.t 17) (.seq (.reg [Zo 18 (.build [(.int .i64 0),(.nil 2),(.nil 2),(.nil 1),(.int .i64 0),(.nil 1)] []),⟨no,.st 6 (.t 4) (.t 18),no⟩,Zo 5 (.mv (.k (.bool false)))]) .ret) .skip)) (.seq (.reg [Zl 19 true 2 2,Zv 20 1,Zc 21 184 [.t 19,.t 20],⟨no,.st 6 (.t 4) (.t 21),no⟩,Zo 5 (.mv (.k (.bool true)))]) .ret)))⟩
theorem a171_ok:J0a Tryz.prog Tryz.f171=some a171:=by kernel_rfl
theorem Jej {n:Nat} : ∀ {xs:List Str}{a:MS},(xs.foldl (J91 n) a).nx=a.nx+xs.length∧(xs.foldl (J91 n) a).E.length=a.E.length+xs.length∧(xs.foldl (J91 n) a).args=a.args∧(xs.foldl (J91 n) a).rows=a.rows∧J1a (xs.foldl (J91 n) a).E=J1a a.E++xs
 | [],a=>by simp
 | x::xs,a=>by
  obtain ⟨h1,h2,h3,h4,h5⟩:=Jej (n:=n) (xs:=xs) (a:=J91 n a x)
  simp only [List.foldl_cons,List.length_cons]
  refine ⟨by rw [h1];show a.nx+1+_=_;omega,by rw [h2];simp [J91];omega,by rw [h3];rfl,by rw [h4];rfl,by rw [h5];simp [J91,J1a]⟩
theorem Jlh {n:Nat}(hn:n≤8):∀ {xs:List Str}{a:MS},(∀ e∈a.E,e.2.Coeffs.length≤8)→∀ e∈(xs.foldl (J91 n) a).E,e.2.Coeffs.length≤8
 | [],_,h=>h
 | x::xs,a,h=>by
  simp only [List.foldl_cons]
  refine Jlh hn ?_
  intro e he
  rcases List.mem_append.1 he with he|he
  ·exact h e he
  ·simp at he;subst he;exact J66 n hn
theorem Jau {n:Nat} : ∀ {xs:List DPattern}{a:MS},(xs.foldl (J5a n) a).rows.length=a.rows.length+xs.length∧(xs.foldl (J5a n) a).E.length≤a.E.length+2*xs.length∧(xs.foldl (J5a n) a).args=a.args∧(xs.foldl (J5a n) a).nx=a.nx+J34 xs
 | [],a=>by simp [J34]
 | x::xs,a=>by
  obtain ⟨h1,h2,h3,h4⟩:=Jau (n:=n) (xs:=xs) (a:=J5a n a x)
  simp only [List.foldl_cons,List.length_cons]
  have g1:(J5a n a x).rows.length=a.rows.length+1:=by unfold J5a;split <;> simp
  have g2:(J5a n a x).E.length≤a.E.length+2:=by unfold J5a;split <;> simp
  have g3:(J5a n a x).args=a.args:=by unfold J5a;split <;> rfl
  have g4:(J5a n a x).nx=a.nx+(if x.Cons then 1 else 0):=by unfold J5a;cases x.Cons <;> simp
  exact ⟨by omega,by omega,by rw [h3,g3],by rw [h4,g4,Jfl];omega⟩
theorem Jfp {n:Nat} : ∀ {xs:List DCall}{a:MS},(xs.foldl (J5g n) a).E.length=a.E.length+xs.length
 | [],a=>by simp
 | x::xs,a=>by
  have h1:=Jfp (n:=n) (xs:=xs) (a:=J5g n a x)
  simp only [List.foldl_cons,List.length_cons]
  rw [h1];simp [J5g];omega
theorem Jdq (p:DProgram) (hp:J0r p≤1048576) (h1:J4c p=true) {j:Nat}(hj:j<p.Rules.length):Holds Tryz.prog 184 [.agg (J03 p),i64 j] (fun x=>x = .agg (J22 (J68 (p.Rules[j]) (Jrj p (p.Rules[j]))))):=by
 refine J02 Tryz.func184 a184_ok rfl (by simp [a184]) ?_
 obtain ⟨f,hf,R⟩:=Jjk h1 (List.getElem_mem hj)
 have hfa:Jrj p p.Rules[j]=f:=by unfold Jrj;rw [hf];rfl
 simp [a184,lm0,lm1,lm2,J03,hj]
 first|refine J00 (J20 p (p.Rules[j]).Func hp) (by first|simp [J03];done|rfl) ?_|refine J01 (J20 p (p.Rules[j]).Func hp) (by first|simp [J03];done|rfl) ?_
 rintro r rfl
 rw [hfa,hf]
 have hwf:=fn_w hp hf
 have hpar:=R.par
 have hnpre:=R.npre
 have hnp:=R.npats
 have hnc:=R.ncalls
 have h6:=R.size
 have hrargs:=R.args h1
 have hrres:=Jaj (Jgi R.res)
 generalize p.Rules[j]=r at *
 simp [J8q,J0j,J0c,lm3,lm4]
 intro _
 refine J00 (Jlo r.Patterns) (by simp) ?_
 rintro _ rfl
 have hcl:=Jku r.Patterns
 have hw1:IntKind.i64.wrap ((f.Params.length:Int)+(J34 r.Patterns:Int))=(f.Params.length:Int)+(J34 r.Patterns:Int):=J19 (by omega)
 have hw2:IntKind.i64.wrap ((f.Params.length:Int)+(J34 r.Patterns:Int)+(r.Calls.length:Int))=(J14 r f:Int):=by rw [J19 (by omega)];unfold J14;omega
 have hpl:∀ l∈f.Pre,l.Coeffs.length≤J14 r f:=fun l hl=>by
  have h1:=(J1t (R.pre l hl)).1
  have h2:f.Params.length≤J14 r f:=by unfold J14;omega
  omega
 simp [hw1,hw2,lm5]
 have hkE:=Jej (n:=J14 r f) (xs:=f.Params) (a:=⟨[],0,Jd6 f (J14 r f),[],[]⟩)
 have hvE:=Jlh (n:=J14 r f) (by omega) (xs:=f.Params) (a:=⟨[],0,Jd6 f (J14 r f),[],[]⟩) (by simp)
 have hdl:(Jd6 f (J14 r f)).length≤4:=by
  unfold Jd6
  have:=Jar (n:=J14 r f) (xs:=f.Params) (i:=0)
  simp;omega
 rw [←show ss1 r f=f.Params.foldl (J91 (J14 r f)) ⟨[],0,Jd6 f (J14 r f),[],[]⟩ from rfl] at hkE hvE
 have hsz:r.Calls.length≤J14 r f∧f.Params.length+J34 r.Patterns=J14 r f - r.Calls.length:=by unfold J14;omega
 have ss3d:ss3 r f=r.Patterns.foldl (J5a (J14 r f)) (Jbl (ss1 r f) f.Params.length):=rfl
 have hp3:=Jau (n:=J14 r f) (xs:=r.Patterns) (a:=Jbl (ss1 r f) f.Params.length)
 rw [←ss3d] at hp3
 have ss5d:ss5 r f=r.Calls.foldl (J5g (J14 r f)) (J0u (Jbl (ss3 r f) (f.Params.length+J34 r.Patterns)) (r.Guards.map (Jdb (ss3 r f).E (J14 r f)))):=rfl
 have hc5:=Jfp (n:=J14 r f) (xs:=r.Calls) (a:=J0u (Jbl (ss3 r f) (f.Params.length+J34 r.Patterns)) (r.Guards.map (Jdb (ss3 r f).E (J14 r f))))
 rw [←ss5d] at hc5
 have hmS:J68 r f=Jxn (J14 r f) (ss5 r f) (Jf4 (ss5 r f).E (J14 r f) r.Result):=rfl
 rw [hmS]
 have hrr:(r.Patterns.foldl (J5a (J14 r f)) ⟨(ss1 r f).E,f.Params.length,[],[],[]⟩).rows.length≤100000:=by
  have:=(Jau (n:=J14 r f) (xs:=r.Patterns) (a:=⟨(ss1 r f).E,f.Params.length,[],[],[]⟩)).1
  rw [this];simp;omega
 generalize hN:J14 r f=N at *
 first|refine J00 (Jc3 f N hwf (by omega) hpl) (by first|simp [J05];done|rfl) ?_|refine J01 (Jc3 f N hwf (by omega) hpl) (by first|simp [J05];done|rfl) ?_
 rintro r rfl
 simp [lm6]
 refine Jvc (r:=r) (f:=f) (N:=N) (R0:=Jd6 f N) (by simp) (by simp) (by simp) (by simp) (by simp) ?_ hpar ?_
 ·refine ⟨by simp,by simp [J0c],by simp,by simp,by omega,.nil 1,.nil 2,.ref 6 0 (Jd6 f N).length,.nil 2,.nil 1,by simp,by simp [J52],?_,?_⟩
  ·intro x hx
   simp only [List.mem_cons,List.not_mem_nil,or_false] at hx
   rcases hx with rfl|rfl|rfl|rfl|rfl
   ·exact .inl (by simp [J1a,J0d])
   ·exact .inl (by simp [J2x])
   ·exact .inr ⟨6,by omega,by omega,by simp,by simp⟩
   ·exact .inl (by simp)
   ·exact .inl (by simp)
  ·simp only [List.pairwise_cons,List.mem_cons,List.not_mem_nil,or_false,forall_eq_or_imp,forall_eq]
   refine ⟨⟨?_,?_,?_,?_⟩,⟨?_,?_,?_⟩,⟨?_,?_⟩,?_,by simp⟩ <;> intro i k l e1 e2 <;> first|cases e1;done|(cases e2;done)
 intro s1 h1' n1 hk1 M1
 simp at hk1
 rw [show f.Params.foldl (J91 N) ⟨[],0,Jd6 f N,[],[]⟩=ss1 r f by unfold ss1;rw [hN]] at M1
 refine J53 (Jse (m:=f.Params.length) (by simp [hk1]) (by simp [hk1]) (by simp [hk1]) (by simp [hk1]) (by simp [hk1]) M1 (by omega) (by omega) (by rw [hkE.2.1];simp;omega) (by omega) (by rw [hkE.2.2.2.1];show (Jd6 f N).length≤_;omega) ?_ hvE hrr ?_)
 ·intro q hq
  rw [hkE.2.2.2.2]
  simpa [J1a] using R.pats q hq
 intro s2 h2 n2 hk2 M2
 simp at hk2
 rw [←ss3d] at M2
 have hE3:(ss3 r f).E.length≤1000:=by
  have e1:(Jbl (ss1 r f) f.Params.length).E.length=f.Params.length:=by show (ss1 r f).E.length=_;rw [hkE.2.1];simp
  omega
 have hR3:(ss3 r f).rows.length≤1000:=by
  have e1:(Jbl (ss1 r f) f.Params.length).rows.length=(Jd6 f N).length:=by show (ss1 r f).rows.length=_;rw [hkE.2.2.2.1]
  omega
 refine J09 (Jsq (by simp [hk2,hk1]) (by simp [hk2,hk1]) (by simp [hk2,hk1]) (by simp [hk2,hk1]) M2 (by omega) R.nguards (fun g hg => ?_) (by omega) ?_)
 ·have:=R.guards g hg
  unfold J3p J8o at this
  simp only [Bool.and_eq_true,decide_eq_true_eq] at this
  omega
 intro s3 h3 n3 hk3 M3
 simp at hk3
 have M3':SM r f N (J0u (Jbl (ss3 r f) (f.Params.length+J34 r.Patterns)) (r.Guards.map (Jdb (ss3 r f).E N))) h3 n3:=M3
 refine J53 (J09 (Jsb (by simp [hk3,hk2,hk1]) (by simp [hk3,hk2,hk1]) (by simp [hk3,hk2,hk1]) (by simp [hk3,hk2,hk1]) M3' (by omega) (by show (ss3 r f).E.length≤_;omega) hnc (by omega) (by show f.Params.length+J34 r.Patterns=_;omega) (by have:=R.nguards;show ((ss3 r f).rows++_).length≤_;simp;omega) ?_ (fun c hc=>⟨(hrargs c hc).1,fun x hx=>Jaj ((hrargs c hc).2 x hx)⟩) ?_))
 ·show (ss3 r f).args.length≤_
  rw [hp3.2.2.1]
  show (ss1 r f).args.length≤_
  rw [hkE.2.2.1];simp
 intro s4 h4 n4 hk4 M4
 simp at hk4
 rw [←ss5d] at M4
 have hE5:(ss5 r f).E.length≤2000:=by
  rw [hc5]
  show (ss3 r f).E.length+_≤_
  omega
 generalize ss5 r f=ms at *
 obtain ⟨vN,vL,e8,hbw⟩:=M4.bws
 obtain ⟨b1,b2⟩:=hbw h4 fun _ _=>rfl
 have l4:=M4.lt
 refine J53 ?_
 simp [K97,hk4,hk3,hk2,hk1,e8,M4.hr,J0c]
 first|refine J00 (J6m ms.E (by omega) r.Result (fun x hx=>by have:=hrres.1 x hx;omega) hrres.2 N) (by first|simp [Jfy,b1,b2,J0x];done|rfl) ?_|refine J01 (J6m ms.E (by omega) r.Result (fun x hx=>by have:=hrres.1 x hx;omega) hrres.2 N) (by first|simp [Jfy,b1,b2,J0x];done|rfl) ?_
 rintro r rfl
 rw [J0o,show (Jv5 ms.E N r.Result).getD J1d=Jf4 ms.E N r.Result from rfl]
 generalize Jf4 ms.E N r.Result=res at *
 obtain ⟨vN2,vL2,vR,vP,vA,e8',e7,AS⟩:=M4.acc
 obtain ⟨AS1,AS2⟩:=AS
 simp only [List.pairwise_cons,List.mem_cons,List.not_mem_nil,or_false,forall_eq_or_imp,forall_eq] at AS2
 obtain ⟨_,_,⟨d8,d9⟩,d10,_⟩:=AS2
 have k2:=AS1 (2,ms.rows.map J07,vR) (by simp)
 have k3:=AS1 (2,ms.pars.map J07,vP) (by simp)
 have k4:=AS1 (1,ms.args.map J26,vA) (by simp)
 have cR:=k2.cell
 have cP:=k3.cell
 have cA:=k4.cell
 have ne:¬7=n4∧¬1=n4∧¬n4=7∧¬n4=1:=by omega
 simp [J07,hk4,hk3,hk2,hk1,e7,J52,K8g,M4.hz,ne,-dt,-dtl,-J0n,Jbv,Jf9,cR,cP,cA]
 generalize hH:upd (upd (upd h4 n4 _) 7 _) 1 _=H
 have fH:∀ id,5<id→id<n4→id≠7→H id=h4 id:=by
  intro id hid _ _
  have:¬id=1∧¬id=7∧¬id=n4:=by omega
  rw [←hH];simp [this]
 have nb:∀ {z:Nat}{rows:List (List AV)}{v:AV}(x:J3v 5 z rows v h4 n4),J3v 5 z rows v H n4:=fun x=>x.keep (Nat.le_refl _) fun id hb hid e=>fH id hb hid fun e'=>x.not_box e7 (by rw [←e'];exact e)
 have m2:=nb k2
 have m3:=nb k3
 have m4:=nb k4
 have kq:H n4=some ⟨false,1,J0e res.Coeffs⟩:=by rw [←hH];simp [ne]
 obtain ⟨H1,dd1,e1⟩:=m2.dt
 have m3':J3v 5 2 (ms.pars.map J07) vP H1 n4:=m3.keep (Nat.le_refl _) fun id hb hid e=>e1 id fun l el=>d8 id _ _ el e
 obtain ⟨H2,dd2,e2⟩:=m3'.dt
 have m4':J3v 5 1 (ms.args.map J26) vA H2 n4:=m4.keep (Nat.le_refl _) fun id hb hid e=>by
  rw [e2 id fun l el=>d10 id _ _ el e,e1 id fun l el=>d9 id _ _ el e]
 obtain ⟨H3,dd3,e3⟩:=m4'.dt
 have kq3:H3 n4=some ⟨false,1,J0e res.Coeffs⟩:=by
  rw [e3 n4 fun l el=>m4.ne_ge (Nat.le_refl _) el,e2 n4 fun l el=>m3.ne_ge (Nat.le_refl _) el,e1 n4 fun l el=>m2.ne_ge (Nat.le_refl _) el,kq]
 simp [dd1,dd2,dd3,kq3,J22,Jxn]
theorem Jfd (p:DProgram) (hp:J0r p≤1048576) (k:Int):Holds Tryz.prog 171 [.agg (J03 p),i64 k] (fun r=>r=J59 (Jcj p k)):=by
 refine J02 Tryz.func171 a171_ok rfl (by simp [a171]) ?_
 simp [a171,J03]
 first|refine J00 (J2u p hp) (by first|simp [J03];done|rfl) ?_|refine J01 (J2u p hp) (by first|simp [J03];done|rfl) ?_
 rintro r rfl
 unfold Jcj
 cases h1:J4c p
 ·simp [J59,Jc8,J22,J0e]
 simp
 intro hrl
 have hw:IntKind.i64.wrap ((p.Rules.length:Int) - 1)=(p.Rules.length:Int) - 1:=J19 (by unfold LIM at hrl;omega)
 rw [hw]
 first|refine J00 (J43 k 0 ((p.Rules.length:Int) - 1)) (by first|simp;done|rfl) ?_|refine J01 (J43 k 0 ((p.Rules.length:Int) - 1)) (by first|simp;done|rfl) ?_
 rintro r rfl
 cases h2:inR k 0 ((p.Rules.length:Int) - 1)
 ·simp [J59,Jc8,J22,J0e]
 have hk0:0≤k∧k≤(p.Rules.length:Int) - 1:=by simpa [inR] using h2
 obtain ⟨j,rfl⟩:∃ j:Nat,k=j:=⟨k.toNat,by omega⟩
 have hj:j<p.Rules.length:=by omega
 have hgd:p.Rules.getD ((j:Int).toNat) Jnb=p.Rules[j]:=by simp [hj]
 simp [hj]
 first|refine J00 (Jdq p hp h1 hj) (by first|simp [J03];done|rfl) ?_|refine J01 (Jdq p hp h1 hj) (by first|simp [J03];done|rfl) ?_
 rintro r rfl
 generalize J68 (p.Rules[j]) (Jrj p (p.Rules[j]))=md
 simp [J59,J22]
theorem Jwj {a b o:DLin}{k:Int}(h:J0b a k b=some o):o.Coeffs.length≤8:=by
 have:=J9b (a:=a) (k:=k) (b:=b)
 unfold J7z at this
 rw [h] at this;exact this
theorem Jot {E:SEnv}{n:Nat} : ∀ {ts:List DTerm}{o r:DLin},o.Coeffs.length≤8→goS E n ts o=some r→r.Coeffs.length≤8
 | [],o,r,ho,h=>by cases h;exact ho
 | t::ts,o,r,ho,h=>by
  simp only [goS] at h
  split at h
  ·cases h
  ·rename_i o' ha
   exact Jot (Jwj ha) h
theorem Jl4 {E:SEnv}{n:Nat}{s:DSum} : (Jdb E n s).Coeffs.length≤8:=by
 unfold Jdb Jt0
 cases h:goS E n s.Terms (J04 s.Const n) with
 | none=>simp [J1d]
 | some r=>exact Jot (J6q _ _) h
theorem Jkz {E:SEnv}{n:Nat}{a:DArg} : (Jf4 E n a).Coeffs.length≤8:=by
 unfold Jf4 Jv5
 split
 ·split
  ·exact J6q _ _
  ·exact J9b
 ·exact Jl4
theorem Jv4 {E:SEnv}{x:Str}{n:Int}(h:∀ e∈E,e.2.Coeffs.length≤8):(J2n (J04 0 n) E x).Coeffs.length≤8:=by
 by_cases hx:x∈J1a E
 ·exact Jle h hx
 ·have:E.find? (fun e=>e.1==x)=Option.none:=by
   rw [List.find?_eq_none]
   intro e he hb
   exact hx (List.mem_map.2 ⟨e,he,by simpa using hb⟩)
  unfold J2n
  rw [this];exact J6q _ _
structure MOk (ms:MS):Prop where
 E:∀ e∈ms.E,e.2.Coeffs.length≤8
 R:∀ l∈ms.rows,l.Coeffs.length≤8
 P:∀ l∈ms.pars,l.Coeffs.length≤8
theorem Jal {α:Type}{l:List α}{x:α}{p:α→Prop}(h:∀ y∈l,p y) (hx:p x):∀ y∈l++[x],p y:=by
 intro y hy
 rcases List.mem_append.1 hy with hy|hy
 ·exact h y hy
 ·simp at hy;subst hy;exact hx
theorem MOk.par {n:Nat}(hn:n≤8) {ms:MS}(M:MOk ms) (x:Str):MOk (J91 n ms x):=
 ⟨Jal M.E (J66 n hn),M.R,Jal M.P (J66 n hn)⟩
theorem MOk.pat {n:Nat}(hn:n≤8) {ms:MS}(M:MOk ms) (q:DPattern):MOk (J5a n ms q):=by
 have hl:(Jhz n ms q).Coeffs.length≤8:=by unfold Jhz J4k;exact Jv4 M.E
 unfold J5a
 split
 ·refine ⟨?_,Jal M.R hl,M.P⟩
  intro e he
  rcases List.mem_append.1 he with he|he
  ·exact M.E e he
  ·simp at he
   rcases he with rfl|rfl
   ·exact J66 n hn
   ·exact hl
 ·exact ⟨M.E,Jal M.R J9b,M.P⟩
theorem MOk.call {n:Nat}(hn:n≤8) {ms:MS}(M:MOk ms) (c:DCall):MOk (J5g n ms c):=by
 refine ⟨Jal M.E (J66 n hn),?_,M.P⟩
 intro l hl
 rcases List.mem_append.1 hl with hl|hl
 ·exact M.R l hl
 ·split at hl
  ·simp at hl;subst hl;exact J66 n hn
  ·cases hl
theorem MOk.fold {α:Type}{g:MS→α→MS}(hg:∀ ms x,MOk ms→MOk (g ms x)):∀ {l:List α}{ms:MS},MOk ms→MOk (l.foldl g ms)
 | [],_,h=>h
 | x::l,ms,h=>MOk.fold hg (l:=l) (hg ms x h)
theorem Jho {n:Nat} : ∀ {xs:List DCall}{a:MS},(xs.foldl (J5g n) a).rows.length≤a.rows.length+xs.length∧(xs.foldl (J5g n) a).pars=a.pars∧(xs.foldl (J5g n) a).args.length=a.args.length+xs.length ∧
 ∀ l∈(xs.foldl (J5g n) a).args,l∈a.args∨(∃ c∈xs,l.length=c.Args.length∧∀ y∈l,y.Coeffs.length≤8)
 | [],a=>by simp
 | x::xs,a=>by
  obtain ⟨h1,h2,h3,h4⟩:=Jho (n:=n) (xs:=xs) (a:=J5g n a x)
  simp only [List.foldl_cons,List.length_cons]
  have g1:(J5g n a x).rows.length≤a.rows.length+1:=by unfold J5g;simp only [List.length_append];split <;> simp
  have g3:(J5g n a x).args.length=a.args.length+1:=by simp [J5g]
  refine ⟨by omega,by rw [h2];rfl,by omega,?_⟩
  intro l hl
  rcases h4 l hl with h|⟨c,hc,h⟩
  ·rcases List.mem_append.1 h with h|h
   ·exact .inl h
   ·simp at h
    refine .inr ⟨x,List.mem_cons_self,by rw [h];simp,?_⟩
    intro y hy
    rw [h] at hy
    obtain ⟨z,_,rfl⟩:=List.mem_map.1 hy
    exact Jkz
  ·exact .inr ⟨c,List.mem_cons_of_mem _ hc,h⟩
theorem Ji6 {n:Nat} : ∀ {xs:List Str}{a:MS},(xs.foldl (J91 n) a).pars.length=a.pars.length+xs.length
 | [],a=>by simp
 | x::xs,a=>by
  have h1:=Ji6 (n:=n) (xs:=xs) (a:=J91 n a x)
  simp only [List.foldl_cons,List.length_cons]
  rw [h1];simp [J91];omega
theorem Ji3 {n:Nat} : ∀ {xs:List DPattern}{a:MS},(xs.foldl (J5a n) a).pars=a.pars
 | [],a=>rfl
 | x::xs,a=>by
  simp only [List.foldl_cons]
  rw [Ji3];unfold J5a;split <;> rfl
theorem Jnq {p:DProgram}{r:DRule}{f:DFunction}(hp:J4c p=true) (R:RuleIn p r f):(J68 r f).System.Rows.length≤10∧(∀ l∈(J68 r f).System.Rows,l.Coeffs.length≤8)∧(J68 r f).Params.length≤2∧(∀ l∈(J68 r f).Params,l.Coeffs.length≤8) ∧
 (J68 r f).Args.length≤2∧(∀ l∈(J68 r f).Args,l.length≤2∧∀ y∈l,y.Coeffs.length≤8)∧(J68 r f).Result.Coeffs.length≤8∧(J68 r f).System.N≤6∧0≤(J68 r f).System.N:=by
 have hn:J14 r f≤8:=by have:=R.size;omega
 have hpar:=R.par
 have hnp:=R.npats
 have hnc:=R.ncalls
 have hng:=R.nguards
 have hpre:=R.npre
 have hdl:(Jd6 f (J14 r f)).length≤4∧∀ l∈Jd6 f (J14 r f),l.Coeffs.length≤8:=by
  have hlr:=Jar (n:=J14 r f) (xs:=f.Params) (i:=0)
  refine ⟨by unfold Jd6;simp;omega,?_⟩
  intro l hl
  rcases List.mem_append.1 hl with hl|hl
  ·have:∀ (xs:List Str) (i:Nat),∀ l∈Jcy (J14 r f) xs i,l.Coeffs.length≤8:=by
    intro xs
    induction xs with
    | nil=>intro i l hl;cases hl
    | cons x xs ih=>
     intro i l hl
     rcases List.mem_append.1 hl with hl|hl
     ·split at hl
      ·simp at hl;subst hl;exact J66 _ hn
      ·cases hl
     ·exact ih _ l hl
   exact this _ _ l hl
  ·obtain ⟨x,hx,rfl⟩:=List.mem_map.1 hl
   have h1:=(J1t (R.pre x hx)).1
   have h2:f.Params.length≤J14 r f:=by unfold J14;omega
   simp [J3u];omega
 have m1:MOk (ss1 r f):=MOk.fold (fun ms x h=>h.par hn x) ⟨by simp,hdl.2,by simp⟩
 have m1':MOk (Jbl (ss1 r f) f.Params.length):=⟨m1.E,m1.R,m1.P⟩
 have m3:MOk (ss3 r f):=MOk.fold (fun ms x h=>h.pat hn x) m1'
 have m4:MOk (J0u (Jbl (ss3 r f) (f.Params.length+J34 r.Patterns)) (r.Guards.map (Jdb (ss3 r f).E (J14 r f)))):=by
  refine ⟨m3.E,?_,m3.P⟩
  intro l hl
  rcases List.mem_append.1 hl with hl|hl
  ·exact m3.R l hl
  ·obtain ⟨g,_,rfl⟩:=List.mem_map.1 hl
   exact Jl4
 have m5:MOk (ss5 r f):=MOk.fold (fun ms x h=>h.call hn x) m4
 obtain ⟨c1,c2,c3,c4⟩:=Jho (n:=J14 r f) (xs:=r.Calls) (a:=J0u (Jbl (ss3 r f) (f.Params.length+J34 r.Patterns)) (r.Guards.map (Jdb (ss3 r f).E (J14 r f))))
 have d3:=Jau (n:=J14 r f) (xs:=r.Patterns) (a:=Jbl (ss1 r f) f.Params.length)
 have d1:=Jej (n:=J14 r f) (xs:=f.Params) (a:=⟨[],0,Jd6 f (J14 r f),[],[]⟩)
 have e1:=Ji6 (n:=J14 r f) (xs:=f.Params) (a:=⟨[],0,Jd6 f (J14 r f),[],[]⟩)
 have e3:=Ji3 (n:=J14 r f) (xs:=r.Patterns) (a:=Jbl (ss1 r f) f.Params.length)
 have hrows1:(ss1 r f).rows=Jd6 f (J14 r f):=d1.2.2.2.1
 have hargs3:(ss3 r f).args=[]:=by
  have:(ss3 r f).args=(Jbl (ss1 r f) f.Params.length).args:=d3.2.2.1
  rw [this];exact d1.2.2.1
 have hr3:(ss3 r f).rows.length=(Jd6 f (J14 r f)).length+r.Patterns.length:=by
  have:(ss3 r f).rows.length=(Jbl (ss1 r f) f.Params.length).rows.length+r.Patterns.length:=d3.1
  rw [this];show (ss1 r f).rows.length+_=_;rw [hrows1]
 have hp5:(ss5 r f).pars.length=f.Params.length:=by
  have h1:(ss5 r f).pars=(ss3 r f).pars:=c2
  have h2:(ss3 r f).pars=(ss1 r f).pars:=e3
  rw [h1,h2]
  have:(ss1 r f).pars.length=f.Params.length:=by rw [show (ss1 r f)=f.Params.foldl (J91 (J14 r f)) ⟨[],0,Jd6 f (J14 r f),[],[]⟩ from rfl,e1];simp
  exact this
 refine ⟨?_,m5.R,?_,m5.P,?_,?_,Jkz,?_,?_⟩
 ·have:(ss5 r f).rows.length≤(ss3 r f).rows.length+r.Guards.length+r.Calls.length:=by
   refine Nat.le_trans c1 ?_
   show ((ss3 r f).rows++_).length+_≤_
   simp
  show (ss5 r f).rows.length≤10
  omega
 ·show (ss5 r f).pars.length≤2;omega
 ·have:(ss5 r f).args.length=(ss3 r f).args.length+r.Calls.length:=c3
  rw [hargs3] at this
  simp at this
  show (ss5 r f).args.length≤2;omega
 ·intro l hl
  rcases c4 l hl with h|⟨c,hc,h1,h2⟩
  ·have:l∈(ss3 r f).args:=h
   rw [hargs3] at this;cases this
  ·exact ⟨by rw [h1];exact (R.args hp c hc).1,h2⟩
 ·show ((J14 r f:Nat):Int)≤6;have:=R.size;omega
 ·show (0:Int)≤((J14 r f:Nat):Int);omega
def Jb0 (i:Nat) (k:Nat):DEdge:=⟨i,k⟩
def J3j (i:Nat) (r:DRule):List DEdge:=(List.range r.Calls.length).map (Jb0 i)
def J2p:Nat→List DRule→List DEdge
 | _,[]=>[]
 | i,r::l=>J3j i r++J2p (i+1) l
def Jci (p:DProgram):List DEdge:=J2p 0 p.Rules
def J1y (p:DProgram):List DEdge:=if J4c p then Jci p else []
def Jwb (p:DProgram) (e:DEdge):Str:=match p.Rules[e.Rule.toNat]? with|some r=>r.Func|Option.none=>[]
def toE (p:DProgram) (e:DEdge):Str:=match p.Rules[e.Rule.toNat]? with|some r=>(match r.Calls[e.Call.toNat]? with|some c=>c.Func|Option.none=>[])|Option.none=>[]
theorem Jak {e:DEdge} : ∀ {l:List DRule}{i:Nat},e∈J2p i l→∃ j k:Nat,∃ hj:j<l.length,k<(l[j]).Calls.length∧e=⟨((i+j:Nat):Int),k⟩
 | [],_,h=>by cases h
 | r::l,i,h=>by
  simp only [J2p] at h
  rcases List.mem_append.1 h with h|h
  ·simp only [J3j,List.mem_map,List.mem_range,Jb0] at h
   obtain ⟨k,hk,rfl⟩:=h
   exact ⟨0,k,by simp,by simpa using hk,by simp⟩
  ·obtain ⟨j,k,hj,hk,rfl⟩:=Jak h
   exact ⟨j+1,k,by simpa using hj,by simpa using hk,by congr 1;omega⟩
theorem Jly {p:DProgram}{e:DEdge}(h:e∈Jci p):∃ i k:Nat,∃ hi:i<p.Rules.length,k<(p.Rules[i]).Calls.length∧e=⟨(i:Int),(k:Int)⟩:=by
 obtain ⟨j,k,hj,hk,rfl⟩:=Jak h
 exact ⟨j,k,hj,hk,by congr 1;omega⟩
theorem Jr1 {p:DProgram}{i k:Nat}(hi:i<p.Rules.length):Jwb p ⟨(i:Int),(k:Int)⟩=(p.Rules[i]).Func:=by
 simp only [Jwb,Int.toNat_natCast,List.getElem?_eq_getElem hi]
theorem K1v {p:DProgram}{i k:Nat}(hi:i<p.Rules.length) (hk:k<(p.Rules[i]).Calls.length):toE p ⟨(i:Int),(k:Int)⟩=((p.Rules[i]).Calls[k]).Func:=by
 simp only [toE,Int.toNat_natCast,List.getElem?_eq_getElem hi,List.getElem?_eq_getElem hk]
theorem Jb7:∀ (l:List DRule) (i:Nat),(J2p i l).length≤wL J4l l
 | [],_=>Nat.zero_le _
 | r::l,i=>by
  have h1:=Jb7 l (i+1)
  have h2:=J2b J61 r.Calls
  have h3:(J3j i r).length=r.Calls.length:=by simp [J3j]
  have h4:r.Calls.length≤J4l r:=by unfold J4l J8f;omega
  simp only [J2p,List.length_append,h3]
  unfold wL at h1 ⊢
  simp only [List.map_cons,List.sum_cons,List.length_cons]
  omega
theorem Jbw (p:DProgram) (hw:J0r p≤1048576):(Jci p).length≤1048576:=by
 have:=Jb7 p.Rules 0
 unfold J0r J8w at hw
 unfold Jci
 omega
def a151:AFn:= ⟨30,[.t 2],(.seq (.reg [Zo 1 (.boxv (.t 0)),Zo 2 (.mv (.k (.nil 2)))]) (.seq (.reg [Zo 3 (.mv (.k (.nil 2)))]) (.seq (.seq (.reg [Zf 7 1 1,Zl 8 false 1 7,Zo 9 (.len false (.t 8)),Zo 10 (.mv (.k (.int .i64 0)))]) (.blk 0 (.loop (.seq (.reg [Zo 11 (.bin .lss (.t 10) (.t 9))]) (.seq (.cond (.t 11) .skip (.exit 0)) (.seq (.blk 1 (.seq (.reg [Zv 12 10,Zo 13 (.ixa 7 (.t 8) (.t 10)),Zl 14 true 7 13,Zo 5 (.box [(.str []),(.nil 4),(.nil 2),(.nil 3),(.bool false),(.nil 2),(.str [])]),Zv 4 12,⟨no,.st 7 (.t 5) (.t 14),no⟩]) (.seq (.reg [Zf 15 3 5,Zl 16 false 1 15,Zo 17 (.len false (.t 16)),Zo 18 (.mv (.k (.int .i64 0)))]) (.blk 2 (.loop (.seq (.reg [Zo 19 (.bin .lss (.t 18) (.t 17))]) (.seq (.cond (.t 19) .skip (.exit 2)) (.seq (.blk 3 (.seq (.reg [Zv 20 18,Zv 6 20]) (.reg [Zv 21 3,Zv 22 4,Zv 23 6,Zo 24 (.build [(.int .i64 0),(.int .i64 0)] [(0,(1,(.t 22))),(1,(1,(.t 23)))]),Zo 25 (.bsl 2 [.t 24]),Zo 26 (.app 16 2 (.t 21) (.t 25)),Zv 3 26]))) (.reg [Zo 27 (.bin .add (.t 18) (.k (.int .i64 1))),Zv 18 27]))))))))) (.reg [Zo 28 (.bin .add (.t 10) (.k (.int .i64 1))),Zv 10 28]))))))) (.seq (.reg [Zv 29 3,Zv 2 29]) .ret))))⟩
theorem a151_ok:J0a Tryz.prog Tryz.f151=some a151:=by kernel_rfl
def a125:AFn:= ⟨8,[.t 2],(.seq (.reg [Zo 1 (.boxv (.t 0)),Zo 2 (.mv (.k (.nil 2)))]) (.seq (.seq (.reg [Zl 3 true 2 1,Zc 4 67 [.t 3],Zo 5 (.un .not (.t 4))]) (.cond (.t 5) (.seq (.reg [Zo 2 (.mv (.k (.nil 2)))]) .ret) .skip)) (.seq (.reg [Zl 6 true 2 1,Zc 7 151 [.t 6],Zv 2 7]) .ret)))⟩
theorem a125_ok:J0a Tryz.prog Tryz.f125=some a125:=by kernel_rfl
def a122:AFn:= ⟨36,[.t 2],(.seq (.reg [Zo 1 (.boxv (.t 0)),Zo 2 (.mv (.k (.nil 2)))]) (.seq (.reg [Zo 6 (.bsl 2 []),Zv 3 6]) (.seq (.seq (.reg [Zl 7 true 2 1,Zc 8 61 [.t 7],Zo 9 (.un .not (.t 8))]) (.cond (.t 9) (.seq (.reg [Zv 10 3,Zv 2 10]) .ret) .skip)) (.seq (.seq (.reg [Zo 4 (.mv (.k (.int .i64 0)))]) (.blk 0 (.loop (.seq (.seq (.reg [Zv 11 4,Zf 12 1 1,Zl 13 false 1 12,Zo 14 (.len false (.t 13)),Zo 15 (.bin .lss (.t 11) (.t 14))]) (.cond (.t 15) .skip (.exit 0))) (.seq (.blk 1 (.seq (.reg [Zo 5 (.mv (.k (.int .i64 0)))]) (.blk 2 (.loop (.seq (.seq (.reg [Zv 18 5,Zf 19 1 1,Zl 20 false 1 19,Zv 21 4,Zo 22 (.ixa 7 (.t 20) (.t 21)),Zf 23 3 22,Zl 24 false 1 23,Zo 25 (.len false (.t 24)),Zo 26 (.bin .lss (.t 18) (.t 25))]) (.cond (.t 26) .skip (.exit 2))) (.seq (.blk 3 (.reg [Zv 29 3,Zv 30 4,Zv 31 5,Zo 32 (.build [(.int .i64 0),(.int .i64 0)] [(0,(1,(.t 30))),(1,(1,(.t 31)))]),Zo 33 (.bsl 2 [.t 32]),Zo 34 (.app 16 2 (.t 29) (.t 33)),Zv 3 34])) (.reg [Zv 27 5,Zo 28 (.bin .add (.t 27) (.k (.int .i64 1))),Zv 5 28]))))))) (.reg [Zv 16 4,Zo 17 (.bin .add (.t 16) (.k (.int .i64 1))),Zv 4 17])))))) (.seq (.reg [Zv 35 3,Zv 2 35]) .ret)))))⟩
theorem a122_ok:J0a Tryz.prog Tryz.f122=some a122:=by kernel_rfl
def Acc (z:Nat) (rows:List (List AV)) (v:AV) (h:Heap) (n:Nat):Prop:=(rows=[]∧v = .nil z)∨∃ id,id<n∧v = .ref id 0 rows.length∧h id=some ⟨false,z,rows⟩
theorem J9u {l:List DRule}{i k:Nat}(hi:i<l.length):J2p k (l.drop i)=J3j k l[i]++J2p (k+1) (l.drop (i+1)):=by rw [List.drop_eq_getElem_cons hi];rfl
theorem J9x {r:DRule}{i j:Nat}(hj:j<r.Calls.length):(J3j i r).drop j=Jb0 i j::(J3j i r).drop (j+1):=by
 rw [List.drop_eq_getElem_cons (by simp [J3j,hj])]
 simp [J3j]
theorem Jb3 (i:Nat) (r:DRule):(J3j i r).length=r.Calls.length:=by simp [J3j]
theorem Ji7 (p:DProgram) (hp:J0r p≤1048576):Holds Tryz.prog 151 [.agg (J03 p)] (fun x=>x = .us 2 ((Jci p).map J3s)):=by
 have hTl:=Jbw p hp
 refine J02 Tryz.func151 a151_ok rfl (by simp [a151]) ?_
 simp [a151,J03]
 intro hlr
 unfold Jci at *
 generalize hT:J2p 0 p.Rules=T at *
 refine J0k [8,9] 10 p.Rules.length (fun i s h n=>∃ acc:List DEdge,acc++J2p i (p.Rules.drop i)=T∧Acc 2 (acc.map J3s) (s 3) h n) hlr (by simp) ⟨[],by simpa using hT,.inl (by simp)⟩ ?_ ?_
 ·rintro i st h n R hi hg hk s10 hw ⟨acc,hJ,hA⟩ hR hret _
  simp at hk
  rw [J9u hi] at hJ
  refine J0g [3,8,9,10] (fun s=>s 11 = .bool true) (by simp [hk,s10,hi]) ?_
  intro st1 hk1 s11
  simp at hk1
  refine J2m s11 (J09 (J0t ?_))
  refine J17 [3,8,9,10] (fun s h' n'=>s 4 = .int .i64 i∧s 5 = .ptr n 0 0∧n'=n+1∧h' n=some ⟨true,7,[J0c p.Rules[i]]⟩∧Acc 2 (acc.map J3s) (s 3) h' n') ?_ ?_
  ·simp [hk,hk1,s10,hi,J0c]
   rcases hA with ⟨ha,hv⟩|⟨id,hid,hv,he⟩
   ·exact .inl ⟨ha,hv⟩
   ·have z0:¬id=n:=by omega
    exact .inr ⟨id,by omega,hv,by simp [he,z0]⟩
  rintro st2 h2 n2 hk2 ⟨s4,s5,rfl,en,hA⟩
  simp at hk2
  refine J09 ?_
  simp [hk,hk1,hk2,s5,en,J0c]
  intro hlc
  refine J0k [4,8,9,10,17] 18 (p.Rules[i]).Calls.length (fun j s h n=>∃ acc:List DEdge,acc++((J3j i p.Rules[i]).drop j++J2p (i+1) (p.Rules.drop (i+1)))=T∧Acc 2 (acc.map J3s) (s 3) h n) hlc (by simp) ⟨acc,by simpa using hJ,by simpa using hA⟩ ?_ ?_
  ·rintro j stj hj nj Rj hji hjg hkj s18 hwj ⟨accj,hJj,hAj⟩ hRj hretj _
   simp at hkj
   rw [J9x hji] at hJj
   have hal:=congrArg List.length hJj
   simp at hal
   rcases hAj with ⟨ha,hv⟩|⟨id,hid,hv,he⟩
   ·simp at ha
    subst ha
    simp [hkj,hk2,hk1,s4,s18,hji,hv,hwj]
    refine ⟨by unfold LIM;omega,?_⟩
    refine hRj _ _ _ (by simp [hkj]) (by simp) ⟨[Jb0 i j],by simpa using hJj,.inr ⟨nj+1,by omega,by simp,by simp [J3s,Jb0]⟩⟩
   ·simp at hv
    have z0:¬id=nj:=by omega
    have z1:¬id=nj+1:=by omega
    have z2:¬nj+1=id:=by omega
    have z3:¬nj=id:=by omega
    simp [hkj,hk2,hk1,s4,s18,hji,hv,he,z0,z1,z2,z3,hwj]
    refine ⟨by unfold LIM;omega,?_⟩
    refine hRj _ _ _ (by simp [hkj]) (by simp) ⟨accj++[Jb0 i j],by simpa using hJj,.inr ⟨nj+1,by omega,by simp,by simp [J3s,Jb0,List.take_of_length_le]⟩⟩
  rintro stj hj nj Rj hkj s18 ⟨accj,hJj,hAj⟩ hretj hXj
  simp at hkj
  rw [List.drop_eq_nil_of_le (by rw [Jb3];omega),List.nil_append] at hJj
  refine J0g [3,4,8,9,10,17] (fun s=>s 19 = .bool false) (by simp [hkj,s18]) ?_
  intro stk hkk s19
  simp at hkk
  refine J2g s19 ?_
  refine hXj _ _ _ _ ?_
  simp [hk,hk1,hk2,hkj,hkk,s10,hw]
  exact hR _ _ _ (by simp [hk,hk1,hk2,hkj,hkk]) (by simp) ⟨accj,hJj,by simpa [hkk] using hAj⟩
 rintro st h n R hk s10 ⟨acc,hJ,hA⟩ hret hX
 simp at hk
 rw [List.drop_eq_nil_of_le (by omega)] at hJ
 simp [J2p] at hJ
 subst hJ
 refine J0g [3] (fun s=>s 11 = .bool false) (by simp [hk,s10]) ?_
 intro st1 hk1 s11
 simp at hk1
 refine J2g s11 ?_
 refine hX _ _ _ _ ?_
 rcases hA with ⟨ha,hv⟩|⟨id,hid,hv,he⟩
 ·simp at ha
  simp [hk1,hv,ha]
 ·simp at hv
  simp [hk1,hv,he]
theorem Jnx (p:DProgram) (hp:J0r p≤1048576):Holds Tryz.prog 125 [.agg (J03 p)] (fun x=>x = .us 2 ((J1y p).map J3s)):=by
 refine J02 Tryz.func125 a125_ok rfl (by simp [a125]) ?_
 simp [a125,J03]
 first|refine J00 (J36 p hp) (by first|simp [J03];done|rfl) ?_|refine J01 (J36 p hp) (by first|simp [J03];done|rfl) ?_
 rintro r rfl
 unfold J1y
 cases h1:J4c p
 ·simp
 simp
 first|refine J00 (Ji7 p hp) (by first|simp [J03];done|rfl) ?_|refine J01 (Ji7 p hp) (by first|simp [J03];done|rfl) ?_
 rintro r rfl
 simp
theorem Jlv (p:DProgram) (hp:J0r p≤1048576):Holds Tryz.prog 122 [.agg (J03 p)] (fun x=>x = .us 2 ((J1y p).map J3s)):=by
 have hTl:=Jbw p hp
 have hlr:p.Rules.length≤1048576:=by have:=J2b J4l p.Rules;unfold J0r J8w at hp;omega
 have hlc:∀ i,∀ hi:i<p.Rules.length,(p.Rules[i]).Calls.length≤1048576:=fun i hi=>by
  have h1:=J9j hp _ (List.getElem_mem hi)
  exact (Ja8 h1).2.2.2.2.1
 refine J02 Tryz.func122 a122_ok rfl (by simp [a122]) ?_
 simp [a122,J03]
 first|refine J00 (J2u p hp) (by first|simp [J03];done|rfl) ?_|refine J01 (J2u p hp) (by first|simp [J03];done|rfl) ?_
 rintro r rfl
 unfold J1y
 cases h1:J4c p
 ·simp
 simp
 unfold Jci at *
 generalize hT:J2p 0 p.Rules=T at *
 refine J0k [1] 4 p.Rules.length (fun i s h n=>0<n∧h 0=some ⟨true,2,[J03 p]⟩∧∃ (acc:List DEdge) (id:Nat),acc++J2p i (p.Rules.drop i)=T∧0<id∧id<n∧s 3 = .ref id 0 acc.length∧h id=some ⟨false,2,acc.map J3s⟩) (by unfold LIM;omega) (by simp) ⟨by simp,by simp [J03],[],1,by simpa using hT,by omega,by omega,by simp,by simp⟩ ?_ ?_
 ·rintro i st h n R hi hg hk s4 hw ⟨hn,e0,acc,id,hJ,hid0,hid,s3,eid⟩ hR hret _
  simp at hk
  rw [J9u hi] at hJ
  refine J09 (J0g [1,3,4] (fun s=>s 15 = .bool true) (by simp [hk,s4,hi,e0,J03]) ?_)
  intro st1 hk1 s15
  simp at hk1
  refine J1u s15 (J09 (J0t (J09 ?_)))
  simp [hk,hk1]
  refine J0k [1,4] 5 (p.Rules[i]).Calls.length (fun j s h n=>0<n∧h 0=some ⟨true,2,[J03 p]⟩∧∃ (acc:List DEdge) (id:Nat),acc++((J3j i p.Rules[i]).drop j++J2p (i+1) (p.Rules.drop (i+1)))=T∧0<id∧id<n∧s 3 = .ref id 0 acc.length∧h id=some ⟨false,2,acc.map J3s⟩) (by have:=hlc i hi;unfold LIM;omega) (by simp) ⟨hn,by simpa using e0,acc,id,by simpa using hJ,hid0,hid,by simp [hk1,s3],by simpa using eid⟩ ?_ ?_
  ·rintro j stj hj nj Rj hji hjg hkj s5 hwj ⟨hnj,e0j,accj,idj,hJj,hid0j,hidj,s3j,eidj⟩ hRj hretj _
   simp at hkj
   rw [J9x hji] at hJj
   have hal:=congrArg List.length hJj
   simp at hal
   have z0:¬idj=nj:=by omega
   have z1:¬idj=nj+1:=by omega
   have z2:¬nj+1=idj:=by omega
   have z3:¬nj=idj:=by omega
   have z4:¬0=idj:=by omega
   have z5:¬0=nj:=by omega
   have z6:¬0=nj+1:=by omega
   have z7:¬idj=0:=by omega
   have z8:¬nj=0:=by omega
   refine J09 (J0g [1,3,4,5] (fun s=>s 26 = .bool true) (by simp [hk,hkj,hk1,s4,s5,hi,hji,e0j,J03,J0c]) ?_)
   intro stk hkk s26
   simp at hkk
   refine J1u s26 ?_
   simp [hk,hkj,hk1,hkk,s4,s5,s3j,eidj,e0j,z0,z1,z2,z3,z4,z5,z6,z7,z8,hwj]
   refine ⟨by unfold LIM;omega,?_⟩
   exact hRj _ _ _ (by simp [hkj,hkk]) (by simp) ⟨by omega,by simp [e0j,z4,z5,z6,z8],accj++[Jb0 i j],nj+1,by simpa using hJj,by omega,by omega,by simp,by simp [J3s,Jb0,List.take_of_length_le]⟩
  rintro stj hj nj Rj hkj s5 ⟨hnj,e0j,accj,idj,hJj,hid0j,hidj,s3j,eidj⟩ hretj hXj
  simp at hkj
  rw [List.drop_eq_nil_of_le (by rw [Jb3];omega),List.nil_append] at hJj
  refine J09 (J0g [1,3,4] (fun s=>s 26 = .bool false) (by simp [hk,hkj,hk1,s4,s5,hi,e0j,J03,J0c]) ?_)
  intro stk hkk s26
  simp at hkk
  refine J1s s26 ?_
  simp
  refine hXj _ _ _ _ ?_
  simp [hk,hk1,hkj,hkk,s4,hw]
  exact hR _ _ _ (by simp [hk,hk1,hkj,hkk]) (by simp) ⟨hnj,e0j,accj,idj,hJj,hid0j,hidj,by simp [hkk,s3j],eidj⟩
 rintro st h n R hk s4 ⟨hn,e0,acc,id,hJ,hid0,hid,s3,eid⟩ hret hX
 simp at hk
 rw [List.drop_eq_nil_of_le (by omega)] at hJ
 simp [J2p] at hJ
 subst hJ
 refine J09 (J0g [3] (fun s=>s 15 = .bool false) (by simp [hk,s4,e0,J03]) ?_)
 intro st1 hk1 s15
 simp at hk1
 refine J1s s15 ?_
 refine hX _ _ _ _ ?_
 simp [hk1,s3,eid]
def a152:AFn:= ⟨22,[.t 4,.t 5],(.seq (.reg [Zo 2 (.boxv (.t 0)),Zo 3 (.boxv (.t 1)),Zo 4 (.mv (.k (.str []))),Zo 5 (.mv (.k (.str [])))]) (.seq (.reg [Zf 7 1 2,Zl 8 false 1 7,Zf 9 0 3,Zl 10 false 1 9,Zo 11 (.ixa 7 (.t 8) (.t 10)),Zl 12 true 7 11,Zo 6 (.box [(.str []),(.nil 4),(.nil 2),(.nil 3),(.bool false),(.nil 2),(.str [])]),⟨no,.st 7 (.t 6) (.t 12),no⟩]) (.seq (.draw (.op (Zf 13 0 6) (.op (Zl 14 false 1 13) (.op (Zf 15 3 6) (.op (Zl 16 false 1 15) (.op (Zf 17 1 3) (.op (Zl 18 false 1 17) (.op (Zo 19 (.ixa 3 (.t 16) (.t 18))) (.op (Zf 20 1 19) (.op (Zl 21 false 1 20) (.op (Zv 4 14) (.op (Zv 5 21) .fin)))))))))))) .ret)))⟩
theorem a152_ok:J0a Tryz.prog Tryz.f152=some a152:=by kernel_rfl
def a173:AFn:= ⟨17,[.t 4],(.seq (.reg [Zo 2 (.boxv (.t 0)),Zo 3 (.boxv (.t 1)),Zo 4 (.mv (.k (.str [])))]) (.seq (.draw (.op (Zf 5 1 2) (.op (Zl 6 false 1 5) (.op (Zf 7 0 3) (.op (Zl 8 false 1 7) (.op (Zo 9 (.ixa 7 (.t 6) (.t 8))) (.op (Zf 10 3 9) (.op (Zl 11 false 1 10) (.op (Zf 12 1 3) (.op (Zl 13 false 1 12) (.op (Zo 14 (.ixa 3 (.t 11) (.t 13))) (.op (Zf 15 1 14) (.op (Zl 16 false 1 15) (.op (Zv 4 16) .fin)))))))))))))) .ret))⟩
theorem a173_ok:J0a Tryz.prog Tryz.f173=some a173:=by kernel_rfl
theorem Jtp (p:DProgram) {i k:Nat}(hi:i<p.Rules.length) (hk:k<(p.Rules[i]).Calls.length):Holds Tryz.prog 152 [.agg (J03 p),.agg (J2f ⟨i,k⟩)] (fun x=>x = .tup [.str (p.Rules[i]).Func,.str ((p.Rules[i]).Calls[k]).Func]):=by
 refine J02 Tryz.func152 a152_ok rfl (by simp [a152]) ?_
 simp [a152,J03,J2f,hi,hk,J0c,J0y]
theorem Jd7 (p:DProgram) {i k:Nat}(hi:i<p.Rules.length) (hk:k<(p.Rules[i]).Calls.length):Holds Tryz.prog 173 [.agg (J03 p),.agg (J2f ⟨i,k⟩)] (fun x=>x = .str ((p.Rules[i]).Calls[k]).Func):=by
 refine J02 Tryz.func173 a173_ok rfl (by simp [a173]) ?_
 simp [a173,J03,J2f,hi,hk,J0c,J0y]
theorem Jf7 {p:DProgram}{j:Nat}(hj:j<(J1y p).length):∃ i k:Nat,∃ hi:i<p.Rules.length,∃ hk:k<(p.Rules[i]).Calls.length,(J1y p)[j]=⟨(i:Int),(k:Int)⟩∧Jwb p ⟨(i:Int),(k:Int)⟩=(p.Rules[i]).Func∧toE p ⟨(i:Int),(k:Int)⟩=((p.Rules[i]).Calls[k]).Func:=by
 have hm:(J1y p)[j]∈Jci p:=by
  have h0:(J1y p)[j]∈J1y p:=List.getElem_mem hj
  generalize (J1y p)[j]=e at h0
  unfold J1y at h0
  split at h0
  ·exact h0
  ·cases h0
 obtain ⟨i,k,hi,hk,he⟩:=Jly hm
 exact ⟨i,k,hi,hk,he,Jr1 hi,K1v hi hk⟩
theorem Jaa (p:DProgram) (hp:J0r p≤1048576):(J1y p).length≤1048576:=by
 have:=Jbw p hp
 unfold J1y
 split
 ·exact this
 ·simp
end Go.Proofs.YtoclolkigjbcgaaGreat

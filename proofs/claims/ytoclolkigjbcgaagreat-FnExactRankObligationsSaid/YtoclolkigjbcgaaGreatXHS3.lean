/- The rows of patterns of the reference. -/
import Derived.Test.YtoclolkigjbcgaaGreatXV7
namespace Go.Proofs.YtoclolkigjbcgaaGreat
set_option maxRecDepth 40000
set_option maxHeartbeats 4000000
open Go Go.RowKit Go.Proofs
set_option linter.all false
section
variable {ks:List Kt}{s:Env}{h:Heap}{n N:Nat}{Q:Fin}
theorem Jvg {l0:DLin}{k:Nat}(s3:s 3 = .int .i64 N) (s13:s 13 = .ptr k 0 0) (hkn:k<n) (hkb:h k=some ⟨true,2,[J05 l0]⟩)
 (hK:∀ s' h' n',(∀ j∈[2,3,4,5,8,9,10,11,12,13],s' j=s j)→(∃ k q,s' 14 = .ptr k 0 0∧n≤k∧n≤q∧k<n'∧q<n'∧h' k=some ⟨true,2,[[.int .i64 (J8m (J09 0 N) (-1) l0).Const,.ref q 0 (J8m (J09 0 N) (-1) l0).Coeffs.length]]⟩∧h' q=some ⟨false,1,J0m (J8m (J09 0 N) (-1) l0).Coeffs⟩)→n≤n'→(∀ id,id<n→h' id=h id)→J2u Tryz.prog ks .normal s' h' n' Q):rC Tryz.prog Kb5 ks s h n Q:=by
 have fr:∀ id,id<n→¬id=n∧¬id=n+1∧¬id=n+1+1∧¬id=n+2:=by intro id _;omega
 have ne:¬n=n+1∧¬n+1=n∧¬n=n+1+1∧¬n+1+1=n∧¬n+1=n+1+1∧¬n+1+1=n+1:=by omega
 simp [Kb5,s3,s13,hkb]
 constructor
 ·skip
  first|refine J01 (J21 0 N) (by first|simp;done|rfl) ?_|refine J02 (J21 0 N) (by first|simp;done|rfl) ?_
  rintro r rfl
  simp [J08,ne]
  constructor
  ·skip
   first|refine J01 (J0w (J09 0 N) (-1) l0) (by first|simp [J05];done|rfl) ?_|refine J02 (J0w (J09 0 N) (-1) l0) (by first|simp [J05];done|rfl) ?_
   rintro r rfl
   rw [J0u]
   have hadd:(J0j (J09 0 N) (-1) l0).getD J1g=J8m (J09 0 N) (-1) l0:=rfl
   rw [hadd]
   generalize J8m (J09 0 N) (-1) l0=l at *
   simp [J08,ne]
   refine hK _ _ _ (by simp) ⟨n+2,n+1,by simp,by omega,by omega,by omega,by omega,by simp [ne],by simp [ne]⟩ (by omega) fun id hid=>by simp [fr id hid]
  ·skip
   first|refine J01 (J0w (J09 0 N) (-1) l0) (by first|simp [J05,ne];done|rfl) ?_|refine J02 (J0w (J09 0 N) (-1) l0) (by first|simp [J05,ne];done|rfl) ?_
   rintro r rfl
   rw [J0u]
   have hadd:(J0j (J09 0 N) (-1) l0).getD J1g=J8m (J09 0 N) (-1) l0:=rfl
   rw [hadd]
   generalize J8m (J09 0 N) (-1) l0=l at *
   simp [J08,ne]
   refine hK _ _ _ (by simp) ⟨n+1,n+2,by simp,by omega,by omega,by omega,by omega,by simp [ne],by simp [ne]⟩ (by omega) fun id hid=>by simp [fr id hid]
 ·skip
  first|refine J01 (J21 0 N) (by first|simp;done|rfl) ?_|refine J02 (J21 0 N) (by first|simp;done|rfl) ?_
  rintro r rfl
  simp [J08,ne]
  ·skip
   first|refine J01 (J0w (J09 0 N) (-1) l0) (by first|simp [J05,ne];done|rfl) ?_|refine J02 (J0w (J09 0 N) (-1) l0) (by first|simp [J05,ne];done|rfl) ?_
   rintro r rfl
   rw [J0u]
   have hadd:(J0j (J09 0 N) (-1) l0).getD J1g=J8m (J09 0 N) (-1) l0:=rfl
   rw [hadd]
   generalize J8m (J09 0 N) (-1) l0=l at *
   simp [J08,ne]
   refine hK _ _ _ (by simp) ⟨n,n+2,by simp,by omega,by omega,by omega,by omega,by simp [ne],by simp [ne]⟩ (by omega) fun id hid=>by simp [fr id hid]
def Old (v0 v:AV) (n0:Nat):Prop:=v=v0∨∀ i k,v = .ref i 0 k→n0≤i
structure RI (b n0:Nat) (vN0 vL0:AV) (h0:Heap) (r:DRule) (nm:List Str) (ls R:List DLin) (v10:AV) (h:Heap) (m:Nat):Prop where
 lt:n0+3<m
 hr:h (n0+1)=some ⟨true,7,[J0c r]⟩
 hz:h (n0+2)=some ⟨true,2,[[.nil 1,.nil 2]]⟩
 fr:∀ id,id<n0→(∀ k,vN0 ≠ .ref id 0 k)→(∀ k,vL0 ≠ .ref id 0 k)→h id=h0 id
 env:∃ vN vL,h n0=some ⟨true,2,[[vN,vL]]⟩∧Jgl b [(1,J0a nm,vN),(2,ls.map J05,vL),(2,R.map J08,v10)] h m∧Old vN0 vN n0∧Old vL0 vL n0∧Old (.nil 2) v10 n0
variable {b n0:Nat}{vN0 vL0 v10 v10':AV}{h0 h':Heap}{r:DRule}{nm:List Str}{ls R:List DLin}{m m':Nat}
theorem Old.fresh {v0:AV}{i k:Nat}(h:n0≤i):Old v0 (.ref i 0 k) n0 := .inr fun j l e=>by simp only [AV.ref.injEq] at e;omega
theorem RI.frame (M:RI b n0 vN0 vL0 h0 r nm ls R v10 h m) (hm:m≤m') (hh:∀ id,id<m→h' id=h id):RI b n0 vN0 vL0 h0 r nm ls R v10 h' m':=by
 have l1:=M.lt
 obtain ⟨vN,vL,e1,e2,e3,e4,e5⟩:=M.env
 exact ⟨by omega,by rw [hh _ (by omega),M.hr],by rw [hh _ (by omega),M.hz],fun id h1 h2 h3=>by rw [hh id (by omega),M.fr id h1 h2 h3],vN,vL,by rw [hh _ (by omega),e1],e2.frame hm fun id _ hid=>hh id hid,e3,e4,e5⟩
theorem J41.not_box {z z' i k:Nat}{rows rows':List (List AV)}{v:AV}(x:J41 b z rows v h n) (hb:h i=some ⟨true,z',rows'⟩) (e:v = .ref i 0 k):False:=by
 have:=(x.lt e).2.2.1
 rw [hb] at this;simp at this
theorem RI.rows (M:RI b n0 vN0 vL0 h0 r nm ls R v10 h m) {R':List DLin}(hm:m≤m') (hx:J41 b 2 (R'.map J08) v10' h' m') (hnew:∀ i k,v10' = .ref i 0 k→m≤i) (hh:∀ id,id<m→(∀ k,v10 ≠ .ref id 0 k)→h' id=h id):RI b n0 vN0 vL0 h0 r nm ls R' v10' h' m':=by
 have l1:=M.lt
 obtain ⟨vN,vL,e1,e2,e3,e4,e5⟩:=M.env
 have y3:=e2.1 (2,R.map J08,v10) (by simp)
 refine ⟨by omega,?_,?_,?_,vN,vL,?_,?_,e3,e4,.inr fun i k e=>by have:=hnew i k e;omega⟩
 ·rw [hh _ (by omega) fun k e=>y3.not_box M.hr e,M.hr]
 ·rw [hh _ (by omega) fun k e=>y3.not_box M.hz e,M.hz]
 ·intro id h1 h2 h3
  rw [hh id (by omega) fun k e => ?_,M.fr id h1 h2 h3]
  rcases e5 with rfl|g
  ·cases e
  ·have:=g _ _ e;omega
 ·rw [hh _ (by omega) fun k e=>y3.not_box e1 e,e1]
 ·exact Jgl.step (l1:=[(1,J0a nm,vN),(2,ls.map J05,vL)]) (l2:=[]) (x:=(2,R.map J08,v10)) (x':=(2,R'.map J08,v10')) e2 hx hnew hm fun id _ h2 _ h3=>hh id h2 h3
theorem RI.names (M:RI b n0 vN0 vL0 h0 r nm ls R v10 h m) {nm':List Str}{vN vL vN':AV}(e1:h n0=some ⟨true,2,[[vN,vL]]⟩) (e1':h' n0=some ⟨true,2,[[vN',vL]]⟩) (hm:m≤m') (hx:J41 b 1 (J0a nm') vN' h' m') (hnew:∀ i k,vN' = .ref i 0 k→m≤i) (hh:∀ id,id<m→id≠n0→(∀ k,vN ≠ .ref id 0 k)→h' id=h id):RI b n0 vN0 vL0 h0 r nm' ls R v10 h' m':=by
 have l1:=M.lt
 obtain ⟨vN2,vL2,f1,e2,e3,e4,e5⟩:=M.env
 rw [e1] at f1
 simp only [Option.some.injEq,Blk.mk.injEq,true_and,List.cons.injEq,and_true] at f1
 obtain ⟨rfl,rfl⟩:=f1
 have y1:=e2.1 (1,J0a nm,vN) (by simp)
 refine ⟨by omega,?_,?_,?_,vN',vL,e1',?_,.inr fun i k e=>by have:=hnew i k e;omega,e4,e5⟩
 ·rw [hh _ (by omega) (by omega) fun k e=>y1.not_box M.hr e,M.hr]
 ·rw [hh _ (by omega) (by omega) fun k e=>y1.not_box M.hz e,M.hz]
 ·intro id h1 h2 h3
  rw [hh id (by omega) (by omega) fun k e => ?_,M.fr id h1 h2 h3]
  rcases e3 with rfl|g
  ·exact h2 k e
  ·have:=g _ _ e;omega
 ·refine Jgl.step (l1:=[]) (l2:=[(2,ls.map J05,vL),(2,R.map J08,v10)]) (x:=(1,J0a nm,vN)) (x':=(1,J0a nm',vN')) e2 hx hnew hm fun id hb h2 hf h3 => ?_
  refine hh id h2 (fun e => ?_) h3
  obtain ⟨z,rows,hf⟩:=hf
  rw [e,e1] at hf;simp at hf
theorem RI.lins (M:RI b n0 vN0 vL0 h0 r nm ls R v10 h m) {ls':List DLin}{vN vL vL':AV}(e1:h n0=some ⟨true,2,[[vN,vL]]⟩) (e1':h' n0=some ⟨true,2,[[vN,vL']]⟩) (hm:m≤m') (hx:J41 b 2 (ls'.map J05) vL' h' m') (hnew:∀ i k,vL' = .ref i 0 k→m≤i) (hh:∀ id,id<m→id≠n0→(∀ k,vL ≠ .ref id 0 k)→h' id=h id):RI b n0 vN0 vL0 h0 r nm ls' R v10 h' m':=by
 have l1:=M.lt
 obtain ⟨vN2,vL2,f1,e2,e3,e4,e5⟩:=M.env
 rw [e1] at f1
 simp only [Option.some.injEq,Blk.mk.injEq,true_and,List.cons.injEq,and_true] at f1
 obtain ⟨rfl,rfl⟩:=f1
 have y1:=e2.1 (2,ls.map J05,vL) (by simp)
 refine ⟨by omega,?_,?_,?_,vN,vL',e1',?_,e3,.inr fun i k e=>by have:=hnew i k e;omega,e5⟩
 ·rw [hh _ (by omega) (by omega) fun k e=>y1.not_box M.hr e,M.hr]
 ·rw [hh _ (by omega) (by omega) fun k e=>y1.not_box M.hz e,M.hz]
 ·intro id h1 h2 h3
  rw [hh id (by omega) (by omega) fun k e => ?_,M.fr id h1 h2 h3]
  rcases e4 with rfl|g
  ·exact h3 k e
  ·have:=g _ _ e;omega
 ·refine Jgl.step (l1:=[(1,J0a nm,vN)]) (l2:=[(2,R.map J08,v10)]) (x:=(2,ls.map J05,vL)) (x':=(2,ls'.map J05,vL')) e2 hx hnew hm fun id hb h2 hf h3 => ?_
  refine hh id h2 (fun e => ?_) h3
  obtain ⟨z,rows,hf⟩:=hf
  rw [e,e1] at hf;simp at hf
theorem Ju5 {q:DPattern}{k:Nat}(s4:s 4 = .ptr n0 0 0) (s12:s 12 = .ptr k 0 0) (M:RI b n0 vN0 vL0 h0 r nm ls R v10 h n) (hb:b<n0) (hkn:k<n) (hkb:h k=some ⟨true,4,[J07 q]⟩) (hl:nm.length≤1048576)
 (hK:∀ s' h' n',(∀ j∈[2,3,5,8,9,10,11,12,13,4],s' j=s j)→n≤n'→(∀ id z rows,id<n→id≠n0→h id=some ⟨true,z,rows⟩→h' id=h id)→RI b n0 vN0 vL0 h0 r (nm++[q.Head,q.Tail]) ls R v10 h' n'→J2u Tryz.prog ks .normal s' h' n' Q):rC Tryz.prog Kak ks s h n Q:=by
 have l1:=M.lt
 obtain ⟨vN,vL,e1,e2,e3,e4,e5⟩:=M.env
 have y1:=e2.1 (1,J0a nm,vN) (by simp)
 have ne:¬n0=n∧¬k=n∧¬n0=n+1∧¬n+1=n0∧¬k=n0∧¬n0=k:=by
  refine ⟨by omega,by omega,by omega,by omega,?_,?_⟩
  ·rintro rfl;rw [hkb] at e1;simp at e1
  ·rintro rfl;rw [hkb] at e1;simp at e1
 have frn:∀ id,id<n→¬id=n∧¬id=n+1:=by intro id _;omega
 simp [Kak,s4,s12,e1,hkb,J07]
 refine J3w (rows:=J0a nm) (rows2:=[[.str q.Head],[.str q.Tail]]) (y1.keep (n':=n+1) (by omega) fun id _ hid _=>by simp [frn id hid]) (by simp) (fun l e=>by have:=(y1.lt e).2.1;omega) (by omega) (by simp [J0a];unfold LIM;omega) ?_
 intro h1 f1 f2
 have g0:h1 n0=some ⟨true,2,[[vN,vL]]⟩:=by rw [f2 n0 (by omega) (by omega) fun l e=>y1.not_box e1 e];simp [ne,e1]
 simp [g0,s4]
 refine hK _ _ _ (by simp) (by omega) ?_ (M.names (vN' := .ref (n+1) 0 (nm.length+2)) e1 (by simp [J0a]) (by omega) (.inr ⟨n+1,by omega,by omega,by simp [J0a],by simp [ne,f1,J0a]⟩) (fun i k e=>by simp only [AV.ref.injEq] at e;omega) ?_)
 ·intro id z rows h1' h2' h3'
  simp [h2',f2 id (by omega) (by omega) fun l e=>y1.not_box h3' e,frn id h1']
 ·intro id h1' h2' h3'
  simp [h2',f2 id (by omega) (by omega) h3',frn id h1']
theorem Juh {l0:DLin}{k at':Nat}(s2:s 2 = .int .i64 at') (s3:s 3 = .int .i64 N) (s4:s 4 = .ptr n0 0 0) (s13:s 13 = .ptr k 0 0) (M:RI b n0 vN0 vL0 h0 r nm ls R v10 h n) (hb:b<n0) (hkn:k<n) (hkb:h k=some ⟨true,2,[J05 l0]⟩) (hk0:k≠n0) (hl:ls.length≤1048576) (hl0:l0.Coeffs.length≤1048576)
 (hK:∀ s' h' n',(∀ j∈[2,3,5,8,9,10,11,12,13,4],s' j=s j)→n≤n'→(∀ id z rows,id<n→id≠n0→h id=some ⟨true,z,rows⟩→h' id=h id)→RI b n0 vN0 vL0 h0 r nm (ls++[J37 at' N,J56 l0 1]) R v10 h' n'→J2u Tryz.prog ks .normal s' h' n' Q):rC Tryz.prog K9m ks s h n Q:=by
 have l1:=M.lt
 obtain ⟨vN,vL,e1,e2,e3,e4,e5⟩:=M.env
 have y1:=e2.1 (2,ls.map J05,vL) (by simp)
 have ne:¬n0=n∧¬k=n∧¬n0=n+1∧¬n0=n+1+1∧¬n0=n+2∧¬k=n+1∧¬n=n+1∧¬n+1=n:=by omega
 have frn:∀ id,id<n→¬id=n∧¬id=n+1∧¬id=n+1+1∧¬id=n+2∧¬id=n+3:=by intro id _;omega
 simp [K9m,s2,s3,s4,s13,e1,hkb]
 refine Jcx (J7i at' N) (by simp) ?_
 rintro _ rfl
 simp [ne,e1]
 refine Jcx (Jax l0 1 hl0) (by simp) ?_
 rintro _ rfl
 simp [ne,e1,s4]
 have ne2:¬n+1+1=n0∧¬n+1=n0∧¬n+2=n0∧¬n0=n+1+1:=by omega
 refine J3w (rows:=ls.map J05) (rows2:=[J05 (J37 at' N),J05 (J56 l0 1)]) (y1.keep (n':=n+1) (by omega) fun id _ hid _=>by simp [frn id hid]) (by simp) (fun l e=>by have:=(y1.lt e).2.1;omega) (by omega) (by simp;unfold LIM;omega) ?_
 intro h1 f1 f2
 have g0:h1 n0=some ⟨true,2,[[vN,vL]]⟩:=by rw [f2 n0 (by omega) (by omega) fun l e=>y1.not_box e1 e];simp [ne,e1]
 simp [g0,s4]
 refine hK _ _ _ (by simp) (by omega) ?_ (M.lins (vL' := .ref (n+1) 0 (ls.length+2)) e1 (by simp) (by omega) (.inr ⟨n+1,by omega,by omega,by simp,by simp [ne2,f1]⟩) (fun i k e=>by simp only [AV.ref.injEq] at e;omega) ?_)
 ·intro id z rows h1' h2' h3'
  simp [h2',f2 id (by omega) (by omega) fun l e=>y1.not_box h3' e,frn id h1']
 ·intro id h1' h2' h3'
  simp [h2',f2 id (by omega) (by omega) h3',frn id h1']
end
section
variable {ks:List Kt}{s:Env}{h:Heap}{n N:Nat}{Q:Fin}{b n0:Nat}{vN0 vL0:AV}{h0:Heap}{r:DRule}
def RJ (N b n0:Nat) (vN0 vL0:AV) (h0:Heap) (r:DRule) (E0:SEnv) (T:MS) (i:Nat) (s:Env) (h:Heap) (m:Nat):Prop:=
 ∃ ms:MS,(r.Patterns.drop i).foldl (J62 N) ms=T∧s 2 = .int .i64 ms.nx∧RI b n0 vN0 vL0 h0 r (J1d ms.E) (J3h ms.E) ms.rows (s 10) h m∧ms.nx≤1000+i∧ms.E.length≤1000+2*i∧ms.rows.length≤i∧(∀ x∈J1d E0,x∈J1d ms.E)∧∀ e∈ms.E,e.2.Coeffs.length≤8
theorem Jsr (E F:SEnv):J1d (E++F)=J1d E++J1d F:=by simp [J1d]
theorem Joo {E:SEnv}{x:Str}{d:DLin}(h:∀ e∈E,e.2.Coeffs.length≤8) (hx:x∈J1d E):(J38 d E x).Coeffs.length≤8:=by
 obtain ⟨l,h1,h2⟩:=Jfb d hx
 have:=h2 d []
 rw [List.append_nil] at this
 rw [this];exact h _ h1
theorem K09 {E0:SEnv}{T:MS}(s3:s 3 = .int .i64 N) (s4:s 4 = .ptr n0 0 0) (s5:s 5 = .ptr (n0+1) 0 0) (hb:b<n0) (hN:N≤8) (hp:r.Patterns.length≤100) (hin:∀ q∈r.Patterns,q.Lst∈J1d E0) (J:RJ N b n0 vN0 vL0 h0 r E0 T 0 s h n)
 (hK:∀ s' h' m,(∀ j∈[3,4,5,8,9],s' j=s j)→RI b n0 vN0 vL0 h0 r (J1d T.E) (J3h T.E) T.rows (s' 10) h' m→J2u Tryz.prog ks .normal s' h' m Q):rC Tryz.prog ro2 ks s h n Q:=by
 simp [ro2]
 refine J0l [3,4,5,8,9] 11 r.Patterns.length (RJ N b n0 vN0 vL0 h0 r E0 T) (by unfold LIM;omega) (by simp) (by simpa [RJ] using J) ?_ ?_
 ·rintro i st h' m R hi hg hk s11 hw ⟨ms,hJ,t2,M,hb1,hb2,hb3,hb4,hb5⟩ hR _ _
  simp at hk
  rw [List.drop_eq_getElem_cons hi,List.foldl_cons] at hJ
  have hin:=hin _ (List.getElem_mem hi)
  have l1:=M.lt
  refine J0b (J0i [2,3,4,5,8,9,10,11] (fun s=>s 21 = .bool true) (by simp [hk,s11,s5,M.hr,J0c,hi]) ?_)
  intro st1 hk1 s21
  simp at hk1
  refine J25 s21 (J0b (J1h ?_))
  refine J1n [2,3,4,5,8,9,10,11] (fun s h2 m2=>m2=m+1∧s 12 = .ptr m 0 0∧h2 m=some ⟨true,4,[J07 (r.Patterns[i]'hi)]⟩∧∀ id,id<m→h2 id=h' id) ?_ ?_
  ·have fr:∀ id,id<m→¬id=m:=by intro id _;omega
   simp [hk1,hk,s11,s5,M.hr,J0c,J07,hi]
   exact fun id hid=>by simp [fr id hid]
  rintro st2 h2 m2 hk2 ⟨rfl,s12,em,hfr2⟩
  simp at hk2
  generalize r.Patterns[i]=q at *
  have M2:=M.frame (h':=h2) (m':=m+1) (by omega) hfr2
  have u10:st2 10=st 10:=by rw [hk2.2.2.2.2.2.2.1,hk1.2.2.2.2.2.2.1]
  have hx:q.Lst∈J1d ms.E:=hb4 _ hin
  have hl8:=Joo (d:=J09 0 N) hb5 hx
  have hsl:Jku N ms q=J56 (J38 (J09 0 N) ms.E q.Lst) 1:=rfl
  have hsp:J62 N ms q=if q.Cons then ⟨ms.E++[(q.Head,J37 ms.nx N),(q.Tail,J56 (J38 (J09 0 N) ms.E q.Lst) 1)],ms.nx+1,ms.rows++[J56 (J38 (J09 0 N) ms.E q.Lst) 1],ms.pars,ms.args⟩
   else ⟨ms.E,ms.nx,ms.rows++[J8m (J09 0 N) (-1) (J38 (J09 0 N) ms.E q.Lst)],ms.pars,ms.args⟩:=rfl
  rw [hsp] at hJ
  refine J1n [2,3,4,5,8,9,10,11,12] (fun s h3 m3=>∃ k,s 13 = .ptr k 0 0∧m+1≤k∧k<m3∧h3 k=some ⟨true,2,[J05 (J38 (J09 0 N) ms.E q.Lst)]⟩∧h3 m=some ⟨true,4,[J07 q]⟩∧RI b n0 vN0 vL0 h0 r (J1d ms.E) (J3h ms.E) ms.rows (st 10) h3 m3) ?_ ?_
  ·obtain ⟨vN,vL,e1,e2,e3,e4,e5⟩:=M2.env
   have w4:st2 4 = .ptr n0 0 0:=by rw [hk2.2.2.1,hk1.2.2.1,hk.2.1,s4]
   have w3:st2 3 = .int .i64 N:=by rw [hk2.2.1,hk1.2.1,hk.1,s3]
   simp [w4,w3,s12,em,e1,J07]
   refine Jm8 (d:=J09 0 N) (.inr ⟨b,e2.1 (1,J0a (J1d ms.E),vN) (by simp)⟩) (.inr ⟨b,e2.1 (2,(J3h ms.E).map J05,vL) (by simp)⟩) hx ?_
   intro h3 m3 hm3 hfr3
   have fr:∀ id,id<m3→¬id=m3:=by intro id _;omega
   have em3:=hfr3 m (by omega)
   rw [em] at em3
   simp
   exact ⟨by omega,by simp [fr m (by omega),em3,J07],M2.frame (by omega) fun id hid=>by simp [fr id (by omega),hfr3 id hid]⟩
  rintro st3 h3 m3 hk3 ⟨k,s13,hkm,hkn,hkb,em3,M3⟩
  simp at hk3
  generalize J38 (J09 0 N) ms.E q.Lst=l0 at *
  have v3:st3 3 = .int .i64 N:=by rw [hk3.2.1,hk2.2.1,hk1.2.1,hk.1,s3]
  have v4:st3 4 = .ptr n0 0 0:=by rw [hk3.2.2.1,hk2.2.2.1,hk1.2.2.1,hk.2.1,s4]
  have v12:st3 12 = .ptr m 0 0:=by rw [hk3.2.2.2.2.2.2.2.2,s12]
  have v10:st3 10=st 10:=by rw [hk3.2.2.2.2.2.2.1,u10]
  have kk:st3 2=st 2∧st3 3=st 3∧st3 4=st 4∧st3 5=st 5∧st3 8=st 8∧st3 9=st 9∧st3 11=st 11:=by simp [hk3,hk2,hk1]
  rw [←v10] at M3
  refine J0b ?_
  refine J0i [2,3,4,5,8,9,10,11,12,13] (fun s=>s 36 = .bool (!q.Cons)) (by simp [v12,em3,J07]) ?_
  intro st4 hk4 s36
  simp at hk4
  cases hc:q.Cons
  ·rw [hc] at hJ s36
   simp only [Bool.false_eq_true,if_false] at hJ
   rw [Jjg (show ev st4 (.t 36) = .bool true from s36)]
   refine J0b (Jvg (l0:=l0) (k:=k) (by rw [hk4.2.1,v3]) (by rw [hk4.2.2.2.2.2.2.2.2.2,s13]) hkn hkb ?_)
   rintro st5 h5 m5 hk5 ⟨k5,q5,s14,o5,p5,x5,y5,z5,w5⟩ hm5 hfr5
   simp at hk5
   have M5:=M3.frame hm5 hfr5
   have l5:=M5.lt
   obtain ⟨vN,vL,e1,e2,e3,e4,e5⟩:=M5.env
   have y1:=e2.1 (2,ms.rows.map J08,st3 10) (by simp)
   have g10:st5 10=st3 10:=by rw [hk5.2.2.2.2.2.2.1,hk4.2.2.2.2.2.2.1]
   have hqv:∀ l,st3 10 ≠ .ref q5 0 l:=fun l e=>by have:=(y1.lt e).2.2.1;rw [w5] at this;simp at this
   generalize J8m (J09 0 N) (-1) l0=lr at *
   have frn:∀ id,id<m5→¬id=m5:=by intro id _;omega
   refine J6b ?_
   simp [g10,s14,z5,w5]
   generalize hv3:st3 10=v3' at *
   refine J3w (rows:=ms.rows.map J08) (rows2:=[[.int .i64 lr.Const,.us 1 (J0m lr.Coeffs)]]) (y1.keep (n':=m5+1) (by omega) fun id _ hid e => ?_) (by simp) (fun l e=>by have:=(y1.lt e).2.1;omega) (by omega) (by simp;unfold LIM;omega) ?_
   ·have:¬id=q5:=fun e'=>hqv _ (by rw [←e'];exact e)
    simp [frn id hid,this]
   intro h6 f1 f2
   simp [hk5,hk4,kk,s11,hw]
   refine hR _ _ _ (by simp [hk5,hk4,kk,hk]) (by simp) ⟨_,hJ,by simp [hk5,hk4,kk,t2],?_,by show ms.nx≤_;omega,by show ms.E.length≤_;omega,by show (ms.rows++[_]).length≤_;simp;omega,hb4,hb5⟩
   simp
   refine M3.rows (by omega) (.inr ⟨m5+1,by omega,by omega,by simp,by simp [f1,J08]⟩) (fun i k e=>by simp only [AV.ref.injEq] at e;omega) ?_
   intro id h1 h2
   have:¬id=q5:=by omega
   rw [f2 id (by omega) (by omega) h2]
   simp [this,frn id (by omega),hfr5 id h1]
  ·rw [hc] at hJ s36
   simp only [if_true] at hJ
   rw [Jno (show ev st4 (.t 36) = .bool false from s36),Jrv]
   refine J6b ?_
   have l3:=M3.lt
   obtain ⟨vN,vL,e1,e2,e3,e4,e5⟩:=M3.env
   have y1:=e2.1 (2,ms.rows.map J08,st3 10) (by simp)
   have x13:st4 13 = .ptr k 0 0:=by rw [hk4.2.2.2.2.2.2.2.2.2,s13]
   have x10:st4 10=st3 10:=by rw [hk4.2.2.2.2.2.2.1]
   have frn:∀ id,id<m3→¬id=m3∧¬id=m3+1:=by intro id _;omega
   refine J1n [2,3,4,5,8,9,11,12,13] (fun s h5 m5=>m3≤m5∧h5 k=some ⟨true,2,[J05 l0]⟩∧h5 m=some ⟨true,4,[J07 q]⟩∧RI b n0 vN0 vL0 h0 r (J1d ms.E) (J3h ms.E) (ms.rows++[J56 l0 1]) (s 10) h5 m5) ?_ ?_
   ·simp [x10,x13,hkb]
    first|refine J01 (Jax l0 1 (by omega)) (by first|simp;done|rfl) ?_|refine J02 (Jax l0 1 (by omega)) (by first|simp;done|rfl) ?_
    rintro r rfl
    generalize J56 l0 1=lm at *
    simp [J08]
    generalize hv3:st3 10=v3' at *
    refine J3w (rows:=ms.rows.map J08) (rows2:=[[.int .i64 lm.Const,.us 1 (J0m lm.Coeffs)]]) (y1.keep (n':=m3+1+1) (by omega) fun id _ hid e=>by simp [frn id hid]) (by simp) (fun l e=>by have:=(y1.lt e).2.1;omega) (by omega) (by simp;unfold LIM;omega) ?_
    intro h6 f1 f2
    have bx:∀ id z rows,id<m3→h3 id=some ⟨true,z,rows⟩→h6 id=h3 id:=by
     intro id z rows h1' h3'
     rw [f2 id (by omega) (by omega) fun l e=>y1.not_box h3' e]
     simp [frn id h1']
    simp
    refine ⟨by omega,by rw [bx k _ _ hkn hkb,hkb],by rw [bx m _ _ (by omega) em3,em3],M3.rows (by omega) (.inr ⟨m3+2,by omega,by omega,by simp,by simp [f1,J08]⟩) (fun i k e=>by simp only [AV.ref.injEq] at e;omega) ?_⟩
    intro id h1 h2
    rw [f2 id (by omega) (by omega) h2]
    simp [frn id (by omega)]
   rintro st5 h5 m5 hk5 ⟨hm5,hkb5,em5,M5⟩
   simp at hk5
   have hkl:ms.E.length≤100000:=by
    have:i<r.Patterns.length:=hi
    omega
   have hkn0:k≠n0:=by omega
   refine J0b (Ju5 (q:=q) (k:=m) (by rw [hk5.2.2.1,hk4.2.2.1,v4]) (by rw [hk5.2.2.2.2.2.2.2.1,hk4.2.2.2.2.2.2.2.2.1,v12]) M5 hb (by omega) em5 (by simp [J1d];omega) ?_)
   intro st6 h6 m6 hk6 hm6 bx6 M6
   simp at hk6
   refine J6b (J0b (Juh (ls:=J3h ms.E) (l0:=l0) (k:=k) (at':=ms.nx) (by rw [hk6.1,hk5.1,hk4.1,kk.1,t2]) (by rw [hk6.2.1,hk5.2.1,hk4.2.1,v3]) (by rw [hk6.2.2.2.2.2.2.2.2.2,hk5.2.2.1,hk4.2.2.1,v4]) (by rw [hk6.2.2.2.2.2.2.2.2.1,hk5.2.2.2.2.2.2.2.2,x13]) M6 hb (by omega) (by rw [bx6 k _ _ (by omega) hkn0 hkb5,hkb5]) hkn0 (by simp [J3h];omega) (by omega) ?_))
   intro st7 h7 m7 hk7 hm7 bx7 M7
   simp at hk7
   have hw2:IntKind.i64.wrap ((ms.nx:Int)+1)=(ms.nx:Int)+1:=J0r (by omega)
   have z2:st7 2 = .int .i64 ms.nx:=by rw [hk7.1,hk6.1,hk5.1,hk4.1,kk.1,t2]
   simp [hk7,hk6,hk5,hk4,kk,s11,hw,t2,hw2]
   refine hR _ _ _ (by simp [hk7,hk6,hk5,hk4,kk,hk]) (by simp) ⟨_,hJ,by simp,?_,by show ms.nx+1≤_;omega,by show (ms.E++_).length≤_;simp;omega,by show (ms.rows++[_]).length≤_;simp;omega,?_,?_⟩
   ·have hkE:J1d (ms.E++[(q.Head,J37 ms.nx N),(q.Tail,J56 l0 1)])=J1d ms.E++[q.Head,q.Tail]:=by simp [J1d]
    have hvE:J3h (ms.E++[(q.Head,J37 ms.nx N),(q.Tail,J56 l0 1)])=J3h ms.E++[J37 ms.nx N,J56 l0 1]:=by simp [J3h]
    simp only
    rw [hkE,hvE]
    have:st7 10=st5 10:=by rw [hk7.2.2.2.2.2.1,hk6.2.2.2.2.2.1]
    simp
    rw [this]
    exact M7
   ·intro x hx
    show x∈J1d (ms.E++_)
    rw [Jsr];exact List.mem_append_left _ (hb4 x hx)
   ·intro e he
    rcases List.mem_append.1 he with he|he
    ·exact hb5 e he
    ·simp at he
     rcases he with rfl|rfl
     ·exact J6u N (by omega)
     ·exact hl8
 ·rintro st h' m R hk s11 ⟨ms,hJ,t2,M,hb1,hb2,hb3,hb4,hb5⟩ _ hX
  simp at hk
  rw [List.drop_eq_nil_of_le (by omega)] at hJ
  simp only [List.foldl_nil] at hJ
  subst hJ
  refine J0b (J0i [3,4,5,8,9,10] (fun s=>s 21 = .bool false) (by simp [hk,s11,s5,M.hr,J0c]) ?_)
  intro st1 hk1 s21
  simp at hk1
  refine J29 s21 ?_
  refine hX _ _ _ _ ?_
  simp
  refine hK _ _ _ (by simp [hk1,hk]) ?_
  rw [hk1.2.2.2.2.2];exact M
end
section
variable {h h':Heap}{n n' N:Nat}{b:Nat}{r:DRule}
theorem Jgl.keepB {l:List (Nat×List (List AV)×AV)}(A:Jgl b l h n) (hn:n≤n') (hh:∀ id,b<id→id<n→(∃ z rows,h id=some ⟨false,z,rows⟩)→h' id=h id):Jgl b l h' n':=
 ⟨fun x hx=>(A.1 x hx).keep hn fun id hb hid e=>hh id hb hid ⟨_,_,((A.1 x hx).lt e).2.2.1⟩,A.2⟩
theorem Jqh {E0:SEnv}{vN0 vL0:AV}{at':Nat}(A:Jgl b [(1,J0a (J1d E0),vN0),(2,(J3h E0).map J05,vL0)] h n) (hb:b<n) (hN:N≤8) (hat:at'≤1000) (hE:E0.length≤1000) (hp:r.Patterns.length≤100) (hin:∀ q∈r.Patterns,q.Lst∈J1d E0) (hv:∀ e∈E0,e.2.Coeffs.length≤8)
 {K:AV→Heap→Nat→Prop}(hK:∀ vN vL vR h' n',n≤n'→(∀ id,id<n→(∀ k,vN0 ≠ .ref id 0 k)→(∀ k,vL0 ≠ .ref id 0 k)→h' id=h id) →
  Jgl b [(1,J0a (J1d (r.Patterns.foldl (J62 N) ⟨E0,at',[],[],[]⟩).E),vN),(2,(J3h (r.Patterns.foldl (J62 N) ⟨E0,at',[],[],[]⟩).E).map J05,vL),(2,(r.Patterns.foldl (J62 N) ⟨E0,at',[],[],[]⟩).rows.map J08,vR)] h' n' →
  Old vN0 vN n→Old vL0 vL n→Old (.nil 2) vR n→K (.tup [.agg [vN,vL],vR]) h' n') :
 J2c Tryz.prog 266 [.agg [vN0,vL0],.agg (J0c r),i64 at',i64 N] h n K:=by
 refine J17 Tryz.func266 a266_ok rfl (by simp [a266]) ?_
 have cN:=(A.1 (1,J0a (J1d E0),vN0) (by simp)).cell
 have cL:=(A.1 (2,(J3h E0).map J05,vL0) (by simp)).cell
 have ne:¬n=n+1∧¬n+1=n∧¬n=n+1+1∧¬n=n+1+1+1∧¬n+1=n+1+1∧¬n+1=n+1+1+1∧¬n+1+1=n+1+1+1∧¬n+2=n+1+1+1∧¬n+3=n:=by omega
 have fr:∀ id,id<n→¬id=n∧¬id=n+1∧¬id=n+1+1∧¬id=n+1+1+1∧¬id=n+2∧¬id=n+3:=by intro id _;omega
 simp [a266,ro0,ro1,-J0x,cN,cL]
 generalize hT:r.Patterns.foldl (J62 N) ⟨E0,at',[],[],[]⟩=T at hK
 refine K09 (E0:=E0) (T:=T) (b:=b) (n0:=n) (vN0:=vN0) (vL0:=vL0) (h0:=h) (r:=r) (N:=N) (by simp) (by simp) (by simp) hb hN hp hin ?_ ?_
 ·refine ⟨⟨E0,at',[],[],[]⟩,by simpa using hT,by simp,⟨by omega,by simp [ne],by simp [ne],fun id h1 _ _=>by simp [fr id h1],vN0,vL0,by simp [ne],?_,.inl rfl,.inl rfl,?_⟩,by omega,by simpa using hE,by simp,fun x hx=>hx,hv⟩
  ·obtain ⟨A1,A2⟩:=A
   simp only [List.pairwise_cons,List.mem_cons,List.not_mem_nil,or_false,forall_eq] at A2
   have y1:=A1 (1,J0a (J1d E0),vN0) (by simp)
   have y2:=A1 (2,(J3h E0).map J05,vL0) (by simp)
   refine ⟨?_,?_⟩
   ·intro x hx
    simp only [List.mem_cons,List.not_mem_nil,or_false] at hx
    rcases hx with rfl|rfl|rfl
    ·exact y1.keep (by omega) fun id _ hid _=>by simp [fr id hid]
    ·exact y2.keep (by omega) fun id _ hid _=>by simp [fr id hid]
    ·simp
     exact .inr ⟨n+3,by omega,by omega,by simp,by simp [ne]⟩
   ·simp only [List.pairwise_cons,List.mem_cons,List.not_mem_nil,or_false,forall_eq_or_imp,forall_eq]
    refine ⟨⟨A2.1,?_⟩,?_,?_⟩
    ·intro i k l e1 e2
     simp at e2
     have:=(y1.lt e1).2.1;omega
    ·intro i k l e1 e2
     simp at e2
     have:=(y2.lt e1).2.1;omega
    ·simp
  ·simp
   exact .fresh (by omega)
 intro s' h1 m hk1 M
 simp at hk1
 have l1:=M.lt
 obtain ⟨vN,vL,e1,e2,e3,e4,e5⟩:=M.env
 have dN:=(e2.1 (1,J0a (J1d T.E),vN) (by simp)).cell
 have dL:=(e2.1 (2,(J3h T.E).map J05,vL) (by simp)).cell
 have M8:=M.hz
 refine J6b ?_
 simp [ro3,hk1,e1,-J0x,dN,dL,M8]
 refine hK _ _ _ _ _ (by omega) ?_ ?_ e3 e4 e5
 ·intro id h1' h2 h3
  simp [fr id h1',M.fr id h1' h2 h3]
 ·refine e2.keepB (Nat.le_refl _) fun id _ _ hf => ?_
  have:¬id=n+2:=by
   rintro rfl
   obtain ⟨z,rows,hf⟩:=hf
   rw [M8] at hf;simp at hf
  simp [this]
end
def lm0:AC:=(.reg [Zo 2 (.boxv (.t 0)),Zo 4 (.box [(.int .i64 0),(.nil 2),(.nil 2),(.nil 1),(.int .i64 0),(.nil 1)])])
def lm1:AC:=(.reg [Zf 23 1 2,Zl 24 false 1 23,Zv 25 1,Zo 26 (.ixa 7 (.t 24) (.t 25)),Zl 27 true 7 26,Zo 5 (.box [(.str []),(.nil 4),(.nil 2),(.nil 3),(.bool false),(.nil 2),(.str [])]),⟨no,.st 7 (.t 5) (.t 27),no⟩])
def lm2:AC:=(.reg [Zl 29 true 2 2,Zf 30 0 5,Zl 31 false 1 30,Zc 32 172 [.t 29,.t 31],Zv 28 32,Zo 33 (.ext (.t 28) 0),Zo 34 (.ext (.t 28) 1),Zo 6 (.box [(.str []),(.nil 1),(.bool false),(.nil 2)]),⟨no,.st 4 (.t 6) (.t 33),no⟩,Zv 7 34])
def lm3:AC:=(.reg [Zf 35 1 6,Zl 36 false 1 35,Zo 37 (.len false (.t 36)),Zv 8 37])
def lm4:AC:=(.draw (.op (Zv 38 8) (.op (Zf 39 1 5) (.op (Zl 40 false 1 39) (.op (Zf 43 3 5) (.op (Zl 44 false 1 43) (.op (Zo 45 (.len false (.t 44))) (.op (Zc 41 265 [.t 40]) (.op (Zo 42 (.bin .add (.t 38) (.t 41))) (.op (Zo 46 (.bin .add (.t 42) (.t 45))) (.op (Zv 9 46) .fin)))))))))))
def lm5:AC:=(.reg [Zv 47 9,Zl 48 true 4 6,Zv 49 9,Zc 50 180 [.t 48,.t 49],Zo 51 (.build [(.int .i64 0),(.nil 2)] [(0,(1,(.t 47))),(1,(1,(.t 50)))]),Zo 52 (.build [(.int .i64 0),(.nil 2),(.nil 2),(.nil 1),(.int .i64 0),(.nil 1)] [(0,(2,(.t 51)))]),Zo 10 (.box [(.int .i64 0),(.nil 2),(.nil 2),(.nil 1),(.int .i64 0),(.nil 1)]),⟨no,.st 6 (.t 10) (.t 52),no⟩])
def lm6:AC:=(.reg [Zo 53 (.build [(.nil 1),(.nil 2)] []),Zo 11 (.box [(.nil 1),(.nil 2)]),⟨no,.st 2 (.t 11) (.t 53),no⟩])
def Kc0:AC:=(.draw (.op (Zf 59 0 11) (.op (Zl 60 false 1 59) (.op (Zf 61 1 6) (.op (Zl 62 false 1 61) (.op (Zv 63 12) (.op (Zo 64 (.ixa 1 (.t 62) (.t 63))) (.op (Zl 65 false 1 64) (.hop (Zo 66 (.bsl 1 [.t 65])) [(.ld false 1 (.t 59)),(.fld 0 (.t 11))] (.hop (Zo 67 (.app 16 1 (.t 60) (.t 66))) [] (.op (Zf 68 0 11) (.hop ⟨no,.st 1 (.t 68) (.t 67),no⟩ [] .fin))))))))))))
def Kbb:AC:=(.draw (.op (Zf 69 1 11) (.op (Zl 70 false 1 69) (.op (Zv 71 12) (.op (Zv 72 9) (.op (Zc 73 261 [.t 71,.t 72]) (.hop (Zo 74 (.bsl 2 [.t 73])) [(.ld false 1 (.t 69)),(.fld 1 (.t 11))] (.hop (Zo 75 (.app 32 2 (.t 70) (.t 74))) [] (.op (Zf 76 1 11) (.hop ⟨no,.st 1 (.t 76) (.t 75),no⟩ [] .fin))))))))))
def Kah:AC:=(.draw (.op (Zf 77 2 10) (.op (Zl 78 false 1 77) (.op (Zv 79 12) (.op (Zv 80 9) (.op (Zc 81 261 [.t 79,.t 80]) (.hop (Zo 82 (.bsl 2 [.t 81])) [(.ld false 1 (.t 77)),(.fld 2 (.t 10))] (.hop (Zo 83 (.app 32 2 (.t 78) (.t 82))) [] (.op (Zf 84 2 10) (.hop ⟨no,.st 1 (.t 84) (.t 83),no⟩ [] .fin))))))))))
def lm7:AC:=(.seq (.reg [Zo 12 (.mv (.k (.int .i64 0)))]) (.blk 0 (.loop (.seq (.seq (.reg [Zv 54 12,Zv 55 8,Zo 56 (.bin .lss (.t 54) (.t 55))]) (.cond (.t 56) .skip (.exit 0))) (.seq (.blk 1 (.seq Kc0 (.seq Kbb Kah))) (.reg [Zv 57 12,Zo 58 (.bin .add (.t 57) (.k (.int .i64 1))),Zv 12 58]))))))
def lm8:AC:=(.reg [Zl 86 true 2 11,Zl 87 true 7 5,Zv 88 8,Zv 89 9,Zc 90 266 [.t 86,.t 87,.t 88,.t 89],Zv 85 90,Zo 91 (.ext (.t 85) 0),Zo 92 (.ext (.t 85) 1),⟨no,.st 2 (.t 11) (.t 91),no⟩,Zv 13 92])
def lm9:AC:=(.reg [Zf 93 0 10,Zf 94 1 93,Zl 95 false 1 94,Zv 96 13,Zo 97 (.app 32 2 (.t 95) (.t 96)),Zf 98 0 10,Zf 99 1 98,⟨no,.st 1 (.t 99) (.t 97),no⟩])
def K0k:AC:=(.draw (.op (Zl 108 true 2 11) (.op (Zf 109 2 5) (.op (Zl 110 false 1 109) (.op (Zv 111 14) (.op (Zo 112 (.ixa 2 (.t 110) (.t 111))) (.op (Zl 113 true 2 112) (.op (Zv 114 9) (.both (.op (Zc 115 267 [.t 108,.t 113,.t 114]) (.op (Zv 107 115) (.op (Zo 116 (.ext (.t 107) 0)) (.op (Zo 117 (.ext (.t 107) 1)) (.op (Zo 15 (.box [(.int .i64 0),(.nil 1)])) (.hop ⟨no,.st 2 (.t 15) (.t 116),no⟩ [] (.op (Zv 16 117) .fin))))))) (.op (Zo 15 (.box [(.int .i64 0),(.nil 1)])) (.op (Zc 115 267 [.t 108,.t 113,.t 114]) (.op (Zv 107 115) (.op (Zo 116 (.ext (.t 107) 0)) (.op (Zo 117 (.ext (.t 107) 1)) (.hop ⟨no,.st 2 (.t 15) (.t 116),no⟩ [] (.op (Zv 16 117) .fin))))))))))))))))
def Jyx:AC:=(.reg [Zf 118 0 10,Zf 119 1 118,Zl 120 false 1 119,Zl 121 true 2 15,Zo 122 (.bsl 2 [.t 121]),Zo 123 (.app 32 2 (.t 120) (.t 122)),Zf 124 0 10,Zf 125 1 124,⟨no,.st 1 (.t 125) (.t 123),no⟩])
def Kb9:AC:=(.seq (.reg [Zo 14 (.mv (.k (.int .i64 0)))]) (.blk 2 (.loop (.seq (.seq (.reg [Zv 100 14,Zf 101 2 5,Zl 102 false 1 101,Zo 103 (.len false (.t 102)),Zo 104 (.bin .lss (.t 100) (.t 103))]) (.cond (.t 104) .skip (.exit 2))) (.seq (.blk 3 (.seq K0k  Jyx)) (.reg [Zv 105 14,Zo 106 (.bin .add (.t 105) (.k (.int .i64 1))),Zv 14 106]))))))
def Jzt:AC:=(.draw (.op (Zl 146 true 2 11) (.op (Zf 147 3 5) (.op (Zl 148 false 1 147) (.op (Zv 149 17) (.op (Zo 150 (.ixa 3 (.t 148) (.t 149))) (.op (Zf 151 2 150) (.op (Zl 152 false 1 151) (.op (Zv 153 19) (.op (Zo 154 (.ixa 3 (.t 152) (.t 153))) (.op (Zl 155 true 3 154) (.op (Zv 156 9) (.both (.op (Zc 157 268 [.t 146,.t 155,.t 156]) (.op (Zv 145 157) (.op (Zo 158 (.ext (.t 145) 0)) (.op (Zo 159 (.ext (.t 145) 1)) (.op (Zo 20 (.box [(.int .i64 0),(.nil 1)])) (.hop ⟨no,.st 2 (.t 20) (.t 158),no⟩ [] (.op (Zv 21 159) .fin))))))) (.op (Zo 20 (.box [(.int .i64 0),(.nil 1)])) (.op (Zc 157 268 [.t 146,.t 155,.t 156]) (.op (Zv 145 157) (.op (Zo 158 (.ext (.t 145) 0)) (.op (Zo 159 (.ext (.t 145) 1)) (.hop ⟨no,.st 2 (.t 20) (.t 158),no⟩ [] (.op (Zv 21 159) .fin))))))))))))))))))))
def K5e:AC:=(.reg [Zv 160 18,Zl 161 true 2 20,Zo 162 (.bsl 2 [.t 161]),Zo 163 (.app 32 2 (.t 160) (.t 162)),Zv 18 163])
def Jyr:AC:=(.seq (.reg [Zo 19 (.mv (.k (.int .i64 0)))]) (.blk 6 (.loop (.seq (.seq (.reg [Zv 134 19,Zf 135 3 5,Zl 136 false 1 135,Zv 137 17,Zo 138 (.ixa 3 (.t 136) (.t 137)),Zf 139 2 138,Zl 140 false 1 139,Zo 141 (.len false (.t 140)),Zo 142 (.bin .lss (.t 134) (.t 141))]) (.cond (.t 142) .skip (.exit 6))) (.seq (.blk 7 (.seq Jzt  K5e)) (.reg [Zv 143 19,Zo 144 (.bin .add (.t 143) (.k (.int .i64 1))),Zv 19 144]))))))
def K0i:AC:=(.reg [Zf 164 3 10,Zl 165 false 1 164,Zv 166 18,Zo 167 (.bsl 1 [.t 166]),Zo 168 (.app 24 1 (.t 165) (.t 167)),Zf 169 3 10,⟨no,.st 1 (.t 169) (.t 168),no⟩])
def Jyd:AC:=(.draw (.op (Zf 179 0 11) (.op (Zl 180 false 1 179) (.op (Zf 181 3 5) (.op (Zl 182 false 1 181) (.op (Zv 183 17) (.op (Zo 184 (.ixa 3 (.t 182) (.t 183))) (.op (Zf 185 0 184) (.op (Zl 186 false 1 185) (.hop (Zo 187 (.bsl 1 [.t 186])) [(.ld false 1 (.t 179)),(.fld 0 (.t 11))] (.hop (Zo 188 (.app 16 1 (.t 180) (.t 187))) [] (.op (Zf 189 0 11) (.hop ⟨no,.st 1 (.t 189) (.t 188),no⟩ [] .fin)))))))))))))
def Jyj:AC:=(.reg [Zf 190 1 11,Zl 191 false 1 190,Zl 192 true 2 22,Zo 193 (.bsl 2 [.t 192]),Zo 194 (.app 32 2 (.t 191) (.t 193)),Zf 195 1 11,⟨no,.st 1 (.t 195) (.t 194),no⟩])
def Jy0:AC:=(.draw (.op (Zf 203 0 10) (.op (Zf 204 1 203) (.op (Zl 205 false 1 204) (.op (Zl 206 true 2 22) (.op (Zc 207 82 [.t 206]) (.hop (Zo 208 (.bsl 2 [.t 207])) [(.ld false 1 (.t 204)),(.fld 1 (.t 203)),(.fld 0 (.t 10))] (.hop (Zo 209 (.app 32 2 (.t 205) (.t 208))) [] (.op (Zf 210 0 10) (.op (Zf 211 1 210) (.hop ⟨no,.st 1 (.t 211) (.t 209),no⟩ [] .fin)))))))))))
def Kbe:AC:=(.seq (.reg [Zo 17 (.mv (.k (.int .i64 0)))]) (.blk 4 (.loop (.seq (.seq (.reg [Zv 126 17,Zf 127 3 5,Zl 128 false 1 127,Zo 129 (.len false (.t 128)),Zo 130 (.bin .lss (.t 126) (.t 129))]) (.cond (.t 130) .skip (.exit 4))) (.seq (.blk 5 (.seq (.reg [Zo 133 (.bsl 2 []),Zv 18 133]) (.seq Jyr (.seq  K0i (.seq (.reg [Zv 170 9,Zf 171 3 5,Zl 172 false 1 171,Zo 173 (.len false (.t 172)),Zo 174 (.bin .sub (.t 170) (.t 173)),Zv 175 17,Zo 176 (.bin .add (.t 174) (.t 175)),Zv 177 9,Zc 178 261 [.t 176,.t 177],Zo 22 (.box [(.int .i64 0),(.nil 1)]),⟨no,.st 2 (.t 22) (.t 178),no⟩]) (.seq Jyd (.seq  Jyj (.seq (.reg [Zf 196 3 5,Zl 197 false 1 196,Zv 198 17,Zo 199 (.ixa 3 (.t 197) (.t 198)),Zf 200 0 199,Zl 201 false 1 200,Zc 202 260 [.t 201]]) (.cond (.t 202) Jy0 .skip))))))))) (.reg [Zv 131 17,Zo 132 (.bin .add (.t 131) (.k (.int .i64 1))),Zv 17 132]))))))
def Kdu:AC:=(.reg [Zl 213 true 2 11,Zf 214 4 5,Zl 215 true 3 214,Zv 216 9,Zc 217 268 [.t 213,.t 215,.t 216],Zv 212 217,Zo 218 (.ext (.t 212) 0),Zo 219 (.ext (.t 212) 1),Zf 220 4 10,⟨no,.st 2 (.t 220) (.t 218),no⟩])
def Kd4:AC:=(.reg [Zl 221 true 6 10,⟨no,.st 6 (.t 4) (.t 221),no⟩])
def a184:AFn:=⟨222,[(.c 4 true 6)],(.seq lm0 (.seq lm1 (.seq lm2 (.seq lm3 (.seq lm4 (.seq lm5 (.seq lm6 (.seq lm7 (.seq lm8 (.seq lm9 (.seq Kb9 (.seq Kbe (.seq Kdu (.seq Kd4 .ret))))))))))))))⟩
theorem a184_ok:J06 Tryz.prog Tryz.f184=some a184:=by kernel_rfl
def SAcc (N:Nat) (nm:List Str) (ls R P:List DLin) (A:List (List DLin)) (h:Heap) (n:Nat):Prop:=∃ vN vL vR vP vA,h 8=some ⟨true,2,[[vN,vL]]⟩∧h 7=some ⟨true,6,[J5q N vR vP vA]⟩ ∧
 Jgl 5 [(1,J0a nm,vN),(2,ls.map J05,vL),(2,R.map J08,vR),(2,P.map J08,vP),(1,A.map J1u,vA)] h n
structure SI (r:DRule) (f:DFunction) (N:Nat) (nm:List Str) (ls R P:List DLin) (A:List (List DLin)) (h:Heap) (n:Nat):Prop where
 hz:h 1=some ⟨true,6,[[.int .i64 0,.nil 2,.nil 2,.nil 1,.int .i64 0,.nil 1]]⟩
 hr:h 2=some ⟨true,7,[J0c r]⟩
 h3:h 3=some ⟨false,1,J0a f.Params⟩
 hf:h 5=some ⟨true,4,[[.str f.Name,.ref 3 0 f.Params.length,.bool f.ListResult,.ref 4 0 f.Pre.length]]⟩
 lt:8<n
 acc:SAcc N nm ls R P A h n
section
variable {r:DRule}{f:DFunction}{N:Nat}{nm nm':List Str}{ls R P ls' R' P':List DLin}{A A':List (List DLin)}{h H:Heap}{n n':Nat}
theorem SI.frame (M:SI r f N nm ls R P A h n) (hn:n≤n') (hh:∀ id,id<n→H id=h id):SI r f N nm ls R P A H n':=by
 have l1:=M.lt
 obtain ⟨vN,vL,vR,vP,vA,e8,e7,AS⟩:=M.acc
 exact ⟨by rw [hh _ (by omega),M.hz],by rw [hh _ (by omega),M.hr],by rw [hh _ (by omega),M.h3],by rw [hh _ (by omega),M.hf],by omega,vN,vL,vR,vP,vA,by rw [hh _ (by omega),e8],by rw [hh _ (by omega),e7],AS.frame hn fun id _ hid=>hh id hid⟩
theorem SI.app (M:SI r f N nm ls R P A h n) {vN vL vR vP vA vN' vL' vR' vP' vA':AV}{l1 l2:List (Nat×List (List AV)×AV)}{x x':Nat×List (List AV)×AV}(hn:n≤n') (e8:h 8=some ⟨true,2,[[vN,vL]]⟩) (e7:h 7=some ⟨true,6,[J5q N vR vP vA]⟩)
 (AS:Jgl 5 (l1++x::l2) h n) (e8':H 8=some ⟨true,2,[[vN',vL']]⟩) (e7':H 7=some ⟨true,6,[J5q N vR' vP' vA']⟩) (hx:J41 5 x'.1 x'.2.1 x'.2.2 H n') (hnew:∀ i k,x'.2.2 = .ref i 0 k→n≤i)
 (hH:∀ id,id<n→id≠7→id≠8→(∀ k,x.2.2 ≠ .ref id 0 k)→H id=h id)
 (hl:l1++x'::l2=[(1,J0a nm',vN'),(2,ls'.map J05,vL'),(2,R'.map J08,vR'),(2,P'.map J08,vP'),(1,A'.map J1u,vA')]):SI r f N nm' ls' R' P' A' H n':=by
 have l1':=M.lt
 have low:∀ id,id≤5→H id=h id:=by
  intro id hid
  refine hH id (by omega) (by omega) (by omega) fun k e => ?_
  have:=((AS.1 x (by simp)).lt e).1
  omega
 refine ⟨by rw [low _ (by omega),M.hz],by rw [low _ (by omega),M.hr],by rw [low _ (by omega),M.h3],by rw [low _ (by omega),M.hf],by omega,vN',vL',vR',vP',vA',e8',e7',?_⟩
 rw [←hl]
 refine AS.step hx hnew hn fun id hb hid hf hne=>hH id hid ?_ ?_ hne
 ·rintro rfl;obtain ⟨z,rows,hf⟩:=hf;rw [e7] at hf;simp at hf
 ·rintro rfl;obtain ⟨z,rows,hf⟩:=hf;rw [e8] at hf;simp at hf
end
section
variable {ks:List Kt}{s:Env}{h h':Heap}{n N:Nat}{Q:Fin}{r:DRule}{f:DFunction}{nm:List Str}{ls R P:List DLin}{A:List (List DLin)}
theorem Jw1 {i:Nat}(hi:i<f.Params.length) (s6:s 6 = .ptr 5 0 0) (s11:s 11 = .ptr 8 0 0) (s12:s 12 = .int .i64 i) (M:SI r f N nm ls R P A h n) (hl:nm.length≤1048576)
 (hK:∀ s' h' n',(∀ j,j<59→s' j=s j)→SI r f N (nm++[f.Params[i]]) ls R P A h' n'→J2u Tryz.prog ks .normal s' h' n' Q):rC Tryz.prog Kc0 ks s h n Q:=by
 have l1:=M.lt
 obtain ⟨vN,vL,vR,vP,vA,e8,e7,AS⟩:=M.acc
 have y1:=AS.1 (1,J0a nm,vN) (by simp)
 have ne:¬8=n∧¬7=n∧¬n=7∧¬n=6∧¬n=8∧¬8=n+1∧¬7=n+1∧¬n+1=8:=by omega
 have frn:∀ id,id<n→¬id=n∧¬id=n+1:=by intro id _;omega
 have kp:∀ j,j<59→¬j=59∧¬j=60∧¬j=61∧¬j=62∧¬j=63∧¬j=64∧¬j=65∧¬j=66∧¬j=67∧¬j=68:=by intro j _;omega
 simp [Kc0,s6,s11,s12,e8,M.hf,M.h3,hi,ne]
 refine J3w (rows:=J0a nm) (rows2:=[[.str f.Params[i]]]) (y1.keep (n':=n+1) (by omega) fun id _ hid _=>by simp [frn id hid]) (by simp) (fun l e=>by have:=(y1.lt e).2.1;omega) (by omega) (by simp [J0a];unfold LIM;omega) ?_
 intro h1 f1 f2
 have g8:h1 8=some ⟨true,2,[[vN,vL]]⟩:=by rw [f2 8 (by omega) (by omega) fun l e=>y1.not_box e8 e];simp [ne,e8]
 have g7:h1 7=some ⟨true,6,[J5q N vR vP vA]⟩:=by rw [f2 7 (by omega) (by omega) fun l e=>y1.not_box e7 e];simp [ne,e7]
 simp [g8,s11]
 refine hK _ _ _ (fun j hj=>by simp [kp j hj]) (M.app (l1:=[]) (x:=(1,J0a nm,vN)) (x':=(1,J0a (nm++[f.Params[i]]),.ref (n+1) 0 (nm.length+1))) (l2:=[(2,ls.map J05,vL),(2,R.map J08,vR),(2,P.map J08,vP),(1,A.map J1u,vA)]) (by omega) e8 e7 AS (by simp [J0a]) (by simp [g7]) (.inr ⟨n+1,by omega,by omega,by simp [J0a],by simp [ne,f1,J0a]⟩) (fun i k e=>by simp only [AV.ref.injEq] at e;omega) ?_ rfl)
 intro id h1' h2' h3' h4'
 simp [h3',f2 id (by omega) (by omega) h4',frn id h1']
theorem Jwa {i:Nat}(s9:s 9 = .int .i64 N) (s11:s 11 = .ptr 8 0 0) (s12:s 12 = .int .i64 i) (M:SI r f N nm ls R P A h n) (hl:ls.length≤1048576)
 (hK:∀ s' h' n',(∀ j,j<59→s' j=s j)→SI r f N nm (ls++[J37 i N]) R P A h' n'→J2u Tryz.prog ks .normal s' h' n' Q):rC Tryz.prog Kbb ks s h n Q:=by
 have l1:=M.lt
 obtain ⟨vN,vL,vR,vP,vA,e8,e7,AS⟩:=M.acc
 have y1:=AS.1 (2,ls.map J05,vL) (by simp)
 have ne:¬8=n∧¬7=n∧¬n=7∧¬n=6∧¬n=8∧¬8=n+1∧¬7=n+1∧¬n+1=8:=by omega
 have frn:∀ id,id<n→¬id=n∧¬id=n+1:=by intro id _;omega
 have kp:∀ j,j<59→¬j=69∧¬j=70∧¬j=71∧¬j=72∧¬j=73∧¬j=74∧¬j=75∧¬j=76:=by intro j _;omega
 simp [Kbb,s9,s11,s12,e8]
 refine Jcx (J7i i N) (by simp) ?_
 rintro _ rfl
 simp [e8,ne,s11]
 refine J3w (rows:=ls.map J05) (rows2:=[J05 (J37 i N)]) (y1.keep (n':=n+1) (by omega) fun id _ hid _=>by simp [frn id hid]) (by simp) (fun l e=>by have:=(y1.lt e).2.1;omega) (by omega) (by simp;unfold LIM;omega) ?_
 intro h1 f1 f2
 have g8:h1 8=some ⟨true,2,[[vN,vL]]⟩:=by rw [f2 8 (by omega) (by omega) fun l e=>y1.not_box e8 e];simp [ne,e8]
 have g7:h1 7=some ⟨true,6,[J5q N vR vP vA]⟩:=by rw [f2 7 (by omega) (by omega) fun l e=>y1.not_box e7 e];simp [ne,e7]
 simp [g8,s11]
 refine hK _ _ _ (fun j hj=>by simp [kp j hj]) (M.app (l1:=[(1,J0a nm,vN)]) (x:=(2,ls.map J05,vL)) (x':=(2,(ls++[J37 i N]).map J05,.ref (n+1) 0 (ls.length+1))) (l2:=[(2,R.map J08,vR),(2,P.map J08,vP),(1,A.map J1u,vA)]) (by omega) e8 e7 AS (by simp) (by simp [g7]) (.inr ⟨n+1,by omega,by omega,by simp,by simp [ne,f1]⟩) (fun i k e=>by simp only [AV.ref.injEq] at e;omega) ?_ rfl)
 intro id h1' h2' h3' h4'
 simp [h3',f2 id (by omega) (by omega) h4',frn id h1']
theorem Jwf {i:Nat}(s9:s 9 = .int .i64 N) (s10:s 10 = .ptr 7 0 0) (s12:s 12 = .int .i64 i) (M:SI r f N nm ls R P A h n) (hl:P.length≤1048576)
 (hK:∀ s' h' n',(∀ j,j<59→s' j=s j)→SI r f N nm ls R (P++[J37 i N]) A h' n'→J2u Tryz.prog ks .normal s' h' n' Q):rC Tryz.prog Kah ks s h n Q:=by
 have l1:=M.lt
 obtain ⟨vN,vL,vR,vP,vA,e8,e7,AS⟩:=M.acc
 have y1:=AS.1 (2,P.map J08,vP) (by simp)
 have ne:¬8=n∧¬7=n∧¬n=7∧¬n=6∧¬n=8∧¬8=n+1∧¬7=n+1∧¬n+1=8∧¬n+1=7∧¬n=n+1∧¬n+1=n∧¬n=5:=by omega
 have frn:∀ id,id<n→¬id=n∧¬id=n+1∧¬id=n+2:=by intro id _;omega
 have kp:∀ j,j<59→¬j=77∧¬j=78∧¬j=79∧¬j=80∧¬j=81∧¬j=82∧¬j=83∧¬j=84:=by intro j _;omega
 simp [Kah,s9,s10,s12,e7,J5q]
 first|refine J01 (J7i i N) (by first|simp;done|rfl) ?_|refine J02 (J7i i N) (by first|simp;done|rfl) ?_
 rintro r rfl
 generalize J37 i N=l at *
 simp [J08,e7,ne,s10,J5q]
 refine J3w (rows:=P.map J08) (rows2:=[[.int .i64 l.Const,.us 1 (J0m l.Coeffs)]]) (y1.keep (n':=n+1+1) (by omega) fun id _ hid _=>by simp [frn id hid]) (by simp) (fun l e=>by have:=(y1.lt e).2.1;omega) (by omega) (by simp;unfold LIM;omega) ?_
 intro h1 f1 f2
 have g8:h1 8=some ⟨true,2,[[vN,vL]]⟩:=by rw [f2 8 (by omega) (by omega) fun l e=>y1.not_box e8 e];simp [ne,e8]
 have g7:h1 7=some ⟨true,6,[J5q N vR vP vA]⟩:=by rw [f2 7 (by omega) (by omega) fun l e=>y1.not_box e7 e];simp [ne,e7]
 simp [g7,s10,J5q]
 refine hK _ _ _ (fun j hj=>by simp [kp j hj]) (M.app (l1:=[(1,J0a nm,vN),(2,ls.map J05,vL),(2,R.map J08,vR)]) (x:=(2,P.map J08,vP)) (x':=(2,(P++[l]).map J08,.ref (n+2) 0 (P.length+1))) (l2:=[(1,A.map J1u,vA)]) (by omega) e8 e7 AS (by simp [g8]) (by simp [J5q]) (.inr ⟨n+2,by omega,by omega,by simp,by simp [ne,f1,J08]⟩) (fun i k e=>by simp only [AV.ref.injEq] at e;omega) ?_ rfl)
 intro id h1' h2' h3' h4'
 simp [h2',f2 id (by omega) (by omega) h4',frn id h1']
end
section
variable {ks:List Kt}{s:Env}{h h':Heap}{n N:Nat}{Q:Fin}{r:DRule}{f:DFunction}{nm:List Str}{ls R P:List DLin}{A:List (List DLin)}
def SM (r:DRule) (f:DFunction) (N:Nat) (ms:MS) (h:Heap) (n:Nat):Prop:=SI r f N (J1d ms.E) (J3h ms.E) ms.rows ms.pars ms.args h n
theorem K0v {R0:List DLin}(s6:s 6 = .ptr 5 0 0) (s8:s 8 = .int .i64 f.Params.length) (s9:s 9 = .int .i64 N) (s10:s 10 = .ptr 7 0 0) (s11:s 11 = .ptr 8 0 0) (M:SM r f N ⟨[],0,R0,[],[]⟩ h n) (hp2:f.Params.length≤2)
 (hK:∀ s' h' n',(∀ j∈[2,4,5,6,8,9,10,11],s' j=s j)→SM r f N (f.Params.foldl (J9a N) ⟨[],0,R0,[],[]⟩) h' n'→J2u Tryz.prog ks .normal s' h' n' Q):rC Tryz.prog lm7 ks s h n Q:=by
 simp [lm7]
 generalize hT:f.Params.foldl (J9a N) ⟨[],0,R0,[],[]⟩=T at hK
 refine J0l [2,4,5,6,8,9,10,11] 12 f.Params.length (fun i s h m=>∃ ms:MS,(f.Params.drop i).foldl (J9a N) ms=T∧SM r f N ms h m∧ms.nx=i∧ms.E.length≤i∧ms.pars.length≤i) (by unfold LIM;omega) (by simp)
  ⟨_,by simpa using hT,M,rfl,by simp,by simp⟩ ?_ ?_
 ·rintro i st h' m Rr hi hg hk s12 hw ⟨ms,hJ,M,hb1,hb2,hb3⟩ hR _ _
  simp at hk
  rw [List.drop_eq_getElem_cons hi,List.foldl_cons] at hJ
  refine J0b (J0i [2,4,5,6,8,9,10,11,12] (fun s=>s 56 = .bool true) (by simp [hk,s12,s8,hi]) ?_)
  intro st1 hk1 s56
  simp at hk1
  refine J25 s56 (J0b (J1h ?_))
  refine J0b (Jw1 (i:=i) hi (by simp [hk1,hk,s6]) (by simp [hk1,hk,s11]) (by simp [hk1,s12]) M (by simp [J1d];omega) ?_)
  intro st2 h2 m2 hk2 M2
  refine J6b (J0b (Jwa (i:=i) (by simp [hk2 9 (by omega),hk1,hk,s9]) (by simp [hk2 11 (by omega),hk1,hk,s11]) (by simp [hk2 12 (by omega),hk1,s12]) M2 (by simp [J3h];omega) ?_))
  intro st3 h3 m3 hk3 M3
  refine J6b (Jwf (i:=i) (by simp [hk3 9 (by omega),hk2 9 (by omega),hk1,hk,s9]) (by simp [hk3 10 (by omega),hk2 10 (by omega),hk1,hk,s10]) (by simp [hk3 12 (by omega),hk2 12 (by omega),hk1,s12]) M3 (by omega) ?_)
  intro st4 h4 m4 hk4 M4
  have kp:∀ j∈[2,4,5,6,8,9,10,11,12],st4 j=st j:=by
   simp [hk4 2 (by omega),hk4 4 (by omega),hk4 5 (by omega),hk4 6 (by omega),hk4 8 (by omega),hk4 9 (by omega),hk4 10 (by omega),hk4 11 (by omega),hk4 12 (by omega),hk3 2 (by omega),hk3 4 (by omega),hk3 5 (by omega),hk3 6 (by omega),hk3 8 (by omega),hk3 9 (by omega),hk3 10 (by omega),hk3 11 (by omega),hk3 12 (by omega),hk2 2 (by omega),hk2 4 (by omega),hk2 5 (by omega),hk2 6 (by omega),hk2 8 (by omega),hk2 9 (by omega),hk2 10 (by omega),hk2 11 (by omega),hk2 12 (by omega),hk1]
  simp at kp
  simp [kp,s12,hw]
  refine hR _ _ _ (by simp [kp,hk]) (by simp) ⟨J9a N ms f.Params[i],hJ,?_,by show ms.nx+1=_;omega,by show (ms.E++_).length≤_;simp;omega,by show (ms.pars++_).length≤_;simp;omega⟩
  have e1:J1d (J9a N ms f.Params[i]).E=J1d ms.E++[f.Params[i]]:=by simp [J9a,J1d]
  have e2:J3h (J9a N ms f.Params[i]).E=J3h ms.E++[J37 i N]:=by simp [J9a,J3h,hb1]
  have e3:(J9a N ms f.Params[i]).pars=ms.pars++[J37 i N]:=by simp [J9a,hb1]
  unfold SM
  rw [e1,e2,e3]
  exact M4
 ·rintro st h' m Rr hk s12 ⟨ms,hJ,M,hb1,hb2,hb3⟩ _ hX
  simp at hk
  rw [List.drop_eq_nil_of_le (by omega)] at hJ
  simp only [List.foldl_nil] at hJ
  subst hJ
  refine J0b (J0i [2,4,5,6,8,9,10,11] (fun s=>s 56 = .bool false) (by simp [hk,s12,s8]) ?_)
  intro st1 hk1 s56
  simp at hk1
  refine J29 s56 ?_
  refine hX _ _ _ _ ?_
  simp
  exact hK _ _ _ (by simp [hk1,hk]) M
theorem Jzn {N:Nat} : ∀ {qs:List DPattern}{E:SEnv}{k:Nat}{R0 P:List DLin}{A:List (List DLin)},(qs.foldl (J62 N) ⟨E,k,R0,P,A⟩)=⟨(qs.foldl (J62 N) ⟨E,k,[],[],[]⟩).E,(qs.foldl (J62 N) ⟨E,k,[],[],[]⟩).nx,R0++(qs.foldl (J62 N) ⟨E,k,[],[],[]⟩).rows,P,A⟩:=by
 intro qs
 induction qs with
 | nil=>intro E k R0 P A;simp
 | cons q qs ih=>
  intro E k R0 P A
  simp only [List.foldl_cons]
  have h1:∀ (R0 P:List DLin) (A:List (List DLin)),J62 N ⟨E,k,R0,P,A⟩ q=⟨(J62 N ⟨E,k,[],[],[]⟩ q).E,(J62 N ⟨E,k,[],[],[]⟩ q).nx,R0++(J62 N ⟨E,k,[],[],[]⟩ q).rows,P,A⟩:=by
   intro R0 P A;unfold J62 Jku;cases q.Cons <;> simp
  rw [h1 R0 P A,ih,h1 [] [] []]
  generalize J62 N ⟨E,k,[],[],[]⟩ q=x
  rw [ih (R0:=[]++x.rows)]
  simp
theorem Jk7 {b z bytes:Nat}{rows rows2:List (List AV)}{v y:AV}{h:Heap}{n:Nat}{K:AV→Heap→Nat→Prop}(B1:J41 b z rows v h n) (B2:J41 b z rows2 y h n) (hd:Dj v y)
 (hlen:(rows.length+rows2.length)*bytes≤LIM)
 (hK:∀ h',h' n=some ⟨false,z,rows++rows2⟩→(∀ id,id≠n→(∀ l,v ≠ .ref id 0 l)→(∀ l,y ≠ .ref id 0 l)→h' id=h id)→K (.ref n 0 (rows.length+rows2.length)) h' (n+1)) :
 Jzd bytes z v y h n K:=by
 rcases B2 with ⟨rfl,rfl⟩|⟨k,_,hkn,rfl,hkb⟩
 ·rcases B1 with ⟨rfl,rfl⟩|⟨i,_,hin,rfl,hib⟩
  ·simp
   simp at hK
   exact hK _ (by simp) fun id h1=>by simp [h1]
  ·have hne:¬i=n:=by omega
   simp [hib]
   refine ⟨by simpa using hlen,?_⟩
   have:=hK (upd (upd h i Option.none) n (some ⟨false,z,rows⟩)) (by simp) fun id h1 h2 _=>by
    have:¬id=i:=fun e=>h2 rows.length (by rw [e])
    simp [h1,this]
   simpa [List.take_of_length_le] using this
 ·refine J3w B1 hkb (fun l e=>hd k l _ e rfl) hkn hlen fun h' e1 e2=>hK h' e1 fun id h1 h2 h3=>e2 id h1 (fun e=>h3 rows2.length (by rw [e])) h2
end
theorem Jgl.step2 {b:Nat}{l1 l2:List (Nat×List (List AV)×AV)}{x x':Nat×List (List AV)×AV}{y:AV}{h h':Heap}{n n':Nat}(A:Jgl b (l1++x::l2) h n) (hy:∀ c∈l1++x::l2,Dj c.2.2 y) (hx:J41 b x'.1 x'.2.1 x'.2.2 h' n') (hnew:∀ i k,x'.2.2 = .ref i 0 k→n≤i) (hn:n≤n')
 (hh:∀ id,b<id→id<n→(∃ z rows,h id=some ⟨false,z,rows⟩)→(∀ k,x.2.2 ≠ .ref id 0 k)→(∀ k,y ≠ .ref id 0 k)→h' id=h id):Jgl b (l1++x'::l2) h' n':=by
 obtain ⟨A1,A2⟩:=A
 rw [List.pairwise_append,List.pairwise_cons] at A2
 obtain ⟨p1,⟨p2,p3⟩,p4⟩:=A2
 refine ⟨?_,?_⟩
 ·intro c hc
  rcases List.mem_append.1 hc with hc|hc
  ·have hm:c∈l1++x::l2:=List.mem_append_left _ hc
   refine (A1 c hm).keep hn fun id hb hid e=>hh id hb hid ⟨_,_,((A1 c hm).lt e).2.2.1⟩ (fun k ek=>p4 c hc x List.mem_cons_self id _ k e ek) fun k ek=>hy c hm id _ k e ek
  ·rcases List.mem_cons.1 hc with rfl|hc
   ·exact hx
   ·have hm:c∈l1++x::l2:=List.mem_append_right _ (List.mem_cons_of_mem _ hc)
    refine (A1 c hm).keep hn fun id hb hid e=>hh id hb hid ⟨_,_,((A1 c hm).lt e).2.2.1⟩ (fun k ek=>p2 c hc id k _ ek e) fun k ek=>hy c hm id _ k e ek
 ·rw [List.pairwise_append,List.pairwise_cons]
  refine ⟨p1,⟨fun c hc i k l e1 e2 => ?_,p3⟩,fun c hc w hw i k l e1 e2 => ?_⟩
  ·have g1:=hnew i k e1
   have g2:=((A1 c (List.mem_append_right _ (List.mem_cons_of_mem _ hc))).lt e2).2.1
   omega
  ·have g2:=((A1 c (List.mem_append_left _ hc)).lt e1).2.1
   rcases List.mem_cons.1 hw with rfl|hw
   ·have g1:=hnew i l e2;omega
   ·exact p4 c hc w (List.mem_cons_of_mem _ hw) i k l e1 e2
theorem Dj.symm {v w:AV}(d:Dj v w):Dj w v:=fun i k l e1 e2=>d i l k e2 e1
theorem Old.dj {v0 v w:AV}{n0 b z:Nat}{rows:List (List AV)}{h:Heap}(o:Old v0 v n0) (d:Dj v0 w) (x:J41 b z rows w h n0):Dj v w:=by
 intro i k l e1 e2
 rcases o with rfl|g
 ·exact d i k l e1 e2
 ·have:=g i k e1
  have:=(x.lt e2).2.1;omega
section
variable {ks:List Kt}{s:Env}{h h':Heap}{n N:Nat}{Q:Fin}{r:DRule}{f:DFunction}
theorem Jvy {ms:MS}{c:AC}{m:Nat}(s5:s 5 = .ptr 2 0 0) (s8:s 8 = .int .i64 m) (s9:s 9 = .int .i64 N) (s10:s 10 = .ptr 7 0 0) (s11:s 11 = .ptr 8 0 0) (M:SM r f N ms h n) (hN:N≤8) (hat:m≤1000) (hE:ms.E.length≤1000) (hp:r.Patterns.length≤100) (hR:ms.rows.length≤100000)
 (hin:∀ q∈r.Patterns,q.Lst∈J1d ms.E) (hv:∀ e∈ms.E,e.2.Coeffs.length≤8) (hRr:(r.Patterns.foldl (J62 N) ⟨ms.E,m,[],[],[]⟩).rows.length≤100000)
 (hK:∀ s' h' n',(∀ j∈[2,4,5,6,8,9,10,11],s' j=s j)→SM r f N (r.Patterns.foldl (J62 N) (Jcl ms m)) h' n'→rC Tryz.prog c ks s' h' n' Q):rC Tryz.prog (.seq lm8 (.seq lm9 c)) ks s h n Q:=by
 have hfold:=Jzn (N:=N) (qs:=r.Patterns) (E:=ms.E) (k:=m) (R0:=ms.rows) (P:=ms.pars) (A:=ms.args)
 have hatd:Jcl ms m=⟨ms.E,m,ms.rows,ms.pars,ms.args⟩:=rfl
 rw [hatd,hfold] at hK
 generalize hT:r.Patterns.foldl (J62 N) ⟨ms.E,m,[],[],[]⟩=T at *
 have l1:=M.lt
 obtain ⟨vN,vL,vR,vP,vA,e8,e7,AS⟩:=M.acc
 obtain ⟨AS1,AS2⟩:=AS
 simp only [List.pairwise_cons,List.mem_cons,List.not_mem_nil,or_false,forall_eq_or_imp,forall_eq] at AS2
 obtain ⟨⟨d1,d2,d3,d4⟩,⟨d5,d6,d7⟩,⟨d8,d9⟩,d10,_⟩:=AS2
 have yN:=AS1 (1,J0a (J1d ms.E),vN) (by simp)
 have yL:=AS1 (2,(J3h ms.E).map J05,vL) (by simp)
 have yR:=AS1 (2,ms.rows.map J08,vR) (by simp)
 have yP:=AS1 (2,ms.pars.map J08,vP) (by simp)
 have yA:=AS1 (1,ms.args.map J1u,vA) (by simp)
 refine J1n [2,4,5,6,8,9,10,11] (fun s' h' n'=>∃ vN' vL' vRr,s' 13=vRr∧n≤n'∧(∀ id,id≤5→h' id=h id)∧h' 8=some ⟨true,2,[[vN',vL']]⟩∧h' 7=some ⟨true,6,[J5q N vR vP vA]⟩ ∧
  Jgl 5 [(1,J0a (J1d T.E),vN'),(2,(J3h T.E).map J05,vL'),(2,ms.rows.map J08,vR),(2,ms.pars.map J08,vP),(1,ms.args.map J1u,vA)] h' n'∧J41 5 2 (T.rows.map J08) vRr h' n' ∧
  ∀ x∈[(1,J0a (J1d T.E),vN'),(2,(J3h T.E).map J05,vL'),(2,ms.rows.map J08,vR),(2,ms.pars.map J08,vP),(1,ms.args.map J1u,vA)],Dj x.2.2 vRr) ?_ ?_
 ·simp [lm8,s11,e8,s5,M.hr,s8,s9]
  refine Jqh (b:=5) (E0:=ms.E) (vN0:=vN) (vL0:=vL) ⟨fun x hx => ?_,by simpa using d1⟩ (by omega) hN hat hE hp hin hv ?_
  ·simp only [List.mem_cons,List.not_mem_nil,or_false] at hx
   rcases hx with rfl|rfl
   ·exact yN
   ·exact yL
  rw [hT]
  intro vN' vL' vRr h1 n1 hn1 hfr1 B o1 o2 o3
  obtain ⟨B1,B2⟩:=B
  simp only [List.pairwise_cons,List.mem_cons,List.not_mem_nil,or_false,forall_eq_or_imp,forall_eq] at B2
  obtain ⟨⟨b1,b2⟩,b3,_⟩:=B2
  have zN:=B1 (1,J0a (J1d T.E),vN') (by simp)
  have zL:=B1 (2,(J3h T.E).map J05,vL') (by simp)
  have zR:=B1 (2,T.rows.map J08,vRr) (by simp)
  have cN:=zN.cell
  have cL:=zL.cell
  have g8:h1 8=some ⟨true,2,[[vN,vL]]⟩:=by rw [hfr1 8 (by omega) (fun k e=>yN.not_box e8 e) (fun k e=>yL.not_box e8 e),e8]
  have g7:h1 7=some ⟨true,6,[J5q N vR vP vA]⟩:=by rw [hfr1 7 (by omega) (fun k e=>yN.not_box e7 e) (fun k e=>yL.not_box e7 e),e7]
  simp [s11,g8,-J0x,cN,cL]
  have dR1:Dj vN' vR:=o1.dj d2 yR
  have dR2:Dj vN' vP:=o1.dj d3 yP
  have dR3:Dj vN' vA:=o1.dj d4 yA
  have dL1:Dj vL' vR:=o2.dj d5 yR
  have dL2:Dj vL' vP:=o2.dj d6 yP
  have dL3:Dj vL' vA:=o2.dj d7 yA
  have nilD:∀ w,Dj (.nil 2) w:=fun w i k l e1 _=>by cases e1
  have dr1:Dj vRr vR:=o3.dj (nilD _) yR
  have dr2:Dj vRr vP:=o3.dj (nilD _) yP
  have dr3:Dj vRr vA:=o3.dj (nilD _) yA
  have up8:∀ {z:Nat}{rows:List (List AV)}{v:AV},J41 5 z rows v h1 n1→J41 5 z rows v (upd h1 8 (some ⟨true,2,[[vN',vL']]⟩)) n1:=by
   intro z rows v x
   refine x.keep (Nat.le_refl _) fun id _ _ e => ?_
   have:¬id=8:=by rintro rfl;exact x.not_box g8 e
   simp [this]
  have mv:∀ {z:Nat}{rows:List (List AV)}{v:AV},J41 5 z rows v h n→Dj vN v→Dj vL v→J41 5 z rows v h1 n1:=fun x p q=>x.keep hn1 fun id _ hid e=>hfr1 id hid (fun k e'=>p id k _ e' e) fun k e'=>q id k _ e' e
  refine ⟨hn1,?_,vN',vL',⟨⟨rfl,rfl⟩,by simpa using g7,⟨?_,?_⟩,up8 zR,?_⟩⟩
  ·intro id hid
   have:¬id=8:=by omega
   simp [this]
   exact hfr1 id (by omega) (fun k e=>by have:=(yN.lt e).1;omega) fun k e=>by have:=(yL.lt e).1;omega
  ·intro x hx
   simp only [List.mem_cons,List.not_mem_nil,or_false] at hx
   rcases hx with rfl|rfl|rfl|rfl|rfl
   ·exact up8 zN
   ·exact up8 zL
   ·exact up8 (mv yR d2 d5)
   ·exact up8 (mv yP d3 d6)
   ·exact up8 (mv yA d4 d7)
  ·simp only [List.pairwise_cons,List.mem_cons,List.not_mem_nil,or_false,forall_eq_or_imp,forall_eq]
   exact ⟨⟨b1,dR1,dR2,dR3⟩,⟨dL1,dL2,dL3⟩,⟨d8,d9⟩,d10,by simp⟩
  ·exact ⟨b2,b3,dr1.symm,dr2.symm,dr3.symm⟩
 rintro s1 h1 n1 hk1 ⟨vN',vL',vRr,s13,hn1,low,f8,f7,B,zR,hdj⟩
 simp at hk1
 have u10:s1 10 = .ptr 7 0 0:=by rw [hk1.2.2.2.2.2.2.1,s10]
 have wR:=B.1 (2,ms.rows.map J08,vR) (by simp)
 refine J0b ?_
 simp [lm9,u10,f7,J5q,s13]
 refine Jk7 (rows:=ms.rows.map J08) (rows2:=T.rows.map J08) wR zR (hdj (2,ms.rows.map J08,vR) (by simp)) (by simp;unfold LIM;omega) ?_
 intro h2 q1 q2
 have ne:¬7=n1∧¬8=n1∧¬n1=7∧¬n1=8:=by omega
 have k7:h2 7=some ⟨true,6,[J5q N vR vP vA]⟩:=by rw [q2 7 (by omega) (fun l e=>wR.not_box f7 e) (fun l e=>zR.not_box f7 e),f7]
 have k8:h2 8=some ⟨true,2,[[vN',vL']]⟩:=by rw [q2 8 (by omega) (fun l e=>wR.not_box f8 e) (fun l e=>zR.not_box f8 e),f8]
 simp [k7,u10,J5q]
 refine hK _ _ _ (by simp [hk1]) ?_
 have low2:∀ id,id≤5→upd h2 7 (some ⟨true,6,[J5q N (.ref n1 0 (ms.rows.length+T.rows.length)) vP vA]⟩) id=h id:=by
  intro id hid
  have:¬id=7:=by omega
  rw [←low id hid]
  simp [this]
  exact q2 id (by omega) (fun k e=>by have:=(wR.lt e).1;omega) fun k e=>by have:=(zR.lt e).1;omega
 simp only [J5q] at low2
 refine ⟨by rw [low2 1 (by omega),M.hz],by rw [low2 2 (by omega),M.hr],by rw [low2 3 (by omega),M.h3],by rw [low2 5 (by omega),M.hf],by omega,vN',vL',.ref n1 0 (ms.rows.length+T.rows.length),vP,vA,by simp [k8],by simp [J5q],?_⟩
 refine Jgl.step2 (l1:=[(1,J0a (J1d T.E),vN'),(2,(J3h T.E).map J05,vL')]) (x:=(2,ms.rows.map J08,vR)) (x':=(2,(ms.rows++T.rows).map J08,.ref n1 0 (ms.rows.length+T.rows.length))) (l2:=[(2,ms.pars.map J08,vP),(1,ms.args.map J1u,vA)]) (y:=vRr) B hdj (.inr ⟨n1,by omega,by omega,by simp,by simp [ne,q1]⟩) (fun i k e=>by simp only [AV.ref.injEq] at e;omega) (by omega) ?_
 intro id hb hid hf h3 h4
 have:¬id=7:=by
  rintro rfl;obtain ⟨z,rows,hf⟩:=hf;rw [f7] at hf;simp at hf
 simp [this]
 exact q2 id (by omega) h3 h4
end
section
variable {ks:List Kt}{s:Env}{h h' h0:Heap}{n n0 N:Nat}{Q:Fin}{r:DRule}{f:DFunction}{nm:List Str}{ls R P:List DLin}{A:List (List DLin)}
theorem SM.bws {ms:MS}(M:SM r f N ms h n):∃ vN vL,h 8=some ⟨true,2,[[vN,vL]]⟩∧∀ h',(∀ id,id<n→h' id=h id)→bw vN h'=some (.sl 1 (J0a (J1d ms.E)))∧bw vL h'=some (.sl 2 ((J3h ms.E).map J05)):=by
 obtain ⟨vN,vL,vR,vP,vA,e8,e7,AS⟩:=M.acc
 refine ⟨vN,vL,e8,fun h' hh=>⟨?_,?_⟩⟩
 ·exact ((AS.1 (1,J0a (J1d ms.E),vN) (by simp)).keep (Nat.le_refl _) fun id _ hid _=>hh id hid).bwS
 ·exact ((AS.1 (2,(J3h ms.E).map J05,vL) (by simp)).keep (Nat.le_refl _) fun id _ hid _=>hh id hid).bwA
def Jis (l:DLin) (v:AV) (h:Heap) (n n':Nat):Prop:=∃ k q,v = .ptr k 0 0∧n≤k∧n≤q∧k<n'∧q<n'∧h k=some ⟨true,2,[[.int .i64 l.Const,.ref q 0 l.Coeffs.length]]⟩∧h q=some ⟨false,1,J0m l.Coeffs⟩
theorem Jr9 {ms:MS}{i:Nat}(hi:i<r.Guards.length) (s5:s 5 = .ptr 2 0 0) (s9:s 9 = .int .i64 N) (s11:s 11 = .ptr 8 0 0) (s14:s 14 = .int .i64 i) (M:SM r f N ms h n) (hE:ms.E.length≤1048576) (hx:(r.Guards[i]).Terms.length≤1048576)
 (hK:∀ s' h' n',(∀ j∈[2,4,5,6,8,9,10,11,14],s' j=s j)→n≤n'→(∀ id,id<n→h' id=h id)→Jis (Jel ms.E N r.Guards[i]) (s' 15) h' n n'→J2u Tryz.prog ks .normal s' h' n' Q):rC Tryz.prog K0k ks s h n Q:=by
 obtain ⟨vN,vL,e8,hb⟩:=M.bws
 obtain ⟨b1,b2⟩:=hb h fun _ _=>rfl
 have b3:∀ x,bw vN (upd h n x)=some (.sl 1 (J0a (J1d ms.E)))∧bw vL (upd h n x)=some (.sl 2 ((J3h ms.E).map J05)):=fun x=>hb _ fun id hid=>by
  have:¬id=n:=by omega
  simp [this]
 have fr:∀ id,id<n→¬id=n∧¬id=n+1:=by intro id _;omega
 have ne:¬n=n+1∧¬n+1=n:=by omega
 simp [K0k,s5,s9,s11,s14,e8,M.hr,J0c,hi]
 have hd:∀ g,(Jwy ms.E N g).getD J1g=Jel ms.E N g:=fun _=>rfl
 constructor
 ·skip
  first|refine J01 (J89 ms.E hE (r.Guards[i]'hi) hx N) (by first|simp [Jhw,b1,b2];done|rfl) ?_|refine J02 (J89 ms.E hE (r.Guards[i]'hi) hx N) (by first|simp [Jhw,b1,b2];done|rfl) ?_
  rintro r rfl
  rw [J0u,hd]
  generalize Jel ms.E N r.Guards[i]=l at *
  simp [J08,ne]
  exact hK _ _ _ (by simp) (by omega) (fun id hid=>by simp [fr id hid]) ⟨n+1,n,by simp,by omega,by omega,by omega,by omega,by simp,by simp [ne]⟩
 ·skip
  first|refine J01 (J89 ms.E hE (r.Guards[i]'hi) hx N) (by first|simp [Jhw,b3];done|rfl) ?_|refine J02 (J89 ms.E hE (r.Guards[i]'hi) hx N) (by first|simp [Jhw,b3];done|rfl) ?_
  rintro r rfl
  rw [J0u,hd]
  generalize Jel ms.E N r.Guards[i]=l at *
  simp [J08,ne]
  exact hK _ _ _ (by simp) (by omega) (fun id hid=>by simp [fr id hid]) ⟨n,n+1,by simp,by omega,by omega,by omega,by omega,by simp,by simp [ne]⟩
theorem Jsa {l:DLin}(s10:s 10 = .ptr 7 0 0) (M:SI r f N nm ls R P A h0 n0) (hn:n0≤n) (hfr:∀ id,id<n0→h id=h0 id) (L:Jis l (s 15) h n0 n) (hl:R.length≤1000000)
 (hK:∀ s' h' n',(∀ j∈[2,4,5,6,8,9,10,11,14],s' j=s j)→SI r f N nm ls (R++[l]) P A h' n'→J2u Tryz.prog ks .normal s' h' n' Q):rC Tryz.prog Jyx ks s h n Q:=by
 have l1:=M.lt
 obtain ⟨k,q,s15,x1,x2,x3,x4,x5,x6⟩:=L
 obtain ⟨vN,vL,vR,vP,vA,e8,e7,AS⟩:=M.acc
 have y1:=AS.1 (2,R.map J08,vR) (by simp)
 have e7':h 7=some ⟨true,6,[J5q N vR vP vA]⟩:=by rw [hfr 7 (by omega),e7]
 have ne:¬8=n∧¬7=n∧¬n=7∧¬n=6∧¬n=8∧¬8=n+1∧¬7=n+1∧¬n+1=8∧¬n+1=7∧¬n=n+1∧¬n+1=n∧¬q=n∧¬q=7∧¬q=8∧¬7=q∧¬8=q:=by omega
 have frn:∀ id,id<n0→¬id=n∧¬id=n+1∧¬id=q:=by intro id _;omega
 simp [Jyx,s10,s15,e7',J5q,x5,x6]
 refine J3w (rows:=R.map J08) (rows2:=[[.int .i64 l.Const,.us 1 (J0m l.Coeffs)]]) (y1.keep (n':=n+1) (by omega) fun id _ hid _=>by simp [frn id hid,hfr id hid]) (by simp) (fun l e=>by have:=(y1.lt e).2.1;omega) (by omega) (by simp;unfold LIM;omega) ?_
 intro h1 f1 f2
 have g8:h1 8=some ⟨true,2,[[vN,vL]]⟩:=by rw [f2 8 (by omega) (by omega) fun l e=>y1.not_box e8 e];simp [ne,hfr 8 (by omega),e8]
 have g7:h1 7=some ⟨true,6,[J5q N vR vP vA]⟩:=by rw [f2 7 (by omega) (by omega) fun l e=>y1.not_box e7 e];simp [ne,hfr 7 (by omega),e7]
 simp [g7,s10,J5q]
 refine hK _ _ _ (by simp) (M.app (l1:=[(1,J0a nm,vN),(2,ls.map J05,vL)]) (x:=(2,R.map J08,vR)) (x':=(2,(R++[l]).map J08,.ref (n+1) 0 (R.length+1))) (l2:=[(2,P.map J08,vP),(1,A.map J1u,vA)]) (by omega) e8 e7 AS (by simp [g8]) (by simp [J5q]) (.inr ⟨n+1,by omega,by omega,by simp,by simp [ne,f1,J08]⟩) (fun i k e=>by simp only [AV.ref.injEq] at e;omega) ?_ rfl)
 intro id h1' h2' h3' h4'
 simp [h2',f2 id (by omega) (by omega) h4',frn id h1',hfr id h1']
theorem Jvd {ma:MS}(s5:s 5 = .ptr 2 0 0) (s9:s 9 = .int .i64 N) (s10:s 10 = .ptr 7 0 0) (s11:s 11 = .ptr 8 0 0) (M:SM r f N ma h n) (hE:ma.E.length≤1048576) (hg2:r.Guards.length≤2) (hts:∀ g∈r.Guards,g.Terms.length≤1048576) (hR:ma.rows.length≤100000)
 (hK:∀ s' h' n',(∀ j∈[2,4,5,6,8,9,10,11],s' j=s j)→SM r f N (J0y ma (r.Guards.map (Jel ma.E N))) h' n'→J2u Tryz.prog ks .normal s' h' n' Q):rC Tryz.prog Kb9 ks s h n Q:=by
 simp [Kb9]
 refine J0l [2,4,5,6,8,9,10,11] 14 r.Guards.length (fun i s h m=>SM r f N (J0y ma ((r.Guards.map (Jel ma.E N)).take i)) h m) (by unfold LIM;omega) (by simp) (by simpa [J0y] using M) ?_ ?_
 ·rintro i st h' m Rr hi hg hk s14 hw M hR2 _ _
  simp at hk
  have hts:=hts _ (List.getElem_mem hi)
  have hM:=M.hr
  refine J0b (J0i [2,4,5,6,8,9,10,11,14] (fun s=>s 104 = .bool true) (by simp [hk,s14,s5,hM,J0c,hi]) ?_)
  intro st1 hk1 s104
  simp at hk1
  refine J25 s104 (J0b (J1h ?_))
  refine J0b (Jr9 (i:=i) hi (by simp [hk1,hk,s5]) (by simp [hk1,hk,s9]) (by simp [hk1,hk,s11]) (by simp [hk1,s14]) M hE hts ?_)
  intro st2 h2 m2 hk2 hm2 hfr2 L2
  simp at hk2
  refine J6b (Jsa (by simp [hk2,hk1,hk,s10]) M hm2 hfr2 L2 (by simp [J0y];omega) ?_)
  intro st3 h3 m3 hk3 M3
  simp at hk3
  simp [hk3,hk2,hk1,s14,hw]
  refine hR2 _ _ _ (by simp [hk3,hk2,hk1,hk]) (by simp) ?_
  rw [List.take_succ_eq_append_getElem (by simpa using hi)]
  have:(J0y ma ((r.Guards.map (Jel ma.E N)).take i++[(r.Guards.map (Jel ma.E N))[i]'(by simpa using hi)])).rows=(J0y ma ((r.Guards.map (Jel ma.E N)).take i)).rows++[Jel ma.E N r.Guards[i]]:=by simp [J0y]
  unfold SM
  rw [this]
  exact M3
 ·rintro st h' m Rr hk s14 M _ hX
  simp at hk
  have hM:=M.hr
  rw [List.take_of_length_le (by simp)] at M
  refine J0b (J0i [2,4,5,6,8,9,10,11] (fun s=>s 104 = .bool false) (by simp [hk,s14,s5,hM,J0c]) ?_)
  intro st1 hk1 s104
  simp at hk1
  refine J29 s104 ?_
  refine hX _ _ _ _ ?_
  simp
  exact hK _ _ _ (by simp [hk1,hk]) M
end
section
variable {ks:List Kt}{s:Env}{h h' h0:Heap}{n n0 N:Nat}{Q:Fin}{r:DRule}{f:DFunction}{nm:List Str}{ls R P:List DLin}{A:List (List DLin)}
theorem Jrx {ms:MS}{i j:Nat}(hi:i<r.Calls.length) (hj:j<(r.Calls[i]).Args.length) (s5:s 5 = .ptr 2 0 0) (s9:s 9 = .int .i64 N) (s11:s 11 = .ptr 8 0 0) (s17:s 17 = .int .i64 i) (s19:s 19 = .int .i64 j) (M:SM r f N ms h n) (hE:ms.E.length≤1048576)
 (hx:∀ y∈((r.Calls[i]).Args[j]).Heads,y.Terms.length≤1048576) (hne:((r.Calls[i]).Args[j]).Lst=false→0<((r.Calls[i]).Args[j]).Heads.length)
 (hK:∀ s' h' n',(∀ j∈[2,4,5,6,8,9,10,11,17,18,19],s' j=s j)→n≤n'→(∀ id,id<n→h' id=h id)→Jis (Jhe ms.E N ((r.Calls[i]).Args[j])) (s' 20) h' n n'→J2u Tryz.prog ks .normal s' h' n' Q):rC Tryz.prog Jzt ks s h n Q:=by
 obtain ⟨vN,vL,e8,hb⟩:=M.bws
 obtain ⟨b1,b2⟩:=hb h fun _ _=>rfl
 have b3:∀ x,bw vN (upd h n x)=some (.sl 1 (J0a (J1d ms.E)))∧bw vL (upd h n x)=some (.sl 2 ((J3h ms.E).map J05)):=fun x=>hb _ fun id hid=>by
  have:¬id=n:=by omega
  simp [this]
 have fr:∀ id,id<n→¬id=n∧¬id=n+1:=by intro id _;omega
 have ne:¬n=n+1∧¬n+1=n:=by omega
 simp [Jzt,s5,s9,s11,s17,s19,e8,M.hr,J0c,J14,hi,hj]
 have hd:∀ g,(Jzz ms.E N g).getD J1g=Jhe ms.E N g:=fun _=>rfl
 constructor
 ·skip
  first|refine J01 (J7a ms.E hE ((r.Calls[i]'hi).Args[j]'hj) hx hne N) (by first|simp [Jhw,b1,b2];done|rfl) ?_|refine J02 (J7a ms.E hE ((r.Calls[i]'hi).Args[j]'hj) hx hne N) (by first|simp [Jhw,b1,b2];done|rfl) ?_
  rintro r rfl
  rw [J0u,hd]
  generalize Jhe ms.E N ((r.Calls[i]).Args[j])=l at *
  simp [J08,ne]
  exact hK _ _ _ (by simp) (by omega) (fun id hid=>by simp [fr id hid]) ⟨n+1,n,by simp,by omega,by omega,by omega,by omega,by simp,by simp [ne]⟩
 ·skip
  first|refine J01 (J7a ms.E hE ((r.Calls[i]'hi).Args[j]'hj) hx hne N) (by first|simp [Jhw,b3];done|rfl) ?_|refine J02 (J7a ms.E hE ((r.Calls[i]'hi).Args[j]'hj) hx hne N) (by first|simp [Jhw,b3];done|rfl) ?_
  rintro r rfl
  rw [J0u,hd]
  generalize Jhe ms.E N ((r.Calls[i]).Args[j])=l at *
  simp [J08,ne]
  exact hK _ _ _ (by simp) (by omega) (fun id hid=>by simp [fr id hid]) ⟨n,n+1,by simp,by omega,by omega,by omega,by omega,by simp,by simp [ne]⟩
theorem Jq9 {ms:MS}{i:Nat}(hi:i<r.Calls.length) (s5:s 5 = .ptr 2 0 0) (s9:s 9 = .int .i64 N) (s11:s 11 = .ptr 8 0 0) (s17:s 17 = .int .i64 i) (M:SM r f N ms h0 n0) (hn:n0≤n) (hfr:∀ id,id<n0→h id=h0 id) (hE:ms.E.length≤1048576) (hal:(r.Calls[i]).Args.length≤100)
 (B:J41 (n0 - 1) 2 [] (s 18) h n) (hx:∀ x∈(r.Calls[i]).Args,∀ y∈x.Heads,y.Terms.length≤1048576) (hne:∀ x∈(r.Calls[i]).Args,x.Lst=false→0<x.Heads.length)
 (hK:∀ s' h' n',(∀ j∈[2,4,5,6,8,9,10,11,17],s' j=s j)→n0≤n'→(∀ id,id<n0→h' id=h0 id)→J41 (n0 - 1) 2 (((r.Calls[i]).Args.map (Jhe ms.E N)).map J08) (s' 18) h' n'→J2u Tryz.prog ks .normal s' h' n' Q):rC Tryz.prog Jyr ks s h n Q:=by
 simp [Jyr]
 have l1:=M.lt
 have hM:∀ (h':Heap),(∀ id,id<n0→h' id=h0 id)→h' 2=some ⟨true,7,[J0c r]⟩:=fun h' hh=>by rw [hh 2 (by omega),M.hr]
 generalize hT:(r.Calls[i]).Args.map (Jhe ms.E N)=T at hK
 refine J0l [2,4,5,6,8,9,10,11,17] 19 (r.Calls[i]).Args.length (fun j s h m=>n0≤m∧(∀ id,id<n0→h id=h0 id)∧∃ acc:List DLin,J41 (n0 - 1) 2 (acc.map J08) (s 18) h m∧acc++((r.Calls[i]).Args.drop j).map (Jhe ms.E N)=T∧acc.length≤j) (by unfold LIM;omega) (by simp)
  ⟨hn,hfr,[],by simpa using B,by simpa using hT,by simp⟩ ?_ ?_
 ·rintro j st h' m Rr hj hg hk s19 hw ⟨hm,hfr',acc,hA,hJ,hacc⟩ hR _ _
  simp at hk
  rw [List.drop_eq_getElem_cons hj,List.map_cons] at hJ
  have hx:=hx _ (List.getElem_mem hj)
  have hne:=hne _ (List.getElem_mem hj)
  refine J0b (J0i [2,4,5,6,8,9,10,11,17,18,19] (fun s=>s 142 = .bool true) (by simp [hk,s19,s5,s17,hM h' hfr',J0c,J14,hi,hj]) ?_)
  intro st1 hk1 s142
  simp at hk1
  refine J25 s142 (J0b (J1h ?_))
  have M1:SM r f N ms h' m:=SI.frame M hm hfr'
  refine J0b (Jrx (i:=i) (j:=j) hi hj (by simp [hk1,hk,s5]) (by simp [hk1,hk,s9]) (by simp [hk1,hk,s11]) (by simp [hk1,hk,s17]) (by simp [hk1,s19]) M1 hE hx hne ?_)
  intro st2 h2 m2 hk2 hm2 hfr2 L2
  simp at hk2
  obtain ⟨k,q,s20,x1,x2,x3,x4,x5,x6⟩:=L2
  generalize Jhe ms.E N ((r.Calls[i]).Args[j])=l at *
  have u18:st2 18=st 18:=by rw [hk2.2.2.2.2.2.2.2.2.2.1,hk1.2.2.2.2.2.2.2.2.2.1]
  refine J6b ?_
  have nq:¬q=m2:=by omega
  have frn:∀ id,id<m→¬id=m2∧¬id=m2+1∧¬id=q:=by intro id _;omega
  simp [K5e,u18,s20,x5,x6]
  generalize hv18:st 18=v18 at *
  refine J3w (rows:=acc.map J08) (rows2:=[[.int .i64 l.Const,.us 1 (J0m l.Coeffs)]]) (hA.keep (n':=m2+1) (by omega) fun id _ hid _=>by simp [frn id hid,hfr2 id hid]) (by simp) (fun l e=>by have:=(hA.lt e).2.1;omega) (by omega) (by simp;unfold LIM;omega) ?_
  intro h3 f1 f2
  simp [hk2,hk1,s19,hw]
  refine hR _ _ _ (by simp [hk2,hk1,hk]) (by simp) ⟨by omega,?_,acc++[l],?_,by simpa using hJ,by simp;omega⟩
  ·intro id hid
   rw [f2 id (by omega) (by omega) fun k e=>by have:=(hA.lt e).1;omega]
   simp [frn id (by omega),hfr2 id (by omega),hfr' id hid]
  ·simp
   exact .inr ⟨m2+1,by omega,by omega,by simp,by simp [f1,J08]⟩
 ·rintro j st h' Rr hk s19 ⟨hm,hfr',acc,hA,hJ,hacc⟩ _ hX
  simp at hk
  rw [List.drop_eq_nil_of_le (by omega)] at hJ
  simp at hJ
  subst hJ
  refine J0b (J0i [2,4,5,6,8,9,10,11,17,18] (fun s=>s 142 = .bool false) (by simp [hk,s19,s5,s17,hM _ hfr',J0c,J14,hi]) ?_)
  intro st1 hk1 s142
  simp at hk1
  refine J29 s142 ?_
  refine hX _ _ _ _ ?_
  simp
  refine hK _ _ _ (by simp [hk1,hk]) hm hfr' ?_
  rw [hk1.2.2.2.2.2.2.2.2.2];exact hA
theorem Jrb {xs':List DLin}(s10:s 10 = .ptr 7 0 0) (M:SI r f N nm ls R P A h0 n0) (hn:n0≤n) (hfr:∀ id,id<n0→h id=h0 id) (B:J41 (n0 - 1) 2 (xs'.map J08) (s 18) h n) (hl:A.length≤1000000) (hl2:xs'.length≤1000000)
 (hK:∀ s' h' n',(∀ j∈[2,4,5,6,8,9,10,11,17],s' j=s j)→SI r f N nm ls R P (A++[xs']) h' n'→J2u Tryz.prog ks .normal s' h' n' Q):rC Tryz.prog K0i ks s h n Q:=by
 have l1:=M.lt
 obtain ⟨vN,vL,vR,vP,vA,e8,e7,AS⟩:=M.acc
 have y1:=AS.1 (1,A.map J1u,vA) (by simp)
 have e7':h 7=some ⟨true,6,[J5q N vR vP vA]⟩:=by rw [hfr 7 (by omega),e7]
 have ne:¬8=n∧¬7=n∧¬n=7∧¬n=6∧¬n=8∧¬8=n+1∧¬7=n+1∧¬n+1=8∧¬n+1=7∧¬n=n+1∧¬n+1=n:=by omega
 obtain ⟨hd,dt1,fd⟩:=B.dt
 have fdn:∀ id,id<n0→hd id=h0 id:=fun id hid=>by rw [fd id fun l e=>by have:=(B.lt e).1;omega,hfr id hid]
 have frn:∀ id,id<n0→¬id=n∧¬id=n+1:=by intro id _;omega
 have cB:=B.cell
 simp [K0i,s10,e7',J5q,dt1]
 refine J3w (rows:=A.map J1u) (rows2:=[[.us 2 (xs'.map J08)]]) (y1.keep (n':=n+1) (by omega) fun id _ hid _=>by simp [frn id hid,fdn id hid]) (by simp) (fun l e=>by have:=(y1.lt e).2.1;omega) (by omega) (by simp;unfold LIM;omega) ?_
 intro h1 f1 f2
 have g8:h1 8=some ⟨true,2,[[vN,vL]]⟩:=by rw [f2 8 (by omega) (by omega) fun l e=>y1.not_box e8 e];simp [ne,fdn 8 (by omega),e8]
 have g7:h1 7=some ⟨true,6,[J5q N vR vP vA]⟩:=by rw [f2 7 (by omega) (by omega) fun l e=>y1.not_box e7 e];simp [ne,fdn 7 (by omega),e7]
 simp [g7,s10,J5q]
 refine hK _ _ _ (by simp) (M.app (l1:=[(1,J0a nm,vN),(2,ls.map J05,vL),(2,R.map J08,vR),(2,P.map J08,vP)]) (x:=(1,A.map J1u,vA)) (x':=(1,(A++[xs']).map J1u,.ref (n+1) 0 (A.length+1))) (l2:=[]) (by omega) e8 e7 AS (by simp [g8]) (by simp [J5q]) (.inr ⟨n+1,by omega,by omega,by simp,by simp [ne,f1,J1u]⟩) (fun i k e=>by simp only [AV.ref.injEq] at e;omega) ?_ rfl)
 intro id h1' h2' h3' h4'
 simp [h2',f2 id (by omega) (by omega) h4',frn id h1',fdn id h1']
end
section
variable {ks:List Kt}{s:Env}{h h' h0:Heap}{n n0 N:Nat}{Q:Fin}{r:DRule}{f:DFunction}{nm:List Str}{ls R P:List DLin}{A:List (List DLin)}
theorem Jqx {i:Nat}(hi:i<r.Calls.length) (s5:s 5 = .ptr 2 0 0) (s11:s 11 = .ptr 8 0 0) (s17:s 17 = .int .i64 i) (M:SI r f N nm ls R P A h n) (hl:nm.length≤1048576)
 (hK:∀ s' h' n',(∀ j∈[2,4,5,6,8,9,10,11,17,22],s' j=s j)→n≤n'→(∀ id z rows,id<n→id≠8→h id=some ⟨true,z,rows⟩→h' id=h id)→SI r f N (nm++[(r.Calls[i]).Bind]) ls R P A h' n'→J2u Tryz.prog ks .normal s' h' n' Q):rC Tryz.prog Jyd ks s h n Q:=by
 have l1:=M.lt
 obtain ⟨vN,vL,vR,vP,vA,e8,e7,AS⟩:=M.acc
 have y1:=AS.1 (1,J0a nm,vN) (by simp)
 have ne:¬8=n∧¬7=n∧¬n=7∧¬n=6∧¬n=8∧¬8=n+1∧¬7=n+1∧¬n+1=8:=by omega
 have frn:∀ id,id<n→¬id=n∧¬id=n+1:=by intro id _;omega
 simp [Jyd,s5,s11,s17,e8,M.hr,J0c,J14,hi,ne]
 generalize (r.Calls[i]).Bind=x at *
 refine J3w (rows:=J0a nm) (rows2:=[[.str x]]) (y1.keep (n':=n+1) (by omega) fun id _ hid _=>by simp [frn id hid]) (by simp) (fun l e=>by have:=(y1.lt e).2.1;omega) (by omega) (by simp [J0a];unfold LIM;omega) ?_
 intro h1 f1 f2
 have g8:h1 8=some ⟨true,2,[[vN,vL]]⟩:=by rw [f2 8 (by omega) (by omega) fun l e=>y1.not_box e8 e];simp [ne,e8]
 have g7:h1 7=some ⟨true,6,[J5q N vR vP vA]⟩:=by rw [f2 7 (by omega) (by omega) fun l e=>y1.not_box e7 e];simp [ne,e7]
 simp [g8,s11]
 refine hK _ _ _ (by simp) (by omega) ?_ (M.app (l1:=[]) (x:=(1,J0a nm,vN)) (x':=(1,J0a (nm++[x]),.ref (n+1) 0 (nm.length+1))) (l2:=[(2,ls.map J05,vL),(2,R.map J08,vR),(2,P.map J08,vP),(1,A.map J1u,vA)]) (by omega) e8 e7 AS (by simp [J0a]) (by simp [g7]) (.inr ⟨n+1,by omega,by omega,by simp [J0a],by simp [ne,f1,J0a]⟩) (fun i k e=>by simp only [AV.ref.injEq] at e;omega) ?_ rfl)
 ·intro id z rows h1' h2' h3'
  simp [h2',f2 id (by omega) (by omega) fun l e=>y1.not_box h3' e,frn id h1']
 intro id h1' h2' h3' h4'
 simp [h3',f2 id (by omega) (by omega) h4',frn id h1']
theorem Jrk {l:DLin}{k:Nat}(s11:s 11 = .ptr 8 0 0) (s22:s 22 = .ptr k 0 0) (hkn:k<n) (hkb:h k=some ⟨true,2,[J05 l]⟩) (M:SI r f N nm ls R P A h n) (hl:ls.length≤1048576)
 (hK:∀ s' h' n',(∀ j∈[2,4,5,6,8,9,10,11,17,22],s' j=s j)→n≤n'→(∀ id z rows,id<n→id≠8→h id=some ⟨true,z,rows⟩→h' id=h id)→SI r f N nm (ls++[l]) R P A h' n'→J2u Tryz.prog ks .normal s' h' n' Q):rC Tryz.prog Jyj ks s h n Q:=by
 have l1:=M.lt
 obtain ⟨vN,vL,vR,vP,vA,e8,e7,AS⟩:=M.acc
 have y1:=AS.1 (2,ls.map J05,vL) (by simp)
 have ne:¬8=n∧¬7=n∧¬n=7∧¬n=6∧¬n=8∧¬8=n+1∧¬7=n+1∧¬n+1=8:=by omega
 have frn:∀ id,id<n→¬id=n∧¬id=n+1:=by intro id _;omega
 simp [Jyj,s11,s22,e8,hkb]
 refine J3w (rows:=ls.map J05) (rows2:=[J05 l]) (y1.keep (n':=n+1) (by omega) fun id _ hid _=>by simp [frn id hid]) (by simp) (fun l e=>by have:=(y1.lt e).2.1;omega) (by omega) (by simp;unfold LIM;omega) ?_
 intro h1 f1 f2
 have g8:h1 8=some ⟨true,2,[[vN,vL]]⟩:=by rw [f2 8 (by omega) (by omega) fun l e=>y1.not_box e8 e];simp [ne,e8]
 have g7:h1 7=some ⟨true,6,[J5q N vR vP vA]⟩:=by rw [f2 7 (by omega) (by omega) fun l e=>y1.not_box e7 e];simp [ne,e7]
 simp [g8,s11]
 refine hK _ _ _ (by simp) (by omega) ?_ (M.app (l1:=[(1,J0a nm,vN)]) (x:=(2,ls.map J05,vL)) (x':=(2,(ls++[l]).map J05,.ref (n+1) 0 (ls.length+1))) (l2:=[(2,R.map J08,vR),(2,P.map J08,vP),(1,A.map J1u,vA)]) (by omega) e8 e7 AS (by simp) (by simp [g7]) (.inr ⟨n+1,by omega,by omega,by simp,by simp [ne,f1]⟩) (fun i k e=>by simp only [AV.ref.injEq] at e;omega) ?_ rfl)
 ·intro id z rows h1' h2' h3'
  simp [h2',f2 id (by omega) (by omega) fun l e=>y1.not_box h3' e,frn id h1']
 intro id h1' h2' h3' h4'
 simp [h3',f2 id (by omega) (by omega) h4',frn id h1']
theorem Jsu {l:DLin}{k:Nat}(s10:s 10 = .ptr 7 0 0) (s22:s 22 = .ptr k 0 0) (hkb:h k=some ⟨true,2,[J05 l]⟩) (M:SI r f N nm ls R P A h n) (hl:R.length≤1048576) (hl0:l.Coeffs.length≤1048576)
 (hK:∀ s' h' n',(∀ j∈[2,4,5,6,8,9,10,11,17],s' j=s j)→SI r f N nm ls (R++[l]) P A h' n'→J2u Tryz.prog ks .normal s' h' n' Q):rC Tryz.prog Jy0 ks s h n Q:=by
 have l1:=M.lt
 obtain ⟨vN,vL,vR,vP,vA,e8,e7,AS⟩:=M.acc
 have y1:=AS.1 (2,R.map J08,vR) (by simp)
 have ne:¬8=n∧¬7=n∧¬n=7∧¬n=6∧¬n=8∧¬8=n+1∧¬7=n+1∧¬n+1=8∧¬n+1=7∧¬n=n+1∧¬n+1=n∧¬n=5:=by omega
 have frn:∀ id,id<n→¬id=n∧¬id=n+1∧¬id=n+2:=by intro id _;omega
 simp [Jy0,s10,s22,e7,J5q,hkb]
 first|refine J01 (J2v l hl0) (by first|simp;done|rfl) ?_|refine J02 (J2v l hl0) (by first|simp;done|rfl) ?_
 rintro r rfl
 simp [J08,e7,ne,s10,J5q]
 refine J3w (rows:=R.map J08) (rows2:=[[.int .i64 l.Const,.us 1 (J0m l.Coeffs)]]) (y1.keep (n':=n+1+1) (by omega) fun id _ hid _=>by simp [frn id hid]) (by simp) (fun l e=>by have:=(y1.lt e).2.1;omega) (by omega) (by simp;unfold LIM;omega) ?_
 intro h1 f1 f2
 have g8:h1 8=some ⟨true,2,[[vN,vL]]⟩:=by rw [f2 8 (by omega) (by omega) fun l e=>y1.not_box e8 e];simp [ne,e8]
 have g7:h1 7=some ⟨true,6,[J5q N vR vP vA]⟩:=by rw [f2 7 (by omega) (by omega) fun l e=>y1.not_box e7 e];simp [ne,e7]
 simp [g7,s10,J5q]
 refine hK _ _ _ (by simp) (M.app (l1:=[(1,J0a nm,vN),(2,ls.map J05,vL)]) (x:=(2,R.map J08,vR)) (x':=(2,(R++[l]).map J08,.ref (n+2) 0 (R.length+1))) (l2:=[(2,P.map J08,vP),(1,A.map J1u,vA)]) (by omega) e8 e7 AS (by simp [g8]) (by simp [J5q]) (.inr ⟨n+2,by omega,by omega,by simp,by simp [ne,f1,J08]⟩) (fun i k e=>by simp only [AV.ref.injEq] at e;omega) ?_ rfl)
 intro id h1' h2' h3' h4'
 simp [h2',f2 id (by omega) (by omega) h4',frn id h1']
def okA (x:DArg):Prop:=(∀ y∈x.Heads,y.Terms.length≤4)∧(x.Lst=false→0<x.Heads.length)
theorem Juu {ma:MS}(s5:s 5 = .ptr 2 0 0) (s9:s 9 = .int .i64 N) (s10:s 10 = .ptr 7 0 0) (s11:s 11 = .ptr 8 0 0) (M:SM r f N ma h n) (hN:N≤8) (hE:ma.E.length≤100000) (hc2:r.Calls.length≤2) (hcN:r.Calls.length≤N) (hnx:ma.nx=N - r.Calls.length) (hR:ma.rows.length≤100000) (hA:ma.args.length≤10)
 (hargs:∀ c∈r.Calls,c.Args.length≤2∧∀ x∈c.Args,okA x)
 (hK:∀ s' h' n',(∀ j∈[2,4,5,6,8,9,10,11],s' j=s j)→SM r f N (r.Calls.foldl (J69 N) ma) h' n'→J2u Tryz.prog ks .normal s' h' n' Q):rC Tryz.prog Kbe ks s h n Q:=by
 simp [Kbe]
 generalize hT:r.Calls.foldl (J69 N) ma=T at hK
 refine J0l [2,4,5,6,8,9,10,11] 17 r.Calls.length (fun i s h m=>∃ ms:MS,(r.Calls.drop i).foldl (J69 N) ms=T∧SM r f N ms h m∧ms.nx=N - r.Calls.length+i∧ms.E.length≤100000+i∧ms.rows.length≤100000+i∧ms.args.length≤10+i) (by unfold LIM;omega) (by simp)
  ⟨ma,by simpa using hT,M,by omega,by omega,by omega,by omega⟩ ?_ ?_
 ·rintro i st h' m Rr hi hg hk s17 hw ⟨ms,hJ,M,hb1,hb2,hb3,hb4⟩ hR2 _ _
  simp at hk
  rw [List.drop_eq_getElem_cons hi,List.foldl_cons] at hJ
  obtain ⟨ha1,ha2⟩:=hargs _ (List.getElem_mem hi)
  have hM:=M.hr
  have l1:=M.lt
  refine J0b (J0i [2,4,5,6,8,9,10,11,17] (fun s=>s 130 = .bool true) (by simp [hk,s17,s5,hM,J0c,hi]) ?_)
  intro st1 hk1 s130
  simp at hk1
  refine J25 s130 (J0b (J1h ?_))
  refine J1n [2,4,5,6,8,9,10,11,17] (fun s h2 n2=>m≤n2∧(∀ id,id<m→h2 id=h' id)∧J41 (m - 1) 2 [] (s 18) h2 n2) ?_ ?_
  ·simp
   refine ⟨fun id hid => ?_,.inr ⟨m,by omega,by omega,by simp,by simp⟩⟩
   have:¬id=m:=by omega
   simp [this]
  rintro st2 h2 m2 hk2 ⟨hm2,hfr2,B2⟩
  simp at hk2
  refine J0b (Jq9 (ms:=ms) (i:=i) hi (by simp [hk2,hk1,hk,s5]) (by simp [hk2,hk1,hk,s9]) (by simp [hk2,hk1,hk,s11]) (by simp [hk2,hk1,s17]) M hm2 hfr2 (by omega) (by omega) B2 (fun x hx y hy=>by have:=(ha2 x hx).1 y hy;omega) (fun x hx=>(ha2 x hx).2) ?_)
  intro st3 h3 m3 hk3 hm3 hfr3 B3
  simp at hk3
  refine J6b (J0b (Jrb (by simp [hk3,hk2,hk1,hk,s10]) M hm3 hfr3 B3 (by omega) (by simp;omega) ?_))
  intro st4 h4 m4 hk4 M4
  simp at hk4
  generalize hargsL:(r.Calls[i]).Args.map (Jhe ms.E N)=AL at *
  have k4:∀ j∈[2,4,5,6,8,9,10,11,17],st4 j=st j:=by simp [hk4,hk3,hk2,hk1]
  simp at k4
  have hM4:=M4.hr
  have hw1:IntKind.i64.wrap ((N:Int) - (r.Calls.length:Int))=((N - r.Calls.length:Nat):Int):=by rw [J0r (by omega)];omega
  have hw2:IntKind.i64.wrap (((N - r.Calls.length:Nat):Int)+(i:Int))=(ms.nx:Int):=by rw [J0r (by omega)];omega
  refine J6b (J1n [2,4,5,6,8,9,10,11,17] (fun s h5 n5=>∃ k,s 22 = .ptr k 0 0∧k<n5∧k≠8∧h5 k=some ⟨true,2,[J05 (J37 ms.nx N)]⟩∧SI r f N (J1d ms.E) (J3h ms.E) ms.rows ms.pars (ms.args++[AL]) h5 n5) ?_ ?_)
  ·simp [k4,hk,s9,s5,hM4,J0c,s17,hw1,hw2]
   intro _
   refine J9f (J7i ms.nx N) ?_ ?_
   ·simp
   rintro _ rfl
   have fr:∀ id,id<m4→¬id=m4:=by intro id _;omega
   have l4:=M4.lt
   simp
   exact ⟨by omega,M4.frame (by omega) fun id hid=>by simp [fr id hid]⟩
  rintro st5 h5 m5 hk5 ⟨k,s22,hkn,hk8,hkb,M5⟩
  simp at hk5
  refine J0b (Jqx (i:=i) hi (by simp [hk5,k4,hk,s5]) (by simp [hk5,k4,hk,s11]) (by simp [hk5,k4,s17]) M5 (by simp [J1d];omega) ?_)
  intro st6 h6 m6 hk6 hm6 bx6 M6
  simp at hk6
  have hkb6:h6 k=some ⟨true,2,[J05 (J37 ms.nx N)]⟩:=by rw [bx6 k _ _ hkn hk8 hkb,hkb]
  refine J6b (J0b (Jrk (l:=J37 ms.nx N) (k:=k) (by simp [hk6,hk5,k4,hk,s11]) (by simp [hk6,s22]) (by omega) hkb6 M6 (by simp [J3h];omega) ?_))
  intro st7 h7 m7 hk7 hm7 bx7 M7
  simp at hk7
  have hkb7:h7 k=some ⟨true,2,[J05 (J37 ms.nx N)]⟩:=by rw [bx7 k _ _ (by omega) hk8 hkb6,hkb6]
  have hM7:=M7.hr
  refine J6b (J0i [2,4,5,6,8,9,10,11,17,22] (fun s=>s 202 = .bool (J0n (r.Calls[i]).Bind)) ?_ ?_)
  ·simp [hk7,hk6,hk5,k4,hk,s5,s17,hM7,J0c,J14,hi]
   first|refine J01 (J1c (r.Calls[i]'hi).Bind) (by first|simp;done|rfl) ?_|refine J02 (J1c (r.Calls[i]'hi).Bind) (by first|simp;done|rfl) ?_
   rintro r rfl
   simp
  intro st8 hk8' s202
  simp at hk8'
  have hsc:J69 N ms r.Calls[i]=⟨ms.E++[((r.Calls[i]).Bind,J37 ms.nx N)],ms.nx+1,ms.rows++(if J0n (r.Calls[i]).Bind then [J37 ms.nx N] else []),ms.pars,ms.args++[AL]⟩:=by unfold J69;rw [hargsL]
  rw [hsc] at hJ
  have hl8:=J6u (i:=ms.nx) N hN
  have hkE:J1d (ms.E++[((r.Calls[i]).Bind,J37 ms.nx N)])=J1d ms.E++[(r.Calls[i]).Bind]:=by simp [J1d]
  have hvE:J3h (ms.E++[((r.Calls[i]).Bind,J37 ms.nx N)])=J3h ms.E++[J37 ms.nx N]:=by simp [J3h]
  cases c1:J0n (r.Calls[i]).Bind
  ·rw [c1] at s202 hJ
   simp [s202,hk8',hk7,hk6,hk5,k4,s17,hw]
   refine hR2 _ _ _ (by simp [hk8',hk7,hk6,hk5,k4,hk]) (by simp) ⟨_,hJ,?_,by simp only;omega,by simp;omega,by simp;omega,by simp;omega⟩
   unfold SM
   simp only [hkE,hvE,Bool.false_eq_true,if_false,List.append_nil]
   exact M7
  ·rw [c1] at s202 hJ
   rw [Jjg (show ev st8 (.t 202) = .bool true from s202)]
   refine Jsu (l:=J37 ms.nx N) (k:=k) (by simp [hk8',hk7,hk6,hk5,k4,hk,s10]) (by simp [hk8',hk7,hk6,s22]) hkb7 M7 (by omega) (by omega) ?_
   intro st9 h9 m9 hk9 M9
   simp at hk9
   simp [hk9,hk8',hk7,hk6,hk5,k4,s17,hw]
   refine hR2 _ _ _ (by simp [hk9,hk8',hk7,hk6,hk5,k4,hk]) (by simp) ⟨_,hJ,?_,by simp only;omega,by simp;omega,by simp;omega,by simp;omega⟩
   unfold SM
   simp only [hkE,hvE,if_true]
   exact M9
 ·rintro st h' m Rr hk s17 ⟨ms,hJ,M,hb1,hb2,hb3,hb4⟩ _ hX
  simp at hk
  rw [List.drop_eq_nil_of_le (by omega)] at hJ
  simp only [List.foldl_nil] at hJ
  subst hJ
  have hM:=M.hr
  refine J0b (J0i [2,4,5,6,8,9,10,11] (fun s=>s 130 = .bool false) (by simp [hk,s17,s5,hM,J0c]) ?_)
  intro st1 hk1 s130
  simp at hk1
  refine J29 s130 ?_
  refine hX _ _ _ _ ?_
  simp
  exact hK _ _ _ (by simp [hk1,hk]) M
end
end Go.Proofs.YtoclolkigjbcgaaGreat

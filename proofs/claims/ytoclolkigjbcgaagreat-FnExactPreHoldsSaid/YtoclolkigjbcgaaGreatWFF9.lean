/- Contracts: a variable eliminated (program), at a call. -/
import Derived.Test.YtoclolkigjbcgaaGreatWHE0
import Derived.Test.YtoclolkigjbcgaaGreatWV8
namespace Go.Proofs.YtoclolkigjbcgaaGreat
set_option maxRecDepth 40000
set_option maxHeartbeats 4000000
open Go Go.RowKit Go.Proofs
set_option linter.all false
section
variable {ks:List Kt}{s:Env}{h h':Heap}{n:Nat}{Q:Fin}
theorem Jvx {ds:List DDer}{vl:AV}{N m v n0:Nat}{h0:Heap}{acc0 T:List DDer}(hg:∀ d∈ds,GD N m d) (hm:m≤20) (hv:v<N) (hd:ds.length≤60) (L:J2a J3r 4 0 ds vl h0 n0) (hn0:n0≤n)
 (s0:s 0=vl) (s1:s 1 = .int .i64 v) (hf:∀ id,id<n0→h id=h0 id) (B0:J2a J3r 4 n0 acc0 (s 5) h n) (hT:acc0++ds.flatMap (J9m v ds)=T) (hTl:T.length≤4000)
 (hK:∀ s' h' n',n≤n'→(∀ id,id<n0→h' id=h0 id)→J2a J3r 4 n0 T (s' 5) h' n'→J25 Tryz.prog ks .normal s' h' n' Q):rC Tryz.prog wo3 ks s h n Q:=by
 have keepL:∀ {h' m'},n0≤m'→(∀ id,id<n0→h' id=h0 id)→J2a J3r 4 0 ds vl h' m':=fun hm hh=>J2a.keep (R:=J3r) (fun _ _ _ _ _ _=>J3r.keep) L hm (J1h.of hh) fun id rows _ hid _ e=>by rw [hh id hid,e]
 simp [wo3,s0]
 refine J4f (keepL hn0 hf) (by unfold LIM;omega) ?_
 simp
 refine J0k [0,1,35,36] 37 ds.length (fun i s h m'=>n≤m'∧(∀ id,id<n0→h id=h0 id)∧∃ acc,J2a J3r 4 n0 acc (s 5) h m'∧acc++(ds.drop i).flatMap (J9m v ds)=T) (by unfold LIM;omega) (by simp) ⟨Nat.le_refl _,hf,acc0,B0,by simpa using hT⟩ ?_ ?_
 ·rintro i st h1 m1 R hi hgi hk s37 hw ⟨hm1,hf1,acc,B,hJ⟩ hR hret _
  simp at hk
  rw [List.drop_eq_getElem_cons hi,List.flatMap_cons] at hJ
  have ga:=hg _ (List.getElem_mem hi)
  refine J0g [0,1,5,35,36,37] (fun s=>s 38 = .bool true) (by simp [hk,s37,hi]) ?_
  intro st1 hk1 s38
  simp at hk1
  refine J2m s38 (J09 (J0t ?_))
  refine J09 (Jw3 (.inr (.inl ⟨rfl,rfl,rfl,rfl⟩)) (keepL (by omega) hf1) hi (by simp [hk1,hk]) (by simp [hk1,s37]) ?_)
  intro st2 h2 r hk2 _ hf2 s9 e9 hr
  simp at hk2
  rw [J2i]
  have B2:J2a J3r 4 n0 acc (st 5) h2 (m1+1):=J2a.keep (R:=J3r) (fun _ _ _ _ _ _=>J3r.keep) B (Nat.le_succ m1) (J1h.of hf2) fun id rows _ hid _ e=>by rw [hf2 id hid,e]
  have hf20:∀ id,id<n0→h2 id=h0 id:=fun id hid=>by rw [hf2 id (by omega),hf1 id hid]
  refine J09 (Jtx (.inr (.inl ⟨rfl,rfl,rfl⟩)) ga hv s9 (by simp [hk2,hk1,hk,s1]) e9 hr ?_)
  intro st3 hk3 _ hx _
  have s10:=hx rfl
  simp at hk3
  rw [J2i]
  by_cases hp:J15 v ds[i]≤0
  ·have hj:J9m v ds ds[i]=[]:=by unfold J9m;rw [if_pos hp]
   rw [hj,List.nil_append] at hJ
   simp [s10,hp,hk3,hk2,hk1,s37,hw]
   exact hR _ _ _ (by simp [hk3,hk2,hk1,hk]) (by simp) ⟨by omega,hf20,acc,by simpa [hk3,hk2,hk1] using B2,hJ⟩
  ·rw [Joi hp,←List.append_assoc] at hJ
   have hal:=congrArg List.length hJ
   simp only [List.length_append] at hal
   simp [s10,hp,hk3,hk2,hk1,hk,s0]
   refine J4f (keepL (by omega) hf20) (by unfold LIM;omega) ?_
   simp
   refine Jwa (ds:=ds) (vl:=vl) (a:=ds[i]) (ra:=r) (k9:=m1) (acc0:=acc) (v:=v) hg ga hm hv hd hp L (by omega) (by omega) (by simp [hk3,hk2,hk1,hk,s1]) (by simp [hk3,s9]) (by simp [s10]) (by simp) (by simp) (by simp) hf20 e9 hr (by simpa [hk3,hk2,hk1] using B2) (by simpa [hk3,hk2,hk1] using B.below (Nat.le_refl m1)) rfl (by simp;omega) ?_
   intro st4 h4 m4 hk4 hm4 hf4 B4
   simp at hk4
   simp [hk4,hk3,hk2,hk1,s37,hw]
   exact hR _ _ _ (by simp [hk4,hk3,hk2,hk1,hk]) (by simp) ⟨by omega,hf4,_,by simpa using B4,hJ⟩
 ·rintro st h1 m1 R hk s37 ⟨hm1,hf1,acc,B,hJ⟩ hret hX
  simp at hk
  rw [List.drop_eq_nil_of_le (by omega)] at hJ
  simp at hJ
  subst hJ
  refine J0g [5] (fun s=>s 38 = .bool false) (by simp [hk,s37]) ?_
  intro st1 hk1 s38
  simp at hk1
  refine J2g s38 ?_
  refine hX _ _ _ _ ?_
  simp
  exact hK _ _ _ hm1 hf1 (by simpa [hk1] using B)
end
theorem Jht {ds:List DDer}{vl:AV}{N m v:Nat}{h:Heap}{n:Nat}{K:AV→Heap→Nat→Prop}(hg:∀ d∈ds,GD N m d) (hm:m≤20) (hv:v<N) (hd:ds.length≤60) (L:J2a J3r 4 0 ds vl h n)
 (hK:∀ a h' n',n≤n'→(∀ id,id<n→h' id=h id)→J2a J3r 4 n (J6s v ds) a h' n'→K a h' n'):J30 Tryz.prog 281 [vl,i64 v] h n K:=by
 refine J1z Tryz.func281 a281_ok rfl (by simp [a281]) ?_
 simp [a281,wo0,wo1]
 refine Jw4 (n0:=n) (h0:=h) hg hv hd (Nat.le_refl n) (fun _ _=>rfl) L (by simp) (by simp) (by simp) ?_
 intro s1 h1 n1 hk1 hn1 hf1 B1
 simp at hk1
 simp
 have hl:=Jbk (v:=v) (l:=ds)
 have h60:ds.length*ds.length≤60*60:=Nat.mul_le_mul hd hd
 refine Jvx (n0:=n) (h0:=h) hg hm hv hd L hn1 (by simp [hk1]) (by simp [hk1]) hf1 B1 (show _=J6s v ds from rfl) (by omega) ?_
 intro s2 h2 n2 hn2 hf2 B2
 simp [wo4]
 exact hK _ _ _ (by omega) hf2 B2
def fk0:AC:=(.reg [Zo 2 (.boxv (.t 0)),Zo 3 (.boxv (.t 1)),Zo 4 (.box [(.int .i64 0),(.nil 1)]),Zo 5 (.mv (.k (.bool false)))])
def fk1:AC:=(.seq (.reg [Zl 16 true 2 2,Zc 17 277 [.t 16],Zo 18 (.un .not (.t 17)),Zv 19 18,⟨some 20,.ld true 2 (.t 3),(some (19,false))⟩,⟨some 21,.fld 0 (.t 2),(some (19,false))⟩,⟨some 22,.ld false 1 (.t 21),(some (19,false))⟩,⟨some 23,.call (.k (.fn (.func 146) [] [])) [.t 20,.t 22],(some (19,false))⟩,⟨some 24,.un .not (.t 23),(some (19,false))⟩,Zo 25 (.pick (.t 19) (.k (.bool true)) (.t 24))]) (.cond (.t 25) (.seq (.reg [Zo 26 (.build [(.int .i64 0),(.nil 1)] []),⟨no,.st 2 (.t 4) (.t 26),no⟩,Zo 5 (.mv (.k (.bool false)))]) .ret) .skip))
def fk2:AC:=(.draw (.op (Zf 28 0 2) (.op (Zl 29 false 1 28) (.op (Zl 31 true 2 3) (.both (.op (Zc 30 178 [(.k (.int .i64 (-1))),.t 29]) (.both (.op (Zc 32 193 [.t 30,(.k (.int .i64 (-1))),.t 31]) (.op (Zv 27 32) (.op (Zo 33 (.ext (.t 27) 0)) (.op (Zo 34 (.ext (.t 27) 1)) (.op (Zo 6 (.box [(.int .i64 0),(.nil 1)])) (.hop ⟨no,.st 2 (.t 6) (.t 33),no⟩ [] (.op (Zv 7 34) .fin))))))) (.op (Zo 6 (.box [(.int .i64 0),(.nil 1)])) (.op (Zc 32 193 [.t 30,(.k (.int .i64 (-1))),.t 31]) (.op (Zv 27 32) (.op (Zo 33 (.ext (.t 27) 0)) (.op (Zo 34 (.ext (.t 27) 1)) (.hop ⟨no,.st 2 (.t 6) (.t 33),no⟩ [] (.op (Zv 7 34) .fin))))))))) (.op (Zo 6 (.box [(.int .i64 0),(.nil 1)])) (.op (Zc 30 178 [(.k (.int .i64 (-1))),.t 29]) (.op (Zc 32 193 [.t 30,(.k (.int .i64 (-1))),.t 31]) (.op (Zv 27 32) (.op (Zo 33 (.ext (.t 27) 0)) (.op (Zo 34 (.ext (.t 27) 1)) (.hop ⟨no,.st 2 (.t 6) (.t 33),no⟩ [] (.op (Zv 7 34) .fin)))))))))))))
def fk3:AC:=(.seq (.reg [Zv 35 7,Zo 36 (.un .not (.t 35))]) (.cond (.t 36) (.seq (.reg [Zo 37 (.build [(.int .i64 0),(.nil 1)] []),⟨no,.st 2 (.t 4) (.t 37),no⟩,Zo 5 (.mv (.k (.bool false)))]) .ret) .skip))
def fk4:AC:=(.reg [Zo 8 (.mv (.k (.nil 4)))])
def fa:AC:=(.reg [Zv 43 41,Zo 44 (.ixa 2 (.t 39) (.t 41)),Zl 45 true 2 44,Zo 10 (.box [(.int .i64 0),(.nil 1)]),Zv 9 43,⟨no,.st 2 (.t 10) (.t 45),no⟩])
def fb:AC:=(.reg [Zf 46 1 2,Zl 47 false 1 46,Zo 48 (.len false (.t 47)),Zo 49 (.mks 8 [(.int .i64 0)] (.t 48) (.t 48)),Zv 11 49])
def fc:AC:=(.reg [Zv 50 11,Zv 51 9,Zo 52 (.ixa 1 (.t 50) (.t 51)),⟨no,.st 1 (.t 52) (.k (.int .i64 1)),no⟩])
def fd:AC:=(.reg [Zv 53 8,Zl 54 true 2 10,Zv 55 11,Zo 56 (.build [(.int .i64 0),(.nil 1),(.nil 1),(.int .i64 0)] [(0,(2,(.t 54))),(2,(1,(.t 55))),(3,(1,(.k (.int .i64 0))))]),Zo 57 (.bslb 4 [.t 56]),Zo 58 (.appb 64 4 (.t 53) (.t 57)),Zv 8 58])
def fk5:AC:=(.seq (.reg [Zf 38 1 2,Zl 39 false 1 38,Zo 40 (.len false (.t 39)),Zo 41 (.mv (.k (.int .i64 0)))]) (.blk 0 (.loop (.seq (.reg [Zo 42 (.bin .lss (.t 41) (.t 40))]) (.seq (.cond (.t 42) .skip (.exit 0)) (.seq (.blk 1 (.seq  fa (.seq  fb (.seq  fc  fd)))) (.reg [Zo 59 (.bin .add (.t 41) (.k (.int .i64 1))),Zv 41 59])))))))
def fk6:AC:=(.draw (.op (Zv 60 8) (.op (Zl 61 true 2 6) (.op (Zf 62 1 2) (.op (Zl 63 false 1 62) (.op (Zo 64 (.len false (.t 63))) (.op (Zo 65 (.mks 8 [(.int .i64 0)] (.t 64) (.t 64))) (.op (Zo 66 (.build [(.int .i64 0),(.nil 1),(.nil 1),(.int .i64 0)] [(0,(2,(.t 61))),(2,(1,(.t 65))),(3,(1,(.k (.int .i64 1))))])) (.hop (Zo 67 (.bslb 4 [.t 66])) [] (.hop (Zo 68 (.appb 64 4 (.t 60) (.t 67))) [] (.hop (Zv 8 68) [] .fin)))))))))))
def fk7:AC:=(.seq (.reg [Zo 12 (.mv (.k (.int .i64 0)))]) (.blk 2 (.loop (.seq (.seq (.reg [Zv 69 12,Zf 70 0 2,Zl 71 false 1 70,Zo 72 (.bin .lss (.t 69) (.t 71))]) (.cond (.t 72) .skip (.exit 2))) (.seq (.blk 3 (.seq (.reg [Zv 75 8,Zv 76 12,Zc 77 281 [.t 75,.t 76],Zv 8 77]) (.seq (.reg [Zv 78 8,Zo 79 (.len false (.t 78)),Zo 80 (.bin .gtr (.t 79) (.k (.int .i64 60)))]) (.cond (.t 80) (.seq (.reg [Zo 81 (.build [(.int .i64 0),(.nil 1)] []),⟨no,.st 2 (.t 4) (.t 81),no⟩,Zo 5 (.mv (.k (.bool false)))]) .ret) .skip)))) (.reg [Zv 73 12,Zo 74 (.bin .add (.t 73) (.k (.int .i64 1))),Zv 12 74]))))))
def ga:AC:=(.reg [Zo 86 (.ixa 4 (.t 82) (.t 84)),Zl 87 true 4 86,Zo 14 (.box [(.int .i64 0),(.nil 1),(.nil 1),(.int .i64 0)]),⟨no,.st 4 (.t 14) (.t 87),no⟩])
def gb:AC:=(.seq (.reg [Zf 92 3 14,Zl 93 false 1 92,Zf 94 2 14,Zl 95 false 1 94,Zo 96 (.build [(.int .i64 0),(.nil 1)] [(0,(1,(.t 93))),(1,(1,(.t 95)))]),Zo 15 (.box [(.int .i64 0),(.nil 1)]),⟨no,.st 2 (.t 15) (.t 96),no⟩]) (.seq (.seq (.reg [Zl 97 true 2 2,Zl 98 true 2 3,Zl 99 true 2 15,Zc 100 196 [.t 97,.t 98,.t 99],Zo 101 (.un .not (.t 100))]) (.cond (.t 101) (.seq (.reg [Zo 102 (.build [(.int .i64 0),(.nil 1)] []),⟨no,.st 2 (.t 4) (.t 102),no⟩,Zo 5 (.mv (.k (.bool false)))]) .ret) .skip)) (.seq (.reg [Zl 103 true 2 15,⟨no,.st 2 (.t 4) (.t 103),no⟩,Zo 5 (.mv (.k (.bool true)))]) .ret)))
def fk8:AC:=(.seq (.reg [Zv 82 8,Zo 83 (.len false (.t 82)),Zo 84 (.mv (.k (.int .i64 0)))]) (.blk 4 (.loop (.seq (.reg [Zo 85 (.bin .lss (.t 84) (.t 83))]) (.seq (.cond (.t 85) .skip (.exit 4)) (.seq (.blk 5 (.seq  ga (.seq (.reg [Zf 88 0 14,Zf 89 0 88,Zl 90 false 1 89,Zo 91 (.bin .lss (.t 90) (.k (.int .i64 0)))]) (.cond (.t 91) gb .skip)))) (.reg [Zo 104 (.bin .add (.t 84) (.k (.int .i64 1))),Zv 84 104])))))))
def fk9:AC:=(.reg [Zo 105 (.build [(.int .i64 0),(.nil 1)] []),⟨no,.st 2 (.t 4) (.t 105),no⟩,Zo 5 (.mv (.k (.bool false)))])
def a210:AFn:=⟨106,[(.c 4 true 2),.t 5],(.seq fk0 (.seq fk1 (.seq fk2 (.seq fk3 (.seq fk4 (.seq fk5 (.seq fk6 (.seq fk7 (.seq fk8 (.seq fk9 .ret))))))))))⟩
theorem a210_ok:J5h true Tryz.prog Tryz.f210=some a210:=by kernel_rfl
theorem Jd5 {x:DSystem}{t:DLin}(h:(J7y x&&J1c t x.N)=false):Jbq x t=Option.none:=by unfold Jbq;rw [h];rfl
theorem Jo6 {x:DSystem}{t:DLin}(h:J0b (J04 (-1) x.N) (-1) t=Option.none):Jbq x t=Option.none:=by unfold Jbq;rw [h];split <;> rfl
theorem Jnj {x:DSystem}{t last:DLin}(h0:(J7y x&&J1c t x.N)=true) (h:J0b (J04 (-1) x.N) (-1) t=some last):Jbq x t=(goE 0 x.N.toNat (J8n x.Rows last)).bind (J7m x t):=by
 unfold Jbq;rw [h0,h];simp only [if_true]
 cases goE 0 x.N.toNat (J8n x.Rows last) <;> rfl
theorem Jhp {m k:Nat} : (List.replicate m [i64 0]).set k [i64 1]=J0e (J89 m k):=by
 unfold J89 J0e
 rw [List.map_set,List.map_replicate]
theorem Jpg {m:Nat} : List.replicate m [i64 0]=J0e (List.replicate m 0):=by
 unfold J0e
 rw [List.map_replicate]
section
variable {ks:List Kt}{s:Env}{h h':Heap}{n:Nat}{Q:Fin}
theorem Jw2 {x:DSystem}{t:DLin}(s2:s 2 = .ptr 0 0 0) (s3:s 3 = .ptr 1 0 0) (e0:h 0=some ⟨true,2,[J0f x]⟩) (e1:h 1=some ⟨true,2,[J06 t]⟩)
 (hK:∀ s' h' n' k q,(∀ i∈[2,3,4],s' i=s i)→n≤n'→(∀ id,id<n→h' id=h id)→s' 7 = .bool (J0b (J04 (-1) x.N) (-1) t).isSome→s' 6 = .ptr k 0 0→Jnr ((J0b (J04 (-1) x.N) (-1) t).getD J1d) k q h' n n'→J25 Tryz.prog ks .normal s' h' n' Q):rC Tryz.prog fk2 ks s h n Q:=by
 have fr:∀ id,id<n→¬id=n∧¬id=n+1∧¬id=n+2∧¬id=n+1+1:=by intro id _;omega
 have ne:¬n=n+1∧¬n+1=n∧¬n=n+1+1∧¬n+1+1=n∧¬n+1=n+1+1∧¬n+1+1=n+1:=by omega
 simp [fk2,s2,s3,e0,e1,J0f,J06]
 refine ⟨?_,?_⟩
 ·skip
  first|refine J00 (J11 (-1) x.N) (by first|simp;done|rfl) ?_|refine J01 (J11 (-1) x.N) (by first|simp;done|rfl) ?_
  rintro r rfl
  simp [J07]
  refine ⟨?_,?_⟩
  ·skip
   first|refine J00 (J0q (J04 (-1) x.N) (-1) t) (by first|simp [J06];done|rfl) ?_|refine J01 (J0q (J04 (-1) x.N) (-1) t) (by first|simp [J06];done|rfl) ?_
   rintro r rfl
   rw [J0o]
   generalize J0b (J04 (-1) x.N) (-1) t=T at *
   simp [J07,ne]
   exact hK _ _ _ (n+1+1) (n+1) (by simp) (by omega) (fun id hid=>by simp [fr id hid]) (by simp) (by simp) ⟨by omega,by omega,by omega,by omega,by omega,by simp,by simp [ne]⟩
  ·skip
   first|refine J00 (J0q (J04 (-1) x.N) (-1) t) (by first|simp [J06,ne];done|rfl) ?_|refine J01 (J0q (J04 (-1) x.N) (-1) t) (by first|simp [J06,ne];done|rfl) ?_
   rintro r rfl
   rw [J0o]
   generalize J0b (J04 (-1) x.N) (-1) t=T at *
   simp [J07,ne]
   exact hK _ _ _ (n+1) (n+1+1) (by simp) (by omega) (fun id hid=>by simp [fr id hid]) (by simp) (by simp) ⟨by omega,by omega,by omega,by omega,by omega,by simp [ne],by simp [ne]⟩
 ·skip
  first|refine J00 (J11 (-1) x.N) (by first|simp;done|rfl) ?_|refine J01 (J11 (-1) x.N) (by first|simp;done|rfl) ?_
  rintro r rfl
  simp [J07,ne]
  first|refine J00 (J0q (J04 (-1) x.N) (-1) t) (by first|simp [J06,ne];done|rfl) ?_|refine J01 (J0q (J04 (-1) x.N) (-1) t) (by first|simp [J06,ne];done|rfl) ?_
  rintro r rfl
  rw [J0o]
  generalize J0b (J04 (-1) x.N) (-1) t=T at *
  simp [J07,ne]
  exact hK _ _ _ n (n+1+1) (by simp) (by omega) (fun id hid=>by simp [fr id hid]) (by simp) (by simp) ⟨by omega,by omega,by omega,by omega,by omega,by simp [ne],by simp [ne]⟩
theorem Jqx {x:DSystem}{acc:List DDer}{i lo:Nat}(hi:i<x.Rows.length) (hm:x.Rows.length≤20) (s2:s 2 = .ptr 0 0 0) (s39:s 39 = .sl 2 (x.Rows.map J06)) (s41:s 41 = .int .i64 i) (e0:h 0=some ⟨true,2,[J0f x]⟩) (h0:0<n) (hlo:lo≤n) (B:J2a J3r 4 lo acc (s 8) h n) (hl:acc.length≤4000)
 (hK:∀ s' h' n',(∀ j∈[2,3,4,6,39,40,41],s' j=s j)→n≤n'→J1h h h' n→(∀ id,id<n→(∀ k,s 8 ≠ .ref id 0 k)→h' id=h id)→J2a J3r 4 lo (acc++[⟨x.Rows[i],J89 x.Rows.length i,0⟩]) (s' 8) h' n'→J25 Tryz.prog ks .normal s' h' n' Q):rC Tryz.prog (.seq fa (.seq fb (.seq fc fd))) ks s h n Q:=by
 have ne:¬n=n+1∧¬n+1=n∧¬n=n+1+1∧¬n+1+1=n∧¬n+1=n+1+1∧¬n+1+1=n+1∧¬0=n∧¬0=n+1:=by omega
 have fr:∀ id,id<n→¬id=n∧¬id=n+1∧¬id=n+1+1:=by intro id _;omega
 have hlim:(x.Rows.length:Int)*8≤LIM:=by unfold LIM;omega
 simp [fa,fb,fc,s2,s39,s41,e0,hi,ne,J0f,J06]
 intro _
 refine ⟨by unfold LIM at *;omega,?_⟩
 have hu:=Jhp (m:=x.Rows.length) (k:=i)
 simp only [i64] at hu
 rw [hu]
 have kp:J1h h (upd (upd h n (some ⟨true,2,[[.int .i64 x.Rows[i].Const,.sl 1 (J0e x.Rows[i].Coeffs)]]⟩)) (n+1) (some ⟨false,1,J0e (J89 x.Rows.length i)⟩)) n:=J1h.of fun id hid=>by simp [fr id hid]
 have hul:(J89 x.Rows.length i).length=x.Rows.length:=by simp [J89]
 simp [fd,ne]
 have kp2:J1h h (upd (upd (upd h n (some ⟨true,2,[[.int .i64 x.Rows[i].Const,.sl 1 (J0e x.Rows[i].Coeffs)]]⟩)) (n+1) (some ⟨false,1,J0e (J89 x.Rows.length i)⟩)) (n+1+1) (some ⟨true,4,[[.int .i64 x.Rows[i].Const,.sl 1 (J0e x.Rows[i].Coeffs),.ref (n+1) 0 x.Rows.length,.int .i64 0]]⟩)) n:=J1h.of fun id hid=>by simp [fr id hid]
 have B':=J2a.keep (R:=J3r) (n':=n+1+1+1) (fun _ _ _ _ _ _=>J3r.keep) B (by omega) kp2 fun id rows _ hid _ e=>by simp [fr id hid,e]
 refine J6p (R:=J3r) (fun _ _ _ _ _ _=>J3r.keep) B' (r:=[.int .i64 x.Rows[i].Const,.sl 1 (J0e x.Rows[i].Coeffs),.ref (n+1) 0 x.Rows.length,.int .i64 0]) (d:=⟨x.Rows[i],J89 x.Rows.length i,0⟩) (by simp [J3f]) ⟨_,_,rfl,.inl rfl,.inr ⟨n+1,by omega,by rw [hul],by simp [ne]⟩⟩ (by omega) (by unfold LIM;omega) ?_
 intro h' k1 k2 k3
 simp
 refine hK _ _ _ (by simp) (by omega) (kp2.trans k1 (by omega)) (fun id hid hv=>by rw [k2 id (by omega) hv];simp [fr id hid]) (by simpa using k3)
def stR (rows:List DLin):List DDer:=(List.range rows.length).map fun k=>(⟨rows.getD k J1d,J89 rows.length k,0⟩:DDer)
theorem Jl1 {rows:List DLin}{i:Nat}(hi:i<rows.length):(stR rows).take (i+1)=(stR rows).take i++[⟨rows[i],J89 rows.length i,0⟩]:=by
 have hl:i<(stR rows).length:=by simpa [stR] using hi
 rw [List.take_succ_eq_append_getElem hl]
 congr 2
 simp [stR,hi]
theorem Juq {x:DSystem}{n0:Nat}{h0:Heap}(hm:x.Rows.length≤20) (s2:s 2 = .ptr 0 0 0) (s8:s 8 = .nil 4) (e0:h0 0=some ⟨true,2,[J0f x]⟩) (hn0:0<n0) (hn:n0≤n) (hf:∀ id,id<n0→h id=h0 id)
 (hK:∀ s' h' n',(∀ j∈[2,3,4,6],s' j=s j)→n0≤n'→(∀ id,id<n0→h' id=h0 id)→J2a J3r 4 n0 (stR x.Rows) (s' 8) h' n'→J25 Tryz.prog ks .normal s' h' n' Q):rC Tryz.prog fk5 ks s h n Q:=by
 have e0':h 0=some ⟨true,2,[[.int .i64 x.N,.sl 2 (x.Rows.map J06)]]⟩:=by rw [hf 0 hn0,e0];rfl
 simp [fk5,s2,e0']
 intro _
 refine J0k [2,3,4,6,39,40] 41 x.Rows.length (fun i s h m=>n0≤m∧(∀ id,id<n0→h id=h0 id)∧J2a J3r 4 n0 ((stR x.Rows).take i) (s 8) h m) (by unfold LIM;omega) (by simp) ⟨hn,hf,.inl ⟨by simp [s8],by simp⟩⟩ ?_ ?_
 ·rintro i st h1 m1 R hi hgi hk s41 hw ⟨hm1,hf1,B⟩ hR hret _
  simp at hk
  refine J0g [2,3,4,6,8,39,40,41] (fun s=>s 42 = .bool true) (by simp [hk,s41,hi]) ?_
  intro st1 hk1 s42
  simp at hk1
  refine J2m s42 (J09 (J0t ?_))
  refine Jqx (acc:=(stR x.Rows).take i) (lo:=n0) hi hm (by simp [hk1,hk,s2]) (by simp [hk1,hk]) (by simp [hk1,s41]) (by rw [hf1 0 hn0,e0]) (by omega) hm1 (by simpa [hk1] using B) (by simp [stR];omega) ?_
  intro st2 h2 m2 hk2 hm2 kp2 hf2 B2
  simp at hk2
  simp [hk2,hk1,s41,hw]
  refine hR _ _ _ (by simp [hk2,hk1,hk]) (by simp) ⟨by omega,fun id hid => ?_,?_⟩
  ·rw [hf2 id (by omega) fun k e => ?_,hf1 id hid]
   have:=B.from id k (by simpa [hk1] using e)
   omega
  ·rw [Jl1 hi]
   simpa using B2
 ·rintro st h1 m1 R hk s41 ⟨hm1,hf1,B⟩ hret hX
  simp at hk
  have ht:(stR x.Rows).take x.Rows.length=stR x.Rows:=List.take_of_length_le (by simp [stR])
  rw [ht] at B
  refine J0g [2,3,4,6,8] (fun s=>s 42 = .bool false) (by simp [hk,s41]) ?_
  intro st1 hk1 s42
  simp at hk1
  refine J2g s42 ?_
  refine hX _ _ _ _ ?_
  simp
  exact hK _ _ _ (by simp [hk1,hk]) hm1 hf1 (by simpa [hk1] using B)
end
section
variable {ks:List Kt}{s:Env}{h h':Heap}{n:Nat}{Q:Fin}
theorem Ju0 {x:DSystem}{last:DLin}{acc:List DDer}{lo k6 q6:Nat}(hm:x.Rows.length≤20) (s2:s 2 = .ptr 0 0 0) (s6:s 6 = .ptr k6 0 0) (e0:h 0=some ⟨true,2,[J0f x]⟩) (h0:0<n) (L:Jnr last k6 q6 h 3 n) (hlo:lo≤n) (B:J2a J3r 4 lo acc (s 8) h n) (hl:acc.length≤4000)
 (hK:∀ s' h' n',(∀ j∈[2,3,4],s' j=s j)→n≤n'→(∀ id,id<n→(∀ k,s 8 ≠ .ref id 0 k)→h' id=h id)→J2a J3r 4 lo (acc++[⟨last,List.replicate x.Rows.length 0,1⟩]) (s' 8) h' n'→J25 Tryz.prog ks .normal s' h' n' Q):rC Tryz.prog fk6 ks s h n Q:=by
 obtain ⟨q1,q2,q3,q4,q5,e6,eq⟩:=L
 have ne:¬n=n+1∧¬n+1=n∧¬n=n+1+1∧¬n+1+1=n∧¬n+1=n+1+1∧¬n+1+1=n+1∧¬0=n∧¬0=n+1:=by omega
 have fr:∀ id,id<n→¬id=n∧¬id=n+1∧¬id=n+1+1:=by intro id _;omega
 have hz:=Jpg (m:=x.Rows.length)
 simp only [i64] at hz
 simp [fk6,s2,s6,e0,e6,J0f]
 rw [hz]
 refine ⟨by unfold LIM;omega,?_⟩
 have kp2:J1h h (upd (upd h n (some ⟨false,1,J0e (List.replicate x.Rows.length 0)⟩)) (n+1) (some ⟨true,4,[[.int .i64 last.Const,.ref q6 0 last.Coeffs.length,.ref n 0 x.Rows.length,.int .i64 1]]⟩)) n:=J1h.of fun id hid=>by simp [fr id hid]
 have B':=J2a.keep (R:=J3r) (n':=n+1+1) (fun _ _ _ _ _ _=>J3r.keep) B (by omega) kp2 fun id rows _ hid _ e=>by simp [fr id hid,e]
 refine J6p (R:=J3r) (fun _ _ _ _ _ _=>J3r.keep) B' (r:=[.int .i64 last.Const,.ref q6 0 last.Coeffs.length,.ref n 0 x.Rows.length,.int .i64 1]) (d:=⟨last,List.replicate x.Rows.length 0,1⟩) (by simp [J3f]) ⟨_,_,rfl,.inr (.inr ⟨q6,by omega,rfl,by simp [fr q6 q4,eq]⟩),.inr ⟨n,by omega,by simp,by simp [ne]⟩⟩ (by omega) (by unfold LIM;omega) ?_
 intro h' k1 k2 k3
 simp
 exact hK _ _ _ (by simp) (by omega) (fun id hid hv=>by rw [k2 id (by omega) hv];simp [fr id hid]) (by simpa using k3)
theorem Jkq {v n:Nat}{l:List DDer}(h:¬(J6s v l).length≤60):goE v (n+1) l=Option.none:=by simp only [goE];rw [if_neg h]
theorem Jk5 {v n:Nat}{l:List DDer}(h:(J6s v l).length≤60):goE v (n+1) l=goE (v+1) n (J6s v l):=by simp only [goE];rw [if_pos h]
theorem Jv8 {x:DSystem}{m n0:Nat}{h0:Heap}{F:Option (List DDer)}{l0:List DDer}(hm:m≤20) (hx:0≤x.N∧x.N≤8) (s2:s 2 = .ptr 0 0 0) (s4:s 4 = .ptr 2 0 0) (e0:h0 0=some ⟨true,2,[J0f x]⟩) (e2:h0 2=some ⟨true,2,[[.int .i64 0,.nil 1]]⟩) (hn0:2<n0) (hn:n0≤n) (hf:∀ id,id<n0→h id=h0 id)
 (hg0:∀ d∈l0,GD x.N.toNat m d) (hl0:l0.length≤60) (B0:J2a J3r 4 n0 l0 (s 8) h n) (hF:goE 0 x.N.toNat l0=F)
 (hret:F=Option.none→∀ s' h' n',s' 4 = .ptr 2 0 0→s' 5 = .bool false→h' 2=some ⟨true,2,[[.int .i64 0,.nil 1]]⟩→J25 Tryz.prog ks .ret s' h' n' Q)
 (hK:∀ s' h' n' L,(∀ j∈[2,3,4],s' j=s j)→n0≤n'→(∀ id,id<n0→h' id=h0 id)→F=some L→L.length≤60→J2a J3r 4 n0 L (s' 8) h' n'→J25 Tryz.prog ks .normal s' h' n' Q):rC Tryz.prog fk7 ks s h n Q:=by
 have e0':∀ {h':Heap},(∀ id,id<n0→h' id=h0 id)→h' 0=some ⟨true,2,[[.int .i64 x.N,.sl 2 (x.Rows.map J06)]]⟩:=fun hh=>by rw [hh 0 (by omega),e0];rfl
 have hN:((x.N.toNat:Nat):Int)=x.N:=by omega
 simp [fk7]
 refine J0k [2,3,4] 12 x.N.toNat (fun i s h m'=>n0≤m'∧(∀ id,id<n0→h id=h0 id)∧∃ l,(∀ d∈l,GD x.N.toNat m d)∧l.length≤60∧J2a J3r 4 n0 l (s 8) h m'∧goE i (x.N.toNat - i) l=F) (by unfold LIM;omega) (by simp) ⟨hn,hf,l0,hg0,hl0,by simpa using B0,by simpa using hF⟩ ?_ ?_
 ·rintro i st h1 m1 R hi hgi hk s12 hw ⟨hm1,hf1,l,hg,hl,B,hJ⟩ hR hrt _
  simp at hk
  have hiN:(i:Int)<x.N:=by omega
  refine J09 (J0g [2,3,4,8,12] (fun s=>s 72 = .bool true) (by simp [hk,s12,s2,e0' hf1,hiN]) ?_)
  intro st1 hk1 s72
  simp at hk1
  refine J1u s72 (J09 (J0t ?_))
  have hl2:=Jbk (v:=i) (l:=l)
  have h60:l.length*l.length≤60*60:=Nat.mul_le_mul hl hl
  refine J17 [2,3,4,12] (fun s h' m'=>m1≤m'∧(∀ id,id<m1→h' id=h1 id)∧J2a J3r 4 m1 (J6s i l) (s 8) h' m') ?_ ?_
  ·simp [hk1,s12]
   refine Jht hg hm hi hl (B.low (Nat.zero_le _)) ?_
   intro a h' n' g1 g2 g3
   simp
   exact ⟨g1,g2,g3⟩
  rintro st2 h2 m2 hk2 ⟨hm2,hf2,B2⟩
  simp at hk2
  have hf20:∀ id,id<n0→h2 id=h0 id:=fun id hid=>by rw [hf2 id (by omega),hf1 id hid]
  have hs:x.N.toNat - i=(x.N.toNat - (i+1))+1:=by omega
  rw [hs] at hJ
  refine J0g [2,3,4,8,12] (fun s=>s 80 = .bool (decide (60<(J6s i l).length))) ?_ ?_
  ·simp
   refine J4f B2 (by unfold LIM;omega) ?_
   simp
   omega
  intro st3 hk3 s80
  simp at hk3
  by_cases h6:(J6s i l).length≤60
  ·rw [Jk5 h6] at hJ
   have h6':¬60<(J6s i l).length:=by omega
   simp [s80,h6',h6,hk3,hk2,hk1,s12,hw]
   exact hR _ _ _ (by simp [hk3,hk2,hk1,hk]) (by simp) ⟨by omega,hf20,_,Jgf hg,h6,by simpa [hk3] using B2.low hm1,hJ⟩
  ·rw [Jkq h6] at hJ
   have h6':60<(J6s i l).length:=by omega
   have x4:h2 2=some ⟨true,2,[[.int .i64 0,.nil 1]]⟩:=by rw [hf20 2 hn0,e2]
   simp [s80,h6',h6,hk3,hk2,hk1,hk,s4,x4]
   refine hrt _ _ _ (hret hJ.symm _ _ _ (by simp [hk3,hk2,hk1,hk,s4]) (by simp) (by simp))
 ·rintro st h1 m1 R hk s12 ⟨hm1,hf1,l,hg,hl,B,hJ⟩ hrt hX
  simp at hk
  rw [Nat.sub_self] at hJ
  simp only [goE] at hJ
  have hiN:¬((x.N.toNat:Nat):Int)<x.N:=by omega
  refine J09 (J0g [2,3,4,8] (fun s=>s 72 = .bool false) (by simp [hk,s12,s2,e0' hf1];omega) ?_)
  intro st1 hk1 s72
  simp at hk1
  refine J1s s72 ?_
  refine hX _ _ _ _ ?_
  simp
  exact hK _ _ _ l (by simp [hk1,hk]) hm1 hf1 hJ.symm hl (by simpa [hk1] using B)
end
section
variable {ks:List Kt}{s:Env}{h h':Heap}{n:Nat}{Q:Fin}
def Jpp (o:Option DFarkas) (s:Env) (h:Heap) (n:Nat):Prop:=s 4 = .ptr 2 0 0∧s 5 = .bool o.isSome∧∃ vm,h 2=some ⟨true,2,[[.int .i64 (o.getD J5j).Scale,vm]]⟩∧OVi (o.getD J5j).Mult vm h n
theorem Jpp.fin {o:Option DFarkas}(x:Jpp o s h n):K1m [.c 4 true 2,.t 5] (fun r=>r=J9l o) .ret s h n:=by
 obtain ⟨s4,s5,vm,e,hv⟩:=x
 rcases hv with ⟨rfl,hz⟩|⟨id,_,rfl,ei⟩
 ·simp [s4,s5,e,J9l,J1i,hz,J0e]
 ·simp [s4,s5,e,ei,J9l,J1i]
theorem Jpp.no (s4:s 4 = .ptr 2 0 0) (s5:s 5 = .bool false) (e:h 2=some ⟨true,2,[[.int .i64 0,.nil 1]]⟩):Jpp Option.none s h n:=⟨s4,s5,.nil 1,e,.inl ⟨rfl,rfl⟩⟩
theorem Jvo {x:DSystem}{t:DLin}{L:List DDer}{n0:Nat}(hL:L.length≤60) (hn0:2<n0) (hn:n0≤n) (s2:s 2 = .ptr 0 0 0) (s3:s 3 = .ptr 1 0 0) (s4:s 4 = .ptr 2 0 0) (e0:h 0=some ⟨true,2,[J0f x]⟩) (e1:h 1=some ⟨true,2,[J06 t]⟩) (e2:h 2=some ⟨true,2,[[.int .i64 0,.nil 1]]⟩) (B0:J2a J3r 4 n0 L (s 8) h n)
 (hret:∀ s' h' n',Jpp (J7m x t L) s' h' n'→J25 Tryz.prog ks .ret s' h' n' Q)
 (hK:∀ s' h' n',J7m x t L=Option.none→s' 4 = .ptr 2 0 0→h' 2=some ⟨true,2,[[.int .i64 0,.nil 1]]⟩→J25 Tryz.prog ks .normal s' h' n' Q):rC Tryz.prog fk8 ks s h n Q:=by
 simp [fk8]
 refine J4f B0 (by unfold LIM;omega) ?_
 simp
 refine J0k [2,3,4,82,83] 84 L.length (fun i s h' m=>n≤m∧(∀ id,id<n→h' id=h id)∧J7m x t (L.drop i)=J7m x t L) (by unfold LIM;omega) (by simp) ⟨Nat.le_refl _,fun _ _=>rfl,by simp⟩ ?_ ?_
 ·rintro i st h1 m1 R hi hgi hk s84 hw ⟨hm1,hf1,hJ⟩ hR hrt _
  simp at hk
  rw [List.drop_eq_getElem_cons hi] at hJ
  have B1:J2a J3r 4 n0 L (st 82) h1 m1:=by
   rw [hk.2.2.2.1]
   exact J2a.keep (R:=J3r) (fun _ _ _ _ _ _=>J3r.keep) B0 hm1 (J1h.of hf1) fun id rows _ hid _ e=>by rw [hf1 id hid,e]
  refine J0g [2,3,4,82,83,84] (fun s=>s 85 = .bool true) (by simp [hk,s84,hi]) ?_
  intro st1 hk1 s85
  simp at hk1
  refine J2m s85 (J09 (J0t ?_))
  have fr:∀ id,id<m1→¬id=m1:=by intro id _;omega
  refine J17 [2,3,4,82,83,84] (fun s h' m'=>m'=m1+1∧s 14 = .ptr m1 0 0∧(∀ id,id<m1→h' id=h1 id)∧∃ r,h' m1=some ⟨true,4,[r]⟩∧J3r L[i] r h' (m1+1)) ?_ ?_
  ·simp [-J0n,ga,hk1,s84]
   refine J6e B1 hi ?_
   intro id rows r hid e hl hr hD
   have hne:¬id=m1:=by omega
   have hD':=hD
   obtain ⟨v1,v2,rfl,g1,g2⟩:=hD
   have c1:=g1.cell
   have c2:=g2.cell
   simp [-J0n,e,hl,hr,c1,c2]
   simp [J0n]
   exact ⟨fun id hid=>by simp [fr id hid],hD'.keep (Nat.le_succ m1) (J1h.of fun id hid=>by simp [fr id hid])⟩
  rintro st2 h2 m2 hk2 ⟨rfl,s14,hf2,r,e14,hD⟩
  simp at hk2
  have hf20:∀ id,id<n→h2 id=h id:=fun id hid=>by rw [hf2 id (by omega),hf1 id hid]
  have e0':h2 0=some ⟨true,2,[J0f x]⟩:=by rw [hf20 0 (by omega),e0]
  have e1':h2 1=some ⟨true,2,[J06 t]⟩:=by rw [hf20 1 (by omega),e1]
  have e2':h2 2=some ⟨true,2,[[.int .i64 0,.nil 1]]⟩:=by rw [hf20 2 (by omega),e2]
  obtain ⟨v1,vm,rfl,g1,g2⟩:=hD
  have c2:=g2.cell
  have n2:¬2=m1+1∧¬1=m1+1∧¬0=m1+1∧¬m1=0:=by omega
  by_cases hc:(L[i]).l.Const<0
  ·have hfind:J7m x t (L[i]::L.drop (i+1))=if J7b x t ⟨L[i].scale,L[i].mult⟩ then some ⟨L[i].scale,L[i].mult⟩ else Option.none:=by
    unfold J7m
    rw [List.find?_cons,decide_eq_true hc]
   rw [hfind] at hJ
   have g2':OVi L[i].mult vm (upd h2 (m1+1) (some ⟨true,2,[[.int .i64 L[i].scale,vm]]⟩)) (m1+1+1):=g2.keep (Nat.le_succ _) (J1h.of fun id hid=>by rw [J0v];omega)
   have hcall:∀ {K:AV→Heap→Nat→Prop},K (.bool (J7b x t ⟨L[i].scale,L[i].mult⟩)) (upd h2 (m1+1) (some ⟨true,2,[[.int .i64 L[i].scale,vm]]⟩)) (m1+1+1)→J30 Tryz.prog 196 [.agg (J0f x),.agg (J06 t),.agg [.int .i64 L[i].scale,vm]] (upd h2 (m1+1) (some ⟨true,2,[[.int .i64 L[i].scale,vm]]⟩)) (m1+1+1) K:=by
    intro K hk
    have hb:=g2'.bw
    refine J01 (Jh5 x t ⟨L[i].scale,L[i].mult⟩) ?_ ?_
    ·simp only [bwl,bw]
     rw [hb]
     simp [J0f,J06,J45]
    ·rintro r rfl
     simpa using hk
   have fin:∀ {st':Env}{h':Heap}{m':Nat},st' 4 = .ptr 2 0 0→st' 5 = .bool (J7b x t ⟨L[i].scale,L[i].mult⟩)→(J7b x t ⟨L[i].scale,L[i].mult⟩=true→OVi L[i].mult vm h' m'∧h' 2=some ⟨true,2,[[.int .i64 L[i].scale,vm]]⟩)→(J7b x t ⟨L[i].scale,L[i].mult⟩=false→h' 2=some ⟨true,2,[[.int .i64 0,.nil 1]]⟩)→R .ret st' h' m':=by
    intro st' h' m' x4 x5 y1 y2
    refine hrt _ _ _ (hret _ _ _ ?_)
    rw [←hJ]
    cases hch:J7b x t ⟨L[i].scale,L[i].mult⟩
    ·rw [hch] at x5
     exact Jpp.no x4 x5 (y2 hch)
    ·rw [hch] at x5
     exact ⟨x4,x5,vm,(y1 hch).2,(y1 hch).1⟩
   have kp2:∀ B,J1h (upd h2 (m1+1) (some ⟨true,2,[[.int .i64 L[i].scale,vm]]⟩)) (upd (upd h2 (m1+1) (some ⟨true,2,[[.int .i64 L[i].scale,vm]]⟩)) 2 B) (m1+1+1):=fun B id z rows hid e=>by
    have:¬id=2:=by rintro rfl;simp [n2,e2'] at e
    rw [J0v _ _ _ _ this];exact e
   have hcase:vm = .nil 1∨∃ id l,vm = .ref id 0 l:=by
    rcases g2 with ⟨rfl,_⟩|⟨id,_,rfl,_⟩
    ·exact .inl rfl
    ·exact .inr ⟨_,_,rfl⟩
   rcases hcase with rfl|⟨id',l',rfl⟩
   all_goals
    simp [gb,s14,e14,hc,hk2,hk1,hk,s2,s3,e0',e1',n2,J0f,J06]
    refine hcall ?_
    cases hch:J7b x t ⟨L[i].scale,L[i].mult⟩
    ·simp [hk2,hk1,hk,s4,e2',n2]
     exact fin (by simp [hk2,hk1,hk,s4]) (by simp [hch]) (fun e=>by rw [hch] at e;cases e) (fun _=>by simp)
    ·simp [hk2,hk1,hk,s4,e2',n2]
     exact fin (by simp [hk2,hk1,hk,s4]) (by simp [hch]) (fun _=>⟨g2'.keep (Nat.le_refl _) (kp2 _),by simp⟩) (fun e=>by rw [hch] at e;cases e)
  ·have hfind:J7m x t (L[i]::L.drop (i+1))=J7m x t (L.drop (i+1)):=by
    unfold J7m
    rw [List.find?_cons,decide_eq_false hc]
   rw [hfind] at hJ
   simp [s14,e14,hc,hk2,hk1,s84,hw]
   exact hR _ _ _ (by simp [hk2,hk1,hk]) (by simp) ⟨by omega,hf20,hJ⟩
 ·rintro st h1 m1 R hk s84 ⟨hm1,hf1,hJ⟩ hrt hX
  simp at hk
  rw [List.drop_eq_nil_of_le (by omega)] at hJ
  refine J0g [2,3,4,82,83] (fun s=>s 85 = .bool false) (by simp [hk,s84]) ?_
  intro st1 hk1 s85
  simp at hk1
  refine J2g s85 ?_
  refine hX _ _ _ _ ?_
  simp
  exact hK _ _ _ hJ.symm (by simp [hk1,hk,s4]) (by rw [hf1 2 (by omega),e2])
end
theorem Jcp (x:DSystem) (t:DLin):Holds Tryz.prog 210 [.agg (J0f x),.agg (J06 t)] (fun r=>r=J9l (Jbq x t)):=by
 refine J02 Tryz.func210 a210_ok rfl (by simp [a210]) ?_
 simp [a210,fk0,fk1]
 first|refine J00 (J3i x) (by first|simp;done|rfl) ?_|refine J01 (J3i x) (by first|simp;done|rfl) ?_
 rintro r rfl
 generalize hF:Jbq x t=F
 cases h1:J7y x
 ·have:=Jd5 (x:=x) (t:=t) (by rw [h1];rfl)
  rw [this] at hF
  subst hF
  simp [J9l,J5j,J1i,J0e]
 simp [J0f]
 first|refine J00 (J0z t x.N) (by first|simp;done|rfl) ?_|refine J01 (J0z t x.N) (by first|simp;done|rfl) ?_
 rintro r rfl
 cases h2:J1c t x.N
 ·have:=Jd5 (x:=x) (t:=t) (by rw [h1,h2];rfl)
  rw [this] at hF
  subst hF
  simp [J9l,J5j,J1i,J0e]
 simp
 refine Jw2 (x:=x) (t:=t) (by simp) (by simp) (by simp [J0f]) (by simp [J06]) ?_
 intro s1 h3 n1 k6 q6 hk1 hn1 hf1 s7 s6 L6
 simp at hk1
 have hf1:∀ id,id<3→h3 id=_:=hf1
 have z0:h3 0=some ⟨true,2,[J0f x]⟩:=by rw [hf1 0 (by omega)];simp [J0f]
 have z1:h3 1=some ⟨true,2,[J06 t]⟩:=by rw [hf1 1 (by omega)];simp [J06]
 have z2:h3 2=some ⟨true,2,[[.int .i64 0,.nil 1]]⟩:=by rw [hf1 2 (by omega)];simp
 cases hT:J0b (J04 (-1) x.N) (-1) t with
 | none=>
  rw [Jo6 hT] at hF
  subst hF
  simp [fk3,s7,hT,hk1,z2,J9l,J5j,J1i,J0e]
 | some last=>
  rw [Jnj (by rw [h1,h2];rfl) hT] at hF
  rw [hT] at s7 L6
  simp only [Option.getD_some] at L6
  have hsys:=Jd8 h1
  simp [fk3,s7,fk4]
  refine Juq (n0:=n1) (h0:=h3) hsys.1 (by simp [hk1]) (by simp) z0 (by omega) (Nat.le_refl _) (fun _ _=>rfl) ?_
  intro s4 h4 n4 hk4 hn4 hf4 B4
  simp at hk4
  simp
  have L6':Jnr last k6 q6 h4 3 n4:=by
   obtain ⟨q1,q2,q3,q4,q5,e6,eq⟩:=L6
   exact ⟨q1,by omega,q3,by omega,q5,by rw [hf4 k6 q2,e6],by rw [hf4 q6 q4,eq]⟩
  refine Ju0 (last:=last) hsys.1 (by simp [hk4,hk1]) (by simp [hk4,s6]) (by rw [hf4 0 (by omega),z0]) (by omega) L6' hn4 B4 (by simp [stR];omega) ?_
  intro s5 h5 n5 hk5 hn5 hf5 B5
  simp at hk5
  simp
  have hf50:∀ id,id<n1→h5 id=h3 id:=fun id hid=>by
   rw [hf5 id (by omega) fun k e => ?_,hf4 id hid]
   have:=B4.from id k e
   omega
  rw [show stR x.Rows++[⟨last,List.replicate x.Rows.length 0,1⟩]=J8n x.Rows last from rfl] at B5
  refine Jv8 (x:=x) (n0:=n1) (h0:=h3) (F:=goE 0 x.N.toNat (J8n x.Rows last)) hsys.1 hsys.2.1 (by simp [hk5,hk4,hk1]) (by simp [hk5,hk4,hk1]) z0 z2 (by omega) (by omega) hf50 (Jh0 h1 hT) (by rw [Jfu];omega) B5 rfl ?_ ?_
  ·intro hn s' h' n' x4 x5 x2
   rw [hn] at hF
   simp at hF
   subst hF
   simp only [J7a,Jcz]
   exact (Jpp.no (n:=n') x4 x5 x2).fin
  ·intro s7' h7 n7 L hk7 hn7 hf7 hL hLl B7
   rw [hL] at hF
   simp only [Option.bind_some] at hF
   simp at hk7
   simp
   refine Jvo (x:=x) (t:=t) (n0:=n1) hLl (by omega) hn7 (by simp [hk7,hk5,hk4,hk1]) (by simp [hk7,hk5,hk4,hk1]) (by simp [hk7,hk5,hk4,hk1]) (by rw [hf7 0 (by omega),z0]) (by rw [hf7 1 (by omega),z1]) (by rw [hf7 2 (by omega),z2]) B7 ?_ ?_
   ·intro s' h' n' hr
    rw [hF] at hr
    simp only [J7a,Jcz]
    exact hr.fin
   ·intro s' h' n' hno x4 x2
    rw [hno] at hF
    subst hF
    simp [fk9,x4,x2,J9l,J5j,J1i,J0e]
def sk0:AC:=(.reg [Zo 2 (.boxv (.t 0)),Zo 3 (.boxv (.t 1)),Zo 4 (.box [(.int .i64 0),(.nil 1)]),Zo 5 (.mv (.k (.bool false)))])
def sk1:AC:=(.seq (.reg [Zl 16 true 2 2,Zc 17 258 [.t 16],Zo 18 (.un .not (.t 17)),Zv 19 18,⟨some 20,.ld true 2 (.t 3),(some (19,false))⟩,⟨some 21,.fld 0 (.t 2),(some (19,false))⟩,⟨some 22,.ld false 1 (.t 21),(some (19,false))⟩,⟨some 23,.call (.k (.fn (.func 179) [] [])) [.t 20,.t 22],(some (19,false))⟩,⟨some 24,.un .not (.t 23),(some (19,false))⟩,Zo 25 (.pick (.t 19) (.k (.bool true)) (.t 24))]) (.cond (.t 25) (.seq (.reg [Zo 26 (.build [(.int .i64 0),(.nil 1)] []),⟨no,.st 2 (.t 4) (.t 26),no⟩,Zo 5 (.mv (.k (.bool false)))]) .ret) .skip))
def sk2:AC:=(.reg [Zf 27 1 2,Zl 28 false 1 27,Zo 29 (.len false (.t 28)),Zv 6 29])
def sk3:AC:=(.reg [Zo 30 (.bslb 3 []),Zv 7 30])
def ska:AC:=(.reg [Zv 36 6,Zo 37 (.bin .add (.t 36) (.k (.int .i64 1))),Zo 38 (.mks 8 [(.int .i64 0)] (.t 37) (.t 37)),Zv 9 38])
def skb:AC:=(.reg [Zv 39 9,Zv 40 8,Zo 41 (.ixa 1 (.t 39) (.t 40)),⟨no,.st 1 (.t 41) (.k (.int .i64 1)),no⟩])
def skc:AC:=(.reg [Zv 42 7,Zf 43 1 2,Zl 44 false 1 43,Zv 45 8,Zo 46 (.ixa 2 (.t 44) (.t 45)),Zl 47 true 2 46,Zv 48 9,Zo 49 (.build [(.int .i64 0),(.nil 1),(.nil 1)] [(0,(2,(.t 47))),(2,(1,(.t 48)))]),Zo 50 (.bslb 3 [.t 49]),Zo 51 (.appb 56 3 (.t 42) (.t 50)),Zv 7 51])
def sk4:AC:=(.seq (.reg [Zo 8 (.mv (.k (.int .i64 0)))]) (.blk 0 (.loop (.seq (.seq (.reg [Zv 31 8,Zv 32 6,Zo 33 (.bin .lss (.t 31) (.t 32))]) (.cond (.t 33) .skip (.exit 0))) (.seq (.blk 1 (.seq  ska (.seq  skb  skc))) (.reg [Zv 34 8,Zo 35 (.bin .add (.t 34) (.k (.int .i64 1))),Zv 8 35]))))))
def sk5:AC:=(.draw (.op (Zf 53 0 2) (.op (Zl 54 false 1 53) (.op (Zl 56 true 2 3) (.both (.op (Zc 55 99 [(.k (.int .i64 (-1))),.t 54]) (.both (.op (Zc 57 98 [.t 55,(.k (.int .i64 (-1))),.t 56]) (.op (Zv 52 57) (.op (Zo 58 (.ext (.t 52) 0)) (.op (Zo 59 (.ext (.t 52) 1)) (.op (Zo 10 (.box [(.int .i64 0),(.nil 1)])) (.hop ⟨no,.st 2 (.t 10) (.t 58),no⟩ [] (.op (Zv 11 59) .fin))))))) (.op (Zo 10 (.box [(.int .i64 0),(.nil 1)])) (.op (Zc 57 98 [.t 55,(.k (.int .i64 (-1))),.t 56]) (.op (Zv 52 57) (.op (Zo 58 (.ext (.t 52) 0)) (.op (Zo 59 (.ext (.t 52) 1)) (.hop ⟨no,.st 2 (.t 10) (.t 58),no⟩ [] (.op (Zv 11 59) .fin))))))))) (.op (Zo 10 (.box [(.int .i64 0),(.nil 1)])) (.op (Zc 55 99 [(.k (.int .i64 (-1))),.t 54]) (.op (Zc 57 98 [.t 55,(.k (.int .i64 (-1))),.t 56]) (.op (Zv 52 57) (.op (Zo 58 (.ext (.t 52) 0)) (.op (Zo 59 (.ext (.t 52) 1)) (.hop ⟨no,.st 2 (.t 10) (.t 58),no⟩ [] (.op (Zv 11 59) .fin)))))))))))))
def sk6:AC:=(.seq (.reg [Zv 60 11,Zo 61 (.un .not (.t 60))]) (.cond (.t 61) (.seq (.reg [Zo 62 (.build [(.int .i64 0),(.nil 1)] []),⟨no,.st 2 (.t 4) (.t 62),no⟩,Zo 5 (.mv (.k (.bool false)))]) .ret) .skip))
def sk7:AC:=(.reg [Zv 63 6,Zo 64 (.bin .add (.t 63) (.k (.int .i64 1))),Zo 65 (.mks 8 [(.int .i64 0)] (.t 64) (.t 64)),Zv 12 65])
def sk8:AC:=(.reg [Zv 66 12,Zv 67 6,Zo 68 (.ixa 1 (.t 66) (.t 67)),⟨no,.st 1 (.t 68) (.k (.int .i64 1)),no⟩])
def sk9:AC:=(.reg [Zv 69 7,Zl 70 true 2 10,Zv 71 12,Zo 72 (.build [(.int .i64 0),(.nil 1),(.nil 1)] [(0,(2,(.t 70))),(2,(1,(.t 71)))]),Zo 73 (.bslb 3 [.t 72]),Zo 74 (.appb 56 3 (.t 69) (.t 73)),Zv 7 74])
def K80:AC:=(.seq (.reg [Zo 13 (.mv (.k (.int .i64 0)))]) (.blk 2 (.loop (.seq (.seq (.reg [Zv 75 13,Zf 76 0 2,Zl 77 false 1 76,Zo 78 (.bin .lss (.t 75) (.t 77))]) (.cond (.t 78) .skip (.exit 2))) (.seq (.blk 3 (.seq (.reg [Zv 81 7,Zv 82 13,Zc 83 259 [.t 81,.t 82],Zv 7 83]) (.seq (.reg [Zv 84 7,Zo 85 (.len false (.t 84)),Zo 86 (.bin .gtr (.t 85) (.k (.int .i64 60)))]) (.cond (.t 86) (.seq (.reg [Zo 87 (.build [(.int .i64 0),(.nil 1)] []),⟨no,.st 2 (.t 4) (.t 87),no⟩,Zo 5 (.mv (.k (.bool false)))]) .ret) .skip)))) (.reg [Zv 79 13,Zo 80 (.bin .add (.t 79) (.k (.int .i64 1))),Zv 13 80]))))))
def skg:AC:=(.reg [Zv 94 7,Zv 95 14,Zo 96 (.ixa 3 (.t 94) (.t 95)),Zf 97 0 96,Zf 98 0 97,Zl 99 false 1 98,Zo 100 (.bin .lss (.t 99) (.k (.int .i64 0)))])
def skh:AC:=(.draw (.op (Zv 101 7) (.op (Zv 102 14) (.op (Zo 103 (.ixa 3 (.t 101) (.t 102))) (.op (Zf 104 2 103) (.op (Zl 105 false 1 104) (.op (Zv 106 6) (.op (Zo 107 (.ixa 1 (.t 105) (.t 106))) (.op (Zl 108 false 1 107) (.op (Zv 110 7) (.op (Zv 111 14) (.op (Zo 112 (.ixa 3 (.t 110) (.t 111))) (.op (Zf 113 2 112) (.op (Zl 114 false 1 113) (.op (Zv 115 6) (.op (Zo 116 (.slc false 1 (.t 114) Option.none (some (.t 115)))) (.both (.hop (Zo 109 (.bsl 1 [])) [(.slc false 1 (.t 114) Option.none (some (.t 115))),(.ld false 1 (.t 113)),(.fld 2 (.t 112)),(.ixa 3 (.t 110) (.t 111)),(.ld false 1 (.t 107)),(.ixa 1 (.t 105) (.t 106)),(.ld false 1 (.t 104)),(.fld 2 (.t 103)),(.ixa 3 (.t 101) (.t 102))] (.both (.hop (Zo 117 (.app 8 1 (.t 109) (.t 116))) [(.ld false 1 (.t 107)),(.ixa 1 (.t 105) (.t 106)),(.ld false 1 (.t 104)),(.fld 2 (.t 103)),(.ixa 3 (.t 101) (.t 102))] (.op (Zo 118 (.build [(.int .i64 0),(.nil 1)] [(0,(1,(.t 108))),(1,(1,(.t 117)))])) (.op (Zo 15 (.box [(.int .i64 0),(.nil 1)])) (.hop ⟨no,.st 2 (.t 15) (.t 118),no⟩ [] .fin)))) (.op (Zo 15 (.box [(.int .i64 0),(.nil 1)])) (.hop (Zo 117 (.app 8 1 (.t 109) (.t 116))) [(.ld false 1 (.t 107)),(.ixa 1 (.t 105) (.t 106)),(.ld false 1 (.t 104)),(.fld 2 (.t 103)),(.ixa 3 (.t 101) (.t 102))] (.op (Zo 118 (.build [(.int .i64 0),(.nil 1)] [(0,(1,(.t 108))),(1,(1,(.t 117)))])) (.hop ⟨no,.st 2 (.t 15) (.t 118),no⟩ [] .fin)))))) (.op (Zo 15 (.box [(.int .i64 0),(.nil 1)])) (.hop (Zo 109 (.bsl 1 [])) [(.slc false 1 (.t 114) Option.none (some (.t 115))),(.ld false 1 (.t 113)),(.fld 2 (.t 112)),(.ixa 3 (.t 110) (.t 111)),(.ld false 1 (.t 107)),(.ixa 1 (.t 105) (.t 106)),(.ld false 1 (.t 104)),(.fld 2 (.t 103)),(.ixa 3 (.t 101) (.t 102))] (.hop (Zo 117 (.app 8 1 (.t 109) (.t 116))) [(.ld false 1 (.t 107)),(.ixa 1 (.t 105) (.t 106)),(.ld false 1 (.t 104)),(.fld 2 (.t 103)),(.ixa 3 (.t 101) (.t 102))] (.op (Zo 118 (.build [(.int .i64 0),(.nil 1)] [(0,(1,(.t 108))),(1,(1,(.t 117)))])) (.hop ⟨no,.st 2 (.t 15) (.t 118),no⟩ [] .fin))))))))))))))))))))))
def ski:AC:=(.seq skh (.seq (.seq (.reg [Zl 119 true 2 2,Zl 120 true 2 3,Zl 121 true 2 15,Zc 122 195 [.t 119,.t 120,.t 121],Zo 123 (.un .not (.t 122))]) (.cond (.t 123) (.seq (.reg [Zo 124 (.build [(.int .i64 0),(.nil 1)] []),⟨no,.st 2 (.t 4) (.t 124),no⟩,Zo 5 (.mv (.k (.bool false)))]) .ret) .skip)) (.seq (.reg [Zl 125 true 2 15,⟨no,.st 2 (.t 4) (.t 125),no⟩,Zo 5 (.mv (.k (.bool true)))]) .ret)))
def K5h:AC:=(.seq (.reg [Zo 14 (.mv (.k (.int .i64 0)))]) (.blk 4 (.loop (.seq (.seq (.reg [Zv 88 14,Zv 89 7,Zo 90 (.len false (.t 89)),Zo 91 (.bin .lss (.t 88) (.t 90))]) (.cond (.t 91) .skip (.exit 4))) (.seq (.blk 5 (.seq  skg (.cond (.t 100) ski .skip))) (.reg [Zv 92 14,Zo 93 (.bin .add (.t 92) (.k (.int .i64 1))),Zv 14 93]))))))
def K9o:AC:=(.reg [Zo 126 (.build [(.int .i64 0),(.nil 1)] []),⟨no,.st 2 (.t 4) (.t 126),no⟩,Zo 5 (.mv (.k (.bool false)))])
def a170:AFn:=⟨127,[(.c 4 true 2),.t 5],(.seq sk0 (.seq sk1 (.seq sk2 (.seq sk3 (.seq sk4 (.seq sk5 (.seq sk6 (.seq sk7 (.seq sk8 (.seq sk9 (.seq K80 (.seq K5h (.seq K9o .ret)))))))))))))⟩
theorem a170_ok:J5h true Tryz.prog Tryz.f170=some a170:=by kernel_rfl
theorem Jri {m k:Nat}(hk:k<m):(List.replicate (m+1) (0:Int)).set k 1=J89 m k++[0]:=by
 rw [List.replicate_succ',List.set_append_left _ _ (by simpa using hk)];rfl
theorem Jrd {m:Nat} : (List.replicate (m+1) (0:Int)).set m 1=List.replicate m 0++[1]:=by
 rw [List.replicate_succ',List.set_append_right _ _ (by simp)];simp
theorem Jki {m k:Nat} : (List.replicate m [i64 0]).set k [i64 1]=J0e ((List.replicate m 0).set k 1):=Jhp
section
variable {ks:List Kt}{s:Env}{h h':Heap}{n:Nat}{Q:Fin}
theorem Jwx {x:DSystem}{t:DLin}(s2:s 2 = .ptr 0 0 0) (s3:s 3 = .ptr 1 0 0) (e0:h 0=some ⟨true,2,[J0f x]⟩) (e1:h 1=some ⟨true,2,[J06 t]⟩)
 (hK:∀ s' h' n' k q,(∀ i∈[2,3,4,6,7],s' i=s i)→n≤n'→(∀ id,id<n→h' id=h id)→s' 11 = .bool (J0b (J04 (-1) x.N) (-1) t).isSome→s' 10 = .ptr k 0 0→Jnr ((J0b (J04 (-1) x.N) (-1) t).getD J1d) k q h' n n'→J25 Tryz.prog ks .normal s' h' n' Q):rC Tryz.prog sk5 ks s h n Q:=by
 have fr:∀ id,id<n→¬id=n∧¬id=n+1∧¬id=n+2∧¬id=n+1+1:=by intro id _;omega
 have ne:¬n=n+1∧¬n+1=n∧¬n=n+1+1∧¬n+1+1=n∧¬n+1=n+1+1∧¬n+1+1=n+1:=by omega
 simp [sk5,s2,s3,e0,e1,J0f,J06]
 refine ⟨?_,?_⟩
 ·skip
  first|refine J00 (J13 (-1) x.N) (by first|simp;done|rfl) ?_|refine J01 (J13 (-1) x.N) (by first|simp;done|rfl) ?_
  rintro r rfl
  simp [J07]
  refine ⟨?_,?_⟩
  ·skip
   first|refine J00 (J0m (J04 (-1) x.N) (-1) t) (by first|simp [J06];done|rfl) ?_|refine J01 (J0m (J04 (-1) x.N) (-1) t) (by first|simp [J06];done|rfl) ?_
   rintro r rfl
   rw [J0o]
   generalize J0b (J04 (-1) x.N) (-1) t=T at *
   simp [J07,ne]
   exact hK _ _ _ (n+1+1) (n+1) (by simp) (by omega) (fun id hid=>by simp [fr id hid]) (by simp) (by simp) ⟨by omega,by omega,by omega,by omega,by omega,by simp,by simp [ne]⟩
  ·skip
   first|refine J00 (J0m (J04 (-1) x.N) (-1) t) (by first|simp [J06,ne];done|rfl) ?_|refine J01 (J0m (J04 (-1) x.N) (-1) t) (by first|simp [J06,ne];done|rfl) ?_
   rintro r rfl
   rw [J0o]
   generalize J0b (J04 (-1) x.N) (-1) t=T at *
   simp [J07,ne]
   exact hK _ _ _ (n+1) (n+1+1) (by simp) (by omega) (fun id hid=>by simp [fr id hid]) (by simp) (by simp) ⟨by omega,by omega,by omega,by omega,by omega,by simp [ne],by simp [ne]⟩
 ·skip
  first|refine J00 (J13 (-1) x.N) (by first|simp;done|rfl) ?_|refine J01 (J13 (-1) x.N) (by first|simp;done|rfl) ?_
  rintro r rfl
  simp [J07,ne]
  first|refine J00 (J0m (J04 (-1) x.N) (-1) t) (by first|simp [J06,ne];done|rfl) ?_|refine J01 (J0m (J04 (-1) x.N) (-1) t) (by first|simp [J06,ne];done|rfl) ?_
  rintro r rfl
  rw [J0o]
  generalize J0b (J04 (-1) x.N) (-1) t=T at *
  simp [J07,ne]
  exact hK _ _ _ n (n+1+1) (by simp) (by omega) (fun id hid=>by simp [fr id hid]) (by simp) (by simp) ⟨by omega,by omega,by omega,by omega,by omega,by simp [ne],by simp [ne]⟩
theorem Jr2 {x:DSystem}{acc:List DDer}{i lo:Nat}(hi:i<x.Rows.length) (hm:x.Rows.length≤20) (s2:s 2 = .ptr 0 0 0) (s6:s 6 = .int .i64 x.Rows.length) (s8:s 8 = .int .i64 i) (e0:h 0=some ⟨true,2,[J0f x]⟩) (h0:0<n) (hlo:lo≤n) (B:J2a J46 3 lo acc (s 7) h n) (hl:acc.length≤4000)
 (hK:∀ s' h' n',(∀ j∈[2,3,4,6,8],s' j=s j)→n≤n'→J1h h h' n→(∀ id,id<n→(∀ k,s 7 ≠ .ref id 0 k)→h' id=h id)→J2a J46 3 lo (acc++[⟨x.Rows[i],J89 x.Rows.length i,0⟩]) (s' 7) h' n'→J25 Tryz.prog ks .normal s' h' n' Q):rC Tryz.prog (.seq ska (.seq skb skc)) ks s h n Q:=by
 have ne:¬n=n+1∧¬n+1=n∧¬n=n+1+1∧¬n+1+1=n∧¬n+1=n+1+1∧¬n+1+1=n+1∧¬0=n∧¬0=n+1:=by omega
 have fr:∀ id,id<n→¬id=n∧¬id=n+1∧¬id=n+1+1:=by intro id _;omega
 have hw:IntKind.i64.wrap ((x.Rows.length:Int)+1)=(x.Rows.length:Int)+1:=J19 (by omega)
 have hi2:i<x.Rows.length+1:=by omega
 have hnn:¬((x.Rows.length:Int)+1<0):=by omega
 have hi3:(i:Int)<(x.Rows.length:Int)+1:=by omega
 simp [ska,skb,s2,s6,s8,hw,List.getElem?_replicate,hi2,hi3]
 refine ⟨by omega,by unfold LIM;omega,by omega,?_⟩
 have hu:=Jki (m:=x.Rows.length+1) (k:=i)
 rw [Jri hi] at hu
 simp only [i64] at hu
 rw [hu]
 have kp:J1h h (upd h n (some ⟨false,1,J0e (J89 x.Rows.length i++[0])⟩)) n:=J1h.of fun id hid=>by simp [fr id hid]
 have hul:(J89 x.Rows.length i++[0]).length=x.Rows.length+1:=by simp [J89]
 simp [skc,ne,s2,s8,e0,hi,J0f,J06]
 have kp2:J1h h (upd (upd h n (some ⟨false,1,J0e (J89 x.Rows.length i++[0])⟩)) (n+1) (some ⟨true,3,[[.int .i64 x.Rows[i].Const,.sl 1 (J0e x.Rows[i].Coeffs),.ref n 0 (x.Rows.length+1)]]⟩)) n:=J1h.of fun id hid=>by simp [fr id hid]
 have B':=J2a.keep (R:=J46) (n':=n+1+1) (fun _ _ _ _ _ _=>J46.keep) B (by omega) kp2 fun id rows _ hid _ e=>by simp [fr id hid,e]
 refine J6p (R:=J46) (fun _ _ _ _ _ _=>J46.keep) B' (r:=[.int .i64 x.Rows[i].Const,.sl 1 (J0e x.Rows[i].Coeffs),.ref n 0 (x.Rows.length+1)]) (d:=⟨x.Rows[i],J89 x.Rows.length i,0⟩) (by simp [J3f]) ⟨_,_,rfl,.inl rfl,.inr ⟨n,by omega,by rw [hul],by simp [ne]⟩⟩ (by omega) (by unfold LIM;omega) ?_
 intro h' k1 k2 k3
 simp
 refine hK _ _ _ (by simp) (by omega) (kp2.trans k1 (by omega)) (fun id hid hv=>by rw [k2 id (by omega) hv];simp [fr id hid]) (by simpa using k3)
theorem Jxd {x:DSystem}{n0:Nat}{h0:Heap}(hm:x.Rows.length≤20) (s2:s 2 = .ptr 0 0 0) (s6:s 6 = .int .i64 x.Rows.length) (e0:h0 0=some ⟨true,2,[J0f x]⟩) (hn0:0<n0) (hn:n0≤n) (hf:∀ id,id<n0→h id=h0 id) (B0:J2a J46 3 n0 [] (s 7) h n)
 (hK:∀ s' h' n',(∀ j∈[2,3,4,6],s' j=s j)→n0≤n'→(∀ id,id<n0→h' id=h0 id)→J2a J46 3 n0 (stR x.Rows) (s' 7) h' n'→J25 Tryz.prog ks .normal s' h' n' Q):rC Tryz.prog sk4 ks s h n Q:=by
 simp [sk4]
 refine J0k [2,3,4,6] 8 x.Rows.length (fun i s h m=>n0≤m∧(∀ id,id<n0→h id=h0 id)∧J2a J46 3 n0 ((stR x.Rows).take i) (s 7) h m) (by unfold LIM;omega) (by simp) ⟨hn,hf,by simpa using B0⟩ ?_ ?_
 ·rintro i st h1 m1 R hi hgi hk s8 hw ⟨hm1,hf1,B⟩ hR hret _
  simp at hk
  refine J09 (J0g [2,3,4,6,7,8] (fun s=>s 33 = .bool true) (by simp [hk,s8,hi,s6]) ?_)
  intro st1 hk1 s33
  simp at hk1
  refine J1u s33 (J09 (J0t ?_))
  refine Jr2 (acc:=(stR x.Rows).take i) (lo:=n0) hi hm (by simp [hk1,hk,s2]) (by simp [hk1,hk,s6]) (by simp [hk1,s8]) (by rw [hf1 0 hn0,e0]) (by omega) hm1 (by simpa [hk1] using B) (by simp [stR];omega) ?_
  intro st2 h2 m2 hk2 hm2 kp2 hf2 B2
  simp at hk2
  simp [hk2,hk1,s8,hw]
  refine hR _ _ _ (by simp [hk2,hk1,hk]) (by simp) ⟨by omega,fun id hid => ?_,?_⟩
  ·rw [hf2 id (by omega) fun k e => ?_,hf1 id hid]
   have:=B.from id k (by simpa [hk1] using e)
   omega
  ·rw [Jl1 hi]
   simpa using B2
 ·rintro st h1 m1 R hk s8 ⟨hm1,hf1,B⟩ hret hX
  simp at hk
  have ht:(stR x.Rows).take x.Rows.length=stR x.Rows:=List.take_of_length_le (by simp [stR])
  rw [ht] at B
  refine J09 (J0g [2,3,4,6,7] (fun s=>s 33 = .bool false) (by simp [hk,s8,s6]) ?_)
  intro st1 hk1 s33
  simp at hk1
  refine J1s s33 ?_
  refine hX _ _ _ _ ?_
  simp
  exact hK _ _ _ (by simp [hk1,hk]) hm1 hf1 (by simpa [hk1] using B)
theorem Jnz {b:AC}{x:DSystem}{last:DLin}{acc:List DDer}{lo k10 q10 l3:Nat}(hm:x.Rows.length≤20) (s6:s 6 = .int .i64 x.Rows.length) (s10:s 10 = .ptr k10 0 0) (L:Jnr last k10 q10 h l3 n) (hlo:lo≤n) (B:J2a J46 3 lo acc (s 7) h n) (hl:acc.length≤4000)
 (hK:∀ s' h' n',(∀ j∈[2,3,4,6],s' j=s j)→n≤n'→(∀ id,id<n→(∀ k,s 7 ≠ .ref id 0 k)→h' id=h id)→J2a J46 3 lo (acc++[⟨last,List.replicate x.Rows.length 0,1⟩]) (s' 7) h' n'→rC Tryz.prog b ks s' h' n' Q):rC Tryz.prog (.seq sk7 (.seq sk8 (.seq sk9 b))) ks s h n Q:=by
 obtain ⟨q1,q2,q3,q4,q5,e6,eq⟩:=L
 have ne:¬n=n+1∧¬n+1=n∧¬n=n+1+1∧¬n+1+1=n∧¬n+1=n+1+1∧¬n+1+1=n+1∧¬k10=n:=by omega
 have fr:∀ id,id<n→¬id=n∧¬id=n+1∧¬id=n+1+1:=by intro id _;omega
 have hw:IntKind.i64.wrap ((x.Rows.length:Int)+1)=(x.Rows.length:Int)+1:=J19 (by omega)
 have hi3:(x.Rows.length:Int)<(x.Rows.length:Int)+1:=by omega
 simp [sk7,sk8,s6,hw,List.getElem?_replicate,hi3]
 refine ⟨by omega,by unfold LIM;omega,by omega,?_⟩
 have hu:=Jki (m:=x.Rows.length+1) (k:=x.Rows.length)
 rw [Jrd] at hu
 simp only [i64] at hu
 rw [hu]
 have hul:(List.replicate x.Rows.length (0:Int)++[1]).length=x.Rows.length+1:=by simp
 simp [sk9,ne,s10,e6]
 have kp2:J1h h (upd (upd h n (some ⟨false,1,J0e (List.replicate x.Rows.length 0++[1])⟩)) (n+1) (some ⟨true,3,[[.int .i64 last.Const,.ref q10 0 last.Coeffs.length,.ref n 0 (x.Rows.length+1)]]⟩)) n:=J1h.of fun id hid=>by simp [fr id hid]
 have B':=J2a.keep (R:=J46) (n':=n+1+1) (fun _ _ _ _ _ _=>J46.keep) B (by omega) kp2 fun id rows _ hid _ e=>by simp [fr id hid,e]
 refine J6p (R:=J46) (fun _ _ _ _ _ _=>J46.keep) B' (r:=[.int .i64 last.Const,.ref q10 0 last.Coeffs.length,.ref n 0 (x.Rows.length+1)]) (d:=⟨last,List.replicate x.Rows.length 0,1⟩) (by simp [J3f]) ⟨_,_,rfl,.inr (.inr ⟨q10,by omega,rfl,by simp [fr q10 q4,eq]⟩),.inr ⟨n,by omega,by rw [hul],by simp [ne]⟩⟩ (by omega) (by unfold LIM;omega) ?_
 intro h' k1 k2 k3
 simp
 exact hK _ _ _ (by simp) (by omega) (fun id hid hv=>by rw [k2 id (by omega) hv];simp [fr id hid]) (by simpa using k3)
end
section
variable {ks:List Kt}{s:Env}{h h':Heap}{n:Nat}{Q:Fin}
theorem Jqq {x:DSystem}{m n0:Nat}{h0:Heap}{F:Option (List DDer)}{l0:List DDer}(hm:m≤20) (hx:0≤x.N∧x.N≤8) (s2:s 2 = .ptr 0 0 0) (s4:s 4 = .ptr 2 0 0) (e0:h0 0=some ⟨true,2,[J0f x]⟩) (e2:h0 2=some ⟨true,2,[[.int .i64 0,.nil 1]]⟩) (hn0:2<n0) (hn:n0≤n) (hf:∀ id,id<n0→h id=h0 id)
 (hg0:∀ d∈l0,GD x.N.toNat m d) (hl0:l0.length≤60) (B0:J2a J46 3 n0 l0 (s 7) h n) (hF:goE 0 x.N.toNat l0=F)
 (hret:F=Option.none→∀ s' h' n',s' 4 = .ptr 2 0 0→s' 5 = .bool false→h' 2=some ⟨true,2,[[.int .i64 0,.nil 1]]⟩→J25 Tryz.prog ks .ret s' h' n' Q)
 (hK:∀ s' h' n' L,(∀ j∈[2,3,4,6],s' j=s j)→n0≤n'→(∀ id,id<n0→h' id=h0 id)→F=some L→L.length≤60→J2a J46 3 n0 L (s' 7) h' n'→J25 Tryz.prog ks .normal s' h' n' Q):rC Tryz.prog K80 ks s h n Q:=by
 have e0':∀ {h':Heap},(∀ id,id<n0→h' id=h0 id)→h' 0=some ⟨true,2,[[.int .i64 x.N,.sl 2 (x.Rows.map J06)]]⟩:=fun hh=>by rw [hh 0 (by omega),e0];rfl
 have hN:((x.N.toNat:Nat):Int)=x.N:=by omega
 simp [K80]
 refine J0k [2,3,4,6] 13 x.N.toNat (fun i s h m'=>n0≤m'∧(∀ id,id<n0→h id=h0 id)∧∃ l,(∀ d∈l,GD x.N.toNat m d)∧l.length≤60∧J2a J46 3 n0 l (s 7) h m'∧goE i (x.N.toNat - i) l=F) (by unfold LIM;omega) (by simp) ⟨hn,hf,l0,hg0,hl0,by simpa using B0,by simpa using hF⟩ ?_ ?_
 ·rintro i st h1 m1 R hi hgi hk s13 hw ⟨hm1,hf1,l,hg,hl,B,hJ⟩ hR hrt _
  simp at hk
  have hiN:(i:Int)<x.N:=by omega
  refine J09 (J0g [2,3,4,6,7,13] (fun s=>s 78 = .bool true) (by simp [hk,s13,s2,e0' hf1,hiN]) ?_)
  intro st1 hk1 s78
  simp at hk1
  refine J1u s78 (J09 (J0t ?_))
  have hl2:=Jbk (v:=i) (l:=l)
  have h60:l.length*l.length≤60*60:=Nat.mul_le_mul hl hl
  refine J17 [2,3,4,6,13] (fun s h' m'=>m1≤m'∧(∀ id,id<m1→h' id=h1 id)∧J2a J46 3 m1 (J6s i l) (s 7) h' m') ?_ ?_
  ·simp [hk1,s13]
   refine Jcw hg hm hi hl (B.low (Nat.zero_le _)) ?_
   intro a h' n' g1 g2 g3
   simp
   exact ⟨g1,g2,g3⟩
  rintro st2 h2 m2 hk2 ⟨hm2,hf2,B2⟩
  simp at hk2
  have hf20:∀ id,id<n0→h2 id=h0 id:=fun id hid=>by rw [hf2 id (by omega),hf1 id hid]
  have hs:x.N.toNat - i=(x.N.toNat - (i+1))+1:=by omega
  rw [hs] at hJ
  refine J0g [2,3,4,6,7,13] (fun s=>s 86 = .bool (decide (60<(J6s i l).length))) ?_ ?_
  ·simp
   refine J4f B2 (by unfold LIM;omega) ?_
   simp
   omega
  intro st3 hk3 s86
  simp at hk3
  by_cases h6:(J6s i l).length≤60
  ·rw [Jk5 h6] at hJ
   have h6':¬60<(J6s i l).length:=by omega
   simp [s86,h6',h6,hk3,hk2,hk1,s13,hw]
   exact hR _ _ _ (by simp [hk3,hk2,hk1,hk]) (by simp) ⟨by omega,hf20,_,Jgf hg,h6,by simpa [hk3] using B2.low hm1,hJ⟩
  ·rw [Jkq h6] at hJ
   have h6':60<(J6s i l).length:=by omega
   have x4:h2 2=some ⟨true,2,[[.int .i64 0,.nil 1]]⟩:=by rw [hf20 2 hn0,e2]
   simp [s86,h6',h6,hk3,hk2,hk1,hk,s4,x4]
   refine hrt _ _ _ (hret hJ.symm _ _ _ (by simp [hk3,hk2,hk1,hk,s4]) (by simp) (by simp))
 ·rintro st h1 m1 R hk s13 ⟨hm1,hf1,l,hg,hl,B,hJ⟩ hrt hX
  simp at hk
  rw [Nat.sub_self] at hJ
  simp only [goE] at hJ
  have hiN:¬((x.N.toNat:Nat):Int)<x.N:=by omega
  refine J09 (J0g [2,3,4,6,7] (fun s=>s 78 = .bool false) (by simp [hk,s13,s2,e0' hf1];omega) ?_)
  intro st1 hk1 s78
  simp at hk1
  refine J1s s78 ?_
  refine hX _ _ _ _ ?_
  simp
  exact hK _ _ _ l (by simp [hk1,hk]) hm1 hf1 hJ.symm hl (by simpa [hk1] using B)
theorem Jwk {L:List DDer}{v:AV}{i lo:Nat}(B:J2a J46 3 lo L v h n) (hi:i<L.length) (h20:L[i].mult.length≤20) (s7:s 7=v) (s14:s 14 = .int .i64 i) (s6:s 6 = .int .i64 L[i].mult.length)
 (hK:∀ s' h' n' k q,(∀ j∈[2,3,4,6,7,14],s' j=s j)→n≤n'→(∀ id,id<n→h' id=h id)→s' 15 = .ptr k 0 0→n≤k→k<n'→n≤q→q<n'→¬k=q→h' k=some ⟨true,2,[[.int .i64 L[i].scale,.ref q 0 L[i].mult.length]]⟩→h' q=some ⟨false,1,J0e L[i].mult⟩→J25 Tryz.prog ks .normal s' h' n' Q):rC Tryz.prog skh ks s h n Q:=by
 have fr:∀ id,id<n→¬id=n∧¬id=n+1∧¬id=n+1+1:=by intro id _;omega
 have ne:¬n=n+1∧¬n+1=n∧¬n=n+1+1∧¬n+1+1=n∧¬n+1=n+1+1∧¬n+1+1=n+1:=by omega
 rcases B with ⟨_,rfl⟩|⟨id,rows,_,hid,rfl,e,hl,hx⟩
 ·simp at hi
 obtain ⟨r,g1,v1,v2,rfl,_,g2⟩:=hx i L[i] (List.getElem?_eq_getElem hi)
 have hir:i<rows.length:=by omega
 rw [List.getElem?_eq_getElem hir] at g1
 have hr:=Option.some.inj g1
 rcases g2 with ⟨_,hz⟩|⟨im,him,rfl,eim⟩
 ·simp at hz
 generalize hmu:L[i].mult=mu at *
 generalize hsc:L[i].scale=sc at *
 have f1:=fr id hid
 have f2:=fr im him
 have hii:¬im=id:=by rintro rfl;rw [e] at eim;simp at eim
 have hlt:(mu.length:Int)<(mu.length:Int)+1:=by omega
 have ht:List.take mu.length (J0e (mu++[sc]))=J0e mu:=by simp [J0e]
 have hii2:¬id=im:=fun e=>hii e.symm
 have f3:¬n=im∧¬n+1=im∧¬n+1+1=im:=by omega
 have hl8:mu.length*8≤LIM:=by unfold LIM;omega
 have hl9:(mu.length:Int)≤(mu.length:Int)+1:=by omega
 have hfr:∀ j,(if j=im then some (⟨false,1,J0e (mu++[sc])⟩:Blk) else h j)=h j:=fun j=>by
  by_cases hj:j=im
  ·subst hj;simp [eim]
  ·simp [hj]
 simp [skh,s7,s14,s6,e,hi,hir,hr,eim,J3z,hlt,f1,f2,f3,hii,hii2,ht,ne,hl8,hl9]
 refine ⟨⟨?_,?_⟩,?_⟩
 ·exact hK _ _ _ (n+1+1) (n+1) (by simp [s7,s14,s6]) (by omega) (fun j hj=>by simp [fr j hj,hfr j]) (by simp) (by omega) (by omega) (by omega) (by omega) (by omega) (by simp) (by simp [ne])
 ·exact hK _ _ _ (n+1) (n+1+1) (by simp [s7,s14,s6]) (by omega) (fun j hj=>by simp [fr j hj,hfr j]) (by simp) (by omega) (by omega) (by omega) (by omega) (by omega) (by simp [ne]) (by simp [ne])
 ·exact hK _ _ _ n (n+1+1) (by simp [s7,s14,s6]) (by omega) (fun j hj=>by simp [fr j hj,hfr j]) (by simp) (by omega) (by omega) (by omega) (by omega) (by omega) (by simp [ne]) (by simp [ne])
theorem Jql {x:DSystem}{t:DLin}{L:List DDer}{n0:Nat}(hgL:∀ d∈L,d.mult.length=x.Rows.length) (hm:x.Rows.length≤20) (hL:L.length≤60) (hn0:2<n0) (hn:n0≤n) (s2:s 2 = .ptr 0 0 0) (s3:s 3 = .ptr 1 0 0) (s4:s 4 = .ptr 2 0 0) (s6:s 6 = .int .i64 x.Rows.length) (e0:h 0=some ⟨true,2,[J0f x]⟩) (e1:h 1=some ⟨true,2,[J06 t]⟩) (e2:h 2=some ⟨true,2,[[.int .i64 0,.nil 1]]⟩) (B0:J2a J46 3 n0 L (s 7) h n)
 (hret:∀ s' h' n',Jpp (J7m x t L) s' h' n'→J25 Tryz.prog ks .ret s' h' n' Q)
 (hK:∀ s' h' n',J7m x t L=Option.none→s' 4 = .ptr 2 0 0→h' 2=some ⟨true,2,[[.int .i64 0,.nil 1]]⟩→J25 Tryz.prog ks .normal s' h' n' Q):rC Tryz.prog K5h ks s h n Q:=by
 simp [K5h]
 refine J0k [2,3,4,6,7] 14 L.length (fun i s h' m=>h'=h∧m=n∧J7m x t (L.drop i)=J7m x t L) (by unfold LIM;omega) (by simp) ⟨rfl,rfl,by simp⟩ ?_ ?_
 ·rintro i st h1 m1 R hi hgi hk s14 hw ⟨rfl,rfl,hJ⟩ hR hrt _
  simp at hk
  rw [List.drop_eq_getElem_cons hi] at hJ
  have hmi:=hgL _ (List.getElem_mem hi)
  refine J09 (J0g [2,3,4,6,7,14] (fun s=>s 91 = .bool true) ?_ ?_)
  ·simp [hk,s14]
   refine J4f B0 (by unfold LIM;omega) ?_
   simp [hk,s14,hi]
  intro st1 hk1 s91
  simp at hk1
  refine J1u s91 (J09 (J0t ?_))
  refine J0g [2,3,4,6,7,14] (fun s=>s 100 = .bool (decide ((L[i]).l.Const<0))) ?_ ?_
  ·simp [skg,hk1,hk,s14]
   refine J6e B0 hi ?_
   intro id rows r hid e hl hr hD
   obtain ⟨v1,v2,rfl,g1,g2⟩:=hD
   simp [e,hl,hr]
  intro st2 hk2 s100
  simp at hk2
  by_cases hc:(L[i]).l.Const<0
  ·have hfind:J7m x t (L[i]::L.drop (i+1))=if J7b x t ⟨L[i].scale,L[i].mult⟩ then some ⟨L[i].scale,L[i].mult⟩ else Option.none:=by
    unfold J7m
    rw [List.find?_cons,decide_eq_true hc]
   rw [hfind] at hJ
   simp [s100,hc,ski]
   refine Jwk B0 hi (by rw [hmi];exact hm) (by simp [hk2,hk1,hk]) (by simp [hk2,hk1,s14]) (by rw [hk2.2.2.2.1,hk1.2.2.2.1,hk.2.2.2.1,s6,hmi]) ?_
   intro st3 h3 m3 k q hk3 hm3 hf3 s15 hk15 hkm hq hqm hkq ek eq
   simp at hk3
   have e0':h3 0=some ⟨true,2,[J0f x]⟩:=by rw [hf3 0 (by omega),e0]
   have e1':h3 1=some ⟨true,2,[J06 t]⟩:=by rw [hf3 1 (by omega),e1]
   have e2':h3 2=some ⟨true,2,[[.int .i64 0,.nil 1]]⟩:=by rw [hf3 2 (by omega),e2]
   have y2:st3 2 = .ptr 0 0 0:=by rw [hk3.1,hk2.1,hk1.1,hk.1,s2]
   have y3:st3 3 = .ptr 1 0 0:=by rw [hk3.2.1,hk2.2.1,hk1.2.1,hk.2.1,s3]
   have y4:st3 4 = .ptr 2 0 0:=by rw [hk3.2.2.1,hk2.2.2.1,hk1.2.2.1,hk.2.2.1,s4]
   have n2:¬k=2:=by omega
   have hb:∀ H:Heap,H q=some ⟨false,1,J0e L[i].mult⟩→bw (.ref q 0 L[i].mult.length) H=some (.sl 1 (J0e L[i].mult)):=fun H hH=>by simp [hH]
   simp [y2,y3,s15,e0',e1',ek,J0f,J06]
   refine J01 (Jes x t ⟨L[i].scale,L[i].mult⟩) ?_ ?_
   ·simp only [bwl,bw]
    simp [eq,J0f,J06,J45]
   rintro r rfl
   cases hch:J7b x t ⟨L[i].scale,L[i].mult⟩
   ·rw [hch] at hJ
    simp [y4,e2']
    refine hrt _ _ _ (hret _ _ _ ?_)
    rw [←hJ]
    exact Jpp.no (by simp [y4]) (by simp) (by simp)
   ·rw [hch] at hJ
    simp [y4,e2',s15,ek]
    refine hrt _ _ _ (hret _ _ _ ?_)
    rw [←hJ]
    refine ⟨by simp [y4],by simp,.ref q 0 L[i].mult.length,by simp,.inr ⟨q,hqm,rfl,?_⟩⟩
    have:¬q=2:=by omega
    simp [this,eq]
  ·have hfind:J7m x t (L[i]::L.drop (i+1))=J7m x t (L.drop (i+1)):=by
    unfold J7m
    rw [List.find?_cons,decide_eq_false hc]
   rw [hfind] at hJ
   simp [s100,hc,hk2,hk1,s14,hw]
   exact hR _ _ _ (by simp [hk2,hk1,hk]) (by simp) ⟨rfl,rfl,hJ⟩
 ·rintro st h1 m1 R hk s14 ⟨rfl,rfl,hJ⟩ hrt hX
  simp at hk
  rw [List.drop_eq_nil_of_le (by omega)] at hJ
  refine J09 (J0g [2,3,4] (fun s=>s 91 = .bool false) ?_ ?_)
  ·simp [hk,s14]
   refine J4f B0 (by unfold LIM;omega) ?_
   simp [hk,s14]
  intro st1 hk1 s91
  simp at hk1
  refine J1s s91 ?_
  refine hX _ _ _ _ ?_
  simp
  exact hK _ _ _ hJ.symm (by simp [hk1,hk,s4]) e2
end
theorem Jbc (x:DSystem) (t:DLin):Holds Tryz.prog 170 [.agg (J0f x),.agg (J06 t)] (fun r=>r=J9l (Jbq x t)):=by
 refine J02 Tryz.func170 a170_ok rfl (by simp [a170]) ?_
 simp [a170,sk0,sk1]
 first|refine J00 (J4v x) (by first|simp;done|rfl) ?_|refine J01 (J4v x) (by first|simp;done|rfl) ?_
 rintro r rfl
 generalize hF:Jbq x t=F
 cases h1:J7y x
 ·have:=Jd5 (x:=x) (t:=t) (by rw [h1];rfl)
  rw [this] at hF
  subst hF
  simp [J9l,J5j,J1i,J0e]
 simp [J0f]
 first|refine J00 (J0p t x.N) (by first|simp;done|rfl) ?_|refine J01 (J0p t x.N) (by first|simp;done|rfl) ?_
 rintro r rfl
 cases h2:J1c t x.N
 ·have:=Jd5 (x:=x) (t:=t) (by rw [h1,h2];rfl)
  rw [this] at hF
  subst hF
  simp [J9l,J5j,J1i,J0e]
 have hsys:=Jd8 h1
 simp [sk2,sk3,J0f]
 intro _
 refine Jxd (x:=x) (n0:=3) (h0:=upd (upd (upd J79 0 (some ⟨true,2,[J0f x]⟩)) 1 (some ⟨true,2,[J06 t]⟩)) 2 (some ⟨true,2,[[.int .i64 0,.nil 1]]⟩)) hsys.1 (by simp) (by simp) (by simp) (by omega) (by omega) ?_ ?_ ?_
 ·intro id hid
  have:¬id=3:=by omega
  simp [this,J0f,J06]
 ·exact .inr ⟨3,[],Nat.le_refl _,by omega,by simp,by simp,rfl,by simp⟩
 intro s4 h4 n4 hk4 hn4 hf4 B4
 simp at hk4
 simp
 have z0:h4 0=some ⟨true,2,[J0f x]⟩:=by rw [hf4 0 (by omega)];simp
 have z1:h4 1=some ⟨true,2,[J06 t]⟩:=by rw [hf4 1 (by omega)];simp
 have z2:h4 2=some ⟨true,2,[[.int .i64 0,.nil 1]]⟩:=by rw [hf4 2 (by omega)];simp
 refine Jwx (x:=x) (t:=t) (by simp [hk4]) (by simp [hk4]) z0 z1 ?_
 intro s5 h5 n5 k10 q10 hk5 hn5 hf5 s11 s10 L5
 simp at hk5
 simp
 have B5:J2a J46 3 3 (stR x.Rows) (s4 7) h5 n5:=J2a.keep (R:=J46) (fun _ _ _ _ _ _=>J46.keep) B4 hn5 (J1h.of hf5) fun id rows _ hid _ e=>by rw [hf5 id hid,e]
 have y0:h5 0=some ⟨true,2,[J0f x]⟩:=by rw [hf5 0 (by omega),z0]
 have y1:h5 1=some ⟨true,2,[J06 t]⟩:=by rw [hf5 1 (by omega),z1]
 have y2:h5 2=some ⟨true,2,[[.int .i64 0,.nil 1]]⟩:=by rw [hf5 2 (by omega),z2]
 cases hT:J0b (J04 (-1) x.N) (-1) t with
 | none=>
  rw [Jo6 hT] at hF
  subst hF
  simp [sk6,s11,hT,hk5,hk4,y2,J9l,J5j,J1i,J0e]
 | some last=>
  rw [Jnj (by rw [h1,h2];rfl) hT] at hF
  rw [hT] at s11 L5
  simp only [Option.getD_some] at L5
  simp [sk6,s11]
  rw [←Jc2]
  refine Jnz (x:=x) (last:=last) (acc:=stR x.Rows) (lo:=3) hsys.1 (by simp [hk5,hk4]) (by simp [s10]) L5 (by omega) (by simpa [hk5] using B5) (by simp [stR];omega) ?_
  intro s6 h6 n6 hk6 hn6 hf6 B6
  simp at hk6
  rw [Jc2]
  have hne:∀ id,id<3→∀ k,s5 7 ≠ .ref id 0 k:=fun id hid k e=>by
   have:=B4.from id k (by rw [←hk5.2.2.2.2];exact e)
   omega
  have hf60:∀ id,id<3→h6 id=h4 id:=fun id hid=>by rw [hf6 id (by omega) (by simpa using hne id hid),hf5 id (by omega)]
  rw [show stR x.Rows++[⟨last,List.replicate x.Rows.length 0,1⟩]=J8n x.Rows last from rfl] at B6
  refine Jqq (x:=x) (n0:=3) (h0:=h4) (F:=goE 0 x.N.toNat (J8n x.Rows last)) hsys.1 hsys.2.1 (by simp [hk6,hk5,hk4]) (by simp [hk6,hk5,hk4]) z0 z2 (by omega) (by omega) hf60 (Jh0 h1 hT) (by rw [Jfu];omega) B6 rfl ?_ ?_
  ·intro hn s' h' n' x4 x5 x2
   rw [hn] at hF
   simp at hF
   subst hF
   simp only [J7a,Jcz]
   exact (Jpp.no (n:=n') x4 x5 x2).fin
  ·intro s7' h7 n7 L hk7 hn7 hf7 hL hLl B7
   have hgd:=Jt7 (Jh0 h1 hT) hL
   rw [hL] at hF
   simp only [Option.bind_some] at hF
   simp at hk7
   simp
   refine Jql (x:=x) (t:=t) (n0:=3) (fun d hd=>(hgd d hd).len) hsys.1 hLl (by omega) hn7 (by simp [hk7,hk6,hk5,hk4]) (by simp [hk7,hk6,hk5,hk4]) (by simp [hk7,hk6,hk5,hk4]) (by simp [hk7,hk6,hk5,hk4]) (by rw [hf7 0 (by omega),z0]) (by rw [hf7 1 (by omega),z1]) (by rw [hf7 2 (by omega),z2]) B7 ?_ ?_
   ·intro s' h' n' hr
    rw [hF] at hr
    simp only [J7a,Jcz]
    exact hr.fin
   ·intro s' h' n' hno x4 x2
    rw [hno] at hF
    subst hF
    simp [K9o,x4,x2,J9l,J5j,J1i,J0e]
def a131:AFn:= ⟨31,[.t 2,.t 3],(.seq (.reg [Zo 2 (.mv (.k (.nil 2))),Zo 3 (.mv (.k (.bool false)))]) (.seq (.reg [Zo 4 (.mv (.k (.nil 2)))]) (.seq (.seq (.reg [Zv 9 0,Zo 10 (.len false (.t 9)),Zo 11 (.mv (.k (.int .i64 0)))]) (.blk 0 (.loop (.seq (.reg [Zo 12 (.bin .lss (.t 11) (.t 10))]) (.seq (.cond (.t 12) .skip (.exit 0)) (.seq (.blk 1 (.seq (.reg [Zo 13 (.ixa 4 (.t 9) (.t 11)),Zl 14 true 4 13,Zo 6 (.box [(.int .i64 0),(.nil 2),(.int .i64 0),(.nil 1)]),⟨no,.st 4 (.t 6) (.t 14),no⟩]) (.seq (.reg [Zf 16 0 6,Zl 17 true 2 16,Zf 18 2 6,Zl 19 true 2 18,Zc 20 210 [.t 17,.t 19],Zv 15 20,Zo 21 (.ext (.t 15) 0),Zo 22 (.ext (.t 15) 1),Zo 7 (.box [(.int .i64 0),(.nil 1)]),⟨no,.st 2 (.t 7) (.t 21),no⟩,Zv 8 22]) (.seq (.seq (.reg [Zv 23 8,Zo 24 (.un .not (.t 23))]) (.cond (.t 24) (.seq (.reg [Zo 2 (.mv (.k (.nil 2))),Zo 3 (.mv (.k (.bool false)))]) .ret) .skip)) (.reg [Zv 25 4,Zl 26 true 2 7,Zo 27 (.bsl 2 [.t 26]),Zo 28 (.app 32 2 (.t 25) (.t 27)),Zv 4 28]))))) (.reg [Zo 29 (.bin .add (.t 11) (.k (.int .i64 1))),Zv 11 29]))))))) (.seq (.reg [Zv 30 4,Zv 2 30,Zo 3 (.mv (.k (.bool true)))]) .ret))))⟩
theorem a131_ok:J0a Tryz.prog Tryz.f131=some a131:=by kernel_rfl
def a91:AFn:= ⟨37,[.t 2,.t 3],(.seq (.reg [Zo 2 (.mv (.k (.nil 2))),Zo 3 (.mv (.k (.bool false)))]) (.seq (.reg [Zo 8 (.bsl 2 []),Zv 4 8]) (.seq (.seq (.reg [Zo 5 (.mv (.k (.int .i64 0)))]) (.blk 0 (.loop (.seq (.seq (.reg [Zv 9 5,Zv 10 0,Zo 11 (.len false (.t 10)),Zo 12 (.bin .lss (.t 9) (.t 11))]) (.cond (.t 12) .skip (.exit 0))) (.seq (.blk 1 (.seq (.draw (.op (Zv 16 0) (.op (Zv 17 5) (.op (Zo 18 (.ixa 4 (.t 16) (.t 17))) (.op (Zf 19 0 18) (.op (Zl 20 true 2 19) (.op (Zv 21 0) (.op (Zv 22 5) (.op (Zo 23 (.ixa 4 (.t 21) (.t 22))) (.op (Zf 24 2 23) (.op (Zl 25 true 2 24) (.both (.op (Zc 26 170 [.t 20,.t 25]) (.op (Zv 15 26) (.op (Zo 27 (.ext (.t 15) 0)) (.op (Zo 28 (.ext (.t 15) 1)) (.op (Zo 6 (.box [(.int .i64 0),(.nil 1)])) (.hop ⟨no,.st 2 (.t 6) (.t 27),no⟩ [] (.op (Zv 7 28) .fin))))))) (.op (Zo 6 (.box [(.int .i64 0),(.nil 1)])) (.op (Zc 26 170 [.t 20,.t 25]) (.op (Zv 15 26) (.op (Zo 27 (.ext (.t 15) 0)) (.op (Zo 28 (.ext (.t 15) 1)) (.hop ⟨no,.st 2 (.t 6) (.t 27),no⟩ [] (.op (Zv 7 28) .fin))))))))))))))))))) (.seq (.seq (.reg [Zv 29 7,Zo 30 (.un .not (.t 29))]) (.cond (.t 30) (.seq (.reg [Zo 31 (.bsl 2 []),Zv 2 31,Zo 3 (.mv (.k (.bool false)))]) .ret) .skip)) (.reg [Zv 32 4,Zl 33 true 2 6,Zo 34 (.bsl 2 [.t 33]),Zo 35 (.app 32 2 (.t 32) (.t 34)),Zv 4 35])))) (.reg [Zv 13 5,Zo 14 (.bin .add (.t 13) (.k (.int .i64 1))),Zv 5 14])))))) (.seq (.reg [Zv 36 4,Zv 2 36,Zo 3 (.mv (.k (.bool true)))]) .ret))))⟩
theorem a91_ok:J0a Tryz.prog Tryz.f91=some a91:=by kernel_rfl
theorem Jfg (os:List DObligation) (hol:os.length≤3000000):Holds Tryz.prog 131 [.sl 4 (os.map J0w)] (fun r=>r=Ji0 (J6f os)):=by
 refine J02 Tryz.func131 a131_ok rfl (by simp [a131]) ?_
 simp [a131]
 intro _
 generalize hF:J6f os=F
 refine J0k [9,10] 11 os.length (fun i s h m=>∃ acc,acc.length=i∧J3v 0 2 (acc.map J1i) (s 4) h m∧Jc5 acc (os.drop i)=F) (by unfold LIM;omega) (by simp) ⟨[],rfl,.inl ⟨rfl,by simp⟩,by simpa [J6f] using hF⟩ ?_ ?_
 ·rintro i st h m R hi hg hk s11 hw ⟨acc,hal,B,hJ⟩ hR hret _
  simp at hk
  rw [List.drop_eq_getElem_cons hi] at hJ
  simp only [Jc5] at hJ
  refine J0g [4,9,10,11] (fun s=>s 12 = .bool true) (by simp [hk,s11,hi]) ?_
  intro st1 hk1 s12
  simp at hk1
  refine J2m s12 (J09 (J0t ?_))
  have fr:∀ id,id<m→¬id=m∧¬id=m+1∧¬id=m+1+1∧¬id=m+1+1+1:=by intro id _;omega
  have ne:¬m=m+1∧¬m+1=m∧¬m=m+1+1∧¬m+1+1=m∧¬m+1=m+1+1∧¬m+1+1=m+1∧¬m+1=m+1+1+1∧¬m=m+1+1+1∧¬m+1+1=m+1+1+1:=by omega
  simp [hk1,hk,s11,hi,J0w]
  first|refine J00 (Jcp (os[i]'hi).System (os[i]'hi).Target) (by first|simp [J0f,J06];done|rfl) ?_|refine J01 (Jcp (os[i]'hi).System (os[i]'hi).Target) (by first|simp [J0f,J06];done|rfl) ?_
  rintro r rfl
  unfold J9l
  cases hf:Jbq (os[i]).System (os[i]).Target with
  | none=>
   rw [hf] at hJ
   simp only at hJ
   simp [J5j,J1i,hk1,s11,ne]
   refine hret _ _ _ ?_
   simp [←hJ,Ji0]
  | some f=>
   rw [hf] at hJ
   simp only at hJ
   simp [J1i,hk1,s11,ne,hk]
   refine J32 (rows:=acc.map J1i) (rows2:=[[.int .i64 f.Scale,.us 1 (J0e f.Mult)]]) (B.keep (n':=m+1+1+1+1) (by omega) fun id _ hid e=>by simp [fr id hid]) (by simp) (fun l e=>by have:=(B.lt e).2.1;omega) (by omega) (by simp;unfold LIM;omega) ?_
   intro h1 f1 f2
   simp [hk1,s11,hw]
   refine hR _ _ _ (by simp [hk1,hk]) (by simp) ⟨acc++[f],by simp [hal],?_,hJ⟩
   simp
   exact .inr ⟨m+1+1+1+1,by omega,by omega,by simp,by simp [f1,J1i]⟩
 ·rintro st h m R hk s11 ⟨acc,hal,B,hJ⟩ hret hX
  simp at hk
  rw [List.drop_eq_nil_of_le (by omega)] at hJ
  simp only [Jc5] at hJ
  refine J0g [4] (fun s=>s 12 = .bool false) (by simp [hk,s11]) ?_
  intro st1 hk1 s12
  simp at hk1
  refine J2g s12 ?_
  refine hX _ _ _ _ ?_
  obtain ⟨h',hd,_⟩:=B.dt
  rw [←hJ]
  simp [hk1,hd,Ji0]
theorem Jeo (os:List DObligation) (hol:os.length≤3000000):Holds Tryz.prog 91 [.sl 4 (os.map J0w)] (fun r=>r=Ji0 (J6f os)):=by
 refine J02 Tryz.func91 a91_ok rfl (by simp [a91]) ?_
 simp [a91]
 generalize hF:J6f os=F
 refine J0k [0] 5 os.length (fun i s h m=>∃ acc,acc.length=i∧(∃ id,id<m∧s 4 = .ref id 0 acc.length∧h id=some ⟨false,2,acc.map J1i⟩)∧Jc5 acc (os.drop i)=F) (by unfold LIM;omega) (by simp) ⟨[],rfl,⟨0,by simp,by simp,by simp⟩,by simpa [J6f] using hF⟩ ?_ ?_
 ·rintro i st h m R hi hg hk s5 hw ⟨acc,hal,⟨id,hid,s4,eid⟩,hJ⟩ hR hret _
  simp at hk
  rw [List.drop_eq_getElem_cons hi] at hJ
  simp only [Jc5] at hJ
  refine J09 (J0g [0,4,5] (fun s=>s 12 = .bool true) (by simp [hk,s5,hi];try (intro _;exact hi)) ?_)
  intro st1 hk1 s12
  simp at hk1
  refine J1u s12 (J09 (J0t ?_))
  have ne:¬m=m+1∧¬m+1=m∧¬m=m+1+1∧¬m+1+1=m∧¬m+1=m+1+1∧¬m+1+1=m+1∧¬id=m∧¬id=m+1∧¬id=m+1+1∧¬m=id∧¬m+1=id∧¬m+1+1=id:=by omega
  have ht:List.take acc.length (acc.map J1i)=acc.map J1i:=List.take_of_length_le (by simp)
  cases hf:Jbq (os[i]).System (os[i]).Target with
  | none=>
   rw [hf] at hJ
   simp only at hJ
   simp [hk1,hk,s5,hi,J0w]
   refine ⟨?_,?_⟩
   all_goals
    first|refine J00 (Jbc (os[i]'hi).System (os[i]'hi).Target) (by simp [J0f,J06]) ?_
    rintro r rfl
    unfold J9l
    simp [hf,J5j,J1i,hk1,s5,ne]
    refine hret _ _ _ ?_
    simp [←hJ,Ji0]
  | some f=>
   rw [hf] at hJ
   simp only at hJ
   simp [hk1,hk,s5,hi,J0w]
   refine ⟨?_,?_⟩
   all_goals
    first|refine J00 (Jbc (os[i]'hi).System (os[i]'hi).Target) (by simp [J0f,J06]) ?_
    rintro r rfl
    unfold J9l
    simp [hf,J1i,hk1,s5,hw,ne,hk,s4,eid,ht]
    refine ⟨by unfold LIM;omega,?_⟩
    refine hR _ _ _ (by simp [hk1,hk]) (by simp) ⟨acc++[f],by simp [hal],⟨m+1+1+1,by omega,by simp,by simp [J1i]⟩,hJ⟩
 ·rintro st h m R hk s5 ⟨acc,hal,⟨id,hid,s4,eid⟩,hJ⟩ hret hX
  simp at hk
  rw [List.drop_eq_nil_of_le (by omega)] at hJ
  simp only [Jc5] at hJ
  have ht:List.take acc.length (acc.map J1i)=acc.map J1i:=List.take_of_length_le (by simp)
  refine J09 (J0g [4] (fun s=>s 12 = .bool false) (by simp [hk,s5]) ?_)
  intro st1 hk1 s12
  simp at hk1
  refine J1s s12 ?_
  refine hX _ _ _ _ ?_
  rw [←hJ]
  simp [hk1,s4,eid,ht,Ji0]
def ub51:AC:=(.draw (.op (Zl 33 true 2 2) (.op (Zf 34 0 2) (.op (Zl 35 false 1 34) (.op (Zv 36 8) (.op (Zo 37 (.ixa 4 (.t 35) (.t 36))) (.op (Zf 38 0 37) (.op (Zl 39 false 1 38) (.both (.op (Zc 40 97 [.t 33,.t 39]) (.op (Zv 32 40) (.op (Zo 41 (.ext (.t 32) 0)) (.op (Zo 42 (.ext (.t 32) 1)) (.op (Zo 9 (.box [(.int .i64 0),(.nil 2)])) (.hop ⟨no,.st 2 (.t 9) (.t 41),no⟩ [] (.op (Zv 10 42) .fin))))))) (.op (Zo 9 (.box [(.int .i64 0),(.nil 2)])) (.op (Zc 40 97 [.t 33,.t 39]) (.op (Zv 32 40) (.op (Zo 41 (.ext (.t 32) 0)) (.op (Zo 42 (.ext (.t 32) 1)) (.hop ⟨no,.st 2 (.t 9) (.t 41),no⟩ [] (.op (Zv 10 42) .fin))))))))))))))))
def ub52:AC:=(.draw (.op (Zf 44 1 3) (.op (Zl 45 false 1 44) (.op (Zv 46 8) (.op (Zo 47 (.ixa 2 (.t 45) (.t 46))) (.op (Zl 48 true 2 47) (.op (Zv 49 7) (.op (Zf 50 0 9) (.op (Zl 51 false 1 50) (.both (.op (Zc 52 99 [.t 49,.t 51]) (.both (.op (Zc 53 98 [.t 48,(.k (.int .i64 (-1))),.t 52]) (.op (Zv 43 53) (.op (Zo 54 (.ext (.t 43) 0)) (.op (Zo 55 (.ext (.t 43) 1)) (.op (Zo 11 (.box [(.int .i64 0),(.nil 1)])) (.hop ⟨no,.st 2 (.t 11) (.t 54),no⟩ [] (.op (Zv 12 55) .fin))))))) (.op (Zo 11 (.box [(.int .i64 0),(.nil 1)])) (.op (Zc 53 98 [.t 48,(.k (.int .i64 (-1))),.t 52]) (.op (Zv 43 53) (.op (Zo 54 (.ext (.t 43) 0)) (.op (Zo 55 (.ext (.t 43) 1)) (.hop ⟨no,.st 2 (.t 11) (.t 54),no⟩ [] (.op (Zv 12 55) .fin))))))))) (.op (Zo 11 (.box [(.int .i64 0),(.nil 1)])) (.op (Zc 52 99 [.t 49,.t 51]) (.op (Zc 53 98 [.t 48,(.k (.int .i64 (-1))),.t 52]) (.op (Zv 43 53) (.op (Zo 54 (.ext (.t 43) 0)) (.op (Zo 55 (.ext (.t 43) 1)) (.hop ⟨no,.st 2 (.t 11) (.t 54),no⟩ [] (.op (Zv 12 55) .fin))))))))))))))))))
def ub53:AC:=(.reg [Zv 59 6,Zl 60 true 2 9,Zl 61 true 2 11,Zo 62 (.build [(.int .i64 0),(.nil 2),(.int .i64 0),(.nil 1)] [(0,(2,(.t 60))),(2,(2,(.t 61)))]),Zo 63 (.bsl 4 [.t 62]),Zo 64 (.app 64 4 (.t 59) (.t 63)),Zv 6 64])
def ub61:AC:=(.reg [Zl 73 true 2 2,Zl 74 true 2 3,Zv 75 13,Zc 76 100 [.t 73,.t 74,.t 75],Zv 72 76,Zo 77 (.ext (.t 72) 0),Zo 78 (.ext (.t 72) 1),Zo 14 (.box [(.int .i64 0),(.nil 2),(.int .i64 0),(.nil 1)]),⟨no,.st 4 (.t 14) (.t 77),no⟩,Zv 15 78])
def ub63:AC:=(.reg [Zv 82 6,Zl 83 true 4 14,Zo 84 (.bsl 4 [.t 83]),Zo 85 (.app 64 4 (.t 82) (.t 84)),Zv 6 85])
def ub0:AC:=(.reg [Zo 2 (.boxv (.t 0)),Zo 3 (.boxv (.t 1)),Zo 4 (.mv (.k (.nil 4))),Zo 5 (.mv (.k (.bool false)))])
def ub1:AC:=(.seq (.reg [Zl 16 true 2 2,Zl 17 true 2 3,Zc 18 96 [.t 16,.t 17],Zo 19 (.un .not (.t 18))]) (.cond (.t 19) (.seq (.reg [Zo 20 (.bsl 4 []),Zv 4 20,Zo 5 (.mv (.k (.bool false)))]) .ret) .skip))
def ub2:AC:=(.reg [Zo 21 (.bsl 4 []),Zv 6 21])
def ub3:AC:=(.reg [Zo 7 (.mv (.k (.int .i64 0)))])
def ub4:AC:=(.seq (.reg [Zf 22 0 3,Zl 23 false 1 22,Zo 24 (.bin .eql (.t 23) (.k (.int .i64 1)))]) (.cond (.t 24) (.reg [Zo 7 (.mv (.k (.int .i64 1)))]) .skip))
def ub5:AC:=(.seq (.reg [Zo 8 (.mv (.k (.int .i64 0)))]) (.blk 0 (.loop (.seq (.seq (.reg [Zv 25 8,Zf 26 0 2,Zl 27 false 1 26,Zo 28 (.len false (.t 27)),Zo 29 (.bin .lss (.t 25) (.t 28))]) (.cond (.t 29) .skip (.exit 0))) (.seq (.blk 1 (.seq ub51 (.seq ub52 (.seq (.seq (.reg [Zv 56 12,Zo 57 (.un .not (.t 56))]) (.cond (.t 57) (.seq (.reg [Zo 58 (.bsl 4 []),Zv 4 58,Zo 5 (.mv (.k (.bool false)))]) .ret) .skip))  ub53)))) (.reg [Zv 30 8,Zo 31 (.bin .add (.t 30) (.k (.int .i64 1))),Zv 8 31]))))))
def ub6:AC:=(.seq (.reg [Zo 13 (.mv (.k (.int .i64 0)))]) (.blk 2 (.loop (.seq (.seq (.reg [Zv 65 13,Zf 66 1 2,Zl 67 false 1 66,Zo 68 (.len false (.t 67)),Zo 69 (.bin .lss (.t 65) (.t 68))]) (.cond (.t 69) .skip (.exit 2))) (.seq (.blk 3 (.seq  ub61 (.seq (.seq (.reg [Zv 79 15,Zo 80 (.un .not (.t 79))]) (.cond (.t 80) (.seq (.reg [Zo 81 (.bsl 4 []),Zv 4 81,Zo 5 (.mv (.k (.bool false)))]) .ret) .skip))  ub63))) (.reg [Zv 70 13,Zo 71 (.bin .add (.t 70) (.k (.int .i64 1))),Zv 13 71]))))))
def ub7:AC:=(.reg [Zv 86 6,Zv 4 86,Zo 5 (.mv (.k (.bool true)))])
def a31:AFn:=⟨87,[.t 4,.t 5],(.seq ub0 (.seq ub1 (.seq ub2 (.seq ub3 (.seq ub4 (.seq ub5 (.seq ub6 (.seq ub7 .ret))))))))⟩
end Go.Proofs.YtoclolkigjbcgaaGreat

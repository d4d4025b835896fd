/- Contracts: ReachableFrom of the reference. -/
import Derived.Test.YtoclolkigjbcgaaGreatYHSD
import Derived.Test.YtoclolkigjbcgaaGreatYC1
namespace Go.Proofs.YtoclolkigjbcgaaGreat
set_option maxRecDepth 40000
set_option maxHeartbeats 4000000
open Go Go.RowKit Go.Proofs
set_option linter.all false
def a60:AFn:= ⟨23,[.t 2],(.seq (.reg [Zo 1 (.boxv (.t 0)),Zo 2 (.mv (.k (.nil 1)))]) (.seq (.reg [Zo 5 (.bsl 1 []),Zv 3 5]) (.seq (.seq (.reg [Zo 4 (.mv (.k (.int .i64 0)))]) (.blk 0 (.loop (.seq (.seq (.reg [Zv 6 4,Zf 7 0 1,Zl 8 false 1 7,Zo 9 (.len false (.t 8)),Zo 10 (.bin .lss (.t 6) (.t 9))]) (.cond (.t 10) .skip (.exit 0))) (.seq (.blk 1 (.reg [Zv 13 3,Zf 14 0 1,Zl 15 false 1 14,Zv 16 4,Zo 17 (.ixa 4 (.t 15) (.t 16)),Zf 18 0 17,Zl 19 false 1 18,Zo 20 (.bsl 1 [.t 19]),Zo 21 (.app 16 1 (.t 13) (.t 20)),Zv 3 21])) (.reg [Zv 11 4,Zo 12 (.bin .add (.t 11) (.k (.int .i64 1))),Zv 4 12])))))) (.seq (.reg [Zv 22 3,Zv 2 22]) .ret))))⟩
theorem a60_ok:J09 Tryz.prog Tryz.f60=some a60:=by kernel_rfl
def a136:AFn:= ⟨93,[.t 4],(.seq (.reg [Zo 2 (.boxv (.t 0)),Zo 4 (.mv (.k (.nil 1)))]) (.seq (.reg [Zl 12 true 2 2,Zc 13 60 [.t 12],Zv 5 13]) (.seq (.reg [Zl 14 true 2 2,Zc 15 122 [.t 14],Zv 6 15]) (.seq (.reg [Zo 16 (.bsl 1 []),Zv 7 16]) (.seq (.seq (.reg [Zl 17 true 2 2,Zc 18 61 [.t 17],Zo 19 (.un .not (.t 18)),Zv 20 19,⟨some 21,.mv (.t 5),(some (20,false))⟩,⟨some 22,.mv (.t 1),(some (20,false))⟩,⟨some 23,.call (.k (.fn (.func 63) [] [])) [.t 21,.t 22],(some (20,false))⟩,⟨some 24,.bin .lss (.t 23) (.k (.int .i64 0)),(some (20,false))⟩,Zo 25 (.pick (.t 20) (.k (.bool true)) (.t 24))]) (.cond (.t 25) (.seq (.reg [Zv 26 7,Zv 4 26]) .ret) .skip)) (.seq (.reg [Zv 27 1,Zo 28 (.bsl 1 [.t 27]),Zv 8 28]) (.seq (.seq (.reg [Zo 9 (.mv (.k (.int .i64 0)))]) (.blk 0 (.loop (.seq (.seq (.reg [Zv 29 9,Zv 30 8,Zo 31 (.len false (.t 30)),Zo 32 (.bin .lss (.t 29) (.t 31))]) (.cond (.t 32) .skip (.exit 0))) (.seq (.blk 1 (.seq (.reg [Zo 10 (.mv (.k (.int .i64 0)))]) (.blk 2 (.loop (.seq (.seq (.reg [Zv 35 10,Zv 36 6,Zo 37 (.len false (.t 36)),Zo 38 (.bin .lss (.t 35) (.t 37))]) (.cond (.t 38) .skip (.exit 2))) (.seq (.blk 3 (.seq (.draw (.op (Zl 41 true 2 2) (.op (Zv 42 6) (.op (Zv 43 10) (.op (Zo 44 (.ixa 2 (.t 42) (.t 43))) (.op (Zl 45 true 2 44) (.op (Zv 47 8) (.op (Zv 48 9) (.op (Zo 49 (.ixa 1 (.t 47) (.t 48))) (.op (Zl 50 false 1 49) (.op (Zc 46 199 [.t 41,.t 45]) (.op (Zo 51 (.bin .eql (.t 46) (.t 50))) (.op (Zv 52 51) (.op ⟨some 53,.mv (.t 8),(some (52,true))⟩ (.op ⟨some 54,.ld true 2 (.t 2),(some (52,true))⟩ (.op ⟨some 55,.mv (.t 6),(some (52,true))⟩ (.op ⟨some 56,.mv (.t 10),(some (52,true))⟩ (.op ⟨some 57,.ixa 2 (.t 55) (.t 56),(some (52,true))⟩ (.op ⟨some 58,.ld true 2 (.t 57),(some (52,true))⟩ (.op ⟨some 59,.call (.k (.fn (.func 173) [] [])) [.t 54,.t 58],(some (52,true))⟩ (.op ⟨some 60,.call (.k (.fn (.func 63) [] [])) [.t 53,.t 59],(some (52,true))⟩ (.op ⟨some 61,.bin .lss (.t 60) (.k (.int .i64 0)),(some (52,true))⟩ (.op (Zo 62 (.pick (.t 52) (.t 61) (.k (.bool false)))) .fin))))))))))))))))))))))) (.cond (.t 62) (.draw (.op (Zv 63 8) (.op (Zl 64 true 2 2) (.op (Zv 65 6) (.op (Zv 66 10) (.op (Zo 67 (.ixa 2 (.t 65) (.t 66))) (.op (Zl 68 true 2 67) (.op (Zc 69 173 [.t 64,.t 68]) (.hop (Zo 70 (.bsl 1 [.t 69])) [] (.hop (Zo 71 (.app 16 1 (.t 63) (.t 70))) [] (.hop (Zv 8 71) [] .fin))))))))))) .skip))) (.reg [Zv 39 10,Zo 40 (.bin .add (.t 39) (.k (.int .i64 1))),Zv 10 40]))))))) (.reg [Zv 33 9,Zo 34 (.bin .add (.t 33) (.k (.int .i64 1))),Zv 9 34])))))) (.seq (.seq (.reg [Zo 11 (.mv (.k (.int .i64 0)))]) (.blk 4 (.loop (.seq (.seq (.reg [Zv 72 11,Zv 73 5,Zo 74 (.len false (.t 73)),Zo 75 (.bin .lss (.t 72) (.t 74))]) (.cond (.t 75) .skip (.exit 4))) (.seq (.blk 5 (.seq (.reg [Zv 78 8,Zv 79 5,Zv 80 11,Zo 81 (.ixa 1 (.t 79) (.t 80)),Zl 82 false 1 81,Zc 83 63 [.t 78,.t 82],Zo 84 (.bin .geq (.t 83) (.k (.int .i64 0)))]) (.cond (.t 84) (.reg [Zv 85 7,Zv 86 5,Zv 87 11,Zo 88 (.ixa 1 (.t 86) (.t 87)),Zl 89 false 1 88,Zo 90 (.bsl 1 [.t 89]),Zo 91 (.app 16 1 (.t 85) (.t 90)),Zv 7 91]) .skip))) (.reg [Zv 76 11,Zo 77 (.bin .add (.t 76) (.k (.int .i64 1))),Zv 11 77])))))) (.seq (.reg [Zv 92 7,Zv 4 92]) .ret)))))))))⟩
theorem a136_ok:J09 Tryz.prog Tryz.f136=some a136:=by kernel_rfl
def Jdg (E:List (Str×Str)) (N:List Str) (a:Str) (M:List Str) (i:Nat):Prop:=
 M.Nodup∧(∀ x∈M,x∈N∧RT E a x)∧a∈M∧i≤M.length∧∀ x∈M.take i,∀ y,(x,y)∈E→y∈M
theorem Jdg.len {E:List (Str×Str)}{N:List Str}{a:Str}{M:List Str}{i:Nat}(h:Jdg E N a M i):M.length≤N.length:=Jfk h.1 fun x hx=>(h.2.1 x hx).1
theorem Jdg.add {E:List (Str×Str)}{N:List Str}{a c y:Str}{M:List Str}{i:Nat}(h:Jdg E N a M i) (hc:c∈M) (hy:(c,y)∈E) (hyN:y∈N) (hyM:y∉M):Jdg E N a (M++[y]) i:=by
 obtain ⟨h1,h2,h3,h4,h5⟩:=h
 refine ⟨?_,?_,List.mem_append_left _ h3,by simp;omega,?_⟩
 ·rw [List.nodup_append]
  exact ⟨h1,by simp,fun x hx z hz hxz=>hyM (by rw [←List.mem_singleton.1 hz,←hxz];exact hx)⟩
 ·intro x hx
  rcases List.mem_append.1 hx with hx|hx
  ·exact h2 x hx
  ·rw [List.mem_singleton.1 hx];exact ⟨hyN,(h2 c hc).2.step hy⟩
 ·intro x hx z hz
  rw [List.take_append_of_le_length h4] at hx
  exact List.mem_append_left _ (h5 x hx z hz)
theorem Jdg.next {E:List (Str×Str)}{N:List Str}{a c:Str}{M:List Str}{i:Nat}(h:Jdg E N a M i) (hc:M[i]? = some c) (hE:∀ e∈E,e.1=c→e.2∈M):Jdg E N a M (i+1):=by
 obtain ⟨h1,h2,h3,h4,h5⟩:=h
 obtain ⟨hi,hci⟩:=List.getElem?_eq_some_iff.1 hc
 refine ⟨h1,h2,h3,hi,?_⟩
 intro x hx y hy
 rw [List.take_succ_eq_append_getElem hi,hci] at hx
 rcases List.mem_append.1 hx with hx|hx
 ·exact h5 x hx y hy
 ·rw [List.mem_singleton.1 hx] at hy
  exact hE _ hy rfl
theorem Jdg.done {E:List (Str×Str)}{N:List Str}{a:Str}{M:List Str}(h:Jdg E N a M M.length) (x:Str):x∈M↔RT E a x:=by
 obtain ⟨h1,h2,h3,h4,h5⟩:=h
 rw [List.take_length] at h5
 exact ⟨fun hx=>(h2 x hx).2,fun hx=>hx.closed (S:=fun z=>z∈M) h3 fun u v huv hu=>h5 u hu v huv⟩
theorem Jv0 (l:List Str) (s:Str):decide (J0v (fun x=>x==s) l 0<0) = !J2l l s:=by
 rw [←Jht l s]
 by_cases h:J0v (fun x=>x==s) l 0<0
 ·have h3:¬(0≤J0v (fun x=>x==s) l 0):=by omega
  simp [h,h3]
 ·have h3:0≤J0v (fun x=>x==s) l 0:=by omega
  simp [h,h3]
theorem Jcl {p:DProgram}{j:Nat}(hj:j<(J0f p).length):((J0f p).take (j+1)).map (Jfz p)=((J0f p).take j).map (Jfz p)++[Jfz p (J0f p)[j]]:=by
 rw [List.take_succ_eq_append_getElem hj,List.map_append];rfl
theorem J8e (p:DProgram) (hp:J0j p≤1048576):Holds Tryz.prog 60 [.agg (J00 p)] (fun x=>x = .us 1 (J0b (J11 p))):=by
 have hfl:p.Functions.length≤1048576:=by have:=J2c J10 p.Functions;unfold J0j J24 at hp;omega
 refine J03 Tryz.func60 a60_ok rfl (by simp [a60]) ?_
 simp [a60,J00]
 generalize hT:J11 p=T
 have hTl:T.length=p.Functions.length:=by rw [←hT];simp [J11]
 refine J0n [1] 4 p.Functions.length (fun i s h n=>h 0=some ⟨true,2,[J00 p]⟩∧∃ (acc:List Str) (id:Nat),acc++T.drop i=T∧0<id∧id<n∧s 3 = .ref id 0 acc.length∧h id=some ⟨false,1,J0b acc⟩) (by unfold LIM;omega) (by simp) ⟨by simp [J00],[],1,by simp,by simp,by simp,by simp,by simp [J0b]⟩ ?_ ?_
 ·rintro i st h n R hi hg hk s4 hw ⟨e0,acc,id,hJ,hid0,hid,s3,eid⟩ hR hret _
  simp at hk
  have hin:i<T.length:=by omega
  have hni:T[i]=(p.Functions[i]).Name:=by subst hT;simp [J11]
  rw [List.drop_eq_getElem_cons hin,hni] at hJ
  have hal:=congrArg List.length hJ
  simp only [List.length_append,List.length_cons] at hal
  have z0:¬id=n:=by omega
  have z1:¬id=n+1:=by omega
  have z2:¬n+1=id:=by omega
  have z3:¬n=id:=by omega
  have z4:¬0=id:=by omega
  have z5:¬0=n:=by omega
  have z6:¬n=0:=by omega
  have z7:¬id=0:=by omega
  simp [hk,s4,hi,e0,J00,J04,s3,eid,z0,z1,z2,z3,z4,z5,z6,z7,hw]
  intro _
  refine ⟨by unfold LIM;omega,?_⟩
  exact hR _ _ _ (by simp [hk]) (by simp) ⟨by simp [e0,z0,z1,z2,z3,z4,z5,z6,z7,J00],acc++[(p.Functions[i]).Name],n+1,by simpa using hJ,by omega,by omega,by simp,by simp [J0b,List.take_of_length_le]⟩
 rintro st h n R hk s4 ⟨e0,acc,id,hJ,hid0,hid,s3,eid⟩ hret hX
 simp at hk
 rw [List.drop_eq_nil_of_le (by omega),List.append_nil] at hJ
 subst hJ
 simp [hk,s4,e0,J00]
 intro _
 refine hX _ _ _ _ ?_
 simp [s3,eid]
theorem J8q (p:DProgram) (hp:J0j p≤1048576) (name:Str):Holds Tryz.prog 136 [.agg (J00 p),.str name] (fun x=>x = .us 1 (J0b (J2u p name))):=by
 have hel:=J8b p hp
 have hNl:(J11 p).length=p.Functions.length:=by simp [J11]
 refine J03 Tryz.func136 a136_ok rfl (by simp [a136]) ?_
 simp [a136,J00]
 first|refine J01 (J8e p hp) (by first|simp [J00];done|rfl) ?_|refine J02 (J8e p hp) (by first|simp [J00];done|rfl) ?_
 rintro r rfl
 simp
 first|refine J01 (J61 p hp) (by first|simp [J00];done|rfl) ?_|refine J02 (J61 p hp) (by first|simp [J00];done|rfl) ?_
 rintro r rfl
 simp
 first|refine J01 (J2d p hp) (by first|simp [J00];done|rfl) ?_|refine J02 (J2d p hp) (by first|simp [J00];done|rfl) ?_
 rintro r rfl
 unfold J2u
 cases h1:J2e p
 ·simp [J0b]
 simp
 have ht:List.take p.Functions.length (J0b (J11 p))=J0b (J11 p):=List.take_of_length_le (by simp [J0b,J11])
 have ht':List.take (J11 p).length (J0b (J11 p))=J0b (J11 p):=List.take_of_length_le (by simp [J0b])
 first|refine J01 (J2a (J11 p) name) (by first|simp [ht,ht',hNl];done|rfl) ?_|refine J02 (J2a (J11 p) name) (by first|simp [ht,ht',hNl];done|rfl) ?_
 rintro r rfl
 have g1:=Jht (J11 p) name
 cases h2:J2l (J11 p) name
 ·rw [h2] at g1
  simp at g1
  simp [g1,J0b]
 rw [h2] at g1
 simp at g1
 have g2:¬J0v (fun x=>x==name) (J11 p) 0<0:=by omega
 simp [g1,g2]
 obtain ⟨f1,f2,f3,f4⟩:=Jcs h1
 have hEE:J4s p=(J0f p).map (Jfz p):=by rw [Jca];unfold J0f;rw [h1];rfl
 have hE2:∀ e∈J4s p,e.2∈J11 p:=fun e he=>(f2 e he).2
 have hnm:name∈J11 p:=J33.1 h2
 generalize hRN:J76 (J4s p) (J11 p) name=T
 refine Jjb (fun m s h n=>3<n∧s 2 = .ptr 0 0 0∧s 5 = .ref 1 0 (J11 p).length∧s 6 = .ref 2 0 (J0f p).length∧s 7 = .ref 3 0 0∧h 0=some ⟨true,2,[J00 p]⟩∧h 1=some ⟨false,1,J0b (J11 p)⟩∧h 2=some ⟨false,2,(J0f p).map J25⟩∧h 3=some ⟨false,1,[]⟩∧∃ (M:List Str) (i id:Nat),m=(J11 p).length - i∧Jdg (J4s p) (J11 p) name M i∧s 9 = .int .i64 i∧3<id∧id<n∧s 8 = .ref id 0 M.length∧h id=some ⟨false,1,J0b M⟩) ((J11 p).length) ?_ ?_
 ·refine ⟨by simp,by simp,by simp,by simp,by simp,by simp [J00],by simp,by simp,by simp,[name],0,4,by simp,?_,by simp,by simp,by simp,by simp,by simp [J0b]⟩
  exact ⟨by simp,fun x hx=>by rw [List.mem_singleton.1 hx];exact ⟨hnm,.refl _⟩,by simp,by simp,by simp⟩
 rintro m st h n R ⟨hn,s2,s5,s6,s7,e0,e1,e2,e3,M,i,id,rfl,hS,s9,hid3,hid,s8,eid⟩ hR hret hX
 have hMl:=hS.len
 by_cases hi:i<M.length
 ·refine J0c (J0i [2,5,6,7,8,9] (fun s=>s 32 = .bool true) (by simp [s9,s8,eid,hi]) ?_)
  intro st1 hk1 s32
  simp at hk1
  refine J1y s32 (J0c (J17 ?_))
  simp
  have hw0:IntKind.i64.wrap ((i:Int)+1)=(i:Int)+1:=J1h (by omega)
  refine J0n [2,5,6,7,9] 10 (J0f p).length (fun j s h' n'=>3<n'∧h' 0=some ⟨true,2,[J00 p]⟩∧h' 1=some ⟨false,1,J0b (J11 p)⟩∧h' 2=some ⟨false,2,(J0f p).map J25⟩∧h' 3=some ⟨false,1,[]⟩∧∃ (X:List Str) (id':Nat),Jdg (J4s p) (J11 p) name X i∧X[i]? = some M[i]∧(∀ e∈((J0f p).take j).map (Jfz p),e.1=M[i]→e.2∈X)∧3<id'∧id'<n'∧s 8 = .ref id' 0 X.length∧h' id'=some ⟨false,1,J0b X⟩) (by unfold LIM;omega) (by simp) ⟨hn,e0,e1,e2,e3,M,id,hS,List.getElem?_eq_getElem hi,by simp,hid3,hid,by simp [hk1,s8],eid⟩ ?_ ?_
  ·rintro j st2 h2 n2 R2 hj hjg hk2 s10 hw ⟨hn2,b0,b1,b2,b3,X,id',hSX,hXi,hXE,hid3',hid',s8',eid'⟩ hR2 hret2 _
   simp at hk2
   obtain ⟨a,b,ha,hb,he,hf,ht0⟩:=J9l hj
   obtain ⟨hiX,hXv⟩:=List.getElem?_eq_some_iff.1 hXi
   have hpe:Jfz p (J0f p)[j]=((p.Rules[a]).Func,((p.Rules[a]).Calls[b]).Func):=by rw [he];unfold Jfz;rw [hf,ht0]
   have hpm:((p.Rules[a]).Func,((p.Rules[a]).Calls[b]).Func)∈J4s p:=by rw [hEE];exact List.mem_map.2 ⟨_,List.getElem_mem hj,hpe⟩
   have htX:List.take X.length (J0b X)=J0b X:=List.take_of_length_le (by simp [J0b])
   refine J0c (J0i [2,5,6,7,8,9,10] (fun s=>s 38 = .bool true) (by simp [hk2,hk1,s6,s10,hj,b2]) ?_)
   intro st3 hk3 s38
   simp at hk3
   refine J1y s38 (J0c (J17 ?_))
   refine J0i [2,5,6,7,8,9,10] (fun s=>s 62 = .bool (decide ((p.Rules[a]).Func=M[i]) && !J2l X ((p.Rules[a]).Calls[b]).Func)) ?_ ?_
   ·simp [hk3,hk2,hk1,s2,s6,s10,s9,s8',hj,b2,b0,eid',hiX,hXv,he,J25,J00]
    first|refine J01 (J5a p ha (k:=b)) (by first|simp [J00,J0o];done|rfl) ?_|refine J02 (J5a p ha (k:=b)) (by first|simp [J00,J0o];done|rfl) ?_
    rintro r rfl
    by_cases c1:(p.Rules[a]).Func=M[i]
    ·simp [c1,hk3,hk2,hk1,s2,s6,s10,s9,s8',hj,b2,b0,eid',hiX,hXv,he,J25,J00]
     first|refine J01 (J4a p ha hb) (by first|simp [J00,J0o];done|rfl) ?_|refine J02 (J4a p ha hb) (by first|simp [J00,J0o];done|rfl) ?_
     rintro r rfl
     simp [hk3,hk2,hk1,s8']
     first|refine J01 (J2a X ((p.Rules[a]).Calls[b]).Func) (by first|simp [htX,eid'];done|rfl) ?_|refine J02 (J2a X ((p.Rules[a]).Calls[b]).Func) (by first|simp [htX,eid'];done|rfl) ?_
     rintro r rfl
     have g3:=Jv0 X ((p.Rules[a]).Calls[b]).Func
     simp [g3]
    ·simp [c1,hk3,hk2,hk1,s2,s6,s10,s9,s8',hj,b2,b0,eid',hiX,hXv,he,J25,J00]
   intro st4 hk4 s62
   simp at hk4
   have z0:¬id'=n2:=by omega
   have z1:¬id'=n2+1:=by omega
   have z2:¬n2+1=id':=by omega
   have z3:¬n2=id':=by omega
   have q0:¬0=n2:=by omega
   have q1:¬1=n2:=by omega
   have q2:¬2=n2:=by omega
   have q3:¬3=n2:=by omega
   have q4:¬n2=0:=by omega
   have q5:¬n2=1:=by omega
   have q6:¬n2=2:=by omega
   have q7:¬n2=3:=by omega
   have r0:¬0=id':=by omega
   have r1:¬1=id':=by omega
   have r2:¬2=id':=by omega
   have r3:¬3=id':=by omega
   by_cases c1:(p.Rules[a]).Func=M[i]
   ·cases c2:J2l X ((p.Rules[a]).Calls[b]).Func
    ·rw [c2,decide_eq_true c1] at s62
     simp at s62
     have hXN:=hSX.len
     have hfl3:(J11 p).length≤3:=by omega
     simp [hk4,hk3,hk2,hk1,s62,s2,s6,s10,s8',hj,b2,b0,he,J25,J00]
     first|refine J01 (J4a p ha hb) (by first|simp [J00,J0o];done|rfl) ?_|refine J02 (J4a p ha hb) (by first|simp [J00,J0o];done|rfl) ?_
     rintro r rfl
     simp [hk4,hk3,hk2,hk1,s8',eid',s10,hw,z0,z1,z2,z3]
     refine ⟨by unfold LIM;omega,?_⟩
     refine hR2 _ _ _ (by simp [hk4,hk3,hk2,hk1]) (by simp) ⟨by omega,by simp [b0,q0,q4,r0,J00],by simp [b1,q1,q5,r1,q4],by simp [b2,q2,q6,r2,q5],by simp [b3,q3,q7,r3,q6],X++[((p.Rules[a]).Calls[b]).Func],n2+1,hSX.add (c:=M[i]) (by rw [←hXv];exact List.getElem_mem hiX) (by rw [←c1];exact hpm) (hE2 _ hpm) (Jbb.1 c2),by rw [List.getElem?_append_left hiX];exact hXi,?_,by omega,by omega,by simp,by simp [J0b,List.take_of_length_le]⟩
     intro e hm hc
     rw [Jcl hj,hpe] at hm
     rcases List.mem_append.1 hm with hm|hm
     ·exact List.mem_append_left _ (hXE e hm hc)
     ·rw [List.mem_singleton.1 hm];simp
    ·rw [c2] at s62
     simp at s62
     simp [hk4,hk3,hk2,hk1,s62,s10,hw]
     refine hR2 _ _ _ (by simp [hk4,hk3,hk2,hk1]) (by simp) ⟨hn2,b0,b1,b2,b3,X,id',hSX,hXi,?_,hid3',hid',by simp [hk4,hk3,s8'],eid'⟩
     intro e hm hc
     rw [Jcl hj,hpe] at hm
     rcases List.mem_append.1 hm with hm|hm
     ·exact hXE e hm hc
     ·rw [List.mem_singleton.1 hm];exact J33.1 c2
   ·rw [decide_eq_false c1] at s62
    simp at s62
    simp [hk4,hk3,hk2,hk1,s62,s10,hw]
    refine hR2 _ _ _ (by simp [hk4,hk3,hk2,hk1]) (by simp) ⟨hn2,b0,b1,b2,b3,X,id',hSX,hXi,?_,hid3',hid',by simp [hk4,hk3,s8'],eid'⟩
    intro e hm hc
    rw [Jcl hj,hpe] at hm
    rcases List.mem_append.1 hm with hm|hm
    ·exact hXE e hm hc
    ·rw [List.mem_singleton.1 hm] at hc;exact absurd hc c1
  rintro st2 h2 n2 R2 hk2 s10 ⟨hn2,b0,b1,b2,b3,X,id',hSX,hXi,hXE,hid3',hid',s8',eid'⟩ hret2 hX2
  simp at hk2
  rw [List.take_of_length_le (by omega),←hEE] at hXE
  refine J0c (J0i [2,5,6,7,8,9] (fun s=>s 38 = .bool false) (by simp [hk2,hk1,s6,s10,b2]) ?_)
  intro st3 hk3 s38
  simp at hk3
  refine J22 s38 ?_
  refine hX2 _ _ _ _ ?_
  simp [hk3,hk2,hk1,s9,hw0]
  exact hR ((J11 p).length - (i+1)) _ _ _ (by omega) ⟨hn2,by simp [hk3,hk2,hk1,s2],by simp [hk3,hk2,hk1,s5],by simp [hk3,hk2,hk1,s6],by simp [hk3,hk2,hk1,s7],b0,b1,b2,b3,X,i+1,id',rfl,hSX.next hXi hXE,by simp,hid3',hid',by simp [hk3,s8'],eid'⟩
 have hiM:i=M.length:=by have:=hS.2.2.2.1;omega
 subst hiM
 have hT:(J11 p).filter (J2l M)=T:=by rw [←hRN];exact Jph hE2 hnm hS.done
 have hTn:T.length≤(J11 p).length:=by rw [←hT];exact List.length_filter_le _ _
 have hfl3:(J11 p).length≤3:=by omega
 refine J0c (J0i [5,7,8] (fun s=>s 32 = .bool false) (by simp [s9,s8,eid]) ?_)
 intro st1 hk1 s32
 simp at hk1
 refine J22 s32 ?_
 refine hX _ _ _ _ ?_
 simp
 have htM:List.take M.length (J0b M)=J0b M:=List.take_of_length_le (by simp [J0b])
 refine J0n [5,8] 11 (J11 p).length (fun i s h' n'=>id<n'∧3<n'∧h' 1=some ⟨false,1,J0b (J11 p)⟩∧h' id=some ⟨false,1,J0b M⟩∧∃ (acc:List Str) (ic:Nat),acc++((J11 p).drop i).filter (J2l M)=T∧ic≠1∧ic≠id∧ic<n'∧s 7 = .ref ic 0 acc.length∧h' ic=some ⟨false,1,J0b acc⟩) (by unfold LIM;omega) (by simp) ⟨hid,hn,e1,eid,[],3,by simpa using hT,by simp,by omega,hn,by simp [hk1,s7],by simp [e3,J0b]⟩ ?_ ?_
 ·rintro i st2 h2 n2 R2 hi hg hk2 s11 hw ⟨hn2,hn3,b1,bM,acc,ic,hJ,hc1,hcM,hic,s7',eic⟩ hR2 hret2 _
  simp at hk2
  rw [List.drop_eq_getElem_cons hi,List.filter_cons] at hJ
  refine J0c (J0i [5,7,8,11] (fun s=>s 75 = .bool true) (by simp [hk2,hk1,s5,s11,hi,b1]) ?_)
  intro st3 hk3 s75
  simp at hk3
  refine J1y s75 (J0c (J17 ?_))
  refine J0i [5,7,8,11] (fun s=>s 84 = .bool (J2l M (J11 p)[i])) ?_ ?_
  ·simp [hk3,hk2,hk1,s5,s8,s11,hi,b1]
   first|refine J01 (J2a M ((J11 p)[i]'hi)) (by first|simp [htM,bM];done|rfl) ?_|refine J02 (J2a M ((J11 p)[i]'hi)) (by first|simp [htM,bM];done|rfl) ?_
   rintro r rfl
   have g3:=Jht M (J11 p)[i]
   simp [g3]
  intro st4 hk4 s84
  simp at hk4
  have z0:¬ic=n2:=by omega
  have z1:¬ic=n2+1:=by omega
  have z2:¬n2+1=ic:=by omega
  have z3:¬n2=ic:=by omega
  have q1:¬1=n2:=by omega
  have q5:¬n2=1:=by omega
  have q4:¬n2=0:=by omega
  have r1:¬1=ic:=fun e=>hc1 e.symm
  have w0:¬id=n2:=by omega
  have w1:¬id=n2+1:=by omega
  have w2:¬id=ic:=fun e=>hcM e.symm
  cases c1:J2l M (J11 p)[i]
  ·rw [c1] at hJ s84
   simp only [Bool.false_eq_true,if_false] at hJ
   simp [hk4,hk3,hk2,hk1,s84,s11,hw]
   exact hR2 _ _ _ (by simp [hk4,hk3,hk2,hk1]) (by simp) ⟨hn2,hn3,b1,bM,acc,ic,hJ,hc1,hcM,hic,by simp [hk4,hk3,s7'],eic⟩
  rw [c1] at hJ s84
  simp only [if_true] at hJ
  have hal:=congrArg List.length hJ
  simp only [List.length_append,List.length_cons] at hal
  simp [hk4,hk3,hk2,hk1,s84,s11,hi,hw,s5,s7',eic,b1,z0,z1,z2,z3,q1,q5,q4,r1]
  refine ⟨by unfold LIM;omega,?_⟩
  exact hR2 _ _ _ (by simp [hk4,hk3,hk2,hk1]) (by simp) ⟨by omega,by omega,by simp [b1,q1,q5,r1,q4],by simp [bM,w0,w1,w2],acc++[(J11 p)[i]],n2+1,by simpa using hJ,by omega,by omega,by omega,by simp,by simp [J0b,List.take_of_length_le]⟩
 rintro st2 h2 n2 R2 hk2 s11 ⟨hn2,hn3,b1,bM,acc,ic,hJ,hc1,hcM,hic,s7',eic⟩ hret2 hX2
 simp at hk2
 rw [List.drop_eq_nil_of_le (by omega)] at hJ
 simp at hJ
 subst hJ
 refine J0c (J0i [7] (fun s=>s 75 = .bool false) (by simp [hk2,hk1,s5,s11,b1]) ?_)
 intro st3 hk3 s75
 simp at hk3
 refine J22 s75 ?_
 refine hX2 _ _ _ _ ?_
 simp [hk3,s7',eic]
def a270:AFn:= ⟨10,[.t 4],(.seq (.reg [Zo 4 (.mv (.k (.int .i64 0)))]) (.seq (.seq (.reg [Zv 5 0,Zv 6 1,Zo 7 (.bin .gtr (.t 5) (.t 6))]) (.cond (.t 7) (.seq (.reg [Zv 8 0,Zv 4 8]) .ret) .skip)) (.seq (.reg [Zv 9 1,Zv 4 9]) .ret)))⟩
theorem a270_ok:J09 Tryz.prog Tryz.f270=some a270:=by kernel_rfl
def a186:AFn:= ⟨15,[(.c 6 true 2)],(.seq (.reg [Zo 3 (.boxv (.t 0)),Zo 6 (.box [(.int .i64 0),(.nil 1)])]) (.seq (.reg [Zv 7 1,Zl 8 true 2 3,Zc 9 60 [.t 8],Zv 10 2,Zc 11 63 [.t 9,.t 10],Zc 12 270 [.t 11,(.k (.int .i64 0))],Zo 13 (.ixa 2 (.t 7) (.t 12)),Zl 14 true 2 13,⟨no,.st 2 (.t 6) (.t 14),no⟩]) .ret))⟩
theorem a186_ok:J09 Tryz.prog Tryz.f186=some a186:=by kernel_rfl
theorem K12 {p:DProgram}(h1:J2e p=true) {i:Nat}(hi:i<p.Rules.length) {f:DFunction}(hf:J18 p.Functions (p.Rules[i]).Func=some f):mdR p i=J5t p.Rules[i] f:=by
 have hg:p.Rules.getD (i:Int).toNat Jn5=p.Rules[i]:=by simp [hi]
 have hin:inR (i:Int) 0 ((p.Rules.length:Int) - 1)=true:=by simp [inR];omega
 have hfa:Jmp p p.Rules[i]=f:=by unfold Jmp;rw [hf];rfl
 unfold mdR J92
 simp only [h1,hin,hg,hfa,Bool.and_self,if_true,Option.getD_some]
theorem Jmn (x y:Int):Holds Tryz.prog 270 [i64 x,i64 y] (fun r=>r=i64 (if x>y then x else y)):=by
 refine J03 Tryz.func270 a270_ok rfl (by simp [a270]) ?_
 simp [a270]
 refine ⟨fun _ _=>by omega,fun _ _=>by omega⟩
theorem Jq6 {name:Str} : ∀ {l:List DFunction}{k:Nat},J0v (fun x=>x==name) (l.map (·.Name)) k=J0v (fun f:DFunction=>f.Name==name) l k
 | [],_=>rfl
 | f::l,k=>by
  simp only [List.map_cons,J0v]
  rw [Jq6]
theorem Jo1 {P:Program}{f:FuncId}{xs:List AV}{h:Heap}{n:Nat}{K:AV→Heap→Nat→Prop}
 (hA:J3u P f xs h n fun r h' _=>idb n r∧(∀ id,id<n→h' id=h id)∧K r h n):J3u P f xs h n K:=by
 refine ⟨hA.1,fun base w0 w L F vs H hv => ?_⟩
 refine (hA.2 base w0 w L F vs H hv).mono ?_
 rintro e w' ⟨v,r,L',n',F',h',rfl,H',J7t,hr,hs,hh,hk⟩
 refine ⟨v,r,Jsy n L',n,_,h,rfl,H.cut H' hh,?_,Jac (Ext.cut _ _ _) _ _ _ (Jds _ _ _ hr hs),hk⟩
 exact ⟨Nat.le_refl _,fun id l hid hl=>J7t.old id l hid (J6a hl).2,J7t.size,fun b hb ho=>⟨(J7t.block b hb ho).1,fun h=>(J7t.block b hb ho).2 h.cut⟩⟩
theorem Jse {p:DProgram}(hp:J0j p≤1048576) {b:DBounds}{name:Str}(hf:(J18 p.Functions name).isSome=true) (hb:b.Lins.length=p.Functions.length) {h:Heap}{n:Nat}{K:AV→Heap→Nat→Prop}
 (hK:K (.agg (J05 (J4g p b name))) h n):J3u Tryz.prog 186 [.agg (J00 p),.sl 2 (b.Lins.map J05),.str name] h n K:=by
 obtain ⟨j,hj,hji⟩:=Juo hf
 have hjl:j<b.Lins.length:=by omega
 have hl:J4g p b name=b.Lins[j]:=by unfold J4g;rw [hji];simp [hjl]
 rw [hl] at hK
 have ne:¬n=n+1∧¬n+1=n∧¬n=n+1+1∧¬n+1=n+1+1:=by omega
 have fr:∀ id,id<n→¬id=n∧¬id=n+1∧¬id=n+1+1:=by intro id _;omega
 refine Jo1 (J2k Tryz.func186 a186_ok rfl (by simp [a186]) ?_)
 simp [a186,J00]
 first|refine J01 (J8e p hp) (by first|simp [J00];done|rfl) ?_|refine J02 (J8e p hp) (by first|simp [J00];done|rfl) ?_
 rintro r rfl
 simp
 first|refine J01 (J2a (J11 p) name) (by first|simp [ne];done|rfl) ?_|refine J02 (J2a (J11 p) name) (by first|simp [ne];done|rfl) ?_
 rintro r rfl
 have hx:J0v (fun x=>x==name) (J11 p) 0=(j:Int):=by unfold J11;rw [Jq6,hji]
 simp [hx]
 first|refine J01 (Jmn (j:Int) 0) (by first|simp;done|rfl) ?_|refine J02 (Jmn (j:Int) 0) (by first|simp;done|rfl) ?_
 rintro r rfl
 have hm:(if (j:Int)>0 then (j:Int) else 0)=j:=by split <;> omega
 rw [hm]
 simp [hjl,J05,ne]
 refine ⟨by simp [idb,Jim],?_,hK⟩
 intro id hid
 simp [fr id hid]
theorem J7w {p:DProgram}(hp:J0j p≤1048576) {b:DBounds}{name:Str}(hf:(J18 p.Functions name).isSome=true) (hb:b.Lins.length=p.Functions.length) {h:Heap}{n:Nat}{K:AV→Heap→Nat→Prop}
 (hk:K (.agg (J05 (J4g p b name))) h n):J3u Tryz.prog 186 [.agg (J00 p),.sl 2 (b.Lins.map J05),.str name] h n (hK h K):=Jse hp hf hb (by simpa using hk)
def ub51:AC:=(.draw (.op (Zl 33 true 2 2) (.op (Zf 34 0 2) (.op (Zl 35 false 1 34) (.op (Zv 36 8) (.op (Zo 37 (.ixa 4 (.t 35) (.t 36))) (.op (Zf 38 0 37) (.op (Zl 39 false 1 38) (.both (.op (Zc 40 97 [.t 33,.t 39]) (.op (Zv 32 40) (.op (Zo 41 (.ext (.t 32) 0)) (.op (Zo 42 (.ext (.t 32) 1)) (.op (Zo 9 (.box [(.int .i64 0),(.nil 2)])) (.hop ⟨no,.st 2 (.t 9) (.t 41),no⟩ [] (.op (Zv 10 42) .fin))))))) (.op (Zo 9 (.box [(.int .i64 0),(.nil 2)])) (.op (Zc 40 97 [.t 33,.t 39]) (.op (Zv 32 40) (.op (Zo 41 (.ext (.t 32) 0)) (.op (Zo 42 (.ext (.t 32) 1)) (.hop ⟨no,.st 2 (.t 9) (.t 41),no⟩ [] (.op (Zv 10 42) .fin))))))))))))))))
def ub52:AC:=(.draw (.op (Zf 44 1 3) (.op (Zl 45 false 1 44) (.op (Zv 46 8) (.op (Zo 47 (.ixa 2 (.t 45) (.t 46))) (.op (Zl 48 true 2 47) (.op (Zv 49 7) (.op (Zf 50 0 9) (.op (Zl 51 false 1 50) (.both (.op (Zc 52 99 [.t 49,.t 51]) (.both (.op (Zc 53 98 [.t 48,(.k (.int .i64 (-1))),.t 52]) (.op (Zv 43 53) (.op (Zo 54 (.ext (.t 43) 0)) (.op (Zo 55 (.ext (.t 43) 1)) (.op (Zo 11 (.box [(.int .i64 0),(.nil 1)])) (.hop ⟨no,.st 2 (.t 11) (.t 54),no⟩ [] (.op (Zv 12 55) .fin))))))) (.op (Zo 11 (.box [(.int .i64 0),(.nil 1)])) (.op (Zc 53 98 [.t 48,(.k (.int .i64 (-1))),.t 52]) (.op (Zv 43 53) (.op (Zo 54 (.ext (.t 43) 0)) (.op (Zo 55 (.ext (.t 43) 1)) (.hop ⟨no,.st 2 (.t 11) (.t 54),no⟩ [] (.op (Zv 12 55) .fin))))))))) (.op (Zo 11 (.box [(.int .i64 0),(.nil 1)])) (.op (Zc 52 99 [.t 49,.t 51]) (.op (Zc 53 98 [.t 48,(.k (.int .i64 (-1))),.t 52]) (.op (Zv 43 53) (.op (Zo 54 (.ext (.t 43) 0)) (.op (Zo 55 (.ext (.t 43) 1)) (.hop ⟨no,.st 2 (.t 11) (.t 54),no⟩ [] (.op (Zv 12 55) .fin))))))))))))))))))
def ub53:AC:=(.reg [Zv 59 6,Zl 60 true 2 9,Zl 61 true 2 11,Zo 62 (.build [(.int .i64 0),(.nil 2),(.int .i64 0),(.nil 1)] [(0,(2,(.t 60))),(2,(2,(.t 61)))]),Zo 63 (.bsl 4 [.t 62]),Zo 64 (.app 64 4 (.t 59) (.t 63)),Zv 6 64])
def ub61:AC:=(.reg [Zl 73 true 2 2,Zl 74 true 2 3,Zv 75 13,Zc 76 100 [.t 73,.t 74,.t 75],Zv 72 76,Zo 77 (.ext (.t 72) 0),Zo 78 (.ext (.t 72) 1),Zo 14 (.box [(.int .i64 0),(.nil 2),(.int .i64 0),(.nil 1)]),⟨no,.st 4 (.t 14) (.t 77),no⟩,Zv 15 78])
def ub63:AC:=(.reg [Zv 82 6,Zl 83 true 4 14,Zo 84 (.bsl 4 [.t 83]),Zo 85 (.app 64 4 (.t 82) (.t 84)),Zv 6 85])
def ub0:AC:=(.reg [Zo 2 (.boxv (.t 0)),Zo 3 (.boxv (.t 1)),Zo 4 (.mv (.k (.nil 4))),Zo 5 (.mv (.k (.bool false)))])
def ub1:AC:=(.seq (.reg [Zl 16 true 2 2,Zl 17 true 2 3,Zc 18 96 [.t 16,.t 17],Zo 19 (.un .not (.t 18))]) (.cond (.t 19) (.seq (.reg [Zo 20 (.bsl 4 []),Zv 4 20,Zo 5 (.mv (.k (.bool false)))]) .ret) .skip))
def ub2:AC:=(.reg [Zo 21 (.bsl 4 []),Zv 6 21])
def ub3:AC:=(.reg [Zo 7 (.mv (.k (.int .i64 0)))])
def ub4:AC:=(.seq (.reg [Zf 22 0 3,Zl 23 false 1 22,Zo 24 (.bin .eql (.t 23) (.k (.int .i64 1)))]) (.cond (.t 24) (.reg [Zo 7 (.mv (.k (.int .i64 1)))]) .skip))
def ub5:AC:=(.seq (.reg [Zo 8 (.mv (.k (.int .i64 0)))]) (.blk 0 (.loop (.seq (.seq (.reg [Zv 25 8,Zf 26 0 2,Zl 27 false 1 26,Zo 28 (.len false (.t 27)),Zo 29 (.bin .lss (.t 25) (.t 28))]) (.cond (.t 29) .skip (.exit 0))) (.seq (.blk 1 (.seq ub51 (.seq ub52 (.seq (.seq (.reg [Zv 56 12,Zo 57 (.un .not (.t 56))]) (.cond (.t 57) (.seq (.reg [Zo 58 (.bsl 4 []),Zv 4 58,Zo 5 (.mv (.k (.bool false)))]) .ret) .skip))  ub53)))) (.reg [Zv 30 8,Zo 31 (.bin .add (.t 30) (.k (.int .i64 1))),Zv 8 31]))))))
def ub6:AC:=(.seq (.reg [Zo 13 (.mv (.k (.int .i64 0)))]) (.blk 2 (.loop (.seq (.seq (.reg [Zv 65 13,Zf 66 1 2,Zl 67 false 1 66,Zo 68 (.len false (.t 67)),Zo 69 (.bin .lss (.t 65) (.t 68))]) (.cond (.t 69) .skip (.exit 2))) (.seq (.blk 3 (.seq  ub61 (.seq (.seq (.reg [Zv 79 15,Zo 80 (.un .not (.t 79))]) (.cond (.t 80) (.seq (.reg [Zo 81 (.bsl 4 []),Zv 4 81,Zo 5 (.mv (.k (.bool false)))]) .ret) .skip))  ub63))) (.reg [Zv 70 13,Zo 71 (.bin .add (.t 70) (.k (.int .i64 1))),Zv 13 71]))))))
def ub7:AC:=(.reg [Zv 86 6,Zv 4 86,Zo 5 (.mv (.k (.bool true)))])
def a31:AFn:=⟨87,[.t 4,.t 5],(.seq ub0 (.seq ub1 (.seq ub2 (.seq ub3 (.seq ub4 (.seq ub5 (.seq ub6 (.seq ub7 .ret))))))))⟩
def qo0:AC:=(.reg [Zo 1 (.boxv (.t 0)),Zo 2 (.mv (.k (.nil 4)))])
def qo1:AC:=(.reg [Zo 13 (.bsl 4 []),Zv 3 13])
def qo2:AC:=(.reg [Zl 14 true 2 1,Zc 15 122 [.t 14],Zv 4 15])
def K8n:AC:=(.draw (.op (Zl 23 true 2 1) (.op (Zv 24 4) (.op (Zv 25 5) (.op (Zo 26 (.ixa 2 (.t 24) (.t 25))) (.op (Zf 27 0 26) (.op (Zl 28 false 1 27) (.both (.op (Zc 29 171 [.t 23,.t 28]) (.op (Zv 22 29) (.op (Zo 30 (.ext (.t 22) 0)) (.op (Zo 31 (.ext (.t 22) 1)) (.op (Zo 6 (.box [(.int .i64 0),(.nil 2),(.nil 2),(.nil 1),(.int .i64 0),(.nil 1)])) (.hop ⟨no,.st 6 (.t 6) (.t 30),no⟩ [] (.op (Zv 7 31) .fin))))))) (.op (Zo 6 (.box [(.int .i64 0),(.nil 2),(.nil 2),(.nil 1),(.int .i64 0),(.nil 1)])) (.op (Zc 29 171 [.t 23,.t 28]) (.op (Zv 22 29) (.op (Zo 30 (.ext (.t 22) 0)) (.op (Zo 31 (.ext (.t 22) 1)) (.hop ⟨no,.st 6 (.t 6) (.t 30),no⟩ [] (.op (Zv 7 31) .fin)))))))))))))))
def K6q:AC:=(.draw (.op (Zl 33 true 2 1) (.op (Zl 34 true 2 1) (.op (Zv 35 4) (.op (Zv 36 5) (.op (Zo 37 (.ixa 2 (.t 35) (.t 36))) (.op (Zl 38 true 2 37) (.both (.op (Zc 39 173 [.t 34,.t 38]) (.both (.op (Zc 40 172 [.t 33,.t 39]) (.op (Zv 32 40) (.op (Zo 41 (.ext (.t 32) 0)) (.op (Zo 42 (.ext (.t 32) 1)) (.op (Zo 8 (.box [(.str []),(.nil 1),(.bool false),(.nil 2)])) (.hop ⟨no,.st 4 (.t 8) (.t 41),no⟩ [] (.op (Zv 9 42) .fin))))))) (.op (Zo 8 (.box [(.str []),(.nil 1),(.bool false),(.nil 2)])) (.op (Zc 40 172 [.t 33,.t 39]) (.op (Zv 32 40) (.op (Zo 41 (.ext (.t 32) 0)) (.op (Zo 42 (.ext (.t 32) 1)) (.hop ⟨no,.st 4 (.t 8) (.t 41),no⟩ [] (.op (Zv 9 42) .fin))))))))) (.op (Zo 8 (.box [(.str []),(.nil 1),(.bool false),(.nil 2)])) (.op (Zc 39 173 [.t 34,.t 38]) (.op (Zc 40 172 [.t 33,.t 39]) (.op (Zv 32 40) (.op (Zo 41 (.ext (.t 32) 0)) (.op (Zo 42 (.ext (.t 32) 1)) (.hop ⟨no,.st 4 (.t 8) (.t 41),no⟩ [] (.op (Zv 9 42) .fin))))))))))))))))
def K7a:AC:=(.draw (.op (Zl 51 true 6 6) (.op (Zf 52 3 8) (.op (Zl 53 false 1 52) (.op (Zv 54 10) (.op (Zo 55 (.ixa 2 (.t 53) (.t 54))) (.op (Zl 56 true 2 55) (.op (Zv 57 4) (.op (Zv 58 5) (.op (Zo 59 (.ixa 2 (.t 57) (.t 58))) (.op (Zf 60 1 59) (.op (Zl 61 false 1 60) (.both (.op (Zc 62 174 [.t 51,.t 56,.t 61]) (.op (Zv 50 62) (.op (Zo 63 (.ext (.t 50) 0)) (.op (Zo 64 (.ext (.t 50) 1)) (.op (Zo 11 (.box [(.int .i64 0),(.nil 1)])) (.hop ⟨no,.st 2 (.t 11) (.t 63),no⟩ [] (.op (Zv 12 64) .fin))))))) (.op (Zo 11 (.box [(.int .i64 0),(.nil 1)])) (.op (Zc 62 174 [.t 51,.t 56,.t 61]) (.op (Zv 50 62) (.op (Zo 63 (.ext (.t 50) 0)) (.op (Zo 64 (.ext (.t 50) 1)) (.hop ⟨no,.st 2 (.t 11) (.t 63),no⟩ [] (.op (Zv 12 64) .fin))))))))))))))))))))
def K88:AC:=(.draw (.op (Zv 71 3) (.op (Zf 72 0 6) (.op (Zl 73 true 2 72) (.op (Zl 75 true 2 11) (.op (Zc 74 175 [.t 73]) (.op (Zo 76 (.build [(.int .i64 0),(.nil 2),(.int .i64 0),(.nil 1)] [(0,(2,(.t 74))),(2,(2,(.t 75)))])) (.hop (Zo 77 (.bsl 4 [.t 76])) [] (.hop (Zo 78 (.app 64 4 (.t 71) (.t 77))) [] (.hop (Zv 3 78) [] .fin))))))))))
def qoi:AC:=(.seq (.reg [Zo 10 (.mv (.k (.int .i64 0)))]) (.blk 2 (.loop (.seq (.seq (.reg [Zv 43 10,Zf 44 3 8,Zl 45 false 1 44,Zo 46 (.len false (.t 45)),Zo 47 (.bin .lss (.t 43) (.t 46))]) (.cond (.t 47) .skip (.exit 2))) (.seq (.blk 3 (.seq K7a (.seq (.seq (.reg [Zv 65 12,Zo 66 (.un .not (.t 65))]) (.cond (.t 66) (.reg [Zf 67 0 6,Zf 68 0 67,Zl 69 false 1 68,Zc 70 99 [(.k (.int .i64 (-1))),.t 69],⟨no,.st 2 (.t 11) (.t 70),no⟩]) .skip)) K88))) (.reg [Zv 48 10,Zo 49 (.bin .add (.t 48) (.k (.int .i64 1))),Zv 10 49]))))))
def qo3:AC:=(.seq (.reg [Zo 5 (.mv (.k (.int .i64 0)))]) (.blk 0 (.loop (.seq (.seq (.reg [Zv 16 5,Zv 17 4,Zo 18 (.len false (.t 17)),Zo 19 (.bin .lss (.t 16) (.t 18))]) (.cond (.t 19) .skip (.exit 0))) (.seq (.blk 1 (.seq K8n (.seq K6q qoi))) (.reg [Zv 20 5,Zo 21 (.bin .add (.t 20) (.k (.int .i64 1))),Zv 5 21]))))))
def qo4:AC:=(.reg [Zv 79 3,Zv 2 79])
def a92:AFn:=⟨80,[.t 2],(.seq qo0 (.seq qo1 (.seq qo2 (.seq qo3 (.seq qo4 .ret)))))⟩
theorem a92_ok:J09 Tryz.prog Tryz.f92=some a92:=by kernel_rfl
section
variable {ks:List Kt}{s:Env}{h h':Heap}{n:Nat}{Q:Fin}
theorem Jro {md:DModel}{t:DLin}{acc:List DObligation}{v:AV}{k6 k11:Nat}(s3:s 3=v) (s6:s 6 = .ptr k6 0 0) (s11:s 11 = .ptr k11 0 0) (e6:h k6=some ⟨true,6,[J0m md]⟩) (L:J49 t k11 h n) (B:J31 0 4 (acc.map J08) v h n) (hw:J4q md.System.Rows≤1048576) (hl:acc.length≤3000000)
 (hK:∀ s' h' n',(∀ j∈[1,2,4,5,6,8,10],s' j=s j)→n≤n'→(∀ id z rows,id<n→h id=some ⟨true,z,rows⟩→h' id=h id)→J31 0 4 ((acc++[(⟨md.System,t⟩:DObligation)]).map J08) (s' 3) h' n'→J2f Tryz.prog ks .normal s' h' n' Q):rC Tryz.prog K88 ks s h n Q:=by
 obtain ⟨q,hkn,hqn,hkb,hqb⟩:=L
 have ne:¬q=n∧¬n=q∧¬n=n+1∧¬n+1=n∧¬n+1=q∧¬q=n+1:=by omega
 have fr:∀ id,id<n→¬id=n∧¬id=n+1∧¬id=n+1+1:=by intro id _;omega
 have hqv:∀ l,v ≠ .ref q 0 l:=fun l e=>by have:=(B.lt e).2.2.1;rw [hqb] at this;simp at this
 simp [K88,s3,s6,s11,e6,hkb]
 first|refine J01 (Jfj md.System hw) (by first|simp;done|rfl) ?_|refine J02 (Jfj md.System hw) (by first|simp;done|rfl) ?_
 rintro r rfl
 simp [J3h,hqb,ne]
 refine J35 (rows:=acc.map J08) (rows2:=[[.int .i64 md.System.N,.us 2 (md.System.Rows.map J07),.int .i64 t.Const,.us 1 (J0l t.Coeffs)]]) (B.keep (n':=n+1+1) (by omega) fun id _ hid e => ?_) (by simp) (fun l e=>by have:=(B.lt e).2.1;omega) (by omega) (by simp;unfold LIM;omega) ?_
 ·have:¬id=q:=fun e'=>hqv _ (by rw [←e'];exact e)
  simp [fr id hid,this]
 intro h1 f1 f2
 simp
 refine hK _ _ _ (by simp) (by omega) ?_ ?_
 ·intro id z rows h1' h3'
  have:¬id=q:=by rintro rfl;rw [hqb] at h3';simp at h3'
  rw [f2 id (by omega) (by omega) fun l e=>B.not_box h3' e];simp [fr id h1',this]
 ·simp
  exact .inr ⟨n+2,by omega,by omega,by simp,by simp [f1,J08]⟩
theorem Jt6 {p:DProgram}(hp:J0j p≤1048576) {i x y:Nat}(hi:i<(J0f p).length) (he:(J0f p)[i]=⟨x,y⟩) (s1:s 1 = .ptr 0 0 0) (s4:s 4 = .sl 2 ((J0f p).map J0o)) (s5:s 5 = .int .i64 i) (e0:h 0=some ⟨true,2,[J00 p]⟩)
 (hK:∀ s' h' ,(∀ j∈[1,2,3,4,5],s' j=s j)→s' 6 = .ptr n 0 0→h' n=some ⟨true,6,[J0m (Jc9 p ⟨x,y⟩)]⟩→(∀ id,id<n→h' id=h id)→J2f Tryz.prog ks .normal s' h' (n+1) Q):rC Tryz.prog K8n ks s h n Q:=by
 have hmd:(J92 p x).getD Jak=Jc9 p ⟨x,y⟩:=rfl
 simp [K8n,s1,s4,s5,e0,hi,he,J0o]
 have fr:∀ id,id<n→¬id=n:=by intro id _;omega
 constructor
 ·refine J5c (Jgm p hp x) (by simp) ?_
  rintro _ rfl
  unfold J55
  rw [hmd]
  generalize Jc9 p ⟨x,y⟩=md at *
  simp
  exact hK _ _ (by simp) (by simp) (by simp) fun id hid=>by simp [fr id hid]
 ·refine J5c (Jgm p hp x) (by simp) ?_
  rintro _ rfl
  unfold J55
  rw [hmd]
  generalize Jc9 p ⟨x,y⟩=md at *
  simp
  exact hK _ _ (by simp) (by simp) (by simp) fun id hid=>by simp [fr id hid]
theorem Jts {p:DProgram}(hp:J0j p≤1048576) {i x y:Nat}(hi:i<(J0f p).length) (he:(J0f p)[i]=⟨x,y⟩) (hx:x<p.Rules.length) (hy:y<(p.Rules[x]).Calls.length) (s1:s 1 = .ptr 0 0 0) (s4:s 4 = .sl 2 ((J0f p).map J0o)) (s5:s 5 = .int .i64 i) (e0:h 0=some ⟨true,2,[J00 p]⟩)
 (hK:∀ s' h' ,(∀ j∈[1,2,3,4,5,6],s' j=s j)→s' 8 = .ptr n 0 0→h' n=some ⟨true,4,[J04 ((J18 p.Functions ((p.Rules[x]).Calls[y]).Func).getD fn0)]⟩→(∀ id,id<n→h' id=h id)→J2f Tryz.prog ks .normal s' h' (n+1) Q):rC Tryz.prog K6q ks s h n Q:=by
 have fr:∀ id,id<n→¬id=n:=by intro id _;omega
 simp [K6q,s1,s4,s5,e0,hi,he]
 constructor
 ·skip
  first|refine J01 (J4a p hx hy) (by first|simp [J00];done|rfl) ?_|refine J02 (J4a p hx hy) (by first|simp [J00];done|rfl) ?_
  rintro r rfl
  generalize ((p.Rules[x]).Calls[y]).Func=nm at *
  simp
  constructor
  ·refine J5c (J1z p nm hp) (by simp) ?_
   rintro _ rfl
   unfold J8u
   generalize (J18 p.Functions nm).getD fn0=g at *
   simp
   exact hK _ _ (by simp) (by simp) (by simp) fun id hid=>by simp [fr id hid]
  ·refine J5c (J1z p nm hp) (by simp) ?_
   rintro _ rfl
   unfold J8u
   generalize (J18 p.Functions nm).getD fn0=g at *
   simp
   exact hK _ _ (by simp) (by simp) (by simp) fun id hid=>by simp [fr id hid]
 ·skip
  first|refine J01 (J4a p hx hy) (by first|simp [J00];done|rfl) ?_|refine J02 (J4a p hx hy) (by first|simp [J00];done|rfl) ?_
  rintro r rfl
  generalize ((p.Rules[x]).Calls[y]).Func=nm at *
  simp
  ·refine J5c (J1z p nm hp) (by simp) ?_
   rintro _ rfl
   unfold J8u
   generalize (J18 p.Functions nm).getD fn0=g at *
   simp
   exact hK _ _ (by simp) (by simp) (by simp) fun id hid=>by simp [fr id hid]
theorem Jsr {md:DModel}{l:DLin}{g:DFunction}{el:List DEdge}{i j k6 k8:Nat}(hi:i<el.length) (hj:j<g.Pre.length) (s4:s 4 = .sl 2 (el.map J0o)) (s5:s 5 = .int .i64 i) (s6:s 6 = .ptr k6 0 0) (s8:s 8 = .ptr k8 0 0) (s10:s 10 = .int .i64 j) (e6:h k6=some ⟨true,6,[J0m md]⟩) (e8:h k8=some ⟨true,4,[J04 g]⟩) (hl:g.Pre[j]=l)
 (hK:∀ s' h' n',(∀ j∈[1,2,3,4,5,6,8,10],s' j=s j)→n≤n'→s' 12 = .bool (J21 md l (el[i]).Call).isSome→(∃ k,s' 11 = .ptr k 0 0∧n≤k∧J49 ((J21 md l (el[i]).Call).getD J0y) k h' n')→(∀ id,id<n→h' id=h id)→J2f Tryz.prog ks .normal s' h' n' Q):rC Tryz.prog K7a ks s h n Q:=by
 have fr:∀ id,id<n→¬id=n∧¬id=n+1:=by intro id _;omega
 have ne:¬n=n+1∧¬n+1=n:=by omega
 subst hl
 simp [K7a,s4,s5,s6,s8,s10,e6,e8,hi,hj,J0o,J04]
 generalize el[i]=e at *
 constructor
 ·skip
  first|refine J01 (J58 md (g.Pre[j]'hj) e.Call) (by first|simp;done|rfl) ?_|refine J02 (J58 md (g.Pre[j]'hj) e.Call) (by first|simp;done|rfl) ?_
  rintro r rfl
  rw [J0r]
  generalize (J21 md g.Pre[j] e.Call).getD J0y=t at *
  generalize (J21 md g.Pre[j] e.Call).isSome=b at *
  simp [J07,ne]
  exact hK _ _ _ (by simp) (by omega) (by simp) ⟨n+1,by simp,by omega,n,by omega,by omega,by simp,by simp [ne]⟩ fun id hid=>by simp [fr id hid]
 ·skip
  first|refine J01 (J58 md (g.Pre[j]'hj) e.Call) (by first|simp;done|rfl) ?_|refine J02 (J58 md (g.Pre[j]'hj) e.Call) (by first|simp;done|rfl) ?_
  rintro r rfl
  rw [J0r]
  generalize (J21 md g.Pre[j] e.Call).getD J0y=t at *
  generalize (J21 md g.Pre[j] e.Call).isSome=b at *
  simp [J07,ne]
  exact hK _ _ _ (by simp) (by omega) (by simp) ⟨n,by simp,by omega,n+1,by omega,by omega,by simp,by simp [ne]⟩ fun id hid=>by simp [fr id hid]
theorem Jy3 {md:DModel}{el:List DEdge}{i:Nat}{g:DFunction}{acc0 T:List DObligation}{k6 k8:Nat}{pr:List (List AV)}(hi:i<el.length) (s1:s 1 = .ptr 0 0 0) (s4:s 4 = .sl 2 (el.map J0o)) (s5:s 5 = .int .i64 i) (s6:s 6 = .ptr k6 0 0) (s8:s 8 = .ptr k8 0 0) (hk6:k6<n) (hk8:k8<n) (hk0:0<n) (e0:h 0=some ⟨true,2,pr⟩) (e6:h k6=some ⟨true,6,[J0m md]⟩) (e8:h k8=some ⟨true,4,[J04 g]⟩)
 (B:J31 0 4 (acc0.map J08) (s 3) h n) (hw:J4q md.System.Rows≤1048576) (hT:acc0++g.Pre.map (fun l=>Jnj md l (el[i]).Call)=T) (hTl:T.length≤2097152) (hgl:g.Pre.length≤1048576)
 (hK:∀ s' h' n',(∀ j∈[1,2,4,5],s' j=s j)→0<n'→h' 0=some ⟨true,2,pr⟩→J31 0 4 (T.map J08) (s' 3) h' n'→J2f Tryz.prog ks .normal s' h' n' Q):rC Tryz.prog qoi ks s h n Q:=by
 simp [qoi]
 refine J0n [1,2,4,5,6,8] 10 g.Pre.length (fun j s h m=>k6<m∧k8<m∧0<m∧h 0=some ⟨true,2,pr⟩∧h k8=some ⟨true,4,[J04 g]⟩∧h k6=some ⟨true,6,[J0m md]⟩∧∃ acc,J31 0 4 (acc.map J08) (s 3) h m∧acc++(g.Pre.drop j).map (fun l=>Jnj md l (el[i]).Call)=T) (by unfold LIM;omega) (by simp)
  ⟨hk6,hk8,hk0,e0,e8,e6,acc0,by simpa using B,by simpa using hT⟩ ?_ ?_
 ·rintro j st h m R hj hg hk s10 hw' ⟨m6,m8,m0,e0,e8,e6,acc,B,hJ⟩ hR _ _
  simp at hk
  rw [List.drop_eq_getElem_cons hj,List.map_cons] at hJ
  have hal:=congrArg List.length hJ
  simp at hal
  refine J0c (J0i [1,2,3,4,5,6,8,10] (fun s=>s 47 = .bool true) (by simp [hk,s8,s10,e8,J04,hj]) ?_)
  intro st1 hk1 s47
  simp at hk1
  refine J1y s47 (J0c (J17 ?_))
  generalize hl:g.Pre[j]=l at *
  refine J0c (Jsr (md:=md) (l:=l) (g:=g) (el:=el) (i:=i) (j:=j) (k6:=k6) (k8:=k8) hi hj (by simp [hk1,hk,s4]) (by simp [hk1,hk,s5]) (by simp [hk1,hk,s6]) (by simp [hk1,hk,s8]) (by simp [hk1,s10]) e6 e8 hl ?_)
  rintro st3 h3 n3 hk3 hn3 s12 ⟨k11,s11,hk11,q,y1,y2,y3,y4⟩ hfr3
  simp at hk3
  generalize (el[i]).Call=cl at *
  have z6:st3 6 = .ptr k6 0 0:=by simp [hk3,hk1,hk,s6]
  have d6:=hfr3 k6 m6
  rw [e6] at d6
  refine J5e (J1e [1,2,3,4,5,6,8,10,11] (fun s h4 n4=>n3≤n4∧J49 ((J21 md l cl).getD (J06 (-1) md.System.N)) k11 h4 n4∧∀ id,id<m→h4 id=h id) ?_ ?_)
  ·cases ht:J21 md l cl with
   | some t=>
    rw [ht] at s12 y3 y4
    simp [s12]
    exact ⟨⟨q,y1,y2,y3,y4⟩,hfr3⟩
   | none=>
    rw [ht] at s12
    simp only [Option.isSome_none] at s12
    have nk:¬k11=n3∧¬n3=k11:=by omega
    simp [s12,z6,d6,J0m]
    first|refine J01 (J1m (-1) md.System.N) (by first|simp;done|rfl) ?_|refine J02 (J1m (-1) md.System.N) (by first|simp;done|rfl) ?_
    rintro r rfl
    generalize J06 (-1) md.System.N=t
    simp [J07,s11,nk,y3]
    refine ⟨⟨n3,by omega,by omega,by simp,by simp [nk]⟩,fun id hid => ?_⟩
    have:¬id=k11∧¬id=n3:=by omega
    simp [this,hfr3 id hid]
  rintro st4 h4 n4 hk4 ⟨hn4,L4,hfr4⟩
  simp at hk4
  have B4:J31 0 4 (acc.map J08) (st 3) h4 n4:=B.keep (by omega) fun id _ hid _=>hfr4 id hid
  refine Jro (md:=md) (t:=(J21 md l cl).getD (J06 (-1) md.System.N)) (acc:=acc) (v:=st 3) (k6:=k6) (k11:=k11) (by simp [hk4,hk3,hk1]) (by simp [hk4,z6]) (by simp [hk4,s11]) (by rw [hfr4 k6 m6,e6]) L4 B4 hw (by omega) ?_
  intro st5 h5 n5 hk5 hn5 bx5 B5
  simp at hk5
  simp [hk5,hk4,hk3,hk1,s10,hw']
  have f0:=hfr4 0 m0
  have f8:=hfr4 k8 m8
  have f6:=hfr4 k6 m6
  rw [e0] at f0
  rw [e8] at f8
  rw [e6] at f6
  refine hR _ _ _ (by simp [hk5,hk4,hk3,hk1,hk]) (by simp) ⟨by omega,by omega,by omega,by rw [bx5 0 _ _ (by omega) f0,f0],by rw [bx5 k8 _ _ (by omega) f8,f8],by rw [bx5 k6 _ _ (by omega) f6,f6],acc++[Jnj md l cl],?_,by simpa using hJ⟩
  simp
  simpa [Jnj] using B5
 ·rintro st h m R hk s10 ⟨m6,m8,m0,e0,e8,e6,acc,B,hJ⟩ _ hX
  simp at hk
  rw [List.drop_eq_nil_of_le (by omega)] at hJ
  simp at hJ
  subst hJ
  refine J0c (J0i [1,2,3,4,5] (fun s=>s 47 = .bool false) (by simp [hk,s8,s10,e8,J04]) ?_)
  intro st1 hk1 s47
  simp at hk1
  refine J22 s47 ?_
  refine hX _ _ _ _ ?_
  simp
  refine hK _ _ _ (by simp [hk1,hk]) m0 e0 ?_
  rw [hk1.2.2.1];exact B
end
theorem J7l (p:DProgram) (hp:J0j p≤1048576):Holds Tryz.prog 92 [.agg (J00 p)] (fun x=>x = .us 4 ((Jf9 p).map J08)):=by
 have hTl:=Jbc p hp
 have hel:=J8b p hp
 refine J03 Tryz.func92 a92_ok rfl (by simp [a92]) ?_
 simp [a92,qo0,qo1,qo2,J00]
 refine J5l (J61 p hp) (by simp [J00]) ?_
 rintro _ rfl
 simp [qo3]
 unfold Jf9 at hTl ⊢
 generalize hT:(J0f p).flatMap (J8r p)=T at *
 refine J0n [1,4] 5 (J0f p).length (fun i s h m=>0<m∧h 0=some ⟨true,2,[J00 p]⟩∧∃ acc,J31 0 4 (acc.map J08) (s 3) h m∧acc++((J0f p).drop i).flatMap (J8r p)=T) (by unfold LIM;omega) (by simp) ⟨by simp,by simp [J00],[],.inr ⟨1,by omega,by omega,by simp,by simp⟩,by simpa using hT⟩ ?_ ?_
 ·rintro i st h m R hi hg hk s5 hw' ⟨m0,e0,acc,B,hJ⟩ hR _ _
  simp at hk
  have hpo:=Jqn hi
  rw [List.drop_eq_getElem_cons hi,List.flatMap_cons] at hJ
  obtain ⟨x,y,hx,hy,he,hf,ht0⟩:=J9l hi
  rw [←List.append_assoc] at hJ
  generalize hrest:List.flatMap (J8r p) (List.drop (i+1) (J0f p))=rest at hJ
  have hal:=congrArg List.length hJ
  simp only [List.length_append] at hal
  refine J0c (J0i [1,3,4,5] (fun s=>s 19 = .bool true) (by simp [hk,s5,hi]) ?_)
  intro st1 hk1 s19
  simp at hk1
  refine J1y s19 (J0c (J17 ?_))
  have hedge:(J8r p (J0f p)[i])=((Jdb p ⟨x,y⟩).map fun l=>Jnj (Jc9 p ⟨x,y⟩) l (y:Int)):=by rw [he];rfl
  rw [hedge] at hJ hal
  have hpa:Jdb p ⟨x,y⟩=((J18 p.Functions ((p.Rules[x]).Calls[y]).Func).getD fn0).Pre:=by unfold Jdb;rw [ht0]
  have hgl:(Jdb p ⟨x,y⟩).length≤1048576:=by
   rw [hpa]
   cases hfn:J18 p.Functions ((p.Rules[x]).Calls[y]).Func with
   | none=>simp [fn0]
   | some g=>have:=(Jq0 hpo hfn).2.2.2;simp only [Option.getD_some];omega
  have hmsz:=Ji1 hpo (k:=y) hx
  have hcall:((J0f p)[i]).Call=(y:Int):=by rw [he]
  refine J0c (Jt6 hp hi he (by simp [hk1,hk]) (by simp [hk1,hk]) (by simp [hk1,s5]) e0 ?_)
  intro st2 h2 hk2 s6 em hfr2
  simp at hk2
  refine J5e (J0c (Jts hp hi he hx hy (by simp [hk2,hk1,hk]) (by simp [hk2,hk1,hk]) (by simp [hk2,hk1,s5]) (by rw [hfr2 0 m0,e0]) ?_))
  intro st3 h3 hk3 s8 e8 hfr3
  simp at hk3
  refine J5e (Jy3 (md:=Jc9 p ⟨x,y⟩) (el:=J0f p) (i:=i) (g:=(J18 p.Functions ((p.Rules[x]).Calls[y]).Func).getD fn0) (acc0:=acc) (T:=acc++(Jdb p ⟨x,y⟩).map fun l=>Jnj (Jc9 p ⟨x,y⟩) l (y:Int)) (k6:=m) (k8:=m+1) (pr:=[J00 p]) hi (by simp [hk3,hk2,hk1,hk]) (by simp [hk3,hk2,hk1,hk]) (by simp [hk3,hk2,hk1,s5]) (by simp [hk3,s6]) s8 (by omega) (by omega) (by omega) (by rw [hfr3 0 (by omega),hfr2 0 m0,e0]) (by rw [hfr3 m (by omega),em]) e8 ?_ (by omega) (by rw [hpa,hcall]) (by simp only [List.length_append];omega) (by rw [←hpa];exact hgl) ?_)
  ·have:st3 3=st 3:=by simp [hk3,hk2,hk1]
   rw [this]
   exact B.keep (by omega) fun id _ hid _=>by rw [hfr3 id (by omega),hfr2 id hid]
  intro st6 h6 n6 hk6 hn6 e06 B6
  simp at hk6
  simp [hk6,hk3,hk2,hk1,s5,hw']
  refine hR _ _ _ (by simp [hk6,hk3,hk2,hk1,hk]) (by simp) ⟨by omega,e06,_,?_,by rw [hrest];exact hJ⟩
  simp only [Jkf (show ¬3=5 by omega),Jkf (show ¬3=20 by omega),Jkf (show ¬3=21 by omega)]
  exact B6
 ·rintro st h m R hk s5 ⟨m0,e0,acc,B,hJ⟩ _ hX
  simp at hk
  rw [List.drop_eq_nil_of_le (by omega)] at hJ
  simp at hJ
  subst hJ
  refine J0c (J0i [3] (fun s=>s 19 = .bool false) (by simp [hk,s5]) ?_)
  intro st1 hk1 s19
  simp at hk1
  refine J22 s19 ?_
  refine hX _ _ _ _ ?_
  obtain ⟨h2,d1,_⟩:=B.dt
  simp [qo4,hk1,-dt,-dtl,d1]
theorem Jaz {p:DProgram} : (J0f p).length≤16:=by
 unfold J0f
 split
 ·rename_i hp
  have hf:p.Rules.length≤8∧∀ r∈p.Rules,r.Calls.length≤2:=by
   refine ⟨?_,fun r hr => ?_⟩
   ·unfold J2e at hp
    simp only [Bool.and_eq_true,decide_eq_true_eq] at hp
    exact hp.1.2
   ·obtain ⟨f,_,R⟩:=Jcf hp hr
    exact R.ncalls
  have key:∀ (l:List DRule) (i:Nat),(∀ r∈l,r.Calls.length≤2)→(J2j i l).length≤2*l.length:=by
   intro l
   induction l with
   | nil=>intro i _;simp [J2j]
   | cons r l ih=>
    intro i h
    have h1:=ih (i+1) fun x hx=>h x (List.mem_cons_of_mem _ hx)
    have h2:=h r List.mem_cons_self
    have h3:(J3c i r).length=r.Calls.length:=by simp [J3c]
    simp only [J2j,List.length_append,List.length_cons,h3]
    omega
  have:=key p.Rules 0 hf.2
  unfold J6k
  omega
 ·simp
def a208:AFn:= ⟨62,[(.c 10 true 2),.t 11],(.seq (.reg [Zo 5 (.boxv (.t 0)),Zo 6 (.boxv (.t 1)),Zo 8 (.boxv (.t 3)),Zo 10 (.box [(.int .i64 0),(.nil 1)]),Zo 11 (.mv (.k (.bool false)))]) (.seq (.reg [Zl 19 true 2 6,Zf 20 2 5,Zl 21 false 1 20,Zf 22 0 5,Zf 23 0 22,Zl 24 false 1 23,Zc 25 191 [.t 19,.t 21,.t 24],Zv 18 25,Zo 26 (.ext (.t 18) 0),Zo 27 (.ext (.t 18) 1),Zo 12 (.box [(.int .i64 0),(.nil 1)]),⟨no,.st 2 (.t 12) (.t 26),no⟩,Zv 13 27]) (.seq (.reg [Zl 29 true 6 5,Zl 30 true 2 8,Zv 31 2,Zc 32 177 [.t 29,.t 30,.t 31],Zv 28 32,Zo 33 (.ext (.t 28) 0),Zo 34 (.ext (.t 28) 1),Zo 14 (.box [(.int .i64 0),(.nil 1)]),⟨no,.st 2 (.t 14) (.t 33),no⟩,Zv 15 34]) (.seq (.seq (.reg [Zv 35 13,Zo 36 (.un .not (.t 35)),Zv 37 36,⟨some 38,.mv (.t 15),(some (37,false))⟩,⟨some 39,.un .not (.t 38),(some (37,false))⟩,Zo 40 (.pick (.t 37) (.k (.bool true)) (.t 39)),Zv 41 40,⟨some 42,.mv (.t 4),(some (41,false))⟩,⟨some 43,.call (.k (.fn (.func 232) [] [])) [.t 42],(some (41,false))⟩,⟨some 44,.un .not (.t 43),(some (41,false))⟩,Zo 45 (.pick (.t 41) (.k (.bool true)) (.t 44))]) (.cond (.t 45) (.seq (.reg [Zo 46 (.build [(.int .i64 0),(.nil 1)] []),⟨no,.st 2 (.t 10) (.t 46),no⟩,Zo 11 (.mv (.k (.bool false)))]) .ret) .skip)) (.seq (.reg [Zl 48 true 2 12,Zl 49 true 2 14,Zc 50 193 [.t 48,(.k (.int .i64 (-1))),.t 49],Zv 47 50,Zo 51 (.ext (.t 47) 0),Zo 52 (.ext (.t 47) 1),Zo 16 (.box [(.int .i64 0),(.nil 1)]),⟨no,.st 2 (.t 16) (.t 51),no⟩,Zv 17 52]) (.seq (.seq (.reg [Zv 53 17,Zo 54 (.un .not (.t 53))]) (.cond (.t 54) (.seq (.reg [Zo 55 (.build [(.int .i64 0),(.nil 1)] []),⟨no,.st 2 (.t 10) (.t 55),no⟩,Zo 11 (.mv (.k (.bool false)))]) .ret) .skip)) (.seq (.reg [Zl 56 true 2 16,Zv 57 4,Zo 58 (.un .neg (.t 57)),Zc 59 189 [.t 56,.t 58],Zo 60 (.ext (.t 59) 0),Zo 61 (.ext (.t 59) 1),⟨no,.st 2 (.t 10) (.t 60),no⟩,Zv 11 61]) .ret)))))))⟩
theorem a208_ok:J09 Tryz.prog Tryz.f208=some a208:=by kernel_rfl
def a200:AFn:= ⟨68,[(.c 10 true 2),.t 11],(.seq (.reg [Zo 5 (.boxv (.t 0)),Zo 6 (.boxv (.t 1)),Zo 8 (.boxv (.t 3)),Zo 10 (.box [(.int .i64 0),(.nil 1)]),Zo 11 (.mv (.k (.bool false)))]) (.seq (.reg [Zl 21 true 6 5,Zl 22 true 2 6,Zf 23 2 5,Zl 24 false 1 23,Zc 25 185 [.t 21,.t 22,.t 24],Zv 20 25,Zo 26 (.ext (.t 20) 0),Zo 27 (.ext (.t 20) 1),Zo 12 (.box [(.int .i64 0),(.nil 1)]),⟨no,.st 2 (.t 12) (.t 26),no⟩,Zv 13 27]) (.seq (.reg [Zl 29 true 6 5,Zl 30 true 2 8,Zv 31 2,Zc 32 174 [.t 29,.t 30,.t 31],Zv 28 32,Zo 33 (.ext (.t 28) 0),Zo 34 (.ext (.t 28) 1),Zo 14 (.box [(.int .i64 0),(.nil 1)]),⟨no,.st 2 (.t 14) (.t 33),no⟩,Zv 15 34]) (.seq (.reg [Zl 36 true 2 12,Zl 37 true 2 14,Zc 38 98 [.t 36,(.k (.int .i64 (-1))),.t 37],Zv 35 38,Zo 39 (.ext (.t 35) 0),Zo 40 (.ext (.t 35) 1),Zo 16 (.box [(.int .i64 0),(.nil 1)]),⟨no,.st 2 (.t 16) (.t 39),no⟩,Zv 17 40]) (.seq (.draw (.op (Zl 42 true 2 16) (.op (Zv 43 4) (.op (Zf 44 1 16) (.op (Zl 45 false 1 44) (.op (Zo 46 (.len false (.t 45))) (.both (.op (Zo 47 (.mks 8 [(.int .i64 0)] (.t 46) (.t 46))) (.op (Zo 48 (.build [(.int .i64 0),(.nil 1)] [(0,(1,(.t 43))),(1,(1,(.t 47)))])) (.both (.op (Zc 49 98 [.t 42,(.k (.int .i64 (-1))),.t 48]) (.op (Zv 41 49) (.op (Zo 50 (.ext (.t 41) 0)) (.op (Zo 51 (.ext (.t 41) 1)) (.op (Zo 18 (.box [(.int .i64 0),(.nil 1)])) (.hop ⟨no,.st 2 (.t 18) (.t 50),no⟩ [] (.op (Zv 19 51) .fin))))))) (.op (Zo 18 (.box [(.int .i64 0),(.nil 1)])) (.op (Zc 49 98 [.t 42,(.k (.int .i64 (-1))),.t 48]) (.op (Zv 41 49) (.op (Zo 50 (.ext (.t 41) 0)) (.op (Zo 51 (.ext (.t 41) 1)) (.hop ⟨no,.st 2 (.t 18) (.t 50),no⟩ [] (.op (Zv 19 51) .fin)))))))))) (.op (Zo 18 (.box [(.int .i64 0),(.nil 1)])) (.op (Zo 47 (.mks 8 [(.int .i64 0)] (.t 46) (.t 46))) (.op (Zo 48 (.build [(.int .i64 0),(.nil 1)] [(0,(1,(.t 43))),(1,(1,(.t 47)))])) (.op (Zc 49 98 [.t 42,(.k (.int .i64 (-1))),.t 48]) (.op (Zv 41 49) (.op (Zo 50 (.ext (.t 41) 0)) (.op (Zo 51 (.ext (.t 41) 1)) (.hop ⟨no,.st 2 (.t 18) (.t 50),no⟩ [] (.op (Zv 19 51) .fin)))))))))))))))) (.seq (.seq (.reg [Zv 52 13,Zo 53 (.un .not (.t 52)),Zv 54 53,⟨some 55,.mv (.t 15),(some (54,false))⟩,⟨some 56,.un .not (.t 55),(some (54,false))⟩,Zo 57 (.pick (.t 54) (.k (.bool true)) (.t 56)),Zv 58 57,⟨some 59,.mv (.t 17),(some (58,false))⟩,⟨some 60,.un .not (.t 59),(some (58,false))⟩,Zo 61 (.pick (.t 58) (.k (.bool true)) (.t 60)),Zv 62 61,⟨some 63,.mv (.t 19),(some (62,false))⟩,⟨some 64,.un .not (.t 63),(some (62,false))⟩,Zo 65 (.pick (.t 62) (.k (.bool true)) (.t 64))]) (.cond (.t 65) (.seq (.reg [Zo 66 (.build [(.int .i64 0),(.nil 1)] []),⟨no,.st 2 (.t 10) (.t 66),no⟩,Zo 11 (.mv (.k (.bool false)))]) .ret) .skip)) (.seq (.reg [Zl 67 true 2 18,⟨no,.st 2 (.t 10) (.t 67),no⟩,Zo 11 (.mv (.k (.bool true)))]) .ret)))))))⟩
theorem a200_ok:J09 Tryz.prog Tryz.f200=some a200:=by kernel_rfl
@[simp] theorem K8u (m:Nat):drr (List.replicate m [AV.int .i64 0])=List.replicate m [AV.int .i64 0]:=by rw [J4e];simp [drl,dr]
theorem Jvz (z:DLin) (k:Int):J0g z (-1) ⟨k,List.replicate z.Coeffs.length 0⟩=if okC k then J6o z (-k) else Option.none:=by
 cases hz:J1g z z.Coeffs.length
 ·unfold J0g J6o;simp [hz]
 have hl:=J27 hz
 cases hk:okC k
 ·have hb:J1g ⟨k,List.replicate z.Coeffs.length 0⟩ z.Coeffs.length=false:=by simp [J1g,hk]
  unfold J0g;simp [hb]
 have hm1:okC (-1)=true:=by decide
 have hk':okC (-k)=true:=by rw [Jcj] at hk ⊢;omega
 have hall:z.Coeffs.all okC=true:=by
  unfold J1g at hz;simp only [Bool.and_eq_true] at hz;exact hz.2
 have hmul:Jcg (-1) k=(-k,true):=by
  have h:(-1:Int)*k = -k:=by omega
  unfold Jcg;rw [h,hm1,hk,hk'];rfl
 have h1:J23 z.Const (-1) k=if (Jdr z.Const (-k)).2 then some (Jdr z.Const (-k)).1 else Option.none:=by
  unfold J23;rw [hmul];simp
 have hb:J1g ⟨k,List.replicate z.Coeffs.length 0⟩ z.Coeffs.length=true:=by
  simp [J1g,inR,hk]
  exact ⟨by omega,.inr (by decide)⟩
 have h0:okC 0=true:=by decide
 have hzero:∀ c,okC c=true→J23 c (-1) 0=some c:=fun c hc=>by
  have hmul0:Jcg (-1) 0=(0,true):=by decide
  unfold J23;rw [hmul0];simp [Jdr,hc,h0]
 have hZ:J4l z (-1) ⟨k,List.replicate z.Coeffs.length 0⟩=z.Coeffs.map some:=by
  unfold J4l
  refine List.ext_getElem (by simp) fun i h1 h2 => ?_
  simp
  exact hzero _ (List.all_eq_true.1 hall _ (List.getElem_mem _))
 have hO:Ja5 z (-1) ⟨k,List.replicate z.Coeffs.length 0⟩=true:=by unfold Ja5;rw [hZ];simp
 unfold J0g J6o
 rw [hz,hb,hO,hZ,hm1]
 simp only [h1]
 cases (Jdr z.Const (-k)).2 <;> simp [Function.comp_def]
set_option maxHeartbeats 1000000 in
theorem Jcy (m:DModel) (a:DLin) (call:Int) (b:DLin) (k:Int):Holds Tryz.prog 208 [.agg (J0m m),.agg (J05 a),i64 call,.agg (J05 b),i64 k] (fun r=>r=J0s (J97 m a call b k)):=by
 refine J03 Tryz.func208 a208_ok rfl (by simp [a208]) ?_
 simp [a208,J05,J0m]
 unfold J97
 first|refine J01 (J38 a m.Params m.System.N) (by first|simp [J05];done|rfl) ?_|refine J02 (J38 a m.Params m.System.N) (by first|simp [J05];done|rfl) ?_
 rintro r rfl
 rw [J0r (J0w a m.Params m.System.N)]
 generalize hb1:(J0w a m.Params m.System.N).isSome=b1
 simp [J07]
 first|refine J01 (J8c m b call) (by first|simp [J05,J0m];done|rfl) ?_|refine J02 (J8c m b call) (by first|simp [J05,J0m];done|rfl) ?_
 rintro r rfl
 rw [J0r (J21 m b call)]
 generalize hb2:(J21 m b call).isSome=b2
 simp [J07]
 cases b1
 ·simp [J0s,J0y,J07,J0l]
 cases b2
 ·simp [J0s,J0y,J07,J0l]
 simp
 first|refine J01 (J26 k) (by first|simp;done|rfl) ?_|refine J02 (J26 k) (by first|simp;done|rfl) ?_
 rintro r rfl
 cases h3:okC k
 ·simp [J0s,J0y,J07,J0l]
 simp
 first|refine J01 (J1u ((J0w a m.Params m.System.N).getD J0y) (-1) ((J21 m b call).getD J0y)) (by first|simp [J05];done|rfl) ?_|refine J02 (J1u ((J0w a m.Params m.System.N).getD J0y) (-1) ((J21 m b call).getD J0y)) (by first|simp [J05];done|rfl) ?_
 rintro r rfl
 rw [J0r (J0g ((J0w a m.Params m.System.N).getD J0y) (-1) ((J21 m b call).getD J0y))]
 generalize hb4:(J0g ((J0w a m.Params m.System.N).getD J0y) (-1) ((J21 m b call).getD J0y)).isSome=b4
 simp [J07]
 cases b4
 ·simp [J0s,J0y,J07,J0l]
 rw [Jcj] at h3
 simp
 rw [J1h (by omega)]
 first|refine J01 (Jg8 ((J0g ((J0w a m.Params m.System.N).getD J0y) (-1) ((J21 m b call).getD J0y)).getD J0y) (-k)) (by first|simp [J05];done|rfl) ?_|refine J02 (Jg8 ((J0g ((J0w a m.Params m.System.N).getD J0y) (-1) ((J21 m b call).getD J0y)).getD J0y) (-k)) (by first|simp [J05];done|rfl) ?_
 rintro r rfl
 simp [J0r,J07]
def Jvu (m:DModel) (a:DLin) (call:Int) (b:DLin) (k:Int):Option DLin:=
 J0g ((J0g ((J0w a m.Params m.System.N).getD J0y) (-1) ((J21 m b call).getD J0y)).getD J0y) (-1)
  ⟨k,List.replicate ((J0g ((J0w a m.Params m.System.N).getD J0y) (-1) ((J21 m b call).getD J0y)).getD J0y).Coeffs.length 0⟩
theorem Jwl (m:DModel) (a:DLin) (call:Int) (b:DLin) (k:Int):J97 m a call b k =
 if (J0w a m.Params m.System.N).isSome&&(J21 m b call).isSome&&(J0g ((J0w a m.Params m.System.N).getD J0y) (-1) ((J21 m b call).getD J0y)).isSome then Jvu m a call b k else Option.none:=by
 unfold J97 Jvu
 rw [Jvz]
 cases (J0w a m.Params m.System.N).isSome <;> cases (J21 m b call).isSome <;> cases okC k <;> cases (J0g ((J0w a m.Params m.System.N).getD J0y) (-1) ((J21 m b call).getD J0y)).isSome <;> simp
theorem K0d (o:Option DLin) (h:∀ r,o=some r→r.Coeffs.length≤8):(o.getD J0y).Coeffs.length≤8:=by
 cases o with
 | none=>simp [J0y]
 | some r=>exact h r rfl
theorem Jg5 (a b:DLin) (k:Int):((J0g a k b).getD J0y).Coeffs.length≤8:=by
 refine K0d _ fun r hr => ?_
 rw [(J7i hr).1]
 unfold J0g at hr
 split at hr
 ·rename_i hc
  simp only [Bool.and_eq_true] at hc
  have:=J27 hc.1.1.1.1
  omega
 ·cases hr
def K30:AC:=(.seq (.seq (.reg [Zv 52 13,Zo 53 (.un .not (.t 52)),Zv 54 53,⟨some 55,.mv (.t 15),(some (54,false))⟩,⟨some 56,.un .not (.t 55),(some (54,false))⟩,Zo 57 (.pick (.t 54) (.k (.bool true)) (.t 56)),Zv 58 57,⟨some 59,.mv (.t 17),(some (58,false))⟩,⟨some 60,.un .not (.t 59),(some (58,false))⟩,Zo 61 (.pick (.t 58) (.k (.bool true)) (.t 60)),Zv 62 61,⟨some 63,.mv (.t 19),(some (62,false))⟩,⟨some 64,.un .not (.t 63),(some (62,false))⟩,Zo 65 (.pick (.t 62) (.k (.bool true)) (.t 64))]) (.cond (.t 65) (.seq (.reg [Zo 66 (.build [(.int .i64 0),(.nil 1)] []),⟨no,.st 2 (.t 10) (.t 66),no⟩,Zo 11 (.mv (.k (.bool false)))]) .ret) .skip)) (.seq (.reg [Zl 67 true 2 18,⟨no,.st 2 (.t 10) (.t 67),no⟩,Zo 11 (.mv (.k (.bool true)))]) .ret))
theorem Jet {b1 b2 b3 b5:Bool}{G:DLin}{s:Env}{h:Heap}{n id bid:Nat}{Q:AV→Prop}(s10:s 10 = .ptr 3 0 0) (s13:s 13 = .bool b1) (s15:s 15 = .bool b2) (s17:s 17 = .bool b3) (s18:s 18 = .ptr bid 0 0) (s19:s 19 = .bool b5)
 (h3:h 3=some ⟨true,2,[[.int .i64 0,.nil 1]]⟩) (hb:h bid=some ⟨true,2,[[.int .i64 G.Const,.ref id 0 G.Coeffs.length]]⟩) (hi:h id=some ⟨false,1,J0l G.Coeffs⟩) (n1:¬bid=3) (n2:¬id=3)
 (hQ:Q (if b1&&b2&&b3&&b5 then .tup [.agg (J07 G),.bool true] else .tup [.agg (J07 J0y),.bool false])):J2f Tryz.prog [Kt.seq K30] .normal s h n (K0a [(.c 10 true 2),.t 11] Q):=by
 unfold K30
 have n1':¬3=bid:=fun e=>n1 e.symm
 have n2':¬3=id:=fun e=>n2 e.symm
 cases b1
 ·simp [s10,s13,h3];simpa [J07,J0y,J0l] using hQ
 cases b2
 ·simp [s10,s13,s15,h3];simpa [J07,J0y,J0l] using hQ
 cases b3
 ·simp [s10,s13,s15,s17,h3];simpa [J07,J0y,J0l] using hQ
 cases b5
 ·simp [s10,s13,s15,s17,s19,h3];simpa [J07,J0y,J0l] using hQ
 simp [s10,s13,s15,s17,s18,s19,h3,hb,hi,n1,n2,n1',n2']
 simpa [J07] using hQ
set_option maxHeartbeats 1000000 in
theorem Jhe (m:DModel) (a:DLin) (call:Int) (b:DLin) (k:Int):Holds Tryz.prog 200 [.agg (J0m m),.agg (J05 a),i64 call,.agg (J05 b),i64 k] (fun r=>r=J0s (J97 m a call b k)):=by
 refine J03 Tryz.func200 a200_ok rfl (by simp [a200]) ?_
 simp [a200,J05,J0m]
 rw [Jwl]
 first|refine J01 (J73 m a m.Params) (by first|simp [J05,J0m];done|rfl) ?_|refine J02 (J73 m a m.Params) (by first|simp [J05,J0m];done|rfl) ?_
 rintro r rfl
 rw [J0r (J0w a m.Params m.System.N)]
 generalize hb1:(J0w a m.Params m.System.N).isSome=b1
 simp [J07]
 first|refine J01 (J58 m b call) (by first|simp [J05,J0m];done|rfl) ?_|refine J02 (J58 m b call) (by first|simp [J05,J0m];done|rfl) ?_
 rintro r rfl
 rw [J0r (J21 m b call)]
 generalize hb2:(J21 m b call).isSome=b2
 simp [J07]
 first|refine J01 (J0q ((J0w a m.Params m.System.N).getD J0y) (-1) ((J21 m b call).getD J0y)) (by first|simp [J05];done|rfl) ?_|refine J02 (J0q ((J0w a m.Params m.System.N).getD J0y) (-1) ((J21 m b call).getD J0y)) (by first|simp [J05];done|rfl) ?_
 rintro r rfl
 rw [J0r (J0g ((J0w a m.Params m.System.N).getD J0y) (-1) ((J21 m b call).getD J0y))]
 have hlen:=Jg5 ((J0w a m.Params m.System.N).getD J0y) ((J21 m b call).getD J0y) (-1)
 unfold Jvu
 generalize hb3:(J0g ((J0w a m.Params m.System.N).getD J0y) (-1) ((J21 m b call).getD J0y)).isSome=b3
 generalize hZ:(J0g ((J0w a m.Params m.System.N).getD J0y) (-1) ((J21 m b call).getD J0y)).getD J0y=Z at *
 simp [J07]
 have hL:(Z.Coeffs.length:Int)*8≤(LIM:Int):=by unfold LIM;omega
 refine ⟨⟨hL,?_,?_⟩,hL,?_⟩
 ·skip
  first|refine J01 (J0q Z (-1) ⟨k,List.replicate Z.Coeffs.length 0⟩) (by first|simp [J05];done|rfl) ?_|refine J02 (J0q Z (-1) ⟨k,List.replicate Z.Coeffs.length 0⟩) (by first|simp [J05];done|rfl) ?_
  rintro r rfl
  generalize hV:J0g Z (-1) ⟨k,List.replicate Z.Coeffs.length 0⟩=V
  rw [J0r V]
  generalize hb5:V.isSome=b5
  generalize hG:V.getD J0y=G
  generalize hKS:(List.cons (Kt.seq _) _:List Kt)=KS
  simp [J07]
  subst hKS
  refine Jet (b1:=b1) (b2:=b2) (b3:=b3) (b5:=b5) (G:=G) (bid:=12) (id:=11) (by simp) (by simp) (by simp) (by simp) (by simp) (by simp) (by simp) (by simp) (by simp) (by decide) (by decide) ?_
  subst hG hb5
  cases V <;> cases b1 <;> cases b2 <;> cases b3 <;> simp [J0s]
 ·skip
  first|refine J01 (J0q Z (-1) ⟨k,List.replicate Z.Coeffs.length 0⟩) (by first|simp [J05];done|rfl) ?_|refine J02 (J0q Z (-1) ⟨k,List.replicate Z.Coeffs.length 0⟩) (by first|simp [J05];done|rfl) ?_
  rintro r rfl
  generalize hV:J0g Z (-1) ⟨k,List.replicate Z.Coeffs.length 0⟩=V
  rw [J0r V]
  generalize hb5:V.isSome=b5
  generalize hG:V.getD J0y=G
  generalize hKS:(List.cons (Kt.seq _) _:List Kt)=KS
  simp [J07]
  subst hKS
  refine Jet (b1:=b1) (b2:=b2) (b3:=b3) (b5:=b5) (G:=G) (bid:=11) (id:=12) (by simp) (by simp) (by simp) (by simp) (by simp) (by simp) (by simp) (by simp) (by simp) (by decide) (by decide) ?_
  subst hG hb5
  cases V <;> cases b1 <;> cases b2 <;> cases b3 <;> simp [J0s]
 ·skip
  first|refine J01 (J0q Z (-1) ⟨k,List.replicate Z.Coeffs.length 0⟩) (by first|simp [J05];done|rfl) ?_|refine J02 (J0q Z (-1) ⟨k,List.replicate Z.Coeffs.length 0⟩) (by first|simp [J05];done|rfl) ?_
  rintro r rfl
  generalize hV:J0g Z (-1) ⟨k,List.replicate Z.Coeffs.length 0⟩=V
  rw [J0r V]
  generalize hb5:V.isSome=b5
  generalize hG:V.getD J0y=G
  generalize hKS:(List.cons (Kt.seq _) _:List Kt)=KS
  simp [J07]
  subst hKS
  refine Jet (b1:=b1) (b2:=b2) (b3:=b3) (b5:=b5) (G:=G) (bid:=10) (id:=12) (by simp) (by simp) (by simp) (by simp) (by simp) (by simp) (by simp) (by simp) (by simp) (by decide) (by decide) ?_
  subst hG hb5
  cases V <;> cases b1 <;> cases b2 <;> cases b3 <;> simp [J0s]
def a68:AFn:= ⟨27,[.t 4],(.seq (.reg [Zo 2 (.boxv (.t 0)),Zo 4 (.mv (.k (.nil 1)))]) (.seq (.reg [Zo 5 (.mv (.k (.nil 1)))]) (.seq (.seq (.reg [Zl 8 true 2 2,Zv 9 1,Zc 10 70 [.t 8,.t 9],Zo 11 (.len false (.t 10)),Zo 12 (.mv (.k (.int .i64 0)))]) (.blk 0 (.loop (.seq (.reg [Zo 13 (.bin .lss (.t 12) (.t 11))]) (.seq (.cond (.t 13) .skip (.exit 0)) (.seq (.blk 1 (.seq (.reg [Zo 14 (.ixa 1 (.t 10) (.t 12)),Zl 15 false 1 14,Zv 7 15]) (.seq (.reg [Zl 16 true 2 2,Zv 17 7,Zc 18 70 [.t 16,.t 17],Zv 19 1,Zc 20 72 [.t 18,.t 19]]) (.cond (.t 20) (.reg [Zv 21 5,Zv 22 7,Zo 23 (.bsl 1 [.t 22]),Zo 24 (.app 16 1 (.t 21) (.t 23)),Zv 5 24]) .skip)))) (.reg [Zo 25 (.bin .add (.t 12) (.k (.int .i64 1))),Zv 12 25]))))))) (.seq (.reg [Zv 26 5,Zv 4 26]) .ret))))⟩
theorem a68_ok:J09 Tryz.prog Tryz.f68=some a68:=by kernel_rfl
theorem Jnl (p:DProgram) (name:Str) (hp:J0j p≤1048576):(J2u p name).length≤1048576:=by
 have hfl:p.Functions.length≤1048576:=by have:=J2c J10 p.Functions;unfold J0j J24 at hp;omega
 unfold J2u
 split
 ·have h2:(J76 (J4s p) (J11 p) name).length≤(J11 p).length:=List.length_filter_le _ _
  have h3:(J11 p).length=p.Functions.length:=by simp [J11]
  omega
 ·simp
def Jtk (p:DProgram) (name g:Str):Bool:=J2l (J2u p g) name
theorem Jqk (p:DProgram) (name:Str):Jfv p name=(J2u p name).filter (Jtk p name):=rfl
theorem Jbf (p:DProgram) (hp:J0j p≤1048576) (name:Str):Holds Tryz.prog 68 [.agg (J00 p),.str name] (fun x=>x = .us 1 (J0b (Jfv p name))):=by
 have hrl:=Jnl p name hp
 refine J03 Tryz.func68 a68_ok rfl (by simp [a68]) ?_
 simp [a68,J00]
 first|refine J01 (J5n p hp name) (by first|simp [J00];done|rfl) ?_|refine J02 (J5n p hp name) (by first|simp [J00];done|rfl) ?_
 rintro r rfl
 simp
 intro _
 rw [Jqk]
 generalize hT:(J2u p name).filter (Jtk p name)=T
 have hTl:T.length≤1048576:=by rw [←hT];exact Nat.le_trans (List.length_filter_le _ _) hrl
 refine J0n [1,2,10,11] 12 (J2u p name).length (fun i s h n=>1<n∧h 0=some ⟨true,2,[J00 p]⟩∧h 1=some ⟨false,1,J0b (J2u p name)⟩∧∃ acc:List Str,acc++((J2u p name).drop i).filter (Jtk p name)=T∧Jqt 1 1 (J0b acc) (s 5) h n) (by unfold LIM;omega) (by simp) ⟨by simp,by simp [J00],by simp,[],by simpa using hT,.inl (by simp [J0b])⟩ ?_ ?_
 ·rintro i st h n R hi hg hk s12 hw ⟨hn,e0,e1,acc,hJ,hA⟩ hR hret _
  simp at hk
  rw [List.drop_eq_getElem_cons hi,List.filter_cons,Jtk] at hJ
  have z0:¬0=n:=by omega
  have z1:¬1=n:=by omega
  have z2:¬n=0:=by omega
  have z3:¬n=1:=by omega
  refine J0i [1,2,5,10,11,12] (fun s=>s 13 = .bool true) (by simp [hk,s12,hi]) ?_
  intro st1 hk1 s13
  simp at hk1
  refine J3e s13 (J0c (J17 ?_))
  refine J0i [1,2,5,10,11,12] (fun s=>s 7 = .str (J2u p name)[i]) (by simp [hk,hk1,s12,hi,e1]) ?_
  intro st2 hk2 s7
  simp at hk2
  generalize (J2u p name)[i]=g at *
  have ht:List.take (J2u p g).length (J0b (J2u p g))=J0b (J2u p g):=List.take_of_length_le (by simp [J0b])
  refine J1e [1,2,5,7,10,11,12] (fun s h' n'=>n'=n+1∧s 20 = .bool (J2l (J2u p g) name)∧h' 0=some ⟨true,2,[J00 p]⟩∧h' 1=some ⟨false,1,J0b (J2u p name)⟩∧Jqt 1 1 (J0b acc) (st 5) h' n) ?_ ?_
  ·simp [hk2,hk1,hk,e0,s7,J00]
   first|refine J01 (J5n p hp g) (by first|simp [J00];done|rfl) ?_|refine J02 (J5n p hp g) (by first|simp [J00];done|rfl) ?_
   rintro r rfl
   simp [hk2,hk1,hk,s7]
   first|refine J01 (J48 (J2u p g) name) (by first|simp [ht];done|rfl) ?_|refine J02 (J48 (J2u p g) name) (by first|simp [ht];done|rfl) ?_
   rintro r rfl
   simp [hk2,hk1,hk,s7,e0,e1,z0,z1,z2,z3,J00]
   exact hA.keep _
  rintro st3 h3 n3 hk3 ⟨rfl,s20,e0',e1',hA'⟩
  simp at hk3
  have y0:¬0=n+1:=by omega
  have y1:¬1=n+1:=by omega
  have y2:¬0=n+1+1:=by omega
  have y3:¬1=n+1+1:=by omega
  cases c1:J2l (J2u p g) name
  ·rw [c1] at hJ s20
   simp only [Bool.false_eq_true,if_false] at hJ
   simp [hk3,hk2,hk1,hk,s20,s12,hw]
   exact hR _ _ _ (by simp [hk3,hk2,hk1,hk]) (by simp) ⟨by omega,e0',e1',acc,hJ,by simpa [hk3,hk2,hk1] using hA'.mono (Nat.le_succ n)⟩
  rw [c1] at hJ s20
  simp only [if_true] at hJ
  have hal:=congrArg List.length hJ
  simp only [List.length_append,List.length_cons] at hal
  rcases hA' with ⟨hz,hv⟩|⟨id,hid,hid',hv,hc⟩
  ·have hz':acc=[]:=by simpa [J0b] using hz
   subst hz'
   simp [hk3,hk2,hk1,hk,hv,s7,s20,s12,hw,y0,y1,y2,y3,z0,z1,z2,z3]
   refine ⟨by unfold LIM;omega,?_⟩
   exact hR _ _ _ (by simp [hk3,hk2,hk1,hk]) (by simp) ⟨by omega,by simp [e0',y0,y1,y2,y3,z0,z1,z2,z3],by simp [e1',y0,y1,y2,y3,z0,z1,z2,z3],[g],by simpa using hJ,.inr ⟨n+1+1,by omega,by omega,by simp [J0b],by simp [J0b]⟩⟩
  ·simp [J0b] at hv
   have x0:¬id=n:=by omega
   have x1:¬id=n+1:=by omega
   have x2:¬n+1=id:=by omega
   have x3:¬n=id:=by omega
   have x4:¬1=id:=by omega
   have x5:¬0=id:=by omega
   simp [hk3,hk2,hk1,hk,hv,hc,s7,s20,s12,hw,y0,y1,y2,y3,z0,z1,z2,z3,x0,x1,x2,x3]
   refine ⟨by unfold LIM;omega,?_⟩
   exact hR _ _ _ (by simp [hk3,hk2,hk1,hk]) (by simp) ⟨by omega,by simp [e0',y0,y1,y2,y3,z0,z1,z2,z3,x4,x5],by simp [e1',y0,y1,y2,y3,z0,z1,z2,z3,x4,x5],acc++[g],by simpa using hJ,.inr ⟨n+1+1,by omega,by omega,by simp [J0b],by simp [J0b,List.take_of_length_le]⟩⟩
 rintro st h n R hk s12 ⟨hn,e0,e1,acc,hJ,hA⟩ hret hX
 simp at hk
 rw [List.drop_eq_nil_of_le (by omega)] at hJ
 simp at hJ
 subst hJ
 refine J0i [5] (fun s=>s 13 = .bool false) (by simp [hk,s12]) ?_
 intro st1 hk1 s13
 simp at hk1
 refine J32 s13 ?_
 refine hX _ _ _ _ ?_
 rcases hA with ⟨hz,hv⟩|⟨id,hid,hid',hv,hc⟩
 ·simp [hk1,hv,hz]
 ·simp at hv
  simp [hk1,hv,hc]
def a311:AFn:= ⟨19,[.t 4],(.seq (.reg [Zo 3 (.boxv (.t 1)),Zo 4 (.mv (.k (.int .i64 0)))]) (.seq (.seq (.reg [Zv 6 0,Zo 7 (.len false (.t 6)),Zo 8 (.mv (.k (.int .i64 0)))]) (.blk 0 (.loop (.seq (.reg [Zo 9 (.bin .lss (.t 8) (.t 7))]) (.seq (.cond (.t 9) .skip (.exit 0)) (.seq (.blk 1 (.seq (.reg [Zv 10 8,Zv 5 10]) (.seq (.draw (.op (Zl 11 true 2 3) (.op (Zv 12 0) (.op (Zv 13 5) (.op (Zo 14 (.ixa 2 (.t 12) (.t 13))) (.op (Zl 15 true 2 14) (.op (Zo 16 (.aeq false [0,0] (.t 11) (.t 15))) .fin))))))) (.cond (.t 16) (.seq (.reg [Zv 17 5,Zv 4 17]) .ret) .skip)))) (.reg [Zo 18 (.bin .add (.t 8) (.k (.int .i64 1))),Zv 8 18]))))))) (.seq (.reg [Zo 4 (.mv (.k (.int .i64 (-1))))]) .ret)))⟩
theorem a311_ok:J09 Tryz.prog Tryz.f311=some a311:=by kernel_rfl
def a280:AFn:= ⟨9,[.t 4],(.seq (.reg [Zo 3 (.boxv (.t 1)),Zo 4 (.mv (.k (.bool false)))]) (.seq (.reg [Zv 5 0,Zl 6 true 2 3,Zc 7 311 [.t 5,.t 6],Zo 8 (.bin .geq (.t 7) (.k (.int .i64 0))),Zv 4 8]) .ret))⟩
theorem a280_ok:J09 Tryz.prog Tryz.f280=some a280:=by kernel_rfl
def a198:AFn:= ⟨15,[.t 4],(.seq (.reg [Zo 2 (.boxv (.t 0)),Zo 3 (.boxv (.t 1)),Zo 4 (.mv (.k (.bool false)))]) (.seq (.draw (.op (Zl 5 true 2 2) (.op (Zl 6 true 2 2) (.op (Zl 7 true 2 3) (.op (Zl 10 true 2 2) (.op (Zl 11 true 2 3) (.op (Zc 8 173 [.t 6,.t 7]) (.op (Zc 9 136 [.t 5,.t 8]) (.op (Zc 12 199 [.t 10,.t 11]) (.op (Zc 13 63 [.t 9,.t 12]) (.op (Zo 14 (.bin .geq (.t 13) (.k (.int .i64 0)))) (.op (Zv 4 14) .fin)))))))))))) .ret))⟩
theorem a198_ok:J09 Tryz.prog Tryz.f198=some a198:=by kernel_rfl
def a201:AFn:= ⟨23,[.t 4],(.seq (.reg [Zo 2 (.boxv (.t 0)),Zo 3 (.boxv (.t 1)),Zo 4 (.mv (.k (.bool false)))]) (.seq (.seq (.draw (.op (Zl 7 true 2 2) (.op (Zl 9 true 2 3) (.op (Zc 8 125 [.t 7]) (.op (Zc 10 280 [.t 8,.t 9]) (.op (Zo 11 (.un .not (.t 10))) .fin)))))) (.cond (.t 11) (.seq (.reg [Zo 4 (.mv (.k (.bool false)))]) .ret) .skip)) (.seq (.reg [Zl 13 true 2 2,Zl 14 true 2 3,Zc 15 152 [.t 13,.t 14],Zv 12 15,Zo 16 (.ext (.t 12) 0),Zo 17 (.ext (.t 12) 1),Zv 5 16,Zv 6 17]) (.seq (.reg [Zl 18 true 2 2,Zv 19 5,Zc 20 68 [.t 18,.t 19],Zv 21 6,Zc 22 72 [.t 20,.t 21],Zv 4 22]) .ret))))⟩
theorem a201_ok:J09 Tryz.prog Tryz.f201=some a201:=by kernel_rfl
theorem Jnh {p:DProgram}(h:J2e p=true) {e:DEdge}(he:e∈J0f p):J2l (Jfv p (Jf3 p e)) (toE p e)=Jao p e:=by
 obtain ⟨f1,f2,f3,f4⟩:=Jcs h
 have hE2:∀ e∈J4s p,e.2∈J11 p:=fun e he=>(f2 e he).2
 have hm:(Jf3 p e,toE p e)∈J4s p:=by
  rw [Jca]
  unfold J0f at he
  rw [h] at he
  exact List.mem_map.2 ⟨e,he,rfl⟩
 have hF:=(f2 _ hm).1
 have hT:=(f2 _ hm).2
 have hr:J2u p (toE p e)=J76 (J4s p) (J11 p) (toE p e):=by unfold J2u;rw [h,J33.2 hT];rfl
 unfold Jao
 rw [hr,Jto h hF,Bool.eq_iff_iff,J33,J33,Jpd hE2 hF,Ja1 hE2 hT]
 exact ⟨fun ⟨_,_,g⟩=>⟨hF,g⟩,fun ⟨_,g⟩=>⟨hT,(RT.refl _).step hm,g⟩⟩
theorem Jmc (l:List DEdge) (e:DEdge):Holds Tryz.prog 311 [.sl 2 (l.map J0o),.agg (J0o e)] (fun r=>r=i64 (J0v (fun x=>decide (x=e)) l 0)):=by
 refine J1l Tryz.func311 rfl rfl fun hl => ?_
 simp at hl
 refine J03 Tryz.func311 a311_ok rfl (by simp [a311]) ?_
 simp [a311,J0o]
 intro _
 generalize hB:J0v (fun x=>decide (x=e)) l 0=B
 refine J0n [0,3,7] 8 l.length (fun i s h n=>0<n∧h 0=some ⟨true,2,[J0o e]⟩∧J0v (fun x=>decide (x=e)) (l.drop i) i=B) (by first|exact hl|exact hl.1) (by simp) ⟨by simp,by simp [J0o],by simpa using hB⟩ ?_ ?_
 ·rintro i st h n R hi hg hk s8 hw ⟨hn,e0,hJ⟩ hR hret _
  simp at hk
  rw [List.drop_eq_getElem_cons hi] at hJ
  simp only [J0v] at hJ
  by_cases hx:l[i]=e
  ·rw [if_pos (by simp [hx])] at hJ
   simp [hk,s8,hi,e0,J0o,hx]
   refine hret _ _ _ ?_
   simp [hJ]
  ·rw [if_neg (by simpa using hx)] at hJ
   simp [hk,s8,hi,e0,J0o]
   refine ⟨fun g1 g2=>(hx ?_).elim,fun _ => ?_⟩
   ·generalize l[i]=q at g1 g2
    cases q;cases e;simp_all
   simp [hk,s8,hw]
   exact hR _ _ _ (by simp [hk]) (by simp) ⟨hn,e0,hJ⟩
 rintro st h n R hk s8 ⟨hn,e0,hJ⟩ hret hX
 simp at hk
 rw [List.drop_eq_nil_of_le (by omega)] at hJ
 simp [hk,s8]
 refine hX _ _ _ _ ?_
 simp [←hJ,J0v]
theorem Jev (l:List DEdge) (e:DEdge):Holds Tryz.prog 280 [.sl 2 (l.map J0o),.agg (J0o e)] (fun r=>r = .bool (decide (e∈l))):=by
 refine J03 Tryz.func280 a280_ok rfl (by simp [a280]) ?_
 simp [a280,J0o]
 first|refine J01 (Jmc l e) (by first|simp [J0o];done|rfl) ?_|refine J02 (Jmc l e) (by first|simp [J0o];done|rfl) ?_
 rintro r rfl
 have:=J5z (p:=fun x=>decide (x=e)) (l:=l) (i:=0)
 simp only [ge_iff_le] at this
 simp [this]
 rw [Bool.eq_iff_iff]
 simp
theorem Jee (p:DProgram) (hp:J0j p≤1048576) {a b:Nat}(ha:a<p.Rules.length) (hb:b<(p.Rules[a]).Calls.length):Holds Tryz.prog 198 [.agg (J00 p),.agg (J0o ⟨a,b⟩)] (fun r=>r = .bool (Jao p ⟨a,b⟩)):=by
 refine J03 Tryz.func198 a198_ok rfl (by simp [a198]) ?_
 simp [a198,J00,J0o]
 first|refine J01 (J4a p ha hb) (by first|simp [J00,J0o];done|rfl) ?_|refine J02 (J4a p ha hb) (by first|simp [J00,J0o];done|rfl) ?_
 rintro r rfl
 simp
 first|refine J01 (J8q p hp ((p.Rules[a]).Calls[b]).Func) (by first|simp [J00];done|rfl) ?_|refine J02 (J8q p hp ((p.Rules[a]).Calls[b]).Func) (by first|simp [J00];done|rfl) ?_
 rintro r rfl
 simp
 first|refine J01 (J5a p ha (k:=b)) (by first|simp [J00,J0o];done|rfl) ?_|refine J02 (J5a p ha (k:=b)) (by first|simp [J00,J0o];done|rfl) ?_
 rintro r rfl
 simp
 have ht:∀ l:List Str,List.take l.length (J0b l)=J0b l:=fun l=>List.take_of_length_le (by simp [J0b])
 first|refine J01 (J2a (J2u p ((p.Rules[a]).Calls[b]).Func) (p.Rules[a]).Func) (by first|simp [ht];done|rfl) ?_|refine J02 (J2a (J2u p ((p.Rules[a]).Calls[b]).Func) (p.Rules[a]).Func) (by first|simp [ht];done|rfl) ?_
 rintro r rfl
 have g:=Jht (J2u p ((p.Rules[a]).Calls[b]).Func) (p.Rules[a]).Func
 simp [g,Jao,J9q ha,Jj5 ha hb]
theorem Jjw (p:DProgram) (hp:J0j p≤1048576) (e:DEdge):Holds Tryz.prog 201 [.agg (J00 p),.agg (J0o e)] (fun r=>r = .bool (Jhj p e)):=by
 refine J03 Tryz.func201 a201_ok rfl (by simp [a201]) ?_
 simp [a201,J00,J0o]
 first|refine J01 (J7n p hp) (by first|simp [J00];done|rfl) ?_|refine J02 (J7n p hp) (by first|simp [J00];done|rfl) ?_
 rintro r rfl
 have ht:List.take (J0f p).length ((J0f p).map J25)=(J0f p).map J25:=List.take_of_length_le (by simp)
 simp
 first|refine J01 (Jev (J0f p) e) (by first|simp [J0o,ht];done|rfl) ?_|refine J02 (Jev (J0f p) e) (by first|simp [J0o,ht];done|rfl) ?_
 rintro r rfl
 unfold Jhj
 by_cases hm:e∈J0f p
 case neg=>simp [hm]
 have hpo:J2e p=true:=by
  unfold J0f at hm
  split at hm
  ·assumption
  ·cases hm
 obtain ⟨i,hi,rfl⟩:=List.getElem_of_mem hm
 obtain ⟨a,b,ha,hb,he,hf,ht0⟩:=J9l hi
 have hin:=Jnh hpo hm
 rw [he] at hm hin ⊢
 rw [hf,ht0] at hin
 simp [hm]
 first|refine J01 (Ja9 p ha hb) (by first|simp [J00,J0o];done|rfl) ?_|refine J02 (Ja9 p ha hb) (by first|simp [J00,J0o];done|rfl) ?_
 rintro r rfl
 simp
 have ht1:List.take (Jfv p (p.Rules[a]).Func).length (J0b (Jfv p (p.Rules[a]).Func))=J0b (Jfv p (p.Rules[a]).Func):=List.take_of_length_le (by simp [J0b])
 first|refine J01 (Jbf p hp (p.Rules[a]).Func) (by first|simp [J00];done|rfl) ?_|refine J02 (Jbf p hp (p.Rules[a]).Func) (by first|simp [J00];done|rfl) ?_
 rintro r rfl
 simp
 first|refine J01 (J48 (Jfv p (p.Rules[a]).Func) ((p.Rules[a]).Calls[b]).Func) (by first|simp [ht1];done|rfl) ?_|refine J02 (J48 (Jfv p (p.Rules[a]).Func) ((p.Rules[a]).Calls[b]).Func) (by first|simp [ht1];done|rfl) ?_
 rintro r rfl
 simp [hin]
def lvB (l:List DLin):DBounds:=⟨1,l⟩
def J68 (p:DProgram) (n:Nat) (e:DEdge) (k:Int):Bool:=if Jao p e then inR k 1 n else decide (k=0)
def Jcb (p:DProgram) (x:DRanking):Bool:=J2e p&&decide (x.Levels.length≤3)&&decide (x.Edges.length=(J0f p).length)&&(x.Levels.all (J80 p.Functions)&&((J0f p).zip x.Edges).all fun y=>J68 p x.Levels.length y.1 y.2)
def obD (p:DProgram) (md:DModel) (e:DEdge) (l:List DLin) (k:Int):Option DObligation:=(J97 md (J4g p (lvB l) (Jf3 p e)) e.Call (J4g p (lvB l) (toE p e)) k).map fun t=>⟨md.System,t⟩
def obC (p:DProgram) (md:DModel) (e:DEdge) (l:List DLin):Option DObligation:=(J0w (J4g p (lvB l) (Jf3 p e)) md.Params md.System.N).map fun t=>⟨md.System,t⟩
def rk1 (p:DProgram) (md:DModel) (e:DEdge) (Ls:List (List DLin)) (n:Int) (i:Nat):List (Option DObligation):=
 if (i:Int)+1=n then [obD p md e (Ls.getD i []) 1,obC p md e (Ls.getD i [])] else [obD p md e (Ls.getD i []) 0]
def rkE (p:DProgram) (Ls:List (List DLin)) (e:DEdge) (n:Int):List (Option DObligation):=(List.range n.toNat).flatMap (rk1 p (Jc9 p e) e Ls n)
def Jat (p:DProgram) (x:DRanking):List (Option DObligation):=((J0f p).zip x.Edges).flatMap fun y=>rkE p x.Levels y.1 y.2
def J4x (p:DProgram) (x:DRanking):Option (List DObligation):=if Jcb p x then goO [] (Jat p x) else Option.none
theorem Je9:∀ {l:List (Option DObligation)}{acc:List DObligation},goO acc l=(goO [] l).map (acc ++ ·)
 | [],acc=>by simp [goO]
 | Option.none::_,_=>by simp [goO]
 | some x::l,acc=>by
  simp only [goO,List.nil_append]
  rw [Je9 (acc:=acc++[x]),Je9 (acc:=[x])]
  cases goO [] l <;> simp
theorem Jy1 {l1 l2:List (Option DObligation)}{acc:List DObligation} : goO acc (l1++l2)=(goO acc l1).bind fun a=>goO a l2:=by
 induction l1 generalizing acc with
 | nil=>simp [goO]
 | cons o l1 ih=>cases o <;> simp [goO,ih]
theorem Jhi {p:DProgram}{x:DRanking}(h:Jcb p x=true):J2e p=true∧x.Levels.length≤3∧x.Edges.length=(J0f p).length∧(∀ l∈x.Levels,J80 p.Functions l=true)∧∀ y∈(J0f p).zip x.Edges,J68 p x.Levels.length y.1 y.2=true:=by
 unfold Jcb at h
 simp only [Bool.and_eq_true,decide_eq_true_eq,List.all_eq_true] at h
 exact ⟨h.1.1.1,h.1.1.2,h.1.2,h.2.1,h.2.2⟩
theorem Jty {p:DProgram}{m:Nat}{e:DEdge}{k:Int}(h:J68 p m e k=true):0≤k∧k≤m:=by
 unfold J68 at h
 split at h
 ·simp [inR] at h;omega
 ·simp at h;omega
theorem Jxj {p:DProgram}{md:DModel}{e:DEdge}{Ls:List (List DLin)}{n:Int}{i:Nat} : (rk1 p md e Ls n i).length≤2:=by unfold rk1;split <;> simp
theorem Jvr {p:DProgram}{Ls:List (List DLin)}{e:DEdge}{n:Int} : (rkE p Ls e n).length≤2*n.toNat:=by
 have key:∀ l:List Nat,(l.flatMap (rk1 p (Jc9 p e) e Ls n)).length≤2*l.length:=by
  intro l
  induction l with
  | nil=>simp
  | cons i l ih=>
   have:=Jxj (p:=p) (md:=Jc9 p e) (e:=e) (Ls:=Ls) (n:=n) (i:=i)
   simp only [List.flatMap_cons,List.length_append,List.length_cons];omega
 have:=key (List.range n.toNat)
 unfold rkE;simpa using this
theorem Jko {p:DProgram}{x:DRanking}(h:Jcb p x=true):(Jat p x).length≤96:=by
 obtain ⟨hpo,h1,h2,h3,h4⟩:=Jhi h
 have key:∀ l:List (DEdge×Int),(∀ y∈l,J68 p x.Levels.length y.1 y.2=true)→(l.flatMap fun y=>rkE p x.Levels y.1 y.2).length≤6*l.length:=by
  intro l
  induction l with
  | nil=>simp
  | cons y l ih=>
   intro hl
   have g1:=ih fun z hz=>hl z (List.mem_cons_of_mem _ hz)
   have g2:=Jty (hl y List.mem_cons_self)
   have g3:=Jvr (p:=p) (Ls:=x.Levels) (e:=y.1) (n:=y.2)
   simp only [List.flatMap_cons,List.length_append,List.length_cons];omega
 have:=key _ h4
 have h5:=Jaz (p:=p)
 have h6:((J0f p).zip x.Edges).length≤16:=by simp;omega
 unfold Jat;omega
theorem Jgk (p:DProgram) (x:DRanking):((J4x p x).getD []).length≤96:=by
 cases h:J4x p x with
 | none=>simp
 | some o=>
  unfold J4x at h
  split at h
  case isFalse=>cases h
  rename_i hB
  have h1:=Jox h
  have h2:=Jko hB
  simp at h1 ⊢;omega
theorem Jha {p:DProgram}{e:DEdge}(h:e∈J0f p):J2e p=true∧∃ i k:Nat,∃ hi:i<p.Rules.length,k<(p.Rules[i]).Calls.length∧e=⟨(i:Int),(k:Int)⟩:=by
 unfold J0f at h
 split at h
 ·exact ⟨by assumption,J9j h⟩
 ·cases h
def a127:AFn:= ⟨39,[(.c 10 true 2),.t 11],(.seq (.reg [Zo 5 (.boxv (.t 0)),Zo 6 (.boxv (.t 1)),Zo 7 (.boxv (.t 2)),Zo 10 (.box [(.int .i64 0),(.nil 1)]),Zo 11 (.mv (.k (.bool false)))]) (.seq (.reg [Zl 15 true 2 5,Zl 16 true 2 7,Zc 17 152 [.t 15,.t 16],Zv 14 17,Zo 18 (.ext (.t 14) 0),Zo 19 (.ext (.t 14) 1),Zv 12 18,Zv 13 19]) (.seq (.draw (.op (Zl 20 true 6 6) (.op (Zv 21 3) (.op (Zl 22 true 2 5) (.op (Zv 23 12) (.op (Zf 27 1 7) (.op (Zl 28 false 1 27) (.op (Zv 29 3) (.op (Zl 30 true 2 5) (.op (Zv 31 13) (.op (Zv 35 4) (.op (Zc 24 84 [.t 22,.t 23]) (.op (Zo 25 (.ixa 2 (.t 21) (.t 24))) (.op (Zl 26 true 2 25) (.op (Zc 32 84 [.t 30,.t 31]) (.op (Zo 33 (.ixa 2 (.t 29) (.t 32))) (.op (Zl 34 true 2 33) (.op (Zc 36 208 [.t 20,.t 26,.t 28,.t 34,.t 35]) (.op (Zo 37 (.ext (.t 36) 0)) (.op (Zo 38 (.ext (.t 36) 1)) (.hop ⟨no,.st 2 (.t 10) (.t 37),no⟩ [] (.op (Zv 11 38) .fin)))))))))))))))))))))) .ret)))⟩
theorem a127_ok:J09 Tryz.prog Tryz.f127=some a127:=by kernel_rfl
def a129:AFn:= ⟨32,[(.c 8 true 2),.t 9],(.seq (.reg [Zo 4 (.boxv (.t 0)),Zo 5 (.boxv (.t 1)),Zo 6 (.boxv (.t 2)),Zo 8 (.box [(.int .i64 0),(.nil 1)]),Zo 9 (.mv (.k (.bool false)))]) (.seq (.reg [Zl 13 true 2 4,Zl 14 true 2 6,Zc 15 152 [.t 13,.t 14],Zv 12 15,Zo 16 (.ext (.t 12) 0),Zo 17 (.ext (.t 12) 1),Zv 10 16,Zv 11 17]) (.seq (.draw (.op (Zv 18 3) (.op (Zl 19 true 2 4) (.op (Zv 20 10) (.op (Zf 24 2 5) (.op (Zl 25 false 1 24) (.op (Zf 26 0 5) (.op (Zf 27 0 26) (.op (Zl 28 false 1 27) (.op (Zc 21 84 [.t 19,.t 20]) (.op (Zo 22 (.ixa 2 (.t 18) (.t 21))) (.op (Zl 23 true 2 22) (.op (Zc 29 191 [.t 23,.t 25,.t 28]) (.op (Zo 30 (.ext (.t 29) 0)) (.op (Zo 31 (.ext (.t 29) 1)) (.hop ⟨no,.st 2 (.t 8) (.t 30),no⟩ [] (.op (Zv 9 31) .fin))))))))))))))))) .ret)))⟩
theorem a129_ok:J09 Tryz.prog Tryz.f129=some a129:=by kernel_rfl
theorem Jod {p:DProgram}{lv:List DLin}{name:Str}(hl:lv.length=p.Functions.length) (hf:(J18 p.Functions name).isSome=true):∃ j:Nat,∃ hj:j<lv.length,J0v (fun f=>f.Name==name) p.Functions 0=(j:Int)∧J4g p (lvB lv) name=lv[j]:=by
 obtain ⟨j,hj,hji⟩:=Juo hf
 have hjl:j<lv.length:=by omega
 exact ⟨j,hjl,hji,by unfold J4g lvB;rw [hji];simp [hjl]⟩
theorem Jdc (p:DProgram) (md:DModel) {i k:Nat}(hi:i<p.Rules.length) (hk:k<(p.Rules[i]).Calls.length) (lv:List DLin) (hl:lv.length=p.Functions.length) (hf:(J18 p.Functions (p.Rules[i]).Func).isSome=true) (hg:(J18 p.Functions ((p.Rules[i]).Calls[k]).Func).isSome=true) (K:Int) :
 Holds Tryz.prog 127 [.agg (J00 p),.agg (J0m md),.agg (J0o ⟨i,k⟩),.sl 2 (lv.map J05),i64 K] (fun r=>r=J0s (J97 md (J4g p (lvB lv) (p.Rules[i]).Func) k (J4g p (lvB lv) ((p.Rules[i]).Calls[k]).Func) K)):=by
 obtain ⟨j1,h1,g1,e1⟩:=Jod hl hf
 obtain ⟨j2,h2,g2,e2⟩:=Jod hl hg
 rw [e1,e2]
 refine J03 Tryz.func127 a127_ok rfl (by simp [a127]) ?_
 simp [a127,J00,J0m,J0o]
 first|refine J01 (Ja9 p hi hk) (by first|simp [J00,J0o];done|rfl) ?_|refine J02 (Ja9 p hi hk) (by first|simp [J00,J0o];done|rfl) ?_
 rintro r rfl
 simp
 first|refine J01 (J2o p (p.Rules[i]).Func) (by first|simp [J00];done|rfl) ?_|refine J02 (J2o p (p.Rules[i]).Func) (by first|simp [J00];done|rfl) ?_
 rintro r rfl
 rw [g1]
 simp [h1]
 first|refine J01 (J2o p ((p.Rules[i]).Calls[k]).Func) (by first|simp [J00];done|rfl) ?_|refine J02 (J2o p ((p.Rules[i]).Calls[k]).Func) (by first|simp [J00];done|rfl) ?_
 rintro r rfl
 rw [g2]
 simp [h2,J05]
 first|refine J01 (Jcy md (lv[j1]'h1) k (lv[j2]'h2) K) (by first|simp [J0m,J05];done|rfl) ?_|refine J02 (Jcy md (lv[j1]'h1) k (lv[j2]'h2) K) (by first|simp [J0m,J05];done|rfl) ?_
 rintro r rfl
 rw [J0r]
 generalize J97 md (lv[j1]'h1) k (lv[j2]'h2) K=T
 simp [J07]
theorem Jpv (p:DProgram) (md:DModel) {i k:Nat}(hi:i<p.Rules.length) (hk:k<(p.Rules[i]).Calls.length) (lv:List DLin) (hl:lv.length=p.Functions.length) (hf:(J18 p.Functions (p.Rules[i]).Func).isSome=true) :
 Holds Tryz.prog 129 [.agg (J00 p),.agg (J0m md),.agg (J0o ⟨i,k⟩),.sl 2 (lv.map J05)] (fun r=>r=J0s (J0w (J4g p (lvB lv) (p.Rules[i]).Func) md.Params md.System.N)):=by
 obtain ⟨j1,h1,g1,e1⟩:=Jod hl hf
 rw [e1]
 refine J03 Tryz.func129 a129_ok rfl (by simp [a129]) ?_
 simp [a129,J00,J0m,J0o]
 first|refine J01 (Ja9 p hi hk) (by first|simp [J00,J0o];done|rfl) ?_|refine J02 (Ja9 p hi hk) (by first|simp [J00,J0o];done|rfl) ?_
 rintro r rfl
 simp
 first|refine J01 (J2o p (p.Rules[i]).Func) (by first|simp [J00];done|rfl) ?_|refine J02 (J2o p (p.Rules[i]).Func) (by first|simp [J00];done|rfl) ?_
 rintro r rfl
 rw [g1]
 simp [h1,J05]
 first|refine J01 (J38 (lv[j1]'h1) md.Params md.System.N) (by first|simp [J05];done|rfl) ?_|refine J02 (J38 (lv[j1]'h1) md.Params md.System.N) (by first|simp [J05];done|rfl) ?_
 rintro r rfl
 rw [J0r]
 generalize J0w (lv[j1]'h1) md.Params md.System.N=T
 simp [J07]
end Go.Proofs.YtoclolkigjbcgaaGreat

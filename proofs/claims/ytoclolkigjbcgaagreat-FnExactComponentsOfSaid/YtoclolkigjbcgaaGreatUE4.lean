/- Contracts: ReachableFrom of the reference. -/
import Derived.Test.YtoclolkigjbcgaaGreatUV8
import Derived.Test.YtoclolkigjbcgaaGreatUC13
import Derived.Test.YtoclolkigjbcgaaGreatUT1
import Derived.Test.YtoclolkigjbcgaaGreatProg
import Derived.Test.YtoclolkigjbcgaaGreatUM1
import Derived.Test.YtoclolkigjbcgaaGreatUR44
import Derived.Test.YtoclolkigjbcgaaGreatUV4
namespace Go.Proofs.YtoclolkigjbcgaaGreat
set_option maxRecDepth 40000
set_option maxHeartbeats 4000000
open Go Go.RowKit Go.Proofs
set_option linter.all false
def a60:AFn:= ⟨23,[.t 2],(.seq (.reg [Zo 1 (.boxv (.t 0)),Zo 2 (.mv (.k (.nil 1)))]) (.seq (.reg [Zo 5 (.bsl 1 []),Zv 3 5]) (.seq (.seq (.reg [Zo 4 (.mv (.k (.int .i64 0)))]) (.blk 0 (.loop (.seq (.seq (.reg [Zv 6 4,Zf 7 0 1,Zl 8 false 1 7,Zo 9 (.len false (.t 8)),Zo 10 (.bin .lss (.t 6) (.t 9))]) (.cond (.t 10) .skip (.exit 0))) (.seq (.blk 1 (.reg [Zv 13 3,Zf 14 0 1,Zl 15 false 1 14,Zv 16 4,Zo 17 (.ixa 4 (.t 15) (.t 16)),Zf 18 0 17,Zl 19 false 1 18,Zo 20 (.bsl 1 [.t 19]),Zo 21 (.app 16 1 (.t 13) (.t 20)),Zv 3 21])) (.reg [Zv 11 4,Zo 12 (.bin .add (.t 11) (.k (.int .i64 1))),Zv 4 12])))))) (.seq (.reg [Zv 22 3,Zv 2 22]) .ret))))⟩
theorem a60_ok:J08 Tryz.prog Tryz.f60=some a60:=by kernel_rfl
def a136:AFn:= ⟨93,[.t 4],(.seq (.reg [Zo 2 (.boxv (.t 0)),Zo 4 (.mv (.k (.nil 1)))]) (.seq (.reg [Zl 12 true 2 2,Zc 13 60 [.t 12],Zv 5 13]) (.seq (.reg [Zl 14 true 2 2,Zc 15 122 [.t 14],Zv 6 15]) (.seq (.reg [Zo 16 (.bsl 1 []),Zv 7 16]) (.seq (.seq (.reg [Zl 17 true 2 2,Zc 18 61 [.t 17],Zo 19 (.un .not (.t 18)),Zv 20 19,⟨some 21,.mv (.t 5),(some (20,false))⟩,⟨some 22,.mv (.t 1),(some (20,false))⟩,⟨some 23,.call (.k (.fn (.func 63) [] [])) [.t 21,.t 22],(some (20,false))⟩,⟨some 24,.bin .lss (.t 23) (.k (.int .i64 0)),(some (20,false))⟩,Zo 25 (.pick (.t 20) (.k (.bool true)) (.t 24))]) (.cond (.t 25) (.seq (.reg [Zv 26 7,Zv 4 26]) .ret) .skip)) (.seq (.reg [Zv 27 1,Zo 28 (.bsl 1 [.t 27]),Zv 8 28]) (.seq (.seq (.reg [Zo 9 (.mv (.k (.int .i64 0)))]) (.blk 0 (.loop (.seq (.seq (.reg [Zv 29 9,Zv 30 8,Zo 31 (.len false (.t 30)),Zo 32 (.bin .lss (.t 29) (.t 31))]) (.cond (.t 32) .skip (.exit 0))) (.seq (.blk 1 (.seq (.reg [Zo 10 (.mv (.k (.int .i64 0)))]) (.blk 2 (.loop (.seq (.seq (.reg [Zv 35 10,Zv 36 6,Zo 37 (.len false (.t 36)),Zo 38 (.bin .lss (.t 35) (.t 37))]) (.cond (.t 38) .skip (.exit 2))) (.seq (.blk 3 (.seq (.draw (.op (Zl 41 true 2 2) (.op (Zv 42 6) (.op (Zv 43 10) (.op (Zo 44 (.ixa 2 (.t 42) (.t 43))) (.op (Zl 45 true 2 44) (.op (Zv 47 8) (.op (Zv 48 9) (.op (Zo 49 (.ixa 1 (.t 47) (.t 48))) (.op (Zl 50 false 1 49) (.op (Zc 46 199 [.t 41,.t 45]) (.op (Zo 51 (.bin .eql (.t 46) (.t 50))) (.op (Zv 52 51) (.op ⟨some 53,.mv (.t 8),(some (52,true))⟩ (.op ⟨some 54,.ld true 2 (.t 2),(some (52,true))⟩ (.op ⟨some 55,.mv (.t 6),(some (52,true))⟩ (.op ⟨some 56,.mv (.t 10),(some (52,true))⟩ (.op ⟨some 57,.ixa 2 (.t 55) (.t 56),(some (52,true))⟩ (.op ⟨some 58,.ld true 2 (.t 57),(some (52,true))⟩ (.op ⟨some 59,.call (.k (.fn (.func 173) [] [])) [.t 54,.t 58],(some (52,true))⟩ (.op ⟨some 60,.call (.k (.fn (.func 63) [] [])) [.t 53,.t 59],(some (52,true))⟩ (.op ⟨some 61,.bin .lss (.t 60) (.k (.int .i64 0)),(some (52,true))⟩ (.op (Zo 62 (.pick (.t 52) (.t 61) (.k (.bool false)))) .fin))))))))))))))))))))))) (.cond (.t 62) (.draw (.op (Zv 63 8) (.op (Zl 64 true 2 2) (.op (Zv 65 6) (.op (Zv 66 10) (.op (Zo 67 (.ixa 2 (.t 65) (.t 66))) (.op (Zl 68 true 2 67) (.op (Zc 69 173 [.t 64,.t 68]) (.hop (Zo 70 (.bsl 1 [.t 69])) [] (.hop (Zo 71 (.app 16 1 (.t 63) (.t 70))) [] (.hop (Zv 8 71) [] .fin))))))))))) .skip))) (.reg [Zv 39 10,Zo 40 (.bin .add (.t 39) (.k (.int .i64 1))),Zv 10 40]))))))) (.reg [Zv 33 9,Zo 34 (.bin .add (.t 33) (.k (.int .i64 1))),Zv 9 34])))))) (.seq (.seq (.reg [Zo 11 (.mv (.k (.int .i64 0)))]) (.blk 4 (.loop (.seq (.seq (.reg [Zv 72 11,Zv 73 5,Zo 74 (.len false (.t 73)),Zo 75 (.bin .lss (.t 72) (.t 74))]) (.cond (.t 75) .skip (.exit 4))) (.seq (.blk 5 (.seq (.reg [Zv 78 8,Zv 79 5,Zv 80 11,Zo 81 (.ixa 1 (.t 79) (.t 80)),Zl 82 false 1 81,Zc 83 63 [.t 78,.t 82],Zo 84 (.bin .geq (.t 83) (.k (.int .i64 0)))]) (.cond (.t 84) (.reg [Zv 85 7,Zv 86 5,Zv 87 11,Zo 88 (.ixa 1 (.t 86) (.t 87)),Zl 89 false 1 88,Zo 90 (.bsl 1 [.t 89]),Zo 91 (.app 16 1 (.t 85) (.t 90)),Zv 7 91]) .skip))) (.reg [Zv 76 11,Zo 77 (.bin .add (.t 76) (.k (.int .i64 1))),Zv 11 77])))))) (.seq (.reg [Zv 92 7,Zv 4 92]) .ret)))))))))⟩
theorem a136_ok:J08 Tryz.prog Tryz.f136=some a136:=by kernel_rfl
def Jai (E:List (Str×Str)) (N:List Str) (a:Str) (M:List Str) (i:Nat):Prop:=
 M.Nodup∧(∀ x∈M,x∈N∧RT E a x)∧a∈M∧i≤M.length∧∀ x∈M.take i,∀ y,(x,y)∈E→y∈M
theorem Jai.len {E:List (Str×Str)}{N:List Str}{a:Str}{M:List Str}{i:Nat}(h:Jai E N a M i):M.length≤N.length:=J8n h.1 fun x hx=>(h.2.1 x hx).1
theorem Jai.add {E:List (Str×Str)}{N:List Str}{a c y:Str}{M:List Str}{i:Nat}(h:Jai E N a M i) (hc:c∈M) (hy:(c,y)∈E) (hyN:y∈N) (hyM:y∉M):Jai E N a (M++[y]) i:=by
 obtain ⟨h1,h2,h3,h4,h5⟩:=h
 refine ⟨?_,?_,List.mem_append_left _ h3,by simp;omega,?_⟩
 ·rw [List.nodup_append]
  exact ⟨h1,by simp,fun x hx z hz hxz=>hyM (by rw [←List.mem_singleton.1 hz,←hxz];exact hx)⟩
 ·intro x hx
  rcases List.mem_append.1 hx with hx|hx
  ·exact h2 x hx
  ·rw [List.mem_singleton.1 hx];exact ⟨hyN,(h2 c hc).2.step hy⟩
 ·intro x hx z hz
  rw [List.take_append_of_le_length h4] at hx
  exact List.mem_append_left _ (h5 x hx z hz)
theorem Jai.next {E:List (Str×Str)}{N:List Str}{a c:Str}{M:List Str}{i:Nat}(h:Jai E N a M i) (hc:M[i]? = some c) (hE:∀ e∈E,e.1=c→e.2∈M):Jai E N a M (i+1):=by
 obtain ⟨h1,h2,h3,h4,h5⟩:=h
 obtain ⟨hi,hci⟩:=List.getElem?_eq_some_iff.1 hc
 refine ⟨h1,h2,h3,hi,?_⟩
 intro x hx y hy
 rw [List.take_succ_eq_append_getElem hi,hci] at hx
 rcases List.mem_append.1 hx with hx|hx
 ·exact h5 x hx y hy
 ·rw [List.mem_singleton.1 hx] at hy
  exact hE _ hy rfl
theorem Jai.done {E:List (Str×Str)}{N:List Str}{a:Str}{M:List Str}(h:Jai E N a M M.length) (x:Str):x∈M↔RT E a x:=by
 obtain ⟨h1,h2,h3,h4,h5⟩:=h
 rw [List.take_length] at h5
 exact ⟨fun hx=>(h2 x hx).2,fun hx=>hx.closed (S:=fun z=>z∈M) h3 fun u v huv hu=>h5 u hu v huv⟩
theorem Jov (l:List Str) (s:Str):decide (J0p (fun x=>x==s) l 0<0) = !J1a l s:=by
 rw [←Jb6 l s]
 by_cases h:J0p (fun x=>x==s) l 0<0
 ·have h3:¬(0≤J0p (fun x=>x==s) l 0):=by omega
  simp [h,h3]
 ·have h3:0≤J0p (fun x=>x==s) l 0:=by omega
  simp [h,h3]
theorem J9l {p:DProgram}{j:Nat}(hj:j<(J26 p).length):((J26 p).take (j+1)).map (Jcf p)=((J26 p).take j).map (Jcf p)++[Jcf p (J26 p)[j]]:=by
 rw [List.take_succ_eq_append_getElem hj,List.map_append];rfl
theorem J6m (p:DProgram) (hp:J0d p≤1048576):Holds Tryz.prog 60 [.agg (J00 p)] (fun x=>x = .us 1 (J05 (J07 p))):=by
 have hfl:p.Functions.length≤1048576:=by have:=J1h J0j p.Functions;unfold J0d J17 at hp;omega
 refine J01 Tryz.func60 a60_ok rfl (by simp [a60]) ?_
 simp [a60,J00]
 generalize hT:J07 p=T
 have hTl:T.length=p.Functions.length:=by rw [←hT];simp [J07]
 refine J0h [1] 4 p.Functions.length (fun i s h n=>h 0=some ⟨true,2,[J00 p]⟩∧∃ (acc:List Str) (id:Nat),acc++T.drop i=T∧0<id∧id<n∧s 3 = .ref id 0 acc.length∧h id=some ⟨false,1,J05 acc⟩) (by unfold LIM;omega) (by simp) ⟨by simp [J00],[],1,by simp,by simp,by simp,by simp,by simp [J05]⟩ ?_ ?_
 ·rintro i st h n R hi hg hk s4 hw ⟨e0,acc,id,hJ,hid0,hid,s3,eid⟩ hR hret _
  simp at hk
  have hin:i<T.length:=by omega
  have hni:T[i]=(p.Functions[i]).Name:=by subst hT;simp [J07]
  rw [List.drop_eq_getElem_cons hin,hni] at hJ
  have hal:=congrArg List.length hJ
  simp only [List.length_append,List.length_cons] at hal
  have z0:¬id=n:=by omega
  have z1:¬id=n+1:=by omega
  have z2:¬n+1=id:=by omega
  have z3:¬n=id:=by omega
  have z4:¬0=id:=by omega
  have z5:¬0=n:=by omega
  have z6:¬n=0:=by omega
  have z7:¬id=0:=by omega
  simp [hk,s4,hi,e0,J00,J04,s3,eid,z0,z1,z2,z3,z4,z5,z6,z7,hw]
  intro _
  refine ⟨by unfold LIM;omega,?_⟩
  exact hR _ _ _ (by simp [hk]) (by simp) ⟨by simp [e0,z0,z1,z2,z3,z4,z5,z6,z7,J00],acc++[(p.Functions[i]).Name],n+1,by simpa using hJ,by omega,by omega,by simp,by simp [J05,List.take_of_length_le]⟩
 rintro st h n R hk s4 ⟨e0,acc,id,hJ,hid0,hid,s3,eid⟩ hret hX
 simp at hk
 rw [List.drop_eq_nil_of_le (by omega),List.append_nil] at hJ
 subst hJ
 simp [hk,s4,e0,J00]
 intro _
 refine hX _ _ _ _ ?_
 simp [s3,eid]
theorem J2d (p:DProgram) (hp:J0d p≤1048576) (name:Str):Holds Tryz.prog 136 [.agg (J00 p),.str name] (fun x=>x = .us 1 (J05 (J0q p name))):=by
 have hel:=Jgz p hp
 have hNl:(J07 p).length=p.Functions.length:=by simp [J07]
 refine J01 Tryz.func136 a136_ok rfl (by simp [a136]) ?_
 simp [a136,J00]
 first|refine J02 (J6m p hp) (by first|simp [J00];done|rfl) ?_|refine J03 (J6m p hp) (by first|simp [J00];done|rfl) ?_
 rintro r rfl
 simp
 first|refine J02 (Jcq p hp) (by first|simp [J00];done|rfl) ?_|refine J03 (Jcq p hp) (by first|simp [J00];done|rfl) ?_
 rintro r rfl
 simp
 first|refine J02 (J11 p hp) (by first|simp [J00];done|rfl) ?_|refine J03 (J11 p hp) (by first|simp [J00];done|rfl) ?_
 rintro r rfl
 unfold J0q
 cases h1:J3q p
 ·simp [J05]
 simp
 have ht:List.take p.Functions.length (J05 (J07 p))=J05 (J07 p):=List.take_of_length_le (by simp [J05,J07])
 have ht':List.take (J07 p).length (J05 (J07 p))=J05 (J07 p):=List.take_of_length_le (by simp [J05])
 first|refine J02 (J1n (J07 p) name) (by first|simp [ht,ht',hNl];done|rfl) ?_|refine J03 (J1n (J07 p) name) (by first|simp [ht,ht',hNl];done|rfl) ?_
 rintro r rfl
 have g1:=Jb6 (J07 p) name
 cases h2:J1a (J07 p) name
 ·rw [h2] at g1
  simp at g1
  simp [g1,J05]
 rw [h2] at g1
 simp at g1
 have g2:¬J0p (fun x=>x==name) (J07 p) 0<0:=by omega
 simp [g1,g2]
 obtain ⟨f1,f2,f3,f4⟩:=J46 h1
 have hEE:J0i p=(J26 p).map (Jcf p):=by rw [Jd1];unfold J26;rw [h1];rfl
 have hE2:∀ e∈J0i p,e.2∈J07 p:=fun e he=>(f2 e he).2
 have hnm:name∈J07 p:=J1m.1 h2
 generalize hRN:J21 (J0i p) (J07 p) name=T
 refine J77 (fun m s h n=>3<n∧s 2 = .ptr 0 0 0∧s 5 = .ref 1 0 (J07 p).length∧s 6 = .ref 2 0 (J26 p).length∧s 7 = .ref 3 0 0∧h 0=some ⟨true,2,[J00 p]⟩∧h 1=some ⟨false,1,J05 (J07 p)⟩∧h 2=some ⟨false,2,(J26 p).map J2f⟩∧h 3=some ⟨false,1,[]⟩∧∃ (M:List Str) (i id:Nat),m=(J07 p).length - i∧Jai (J0i p) (J07 p) name M i∧s 9 = .int .i64 i∧3<id∧id<n∧s 8 = .ref id 0 M.length∧h id=some ⟨false,1,J05 M⟩) ((J07 p).length) ?_ ?_
 ·refine ⟨by simp,by simp,by simp,by simp,by simp,by simp [J00],by simp,by simp,by simp,[name],0,4,by simp,?_,by simp,by simp,by simp,by simp,by simp [J05]⟩
  exact ⟨by simp,fun x hx=>by rw [List.mem_singleton.1 hx];exact ⟨hnm,.refl _⟩,by simp,by simp,by simp⟩
 rintro m st h n R ⟨hn,s2,s5,s6,s7,e0,e1,e2,e3,M,i,id,rfl,hS,s9,hid3,hid,s8,eid⟩ hR hret hX
 have hMl:=hS.len
 by_cases hi:i<M.length
 ·refine J0c (J0e [2,5,6,7,8,9] (fun s=>s 32 = .bool true) (by simp [s9,s8,eid,hi]) ?_)
  intro st1 hk1 s32
  simp at hk1
  refine J2i s32 (J0c (J1d ?_))
  simp
  have hw0:IntKind.i64.wrap ((i:Int)+1)=(i:Int)+1:=J0w (by omega)
  refine J0h [2,5,6,7,9] 10 (J26 p).length (fun j s h' n'=>3<n'∧h' 0=some ⟨true,2,[J00 p]⟩∧h' 1=some ⟨false,1,J05 (J07 p)⟩∧h' 2=some ⟨false,2,(J26 p).map J2f⟩∧h' 3=some ⟨false,1,[]⟩∧∃ (X:List Str) (id':Nat),Jai (J0i p) (J07 p) name X i∧X[i]? = some M[i]∧(∀ e∈((J26 p).take j).map (Jcf p),e.1=M[i]→e.2∈X)∧3<id'∧id'<n'∧s 8 = .ref id' 0 X.length∧h' id'=some ⟨false,1,J05 X⟩) (by unfold LIM;omega) (by simp) ⟨hn,e0,e1,e2,e3,M,id,hS,List.getElem?_eq_getElem hi,by simp,hid3,hid,by simp [hk1,s8],eid⟩ ?_ ?_
  ·rintro j st2 h2 n2 R2 hj hjg hk2 s10 hw ⟨hn2,b0,b1,b2,b3,X,id',hSX,hXi,hXE,hid3',hid',s8',eid'⟩ hR2 hret2 _
   simp at hk2
   obtain ⟨a,b,ha,hb,he,hf,ht0⟩:=Jij hj
   obtain ⟨hiX,hXv⟩:=List.getElem?_eq_some_iff.1 hXi
   have hpe:Jcf p (J26 p)[j]=((p.Rules[a]).Func,((p.Rules[a]).Calls[b]).Func):=by rw [he];unfold Jcf;rw [hf,ht0]
   have hpm:((p.Rules[a]).Func,((p.Rules[a]).Calls[b]).Func)∈J0i p:=by rw [hEE];exact List.mem_map.2 ⟨_,List.getElem_mem hj,hpe⟩
   have htX:List.take X.length (J05 X)=J05 X:=List.take_of_length_le (by simp [J05])
   refine J0c (J0e [2,5,6,7,8,9,10] (fun s=>s 38 = .bool true) (by simp [hk2,hk1,s6,s10,hj,b2]) ?_)
   intro st3 hk3 s38
   simp at hk3
   refine J2i s38 (J0c (J1d ?_))
   refine J0e [2,5,6,7,8,9,10] (fun s=>s 62 = .bool (decide ((p.Rules[a]).Func=M[i]) && !J1a X ((p.Rules[a]).Calls[b]).Func)) ?_ ?_
   ·simp [hk3,hk2,hk1,s2,s6,s10,s9,s8',hj,b2,b0,eid',hiX,hXv,he,J2f,J00]
    first|refine J02 (Jd0 p ha (k:=b)) (by first|simp [J00,J3r];done|rfl) ?_|refine J03 (Jd0 p ha (k:=b)) (by first|simp [J00,J3r];done|rfl) ?_
    rintro r rfl
    by_cases c1:(p.Rules[a]).Func=M[i]
    ·simp [c1,hk3,hk2,hk1,s2,s6,s10,s9,s8',hj,b2,b0,eid',hiX,hXv,he,J2f,J00]
     first|refine J02 (Jaz p ha hb) (by first|simp [J00,J3r];done|rfl) ?_|refine J03 (Jaz p ha hb) (by first|simp [J00,J3r];done|rfl) ?_
     rintro r rfl
     simp [hk3,hk2,hk1,s8']
     first|refine J02 (J1n X ((p.Rules[a]).Calls[b]).Func) (by first|simp [htX,eid'];done|rfl) ?_|refine J03 (J1n X ((p.Rules[a]).Calls[b]).Func) (by first|simp [htX,eid'];done|rfl) ?_
     rintro r rfl
     have g3:=Jov X ((p.Rules[a]).Calls[b]).Func
     simp [g3]
    ·simp [c1,hk3,hk2,hk1,s2,s6,s10,s9,s8',hj,b2,b0,eid',hiX,hXv,he,J2f,J00]
   intro st4 hk4 s62
   simp at hk4
   have z0:¬id'=n2:=by omega
   have z1:¬id'=n2+1:=by omega
   have z2:¬n2+1=id':=by omega
   have z3:¬n2=id':=by omega
   have q0:¬0=n2:=by omega
   have q1:¬1=n2:=by omega
   have q2:¬2=n2:=by omega
   have q3:¬3=n2:=by omega
   have q4:¬n2=0:=by omega
   have q5:¬n2=1:=by omega
   have q6:¬n2=2:=by omega
   have q7:¬n2=3:=by omega
   have r0:¬0=id':=by omega
   have r1:¬1=id':=by omega
   have r2:¬2=id':=by omega
   have r3:¬3=id':=by omega
   by_cases c1:(p.Rules[a]).Func=M[i]
   ·cases c2:J1a X ((p.Rules[a]).Calls[b]).Func
    ·rw [c2,decide_eq_true c1] at s62
     simp at s62
     have hXN:=hSX.len
     have hfl3:(J07 p).length≤3:=by omega
     simp [hk4,hk3,hk2,hk1,s62,s2,s6,s10,s8',hj,b2,b0,he,J2f,J00]
     first|refine J02 (Jaz p ha hb) (by first|simp [J00,J3r];done|rfl) ?_|refine J03 (Jaz p ha hb) (by first|simp [J00,J3r];done|rfl) ?_
     rintro r rfl
     simp [hk4,hk3,hk2,hk1,s8',eid',s10,hw,z0,z1,z2,z3]
     refine ⟨by unfold LIM;omega,?_⟩
     refine hR2 _ _ _ (by simp [hk4,hk3,hk2,hk1]) (by simp) ⟨by omega,by simp [b0,q0,q4,r0,J00],by simp [b1,q1,q5,r1,q4],by simp [b2,q2,q6,r2,q5],by simp [b3,q3,q7,r3,q6],X++[((p.Rules[a]).Calls[b]).Func],n2+1,hSX.add (c:=M[i]) (by rw [←hXv];exact List.getElem_mem hiX) (by rw [←c1];exact hpm) (hE2 _ hpm) (J98.1 c2),by rw [List.getElem?_append_left hiX];exact hXi,?_,by omega,by omega,by simp,by simp [J05,List.take_of_length_le]⟩
     intro e hm hc
     rw [J9l hj,hpe] at hm
     rcases List.mem_append.1 hm with hm|hm
     ·exact List.mem_append_left _ (hXE e hm hc)
     ·rw [List.mem_singleton.1 hm];simp
    ·rw [c2] at s62
     simp at s62
     simp [hk4,hk3,hk2,hk1,s62,s10,hw]
     refine hR2 _ _ _ (by simp [hk4,hk3,hk2,hk1]) (by simp) ⟨hn2,b0,b1,b2,b3,X,id',hSX,hXi,?_,hid3',hid',by simp [hk4,hk3,s8'],eid'⟩
     intro e hm hc
     rw [J9l hj,hpe] at hm
     rcases List.mem_append.1 hm with hm|hm
     ·exact hXE e hm hc
     ·rw [List.mem_singleton.1 hm];exact J1m.1 c2
   ·rw [decide_eq_false c1] at s62
    simp at s62
    simp [hk4,hk3,hk2,hk1,s62,s10,hw]
    refine hR2 _ _ _ (by simp [hk4,hk3,hk2,hk1]) (by simp) ⟨hn2,b0,b1,b2,b3,X,id',hSX,hXi,?_,hid3',hid',by simp [hk4,hk3,s8'],eid'⟩
    intro e hm hc
    rw [J9l hj,hpe] at hm
    rcases List.mem_append.1 hm with hm|hm
    ·exact hXE e hm hc
    ·rw [List.mem_singleton.1 hm] at hc;exact absurd hc c1
  rintro st2 h2 n2 R2 hk2 s10 ⟨hn2,b0,b1,b2,b3,X,id',hSX,hXi,hXE,hid3',hid',s8',eid'⟩ hret2 hX2
  simp at hk2
  rw [List.take_of_length_le (by omega),←hEE] at hXE
  refine J0c (J0e [2,5,6,7,8,9] (fun s=>s 38 = .bool false) (by simp [hk2,hk1,s6,s10,b2]) ?_)
  intro st3 hk3 s38
  simp at hk3
  refine J2g s38 ?_
  refine hX2 _ _ _ _ ?_
  simp [hk3,hk2,hk1,s9,hw0]
  exact hR ((J07 p).length - (i+1)) _ _ _ (by omega) ⟨hn2,by simp [hk3,hk2,hk1,s2],by simp [hk3,hk2,hk1,s5],by simp [hk3,hk2,hk1,s6],by simp [hk3,hk2,hk1,s7],b0,b1,b2,b3,X,i+1,id',rfl,hSX.next hXi hXE,by simp,hid3',hid',by simp [hk3,s8'],eid'⟩
 have hiM:i=M.length:=by have:=hS.2.2.2.1;omega
 subst hiM
 have hT:(J07 p).filter (J1a M)=T:=by rw [←hRN];exact Jkv hE2 hnm hS.done
 have hTn:T.length≤(J07 p).length:=by rw [←hT];exact List.length_filter_le _ _
 have hfl3:(J07 p).length≤3:=by omega
 refine J0c (J0e [5,7,8] (fun s=>s 32 = .bool false) (by simp [s9,s8,eid]) ?_)
 intro st1 hk1 s32
 simp at hk1
 refine J2g s32 ?_
 refine hX _ _ _ _ ?_
 simp
 have htM:List.take M.length (J05 M)=J05 M:=List.take_of_length_le (by simp [J05])
 refine J0h [5,8] 11 (J07 p).length (fun i s h' n'=>id<n'∧3<n'∧h' 1=some ⟨false,1,J05 (J07 p)⟩∧h' id=some ⟨false,1,J05 M⟩∧∃ (acc:List Str) (ic:Nat),acc++((J07 p).drop i).filter (J1a M)=T∧ic≠1∧ic≠id∧ic<n'∧s 7 = .ref ic 0 acc.length∧h' ic=some ⟨false,1,J05 acc⟩) (by unfold LIM;omega) (by simp) ⟨hid,hn,e1,eid,[],3,by simpa using hT,by simp,by omega,hn,by simp [hk1,s7],by simp [e3,J05]⟩ ?_ ?_
 ·rintro i st2 h2 n2 R2 hi hg hk2 s11 hw ⟨hn2,hn3,b1,bM,acc,ic,hJ,hc1,hcM,hic,s7',eic⟩ hR2 hret2 _
  simp at hk2
  rw [List.drop_eq_getElem_cons hi,List.filter_cons] at hJ
  refine J0c (J0e [5,7,8,11] (fun s=>s 75 = .bool true) (by simp [hk2,hk1,s5,s11,hi,b1]) ?_)
  intro st3 hk3 s75
  simp at hk3
  refine J2i s75 (J0c (J1d ?_))
  refine J0e [5,7,8,11] (fun s=>s 84 = .bool (J1a M (J07 p)[i])) ?_ ?_
  ·simp [hk3,hk2,hk1,s5,s8,s11,hi,b1]
   first|refine J02 (J1n M ((J07 p)[i]'hi)) (by first|simp [htM,bM];done|rfl) ?_|refine J03 (J1n M ((J07 p)[i]'hi)) (by first|simp [htM,bM];done|rfl) ?_
   rintro r rfl
   have g3:=Jb6 M (J07 p)[i]
   simp [g3]
  intro st4 hk4 s84
  simp at hk4
  have z0:¬ic=n2:=by omega
  have z1:¬ic=n2+1:=by omega
  have z2:¬n2+1=ic:=by omega
  have z3:¬n2=ic:=by omega
  have q1:¬1=n2:=by omega
  have q5:¬n2=1:=by omega
  have q4:¬n2=0:=by omega
  have r1:¬1=ic:=fun e=>hc1 e.symm
  have w0:¬id=n2:=by omega
  have w1:¬id=n2+1:=by omega
  have w2:¬id=ic:=fun e=>hcM e.symm
  cases c1:J1a M (J07 p)[i]
  ·rw [c1] at hJ s84
   simp only [Bool.false_eq_true,if_false] at hJ
   simp [hk4,hk3,hk2,hk1,s84,s11,hw]
   exact hR2 _ _ _ (by simp [hk4,hk3,hk2,hk1]) (by simp) ⟨hn2,hn3,b1,bM,acc,ic,hJ,hc1,hcM,hic,by simp [hk4,hk3,s7'],eic⟩
  rw [c1] at hJ s84
  simp only [if_true] at hJ
  have hal:=congrArg List.length hJ
  simp only [List.length_append,List.length_cons] at hal
  simp [hk4,hk3,hk2,hk1,s84,s11,hi,hw,s5,s7',eic,b1,z0,z1,z2,z3,q1,q5,q4,r1]
  refine ⟨by unfold LIM;omega,?_⟩
  exact hR2 _ _ _ (by simp [hk4,hk3,hk2,hk1]) (by simp) ⟨by omega,by omega,by simp [b1,q1,q5,r1,q4],by simp [bM,w0,w1,w2],acc++[(J07 p)[i]],n2+1,by simpa using hJ,by omega,by omega,by omega,by simp,by simp [J05,List.take_of_length_le]⟩
 rintro st2 h2 n2 R2 hk2 s11 ⟨hn2,hn3,b1,bM,acc,ic,hJ,hc1,hcM,hic,s7',eic⟩ hret2 hX2
 simp at hk2
 rw [List.drop_eq_nil_of_le (by omega)] at hJ
 simp at hJ
 subst hJ
 refine J0c (J0e [7] (fun s=>s 75 = .bool false) (by simp [hk2,hk1,s5,s11,b1]) ?_)
 intro st3 hk3 s75
 simp at hk3
 refine J2g s75 ?_
 refine hX2 _ _ _ _ ?_
 simp [hk3,s7',eic]
def a68:AFn:= ⟨27,[.t 4],(.seq (.reg [Zo 2 (.boxv (.t 0)),Zo 4 (.mv (.k (.nil 1)))]) (.seq (.reg [Zo 5 (.mv (.k (.nil 1)))]) (.seq (.seq (.reg [Zl 8 true 2 2,Zv 9 1,Zc 10 70 [.t 8,.t 9],Zo 11 (.len false (.t 10)),Zo 12 (.mv (.k (.int .i64 0)))]) (.blk 0 (.loop (.seq (.reg [Zo 13 (.bin .lss (.t 12) (.t 11))]) (.seq (.cond (.t 13) .skip (.exit 0)) (.seq (.blk 1 (.seq (.reg [Zo 14 (.ixa 1 (.t 10) (.t 12)),Zl 15 false 1 14,Zv 7 15]) (.seq (.reg [Zl 16 true 2 2,Zv 17 7,Zc 18 70 [.t 16,.t 17],Zv 19 1,Zc 20 72 [.t 18,.t 19]]) (.cond (.t 20) (.reg [Zv 21 5,Zv 22 7,Zo 23 (.bsl 1 [.t 22]),Zo 24 (.app 16 1 (.t 21) (.t 23)),Zv 5 24]) .skip)))) (.reg [Zo 25 (.bin .add (.t 12) (.k (.int .i64 1))),Zv 12 25]))))))) (.seq (.reg [Zv 26 5,Zv 4 26]) .ret))))⟩
theorem a68_ok:J08 Tryz.prog Tryz.f68=some a68:=by kernel_rfl
theorem J9p (p:DProgram) (name:Str) (hp:J0d p≤1048576):(J0q p name).length≤1048576:=by
 have hfl:p.Functions.length≤1048576:=by have:=J1h J0j p.Functions;unfold J0d J17 at hp;omega
 unfold J0q
 split
 ·have h2:(J21 (J0i p) (J07 p) name).length≤(J07 p).length:=List.length_filter_le _ _
  have h3:(J07 p).length=p.Functions.length:=by simp [J07]
  omega
 ·simp
def Jg4 (p:DProgram) (name g:Str):Bool:=J1a (J0q p g) name
theorem Jfl (p:DProgram) (name:Str):Jfr p name=(J0q p name).filter (Jg4 p name):=rfl
theorem Jec (p:DProgram) (hp:J0d p≤1048576) (name:Str):Holds Tryz.prog 68 [.agg (J00 p),.str name] (fun x=>x = .us 1 (J05 (Jfr p name))):=by
 have hrl:=J9p p name hp
 refine J01 Tryz.func68 a68_ok rfl (by simp [a68]) ?_
 simp [a68,J00]
 first|refine J02 (J39 p hp name) (by first|simp [J00];done|rfl) ?_|refine J03 (J39 p hp name) (by first|simp [J00];done|rfl) ?_
 rintro r rfl
 simp
 intro _
 rw [Jfl]
 generalize hT:(J0q p name).filter (Jg4 p name)=T
 have hTl:T.length≤1048576:=by rw [←hT];exact Nat.le_trans (List.length_filter_le _ _) hrl
 refine J0h [1,2,10,11] 12 (J0q p name).length (fun i s h n=>1<n∧h 0=some ⟨true,2,[J00 p]⟩∧h 1=some ⟨false,1,J05 (J0q p name)⟩∧∃ acc:List Str,acc++((J0q p name).drop i).filter (Jg4 p name)=T∧Jlf 1 1 (J05 acc) (s 5) h n) (by unfold LIM;omega) (by simp) ⟨by simp,by simp [J00],by simp,[],by simpa using hT,.inl (by simp [J05])⟩ ?_ ?_
 ·rintro i st h n R hi hg hk s12 hw ⟨hn,e0,e1,acc,hJ,hA⟩ hR hret _
  simp at hk
  rw [List.drop_eq_getElem_cons hi,List.filter_cons,Jg4] at hJ
  have z0:¬0=n:=by omega
  have z1:¬1=n:=by omega
  have z2:¬n=0:=by omega
  have z3:¬n=1:=by omega
  refine J0e [1,2,5,10,11,12] (fun s=>s 13 = .bool true) (by simp [hk,s12,hi]) ?_
  intro st1 hk1 s13
  simp at hk1
  refine J4m s13 (J0c (J1d ?_))
  refine J0e [1,2,5,10,11,12] (fun s=>s 7 = .str (J0q p name)[i]) (by simp [hk,hk1,s12,hi,e1]) ?_
  intro st2 hk2 s7
  simp at hk2
  generalize (J0q p name)[i]=g at *
  have ht:List.take (J0q p g).length (J05 (J0q p g))=J05 (J0q p g):=List.take_of_length_le (by simp [J05])
  refine J1q [1,2,5,7,10,11,12] (fun s h' n'=>n'=n+1∧s 20 = .bool (J1a (J0q p g) name)∧h' 0=some ⟨true,2,[J00 p]⟩∧h' 1=some ⟨false,1,J05 (J0q p name)⟩∧Jlf 1 1 (J05 acc) (st 5) h' n) ?_ ?_
  ·simp [hk2,hk1,hk,e0,s7,J00]
   first|refine J02 (J39 p hp g) (by first|simp [J00];done|rfl) ?_|refine J03 (J39 p hp g) (by first|simp [J00];done|rfl) ?_
   rintro r rfl
   simp [hk2,hk1,hk,s7]
   first|refine J02 (J30 (J0q p g) name) (by first|simp [ht];done|rfl) ?_|refine J03 (J30 (J0q p g) name) (by first|simp [ht];done|rfl) ?_
   rintro r rfl
   simp [hk2,hk1,hk,s7,e0,e1,z0,z1,z2,z3,J00]
   exact hA.keep _
  rintro st3 h3 n3 hk3 ⟨rfl,s20,e0',e1',hA'⟩
  simp at hk3
  have y0:¬0=n+1:=by omega
  have y1:¬1=n+1:=by omega
  have y2:¬0=n+1+1:=by omega
  have y3:¬1=n+1+1:=by omega
  cases c1:J1a (J0q p g) name
  ·rw [c1] at hJ s20
   simp only [Bool.false_eq_true,if_false] at hJ
   simp [hk3,hk2,hk1,hk,s20,s12,hw]
   exact hR _ _ _ (by simp [hk3,hk2,hk1,hk]) (by simp) ⟨by omega,e0',e1',acc,hJ,by simpa [hk3,hk2,hk1] using hA'.mono (Nat.le_succ n)⟩
  rw [c1] at hJ s20
  simp only [if_true] at hJ
  have hal:=congrArg List.length hJ
  simp only [List.length_append,List.length_cons] at hal
  rcases hA' with ⟨hz,hv⟩|⟨id,hid,hid',hv,hc⟩
  ·have hz':acc=[]:=by simpa [J05] using hz
   subst hz'
   simp [hk3,hk2,hk1,hk,hv,s7,s20,s12,hw,y0,y1,y2,y3,z0,z1,z2,z3]
   refine ⟨by unfold LIM;omega,?_⟩
   exact hR _ _ _ (by simp [hk3,hk2,hk1,hk]) (by simp) ⟨by omega,by simp [e0',y0,y1,y2,y3,z0,z1,z2,z3],by simp [e1',y0,y1,y2,y3,z0,z1,z2,z3],[g],by simpa using hJ,.inr ⟨n+1+1,by omega,by omega,by simp [J05],by simp [J05]⟩⟩
  ·simp [J05] at hv
   have x0:¬id=n:=by omega
   have x1:¬id=n+1:=by omega
   have x2:¬n+1=id:=by omega
   have x3:¬n=id:=by omega
   have x4:¬1=id:=by omega
   have x5:¬0=id:=by omega
   simp [hk3,hk2,hk1,hk,hv,hc,s7,s20,s12,hw,y0,y1,y2,y3,z0,z1,z2,z3,x0,x1,x2,x3]
   refine ⟨by unfold LIM;omega,?_⟩
   exact hR _ _ _ (by simp [hk3,hk2,hk1,hk]) (by simp) ⟨by omega,by simp [e0',y0,y1,y2,y3,z0,z1,z2,z3,x4,x5],by simp [e1',y0,y1,y2,y3,z0,z1,z2,z3,x4,x5],acc++[g],by simpa using hJ,.inr ⟨n+1+1,by omega,by omega,by simp [J05],by simp [J05,List.take_of_length_le]⟩⟩
 rintro st h n R hk s12 ⟨hn,e0,e1,acc,hJ,hA⟩ hret hX
 simp at hk
 rw [List.drop_eq_nil_of_le (by omega)] at hJ
 simp at hJ
 subst hJ
 refine J0e [5] (fun s=>s 13 = .bool false) (by simp [hk,s12]) ?_
 intro st1 hk1 s13
 simp at hk1
 refine J4k s13 ?_
 refine hX _ _ _ _ ?_
 rcases hA with ⟨hz,hv⟩|⟨id,hid,hid',hv,hc⟩
 ·simp [hk1,hv,hz]
 ·simp at hv
  simp [hk1,hv,hc]
def a62:AFn:= ⟨35,[.t 4],(.seq (.reg [Zo 2 (.boxv (.t 0)),Zo 4 (.mv (.k (.nil 1)))]) (.seq (.reg [Zo 8 (.bsl 1 []),Zv 5 8]) (.seq (.reg [Zl 9 true 2 2,Zv 10 1,Zc 11 136 [.t 9,.t 10],Zv 6 11]) (.seq (.seq (.reg [Zo 7 (.mv (.k (.int .i64 0)))]) (.blk 0 (.loop (.seq (.seq (.reg [Zv 12 7,Zv 13 6,Zo 14 (.len false (.t 13)),Zo 15 (.bin .lss (.t 12) (.t 14))]) (.cond (.t 15) .skip (.exit 0))) (.seq (.blk 1 (.seq (.draw (.op (Zl 18 true 2 2) (.op (Zv 19 6) (.op (Zv 20 7) (.op (Zo 21 (.ixa 1 (.t 19) (.t 20))) (.op (Zl 22 false 1 21) (.op (Zv 24 1) (.op (Zc 23 136 [.t 18,.t 22]) (.op (Zc 25 63 [.t 23,.t 24]) (.op (Zo 26 (.bin .geq (.t 25) (.k (.int .i64 0)))) .fin)))))))))) (.cond (.t 26) (.reg [Zv 27 5,Zv 28 6,Zv 29 7,Zo 30 (.ixa 1 (.t 28) (.t 29)),Zl 31 false 1 30,Zo 32 (.bsl 1 [.t 31]),Zo 33 (.app 16 1 (.t 27) (.t 32)),Zv 5 33]) .skip))) (.reg [Zv 16 7,Zo 17 (.bin .add (.t 16) (.k (.int .i64 1))),Zv 7 17])))))) (.seq (.reg [Zv 34 5,Zv 4 34]) .ret)))))⟩
theorem a62_ok:J08 Tryz.prog Tryz.f62=some a62:=by kernel_rfl
theorem Jbr (p:DProgram) (hp:J0d p≤1048576) (name:Str):Holds Tryz.prog 62 [.agg (J00 p),.str name] (fun x=>x = .us 1 (J05 (Jfr p name))):=by
 have hrl:=J9p p name hp
 refine J01 Tryz.func62 a62_ok rfl (by simp [a62]) ?_
 simp [a62,J00]
 first|refine J02 (J2d p hp name) (by first|simp [J00];done|rfl) ?_|refine J03 (J2d p hp name) (by first|simp [J00];done|rfl) ?_
 rintro r rfl
 simp
 rw [Jfl]
 generalize hT:(J0q p name).filter (Jg4 p name)=T
 have hTl:T.length≤1048576:=by rw [←hT];exact Nat.le_trans (List.length_filter_le _ _) hrl
 refine J0h [1,2,6] 7 (J0q p name).length (fun i s h n=>2<n∧h 0=some ⟨true,2,[J00 p]⟩∧h 2=some ⟨false,1,J05 (J0q p name)⟩∧∃ (acc:List Str) (id:Nat),acc++((J0q p name).drop i).filter (Jg4 p name)=T∧id≠0∧id≠2∧id<n∧s 5 = .ref id 0 acc.length∧h id=some ⟨false,1,J05 acc⟩) (by unfold LIM;omega) (by simp) ⟨by simp,by simp [J00],by simp,[],1,by simpa using hT,by simp,by simp,by simp,by simp,by simp [J05]⟩ ?_ ?_
 ·rintro i st h n R hi hg hk s7 hw ⟨hn,e0,e2,acc,id,hJ,hid0,hid2,hid,s5,eid⟩ hR hret _
  simp at hk
  rw [List.drop_eq_getElem_cons hi,List.filter_cons,Jg4] at hJ
  have z0:¬0=n:=by omega
  have z1:¬2=n:=by omega
  have z2:¬n=0:=by omega
  have z3:¬n=2:=by omega
  have z4:¬id=n:=by omega
  have z5:¬n=id:=by omega
  refine J0c (J0e [1,2,5,6,7] (fun s=>s 15 = .bool true) (by simp [hk,s7,hi,e2]) ?_)
  intro st1 hk1 s15
  simp at hk1
  refine J2i s15 (J0c (J1d ?_))
  have ht:List.take (J0q p (J0q p name)[i]).length (J05 (J0q p (J0q p name)[i]))=J05 (J0q p (J0q p name)[i]):=List.take_of_length_le (by simp [J05])
  refine J1q [1,2,5,6,7] (fun s h' n'=>n'=n+1∧s 26 = .bool (J1a (J0q p (J0q p name)[i]) name)∧h' 0=some ⟨true,2,[J00 p]⟩∧h' 2=some ⟨false,1,J05 (J0q p name)⟩∧h' id=some ⟨false,1,J05 acc⟩) ?_ ?_
  ·simp [hk1,hk,e0,e2,s7,hi,J00]
   first|refine J02 (J2d p hp ((J0q p name)[i]'hi)) (by first|simp [J00];done|rfl) ?_|refine J03 (J2d p hp ((J0q p name)[i]'hi)) (by first|simp [J00];done|rfl) ?_
   rintro r rfl
   simp [hk1,hk,s7]
   first|refine J02 (J1n (J0q p ((J0q p name)[i]'hi)) name) (by first|simp [ht];done|rfl) ?_|refine J03 (J1n (J0q p ((J0q p name)[i]'hi)) name) (by first|simp [ht];done|rfl) ?_
   rintro r rfl
   have g3:=Jb6 (J0q p ((J0q p name)[i]'hi)) name
   simp [g3,hk1,hk,s7,e0,e2,eid,z0,z1,z2,z3,z4,z5,J00]
  rintro st3 h3 n3 hk3 ⟨rfl,s26,e0',e2',eid'⟩
  simp at hk3
  have y0:¬0=n+1:=by omega
  have y1:¬2=n+1:=by omega
  have y2:¬0=n+1+1:=by omega
  have y3:¬2=n+1+1:=by omega
  have y4:¬id=n+1:=by omega
  have y5:¬id=n+1+1:=by omega
  have y6:¬n+1=id:=by omega
  have y7:¬n+1+1=id:=by omega
  have y8:¬n=1:=by omega
  have x4:¬2=id:=fun e=>hid2 e.symm
  have x5:¬0=id:=fun e=>hid0 e.symm
  cases c1:J1a (J0q p (J0q p name)[i]) name
  ·rw [c1] at hJ s26
   simp only [Bool.false_eq_true,if_false] at hJ
   simp [hk3,hk1,hk,s26,s7,hw]
   exact hR _ _ _ (by simp [hk3,hk1,hk]) (by simp) ⟨by omega,e0',e2',acc,id,hJ,hid0,hid2,by omega,by simp [hk3,hk1,s5],eid'⟩
  rw [c1] at hJ s26
  simp only [if_true] at hJ
  have hal:=congrArg List.length hJ
  simp only [List.length_append,List.length_cons] at hal
  simp [hk3,hk1,hk,s5,eid',e2',s26,s7,hi,hw,y0,y1,y2,y3,y4,y5,y6,y7,y8,z0,z1,z2,z3,z4,z5]
  refine ⟨by unfold LIM;omega,?_⟩
  exact hR _ _ _ (by simp [hk3,hk1,hk]) (by simp) ⟨by omega,by simp [e0',y0,y1,y2,y3,y8,z0,z1,z2,z3,x5],by simp [e2',y0,y1,y2,y3,y8,z0,z1,z2,z3,x4],acc++[(J0q p name)[i]],n+1+1,by simpa using hJ,by omega,by omega,by omega,by simp,by simp [J05,List.take_of_length_le]⟩
 rintro st h n R hk s7 ⟨hn,e0,e2,acc,id,hJ,hid0,hid2,hid,s5,eid⟩ hret hX
 simp at hk
 rw [List.drop_eq_nil_of_le (by omega)] at hJ
 simp at hJ
 subst hJ
 refine J0c (J0e [5] (fun s=>s 15 = .bool false) (by simp [hk,s7,e2]) ?_)
 intro st1 hk1 s15
 simp at hk1
 refine J2g s15 ?_
 refine hX _ _ _ _ ?_
 simp [hk1,s5,eid]
def a64:AFn:= ⟨20,[.t 6],(.seq (.reg [Zo 3 (.boxv (.t 0)),Zo 6 (.mv (.k (.bool false)))]) (.seq (.draw (.op (Zl 8 true 2 3) (.op (Zv 9 1) (.op (Zo 10 (.ixa 1 (.t 9) (.k (.int .i64 0)))) (.op (Zl 11 false 1 10) (.op (Zc 12 136 [.t 8,.t 11]) (.op (Zv 7 12) .fin))))))) (.seq (.reg [Zv 13 7,Zv 14 1,Zc 15 137 [.t 13,.t 14],Zv 16 2,Zc 17 137 [.t 15,.t 16],Zo 18 (.len false (.t 17)),Zo 19 (.bin .eql (.t 18) (.k (.int .i64 0))),Zv 6 19]) .ret)))⟩
theorem a64_ok:J08 Tryz.prog Tryz.f64=some a64:=by kernel_rfl
def Jjj (p:DProgram) (c done:List Str):Bool:=decide ((J29 (J29 (J0q p (c.getD 0 [])) c) done).length=0)
theorem J6q (l s:List Str):(J29 l s).length≤l.length:=by
 unfold J29;exact List.length_filter_le _ _
theorem Jio (p:DProgram) (hp:J0d p≤1048576) (c done:List Str) (hc:0<c.length):Holds Tryz.prog 64 [.agg (J00 p),.sl 1 (J05 c),.sl 1 (J05 done)] (fun x=>x = .bool (Jjj p c done)):=by
 obtain ⟨c0,cs,rfl⟩:∃ a l,c=a::l:=by cases c with|nil=>simp at hc|cons a l=>exact ⟨a,l,rfl⟩
 have h1:=J9p p c0 hp
 have ht:∀ l:List Str,List.take l.length (J05 l)=J05 l:=fun l=>List.take_of_length_le (by simp [J05])
 refine J01 Tryz.func64 a64_ok rfl (by simp [a64]) ?_
 simp [a64,J00]
 first|refine J02 (J2d p hp c0) (by first|simp [J00];done|rfl) ?_|refine J03 (J2d p hp c0) (by first|simp [J00];done|rfl) ?_
 rintro r rfl
 simp
 first|refine J02 (J45 (J0q p c0) (c0::cs) h1) (by first|simp [ht];done|rfl) ?_|refine J03 (J45 (J0q p c0) (c0::cs) h1) (by first|simp [ht];done|rfl) ?_
 rintro r rfl
 simp
 first|refine J02 (J45 (J29 (J0q p c0) (c0::cs)) done (Nat.le_trans (J6q _ _) h1)) (by simp [ht]) ?_|refine J03 (J45 (J29 (J0q p c0) (c0::cs)) done (Nat.le_trans (J6q _ _) h1)) (by simp [ht]) ?_|refine J02 (J45 (J29 (J0q p c0) (c0::cs)) done (Nat.le_trans (J6q _ _) h1)) rfl ?_|refine J03 (J45 (J29 (J0q p c0) (c0::cs)) done (Nat.le_trans (J6q _ _) h1)) rfl ?_
 rintro r rfl
 simp [Jjj]
 intro _
 rw [Bool.eq_iff_iff]
 simp [List.length_eq_zero_iff]
theorem Jn1 {p:DProgram}(hpo:J3q p=true) {a:Str}{done:List Str}(hE:∀ e∈J0i p,e.2∈J07 p) (ha:a∈J07 p):Jjj p (Jfr p a) done=Jcm (J0i p) (J07 p) done a:=by
 rw [Jei hpo ha]
 have hs:=J72 hE ha
 generalize hC:J3n (J0i p) (J07 p) a=C at *
 obtain ⟨c0,cs,rfl⟩:∃ x l,C=x::l:=by cases C with|nil=>simp at hs|cons x l=>exact ⟨x,l,rfl⟩
 have hc0:c0∈J3n (J0i p) (J07 p) a:=by rw [hC];simp
 have hn0:c0∈J07 p:=((J3v hE ha c0).1 hc0).1
 have hr:J0q p c0=J21 (J0i p) (J07 p) a:=by
  unfold J0q;rw [hpo,J1m.2 hn0];exact Jia hE ha hc0
 unfold Jjj Jcm
 rw [Jad,hC]
 simp only [List.getD_cons_zero]
 rw [hr,Bool.eq_iff_iff]
 unfold Jjz J29
 simp only [List.all_eq_true,List.mem_filter,Bool.not_eq_true',Bool.or_eq_true,and_imp]
 constructor
 ·intro h x hx
  cases hq:J1a (c0::cs) x
  ·exact .inl (h x hx hq)
  ·exact .inr rfl
 ·intro h x hx hq
  rcases h x hx with h1|h1
  ·exact h1
  ·rw [hq] at h1;cases h1
def a80:AFn:= ⟨12,[.t 4],(.seq (.reg [Zo 4 (.mv (.k (.int .i64 0)))]) (.seq (.reg [Zv 5 1,Zv 6 0,Zo 7 (.len false (.t 6)),Zo 8 (.bin .sub (.t 5) (.t 7)),Zv 1 8]) (.seq (.seq (.reg [Zv 9 1,Zo 10 (.bin .lss (.t 9) (.k (.int .i64 0)))]) (.cond (.t 10) (.seq (.reg [Zo 4 (.mv (.k (.int .i64 (-1))))]) .ret) .skip)) (.seq (.reg [Zv 11 1,Zv 4 11]) .ret))))⟩
theorem a80_ok:J08 Tryz.prog Tryz.f80=some a80:=by kernel_rfl
def a83:AFn:= ⟨22,[.t 2],(.seq (.reg [Zo 2 (.mv (.k (.nil 1)))]) (.seq (.reg [Zv 5 0,Zo 6 (.len false (.t 5)),Zo 7 (.mks 8 [(.int .i64 0)] (.t 6) (.t 6)),Zv 3 7]) (.seq (.seq (.reg [Zo 4 (.mv (.k (.int .i64 0)))]) (.blk 0 (.loop (.seq (.seq (.reg [Zv 8 4,Zv 9 0,Zo 10 (.len false (.t 9)),Zo 11 (.bin .lss (.t 8) (.t 10))]) (.cond (.t 11) .skip (.exit 0))) (.seq (.blk 1 (.reg [Zv 14 3,Zv 15 4,Zv 16 0,Zv 17 4,Zo 18 (.ixa 1 (.t 16) (.t 17)),Zl 19 false 1 18,Zo 20 (.ixa 1 (.t 14) (.t 15)),⟨no,.st 1 (.t 20) (.t 19),no⟩])) (.reg [Zv 12 4,Zo 13 (.bin .add (.t 12) (.k (.int .i64 1))),Zv 4 13])))))) (.seq (.reg [Zv 21 3,Zv 2 21]) .ret))))⟩
theorem a83_ok:J08 Tryz.prog Tryz.f83=some a83:=by kernel_rfl
def a87:AFn:= ⟨26,[.t 4],(.seq (.reg [Zo 4 (.mv (.k (.bool false)))]) (.seq (.seq (.reg [Zv 6 0,Zo 7 (.len false (.t 6)),Zv 8 1,Zo 9 (.len false (.t 8)),Zo 10 (.bin .neq (.t 7) (.t 9))]) (.cond (.t 10) (.seq (.reg [Zo 4 (.mv (.k (.bool false)))]) .ret) .skip)) (.seq (.seq (.reg [Zo 5 (.mv (.k (.int .i64 0)))]) (.blk 0 (.loop (.seq (.seq (.reg [Zv 11 5,Zv 12 0,Zo 13 (.len false (.t 12)),Zo 14 (.bin .lss (.t 11) (.t 13))]) (.cond (.t 14) .skip (.exit 0))) (.seq (.blk 1 (.seq (.draw (.op (Zv 17 0) (.op (Zv 18 5) (.op (Zo 19 (.ixa 1 (.t 17) (.t 18))) (.op (Zl 20 false 1 19) (.op (Zv 21 1) (.op (Zv 22 5) (.op (Zo 23 (.ixa 1 (.t 21) (.t 22))) (.op (Zl 24 false 1 23) (.op (Zo 25 (.bin .neq (.t 20) (.t 24))) .fin)))))))))) (.cond (.t 25) (.seq (.reg [Zo 4 (.mv (.k (.bool false)))]) .ret) .skip))) (.reg [Zv 15 5,Zo 16 (.bin .add (.t 15) (.k (.int .i64 1))),Zv 5 16])))))) (.seq (.reg [Zo 4 (.mv (.k (.bool true)))]) .ret))))⟩
theorem a87_ok:J08 Tryz.prog Tryz.f87=some a87:=by kernel_rfl
def a211:AFn:= ⟨28,[.t 4],(.seq (.reg [Zo 4 (.mv (.k (.int .i64 0)))]) (.seq (.reg [Zv 6 1,Zv 7 0,Zo 8 (.len false (.t 7)),Zo 9 (.bin .sub (.t 6) (.t 8)),Zv 1 9]) (.seq (.seq (.reg [Zv 10 1,Zo 11 (.bin .lss (.t 10) (.k (.int .i64 0)))]) (.cond (.t 11) (.seq (.reg [Zo 4 (.mv (.k (.int .i64 (-1))))]) .ret) .skip)) (.seq (.seq (.reg [Zo 5 (.mv (.k (.int .i64 0)))]) (.blk 0 (.loop (.seq (.seq (.reg [Zv 12 5,Zv 13 0,Zo 14 (.len false (.t 13)),Zo 15 (.bin .lss (.t 12) (.t 14))]) (.cond (.t 15) .skip (.exit 0))) (.seq (.blk 1 (.seq (.reg [Zv 18 1,Zv 19 0,Zv 20 5,Zo 21 (.ixa 1 (.t 19) (.t 20)),Zl 22 false 1 21,Zo 23 (.len true (.t 22)),Zo 24 (.bin .sub (.t 18) (.t 23)),Zv 1 24]) (.seq (.reg [Zv 25 1,Zo 26 (.bin .lss (.t 25) (.k (.int .i64 0)))]) (.cond (.t 26) (.seq (.reg [Zo 4 (.mv (.k (.int .i64 (-1))))]) .ret) .skip)))) (.reg [Zv 16 5,Zo 17 (.bin .add (.t 16) (.k (.int .i64 1))),Zv 5 17])))))) (.seq (.reg [Zv 27 1,Zv 4 27]) .ret)))))⟩
theorem a211_ok:J08 Tryz.prog Tryz.f211=some a211:=by kernel_rfl
def a225:AFn:= ⟨22,[.t 2],(.seq (.reg [Zo 2 (.mv (.k (.nil 1)))]) (.seq (.reg [Zv 5 0,Zo 6 (.len false (.t 5)),Zo 7 (.mks 16 [(.str [])] (.t 6) (.t 6)),Zv 3 7]) (.seq (.seq (.reg [Zo 4 (.mv (.k (.int .i64 0)))]) (.blk 0 (.loop (.seq (.seq (.reg [Zv 8 4,Zv 9 0,Zo 10 (.len false (.t 9)),Zo 11 (.bin .lss (.t 8) (.t 10))]) (.cond (.t 11) .skip (.exit 0))) (.seq (.blk 1 (.reg [Zv 14 3,Zv 15 4,Zv 16 0,Zv 17 4,Zo 18 (.ixa 1 (.t 16) (.t 17)),Zl 19 false 1 18,Zo 20 (.ixa 1 (.t 14) (.t 15)),⟨no,.st 1 (.t 20) (.t 19),no⟩])) (.reg [Zv 12 4,Zo 13 (.bin .add (.t 12) (.k (.int .i64 1))),Zv 4 13])))))) (.seq (.reg [Zv 21 3,Zv 2 21]) .ret))))⟩
theorem a225_ok:J08 Tryz.prog Tryz.f225=some a225:=by kernel_rfl
def a73:AFn:= ⟨26,[.t 4],(.seq (.reg [Zo 4 (.mv (.k (.bool false)))]) (.seq (.seq (.reg [Zv 6 0,Zo 7 (.len false (.t 6)),Zv 8 1,Zo 9 (.len false (.t 8)),Zo 10 (.bin .neq (.t 7) (.t 9))]) (.cond (.t 10) (.seq (.reg [Zo 4 (.mv (.k (.bool false)))]) .ret) .skip)) (.seq (.seq (.reg [Zo 5 (.mv (.k (.int .i64 0)))]) (.blk 0 (.loop (.seq (.seq (.reg [Zv 11 5,Zv 12 0,Zo 13 (.len false (.t 12)),Zo 14 (.bin .lss (.t 11) (.t 13))]) (.cond (.t 14) .skip (.exit 0))) (.seq (.blk 1 (.seq (.draw (.op (Zv 17 0) (.op (Zv 18 5) (.op (Zo 19 (.ixa 1 (.t 17) (.t 18))) (.op (Zl 20 false 1 19) (.op (Zv 21 1) (.op (Zv 22 5) (.op (Zo 23 (.ixa 1 (.t 21) (.t 22))) (.op (Zl 24 false 1 23) (.op (Zo 25 (.bin .neq (.t 20) (.t 24))) .fin)))))))))) (.cond (.t 25) (.seq (.reg [Zo 4 (.mv (.k (.bool false)))]) .ret) .skip))) (.reg [Zv 15 5,Zo 16 (.bin .add (.t 15) (.k (.int .i64 1))),Zv 5 16])))))) (.seq (.reg [Zo 4 (.mv (.k (.bool true)))]) .ret))))⟩
theorem a73_ok:J08 Tryz.prog Tryz.f73=some a73:=by kernel_rfl
def a21:AFn:= ⟨12,[.t 4],(.seq (.reg [Zo 2 (.boxv (.t 0)),Zo 4 (.mv (.k (.int .i64 0)))]) (.seq (.reg [Zf 5 1 2,Zl 6 false 1 5,Zv 7 1,Zc 8 80 [.t 6,.t 7],Zv 1 8]) (.seq (.seq (.reg [Zv 9 1,Zo 10 (.bin .lss (.t 9) (.k (.int .i64 0)))]) (.cond (.t 10) (.seq (.reg [Zo 4 (.mv (.k (.int .i64 (-1))))]) .ret) .skip)) (.seq (.reg [Zv 11 1,Zv 4 11]) .ret))))⟩
theorem a21_ok:J08 Tryz.prog Tryz.f21=some a21:=by kernel_rfl
def a23:AFn:= ⟨12,[(.c 2 true 2)],(.seq (.reg [Zo 1 (.boxv (.t 0)),Zo 2 (.box [(.int .i64 0),(.nil 1)])]) (.seq (.reg [Zo 3 (.box [(.int .i64 0),(.nil 1)])]) (.seq (.reg [Zf 4 0 1,Zl 5 false 1 4,Zf 6 0 3,⟨no,.st 1 (.t 6) (.t 5),no⟩]) (.seq (.reg [Zf 7 1 1,Zl 8 false 1 7,Zc 9 83 [.t 8],Zf 10 1 3,⟨no,.st 1 (.t 10) (.t 9),no⟩]) (.seq (.reg [Zl 11 true 2 3,⟨no,.st 2 (.t 2) (.t 11),no⟩]) .ret)))))⟩
theorem a23_ok:J08 Tryz.prog Tryz.f23=some a23:=by kernel_rfl
def a25:AFn:= ⟨16,[.t 4],(.seq (.reg [Zo 2 (.boxv (.t 0)),Zo 3 (.boxv (.t 1)),Zo 4 (.mv (.k (.bool false)))]) (.seq (.seq (.reg [Zf 5 0 2,Zl 6 false 1 5,Zf 7 0 3,Zl 8 false 1 7,Zo 9 (.bin .neq (.t 6) (.t 8))]) (.cond (.t 9) (.seq (.reg [Zo 4 (.mv (.k (.bool false)))]) .ret) .skip)) (.seq (.seq (.reg [Zf 10 1 2,Zl 11 false 1 10,Zf 12 1 3,Zl 13 false 1 12,Zc 14 87 [.t 11,.t 13],Zo 15 (.un .not (.t 14))]) (.cond (.t 15) (.seq (.reg [Zo 4 (.mv (.k (.bool false)))]) .ret) .skip)) (.seq (.reg [Zo 4 (.mv (.k (.bool true)))]) .ret))))⟩
theorem a25_ok:J08 Tryz.prog Tryz.f25=some a25:=by kernel_rfl
theorem Jm3 (l:List Int) (left:Int) (h0:0≤left∧left≤4611686018427387904):Holds Tryz.prog 80 [.sl 1 (J38 l),i64 left] (fun r=>r=i64 (J2m left (Jer l))):=by
 refine J01 Tryz.func80 a80_ok rfl (by simp [a80]) ?_
 simp [a80]
 unfold LIM
 intro h1
 rw [J0w (by omega)]
 unfold J2m Jer
 exact ⟨fun h=>by rw [if_pos h],fun h=>by rw [if_neg (by omega)]⟩
theorem Jmj (a:List Int) (hw:Jer a≤1048576):Holds Tryz.prog 83 [.sl 1 (J38 a)] (fun r=>r = .us 1 (J38 a)):=by
 unfold Jer at hw
 refine J01 Tryz.func83 a83_ok rfl (by simp [a83]) ?_
 simp [a83]
 intro h1
 refine ⟨by unfold LIM;omega,Jak (fun k s h n=>∃ (i:Nat) (rows:List (List AV)),k=a.length - i∧i≤a.length∧s 0=Ju4 a∧s 3 = .ref 0 0 a.length∧s 4=i64 i∧h=upd J53 0 (some ⟨false,1,rows⟩)∧n=1 ∧
  rows.length=a.length∧(∀ j,j<i→rows[j]? = (J38 a)[j]?)∧(∀ j (hj:j<rows.length),rows[j].length=1)) a.length ⟨0,List.replicate a.length [i64 0],by simp⟩ ?_⟩
 rintro k s h n ⟨i,rows,rfl,hi,s0,s3,s4,rfl,rfl,hr,hj,hc⟩
 by_cases hlt:i<a.length
 ·have hm:=hc i (by omega)
  have htl:rows[i].tail=[]:=List.eq_nil_of_length_eq_zero (by simp [hm])
  simp [s0,s3,s4,hlt,hr,hm]
  intro _
  refine ⟨a.length - (i+1),by omega,i+1,rfl,by omega,by rw [J0w (by omega)];rfl,rows.set i [i64 a[i]],by simp [htl],by simp [hr],fun j hj' => ?_,fun j hj' => ?_⟩
  ·rw [List.getElem?_set]
   by_cases hji:i=j
   ·subst hji;simp [hr,hlt]
   ·rw [if_neg hji];simpa using hj j (by omega)
  ·rw [List.getElem_set]
   split
   ·rfl
   ·exact hc j (by simpa using hj')
 ·simp [s0,s3,s4,hlt,hr]
  intro _
  have:rows=J38 a:=List.ext_getElem? fun j=>by
   by_cases hji:j<i
   ·exact hj j hji
   ·rw [List.getElem?_eq_none (by omega),List.getElem?_eq_none (by simp;omega)]
  subst this
  simp [List.take_of_length_le]
theorem Jn0 (a b:List Int):Holds Tryz.prog 87 [.sl 1 (J38 a),.sl 1 (J38 b)] (fun r=>r = .bool (decide (a=b))):=by
 refine J01 Tryz.func87 a87_ok rfl (by simp [a87]) ?_
 simp [a87]
 intro h1 h2
 refine ⟨fun h e=>h (by rw [e]),fun hl=>Jak (fun k s h n=>∃ i:Nat,k=a.length - i∧i≤a.length∧s 0=Ju4 a∧s 1=Ju4 b∧s 5=i64 i∧(∀ j,j<i→a[j]? = b[j]?)∧h=J53∧n=0) a.length ⟨0,by simp⟩ ?_⟩
 rintro k s h n ⟨i,rfl,hi,s0,s1,s5,hj,rfl,rfl⟩
 have hl:a.length=b.length:=by omega
 by_cases hlt:i<a.length
 ·have hlt':i<b.length:=by omega
  unfold LIM at h1
  simp [s0,s1,s5,hlt,hlt']
  intro _
  refine ⟨fun h e=>h (by subst e;rfl),fun e=>⟨a.length - (i+1),by omega,i+1,rfl,by omega,by rw [J0w (by omega)];rfl,fun j hj' => ?_⟩⟩
  by_cases hji:j=i
  ·subst hji;simp [hlt,hlt',e]
  ·exact hj j (by omega)
 ·simp [s0,s1,s5,hlt]
  intro _
  refine List.ext_getElem? fun j => ?_
  by_cases hji:j<i
  ·exact hj j hji
  ·rw [List.getElem?_eq_none (by omega),List.getElem?_eq_none (by omega)]
theorem Jh3 (l:List Str) (left:Int) (h0:0≤left∧left≤4611686018427387904):Holds Tryz.prog 211 [.sl 1 (J05 l),i64 left] (fun r=>r=i64 (J2m left (J33 l))):=by
 rw [show J33 l=wL List.length l from rfl,←J5a (w:=List.length) (g:=fun x lf=>J2m lf x.length) (fun _ _ _=>rfl) l left h0.1]
 refine J01 Tryz.func211 a211_ok rfl (by simp [a211]) ?_
 simp [a211]
 intro h1
 unfold LIM at h1
 unfold szL
 rw [J0w (by omega)]
 refine ⟨fun h=>by rw [if_pos (by omega)],fun h=>Jak (fun k s h n=>∃ (i:Nat) (lf:Int),k=l.length - i∧i≤l.length∧s 0=strs l∧s 1=i64 lf∧s 5=i64 i∧0≤lf∧lf≤left∧J6f (fun (x:Str) lf=>J2m lf x.length) (l.drop i) lf=J6f (fun (x:Str) lf=>J2m lf x.length) l (left - l.length)∧h=J53∧n=0) l.length ⟨0,left - l.length,by simp;omega⟩ ?_⟩
 rintro k s h n ⟨i,lf,rfl,hi,s0,s1,s5,hf,hlf,hj,rfl,rfl⟩
 rw [if_neg (by omega),←hj]
 by_cases hlt:i<l.length
 ·rw [List.drop_eq_getElem_cons hlt] at hj ⊢
  simp only [J6f] at hj ⊢
  simp [s0,s1,s5,hlt]
  intro _ h2
  unfold LIM at h2
  rw [J0w (by omega)]
  by_cases hx:lf - (l[i].length:Int)<0
  ·rw [Jax hx]
   simp;exact fun h=>by omega
  ·rw [Ji7 hx] at hj ⊢
   rw [if_neg hx] at hj ⊢
   refine ⟨fun h=>by omega,fun _=>⟨l.length - (i+1),by omega,i+1,rfl,by omega,by rw [J0w (by omega)];rfl,by omega,by omega,rfl⟩⟩
 ·rw [List.drop_eq_nil_of_le (by omega)] at hj ⊢
  simp [s0,s1,s5,hlt,J6f]
theorem Jgg (a:List Str) (hw:J33 a≤1048576):Holds Tryz.prog 225 [.sl 1 (J05 a)] (fun r=>r = .us 1 (J05 a)):=by
 have hw:=Nat.le_trans (J1h _ _) hw
 refine J01 Tryz.func225 a225_ok rfl (by simp [a225]) ?_
 simp [a225]
 intro h1
 refine ⟨by unfold LIM;omega,Jak (fun k s h n=>∃ (i:Nat) (rows:List (List AV)),k=a.length - i∧i≤a.length∧s 0=strs a∧s 3 = .ref 0 0 a.length∧s 4=i64 i∧h=upd J53 0 (some ⟨false,1,rows⟩)∧n=1 ∧
  rows.length=a.length∧(∀ j,j<i→rows[j]? = (J05 a)[j]?)∧(∀ j (hj:j<rows.length),rows[j].length=1)) a.length ⟨0,List.replicate a.length [.str []],by simp⟩ ?_⟩
 rintro k s h n ⟨i,rows,rfl,hi,s0,s3,s4,rfl,rfl,hr,hj,hc⟩
 by_cases hlt:i<a.length
 ·have hm:=hc i (by omega)
  have htl:rows[i].tail=[]:=List.eq_nil_of_length_eq_zero (by simp [hm])
  simp [s0,s3,s4,hlt,hr,hm]
  intro _
  refine ⟨a.length - (i+1),by omega,i+1,rfl,by omega,by rw [J0w (by omega)];rfl,rows.set i [.str a[i]],by simp [htl],by simp [hr],fun j hj' => ?_,fun j hj' => ?_⟩
  ·rw [List.getElem?_set]
   by_cases hji:i=j
   ·subst hji;simp [hr,hlt]
   ·rw [if_neg hji];simpa using hj j (by omega)
  ·rw [List.getElem_set]
   split
   ·rfl
   ·exact hc j (by simpa using hj')
 ·simp [s0,s3,s4,hlt,hr]
  intro _
  have:rows=J05 a:=List.ext_getElem? fun j=>by
   by_cases hji:j<i
   ·exact hj j hji
   ·rw [List.getElem?_eq_none (by omega),List.getElem?_eq_none (by simp;omega)]
  subst this
  simp [List.take_of_length_le]
theorem Jc3 (a b:List Str):Holds Tryz.prog 73 [.sl 1 (J05 a),.sl 1 (J05 b)] (fun r=>r = .bool (decide (a=b))):=by
 refine J01 Tryz.func73 a73_ok rfl (by simp [a73]) ?_
 simp [a73]
 intro h1 h2
 refine ⟨fun h e=>h (by rw [e]),fun hl=>Jak (fun k s h n=>∃ i:Nat,k=a.length - i∧i≤a.length∧s 0=strs a∧s 1=strs b∧s 5=i64 i∧(∀ j,j<i→a[j]? = b[j]?)∧h=J53∧n=0) a.length ⟨0,by simp⟩ ?_⟩
 rintro k s h n ⟨i,rfl,hi,s0,s1,s5,hj,rfl,rfl⟩
 have hl:a.length=b.length:=by omega
 by_cases hlt:i<a.length
 ·have hlt':i<b.length:=by omega
  unfold LIM at h1
  simp [s0,s1,s5,hlt,hlt']
  intro _
  refine ⟨fun h e=>h (by subst e;rfl),fun e=>⟨a.length - (i+1),by omega,i+1,rfl,by omega,by rw [J0w (by omega)];rfl,fun j hj' => ?_⟩⟩
  by_cases hji:j=i
  ·subst hji;simp [hlt,hlt',e]
  ·exact hj j (by omega)
 ·simp [s0,s1,s5,hlt]
  intro _
  refine List.ext_getElem? fun j => ?_
  by_cases hji:j<i
  ·exact hj j hji
  ·rw [List.getElem?_eq_none (by omega),List.getElem?_eq_none (by omega)]
theorem Jp9 (x:DLin) (left:Int) (h0:0≤left∧left≤4611686018427387904):Holds Tryz.prog 21 [.agg (J12 x),i64 left] (fun r=>r=i64 (J2m left (Ja7 x))):=by
 refine J01 Tryz.func21 a21_ok rfl (by simp [a21]) ?_
 simp [a21,J12]
 have e0:Ja7 x=Ja7 x:=rfl
 conv at e0=>rhs;unfold Ja7
 refine J03 (Jm3 x.Coeffs left (by omega)) (by simp) ?_
 rintro r rfl
 by_cases h1:left - (Jer x.Coeffs:Nat)<0
 case pos=>
  have q:left - (Ja7 x:Int)<0:=by omega
  simp [J2m,h1,q]
  try first|omega|(constructor <;> intros <;> omega)
 simp [J2m,h1]
 try (rw [if_neg (by omega)];omega)
theorem Jqi (x:DLin) (_hw:Ja7 x≤1048576):Holds Tryz.prog 23 [.agg (J12 x)] (fun r=>r = .agg (J1b x)):=by
 have hw:=_hw;unfold Ja7 at hw
 refine J01 Tryz.func23 a23_ok rfl (by simp [a23]) ?_
 simp [a23,J12]
 refine J03 (Jmj x.Coeffs (by omega)) (by simp []) ?_
 rintro r rfl
 simp []
 try simp [J1b]
theorem Jpg (x y:DLin):Holds Tryz.prog 25 [.agg (J12 x),.agg (J12 y)] (fun r=>r = .bool (decide (x=y))):=by
 refine J01 Tryz.func25 a25_ok rfl (by simp [a25]) ?_
 simp [a25,J12]
 by_cases h0:x.Const=y.Const
 case neg=>simp [h0];try exact fun e=>h0 (by rw [e])
 simp [h0]
 refine J03 (Jn0 x.Coeffs y.Coeffs) (by simp []) ?_
 rintro r rfl
 by_cases h1:x.Coeffs=y.Coeffs
 case neg=>simp [h1];try exact fun e=>h1 (by rw [e])
 simp [h1]
 cases x;cases y;simp_all
theorem a95_ok:J08 Tryz.prog Tryz.f95=some (tSz true 2 21):=by kernel_rfl
theorem Jmn (l:List DLin) (left:Int) (h0:0≤left∧left≤4611686018427387904):Holds Tryz.prog 95 [.sl 2 (l.map J12),i64 left] (fun r=>r=i64 (J2m left (J90 l))):=by
 rw [show J90 l=wL Ja7 l from rfl,←J5a (w:=Ja7) (g:=fun x lf=>J2m lf (Ja7 x)) (fun _ _ _=>rfl) l left h0.1]
 exact J4y Tryz.func95 a95_ok rfl (rowOf:=J12) (eltOf:=(fun x => .agg (J12 x))) (fun x=>by simp [J12]) (fun x h=>by simp [J12]) (fun x lf h=>J78 h) l left h0 (fun x lf _ hl=>Jp9 x lf hl)
theorem a101_ok:J08 Tryz.prog Tryz.f101=some (tTo true 2 32 23 [.int .i64 0,.nil 1]):=by kernel_rfl
theorem Jlq (l:List DLin) (hw:J90 l≤1048576):Holds Tryz.prog 101 [.sl 2 (l.map J12)] (fun r=>r = .us 2 (l.map J1b)):=
 J4x Tryz.func101 a101_ok rfl (rowOf:=J12) (eltOf:=(fun x => .agg (J12 x))) (eltU:=(fun x => .agg (J1b x))) (fun x=>by simp [J12]) (fun x h=>by simp [J12]) (fun x=>by simp) (fun x=>by simp [J1b]) (fun x=>by simp [J1b]) rfl l (by have:=J1h Ja7 l;unfold J90 at hw;unfold LIM;omega) (fun x h=>Jqi x (by have:=J3i (w:=Ja7) h;unfold J90 at hw;omega))
theorem a107_ok:J08 Tryz.prog Tryz.f107=some (tEq true 2 25):=by kernel_rfl
theorem Jma (l m:List DLin):Holds Tryz.prog 107 [.sl 2 (l.map J12),.sl 2 (m.map J12)] (fun r=>r = .bool (decide (l=m))):=by
 rw [←J5z]
 exact J4d Tryz.func107 a107_ok rfl (rowOf:=J12) (eltOf:=(fun x => .agg (J12 x))) (fun x=>by simp [J12]) (fun x h=>by simp [J12]) l m (fun x y _ _=>Jpg x y)
def a46:AFn:= ⟨13,[(.c 2 true 2)],(.seq (.reg [Zo 1 (.boxv (.t 0)),Zo 2 (.box [(.nil 1),(.nil 1)])]) (.seq (.reg [Zo 3 (.box [(.nil 1),(.nil 1)])]) (.seq (.reg [Zf 4 0 1,Zl 5 false 1 4,Zc 6 119 [.t 5],Zf 7 0 3,⟨no,.st 1 (.t 7) (.t 6),no⟩]) (.seq (.reg [Zf 8 1 1,Zl 9 false 1 8,Zc 10 83 [.t 9],Zf 11 1 3,⟨no,.st 1 (.t 11) (.t 10),no⟩]) (.seq (.reg [Zl 12 true 2 3,⟨no,.st 2 (.t 2) (.t 12),no⟩]) .ret)))))⟩
def J2t (l:List Str):List AV:=[.sl 1 (J05 l)]
def J1j (l:List Str):List AV:=[.us 1 (J05 l)]
@[simp] theorem Jfm (x:List Str):drl (J1j x)=J2t x:=by simp [J1j,J2t]
@[simp] theorem Jmd (l:List (List Str)):drr (l.map J1j)=l.map J2t:=by rw [J48,List.map_map];exact List.map_congr_left fun x _=>Jfm x
@[simp] theorem Jlh (x:List Str):J25 (J1j x)=true:=by simp [J1j]
@[simp] theorem Jjv (l:List (List Str)):J2q (l.map J1j)=true:=by rw [J23];simp
@[simp] theorem Jnk (x:List Str):(J2t x).length=1:=by simp [J2t]
theorem a16_ok:J08 Tryz.prog Tryz.f16=some (tEq false 1 73):=by kernel_rfl
theorem J49 (l m:List (List Str)):Holds Tryz.prog 16 [.sl 1 (l.map J2t),.sl 1 (m.map J2t)] (fun r=>r = .bool (decide (l=m))):=by
 rw [←J5z]
 exact J4d Tryz.func16 a16_ok rfl (rowOf:=J2t) (eltOf:=(fun x => .sl 1 (J05 x))) (fun x=>by simp [J2t]) (fun x h=>by simp [J2t]) l m (fun x y _ _=>Jc3 x y)
def cq0:AC:=(.reg [Zo 1 (.boxv (.t 0)),Zo 2 (.mv (.k (.nil 1)))])
def cq1:AC:=(.reg [Zo 8 (.bslb 1 []),Zv 3 8])
def cq2:AC:=(.reg [Zl 9 true 2 1,Zc 10 60 [.t 9],Zv 4 10])
def cq3:AC:=(.reg [Zo 11 (.bsl 1 []),Zv 5 11])
def cqd:AC:=(.draw (.op (Zl 27 true 2 1) (.op (Zv 28 4) (.op (Zv 29 6) (.op (Zo 30 (.ixa 1 (.t 28) (.t 29))) (.op (Zl 31 false 1 30) (.op (Zc 32 62 [.t 27,.t 31]) (.op (Zv 7 32) .fin))))))))
def cqg:AC:=(.reg [Zv 33 5,Zv 34 4,Zv 35 6,Zo 36 (.ixa 1 (.t 34) (.t 35)),Zl 37 false 1 36,Zc 38 63 [.t 33,.t 37],Zo 39 (.bin .lss (.t 38) (.k (.int .i64 0))),Zv 40 39,⟨some 41,.ld true 2 (.t 1),(some (40,true))⟩,⟨some 42,.mv (.t 7),(some (40,true))⟩,⟨some 43,.mv (.t 5),(some (40,true))⟩,⟨some 44,.call (.k (.fn (.func 64) [] [])) [.t 41,.t 42,.t 43],(some (40,true))⟩,Zo 45 (.pick (.t 40) (.t 44) (.k (.bool false)))])
def cqa:AC:=(.seq (.reg [Zv 46 3,Zv 47 7,Zo 48 (.bslb 1 [.t 47]),Zo 49 (.appb 24 1 (.t 46) (.t 48)),Zv 3 49]) (.seq (.reg [Zv 50 5,Zv 51 7,Zo 52 (.app 16 1 (.t 50) (.t 51)),Zv 5 52]) (.exit 2)))
def cqi:AC:=(.seq (.reg [Zo 6 (.mv (.k (.int .i64 0)))]) (.blk 2 (.loop (.seq (.seq (.reg [Zv 21 6,Zv 22 4,Zo 23 (.len false (.t 22)),Zo 24 (.bin .lss (.t 21) (.t 23))]) (.cond (.t 24) .skip (.exit 2))) (.seq (.blk 3 (.seq cqd (.seq  cqg (.cond (.t 45) cqa .skip)))) (.reg [Zv 25 6,Zo 26 (.bin .add (.t 25) (.k (.int .i64 1))),Zv 6 26]))))))
def cq4:AC:=(.blk 0 (.loop (.seq (.seq (.reg [Zl 12 true 2 1,Zc 13 61 [.t 12],Zv 14 13,⟨some 15,.mv (.t 5),(some (14,true))⟩,⟨some 16,.len false (.t 15),(some (14,true))⟩,⟨some 17,.mv (.t 4),(some (14,true))⟩,⟨some 18,.len false (.t 17),(some (14,true))⟩,⟨some 19,.bin .lss (.t 16) (.t 18),(some (14,true))⟩,Zo 20 (.pick (.t 14) (.t 19) (.k (.bool false)))]) (.cond (.t 20) .skip (.exit 0))) (.blk 1 cqi))))
def cq5:AC:=(.reg [Zv 53 3,Zv 2 53])
def a13:AFn:=⟨54,[.t 2],(.seq cq0 (.seq cq1 (.seq cq2 (.seq cq3 (.seq cq4 (.seq cq5 .ret))))))⟩
theorem a13_ok:J7a true Tryz.prog Tryz.f13=some a13:=by kernel_rfl
theorem Jc8 {E:List (Str×Str)}{N:List Str}{a:Str} : (J3n E N a).length≤N.length:=Nat.le_trans (List.length_filter_le _ _) (List.length_filter_le _ _)
structure CompSt (D:List Str) (Cs:List (List Str)) (kd ko:Nat) (vd vo:AV) (h:Heap) (n:Nat):Prop where
 vd:vd = .ref kd 0 D.length
 hd:h kd=some ⟨false,1,J05 D⟩
 vo:vo = .ref ko 0 Cs.length
 ld:kd≠0∧kd≠2∧kd<n
 lo:ko≠0∧ko≠2∧ko<n
 ne:kd≠ko
 ho:∃ rows I,h ko=some ⟨true,1,rows⟩∧GRr h (Cs.map J1j) rows I∧I.Nodup∧(∀ id∈I,id≠0∧id≠2∧id<n∧id≠kd∧id≠ko)
theorem CompSt.mono {D:List Str}{Cs:List (List Str)}{kd ko:Nat}{vd vo:AV}{h h':Heap}{n n':Nat}(x:CompSt D Cs kd ko vd vo h n) (hn:n≤n') (hf:∀ id,id<n→h' id=h id):CompSt D Cs kd ko vd vo h' n':=by
 obtain ⟨x1,x2,x3,x4,x5,x6,rows,I,x7,x8,x9,x10⟩:=x
 exact ⟨x1,by rw [hf _ (by omega),x2],x3,by omega,by omega,x6,rows,I,by rw [hf _ (by omega),x7],J69 _ (fun id hi=>hf id (x10 id hi).2.2.1) x8,x9,fun id hi=>by have:=x10 id hi;omega⟩
section
variable {ks:List Kt}{s:Env}{h:Heap}{n:Nat}{Q:Fin}
theorem Jpa {D C:List Str}{Cs:List (List Str)}{kd ko m:Nat}(S:CompSt D Cs kd ko (s 5) (s 3) h m) (hm:m<n) (h2:2<m) (s7:s 7 = .ref m 0 C.length) (em:h m=some ⟨false,1,J05 C⟩) (hl:D.length+C.length≤1048576) (hc:Cs.length≤1048576)
 (hK:∀ s' h' n' kd' ko',n≤n'→s' 1=s 1→s' 4=s 4→h' 0=h 0→h' 2=h 2→CompSt (D++C) (Cs++[C]) kd' ko' (s' 5) (s' 3) h' n'→J40 Tryz.prog ks (.exit 2) s' h' n' Q):rC Tryz.prog cqa ks s h n Q:=by
 obtain ⟨x1,x2,x3,x4,x5,x6,rows,I,x7,x8,x9,x10⟩:=S
 have hrl:=J67 x8
 simp at hrl
 have ht:List.take C.length (J05 C)=J05 C:=List.take_of_length_le (by simp [J05])
 have ht2:List.take D.length (J05 D)=J05 D:=List.take_of_length_le (by simp [J05])
 have ht3:List.take Cs.length rows=rows:=List.take_of_length_le (by omega)
 have f1:¬ko=n∧¬n=ko∧¬kd=n∧¬n=kd∧¬m=n∧¬n=m∧¬kd=ko∧¬ko=kd∧¬kd=m∧¬m=kd∧¬ko=m∧¬m=ko:=by omega
 have f2:¬ko=n+1∧¬kd=n+1∧¬m=n+1∧¬ko=n+1+1∧¬kd=n+1+1∧¬m=n+1+1∧¬n=n+1+1:=by omega
 simp [cqa,s7,x1,x3,x7,x2,em,f1,f2,ht,ht2,ht3,hrl,J4c]
 have g1:¬(0:Nat)=n∧¬0=ko∧¬0=n+1∧¬0=m∧¬0=kd∧¬0=n+1+1∧¬2=n∧¬2=ko∧¬2=n+1∧¬2=m∧¬2=kd∧¬2=n+1+1∧¬n=1∧¬n=0∧¬n+1=0:=by omega
 have hf:∀ id∈I,¬id=n∧¬id=ko∧¬id=n+1∧¬id=m∧¬id=kd∧¬id=n+1+1:=fun id hi=>by have:=x10 id hi;omega
 refine ⟨by unfold LIM;omega,by unfold LIM;omega,hK _ _ _ (n+1+1) (n+1) (by omega) (by simp) (by simp) (by simp [g1]) (by simp [g1]) ⟨by simp,by simp [J05],by simp,by omega,by omega,by omega,rows++[[.ref m 0 C.length]],I++[m],by simp [f1,f2,show ¬n+1=kd∧¬n+1=m by omega],?_,?_,?_⟩⟩
 ·rw [List.map_append]
  refine Je1 (J69 _ (fun id hi=>by simp [hf id hi]) x8) ?_
  simp only [J1j,GRl,GR]
  exact ⟨_,[],[m],[],rfl,rfl,.inr ⟨m,[],by simp [J05],rfl,.inl ⟨by simp [f1,f2],rfl⟩⟩,rfl,rfl⟩
 ·rw [List.nodup_append]
  refine ⟨x9,by simp,?_⟩
  rintro a ha b hb rfl
  rw [List.mem_singleton.1 hb] at ha
  have:=x10 m ha
  omega
 ·intro id hi
  rcases List.mem_append.1 hi with hi|hi
  ·have:=x10 id hi;omega
  ·rw [List.mem_singleton.1 hi];omega
theorem Jqw {p:DProgram}(hp:J0d p≤1048576) (hpo:J3q p=true) {D:List Str}{Cs:List (List Str)}{kd ko:Nat}(hD:Done (J0i p) (J07 p) D) (hl:D.length<(J07 p).length) (hc:Cs.length≤1000) (hn:2<n) (S:CompSt D Cs kd ko (s 5) (s 3) h n) (s1:s 1 = .ptr 0 0 0) (s4:s 4 = .ref 2 0 (J07 p).length) (e0:h 0=some ⟨true,2,[J00 p]⟩) (e2:h 2=some ⟨false,1,J05 (J07 p)⟩)
 (hK:∀ s' h' n' kd' ko' a,(J07 p).find? (J66 (J0i p) (J07 p) D)=some a→2<n'→s' 1=s 1→s' 4=s 4→h' 0=h 0→h' 2=h 2→CompSt (D++J3n (J0i p) (J07 p) a) (Cs++[J3n (J0i p) (J07 p) a]) kd' ko' (s' 5) (s' 3) h' n'→J40 Tryz.prog ks .normal s' h' n' Q):rC Tryz.prog cqi ks s h n Q:=by
 obtain ⟨f1,f2,f3,f4⟩:=J46 hpo
 have hE:∀ e∈J0i p,e.2∈J07 p:=fun e he=>(f2 e he).2
 have hNl:(J07 p).length≤3:=by simp [J07];omega
 have hns:=Jes f1 hE hD hl
 have hDl:D.length≤3:=by omega
 simp [cqi]
 refine J0h [1,3,4,5] 6 (J07 p).length (fun i s h' n'=>n≤n'∧(∀ id,id<n→h' id=h id)∧((J07 p).drop i).find? (J66 (J0i p) (J07 p) D)=(J07 p).find? (J66 (J0i p) (J07 p) D)) (by unfold LIM;omega) (by simp) ⟨Nat.le_refl _,fun _ _=>rfl,by simp⟩ ?_ ?_
 ·rintro i st h1 m R hi hg hk s6 hw ⟨hnm,hf1,hJ⟩ hR hret hX
  simp at hk
  have c0:h1 0=some ⟨true,2,[J00 p]⟩:=by rw [hf1 0 (by omega),e0]
  have c2:h1 2=some ⟨false,1,J05 (J07 p)⟩:=by rw [hf1 2 (by omega),e2]
  have S1:CompSt D Cs kd ko (st 5) (st 3) h1 m:=by rw [hk.2.2.2,hk.2.1];exact S.mono hnm hf1
  rw [List.drop_eq_getElem_cons hi,List.find?_cons] at hJ
  refine J0c (J0e [1,3,4,5,6] (fun s=>s 24 = .bool true) (by simp [hk,s6,s4,hi,c2]) ?_)
  intro st1 hk1 s24
  simp at hk1
  refine J2i s24 (J0c (J1d ?_))
  have ha:(J07 p)[i]∈J07 p:=List.getElem_mem hi
  generalize hA:(J07 p)[i]=a at *
  have hcp:Jfr p a=J3n (J0i p) (J07 p) a:=Jei hpo ha
  have hs:=J72 hE ha
  have hopen:=Jn1 (done:=D) hpo hE ha
  rw [hcp] at hopen
  generalize hC:J3n (J0i p) (J07 p) a=C at *
  have hC0:0<C.length:=List.length_pos_of_mem hs
  have fr:∀ id,id<m→¬id=m:=by intro id _;omega
  refine J1q [1,3,4,5,6] (fun s h2 n2=>n2=m+1∧s 7 = .ref m 0 C.length∧h2 m=some ⟨false,1,J05 C⟩∧∀ id,id<m→h2 id=h1 id) ?_ ?_
  ·simp [cqd,hk1,hk,s1,s4,s6,hi,c0,c2,J00]
   rw [hA]
   refine J02 (Jbr p hp a) (by simp [J00]) ?_
   rintro r rfl
   rw [hcp]
   simp
   exact fun id hid=>by simp [fr id hid]
  rintro st2 h2 n2 hk2 ⟨rfl,s7,em,hf2⟩
  simp at hk2
  have d0:h2 0=some ⟨true,2,[J00 p]⟩:=by rw [hf2 0 (by omega),c0]
  have d2:h2 2=some ⟨false,1,J05 (J07 p)⟩:=by rw [hf2 2 (by omega),c2]
  have S2:CompSt D Cs kd ko (st2 5) (st2 3) h2 m:=by rw [hk2.2.2.2.1,hk2.2.1,hk1.2.2.2.1,hk1.2.1];exact S1.mono (Nat.le_refl _) hf2
  have v5:s 5 = .ref kd 0 D.length:=S.vd
  have vd:h2 kd=some ⟨false,1,J05 D⟩:=S2.hd
  have tD:List.take D.length (J05 D)=J05 D:=List.take_of_length_le (by simp [J05])
  have tC:List.take C.length (J05 C)=J05 C:=List.take_of_length_le (by simp [J05])
  refine J0e [1,3,4,5,6,7] (fun s=>s 45 = .bool (J66 (J0i p) (J07 p) D a)) ?_ ?_
  ·have htk:J66 (J0i p) (J07 p) D a=(!J1a D a&&Jjj p C D):=by unfold J66;rw [hopen]
   rw [htk]
   have g3:=Jb6 D a
   simp [cqg,hk2,hk1,hk,s4,s6,s7,v5,hi,d2,hA]
   first|refine J02 (J1n D a) (by first|simp [tD,vd,v5];done|rfl) ?_|refine J03 (J1n D a) (by first|simp [tD,vd,v5];done|rfl) ?_
   rintro r rfl
   simp
   cases h3:J1a D a
   ·rw [h3] at g3
    simp at g3
    have g4:¬0≤J0p (fun x=>x==a) D 0:=by omega
    simp [g3,g4,hk2,hk1,hk,s1,s7,v5,d0]
    refine J03 (Jio p hp C D hC0) ?_ ?_
    ·simp [tC,tD,vd,em]
    rintro r rfl
    simp
   ·rw [h3] at g3
    simp at g3
    have:¬J0p (fun x=>x==a) D 0<0:=by omega
    simp [this]
  intro st3 hk3 s45
  simp at hk3
  cases hT:J66 (J0i p) (J07 p) D a
  ·rw [hT] at s45 hJ
   simp at hJ
   simp [s45,hk3,hk2,hk1,s6,hw]
   exact hR _ _ _ (by simp [hk3,hk2,hk1,hk]) (by simp) ⟨by omega,fun id hid=>by rw [hf2 id (by omega),hf1 id hid],hJ⟩
  ·rw [hT] at s45 hJ
   simp at hJ
   simp [s45]
   refine Jpa (D:=D) (C:=C) (Cs:=Cs) (kd:=kd) (ko:=ko) (m:=m) ?_ (by omega) (by omega) (by simp [hk3,s7]) em ?_ (by omega) ?_
   ·rw [hk3.2.2.2.1,hk3.2.1];exact S2
   ·have:=Jc8 (E:=J0i p) (N:=J07 p) (a:=a)
    rw [hC] at this
    omega
   ·intro s' h' n' kd' ko' hn' w1 w4 y0 y2 SS
    refine hX _ _ _ _ ?_
    simp
    refine hK _ _ _ kd' ko' a hJ.symm (by omega) ?_ ?_ ?_ ?_ ?_
    ·rw [w1];simp [hk3,hk2,hk1,hk]
    ·rw [w4];simp [hk3,hk2,hk1,hk]
    ·rw [y0,d0,e0]
    ·rw [y2,d2,e2]
    ·rw [hC];exact SS
 ·rintro st h1 m R hk s6 ⟨hnm,hf1,hJ⟩ hret hX
  rw [List.drop_eq_nil_of_le (by omega)] at hJ
  rw [←hJ] at hns
  simp at hns
theorem Joh {p:DProgram}(hp:J0d p≤1048576) (hpo:J3q p=true) {kd ko:Nat}(hn:2<n) (S:CompSt [] [] kd ko (s 5) (s 3) h n) (s1:s 1 = .ptr 0 0 0) (s4:s 4 = .ref 2 0 (J07 p).length) (e0:h 0=some ⟨true,2,[J00 p]⟩) (e2:h 2=some ⟨false,1,J05 (J07 p)⟩)
 (hK:∀ s' h' n' D kd' ko',CompSt D (J1c p) kd' ko' (s' 5) (s' 3) h' n'→J40 Tryz.prog ks .normal s' h' n' Q):rC Tryz.prog cq4 ks s h n Q:=by
 obtain ⟨f1,f2,f3,f4⟩:=J46 hpo
 have hE:∀ e∈J0i p,e.2∈J07 p:=fun e he=>(f2 e he).2
 have hNl:(J07 p).length≤3:=by simp [J07];omega
 have hT:J1c p=J4i (J0i p) (J07 p) (J07 p).length []:=by unfold J1c;rw [hpo];rfl
 generalize J1c p=T at *
 simp [cq4]
 refine J77 (fun k st h n=>2<n∧st 1 = .ptr 0 0 0∧st 4 = .ref 2 0 (J07 p).length∧h 0=some ⟨true,2,[J00 p]⟩∧h 2=some ⟨false,1,J05 (J07 p)⟩∧∃ (D:List Str) (Cs:List (List Str)) (kd ko:Nat),Done (J0i p) (J07 p) D∧CompSt D Cs kd ko (st 5) (st 3) h n∧Cs++J4i (J0i p) (J07 p) k D=T∧(J07 p).length≤k+D.length∧Cs.length+k≤(J07 p).length) (J07 p).length ⟨hn,s1,s4,e0,e2,[],[],kd,ko,Done.nil,S,by simpa using hT.symm,by simp,by simp⟩ ?_
 rintro k st h1 m R ⟨hm,x1,x4,c0,c2,D,Cs,kd,ko,hD,S1,hJ,hk1,hk2⟩ hR hret hX
 have v5:=S1.vd
 have vd:=S1.hd
 by_cases hl:D.length<(J07 p).length
 ·refine J0c (J0e [1,3,4,5] (fun s=>s 20 = .bool true) ?_ ?_)
  ·simp [x1,c0,v5,vd]
   first|refine J02 (J11 p hp) (by first|simp;done|rfl) ?_|refine J03 (J11 p hp) (by first|simp;done|rfl) ?_
   rintro r rfl
   simp [hpo,x4,v5,vd,c2,hl]
  intro st1 hk20 s20
  simp at hk20
  refine J2i s20 (J1d ?_)
  obtain ⟨k',rfl⟩:∃ k',k=k'+1:=⟨k - 1,by omega⟩
  refine Jqw (D:=D) (Cs:=Cs) (kd:=kd) (ko:=ko) hp hpo hD hl (by omega) hm (by rw [hk20.2.2.2,hk20.2.1];exact S1) (by simp [hk20,x1]) (by simp [hk20,x4]) c0 c2 ?_
  intro s' h' n' kd' ko' a ha hn' w1 w4 y0 y2 SS
  obtain ⟨h1a,h1b⟩:=List.find?_some ha |> fun h=>(by unfold J66 at h;simpa using h:J1a D a=false∧Jcm (J0i p) (J07 p) D a=true)
  have haN:a∈J07 p:=List.mem_of_find?_eq_some ha
  have hs:=J72 hE haN
  have hpos:0<(J3n (J0i p) (J07 p) a).length:=List.length_pos_of_mem hs
  simp
  refine hR k' _ _ _ (by omega) ⟨hn',by rw [w1];simp [hk20,x1],by rw [w4];simp [hk20,x4],by rw [y0,c0],by rw [y2,c2],D++J3n (J0i p) (J07 p) a,Cs++[J3n (J0i p) (J07 p) a],kd',ko',hD.step f1 hE haN (fun hm=>by rw [J1m.2 hm] at h1a;cases h1a),SS,?_,by simp;omega,by simp;omega⟩
  rw [←hJ]
  simp [J4i,hl,ha]
 ·refine J0c (J0e [1,3,4,5] (fun s=>s 20 = .bool false) ?_ ?_)
  ·simp [x1,c0,v5,vd]
   first|refine J02 (J11 p hp) (by first|simp;done|rfl) ?_|refine J03 (J11 p hp) (by first|simp;done|rfl) ?_
   rintro r rfl
   simp [hpo,x4,v5,vd,c2,hl]
  intro st1 hk20 s20
  simp at hk20
  refine J2g s20 ?_
  refine hX _ _ _ _ ?_
  simp
  have hz:J4i (J0i p) (J07 p) k D=[]:=by cases k <;> simp [J4i,hl]
  rw [hz,List.append_nil] at hJ
  subst hJ
  exact hK _ _ _ D kd ko (by rw [hk20.2.2.2,hk20.2.1];exact S1)
end
theorem J74 (p:DProgram) (hp:J0d p≤1048576):Holds Tryz.prog 13 [.agg (J00 p)] (fun r=>r = .us 1 ((J1c p).map J1j)):=by
 refine J9d (bx:=true) Tryz.func13 a13_ok rfl (by simp [a13]) ?_
 simp [a13,cq0,cq1,cq2]
 first|refine J02 (J6m p hp) (by first|simp;done|rfl) ?_|refine J03 (J6m p hp) (by first|simp;done|rfl) ?_
 rintro r rfl
 simp [cq3]
 cases hpo:J3q p
 ·have hT:J1c p=[]:=by unfold J1c;rw [hpo];rfl
  rw [hT]
  simp [cq4]
  refine J77 (fun k st h n=>st 1 = .ptr 0 0 0∧st 3 = .ref 1 0 0∧h 0=some ⟨true,2,[J00 p]⟩∧h 1=some ⟨true,1,[]⟩) 0 (by simp) ?_
  rintro k st h1 m R ⟨x1,x3,c0,c1⟩ hR hret hX
  refine J0c (J0e [1,3] (fun s=>s 20 = .bool false) ?_ ?_)
  ·simp [x1,c0]
   first|refine J02 (J11 p hp) (by first|simp;done|rfl) ?_|refine J03 (J11 p hp) (by first|simp;done|rfl) ?_
   rintro r rfl
   simp [hpo]
  intro st1 hk20 s20
  simp at hk20
  refine J2g s20 ?_
  refine hX _ _ _ _ ?_
  simp [cq5,hk20,x3]
  exact ⟨.us 1 [],[1],by simp [GR,GRr,c1],by simp,by simp,rfl⟩
 ·refine Joh hp hpo (kd:=3) (ko:=1) (by simp) ⟨by simp,by simp [J05],by simp,by simp,by simp,by simp,[],[],by simp,by simp [GRr],by simp,by simp⟩ (by simp) (by simp) (by simp) (by simp) ?_
  intro s' h' n' D kd' ko' S
  obtain ⟨x1,x2,x3,x4,x5,x6,rows,I,x7,x8,x9,x10⟩:=S
  have hrl:=J67 x8
  simp at hrl
  simp [cq5,x3]
  refine ⟨.us 1 ((J1c p).map J1j),ko'::I,?_,?_,by simp,rfl⟩
  ·simp only [GR]
   exact .inr ⟨ko',I,by simp,rfl,.inr ⟨rows,x7,x8⟩⟩
  ·simp only [List.nodup_cons]
   exact ⟨fun hi=>(x10 _ hi).2.2.2.2 rfl,x9⟩
def a71:AFn:= ⟨15,[.t 4],(.seq (.reg [Zo 4 (.mv (.k (.bool false)))]) (.seq (.reg [Zl 5 false 1 1,Zv 6 0,Zo 7 (.mget (.bool false) (.t 5) (.t 6)),Zo 8 (.un .not (.t 7)),Zv 9 8,⟨some 10,.ld false 1 (.t 2),(some (9,true))⟩,⟨some 11,.mv (.t 0),(some (9,true))⟩,⟨some 12,.call (.k (.fn (.func 72) [] [])) [.t 10,.t 11],(some (9,true))⟩,⟨some 13,.un .not (.t 12),(some (9,true))⟩,Zo 14 (.pick (.t 9) (.t 13) (.k (.bool false))),Zv 4 14]) .ret))⟩
theorem a71_ok:J08 Tryz.prog Tryz.f71=some a71:=by kernel_rfl
section
variable {ks:List Kt}{s:Env}{h:Heap}{n:Nat}{Q:Fin}
theorem Jqb {kb k7 km m:Nat}{D C:List Str}(hb:h kb=some ⟨true,1,[[.mp km]]⟩) (hm:h km=some ⟨true,0,Jag D⟩) (h7:h k7=some ⟨true,1,[[.ref m 0 C.length]]⟩) (hc:h m=some ⟨false,1,J05 C⟩) (x:Str):Jce Tryz.prog 71 [] [.ptr kb 0 0,.ptr k7 0 0] h n (.str x) (.bool (!J1a D x && !J1a C x)):=by
 intro K hK
 have tC:List.take C.length (J05 C)=J05 C:=List.take_of_length_le (by simp [J05])
 refine J14 Tryz.func71 a71_ok rfl (by simp [a71]) ?_
 simp [a71,hb,hm,J6b]
 cases h1:J1a D x
 ·rw [h1] at hK
  simp [h7]
  first|refine J02 (J30 C x) (by first|simp [hc,tC];done|rfl) ?_|refine J03 (J30 C x) (by first|simp [hc,tC];done|rfl) ?_
  rintro r rfl
  simp
  simpa using hK
 ·rw [h1] at hK
  simpa using hK
end
def cc0:AC:=(.reg [Zo 1 (.boxv (.t 0)),Zo 2 (.mv (.k (.nil 1)))])
def cc1:AC:=(.seq (.reg [Zl 10 true 2 1,Zc 11 67 [.t 10],Zo 12 (.un .not (.t 11))]) (.cond (.t 12) (.seq (.reg [Zo 2 (.mv (.k (.nil 1)))]) .ret) .skip))
def cc2:AC:=(.reg [Zo 3 (.mv (.k (.nil 1)))])
def cc3:AC:=(.reg [Zo 13 (.mmk),Zo 4 (.box [.undef]),⟨no,.st 1 (.t 4) (.t 13),no⟩])
def K0k:AC:=(.reg [Zo 25 (.ixa 4 (.t 21) (.t 23)),Zl 26 true 4 25,Zo 6 (.box [(.str []),(.nil 1),(.bool false),(.nil 2)]),⟨no,.st 4 (.t 6) (.t 26),no⟩])
def K1u:AC:=(.reg [Zl 27 true 2 1,Zf 28 0 6,Zl 29 false 1 28,Zc 30 68 [.t 27,.t 29],Zo 7 (.box [(.nil 1)]),⟨no,.st 1 (.t 7) (.t 30),no⟩])
def ccg:AC:=(.reg [Zl 31 false 1 4,Zf 32 0 6,Zl 33 false 1 32,Zo 34 (.mget (.bool false) (.t 31) (.t 33)),Zv 35 34,⟨some 36,.ld true 2 (.t 1),(some (35,false))⟩,⟨some 37,.fld 0 (.t 6),(some (35,false))⟩,⟨some 38,.ld false 1 (.t 37),(some (35,false))⟩,⟨some 39,.call (.k (.fn (.func 70) [] [])) [.t 36,.t 38],(some (35,false))⟩,⟨some 40,.mkf (.func 71) [] [.t 4,.t 7],(some (35,false))⟩,⟨some 41,.call (.k (.fn (.func 69) [] [])) [.t 39,.t 40],(some (35,false))⟩,Zo 42 (.pick (.t 35) (.k (.bool true)) (.t 41))])
def cca:AC:=(.reg [Zv 43 3,Zl 44 false 1 7,Zo 45 (.bslb 1 [.t 44]),Zo 46 (.appb 24 1 (.t 43) (.t 45)),Zv 3 46])
def ccm:AC:=(.seq (.reg [Zl 47 false 1 7,Zo 48 (.len false (.t 47)),Zo 49 (.mv (.k (.int .i64 0)))]) (.blk 4 (.loop (.seq (.reg [Zo 50 (.bin .lss (.t 49) (.t 48))]) (.seq (.cond (.t 50) .skip (.exit 4)) (.seq (.blk 5 (.seq (.reg [Zo 51 (.ixa 1 (.t 47) (.t 49)),Zl 52 false 1 51,Zv 9 52]) (.reg [Zl 53 false 1 4,Zv 54 9,⟨no,.mput (.t 53) (.t 54) (.k (.bool true)),no⟩]))) (.reg [Zo 55 (.bin .add (.t 49) (.k (.int .i64 1))),Zv 49 55])))))))
def cci:AC:=(.seq (.reg [Zf 20 0 1,Zl 21 false 1 20,Zo 22 (.len false (.t 21)),Zo 23 (.mv (.k (.int .i64 0)))]) (.blk 2 (.loop (.seq (.reg [Zo 24 (.bin .lss (.t 23) (.t 22))]) (.seq (.cond (.t 24) .skip (.exit 2)) (.seq (.blk 3 (.seq  K0k (.seq  K1u (.seq (.seq  ccg (.cond (.t 42) (.exit 3) .skip)) (.seq  cca (.seq ccm (.exit 2))))))) (.reg [Zo 56 (.bin .add (.t 23) (.k (.int .i64 1))),Zv 23 56])))))))
def cc4:AC:=(.blk 0 (.loop (.seq (.seq (.reg [Zl 14 false 1 4,Zo 15 (.mlen (.t 14)),Zf 16 0 1,Zl 17 false 1 16,Zo 18 (.len false (.t 17)),Zo 19 (.bin .lss (.t 15) (.t 18))]) (.cond (.t 19) .skip (.exit 0))) (.blk 1 cci))))
def cc5:AC:=(.reg [Zv 57 3,Zv 2 57])
def a15:AFn:=⟨58,[.t 2],(.seq cc0 (.seq cc1 (.seq cc2 (.seq cc3 (.seq cc4 (.seq cc5 .ret))))))⟩
theorem a15_ok:J7a true Tryz.prog Tryz.f15=some a15:=by kernel_rfl
def Jbs (Cs:List (List Str)) (vo:AV) (h:Heap) (n:Nat):Prop:=∃ rows I,GRr h (Cs.map J1j) rows I∧I.Nodup∧(∀ id∈I,2<id∧id<n)∧((Cs=[]∧vo = .nil 1)∨∃ ko,vo = .ref ko 0 Cs.length∧h ko=some ⟨true,1,rows⟩∧2<ko∧ko<n∧ko∉I)
theorem Jbs.mono {Cs:List (List Str)}{vo:AV}{h h':Heap}{n n':Nat}(x:Jbs Cs vo h n) (hn:n≤n') (hf:∀ id,2<id→id<n→h' id=h id):Jbs Cs vo h' n':=by
 obtain ⟨rows,I,x1,x2,x3,x4⟩:=x
 refine ⟨rows,I,J69 _ (fun id hi=>hf id (x3 id hi).1 (x3 id hi).2) x1,x2,fun id hi=>⟨(x3 id hi).1,by have:=(x3 id hi).2;omega⟩,?_⟩
 rcases x4 with x4|⟨ko,y1,y2,y3,y4,y5⟩
 ·exact .inl x4
 ·exact .inr ⟨ko,y1,by rw [hf ko y3 y4,y2],y3,by omega,y5⟩
section
variable {ks:List Kt}{s:Env}{h:Heap}{n:Nat}{Q:Fin}
theorem Jot {C:List Str}{Cs:List (List Str)}{m k7 b:Nat}(O:Jbs Cs (s 3) h b) (hb:b≤m∧b≤k7∧2<b) (hm:m<n∧k7<n) (s7:s 7 = .ptr k7 0 0) (e7:h k7=some ⟨true,1,[[.ref m 0 C.length]]⟩) (em:h m=some ⟨false,1,J05 C⟩) (hc:Cs.length≤1000)
 (hK:∀ s' h' n',(∀ j∈[1,4,7],s' j=s j)→n≤n'→(∀ id,id≤2∨b≤id∧id<n→h' id=h id)→Jbs (Cs++[C]) (s' 3) h' n'→J40 Tryz.prog ks .normal s' h' n' Q):rC Tryz.prog cca ks s h n Q:=by
 obtain ⟨rows,I,x1,x2,x3,x4⟩:=O
 have hrl:=J67 x1
 simp at hrl
 have ht3:List.take Cs.length rows=rows:=List.take_of_length_le (by omega)
 have hI:∀ id∈I,¬id=n∧¬id=n+1∧¬id=m:=fun id hi=>by have:=x3 id hi;omega
 have fin:∀ h':Heap,(∀ id∈I,h' id=h id)→h' m=h m→h' (n+1)=some ⟨true,1,rows++[[.ref m 0 C.length]]⟩→Jbs (Cs++[C]) (.ref (n+1) 0 (Cs.length+1)) h' (n+1+1):=by
  intro h' k1 k2 k3
  refine ⟨rows++[[.ref m 0 C.length]],I++[m],?_,?_,?_,.inr ⟨n+1,by simp,k3,by omega,by omega,?_⟩⟩
  ·rw [List.map_append]
   refine Je1 (J69 _ k1 x1) ?_
   simp only [J1j,GRl,GR]
   exact ⟨_,[],[m],[],rfl,rfl,.inr ⟨m,[],by simp [J05],rfl,.inl ⟨by rw [k2,em],rfl⟩⟩,rfl,rfl⟩
  ·rw [List.nodup_append]
   refine ⟨x2,by simp,?_⟩
   rintro a ha b hb rfl
   rw [List.mem_singleton.1 hb] at ha
   have:=x3 m ha
   omega
  ·intro id hi
   rcases List.mem_append.1 hi with hi|hi
   ·have:=x3 id hi;omega
   ·rw [List.mem_singleton.1 hi];omega
  ·intro hi
   rcases List.mem_append.1 hi with hi|hi
   ·have:=x3 _ hi;omega
   ·have:=List.mem_singleton.1 hi;omega
 have f1:¬k7=n∧¬n=k7∧¬m=n∧¬m=n+1:=by omega
 rcases x4 with ⟨rfl,vo⟩|⟨ko,vo,hko,k1,k2,k3⟩
 ·have hr0:rows=[]:=List.eq_nil_of_length_eq_zero (by simpa using hrl)
  subst hr0
  simp [cca,vo,s7,e7,J4c]
  refine ⟨by decide,hK _ _ _ (by simp) (by omega) (fun id hid => ?_) (fin _ (fun id hi=>by simp [hI id hi]) (by simp [f1]) (by simp))⟩
  have:¬id=n∧¬id=n+1:=by omega
  simp [this]
 ·have f2:¬ko=n∧¬n=ko∧¬m=ko∧¬n+1=ko:=by omega
  simp [cca,vo,s7,e7,J4c,hko,f2,ht3,hrl]
  refine ⟨by unfold LIM;omega,hK _ _ _ (by simp) (by omega) (fun id hid => ?_) (fin _ (fun id hi => ?_) (by simp [f1,f2]) (by simp))⟩
  ·have:¬id=n∧¬id=n+1∧¬id=ko:=by omega
   simp [this]
  ·have:¬id=ko:=fun e=>k3 (e ▸ hi)
   simp [hI id hi,this]
theorem Jos {D C:List Str}{m k7:Nat}(hnd:(D++C).Nodup) (hC:C.length≤1000) (h2:2<m∧2<k7) (s4:s 4 = .ptr 2 0 0) (s7:s 7 = .ptr k7 0 0) (e2:h 2=some ⟨true,1,[[.mp 1]]⟩) (e1:h 1=some ⟨true,0,Jag D⟩) (e7:h k7=some ⟨true,1,[[.ref m 0 C.length]]⟩) (em:h m=some ⟨false,1,J05 C⟩)
 (hK:∀ s' h',(∀ j∈[1,3,4],s' j=s j)→(∀ id,id≠1→h' id=h id)→h' 1=some ⟨true,0,Jag (D++C)⟩→J40 Tryz.prog ks .normal s' h' n Q):rC Tryz.prog ccm ks s h n Q:=by
 simp [ccm,s7,e7,em]
 intro _
 refine J0h [1,3,4,47,48] 49 C.length (fun j s h' n'=>n'=n∧(∀ id,id≠1→h' id=h id)∧h' 1=some ⟨true,0,Jag (D++C.take j)⟩) (by unfold LIM;omega) (by simp) ⟨rfl,fun _ _=>rfl,by simp [e1]⟩ ?_ ?_
 ·rintro j st h1 m1 R hj hjg hk s49 hw ⟨rfl,hf,hM⟩ hR hret _
  simp at hk
  have c2:h1 2=some ⟨true,1,[[.mp 1]]⟩:=by rw [hf 2 (by omega),e2]
  have cm:h1 m=some ⟨false,1,J05 C⟩:=by rw [hf m (by omega),em]
  have hnew:J1a (D++C.take j) C[j]=false:=by
   refine J98.2 fun hm => ?_
   rw [List.nodup_append] at hnd
   rcases List.mem_append.1 hm with hm|hm
   ·exact hnd.2.2 _ hm _ (List.getElem_mem hj) rfl
   ·obtain ⟨i,hi,he⟩:=List.mem_iff_getElem.1 hm
    simp at hi he
    have:=(List.getElem_inj hnd.2.1).1 he
    omega
  have hms:=Jc9 (D++C.take j) C[j]
  rw [hnew] at hms
  simp at hms
  simp [hk,s49,hj,cm,s4,c2,hM,hms,hw]
  refine hR _ _ _ (by simp [hk]) (by simp) ⟨rfl,fun id hid=>by simp [hid,hf id hid],by simp⟩
 ·rintro st h1 m1 R hk s49 ⟨rfl,hf,hM⟩ hret hX
  simp at hk
  simp [hk,s49]
  refine hX _ _ _ _ ?_
  simp
  exact hK _ _ (by simp [hk]) hf (by rw [hM,List.take_length])
end
abbrev SEnv:=List (Str×DLin)
def Jv6 (d:DLin) (E:SEnv) (x:Str):DLin:=((E.find? fun e=>e.1==x).map (·.2)).getD d
def Jtu:SEnv→Str→DLin→SEnv
 | [],x,l=>[(x,l)]
 | e::E,x,l=>if e.1=x then (x,l)::E else e::Jtu E x l
def Jri (i n:Int):DLin:=if inR n 0 8&&inR i 0 (n - 1) then ⟨0,(List.replicate n.toNat 0).set i.toNat 1⟩ else Jq8
def Jx4 (a:DLin) (k:Int) (b:DLin):DLin:=(Jjk a k b).getD Jq8
def sum0:DSum:=⟨0,[]⟩
structure MS where
 E:SEnv
 nx:Nat
 rows:List DLin
 pars:List DLin
 args:List (List DLin)
def K0f (E:SEnv) (n:Nat) (s:DSum):DLin:=s.Terms.foldl (fun o t=>Jx4 o t.Coeff (Jv6 Jq8 E t.Name)) (Jap s.Const n)
def argI (E:SEnv) (n:Nat) (a:DArg):DLin:=
 if a.Lst then (if a.Base=[] then Jap a.Heads.length n else Jx4 (Jap a.Heads.length n) 1 (Jv6 Jq8 E a.Base)) else K0f E n (a.Heads.getD 0 sum0)
def iPar (n:Nat) (st:MS) (x:Str):MS:=
 ⟨Jtu st.E x (Jri st.nx n),st.nx+1,st.rows++(if J0f x then [Jri st.nx n] else []),st.pars++[Jri st.nx n],st.args⟩
def K1s (n:Nat) (st:MS) (q:DPattern):SEnv:=Jtu st.E q.Head (Jri st.nx n)
def K1o (n:Nat) (st:MS) (q:DPattern):DLin:=(Jyp (Jv6 Jq8 (K1s n st q) q.Lst) (-1)).getD Jq8
def iPat (n:Nat) (st:MS) (q:DPattern):MS:=
 if q.Cons then ⟨Jtu (K1s n st q) q.Tail (K1o n st q),st.nx+1,st.rows++[K1o n st q],st.pars,st.args⟩
 else ⟨st.E,st.nx,st.rows++[Jx4 (Jap 0 n) (-1) (Jv6 Jq8 st.E q.Lst)],st.pars,st.args⟩
def Jzk (p:DProgram) (n:Nat) (st:MS) (c:DCall):MS:=
 ⟨Jtu st.E c.Bind (Jri st.nx n),st.nx+1,st.rows++(if ((J24 p.Functions c.Func).getD fn0).ListResult then [Jri st.nx n] else []),st.pars,st.args++[c.Args.map (argI st.E n)]⟩
def Jxd (l:List DPattern):Nat:=(l.filter (·.Cons)).length
def Jlu (r:DRule) (f:DFunction):Nat:=f.Params.length+r.Calls.length+Jxd r.Patterns
def st1 (r:DRule) (f:DFunction):MS:=f.Params.foldl (iPar (Jlu r f)) ⟨[],0,[],[],[]⟩
def st3 (r:DRule) (f:DFunction) (pre:List DLin):MS:=
 r.Patterns.foldl (iPat (Jlu r f)) ⟨(st1 r f).E,(st1 r f).nx,(st1 r f).rows++pre,(st1 r f).pars,(st1 r f).args⟩
def Jm4 (s:MS) (l:List DLin):MS:=⟨s.E,s.nx,s.rows++l,s.pars,s.args⟩
def st5 (p:DProgram) (r:DRule) (f:DFunction) (pre:List DLin):MS:=
 r.Calls.foldl (Jzk p (Jlu r f)) (Jm4 (st3 r f pre) (r.Guards.map (K0f (st3 r f pre).E (Jlu r f))))
theorem Jj7 {P:Program}{f:FuncId}{xs xs':List AV}{h:Heap}{n:Nat}{Qr:AV→Prop}{K:AV→Heap→Nat→Prop}(hh:Holds P f xs' Qr) (hb:bwl xs h=some xs') (hK:∀ r,Qr r→K (dr r) h n):J1u P f xs h n K:=by
 refine ⟨hh.1,fun base w0 w L F vs H hv => ?_⟩
 refine (hh.2 w vs (J4v H xs hv hb)).mono ?_
 rintro e w' ⟨v,r,S,rfl,hq,hcl,hbel,hr,hnd,hS⟩
 obtain ⟨g1,g2⟩:=H.after hbel
 exact ⟨v,dr r,L,n,F,h,rfl,g1,g2,Jpo _ _ _ (Jkc r v S hcl (fun b hb ho=>absurd (H.own_lt ho) (by have:=(hS b hb).1;omega)) hr),hK r hq⟩
theorem Jn5 (E:List (Str×Str)) (N D:List Str) (a:Str):((J21 E N a).any fun x => !J1a D x && !J1a (J3n E N a) x) = !Jcm E N D a:=by
 unfold Jcm
 rw [List.not_all_eq_any_not]
 simp [Bool.not_or]
section
variable {ks:List Kt}{s:Env}{h:Heap}{n:Nat}{Q:Fin}
theorem Jps {p:DProgram}(hp:J0d p≤1048576) (hpo:J3q p=true) {D:List Str}{Cs:List (List Str)}(hD:Done (J0i p) (J07 p) D) (hl:D.length<(J07 p).length) (hc:Cs.length≤1000) (hn:2<n) (O:Jbs Cs (s 3) h n) (s1:s 1 = .ptr 0 0 0) (s4:s 4 = .ptr 2 0 0) (e0:h 0=some ⟨true,2,[J00 p]⟩) (e1:h 1=some ⟨true,0,Jag D⟩) (e2:h 2=some ⟨true,1,[[.mp 1]]⟩)
 (hK:∀ s' h' n' a,(J07 p).find? (J66 (J0i p) (J07 p) D)=some a→2<n'→s' 1=s 1→s' 4=s 4→h' 0=h 0→h' 2=h 2→h' 1=some ⟨true,0,Jag (D++J3n (J0i p) (J07 p) a)⟩→Jbs (Cs++[J3n (J0i p) (J07 p) a]) (s' 3) h' n'→J40 Tryz.prog ks .normal s' h' n' Q):rC Tryz.prog cci ks s h n Q:=by
 obtain ⟨f1,f2,f3,f4⟩:=J46 hpo
 have hE:∀ e∈J0i p,e.2∈J07 p:=fun e he=>(f2 e he).2
 have hNe:(J07 p).length=p.Functions.length:=by simp [J07]
 have hns:=Jes f1 hE hD hl
 simp [cci,s1,e0,J00]
 try intro _
 refine J0h [1,3,4,21,22] 23 p.Functions.length (fun i s h' n'=>n≤n'∧(∀ id,id<n→h' id=h id)∧((J07 p).drop i).find? (J66 (J0i p) (J07 p) D)=(J07 p).find? (J66 (J0i p) (J07 p) D)) (by unfold LIM;omega) (by simp) ⟨Nat.le_refl _,fun _ _=>rfl,by simp⟩ ?_ ?_
 ·rintro i st h1 m R hi hg hk s23 hw ⟨hnm,hf1,hJ⟩ hR hret hX
  simp at hk
  have hi':i<(J07 p).length:=by omega
  have c0:h1 0=some ⟨true,2,[J00 p]⟩:=by rw [hf1 0 (by omega),e0]
  have c1:h1 1=some ⟨true,0,Jag D⟩:=by rw [hf1 1 (by omega),e1]
  have c2:h1 2=some ⟨true,1,[[.mp 1]]⟩:=by rw [hf1 2 (by omega),e2]
  have O1:Jbs Cs (st 3) h1 m:=by rw [hk.2.1];exact O.mono hnm fun id _ hid=>hf1 id hid
  rw [List.drop_eq_getElem_cons hi',List.find?_cons] at hJ
  have hname:(J07 p)[i]=(p.Functions[i]).Name:=by simp [J07]
  have ha:(p.Functions[i]).Name∈J07 p:=by rw [←hname];exact List.getElem_mem hi'
  rw [hname] at hJ
  refine J0e [1,3,4,21,22,23] (fun s=>s 24 = .bool true) (by simp [hk,s23,hi]) ?_
  intro st1 hk1 s24
  simp at hk1
  refine J4m s24 (J0c (J1d ?_))
  have fr:∀ id,id<m→¬id=m:=by intro id _;omega
  refine J1q [1,3,4,21,22,23] (fun s h2 n2=>n2=m+1∧s 6 = .ptr m 0 0∧h2 m=some ⟨true,4,[J04 (p.Functions[i]'hi)]⟩∧∀ id,id<m→h2 id=h1 id) ?_ ?_
  ·simp [K0k,hk1,hk,s23,hi]
   exact fun id hid=>by simp [fr id hid]
  rintro st2 h2 n2 hk2 ⟨rfl,s6,e6,hf2⟩
  simp at hk2
  generalize hA:(p.Functions[i]'hi).Name=a at *
  have hcp:Jfr p a=J3n (J0i p) (J07 p) a:=Jei hpo ha
  have hs:=J72 hE ha
  have hrp:J0q p a=J21 (J0i p) (J07 p) a:=by unfold J0q;rw [hpo,J1m.2 ha];rfl
  have hany:=Jn5 (J0i p) (J07 p) D a
  have hst:=Done.step (done:=D) (a:=a) f1 hE hD ha
  have hcl:=Jc8 (E:=J0i p) (N:=J07 p) (a:=a)
  have d0:h2 0=some ⟨true,2,[J00 p]⟩:=by rw [hf2 0 (by omega),c0]
  generalize hC:J3n (J0i p) (J07 p) a=C at *
  have fr2:∀ id,id<m+1→¬id=m+1∧¬id=m+2∧¬id=m+1+1:=by intro id _;omega
  refine J1q [1,3,4,6,21,22,23] (fun s h3 n3=>n3=m+3∧s 7 = .ptr (m+2) 0 0∧h3 (m+2)=some ⟨true,1,[[.ref (m+1) 0 C.length]]⟩∧h3 (m+1)=some ⟨false,1,J05 C⟩∧∀ id,id<m+1→h3 id=h2 id) ?_ ?_
  ·simp [K1u,hk2,hk1,hk,s1,s6,e6,d0,J04,hA]
   refine J03 (Jec p hp a) (by simp [J00]) ?_
   rintro r rfl
   rw [hcp]
   simp
   exact fun id hid=>by simp [fr2 id hid]
  rintro st3 h3 n3 hk3 ⟨rfl,s7,e7,em,hf3⟩
  simp at hk3
  have g0:h3 0=some ⟨true,2,[J00 p]⟩:=by rw [hf3 0 (by omega),d0]
  have g1:h3 1=some ⟨true,0,Jag D⟩:=by rw [hf3 1 (by omega),hf2 1 (by omega),c1]
  have g2:h3 2=some ⟨true,1,[[.mp 1]]⟩:=by rw [hf3 2 (by omega),hf2 2 (by omega),c2]
  have g6:h3 m=some ⟨true,4,[J04 (p.Functions[i]'hi)]⟩:=by rw [hf3 m (by omega),e6]
  refine J0c (J0e [1,3,4,6,7,21,22,23] (fun s=>s 42 = .bool (!J66 (J0i p) (J07 p) D a)) ?_ ?_)
  ·unfold J66
   simp [ccg,hk3,hk2,hk1,hk,s4,s6,s7,s1,g0,g1,g2,g6,J04,hA,J6b]
   cases h4:J1a D a
   ·simp
    refine Jj7 (J39 p hp a) (by simp [J00]) ?_
    rintro _ rfl
    simp
    rw [hk3.2.2.1,hk2.2.2.1,hk1.2.2.1,hk.2.2.1,s4,s7,hrp]
    refine J15 (p:=fun x => !J1a D x && !J1a C x) (rowOf:=fun x=>[.str x]) (eltOf := .str) Tryz.func69 a69_ok rfl Tryz.func150 a150_ok rfl (fun x=>by simp) _ (fun x _=>Jqb g2 g1 e7 em x) ?_
    rw [hany]
    simp
   ·simp
  intro st4 hk4 s42
  simp at hk4
  cases hT:J66 (J0i p) (J07 p) D a
  ·rw [hT] at s42 hJ
   simp at hJ
   simp [s42,hk4,hk3,hk2,hk1,s23,hw]
   exact hR _ _ _ (by simp [hk4,hk3,hk2,hk1,hk]) (by simp) ⟨by omega,fun id hid=>by rw [hf3 id (by omega),hf2 id (by omega),hf1 id hid],hJ⟩
  ·rw [hT] at s42 hJ
   simp at hJ
   simp [s42]
   refine J0c (Jot (C:=C) (Cs:=Cs) (m:=m+1) (k7:=m+2) (b:=m) ?_ (by omega) (by omega) (by simp [hk4,s7]) e7 em hc ?_)
   ·rw [hk4.2.1,hk3.2.1,hk2.2.1,hk1.2.1]
    exact O1.mono (Nat.le_refl _) fun id _ hid=>by rw [hf3 id (by omega),hf2 id hid]
   intro st5 h5 n5 hk5 hn5 hf5 O5
   simp at hk5
   rw [Jb1]
   have hnD:a∉D:=fun hm=>by unfold J66 at hT;rw [J1m.2 hm] at hT;cases hT
   have hnd:(D++C).Nodup:=(hst hnD).nd
   refine J0c (Jos (D:=D) (C:=C) (m:=m+1) (k7:=m+2) hnd (by omega) (by omega) (by simp [hk5,hk4,hk3,hk2,hk1,hk,s4]) (by simp [hk5,hk4,s7]) (by rw [hf5 2 (by omega),g2]) (by rw [hf5 1 (by omega),g1]) (by rw [hf5 _ (by omega),e7]) (by rw [hf5 _ (by omega),em]) ?_)
   intro st6 h6 hk6 hf6 hM
   simp at hk6
   simp
   refine hX _ _ _ _ ?_
   simp
   refine hK _ _ _ a hJ.symm (by omega) ?_ ?_ ?_ ?_ ?_ ?_
   ·simp [hk6,hk5,hk4,hk3,hk2,hk1,hk]
   ·simp [hk6,hk5,hk4,hk3,hk2,hk1,hk]
   ·rw [hf6 0 (by omega),hf5 0 (by omega),g0,e0]
   ·rw [hf6 2 (by omega),hf5 2 (by omega),g2,e2]
   ·rw [hC];exact hM
   ·rw [hC,hk6.2.1];exact O5.mono (Nat.le_refl _) fun id h2 _=>hf6 id (by omega)
 ·rintro st h1 m R hk s23 ⟨hnm,hf1,hJ⟩ hret hX
  rw [List.drop_eq_nil_of_le (by omega)] at hJ
  rw [←hJ] at hns
  simp at hns
end
end Go.Proofs.YtoclolkigjbcgaaGreat

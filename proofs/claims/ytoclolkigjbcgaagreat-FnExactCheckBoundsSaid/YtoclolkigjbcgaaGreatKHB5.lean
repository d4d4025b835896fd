/- Contracts: the obligation of a rule, of the reference. -/
import Derived.Test.YtoclolkigjbcgaaGreatKHE1
import Derived.Test.YtoclolkigjbcgaaGreatKC1
namespace Go.Proofs.YtoclolkigjbcgaaGreat
set_option maxRecDepth 40000
set_option maxHeartbeats 4000000
open Go Go.RowKit Go.Proofs
set_option linter.all false
def K6h:AC:=(.draw (.op ⟨some 63,.ld true 6 (.t 8),no⟩ (.op ⟨some 64,.ld true 2 (.t 3),no⟩ (.op ⟨some 65,.fld 1 (.t 4),no⟩ (.op ⟨some 66,.ld false 1 (.t 65),no⟩ (.op ⟨some 67,.fld 3 (.t 9),no⟩ (.op ⟨some 68,.ld false 1 (.t 67),no⟩ (.op ⟨some 69,.mv (.t 12),no⟩ (.op ⟨some 70,.ixa 3 (.t 68) (.t 69),no⟩ (.op ⟨some 71,.fld 1 (.t 70),no⟩ (.op ⟨some 72,.ld false 1 (.t 71),no⟩ (.op ⟨some 74,.mv (.t 12),no⟩ (.both (.op ⟨some 73,.call (.k (.fn (.func 186) [] [])) [.t 64,.t 66,.t 72],no⟩ (.both (.op ⟨some 75,.call (.k (.fn (.func 174) [] [])) [.t 63,.t 73,.t 74],no⟩ (.op ⟨some 62,.mv (.t 75),no⟩ (.op ⟨some 76,.ext (.t 62) 0,no⟩ (.op ⟨some 77,.ext (.t 62) 1,no⟩ (.op ⟨some 13,.box [(.int .i64 0),(.nil 1)],no⟩ (.hop ⟨no,.st 2 (.t 13) (.t 76),no⟩ [] (.op ⟨some 14,.mv (.t 77),no⟩ .fin))))))) (.op ⟨some 13,.box [(.int .i64 0),(.nil 1)],no⟩ (.op ⟨some 75,.call (.k (.fn (.func 174) [] [])) [.t 63,.t 73,.t 74],no⟩ (.op ⟨some 62,.mv (.t 75),no⟩ (.op ⟨some 76,.ext (.t 62) 0,no⟩ (.op ⟨some 77,.ext (.t 62) 1,no⟩ (.hop ⟨no,.st 2 (.t 13) (.t 76),no⟩ [] (.op ⟨some 14,.mv (.t 77),no⟩ .fin))))))))) (.op ⟨some 13,.box [(.int .i64 0),(.nil 1)],no⟩ (.op ⟨some 73,.call (.k (.fn (.func 186) [] [])) [.t 64,.t 66,.t 72],no⟩ (.op ⟨some 75,.call (.k (.fn (.func 174) [] [])) [.t 63,.t 73,.t 74],no⟩ (.op ⟨some 62,.mv (.t 75),no⟩ (.op ⟨some 76,.ext (.t 62) 0,no⟩ (.op ⟨some 77,.ext (.t 62) 1,no⟩ (.hop ⟨no,.st 2 (.t 13) (.t 76),no⟩ [] (.op ⟨some 14,.mv (.t 77),no⟩ .fin)))))))))))))))))))))
def K6x:AC:=(.reg [⟨some 82,.ld true 2 (.t 10),no⟩,⟨some 83,.ld true 2 (.t 13),no⟩,⟨some 84,.call (.k (.fn (.func 98) [] [])) [.t 82,(.k (.int .i64 (-1))),.t 83],no⟩,⟨some 81,.mv (.t 84),no⟩,⟨some 85,.ext (.t 81) 0,no⟩,⟨some 86,.ext (.t 81) 1,no⟩,⟨no,.st 2 (.t 10) (.t 85),no⟩,⟨some 11,.mv (.t 86),no⟩])
def uy0:AC:=(.reg [⟨some 3,.boxv (.t 0),no⟩,⟨some 4,.boxv (.t 1),no⟩,⟨some 6,.box [(.int .i64 0),(.nil 2),(.int .i64 0),(.nil 1)],no⟩,⟨some 7,.mv (.k (.bool false)),no⟩])
def uy1:AC:=(.reg [⟨some 15,.ld true 2 (.t 3),no⟩,⟨some 16,.mv (.t 2),no⟩,⟨some 17,.call (.k (.fn (.func 184) [] [])) [.t 15,.t 16],no⟩,⟨some 8,.box [(.int .i64 0),(.nil 2),(.nil 2),(.nil 1),(.int .i64 0),(.nil 1)],no⟩,⟨no,.st 6 (.t 8) (.t 17),no⟩])
def uy2:AC:=(.reg [⟨some 18,.fld 1 (.t 3),no⟩,⟨some 19,.ld false 1 (.t 18),no⟩,⟨some 20,.mv (.t 2),no⟩,⟨some 21,.ixa 7 (.t 19) (.t 20),no⟩,⟨some 22,.ld true 7 (.t 21),no⟩,⟨some 9,.box [(.str []),(.nil 4),(.nil 2),(.nil 3),(.bool false),(.nil 2),(.str [])],no⟩,⟨no,.st 7 (.t 9) (.t 22),no⟩])
def uy3:AC:=(.draw (.op ⟨some 24,.ld true 6 (.t 8),no⟩ (.op ⟨some 25,.ld true 2 (.t 3),no⟩ (.op ⟨some 26,.fld 1 (.t 4),no⟩ (.op ⟨some 27,.ld false 1 (.t 26),no⟩ (.op ⟨some 28,.fld 0 (.t 9),no⟩ (.op ⟨some 29,.ld false 1 (.t 28),no⟩ (.op ⟨some 31,.fld 2 (.t 8),no⟩ (.op ⟨some 32,.ld false 1 (.t 31),no⟩ (.both (.op ⟨some 30,.call (.k (.fn (.func 186) [] [])) [.t 25,.t 27,.t 29],no⟩ (.both (.op ⟨some 33,.call (.k (.fn (.func 185) [] [])) [.t 24,.t 30,.t 32],no⟩ (.op ⟨some 23,.mv (.t 33),no⟩ (.op ⟨some 34,.ext (.t 23) 0,no⟩ (.op ⟨some 35,.ext (.t 23) 1,no⟩ (.op ⟨some 10,.box [(.int .i64 0),(.nil 1)],no⟩ (.hop ⟨no,.st 2 (.t 10) (.t 34),no⟩ [] (.op ⟨some 11,.mv (.t 35),no⟩ .fin))))))) (.op ⟨some 10,.box [(.int .i64 0),(.nil 1)],no⟩ (.op ⟨some 33,.call (.k (.fn (.func 185) [] [])) [.t 24,.t 30,.t 32],no⟩ (.op ⟨some 23,.mv (.t 33),no⟩ (.op ⟨some 34,.ext (.t 23) 0,no⟩ (.op ⟨some 35,.ext (.t 23) 1,no⟩ (.hop ⟨no,.st 2 (.t 10) (.t 34),no⟩ [] (.op ⟨some 11,.mv (.t 35),no⟩ .fin))))))))) (.op ⟨some 10,.box [(.int .i64 0),(.nil 1)],no⟩ (.op ⟨some 30,.call (.k (.fn (.func 186) [] [])) [.t 25,.t 27,.t 29],no⟩ (.op ⟨some 33,.call (.k (.fn (.func 185) [] [])) [.t 24,.t 30,.t 32],no⟩ (.op ⟨some 23,.mv (.t 33),no⟩ (.op ⟨some 34,.ext (.t 23) 0,no⟩ (.op ⟨some 35,.ext (.t 23) 1,no⟩ (.hop ⟨no,.st 2 (.t 10) (.t 34),no⟩ [] (.op ⟨some 11,.mv (.t 35),no⟩ .fin))))))))))))))))))
def uy4:AC:=(.seq (.reg [⟨some 36,.mv (.t 11),no⟩,⟨some 37,.un .not (.t 36),no⟩]) (.cond (.t 37) (.seq (.reg [⟨some 38,.build [(.int .i64 0),(.nil 2),(.int .i64 0),(.nil 1)] [],no⟩,⟨no,.st 4 (.t 6) (.t 38),no⟩,⟨some 7,.mv (.k (.bool false)),no⟩]) .ret) .skip))
def uy5:AC:=(.draw (.op ⟨some 40,.ld true 2 (.t 10),no⟩ (.op ⟨some 41,.ld true 7 (.t 9),no⟩ (.op ⟨some 42,.fld 0 (.t 4),no⟩ (.op ⟨some 43,.ld false 1 (.t 42),no⟩ (.op ⟨some 45,.fld 0 (.t 8),no⟩ (.op ⟨some 46,.fld 0 (.t 45),no⟩ (.op ⟨some 47,.ld false 1 (.t 46),no⟩ (.op ⟨some 44,.call (.k (.fn (.func 187) [] [])) [.t 41,.t 43],no⟩ (.op ⟨some 48,.call (.k (.fn (.func 99) [] [])) [.t 44,.t 47],no⟩ (.op ⟨some 49,.call (.k (.fn (.func 98) [] [])) [.t 40,(.k (.int .i64 (-1))),.t 48],no⟩ (.op ⟨some 39,.mv (.t 49),no⟩ (.op ⟨some 50,.ext (.t 39) 0,no⟩ (.op ⟨some 51,.ext (.t 39) 1,no⟩ (.hop ⟨no,.st 2 (.t 10) (.t 50),no⟩ [] (.op ⟨some 11,.mv (.t 51),no⟩ .fin))))))))))))))))
def uy6:AC:=(.seq (.reg [⟨some 12,.mv (.k (.int .i64 0)),no⟩]) (.blk 0 (.loop (.seq (.seq (.reg [⟨some 52,.mv (.t 12),no⟩,⟨some 53,.fld 3 (.t 9),no⟩,⟨some 54,.ld false 1 (.t 53),no⟩,⟨some 55,.len false (.t 54),no⟩,⟨some 56,.bin .lss (.t 52) (.t 55),no⟩,⟨some 57,.mv (.t 56),no⟩,⟨some 58,.mv (.t 11),(some (57,true))⟩,⟨some 59,.pick (.t 57) (.t 58) (.k (.bool false)),no⟩]) (.cond (.t 59) .skip (.exit 0))) (.seq (.blk 1 (.seq K6h (.seq (.seq (.reg [⟨some 78,.mv (.t 14),no⟩,⟨some 79,.un .not (.t 78),no⟩]) (.cond (.t 79) (.seq (.reg [⟨some 80,.build [(.int .i64 0),(.nil 2),(.int .i64 0),(.nil 1)] [],no⟩,⟨no,.st 4 (.t 6) (.t 80),no⟩,⟨some 7,.mv (.k (.bool false)),no⟩]) .ret) .skip))  K6x))) (.reg [⟨some 60,.mv (.t 12),no⟩,⟨some 61,.bin .add (.t 60) (.k (.int .i64 1)),no⟩,⟨some 12,.mv (.t 61),no⟩]))))))
def uy7:AC:=(.reg [⟨some 87,.fld 0 (.t 8),no⟩,⟨some 88,.ld true 2 (.t 87),no⟩,⟨some 89,.ld true 2 (.t 10),no⟩,⟨some 90,.build [(.int .i64 0),(.nil 2),(.int .i64 0),(.nil 1)] [(0,(2,(.t 88))),(2,(2,(.t 89)))],no⟩,⟨some 91,.mv (.t 11),no⟩,⟨no,.st 4 (.t 6) (.t 90),no⟩,⟨some 7,.mv (.t 91),no⟩])
def a100:AFn:=⟨92,[(.c 6 true 4),.t 7],(.seq uy0 (.seq uy1 (.seq uy2 (.seq uy3 (.seq uy4 (.seq uy5 (.seq uy6 (.seq uy7 .ret))))))))⟩
theorem a100_ok:J0a Tryz.prog Tryz.f100=some a100:=by kernel_rfl
section
variable {ks:List Kt}{s:Env}{h h':Heap}{n:Nat}{Q:Fin}
theorem Jxd {p:DProgram}(hp:J0f p≤1048576) (hpo:J2l p=true) {i:Nat}(hi:i<p.Rules.length) {md:DModel}(hmd:J4v p.Rules[i] (Jkv p p.Rules[i])=md) (s2:s 2 = .int .i64 i) (s3:s 3 = .ptr 0 0 0) (e0:h 0=some ⟨true,2,[J01 p]⟩)
 (hK:∀ s' h',(∀ j∈[2,3,4,6],s' j=s j)→s' 8 = .ptr (n+4) 0 0→J6j md n h'→(∀ id,id<n→h' id=h id)→J2b Tryz.prog ks .normal s' h' (n+5) Q):rC Tryz.prog uy1 ks s h n Q:=by
 simp [uy1,s2,s3,e0]
 first|refine J00 (J8j p hp hpo hi) (by first|simp [J01];done|rfl) ?_|refine J02 (J8j p hp hpo hi) (by first|simp [J01];done|rfl) ?_
 rintro r rfl
 rw [hmd]
 simp [J1z]
 refine hK _ _ (by simp) (by simp) ?_ ?_
 ·have:¬n=n+1+1+1∧¬n=n+1+1:=by omega
  simp [J6j,this]
 ·intro id hid
  have:¬id=n∧¬id=n+1∧¬id=n+2∧¬id=n+3∧¬id=n+4:=by omega
  simp [this]
theorem Jxj {p:DProgram}(hp:J0f p≤1048576) {b:DBounds}{md:DModel}{r:DRule}{k9 q:Nat}(hf:(J0t p.Functions r.Func).isSome=true) (hb:b.Lins.length=p.Functions.length) (s3:s 3 = .ptr 0 0 0) (s4:s 4 = .ptr 1 0 0) (s9:s 9 = .ptr k9 0 0) (s8:s 8 = .ptr (q+4) 0 0) (e0:h 0=some ⟨true,2,[J01 p]⟩) (e1:h 1=some ⟨true,2,[J0d b]⟩) (e9:h k9=some ⟨true,7,[J0c r]⟩) (M:J6j md q h) (hq:q+4<n) (h1:1<n) (h9:k9<n)
 (hK:∀ s' h',(∀ j∈[2,3,4,6,8,9],s' j=s j)→s' 11 = .bool (J22 (J56 p b r.Func) md.Params md.System.N).isSome→(∃ k q,s' 10 = .ptr k 0 0∧n≤k∧n≤q∧k<n+2∧q<n+2∧J3x ((J22 (J56 p b r.Func) md.Params md.System.N).getD J1b) k q h')→(∀ id,id<n→h' id=h id)→J2b Tryz.prog ks .normal s' h' (n+2) Q):rC Tryz.prog uy3 ks s h n Q:=by
 obtain ⟨m1,m2,m3,m4,m5⟩:=M
 have fr:∀ id,id<n→¬id=n∧¬id=n+1:=by intro id _;omega
 have ne:¬n=n+1∧¬n+1=n:=by omega
 have ne2:¬0=n∧¬1=n∧¬k9=n∧¬q=n∧¬q+1=n∧¬q+2=n∧¬q+3=n∧¬q+4=n:=by omega
 simp [uy3,s3,s4,s8,s9,e0,e1,e9,m1,J0d,J0c]
 constructor
 ·refine Jc0 hp hf hb ?_
  generalize J56 p b r.Func=l at *
  simp [J07]
  constructor
  ·skip
   first|refine J00 (J4n md l md.Params) (by first|simp [m1,m2,m3,m4,m5,J07,J0p];done|rfl) ?_|refine J02 (J4n md l md.Params) (by first|simp [m1,m2,m3,m4,m5,J07,J0p];done|rfl) ?_
   rintro r rfl
   rw [J0l]
   generalize J22 l md.Params md.System.N=T at *
   simp [J08,ne]
   exact hK _ _ (by simp) (by simp) ⟨n+1,n,by simp,by omega,by omega,by omega,by omega,by simp [J3x,ne]⟩ fun id hid=>by simp [fr id hid]
  ·skip
   first|refine J00 (J4n md l md.Params) (by first|simp [m1,m2,m3,m4,m5,J07,J0p,ne2];done|rfl) ?_|refine J02 (J4n md l md.Params) (by first|simp [m1,m2,m3,m4,m5,J07,J0p,ne2];done|rfl) ?_
   rintro r rfl
   rw [J0l]
   generalize J22 l md.Params md.System.N=T at *
   simp [J08,ne]
   exact hK _ _ (by simp) (by simp) ⟨n,n+1,by simp,by omega,by omega,by omega,by omega,by simp [J3x,ne]⟩ fun id hid=>by simp [fr id hid]
 ·refine Jc0 hp hf hb ?_
  generalize J56 p b r.Func=l at *
  simp [J07]
  first|refine J00 (J4n md l md.Params) (by first|simp [m1,m2,m3,m4,m5,J07,J0p,ne2];done|rfl) ?_|refine J02 (J4n md l md.Params) (by first|simp [m1,m2,m3,m4,m5,J07,J0p,ne2];done|rfl) ?_
  rintro r rfl
  rw [J0l]
  generalize J22 l md.Params md.System.N=T at *
  simp [J08,ne]
  exact hK _ _ (by simp) (by simp) ⟨n,n+1,by simp,by omega,by omega,by omega,by omega,by simp [J3x,ne]⟩ fun id hid=>by simp [fr id hid]
theorem Jxa {b:DBounds}{r:DRule}{md:DModel}{t:DLin}{k9 k q e:Nat}(hw:J39 r≤1048576) (ht:J14 t md.System.N=true) (s4:s 4 = .ptr 1 0 0) (s8:s 8 = .ptr (e+4) 0 0) (s9:s 9 = .ptr k9 0 0) (s10:s 10 = .ptr k 0 0) (e1:h 1=some ⟨true,2,[J0d b]⟩) (e9:h k9=some ⟨true,7,[J0c r]⟩) (M:J6j md e h) (B:J3x t k q h) (hk:k<n) (hq:q<n)
 (hK:∀ s' h' n' q',(∀ j∈[2,3,4,6,8,9,10],s' j=s j)→s' 11 = .bool (J4b t (-(J3y r b.Kind))).isSome→J3x ((J4b t (-(J3y r b.Kind))).getD J1b) k q' h'→n≤n'→n≤q'→q'<n'→(∀ id,id<n→id≠k→h' id=h id)→J2b Tryz.prog ks .normal s' h' n' Q):rC Tryz.prog uy5 ks s h n Q:=by
 obtain ⟨b1,b2⟩:=B
 obtain ⟨m1,m2,m3,m4,m5⟩:=M
 have fr:∀ id,id<n→¬id=n∧¬id=n+1:=by intro id _;omega
 have ne:¬k=n∧¬n=k∧¬k=n+1∧¬n+1=k∧¬q=n:=by omega
 have hc:=Jpt (r:=r) (k:=b.Kind) hw
 have hma:=Jj1 (k:=J3y r b.Kind) ht hc
 simp [uy5,s4,s8,s9,s10,e1,e9,b1,m1,J0d]
 first|refine J00 (Jew r b.Kind hw) (by first|simp;done|rfl) ?_|refine J02 (Jew r b.Kind hw) (by first|simp;done|rfl) ?_
 rintro r rfl
 simp
 first|refine J00 (J13 (J3y r b.Kind) md.System.N) (by first|simp;done|rfl) ?_|refine J02 (J13 (J3y r b.Kind) md.System.N) (by first|simp;done|rfl) ?_
 rintro r rfl
 generalize J05 (J3y r b.Kind) md.System.N=c at *
 simp [J08]
 first|refine J00 (J0m t (-1) c) (by first|simp [b2,J07,ne];done|rfl) ?_|refine J02 (J0m t (-1) c) (by first|simp [b2,J07,ne];done|rfl) ?_
 rintro r rfl
 rw [hma,J0l]
 generalize J4b t (-(J3y r b.Kind))=T at *
 simp [J08,ne,b1,s10]
 refine hK _ _ _ (n+1) (by simp) (by simp) ?_ (by omega) (by omega) (by omega) fun id hid hne=>by simp [fr id hid,hne]
 simp [J3x,ne]
theorem Jqn {p:DProgram}(hp:J0f p≤1048576) {b:DBounds}{md:DModel}{r:DRule}{k9 q j:Nat}(hj:j<r.Calls.length) (hf:(J0t p.Functions (r.Calls[j]).Func).isSome=true) (hb:b.Lins.length=p.Functions.length) (s3:s 3 = .ptr 0 0 0) (s4:s 4 = .ptr 1 0 0) (s9:s 9 = .ptr k9 0 0) (s12:s 12 = .int .i64 j) (s8:s 8 = .ptr (q+4) 0 0) (e0:h 0=some ⟨true,2,[J01 p]⟩) (e1:h 1=some ⟨true,2,[J0d b]⟩) (e9:h k9=some ⟨true,7,[J0c r]⟩) (M:J6j md q h) (hq:q+4<n) (h1:1<n) (h9:k9<n)
 (hK:∀ s' h',(∀ j∈[2,3,4,6,8,9,10,11,12],s' j=s j)→s' 14 = .bool (J2s md (J56 p b (r.Calls[j]).Func) j).isSome→(∃ k q,s' 13 = .ptr k 0 0∧n≤k∧n≤q∧k<n+2∧q<n+2∧J3x ((J2s md (J56 p b (r.Calls[j]).Func) j).getD J1b) k q h')→(∀ id,id<n→h' id=h id)→J2b Tryz.prog ks .normal s' h' (n+2) Q):rC Tryz.prog K6h ks s h n Q:=by
 obtain ⟨m1,m2,m3,m4,m5⟩:=M
 have fr:∀ id,id<n→¬id=n∧¬id=n+1:=by intro id _;omega
 have ne:¬n=n+1∧¬n+1=n:=by omega
 have ne2:¬0=n∧¬1=n∧¬k9=n∧¬q=n∧¬q+1=n∧¬q+2=n∧¬q+3=n∧¬q+4=n:=by omega
 simp [K6h,s3,s4,s8,s9,s12,e0,e1,e9,m1,J0d,J0c,J0s,hj]
 constructor
 ·refine Jc0 hp hf hb ?_
  generalize J56 p b (r.Calls[j]).Func=l at *
  simp [J07]
  constructor
  ·skip
   first|refine J00 (J33 md l (j:Int)) (by first|simp [m1,m2,m3,m4,m5,J07,J0p];done|rfl) ?_|refine J02 (J33 md l (j:Int)) (by first|simp [m1,m2,m3,m4,m5,J07,J0p];done|rfl) ?_
   rintro r rfl
   rw [J0l]
   generalize J2s md l (j:Int)=T at *
   simp [J08,ne]
   exact hK _ _ (by simp) (by simp) ⟨n+1,n,by simp,by omega,by omega,by omega,by omega,by simp [J3x,ne]⟩ fun id hid=>by simp [fr id hid]
  ·skip
   first|refine J00 (J33 md l (j:Int)) (by first|simp [m1,m2,m3,m4,m5,J07,J0p,ne2];done|rfl) ?_|refine J02 (J33 md l (j:Int)) (by first|simp [m1,m2,m3,m4,m5,J07,J0p,ne2];done|rfl) ?_
   rintro r rfl
   rw [J0l]
   generalize J2s md l (j:Int)=T at *
   simp [J08,ne]
   exact hK _ _ (by simp) (by simp) ⟨n,n+1,by simp,by omega,by omega,by omega,by omega,by simp [J3x,ne]⟩ fun id hid=>by simp [fr id hid]
 ·refine Jc0 hp hf hb ?_
  generalize J56 p b (r.Calls[j]).Func=l at *
  simp [J07]
  first|refine J00 (J33 md l (j:Int)) (by first|simp [m1,m2,m3,m4,m5,J07,J0p,ne2];done|rfl) ?_|refine J02 (J33 md l (j:Int)) (by first|simp [m1,m2,m3,m4,m5,J07,J0p,ne2];done|rfl) ?_
  rintro r rfl
  rw [J0l]
  generalize J2s md l (j:Int)=T at *
  simp [J08,ne]
  exact hK _ _ (by simp) (by simp) ⟨n,n+1,by simp,by omega,by omega,by omega,by omega,by simp [J3x,ne]⟩ fun id hid=>by simp [fr id hid]
theorem Jrq {t x:DLin}{k q k5 q5:Nat}(s10:s 10 = .ptr k 0 0) (s13:s 13 = .ptr k5 0 0) (B:J3x t k q h) (B5:J3x x k5 q5 h) (hk:k<n) (hq:q<n)
 (hK:∀ s' h',(∀ j∈[2,3,4,6,8,9,10,12],s' j=s j)→s' 11 = .bool (J0j t (-1) x).isSome→J3x ((J0j t (-1) x).getD J1b) k n h'→(∀ id,id<n→id≠k→h' id=h id)→J2b Tryz.prog ks .normal s' h' (n+1) Q):rC Tryz.prog K6x ks s h n Q:=by
 obtain ⟨b1,b2⟩:=B
 obtain ⟨b3,b4⟩:=B5
 have fr:∀ id,id<n→¬id=n:=by intro id _;omega
 have ne:¬k=n∧¬n=k:=by omega
 simp [K6x,s10,s13,b1,b3]
 first|refine J00 (J0m t (-1) x) (by first|simp [b2,b4,J07];done|rfl) ?_|refine J02 (J0m t (-1) x) (by first|simp [b2,b4,J07];done|rfl) ?_
 rintro r rfl
 rw [J0l]
 generalize J0j t (-1) x=T at *
 simp [J08,ne,b1,s10]
 refine hK _ _ (by simp) (by simp) ?_ fun id hid hne=>by simp [fr id hid,hne]
 simp [J3x,ne]
end
theorem Jow {p:DProgram}{md:DModel}{F T:Option DLin}{st:Env}{h:Heap}{m k q:Nat}(x6:st 6 = .ptr 2 0 0) (x8:st 8 = .ptr 7 0 0) (x10:st 10 = .ptr k 0 0) (x11:st 11 = .bool T.isSome) (e2:h 2=some ⟨true,4,[[.int .i64 0,.nil 2,.int .i64 0,.nil 1]]⟩) (M:J6j md 3 h) (B:J3x (T.getD J1b) k q h) (hq:7<q) (hT:T=F) :
 rC Tryz.prog uy7 [Kt.seq .ret] st h m (K08 [RV.c 6 true 4,RV.t 7] (J90 md F)):=by
 subst hT
 obtain ⟨m1,m2,m3,m4,m5⟩:=M
 obtain ⟨b1,b2⟩:=B
 have nq:¬3=q∧¬q=3∧¬q=2:=by omega
 simp [uy7,x8,x10,x6,x11,m1,m2,b1,b2,e2,nq,J90]
 exact ⟨⟨md.System,T.getD J1b⟩,by simp [J06],fun t ht=>by subst ht;rfl⟩
theorem Jmn (p:DProgram) (hp:J0f p≤1048576) (b:DBounds) (hB:J2e p b=true) {i:Nat}(hi:i<p.Rules.length) :
 Holds Tryz.prog 100 [.agg (J01 p),.agg (J0d b),i64 i] (J90 (mdR p i) (J54 p b (mdR p i) p.Rules[i])):=by
 obtain ⟨hpo,hin,hb⟩:=J68 hB
 obtain ⟨f,hff,RI⟩:=Jcb hpo (List.getElem_mem hi)
 have hfc:=Jhr RI.calls
 have hcl:=RI.ncalls
 have hf:(J0t p.Functions (p.Rules[i]).Func).isSome=true:=by rw [hff];rfl
 have hwr:J39 p.Rules[i]≤1048576:=by
  have:=J3d (w:=J39) (List.getElem_mem hi)
  unfold J0f J7v at hp
  omega
 obtain ⟨t0,ht0,hok0⟩:=Jo3 hB hi
 have hmd:J4v p.Rules[i] (Jkv p p.Rules[i])=mdR p i:=by
  rw [Jtn hpo hi hff];unfold Jkv;rw [hff];rfl
 refine J03 Tryz.func100 a100_ok rfl (by simp [a100]) ?_
 simp [a100,uy0]
 refine Jxd hp hpo hi hmd (by simp) (by simp) (by simp) ?_
 clear hmd
 intro st1 h1 hk1 s8 M hf1
 simp at hk1
 generalize mdR p i=md at *
 have f0:=hf1 0 (by omega)
 have f1:=hf1 1 (by omega)
 have f2:=hf1 2 (by omega)
 simp at f0 f1 f2
 simp
 rw [←Ja9]
 refine J15 [2,3,4,6,8] (fun s h2 n2=>n2=9∧s 9 = .ptr 8 0 0∧h2 8=some ⟨true,7,[J0c (p.Rules[i]'hi)]⟩∧∀ id,id<8→h2 id=h1 id) ?_ ?_
 ·simp [uy2,hk1,f0,J01,hi]
  intro id hid
  have:¬id=8:=by omega
  simp [this]
 rintro st2 h2 _ hk2 ⟨rfl,s9,e8,hf2⟩
 simp at hk2
 generalize p.Rules[i]=r at *
 have g0:=hf2 0 (by omega)
 have g1:=hf2 1 (by omega)
 have g2:=hf2 2 (by omega)
 rw [f0] at g0
 rw [f1] at g1
 rw [f2] at g2
 obtain ⟨m1,m2,m3,m4,m5⟩:=M
 have M2:J6j md 3 h2:=⟨by rw [hf2 7 (by omega)];exact m1,by rw [hf2 3 (by omega)];exact m2,by rw [hf2 4 (by omega)];exact m3,by rw [hf2 5 (by omega)];exact m4,by rw [hf2 6 (by omega)];exact m5⟩
 clear m1 m2 m3 m4 m5
 refine J0b (Jxj hp (p:=p) (b:=b) (md:=md) (r:=r) (k9:=8) (q:=3) hf hb (by simp [hk2,hk1]) (by simp [hk2,hk1]) s9 (by simp [hk2,s8]) g0 g1 e8 M2 (by omega) (by omega) (by omega) ?_)
 rintro st3 h3 hk3 s11 ⟨k10,q10,s10,hk10,hq10,hk10',hq10',B3⟩ hf3
 simp at hk3
 rw [ht0] at s11 B3
 simp at s11 B3
 have j1:=hf3 1 (by omega)
 have j8:=hf3 8 (by omega)
 rw [g1] at j1
 rw [e8] at j8
 obtain ⟨m1,m2,m3,m4,m5⟩:=M2
 have M3:J6j md 3 h3:=⟨by rw [hf3 7 (by omega)];exact m1,by rw [hf3 3 (by omega)];exact m2,by rw [hf3 4 (by omega)];exact m3,by rw [hf3 5 (by omega)];exact m4,by rw [hf3 6 (by omega)];exact m5⟩
 simp [uy4,s11]
 refine Jxa (b:=b) (r:=r) (md:=md) (t:=t0) (k9:=8) (k:=k10) (q:=q10) (e:=3) hwr hok0 (by simp [hk3,hk2,hk1]) (by simp [hk3,hk2,s8]) (by simp [hk3,s9]) (by simp [s10]) j1 j8 M3 B3 hk10' hq10' ?_
 intro st4 h4 n4 q4 hk4 s11' B4 hn4 hq4 hq4' hf4
 simp at hk4
 have hr0:J54 p b md r=Jbz p b md 0 r.Calls (J4b t0 (-(J3y r b.Kind))):=by
  unfold J54 Jpv
  rw [ht0];rfl
 rw [hr0]
 clear hr0
 generalize J4b t0 (-(J3y r b.Kind))=T0 at *
 have low:∀ id,id<9→h4 id=h2 id:=fun id hid=>by rw [hf4 id (by omega) (by omega),hf3 id hid]
 have M4:J6j md 3 h4:=⟨by rw [low 7 (by omega)];exact m1,by rw [low 3 (by omega)];exact m2,by rw [low 4 (by omega)];exact m3,by rw [low 5 (by omega)];exact m4,by rw [low 6 (by omega)];exact m5⟩
 clear m1 m2 m3 m4 m5 M3
 have l0:=low 0 (by omega)
 have l1:=low 1 (by omega)
 have l2:=low 2 (by omega)
 have l8:=low 8 (by omega)
 rw [g0] at l0
 rw [g1] at l1
 rw [g2] at l2
 rw [e8] at l8
 have x3:st4 3 = .ptr 0 0 0:=by simp [hk4,hk3,hk2,hk1]
 have x4:st4 4 = .ptr 1 0 0:=by simp [hk4,hk3,hk2,hk1]
 have x6:st4 6 = .ptr 2 0 0:=by simp [hk4,hk3,hk2,hk1]
 have x8:st4 8 = .ptr 7 0 0:=by simp [hk4,hk3,hk2,s8]
 have x9:st4 9 = .ptr 8 0 0:=by simp [hk4,hk3,s9]
 have x10:st4 10 = .ptr k10 0 0:=by simp [hk4,s10]
 clear hk4 hk3 hk2 hk1 hf4 hf3 hf2 low
 simp [uy6]
 generalize hF:Jbz p b md 0 r.Calls T0=F at *
 refine J0o [3,4,6,8,9,10] 12 r.Calls.length (fun j s h m=>8<m∧k10<m∧h 0=some ⟨true,2,[J01 p]⟩∧h 1=some ⟨true,2,[J0d b]⟩∧h 2=some ⟨true,4,[[.int .i64 0,.nil 2,.int .i64 0,.nil 1]]⟩∧h 8=some ⟨true,7,[J0c r]⟩∧J6j md 3 h∧∃ T q,8<q∧q≠k10∧q<m∧s 11 = .bool T.isSome∧J3x (T.getD J1b) k10 q h∧Jbz p b md j (r.Calls.drop j) T=F) (by unfold LIM;omega) (by simp) ⟨by omega,by omega,l0,l1,l2,l8,M4,T0,q4,by omega,by omega,by omega,by simp [s11'],B4,by simpa using hF⟩ ?_ ?_
 ·rintro j st h m R hj hg hk s12 hw' ⟨m8,mk,e0,e1,e2,e8,M,T,q,hq8,hqk,hqm,s11,B,hJ⟩ hR hret hX
  simp at hk
  cases T with
  | none=>
   rw [J80] at hJ
   refine J0b (J0i [3,4,6,8,9,10,11,12] (fun s=>s 59 = .bool false) (by simp [hk,x9,s12,s11,e8,J0c,hj]) ?_)
   intro st1 hk1 s59
   simp at hk1
   refine J23 s59 ?_
   refine hX _ _ _ _ ?_
   simp
   exact Jow (p:=p) (T:=Option.none) (k:=k10) (q:=q) (by simp [hk1,hk,x6]) (by simp [hk1,hk,x8]) (by simp [hk1,hk,x10]) (by simp [hk1,s11]) e2 M B (by omega) hJ
  | some t=>
  rw [List.drop_eq_getElem_cons hj] at hJ
  simp only [Jbz,Option.bind_some] at hJ
  have hfj:=hfc _ (List.getElem_mem hj)
  refine J0b (J0i [3,4,6,8,9,10,11,12] (fun s=>s 59 = .bool true) (by simp [hk,x9,s12,s11,e8,J0c,hj]) ?_)
  intro st1 hk1 s59
  simp at hk1
  refine J29 s59 (J0b (J1c ?_))
  obtain ⟨m1,m2,m3,m4,m5⟩:=M
  refine J0b (Jqn hp (p:=p) (b:=b) (md:=md) (r:=r) (k9:=8) (q:=3) (j:=j) hj hfj hb (by simp [hk1,hk,x3]) (by simp [hk1,hk,x4]) (by simp [hk1,hk,x9]) (by simp [hk1,s12]) (by simp [hk1,hk,x8]) e0 e1 e8 ⟨m1,m2,m3,m4,m5⟩ (by omega) (by omega) (by omega) ?_)
  rintro st3 h3 hk3 s14 ⟨k13,q13,s13,hk13,hq13,hk13',hq13',B13⟩ hfr3
  simp at hk3
  have B3:J3x t k10 q h3:=⟨by rw [hfr3 k10 mk];exact B.1,by rw [hfr3 q hqm];exact B.2⟩
  have z2:=hfr3 2 (by omega)
  rw [e2] at z2
  have y6:st3 6 = .ptr 2 0 0:=by simp [hk3,hk1,hk,x6]
  have y10:st3 10 = .ptr k10 0 0:=by simp [hk3,hk1,hk,x10]
  generalize r.Calls[j]=c at *
  generalize hX':J2s md (J56 p b c.Func) (j:Int)=X at *
  cases X with
  | none=>
   simp only [Option.bind_none,J80] at hJ
   subst hJ
   simp [y6,z2,s14]
   refine hret _ _ _ ?_
   simp [J90,y6]
   exact ⟨⟨⟨0,[]⟩,⟨0,[]⟩⟩,by simp [J06,J0k]⟩
  | some x=>
   simp only [Option.bind_some] at hJ
   simp at B13
   simp [s14]
   refine Jrq (t:=t) (x:=x) (k:=k10) (q:=q) (k5:=k13) (q5:=q13) (by simp [y10]) (by simp [s13]) B3 B13 (by omega) (by omega) ?_
   intro st4 h4 hk4 t11 B4 hfr4
   simp at hk4
   simp [hk4,hk3,hk1,s12,hw']
   have low4:∀ id,id<9→h4 id=h id:=fun id hid=>by rw [hfr4 id (by omega) (by omega),hfr3 id (by omega)]
   refine hR _ _ _ (by simp [hk4,hk3,hk1,hk]) (by simp) ⟨by omega,by omega,by rw [low4 0 (by omega),e0],by rw [low4 1 (by omega),e1],by rw [low4 2 (by omega),e2],by rw [low4 8 (by omega),e8],⟨by rw [low4 7 (by omega)];exact m1,by rw [low4 3 (by omega)];exact m2,by rw [low4 4 (by omega)];exact m3,by rw [low4 5 (by omega)];exact m4,by rw [low4 6 (by omega)];exact m5⟩,_,m+2,by omega,by omega,by omega,by simp [t11],B4,hJ⟩
 ·rintro st h m R hk s12 ⟨m8,mk,e0,e1,e2,e8,M,T,q,hq8,hqk,hqm,s11,B,hJ⟩ _ hX
  simp at hk
  rw [List.drop_eq_nil_of_le (by omega)] at hJ
  simp only [Jbz] at hJ
  refine J0b (J0i [3,4,6,8,9,10,11] (fun s=>s 59 = .bool false) (by simp [hk,x9,s12,s11,e8,J0c]) ?_)
  intro st1 hk1 s59
  simp at hk1
  refine J23 s59 ?_
  refine hX _ _ _ _ ?_
  simp
  exact Jow (p:=p) (T:=T) (k:=k10) (q:=q) (by simp [hk1,hk,x6]) (by simp [hk1,hk,x8]) (by simp [hk1,hk,x10]) (by simp [hk1,s11]) e2 M B (by omega) hJ
def K5w:AC:=(.draw (.op ⟨some 33,.ld true 2 (.t 2),no⟩ (.op ⟨some 34,.fld 0 (.t 2),no⟩ (.op ⟨some 35,.ld false 1 (.t 34),no⟩ (.op ⟨some 36,.mv (.t 8),no⟩ (.op ⟨some 37,.ixa 4 (.t 35) (.t 36),no⟩ (.op ⟨some 38,.fld 0 (.t 37),no⟩ (.op ⟨some 39,.ld false 1 (.t 38),no⟩ (.both (.op ⟨some 40,.call (.k (.fn (.func 97) [] [])) [.t 33,.t 39],no⟩ (.op ⟨some 32,.mv (.t 40),no⟩ (.op ⟨some 41,.ext (.t 32) 0,no⟩ (.op ⟨some 42,.ext (.t 32) 1,no⟩ (.op ⟨some 9,.box [(.int .i64 0),(.nil 2)],no⟩ (.hop ⟨no,.st 2 (.t 9) (.t 41),no⟩ [] (.op ⟨some 10,.mv (.t 42),no⟩ .fin))))))) (.op ⟨some 9,.box [(.int .i64 0),(.nil 2)],no⟩ (.op ⟨some 40,.call (.k (.fn (.func 97) [] [])) [.t 33,.t 39],no⟩ (.op ⟨some 32,.mv (.t 40),no⟩ (.op ⟨some 41,.ext (.t 32) 0,no⟩ (.op ⟨some 42,.ext (.t 32) 1,no⟩ (.hop ⟨no,.st 2 (.t 9) (.t 41),no⟩ [] (.op ⟨some 10,.mv (.t 42),no⟩ .fin))))))))))))))))
def K7k:AC:=(.draw (.op ⟨some 44,.fld 1 (.t 3),no⟩ (.op ⟨some 45,.ld false 1 (.t 44),no⟩ (.op ⟨some 46,.mv (.t 8),no⟩ (.op ⟨some 47,.ixa 2 (.t 45) (.t 46),no⟩ (.op ⟨some 48,.ld true 2 (.t 47),no⟩ (.op ⟨some 49,.mv (.t 7),no⟩ (.op ⟨some 50,.fld 0 (.t 9),no⟩ (.op ⟨some 51,.ld false 1 (.t 50),no⟩ (.both (.op ⟨some 52,.call (.k (.fn (.func 99) [] [])) [.t 49,.t 51],no⟩ (.both (.op ⟨some 53,.call (.k (.fn (.func 98) [] [])) [.t 48,(.k (.int .i64 (-1))),.t 52],no⟩ (.op ⟨some 43,.mv (.t 53),no⟩ (.op ⟨some 54,.ext (.t 43) 0,no⟩ (.op ⟨some 55,.ext (.t 43) 1,no⟩ (.op ⟨some 11,.box [(.int .i64 0),(.nil 1)],no⟩ (.hop ⟨no,.st 2 (.t 11) (.t 54),no⟩ [] (.op ⟨some 12,.mv (.t 55),no⟩ .fin))))))) (.op ⟨some 11,.box [(.int .i64 0),(.nil 1)],no⟩ (.op ⟨some 53,.call (.k (.fn (.func 98) [] [])) [.t 48,(.k (.int .i64 (-1))),.t 52],no⟩ (.op ⟨some 43,.mv (.t 53),no⟩ (.op ⟨some 54,.ext (.t 43) 0,no⟩ (.op ⟨some 55,.ext (.t 43) 1,no⟩ (.hop ⟨no,.st 2 (.t 11) (.t 54),no⟩ [] (.op ⟨some 12,.mv (.t 55),no⟩ .fin))))))))) (.op ⟨some 11,.box [(.int .i64 0),(.nil 1)],no⟩ (.op ⟨some 52,.call (.k (.fn (.func 99) [] [])) [.t 49,.t 51],no⟩ (.op ⟨some 53,.call (.k (.fn (.func 98) [] [])) [.t 48,(.k (.int .i64 (-1))),.t 52],no⟩ (.op ⟨some 43,.mv (.t 53),no⟩ (.op ⟨some 54,.ext (.t 43) 0,no⟩ (.op ⟨some 55,.ext (.t 43) 1,no⟩ (.hop ⟨no,.st 2 (.t 11) (.t 54),no⟩ [] (.op ⟨some 12,.mv (.t 55),no⟩ .fin))))))))))))))))))
def K6b:AC:=(.reg [⟨some 59,.mv (.t 6),no⟩,⟨some 60,.ld true 2 (.t 9),no⟩,⟨some 61,.ld true 2 (.t 11),no⟩,⟨some 62,.build [(.int .i64 0),(.nil 2),(.int .i64 0),(.nil 1)] [(0,(2,(.t 60))),(2,(2,(.t 61)))],no⟩,⟨some 63,.bsl 4 [.t 62],no⟩,⟨some 64,.app 64 4 (.t 59) (.t 63),no⟩,⟨some 6,.mv (.t 64),no⟩])
def K5k:AC:=(.reg [⟨some 73,.ld true 2 (.t 2),no⟩,⟨some 74,.ld true 2 (.t 3),no⟩,⟨some 75,.mv (.t 13),no⟩,⟨some 76,.call (.k (.fn (.func 100) [] [])) [.t 73,.t 74,.t 75],no⟩,⟨some 72,.mv (.t 76),no⟩,⟨some 77,.ext (.t 72) 0,no⟩,⟨some 78,.ext (.t 72) 1,no⟩,⟨some 14,.box [(.int .i64 0),(.nil 2),(.int .i64 0),(.nil 1)],no⟩,⟨no,.st 4 (.t 14) (.t 77),no⟩,⟨some 15,.mv (.t 78),no⟩])
def K58:AC:=(.reg [⟨some 82,.mv (.t 6),no⟩,⟨some 83,.ld true 4 (.t 14),no⟩,⟨some 84,.bsl 4 [.t 83],no⟩,⟨some 85,.app 64 4 (.t 82) (.t 84),no⟩,⟨some 6,.mv (.t 85),no⟩])
def ub0:AC:=(.reg [⟨some 2,.boxv (.t 0),no⟩,⟨some 3,.boxv (.t 1),no⟩,⟨some 4,.mv (.k (.nil 4)),no⟩,⟨some 5,.mv (.k (.bool false)),no⟩])
def ub1:AC:=(.seq (.reg [⟨some 16,.ld true 2 (.t 2),no⟩,⟨some 17,.ld true 2 (.t 3),no⟩,⟨some 18,.call (.k (.fn (.func 96) [] [])) [.t 16,.t 17],no⟩,⟨some 19,.un .not (.t 18),no⟩]) (.cond (.t 19) (.seq (.reg [⟨some 20,.bsl 4 [],no⟩,⟨some 4,.mv (.t 20),no⟩,⟨some 5,.mv (.k (.bool false)),no⟩]) .ret) .skip))
def ub2:AC:=(.reg [⟨some 21,.bsl 4 [],no⟩,⟨some 6,.mv (.t 21),no⟩])
def ub3:AC:=(.reg [⟨some 7,.mv (.k (.int .i64 0)),no⟩])
def ub4:AC:=(.seq (.reg [⟨some 22,.fld 0 (.t 3),no⟩,⟨some 23,.ld false 1 (.t 22),no⟩,⟨some 24,.bin .eql (.t 23) (.k (.int .i64 1)),no⟩]) (.cond (.t 24) (.reg [⟨some 7,.mv (.k (.int .i64 1)),no⟩]) .skip))
def ub5:AC:=(.seq (.reg [⟨some 8,.mv (.k (.int .i64 0)),no⟩]) (.blk 0 (.loop (.seq (.seq (.reg [⟨some 25,.mv (.t 8),no⟩,⟨some 26,.fld 0 (.t 2),no⟩,⟨some 27,.ld false 1 (.t 26),no⟩,⟨some 28,.len false (.t 27),no⟩,⟨some 29,.bin .lss (.t 25) (.t 28),no⟩]) (.cond (.t 29) .skip (.exit 0))) (.seq (.blk 1 (.seq K5w (.seq K7k (.seq (.seq (.reg [⟨some 56,.mv (.t 12),no⟩,⟨some 57,.un .not (.t 56),no⟩]) (.cond (.t 57) (.seq (.reg [⟨some 58,.bsl 4 [],no⟩,⟨some 4,.mv (.t 58),no⟩,⟨some 5,.mv (.k (.bool false)),no⟩]) .ret) .skip))  K6b)))) (.reg [⟨some 30,.mv (.t 8),no⟩,⟨some 31,.bin .add (.t 30) (.k (.int .i64 1)),no⟩,⟨some 8,.mv (.t 31),no⟩]))))))
def ub6:AC:=(.seq (.reg [⟨some 13,.mv (.k (.int .i64 0)),no⟩]) (.blk 2 (.loop (.seq (.seq (.reg [⟨some 65,.mv (.t 13),no⟩,⟨some 66,.fld 1 (.t 2),no⟩,⟨some 67,.ld false 1 (.t 66),no⟩,⟨some 68,.len false (.t 67),no⟩,⟨some 69,.bin .lss (.t 65) (.t 68),no⟩]) (.cond (.t 69) .skip (.exit 2))) (.seq (.blk 3 (.seq  K5k (.seq (.seq (.reg [⟨some 79,.mv (.t 15),no⟩,⟨some 80,.un .not (.t 79),no⟩]) (.cond (.t 80) (.seq (.reg [⟨some 81,.bsl 4 [],no⟩,⟨some 4,.mv (.t 81),no⟩,⟨some 5,.mv (.k (.bool false)),no⟩]) .ret) .skip))  K58))) (.reg [⟨some 70,.mv (.t 13),no⟩,⟨some 71,.bin .add (.t 70) (.k (.int .i64 1)),no⟩,⟨some 13,.mv (.t 71),no⟩]))))))
def ub7:AC:=(.reg [⟨some 86,.mv (.t 6),no⟩,⟨some 4,.mv (.t 86),no⟩,⟨some 5,.mv (.k (.bool true)),no⟩])
def a31:AFn:=⟨87,[.t 4,.t 5],(.seq ub0 (.seq ub1 (.seq ub2 (.seq ub3 (.seq ub4 (.seq ub5 (.seq ub6 (.seq ub7 .ret))))))))⟩
theorem a31_ok:J0a Tryz.prog Tryz.f31=some a31:=by kernel_rfl
section
variable {ks:List Kt}{s:Env}{h h':Heap}{n:Nat}{Q:Fin}
theorem Jra {p:DProgram}(hp:J0f p≤1048576) {i:Nat}(hi:i<p.Functions.length) (s8:s 8 = .int .i64 i) (s2:s 2 = .ptr 0 0 0) (e0:h 0=some ⟨true,2,[J01 p]⟩)
 (hK:∀ s' h',(∀ j∈[2,3,4,5,6,7,8],s' j=s j)→(∀ id,id<n→h' id=h id)→(∃ k q,s' 9 = .ptr k 0 0∧n≤k∧n≤q∧k<n+2∧q<n+2∧h' k=some ⟨true,2,[[.int .i64 (J5m p (p.Functions[i]).Name).N,.ref q 0 (J5m p (p.Functions[i]).Name).Rows.length]]⟩∧h' q=some ⟨false,2,(J5m p (p.Functions[i]).Name).Rows.map J08⟩)→J2b Tryz.prog ks .normal s' h' (n+2) Q):rC Tryz.prog K5w ks s h n Q:=by
 have fr:∀ id,id<n→¬id=n∧¬id=n+1:=by intro id _;omega
 have ne:¬n=n+1∧¬n+1=n:=by omega
 simp [K5w,s2,s8,e0,hi,J01,J04]
 generalize hnm:(p.Functions[i]).Name=nm at *
 constructor
 ·skip
  first|refine J00 (J8i p hp nm) (by first|simp [J01];done|rfl) ?_|refine J02 (J8i p hp nm) (by first|simp [J01];done|rfl) ?_
  rintro r rfl
  unfold J7t
  rw [show (Jq2 p nm).getD Jq8=J5m p nm from rfl]
  generalize J5m p nm=S at *
  simp [J1x,ne]
  exact hK _ _ (by simp) (fun id hid=>by simp [fr id hid]) ⟨n+1,n,by simp,by omega,by omega,by omega,by omega,by simp,by simp [ne]⟩
 ·skip
  first|refine J00 (J8i p hp nm) (by first|simp [J01];done|rfl) ?_|refine J02 (J8i p hp nm) (by first|simp [J01];done|rfl) ?_
  rintro r rfl
  unfold J7t
  rw [show (Jq2 p nm).getD Jq8=J5m p nm from rfl]
  generalize J5m p nm=S at *
  simp [J1x,ne]
  exact hK _ _ (by simp) (fun id hid=>by simp [fr id hid]) ⟨n,n+1,by simp,by omega,by omega,by omega,by omega,by simp,by simp [ne]⟩
theorem Jta {b:DBounds}{i k9:Nat}{S:DSystem}{v:AV}{F:Option DLin}(hb:i<b.Lins.length) (hF:J0j b.Lins[i] (-1) (J05 (J40 b.Kind) S.N)=F) (s8:s 8 = .int .i64 i) (s3:s 3 = .ptr 1 0 0) (s7:s 7 = .int .i64 (J40 b.Kind)) (s9:s 9 = .ptr k9 0 0) (e1:h 1=some ⟨true,2,[J0d b]⟩) (e9:h k9=some ⟨true,2,[[.int .i64 S.N,v]]⟩) (h1:1<n) (h9:k9<n)
 (hK:∀ s' h' n',(∀ j∈[2,3,4,5,6,7,8,9],s' j=s j)→(∀ id,id<n→h' id=h id)→s' 12 = .bool F.isSome→(∃ k q,s' 11 = .ptr k 0 0∧n≤k∧n≤q∧k<n'∧q<n'∧J3x (F.getD J1b) k q h')→n≤n'→J2b Tryz.prog ks .normal s' h' n' Q):rC Tryz.prog K7k ks s h n Q:=by
 have fr:∀ id,id<n→¬id=n∧¬id=n+1∧¬id=n+2:=by intro id _;omega
 have ne:¬n=n+1∧¬n+1=n∧¬n=n+2∧¬n+2=n∧¬n+1=n+2∧¬n+2=n+1∧¬n=n+1+1∧¬n+1+1=n:=by omega
 simp [K7k,s3,s7,s8,s9,e1,e9,hb,J0d]
 constructor
 ·refine J49 (J13 (J40 b.Kind) S.N) (by simp) ?_
  rintro _ rfl
  generalize J05 (J40 b.Kind) S.N=c at *
  simp
  constructor
  ·skip
   first|refine J00 (J0m (b.Lins[i]'hb) (-1) c) (by first|simp [J07];done|rfl) ?_|refine J02 (J0m (b.Lins[i]'hb) (-1) c) (by first|simp [J07];done|rfl) ?_
   rintro r rfl
   rw [hF,J0l]
   simp [J08,ne]
   exact hK _ _ _ (by simp) (fun id hid=>by simp [fr id hid]) (by simp) ⟨n+1,n,by simp,by omega,by omega,by omega,by omega,by simp [J3x,ne]⟩ (by omega)
  ·skip
   first|refine J00 (J0m (b.Lins[i]'hb) (-1) c) (by first|simp [J07];done|rfl) ?_|refine J02 (J0m (b.Lins[i]'hb) (-1) c) (by first|simp [J07];done|rfl) ?_
   rintro r rfl
   rw [hF,J0l]
   simp [J08,ne]
   exact hK _ _ _ (by simp) (fun id hid=>by simp [fr id hid]) (by simp) ⟨n,n+1,by simp,by omega,by omega,by omega,by omega,by simp [J3x,ne]⟩ (by omega)
 ·refine J49 (J13 (J40 b.Kind) S.N) (by simp) ?_
  rintro _ rfl
  generalize J05 (J40 b.Kind) S.N=c at *
  simp
  first|refine J00 (J0m (b.Lins[i]'hb) (-1) c) (by first|simp [J07];done|rfl) ?_|refine J02 (J0m (b.Lins[i]'hb) (-1) c) (by first|simp [J07];done|rfl) ?_
  rintro r rfl
  rw [hF,J0l]
  simp [J08,ne]
  exact hK _ _ _ (by simp) (fun id hid=>by simp [fr id hid]) (by simp) ⟨n,n+1,by simp,by omega,by omega,by omega,by omega,by simp [J3x,ne]⟩ (by omega)
theorem Jsj {p:DProgram}(hp:J0f p≤1048576) {b:DBounds}(hB:J2e p b=true) {i:Nat}(hi:i<p.Rules.length) (s2:s 2 = .ptr 0 0 0) (s3:s 3 = .ptr 1 0 0) (s13:s 13 = .int .i64 i) (e0:h 0=some ⟨true,2,[J01 p]⟩) (e1:h 1=some ⟨true,2,[J0d b]⟩)
 (hK:∀ s' h' o,(∀ j∈[2,3,4,5,6,13],s' j=s j)→s' 15 = .bool (J54 p b (mdR p i) p.Rules[i]).isSome→s' 14 = .ptr (n+2) 0 0→Jd3 o n h'→(∀ t,J54 p b (mdR p i) p.Rules[i]=some t→o=⟨(mdR p i).System,t⟩)→(∀ id,id<n→h' id=h id)→J2b Tryz.prog ks .normal s' h' (n+3) Q):rC Tryz.prog K5k ks s h n Q:=by
 simp [K5k,s2,s3,s13,e0,e1]
 refine J02 (Jmn p hp b hB hi) (by simp) ?_
 rintro _ ⟨o,rfl,ho⟩
 generalize J54 p b (mdR p i) p.Rules[i]=T at *
 simp [J06]
 refine hK _ _ o (by simp) (by simp) (by simp) (by simp [Jd3]) ho ?_
 intro id hid
 have:¬id=n∧¬id=n+1∧¬id=n+2:=by omega
 simp [this]
theorem Jt5 {acc:List DObligation}{S:DSystem}{t:DLin}{v:AV}{m k q k1 q1:Nat}(s6:s 6=v) (s9:s 9 = .ptr k 0 0) (s11:s 11 = .ptr k1 0 0) (b1:h k=some ⟨true,2,[[.int .i64 S.N,.ref q 0 S.Rows.length]]⟩) (b2:h q=some ⟨false,2,S.Rows.map J08⟩) (B5:J3x t k1 q1 h) (B:J3c 1 4 (acc.map J06) v h m) (hm:m≤n) (hk:m≤k∧k<n) (hq:m≤q∧q<n) (hk1:m≤k1∧k1<n) (hq1:m≤q1∧q1<n) (hqq:¬q=q1) (hl:acc.length≤3000000)
 (hK:∀ s' h' n',(∀ j∈[2,3,4,5,7,8,13],s' j=s j)→n≤n'→(∀ id z rows,id<m→h id=some ⟨true,z,rows⟩→h' id=h id)→J3c 1 4 ((acc++[(⟨S,t⟩:DObligation)]).map J06) (s' 6) h' n'→J2b Tryz.prog ks .normal s' h' n' Q):rC Tryz.prog K6b ks s h n Q:=by
 obtain ⟨b3,b4⟩:=B5
 have fr:∀ id,id<m→¬id=n∧¬id=q∧¬id=q1:=by intro id _;omega
 have ne:¬q=q1∧¬q1=q:=by omega
 simp [K6b,s6,s9,s11,b1,b2,b3,b4,ne]
 refine J2m (rows:=acc.map J06) (rows2:=[[.int .i64 S.N,.us 2 (S.Rows.map J08),.int .i64 t.Const,.us 1 (J0k t.Coeffs)]]) (B.keep (n':=n+1) (by omega) fun id _ hid e=>by simp [fr id hid]) (by simp) (fun l e=>by have:=(B.lt e).2.1;omega) (by omega) (by simp;unfold LIM;omega) ?_
 intro h1 f1 f2
 simp
 refine hK _ _ _ (by simp) (by omega) ?_ ?_
 ·intro id z rows h1' h3'
  rw [f2 id (by omega) (by omega) fun l e=>B.not_box h3' e];simp [fr id h1']
 ·simp
  exact .inr ⟨n+1,by omega,by omega,by simp,by simp [f1,J06]⟩
theorem Jsl {acc:List DObligation}{o:DObligation}{v:AV}{q:Nat}(s8:s 14 = .ptr (q+2) 0 0) (s6:s 6=v) (O:Jd3 o q h) (B:J3c 1 4 (acc.map J06) v h q) (hq:n=q+3) (hl:acc.length≤3000000)
 (hK:∀ s' h' n',(∀ j∈[2,3,4,5,13],s' j=s j)→n≤n'→(∀ id z rows,id<q→h id=some ⟨true,z,rows⟩→h' id=h id)→J3c 1 4 ((acc++[o]).map J06) (s' 6) h' n'→J2b Tryz.prog ks .normal s' h' n' Q):rC Tryz.prog K58 ks s h n Q:=by
 subst hq
 obtain ⟨o1,o2,o3⟩:=O
 have fr:∀ id,id<q→¬id=q∧¬id=q+1∧¬id=q+3:=by intro id _;omega
 simp [K58,s6,s8,o1,o2,o3]
 refine J2m (rows:=acc.map J06) (rows2:=[[.int .i64 o.System.N,.us 2 (o.System.Rows.map J08),.int .i64 o.Target.Const,.us 1 (J0k o.Target.Coeffs)]]) (B.keep (n':=q+3+1) (by omega) fun id _ hid e=>by simp [fr id hid]) (by simp) (fun l e=>by have:=(B.lt e).2.1;omega) (by omega) (by simp;unfold LIM;omega) ?_
 intro h1 f1 f2
 simp
 refine hK _ _ _ (by simp) (by omega) ?_ ?_
 ·intro id z rows h1' h3'
  rw [f2 id (by omega) (by omega) fun l e=>B.not_box h3' e];simp [fr id h1']
 ·simp
  exact .inr ⟨q+4,by omega,by omega,by simp,by simp [f1,J06]⟩
theorem Jvz {p:DProgram}(hp:J0f p≤1048576) {b:DBounds}(hB:J2e p b=true) {l2:List (Option DObligation)}{F:Option (List DObligation)}(hn:1<n) (s2:s 2 = .ptr 0 0 0) (s3:s 3 = .ptr 1 0 0) (s7:s 7 = .int .i64 (J40 b.Kind)) (B0:J3c 1 4 [] (s 6) h n) (e0:h 0=some ⟨true,2,[J01 p]⟩) (e1:h 1=some ⟨true,2,[J0d b]⟩) (hF:goO [] (J95 p b++l2)=F)
 (hret:F=Option.none→∀ s' h' n' k,s' 4 = .ref k 0 0→h' k=some ⟨false,4,[]⟩→s' 5 = .bool false→J2b Tryz.prog ks .ret s' h' n' Q)
 (hK:∀ s' h' n',(∀ j∈[2,3],s' j=s j)→1<n'→h' 0=some ⟨true,2,[J01 p]⟩→h' 1=some ⟨true,2,[J0d b]⟩→(∃ acc,acc.length≤3∧J3c 1 4 (acc.map J06) (s' 6) h' n'∧goO acc l2=F)→J2b Tryz.prog ks .normal s' h' n' Q):rC Tryz.prog ub5 ks s h n Q:=by
 obtain ⟨hpo,hin,hb⟩:=J68 hB
 have hfl:=(J59 hpo).2.2.1
 simp [ub5]
 refine J0o [2,3,7] 8 p.Functions.length (fun i s h m=>1<m∧h 0=some ⟨true,2,[J01 p]⟩∧h 1=some ⟨true,2,[J0d b]⟩∧∃ acc,acc.length=i∧J3c 1 4 (acc.map J06) (s 6) h m∧goO acc ((J95 p b).drop i++l2)=F) (by unfold LIM;omega) (by simp) ⟨hn,e0,e1,[],rfl,by simpa using B0,by simpa using hF⟩ ?_ ?_
 ·rintro i st h m R hi hg hk s8 hw' ⟨m1,e0,e1,acc,hal,B,hJ⟩ hR hrt _
  simp at hk
  have hib:i<b.Lins.length:=by omega
  rw [Jlj hi hb,List.cons_append] at hJ
  refine J0b (J0i [2,3,6,7,8] (fun s=>s 29 = .bool true) (by simp [hk,s2,e0,J01,s8,hi]) ?_)
  intro st1 hk1 s29
  simp at hk1
  refine J29 s29 (J0b (J1c ?_))
  refine J0b (Jra hp hi (by simp [hk1,s8]) (by simp [hk1,hk,s2]) e0 ?_)
  rintro st2 h2 hk2 hf2 ⟨k9,q9,s9,hk9,hq9,hk9',hq9',b1,b2⟩
  simp at hk2
  have f0:=hf2 0 (by omega)
  have f1:=hf2 1 (by omega)
  rw [e0] at f0
  rw [e1] at f1
  refine J4p (J0b (Jta (b:=b) (i:=i) (k9:=k9) (S:=J5m p (p.Functions[i]).Name) (F:=J77 b b.Lins[i]) hib (Juo hB hi hib) (by simp [hk2,hk1,s8]) (by simp [hk2,hk1,hk,s3]) (by simp [hk2,hk1,hk,s7]) s9 f1 b1 (by omega) hk9' ?_))
  rintro st3 h3 n3 hk3 hf3 s12 ⟨k11,q11,s11,hk11,hq11,hk11',hq11',B5⟩ hn3
  simp at hk3
  have b1':=hf3 k9 hk9'
  have b2':=hf3 q9 hq9'
  rw [b1] at b1'
  rw [b2] at b2'
  generalize hT:J77 b b.Lins[i]=T at *
  cases T with
  | none=>
   simp only [Option.map_none,goO] at hJ
   simp [s12]
   exact hrt _ _ _ (hret hJ.symm _ _ _ n3 (by simp) (by simp) (by simp))
  | some t=>
   simp only [Option.map_some,goO] at hJ
   simp at B5
   simp [s12]
   refine Jt5 (acc:=acc) (S:=J5m p (p.Functions[i]).Name) (t:=t) (v:=st 6) (m:=m) (k:=k9) (q:=q9) (k1:=k11) (q1:=q11) (by simp [hk3,hk2,hk1]) (by simp [hk3,s9]) (by simp [s11]) b1' b2' B5 (B.keep (Nat.le_refl _) fun id _ hid _=>by rw [hf3 id (by omega),hf2 id hid]) (by omega) ⟨hk9,by omega⟩ ⟨hq9,by omega⟩ ⟨by omega,hk11'⟩ ⟨by omega,hq11'⟩ (by omega) (by omega) ?_
   intro st4 h4 n4 hk4 hn4 bx4 B4
   simp at hk4
   have g0:=hf3 0 (by omega)
   have g1:=hf3 1 (by omega)
   rw [f0] at g0
   rw [f1] at g1
   simp [hk4,hk3,hk2,hk1,s8,hw']
   refine hR _ _ _ (by simp [hk4,hk3,hk2,hk1,hk]) (by simp) ⟨by omega,by rw [bx4 0 _ _ (by omega) g0,g0],by rw [bx4 1 _ _ (by omega) g1,g1],acc++[⟨J5m p (p.Functions[i]).Name,t⟩],by simp [hal],?_,hJ⟩
   simpa using B4
 ·rintro st h m R hk s8 ⟨m1,e0,e1,acc,hal,B,hJ⟩ _ hX
  simp at hk
  rw [List.drop_eq_nil_of_le (by simp [J95]),List.nil_append] at hJ
  refine J0b (J0i [2,3,6] (fun s=>s 29 = .bool false) (by simp [hk,s2,e0,J01,s8]) ?_)
  intro st1 hk1 s29
  simp at hk1
  refine J23 s29 ?_
  refine hX _ _ _ _ ?_
  simp
  refine hK _ _ _ (by simp [hk1,hk]) m1 e0 e1 ⟨acc,by omega,?_,hJ⟩
  rw [hk1.2.2];exact B
theorem Jv8 {p:DProgram}(hp:J0f p≤1048576) {b:DBounds}(hB:J2e p b=true) {acc0:List DObligation}{F:Option (List DObligation)}(hn:1<n) (s2:s 2 = .ptr 0 0 0) (s3:s 3 = .ptr 1 0 0) (e0:h 0=some ⟨true,2,[J01 p]⟩) (e1:h 1=some ⟨true,2,[J0d b]⟩) (hal0:acc0.length≤3) (B0:J3c 1 4 (acc0.map J06) (s 6) h n) (hF:goO acc0 (J8m p b)=F)
 (hret:F=Option.none→∀ s' h' n' k,s' 4 = .ref k 0 0→h' k=some ⟨false,4,[]⟩→s' 5 = .bool false→J2b Tryz.prog ks .ret s' h' n' Q)
 (hK:∀ s' h' n' acc,J3c 1 4 (acc.map J06) (s' 6) h' n'→some acc=F→J2b Tryz.prog ks .normal s' h' n' Q):rC Tryz.prog ub6 ks s h n Q:=by
 obtain ⟨hpo,hin,hb⟩:=J68 hB
 have hrl:=(J59 hpo).2.2.2
 simp [ub6]
 refine J0o [2,3] 13 p.Rules.length (fun i s h m=>1<m∧h 0=some ⟨true,2,[J01 p]⟩∧h 1=some ⟨true,2,[J0d b]⟩∧∃ acc,acc.length=acc0.length+i∧J3c 1 4 (acc.map J06) (s 6) h m∧goO acc ((J8m p b).drop i)=F) (by unfold LIM;omega) (by simp) ⟨hn,e0,e1,acc0,rfl,by simpa using B0,by simpa using hF⟩ ?_ ?_
 ·rintro i st h m R hi hg hk s13 hw' ⟨m1,e0,e1,acc,hal,B,hJ⟩ hR hrt _
  simp at hk
  rw [Jlv hi] at hJ
  refine J0b (J0i [2,3,6,13] (fun s=>s 69 = .bool true) (by simp [hk,s2,e0,J01,s13,hi]) ?_)
  intro st1 hk1 s69
  simp at hk1
  refine J29 s69 (J0b (J1c ?_))
  refine J0b (Jsj hp (b:=b) hB hi (by simp [hk1,hk,s2]) (by simp [hk1,hk,s3]) (by simp [hk1,s13]) e0 e1 ?_)
  intro st3 h3 o hk3 s15 s14 O ho hfr
  simp at hk3
  generalize hT:J54 p b (mdR p i) p.Rules[i]=T at *
  cases T with
  | none=>
   simp only [Option.map_none,goO] at hJ
   simp [s15]
   exact hrt _ _ _ (hret hJ.symm _ _ _ (m+3) (by simp) (by simp) (by simp))
  | some t=>
   simp only [Option.map_some,goO] at hJ
   obtain rfl:=ho t rfl
   simp [s15]
   refine Jsl (acc:=acc) (o:=⟨(mdR p i).System,t⟩) (v:=st 6) (q:=m) (by simp [s14]) (by simp [hk3,hk1]) O (B.keep (Nat.le_refl _) fun id _ hid _=>hfr id hid) rfl (by omega) ?_
   intro st4 h4 n4 hk4 hn4 bx4 B4
   simp at hk4
   have g0:=hfr 0 (by omega)
   have g1:=hfr 1 (by omega)
   rw [e0] at g0
   rw [e1] at g1
   simp [hk4,hk3,hk1,s13,hw']
   refine hR _ _ _ (by simp [hk4,hk3,hk1,hk]) (by simp) ⟨by omega,by rw [bx4 0 _ _ (by omega) g0,g0],by rw [bx4 1 _ _ (by omega) g1,g1],acc++[⟨(mdR p i).System,t⟩],by simp [hal];omega,?_,hJ⟩
   simpa using B4
 ·rintro st h m R hk s13 ⟨m1,e0,e1,acc,hal,B,hJ⟩ _ hX
  simp at hk
  rw [List.drop_eq_nil_of_le (by simp [J8m])] at hJ
  refine J0b (J0i [2,3,6] (fun s=>s 69 = .bool false) (by simp [hk,s2,e0,J01,s13]) ?_)
  intro st1 hk1 s69
  simp at hk1
  refine J23 s69 ?_
  refine hX _ _ _ _ ?_
  simp
  refine hK _ _ _ acc ?_ hJ
  rw [hk1.2.2];exact B
end
theorem J6y (p:DProgram) (hp:J0f p≤1048576) (b:DBounds):Holds Tryz.prog 31 [.agg (J01 p),.agg (J0d b)] (fun x=>x=J7d (J2j p b)):=by
 refine J03 Tryz.func31 a31_ok rfl (by simp [a31]) ?_
 simp [a31,ub0]
 rw [←Ja9]
 refine J15 [2,3,4,5] (fun s h2 n2=>J2e p b=true∧n2=2∧h2 0=some ⟨true,2,[J01 p]⟩∧h2 1=some ⟨true,2,[J0d b]⟩) ?_ ?_
 ·simp [ub1]
  first|refine J00 (Jfr p hp b) (by first|simp;done|rfl) ?_|refine J02 (Jfr p hp b) (by first|simp;done|rfl) ?_
  rintro r rfl
  cases hB:J2e p b
  ·have:J2j p b=Option.none:=by simp [J2j,hB]
   simp [this,J7d]
  simp
 rintro st1 h1 _ hk1 ⟨hB,rfl,e0,e1⟩
 simp at hk1
 have hbo:J2j p b=goO [] (J95 p b++J8m p b):=by simp [J2j,hB]
 rw [hbo]
 clear hbo
 generalize hF:goO [] (J95 p b++J8m p b)=F
 refine J15 [2,3] (fun s h2 n2=>n2=3∧s 6 = .ref 2 0 0∧h2 2=some ⟨false,4,[]⟩∧h2 0=some ⟨true,2,[J01 p]⟩∧h2 1=some ⟨true,2,[J0d b]⟩) ?_ ?_
 ·simp [ub2,e0,e1]
 rintro st2 h2 _ hk2 ⟨rfl,s6,e2,f0,f1⟩
 simp at hk2
 refine J0i [2,3,6] (fun s=>s 7 = .int .i64 0) (by simp [ub3]) ?_
 intro st3 hk3 s7
 simp at hk3
 refine J0i [2,3,6] (fun s=>s 7 = .int .i64 (J40 b.Kind)) ?_ ?_
 ·unfold J40
  by_cases hk:b.Kind=1
  ·simp [ub4,hk3,hk2,hk1,f1,J0d,hk]
  ·simp [ub4,hk3,hk2,hk1,f1,J0d,hk,s7]
 intro st4 hk4 s7'
 simp at hk4
 refine J0b (Jvz hp hB (F:=F) (l2:=J8m p b) (by omega) (by simp [hk4,hk3,hk2,hk1]) (by simp [hk4,hk3,hk2,hk1]) s7' (.inr ⟨2,by omega,by omega,by simp [hk4,hk3,s6],e2⟩) f0 f1 hF ?_ ?_)
 ·rintro rfl s' h' n' k s4 ek s5
  simp [s4,s5,ek,J7d]
 rintro st5 h5 n5 hk5 hn5 g0 g1 ⟨acc,hal,B,hJ⟩
 simp at hk5
 refine J4p (J0b (Jv8 hp hB (F:=F) hn5 (by simp [hk5,hk4,hk3,hk2,hk1]) (by simp [hk5,hk4,hk3,hk2,hk1]) g0 g1 hal B hJ ?_ ?_))
 ·rintro rfl s' h' n' k s4 ek s5
  simp [s4,s5,ek,J7d]
 rintro st6 h6 n6 acc6 B6 rfl
 obtain ⟨h7,d1,_⟩:=B6.dt
 simp [ub7,-dt,-dtl,J7d]
 simp [dt,dtl,d1]
def qo0:AC:=(.reg [⟨some 1,.boxv (.t 0),no⟩,⟨some 2,.mv (.k (.nil 4)),no⟩])
def qo1:AC:=(.reg [⟨some 13,.bsl 4 [],no⟩,⟨some 3,.mv (.t 13),no⟩])
def qo2:AC:=(.reg [⟨some 14,.ld true 2 (.t 1),no⟩,⟨some 15,.call (.k (.fn (.func 122) [] [])) [.t 14],no⟩,⟨some 4,.mv (.t 15),no⟩])
def K5o:AC:=(.draw (.op ⟨some 23,.ld true 2 (.t 1),no⟩ (.op ⟨some 24,.mv (.t 4),no⟩ (.op ⟨some 25,.mv (.t 5),no⟩ (.op ⟨some 26,.ixa 2 (.t 24) (.t 25),no⟩ (.op ⟨some 27,.fld 0 (.t 26),no⟩ (.op ⟨some 28,.ld false 1 (.t 27),no⟩ (.both (.op ⟨some 29,.call (.k (.fn (.func 171) [] [])) [.t 23,.t 28],no⟩ (.op ⟨some 22,.mv (.t 29),no⟩ (.op ⟨some 30,.ext (.t 22) 0,no⟩ (.op ⟨some 31,.ext (.t 22) 1,no⟩ (.op ⟨some 6,.box [(.int .i64 0),(.nil 2),(.nil 2),(.nil 1),(.int .i64 0),(.nil 1)],no⟩ (.hop ⟨no,.st 6 (.t 6) (.t 30),no⟩ [] (.op ⟨some 7,.mv (.t 31),no⟩ .fin))))))) (.op ⟨some 6,.box [(.int .i64 0),(.nil 2),(.nil 2),(.nil 1),(.int .i64 0),(.nil 1)],no⟩ (.op ⟨some 29,.call (.k (.fn (.func 171) [] [])) [.t 23,.t 28],no⟩ (.op ⟨some 22,.mv (.t 29),no⟩ (.op ⟨some 30,.ext (.t 22) 0,no⟩ (.op ⟨some 31,.ext (.t 22) 1,no⟩ (.hop ⟨no,.st 6 (.t 6) (.t 30),no⟩ [] (.op ⟨some 7,.mv (.t 31),no⟩ .fin)))))))))))))))
def K56:AC:=(.draw (.op ⟨some 33,.ld true 2 (.t 1),no⟩ (.op ⟨some 34,.ld true 2 (.t 1),no⟩ (.op ⟨some 35,.mv (.t 4),no⟩ (.op ⟨some 36,.mv (.t 5),no⟩ (.op ⟨some 37,.ixa 2 (.t 35) (.t 36),no⟩ (.op ⟨some 38,.ld true 2 (.t 37),no⟩ (.both (.op ⟨some 39,.call (.k (.fn (.func 173) [] [])) [.t 34,.t 38],no⟩ (.both (.op ⟨some 40,.call (.k (.fn (.func 172) [] [])) [.t 33,.t 39],no⟩ (.op ⟨some 32,.mv (.t 40),no⟩ (.op ⟨some 41,.ext (.t 32) 0,no⟩ (.op ⟨some 42,.ext (.t 32) 1,no⟩ (.op ⟨some 8,.box [(.str []),(.nil 1),(.bool false),(.nil 2)],no⟩ (.hop ⟨no,.st 4 (.t 8) (.t 41),no⟩ [] (.op ⟨some 9,.mv (.t 42),no⟩ .fin))))))) (.op ⟨some 8,.box [(.str []),(.nil 1),(.bool false),(.nil 2)],no⟩ (.op ⟨some 40,.call (.k (.fn (.func 172) [] [])) [.t 33,.t 39],no⟩ (.op ⟨some 32,.mv (.t 40),no⟩ (.op ⟨some 41,.ext (.t 32) 0,no⟩ (.op ⟨some 42,.ext (.t 32) 1,no⟩ (.hop ⟨no,.st 4 (.t 8) (.t 41),no⟩ [] (.op ⟨some 9,.mv (.t 42),no⟩ .fin))))))))) (.op ⟨some 8,.box [(.str []),(.nil 1),(.bool false),(.nil 2)],no⟩ (.op ⟨some 39,.call (.k (.fn (.func 173) [] [])) [.t 34,.t 38],no⟩ (.op ⟨some 40,.call (.k (.fn (.func 172) [] [])) [.t 33,.t 39],no⟩ (.op ⟨some 32,.mv (.t 40),no⟩ (.op ⟨some 41,.ext (.t 32) 0,no⟩ (.op ⟨some 42,.ext (.t 32) 1,no⟩ (.hop ⟨no,.st 4 (.t 8) (.t 41),no⟩ [] (.op ⟨some 9,.mv (.t 42),no⟩ .fin))))))))))))))))
def K5c:AC:=(.draw (.op ⟨some 51,.ld true 6 (.t 6),no⟩ (.op ⟨some 52,.fld 3 (.t 8),no⟩ (.op ⟨some 53,.ld false 1 (.t 52),no⟩ (.op ⟨some 54,.mv (.t 10),no⟩ (.op ⟨some 55,.ixa 2 (.t 53) (.t 54),no⟩ (.op ⟨some 56,.ld true 2 (.t 55),no⟩ (.op ⟨some 57,.mv (.t 4),no⟩ (.op ⟨some 58,.mv (.t 5),no⟩ (.op ⟨some 59,.ixa 2 (.t 57) (.t 58),no⟩ (.op ⟨some 60,.fld 1 (.t 59),no⟩ (.op ⟨some 61,.ld false 1 (.t 60),no⟩ (.both (.op ⟨some 62,.call (.k (.fn (.func 174) [] [])) [.t 51,.t 56,.t 61],no⟩ (.op ⟨some 50,.mv (.t 62),no⟩ (.op ⟨some 63,.ext (.t 50) 0,no⟩ (.op ⟨some 64,.ext (.t 50) 1,no⟩ (.op ⟨some 11,.box [(.int .i64 0),(.nil 1)],no⟩ (.hop ⟨no,.st 2 (.t 11) (.t 63),no⟩ [] (.op ⟨some 12,.mv (.t 64),no⟩ .fin))))))) (.op ⟨some 11,.box [(.int .i64 0),(.nil 1)],no⟩ (.op ⟨some 62,.call (.k (.fn (.func 174) [] [])) [.t 51,.t 56,.t 61],no⟩ (.op ⟨some 50,.mv (.t 62),no⟩ (.op ⟨some 63,.ext (.t 50) 0,no⟩ (.op ⟨some 64,.ext (.t 50) 1,no⟩ (.hop ⟨no,.st 2 (.t 11) (.t 63),no⟩ [] (.op ⟨some 12,.mv (.t 64),no⟩ .fin))))))))))))))))))))
def K6a:AC:=(.draw (.op ⟨some 71,.mv (.t 3),no⟩ (.op ⟨some 72,.fld 0 (.t 6),no⟩ (.op ⟨some 73,.ld true 2 (.t 72),no⟩ (.op ⟨some 75,.ld true 2 (.t 11),no⟩ (.op ⟨some 74,.call (.k (.fn (.func 175) [] [])) [.t 73],no⟩ (.op ⟨some 76,.build [(.int .i64 0),(.nil 2),(.int .i64 0),(.nil 1)] [(0,(2,(.t 74))),(2,(2,(.t 75)))],no⟩ (.hop ⟨some 77,.bsl 4 [.t 76],no⟩ [] (.hop ⟨some 78,.app 64 4 (.t 71) (.t 77),no⟩ [] (.hop ⟨some 3,.mv (.t 78),no⟩ [] .fin))))))))))
def qoi:AC:=(.seq (.reg [⟨some 10,.mv (.k (.int .i64 0)),no⟩]) (.blk 2 (.loop (.seq (.seq (.reg [⟨some 43,.mv (.t 10),no⟩,⟨some 44,.fld 3 (.t 8),no⟩,⟨some 45,.ld false 1 (.t 44),no⟩,⟨some 46,.len false (.t 45),no⟩,⟨some 47,.bin .lss (.t 43) (.t 46),no⟩]) (.cond (.t 47) .skip (.exit 2))) (.seq (.blk 3 (.seq K5c (.seq (.seq (.reg [⟨some 65,.mv (.t 12),no⟩,⟨some 66,.un .not (.t 65),no⟩]) (.cond (.t 66) (.reg [⟨some 67,.fld 0 (.t 6),no⟩,⟨some 68,.fld 0 (.t 67),no⟩,⟨some 69,.ld false 1 (.t 68),no⟩,⟨some 70,.call (.k (.fn (.func 99) [] [])) [(.k (.int .i64 (-1))),.t 69],no⟩,⟨no,.st 2 (.t 11) (.t 70),no⟩]) .skip)) K6a))) (.reg [⟨some 48,.mv (.t 10),no⟩,⟨some 49,.bin .add (.t 48) (.k (.int .i64 1)),no⟩,⟨some 10,.mv (.t 49),no⟩]))))))
def qo3:AC:=(.seq (.reg [⟨some 5,.mv (.k (.int .i64 0)),no⟩]) (.blk 0 (.loop (.seq (.seq (.reg [⟨some 16,.mv (.t 5),no⟩,⟨some 17,.mv (.t 4),no⟩,⟨some 18,.len false (.t 17),no⟩,⟨some 19,.bin .lss (.t 16) (.t 18),no⟩]) (.cond (.t 19) .skip (.exit 0))) (.seq (.blk 1 (.seq K5o (.seq K56 qoi))) (.reg [⟨some 20,.mv (.t 5),no⟩,⟨some 21,.bin .add (.t 20) (.k (.int .i64 1)),no⟩,⟨some 5,.mv (.t 21),no⟩]))))))
def qo4:AC:=(.reg [⟨some 79,.mv (.t 3),no⟩,⟨some 2,.mv (.t 79),no⟩])
def a92:AFn:=⟨80,[.t 2],(.seq qo0 (.seq qo1 (.seq qo2 (.seq qo3 (.seq qo4 .ret)))))⟩
theorem a92_ok:J0a Tryz.prog Tryz.f92=some a92:=by kernel_rfl
section
variable {ks:List Kt}{s:Env}{h h':Heap}{n:Nat}{Q:Fin}
theorem Jrx {md:DModel}{t:DLin}{acc:List DObligation}{v:AV}{k6 k11:Nat}(s3:s 3=v) (s6:s 6 = .ptr k6 0 0) (s11:s 11 = .ptr k11 0 0) (e6:h k6=some ⟨true,6,[J0p md]⟩) (L:J5s t k11 h n) (B:J3c 0 4 (acc.map J06) v h n) (hw:J5n md.System.Rows≤1048576) (hl:acc.length≤3000000)
 (hK:∀ s' h' n',(∀ j∈[1,2,4,5,6,8,10],s' j=s j)→n≤n'→(∀ id z rows,id<n→h id=some ⟨true,z,rows⟩→h' id=h id)→J3c 0 4 ((acc++[(⟨md.System,t⟩:DObligation)]).map J06) (s' 3) h' n'→J2b Tryz.prog ks .normal s' h' n' Q):rC Tryz.prog K6a ks s h n Q:=by
 obtain ⟨q,hkn,hqn,hkb,hqb⟩:=L
 have ne:¬q=n∧¬n=q∧¬n=n+1∧¬n+1=n∧¬n+1=q∧¬q=n+1:=by omega
 have fr:∀ id,id<n→¬id=n∧¬id=n+1∧¬id=n+1+1:=by intro id _;omega
 have hqv:∀ l,v ≠ .ref q 0 l:=fun l e=>by have:=(B.lt e).2.2.1;rw [hqb] at this;simp at this
 simp [K6a,s3,s6,s11,e6,hkb]
 first|refine J00 (Jj6 md.System hw) (by first|simp;done|rfl) ?_|refine J02 (Jj6 md.System hw) (by first|simp;done|rfl) ?_
 rintro r rfl
 simp [J1x,hqb,ne]
 refine J2m (rows:=acc.map J06) (rows2:=[[.int .i64 md.System.N,.us 2 (md.System.Rows.map J08),.int .i64 t.Const,.us 1 (J0k t.Coeffs)]]) (B.keep (n':=n+1+1) (by omega) fun id _ hid e => ?_) (by simp) (fun l e=>by have:=(B.lt e).2.1;omega) (by omega) (by simp;unfold LIM;omega) ?_
 ·have:¬id=q:=fun e'=>hqv _ (by rw [←e'];exact e)
  simp [fr id hid,this]
 intro h1 f1 f2
 simp
 refine hK _ _ _ (by simp) (by omega) ?_ ?_
 ·intro id z rows h1' h3'
  have:¬id=q:=by rintro rfl;rw [hqb] at h3';simp at h3'
  rw [f2 id (by omega) (by omega) fun l e=>B.not_box h3' e];simp [fr id h1',this]
 ·simp
  exact .inr ⟨n+2,by omega,by omega,by simp,by simp [f1,J06]⟩
theorem Jrg {p:DProgram}(hp:J0f p≤1048576) {i x y:Nat}(hi:i<(J1w p).length) (he:(J1w p)[i]=⟨x,y⟩) (s1:s 1 = .ptr 0 0 0) (s4:s 4 = .sl 2 ((J1w p).map J2o)) (s5:s 5 = .int .i64 i) (e0:h 0=some ⟨true,2,[J01 p]⟩)
 (hK:∀ s' h' ,(∀ j∈[1,2,3,4,5],s' j=s j)→s' 6 = .ptr n 0 0→h' n=some ⟨true,6,[J0p (Jjb p ⟨x,y⟩)]⟩→(∀ id,id<n→h' id=h id)→J2b Tryz.prog ks .normal s' h' (n+1) Q):rC Tryz.prog K5o ks s h n Q:=by
 have hmd:(J6i p x).getD J73=Jjb p ⟨x,y⟩:=rfl
 simp [K5o,s1,s4,s5,e0,hi,he,J2o]
 have fr:∀ id,id<n→¬id=n:=by intro id _;omega
 constructor
 ·refine J49 (Jfs p hp x) (by simp) ?_
  rintro _ rfl
  unfold J51
  rw [hmd]
  generalize Jjb p ⟨x,y⟩=md at *
  simp
  exact hK _ _ (by simp) (by simp) (by simp) fun id hid=>by simp [fr id hid]
 ·refine J49 (Jfs p hp x) (by simp) ?_
  rintro _ rfl
  unfold J51
  rw [hmd]
  generalize Jjb p ⟨x,y⟩=md at *
  simp
  exact hK _ _ (by simp) (by simp) (by simp) fun id hid=>by simp [fr id hid]
theorem Jsx {p:DProgram}(hp:J0f p≤1048576) {i x y:Nat}(hi:i<(J1w p).length) (he:(J1w p)[i]=⟨x,y⟩) (hx:x<p.Rules.length) (hy:y<(p.Rules[x]).Calls.length) (s1:s 1 = .ptr 0 0 0) (s4:s 4 = .sl 2 ((J1w p).map J2o)) (s5:s 5 = .int .i64 i) (e0:h 0=some ⟨true,2,[J01 p]⟩)
 (hK:∀ s' h' ,(∀ j∈[1,2,3,4,5,6],s' j=s j)→s' 8 = .ptr n 0 0→h' n=some ⟨true,4,[J04 ((J0t p.Functions ((p.Rules[x]).Calls[y]).Func).getD fn0)]⟩→(∀ id,id<n→h' id=h id)→J2b Tryz.prog ks .normal s' h' (n+1) Q):rC Tryz.prog K56 ks s h n Q:=by
 have fr:∀ id,id<n→¬id=n:=by intro id _;omega
 simp [K56,s1,s4,s5,e0,hi,he]
 constructor
 ·skip
  first|refine J00 (Jdt p hx hy) (by first|simp [J01];done|rfl) ?_|refine J02 (Jdt p hx hy) (by first|simp [J01];done|rfl) ?_
  rintro r rfl
  generalize ((p.Rules[x]).Calls[y]).Func=nm at *
  simp
  constructor
  ·refine J49 (J1q p nm hp) (by simp) ?_
   rintro _ rfl
   unfold J7z
   generalize (J0t p.Functions nm).getD fn0=g at *
   simp
   exact hK _ _ (by simp) (by simp) (by simp) fun id hid=>by simp [fr id hid]
  ·refine J49 (J1q p nm hp) (by simp) ?_
   rintro _ rfl
   unfold J7z
   generalize (J0t p.Functions nm).getD fn0=g at *
   simp
   exact hK _ _ (by simp) (by simp) (by simp) fun id hid=>by simp [fr id hid]
 ·skip
  first|refine J00 (Jdt p hx hy) (by first|simp [J01];done|rfl) ?_|refine J02 (Jdt p hx hy) (by first|simp [J01];done|rfl) ?_
  rintro r rfl
  generalize ((p.Rules[x]).Calls[y]).Func=nm at *
  simp
  ·refine J49 (J1q p nm hp) (by simp) ?_
   rintro _ rfl
   unfold J7z
   generalize (J0t p.Functions nm).getD fn0=g at *
   simp
   exact hK _ _ (by simp) (by simp) (by simp) fun id hid=>by simp [fr id hid]
theorem Jst {md:DModel}{l:DLin}{g:DFunction}{el:List DEdge}{i j k6 k8:Nat}(hi:i<el.length) (hj:j<g.Pre.length) (s4:s 4 = .sl 2 (el.map J2o)) (s5:s 5 = .int .i64 i) (s6:s 6 = .ptr k6 0 0) (s8:s 8 = .ptr k8 0 0) (s10:s 10 = .int .i64 j) (e6:h k6=some ⟨true,6,[J0p md]⟩) (e8:h k8=some ⟨true,4,[J04 g]⟩) (hl:g.Pre[j]=l)
 (hK:∀ s' h' n',(∀ j∈[1,2,3,4,5,6,8,10],s' j=s j)→n≤n'→s' 12 = .bool (J2s md l (el[i]).Call).isSome→(∃ k,s' 11 = .ptr k 0 0∧n≤k∧J5s ((J2s md l (el[i]).Call).getD J1b) k h' n')→(∀ id,id<n→h' id=h id)→J2b Tryz.prog ks .normal s' h' n' Q):rC Tryz.prog K5c ks s h n Q:=by
 have fr:∀ id,id<n→¬id=n∧¬id=n+1:=by intro id _;omega
 have ne:¬n=n+1∧¬n+1=n:=by omega
 subst hl
 simp [K5c,s4,s5,s6,s8,s10,e6,e8,hi,hj,J2o,J04]
 generalize el[i]=e at *
 constructor
 ·skip
  first|refine J00 (J33 md (g.Pre[j]'hj) e.Call) (by first|simp;done|rfl) ?_|refine J02 (J33 md (g.Pre[j]'hj) e.Call) (by first|simp;done|rfl) ?_
  rintro r rfl
  rw [J0l]
  generalize (J2s md g.Pre[j] e.Call).getD J1b=t at *
  generalize (J2s md g.Pre[j] e.Call).isSome=b at *
  simp [J08,ne]
  exact hK _ _ _ (by simp) (by omega) (by simp) ⟨n+1,by simp,by omega,n,by omega,by omega,by simp,by simp [ne]⟩ fun id hid=>by simp [fr id hid]
 ·skip
  first|refine J00 (J33 md (g.Pre[j]'hj) e.Call) (by first|simp;done|rfl) ?_|refine J02 (J33 md (g.Pre[j]'hj) e.Call) (by first|simp;done|rfl) ?_
  rintro r rfl
  rw [J0l]
  generalize (J2s md g.Pre[j] e.Call).getD J1b=t at *
  generalize (J2s md g.Pre[j] e.Call).isSome=b at *
  simp [J08,ne]
  exact hK _ _ _ (by simp) (by omega) (by simp) ⟨n,by simp,by omega,n+1,by omega,by omega,by simp,by simp [ne]⟩ fun id hid=>by simp [fr id hid]
theorem Jwx {md:DModel}{el:List DEdge}{i:Nat}{g:DFunction}{acc0 T:List DObligation}{k6 k8:Nat}{pr:List (List AV)}(hi:i<el.length) (s1:s 1 = .ptr 0 0 0) (s4:s 4 = .sl 2 (el.map J2o)) (s5:s 5 = .int .i64 i) (s6:s 6 = .ptr k6 0 0) (s8:s 8 = .ptr k8 0 0) (hk6:k6<n) (hk8:k8<n) (hk0:0<n) (e0:h 0=some ⟨true,2,pr⟩) (e6:h k6=some ⟨true,6,[J0p md]⟩) (e8:h k8=some ⟨true,4,[J04 g]⟩)
 (B:J3c 0 4 (acc0.map J06) (s 3) h n) (hw:J5n md.System.Rows≤1048576) (hT:acc0++g.Pre.map (fun l=>Jm9 md l (el[i]).Call)=T) (hTl:T.length≤2097152) (hgl:g.Pre.length≤1048576)
 (hK:∀ s' h' n',(∀ j∈[1,2,4,5],s' j=s j)→0<n'→h' 0=some ⟨true,2,pr⟩→J3c 0 4 (T.map J06) (s' 3) h' n'→J2b Tryz.prog ks .normal s' h' n' Q):rC Tryz.prog qoi ks s h n Q:=by
 simp [qoi]
 refine J0o [1,2,4,5,6,8] 10 g.Pre.length (fun j s h m=>k6<m∧k8<m∧0<m∧h 0=some ⟨true,2,pr⟩∧h k8=some ⟨true,4,[J04 g]⟩∧h k6=some ⟨true,6,[J0p md]⟩∧∃ acc,J3c 0 4 (acc.map J06) (s 3) h m∧acc++(g.Pre.drop j).map (fun l=>Jm9 md l (el[i]).Call)=T) (by unfold LIM;omega) (by simp)
  ⟨hk6,hk8,hk0,e0,e8,e6,acc0,by simpa using B,by simpa using hT⟩ ?_ ?_
 ·rintro j st h m R hj hg hk s10 hw' ⟨m6,m8,m0,e0,e8,e6,acc,B,hJ⟩ hR _ _
  simp at hk
  rw [List.drop_eq_getElem_cons hj,List.map_cons] at hJ
  have hal:=congrArg List.length hJ
  simp at hal
  refine J0b (J0i [1,2,3,4,5,6,8,10] (fun s=>s 47 = .bool true) (by simp [hk,s8,s10,e8,J04,hj]) ?_)
  intro st1 hk1 s47
  simp at hk1
  refine J29 s47 (J0b (J1c ?_))
  generalize hl:g.Pre[j]=l at *
  refine J0b (Jst (md:=md) (l:=l) (g:=g) (el:=el) (i:=i) (j:=j) (k6:=k6) (k8:=k8) hi hj (by simp [hk1,hk,s4]) (by simp [hk1,hk,s5]) (by simp [hk1,hk,s6]) (by simp [hk1,hk,s8]) (by simp [hk1,s10]) e6 e8 hl ?_)
  rintro st3 h3 n3 hk3 hn3 s12 ⟨k11,s11,hk11,q,y1,y2,y3,y4⟩ hfr3
  simp at hk3
  generalize (el[i]).Call=cl at *
  have z6:st3 6 = .ptr k6 0 0:=by simp [hk3,hk1,hk,s6]
  have d6:=hfr3 k6 m6
  rw [e6] at d6
  refine J4p (J15 [1,2,3,4,5,6,8,10,11] (fun s h4 n4=>n3≤n4∧J5s ((J2s md l cl).getD (J05 (-1) md.System.N)) k11 h4 n4∧∀ id,id<m→h4 id=h id) ?_ ?_)
  ·cases ht:J2s md l cl with
   | some t=>
    rw [ht] at s12 y3 y4
    simp [s12]
    exact ⟨⟨q,y1,y2,y3,y4⟩,hfr3⟩
   | none=>
    rw [ht] at s12
    simp only [Option.isSome_none] at s12
    have nk:¬k11=n3∧¬n3=k11:=by omega
    simp [s12,z6,d6,J0p]
    first|refine J00 (J13 (-1) md.System.N) (by first|simp;done|rfl) ?_|refine J02 (J13 (-1) md.System.N) (by first|simp;done|rfl) ?_
    rintro r rfl
    generalize J05 (-1) md.System.N=t
    simp [J08,s11,nk,y3]
    refine ⟨⟨n3,by omega,by omega,by simp,by simp [nk]⟩,fun id hid => ?_⟩
    have:¬id=k11∧¬id=n3:=by omega
    simp [this,hfr3 id hid]
  rintro st4 h4 n4 hk4 ⟨hn4,L4,hfr4⟩
  simp at hk4
  have B4:J3c 0 4 (acc.map J06) (st 3) h4 n4:=B.keep (by omega) fun id _ hid _=>hfr4 id hid
  refine Jrx (md:=md) (t:=(J2s md l cl).getD (J05 (-1) md.System.N)) (acc:=acc) (v:=st 3) (k6:=k6) (k11:=k11) (by simp [hk4,hk3,hk1]) (by simp [hk4,z6]) (by simp [hk4,s11]) (by rw [hfr4 k6 m6,e6]) L4 B4 hw (by omega) ?_
  intro st5 h5 n5 hk5 hn5 bx5 B5
  simp at hk5
  simp [hk5,hk4,hk3,hk1,s10,hw']
  have f0:=hfr4 0 m0
  have f8:=hfr4 k8 m8
  have f6:=hfr4 k6 m6
  rw [e0] at f0
  rw [e8] at f8
  rw [e6] at f6
  refine hR _ _ _ (by simp [hk5,hk4,hk3,hk1,hk]) (by simp) ⟨by omega,by omega,by omega,by rw [bx5 0 _ _ (by omega) f0,f0],by rw [bx5 k8 _ _ (by omega) f8,f8],by rw [bx5 k6 _ _ (by omega) f6,f6],acc++[Jm9 md l cl],?_,by simpa using hJ⟩
  simp
  simpa [Jm9] using B5
 ·rintro st h m R hk s10 ⟨m6,m8,m0,e0,e8,e6,acc,B,hJ⟩ _ hX
  simp at hk
  rw [List.drop_eq_nil_of_le (by omega)] at hJ
  simp at hJ
  subst hJ
  refine J0b (J0i [1,2,3,4,5] (fun s=>s 47 = .bool false) (by simp [hk,s8,s10,e8,J04]) ?_)
  intro st1 hk1 s47
  simp at hk1
  refine J23 s47 ?_
  refine hX _ _ _ _ ?_
  simp
  refine hK _ _ _ (by simp [hk1,hk]) m0 e0 ?_
  rw [hk1.2.2.1];exact B
end
theorem J83 (p:DProgram) (hp:J0f p≤1048576):Holds Tryz.prog 92 [.agg (J01 p)] (fun x=>x = .us 4 ((Jf5 p).map J06)):=by
 have hTl:=Jc5 p hp
 have hel:=Jar p hp
 refine J03 Tryz.func92 a92_ok rfl (by simp [a92]) ?_
 simp [a92,qo0,qo1,qo2,J01]
 refine J7x (Jmm p hp) (by simp [J01]) ?_
 rintro _ rfl
 simp [qo3]
 unfold Jf5 at hTl ⊢
 generalize hT:(J1w p).flatMap (J8s p)=T at *
 refine J0o [1,4] 5 (J1w p).length (fun i s h m=>0<m∧h 0=some ⟨true,2,[J01 p]⟩∧∃ acc,J3c 0 4 (acc.map J06) (s 3) h m∧acc++((J1w p).drop i).flatMap (J8s p)=T) (by unfold LIM;omega) (by simp) ⟨by simp,by simp [J01],[],.inr ⟨1,by omega,by omega,by simp,by simp⟩,by simpa using hT⟩ ?_ ?_
 ·rintro i st h m R hi hg hk s5 hw' ⟨m0,e0,acc,B,hJ⟩ hR _ _
  simp at hk
  have hpo:=Jnk hi
  rw [List.drop_eq_getElem_cons hi,List.flatMap_cons] at hJ
  obtain ⟨x,y,hx,hy,he,hf,ht0⟩:=Jg5 hi
  rw [←List.append_assoc] at hJ
  generalize hrest:List.flatMap (J8s p) (List.drop (i+1) (J1w p))=rest at hJ
  have hal:=congrArg List.length hJ
  simp only [List.length_append] at hal
  refine J0b (J0i [1,3,4,5] (fun s=>s 19 = .bool true) (by simp [hk,s5,hi]) ?_)
  intro st1 hk1 s19
  simp at hk1
  refine J29 s19 (J0b (J1c ?_))
  have hedge:(J8s p (J1w p)[i])=((Jdd p ⟨x,y⟩).map fun l=>Jm9 (Jjb p ⟨x,y⟩) l (y:Int)):=by rw [he];rfl
  rw [hedge] at hJ hal
  have hpa:Jdd p ⟨x,y⟩=((J0t p.Functions ((p.Rules[x]).Calls[y]).Func).getD fn0).Pre:=by unfold Jdd;rw [ht0]
  have hgl:(Jdd p ⟨x,y⟩).length≤1048576:=by
   rw [hpa]
   cases hfn:J0t p.Functions ((p.Rules[x]).Calls[y]).Func with
   | none=>simp [fn0]
   | some g=>have:=(Jk2 hpo hfn).2.2.2;simp only [Option.getD_some];omega
  have hmsz:=Jo4 hpo (k:=y) hx
  have hcall:((J1w p)[i]).Call=(y:Int):=by rw [he]
  refine J0b (Jrg hp hi he (by simp [hk1,hk]) (by simp [hk1,hk]) (by simp [hk1,s5]) e0 ?_)
  intro st2 h2 hk2 s6 em hfr2
  simp at hk2
  refine J4p (J0b (Jsx hp hi he hx hy (by simp [hk2,hk1,hk]) (by simp [hk2,hk1,hk]) (by simp [hk2,hk1,s5]) (by rw [hfr2 0 m0,e0]) ?_))
  intro st3 h3 hk3 s8 e8 hfr3
  simp at hk3
  refine J4p (Jwx (md:=Jjb p ⟨x,y⟩) (el:=J1w p) (i:=i) (g:=(J0t p.Functions ((p.Rules[x]).Calls[y]).Func).getD fn0) (acc0:=acc) (T:=acc++(Jdd p ⟨x,y⟩).map fun l=>Jm9 (Jjb p ⟨x,y⟩) l (y:Int)) (k6:=m) (k8:=m+1) (pr:=[J01 p]) hi (by simp [hk3,hk2,hk1,hk]) (by simp [hk3,hk2,hk1,hk]) (by simp [hk3,hk2,hk1,s5]) (by simp [hk3,s6]) s8 (by omega) (by omega) (by omega) (by rw [hfr3 0 (by omega),hfr2 0 m0,e0]) (by rw [hfr3 m (by omega),em]) e8 ?_ (by omega) (by rw [hpa,hcall]) (by simp only [List.length_append];omega) (by rw [←hpa];exact hgl) ?_)
  ·have:st3 3=st 3:=by simp [hk3,hk2,hk1]
   rw [this]
   exact B.keep (by omega) fun id _ hid _=>by rw [hfr3 id (by omega),hfr2 id hid]
  intro st6 h6 n6 hk6 hn6 e06 B6
  simp at hk6
  simp [hk6,hk3,hk2,hk1,s5,hw']
  refine hR _ _ _ (by simp [hk6,hk3,hk2,hk1,hk]) (by simp) ⟨by omega,e06,_,?_,by rw [hrest];exact hJ⟩
  simp only [Jmp (show ¬3=5 by omega),Jmp (show ¬3=20 by omega),Jmp (show ¬3=21 by omega)]
  exact B6
 ·rintro st h m R hk s5 ⟨m0,e0,acc,B,hJ⟩ _ hX
  simp at hk
  rw [List.drop_eq_nil_of_le (by omega)] at hJ
  simp at hJ
  subst hJ
  refine J0b (J0i [3] (fun s=>s 19 = .bool false) (by simp [hk,s5]) ?_)
  intro st1 hk1 s19
  simp at hk1
  refine J23 s19 ?_
  refine hX _ _ _ _ ?_
  obtain ⟨h2,d1,_⟩:=B.dt
  simp [qo4,hk1,-dt,-dtl,d1]
def a309:AFn:= ⟨6,[.t 2],(.seq (.reg [⟨some 2,.mv (.k (.bool false)),no⟩]) (.seq (.reg [⟨some 3,.mv (.t 0),no⟩,⟨some 4,.call (.k (.fn (.func 102) [] [])) [.t 3,(.k (.int .i64 0)),(.k (.int .i64 1000000000))],no⟩,⟨some 5,.un .not (.t 4),no⟩,⟨some 2,.mv (.t 5),no⟩]) .ret))⟩
theorem a309_ok:J0a Tryz.prog Tryz.f309=some a309:=by kernel_rfl
def a278:AFn:= ⟨52,[(.c 4 true 2),.t 5],(.seq (.reg [⟨some 2,.boxv (.t 0),no⟩,⟨some 4,.box [(.int .i64 0),(.nil 1)],no⟩,⟨some 5,.mv (.k (.bool false)),no⟩]) (.seq (.seq (.reg [⟨some 10,.ld true 2 (.t 2),no⟩,⟨some 11,.call (.k (.fn (.func 277) [] [])) [.t 10],no⟩,⟨some 12,.un .not (.t 11),no⟩,⟨some 13,.mv (.t 12),no⟩,⟨some 14,.mv (.t 1),(some (13,false))⟩,⟨some 15,.len false (.t 14),(some (13,false))⟩,⟨some 16,.fld 1 (.t 2),(some (13,false))⟩,⟨some 17,.ld false 1 (.t 16),(some (13,false))⟩,⟨some 18,.len false (.t 17),(some (13,false))⟩,⟨some 19,.bin .neq (.t 15) (.t 18),(some (13,false))⟩,⟨some 20,.pick (.t 13) (.k (.bool true)) (.t 19),no⟩,⟨some 21,.mv (.t 20),no⟩,⟨some 22,.mv (.t 1),(some (21,false))⟩,⟨some 23,.call (.k (.fn (.func 233) [] [])) [.t 22,(.k (.fn (.func 309) [] []))],(some (21,false))⟩,⟨some 24,.pick (.t 21) (.k (.bool true)) (.t 23),no⟩]) (.cond (.t 24) (.seq (.reg [⟨some 25,.build [(.int .i64 0),(.nil 1)] [],no⟩,⟨no,.st 2 (.t 4) (.t 25),no⟩,⟨some 5,.mv (.k (.bool false)),no⟩]) .ret) .skip)) (.seq (.reg [⟨some 26,.fld 0 (.t 2),no⟩,⟨some 27,.ld false 1 (.t 26),no⟩,⟨some 28,.call (.k (.fn (.func 178) [] [])) [(.k (.int .i64 0)),.t 27],no⟩,⟨some 6,.box [(.int .i64 0),(.nil 1)],no⟩,⟨no,.st 2 (.t 6) (.t 28),no⟩]) (.seq (.reg [⟨some 7,.mv (.k (.bool true)),no⟩]) (.seq (.seq (.reg [⟨some 29,.mv (.t 1),no⟩,⟨some 30,.len false (.t 29),no⟩,⟨some 31,.mv (.k (.int .i64 0)),no⟩]) (.blk 0 (.loop (.seq (.reg [⟨some 32,.bin .lss (.t 31) (.t 30),no⟩]) (.seq (.cond (.t 32) .skip (.exit 0)) (.seq (.blk 1 (.seq (.reg [⟨some 33,.mv (.t 31),no⟩,⟨some 34,.ixa 1 (.t 29) (.t 31),no⟩,⟨some 35,.ld false 1 (.t 34),no⟩,⟨some 8,.mv (.t 33),no⟩,⟨some 9,.mv (.t 35),no⟩]) (.seq (.draw (.op ⟨some 37,.ld true 2 (.t 6),no⟩ (.op ⟨some 38,.mv (.t 9),no⟩ (.op ⟨some 39,.fld 1 (.t 2),no⟩ (.op ⟨some 40,.ld false 1 (.t 39),no⟩ (.op ⟨some 41,.mv (.t 8),no⟩ (.op ⟨some 42,.ixa 2 (.t 40) (.t 41),no⟩ (.op ⟨some 43,.ld true 2 (.t 42),no⟩ (.op ⟨some 44,.call (.k (.fn (.func 193) [] [])) [.t 37,.t 38,.t 43],no⟩ (.op ⟨some 36,.mv (.t 44),no⟩ (.op ⟨some 45,.ext (.t 36) 0,no⟩ (.op ⟨some 46,.ext (.t 36) 1,no⟩ (.hop ⟨no,.st 2 (.t 6) (.t 45),no⟩ [] (.op ⟨some 7,.mv (.t 46),no⟩ .fin)))))))))))))) (.seq (.reg [⟨some 47,.mv (.t 7),no⟩,⟨some 48,.un .not (.t 47),no⟩]) (.cond (.t 48) (.seq (.reg [⟨some 49,.build [(.int .i64 0),(.nil 1)] [],no⟩,⟨no,.st 2 (.t 4) (.t 49),no⟩,⟨some 5,.mv (.k (.bool false)),no⟩]) .ret) .skip))))) (.reg [⟨some 50,.bin .add (.t 31) (.k (.int .i64 1)),no⟩,⟨some 31,.mv (.t 50),no⟩]))))))) (.seq (.reg [⟨some 51,.ld true 2 (.t 6),no⟩,⟨no,.st 2 (.t 4) (.t 51),no⟩,⟨some 5,.mv (.k (.bool true)),no⟩]) .ret))))))⟩
theorem a278_ok:J0a Tryz.prog Tryz.f278=some a278:=by kernel_rfl
def a275:AFn:= ⟨57,[(.c 4 true 2),.t 5],(.seq (.reg [⟨some 2,.boxv (.t 0),no⟩,⟨some 4,.box [(.int .i64 0),(.nil 1)],no⟩,⟨some 5,.mv (.k (.bool false)),no⟩]) (.seq (.seq (.reg [⟨some 10,.ld true 2 (.t 2),no⟩,⟨some 11,.call (.k (.fn (.func 258) [] [])) [.t 10],no⟩,⟨some 12,.un .not (.t 11),no⟩,⟨some 13,.mv (.t 12),no⟩,⟨some 14,.mv (.t 1),(some (13,false))⟩,⟨some 15,.len false (.t 14),(some (13,false))⟩,⟨some 16,.fld 1 (.t 2),(some (13,false))⟩,⟨some 17,.ld false 1 (.t 16),(some (13,false))⟩,⟨some 18,.len false (.t 17),(some (13,false))⟩,⟨some 19,.bin .neq (.t 15) (.t 18),(some (13,false))⟩,⟨some 20,.pick (.t 13) (.k (.bool true)) (.t 19),no⟩]) (.cond (.t 20) (.seq (.reg [⟨some 21,.build [(.int .i64 0),(.nil 1)] [],no⟩,⟨no,.st 2 (.t 4) (.t 21),no⟩,⟨some 5,.mv (.k (.bool false)),no⟩]) .ret) .skip)) (.seq (.reg [⟨some 22,.fld 0 (.t 2),no⟩,⟨some 23,.ld false 1 (.t 22),no⟩,⟨some 24,.call (.k (.fn (.func 99) [] [])) [(.k (.int .i64 0)),.t 23],no⟩,⟨some 6,.box [(.int .i64 0),(.nil 1)],no⟩,⟨no,.st 2 (.t 6) (.t 24),no⟩]) (.seq (.seq (.reg [⟨some 7,.mv (.k (.int .i64 0)),no⟩]) (.blk 0 (.loop (.seq (.seq (.reg [⟨some 25,.mv (.t 7),no⟩,⟨some 26,.mv (.t 1),no⟩,⟨some 27,.len false (.t 26),no⟩,⟨some 28,.bin .lss (.t 25) (.t 27),no⟩]) (.cond (.t 28) .skip (.exit 0))) (.seq (.blk 1 (.seq (.draw (.op ⟨some 32,.ld true 2 (.t 6),no⟩ (.op ⟨some 33,.mv (.t 1),no⟩ (.op ⟨some 34,.mv (.t 7),no⟩ (.op ⟨some 35,.ixa 1 (.t 33) (.t 34),no⟩ (.op ⟨some 36,.ld false 1 (.t 35),no⟩ (.op ⟨some 37,.fld 1 (.t 2),no⟩ (.op ⟨some 38,.ld false 1 (.t 37),no⟩ (.op ⟨some 39,.mv (.t 7),no⟩ (.op ⟨some 40,.ixa 2 (.t 38) (.t 39),no⟩ (.op ⟨some 41,.ld true 2 (.t 40),no⟩ (.both (.op ⟨some 42,.call (.k (.fn (.func 98) [] [])) [.t 32,.t 36,.t 41],no⟩ (.op ⟨some 31,.mv (.t 42),no⟩ (.op ⟨some 43,.ext (.t 31) 0,no⟩ (.op ⟨some 44,.ext (.t 31) 1,no⟩ (.op ⟨some 8,.box [(.int .i64 0),(.nil 1)],no⟩ (.hop ⟨no,.st 2 (.t 8) (.t 43),no⟩ [] (.op ⟨some 9,.mv (.t 44),no⟩ .fin))))))) (.op ⟨some 8,.box [(.int .i64 0),(.nil 1)],no⟩ (.op ⟨some 42,.call (.k (.fn (.func 98) [] [])) [.t 32,.t 36,.t 41],no⟩ (.op ⟨some 31,.mv (.t 42),no⟩ (.op ⟨some 43,.ext (.t 31) 0,no⟩ (.op ⟨some 44,.ext (.t 31) 1,no⟩ (.hop ⟨no,.st 2 (.t 8) (.t 43),no⟩ [] (.op ⟨some 9,.mv (.t 44),no⟩ .fin))))))))))))))))))) (.seq (.seq (.reg [⟨some 45,.mv (.t 9),no⟩,⟨some 46,.un .not (.t 45),no⟩,⟨some 47,.mv (.t 46),no⟩,⟨some 48,.mv (.t 1),(some (47,false))⟩,⟨some 49,.mv (.t 7),(some (47,false))⟩,⟨some 50,.ixa 1 (.t 48) (.t 49),(some (47,false))⟩,⟨some 51,.ld false 1 (.t 50),(some (47,false))⟩,⟨some 52,.bin .lss (.t 51) (.k (.int .i64 0)),(some (47,false))⟩,⟨some 53,.pick (.t 47) (.k (.bool true)) (.t 52),no⟩]) (.cond (.t 53) (.seq (.reg [⟨some 54,.build [(.int .i64 0),(.nil 1)] [],no⟩,⟨no,.st 2 (.t 4) (.t 54),no⟩,⟨some 5,.mv (.k (.bool false)),no⟩]) .ret) .skip)) (.reg [⟨some 55,.ld true 2 (.t 8),no⟩,⟨no,.st 2 (.t 6) (.t 55),no⟩])))) (.reg [⟨some 29,.mv (.t 7),no⟩,⟨some 30,.bin .add (.t 29) (.k (.int .i64 1)),no⟩,⟨some 7,.mv (.t 30),no⟩])))))) (.seq (.reg [⟨some 56,.ld true 2 (.t 6),no⟩,⟨no,.st 2 (.t 4) (.t 56),no⟩,⟨some 5,.mv (.k (.bool true)),no⟩]) .ret)))))⟩
theorem a275_ok:J0a Tryz.prog Tryz.f275=some a275:=by kernel_rfl
def J8q:List (Int×DLin)→DLin→Option DLin
 | [],o=>some o
 | p::l,o=>match J0j o p.1 p.2 with
  | some o'=>if p.1<0 then Option.none else J8q l o'
  | Option.none=>Option.none
def J8x (x:DSystem) (m:List Int):Option DLin:=
 if Je6 x&&decide (m.length=x.Rows.length) then J8q (m.zip x.Rows) (J05 0 x.N) else Option.none
theorem Jft:∀ (l:List (Int×DLin)) (o:DLin),(∃ p∈l,inR p.1 0 1000000000=false)→J8q l o=Option.none
 | [],o,h=>by obtain ⟨p,hp,_⟩:=h;cases hp
 | q::l,o,h=>by
  obtain ⟨p,hp,hb⟩:=h
  simp only [J8q]
  split
  ·rename_i o' ho
   split
   ·rfl
   ·rename_i hq
    rcases List.mem_cons.1 hp with rfl|hp
    ·exfalso
     have hk:okC p.1=true:=by
      cases hc:okC p.1
      ·unfold J0j at ho;rw [hc] at ho;simp at ho
      ·rfl
     rw [Jca] at hk
     simp [inR] at hb
     omega
    ·exact Jft l o' ⟨p,hp,hb⟩
  ·rfl
theorem Jwn {m:List Int}{rows:List DLin}(hl:m.length=rows.length) (h:m.all (fun v=>inR v 0 1000000000)=false):∃ p∈m.zip rows,inR p.1 0 1000000000=false:=by
 rw [List.all_eq_false] at h
 obtain ⟨v,hv,hb⟩:=h
 obtain ⟨i,hi,rfl⟩:=List.mem_iff_getElem.1 hv
 exact ⟨(m[i],rows[i]),List.mem_iff_getElem.2 ⟨i,by simp;omega,by simp⟩,by simpa using hb⟩
theorem Jfm (n:Int):Holds Tryz.prog 309 [i64 n] (fun r=>r = .bool (!(inR n 0 1000000000))):=by
 refine J03 Tryz.func309 a309_ok rfl (by simp [a309]) ?_
 simp [a309]
 first|refine J00 (J1s n 0 1000000000) (by first|simp;done|rfl) ?_|refine J02 (J1s n 0 1000000000) (by first|simp;done|rfl) ?_
 rintro r rfl
 simp
set_option maxHeartbeats 1000000 in
theorem Jbv (x:DSystem) (m:List Int):Holds Tryz.prog 278 [.agg (J0x x),.sl 1 (J0k m)] (fun r=>r=J0u (J8x x m)):=by
 refine J03 Tryz.func278 a278_ok rfl (by simp [a278]) ?_
 simp [a278,J0x]
 first|refine J00 (J5d x) (by first|simp [J0x];done|rfl) ?_|refine J02 (J5d x) (by first|simp [J0x];done|rfl) ?_
 rintro r rfl
 unfold J8x
 cases h1:Je6 x
 ·simp [J0u,J1b,J08,J0k]
 simp
 intro hlm hlr
 by_cases h2:m.length=x.Rows.length
 case neg=>simp [h2,J0u,J1b,J08,J0k];omega
 simp [h2]
 refine J1d (p:=fun n => !(inR n 0 1000000000)) (rowOf:=fun n=>[i64 n]) (eltOf:=i64) Tryz.func233 a233_ok rfl Tryz.func292 a292_ok rfl (fun x=>by simp) m
  (fun x _=>J4y (Jfm x) rfl rfl) ?_
 rw [J89 (fun n:Int=>inR n 0 1000000000)]
 cases h3:m.all (fun n=>inR n 0 1000000000)
 ·rw [Jft _ _ (Jwn h2 h3)]
  simp [J0u,J1b,J08,J0k]
 simp
 first|refine J00 (J1t 0 x.N) (by first|simp;done|rfl) ?_|refine J02 (J1t 0 x.N) (by first|simp;done|rfl) ?_
 rintro r rfl
 simp [J08]
 intro _
 have hzl:(m.zip x.Rows).length=m.length:=by simp [h2]
 refine J0o [2,4,6,29,30] 31 m.length (fun i s h n=>h 0=some ⟨true,2,[[.int .i64 x.N,.sl 2 (x.Rows.map J07)]]⟩∧h 1=some ⟨true,2,[[.int .i64 0,.nil 1]]⟩∧3<n ∧
  ∃ (o:DLin) (id:Nat),h 3=some ⟨true,2,[[.int .i64 o.Const,.ref id 0 o.Coeffs.length]]⟩∧h id=some ⟨false,1,J0k o.Coeffs⟩∧id<n∧(id=2∨3<id)∧J8q ((m.zip x.Rows).drop i) o=J8q (m.zip x.Rows) (J05 0 x.N))
  hlm (by simp) ⟨by simp,by simp,by simp,J05 0 x.N,2,by simp,by simp,by omega,by omega,rfl⟩ ?_ ?_
 ·rintro i s h n R hi hg hk s31 hw ⟨e0,e1,hn,o,id,e3,eid,hidn,hid,hJ⟩ hR hret _
  simp at hk
  have hir:i<x.Rows.length:=by omega
  rw [List.drop_eq_getElem_cons (by omega:i<(m.zip x.Rows).length)] at hJ
  simp only [J8q,List.getElem_zip] at hJ
  have hm:=List.all_eq_true.1 h3 _ (List.getElem_mem hi)
  simp [inR] at hm
  have n0:¬0=n:=by omega
  have n1:¬1=n:=by omega
  have n3:¬3=n:=by omega
  have n3':¬n=3:=by omega
  have nid:¬id=n:=by omega
  simp [hk,s31,hi,hg,hw,hir,e0,e1,e3,eid]
  first|refine J00 (J1r o (m[i]'hi) (x.Rows[i]'hir)) (by first|simp [J07,eid];done|rfl) ?_|refine J02 (J1r o (m[i]'hi) (x.Rows[i]'hir)) (by first|simp [J07,eid];done|rfl) ?_
  rintro r rfl
  cases ho:J0j o m[i] x.Rows[i]
  ·rw [ho] at hJ
   simp [J0u,J1b,J08,hk,e0,e1,e3,n0,n1,n3,n3']
   refine hret _ _ _ ?_
   simp [hk,←hJ,J0u,J1b,J08,J0k]
  ·rename_i o'
   rw [ho] at hJ
   simp only at hJ
   rw [if_neg (by omega)] at hJ
   simp [J0u,J08,hk,s31,hw,e0,e1,e3,n0,n1,n3,n3']
   exact hR _ _ _ (by simp [hk]) (by simp) ⟨by simp [e0,n0],by simp [e1,n1],by omega,o',n,by simp,by simp [n3'],by omega,by omega,hJ⟩
 ·rintro s h n R hk s31 ⟨e0,e1,hn,o,id,e3,eid,hidn,hid,hJ⟩ hret hX
  simp at hk
  rw [List.drop_eq_nil_of_le (by omega)] at hJ
  simp only [J8q] at hJ
  simp [hk,s31]
  refine hX _ _ _ _ ?_
  have i1:¬1=id:=by omega
  have i1':¬id=1:=by omega
  simp [hk,e1,e3,eid,←hJ,J0u,J08,i1,i1']
theorem Ja4 (x:DSystem) (m:List Int):Holds Tryz.prog 275 [.agg (J0x x),.sl 1 (J0k m)] (fun r=>r=J0u (J8x x m)):=by
 refine J1h Tryz.func275 rfl rfl fun hlm => ?_
 simp [J0x] at hlm
 refine J03 Tryz.func275 a275_ok rfl (by simp [a275]) ?_
 simp [a275,J0x]
 first|refine J00 (J8r x) (by first|simp [J0x];done|rfl) ?_|refine J02 (J8r x) (by first|simp [J0x];done|rfl) ?_
 rintro r rfl
 unfold J8x
 cases h1:Je6 x
 ·simp [J0u,J1b,J08,J0k]
 simp
 intro _ _
 by_cases h2:m.length=x.Rows.length
 case neg=>simp [h2,J0u,J1b,J08,J0k];omega
 simp [h2]
 first|refine J00 (J13 0 x.N) (by first|simp;done|rfl) ?_|refine J02 (J13 0 x.N) (by first|simp;done|rfl) ?_
 rintro r rfl
 simp [J08]
 have hzl:(m.zip x.Rows).length=m.length:=by simp [h2]
 refine J0o [1,2,4,6] 7 m.length (fun i s h n=>h 0=some ⟨true,2,[[.int .i64 x.N,.sl 2 (x.Rows.map J07)]]⟩∧h 1=some ⟨true,2,[[.int .i64 0,.nil 1]]⟩∧3<n ∧
  ∃ (o:DLin) (id:Nat),h 3=some ⟨true,2,[[.int .i64 o.Const,.ref id 0 o.Coeffs.length]]⟩∧h id=some ⟨false,1,J0k o.Coeffs⟩∧id<n∧(id=2∨3<id)∧J8q ((m.zip x.Rows).drop i) o=J8q (m.zip x.Rows) (J05 0 x.N))
  hlm.2 (by simp) ⟨by simp,by simp,by simp,J05 0 x.N,2,by simp,by simp,by omega,by omega,rfl⟩ ?_ ?_
 ·rintro i s h n R hi hg hk s7 hw ⟨e0,e1,hn,o,id,e3,eid,hidn,hid,hJ⟩ hR hret _
  simp at hk
  have hir:i<x.Rows.length:=by omega
  rw [List.drop_eq_getElem_cons (by omega:i<(m.zip x.Rows).length)] at hJ
  simp only [J8q,List.getElem_zip] at hJ
  have n0:¬0=n:=by omega
  have n1:¬1=n:=by omega
  have n3:¬3=n:=by omega
  have n3':¬n=3:=by omega
  have nid:¬id=n:=by omega
  have m0:¬0=n+1:=by omega
  have m1:¬1=n+1:=by omega
  have m3:¬3=n+1:=by omega
  have m3':¬n+1=3:=by omega
  have mid:¬id=n+1:=by omega
  have z0:¬n=0:=by omega
  have z2:¬n=2:=by omega
  simp [hk,s7,hi,hg,hir,e0,e1,e3,eid]
  intro _
  constructor
  ·skip
   first|refine J00 (J0m o (m[i]'hi) (x.Rows[i]'hir)) (by first|simp [J07,eid];done|rfl) ?_|refine J02 (J0m o (m[i]'hi) (x.Rows[i]'hir)) (by first|simp [J07,eid];done|rfl) ?_
   rintro r rfl
   cases ho:J0j o m[i] x.Rows[i]
   ·rw [ho] at hJ
    simp [J0u,J1b,J08,hk,s7,hi,e0,e1,e3,n0,n1,n3,n3',z0,z2]
    refine hret _ _ _ ?_
    simp [hk,←hJ,J0u,J1b,J08,J0k]
   ·rename_i o'
    rw [ho] at hJ
    simp only at hJ
    simp [J0u,J08,hk,s7,hi,hw,e0,e1,e3,n0,n1,n3,n3',z0,z2]
    refine ⟨fun hm => ?_,fun hm => ?_⟩
    ·rw [if_pos hm] at hJ
     refine hret _ _ _ ?_
     simp [hk,←hJ,J0u,J1b,J08,J0k]
    ·rw [if_neg (by omega)] at hJ
     exact hR _ _ _ (by simp [hk]) (by simp) ⟨by simp [e0,n0],by simp [e1,n1,z0],by omega,o',n,by simp,by simp [n3'],by omega,by omega,hJ⟩
  ·skip
   first|refine J00 (J0m o (m[i]'hi) (x.Rows[i]'hir)) (by first|simp [J07,eid,mid,nid];done|rfl) ?_|refine J02 (J0m o (m[i]'hi) (x.Rows[i]'hir)) (by first|simp [J07,eid,mid,nid];done|rfl) ?_
   rintro r rfl
   cases ho:J0j o m[i] x.Rows[i]
   ·rw [ho] at hJ
    simp [J0u,J1b,J08,hk,s7,hi,e0,e1,e3,n0,n1,n3,n3',z0,z2]
    refine hret _ _ _ ?_
    simp [hk,←hJ,J0u,J1b,J08,J0k]
   ·rename_i o'
    rw [ho] at hJ
    simp only at hJ
    simp [J0u,J08,hk,s7,hi,hw,e0,e1,e3,n0,n1,n3,n3',z0,z2]
    refine ⟨fun hm => ?_,fun hm => ?_⟩
    ·rw [if_pos hm] at hJ
     refine hret _ _ _ ?_
     simp [hk,←hJ,J0u,J1b,J08,J0k]
    ·rw [if_neg (by omega)] at hJ
     exact hR _ _ _ (by simp [hk]) (by simp) ⟨by simp [e0,n0],by simp [e1,n1,z0],by omega,o',n+1,by simp,by simp [z2],by omega,by omega,hJ⟩
 ·rintro s h n R hk s7 ⟨e0,e1,hn,o,id,e3,eid,hidn,hid,hJ⟩ hret hX
  simp at hk
  rw [List.drop_eq_nil_of_le (by omega)] at hJ
  simp only [J8q] at hJ
  simp [hk,s7]
  intro _
  refine hX _ _ _ _ ?_
  have i1:¬1=id:=by omega
  have i1':¬id=1:=by omega
  simp [hk,e1,e3,eid,←hJ,J0u,J08,i1,i1']
end Go.Proofs.YtoclolkigjbcgaaGreat

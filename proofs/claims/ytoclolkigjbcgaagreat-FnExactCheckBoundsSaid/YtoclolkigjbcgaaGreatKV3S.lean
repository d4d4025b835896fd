/- Contracts: valid sums, of the reference. -/
import Derived.Test.YtoclolkigjbcgaaGreatKHM0
namespace Go.Proofs.YtoclolkigjbcgaaGreat
set_option maxRecDepth 40000
set_option maxHeartbeats 4000000
open Go Go.RowKit Go.Proofs
set_option linter.all false
def a286:AFn:= ⟨62,[.t 2],(.seq (.reg [⟨some 1,.boxv (.t 0),no⟩,⟨some 2,.mv (.k (.bool false)),no⟩]) (.seq (.seq (.reg [⟨some 3,.mv (.k (.int .i64 0)),no⟩]) (.blk 0 (.loop (.seq (.seq (.reg [⟨some 5,.mv (.t 3),no⟩,⟨some 6,.fld 1 (.t 1),no⟩,⟨some 7,.ld false 1 (.t 6),no⟩,⟨some 8,.len false (.t 7),no⟩,⟨some 9,.bin .lss (.t 5) (.t 8),no⟩]) (.cond (.t 9) .skip (.exit 0))) (.seq (.blk 1 (.seq (.reg [⟨some 12,.fld 1 (.t 1),no⟩,⟨some 13,.ld false 1 (.t 12),no⟩,⟨some 14,.mv (.t 3),no⟩,⟨some 15,.ixa 2 (.t 13) (.t 14),no⟩,⟨some 16,.ld true 2 (.t 15),no⟩,⟨some 4,.box [(.int .i64 0),(.str [])],no⟩,⟨no,.st 2 (.t 4) (.t 16),no⟩]) (.seq (.draw (.op ⟨some 17,.fld 0 (.t 4),no⟩ (.op ⟨some 18,.ld false 1 (.t 17),no⟩ (.op ⟨some 19,.bin .eql (.t 18) (.k (.int .i64 0)),no⟩ (.op ⟨some 20,.mv (.t 19),no⟩ (.op ⟨some 21,.fld 0 (.t 4),(some (20,false))⟩ (.op ⟨some 22,.ld false 1 (.t 21),(some (20,false))⟩ (.op ⟨some 23,.call (.k (.fn (.func 318) [] [])) [.t 22],(some (20,false))⟩ (.op ⟨some 24,.un .not (.t 23),(some (20,false))⟩ (.op ⟨some 25,.pick (.t 20) (.k (.bool true)) (.t 24),no⟩ (.op ⟨some 26,.mv (.t 25),no⟩ (.op ⟨some 27,.fld 1 (.t 4),(some (26,false))⟩ (.op ⟨some 28,.ld false 1 (.t 27),(some (26,false))⟩ (.op ⟨some 29,.call (.k (.fn (.func 285) [] [])) [.t 28],(some (26,false))⟩ (.op ⟨some 30,.un .not (.t 29),(some (26,false))⟩ (.op ⟨some 31,.pick (.t 26) (.k (.bool true)) (.t 30),no⟩ (.op ⟨some 32,.mv (.t 31),no⟩ (.op ⟨some 33,.fld 1 (.t 4),(some (32,false))⟩ (.op ⟨some 34,.ld false 1 (.t 33),(some (32,false))⟩ (.op ⟨some 35,.call (.k (.fn (.func 260) [] [])) [.t 34],(some (32,false))⟩ (.op ⟨some 36,.pick (.t 32) (.k (.bool true)) (.t 35),no⟩ (.op ⟨some 37,.mv (.t 36),no⟩ (.op ⟨some 38,.mv (.t 3),(some (37,false))⟩ (.op ⟨some 39,.bin .gtr (.t 38) (.k (.int .i64 0)),(some (37,false))⟩ (.op ⟨some 40,.mv (.t 39),(some (37,false))⟩ (.op ⟨some 41,.fld 1 (.t 1),(some (40,true))⟩ (.op ⟨some 42,.ld false 1 (.t 41),(some (40,true))⟩ (.op ⟨some 43,.mv (.t 3),(some (40,true))⟩ (.op ⟨some 44,.bin .sub (.t 43) (.k (.int .i64 1)),(some (40,true))⟩ (.op ⟨some 45,.ixa 2 (.t 42) (.t 44),(some (40,true))⟩ (.op ⟨some 46,.fld 1 (.t 45),(some (40,true))⟩ (.op ⟨some 47,.ld false 1 (.t 46),(some (40,true))⟩ (.op ⟨some 48,.fld 1 (.t 4),(some (40,true))⟩ (.op ⟨some 49,.ld false 1 (.t 48),(some (40,true))⟩ (.op ⟨some 50,.bin .geq (.t 47) (.t 49),(some (40,true))⟩ (.op ⟨some 51,.pick (.t 40) (.t 50) (.k (.bool false)),(some (37,false))⟩ (.op ⟨some 52,.pick (.t 37) (.k (.bool true)) (.t 51),no⟩ .fin))))))))))))))))))))))))))))))))))))) (.cond (.t 52) (.seq (.reg [⟨some 2,.mv (.k (.bool false)),no⟩]) .ret) .skip)))) (.reg [⟨some 10,.mv (.t 3),no⟩,⟨some 11,.bin .add (.t 10) (.k (.int .i64 1)),no⟩,⟨some 3,.mv (.t 11),no⟩])))))) (.seq (.reg [⟨some 53,.fld 0 (.t 1),no⟩,⟨some 54,.ld false 1 (.t 53),no⟩,⟨some 55,.call (.k (.fn (.func 318) [] [])) [.t 54],no⟩,⟨some 56,.mv (.t 55),no⟩,⟨some 57,.fld 1 (.t 1),(some (56,true))⟩,⟨some 58,.ld false 1 (.t 57),(some (56,true))⟩,⟨some 59,.len false (.t 58),(some (56,true))⟩,⟨some 60,.bin .leq (.t 59) (.k (.int .i64 4)),(some (56,true))⟩,⟨some 61,.pick (.t 56) (.t 60) (.k (.bool false)),no⟩,⟨some 2,.mv (.t 61),no⟩]) .ret)))⟩
theorem a286_ok:J0a Tryz.prog Tryz.f286=some a286:=by kernel_rfl
set_option maxHeartbeats 1000000 in
theorem J6l (x:DSum):Holds Tryz.prog 286 [.agg (J1g x)] (fun r=>r = .bool (J8y x)):=by
 refine J1h Tryz.func286 rfl rfl fun hl => ?_
 simp [J1g] at hl
 refine J03 Tryz.func286 a286_ok rfl (by simp [a286]) ?_
 simp [a286,J1g]
 unfold J8y
 generalize hB:J6e Option.none x.Terms=B
 refine J0o [1] 3 x.Terms.length (fun i s h n=>0<n∧h 0=some ⟨true,2,[[i64 x.Const,.sl 2 (x.Terms.map J12)]]⟩∧J6e (Jdb x.Terms i) (x.Terms.drop i)=B) hl (by simp) ⟨by simp,by simp,by simpa [Jdb] using hB⟩ ?_ ?_
 ·rintro i st h n R hi hg hk s3x hw ⟨hn,e0,hJ⟩ hR hret _
  simp at hk
  rw [List.drop_eq_getElem_cons hi] at hJ
  simp only [J6e] at hJ
  have z0:¬0=n:=by omega
  refine J0b ?_
  refine J0i [1,3] (fun s=>s 9 = .bool true) (by simp [hk,s3x,hi,e0]) ?_
  intro st1 hk1 s9
  simp at hk1
  refine J29 s9 (J0b (J1c ?_))
  refine J15 [1,3] (fun s h' n'=>s 4 = .ptr n 0 0∧n'=n+1∧h' n=some ⟨true,2,[J12 x.Terms[i]]⟩∧h' 0=some ⟨true,2,[[i64 x.Const,.sl 2 (x.Terms.map J12)]]⟩) (by simp [hk,hk1,s3x,hi,J12,e0,z0]) ?_
  rintro st2 h2 n2 hk2 ⟨s4,rfl,en,e0'⟩
  simp at hk2
  obtain ⟨bad,hbad⟩:∃ bad,bad=(((x.Terms[i]).Coeff==0 || !Jn0 (x.Terms[i]).Coeff || !J2f (x.Terms[i]).Name)||(match Jdb x.Terms i with|Option.none=>false|some q => !(Op.bytesLess q (x.Terms[i]).Name))):=⟨_,rfl⟩
  refine J0i [1,3] (fun s=>s 52 = .bool bad) ?_ ?_
  ·subst hbad
   by_cases c0:(x.Terms[i]).Coeff=0
   ·simp (maxSteps:=1000000) [hk,hk1,hk2,s3x,hi,J12,e0',en,z0,s4,c0]
   simp (maxSteps:=1000000) [hk,hk1,hk2,s3x,hi,J12,e0',en,z0,s4,c0]
   first|refine J00 (Jhk (x.Terms[i]'hi).Coeff) (by first|simp;done|rfl) ?_|refine J02 (Jhk (x.Terms[i]'hi).Coeff) (by first|simp;done|rfl) ?_
   rintro r rfl
   cases c1:Jn0 (x.Terms[i]).Coeff
   ·simp (maxSteps:=1000000) [hk,hk1,hk2,s3x,hi,J12,e0',en,z0,s4]
   simp (maxSteps:=1000000) [hk,hk1,hk2,s3x,hi,J12,e0',en,z0,s4]
   first|refine J00 (J34 (x.Terms[i]'hi).Name) (by first|simp;done|rfl) ?_|refine J02 (J34 (x.Terms[i]'hi).Name) (by first|simp;done|rfl) ?_
   rintro r rfl
   unfold J2f
   cases c2:J3i (x.Terms[i]).Name
   ·simp (maxSteps:=1000000) [hk,hk1,hk2,s3x,hi,J12,e0',en,z0,s4]
   simp (maxSteps:=1000000) [hk,hk1,hk2,s3x,hi,J12,e0',en,z0,s4]
   first|refine J00 (J16 (x.Terms[i]'hi).Name) (by first|simp;done|rfl) ?_|refine J02 (J16 (x.Terms[i]'hi).Name) (by first|simp;done|rfl) ?_
   rintro r rfl
   cases c3:J0n (x.Terms[i]).Name
   case true=>simp (maxSteps:=1000000) [hk,hk1,hk2,s3x,hi,J12,e0',en,z0,s4]
   cases i with
   | zero=>simp (maxSteps:=1000000) [hk,hk1,hk2,s3x,hi,J12,e0',en,z0,s4,Jdb,c0,c1,c2]
   | succ i=>
    have hi':i<x.Terms.length:=by omega
    have hwr:IntKind.i64.wrap (i:Int)=i:=J1e (by unfold LIM at hl;omega)
    simp (maxSteps:=1000000) [hk,hk1,hk2,s3x,hi,hi',J12,e0',en,z0,s4,J9v hi',hwr,c0,c1,c2]
  intro st3 hk3 s52
  simp at hk3
  have hJ':(!bad&&J6e (some (x.Terms[i]).Name) (x.Terms.drop (i+1)))=B:=by
   rw [←hJ,hbad]
   cases ((x.Terms[i]).Coeff==0) <;> cases (Jn0 (x.Terms[i]).Coeff) <;> cases (J2f (x.Terms[i]).Name) <;> cases (Jdb x.Terms i) <;> simp
  rw [←J9v hi] at hJ'
  clear hJ hbad
  cases bad
  ·simp (maxSteps:=1000000) [hk,hk1,hk2,hk3,s3x,s52,hw]
   exact hR _ _ _ (by simp [hk,hk1,hk2,hk3]) (by simp) ⟨by omega,by simp [e0'],by simpa using hJ'⟩
  ·simp (maxSteps:=1000000) [hk,hk1,hk2,hk3,s3x,s52,hw]
   simp at hJ'
   refine hret _ _ _ ?_
   simp [hJ']
 ·rintro st h n R hk s3 ⟨hn,e0,hJ⟩ hret hX
  simp at hk
  rw [List.drop_eq_nil_of_le (by omega)] at hJ
  refine J0b ?_
  refine J0i [1,3] (fun s=>s 9 = .bool false) (by simp [hk,s3,e0]) ?_
  intro st1 hk1 s9
  simp at hk1
  refine J23 s9 ?_
  simp
  refine hX _ _ _ _ ?_
  simp [J6e] at hJ
  subst hJ
  simp [hk,hk1,e0]
  first|refine J00 (Jhk x.Const) (by first|simp;done|rfl) ?_|refine J02 (Jhk x.Const) (by first|simp;done|rfl) ?_
  rintro r rfl
  cases h1:Jn0 x.Const
  ·simp
  have hd:decide (x.Terms.length≤4)=decide ((x.Terms.length:Int)≤4):=by rw [decide_eq_decide];omega
  simp [hk,hk1,e0,hd]
def a298:AFn:= ⟨6,[.t 2],(.seq (.reg [⟨some 1,.boxv (.t 0),no⟩,⟨some 2,.mv (.k (.bool false)),no⟩]) (.seq (.reg [⟨some 3,.ld true 2 (.t 1),no⟩,⟨some 4,.call (.k (.fn (.func 237) [] [])) [.t 3],no⟩,⟨some 5,.un .not (.t 4),no⟩,⟨some 2,.mv (.t 5),no⟩]) .ret))⟩
theorem a298_ok:J0a Tryz.prog Tryz.f298=some a298:=by kernel_rfl
def a242:AFn:= ⟨32,[.t 2],(.seq (.reg [⟨some 1,.boxv (.t 0),no⟩,⟨some 2,.mv (.k (.bool false)),no⟩]) (.seq (.seq (.reg [⟨some 3,.fld 1 (.t 1),no⟩,⟨some 4,.ld false 1 (.t 3),no⟩,⟨some 5,.call (.k (.fn (.func 297) [] [])) [.t 4,(.k (.fn (.func 298) [] []))],no⟩]) (.cond (.t 5) (.seq (.reg [⟨some 2,.mv (.k (.bool false)),no⟩]) .ret) .skip)) (.seq (.seq (.reg [⟨some 6,.fld 0 (.t 1),no⟩,⟨some 7,.ld false 1 (.t 6),no⟩,⟨some 8,.un .not (.t 7),no⟩]) (.cond (.t 8) (.seq (.reg [⟨some 9,.fld 1 (.t 1),no⟩,⟨some 10,.ld false 1 (.t 9),no⟩,⟨some 11,.len false (.t 10),no⟩,⟨some 12,.bin .eql (.t 11) (.k (.int .i64 1)),no⟩,⟨some 13,.mv (.t 12),no⟩,⟨some 14,.fld 2 (.t 1),(some (13,true))⟩,⟨some 15,.ld false 1 (.t 14),(some (13,true))⟩,⟨some 16,.bin .eql (.t 15) (.k (.str [])),(some (13,true))⟩,⟨some 17,.pick (.t 13) (.t 16) (.k (.bool false)),no⟩,⟨some 2,.mv (.t 17),no⟩]) .ret) .skip)) (.seq (.reg [⟨some 18,.fld 1 (.t 1),no⟩,⟨some 19,.ld false 1 (.t 18),no⟩,⟨some 20,.len false (.t 19),no⟩,⟨some 21,.bin .leq (.t 20) (.k (.int .i64 3)),no⟩,⟨some 22,.mv (.t 21),no⟩,⟨some 23,.fld 2 (.t 1),(some (22,true))⟩,⟨some 24,.ld false 1 (.t 23),(some (22,true))⟩,⟨some 25,.bin .eql (.t 24) (.k (.str [])),(some (22,true))⟩,⟨some 26,.mv (.t 25),(some (22,true))⟩,⟨some 27,.fld 2 (.t 1),(some (26,false))⟩,⟨some 28,.ld false 1 (.t 27),(some (26,false))⟩,⟨some 29,.call (.k (.fn (.func 205) [] [])) [.t 28],(some (26,false))⟩,⟨some 30,.pick (.t 26) (.k (.bool true)) (.t 29),(some (22,true))⟩,⟨some 31,.pick (.t 22) (.t 30) (.k (.bool false)),no⟩,⟨some 2,.mv (.t 31),no⟩]) .ret))))⟩
theorem a242_ok:J0a Tryz.prog Tryz.f242=some a242:=by kernel_rfl
def a287:AFn:= ⟨44,[.t 2],(.seq (.reg [⟨some 1,.boxv (.t 0),no⟩,⟨some 2,.mv (.k (.bool false)),no⟩]) (.seq (.seq (.reg [⟨some 3,.mv (.k (.int .i64 0)),no⟩]) (.blk 0 (.loop (.seq (.seq (.reg [⟨some 4,.mv (.t 3),no⟩,⟨some 5,.fld 1 (.t 1),no⟩,⟨some 6,.ld false 1 (.t 5),no⟩,⟨some 7,.len false (.t 6),no⟩,⟨some 8,.bin .lss (.t 4) (.t 7),no⟩]) (.cond (.t 8) .skip (.exit 0))) (.seq (.blk 1 (.seq (.reg [⟨some 11,.fld 1 (.t 1),no⟩,⟨some 12,.ld false 1 (.t 11),no⟩,⟨some 13,.mv (.t 3),no⟩,⟨some 14,.ixa 2 (.t 12) (.t 13),no⟩,⟨some 15,.ld true 2 (.t 14),no⟩,⟨some 16,.call (.k (.fn (.func 286) [] [])) [.t 15],no⟩,⟨some 17,.un .not (.t 16),no⟩]) (.cond (.t 17) (.seq (.reg [⟨some 2,.mv (.k (.bool false)),no⟩]) .ret) .skip))) (.reg [⟨some 9,.mv (.t 3),no⟩,⟨some 10,.bin .add (.t 9) (.k (.int .i64 1)),no⟩,⟨some 3,.mv (.t 10),no⟩])))))) (.seq (.seq (.reg [⟨some 18,.fld 0 (.t 1),no⟩,⟨some 19,.ld false 1 (.t 18),no⟩,⟨some 20,.un .not (.t 19),no⟩]) (.cond (.t 20) (.seq (.reg [⟨some 21,.fld 1 (.t 1),no⟩,⟨some 22,.ld false 1 (.t 21),no⟩,⟨some 23,.len false (.t 22),no⟩,⟨some 24,.bin .eql (.t 23) (.k (.int .i64 1)),no⟩,⟨some 25,.mv (.t 24),no⟩,⟨some 26,.fld 2 (.t 1),(some (25,true))⟩,⟨some 27,.ld false 1 (.t 26),(some (25,true))⟩,⟨some 28,.bin .eql (.t 27) (.k (.str [])),(some (25,true))⟩,⟨some 29,.pick (.t 25) (.t 28) (.k (.bool false)),no⟩,⟨some 2,.mv (.t 29),no⟩]) .ret) .skip)) (.seq (.reg [⟨some 30,.fld 1 (.t 1),no⟩,⟨some 31,.ld false 1 (.t 30),no⟩,⟨some 32,.len false (.t 31),no⟩,⟨some 33,.bin .leq (.t 32) (.k (.int .i64 3)),no⟩,⟨some 34,.mv (.t 33),no⟩,⟨some 35,.fld 2 (.t 1),(some (34,true))⟩,⟨some 36,.ld false 1 (.t 35),(some (34,true))⟩,⟨some 37,.bin .eql (.t 36) (.k (.str [])),(some (34,true))⟩,⟨some 38,.mv (.t 37),(some (34,true))⟩,⟨some 39,.fld 2 (.t 1),(some (38,false))⟩,⟨some 40,.ld false 1 (.t 39),(some (38,false))⟩,⟨some 41,.call (.k (.fn (.func 260) [] [])) [.t 40],(some (38,false))⟩,⟨some 42,.pick (.t 38) (.k (.bool true)) (.t 41),(some (34,true))⟩,⟨some 43,.pick (.t 34) (.t 42) (.k (.bool false)),no⟩,⟨some 2,.mv (.t 43),no⟩]) .ret))))⟩
theorem a287_ok:J0a Tryz.prog Tryz.f287=some a287:=by kernel_rfl
def a223:AFn:= ⟨23,[.t 6],(.seq (.reg [⟨some 3,.boxv (.t 0),no⟩,⟨some 6,.mv (.k (.bool false)),no⟩]) (.seq (.reg [⟨some 7,.ld true 3 (.t 3),no⟩,⟨some 8,.call (.k (.fn (.func 287) [] [])) [.t 7],no⟩,⟨some 9,.mv (.t 8),no⟩,⟨some 10,.fld 0 (.t 3),(some (9,true))⟩,⟨some 11,.ld false 1 (.t 10),(some (9,true))⟩,⟨some 12,.mv (.t 1),(some (9,true))⟩,⟨some 13,.beq false (.t 11) (.t 12),(some (9,true))⟩,⟨some 14,.pick (.t 9) (.t 13) (.k (.bool false)),no⟩,⟨some 15,.mv (.t 14),no⟩,⟨some 16,.ld true 3 (.t 3),(some (15,true))⟩,⟨some 17,.call (.k (.fn (.func 288) [] [])) [.t 16],(some (15,true))⟩,⟨some 18,.mv (.t 2),(some (15,true))⟩,⟨some 19,.call (.k (.fn (.func 137) [] [])) [.t 17,.t 18],(some (15,true))⟩,⟨some 20,.len false (.t 19),(some (15,true))⟩,⟨some 21,.bin .eql (.t 20) (.k (.int .i64 0)),(some (15,true))⟩,⟨some 22,.pick (.t 15) (.t 21) (.k (.bool false)),no⟩,⟨some 6,.mv (.t 22),no⟩]) .ret))⟩
theorem a223_ok:J0a Tryz.prog Tryz.f223=some a223:=by kernel_rfl
theorem K0o (s:DSum):Holds Tryz.prog 298 [.agg (J1g s)] (fun r=>r = .bool (!J8y s)):=by
 refine J03 Tryz.func298 a298_ok rfl (by simp [a298]) ?_
 simp [a298,J1g]
 first|refine J00 (J7b s) (by first|simp [J1g];done|rfl) ?_|refine J02 (J7b s) (by first|simp [J1g];done|rfl) ?_
 rintro r rfl
 simp
theorem J5a (x:DArg):Holds Tryz.prog 242 [.agg (J0v x)] (fun r=>r = .bool (Jaz x)):=by
 refine J03 Tryz.func242 a242_ok rfl (by simp [a242]) ?_
 simp [a242,J0v]
 refine J1d (p:=fun s => !J8y s) (rowOf:=J1g) (eltOf:=fun s => .agg (J1g s)) Tryz.func297 a297_ok rfl Tryz.func323 a323_ok rfl (fun x=>by simp) x.Heads
  (fun s _=>J4y (K0o s) (by simp) rfl) ?_
 rw [J89]
 unfold Jaz
 cases h1:x.Heads.all J8y
 ·simp
 simp
 cases h2:x.Lst
 ·simp
  intro _
  by_cases h3:(x.Heads.length:Int)=1
  ·have h3n:x.Heads.length=1:=by omega
   simp [h3,h3n]
  ·have h3n:¬x.Heads.length=1:=by omega
   simp [h3,h3n]
 ·simp
  intro _
  by_cases h3:(x.Heads.length:Int)≤3
  ·have h3n:x.Heads.length≤3:=by omega
   simp [h3,h3n,Int.not_lt.2 h3]
   by_cases h4:x.Base=[]
   ·simp [h4]
   simp [h4]
   first|refine J00 (J1o x.Base) (by first|simp;done|rfl) ?_|refine J02 (J1o x.Base) (by first|simp;done|rfl) ?_
   rintro r rfl
   simp [h4]
  ·have h3n:¬x.Heads.length≤3:=by omega
   simp [h3,h3n]
theorem Jbe (x:DArg):Holds Tryz.prog 287 [.agg (J0v x)] (fun r=>r = .bool (Jaz x)):=by
 refine J1h Tryz.func287 rfl rfl fun hl => ?_
 simp [J0v] at hl
 refine J03 Tryz.func287 a287_ok rfl (by simp [a287]) ?_
 simp [a287,J0v]
 unfold Jaz
 generalize hB:x.Heads.all J8y=B
 refine J3t [1] 3 x.Heads.length (fun i _=>(x.Heads.drop i).all J8y=B) hl.1 (by simp) (by simpa using hB) ?_ ?_
 ·rintro i st h R hi hg hk s3 hw hJ hh hR hret _
  simp at hk
  rw [List.drop_eq_getElem_cons hi,List.all_cons] at hJ
  have e0:=hh 0
  simp at e0
  simp [hk,s3,hi,hg,e0]
  intro _
  first|refine J00 (J6l (x.Heads[i]'hi)) (by first|simp;done|rfl) ?_|refine J02 (J6l (x.Heads[i]'hi)) (by first|simp;done|rfl) ?_
  rintro r rfl
  cases hc:J8y x.Heads[i]
  ·rw [hc,Bool.false_and] at hJ
   subst hJ
   simp
   refine hret _ _ _ ?_
   simp
  ·rw [hc,Bool.true_and] at hJ
   simp [hk,s3,hw]
   exact hR _ (by simp [hk]) (by simp) hJ
 ·rintro st h R hk s3 hJ hh _ hX
  simp at hk
  rw [List.drop_eq_nil_of_le (by omega)] at hJ
  have e0:=hh 0
  simp at e0
  simp [hk,s3,e0]
  intro _
  refine hX _ _ ?_
  simp at hJ
  subst hJ
  simp [hk]
  cases h2:x.Lst
  ·simp [hk]
   intro _
   by_cases h3:(x.Heads.length:Int)=1
   ·have h3n:x.Heads.length=1:=by omega
    simp [h3,h3n,hk]
   ·have h3n:¬x.Heads.length=1:=by omega
    simp [h3,h3n]
  ·simp [hk]
   intro _
   by_cases h3:(x.Heads.length:Int)≤3
   ·have h3n:x.Heads.length≤3:=by omega
    simp [h3,h3n,Int.not_lt.2 h3,hk]
    by_cases h4:x.Base=[]
    ·simp [h4]
    simp [h4,hk]
    first|refine J00 (J16 x.Base) (by first|simp;done|rfl) ?_|refine J02 (J16 x.Base) (by first|simp;done|rfl) ?_
    rintro r rfl
    simp [h4]
   ·have h3n:¬x.Heads.length≤3:=by omega
    simp [h3,h3n]
theorem J65 (x:DArg) (b:Bool) (scope:List Str) (hw:Ja1 x≤1048576):Holds Tryz.prog 223 [.agg (J0v x),.bool b,.sl 1 (J0e scope)] (fun r=>r = .bool (J6b x b scope)):=by
 refine J03 Tryz.func223 a223_ok rfl (by simp [a223]) ?_
 simp [a223,J0v]
 first|refine J00 (Jbe x) (by first|simp [J0v];done|rfl) ?_|refine J02 (Jbe x) (by first|simp [J0v];done|rfl) ?_
 rintro r rfl
 unfold J6b
 cases h1:Jaz x
 ·simp
 simp
 by_cases hb:x.Lst=b
 case neg=>simp [hb]
 simp [hb]
 subst hb
 first|refine J00 (Jgn x hw) (by first|simp [J0v];done|rfl) ?_|refine J02 (Jgn x hw) (by first|simp [J0v];done|rfl) ?_
 rintro r rfl
 simp
 have hl:(J4x (J6z x)).length≤1048576:=Nat.le_trans (Jmf _) (Jf8 x hw)
 first|refine J00 (Jfu (J4x (J6z x)) scope hl) (by first|simp;done|rfl) ?_|refine J02 (Jfu (J4x (J6z x)) scope hl) (by first|simp;done|rfl) ?_
 rintro r rfl
 simp
 intro _
 rw [←Jia]
 rw [Bool.eq_iff_iff]
 simp
theorem a293_ok:J0a Tryz.prog Tryz.f293=some (J31 322):=by kernel_rfl
theorem a322_ok:J0a Tryz.prog Tryz.f322=some (J3p true 4):=by kernel_rfl
def a294:AFn:= ⟨9,[.t 3],(.seq (.reg [⟨some 2,.boxv (.t 0),no⟩,⟨some 3,.mv (.k (.bool false)),no⟩]) (.seq (.reg [⟨some 4,.fld 0 (.t 2),no⟩,⟨some 5,.ld false 1 (.t 4),no⟩,⟨some 6,.fld 0 (.t 1),no⟩,⟨some 7,.ld false 1 (.t 6),no⟩,⟨some 8,.bin .eql (.t 5) (.t 7),no⟩,⟨some 3,.mv (.t 8),no⟩]) .ret))⟩
theorem a294_ok:J0a Tryz.prog Tryz.f294=some a294:=by kernel_rfl
def a236:AFn:= ⟨54,[.t 4],(.seq (.reg [⟨some 2,.boxv (.t 0),no⟩,⟨some 4,.mv (.k (.bool false)),no⟩]) (.seq (.seq (.reg [⟨some 7,.mv (.t 1),no⟩,⟨some 8,.len false (.t 7),no⟩,⟨some 9,.mv (.k (.int .i64 0)),no⟩]) (.blk 0 (.loop (.seq (.reg [⟨some 10,.bin .lss (.t 9) (.t 8),no⟩]) (.seq (.cond (.t 10) .skip (.exit 0)) (.seq (.blk 1 (.seq (.reg [⟨some 11,.mv (.t 9),no⟩,⟨some 12,.ixa 4 (.t 7) (.t 9),no⟩,⟨some 13,.ld true 4 (.t 12),no⟩,⟨some 6,.box [(.str []),(.bool false),(.str []),(.str [])],no⟩,⟨some 5,.mv (.t 11),no⟩,⟨no,.st 4 (.t 6) (.t 13),no⟩]) (.seq (.seq (.reg [⟨some 14,.fld 0 (.t 6),no⟩,⟨some 15,.ld false 1 (.t 14),no⟩,⟨some 16,.call (.k (.fn (.func 205) [] [])) [.t 15],no⟩,⟨some 17,.un .not (.t 16),no⟩,⟨some 18,.mv (.t 17),no⟩,⟨some 19,.fld 1 (.t 2),(some (18,false))⟩,⟨some 20,.ld false 1 (.t 19),(some (18,false))⟩,⟨some 21,.fld 0 (.t 6),(some (18,false))⟩,⟨some 22,.ld false 1 (.t 21),(some (18,false))⟩,⟨some 23,.call (.k (.fn (.func 72) [] [])) [.t 20,.t 22],(some (18,false))⟩,⟨some 24,.un .not (.t 23),(some (18,false))⟩,⟨some 25,.pick (.t 18) (.k (.bool true)) (.t 24),no⟩,⟨some 26,.mv (.t 25),no⟩,⟨some 27,.mv (.t 1),(some (26,false))⟩,⟨some 28,.mv (.t 5),(some (26,false))⟩,⟨some 29,.slc false 4 (.t 27) Option.none (some (.t 28)),(some (26,false))⟩,⟨some 30,.mkf (.func 294) [] [.t 6],(some (26,false))⟩,⟨some 31,.call (.k (.fn (.func 293) [] [])) [.t 29,.t 30],(some (26,false))⟩,⟨some 32,.pick (.t 26) (.k (.bool true)) (.t 31),no⟩]) (.cond (.t 32) (.seq (.reg [⟨some 4,.mv (.k (.bool false)),no⟩]) .ret) .skip)) (.seq (.reg [⟨some 33,.fld 1 (.t 6),no⟩,⟨some 34,.ld false 1 (.t 33),no⟩]) (.cond (.t 34) (.seq (.reg [⟨some 35,.fld 2 (.t 6),no⟩,⟨some 36,.ld false 1 (.t 35),no⟩,⟨some 37,.call (.k (.fn (.func 140) [] [])) [.t 36],no⟩,⟨some 38,.un .not (.t 37),no⟩,⟨some 39,.mv (.t 38),no⟩,⟨some 40,.fld 3 (.t 6),(some (39,false))⟩,⟨some 41,.ld false 1 (.t 40),(some (39,false))⟩,⟨some 42,.call (.k (.fn (.func 205) [] [])) [.t 41],(some (39,false))⟩,⟨some 43,.un .not (.t 42),(some (39,false))⟩,⟨some 44,.pick (.t 39) (.k (.bool true)) (.t 43),no⟩]) (.cond (.t 44) (.seq (.reg [⟨some 4,.mv (.k (.bool false)),no⟩]) .ret) .skip)) (.seq (.reg [⟨some 45,.fld 2 (.t 6),no⟩,⟨some 46,.ld false 1 (.t 45),no⟩,⟨some 47,.bin .neq (.t 46) (.k (.str [])),no⟩,⟨some 48,.mv (.t 47),no⟩,⟨some 49,.fld 3 (.t 6),(some (48,false))⟩,⟨some 50,.ld false 1 (.t 49),(some (48,false))⟩,⟨some 51,.bin .neq (.t 50) (.k (.str [])),(some (48,false))⟩,⟨some 52,.pick (.t 48) (.k (.bool true)) (.t 51),no⟩]) (.cond (.t 52) (.seq (.reg [⟨some 4,.mv (.k (.bool false)),no⟩]) .ret) .skip))))))) (.reg [⟨some 53,.bin .add (.t 9) (.k (.int .i64 1)),no⟩,⟨some 9,.mv (.t 53),no⟩]))))))) (.seq (.reg [⟨some 4,.mv (.k (.bool true)),no⟩]) .ret)))⟩
theorem a236_ok:J0a Tryz.prog Tryz.f236=some a236:=by kernel_rfl
def a219:AFn:= ⟨72,[.t 4],(.seq (.reg [⟨some 2,.boxv (.t 0),no⟩,⟨some 4,.mv (.k (.bool false)),no⟩]) (.seq (.reg [⟨some 8,.bsl 1 [],no⟩,⟨some 5,.mv (.t 8),no⟩]) (.seq (.seq (.reg [⟨some 6,.mv (.k (.int .i64 0)),no⟩]) (.blk 0 (.loop (.seq (.seq (.reg [⟨some 9,.mv (.t 6),no⟩,⟨some 10,.mv (.t 1),no⟩,⟨some 11,.len false (.t 10),no⟩,⟨some 12,.bin .lss (.t 9) (.t 11),no⟩]) (.cond (.t 12) .skip (.exit 0))) (.seq (.blk 1 (.seq (.reg [⟨some 15,.mv (.t 1),no⟩,⟨some 16,.mv (.t 6),no⟩,⟨some 17,.ixa 4 (.t 15) (.t 16),no⟩,⟨some 18,.ld true 4 (.t 17),no⟩,⟨some 7,.box [(.str []),(.bool false),(.str []),(.str [])],no⟩,⟨no,.st 4 (.t 7) (.t 18),no⟩]) (.seq (.seq (.reg [⟨some 19,.fld 1 (.t 2),no⟩,⟨some 20,.ld false 1 (.t 19),no⟩,⟨some 21,.fld 0 (.t 7),no⟩,⟨some 22,.ld false 1 (.t 21),no⟩,⟨some 23,.call (.k (.fn (.func 63) [] [])) [.t 20,.t 22],no⟩,⟨some 24,.bin .lss (.t 23) (.k (.int .i64 0)),no⟩,⟨some 25,.mv (.t 24),no⟩,⟨some 26,.fld 0 (.t 7),(some (25,false))⟩,⟨some 27,.ld false 1 (.t 26),(some (25,false))⟩,⟨some 28,.call (.k (.fn (.func 260) [] [])) [.t 27],(some (25,false))⟩,⟨some 29,.un .not (.t 28),(some (25,false))⟩,⟨some 30,.pick (.t 25) (.k (.bool true)) (.t 29),no⟩,⟨some 31,.mv (.t 30),no⟩,⟨some 32,.mv (.t 5),(some (31,false))⟩,⟨some 33,.fld 0 (.t 7),(some (31,false))⟩,⟨some 34,.ld false 1 (.t 33),(some (31,false))⟩,⟨some 35,.call (.k (.fn (.func 63) [] [])) [.t 32,.t 34],(some (31,false))⟩,⟨some 36,.bin .geq (.t 35) (.k (.int .i64 0)),(some (31,false))⟩,⟨some 37,.pick (.t 31) (.k (.bool true)) (.t 36),no⟩]) (.cond (.t 37) (.seq (.reg [⟨some 4,.mv (.k (.bool false)),no⟩]) .ret) .skip)) (.seq (.reg [⟨some 38,.mv (.t 5),no⟩,⟨some 39,.fld 0 (.t 7),no⟩,⟨some 40,.ld false 1 (.t 39),no⟩,⟨some 41,.bsl 1 [.t 40],no⟩,⟨some 42,.app 16 1 (.t 38) (.t 41),no⟩,⟨some 5,.mv (.t 42),no⟩]) (.seq (.reg [⟨some 43,.fld 1 (.t 7),no⟩,⟨some 44,.ld false 1 (.t 43),no⟩,⟨some 45,.mv (.t 44),no⟩,⟨some 46,.fld 2 (.t 7),(some (45,true))⟩,⟨some 47,.ld false 1 (.t 46),(some (45,true))⟩,⟨some 48,.call (.k (.fn (.func 216) [] [])) [.t 47],(some (45,true))⟩,⟨some 49,.un .not (.t 48),(some (45,true))⟩,⟨some 50,.mv (.t 49),(some (45,true))⟩,⟨some 51,.fld 3 (.t 7),(some (50,false))⟩,⟨some 52,.ld false 1 (.t 51),(some (50,false))⟩,⟨some 53,.call (.k (.fn (.func 260) [] [])) [.t 52],(some (50,false))⟩,⟨some 54,.un .not (.t 53),(some (50,false))⟩,⟨some 55,.pick (.t 50) (.k (.bool true)) (.t 54),(some (45,true))⟩,⟨some 56,.pick (.t 45) (.t 55) (.k (.bool false)),no⟩,⟨some 57,.mv (.t 56),no⟩,⟨some 58,.fld 1 (.t 7),(some (57,false))⟩,⟨some 59,.ld false 1 (.t 58),(some (57,false))⟩,⟨some 60,.un .not (.t 59),(some (57,false))⟩,⟨some 61,.mv (.t 60),(some (57,false))⟩,⟨some 62,.fld 2 (.t 7),(some (61,true))⟩,⟨some 63,.ld false 1 (.t 62),(some (61,true))⟩,⟨some 64,.bin .neq (.t 63) (.k (.str [])),(some (61,true))⟩,⟨some 65,.mv (.t 64),(some (61,true))⟩,⟨some 66,.fld 3 (.t 7),(some (65,false))⟩,⟨some 67,.ld false 1 (.t 66),(some (65,false))⟩,⟨some 68,.bin .neq (.t 67) (.k (.str [])),(some (65,false))⟩,⟨some 69,.pick (.t 65) (.k (.bool true)) (.t 68),(some (61,true))⟩,⟨some 70,.pick (.t 61) (.t 69) (.k (.bool false)),(some (57,false))⟩,⟨some 71,.pick (.t 57) (.k (.bool true)) (.t 70),no⟩]) (.cond (.t 71) (.seq (.reg [⟨some 4,.mv (.k (.bool false)),no⟩]) .ret) .skip)))))) (.reg [⟨some 13,.mv (.t 6),no⟩,⟨some 14,.bin .add (.t 13) (.k (.int .i64 1)),no⟩,⟨some 6,.mv (.t 14),no⟩])))))) (.seq (.reg [⟨some 4,.mv (.k (.bool true)),no⟩]) .ret))))⟩
theorem a219_ok:J0a Tryz.prog Tryz.f219=some a219:=by kernel_rfl
def a220:AFn:= ⟨32,[.t 4],(.seq (.reg [⟨some 4,.mv (.k (.bool false)),no⟩]) (.seq (.seq (.reg [⟨some 5,.mv (.k (.int .i64 0)),no⟩]) (.blk 0 (.loop (.seq (.seq (.reg [⟨some 6,.mv (.t 5),no⟩,⟨some 7,.mv (.t 0),no⟩,⟨some 8,.len false (.t 7),no⟩,⟨some 9,.bin .lss (.t 6) (.t 8),no⟩]) (.cond (.t 9) .skip (.exit 0))) (.seq (.blk 1 (.seq (.reg [⟨some 12,.mv (.t 0),no⟩,⟨some 13,.mv (.t 5),no⟩,⟨some 14,.ixa 2 (.t 12) (.t 13),no⟩,⟨some 15,.ld true 2 (.t 14),no⟩,⟨some 16,.call (.k (.fn (.func 286) [] [])) [.t 15],no⟩,⟨some 17,.un .not (.t 16),no⟩,⟨some 18,.mv (.t 17),no⟩,⟨some 19,.mv (.t 0),(some (18,false))⟩,⟨some 20,.mv (.t 5),(some (18,false))⟩,⟨some 21,.mv (.t 5),(some (18,false))⟩,⟨some 22,.bin .add (.t 21) (.k (.int .i64 1)),(some (18,false))⟩,⟨some 23,.slc false 2 (.t 19) (some (.t 20)) (some (.t 22)),(some (18,false))⟩,⟨some 24,.build [(.bool false),(.nil 2),(.str [])] [(1,(1,(.t 23)))],(some (18,false))⟩,⟨some 25,.mv (.t 1),(some (18,false))⟩,⟨some 26,.call (.k (.fn (.func 223) [] [])) [.t 24,(.k (.bool false)),.t 25],(some (18,false))⟩,⟨some 27,.un .not (.t 26),(some (18,false))⟩,⟨some 28,.pick (.t 18) (.k (.bool true)) (.t 27),no⟩]) (.cond (.t 28) (.seq (.reg [⟨some 4,.mv (.k (.bool false)),no⟩]) .ret) .skip))) (.reg [⟨some 10,.mv (.t 5),no⟩,⟨some 11,.bin .add (.t 10) (.k (.int .i64 1)),no⟩,⟨some 5,.mv (.t 11),no⟩])))))) (.seq (.reg [⟨some 29,.mv (.t 0),no⟩,⟨some 30,.len false (.t 29),no⟩,⟨some 31,.bin .leq (.t 30) (.k (.int .i64 2)),no⟩,⟨some 4,.mv (.t 31),no⟩]) .ret)))⟩
theorem a220_ok:J0a Tryz.prog Tryz.f220=some a220:=by kernel_rfl
theorem Jrl {h:Heap}{n id:Nat}{q:DPattern}(x:DPattern) (hv:h id=some ⟨true,4,[J09 q]⟩) (hid:id<n):Jfp Tryz.prog 294 [] [.ptr id 0 0] h n (.agg (J09 x)) (.bool (x.Lst==q.Lst)):=by
 intro K hK
 refine J9x ?_
 refine J2g Tryz.func294 a294_ok rfl (by simp [a294]) ?_
 have n1:¬id=n:=by omega
 simp [a294,hv,n1,J09,Jnp,hK]
 intro j hj hj'
 omega
def J9b (qs:List DPattern) (i:Nat):List Str:=(qs.take i).map (·.Lst)
theorem Jei {qs:List DPattern}{i:Nat}(hi:i<qs.length):J9b qs (i+1)=J9b qs i++[(qs[i]).Lst]:=by unfold J9b;rw [List.take_succ_eq_append_getElem hi,List.map_append];rfl
theorem Jrs {qs:List DPattern}{i:Nat}(hi:i≤qs.length):(J9b qs i).length=i:=by simp [J9b];omega
theorem Jxg (l:List DPattern) (s:Str):(l.any fun x=>x.Lst==s)=J47 (l.map (·.Lst)) s:=by simp [J47,List.any_map,Function.comp_def]
set_option maxHeartbeats 1000000 in
theorem Jcr (f:DFunction) (qs:List DPattern):Holds Tryz.prog 236 [.agg (J04 f),.sl 4 (qs.map J09)] (fun r=>r = .bool (J3o f.Params [] qs)):=by
 refine J03 Tryz.func236 a236_ok rfl (by simp [a236]) ?_
 simp [a236,J04]
 intro hl
 generalize hB:J3o f.Params [] qs=B
 refine J0o [1,2,7,8] 9 qs.length (fun i s h n=>0<n∧h 0=some ⟨true,4,[[.str f.Name,.sl 1 (J0e f.Params),.bool f.ListResult,.sl 2 (f.Pre.map J07)]]⟩∧J3o f.Params (J9b qs i) (qs.drop i)=B) hl (by simp) ⟨by simp,by simp,hB⟩ ?_ ?_
 ·rintro i st h n R hi hg hk s9 hw ⟨hn,e0,hJ⟩ hR hret _
  simp at hk
  rw [List.drop_eq_getElem_cons hi] at hJ
  simp only [J3o] at hJ
  have z0:¬0=n:=by omega
  have z1:¬n=0:=by omega
  refine J0i [1,2,7,8,9] (fun s=>s 10 = .bool true) (by simp [hk,s9,hi]) ?_
  intro st1 hk1 s10
  simp at hk1
  refine J3g s10 (J0b (J1c ?_))
  refine J15 [1,2,7,8,9] (fun s h' n'=>s 5 = .int .i64 i∧s 6 = .ptr n 0 0∧n'=n+1∧h' n=some ⟨true,4,[J09 qs[i]]⟩∧h' 0=some ⟨true,4,[[.str f.Name,.sl 1 (J0e f.Params),.bool f.ListResult,.sl 2 (f.Pre.map J07)]]⟩) (by simp [hk,hk1,s9,hi,J09,e0,z0]) ?_
  rintro st2 h2 n2 hk2 ⟨s5,s6,rfl,en,e0'⟩
  simp at hk2
  have ht:∀ l:List DPattern,List.take i (l.map J09)=(l.take i).map J09:=fun l=>by simp
  refine J0b (J0i [1,2,6,7,8,9] (fun s=>s 32 = .bool (!J0n (qs[i]).Lst || !J47 f.Params (qs[i]).Lst||J47 (J9b qs i) (qs[i]).Lst)) ?_ ?_)
  ·simp [hk,hk1,hk2,s9,hi,J09,e0',en,z0,z1,s5,s6]
   first|refine J00 (J1o (qs[i]'hi).Lst) (by first|simp;done|rfl) ?_|refine J02 (J1o (qs[i]'hi).Lst) (by first|simp;done|rfl) ?_
   rintro r rfl
   cases c1:J0n (qs[i]).Lst
   ·simp [hk,hk1,hk2,s9,hi,J09,e0',en,z0,s5,s6]
   simp [hk,hk1,hk2,s9,hi,J09,e0',en,z0,z1,s5,s6]
   first|refine J00 (J6s f.Params (qs[i]'hi).Lst) (by first|simp;done|rfl) ?_|refine J02 (J6s f.Params (qs[i]'hi).Lst) (by first|simp;done|rfl) ?_
   rintro r rfl
   cases c2:J47 f.Params (qs[i]).Lst
   ·simp [hk,hk1,hk2,s9,hi,J09,e0',en,z0,s5,s6]
   simp [hk,hk1,hk2,s9,hi,e0',en,z0,z1,s5,s6,J4f,asI]
   refine ⟨by omega,?_⟩
   rw [ht]
   refine J1d (p:=fun x=>x.Lst==(qs[i]).Lst) (rowOf:=J09) (eltOf:=fun x => .agg (J09 x)) Tryz.func293 a293_ok rfl Tryz.func322 a322_ok rfl (fun x=>by simp) (qs.take i)
    (fun x _=>Jrl (q:=qs[i]) x en (Nat.lt_succ_self n)) ?_
   rw [Jxg,show List.map (·.Lst) (qs.take i)=J9b qs i from rfl]
   simp [hk,hk1,hk2,e0',en]
  intro st3 hk3 s32
  simp at hk3
  generalize hcc:(!J0n (qs[i]).Lst || !J47 f.Params (qs[i]).Lst||J47 (J9b qs i) (qs[i]).Lst)=cc at *
  have hp:(J9b qs (i+1))=J9b qs i++[(qs[i]).Lst]:=Jei hi
  rw [←hp] at hJ
  cases cc
  case true=>
   have:(Jtp f.Params qs[i] && !J47 (J9b qs i) (qs[i]).Lst)=false:=by
    unfold Jtp
    cases g1:J0n (qs[i]).Lst <;> cases g2:J47 f.Params (qs[i]).Lst <;> cases g3:J47 (J9b qs i) (qs[i]).Lst <;> rw [g1,g2,g3] at hcc <;> simp at hcc <;> simp
   rw [this,Bool.false_and] at hJ
   subst hJ
   simp [s32]
   refine hret _ _ _ ?_
   simp
  have hcc':J0n (qs[i]).Lst=true∧J47 f.Params (qs[i]).Lst=true∧J47 (J9b qs i) (qs[i]).Lst=false:=by
   cases g1:J0n (qs[i]).Lst <;> cases g2:J47 f.Params (qs[i]).Lst <;> cases g3:J47 (J9b qs i) (qs[i]).Lst <;> rw [g1,g2,g3] at hcc <;> simp at hcc <;> simp
  unfold Jtp at hJ
  rw [hcc'.1,hcc'.2.1,hcc'.2.2] at hJ
  simp only [Bool.true_and,Bool.not_false,Bool.and_true] at hJ
  simp [hk,hk1,hk2,hk3,s32,s6,en,J09]
  cases c3:(qs[i]).Cons
  ·rw [c3] at hJ
   simp only [Bool.false_eq_true,if_false] at hJ
   simp [hk,hk1,hk2,hk3,s6,en,J09,c3]
   cases c4:((qs[i]).Head==[])
   ·rw [c4,Bool.false_and,Bool.false_and] at hJ
    subst hJ
    have c4':¬(qs[i]).Head=[]:=by simpa using c4
    simp [hk,hk1,hk2,hk3,s6,en,J09,c3,c4']
    refine hret _ _ _ ?_
    simp
   have c4':(qs[i]).Head=[]:=by simpa using c4
   cases c5:((qs[i]).Tail==[])
   ·rw [c4,c5,Bool.and_false,Bool.false_and] at hJ
    subst hJ
    have c5':¬(qs[i]).Tail=[]:=by simpa using c5
    simp [hk,hk1,hk2,hk3,s6,en,J09,c3,c4',c5']
    refine hret _ _ _ ?_
    simp
   ·rw [c4,c5,Bool.true_and,Bool.true_and] at hJ
    have c5':(qs[i]).Tail=[]:=by simpa using c5
    simp [hk,hk1,hk2,hk3,s6,en,J09,c3,c4',c5',s9,hw]
    exact hR _ _ _ (by simp [hk,hk1,hk2,hk3]) (by simp) ⟨by omega,by simp [e0'],hJ⟩
  ·rw [c3] at hJ
   simp only [if_true] at hJ
   simp [hk,hk1,hk2,hk3,s6,en,J09,c3]
   first|refine J00 (J4g (qs[i]'hi).Head) (by first|simp;done|rfl) ?_|refine J02 (J4g (qs[i]'hi).Head) (by first|simp;done|rfl) ?_
   rintro r rfl
   cases c4:J2f (qs[i]).Head
   ·rw [c4,Bool.false_and,Bool.false_and] at hJ
    subst hJ
    simp
    refine hret _ _ _ ?_
    simp
   simp [hk,hk1,hk2,hk3,s6,en,J09,c3]
   first|refine J00 (J1o (qs[i]'hi).Tail) (by first|simp;done|rfl) ?_|refine J02 (J1o (qs[i]'hi).Tail) (by first|simp;done|rfl) ?_
   rintro r rfl
   cases c5:J0n (qs[i]).Tail
   ·rw [c4,c5,Bool.and_false,Bool.false_and] at hJ
    subst hJ
    simp
    refine hret _ _ _ ?_
    simp
   ·rw [c4,c5,Bool.true_and,Bool.true_and] at hJ
    simp [hk,hk1,hk2,hk3,s9,hw]
    exact hR _ _ _ (by simp [hk,hk1,hk2,hk3]) (by simp) ⟨by omega,by simp [e0'],hJ⟩
 ·rintro st h n R hk s9 ⟨hn,e0,hJ⟩ hret hX
  simp at hk
  rw [List.drop_eq_nil_of_le (by omega)] at hJ
  refine J0i [1,2,7,8,9] (fun s=>s 10 = .bool false) (by simp [hk,s9]) ?_
  intro st1 hk1 s10
  simp at hk1
  refine J37 s10 ?_
  simp
  refine hX _ _ _ _ ?_
  simp [←hJ,J3o]
theorem K0z (l:List Str) (s:Str):decide (J1i (fun x=>x==s) l 0<0) = !J47 l s:=by
 cases h:J47 l s
 ·have:=J76 (p:=fun x=>x==s) (l:=l) (i:=0) |>.2 h
  simp [this]
 ·have:¬J1i (fun x=>x==s) l 0<0:=fun h'=>by have:=J76.1 h';unfold J47 at h;rw [h] at this;cases this
  simp [this]
theorem K1n (l:List Str) (s:Str):decide (0≤J1i (fun x=>x==s) l 0)=J47 l s:=by
 have:=Jap (p:=fun x=>x==s) (l:=l) (i:=0)
 simp only [ge_iff_le] at this
 rw [this];rfl
set_option maxHeartbeats 1000000 in
theorem Jah (f:DFunction) (qs:List DPattern) (hq:qs.length≤1048576):Holds Tryz.prog 219 [.agg (J04 f),.sl 4 (qs.map J09)] (fun r=>r = .bool (J3o f.Params [] qs)):=by
 refine J03 Tryz.func219 a219_ok rfl (by simp [a219]) ?_
 simp [a219,J04]
 generalize hB:J3o f.Params [] qs=B
 refine J0o [1,2] 6 qs.length (fun i s h n=>0<n∧h 0=some ⟨true,4,[[.str f.Name,.sl 1 (J0e f.Params),.bool f.ListResult,.sl 2 (f.Pre.map J07)]]⟩∧J3o f.Params (J9b qs i) (qs.drop i)=B ∧
  ∃ id,0<id∧id<n∧s 5 = .ref id 0 i∧h id=some ⟨false,1,J0e (J9b qs i)⟩) (by unfold LIM;omega) (by simp) ⟨by simp,by simp,hB,1,by omega,by omega,by simp,by simp [J0e,J9b]⟩ ?_ ?_
 ·rintro i st h n R hi hg hk s6 hw ⟨hn,e0,hJ,id,hid0,hidn,s5,eid⟩ hR hret _
  simp at hk
  rw [List.drop_eq_getElem_cons hi] at hJ
  simp only [J3o] at hJ
  have z0:¬0=n:=by omega
  have z1:¬n=0:=by omega
  have z2:¬id=n:=by omega
  have z3:¬n=id:=by omega
  have z4:¬id=0:=by omega
  have z5:¬0=id:=by omega
  have hlt:(J9b qs i).length=i:=Jrs (by omega)
  refine J0b (J0i [1,2,5,6] (fun s=>s 12 = .bool true) (by simp [hk,s6,hi]) ?_)
  intro st1 hk1 s12
  simp at hk1
  refine J29 s12 (J0b (J1c ?_))
  refine J15 [1,2,5,6] (fun s h' n'=>s 7 = .ptr n 0 0∧n'=n+1∧h' n=some ⟨true,4,[J09 qs[i]]⟩∧h' 0=some ⟨true,4,[[.str f.Name,.sl 1 (J0e f.Params),.bool f.ListResult,.sl 2 (f.Pre.map J07)]]⟩∧h' id=some ⟨false,1,J0e (J9b qs i)⟩) (by simp [hk,hk1,s6,hi,J09,e0,z0,z2,z3,eid]) ?_
  rintro st2 h2 n2 hk2 ⟨s7,rfl,en,e0',eid'⟩
  simp at hk2
  have ht:List.take i (J0e (J9b qs i))=J0e (J9b qs i):=List.take_of_length_le (by simp [hlt])
  refine J0b (J0i [1,2,5,6,7] (fun s=>s 37 = .bool (!J47 f.Params (qs[i]).Lst || !J0n (qs[i]).Lst||J47 (J9b qs i) (qs[i]).Lst)) ?_ ?_)
  ·simp [hk,hk1,hk2,s6,hi,J09,e0',en,z0,z1,s7]
   first|refine J00 (J4a f.Params (qs[i]'hi).Lst) (by first|simp;done|rfl) ?_|refine J02 (J4a f.Params (qs[i]'hi).Lst) (by first|simp;done|rfl) ?_
   rintro r rfl
   have e1:=K0z f.Params (qs[i]).Lst
   generalize J1i (fun x=>x==(qs[i]).Lst) f.Params 0=k1 at e1
   cases c1:J47 f.Params (qs[i]).Lst
   ·rw [c1] at e1
    have:k1<0:=by simpa using e1
    simp [this]
   rw [c1] at e1
   have:¬k1<0:=by simpa using e1
   simp [hk,hk1,hk2,s6,hi,J09,e0',en,z0,z1,s7,this]
   first|refine J00 (J16 (qs[i]'hi).Lst) (by first|simp;done|rfl) ?_|refine J02 (J16 (qs[i]'hi).Lst) (by first|simp;done|rfl) ?_
   rintro r rfl
   cases c2:J0n (qs[i]).Lst
   ·simp
   simp [hk,hk1,hk2,s6,hi,J09,e0',en,z0,z1,s7,s5,eid']
   first|refine J00 (J4a (J9b qs i) (qs[i]'hi).Lst) (by first|simp [eid',ht,hlt];done|rfl) ?_|refine J02 (J4a (J9b qs i) (qs[i]'hi).Lst) (by first|simp [eid',ht,hlt];done|rfl) ?_
   rintro r rfl
   have e2:=K1n (J9b qs i) (qs[i]).Lst
   generalize J1i (fun x=>x==(qs[i]).Lst) (J9b qs i) 0=k2 at e2
   simp [hk,hk1,hk2,e0',en,e2]
  intro st3 hk3 s37
  simp at hk3
  generalize hcc:(!J47 f.Params (qs[i]).Lst || !J0n (qs[i]).Lst||J47 (J9b qs i) (qs[i]).Lst)=cc at *
  have hp:(J9b qs (i+1))=J9b qs i++[(qs[i]).Lst]:=Jei hi
  rw [←hp] at hJ
  cases cc
  case true=>
   have:(Jtp f.Params qs[i] && !J47 (J9b qs i) (qs[i]).Lst)=false:=by
    unfold Jtp
    cases g1:J0n (qs[i]).Lst <;> cases g2:J47 f.Params (qs[i]).Lst <;> cases g3:J47 (J9b qs i) (qs[i]).Lst <;> rw [g1,g2,g3] at hcc <;> simp at hcc <;> simp
   rw [this,Bool.false_and] at hJ
   subst hJ
   simp [s37]
   refine hret _ _ _ ?_
   simp
  have hcc':J0n (qs[i]).Lst=true∧J47 f.Params (qs[i]).Lst=true∧J47 (J9b qs i) (qs[i]).Lst=false:=by
   cases g1:J0n (qs[i]).Lst <;> cases g2:J47 f.Params (qs[i]).Lst <;> cases g3:J47 (J9b qs i) (qs[i]).Lst <;> rw [g1,g2,g3] at hcc <;> simp at hcc <;> simp
  unfold Jtp at hJ
  rw [hcc'.1,hcc'.2.1,hcc'.2.2] at hJ
  simp only [Bool.true_and,Bool.not_false,Bool.and_true] at hJ
  refine Jht s37 ?_
  have y0:¬0=n+1:=by omega
  have y1:¬n=n+1:=by omega
  have y2:¬id=n+1:=by omega
  have y3:¬n+1=id:=by omega
  have y4:¬n+1=0:=by omega
  have y5:¬n+2=0:=by omega
  have y6:¬n=n+2:=by omega
  have y7:¬0=n+2:=by omega
  have y8:¬n+1=n:=by omega
  simp only [Jhg]
  refine J15 [1,2,6,7] (fun s h' n'=>n'=n+3∧s 5 = .ref (n+2) 0 (i+1)∧h' n=some ⟨true,4,[J09 qs[i]]⟩∧h' 0=some ⟨true,4,[[.str f.Name,.sl 1 (J0e f.Params),.bool f.ListResult,.sl 2 (f.Pre.map J07)]]⟩∧h' (n+2)=some ⟨false,1,J0e (J9b qs (i+1))⟩) ?_ ?_
  ·simp [hk,hk1,hk2,hk3,s7,en,J09,e0',s5,eid',z0,z1,z2,z3,z4,z5,y0,y1,y2,y3,y4,y5,y6,y7,y8,ht,hlt,Jei hi]
   refine ⟨by unfold LIM;omega,?_⟩
   simp [J0e]
  rintro st4 h4 n4 hk4 ⟨rfl,s5',en',e0'',eid''⟩
  simp at hk4
  refine J0i [1,2,5,6,7] (fun s=>s 71 = .bool (!(if (qs[i]).Cons then J2f (qs[i]).Head&&J0n (qs[i]).Tail else (qs[i]).Head==[]&&(qs[i]).Tail==[]))) ?_ ?_
  ·cases c3:(qs[i]).Cons
   ·cases c4:((qs[i]).Head==[])
    ·have c4':¬(qs[i]).Head=[]:=by simpa using c4
     have c4e:(qs[i]).Head.isEmpty=false:=by simpa using c4'
     simp [hk,hk1,hk2,hk3,hk4,s7,en',J09,c3,c4,c4',c4e]
    have c4':(qs[i]).Head=[]:=by simpa using c4
    cases c5:((qs[i]).Tail==[])
    ·have c5':¬(qs[i]).Tail=[]:=by simpa using c5
     have c5e:(qs[i]).Tail.isEmpty=false:=by simpa using c5'
     simp [hk,hk1,hk2,hk3,hk4,s7,en',J09,c3,c4',c5,c5',c5e]
    ·have c5':(qs[i]).Tail=[]:=by simpa using c5
     simp [hk,hk1,hk2,hk3,hk4,s7,en',J09,c3,c4',c5']
   ·simp [hk,hk1,hk2,hk3,hk4,s7,en',J09,c3]
    first|refine J00 (J4r (qs[i]'hi).Head) (by first|simp;done|rfl) ?_|refine J02 (J4r (qs[i]'hi).Head) (by first|simp;done|rfl) ?_
    rintro r rfl
    cases c4:J2f (qs[i]).Head
    ·simp [hk,hk1,hk2,hk3,hk4,s7,en',J09,c3]
    simp [hk,hk1,hk2,hk3,hk4,s7,en',J09,c3]
    first|refine J00 (J16 (qs[i]'hi).Tail) (by first|simp;done|rfl) ?_|refine J02 (J16 (qs[i]'hi).Tail) (by first|simp;done|rfl) ?_
    rintro r rfl
    cases c5:J0n (qs[i]).Tail
    ·simp [hk,hk1,hk2,hk3,hk4,s7,en',J09,c3]
    ·simp [hk,hk1,hk2,hk3,hk4,s7,en',J09,c3]
  intro st5 hk5 s71
  simp at hk5
  generalize (if (qs[i]).Cons then J2f (qs[i]).Head&&J0n (qs[i]).Tail else (qs[i]).Head==[]&&(qs[i]).Tail==[])=D at *
  cases D
  ·rw [Bool.false_and] at hJ
   subst hJ
   simp [s71]
   refine hret _ _ _ ?_
   simp
  ·rw [Bool.true_and] at hJ
   simp [hk,hk1,hk2,hk3,hk4,hk5,s71,s6,hw]
   exact hR _ _ _ (by simp [hk,hk1,hk2,hk3,hk4,hk5]) (by simp) ⟨by omega,by simp [e0''],hJ,n+2,by omega,by omega,by simp [hk5,s5'],by simp [eid'']⟩
 ·rintro st h n R hk s6 ⟨hn,e0,hJ,_⟩ hret hX
  simp at hk
  rw [List.drop_eq_nil_of_le (by omega)] at hJ
  refine J0b (J0i [1,2,6] (fun s=>s 12 = .bool false) (by simp [hk,s6]) ?_)
  intro st1 hk1 s12
  simp at hk1
  refine J23 s12 ?_
  simp
  refine hX _ _ _ _ ?_
  simp [←hJ,J3o]
theorem K13 {list:List DSum}{i:Nat}(hi:i<list.length) (hw:J66 list≤1048576):Ja1 ⟨false,[list[i]],[]⟩≤1048576:=by
 have h1:=J3d (w:=Jc6) (List.getElem_mem hi)
 unfold J66 at hw
 have h2:1+Jc6 list[i]≤wL Jc6 list:=by
  have h3:=Jje Jc6 list (List.getElem_mem hi)
  unfold wL;omega
 unfold Ja1 J66 wL
 simp
 omega
theorem Jn7 (s:DSum) (scope:List Str):J6b ⟨false,[s],[]⟩ false scope=J42 scope s:=by
 unfold J6b J42
 rw [Jk3,Jey,Jjk]
 simp
theorem Jcp (list:List DSum) (scope:List Str) (hw:J66 list≤1048576):Holds Tryz.prog 220 [.sl 2 (list.map J1g),.sl 1 (J0e scope)] (fun r=>r = .bool (list.all (J42 scope)&&decide (list.length≤2))):=by
 refine J1h Tryz.func220 rfl rfl fun hl => ?_
 simp at hl
 refine J03 Tryz.func220 a220_ok rfl (by simp [a220]) ?_
 simp [a220]
 generalize hB:list.all (J42 scope)=B
 refine J3t [0,1] 5 list.length (fun i _=>(list.drop i).all (J42 scope)=B) hl.1 (by simp) (by simpa using hB) ?_ ?_
 ·rintro i st h R hi hg hk s5 hw5 hJ hh hR hret _
  simp at hk
  rw [List.drop_eq_getElem_cons hi,List.all_cons] at hJ
  simp [hk,s5,hi,hg]
  intro _
  first|refine J00 (J6l (list[i]'hi)) (by first|simp;done|rfl) ?_|refine J02 (J6l (list[i]'hi)) (by first|simp;done|rfl) ?_
  rintro r rfl
  cases hc:J8y list[i]
  ·have:J42 scope list[i]=false:=by unfold J42;rw [hc];rfl
   rw [this,Bool.false_and] at hJ
   subst hJ
   simp
   refine hret _ _ _ ?_
   simp
  simp [hk,s5,hi,hg,hw5,J4f,asI]
  refine ⟨by omega,by omega,?_⟩
  have ht:(List.take (i+1) (list.map J1g)).drop i=[J1g list[i]]:=by
   rw [List.take_succ_eq_append_getElem (by simpa using hi)]
   rw [List.drop_left' (by simp;omega)]
   simp
  have he:((i:Int)+1).toNat=i+1:=by omega
  have hb:bwl [.agg [.bool false,.sl 2 [J1g list[i]],.str []],.bool false,.sl 1 (J0e scope)] h=some [.agg (J0v ⟨false,[list[i]],[]⟩),.bool false,.sl 1 (J0e scope)]:=by simp [J0v]
  simp only [he,ht]
  first|refine J00 (J65 ⟨false,[list[i]'hi],[]⟩ false scope (K13 hi hw)) (by first|simp [J0v,he,ht];done|rfl) ?_|refine J02 (J65 ⟨false,[list[i]'hi],[]⟩ false scope (K13 hi hw)) (by first|simp [J0v,he,ht];done|rfl) ?_
  rintro r rfl
  rw [Jn7]
  cases hc2:J42 scope list[i]
  ·rw [hc2,Bool.false_and] at hJ
   subst hJ
   simp
   refine hret _ _ _ ?_
   simp
  ·rw [hc2,Bool.true_and] at hJ
   simp [hk,s5,hw5]
   exact hR _ (by simp [hk]) (by simp) hJ
 ·rintro st h R hk s5 hJ hh _ hX
  simp at hk
  rw [List.drop_eq_nil_of_le (by omega)] at hJ
  simp [hk,s5]
  intro _
  refine hX _ _ ?_
  simp at hJ
  subst hJ
  simp [hk]
  omega
def a241:AFn:= ⟨78,[.t 6],(.seq (.reg [⟨some 3,.boxv (.t 0),no⟩,⟨some 4,.boxv (.t 1),no⟩,⟨some 6,.mv (.k (.bool false)),no⟩]) (.seq (.reg [⟨some 12,.ld true 2 (.t 3),no⟩,⟨some 13,.fld 1 (.t 4),no⟩,⟨some 14,.ld false 1 (.t 13),no⟩,⟨some 15,.call (.k (.fn (.func 176) [] [])) [.t 12,.t 14],no⟩,⟨some 11,.mv (.t 15),no⟩,⟨some 16,.ext (.t 11) 0,no⟩,⟨some 17,.ext (.t 11) 1,no⟩,⟨some 7,.box [(.str []),(.nil 1),(.bool false),(.nil 2)],no⟩,⟨no,.st 4 (.t 7) (.t 16),no⟩,⟨some 8,.mv (.t 17),no⟩]) (.seq (.seq (.reg [⟨some 18,.mv (.t 8),no⟩,⟨some 19,.un .not (.t 18),no⟩,⟨some 20,.mv (.t 19),no⟩,⟨some 21,.fld 2 (.t 4),(some (20,false))⟩,⟨some 22,.ld false 1 (.t 21),(some (20,false))⟩,⟨some 23,.len false (.t 22),(some (20,false))⟩,⟨some 24,.fld 1 (.t 7),(some (20,false))⟩,⟨some 25,.ld false 1 (.t 24),(some (20,false))⟩,⟨some 26,.len false (.t 25),(some (20,false))⟩,⟨some 27,.bin .neq (.t 23) (.t 26),(some (20,false))⟩,⟨some 28,.pick (.t 20) (.k (.bool true)) (.t 27),no⟩]) (.cond (.t 28) (.seq (.reg [⟨some 6,.mv (.k (.bool false)),no⟩]) .ret) .skip)) (.seq (.seq (.reg [⟨some 29,.fld 2 (.t 7),no⟩,⟨some 30,.ld false 1 (.t 29),no⟩,⟨some 31,.mv (.t 30),no⟩,⟨some 32,.fld 0 (.t 4),(some (31,true))⟩,⟨some 33,.ld false 1 (.t 32),(some (31,true))⟩,⟨some 34,.call (.k (.fn (.func 205) [] [])) [.t 33],(some (31,true))⟩,⟨some 35,.un .not (.t 34),(some (31,true))⟩,⟨some 36,.pick (.t 31) (.t 35) (.k (.bool false)),no⟩,⟨some 37,.mv (.t 36),no⟩,⟨some 38,.fld 2 (.t 7),(some (37,false))⟩,⟨some 39,.ld false 1 (.t 38),(some (37,false))⟩,⟨some 40,.un .not (.t 39),(some (37,false))⟩,⟨some 41,.mv (.t 40),(some (37,false))⟩,⟨some 42,.fld 0 (.t 4),(some (41,true))⟩,⟨some 43,.ld false 1 (.t 42),(some (41,true))⟩,⟨some 44,.call (.k (.fn (.func 140) [] [])) [.t 43],(some (41,true))⟩,⟨some 45,.un .not (.t 44),(some (41,true))⟩,⟨some 46,.pick (.t 41) (.t 45) (.k (.bool false)),(some (37,false))⟩,⟨some 47,.pick (.t 37) (.k (.bool true)) (.t 46),no⟩]) (.cond (.t 47) (.seq (.reg [⟨some 6,.mv (.k (.bool false)),no⟩]) .ret) .skip)) (.seq (.seq (.reg [⟨some 48,.fld 2 (.t 4),no⟩,⟨some 49,.ld false 1 (.t 48),no⟩,⟨some 50,.len false (.t 49),no⟩,⟨some 51,.mv (.k (.int .i64 0)),no⟩]) (.blk 0 (.loop (.seq (.reg [⟨some 52,.bin .lss (.t 51) (.t 50),no⟩]) (.seq (.cond (.t 52) .skip (.exit 0)) (.seq (.blk 1 (.seq (.reg [⟨some 53,.mv (.t 51),no⟩,⟨some 54,.ixa 3 (.t 49) (.t 51),no⟩,⟨some 55,.ld true 3 (.t 54),no⟩,⟨some 10,.box [(.bool false),(.nil 2),(.str [])],no⟩,⟨some 9,.mv (.t 53),no⟩,⟨no,.st 3 (.t 10) (.t 55),no⟩]) (.seq (.draw (.op ⟨some 56,.ld true 3 (.t 10),no⟩ (.op ⟨some 57,.call (.k (.fn (.func 242) [] [])) [.t 56],no⟩ (.op ⟨some 58,.un .not (.t 57),no⟩ (.op ⟨some 59,.mv (.t 58),no⟩ (.op ⟨some 60,.fld 0 (.t 10),(some (59,false))⟩ (.op ⟨some 61,.ld false 1 (.t 60),(some (59,false))⟩ (.op ⟨some 62,.fld 1 (.t 7),(some (59,false))⟩ (.op ⟨some 63,.ld false 1 (.t 62),(some (59,false))⟩ (.op ⟨some 64,.mv (.t 9),(some (59,false))⟩ (.op ⟨some 65,.ixa 1 (.t 63) (.t 64),(some (59,false))⟩ (.op ⟨some 66,.ld false 1 (.t 65),(some (59,false))⟩ (.op ⟨some 67,.call (.k (.fn (.func 205) [] [])) [.t 66],(some (59,false))⟩ (.op ⟨some 68,.beq true (.t 61) (.t 67),(some (59,false))⟩ (.op ⟨some 69,.pick (.t 59) (.k (.bool true)) (.t 68),no⟩ (.op ⟨some 70,.mv (.t 69),no⟩ (.op ⟨some 71,.ld true 3 (.t 10),(some (70,false))⟩ (.op ⟨some 73,.mv (.t 2),(some (70,false))⟩ (.op ⟨some 72,.call (.k (.fn (.func 243) [] [])) [.t 71],(some (70,false))⟩ (.op ⟨some 74,.call (.k (.fn (.func 238) [] [])) [.t 72,.t 73],(some (70,false))⟩ (.op ⟨some 75,.un .not (.t 74),(some (70,false))⟩ (.op ⟨some 76,.pick (.t 70) (.k (.bool true)) (.t 75),no⟩ .fin)))))))))))))))))))))) (.cond (.t 76) (.seq (.reg [⟨some 6,.mv (.k (.bool false)),no⟩]) .ret) .skip)))) (.reg [⟨some 77,.bin .add (.t 51) (.k (.int .i64 1)),no⟩,⟨some 51,.mv (.t 77),no⟩]))))))) (.seq (.reg [⟨some 6,.mv (.k (.bool true)),no⟩]) .ret))))))⟩
theorem a241_ok:J0a Tryz.prog Tryz.f241=some a241:=by kernel_rfl
theorem J8a {scope:List Str}{l:List DArg}{m:List Str}{i:Nat}(h1:i<l.length) (h2:i<m.length):J7y scope (l.drop i) (m.drop i)=(J6b l[i] (J0n m[i]) scope&&J7y scope (l.drop (i+1)) (m.drop (i+1))):=by
 rw [List.drop_eq_getElem_cons h1,List.drop_eq_getElem_cons h2];rfl
theorem Ja0 (scope:List Str) (m:List Str):J7y scope [] m=true:=by cases m <;> rfl
theorem J6a {c:DCall}{i:Nat}(hi:i<c.Args.length) (hw:J53 c≤1048576):Ja1 c.Args[i]≤1048576:=by
 have:=J3d (w:=Ja1) (List.getElem_mem hi)
 unfold J53 Jc8 at hw
 omega
set_option maxHeartbeats 1000000 in
theorem Jdm (p:DProgram) (c:DCall) (scope:List Str) (hp:J0f p≤1048576) (hc:J53 c≤1048576):Holds Tryz.prog 241 [.agg (J01 p),.agg (J0s c),.sl 1 (J0e scope)] (fun r=>r = .bool (J9g p c scope)):=by
 have hal:c.Args.length≤1048576:=by have:=J27 Ja1 c.Args;unfold J53 Jc8 at hc;omega
 refine J03 Tryz.func241 a241_ok rfl (by simp [a241]) ?_
 simp [a241,J01,J0s]
 first|refine J00 (J1v p c.Func hp) (by first|simp [J01];done|rfl) ?_|refine J02 (J1v p c.Func hp) (by first|simp [J01];done|rfl) ?_
 rintro r rfl
 unfold J9g
 generalize hG:(J0t p.Functions c.Func).getD fn0=G
 simp only [J7z,hG]
 generalize hb1:(J0t p.Functions c.Func).isSome=b1
 simp [J0h]
 cases b1
 ·simp
 simp
 intro _ _
 have hd:decide (c.Args.length=G.Params.length)=decide ((c.Args.length:Int)=G.Params.length):=by rw [decide_eq_decide];omega
 by_cases h1:(c.Args.length:Int)=G.Params.length
 case neg=>
  have h1n:¬c.Args.length=G.Params.length:=by omega
  simp [h1,h1n]
 have h1n:c.Args.length=G.Params.length:=by omega
 simp [h1,h1n]
 generalize hB:J7y scope c.Args G.Params=B
 cases hL:G.ListResult
 ·simp
  first|refine J00 (J4g c.Bind) (by first|simp;done|rfl) ?_|refine J02 (J4g c.Bind) (by first|simp;done|rfl) ?_
  rintro r rfl
  cases hn:J2f c.Bind
  ·simp
  simp [hL]
  intro _
  refine J0o [2,7,49,50] 51 c.Args.length (fun i s h n=>4<n∧h 4=some ⟨true,4,[[.str G.Name,.ref 2 0 G.Params.length,.bool false,.ref 3 0 G.Pre.length]]⟩∧h 2=some ⟨false,1,J0e G.Params⟩∧J7y scope (c.Args.drop i) (G.Params.drop i)=B) (by unfold LIM;omega) (by simp) ⟨by simp,by simp,by simp,by simpa using hB⟩ ?_ ?_
  ·rintro i st h n R hi hg hk s51 hw ⟨hn,e4,e2,hJ⟩ hR hret _
   simp at hk
   have hip:i<G.Params.length:=by omega
   rw [J8a hi hip] at hJ
   have z2:¬2=n:=by omega
   have z4:¬4=n:=by omega
   have y2:¬2=n+1:=by omega
   have y4:¬4=n+1:=by omega
   refine J0i [2,7,49,50,51] (fun s=>s 52 = .bool true) (by simp [hk,s51,hi,←h1n]) ?_
   intro st1 hk1 s52
   simp at hk1
   refine J3g s52 (J0b (J1c ?_))
   refine J15 [2,7,49,50,51] (fun s h' n'=>s 9 = .int .i64 i∧s 10 = .ptr n 0 0∧n'=n+1∧h' n=some ⟨true,3,[J0v c.Args[i]]⟩∧h' 4=some ⟨true,4,[[.str G.Name,.ref 2 0 G.Params.length,.bool false,.ref 3 0 G.Pre.length]]⟩∧h' 2=some ⟨false,1,J0e G.Params⟩) (by simp [hk,hk1,s51,hi,J0v,e4,e2,z2,z4]) ?_
   rintro st2 h2 n2 hk2 ⟨s9,s10,rfl,en,e4',e2'⟩
   simp at hk2
   refine J15 [2,7,49,50,51] (fun s h' n'=>n<n'∧s 76 = .bool (!J6b c.Args[i] (J0n G.Params[i]) scope)∧h' 4=some ⟨true,4,[[.str G.Name,.ref 2 0 G.Params.length,.bool false,.ref 3 0 G.Pre.length]]⟩∧h' 2=some ⟨false,1,J0e G.Params⟩) ?_ ?_
   ·simp [hk,hk1,hk2,s10,en]
    first|refine J00 (J5a (c.Args[i]'hi)) (by first|simp;done|rfl) ?_|refine J02 (J5a (c.Args[i]'hi)) (by first|simp;done|rfl) ?_
    rintro r rfl
    unfold J6b
    cases g1:Jaz c.Args[i]
    ·simp [e4',e2']
    simp [hk,hk1,hk2,s9,s10,en,e4',e2',hip,J0v]
    first|refine J00 (J1o (G.Params[i]'hip)) (by first|simp;done|rfl) ?_|refine J02 (J1o (G.Params[i]'hip)) (by first|simp;done|rfl) ?_
    rintro r rfl
    cases g2:((c.Args[i]).Lst==J0n G.Params[i])
    ·have g2':¬(c.Args[i]).Lst=J0n G.Params[i]:=by simpa using g2
     simp [g2',e4',e2']
    have g2':(c.Args[i]).Lst=J0n G.Params[i]:=by simpa using g2
    simp [g2',hk,hk1,hk2,s9,s10,en,e4',e2',hip,J0v]
    first|refine J00 (J82 (c.Args[i]'hi) (J6a hi hc)) (by first|simp [J0v,g2'];done|rfl) ?_|refine J02 (J82 (c.Args[i]'hi) (J6a hi hc)) (by first|simp [J0v,g2'];done|rfl) ?_
    rintro r rfl
    simp [g2',hk,hk1,hk2,s9,s10,en,e4',e2',hip,J0v,y2,y4]
    first|refine J00 (J97 (J4x (J6z (c.Args[i]'hi))) scope) (by first|simp;done|rfl) ?_|refine J02 (J97 (J4x (J6z (c.Args[i]'hi))) scope) (by first|simp;done|rfl) ?_
    rintro r rfl
    simp [e4',e2',y2,y4]
   rintro st3 h3 n3 hk3 ⟨hn3,s76,e4'',e2''⟩
   simp at hk3
   generalize J6b c.Args[i] (J0n G.Params[i]) scope=D at *
   cases D
   ·rw [Bool.false_and] at hJ
    subst hJ
    simp [s76]
    refine hret _ _ _ ?_
    simp
   ·rw [Bool.true_and] at hJ
    simp [hk,hk1,hk2,hk3,s76,s51,hw]
    exact hR _ _ _ (by simp [hk,hk1,hk2,hk3]) (by simp) ⟨by omega,by simp [e4''],by simp [e2''],hJ⟩
  ·rintro st h n R hk s51 ⟨hn,e4,e2,hJ⟩ hret hX
   simp at hk
   rw [List.drop_eq_nil_of_le (by omega),Ja0] at hJ
   refine J0i [2] (fun s=>s 52 = .bool false) (by simp [hk,s51,←h1n]) ?_
   intro st1 hk1 s52
   refine J37 s52 ?_
   simp
   refine hX _ _ _ _ ?_
   simp [←hJ]
 ·simp
  first|refine J00 (J1o c.Bind) (by first|simp;done|rfl) ?_|refine J02 (J1o c.Bind) (by first|simp;done|rfl) ?_
  rintro r rfl
  cases hn:J0n c.Bind
  ·simp
  simp [hL]
  intro _
  refine J0o [2,7,49,50] 51 c.Args.length (fun i s h n=>4<n∧h 4=some ⟨true,4,[[.str G.Name,.ref 2 0 G.Params.length,.bool true,.ref 3 0 G.Pre.length]]⟩∧h 2=some ⟨false,1,J0e G.Params⟩∧J7y scope (c.Args.drop i) (G.Params.drop i)=B) (by unfold LIM;omega) (by simp) ⟨by simp,by simp,by simp,by simpa using hB⟩ ?_ ?_
  ·rintro i st h n R hi hg hk s51 hw ⟨hn,e4,e2,hJ⟩ hR hret _
   simp at hk
   have hip:i<G.Params.length:=by omega
   rw [J8a hi hip] at hJ
   have z2:¬2=n:=by omega
   have z4:¬4=n:=by omega
   have y2:¬2=n+1:=by omega
   have y4:¬4=n+1:=by omega
   refine J0i [2,7,49,50,51] (fun s=>s 52 = .bool true) (by simp [hk,s51,hi,←h1n]) ?_
   intro st1 hk1 s52
   simp at hk1
   refine J3g s52 (J0b (J1c ?_))
   refine J15 [2,7,49,50,51] (fun s h' n'=>s 9 = .int .i64 i∧s 10 = .ptr n 0 0∧n'=n+1∧h' n=some ⟨true,3,[J0v c.Args[i]]⟩∧h' 4=some ⟨true,4,[[.str G.Name,.ref 2 0 G.Params.length,.bool true,.ref 3 0 G.Pre.length]]⟩∧h' 2=some ⟨false,1,J0e G.Params⟩) (by simp [hk,hk1,s51,hi,J0v,e4,e2,z2,z4]) ?_
   rintro st2 h2 n2 hk2 ⟨s9,s10,rfl,en,e4',e2'⟩
   simp at hk2
   refine J15 [2,7,49,50,51] (fun s h' n'=>n<n'∧s 76 = .bool (!J6b c.Args[i] (J0n G.Params[i]) scope)∧h' 4=some ⟨true,4,[[.str G.Name,.ref 2 0 G.Params.length,.bool true,.ref 3 0 G.Pre.length]]⟩∧h' 2=some ⟨false,1,J0e G.Params⟩) ?_ ?_
   ·simp [hk,hk1,hk2,s10,en]
    first|refine J00 (J5a (c.Args[i]'hi)) (by first|simp;done|rfl) ?_|refine J02 (J5a (c.Args[i]'hi)) (by first|simp;done|rfl) ?_
    rintro r rfl
    unfold J6b
    cases g1:Jaz c.Args[i]
    ·simp [e4',e2']
    simp [hk,hk1,hk2,s9,s10,en,e4',e2',hip,J0v]
    first|refine J00 (J1o (G.Params[i]'hip)) (by first|simp;done|rfl) ?_|refine J02 (J1o (G.Params[i]'hip)) (by first|simp;done|rfl) ?_
    rintro r rfl
    cases g2:((c.Args[i]).Lst==J0n G.Params[i])
    ·have g2':¬(c.Args[i]).Lst=J0n G.Params[i]:=by simpa using g2
     simp [g2',e4',e2']
    have g2':(c.Args[i]).Lst=J0n G.Params[i]:=by simpa using g2
    simp [g2',hk,hk1,hk2,s9,s10,en,e4',e2',hip,J0v]
    first|refine J00 (J82 (c.Args[i]'hi) (J6a hi hc)) (by first|simp [J0v,g2'];done|rfl) ?_|refine J02 (J82 (c.Args[i]'hi) (J6a hi hc)) (by first|simp [J0v,g2'];done|rfl) ?_
    rintro r rfl
    simp [g2',hk,hk1,hk2,s9,s10,en,e4',e2',hip,J0v,y2,y4]
    first|refine J00 (J97 (J4x (J6z (c.Args[i]'hi))) scope) (by first|simp;done|rfl) ?_|refine J02 (J97 (J4x (J6z (c.Args[i]'hi))) scope) (by first|simp;done|rfl) ?_
    rintro r rfl
    simp [e4',e2',y2,y4]
   rintro st3 h3 n3 hk3 ⟨hn3,s76,e4'',e2''⟩
   simp at hk3
   generalize J6b c.Args[i] (J0n G.Params[i]) scope=D at *
   cases D
   ·rw [Bool.false_and] at hJ
    subst hJ
    simp [s76]
    refine hret _ _ _ ?_
    simp
   ·rw [Bool.true_and] at hJ
    simp [hk,hk1,hk2,hk3,s76,s51,hw]
    exact hR _ _ _ (by simp [hk,hk1,hk2,hk3]) (by simp) ⟨by omega,by simp [e4''],by simp [e2''],hJ⟩
  ·rintro st h n R hk s51 ⟨hn,e4,e2,hJ⟩ hret hX
   simp at hk
   rw [List.drop_eq_nil_of_le (by omega),Ja0] at hJ
   refine J0i [2] (fun s=>s 52 = .bool false) (by simp [hk,s51,←h1n]) ?_
   intro st1 hk1 s52
   refine J37 s52 ?_
   simp
   refine hX _ _ _ _ ?_
   simp [←hJ]
def a222:AFn:= ⟨70,[.t 6],(.seq (.reg [⟨some 3,.boxv (.t 0),no⟩,⟨some 4,.boxv (.t 1),no⟩,⟨some 6,.mv (.k (.bool false)),no⟩]) (.seq (.reg [⟨some 11,.ld true 2 (.t 3),no⟩,⟨some 12,.fld 1 (.t 4),no⟩,⟨some 13,.ld false 1 (.t 12),no⟩,⟨some 14,.call (.k (.fn (.func 172) [] [])) [.t 11,.t 13],no⟩,⟨some 10,.mv (.t 14),no⟩,⟨some 15,.ext (.t 10) 0,no⟩,⟨some 16,.ext (.t 10) 1,no⟩,⟨some 7,.box [(.str []),(.nil 1),(.bool false),(.nil 2)],no⟩,⟨no,.st 4 (.t 7) (.t 15),no⟩,⟨some 8,.mv (.t 16),no⟩]) (.seq (.seq (.reg [⟨some 17,.mv (.t 8),no⟩,⟨some 18,.un .not (.t 17),no⟩,⟨some 19,.mv (.t 18),no⟩,⟨some 20,.fld 2 (.t 4),(some (19,false))⟩,⟨some 21,.ld false 1 (.t 20),(some (19,false))⟩,⟨some 22,.len false (.t 21),(some (19,false))⟩,⟨some 23,.fld 1 (.t 7),(some (19,false))⟩,⟨some 24,.ld false 1 (.t 23),(some (19,false))⟩,⟨some 25,.len false (.t 24),(some (19,false))⟩,⟨some 26,.bin .neq (.t 22) (.t 25),(some (19,false))⟩,⟨some 27,.pick (.t 19) (.k (.bool true)) (.t 26),no⟩,⟨some 28,.mv (.t 27),no⟩,⟨some 29,.fld 2 (.t 7),(some (28,false))⟩,⟨some 30,.ld false 1 (.t 29),(some (28,false))⟩,⟨some 31,.mv (.t 30),(some (28,false))⟩,⟨some 32,.fld 0 (.t 4),(some (31,true))⟩,⟨some 33,.ld false 1 (.t 32),(some (31,true))⟩,⟨some 34,.call (.k (.fn (.func 260) [] [])) [.t 33],(some (31,true))⟩,⟨some 35,.un .not (.t 34),(some (31,true))⟩,⟨some 36,.pick (.t 31) (.t 35) (.k (.bool false)),(some (28,false))⟩,⟨some 37,.pick (.t 28) (.k (.bool true)) (.t 36),no⟩,⟨some 38,.mv (.t 37),no⟩,⟨some 39,.fld 2 (.t 7),(some (38,false))⟩,⟨some 40,.ld false 1 (.t 39),(some (38,false))⟩,⟨some 41,.un .not (.t 40),(some (38,false))⟩,⟨some 42,.mv (.t 41),(some (38,false))⟩,⟨some 43,.fld 0 (.t 4),(some (42,true))⟩,⟨some 44,.ld false 1 (.t 43),(some (42,true))⟩,⟨some 45,.call (.k (.fn (.func 216) [] [])) [.t 44],(some (42,true))⟩,⟨some 46,.un .not (.t 45),(some (42,true))⟩,⟨some 47,.pick (.t 42) (.t 46) (.k (.bool false)),(some (38,false))⟩,⟨some 48,.pick (.t 38) (.k (.bool true)) (.t 47),no⟩]) (.cond (.t 48) (.seq (.reg [⟨some 6,.mv (.k (.bool false)),no⟩]) .ret) .skip)) (.seq (.seq (.reg [⟨some 9,.mv (.k (.int .i64 0)),no⟩]) (.blk 0 (.loop (.seq (.seq (.reg [⟨some 49,.mv (.t 9),no⟩,⟨some 50,.fld 2 (.t 4),no⟩,⟨some 51,.ld false 1 (.t 50),no⟩,⟨some 52,.len false (.t 51),no⟩,⟨some 53,.bin .lss (.t 49) (.t 52),no⟩]) (.cond (.t 53) .skip (.exit 0))) (.seq (.blk 1 (.seq (.draw (.op ⟨some 56,.fld 2 (.t 4),no⟩ (.op ⟨some 57,.ld false 1 (.t 56),no⟩ (.op ⟨some 58,.mv (.t 9),no⟩ (.op ⟨some 59,.ixa 3 (.t 57) (.t 58),no⟩ (.op ⟨some 60,.ld true 3 (.t 59),no⟩ (.op ⟨some 61,.fld 1 (.t 7),no⟩ (.op ⟨some 62,.ld false 1 (.t 61),no⟩ (.op ⟨some 63,.mv (.t 9),no⟩ (.op ⟨some 64,.ixa 1 (.t 62) (.t 63),no⟩ (.op ⟨some 65,.ld false 1 (.t 64),no⟩ (.op ⟨some 67,.mv (.t 2),no⟩ (.op ⟨some 66,.call (.k (.fn (.func 260) [] [])) [.t 65],no⟩ (.op ⟨some 68,.call (.k (.fn (.func 223) [] [])) [.t 60,.t 66,.t 67],no⟩ (.op ⟨some 69,.un .not (.t 68),no⟩ .fin))))))))))))))) (.cond (.t 69) (.seq (.reg [⟨some 6,.mv (.k (.bool false)),no⟩]) .ret) .skip))) (.reg [⟨some 54,.mv (.t 9),no⟩,⟨some 55,.bin .add (.t 54) (.k (.int .i64 1)),no⟩,⟨some 9,.mv (.t 55),no⟩])))))) (.seq (.reg [⟨some 6,.mv (.k (.bool true)),no⟩]) .ret)))))⟩
theorem a222_ok:J0a Tryz.prog Tryz.f222=some a222:=by kernel_rfl
set_option maxHeartbeats 1000000 in
theorem J9k (p:DProgram) (c:DCall) (scope:List Str) (hp:J0f p≤1048576) (hc:J53 c≤1048576):Holds Tryz.prog 222 [.agg (J01 p),.agg (J0s c),.sl 1 (J0e scope)] (fun r=>r = .bool (J9g p c scope)):=by
 have hal:c.Args.length≤1048576:=by have:=J27 Ja1 c.Args;unfold J53 Jc8 at hc;omega
 refine J03 Tryz.func222 a222_ok rfl (by simp [a222]) ?_
 simp [a222,J01,J0s]
 first|refine J00 (J1q p c.Func hp) (by first|simp [J01];done|rfl) ?_|refine J02 (J1q p c.Func hp) (by first|simp [J01];done|rfl) ?_
 rintro r rfl
 unfold J9g
 generalize hG:(J0t p.Functions c.Func).getD fn0=G
 simp only [J7z,hG]
 generalize hb1:(J0t p.Functions c.Func).isSome=b1
 simp [J0h]
 cases b1
 ·simp
 simp
 intro _ _
 have hd:decide (c.Args.length=G.Params.length)=decide ((c.Args.length:Int)=G.Params.length):=by rw [decide_eq_decide];omega
 by_cases h1:(c.Args.length:Int)=G.Params.length
 case neg=>
  have h1n:¬c.Args.length=G.Params.length:=by omega
  simp [h1,h1n]
 have h1n:c.Args.length=G.Params.length:=by omega
 simp [h1,h1n]
 generalize hB:J7y scope c.Args G.Params=B
 cases hL:G.ListResult
 ·simp
  first|refine J00 (J4r c.Bind) (by first|simp;done|rfl) ?_|refine J02 (J4r c.Bind) (by first|simp;done|rfl) ?_
  rintro r rfl
  cases hn:J2f c.Bind
  ·simp
  simp [hL]
  refine J0o [2,4,7] 9 c.Args.length (fun i s h n=>4<n∧h 1=some ⟨true,3,[[.str c.Bind,.str c.Func,.sl 3 (c.Args.map J0v)]]⟩∧h 4=some ⟨true,4,[[.str G.Name,.ref 2 0 G.Params.length,.bool false,.ref 3 0 G.Pre.length]]⟩∧h 2=some ⟨false,1,J0e G.Params⟩∧J7y scope (c.Args.drop i) (G.Params.drop i)=B) (by unfold LIM;omega) (by simp) ⟨by simp,by simp,by simp,by simp,by simpa using hB⟩ ?_ ?_
  ·rintro i st h n R hi hg hk s9 hw ⟨hn,e1,e4,e2,hJ⟩ hR hret _
   simp at hk
   have hip:i<G.Params.length:=by omega
   rw [J8a hi hip] at hJ
   refine J0b (J0i [2,4,7,9] (fun s=>s 53 = .bool true) (by simp [hk,s9,hi,hip,e1,h1n]) ?_)
   intro st1 hk1 s53
   simp at hk1
   refine J29 s53 (J0b (J1c ?_))
   refine J15 [2,4,7,9] (fun s h' n'=>4<n'∧s 69 = .bool (!J6b c.Args[i] (J0n G.Params[i]) scope)∧h' 1=some ⟨true,3,[[.str c.Bind,.str c.Func,.sl 3 (c.Args.map J0v)]]⟩∧h' 4=some ⟨true,4,[[.str G.Name,.ref 2 0 G.Params.length,.bool false,.ref 3 0 G.Pre.length]]⟩∧h' 2=some ⟨false,1,J0e G.Params⟩) ?_ ?_
   ·simp [hk,hk1,s9,e1,e4,e2,hi,hip,hg]
    first|refine J00 (J16 (G.Params[i]'hip)) (by first|simp;done|rfl) ?_|refine J02 (J16 (G.Params[i]'hip)) (by first|simp;done|rfl) ?_
    rintro r rfl
    simp [hk,hk1,s9,e1,e4,e2,hi,hip,J0v]
    first|refine J00 (J65 (c.Args[i]'hi) (J0n (G.Params[i]'hip)) scope (J6a hi hc)) (by first|simp [J0v];done|rfl) ?_|refine J02 (J65 (c.Args[i]'hi) (J0n (G.Params[i]'hip)) scope (J6a hi hc)) (by first|simp [J0v];done|rfl) ?_
    rintro r rfl
    simp [e1,e4,e2,hn]
   rintro st3 h3 n3 hk3 ⟨hn3,s69,e1'',e4'',e2''⟩
   simp at hk3
   generalize J6b c.Args[i] (J0n G.Params[i]) scope=D at *
   cases D
   ·rw [Bool.false_and] at hJ
    subst hJ
    simp [s69]
    refine hret _ _ _ ?_
    simp
   ·rw [Bool.true_and] at hJ
    simp [hk,hk1,hk3,s69,s9,hw]
    exact hR _ _ _ (by simp [hk,hk1,hk3]) (by simp) ⟨by omega,by simp [e1''],by simp [e4''],by simp [e2''],hJ⟩
  ·rintro st h n R hk s9 ⟨hn,e1,e4,e2,hJ⟩ hret hX
   simp at hk
   rw [List.drop_eq_nil_of_le (by omega),Ja0] at hJ
   refine J0b (J0i [2] (fun s=>s 53 = .bool false) (by simp [hk,s9,e1,h1n]) ?_)
   intro st1 hk1 s53
   refine J23 s53 ?_
   simp
   refine hX _ _ _ _ ?_
   simp [←hJ]
 ·simp
  first|refine J00 (J16 c.Bind) (by first|simp;done|rfl) ?_|refine J02 (J16 c.Bind) (by first|simp;done|rfl) ?_
  rintro r rfl
  cases hn:J0n c.Bind
  ·simp
  simp [hL]
  refine J0o [2,4,7] 9 c.Args.length (fun i s h n=>4<n∧h 1=some ⟨true,3,[[.str c.Bind,.str c.Func,.sl 3 (c.Args.map J0v)]]⟩∧h 4=some ⟨true,4,[[.str G.Name,.ref 2 0 G.Params.length,.bool true,.ref 3 0 G.Pre.length]]⟩∧h 2=some ⟨false,1,J0e G.Params⟩∧J7y scope (c.Args.drop i) (G.Params.drop i)=B) (by unfold LIM;omega) (by simp) ⟨by simp,by simp,by simp,by simp,by simpa using hB⟩ ?_ ?_
  ·rintro i st h n R hi hg hk s9 hw ⟨hn,e1,e4,e2,hJ⟩ hR hret _
   simp at hk
   have hip:i<G.Params.length:=by omega
   rw [J8a hi hip] at hJ
   refine J0b (J0i [2,4,7,9] (fun s=>s 53 = .bool true) (by simp [hk,s9,hi,hip,e1,h1n]) ?_)
   intro st1 hk1 s53
   simp at hk1
   refine J29 s53 (J0b (J1c ?_))
   refine J15 [2,4,7,9] (fun s h' n'=>4<n'∧s 69 = .bool (!J6b c.Args[i] (J0n G.Params[i]) scope)∧h' 1=some ⟨true,3,[[.str c.Bind,.str c.Func,.sl 3 (c.Args.map J0v)]]⟩∧h' 4=some ⟨true,4,[[.str G.Name,.ref 2 0 G.Params.length,.bool true,.ref 3 0 G.Pre.length]]⟩∧h' 2=some ⟨false,1,J0e G.Params⟩) ?_ ?_
   ·simp [hk,hk1,s9,e1,e4,e2,hi,hip,hg]
    first|refine J00 (J16 (G.Params[i]'hip)) (by first|simp;done|rfl) ?_|refine J02 (J16 (G.Params[i]'hip)) (by first|simp;done|rfl) ?_
    rintro r rfl
    simp [hk,hk1,s9,e1,e4,e2,hi,hip,J0v]
    first|refine J00 (J65 (c.Args[i]'hi) (J0n (G.Params[i]'hip)) scope (J6a hi hc)) (by first|simp [J0v];done|rfl) ?_|refine J02 (J65 (c.Args[i]'hi) (J0n (G.Params[i]'hip)) scope (J6a hi hc)) (by first|simp [J0v];done|rfl) ?_
    rintro r rfl
    simp [e1,e4,e2,hn]
   rintro st3 h3 n3 hk3 ⟨hn3,s69,e1'',e4'',e2''⟩
   simp at hk3
   generalize J6b c.Args[i] (J0n G.Params[i]) scope=D at *
   cases D
   ·rw [Bool.false_and] at hJ
    subst hJ
    simp [s69]
    refine hret _ _ _ ?_
    simp
   ·rw [Bool.true_and] at hJ
    simp [hk,hk1,hk3,s69,s9,hw]
    exact hR _ _ _ (by simp [hk,hk1,hk3]) (by simp) ⟨by omega,by simp [e1''],by simp [e4''],by simp [e2''],hJ⟩
  ·rintro st h n R hk s9 ⟨hn,e1,e4,e2,hJ⟩ hret hX
   simp at hk
   rw [List.drop_eq_nil_of_le (by omega),Ja0] at hJ
   refine J0b (J0i [2] (fun s=>s 53 = .bool false) (by simp [hk,s9,e1,h1n]) ?_)
   intro st1 hk1 s53
   refine J23 s53 ?_
   simp
   refine hX _ _ _ _ ?_
   simp [←hJ]
def a149:AFn:= ⟨105,[.t 4],(.seq (.reg [⟨some 2,.boxv (.t 0),no⟩,⟨some 3,.boxv (.t 1),no⟩,⟨some 4,.mv (.k (.bool false)),no⟩]) (.seq (.reg [⟨some 13,.ld true 2 (.t 2),no⟩,⟨some 14,.fld 0 (.t 3),no⟩,⟨some 15,.ld false 1 (.t 14),no⟩,⟨some 16,.call (.k (.fn (.func 176) [] [])) [.t 13,.t 15],no⟩,⟨some 12,.mv (.t 16),no⟩,⟨some 17,.ext (.t 12) 0,no⟩,⟨some 18,.ext (.t 12) 1,no⟩,⟨some 5,.box [(.str []),(.nil 1),(.bool false),(.nil 2)],no⟩,⟨no,.st 4 (.t 5) (.t 17),no⟩,⟨some 6,.mv (.t 18),no⟩]) (.seq (.seq (.reg [⟨some 19,.mv (.t 6),no⟩,⟨some 20,.un .not (.t 19),no⟩,⟨some 21,.mv (.t 20),no⟩,⟨some 22,.ld true 4 (.t 5),(some (21,false))⟩,⟨some 23,.fld 1 (.t 3),(some (21,false))⟩,⟨some 24,.ld false 1 (.t 23),(some (21,false))⟩,⟨some 25,.call (.k (.fn (.func 236) [] [])) [.t 22,.t 24],(some (21,false))⟩,⟨some 26,.un .not (.t 25),(some (21,false))⟩,⟨some 27,.pick (.t 21) (.k (.bool true)) (.t 26),no⟩,⟨some 28,.mv (.t 27),no⟩,⟨some 29,.fld 2 (.t 3),(some (28,false))⟩,⟨some 30,.ld false 1 (.t 29),(some (28,false))⟩,⟨some 31,.len false (.t 30),(some (28,false))⟩,⟨some 32,.bin .gtr (.t 31) (.k (.int .i64 2)),(some (28,false))⟩,⟨some 33,.pick (.t 28) (.k (.bool true)) (.t 32),no⟩,⟨some 34,.mv (.t 33),no⟩,⟨some 35,.fld 3 (.t 3),(some (34,false))⟩,⟨some 36,.ld false 1 (.t 35),(some (34,false))⟩,⟨some 37,.len false (.t 36),(some (34,false))⟩,⟨some 38,.bin .gtr (.t 37) (.k (.int .i64 2)),(some (34,false))⟩,⟨some 39,.pick (.t 34) (.k (.bool true)) (.t 38),no⟩]) (.cond (.t 39) (.seq (.reg [⟨some 4,.mv (.k (.bool false)),no⟩]) .ret) .skip)) (.seq (.seq (.reg [⟨some 40,.fld 2 (.t 3),no⟩,⟨some 41,.ld false 1 (.t 40),no⟩,⟨some 42,.len false (.t 41),no⟩,⟨some 43,.mv (.k (.int .i64 0)),no⟩]) (.blk 0 (.loop (.seq (.reg [⟨some 44,.bin .lss (.t 43) (.t 42),no⟩]) (.seq (.cond (.t 44) .skip (.exit 0)) (.seq (.blk 1 (.seq (.reg [⟨some 45,.ixa 2 (.t 41) (.t 43),no⟩,⟨some 46,.ld true 2 (.t 45),no⟩,⟨some 8,.box [(.int .i64 0),(.nil 2)],no⟩,⟨no,.st 2 (.t 8) (.t 46),no⟩]) (.seq (.draw (.op ⟨some 47,.ld true 2 (.t 8),no⟩ (.op ⟨some 48,.call (.k (.fn (.func 237) [] [])) [.t 47],no⟩ (.op ⟨some 49,.un .not (.t 48),no⟩ (.op ⟨some 50,.mv (.t 49),no⟩ (.op ⟨some 51,.ld true 2 (.t 8),(some (50,false))⟩ (.op ⟨some 53,.ld true 2 (.t 2),(some (50,false))⟩ (.op ⟨some 54,.ld true 7 (.t 3),(some (50,false))⟩ (.op ⟨some 52,.call (.k (.fn (.func 239) [] [])) [.t 51],(some (50,false))⟩ (.op ⟨some 55,.call (.k (.fn (.func 240) [] [])) [.t 53,.t 54,(.k (.int .i64 0))],(some (50,false))⟩ (.op ⟨some 56,.call (.k (.fn (.func 238) [] [])) [.t 52,.t 55],(some (50,false))⟩ (.op ⟨some 57,.un .not (.t 56),(some (50,false))⟩ (.op ⟨some 58,.pick (.t 50) (.k (.bool true)) (.t 57),no⟩ .fin))))))))))))) (.cond (.t 58) (.seq (.reg [⟨some 4,.mv (.k (.bool false)),no⟩]) .ret) .skip)))) (.reg [⟨some 59,.bin .add (.t 43) (.k (.int .i64 1)),no⟩,⟨some 43,.mv (.t 59),no⟩]))))))) (.seq (.seq (.reg [⟨some 60,.fld 3 (.t 3),no⟩,⟨some 61,.ld false 1 (.t 60),no⟩,⟨some 62,.len false (.t 61),no⟩,⟨some 63,.mv (.k (.int .i64 0)),no⟩]) (.blk 2 (.loop (.seq (.reg [⟨some 64,.bin .lss (.t 63) (.t 62),no⟩]) (.seq (.cond (.t 64) .skip (.exit 2)) (.seq (.blk 3 (.seq (.reg [⟨some 65,.mv (.t 63),no⟩,⟨some 66,.ixa 3 (.t 61) (.t 63),no⟩,⟨some 67,.ld true 3 (.t 66),no⟩,⟨some 10,.box [(.str []),(.str []),(.nil 3)],no⟩,⟨some 9,.mv (.t 65),no⟩,⟨no,.st 3 (.t 10) (.t 67),no⟩]) (.seq (.draw (.op ⟨some 68,.ld true 2 (.t 2),no⟩ (.op ⟨some 69,.ld true 3 (.t 10),no⟩ (.op ⟨some 70,.ld true 2 (.t 2),no⟩ (.op ⟨some 71,.ld true 7 (.t 3),no⟩ (.op ⟨some 72,.mv (.t 9),no⟩ (.op ⟨some 73,.call (.k (.fn (.func 240) [] [])) [.t 70,.t 71,.t 72],no⟩ (.op ⟨some 74,.call (.k (.fn (.func 241) [] [])) [.t 68,.t 69,.t 73],no⟩ (.op ⟨some 75,.un .not (.t 74),no⟩ .fin))))))))) (.cond (.t 75) (.seq (.reg [⟨some 4,.mv (.k (.bool false)),no⟩]) .ret) .skip)))) (.reg [⟨some 76,.bin .add (.t 63) (.k (.int .i64 1)),no⟩,⟨some 63,.mv (.t 76),no⟩]))))))) (.seq (.reg [⟨some 77,.ld true 2 (.t 2),no⟩,⟨some 78,.ld true 7 (.t 3),no⟩,⟨some 79,.fld 3 (.t 3),no⟩,⟨some 80,.ld false 1 (.t 79),no⟩,⟨some 81,.len false (.t 80),no⟩,⟨some 82,.call (.k (.fn (.func 240) [] [])) [.t 77,.t 78,.t 81],no⟩,⟨some 11,.mv (.t 82),no⟩]) (.seq (.reg [⟨some 83,.fld 4 (.t 3),no⟩,⟨some 84,.ld true 3 (.t 83),no⟩,⟨some 85,.call (.k (.fn (.func 242) [] [])) [.t 84],no⟩,⟨some 86,.mv (.t 85),no⟩,⟨some 87,.fld 4 (.t 3),(some (86,true))⟩,⟨some 88,.fld 0 (.t 87),(some (86,true))⟩,⟨some 89,.ld false 1 (.t 88),(some (86,true))⟩,⟨some 90,.fld 2 (.t 5),(some (86,true))⟩,⟨some 91,.ld false 1 (.t 90),(some (86,true))⟩,⟨some 92,.beq false (.t 89) (.t 91),(some (86,true))⟩,⟨some 93,.pick (.t 86) (.t 92) (.k (.bool false)),no⟩,⟨some 94,.mv (.t 93),no⟩,⟨some 95,.fld 4 (.t 3),(some (94,true))⟩,⟨some 96,.ld true 3 (.t 95),(some (94,true))⟩,⟨some 97,.call (.k (.fn (.func 243) [] [])) [.t 96],(some (94,true))⟩,⟨some 98,.mv (.t 11),(some (94,true))⟩,⟨some 99,.call (.k (.fn (.func 238) [] [])) [.t 97,.t 98],(some (94,true))⟩,⟨some 100,.pick (.t 94) (.t 99) (.k (.bool false)),no⟩,⟨some 101,.mv (.t 100),no⟩,⟨some 102,.mv (.t 11),(some (101,true))⟩,⟨some 103,.call (.k (.fn (.func 141) [] [])) [.t 102],(some (101,true))⟩,⟨some 104,.pick (.t 101) (.t 103) (.k (.bool false)),no⟩,⟨some 4,.mv (.t 104),no⟩]) .ret)))))))⟩
theorem a149_ok:J0a Tryz.prog Tryz.f149=some a149:=by kernel_rfl
theorem Jas {r:DRule}(hr:J39 r≤1048576):(∀ g∈r.Guards,g.Terms.length≤1048576)∧(∀ c∈r.Calls,J53 c≤1048576)∧Ja1 r.Result≤1048576∧r.Guards.length≤1048576∧r.Calls.length≤1048576∧r.Patterns.length≤1048576∧J66 r.Guards≤1048576:=by
 have h1:=J27 Jc6 r.Guards
 have h2:=J27 J53 r.Calls
 have h3:=J27 J3h r.Patterns
 unfold J39 J38 J66 J6v at hr
 refine ⟨fun g hg => ?_,fun c hc => ?_,by omega,by omega,by omega,by omega,by unfold J66;omega⟩
 ·have h4:=J3d (w:=Jc6) hg
  have h5:=J27 J7o g.Terms
  rw [show Jc6 g=wL J7o g.Terms from rfl] at h4
  omega
 ·have h4:=J3d (w:=J53) hc
  omega
theorem Jal {p:DProgram}{r:DRule}{i:Nat}(hi:i<r.Calls.length):J2c p r i (r.Calls.drop i)=(J9g p r.Calls[i] (J1j p r i)&&J2c p r (i+1) (r.Calls.drop (i+1))):=by
 rw [List.drop_eq_getElem_cons hi];rfl
theorem Jbi (p:DProgram) (r:DRule) (hp:J0f p≤1048576) (hr:J39 r≤1048576):Holds Tryz.prog 149 [.agg (J01 p),.agg (J0c r)] (fun x=>x = .bool (J7e p r)):=by
 obtain ⟨wg,wc,wa,lg,lc,lp,_⟩:=Jas hr
 refine J03 Tryz.func149 a149_ok rfl (by simp [a149]) ?_
 simp [a149,J01,J0c]
 first|refine J00 (J1v p r.Func hp) (by first|simp [J01];done|rfl) ?_|refine J02 (J1v p r.Func hp) (by first|simp [J01];done|rfl) ?_
 rintro r rfl
 unfold J7e
 generalize hG:(J0t p.Functions r.Func).getD fn0=G
 simp only [J7z,hG]
 generalize hb1:(J0t p.Functions r.Func).isSome=b1
 simp [J0h]
 cases b1
 ·simp
 simp
 first|refine J00 (Jcr G r.Patterns) (by first|simp [J04];done|rfl) ?_|refine J02 (Jcr G r.Patterns) (by first|simp [J04];done|rfl) ?_
 rintro r rfl
 cases h1:J3o G.Params [] r.Patterns
 ·simp
 simp
 intro _
 have hdg:decide (r.Guards.length≤2)=decide ((r.Guards.length:Int)≤2):=by rw [decide_eq_decide];omega
 have hdc:decide (r.Calls.length≤2)=decide ((r.Calls.length:Int)≤2):=by rw [decide_eq_decide];omega
 by_cases h2:(r.Guards.length:Int)≤2
 case neg=>
  have h2n:¬r.Guards.length≤2:=by omega
  simp [h2,h2n,Int.not_le.1 h2]
 have h2n:r.Guards.length≤2:=by omega
 simp [h2,h2n,Int.not_lt.2 h2]
 intro _
 by_cases h3:(r.Calls.length:Int)≤2
 case neg=>
  have h3n:¬r.Calls.length≤2:=by omega
  simp [h3,h3n,Int.not_le.1 h3]
 have h3n:r.Calls.length≤2:=by omega
 simp [h3,h3n,Int.not_lt.2 h3]
 intro _
 generalize hB1:r.Guards.all (J42 (J1j p r 0))=B1
 refine J0o [2,3,5,41,42] 43 r.Guards.length (fun i s h n=>4<n∧h 0=some ⟨true,2,[J01 p]⟩∧h 1=some ⟨true,7,[J0c r]⟩∧h 4=some ⟨true,4,[[.str G.Name,.ref 2 0 G.Params.length,.bool G.ListResult,.ref 3 0 G.Pre.length]]⟩∧(r.Guards.drop i).all (J42 (J1j p r 0))=B1) (by unfold LIM;omega) (by simp) ⟨by simp,by simp [J01],by simp [J0c],by simp,by simpa using hB1⟩ ?_ ?_
 ·rintro i st h n R hi hg hk s43 hw ⟨hn,e0,e1,e4,hJ⟩ hR hret _
  simp at hk
  rw [List.drop_eq_getElem_cons hi,List.all_cons] at hJ
  have z0:¬0=n:=by omega
  have z1:¬1=n:=by omega
  have z4:¬4=n:=by omega
  have y0:¬0=n+1:=by omega
  have y1:¬1=n+1:=by omega
  have y4:¬4=n+1:=by omega
  have x0:¬0=n+1+1:=by omega
  have x1:¬1=n+1+1:=by omega
  have x4:¬4=n+1+1:=by omega
  have v0:¬n+1=n+1+1:=by omega
  have v1:¬n+1+1=n+1:=by omega
  have v4:¬n+1=n:=by omega
  have q0:¬n=0:=by omega
  have q1:¬n=1:=by omega
  have q3:¬n=3:=by omega
  have q4:¬n=4:=by omega
  refine J0i [2,3,5,41,42,43] (fun s=>s 44 = .bool true) (by simp [hk,s43,hi]) ?_
  intro st1 hk1 s44
  simp at hk1
  refine J3g s44 (J0b (J1c ?_))
  refine J15 [2,3,5,41,42,43] (fun s h' n'=>s 8 = .ptr n 0 0∧n'=n+1∧h' n=some ⟨true,2,[J1g r.Guards[i]]⟩∧h' 0=some ⟨true,2,[J01 p]⟩∧h' 1=some ⟨true,7,[J0c r]⟩∧h' 4=some ⟨true,4,[[.str G.Name,.ref 2 0 G.Params.length,.bool G.ListResult,.ref 3 0 G.Pre.length]]⟩) (by simp [hk,hk1,s43,hi,J1g,e0,e1,e4,z0,z1,z4,q0,q1,q4]) ?_
  rintro st2 h2' n2 hk2 ⟨s8,rfl,en,e0',e1',e4'⟩
  simp at hk2
  refine J15 [2,3,5,41,42,43] (fun s h' n'=>n<n'∧s 58 = .bool (!J42 (J1j p r 0) r.Guards[i])∧h' 0=some ⟨true,2,[J01 p]⟩∧h' 1=some ⟨true,7,[J0c r]⟩∧h' 4=some ⟨true,4,[[.str G.Name,.ref 2 0 G.Params.length,.bool G.ListResult,.ref 3 0 G.Pre.length]]⟩) ?_ ?_
  ·simp [hk,hk1,hk2,s8,en]
   first|refine J00 (J7b (r.Guards[i]'hi)) (by first|simp;done|rfl) ?_|refine J02 (J7b (r.Guards[i]'hi)) (by first|simp;done|rfl) ?_
   rintro r rfl
   unfold J42
   cases g1:J8y r.Guards[i]
   ·simp [e0',e1',e4']
   simp [hk,hk1,hk2,s8,en,e0',e1',e4',J01,J0c]
   first|refine J00 (J57 (r.Guards[i]'hi) (wg _ (List.getElem_mem hi))) (by simp [J01,J0c]) ?_|refine J02 (J57 (r.Guards[i]'hi) (wg _ (List.getElem_mem hi))) (by simp [J01,J0c]) ?_|refine J00 (J57 (r.Guards[i]'hi) (wg _ (List.getElem_mem hi))) rfl ?_|refine J02 (J57 (r.Guards[i]'hi) (wg _ (List.getElem_mem hi))) rfl ?_
   rintro r rfl
   simp [hk,hk1,hk2,s8,en,e0',e1',e4',J01,J0c,z0,z1,z4,y0,y1,y4,x0,x1,x4,v0,v1,v4,q0,q1,q3,q4]
   first|refine J00 (J87 p r 0 hp hr) (by first|simp [J01,J0c];done|rfl) ?_|refine J02 (J87 p r 0 hp hr) (by first|simp [J01,J0c];done|rfl) ?_
   rintro r rfl
   simp [hk,hk1,hk2,s8,en,e0',e1',e4',J01,J0c,z0,z1,z4,y0,y1,y4,x0,x1,x4,v0,v1,v4,q0,q1,q3,q4]
   first|refine J00 (J97 (J6m (r.Guards[i]'hi)) (J1j p r 0)) (by first|simp [z0,z1,z4,y0,y1,y4,x0,x1,x4,v0,v1,v4,q0,q1,q3,q4];done|rfl) ?_|refine J02 (J97 (J6m (r.Guards[i]'hi)) (J1j p r 0)) (by first|simp [z0,z1,z4,y0,y1,y4,x0,x1,x4,v0,v1,v4,q0,q1,q3,q4];done|rfl) ?_
   rintro r rfl
   simp [e0',e1',e4',J01,J0c,z0,z1,z4,y0,y1,y4,x0,x1,x4,v0,v1,v4,q0,q1,q3,q4]
  rintro st3 h3' n3 hk3 ⟨hn3,s58,e0'',e1'',e4''⟩
  simp at hk3
  generalize J42 (J1j p r 0) r.Guards[i]=D at *
  cases D
  ·rw [Bool.false_and] at hJ
   subst hJ
   simp [s58]
   refine hret _ _ _ ?_
   simp
  ·rw [Bool.true_and] at hJ
   simp [hk,hk1,hk2,hk3,s58,s43,hw]
   exact hR _ _ _ (by simp [hk,hk1,hk2,hk3]) (by simp) ⟨by omega,e0'',e1'',e4'',hJ⟩
 rintro st h n R hk s43 ⟨hn,e0,e1,e4,hJ⟩ hret hX
 simp at hk
 rw [List.drop_eq_nil_of_le (by omega)] at hJ
 refine J0i [2,3,5,41,42,43] (fun s=>s 44 = .bool false) (by simp [hk,s43]) ?_
 intro st1 hk1 s44
 simp at hk1
 refine J37 s44 ?_
 refine hX _ _ _ _ ?_
 simp at hJ
 subst hJ
 clear hX hret hB1
 simp [hk,hk1,e1,J0c]
 intro _
 generalize hB2:J2c p r 0 r.Calls=B2
 refine J0o [2,3,5,61,62] 63 r.Calls.length (fun i s h n=>4<n∧h 0=some ⟨true,2,[J01 p]⟩∧h 1=some ⟨true,7,[J0c r]⟩∧h 4=some ⟨true,4,[[.str G.Name,.ref 2 0 G.Params.length,.bool G.ListResult,.ref 3 0 G.Pre.length]]⟩∧J2c p r i (r.Calls.drop i)=B2) (by unfold LIM;omega) (by simp) ⟨hn,e0,e1,e4,by simpa using hB2⟩ ?_ ?_
 ·rintro i st h n R hi hg hkk s63 hw ⟨hn,e0,e1,e4,hJ⟩ hR hret _
  simp at hkk
  rw [Jal hi] at hJ
  have z0:¬0=n:=by omega
  have z1:¬1=n:=by omega
  have z4:¬4=n:=by omega
  have y0:¬0=n+1:=by omega
  have y1:¬1=n+1:=by omega
  have y4:¬4=n+1:=by omega
  have x0:¬0=n+1+1:=by omega
  have x1:¬1=n+1+1:=by omega
  have x4:¬4=n+1+1:=by omega
  have v0:¬n+1=n+1+1:=by omega
  have v1:¬n+1+1=n+1:=by omega
  have v4:¬n+1=n:=by omega
  have q0:¬n=0:=by omega
  have q1:¬n=1:=by omega
  have q3:¬n=3:=by omega
  have q4:¬n=4:=by omega
  refine J0i [2,3,5,61,62,63] (fun s=>s 64 = .bool true) (by simp [hkk,s63,hi]) ?_
  intro stb hkb s64
  simp at hkb
  refine J3g s64 (J0b (J1c ?_))
  refine J15 [2,3,5,61,62,63] (fun s h' n'=>s 9 = .int .i64 i∧s 10 = .ptr n 0 0∧n'=n+1∧h' n=some ⟨true,3,[J0s r.Calls[i]]⟩∧h' 0=some ⟨true,2,[J01 p]⟩∧h' 1=some ⟨true,7,[J0c r]⟩∧h' 4=some ⟨true,4,[[.str G.Name,.ref 2 0 G.Params.length,.bool G.ListResult,.ref 3 0 G.Pre.length]]⟩) (by simp [hk,hkk,hk1,hkb,s63,hi,J0s,e0,e1,e4,z0,z1,z4,q0,q1,q4]) ?_
  rintro st2 h2' n2 hk2 ⟨s9,s10,rfl,en,e0',e1',e4'⟩
  simp at hk2
  refine J15 [2,3,5,61,62,63] (fun s h' n'=>n<n'∧s 75 = .bool (!J9g p r.Calls[i] (J1j p r i))∧h' 0=some ⟨true,2,[J01 p]⟩∧h' 1=some ⟨true,7,[J0c r]⟩∧h' 4=some ⟨true,4,[[.str G.Name,.ref 2 0 G.Params.length,.bool G.ListResult,.ref 3 0 G.Pre.length]]⟩) ?_ ?_
  ·simp [hk,hkk,hk1,hkb,hk2,s9,s10,en,e0',e1',e4',J01,J0c]
   first|refine J00 (J87 p r i hp hr) (by first|simp [J01,J0c];done|rfl) ?_|refine J02 (J87 p r i hp hr) (by first|simp [J01,J0c];done|rfl) ?_
   rintro r rfl
   simp [hk,hkk,hk1,hkb,hk2,s9,s10,en,e0',e1',e4',J01,J0c,z0,z1,z4,y0,y1,y4,x0,x1,x4,v0,v1,v4,q0,q1,q3,q4]
   first|refine J00 (Jdm p (r.Calls[i]'hi) (J1j p r i) hp (wc _ (List.getElem_mem hi))) (by simp [J01,z0,z1,z4,y0,y1,y4,x0,x1,x4,v0,v1,v4,q0,q1,q3,q4]) ?_|refine J02 (Jdm p (r.Calls[i]'hi) (J1j p r i) hp (wc _ (List.getElem_mem hi))) (by simp [J01,z0,z1,z4,y0,y1,y4,x0,x1,x4,v0,v1,v4,q0,q1,q3,q4]) ?_|refine J00 (Jdm p (r.Calls[i]'hi) (J1j p r i) hp (wc _ (List.getElem_mem hi))) rfl ?_|refine J02 (Jdm p (r.Calls[i]'hi) (J1j p r i) hp (wc _ (List.getElem_mem hi))) rfl ?_
   rintro r rfl
   simp [e0',e1',e4',J01,J0c,z0,z1,z4,y0,y1,y4,x0,x1,x4,v0,v1,v4,q0,q1,q3,q4]
  rintro st3 h3' n3 hk3 ⟨hn3,s75,e0'',e1'',e4''⟩
  simp at hk3
  generalize J9g p r.Calls[i] (J1j p r i)=D at *
  cases D
  ·rw [Bool.false_and] at hJ
   subst hJ
   simp [s75]
   refine hret _ _ _ ?_
   simp
  ·rw [Bool.true_and] at hJ
   simp [hk,hkk,hk1,hkb,hk2,hk3,s75,s63,hw]
   exact hR _ _ _ (by simp [hk,hkk,hk1,hkb,hk2,hk3]) (by simp) ⟨by omega,e0'',e1'',e4'',hJ⟩
 rintro st h n R hkk s63 ⟨hn,e0,e1,e4,hJ⟩ hret hX
 simp at hkk
 rw [List.drop_eq_nil_of_le (by omega)] at hJ
 refine J0i [2,3,5,61,62,63] (fun s=>s 64 = .bool false) (by simp [hkk,s63]) ?_
 intro st1 hk1' s64
 simp at hk1'
 refine J37 s64 ?_
 refine hX _ _ _ _ ?_
 simp [J2c] at hJ
 subst hJ
 clear hX hret hB2
 have z0:¬0=n:=by omega
 have z1:¬1=n:=by omega
 have z4:¬4=n:=by omega
 have y0:¬0=n+1:=by omega
 have y1:¬1=n+1:=by omega
 have y4:¬4=n+1:=by omega
 have x0:¬0=n+1+1:=by omega
 have x1:¬1=n+1+1:=by omega
 have x4:¬4=n+1+1:=by omega
 have v0:¬n+1=n+1+1:=by omega
 have v1:¬n+1+1=n+1:=by omega
 have v4:¬n+1=n:=by omega
 have q0:¬n=0:=by omega
 have q1:¬n=1:=by omega
 have q3:¬n=3:=by omega
 have q4:¬n=4:=by omega
 simp [hk,hk1,hkk,hk1',e0,e1,J0c,J01]
 intro _
 first|refine J00 (J87 p r r.Calls.length hp hr) (by first|simp [J01,J0c];done|rfl) ?_|refine J02 (J87 p r r.Calls.length hp hr) (by first|simp [J01,J0c];done|rfl) ?_
 rintro r rfl
 simp [hk,hk1,hkk,hk1',e0,e1,e4,J0c,J01,z0,z1,z4,y0,y1,y4,x0,x1,x4,v0,v1,v4,q0,q1,q3,q4]
 first|refine J00 (J5a r.Result) (by first|simp [J0v];done|rfl) ?_|refine J02 (J5a r.Result) (by first|simp [J0v];done|rfl) ?_
 rintro r rfl
 unfold J6b
 cases g1:Jaz r.Result
 ·simp
 simp [hk,hk1,hkk,hk1',e0,e1,e4,J0c,J01,z0,z1,z4,y0,y1,y4,x0,x1,x4,v0,v1,v4,q0,q1,q3,q4]
 cases g2:(r.Result.Lst==G.ListResult)
 ·have g2':¬r.Result.Lst=G.ListResult:=by simpa using g2
  simp [g2']
 have g2':r.Result.Lst=G.ListResult:=by simpa using g2
 simp [hk,hk1,hkk,hk1',e0,e1,e4,J0c,J01,z0,z1,z4,y0,y1,y4,x0,x1,x4,v0,v1,v4,q0,q1,q3,q4,g2']
 first|refine J00 (J82 r.Result wa) (by first|simp [J0v,g2'];done|rfl) ?_|refine J02 (J82 r.Result wa) (by first|simp [J0v,g2'];done|rfl) ?_
 rintro r rfl
 simp [hk,hk1,hkk,hk1',e0,e1,e4,J0c,J01,z0,z1,z4,y0,y1,y4,x0,x1,x4,v0,v1,v4,q0,q1,q3,q4,g2']
 first|refine J00 (J97 (J4x (J6z r.Result)) (J1j p r r.Calls.length)) (by first|simp [z0,z1,z4,y0,y1,y4,x0,x1,x4,v0,v1,v4,q0,q1,q3,q4];done|rfl) ?_|refine J02 (J97 (J4x (J6z r.Result)) (J1j p r r.Calls.length)) (by first|simp [z0,z1,z4,y0,y1,y4,x0,x1,x4,v0,v1,v4,q0,q1,q3,q4];done|rfl) ?_
 rintro r rfl
 cases g3:Jmy (J4x (J6z r.Result)) (J1j p r r.Calls.length)
 ·simp
 simp [z0,z1,z4,y0,y1,y4,x0,x1,x4,v0,v1,v4,q0,q1,q3,q4]
 first|refine J00 (J6q (J1j p r r.Calls.length)) (by first|simp [z0,z1,z4,y0,y1,y4,x0,x1,x4,v0,v1,v4,q0,q1,q3,q4];done|rfl) ?_|refine J02 (J6q (J1j p r r.Calls.length)) (by first|simp [z0,z1,z4,y0,y1,y4,x0,x1,x4,v0,v1,v4,q0,q1,q3,q4];done|rfl) ?_
 rintro r rfl
 simp
end Go.Proofs.YtoclolkigjbcgaaGreat

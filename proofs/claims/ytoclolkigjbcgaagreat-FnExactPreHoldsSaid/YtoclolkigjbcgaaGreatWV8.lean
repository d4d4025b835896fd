/- Contracts: valid programs. -/
import Derived.Test.YtoclolkigjbcgaaGreatWV5
import Derived.Test.YtoclolkigjbcgaaGreatWC9
import Derived.Test.YtoclolkigjbcgaaGreatWV1
namespace Go.Proofs.YtoclolkigjbcgaaGreat
set_option maxRecDepth 40000
set_option maxHeartbeats 4000000
open Go Go.RowKit Go.Proofs
set_option linter.all false
theorem a147_ok:J0a Tryz.prog Tryz.f147=some (J2r 235):=by kernel_rfl
theorem a235_ok:J0a Tryz.prog Tryz.f235=some (J3h true 7):=by kernel_rfl
def a217:AFn:= ⟨18,[.t 2],(.seq (.reg [Zo 2 (.mv (.k (.bool false)))]) (.seq (.seq (.reg [Zo 3 (.mv (.k (.int .i64 0)))]) (.blk 0 (.loop (.seq (.seq (.reg [Zv 4 3,Zv 5 0,Zo 6 (.len false (.t 5)),Zo 7 (.bin .lss (.t 4) (.t 6))]) (.cond (.t 7) .skip (.exit 0))) (.seq (.blk 1 (.seq (.reg [Zv 10 0,Zv 11 3,Zo 12 (.ixa 1 (.t 10) (.t 11)),Zl 13 false 1 12,Zc 14 285 [.t 13],Zo 15 (.un .not (.t 14))]) (.cond (.t 15) (.seq (.reg [Zo 2 (.mv (.k (.bool false)))]) .ret) .skip))) (.reg [Zv 8 3,Zo 9 (.bin .add (.t 8) (.k (.int .i64 1))),Zv 3 9])))))) (.seq (.reg [Zv 16 0,Zc 17 218 [.t 16],Zv 2 17]) .ret)))⟩
theorem a217_ok:J0a Tryz.prog Tryz.f217=some a217:=by kernel_rfl
def a142:AFn:= ⟨6,[.t 2],(.seq (.reg [Zo 2 (.mv (.k (.bool false)))]) (.seq (.reg [Zv 3 0,Zc 4 143 [.t 3],Zo 5 (.un .not (.t 4)),Zv 2 5]) .ret))⟩
theorem a142_ok:J0a Tryz.prog Tryz.f142=some a142:=by kernel_rfl
def a145:AFn:= ⟨10,[.t 3],(.seq (.reg [Zo 2 (.boxv (.t 0)),Zo 3 (.mv (.k (.bool false)))]) (.seq (.reg [Zl 4 true 2 2,Zf 5 1 1,Zl 6 false 1 5,Zo 7 (.len false (.t 6)),Zc 8 146 [.t 4,.t 7],Zo 9 (.un .not (.t 8)),Zv 3 9]) .ret))⟩
theorem a145_ok:J0a Tryz.prog Tryz.f145=some a145:=by kernel_rfl
def a148:AFn:= ⟨8,[.t 3],(.seq (.reg [Zo 2 (.boxv (.t 0)),Zo 3 (.mv (.k (.bool false)))]) (.seq (.reg [Zl 4 true 2 1,Zl 5 true 7 2,Zc 6 149 [.t 4,.t 5],Zo 7 (.un .not (.t 6)),Zv 3 7]) .ret))⟩
theorem a148_ok:J0a Tryz.prog Tryz.f148=some a148:=by kernel_rfl
def a67:AFn:= ⟨69,[.t 2],(.seq (.reg [Zo 1 (.boxv (.t 0)),Zo 2 (.mv (.k (.bool false)))]) (.seq (.seq (.reg [Zf 5 0 1,Zl 6 false 1 5,Zo 7 (.len false (.t 6)),Zc 8 102 [.t 7,(.k (.int .i64 1)),(.k (.int .i64 3))],Zo 9 (.un .not (.t 8)),Zv 10 9,⟨some 11,.fld 1 (.t 1),(some (10,false))⟩,⟨some 12,.ld false 1 (.t 11),(some (10,false))⟩,⟨some 13,.len false (.t 12),(some (10,false))⟩,⟨some 14,.bin .gtr (.t 13) (.k (.int .i64 8)),(some (10,false))⟩,Zo 15 (.pick (.t 10) (.k (.bool true)) (.t 14))]) (.cond (.t 15) (.seq (.reg [Zo 2 (.mv (.k (.bool false)))]) .ret) .skip)) (.seq (.seq (.reg [Zf 16 0 1,Zl 17 false 1 16,Zo 18 (.len false (.t 17)),Zo 19 (.mv (.k (.int .i64 0)))]) (.blk 0 (.loop (.seq (.reg [Zo 20 (.bin .lss (.t 19) (.t 18))]) (.seq (.cond (.t 20) .skip (.exit 0)) (.seq (.blk 1 (.seq (.reg [Zv 21 19,Zo 22 (.ixa 4 (.t 17) (.t 19)),Zl 23 true 4 22,Zo 4 (.box [(.str []),(.nil 1),(.bool false),(.nil 2)]),Zv 3 21,⟨no,.st 4 (.t 4) (.t 23),no⟩]) (.seq (.seq (.reg [Zf 24 0 4,Zl 25 false 1 24,Zc 26 140 [.t 25],Zo 27 (.un .not (.t 26)),Zv 28 27,⟨some 29,.ld true 2 (.t 1),(some (28,false))⟩,⟨some 30,.fld 0 (.t 4),(some (28,false))⟩,⟨some 31,.ld false 1 (.t 30),(some (28,false))⟩,⟨some 32,.call (.k (.fn (.func 84) [] [])) [.t 29,.t 31],(some (28,false))⟩,⟨some 33,.mv (.t 3),(some (28,false))⟩,⟨some 34,.bin .neq (.t 32) (.t 33),(some (28,false))⟩,Zo 35 (.pick (.t 28) (.k (.bool true)) (.t 34)),Zv 36 35,⟨some 37,.fld 1 (.t 4),(some (36,false))⟩,⟨some 38,.ld false 1 (.t 37),(some (36,false))⟩,⟨some 39,.len false (.t 38),(some (36,false))⟩,⟨some 40,.bin .gtr (.t 39) (.k (.int .i64 2)),(some (36,false))⟩,Zo 41 (.pick (.t 36) (.k (.bool true)) (.t 40)),Zv 42 41,⟨some 43,.fld 1 (.t 4),(some (42,false))⟩,⟨some 44,.ld false 1 (.t 43),(some (42,false))⟩,⟨some 45,.call (.k (.fn (.func 141) [] [])) [.t 44],(some (42,false))⟩,⟨some 46,.un .not (.t 45),(some (42,false))⟩,Zo 47 (.pick (.t 42) (.k (.bool true)) (.t 46)),Zv 48 47,⟨some 49,.fld 3 (.t 4),(some (48,false))⟩,⟨some 50,.ld false 1 (.t 49),(some (48,false))⟩,⟨some 51,.len false (.t 50),(some (48,false))⟩,⟨some 52,.bin .gtr (.t 51) (.k (.int .i64 2)),(some (48,false))⟩,Zo 53 (.pick (.t 48) (.k (.bool true)) (.t 52))]) (.cond (.t 53) (.seq (.reg [Zo 2 (.mv (.k (.bool false)))]) .ret) .skip)) (.seq (.reg [Zf 54 1 4,Zl 55 false 1 54,Zc 56 69 [.t 55,(.k (.fn (.func 142) [] []))],Zv 57 56,⟨some 58,.fld 3 (.t 4),(some (57,false))⟩,⟨some 59,.ld false 1 (.t 58),(some (57,false))⟩,⟨some 60,.mkf (.func 145) [] [.t 4],(some (57,false))⟩,⟨some 61,.call (.k (.fn (.func 144) [] [])) [.t 59,.t 60],(some (57,false))⟩,Zo 62 (.pick (.t 57) (.k (.bool true)) (.t 61))]) (.cond (.t 62) (.seq (.reg [Zo 2 (.mv (.k (.bool false)))]) .ret) .skip))))) (.reg [Zo 63 (.bin .add (.t 19) (.k (.int .i64 1))),Zv 19 63]))))))) (.seq (.reg [Zf 64 1 1,Zl 65 false 1 64,Zo 66 (.mkf (.func 148) [] [.t 1]),Zc 67 147 [.t 65,.t 66],Zo 68 (.un .not (.t 67)),Zv 2 68]) .ret))))⟩
theorem a67_ok:J0a Tryz.prog Tryz.f67=some a67:=by kernel_rfl
theorem Jfs (l:List Str):Holds Tryz.prog 217 [.sl 1 (J0d l)] (fun r=>r = .bool (l.all J37&&J7x l)):=by
 refine J1k Tryz.func217 rfl rfl fun hl => ?_
 simp at hl
 refine J02 Tryz.func217 a217_ok rfl (by simp [a217]) ?_
 simp [a217]
 generalize hB:l.all J37=B
 refine J4m [0] 3 l.length (fun i _=>(l.drop i).all J37=B) hl (by simp) (by simpa using hB) ?_ ?_
 ·rintro i st h R hi hg hk s3 hw hJ hh hR hret _
  simp at hk
  rw [List.drop_eq_getElem_cons hi,List.all_cons] at hJ
  simp [hk,s3,hi,hg]
  intro _
  first|refine J00 (J2t (l[i]'hi)) (by first|simp;done|rfl) ?_|refine J01 (J2t (l[i]'hi)) (by first|simp;done|rfl) ?_
  rintro r rfl
  cases hc:J37 l[i]
  ·rw [hc,Bool.false_and] at hJ
   subst hJ
   simp
   refine hret _ _ _ ?_
   simp
  ·rw [hc,Bool.true_and] at hJ
   simp [hk,s3,hw]
   exact hR _ (by simp [hk]) (by simp) hJ
 ·rintro st h R hk s3 hJ hh _ hX
  simp at hk
  rw [List.drop_eq_nil_of_le (by omega)] at hJ
  simp at hJ
  subst hJ
  simp [hk,s3]
  intro _
  refine hX _ _ ?_
  simp [hk]
  first|refine J00 (J3y l) (by first|simp;done|rfl) ?_|refine J01 (J3y l) (by first|simp;done|rfl) ?_
  rintro r rfl
  simp
theorem K7d (s:Str):Holds Tryz.prog 142 [.str s] (fun r=>r = .bool (!J37 s)):=by
 refine J02 Tryz.func142 a142_ok rfl (by simp [a142]) ?_
 simp [a142]
 first|refine J00 (J4j s) (by first|simp;done|rfl) ?_|refine J01 (J4j s) (by first|simp;done|rfl) ?_
 rintro r rfl
 simp
theorem Jss {h:Heap}{n id:Nat}{f:DFunction}(x:DLin) (hv:h id=some ⟨true,4,[J05 f]⟩) (hid:id<n):Jf2 Tryz.prog 145 [] [.ptr id 0 0] h n (.agg (J06 x)) (.bool (!J1c x f.Params.length)):=by
 intro K hK
 refine J9a ?_
 refine J1z Tryz.func145 a145_ok rfl (by simp [a145]) ?_
 have n1:¬id=n:=by omega
 simp [a145,hv,n1,J06,J05]
 intro _
 first|refine J00 (J0z x f.Params.length) (by first|simp [J06];done|rfl) ?_|refine J01 (J0z x f.Params.length) (by first|simp [J06];done|rfl) ?_
 rintro r rfl
 simp [Jo0,hK]
 intro j hj hj'
 omega
theorem Jq2 {h:Heap}{n id:Nat}{p:DProgram}(x:DRule) (hp:J0r p≤1048576) (hx:J4l x≤1048576) (hv:h id=some ⟨true,2,[J03 p]⟩) (hid:id<n):Jf2 Tryz.prog 148 [] [.ptr id 0 0] h n (.agg (J0c x)) (.bool (!J7v p x)):=by
 intro K hK
 refine J9a ?_
 refine J1z Tryz.func148 a148_ok rfl (by simp [a148]) ?_
 have n1:¬id=n:=by omega
 simp [a148,hv,n1,J0c,J03]
 first|refine J00 (Jaw p x hp hx) (by first|simp [J0c,J03];done|rfl) ?_|refine J01 (Jaw p x hp hx) (by first|simp [J0c,J03];done|rfl) ?_
 rintro r rfl
 simp [Jo0,hK]
 intro j hj hj'
 omega
theorem J9j {p:DProgram}(hp:J0r p≤1048576):∀ r∈p.Rules,J4l r≤1048576:=fun r hr=>by
 have:=J3o (w:=J4l) hr
 unfold J0r J8w at hp
 omega
theorem Jip {met:List Str}{l:List DFunction}{i:Nat}(hi:i<l.length):J81 met (l.drop i)=((Jjj l[i] && !J3x met (l[i]).Name)&&J81 (met++[(l[i]).Name]) (l.drop (i+1))):=by
 rw [List.drop_eq_getElem_cons hi];rfl
def Jgo (l:List DFunction) (i:Nat):List Str:=(l.take i).map (·.Name)
theorem Jio {l:List DFunction}{i:Nat}(hi:i<l.length):Jgo l (i+1)=Jgo l i++[(l[i]).Name]:=by unfold Jgo;rw [List.take_succ_eq_append_getElem hi,List.map_append];rfl
theorem J36 (p:DProgram) (hp:J0r p≤1048576):Holds Tryz.prog 67 [.agg (J03 p)] (fun x=>x = .bool (J4c p)):=by
 have hlf:p.Functions.length≤1048576:=by have:=J2b J12 p.Functions;unfold J0r J29 at hp;omega
 refine J02 Tryz.func67 a67_ok rfl (by simp [a67]) ?_
 simp [a67,J03]
 intro _
 first|refine J00 (J1v p.Functions.length 1 3) (by first|simp;done|rfl) ?_|refine J01 (J1v p.Functions.length 1 3) (by first|simp;done|rfl) ?_
 rintro r rfl
 unfold J4c
 cases h1:inR p.Functions.length 1 3
 ·simp
 simp
 intro _
 have hdg:decide (p.Rules.length≤8)=decide ((p.Rules.length:Int)≤8):=by rw [decide_eq_decide];omega
 by_cases h2:(p.Rules.length:Int)≤8
 case neg=>
  have h2n:¬p.Rules.length≤8:=by omega
  simp [h2,h2n,Int.not_le.1 h2]
 have h2n:p.Rules.length≤8:=by omega
 simp [h2,h2n,Int.not_lt.2 h2]
 intro _
 generalize hB:J81 [] p.Functions=B
 refine J0k [1,17,18] 19 p.Functions.length (fun i s h n=>0<n∧h 0=some ⟨true,2,[J03 p]⟩∧J81 (Jgo p.Functions i) (p.Functions.drop i)=B) (by unfold LIM;omega) (by simp) ⟨by simp,by simp [J03],by simpa [Jgo] using hB⟩ ?_ ?_
 ·rintro i st h n R hi hg hk s19 hw ⟨hn,e0,hJ⟩ hR hret _
  simp at hk
  rw [Jip hi,←Jio hi] at hJ
  have z0:¬0=n:=by omega
  have z1:¬n=0:=by omega
  refine J0g [1,17,18,19] (fun s=>s 20 = .bool true) (by simp [hk,s19,hi]) ?_
  intro st1 hk1 s20
  simp at hk1
  refine J2m s20 (J09 (J0t ?_))
  refine J17 [1,17,18,19] (fun s h' n'=>s 3 = .int .i64 i∧s 4 = .ptr n 0 0∧n'=n+1∧h' n=some ⟨true,4,[J05 p.Functions[i]]⟩∧h' 0=some ⟨true,2,[J03 p]⟩) (by simp [hk,hk1,s19,hi,J05,e0,z0,z1]) ?_
  rintro st2 h2' n2 hk2 ⟨s3,s4,rfl,en,e0'⟩
  simp at hk2
  generalize hf:p.Functions[i]=f at *
  refine J09 (J0g [1,3,4,17,18,19] (fun s=>s 53 = .bool (!J28 f.Name||J3x (Jgo p.Functions i) f.Name || !decide (f.Params.length≤2) || !J7x f.Params || !decide (f.Pre.length≤2))) ?_ ?_)
  ·have hdp:decide (f.Params.length≤2)=decide ((f.Params.length:Int)≤2):=by rw [decide_eq_decide];omega
   have hdq:decide (f.Pre.length≤2)=decide ((f.Pre.length:Int)≤2):=by rw [decide_eq_decide];omega
   rw [hdp,hdq]
   simp [hk,hk1,hk2,s4,s3,en,e0',J05,z0,z1]
   first|refine J00 (J4d f.Name) (by first|simp;done|rfl) ?_|refine J01 (J4d f.Name) (by first|simp;done|rfl) ?_
   rintro r rfl
   cases g1:J28 f.Name
   ·simp
   simp [hk,hk1,hk2,s4,s3,en,e0',J05,J03,z0,z1]
   first|refine J00 (J77 p f.Name) (by first|simp [J03];done|rfl) ?_|refine J01 (J77 p f.Name) (by first|simp [J03];done|rfl) ?_
   rintro r rfl
   have hidx:=Jos hi
   rw [hf] at hidx
   rw [show List.map (·.Name) (List.take i p.Functions)=Jgo p.Functions i from rfl] at hidx
   generalize J1r (fun g=>g.Name==f.Name) p.Functions 0=k1 at hidx
   cases g2:J3x (Jgo p.Functions i) f.Name
   case true=>
    rw [g2] at hidx
    have hk1n:¬k1=(i:Int):=by simpa using hidx
    simp [hk1n,s3]
   rw [g2] at hidx
   have hk1n:k1=(i:Int):=by simpa using hidx
   subst hk1n
   simp [hk,hk1,hk2,s4,s3,en,e0',J05,J03,z0,z1]
   intro _
   by_cases g3:(f.Params.length:Int)≤2
   case neg=>simp [g3,Int.not_le.1 g3]
   simp [g3,Int.not_lt.2 g3,hk,hk1,hk2,s4,s3,en,e0',J05,J03,z0,z1]
   first|refine J00 (J6g f.Params) (by first|simp;done|rfl) ?_|refine J01 (J6g f.Params) (by first|simp;done|rfl) ?_
   rintro r rfl
   cases g4:J7x f.Params
   ·simp
   simp [hk,hk1,hk2,s4,s3,en,e0',J05,J03,z0,z1]
   intro _
   by_cases g5:(f.Pre.length:Int)≤2
   ·simp [g5,Int.not_lt.2 g5]
   ·simp [g5,Int.not_le.1 g5]
  intro st3 hk3 s53
  simp at hk3
  generalize hcc:(!J28 f.Name||J3x (Jgo p.Functions i) f.Name || !decide (f.Params.length≤2) || !J7x f.Params || !decide (f.Pre.length≤2))=cc at *
  have hbody:(Jjj f && !J3x (Jgo p.Functions i) f.Name)=(!cc&&(f.Params.all J37&&f.Pre.all fun l=>J1c l f.Params.length)):=by
   rw [←hcc]
   unfold Jjj
   cases J28 f.Name <;> cases J3x (Jgo p.Functions i) f.Name <;> cases decide (f.Params.length≤2) <;> cases J7x f.Params <;> cases decide (f.Pre.length≤2) <;> cases f.Params.all J37 <;> simp
  rw [hbody] at hJ
  clear hbody hcc
  cases cc
  case true=>
   simp at hJ
   simp [s53]
   refine hret _ _ _ ?_
   simp [hJ]
  refine Jgt s53 ?_
  simp only [J2i]
  simp only [Bool.not_false,Bool.true_and] at hJ
  refine J0g [1,3,4,17,18,19] (fun s=>s 62 = .bool (!(f.Params.all J37&&f.Pre.all fun l=>J1c l f.Params.length))) ?_ ?_
  ·simp [hk,hk1,hk2,hk3,s4,s3,en,e0',J05,z0,z1]
   refine J1e (p:=fun s => !J37 s) (rowOf:=fun s=>[.str s]) (eltOf:=fun s => .str s) Tryz.func69 a69_ok rfl Tryz.func150 a150_ok rfl (fun x=>by simp) f.Params
    (fun s _=>J4n (K7d s) rfl rfl) ?_
   rw [J88]
   cases g1:f.Params.all J37
   ·simp
   simp [hk,hk1,hk2,hk3,s4,s3,en,e0',J05,z0,z1]
   refine J1e (p:=fun l => !J1c l f.Params.length) (rowOf:=J06) (eltOf:=fun l => .agg (J06 l)) Tryz.func144 a144_ok rfl Tryz.func231 a231_ok rfl (fun x=>by simp) f.Pre
    (fun x _=>Jss (f:=f) x en (Nat.lt_succ_self n)) ?_
   rw [J88]
   simp
  intro st4 hk4 s62
  simp at hk4
  generalize (f.Params.all J37&&f.Pre.all fun l=>J1c l f.Params.length)=D at *
  cases D
  ·rw [Bool.false_and] at hJ
   subst hJ
   simp [s62]
   refine hret _ _ _ ?_
   simp
  ·rw [Bool.true_and] at hJ
   simp [hk,hk1,hk2,hk3,hk4,s62,s19,hw]
   exact hR _ _ _ (by simp [hk,hk1,hk2,hk3,hk4]) (by simp) ⟨by omega,e0',hJ⟩
 rintro st h n R hk s19 ⟨hn,e0,hJ⟩ hret hX
 simp at hk
 rw [List.drop_eq_nil_of_le (by omega)] at hJ
 refine J0g [1] (fun s=>s 20 = .bool false) (by simp [hk,s19]) ?_
 intro st1 hk1 s20
 simp at hk1
 refine J2g s20 ?_
 refine hX _ _ _ _ ?_
 simp [J81] at hJ
 subst hJ
 clear hX hret hB
 simp [hk,hk1,e0,J03]
 refine J1e (p:=fun r => !J7v p r) (rowOf:=J0c) (eltOf:=fun r => .agg (J0c r)) Tryz.func147 a147_ok rfl Tryz.func235 a235_ok rfl (fun x=>by simp) p.Rules
  (fun x hx=>Jq2 x hp (J9j hp x hx) e0 hn) ?_
 rw [J88]
 simp
def mo0:AC:=(.reg [Zo 2 (.boxv (.t 0)),Zo 4 (.box [(.int .i64 0),(.nil 2),(.nil 2),(.nil 1),(.int .i64 0),(.nil 1)]),Zo 5 (.mv (.k (.bool false)))])
def mo1:AC:=(.seq (.reg [Zl 40 true 2 2,Zc 41 67 [.t 40],Zo 42 (.un .not (.t 41)),Zv 43 42,⟨some 44,.mv (.t 1),(some (43,false))⟩,⟨some 45,.fld 1 (.t 2),(some (43,false))⟩,⟨some 46,.ld false 1 (.t 45),(some (43,false))⟩,⟨some 47,.len false (.t 46),(some (43,false))⟩,⟨some 48,.bin .sub (.t 47) (.k (.int .i64 1)),(some (43,false))⟩,⟨some 49,.call (.k (.fn (.func 102) [] [])) [.t 44,(.k (.int .i64 0)),.t 48],(some (43,false))⟩,⟨some 50,.un .not (.t 49),(some (43,false))⟩,Zo 51 (.pick (.t 43) (.k (.bool true)) (.t 50))]) (.cond (.t 51) (.seq (.reg [Zo 52 (.build [(.int .i64 0),(.nil 2),(.nil 2),(.nil 1),(.int .i64 0),(.nil 1)] []),⟨no,.st 6 (.t 4) (.t 52),no⟩,Zo 5 (.mv (.k (.bool false)))]) .ret) .skip))
def mo2:AC:=(.reg [Zf 53 1 2,Zl 54 false 1 53,Zv 55 1,Zo 56 (.ixa 7 (.t 54) (.t 55)),Zl 57 true 7 56,Zo 6 (.box [(.str []),(.nil 4),(.nil 2),(.nil 3),(.bool false),(.nil 2),(.str [])]),⟨no,.st 7 (.t 6) (.t 57),no⟩])
def mo3:AC:=(.reg [Zl 59 true 2 2,Zf 60 0 6,Zl 61 false 1 60,Zc 62 176 [.t 59,.t 61],Zv 58 62,Zo 63 (.ext (.t 58) 0),Zo 64 (.ext (.t 58) 1),Zo 7 (.box [(.str []),(.nil 1),(.bool false),(.nil 2)]),⟨no,.st 4 (.t 7) (.t 63),no⟩,Zv 8 64])
def mo4:AC:=(.reg [Zf 65 1 7,Zl 66 false 1 65,Zo 67 (.len false (.t 66)),Zf 68 3 6,Zl 69 false 1 68,Zo 70 (.len false (.t 69)),Zo 71 (.bin .add (.t 67) (.t 70)),Zo 9 (.box [(.int .i64 0)]),⟨no,.st 1 (.t 9) (.t 71),no⟩])
def mo5:AC:=(.seq (.reg [Zf 72 1 6,Zl 73 false 1 72,Zo 74 (.len false (.t 73)),Zo 75 (.mv (.k (.int .i64 0)))]) (.blk 0 (.loop (.seq (.reg [Zo 76 (.bin .lss (.t 75) (.t 74))]) (.seq (.cond (.t 76) .skip (.exit 0)) (.seq (.blk 1 (.seq (.reg [Zo 77 (.ixa 4 (.t 73) (.t 75)),Zl 78 true 4 77,Zo 11 (.box [(.str []),(.bool false),(.str []),(.str [])]),⟨no,.st 4 (.t 11) (.t 78),no⟩]) (.seq (.reg [Zf 79 1 11,Zl 80 false 1 79]) (.cond (.t 80) (.reg [Zl 81 false 1 9,Zo 82 (.bin .add (.t 81) (.k (.int .i64 1))),⟨no,.st 1 (.t 9) (.t 82),no⟩]) .skip)))) (.reg [Zo 83 (.bin .add (.t 75) (.k (.int .i64 1))),Zv 75 83])))))))
def mo6:AC:=(.reg [Zl 84 false 1 9,Zo 85 (.build [(.int .i64 0),(.nil 2)] [(0,(1,(.t 84)))]),Zo 86 (.build [(.int .i64 0),(.nil 2),(.nil 2),(.nil 1),(.int .i64 0),(.nil 1)] [(0,(2,(.t 85)))]),Zo 12 (.box [(.int .i64 0),(.nil 2),(.nil 2),(.nil 1),(.int .i64 0),(.nil 1)]),⟨no,.st 6 (.t 12) (.t 86),no⟩])
def mo7:AC:=(.reg [Zo 87 (.mmk),Zo 13 (.box [.undef]),⟨no,.st 1 (.t 13) (.t 87),no⟩])
def mo8:AC:=(.reg [Zo 14 (.box [(.int .i64 0)]),⟨no,.st 1 (.t 14) (.k (.int .i64 0)),no⟩])
def mo9:AC:=(.reg [Zo 88 (.mkf (.func 202) [] [.t 14,.t 9,.t 13]),Zv 15 88])
def K9z:AC:=(.reg [Zo 89 (.mkf (.func 204) [] [.t 12]),Zv 16 89])
def Jus:AC:=(.draw (.op (Zf 100 2 12) (.op (Zl 101 false 1 100) (.op (Zl 102 true 2 19) (.op (Zc 103 86 [.t 102]) (.hop (Zo 104 (.bsl 2 [.t 103])) [(.ld false 1 (.t 100)),(.fld 2 (.t 12))] (.hop (Zo 105 (.app 32 2 (.t 101) (.t 104))) [] (.op (Zf 106 2 12) (.hop ⟨no,.st 1 (.t 106) (.t 105),no⟩ [] .fin)))))))))
def K69:AC:=(.seq (.reg [Zf 90 1 7,Zl 91 false 1 90,Zo 92 (.len false (.t 91)),Zo 93 (.mv (.k (.int .i64 0)))]) (.blk 2 (.loop (.seq (.reg [Zo 94 (.bin .lss (.t 93) (.t 92))]) (.seq (.cond (.t 94) .skip (.exit 2)) (.seq (.blk 3 (.seq (.reg [Zo 95 (.ixa 1 (.t 91) (.t 93)),Zl 96 false 1 95,Zv 18 96]) (.seq (.reg [Zv 97 15,Zv 98 18,Zo 99 (.call (.t 97) [.t 98]),Zo 19 (.box [(.int .i64 0),(.nil 1)]),⟨no,.st 2 (.t 19) (.t 99),no⟩]) (.seq Jus (.seq (.reg [Zv 107 18,Zc 108 205 [.t 107]]) (.cond (.t 108) (.reg [Zv 109 16,Zl 110 true 2 19,Zo 111 (.call (.t 109) [.t 110])]) .skip)))))) (.reg [Zo 112 (.bin .add (.t 93) (.k (.int .i64 1))),Zv 93 112])))))))
def K71:AC:=(.seq (.reg [Zf 113 3 7,Zl 114 false 1 113,Zo 115 (.len false (.t 114)),Zo 116 (.mv (.k (.int .i64 0)))]) (.blk 4 (.loop (.seq (.reg [Zo 117 (.bin .lss (.t 116) (.t 115))]) (.seq (.cond (.t 117) .skip (.exit 4)) (.seq (.blk 5 (.seq (.reg [Zo 118 (.ixa 2 (.t 114) (.t 116)),Zl 119 true 2 118,Zo 21 (.box [(.int .i64 0),(.nil 1)]),⟨no,.st 2 (.t 21) (.t 119),no⟩]) (.seq (.reg [Zl 121 true 2 21,Zf 122 2 12,Zl 123 false 1 122,Zl 124 false 1 9,Zc 125 191 [.t 121,.t 123,.t 124],Zv 120 125,Zo 126 (.ext (.t 120) 0),Zo 127 (.ext (.t 120) 1),Zo 22 (.box [(.int .i64 0),(.nil 1)]),⟨no,.st 2 (.t 22) (.t 126),no⟩,Zv 23 127]) (.seq (.seq (.reg [Zv 128 23,Zo 129 (.un .not (.t 128))]) (.cond (.t 129) (.seq (.reg [Zo 130 (.build [(.int .i64 0),(.nil 2),(.nil 2),(.nil 1),(.int .i64 0),(.nil 1)] []),⟨no,.st 6 (.t 4) (.t 130),no⟩,Zo 5 (.mv (.k (.bool false)))]) .ret) .skip)) (.reg [Zv 131 16,Zl 132 true 2 22,Zo 133 (.call (.t 131) [.t 132])]))))) (.reg [Zo 134 (.bin .add (.t 116) (.k (.int .i64 1))),Zv 116 134])))))))
def Jx4:AC:=(.draw (.op (Zl 146 false 1 9) (.op (Zl 148 false 1 13) (.op (Zf 149 0 25) (.op (Zl 150 false 1 149) (.op (Zo 151 (.mget (.agg [(.int .i64 0),(.nil 1)]) (.t 148) (.t 150))) (.both (.op (Zc 147 178 [(.k (.int .i64 0)),.t 146]) (.both (.op (Zc 152 193 [.t 147,(.k (.int .i64 (-1))),.t 151]) (.op (Zv 145 152) (.op (Zo 153 (.ext (.t 145) 0)) (.op (Zo 154 (.ext (.t 145) 1)) (.op (Zo 26 (.box [(.int .i64 0),(.nil 1)])) (.hop ⟨no,.st 2 (.t 26) (.t 153),no⟩ [] (.op (Zv 27 154) .fin))))))) (.op (Zo 26 (.box [(.int .i64 0),(.nil 1)])) (.op (Zc 152 193 [.t 147,(.k (.int .i64 (-1))),.t 151]) (.op (Zv 145 152) (.op (Zo 153 (.ext (.t 145) 0)) (.op (Zo 154 (.ext (.t 145) 1)) (.hop ⟨no,.st 2 (.t 26) (.t 153),no⟩ [] (.op (Zv 27 154) .fin))))))))) (.op (Zo 26 (.box [(.int .i64 0),(.nil 1)])) (.op (Zc 147 178 [(.k (.int .i64 0)),.t 146]) (.op (Zc 152 193 [.t 147,(.k (.int .i64 (-1))),.t 151]) (.op (Zv 145 152) (.op (Zo 153 (.ext (.t 145) 0)) (.op (Zo 154 (.ext (.t 145) 1)) (.hop ⟨no,.st 2 (.t 26) (.t 153),no⟩ [] (.op (Zv 27 154) .fin)))))))))))))))
def K6a:AC:=(.seq (.reg [Zf 135 1 6,Zl 136 false 1 135,Zo 137 (.len false (.t 136)),Zo 138 (.mv (.k (.int .i64 0)))]) (.blk 6 (.loop (.seq (.reg [Zo 139 (.bin .lss (.t 138) (.t 137))]) (.seq (.cond (.t 139) .skip (.exit 6)) (.seq (.blk 7 (.seq (.reg [Zo 140 (.ixa 4 (.t 136) (.t 138)),Zl 141 true 4 140,Zo 25 (.box [(.str []),(.bool false),(.str []),(.str [])]),⟨no,.st 4 (.t 25) (.t 141),no⟩]) (.seq (.seq (.reg [Zf 142 1 25,Zl 143 false 1 142,Zo 144 (.un .not (.t 143))]) (.cond (.t 144) (.seq Jx4 (.seq (.reg [Zv 155 16,Zl 156 true 2 26,Zo 157 (.call (.t 155) [.t 156])]) (.exit 7))) .skip)) (.seq (.reg [Zv 158 15,Zf 159 2 25,Zl 160 false 1 159,Zo 161 (.call (.t 158) [.t 160])]) (.seq (.reg [Zl 163 false 1 13,Zf 164 0 25,Zl 165 false 1 164,Zo 166 (.mget (.agg [(.int .i64 0),(.nil 1)]) (.t 163) (.t 165)),Zc 167 189 [.t 166,(.k (.int .i64 (-1)))],Zv 162 167,Zo 168 (.ext (.t 162) 0),Zo 169 (.ext (.t 162) 1),Zo 28 (.box [(.int .i64 0),(.nil 1)]),⟨no,.st 2 (.t 28) (.t 168),no⟩,Zv 29 169]) (.seq (.reg [Zl 170 false 1 13,Zf 171 3 25,Zl 172 false 1 171,Zl 173 true 2 28,⟨no,.mput (.t 170) (.t 172) (.t 173),no⟩]) (.reg [Zv 174 16,Zl 175 true 2 28,Zo 176 (.call (.t 174) [.t 175])]))))))) (.reg [Zo 177 (.bin .add (.t 138) (.k (.int .i64 1))),Zv 138 177])))))))
def K85:AC:=(.seq (.reg [Zf 178 2 6,Zl 179 false 1 178,Zo 180 (.len false (.t 179)),Zo 181 (.mv (.k (.int .i64 0)))]) (.blk 8 (.loop (.seq (.reg [Zo 182 (.bin .lss (.t 181) (.t 180))]) (.seq (.cond (.t 182) .skip (.exit 8)) (.seq (.blk 9 (.seq (.reg [Zo 183 (.ixa 2 (.t 179) (.t 181)),Zl 184 true 2 183,Zo 31 (.box [(.int .i64 0),(.nil 2)]),⟨no,.st 2 (.t 31) (.t 184),no⟩]) (.reg [Zv 185 16,Zl 186 false 1 13,Zl 187 true 2 31,Zl 188 false 1 9,Zc 189 206 [.t 186,.t 187,.t 188],Zo 190 (.call (.t 185) [.t 189])]))) (.reg [Zo 191 (.bin .add (.t 181) (.k (.int .i64 1))),Zv 181 191])))))))
def Jub:AC:=(.seq (.reg [Zf 199 2 33,Zl 200 false 1 199,Zo 201 (.len false (.t 200)),Zo 202 (.mv (.k (.int .i64 0)))]) (.blk 12 (.loop (.seq (.reg [Zo 203 (.bin .lss (.t 202) (.t 201))]) (.seq (.cond (.t 203) .skip (.exit 12)) (.seq (.blk 13 (.seq (.reg [Zo 204 (.ixa 3 (.t 200) (.t 202)),Zl 205 true 3 204,Zo 36 (.box [(.bool false),(.nil 2),(.str [])]),⟨no,.st 3 (.t 36) (.t 205),no⟩]) (.reg [Zv 206 34,Zl 207 false 1 13,Zl 208 true 3 36,Zl 209 false 1 9,Zc 210 207 [.t 207,.t 208,.t 209],Zo 211 (.bsl 2 [.t 210]),Zo 212 (.app 32 2 (.t 206) (.t 211)),Zv 34 212]))) (.reg [Zo 213 (.bin .add (.t 202) (.k (.int .i64 1))),Zv 202 213])))))))
def Jwf:AC:=(.reg [Zf 214 3 12,Zl 215 false 1 214,Zv 216 34,Zo 217 (.bsl 1 [.t 216]),Zo 218 (.app 24 1 (.t 215) (.t 217)),Zf 219 3 12,⟨no,.st 1 (.t 219) (.t 218),no⟩])
def K6r:AC:=(.seq (.reg [Zf 192 3 6,Zl 193 false 1 192,Zo 194 (.len false (.t 193)),Zo 195 (.mv (.k (.int .i64 0)))]) (.blk 10 (.loop (.seq (.reg [Zo 196 (.bin .lss (.t 195) (.t 194))]) (.seq (.cond (.t 196) .skip (.exit 10)) (.seq (.blk 11 (.seq (.reg [Zo 197 (.ixa 3 (.t 193) (.t 195)),Zl 198 true 3 197,Zo 33 (.box [(.str []),(.str []),(.nil 3)]),⟨no,.st 3 (.t 33) (.t 198),no⟩]) (.seq (.reg [Zo 34 (.mv (.k (.nil 2)))]) (.seq Jub (.seq  Jwf (.seq (.reg [Zv 220 15,Zf 221 0 33,Zl 222 false 1 221,Zo 223 (.call (.t 220) [.t 222]),Zo 37 (.box [(.int .i64 0),(.nil 1)]),⟨no,.st 2 (.t 37) (.t 223),no⟩]) (.seq (.reg [Zl 225 true 2 2,Zf 226 1 33,Zl 227 false 1 226,Zc 228 176 [.t 225,.t 227],Zv 224 228,Zo 229 (.ext (.t 224) 0),Zo 230 (.ext (.t 224) 1),Zo 38 (.box [(.str []),(.nil 1),(.bool false),(.nil 2)]),⟨no,.st 4 (.t 38) (.t 229),no⟩,Zv 39 230]) (.seq (.reg [Zf 231 2 38,Zl 232 false 1 231]) (.cond (.t 232) (.reg [Zv 233 16,Zl 234 true 2 37,Zo 235 (.call (.t 233) [.t 234])]) .skip))))))))) (.reg [Zo 236 (.bin .add (.t 195) (.k (.int .i64 1))),Zv 195 236])))))))
def K8o:AC:=(.reg [Zl 237 false 1 13,Zf 238 4 6,Zl 239 true 3 238,Zl 240 false 1 9,Zc 241 207 [.t 237,.t 239,.t 240],Zf 242 4 12,⟨no,.st 2 (.t 242) (.t 241),no⟩])
def K9i:AC:=(.reg [Zl 243 true 6 12,⟨no,.st 6 (.t 4) (.t 243),no⟩,Zo 5 (.mv (.k (.bool true)))])
def a126:AFn:=⟨244,[(.c 4 true 6),.t 5],(.seq mo0 (.seq mo1 (.seq mo2 (.seq mo3 (.seq mo4 (.seq mo5 (.seq mo6 (.seq mo7 (.seq mo8 (.seq mo9 (.seq K9z (.seq K69 (.seq K71 (.seq K6a (.seq K85 (.seq K6r (.seq K8o (.seq K9i .ret))))))))))))))))))⟩
theorem a126_ok:J0a Tryz.prog Tryz.f126=some a126:=by kernel_rfl
def J6o (I:Ids) (s:Env):Prop:=s 2 = .ptr 0 0 0∧s 4 = .ptr 1 0 0∧s 6 = .ptr 2 0 0∧s 7 = .ptr 5 0 0∧s 9 = .ptr 6 0 0∧s 12 = .ptr I.m 0 0∧s 13 = .ptr I.s 0 0 ∧
 s 15 = .fn (.func 202) [] [.ptr I.x 0 0,.ptr 6 0 0,.ptr I.s 0 0]∧s 16 = .fn (.func 204) [] [.ptr I.m 0 0]
theorem Jfl (q:DPattern) (l:List DPattern):J34 (q::l)=(if q.Cons then 1 else 0)+J34 l:=by
 unfold J34;rw [List.filter_cons];cases q.Cons <;> simp;omega
section
variable {p:DProgram}{r:DRule}{f:DFunction}{N:Nat}{I:Ids}{ks:List Kt}{s:Env}{h:Heap}{n:Nat}{Q:Fin}
theorem Jvf {c:Nat}(s6:s 6 = .ptr 2 0 0) (s9:s 9 = .ptr 6 0 0) (e2:h 2=some ⟨true,7,[J0c r]⟩) (e6:h 6=some ⟨true,1,[[.int .i64 c]]⟩) (hn:6<n) (hc:c≤10000000) (hl:r.Patterns.length≤1048576)
 (hK:∀ s' h' n',(∀ j∈[2,4,6,7,9],s' j=s j)→n≤n'→(∀ id,id<n→id≠6→h' id=h id)→h' 6=some ⟨true,1,[[.int .i64 (c+J34 r.Patterns:Nat)]]⟩→J25 Tryz.prog ks .normal s' h' n' Q) :
 rC Tryz.prog mo5 ks s h n Q:=by
 simp [mo5,s6,e2,J0c]
 intro _
 generalize hT:c+J34 r.Patterns=T at hK
 refine J0k [2,4,6,7,9,73,74] 75 r.Patterns.length (fun i s' h' n'=>n≤n'∧(∀ id,id<n→id≠6→h' id=h id)∧∃ c':Nat,c'≤10000000+i∧c'+J34 (r.Patterns.drop i)=T∧h' 6=some ⟨true,1,[[.int .i64 c']]⟩) (by unfold LIM;omega) (by simp)
  ⟨Nat.le_refl _,fun _ _ _=>rfl,c,by omega,by simpa using hT,e6⟩ ?_ ?_
 ·rintro i st h' m R hi hg hk s75 hw ⟨hm,hfr,c',hc',hJ,e6'⟩ hR _ _
  simp at hk
  rw [List.drop_eq_getElem_cons hi,Jfl] at hJ
  have z1:¬6=m:=by omega
  have z2:¬m=6:=by omega
  refine J0g [2,4,6,7,9,73,74,75] (fun s=>s 76 = .bool true) (by simp [hk,s75,hi]) ?_
  intro st1 hk1 s76
  simp at hk1
  refine J2m s76 (J09 (J0t ?_))
  have hw2:IntKind.i64.wrap ((c':Int)+1)=(c':Int)+1:=J19 (by omega)
  have fr:∀ id,id<n→¬id=m:=by intro id _;omega
  cases hc2:(r.Patterns[i]).Cons
  ·rw [hc2] at hJ
   simp [hk1,hk,s75,hi,J08,hc2,z1,z2,hw,s9]
   refine hR _ _ _ (by simp [hk1,hk]) (by simp) ⟨by omega,?_,c',by omega,by simpa using hJ,by simp [z1,e6']⟩
   intro id hid h6
   simp [fr id hid,hfr id hid h6]
  ·rw [hc2] at hJ
   simp only [if_true] at hJ
   simp [hk1,hk,s75,hi,J08,hc2,z1,z2,hw,e6',hw2,s9]
   refine hR _ _ _ (by simp [hk1,hk]) (by simp) ⟨by omega,?_,c'+1,by omega,by omega,by simp⟩
   intro id hid h6
   simp [fr id hid,h6,hfr id hid h6]
 ·rintro st h' m R hk s75 ⟨hm,hfr,c',hc',hJ,e6'⟩ _ hX
  simp at hk
  rw [List.drop_eq_nil_of_le (by omega)] at hJ
  simp [J34] at hJ
  subst hJ
  refine J0g [2,4,6,7,9] (fun s=>s 76 = .bool false) (by simp [hk,s75]) ?_
  intro st1 hk1 s76
  simp at hk1
  refine J2g s76 ?_
  refine hX _ _ _ _ ?_
  simp
  exact hK _ _ _ (by simp [hk1,hk]) hm hfr e6'
theorem J53 {P:Program}{b:AC}{ks:List Kt}{s:Env}{h:Heap}{n:Nat}{Q:Fin}(h1:rC P b ks s h n Q):J25 P (.seq b::ks) .normal s h n Q:=h1
def moK:List Nat:=[2,4,6,7,9,12,13,15,16]
theorem J6o.keep {s':Env}(S:J6o I s) (hk:∀ j∈moK,s' j=s j):J6o I s':=by
 simp only [moK,List.mem_cons,List.not_mem_nil,or_false,forall_eq_or_imp,forall_eq] at hk
 obtain ⟨k2,k4,k6,k7,k9,k12,k13,k15,k16⟩:=hk
 obtain ⟨s2,s4,s6,s7,s9,s12,s13,s15,s16⟩:=S
 exact ⟨by rw [k2,s2],by rw [k4,s4],by rw [k6,s6],by rw [k7,s7],by rw [k9,s9],by rw [k12,s12],by rw [k13,s13],by rw [k15,s15],by rw [k16,s16]⟩
def J5e (l:DLin) (k:Nat) (h:Heap) (n:Nat):Prop:=∃ q,k<n∧q<n∧h k=some ⟨true,2,[[.int .i64 l.Const,.ref q 0 l.Coeffs.length]]⟩∧h q=some ⟨false,1,J0e l.Coeffs⟩
theorem J66 {i:Int}(N:Nat) (hN:N≤8):(J2k i N).Coeffs.length≤8:=by
 unfold J2k
 split
 ·simp;omega
 ·simp [J1d]
theorem Juc {ms:MS}{l:DLin}{k:Nat}(s12:s 12 = .ptr I.m 0 0) (s19:s 19 = .ptr k 0 0) (M:MI p r f N I ms h n) (L:J5e l k h n) (hl:l.Coeffs.length≤1048576) (hb:ms.pars.length≤1000000)
 (hK:∀ s' h' n',(∀ j,j<100→s' j=s j)→MI p r f N I (Jpq ms l) h' n'→J5e l k h' n'→J25 Tryz.prog ks .normal s' h' n' Q):rC Tryz.prog Jus ks s h n Q:=by
 obtain ⟨l1,l2,l3,l4,l5⟩:=M.lt
 obtain ⟨q,hkn,hqn,hkb,hqb⟩:=L
 obtain ⟨vR,vP,vA,g1,g2,g3,g4,g6,g5⟩:=M.acc
 have hkm:¬k=I.m:=by rintro rfl;rw [hkb] at g1;simp at g1
 have hqm:¬q=I.m:=by rintro rfl;rw [hqb] at g1;simp at g1
 have ne:¬I.m=n∧¬I.m=n+1∧¬I.m=n+1+1∧¬n=I.m∧¬n+1=I.m∧¬n+1+1=I.m∧¬n+2=I.m∧¬I.m=n+2∧¬k=n∧¬k=n+1∧¬k=n+1+1∧¬q=n∧¬q=n+1∧¬q=n+1+1∧¬n=n+1∧¬n+1=n∧¬n=n+1+1∧¬n+1+1=n∧¬n+1=n+1+1∧¬I.m=k∧¬I.m=q:=by omega
 have kp:∀ j,j<100→¬j=100∧¬j=101∧¬j=102∧¬j=103∧¬j=104∧¬j=105∧¬j=106:=by intro j _;omega
 have fr:∀ id,id<n→¬id=n∧¬id=n+1∧¬id=n+1+1:=by intro id _;omega
 simp [Jus,s12,s19,g1,J52,hkb,hqb]
 first|refine J00 (J4t l hl) (by first|simp [J06,hqb];done|rfl) ?_|refine J01 (J4t l hl) (by first|simp [J06,hqb];done|rfl) ?_
 rintro r rfl
 rcases g3 with ⟨hz,rfl⟩|⟨i,hi,hin,rfl,hib⟩
 ·have hz':ms.pars=[]:=by simpa using hz
  simp [J07,g1,J52,ne,s12]
  refine ⟨by unfold LIM;omega,?_⟩
  refine hK _ _ _ (fun j hj=>by simp [kp j hj]) (M.upd_acc (st':=Jpq ms l) rfl rfl (by omega) (fun _=>False) (fun _ h=>h.elim) ?_ ?_) ⟨q,by omega,by omega,by simp [ne,hkm,hkb],by simp [ne,hqm,hqb]⟩
  ·intro id hid hm _
   simp [fr id hid,hm]
  ·have fm:∀ id,I.x<id→¬id=I.m:=by intro id _;omega
   refine ⟨vR,.ref (n+2) 0 1,vA,by simp [J52],g2.keep (by omega) fun id hb hid _=>by simp [fr id hid,fm id hb],.inr ⟨n+2,by omega,by omega,by simp [Jpq,hz'],by simp [Jpq,hz',J07,ne]⟩,g4.keep (by omega) fun id hb hid _=>by simp [fr id hid,fm id hb],g6,?_⟩
   intro i k j l' e1 e2
   simp only [AV.ref.injEq] at e2
   rcases g2 with ⟨_,e⟩|⟨j',_,hj',e,_⟩
   ·rw [e] at e1;cases e1
   ·rw [e] at e1;simp only [AV.ref.injEq] at e1;omega
 ·have hik:¬k=i:=by rintro rfl;rw [hkb] at hib;simp at hib
  have hiq:¬q=i:=by rintro rfl;rw [hqb] at hib;simp at hib
  have ni:¬i=n∧¬i=n+1∧¬i=n+1+1∧¬i=I.m∧¬I.m=i∧¬n=i∧¬n+1=i∧¬n+1+1=i∧¬i=k∧¬i=q:=by omega
  simp [J07,g1,J52,ne,ni,hib,s12]
  refine ⟨by unfold LIM;omega,?_⟩
  refine hK _ _ _ (fun j hj=>by simp [kp j hj]) (M.upd_acc (st':=Jpq ms l) rfl rfl (by omega) (fun id=>id=i) (fun id e=>⟨by omega,fun l hl=>by rw [e,hib] at hl;simp at hl⟩) ?_ ?_) ⟨q,by omega,by omega,by simp [ne,hkm,hkb,hik],by simp [ne,hqm,hqb,hiq]⟩
  ·intro id hid hm hii
   simp [fr id hid,hm,hii]
  ·have fm:∀ id,I.x<id→¬id=I.m:=by intro id _;omega
   refine ⟨vR,.ref (n+2) 0 (ms.pars.length+1),vA,by simp [J52],g2.keep (by omega) fun id hb hid e => ?_,.inr ⟨n+2,by omega,by omega,by simp [Jpq],by simp [Jpq,J07,ne,List.take_of_length_le]⟩,g4.keep (by omega) fun id hb hid e => ?_,g6,?_⟩
   ·have hii:¬id=i:=fun e'=>g5 id _ i _ e rfl e'
    simp [fr id hid,fm id hb,hii]
   ·have hii:¬id=i:=by
     intro e'
     rcases g4 with ⟨_,e2⟩|⟨j',_,_,e2,hjb⟩
     ·rw [e2] at e;cases e
     ·rw [e2] at e;simp only [AV.ref.injEq] at e
      rw [e.1,e',hib] at hjb
      simp at hjb
    simp [fr id hid,fm id hb,hii]
   ·intro i' k j l' e1 e2
    simp only [AV.ref.injEq] at e2
    rcases g2 with ⟨_,e⟩|⟨j',_,hj',e,_⟩
    ·rw [e] at e1;cases e1
    ·rw [e] at e1;simp only [AV.ref.injEq] at e1;omega
theorem Jqz (S:J6o I s) (M:MI p r f N I ⟨[],0,[],[],[]⟩ h n) (hp2:f.Params.length≤2) (hN:N≤8)
 (hK:∀ s' h' n',J6o I s'→MI p r f N I (f.Params.foldl (Jaf N) ⟨[],0,[],[],[]⟩) h' n'→J25 Tryz.prog ks .normal s' h' n' Q):rC Tryz.prog K69 ks s h n Q:=by
 have S0:=S
 obtain ⟨s2,s4,s6,s7,s9,s12,s13,s15,s16⟩:=S0
 simp [K69,s7,M.hf,M.h3]
 intro _
 generalize hT:f.Params.foldl (Jaf N) ⟨[],0,[],[],[]⟩=T at hK
 refine J0k [2,4,6,7,9,12,13,15,16,91,92] 93 f.Params.length (fun i s' h' n'=>∃ st:MS,MI p r f N I st h' n'∧(f.Params.drop i).foldl (Jaf N) st=T∧st.nx≤i∧st.rows.length≤i∧st.pars.length≤i) (by unfold LIM;omega) (by simp)
  ⟨_,M,by simpa using hT,by simp,by simp,by simp⟩ ?_ ?_
 ·rintro i st h' m R hi hg hk s93 hw ⟨ms,M,hJ,hb1,hb2,hb3⟩ hR _ _
  simp at hk
  rw [List.drop_eq_getElem_cons hi,List.foldl_cons] at hJ
  obtain ⟨l1,l2,l3,l4,l5⟩:=M.lt
  refine J0g [2,4,6,7,9,12,13,15,16,91,92,93] (fun s=>s 94 = .bool true) (by simp [hk,s93,hi]) ?_
  intro st1 hk1 s94
  simp at hk1
  refine J2m s94 (J09 (J0t ?_))
  refine J0g [2,4,6,7,9,12,13,15,16,91,92,93] (fun s=>s 18 = .str (f.Params[i]'hi)) (by simp [hk1,hk,s93,hi,M.h3]) ?_
  intro st2 hk2 s18
  simp at hk2
  generalize f.Params[i]=x at *
  have hlx:(J2k ms.nx N).Coeffs.length≤8:=J66 N (by omega)
  have S2:J6o I st2:=S.keep (by simp [moK,hk2,hk1,hk])
  obtain ⟨t2,t4,t6,t7,t9,t12,t13,t15,t16⟩:=S2
  have hiP:Jaf N ms x=(if J0l x then Jib (Jpq (Jg8 ms x (J2k ms.nx N) (ms.nx+1)) (J2k ms.nx N)) (J2k ms.nx N) else Jpq (Jg8 ms x (J2k ms.nx N) (ms.nx+1)) (J2k ms.nx N)):=by
   unfold Jaf Jib Jpq Jg8;cases J0l x <;> simp
  generalize hl:J2k ms.nx N=l at *
  refine J17 [2,4,6,7,9,12,13,15,16,91,92,93,18] (fun s h' n'=>∃ k,s 19 = .ptr k 0 0∧J5e l k h' n'∧MI p r f N I (Jg8 ms x l (ms.nx+1)) h' n') ?_ ?_
  ·simp [t15,s18]
   refine Jbn M x (by omega) ?_
   rw [hl]
   intro q h1 n1 hq hq1 hfr hqb M1
   have fr:∀ id,id<n1→¬id=n1:=by intro id _;omega
   simp [Jij]
   exact ⟨⟨q,by omega,by omega,by simp,by simp [fr q hq1,hqb]⟩,M1.frame (by omega) fun id hid=>by simp [fr id hid]⟩
  rintro st3 h3 n3 hk3 ⟨k,s19,L3,M3⟩
  simp at hk3
  have u12:st3 12 = .ptr I.m 0 0:=by rw [hk3.2.2.2.2.2.1,t12]
  refine J09 (Juc u12 s19 M3 L3 (by omega) (by show ms.pars.length≤_;omega) ?_)
  intro st4 h4 n4 hk4 M4 L4
  refine J53 (J0g [2,4,6,7,9,12,13,15,16,91,92,93,19] (fun s=>s 108 = .bool (J0l x)) ?_ ?_)
  ·simp [hk4 18 (by omega),hk3,s18]
   first|refine J00 (J1w x) (by first|simp;done|rfl) ?_|refine J01 (J1w x) (by first|simp;done|rfl) ?_
   rintro r rfl
   simp
  intro st5 hk5 s108
  simp at hk5
  have v16:st5 16 = .fn (.func 204) [] [.ptr I.m 0 0]:=by rw [hk5.2.2.2.2.2.2.2.2.1,hk4 16 (by omega),hk3.2.2.2.2.2.2.2.2.1,t16]
  have v19:st5 19 = .ptr k 0 0:=by rw [hk5.2.2.2.2.2.2.2.2.2.2.2.2,hk4 19 (by omega),s19]
  have kp:∀ j∈[2,4,6,7,9,12,13,15,16,91,92,93],st5 j=st j:=by
   simp [hk5,hk4 2 (by omega),hk4 4 (by omega),hk4 6 (by omega),hk4 7 (by omega),hk4 9 (by omega),hk4 12 (by omega),hk4 13 (by omega),hk4 15 (by omega),hk4 16 (by omega),hk4 91 (by omega),hk4 92 (by omega),hk4 93 (by omega),hk3,hk2,hk1]
  simp at kp
  cases c1:J0l x
  ·rw [c1] at hiP s108
   simp only [Bool.false_eq_true,if_false] at hiP
   rw [hiP] at hJ
   simp [s108,kp,s93,hw]
   exact hR _ _ _ (by simp [kp,hk]) (by simp) ⟨_,M4,hJ,by show ms.nx+1≤_;omega,by show ms.rows.length≤_;omega,by show (ms.pars++[l]).length≤_;simp;omega⟩
  ·rw [c1] at hiP s108
   simp only [if_true] at hiP
   rw [hiP] at hJ
   obtain ⟨q,hkn,hqn,hkb,hqb⟩:=L4
   simp [s108,v16,v19,hkb]
   refine J9i M4 (l:=l) (q:=q) (by omega) hqn hqb (by show ms.rows.length≤_;omega) ?_
   intro h6 n6 hn6 _ M6
   simp [kp,s93,hw]
   exact hR _ _ _ (by simp [kp,hk]) (by simp) ⟨_,M6,hJ,by show ms.nx+1≤_;omega,by show (ms.rows++[l]).length≤_;simp;omega,by show (ms.pars++[l]).length≤_;simp;omega⟩
 ·rintro st h' m R hk s93 ⟨ms,M,hJ,hb1,hb2,hb3⟩ _ hX
  simp at hk
  rw [List.drop_eq_nil_of_le (by omega)] at hJ
  simp only [List.foldl_nil] at hJ
  subst hJ
  refine J0g [2,4,6,7,9,12,13,15,16] (fun s=>s 94 = .bool false) (by simp [hk,s93]) ?_
  intro st1 hk1 s94
  simp at hk1
  refine J2g s94 ?_
  refine hX _ _ _ _ ?_
  simp
  exact hK _ _ _ (S.keep (by simp [moK,hk1,hk])) M
end
def a268:AFn:= ⟨39,[(.c 6 true 2),.t 7],(.seq (.reg [Zo 3 (.boxv (.t 0)),Zo 4 (.boxv (.t 1)),Zo 6 (.box [(.int .i64 0),(.nil 1)]),Zo 7 (.mv (.k (.bool false)))]) (.seq (.seq (.reg [Zf 9 0 4,Zl 10 false 1 9,Zo 11 (.un .not (.t 10))]) (.cond (.t 11) (.seq (.draw (.op (Zl 12 true 2 3) (.op (Zf 13 1 4) (.op (Zl 14 false 1 13) (.op (Zo 15 (.ixa 2 (.t 14) (.k (.int .i64 0)))) (.op (Zl 16 true 2 15) (.op (Zv 17 2) (.op (Zc 18 267 [.t 12,.t 16,.t 17]) (.op (Zo 19 (.ext (.t 18) 0)) (.op (Zo 20 (.ext (.t 18) 1)) (.hop ⟨no,.st 2 (.t 6) (.t 19),no⟩ [] (.op (Zv 7 20) .fin)))))))))))) .ret) .skip)) (.seq (.reg [Zf 21 1 4,Zl 22 false 1 21,Zo 23 (.len false (.t 22)),Zv 24 2,Zc 25 99 [.t 23,.t 24],Zo 8 (.box [(.int .i64 0),(.nil 1)]),⟨no,.st 2 (.t 8) (.t 25),no⟩]) (.seq (.seq (.reg [Zf 26 2 4,Zl 27 false 1 26,Zo 28 (.bin .eql (.t 27) (.k (.str [])))]) (.cond (.t 28) (.seq (.reg [Zl 29 true 2 8,⟨no,.st 2 (.t 6) (.t 29),no⟩,Zo 7 (.mv (.k (.bool true)))]) .ret) .skip)) (.seq (.draw (.op (Zl 30 true 2 8) (.op (Zl 31 true 2 3) (.op (Zf 32 2 4) (.op (Zl 33 false 1 32) (.op (Zv 34 2) (.op (Zc 35 305 [.t 31,.t 33,.t 34]) (.op (Zc 36 98 [.t 30,(.k (.int .i64 1)),.t 35]) (.op (Zo 37 (.ext (.t 36) 0)) (.op (Zo 38 (.ext (.t 36) 1)) (.hop ⟨no,.st 2 (.t 6) (.t 37),no⟩ [] (.op (Zv 7 38) .fin)))))))))))) .ret)))))⟩
theorem a268_ok:J0a Tryz.prog Tryz.f268=some a268:=by kernel_rfl
def sm0:AC:=(.reg [Zo 3 (.boxv (.t 0)),Zo 4 (.boxv (.t 1)),Zo 6 (.box [(.int .i64 0),(.nil 1)]),Zo 7 (.mv (.k (.bool false)))])
def sm1:AC:=(.reg [Zf 12 0 4,Zl 13 false 1 12,Zv 14 2,Zc 15 99 [.t 13,.t 14],Zo 8 (.box [(.int .i64 0),(.nil 1)]),⟨no,.st 2 (.t 8) (.t 15),no⟩])
def K67:AC:=(.draw (.op (Zl 24 true 2 8) (.op (Zf 25 1 4) (.op (Zl 26 false 1 25) (.op (Zv 27 9) (.op (Zo 28 (.ixa 2 (.t 26) (.t 27))) (.op (Zf 29 0 28) (.op (Zl 30 false 1 29) (.op (Zl 31 true 2 3) (.op (Zf 32 1 4) (.op (Zl 33 false 1 32) (.op (Zv 34 9) (.op (Zo 35 (.ixa 2 (.t 33) (.t 34))) (.op (Zf 36 1 35) (.op (Zl 37 false 1 36) (.op (Zv 38 2) (.both (.op (Zc 39 305 [.t 31,.t 37,.t 38]) (.both (.op (Zc 40 98 [.t 24,.t 30,.t 39]) (.op (Zv 23 40) (.op (Zo 41 (.ext (.t 23) 0)) (.op (Zo 42 (.ext (.t 23) 1)) (.op (Zo 10 (.box [(.int .i64 0),(.nil 1)])) (.hop ⟨no,.st 2 (.t 10) (.t 41),no⟩ [] (.op (Zv 11 42) .fin))))))) (.op (Zo 10 (.box [(.int .i64 0),(.nil 1)])) (.op (Zc 40 98 [.t 24,.t 30,.t 39]) (.op (Zv 23 40) (.op (Zo 41 (.ext (.t 23) 0)) (.op (Zo 42 (.ext (.t 23) 1)) (.hop ⟨no,.st 2 (.t 10) (.t 41),no⟩ [] (.op (Zv 11 42) .fin))))))))) (.op (Zo 10 (.box [(.int .i64 0),(.nil 1)])) (.op (Zc 39 305 [.t 31,.t 37,.t 38]) (.op (Zc 40 98 [.t 24,.t 30,.t 39]) (.op (Zv 23 40) (.op (Zo 41 (.ext (.t 23) 0)) (.op (Zo 42 (.ext (.t 23) 1)) (.hop ⟨no,.st 2 (.t 10) (.t 41),no⟩ [] (.op (Zv 11 42) .fin)))))))))))))))))))))))))
def sm2:AC:=(.seq (.reg [Zo 9 (.mv (.k (.int .i64 0)))]) (.blk 0 (.loop (.seq (.seq (.reg [Zv 16 9,Zf 17 1 4,Zl 18 false 1 17,Zo 19 (.len false (.t 18)),Zo 20 (.bin .lss (.t 16) (.t 19))]) (.cond (.t 20) .skip (.exit 0))) (.seq (.blk 1 (.seq K67 (.seq (.seq (.reg [Zv 43 11,Zo 44 (.un .not (.t 43))]) (.cond (.t 44) (.seq (.reg [Zo 45 (.build [(.int .i64 0),(.nil 1)] []),⟨no,.st 2 (.t 6) (.t 45),no⟩,Zo 7 (.mv (.k (.bool false)))]) .ret) .skip)) (.reg [Zl 46 true 2 10,⟨no,.st 2 (.t 8) (.t 46),no⟩])))) (.reg [Zv 21 9,Zo 22 (.bin .add (.t 21) (.k (.int .i64 1))),Zv 9 22]))))))
def sm3:AC:=(.reg [Zl 47 true 2 8,⟨no,.st 2 (.t 6) (.t 47),no⟩,Zo 7 (.mv (.k (.bool true)))])
def a267:AFn:=⟨48,[(.c 6 true 2),.t 7],(.seq sm0 (.seq sm1 (.seq sm2 (.seq sm3 .ret))))⟩
theorem a267_ok:J0a Tryz.prog Tryz.f267=some a267:=by kernel_rfl
def Jfy (E:SEnv):List AV:=[.sl 1 (J0d (J1a E)),.sl 2 ((J2x E).map J06)]
theorem Jro {E:SEnv}{x:DSum}{o:DLin}{i N k3 k4 k8:Nat}{ks:List Kt}{s:Env}{h:Heap}{n:Nat}{Q:Fin}(hE:E.length≤1048576) (hi:i<x.Terms.length) (s2:s 2 = .int .i64 N) (s3:s 3 = .ptr k3 0 0) (s4:s 4 = .ptr k4 0 0) (s8:s 8 = .ptr k8 0 0) (s9:s 9 = .int .i64 i)
 (e3:h k3=some ⟨true,2,[Jfy E]⟩) (e4:h k4=some ⟨true,2,[J1g x]⟩) (L:J5e o k8 h n)
 (hK:∀ s' h' n',(∀ j∈[2,3,4,6,7,8,9],s' j=s j)→s' 11 = .bool (J0b o (x.Terms[i]).Coeff (J2n (J04 0 N) E (x.Terms[i]).Name)).isSome →
  (∃ k,s' 10 = .ptr k 0 0∧J5e ((J0b o (x.Terms[i]).Coeff (J2n (J04 0 N) E (x.Terms[i]).Name)).getD J1d) k h' n')→n≤n'→(∀ id,id<n→h' id=h id)→J25 Tryz.prog ks .normal s' h' n' Q):rC Tryz.prog K67 ks s h n Q:=by
 obtain ⟨q,hkn,hqn,hkb,hqb⟩:=L
 simp [K67,s2,s3,s4,s8,s9,e3,e4,hkb,J1g,Jfy,hi,J10]
 constructor
 ·refine Jdn (Jgz (.inl rfl) (.inl rfl) hE ?_)
  intro w h1 n1 hn1 hfr1 cw hbw
  refine ⟨hfr1,?_⟩
  have b0:=hbw h1 fun _ _=>rfl
  have fr1:∀ id,id<n1→¬id=n1∧¬id=n1+1:=by intro id _;omega
  have frn:∀ id,id<n→¬id=n1∧¬id=n1+1:=by intro id _;omega
  have b1:∀ y,bw w (upd h1 n1 y)=some (.sl 1 (J0e (J2n (J04 0 N) E (x.Terms[i]).Name).Coeffs)):=fun y=>hbw _ fun id hid=>by simp [fr1 id hid]
  have hq1:h1 q=some ⟨false,1,J0e o.Coeffs⟩:=by rw [hfr1 q hqn,hqb]
  have ne1:¬n1=n1+1∧¬n1+1=n1∧¬q=n1:=by omega
  simp
  constructor
  ·skip
   first|refine J00 (J0m o (x.Terms[i]'hi).Coeff (J2n (J04 0 N) E (x.Terms[i]'hi).Name)) (by first|simp [J06,hq1,b0];done|rfl) ?_|refine J01 (J0m o (x.Terms[i]'hi).Coeff (J2n (J04 0 N) E (x.Terms[i]'hi).Name)) (by first|simp [J06,hq1,b0];done|rfl) ?_
   rintro r rfl
   rw [J0o]
   generalize (J0b o (x.Terms[i]).Coeff (J2n (J04 0 N) E (x.Terms[i]).Name)).getD J1d=l at *
   simp [J07,ne1]
   refine hK _ _ _ (by simp) (by simp) ⟨n1+1,by simp,n1,by omega,by omega,by simp [ne1],by simp [ne1]⟩ (by omega) fun id hid=>by simp [frn id hid,hfr1 id hid]
  ·skip
   first|refine J00 (J0m o (x.Terms[i]'hi).Coeff (J2n (J04 0 N) E (x.Terms[i]'hi).Name)) (by first|simp [J06,hq1,b1,ne1];done|rfl) ?_|refine J01 (J0m o (x.Terms[i]'hi).Coeff (J2n (J04 0 N) E (x.Terms[i]'hi).Name)) (by first|simp [J06,hq1,b1,ne1];done|rfl) ?_
   rintro r rfl
   rw [J0o]
   generalize (J0b o (x.Terms[i]).Coeff (J2n (J04 0 N) E (x.Terms[i]).Name)).getD J1d=l at *
   simp [J07,ne1]
   refine hK _ _ _ (by simp) (by simp) ⟨n1,by simp,n1+1,by omega,by omega,by simp [ne1],by simp [ne1]⟩ (by omega) fun id hid=>by simp [frn id hid,hfr1 id hid]
 ·refine Jdn (Jgz (.inl rfl) (.inl rfl) hE ?_)
  intro w h1 n1 hn1 hfr1 cw hbw
  refine ⟨hfr1,?_⟩
  have b0:=hbw h1 fun _ _=>rfl
  have frn:∀ id,id<n→¬id=n∧¬id=n1:=by intro id _;omega
  have hq1:h1 q=some ⟨false,1,J0e o.Coeffs⟩:=by rw [hfr1 q (by omega)];simp [frn q hqn,hqb]
  have hn0:=hfr1 n (by omega)
  simp at hn0
  have ne1:¬n=n1∧¬n1=n∧¬q=n:=by omega
  simp
  ·skip
   first|refine J00 (J0m o (x.Terms[i]'hi).Coeff (J2n (J04 0 N) E (x.Terms[i]'hi).Name)) (by first|simp [J06,hq1,b0];done|rfl) ?_|refine J01 (J0m o (x.Terms[i]'hi).Coeff (J2n (J04 0 N) E (x.Terms[i]'hi).Name)) (by first|simp [J06,hq1,b0];done|rfl) ?_
   rintro r rfl
   rw [J0o]
   generalize (J0b o (x.Terms[i]).Coeff (J2n (J04 0 N) E (x.Terms[i]).Name)).getD J1d=l at *
   simp [J07,ne1,hn0]
   refine hK _ _ _ (by simp) (by simp) ⟨n,by simp,n1,by omega,by omega,by simp [ne1],by simp [ne1]⟩ (by omega) fun id hid=>by simp [frn id hid,hfr1 id (by omega)]
theorem J7s (E:SEnv) (hE:E.length≤1048576) (x:DSum) (hx:x.Terms.length≤1048576) (N:Nat):Holds Tryz.prog 267 [.agg (Jfy E),.agg (J1g x),i64 N] (fun r=>r=J0s (Jt0 E N x)):=by
 refine J02 Tryz.func267 a267_ok rfl (by simp [a267]) ?_
 simp [a267,sm0,sm1,sm2,J1g,Jfy]
 first|refine J00 (J13 x.Const N) (by first|simp;done|rfl) ?_|refine J01 (J13 x.Const N) (by first|simp;done|rfl) ?_
 rintro r rfl
 simp [J07]
 unfold Jt0
 generalize hT:goS E N x.Terms (J04 x.Const N)=T
 refine J0k [2,3,4,6,7,8] 9 x.Terms.length (fun i s h n=>4<n∧h 0=some ⟨true,2,[Jfy E]⟩∧h 1=some ⟨true,2,[J1g x]⟩∧h 2=some ⟨true,2,[[.int .i64 0,.nil 1]]⟩∧∃ o,J5e o 4 h n∧goS E N (x.Terms.drop i) o=T) (by unfold LIM;omega) (by simp)
  ⟨by simp,by simp [Jfy],by simp [J1g],by simp,J04 x.Const N,⟨3,by simp,by simp,by simp,by simp⟩,by simpa using hT⟩ ?_ ?_
 ·rintro i st h n R hi hg hk s9 hw ⟨hn,e0,e1,e2,o,L,hJ⟩ hR hret _
  simp at hk
  rw [List.drop_eq_getElem_cons hi] at hJ
  simp only [goS] at hJ
  refine J09 (J0g [2,3,4,6,7,8,9] (fun s=>s 20 = .bool true) (by simp [hk,s9,hi,e1,J1g]) ?_)
  intro st1 hk1 s20
  simp at hk1
  refine J1u s20 (J09 (J0t (J09 (Jro (E:=E) (x:=x) (o:=o) (i:=i) (N:=N) (k3:=0) (k4:=1) (k8:=4) hE hi (by simp [hk1,hk]) (by simp [hk1,hk]) (by simp [hk1,hk]) (by simp [hk1,hk]) (by simp [hk1,s9]) e0 e1 L ?_))))
  rintro st2 h2 n2 hk2 s11 ⟨k,s10,L2⟩ hn2 hfr
  simp at hk2
  refine J53 ?_
  have e0':=hfr 0 (by omega)
  have e1':=hfr 1 (by omega)
  have e2':=hfr 2 (by omega)
  rw [e0] at e0'
  rw [e1] at e1'
  rw [e2] at e2'
  obtain ⟨q4,x4,y4,z4,w4⟩:=L
  have z4':=hfr 4 x4
  rw [z4] at z4'
  obtain ⟨q2,x2,y2,z2,w2⟩:=L2
  cases ho:J0b o (x.Terms[i]).Coeff (J2n (J04 0 N) E (x.Terms[i]).Name) with
  | none=>
   rw [ho] at hJ s11
   simp only [Option.isSome_none] at s11
   simp [s11,hk2,hk1,hk,e2']
   refine hret _ _ _ ?_
   simp [hk2,hk1,hk,←hJ,J0s,J1d,J07,J0e]
  | some o'=>
   rw [ho] at hJ s11 z2 w2
   simp only [Option.isSome_some] at s11
   simp only [Option.getD_some] at z2 w2
   simp [s11,s10,z2,hk2,hk1,hk,z4',s9,hw]
   have q24:¬q2=4:=by rintro rfl;rw [z4'] at w2;simp at w2
   exact hR _ _ _ (by simp [hk2,hk1,hk]) (by simp) ⟨by omega,by simp [e0'],by simp [e1'],by simp [e2'],o',⟨q2,by omega,y2,by simp,by simp [q24,w2]⟩,hJ⟩
 ·rintro st h n R hk s9 ⟨hn,e0,e1,e2,o,⟨q,hkn,hqn,hkb,hqb⟩,hJ⟩ hret hX
  simp at hk
  rw [List.drop_eq_nil_of_le (by omega)] at hJ
  simp only [goS] at hJ
  subst hJ
  refine J09 (J0g [2,3,4,6,7,8] (fun s=>s 20 = .bool false) (by simp [hk,s9,e1,J1g]) ?_)
  intro st1 hk1 s20
  simp at hk1
  refine J1s s20 ?_
  refine hX _ _ _ _ ?_
  have q2:¬q=2:=by rintro rfl;rw [e2] at hqb;simp at hqb
  simp [sm3,hk1,hk,hkb,e2,hqb,q2,J0s,J07]
theorem J6m (E:SEnv) (hE:E.length≤1048576) (x:DArg) (hx:∀ y∈x.Heads,y.Terms.length≤1048576) (hne:x.Lst=false→0<x.Heads.length) (N:Nat):Holds Tryz.prog 268 [.agg (Jfy E),.agg (J0x x),i64 N] (fun r=>r=J0s (Jv5 E N x)):=by
 refine J02 Tryz.func268 a268_ok rfl (by simp [a268]) ?_
 simp [a268,Jfy,J0x]
 unfold Jv5
 cases hL:x.Lst
 ·have hz:=hne hL
  obtain ⟨s,l,hsl⟩:∃ s l,x.Heads=s::l:=by
   cases hh:x.Heads with
   | nil=>rw [hh] at hz;cases hz
   | cons s l=>exact ⟨s,l,rfl⟩
  simp [hsl]
  first|refine J00 (J7s E hE s (hx s (by rw [hsl];exact List.mem_cons_self)) N) (by first|simp [Jfy];done|rfl) ?_|refine J01 (J7s E hE s (hx s (by rw [hsl];exact List.mem_cons_self)) N) (by first|simp [Jfy];done|rfl) ?_
  rintro r rfl
  rw [J0o]
  generalize hb:(Jt0 E N s).isSome=b
  simp [J07,J0o,hb]
 ·simp
  intro _
  first|refine J00 (J13 x.Heads.length N) (by first|simp;done|rfl) ?_|refine J01 (J13 x.Heads.length N) (by first|simp;done|rfl) ?_
  rintro r rfl
  simp [J07]
  by_cases hb:x.Base=[]
  ·simp [hb,J0s,J07]
  ·simp [hb]
   refine Jdn (Jgz (.inl rfl) (.inl rfl) hE ?_)
   intro w h1 n1 hn1 hfr1 cw hbw
   refine ⟨hfr1,?_⟩
   have h3:=hfr1 3 (by omega)
   have h2:=hfr1 2 (by omega)
   simp at h2 h3
   have b0:=hbw h1 fun _ _=>rfl
   have ne:¬n1=2∧¬2=n1:=by omega
   simp
   first|refine J00 (J0m (J04 x.Heads.length N) 1 (J2n (J04 0 N) E x.Base)) (by first|simp [J06,h3,b0];done|rfl) ?_|refine J01 (J0m (J04 x.Heads.length N) 1 (J2n (J04 0 N) E x.Base)) (by first|simp [J06,h3,b0];done|rfl) ?_
   rintro r rfl
   rw [J0o]
   generalize (J0b (J04 x.Heads.length N) 1 (J2n (J04 0 N) E x.Base)).getD J1d=l
   generalize (J0b (J04 x.Heads.length N) 1 (J2n (J04 0 N) E x.Base)).isSome=b
   simp [J07,h2,ne]
def ro0:AC:=(.reg [Zo 4 (.boxv (.t 0)),Zo 5 (.boxv (.t 1)),Zo 8 (.box [(.nil 1),(.nil 2)]),Zo 9 (.mv (.k (.nil 2)))])
def ro1:AC:=(.reg [Zo 16 (.bsl 2 []),Zv 10 16])
def K88:AC:=(.draw (.op (Zv 38 3) (.op (Zl 40 true 2 13) (.both (.op (Zc 39 99 [(.k (.int .i64 0)),.t 38]) (.both (.op (Zc 41 98 [.t 39,(.k (.int .i64 (-1))),.t 40]) (.op (Zv 37 41) (.op (Zo 42 (.ext (.t 37) 0)) (.op (Zo 43 (.ext (.t 37) 1)) (.op (Zo 14 (.box [(.int .i64 0),(.nil 1)])) (.hop ⟨no,.st 2 (.t 14) (.t 42),no⟩ [] (.op (Zv 15 43) .fin))))))) (.op (Zo 14 (.box [(.int .i64 0),(.nil 1)])) (.op (Zc 41 98 [.t 39,(.k (.int .i64 (-1))),.t 40]) (.op (Zv 37 41) (.op (Zo 42 (.ext (.t 37) 0)) (.op (Zo 43 (.ext (.t 37) 1)) (.hop ⟨no,.st 2 (.t 14) (.t 42),no⟩ [] (.op (Zv 15 43) .fin))))))))) (.op (Zo 14 (.box [(.int .i64 0),(.nil 1)])) (.op (Zc 39 99 [(.k (.int .i64 0)),.t 38]) (.op (Zc 41 98 [.t 39,(.k (.int .i64 (-1))),.t 40]) (.op (Zv 37 41) (.op (Zo 42 (.ext (.t 37) 0)) (.op (Zo 43 (.ext (.t 37) 1)) (.hop ⟨no,.st 2 (.t 14) (.t 42),no⟩ [] (.op (Zv 15 43) .fin))))))))))))
def K5f:AC:=(.reg [Zf 53 0 4,Zl 54 false 1 53,Zf 55 2 12,Zl 56 false 1 55,Zf 57 3 12,Zl 58 false 1 57,Zo 59 (.bsl 1 [.t 56,.t 58]),Zo 60 (.app 16 1 (.t 54) (.t 59)),Zf 61 0 4,⟨no,.st 1 (.t 61) (.t 60),no⟩])
def K5i:AC:=(.draw (.op (Zf 62 1 4) (.op (Zl 63 false 1 62) (.op (Zv 64 2) (.op (Zv 65 3) (.op (Zl 67 true 2 13) (.op (Zc 66 261 [.t 64,.t 65]) (.op (Zc 68 306 [.t 67,(.k (.int .i64 1))]) (.hop (Zo 69 (.bsl 2 [.t 66,.t 68])) [(.ld false 1 (.t 62)),(.fld 1 (.t 4))] (.hop (Zo 70 (.app 32 2 (.t 63) (.t 69))) [] (.op (Zf 71 1 4) (.hop ⟨no,.st 1 (.t 71) (.t 70),no⟩ [] .fin))))))))))))
def ro2:AC:=(.seq (.reg [Zo 11 (.mv (.k (.int .i64 0)))]) (.blk 0 (.loop (.seq (.seq (.reg [Zv 17 11,Zf 18 1 5,Zl 19 false 1 18,Zo 20 (.len false (.t 19)),Zo 21 (.bin .lss (.t 17) (.t 20))]) (.cond (.t 21) .skip (.exit 0))) (.seq (.blk 1 (.seq (.reg [Zf 24 1 5,Zl 25 false 1 24,Zv 26 11,Zo 27 (.ixa 4 (.t 25) (.t 26)),Zl 28 true 4 27,Zo 12 (.box [(.str []),(.bool false),(.str []),(.str [])]),⟨no,.st 4 (.t 12) (.t 28),no⟩]) (.seq (.reg [Zl 29 true 2 4,Zf 30 0 12,Zl 31 false 1 30,Zv 32 3,Zc 33 305 [.t 29,.t 31,.t 32],Zo 13 (.box [(.int .i64 0),(.nil 1)]),⟨no,.st 2 (.t 13) (.t 33),no⟩]) (.seq (.seq (.reg [Zf 34 1 12,Zl 35 false 1 34,Zo 36 (.un .not (.t 35))]) (.cond (.t 36) (.seq K88 (.seq (.reg [Zv 44 10,Zl 45 true 2 14,Zo 46 (.bsl 2 [.t 45]),Zo 47 (.app 32 2 (.t 44) (.t 46)),Zv 10 47]) (.exit 1))) .skip)) (.seq (.reg [Zv 48 10,Zl 49 true 2 13,Zc 50 306 [.t 49,(.k (.int .i64 1))],Zo 51 (.bsl 2 [.t 50]),Zo 52 (.app 32 2 (.t 48) (.t 51)),Zv 10 52]) (.seq  K5f (.seq K5i (.reg [Zv 72 2,Zo 73 (.bin .add (.t 72) (.k (.int .i64 1))),Zv 2 73])))))))) (.reg [Zv 22 11,Zo 23 (.bin .add (.t 22) (.k (.int .i64 1))),Zv 11 23]))))))
def ro3:AC:=(.reg [Zl 74 true 2 4,Zv 75 10,⟨no,.st 2 (.t 8) (.t 74),no⟩,Zv 9 75])
def a266:AFn:=⟨76,[(.c 8 true 2),.t 9],(.seq ro0 (.seq ro1 (.seq ro2 (.seq ro3 .ret))))⟩
theorem a266_ok:J0a Tryz.prog Tryz.f266=some a266:=by kernel_rfl
def Dj (v w:AV):Prop:=∀ i k l,v = .ref i 0 k→w = .ref i 0 l→False
def Jep (b:Nat) (l:List (Nat×List (List AV)×AV)) (h:Heap) (n:Nat):Prop:=(∀ x∈l,J3v b x.1 x.2.1 x.2.2 h n)∧l.Pairwise fun x y=>Dj x.2.2 y.2.2
theorem J3v.lt {b z:Nat}{rows:List (List AV)}{v:AV}{h:Heap}{n i k:Nat}(x:J3v b z rows v h n) (e:v = .ref i 0 k):b<i∧i<n∧h i=some ⟨false,z,rows⟩∧k=rows.length:=by
 rcases x with ⟨_,rfl⟩|⟨j,h1,h2,rfl,hb⟩
 ·cases e
 ·simp only [AV.ref.injEq] at e
  obtain ⟨rfl,_,rfl⟩:=e
  exact ⟨h1,h2,hb,rfl⟩
theorem Jep.step {b:Nat}{l1 l2:List (Nat×List (List AV)×AV)}{x x':Nat×List (List AV)×AV}{h h':Heap}{n n':Nat}(A:Jep b (l1++x::l2) h n) (hx:J3v b x'.1 x'.2.1 x'.2.2 h' n') (hnew:∀ i k,x'.2.2 = .ref i 0 k→n≤i) (hn:n≤n')
 (hh:∀ id,b<id→id<n→(∃ z rows,h id=some ⟨false,z,rows⟩)→(∀ k,x.2.2 ≠ .ref id 0 k)→h' id=h id):Jep b (l1++x'::l2) h' n':=by
 obtain ⟨A1,A2⟩:=A
 rw [List.pairwise_append,List.pairwise_cons] at A2
 obtain ⟨p1,⟨p2,p3⟩,p4⟩:=A2
 refine ⟨?_,?_⟩
 ·intro y hy
  rcases List.mem_append.1 hy with hy|hy
  ·refine (A1 y (List.mem_append_left _ hy)).keep hn fun id hb hid e=>hh id hb hid ⟨_,_,((A1 y (List.mem_append_left _ hy)).lt e).2.2.1⟩ fun k ek=>p4 y hy x List.mem_cons_self id _ k e ek
  ·rcases List.mem_cons.1 hy with rfl|hy
   ·exact hx
   ·refine (A1 y (List.mem_append_right _ (List.mem_cons_of_mem _ hy))).keep hn fun id hb hid e=>hh id hb hid ⟨_,_,((A1 y (List.mem_append_right _ (List.mem_cons_of_mem _ hy))).lt e).2.2.1⟩ fun k ek=>p2 y hy id k _ ek e
 ·rw [List.pairwise_append,List.pairwise_cons]
  refine ⟨p1,⟨fun y hy i k l e1 e2 => ?_,p3⟩,fun y hy w hw i k l e1 e2 => ?_⟩
  ·have g1:=hnew i k e1
   have g2:=((A1 y (List.mem_append_right _ (List.mem_cons_of_mem _ hy))).lt e2).2.1
   omega
  ·have g2:=((A1 y (List.mem_append_left _ hy)).lt e1).2.1
   rcases List.mem_cons.1 hw with rfl|hw
   ·have g1:=hnew i l e2;omega
   ·exact p4 y hy w (List.mem_cons_of_mem _ hw) i k l e1 e2
theorem Jep.frame {b:Nat}{l:List (Nat×List (List AV)×AV)}{h h':Heap}{n n':Nat}(A:Jep b l h n) (hn:n≤n') (hh:∀ id,b<id→id<n→h' id=h id):Jep b l h' n':=
 ⟨fun x hx=>(A.1 x hx).keep hn fun id hb hid _=>hh id hb hid,A.2⟩
theorem J32 {b z bytes k:Nat}{rows rows2:List (List AV)}{v:AV}{h:Heap}{n:Nat}{K:AV→Heap→Nat→Prop}(A:J3v b z rows v h n) (hk:h k=some ⟨false,z,rows2⟩) (hvk:∀ l,v ≠ .ref k 0 l) (hkn:k<n)
 (hlen:(rows.length+rows2.length)*bytes≤LIM)
 (hK:∀ h',h' n=some ⟨false,z,rows++rows2⟩→(∀ id,id≠n→id≠k→(∀ l,v ≠ .ref id 0 l)→h' id=h id)→K (.ref n 0 (rows.length+rows2.length)) h' (n+1)) :
 Jsz bytes z v (.ref k 0 rows2.length) h n K:=by
 rcases A with ⟨rfl,rfl⟩|⟨i,_,hin,rfl,hib⟩
 ·simp [hk]
  refine ⟨by simpa using hlen,?_⟩
  have:k≠n:=by omega
  simp at hK
  exact hK _ (by simp) fun id h1 h2=>by simp [h1,h2]
 ·have hki:¬k=i:=fun e=>hvk _ (by rw [e])
  have hik:¬i=k:=fun e=>hki e.symm
  have hne:¬i=n:=by omega
  simp [hk,hib,hki,hik]
  refine ⟨hlen,?_⟩
  refine hK _ (by simp [List.take_of_length_le]) fun id h1 h2 h3 => ?_
  have:¬id=i:=fun e=>h3 _ (by rw [e])
  simp [h1,h2,this]
section
variable {ks:List Kt}{s:Env}{h:Heap}{n N:Nat}{Q:Fin}
theorem Jr7 {l0:DLin}{k:Nat}(s3:s 3 = .int .i64 N) (s13:s 13 = .ptr k 0 0) (hkn:k<n) (hkb:h k=some ⟨true,2,[J06 l0]⟩)
 (hK:∀ s' h' n',(∀ j∈[2,3,4,5,8,9,10,11,12,13],s' j=s j)→(∃ k q,s' 14 = .ptr k 0 0∧n≤k∧n≤q∧k<n'∧q<n'∧h' k=some ⟨true,2,[[.int .i64 (J7z (J04 0 N) (-1) l0).Const,.ref q 0 (J7z (J04 0 N) (-1) l0).Coeffs.length]]⟩∧h' q=some ⟨false,1,J0e (J7z (J04 0 N) (-1) l0).Coeffs⟩)→n≤n'→(∀ id,id<n→h' id=h id)→J25 Tryz.prog ks .normal s' h' n' Q):rC Tryz.prog K88 ks s h n Q:=by
 have fr:∀ id,id<n→¬id=n∧¬id=n+1∧¬id=n+1+1∧¬id=n+2:=by intro id _;omega
 have ne:¬n=n+1∧¬n+1=n∧¬n=n+1+1∧¬n+1+1=n∧¬n+1=n+1+1∧¬n+1+1=n+1:=by omega
 simp [K88,s3,s13,hkb]
 constructor
 ·skip
  first|refine J00 (J13 0 N) (by first|simp;done|rfl) ?_|refine J01 (J13 0 N) (by first|simp;done|rfl) ?_
  rintro r rfl
  simp [J07,ne]
  constructor
  ·skip
   first|refine J00 (J0m (J04 0 N) (-1) l0) (by first|simp [J06];done|rfl) ?_|refine J01 (J0m (J04 0 N) (-1) l0) (by first|simp [J06];done|rfl) ?_
   rintro r rfl
   rw [J0o]
   have hadd:(J0b (J04 0 N) (-1) l0).getD J1d=J7z (J04 0 N) (-1) l0:=rfl
   rw [hadd]
   generalize J7z (J04 0 N) (-1) l0=l at *
   simp [J07,ne]
   refine hK _ _ _ (by simp) ⟨n+2,n+1,by simp,by omega,by omega,by omega,by omega,by simp [ne],by simp [ne]⟩ (by omega) fun id hid=>by simp [fr id hid]
  ·skip
   first|refine J00 (J0m (J04 0 N) (-1) l0) (by first|simp [J06,ne];done|rfl) ?_|refine J01 (J0m (J04 0 N) (-1) l0) (by first|simp [J06,ne];done|rfl) ?_
   rintro r rfl
   rw [J0o]
   have hadd:(J0b (J04 0 N) (-1) l0).getD J1d=J7z (J04 0 N) (-1) l0:=rfl
   rw [hadd]
   generalize J7z (J04 0 N) (-1) l0=l at *
   simp [J07,ne]
   refine hK _ _ _ (by simp) ⟨n+1,n+2,by simp,by omega,by omega,by omega,by omega,by simp [ne],by simp [ne]⟩ (by omega) fun id hid=>by simp [fr id hid]
 ·skip
  first|refine J00 (J13 0 N) (by first|simp;done|rfl) ?_|refine J01 (J13 0 N) (by first|simp;done|rfl) ?_
  rintro r rfl
  simp [J07,ne]
  ·skip
   first|refine J00 (J0m (J04 0 N) (-1) l0) (by first|simp [J06,ne];done|rfl) ?_|refine J01 (J0m (J04 0 N) (-1) l0) (by first|simp [J06,ne];done|rfl) ?_
   rintro r rfl
   rw [J0o]
   have hadd:(J0b (J04 0 N) (-1) l0).getD J1d=J7z (J04 0 N) (-1) l0:=rfl
   rw [hadd]
   generalize J7z (J04 0 N) (-1) l0=l at *
   simp [J07,ne]
   refine hK _ _ _ (by simp) ⟨n,n+2,by simp,by omega,by omega,by omega,by omega,by simp [ne],by simp [ne]⟩ (by omega) fun id hid=>by simp [fr id hid]
def Old (v0 v:AV) (n0:Nat):Prop:=v=v0∨∀ i k,v = .ref i 0 k→n0≤i
structure RI (b n0:Nat) (vN0 vL0:AV) (h0:Heap) (r:DRule) (nm:List Str) (ls R:List DLin) (v10:AV) (h:Heap) (m:Nat):Prop where
 lt:n0+3<m
 hr:h (n0+1)=some ⟨true,7,[J0c r]⟩
 hz:h (n0+2)=some ⟨true,2,[[.nil 1,.nil 2]]⟩
 fr:∀ id,id<n0→(∀ k,vN0 ≠ .ref id 0 k)→(∀ k,vL0 ≠ .ref id 0 k)→h id=h0 id
 env:∃ vN vL,h n0=some ⟨true,2,[[vN,vL]]⟩∧Jep b [(1,J0d nm,vN),(2,ls.map J06,vL),(2,R.map J07,v10)] h m∧Old vN0 vN n0∧Old vL0 vL n0∧Old (.nil 2) v10 n0
variable {b n0:Nat}{vN0 vL0 v10 v10':AV}{h0 h':Heap}{r:DRule}{nm:List Str}{ls R:List DLin}{m m':Nat}
theorem Old.fresh {v0:AV}{i k:Nat}(h:n0≤i):Old v0 (.ref i 0 k) n0 := .inr fun j l e=>by simp only [AV.ref.injEq] at e;omega
theorem RI.frame (M:RI b n0 vN0 vL0 h0 r nm ls R v10 h m) (hm:m≤m') (hh:∀ id,id<m→h' id=h id):RI b n0 vN0 vL0 h0 r nm ls R v10 h' m':=by
 have l1:=M.lt
 obtain ⟨vN,vL,e1,e2,e3,e4,e5⟩:=M.env
 exact ⟨by omega,by rw [hh _ (by omega),M.hr],by rw [hh _ (by omega),M.hz],fun id h1 h2 h3=>by rw [hh id (by omega),M.fr id h1 h2 h3],vN,vL,by rw [hh _ (by omega),e1],e2.frame hm fun id _ hid=>hh id hid,e3,e4,e5⟩
theorem J3v.not_box {z z' i k:Nat}{rows rows':List (List AV)}{v:AV}(x:J3v b z rows v h n) (hb:h i=some ⟨true,z',rows'⟩) (e:v = .ref i 0 k):False:=by
 have:=(x.lt e).2.2.1
 rw [hb] at this;simp at this
theorem RI.rows (M:RI b n0 vN0 vL0 h0 r nm ls R v10 h m) {R':List DLin}(hm:m≤m') (hx:J3v b 2 (R'.map J07) v10' h' m') (hnew:∀ i k,v10' = .ref i 0 k→m≤i) (hh:∀ id,id<m→(∀ k,v10 ≠ .ref id 0 k)→h' id=h id):RI b n0 vN0 vL0 h0 r nm ls R' v10' h' m':=by
 have l1:=M.lt
 obtain ⟨vN,vL,e1,e2,e3,e4,e5⟩:=M.env
 have y3:=e2.1 (2,R.map J07,v10) (by simp)
 refine ⟨by omega,?_,?_,?_,vN,vL,?_,?_,e3,e4,.inr fun i k e=>by have:=hnew i k e;omega⟩
 ·rw [hh _ (by omega) fun k e=>y3.not_box M.hr e,M.hr]
 ·rw [hh _ (by omega) fun k e=>y3.not_box M.hz e,M.hz]
 ·intro id h1 h2 h3
  rw [hh id (by omega) fun k e => ?_,M.fr id h1 h2 h3]
  rcases e5 with rfl|g
  ·cases e
  ·have:=g _ _ e;omega
 ·rw [hh _ (by omega) fun k e=>y3.not_box e1 e,e1]
 ·exact Jep.step (l1:=[(1,J0d nm,vN),(2,ls.map J06,vL)]) (l2:=[]) (x:=(2,R.map J07,v10)) (x':=(2,R'.map J07,v10')) e2 hx hnew hm fun id _ h2 _ h3=>hh id h2 h3
theorem RI.names (M:RI b n0 vN0 vL0 h0 r nm ls R v10 h m) {nm':List Str}{vN vL vN':AV}(e1:h n0=some ⟨true,2,[[vN,vL]]⟩) (e1':h' n0=some ⟨true,2,[[vN',vL]]⟩) (hm:m≤m') (hx:J3v b 1 (J0d nm') vN' h' m') (hnew:∀ i k,vN' = .ref i 0 k→m≤i) (hh:∀ id,id<m→id≠n0→(∀ k,vN ≠ .ref id 0 k)→h' id=h id):RI b n0 vN0 vL0 h0 r nm' ls R v10 h' m':=by
 have l1:=M.lt
 obtain ⟨vN2,vL2,f1,e2,e3,e4,e5⟩:=M.env
 rw [e1] at f1
 simp only [Option.some.injEq,Blk.mk.injEq,true_and,List.cons.injEq,and_true] at f1
 obtain ⟨rfl,rfl⟩:=f1
 have y1:=e2.1 (1,J0d nm,vN) (by simp)
 refine ⟨by omega,?_,?_,?_,vN',vL,e1',?_,.inr fun i k e=>by have:=hnew i k e;omega,e4,e5⟩
 ·rw [hh _ (by omega) (by omega) fun k e=>y1.not_box M.hr e,M.hr]
 ·rw [hh _ (by omega) (by omega) fun k e=>y1.not_box M.hz e,M.hz]
 ·intro id h1 h2 h3
  rw [hh id (by omega) (by omega) fun k e => ?_,M.fr id h1 h2 h3]
  rcases e3 with rfl|g
  ·exact h2 k e
  ·have:=g _ _ e;omega
 ·refine Jep.step (l1:=[]) (l2:=[(2,ls.map J06,vL),(2,R.map J07,v10)]) (x:=(1,J0d nm,vN)) (x':=(1,J0d nm',vN')) e2 hx hnew hm fun id hb h2 hf h3 => ?_
  refine hh id h2 (fun e => ?_) h3
  obtain ⟨z,rows,hf⟩:=hf
  rw [e,e1] at hf;simp at hf
theorem RI.lins (M:RI b n0 vN0 vL0 h0 r nm ls R v10 h m) {ls':List DLin}{vN vL vL':AV}(e1:h n0=some ⟨true,2,[[vN,vL]]⟩) (e1':h' n0=some ⟨true,2,[[vN,vL']]⟩) (hm:m≤m') (hx:J3v b 2 (ls'.map J06) vL' h' m') (hnew:∀ i k,vL' = .ref i 0 k→m≤i) (hh:∀ id,id<m→id≠n0→(∀ k,vL ≠ .ref id 0 k)→h' id=h id):RI b n0 vN0 vL0 h0 r nm ls' R v10 h' m':=by
 have l1:=M.lt
 obtain ⟨vN2,vL2,f1,e2,e3,e4,e5⟩:=M.env
 rw [e1] at f1
 simp only [Option.some.injEq,Blk.mk.injEq,true_and,List.cons.injEq,and_true] at f1
 obtain ⟨rfl,rfl⟩:=f1
 have y1:=e2.1 (2,ls.map J06,vL) (by simp)
 refine ⟨by omega,?_,?_,?_,vN,vL',e1',?_,e3,.inr fun i k e=>by have:=hnew i k e;omega,e5⟩
 ·rw [hh _ (by omega) (by omega) fun k e=>y1.not_box M.hr e,M.hr]
 ·rw [hh _ (by omega) (by omega) fun k e=>y1.not_box M.hz e,M.hz]
 ·intro id h1 h2 h3
  rw [hh id (by omega) (by omega) fun k e => ?_,M.fr id h1 h2 h3]
  rcases e4 with rfl|g
  ·exact h3 k e
  ·have:=g _ _ e;omega
 ·refine Jep.step (l1:=[(1,J0d nm,vN)]) (l2:=[(2,R.map J07,v10)]) (x:=(2,ls.map J06,vL)) (x':=(2,ls'.map J06,vL')) e2 hx hnew hm fun id hb h2 hf h3 => ?_
  refine hh id h2 (fun e => ?_) h3
  obtain ⟨z,rows,hf⟩:=hf
  rw [e,e1] at hf;simp at hf
theorem Jsd {q:DPattern}{k:Nat}(s4:s 4 = .ptr n0 0 0) (s12:s 12 = .ptr k 0 0) (M:RI b n0 vN0 vL0 h0 r nm ls R v10 h n) (hb:b<n0) (hkn:k<n) (hkb:h k=some ⟨true,4,[J08 q]⟩) (hl:nm.length≤1048576)
 (hK:∀ s' h' n',(∀ j∈[2,3,5,8,9,10,11,12,13,4],s' j=s j)→n≤n'→(∀ id z rows,id<n→id≠n0→h id=some ⟨true,z,rows⟩→h' id=h id)→RI b n0 vN0 vL0 h0 r (nm++[q.Head,q.Tail]) ls R v10 h' n'→J25 Tryz.prog ks .normal s' h' n' Q):rC Tryz.prog K5f ks s h n Q:=by
 have l1:=M.lt
 obtain ⟨vN,vL,e1,e2,e3,e4,e5⟩:=M.env
 have y1:=e2.1 (1,J0d nm,vN) (by simp)
 have ne:¬n0=n∧¬k=n∧¬n0=n+1∧¬n+1=n0∧¬k=n0∧¬n0=k:=by
  refine ⟨by omega,by omega,by omega,by omega,?_,?_⟩
  ·rintro rfl;rw [hkb] at e1;simp at e1
  ·rintro rfl;rw [hkb] at e1;simp at e1
 have frn:∀ id,id<n→¬id=n∧¬id=n+1:=by intro id _;omega
 simp [K5f,s4,s12,e1,hkb,J08]
 refine J32 (rows:=J0d nm) (rows2:=[[.str q.Head],[.str q.Tail]]) (y1.keep (n':=n+1) (by omega) fun id _ hid _=>by simp [frn id hid]) (by simp) (fun l e=>by have:=(y1.lt e).2.1;omega) (by omega) (by simp [J0d];unfold LIM;omega) ?_
 intro h1 f1 f2
 have g0:h1 n0=some ⟨true,2,[[vN,vL]]⟩:=by rw [f2 n0 (by omega) (by omega) fun l e=>y1.not_box e1 e];simp [ne,e1]
 simp [g0,s4]
 refine hK _ _ _ (by simp) (by omega) ?_ (M.names (vN' := .ref (n+1) 0 (nm.length+2)) e1 (by simp [J0d]) (by omega) (.inr ⟨n+1,by omega,by omega,by simp [J0d],by simp [ne,f1,J0d]⟩) (fun i k e=>by simp only [AV.ref.injEq] at e;omega) ?_)
 ·intro id z rows h1' h2' h3'
  simp [h2',f2 id (by omega) (by omega) fun l e=>y1.not_box h3' e,frn id h1']
 ·intro id h1' h2' h3'
  simp [h2',f2 id (by omega) (by omega) h3',frn id h1']
theorem Jrp {l0:DLin}{k at':Nat}(s2:s 2 = .int .i64 at') (s3:s 3 = .int .i64 N) (s4:s 4 = .ptr n0 0 0) (s13:s 13 = .ptr k 0 0) (M:RI b n0 vN0 vL0 h0 r nm ls R v10 h n) (hb:b<n0) (hkn:k<n) (hkb:h k=some ⟨true,2,[J06 l0]⟩) (hk0:k≠n0) (hl:ls.length≤1048576) (hl0:l0.Coeffs.length≤1048576)
 (hK:∀ s' h' n',(∀ j∈[2,3,5,8,9,10,11,12,13,4],s' j=s j)→n≤n'→(∀ id z rows,id<n→id≠n0→h id=some ⟨true,z,rows⟩→h' id=h id)→RI b n0 vN0 vL0 h0 r nm (ls++[J2k at' N,J4k l0 1]) R v10 h' n'→J25 Tryz.prog ks .normal s' h' n' Q):rC Tryz.prog K5i ks s h n Q:=by
 have l1:=M.lt
 obtain ⟨vN,vL,e1,e2,e3,e4,e5⟩:=M.env
 have y1:=e2.1 (2,ls.map J06,vL) (by simp)
 have ne:¬n0=n∧¬k=n∧¬n0=n+1∧¬n0=n+1+1∧¬n0=n+2∧¬k=n+1∧¬n=n+1∧¬n+1=n:=by omega
 have frn:∀ id,id<n→¬id=n∧¬id=n+1∧¬id=n+1+1∧¬id=n+2∧¬id=n+3:=by intro id _;omega
 simp [K5i,s2,s3,s4,s13,e1,hkb]
 refine J4x (J6w at' N) (by simp) ?_
 rintro _ rfl
 simp [ne,e1]
 refine J4x (Ja5 l0 1 hl0) (by simp) ?_
 rintro _ rfl
 simp [ne,e1,s4]
 have ne2:¬n+1+1=n0∧¬n+1=n0∧¬n+2=n0∧¬n0=n+1+1:=by omega
 refine J32 (rows:=ls.map J06) (rows2:=[J06 (J2k at' N),J06 (J4k l0 1)]) (y1.keep (n':=n+1) (by omega) fun id _ hid _=>by simp [frn id hid]) (by simp) (fun l e=>by have:=(y1.lt e).2.1;omega) (by omega) (by simp;unfold LIM;omega) ?_
 intro h1 f1 f2
 have g0:h1 n0=some ⟨true,2,[[vN,vL]]⟩:=by rw [f2 n0 (by omega) (by omega) fun l e=>y1.not_box e1 e];simp [ne,e1]
 simp [g0,s4]
 refine hK _ _ _ (by simp) (by omega) ?_ (M.lins (vL' := .ref (n+1) 0 (ls.length+2)) e1 (by simp) (by omega) (.inr ⟨n+1,by omega,by omega,by simp,by simp [ne2,f1]⟩) (fun i k e=>by simp only [AV.ref.injEq] at e;omega) ?_)
 ·intro id z rows h1' h2' h3'
  simp [h2',f2 id (by omega) (by omega) fun l e=>y1.not_box h3' e,frn id h1']
 ·intro id h1' h2' h3'
  simp [h2',f2 id (by omega) (by omega) h3',frn id h1']
end
section
variable {ks:List Kt}{s:Env}{h:Heap}{n N:Nat}{Q:Fin}{b n0:Nat}{vN0 vL0:AV}{h0:Heap}{r:DRule}
def RJ (N b n0:Nat) (vN0 vL0:AV) (h0:Heap) (r:DRule) (E0:SEnv) (T:MS) (i:Nat) (s:Env) (h:Heap) (m:Nat):Prop:=
 ∃ ms:MS,(r.Patterns.drop i).foldl (J5a N) ms=T∧s 2 = .int .i64 ms.nx∧RI b n0 vN0 vL0 h0 r (J1a ms.E) (J2x ms.E) ms.rows (s 10) h m∧ms.nx≤1000+i∧ms.E.length≤1000+2*i∧ms.rows.length≤i∧(∀ x∈J1a E0,x∈J1a ms.E)∧∀ e∈ms.E,e.2.Coeffs.length≤8
theorem Jod (E F:SEnv):J1a (E++F)=J1a E++J1a F:=by simp [J1a]
theorem Jle {E:SEnv}{x:Str}{d:DLin}(h:∀ e∈E,e.2.Coeffs.length≤8) (hx:x∈J1a E):(J2n d E x).Coeffs.length≤8:=by
 obtain ⟨l,h1,h2⟩:=Jea d hx
 have:=h2 d []
 rw [List.append_nil] at this
 rw [this];exact h _ h1
theorem Jux {E0:SEnv}{T:MS}(s3:s 3 = .int .i64 N) (s4:s 4 = .ptr n0 0 0) (s5:s 5 = .ptr (n0+1) 0 0) (hb:b<n0) (hN:N≤8) (hp:r.Patterns.length≤100) (hin:∀ q∈r.Patterns,q.Lst∈J1a E0) (J:RJ N b n0 vN0 vL0 h0 r E0 T 0 s h n)
 (hK:∀ s' h' m,(∀ j∈[3,4,5,8,9],s' j=s j)→RI b n0 vN0 vL0 h0 r (J1a T.E) (J2x T.E) T.rows (s' 10) h' m→J25 Tryz.prog ks .normal s' h' m Q):rC Tryz.prog ro2 ks s h n Q:=by
 simp [ro2]
 refine J0k [3,4,5,8,9] 11 r.Patterns.length (RJ N b n0 vN0 vL0 h0 r E0 T) (by unfold LIM;omega) (by simp) (by simpa [RJ] using J) ?_ ?_
 ·rintro i st h' m R hi hg hk s11 hw ⟨ms,hJ,t2,M,hb1,hb2,hb3,hb4,hb5⟩ hR _ _
  simp at hk
  rw [List.drop_eq_getElem_cons hi,List.foldl_cons] at hJ
  have hin:=hin _ (List.getElem_mem hi)
  have l1:=M.lt
  refine J09 (J0g [2,3,4,5,8,9,10,11] (fun s=>s 21 = .bool true) (by simp [hk,s11,s5,M.hr,J0c,hi]) ?_)
  intro st1 hk1 s21
  simp at hk1
  refine J1u s21 (J09 (J0t ?_))
  refine J17 [2,3,4,5,8,9,10,11] (fun s h2 m2=>m2=m+1∧s 12 = .ptr m 0 0∧h2 m=some ⟨true,4,[J08 (r.Patterns[i]'hi)]⟩∧∀ id,id<m→h2 id=h' id) ?_ ?_
  ·have fr:∀ id,id<m→¬id=m:=by intro id _;omega
   simp [hk1,hk,s11,s5,M.hr,J0c,J08,hi]
   exact fun id hid=>by simp [fr id hid]
  rintro st2 h2 m2 hk2 ⟨rfl,s12,em,hfr2⟩
  simp at hk2
  generalize r.Patterns[i]=q at *
  have M2:=M.frame (h':=h2) (m':=m+1) (by omega) hfr2
  have u10:st2 10=st 10:=by rw [hk2.2.2.2.2.2.2.1,hk1.2.2.2.2.2.2.1]
  have hx:q.Lst∈J1a ms.E:=hb4 _ hin
  have hl8:=Jle (d:=J04 0 N) hb5 hx
  have hsl:Jhz N ms q=J4k (J2n (J04 0 N) ms.E q.Lst) 1:=rfl
  have hsp:J5a N ms q=if q.Cons then ⟨ms.E++[(q.Head,J2k ms.nx N),(q.Tail,J4k (J2n (J04 0 N) ms.E q.Lst) 1)],ms.nx+1,ms.rows++[J4k (J2n (J04 0 N) ms.E q.Lst) 1],ms.pars,ms.args⟩
   else ⟨ms.E,ms.nx,ms.rows++[J7z (J04 0 N) (-1) (J2n (J04 0 N) ms.E q.Lst)],ms.pars,ms.args⟩:=rfl
  rw [hsp] at hJ
  refine J17 [2,3,4,5,8,9,10,11,12] (fun s h3 m3=>∃ k,s 13 = .ptr k 0 0∧m+1≤k∧k<m3∧h3 k=some ⟨true,2,[J06 (J2n (J04 0 N) ms.E q.Lst)]⟩∧h3 m=some ⟨true,4,[J08 q]⟩∧RI b n0 vN0 vL0 h0 r (J1a ms.E) (J2x ms.E) ms.rows (st 10) h3 m3) ?_ ?_
  ·obtain ⟨vN,vL,e1,e2,e3,e4,e5⟩:=M2.env
   have w4:st2 4 = .ptr n0 0 0:=by rw [hk2.2.2.1,hk1.2.2.1,hk.2.1,s4]
   have w3:st2 3 = .int .i64 N:=by rw [hk2.2.1,hk1.2.1,hk.1,s3]
   simp [w4,w3,s12,em,e1,J08]
   refine Jiy (d:=J04 0 N) (.inr ⟨b,e2.1 (1,J0d (J1a ms.E),vN) (by simp)⟩) (.inr ⟨b,e2.1 (2,(J2x ms.E).map J06,vL) (by simp)⟩) hx ?_
   intro h3 m3 hm3 hfr3
   have fr:∀ id,id<m3→¬id=m3:=by intro id _;omega
   have em3:=hfr3 m (by omega)
   rw [em] at em3
   simp
   exact ⟨by omega,by simp [fr m (by omega),em3,J08],M2.frame (by omega) fun id hid=>by simp [fr id (by omega),hfr3 id hid]⟩
  rintro st3 h3 m3 hk3 ⟨k,s13,hkm,hkn,hkb,em3,M3⟩
  simp at hk3
  generalize J2n (J04 0 N) ms.E q.Lst=l0 at *
  have v3:st3 3 = .int .i64 N:=by rw [hk3.2.1,hk2.2.1,hk1.2.1,hk.1,s3]
  have v4:st3 4 = .ptr n0 0 0:=by rw [hk3.2.2.1,hk2.2.2.1,hk1.2.2.1,hk.2.1,s4]
  have v12:st3 12 = .ptr m 0 0:=by rw [hk3.2.2.2.2.2.2.2.2,s12]
  have v10:st3 10=st 10:=by rw [hk3.2.2.2.2.2.2.1,u10]
  have kk:st3 2=st 2∧st3 3=st 3∧st3 4=st 4∧st3 5=st 5∧st3 8=st 8∧st3 9=st 9∧st3 11=st 11:=by simp [hk3,hk2,hk1]
  rw [←v10] at M3
  refine J09 ?_
  refine J0g [2,3,4,5,8,9,10,11,12,13] (fun s=>s 36 = .bool (!q.Cons)) (by simp [v12,em3,J08]) ?_
  intro st4 hk4 s36
  simp at hk4
  cases hc:q.Cons
  ·rw [hc] at hJ s36
   simp only [Bool.false_eq_true,if_false] at hJ
   rw [Jgk (show ev st4 (.t 36) = .bool true from s36)]
   refine J09 (Jr7 (l0:=l0) (k:=k) (by rw [hk4.2.1,v3]) (by rw [hk4.2.2.2.2.2.2.2.2.2,s13]) hkn hkb ?_)
   rintro st5 h5 m5 hk5 ⟨k5,q5,s14,o5,p5,x5,y5,z5,w5⟩ hm5 hfr5
   simp at hk5
   have M5:=M3.frame hm5 hfr5
   have l5:=M5.lt
   obtain ⟨vN,vL,e1,e2,e3,e4,e5⟩:=M5.env
   have y1:=e2.1 (2,ms.rows.map J07,st3 10) (by simp)
   have g10:st5 10=st3 10:=by rw [hk5.2.2.2.2.2.2.1,hk4.2.2.2.2.2.2.1]
   have hqv:∀ l,st3 10 ≠ .ref q5 0 l:=fun l e=>by have:=(y1.lt e).2.2.1;rw [w5] at this;simp at this
   generalize J7z (J04 0 N) (-1) l0=lr at *
   have frn:∀ id,id<m5→¬id=m5:=by intro id _;omega
   refine J53 ?_
   simp [g10,s14,z5,w5]
   generalize hv3:st3 10=v3' at *
   refine J32 (rows:=ms.rows.map J07) (rows2:=[[.int .i64 lr.Const,.us 1 (J0e lr.Coeffs)]]) (y1.keep (n':=m5+1) (by omega) fun id _ hid e => ?_) (by simp) (fun l e=>by have:=(y1.lt e).2.1;omega) (by omega) (by simp;unfold LIM;omega) ?_
   ·have:¬id=q5:=fun e'=>hqv _ (by rw [←e'];exact e)
    simp [frn id hid,this]
   intro h6 f1 f2
   simp [hk5,hk4,kk,s11,hw]
   refine hR _ _ _ (by simp [hk5,hk4,kk,hk]) (by simp) ⟨_,hJ,by simp [hk5,hk4,kk,t2],?_,by show ms.nx≤_;omega,by show ms.E.length≤_;omega,by show (ms.rows++[_]).length≤_;simp;omega,hb4,hb5⟩
   simp
   refine M3.rows (by omega) (.inr ⟨m5+1,by omega,by omega,by simp,by simp [f1,J07]⟩) (fun i k e=>by simp only [AV.ref.injEq] at e;omega) ?_
   intro id h1 h2
   have:¬id=q5:=by omega
   rw [f2 id (by omega) (by omega) h2]
   simp [this,frn id (by omega),hfr5 id h1]
  ·rw [hc] at hJ s36
   simp only [if_true] at hJ
   rw [Jka (show ev st4 (.t 36) = .bool false from s36),Jpd]
   refine J53 ?_
   have l3:=M3.lt
   obtain ⟨vN,vL,e1,e2,e3,e4,e5⟩:=M3.env
   have y1:=e2.1 (2,ms.rows.map J07,st3 10) (by simp)
   have x13:st4 13 = .ptr k 0 0:=by rw [hk4.2.2.2.2.2.2.2.2.2,s13]
   have x10:st4 10=st3 10:=by rw [hk4.2.2.2.2.2.2.1]
   have frn:∀ id,id<m3→¬id=m3∧¬id=m3+1:=by intro id _;omega
   refine J17 [2,3,4,5,8,9,11,12,13] (fun s h5 m5=>m3≤m5∧h5 k=some ⟨true,2,[J06 l0]⟩∧h5 m=some ⟨true,4,[J08 q]⟩∧RI b n0 vN0 vL0 h0 r (J1a ms.E) (J2x ms.E) (ms.rows++[J4k l0 1]) (s 10) h5 m5) ?_ ?_
   ·simp [x10,x13,hkb]
    first|refine J00 (Ja5 l0 1 (by omega)) (by first|simp;done|rfl) ?_|refine J01 (Ja5 l0 1 (by omega)) (by first|simp;done|rfl) ?_
    rintro r rfl
    generalize J4k l0 1=lm at *
    simp [J07]
    generalize hv3:st3 10=v3' at *
    refine J32 (rows:=ms.rows.map J07) (rows2:=[[.int .i64 lm.Const,.us 1 (J0e lm.Coeffs)]]) (y1.keep (n':=m3+1+1) (by omega) fun id _ hid e=>by simp [frn id hid]) (by simp) (fun l e=>by have:=(y1.lt e).2.1;omega) (by omega) (by simp;unfold LIM;omega) ?_
    intro h6 f1 f2
    have bx:∀ id z rows,id<m3→h3 id=some ⟨true,z,rows⟩→h6 id=h3 id:=by
     intro id z rows h1' h3'
     rw [f2 id (by omega) (by omega) fun l e=>y1.not_box h3' e]
     simp [frn id h1']
    simp
    refine ⟨by omega,by rw [bx k _ _ hkn hkb,hkb],by rw [bx m _ _ (by omega) em3,em3],M3.rows (by omega) (.inr ⟨m3+2,by omega,by omega,by simp,by simp [f1,J07]⟩) (fun i k e=>by simp only [AV.ref.injEq] at e;omega) ?_⟩
    intro id h1 h2
    rw [f2 id (by omega) (by omega) h2]
    simp [frn id (by omega)]
   rintro st5 h5 m5 hk5 ⟨hm5,hkb5,em5,M5⟩
   simp at hk5
   have hkl:ms.E.length≤100000:=by
    have:i<r.Patterns.length:=hi
    omega
   have hkn0:k≠n0:=by omega
   refine J09 (Jsd (q:=q) (k:=m) (by rw [hk5.2.2.1,hk4.2.2.1,v4]) (by rw [hk5.2.2.2.2.2.2.2.1,hk4.2.2.2.2.2.2.2.2.1,v12]) M5 hb (by omega) em5 (by simp [J1a];omega) ?_)
   intro st6 h6 m6 hk6 hm6 bx6 M6
   simp at hk6
   refine J53 (J09 (Jrp (ls:=J2x ms.E) (l0:=l0) (k:=k) (at':=ms.nx) (by rw [hk6.1,hk5.1,hk4.1,kk.1,t2]) (by rw [hk6.2.1,hk5.2.1,hk4.2.1,v3]) (by rw [hk6.2.2.2.2.2.2.2.2.2,hk5.2.2.1,hk4.2.2.1,v4]) (by rw [hk6.2.2.2.2.2.2.2.2.1,hk5.2.2.2.2.2.2.2.2,x13]) M6 hb (by omega) (by rw [bx6 k _ _ (by omega) hkn0 hkb5,hkb5]) hkn0 (by simp [J2x];omega) (by omega) ?_))
   intro st7 h7 m7 hk7 hm7 bx7 M7
   simp at hk7
   have hw2:IntKind.i64.wrap ((ms.nx:Int)+1)=(ms.nx:Int)+1:=J19 (by omega)
   have z2:st7 2 = .int .i64 ms.nx:=by rw [hk7.1,hk6.1,hk5.1,hk4.1,kk.1,t2]
   simp [hk7,hk6,hk5,hk4,kk,s11,hw,t2,hw2]
   refine hR _ _ _ (by simp [hk7,hk6,hk5,hk4,kk,hk]) (by simp) ⟨_,hJ,by simp,?_,by show ms.nx+1≤_;omega,by show (ms.E++_).length≤_;simp;omega,by show (ms.rows++[_]).length≤_;simp;omega,?_,?_⟩
   ·have hkE:J1a (ms.E++[(q.Head,J2k ms.nx N),(q.Tail,J4k l0 1)])=J1a ms.E++[q.Head,q.Tail]:=by simp [J1a]
    have hvE:J2x (ms.E++[(q.Head,J2k ms.nx N),(q.Tail,J4k l0 1)])=J2x ms.E++[J2k ms.nx N,J4k l0 1]:=by simp [J2x]
    simp only
    rw [hkE,hvE]
    have:st7 10=st5 10:=by rw [hk7.2.2.2.2.2.1,hk6.2.2.2.2.2.1]
    simp
    rw [this]
    exact M7
   ·intro x hx
    show x∈J1a (ms.E++_)
    rw [Jod];exact List.mem_append_left _ (hb4 x hx)
   ·intro e he
    rcases List.mem_append.1 he with he|he
    ·exact hb5 e he
    ·simp at he
     rcases he with rfl|rfl
     ·exact J66 N (by omega)
     ·exact hl8
 ·rintro st h' m R hk s11 ⟨ms,hJ,t2,M,hb1,hb2,hb3,hb4,hb5⟩ _ hX
  simp at hk
  rw [List.drop_eq_nil_of_le (by omega)] at hJ
  simp only [List.foldl_nil] at hJ
  subst hJ
  refine J09 (J0g [3,4,5,8,9,10] (fun s=>s 21 = .bool false) (by simp [hk,s11,s5,M.hr,J0c]) ?_)
  intro st1 hk1 s21
  simp at hk1
  refine J1s s21 ?_
  refine hX _ _ _ _ ?_
  simp
  refine hK _ _ _ (by simp [hk1,hk]) ?_
  rw [hk1.2.2.2.2.2];exact M
end
section
variable {h h':Heap}{n n' N:Nat}{b:Nat}{r:DRule}
theorem Jep.keepB {l:List (Nat×List (List AV)×AV)}(A:Jep b l h n) (hn:n≤n') (hh:∀ id,b<id→id<n→(∃ z rows,h id=some ⟨false,z,rows⟩)→h' id=h id):Jep b l h' n':=
 ⟨fun x hx=>(A.1 x hx).keep hn fun id hb hid e=>hh id hb hid ⟨_,_,((A.1 x hx).lt e).2.2.1⟩,A.2⟩
theorem Joz {E0:SEnv}{vN0 vL0:AV}{at':Nat}(A:Jep b [(1,J0d (J1a E0),vN0),(2,(J2x E0).map J06,vL0)] h n) (hb:b<n) (hN:N≤8) (hat:at'≤1000) (hE:E0.length≤1000) (hp:r.Patterns.length≤100) (hin:∀ q∈r.Patterns,q.Lst∈J1a E0) (hv:∀ e∈E0,e.2.Coeffs.length≤8)
 {K:AV→Heap→Nat→Prop}(hK:∀ vN vL vR h' n',n≤n'→(∀ id,id<n→(∀ k,vN0 ≠ .ref id 0 k)→(∀ k,vL0 ≠ .ref id 0 k)→h' id=h id) →
  Jep b [(1,J0d (J1a (r.Patterns.foldl (J5a N) ⟨E0,at',[],[],[]⟩).E),vN),(2,(J2x (r.Patterns.foldl (J5a N) ⟨E0,at',[],[],[]⟩).E).map J06,vL),(2,(r.Patterns.foldl (J5a N) ⟨E0,at',[],[],[]⟩).rows.map J07,vR)] h' n' →
  Old vN0 vN n→Old vL0 vL n→Old (.nil 2) vR n→K (.tup [.agg [vN,vL],vR]) h' n') :
 J30 Tryz.prog 266 [.agg [vN0,vL0],.agg (J0c r),i64 at',i64 N] h n K:=by
 refine J1z Tryz.func266 a266_ok rfl (by simp [a266]) ?_
 have cN:=(A.1 (1,J0d (J1a E0),vN0) (by simp)).cell
 have cL:=(A.1 (2,(J2x E0).map J06,vL0) (by simp)).cell
 have ne:¬n=n+1∧¬n+1=n∧¬n=n+1+1∧¬n=n+1+1+1∧¬n+1=n+1+1∧¬n+1=n+1+1+1∧¬n+1+1=n+1+1+1∧¬n+2=n+1+1+1∧¬n+3=n:=by omega
 have fr:∀ id,id<n→¬id=n∧¬id=n+1∧¬id=n+1+1∧¬id=n+1+1+1∧¬id=n+2∧¬id=n+3:=by intro id _;omega
 simp [a266,ro0,ro1,-J0n,cN,cL]
 generalize hT:r.Patterns.foldl (J5a N) ⟨E0,at',[],[],[]⟩=T at hK
 refine Jux (E0:=E0) (T:=T) (b:=b) (n0:=n) (vN0:=vN0) (vL0:=vL0) (h0:=h) (r:=r) (N:=N) (by simp) (by simp) (by simp) hb hN hp hin ?_ ?_
 ·refine ⟨⟨E0,at',[],[],[]⟩,by simpa using hT,by simp,⟨by omega,by simp [ne],by simp [ne],fun id h1 _ _=>by simp [fr id h1],vN0,vL0,by simp [ne],?_,.inl rfl,.inl rfl,?_⟩,by omega,by simpa using hE,by simp,fun x hx=>hx,hv⟩
  ·obtain ⟨A1,A2⟩:=A
   simp only [List.pairwise_cons,List.mem_cons,List.not_mem_nil,or_false,forall_eq] at A2
   have y1:=A1 (1,J0d (J1a E0),vN0) (by simp)
   have y2:=A1 (2,(J2x E0).map J06,vL0) (by simp)
   refine ⟨?_,?_⟩
   ·intro x hx
    simp only [List.mem_cons,List.not_mem_nil,or_false] at hx
    rcases hx with rfl|rfl|rfl
    ·exact y1.keep (by omega) fun id _ hid _=>by simp [fr id hid]
    ·exact y2.keep (by omega) fun id _ hid _=>by simp [fr id hid]
    ·simp
     exact .inr ⟨n+3,by omega,by omega,by simp,by simp [ne]⟩
   ·simp only [List.pairwise_cons,List.mem_cons,List.not_mem_nil,or_false,forall_eq_or_imp,forall_eq]
    refine ⟨⟨A2.1,?_⟩,?_,?_⟩
    ·intro i k l e1 e2
     simp at e2
     have:=(y1.lt e1).2.1;omega
    ·intro i k l e1 e2
     simp at e2
     have:=(y2.lt e1).2.1;omega
    ·simp
  ·simp
   exact .fresh (by omega)
 intro s' h1 m hk1 M
 simp at hk1
 have l1:=M.lt
 obtain ⟨vN,vL,e1,e2,e3,e4,e5⟩:=M.env
 have dN:=(e2.1 (1,J0d (J1a T.E),vN) (by simp)).cell
 have dL:=(e2.1 (2,(J2x T.E).map J06,vL) (by simp)).cell
 have M8:=M.hz
 refine J53 ?_
 simp [ro3,hk1,e1,-J0n,dN,dL,M8]
 refine hK _ _ _ _ _ (by omega) ?_ ?_ e3 e4 e5
 ·intro id h1' h2 h3
  simp [fr id h1',M.fr id h1' h2 h3]
 ·refine e2.keepB (Nat.le_refl _) fun id _ _ hf => ?_
  have:¬id=n+2:=by
   rintro rfl
   obtain ⟨z,rows,hf⟩:=hf
   rw [M8] at hf;simp at hf
  simp [this]
end
end Go.Proofs.YtoclolkigjbcgaaGreat

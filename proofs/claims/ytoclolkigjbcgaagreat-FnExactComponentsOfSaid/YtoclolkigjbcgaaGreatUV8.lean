/- Contracts: valid programs. -/
import Derived.Test.YtoclolkigjbcgaaGreatUV4
import Derived.Test.YtoclolkigjbcgaaGreatUC13
namespace Go.Proofs.YtoclolkigjbcgaaGreat
set_option maxRecDepth 40000
set_option maxHeartbeats 4000000
open Go Go.RowKit Go.Proofs
set_option linter.all false
theorem a147_ok:J08 Tryz.prog Tryz.f147=some (J1z 235):=by kernel_rfl
theorem a235_ok:J08 Tryz.prog Tryz.f235=some (J2r true 7):=by kernel_rfl
def a217:AFn:= ⟨18,[.t 2],(.seq (.reg [Zo 2 (.mv (.k (.bool false)))]) (.seq (.seq (.reg [Zo 3 (.mv (.k (.int .i64 0)))]) (.blk 0 (.loop (.seq (.seq (.reg [Zv 4 3,Zv 5 0,Zo 6 (.len false (.t 5)),Zo 7 (.bin .lss (.t 4) (.t 6))]) (.cond (.t 7) .skip (.exit 0))) (.seq (.blk 1 (.seq (.reg [Zv 10 0,Zv 11 3,Zo 12 (.ixa 1 (.t 10) (.t 11)),Zl 13 false 1 12,Zc 14 285 [.t 13],Zo 15 (.un .not (.t 14))]) (.cond (.t 15) (.seq (.reg [Zo 2 (.mv (.k (.bool false)))]) .ret) .skip))) (.reg [Zv 8 3,Zo 9 (.bin .add (.t 8) (.k (.int .i64 1))),Zv 3 9])))))) (.seq (.reg [Zv 16 0,Zc 17 218 [.t 16],Zv 2 17]) .ret)))⟩
theorem a217_ok:J08 Tryz.prog Tryz.f217=some a217:=by kernel_rfl
def a142:AFn:= ⟨6,[.t 2],(.seq (.reg [Zo 2 (.mv (.k (.bool false)))]) (.seq (.reg [Zv 3 0,Zc 4 143 [.t 3],Zo 5 (.un .not (.t 4)),Zv 2 5]) .ret))⟩
theorem a142_ok:J08 Tryz.prog Tryz.f142=some a142:=by kernel_rfl
def a145:AFn:= ⟨10,[.t 3],(.seq (.reg [Zo 2 (.boxv (.t 0)),Zo 3 (.mv (.k (.bool false)))]) (.seq (.reg [Zl 4 true 2 2,Zf 5 1 1,Zl 6 false 1 5,Zo 7 (.len false (.t 6)),Zc 8 146 [.t 4,.t 7],Zo 9 (.un .not (.t 8)),Zv 3 9]) .ret))⟩
theorem a145_ok:J08 Tryz.prog Tryz.f145=some a145:=by kernel_rfl
def a148:AFn:= ⟨8,[.t 3],(.seq (.reg [Zo 2 (.boxv (.t 0)),Zo 3 (.mv (.k (.bool false)))]) (.seq (.reg [Zl 4 true 2 1,Zl 5 true 7 2,Zc 6 149 [.t 4,.t 5],Zo 7 (.un .not (.t 6)),Zv 3 7]) .ret))⟩
theorem a148_ok:J08 Tryz.prog Tryz.f148=some a148:=by kernel_rfl
def a67:AFn:= ⟨69,[.t 2],(.seq (.reg [Zo 1 (.boxv (.t 0)),Zo 2 (.mv (.k (.bool false)))]) (.seq (.seq (.reg [Zf 5 0 1,Zl 6 false 1 5,Zo 7 (.len false (.t 6)),Zc 8 102 [.t 7,(.k (.int .i64 1)),(.k (.int .i64 3))],Zo 9 (.un .not (.t 8)),Zv 10 9,⟨some 11,.fld 1 (.t 1),(some (10,false))⟩,⟨some 12,.ld false 1 (.t 11),(some (10,false))⟩,⟨some 13,.len false (.t 12),(some (10,false))⟩,⟨some 14,.bin .gtr (.t 13) (.k (.int .i64 8)),(some (10,false))⟩,Zo 15 (.pick (.t 10) (.k (.bool true)) (.t 14))]) (.cond (.t 15) (.seq (.reg [Zo 2 (.mv (.k (.bool false)))]) .ret) .skip)) (.seq (.seq (.reg [Zf 16 0 1,Zl 17 false 1 16,Zo 18 (.len false (.t 17)),Zo 19 (.mv (.k (.int .i64 0)))]) (.blk 0 (.loop (.seq (.reg [Zo 20 (.bin .lss (.t 19) (.t 18))]) (.seq (.cond (.t 20) .skip (.exit 0)) (.seq (.blk 1 (.seq (.reg [Zv 21 19,Zo 22 (.ixa 4 (.t 17) (.t 19)),Zl 23 true 4 22,Zo 4 (.box [(.str []),(.nil 1),(.bool false),(.nil 2)]),Zv 3 21,⟨no,.st 4 (.t 4) (.t 23),no⟩]) (.seq (.seq (.reg [Zf 24 0 4,Zl 25 false 1 24,Zc 26 140 [.t 25],Zo 27 (.un .not (.t 26)),Zv 28 27,⟨some 29,.ld true 2 (.t 1),(some (28,false))⟩,⟨some 30,.fld 0 (.t 4),(some (28,false))⟩,⟨some 31,.ld false 1 (.t 30),(some (28,false))⟩,⟨some 32,.call (.k (.fn (.func 84) [] [])) [.t 29,.t 31],(some (28,false))⟩,⟨some 33,.mv (.t 3),(some (28,false))⟩,⟨some 34,.bin .neq (.t 32) (.t 33),(some (28,false))⟩,Zo 35 (.pick (.t 28) (.k (.bool true)) (.t 34)),Zv 36 35,⟨some 37,.fld 1 (.t 4),(some (36,false))⟩,⟨some 38,.ld false 1 (.t 37),(some (36,false))⟩,⟨some 39,.len false (.t 38),(some (36,false))⟩,⟨some 40,.bin .gtr (.t 39) (.k (.int .i64 2)),(some (36,false))⟩,Zo 41 (.pick (.t 36) (.k (.bool true)) (.t 40)),Zv 42 41,⟨some 43,.fld 1 (.t 4),(some (42,false))⟩,⟨some 44,.ld false 1 (.t 43),(some (42,false))⟩,⟨some 45,.call (.k (.fn (.func 141) [] [])) [.t 44],(some (42,false))⟩,⟨some 46,.un .not (.t 45),(some (42,false))⟩,Zo 47 (.pick (.t 42) (.k (.bool true)) (.t 46)),Zv 48 47,⟨some 49,.fld 3 (.t 4),(some (48,false))⟩,⟨some 50,.ld false 1 (.t 49),(some (48,false))⟩,⟨some 51,.len false (.t 50),(some (48,false))⟩,⟨some 52,.bin .gtr (.t 51) (.k (.int .i64 2)),(some (48,false))⟩,Zo 53 (.pick (.t 48) (.k (.bool true)) (.t 52))]) (.cond (.t 53) (.seq (.reg [Zo 2 (.mv (.k (.bool false)))]) .ret) .skip)) (.seq (.reg [Zf 54 1 4,Zl 55 false 1 54,Zc 56 69 [.t 55,(.k (.fn (.func 142) [] []))],Zv 57 56,⟨some 58,.fld 3 (.t 4),(some (57,false))⟩,⟨some 59,.ld false 1 (.t 58),(some (57,false))⟩,⟨some 60,.mkf (.func 145) [] [.t 4],(some (57,false))⟩,⟨some 61,.call (.k (.fn (.func 144) [] [])) [.t 59,.t 60],(some (57,false))⟩,Zo 62 (.pick (.t 57) (.k (.bool true)) (.t 61))]) (.cond (.t 62) (.seq (.reg [Zo 2 (.mv (.k (.bool false)))]) .ret) .skip))))) (.reg [Zo 63 (.bin .add (.t 19) (.k (.int .i64 1))),Zv 19 63]))))))) (.seq (.reg [Zf 64 1 1,Zl 65 false 1 64,Zo 66 (.mkf (.func 148) [] [.t 1]),Zc 67 147 [.t 65,.t 66],Zo 68 (.un .not (.t 67)),Zv 2 68]) .ret))))⟩
theorem a67_ok:J08 Tryz.prog Tryz.f67=some a67:=by kernel_rfl
theorem Jd9 (l:List Str):Holds Tryz.prog 217 [.sl 1 (J05 l)] (fun r=>r = .bool (l.all J2h&&J6u l)):=by
 refine J1f Tryz.func217 rfl rfl fun hl => ?_
 simp at hl
 refine J01 Tryz.func217 a217_ok rfl (by simp [a217]) ?_
 simp [a217]
 generalize hB:l.all J2h=B
 refine J5e [0] 3 l.length (fun i _=>(l.drop i).all J2h=B) hl (by simp) (by simpa using hB) ?_ ?_
 ·rintro i st h R hi hg hk s3 hw hJ hh hR hret _
  simp at hk
  rw [List.drop_eq_getElem_cons hi,List.all_cons] at hJ
  simp [hk,s3,hi,hg]
  intro _
  first|refine J02 (J20 (l[i]'hi)) (by first|simp;done|rfl) ?_|refine J03 (J20 (l[i]'hi)) (by first|simp;done|rfl) ?_
  rintro r rfl
  cases hc:J2h l[i]
  ·rw [hc,Bool.false_and] at hJ
   subst hJ
   simp
   refine hret _ _ _ ?_
   simp
  ·rw [hc,Bool.true_and] at hJ
   simp [hk,s3,hw]
   exact hR _ (by simp [hk]) (by simp) hJ
 ·rintro st h R hk s3 hJ hh _ hX
  simp at hk
  rw [List.drop_eq_nil_of_le (by omega)] at hJ
  simp at hJ
  subst hJ
  simp [hk,s3]
  intro _
  refine hX _ _ ?_
  simp [hk]
  first|refine J02 (J2z l) (by first|simp;done|rfl) ?_|refine J03 (J2z l) (by first|simp;done|rfl) ?_
  rintro r rfl
  simp
theorem Jz9 (s:Str):Holds Tryz.prog 142 [.str s] (fun r=>r = .bool (!J2h s)):=by
 refine J01 Tryz.func142 a142_ok rfl (by simp [a142]) ?_
 simp [a142]
 first|refine J02 (J3o s) (by first|simp;done|rfl) ?_|refine J03 (J3o s) (by first|simp;done|rfl) ?_
 rintro r rfl
 simp
theorem Jn3 {h:Heap}{n id:Nat}{f:DFunction}(x:DLin) (hv:h id=some ⟨true,4,[J04 f]⟩) (hid:id<n):Jce Tryz.prog 145 [] [.ptr id 0 0] h n (.agg (J12 x)) (.bool (!J6i x f.Params.length)):=by
 intro K hK
 refine J9a ?_
 refine J14 Tryz.func145 a145_ok rfl (by simp [a145]) ?_
 have n1:¬id=n:=by omega
 simp [a145,hv,n1,J12,J04]
 intro _
 first|refine J02 (Ja4 x f.Params.length) (by first|simp [J12];done|rfl) ?_|refine J03 (Ja4 x f.Params.length) (by first|simp [J12];done|rfl) ?_
 rintro r rfl
 simp [Jex,hK]
 intro j hj hj'
 omega
theorem Jmx {h:Heap}{n id:Nat}{p:DProgram}(x:DRule) (hp:J0d p≤1048576) (hx:J3f x≤1048576) (hv:h id=some ⟨true,2,[J00 p]⟩) (hid:id<n):Jce Tryz.prog 148 [] [.ptr id 0 0] h n (.agg (J0a x)) (.bool (!J68 p x)):=by
 intro K hK
 refine J9a ?_
 refine J14 Tryz.func148 a148_ok rfl (by simp [a148]) ?_
 have n1:¬id=n:=by omega
 simp [a148,hv,n1,J0a,J00]
 first|refine J02 (J8t p x hp hx) (by first|simp [J0a,J00];done|rfl) ?_|refine J03 (J8t p x hp hx) (by first|simp [J0a,J00];done|rfl) ?_
 rintro r rfl
 simp [Jex,hK]
 intro j hj hj'
 omega
theorem J7p {p:DProgram}(hp:J0d p≤1048576):∀ r∈p.Rules,J3f r≤1048576:=fun r hr=>by
 have:=J3i (w:=J3f) hr
 unfold J0d J6z at hp
 omega
theorem Jfu {met:List Str}{l:List DFunction}{i:Nat}(hi:i<l.length):J6r met (l.drop i)=((Jh9 l[i] && !J1a met (l[i]).Name)&&J6r (met++[(l[i]).Name]) (l.drop (i+1))):=by
 rw [List.drop_eq_getElem_cons hi];rfl
def Je2 (l:List DFunction) (i:Nat):List Str:=(l.take i).map (·.Name)
theorem Jf3 {l:List DFunction}{i:Nat}(hi:i<l.length):Je2 l (i+1)=Je2 l i++[(l[i]).Name]:=by unfold Je2;rw [List.take_succ_eq_append_getElem hi,List.map_append];rfl
theorem J3z (p:DProgram) (hp:J0d p≤1048576):Holds Tryz.prog 67 [.agg (J00 p)] (fun x=>x = .bool (J3q p)):=by
 have hlf:p.Functions.length≤1048576:=by have:=J1h J0j p.Functions;unfold J0d J17 at hp;omega
 refine J01 Tryz.func67 a67_ok rfl (by simp [a67]) ?_
 simp [a67,J00]
 intro _
 first|refine J02 (J3y p.Functions.length 1 3) (by first|simp;done|rfl) ?_|refine J03 (J3y p.Functions.length 1 3) (by first|simp;done|rfl) ?_
 rintro r rfl
 unfold J3q
 cases h1:inR p.Functions.length 1 3
 ·simp
 simp
 intro _
 have hdg:decide (p.Rules.length≤8)=decide ((p.Rules.length:Int)≤8):=by rw [decide_eq_decide];omega
 by_cases h2:(p.Rules.length:Int)≤8
 case neg=>
  have h2n:¬p.Rules.length≤8:=by omega
  simp [h2,h2n,Int.not_le.1 h2]
 have h2n:p.Rules.length≤8:=by omega
 simp [h2,h2n,Int.not_lt.2 h2]
 intro _
 generalize hB:J6r [] p.Functions=B
 refine J0h [1,17,18] 19 p.Functions.length (fun i s h n=>0<n∧h 0=some ⟨true,2,[J00 p]⟩∧J6r (Je2 p.Functions i) (p.Functions.drop i)=B) (by unfold LIM;omega) (by simp) ⟨by simp,by simp [J00],by simpa [Je2] using hB⟩ ?_ ?_
 ·rintro i st h n R hi hg hk s19 hw ⟨hn,e0,hJ⟩ hR hret _
  simp at hk
  rw [Jfu hi,←Jf3 hi] at hJ
  have z0:¬0=n:=by omega
  have z1:¬n=0:=by omega
  refine J0e [1,17,18,19] (fun s=>s 20 = .bool true) (by simp [hk,s19,hi]) ?_
  intro st1 hk1 s20
  simp at hk1
  refine J4m s20 (J0c (J1d ?_))
  refine J1q [1,17,18,19] (fun s h' n'=>s 3 = .int .i64 i∧s 4 = .ptr n 0 0∧n'=n+1∧h' n=some ⟨true,4,[J04 p.Functions[i]]⟩∧h' 0=some ⟨true,2,[J00 p]⟩) (by simp [hk,hk1,s19,hi,J04,e0,z0,z1]) ?_
  rintro st2 h2' n2 hk2 ⟨s3,s4,rfl,en,e0'⟩
  simp at hk2
  generalize hf:p.Functions[i]=f at *
  refine J0c (J0e [1,3,4,17,18,19] (fun s=>s 53 = .bool (!J1i f.Name||J1a (Je2 p.Functions i) f.Name || !decide (f.Params.length≤2) || !J6u f.Params || !decide (f.Pre.length≤2))) ?_ ?_)
  ·have hdp:decide (f.Params.length≤2)=decide ((f.Params.length:Int)≤2):=by rw [decide_eq_decide];omega
   have hdq:decide (f.Pre.length≤2)=decide ((f.Pre.length:Int)≤2):=by rw [decide_eq_decide];omega
   rw [hdp,hdq]
   simp [hk,hk1,hk2,s4,s3,en,e0',J04,z0,z1]
   first|refine J02 (J3e f.Name) (by first|simp;done|rfl) ?_|refine J03 (J3e f.Name) (by first|simp;done|rfl) ?_
   rintro r rfl
   cases g1:J1i f.Name
   ·simp
   simp [hk,hk1,hk2,s4,s3,en,e0',J04,J00,z0,z1]
   first|refine J02 (J47 p f.Name) (by first|simp [J00];done|rfl) ?_|refine J03 (J47 p f.Name) (by first|simp [J00];done|rfl) ?_
   rintro r rfl
   have hidx:=Jji hi
   rw [hf] at hidx
   rw [show List.map (·.Name) (List.take i p.Functions)=Je2 p.Functions i from rfl] at hidx
   generalize J0p (fun g=>g.Name==f.Name) p.Functions 0=k1 at hidx
   cases g2:J1a (Je2 p.Functions i) f.Name
   case true=>
    rw [g2] at hidx
    have hk1n:¬k1=(i:Int):=by simpa using hidx
    simp [hk1n,s3]
   rw [g2] at hidx
   have hk1n:k1=(i:Int):=by simpa using hidx
   subst hk1n
   simp [hk,hk1,hk2,s4,s3,en,e0',J04,J00,z0,z1]
   intro _
   by_cases g3:(f.Params.length:Int)≤2
   case neg=>simp [g3,Int.not_le.1 g3]
   simp [g3,Int.not_lt.2 g3,hk,hk1,hk2,s4,s3,en,e0',J04,J00,z0,z1]
   first|refine J02 (J57 f.Params) (by first|simp;done|rfl) ?_|refine J03 (J57 f.Params) (by first|simp;done|rfl) ?_
   rintro r rfl
   cases g4:J6u f.Params
   ·simp
   simp [hk,hk1,hk2,s4,s3,en,e0',J04,J00,z0,z1]
   intro _
   by_cases g5:(f.Pre.length:Int)≤2
   ·simp [g5,Int.not_lt.2 g5]
   ·simp [g5,Int.not_le.1 g5]
  intro st3 hk3 s53
  simp at hk3
  generalize hcc:(!J1i f.Name||J1a (Je2 p.Functions i) f.Name || !decide (f.Params.length≤2) || !J6u f.Params || !decide (f.Pre.length≤2))=cc at *
  have hbody:(Jh9 f && !J1a (Je2 p.Functions i) f.Name)=(!cc&&(f.Params.all J2h&&f.Pre.all fun l=>J6i l f.Params.length)):=by
   rw [←hcc]
   unfold Jh9
   cases J1i f.Name <;> cases J1a (Je2 p.Functions i) f.Name <;> cases decide (f.Params.length≤2) <;> cases J6u f.Params <;> cases decide (f.Pre.length≤2) <;> cases f.Params.all J2h <;> simp
  rw [hbody] at hJ
  clear hbody hcc
  cases cc
  case true=>
   simp at hJ
   simp [s53]
   refine hret _ _ _ ?_
   simp [hJ]
  refine Je5 s53 ?_
  simp only [Jb1]
  simp only [Bool.not_false,Bool.true_and] at hJ
  refine J0e [1,3,4,17,18,19] (fun s=>s 62 = .bool (!(f.Params.all J2h&&f.Pre.all fun l=>J6i l f.Params.length))) ?_ ?_
  ·simp [hk,hk1,hk2,hk3,s4,s3,en,e0',J04,z0,z1]
   refine J15 (p:=fun s => !J2h s) (rowOf:=fun s=>[.str s]) (eltOf:=fun s => .str s) Tryz.func69 a69_ok rfl Tryz.func150 a150_ok rfl (fun x=>by simp) f.Params
    (fun s _=>J60 (Jz9 s) rfl rfl) ?_
   rw [J9o]
   cases g1:f.Params.all J2h
   ·simp
   simp [hk,hk1,hk2,hk3,s4,s3,en,e0',J04,z0,z1]
   refine J15 (p:=fun l => !J6i l f.Params.length) (rowOf:=J12) (eltOf:=fun l => .agg (J12 l)) Tryz.func144 a144_ok rfl Tryz.func231 a231_ok rfl (fun x=>by simp) f.Pre
    (fun x _=>Jn3 (f:=f) x en (Nat.lt_succ_self n)) ?_
   rw [J9o]
   simp
  intro st4 hk4 s62
  simp at hk4
  generalize (f.Params.all J2h&&f.Pre.all fun l=>J6i l f.Params.length)=D at *
  cases D
  ·rw [Bool.false_and] at hJ
   subst hJ
   simp [s62]
   refine hret _ _ _ ?_
   simp
  ·rw [Bool.true_and] at hJ
   simp [hk,hk1,hk2,hk3,hk4,s62,s19,hw]
   exact hR _ _ _ (by simp [hk,hk1,hk2,hk3,hk4]) (by simp) ⟨by omega,e0',hJ⟩
 rintro st h n R hk s19 ⟨hn,e0,hJ⟩ hret hX
 simp at hk
 rw [List.drop_eq_nil_of_le (by omega)] at hJ
 refine J0e [1] (fun s=>s 20 = .bool false) (by simp [hk,s19]) ?_
 intro st1 hk1 s20
 simp at hk1
 refine J4k s20 ?_
 refine hX _ _ _ _ ?_
 simp [J6r] at hJ
 subst hJ
 clear hX hret hB
 simp [hk,hk1,e0,J00]
 refine J15 (p:=fun r => !J68 p r) (rowOf:=J0a) (eltOf:=fun r => .agg (J0a r)) Tryz.func147 a147_ok rfl Tryz.func235 a235_ok rfl (fun x=>by simp) p.Rules
  (fun x hx=>Jmx x hp (J7p hp x hx) e0 hn) ?_
 rw [J9o]
 simp
def a134:AFn:= ⟨69,[.t 2],(.seq (.reg [Zo 2 (.mv (.k (.bool false)))]) (.seq (.reg [Zo 7 (.bsl 1 []),Zv 3 7]) (.seq (.seq (.reg [Zo 4 (.mv (.k (.int .i64 0)))]) (.blk 0 (.loop (.seq (.seq (.reg [Zv 8 4,Zv 9 0,Zo 10 (.len false (.t 9)),Zo 11 (.bin .lss (.t 8) (.t 10))]) (.cond (.t 11) .skip (.exit 0))) (.seq (.blk 1 (.seq (.reg [Zv 14 0,Zv 15 4,Zo 16 (.ixa 4 (.t 14) (.t 15)),Zl 17 true 4 16,Zo 5 (.box [(.str []),(.nil 1),(.bool false),(.nil 2)]),⟨no,.st 4 (.t 5) (.t 17),no⟩]) (.seq (.seq (.reg [Zf 18 0 5,Zl 19 false 1 18,Zc 20 216 [.t 19],Zo 21 (.un .not (.t 20)),Zv 22 21,⟨some 23,.fld 1 (.t 5),(some (22,false))⟩,⟨some 24,.ld false 1 (.t 23),(some (22,false))⟩,⟨some 25,.len false (.t 24),(some (22,false))⟩,⟨some 26,.bin .gtr (.t 25) (.k (.int .i64 2)),(some (22,false))⟩,Zo 27 (.pick (.t 22) (.k (.bool true)) (.t 26)),Zv 28 27,⟨some 29,.fld 1 (.t 5),(some (28,false))⟩,⟨some 30,.ld false 1 (.t 29),(some (28,false))⟩,⟨some 31,.call (.k (.fn (.func 217) [] [])) [.t 30],(some (28,false))⟩,⟨some 32,.un .not (.t 31),(some (28,false))⟩,Zo 33 (.pick (.t 28) (.k (.bool true)) (.t 32)),Zv 34 33,⟨some 35,.fld 3 (.t 5),(some (34,false))⟩,⟨some 36,.ld false 1 (.t 35),(some (34,false))⟩,⟨some 37,.len false (.t 36),(some (34,false))⟩,⟨some 38,.bin .gtr (.t 37) (.k (.int .i64 2)),(some (34,false))⟩,Zo 39 (.pick (.t 34) (.k (.bool true)) (.t 38))]) (.cond (.t 39) (.seq (.reg [Zo 2 (.mv (.k (.bool false)))]) .ret) .skip)) (.seq (.seq (.reg [Zo 6 (.mv (.k (.int .i64 0)))]) (.blk 2 (.loop (.seq (.seq (.reg [Zv 40 6,Zf 41 3 5,Zl 42 false 1 41,Zo 43 (.len false (.t 42)),Zo 44 (.bin .lss (.t 40) (.t 43))]) (.cond (.t 44) .skip (.exit 2))) (.seq (.blk 3 (.seq (.draw (.op (Zf 47 3 5) (.op (Zl 48 false 1 47) (.op (Zv 49 6) (.op (Zo 50 (.ixa 2 (.t 48) (.t 49))) (.op (Zl 51 true 2 50) (.op (Zf 52 1 5) (.op (Zl 53 false 1 52) (.op (Zo 54 (.len false (.t 53))) (.op (Zc 55 179 [.t 51,.t 54]) (.op (Zo 56 (.un .not (.t 55))) .fin))))))))))) (.cond (.t 56) (.seq (.reg [Zo 2 (.mv (.k (.bool false)))]) .ret) .skip))) (.reg [Zv 45 6,Zo 46 (.bin .add (.t 45) (.k (.int .i64 1))),Zv 6 46])))))) (.reg [Zv 57 3,Zf 58 0 5,Zl 59 false 1 58,Zo 60 (.bsl 1 [.t 59]),Zo 61 (.app 16 1 (.t 57) (.t 60)),Zv 3 61]))))) (.reg [Zv 12 4,Zo 13 (.bin .add (.t 12) (.k (.int .i64 1))),Zv 4 13])))))) (.seq (.reg [Zv 62 0,Zo 63 (.len false (.t 62)),Zc 64 183 [.t 63,(.k (.int .i64 1)),(.k (.int .i64 3))],Zv 65 64,⟨some 66,.mv (.t 3),(some (65,true))⟩,⟨some 67,.call (.k (.fn (.func 218) [] [])) [.t 66],(some (65,true))⟩,Zo 68 (.pick (.t 65) (.t 67) (.k (.bool false))),Zv 2 68]) .ret))))⟩
theorem a134_ok:J08 Tryz.prog Tryz.f134=some a134:=by kernel_rfl
def a61:AFn:= ⟨29,[.t 2],(.seq (.reg [Zo 1 (.boxv (.t 0)),Zo 2 (.mv (.k (.bool false)))]) (.seq (.seq (.reg [Zf 4 0 1,Zl 5 false 1 4,Zc 6 134 [.t 5],Zo 7 (.un .not (.t 6)),Zv 8 7,⟨some 9,.fld 1 (.t 1),(some (8,false))⟩,⟨some 10,.ld false 1 (.t 9),(some (8,false))⟩,⟨some 11,.len false (.t 10),(some (8,false))⟩,⟨some 12,.bin .gtr (.t 11) (.k (.int .i64 8)),(some (8,false))⟩,Zo 13 (.pick (.t 8) (.k (.bool true)) (.t 12))]) (.cond (.t 13) (.seq (.reg [Zo 2 (.mv (.k (.bool false)))]) .ret) .skip)) (.seq (.seq (.reg [Zo 3 (.mv (.k (.int .i64 0)))]) (.blk 0 (.loop (.seq (.seq (.reg [Zv 14 3,Zf 15 1 1,Zl 16 false 1 15,Zo 17 (.len false (.t 16)),Zo 18 (.bin .lss (.t 14) (.t 17))]) (.cond (.t 18) .skip (.exit 0))) (.seq (.blk 1 (.seq (.draw (.op (Zl 21 true 2 1) (.op (Zf 22 1 1) (.op (Zl 23 false 1 22) (.op (Zv 24 3) (.op (Zo 25 (.ixa 7 (.t 23) (.t 24))) (.op (Zl 26 true 7 25) (.op (Zc 27 135 [.t 21,.t 26]) (.op (Zo 28 (.un .not (.t 27))) .fin))))))))) (.cond (.t 28) (.seq (.reg [Zo 2 (.mv (.k (.bool false)))]) .ret) .skip))) (.reg [Zv 19 3,Zo 20 (.bin .add (.t 19) (.k (.int .i64 1))),Zv 3 20])))))) (.seq (.reg [Zo 2 (.mv (.k (.bool true)))]) .ret))))⟩
theorem a61_ok:J08 Tryz.prog Tryz.f61=some a61:=by kernel_rfl
theorem Jdw {α:Type}{p:α→Bool}{l:List α}{i:Nat}(hi:i<l.length):(l.drop i).all p=(p l[i]&&(l.drop (i+1)).all p):=by rw [List.drop_eq_getElem_cons hi,List.all_cons]
theorem Ji2 {l:List DFunction}{i:Nat}(hi:i≤l.length):(Je2 l i).length=i:=by simp [Je2];omega
theorem J7b (fs:List DFunction) (hlf:fs.length≤1048576) (hpre:∀ f∈fs,f.Pre.length≤1048576):Holds Tryz.prog 134 [.sl 4 (fs.map J04)] (fun x=>x = .bool (fs.all Jh9&&inR fs.length 1 3&&J6u (fs.map (·.Name)))):=by
 refine J01 Tryz.func134 a134_ok rfl (by simp [a134]) ?_
 simp [a134]
 generalize hB:fs.all Jh9=B
 refine J0h [0] 4 fs.length (fun i s h n=>(fs.drop i).all Jh9=B∧∃ id,id<n∧s 3 = .ref id 0 i∧h id=some ⟨false,1,J05 (Je2 fs i)⟩) (by unfold LIM;omega) (by simp) ⟨by simpa using hB,0,by simp,by simp,by simp [J05,Je2]⟩ ?_ ?_
 ·rintro i st h n R hi hg hk s4 hw ⟨hJ,id,hid,s3,eid⟩ hR hret _
  simp at hk
  rw [Jdw hi] at hJ
  have z0:¬id=n:=by omega
  have z1:¬n=id:=by omega
  refine J0c (J0e [0,3,4] (fun s=>s 11 = .bool true) (by simp [hk,s4,hi]) ?_)
  intro st1 hk1 s11
  simp at hk1
  refine J2i s11 (J0c (J1d ?_))
  refine J1q [0,3,4] (fun s h' n'=>s 5 = .ptr n 0 0∧n'=n+1∧h' n=some ⟨true,4,[J04 fs[i]]⟩∧h' id=some ⟨false,1,J05 (Je2 fs i)⟩) (by simp [hk,hk1,s4,hi,J04,eid,z0,z1]) ?_
  rintro st2 h2' n2 hk2 ⟨s5,rfl,en,eid'⟩
  simp at hk2
  have hfp:=hpre _ (List.getElem_mem hi)
  generalize hf:fs[i]=f at *
  refine J0c (J0e [0,3,4,5] (fun s=>s 39 = .bool (!J1i f.Name || !decide (f.Params.length≤2) || !(f.Params.all J2h&&J6u f.Params) || !decide (f.Pre.length≤2))) ?_ ?_)
  ·have hdp:decide (f.Params.length≤2)=decide ((f.Params.length:Int)≤2):=by rw [decide_eq_decide];omega
   have hdq:decide (f.Pre.length≤2)=decide ((f.Pre.length:Int)≤2):=by rw [decide_eq_decide];omega
   obtain ⟨E,hE⟩:∃ E,E=(f.Params.all J2h&&J6u f.Params):=⟨_,rfl⟩
   rw [hdp,hdq,←hE]
   simp [hk,hk1,hk2,s5,en,J04]
   first|refine J02 (J3j f.Name) (by first|simp;done|rfl) ?_|refine J03 (J3j f.Name) (by first|simp;done|rfl) ?_
   rintro r rfl
   cases g1:J1i f.Name
   ·simp
   simp [hk,hk1,hk2,s5,en,J04]
   intro _
   by_cases g3:(f.Params.length:Int)≤2
   case neg=>simp [g3,Int.not_le.1 g3]
   simp [g3,Int.not_lt.2 g3,hk,hk1,hk2,s5,en,J04]
   first|refine J02 (Jd9 f.Params) (by first|simp;done|rfl) ?_|refine J03 (Jd9 f.Params) (by first|simp;done|rfl) ?_
   rintro r rfl
   rw [←hE]
   clear hE
   cases E
   ·simp
   simp [hk,hk1,hk2,s5,en,J04]
   intro _
   by_cases g5:(f.Pre.length:Int)≤2
   ·simp [g5,Int.not_lt.2 g5]
   ·simp [g5,Int.not_le.1 g5]
  intro st3 hk3 s39
  simp at hk3
  generalize hcc:(!J1i f.Name || !decide (f.Params.length≤2) || !(f.Params.all J2h&&J6u f.Params) || !decide (f.Pre.length≤2))=cc at *
  have hbody:Jh9 f=(!cc&&f.Pre.all fun l=>J6i l f.Params.length):=by
   rw [←hcc]
   unfold Jh9
   cases J1i f.Name <;> cases decide (f.Params.length≤2) <;> cases f.Params.all J2h <;> cases J6u f.Params <;> cases decide (f.Pre.length≤2) <;> simp
  rw [hbody] at hJ
  clear hbody hcc
  cases cc
  case true=>
   simp at hJ
   simp [s39]
   refine hret _ _ _ ?_
   simp [hJ]
  refine Je5 s39 ?_
  simp only [Jb1]
  simp only [Bool.not_false,Bool.true_and] at hJ
  simp [hk,hk1,hk2,hk3]
  generalize hB2:(f.Pre.all fun l=>J6i l f.Params.length)=B2 at *
  refine J0h [0,3,4,5] 6 f.Pre.length (fun j s h' n'=>n<n'∧h' n=some ⟨true,4,[J04 f]⟩∧h' id=some ⟨false,1,J05 (Je2 fs i)⟩∧((f.Pre.drop j).all fun l=>J6i l f.Params.length)=B2) (by unfold LIM;omega) (by simp) ⟨by omega,by simpa using en,by simpa using eid',by simpa using hB2⟩ ?_ ?_
  ·rintro j stj hj nj Rj hji hjg hkj s6 hwj ⟨hnj,enj,eidj,hJj⟩ hRj hretj _
   simp at hkj
   rw [Jdw hji] at hJj
   refine J0c (J0e [0,3,4,5,6] (fun s=>s 44 = .bool true) (by simp [hkj,hk3,s5,s6,hji,enj,J04]) ?_)
   intro stk hkk s44
   simp at hkk
   refine J2i s44 (J0c (J1d ?_))
   refine J0e [0,3,4,5,6] (fun s=>s 56 = .bool (!J6i f.Pre[j] f.Params.length)) ?_ ?_
   ·simp [hkj,hkk,hk3,s5,s6,hji,hjg,enj,J04]
    first|refine J02 (J8l (f.Pre[j]'hji) f.Params.length) (by first|simp;done|rfl) ?_|refine J03 (J8l (f.Pre[j]'hji) f.Params.length) (by first|simp;done|rfl) ?_
    rintro r rfl
    simp
   intro stm hkm s56
   simp at hkm
   generalize J6i f.Pre[j] f.Params.length=D at *
   cases D
   ·rw [Bool.false_and] at hJj
    subst hJj
    simp at hJ
    subst hJ
    simp [s56]
    refine hretj _ _ _ ?_
    simp
    refine hret _ _ _ ?_
    simp
   ·rw [Bool.true_and] at hJj
    simp [hkj,hkk,hkm,s56,s6,hwj]
    exact hRj _ _ _ (by simp [hkj,hkk,hkm]) (by simp) ⟨hnj,enj,eidj,hJj⟩
  rintro stj hj nj Rj hkj s6 ⟨hnj,enj,eidj,hJj⟩ hretj hXj
  simp at hkj
  rw [List.drop_eq_nil_of_le (by omega)] at hJj
  simp at hJj
  subst hJj
  rw [Bool.true_and] at hJ
  refine J0c (J0e [0,3,4,5] (fun s=>s 44 = .bool false) (by simp [hkj,hk3,s5,s6,enj,J04]) ?_)
  intro stk hkk s44
  simp at hkk
  refine J2g s44 ?_
  simp
  refine hXj _ _ _ _ ?_
  have y0:¬id=nj:=by omega
  have y1:¬nj=id:=by omega
  have y2:¬id=nj+1:=by omega
  have y3:¬nj+1=id:=by omega
  have y4:¬n=nj:=by omega
  have y5:¬nj=n:=by omega
  have hl:=Ji2 (l:=fs) (i:=i) (by omega)
  simp [hk,hk1,hk2,hk3,hkj,hkk,s3,s4,s5,enj,eidj,J04,y0,y1,y2,y3,y4,y5,hl,hw]
  refine ⟨by unfold LIM;omega,?_⟩
  have hs:=Jf3 hi
  rw [hf] at hs
  exact hR _ _ _ (by simp [hk,hk1,hk2,hk3,hkj,hkk]) (by simp) ⟨hJ,nj+1,by omega,by simp,by simp [hs,J05,List.take_of_length_le,hl]⟩
 rintro st h n R hk s4 ⟨hJ,id,hid,s3,eid⟩ hret hX
 simp at hk
 rw [List.drop_eq_nil_of_le (by omega)] at hJ
 simp at hJ
 subst hJ
 refine J0c (J0e [0,3,4] (fun s=>s 11 = .bool false) (by simp [hk,s4]) ?_)
 intro st1 hk1 s11
 simp at hk1
 refine J2g s11 ?_
 refine hX _ _ _ _ ?_
 have hnam:Je2 fs fs.length=fs.map (·.Name):=by simp [Je2]
 have hnl:=Ji2 (l:=fs) (i:=fs.length) (by omega)
 rw [hnam] at eid hnl
 simp [hk,hk1]
 intro _
 first|refine J02 (J7y fs.length 1 3) (by first|simp;done|rfl) ?_|refine J03 (J7y fs.length 1 3) (by first|simp;done|rfl) ?_
 rintro r rfl
 cases h1:inR fs.length 1 3
 ·simp
 simp [hk1,s3]
 have ht:List.take fs.length (J05 (fs.map (·.Name)))=J05 (fs.map (·.Name)):=List.take_of_length_le (by simp)
 first|refine J02 (J2z (fs.map (·.Name))) (by first|simp [eid,ht];done|rfl) ?_|refine J03 (J2z (fs.map (·.Name))) (by first|simp [eid,ht];done|rfl) ?_
 rintro r rfl
 simp
theorem J11 (p:DProgram) (hp:J0d p≤1048576):Holds Tryz.prog 61 [.agg (J00 p)] (fun x=>x = .bool (J3q p)):=by
 have hlf:p.Functions.length≤1048576:=by have:=J1h J0j p.Functions;unfold J0d J17 at hp;omega
 have hpre:∀ f∈p.Functions,f.Pre.length≤1048576:=fun f hf=>by
  have h1:=J3i (w:=J0j) hf
  have h2:=J1h Ja7 f.Pre
  unfold J0d J17 at hp
  rw [show J0j f=f.Name.length+J33 f.Params+J90 f.Pre from rfl] at h1
  unfold J90 at h1
  omega
 have hlr:p.Rules.length≤1048576:=by have:=J1h J3f p.Rules;unfold J0d J6z at hp;omega
 refine J01 Tryz.func61 a61_ok rfl (by simp [a61]) ?_
 simp [a61,J00]
 first|refine J02 (J7b p.Functions hlf hpre) (by first|simp;done|rfl) ?_|refine J03 (J7b p.Functions hlf hpre) (by first|simp;done|rfl) ?_
 rintro r rfl
 have hord:J3q p=(p.Functions.all Jh9&&inR p.Functions.length 1 3&&J6u (p.Functions.map (·.Name))&&decide (p.Rules.length≤8)&&p.Rules.all (J68 p)):=by
  unfold J3q
  rw [J9s]
  unfold J6u
  cases inR p.Functions.length 1 3 <;> cases p.Functions.all Jh9 <;> simp
 rw [hord]
 generalize (p.Functions.all Jh9&&inR p.Functions.length 1 3&&J6u (p.Functions.map (·.Name)))=E
 cases E
 ·simp
 simp
 intro _
 have hdg:decide (p.Rules.length≤8)=decide ((p.Rules.length:Int)≤8):=by rw [decide_eq_decide];omega
 by_cases h2:(p.Rules.length:Int)≤8
 case neg=>
  have h2n:¬p.Rules.length≤8:=by omega
  simp [h2,h2n,Int.not_le.1 h2]
 have h2n:p.Rules.length≤8:=by omega
 simp [h2,h2n,Int.not_lt.2 h2]
 generalize hB:p.Rules.all (J68 p)=B
 refine J0h [1] 3 p.Rules.length (fun i s h n=>0<n∧h 0=some ⟨true,2,[J00 p]⟩∧(p.Rules.drop i).all (J68 p)=B) (by unfold LIM;omega) (by simp) ⟨by simp,by simp [J00],by simpa using hB⟩ ?_ ?_
 ·rintro i st h n R hi hg hk s3 hw ⟨hn,e0,hJ⟩ hR hret _
  simp at hk
  rw [Jdw hi] at hJ
  refine J0c (J0e [1,3] (fun s=>s 18 = .bool true) (by simp [hk,s3,hi,e0,J00]) ?_)
  intro st1 hk1 s18
  simp at hk1
  refine J2i s18 (J0c (J1d ?_))
  refine J0e [1,3] (fun s=>s 28 = .bool (!J68 p p.Rules[i])) ?_ ?_
  ·simp [hk,hk1,s3,hi,hg,e0,J00]
   first|refine J02 (J4q p (p.Rules[i]'hi) hp (J7p hp _ (List.getElem_mem hi))) (by simp [J00]) ?_|refine J03 (J4q p (p.Rules[i]'hi) hp (J7p hp _ (List.getElem_mem hi))) (by simp [J00]) ?_|refine J02 (J4q p (p.Rules[i]'hi) hp (J7p hp _ (List.getElem_mem hi))) rfl ?_|refine J03 (J4q p (p.Rules[i]'hi) hp (J7p hp _ (List.getElem_mem hi))) rfl ?_
   rintro r rfl
   simp
  intro st2 hk2 s28
  simp at hk2
  generalize J68 p p.Rules[i]=D at *
  cases D
  ·rw [Bool.false_and] at hJ
   subst hJ
   simp [s28]
   refine hret _ _ _ ?_
   simp
  ·rw [Bool.true_and] at hJ
   simp [hk,hk1,hk2,s28,s3,hw]
   exact hR _ _ _ (by simp [hk,hk1,hk2]) (by simp) ⟨hn,e0,hJ⟩
 rintro st h n R hk s3 ⟨hn,e0,hJ⟩ hret hX
 simp at hk
 rw [List.drop_eq_nil_of_le (by omega)] at hJ
 simp at hJ
 subst hJ
 refine J0c (J0e [1] (fun s=>s 18 = .bool false) (by simp [hk,s3,e0,J00]) ?_)
 intro st1 hk1 s18
 refine J2g s18 ?_
 refine hX _ _ _ _ ?_
 simp
inductive RT (E:List (Str×Str)):Str→Str→Prop
 | refl (a:Str):RT E a a
 | step {a b c:Str} : RT E a b→(b,c)∈E→RT E a c
theorem RT.trans {E:List (Str×Str)}{a b c:Str}(h:RT E a b) (k:RT E b c):RT E a c:=by
 induction k with
 | refl=>exact h
 | step _ he ih=>exact ih.step he
theorem RT.closed {E:List (Str×Str)}{S:Str→Prop}{a b:Str}(h:RT E a b) (ha:S a) (hc:∀ x y,(x,y)∈E→S x→S y):S b:=by
 induction h with
 | refl=>exact ha
 | step _ he ih=>exact hc _ _ he ih
theorem J1m {l:List Str}{s:Str} : J1a l s=true↔s∈l:=by simp [J1a]
theorem J98 {l:List Str}{s:Str} : J1a l s=false↔s∉l:=by rw [←Bool.not_eq_true,J1m]
def Jdd (S:List Str) (e:Str×Str):List Str:=if J1a S e.1 then (if J1a S e.2 then S else S++[e.2]) else S
def Jfb (E:List (Str×Str)) (S:List Str):List Str:=E.foldl Jdd S
def Jir (E:List (Str×Str)):Nat→List Str→List Str
 | 0,S=>S
 | n+1,S=>Jir E n (Jfb E S)
theorem Jnc {S:List Str}{e:Str×Str}{x:Str}(h:x∈S):x∈Jdd S e:=by
 unfold Jdd;split
 ·split
  ·exact h
  ·exact List.mem_append_left _ h
 ·exact h
theorem Jmk {E:List (Str×Str)} : ∀ {S:List Str}{x:Str},x∈S→x∈Jfb E S:=by
 unfold Jfb
 induction E with
 | nil=>intro S x h;exact h
 | cons e E ih=>intro S x h;exact ih (Jnc h)
theorem Jhi {E:List (Str×Str)} : ∀ {n:Nat}{S:List Str}{x:Str},x∈S→x∈Jir E n S
 | 0,_,_,h=>h
 | n+1,_,_,h=>Jhi (n:=n) (Jmk h)
theorem Jin {S:List Str}{e:Str×Str}(h:S.Nodup):(Jdd S e).Nodup:=by
 unfold Jdd;split
 ·split
  ·exact h
  ·rename_i h2
   rw [Bool.not_eq_true,J98] at h2
   rw [List.nodup_append]
   exact ⟨h,by simp,fun a ha b hb hab=>h2 (by rw [←List.mem_singleton.1 hb,←hab];exact ha)⟩
 ·exact h
theorem Jcs {E:List (Str×Str)} : ∀ {S:List Str},S.Nodup→(Jfb E S).Nodup:=by
 unfold Jfb
 induction E with
 | nil=>intro S h;exact h
 | cons e E ih=>intro S h;exact ih (Jin h)
theorem Jhk {S:List Str}{e:Str×Str} : S.length≤(Jdd S e).length:=by
 unfold Jdd;split
 ·split <;> simp
 ·simp
theorem Jed {E:List (Str×Str)} : ∀ {S:List Str},S.length≤(Jfb E S).length:=by
 unfold Jfb
 induction E with
 | nil=>intro S;exact Nat.le_refl _
 | cons e E ih=>intro S;exact Nat.le_trans Jhk ih
theorem Jb5 {E:List (Str×Str)} : ∀ {S:List Str},(Jfb E S).length=S.length→Jfb E S=S∧∀ x y,(x,y)∈E→x∈S→y∈S:=by
 unfold Jfb
 induction E with
 | nil=>intro S _;exact ⟨rfl,fun _ _ h=>by cases h⟩
 | cons e E ih=>
  intro S h
  simp only [List.foldl_cons] at h ⊢
  have h1:=Jhk (S:=S) (e:=e)
  have h2:(Jdd S e).length≤(List.foldl Jdd (Jdd S e) E).length:=Jed (E:=E)
  have h3:Jdd S e=S:=by
   unfold Jdd at h1 h2 h ⊢
   split at h1 <;> rename_i g1
   ·split at h1 <;> rename_i g2
    ·simp [g1,g2]
    ·exfalso;simp only [g1,g2,if_true,if_false] at h h2;simp at h h2;omega
   ·simp [g1]
  rw [h3] at h ⊢
  obtain ⟨k1,k2⟩:=ih h
  refine ⟨k1,fun x y hxy hx => ?_⟩
  rcases List.mem_cons.1 hxy with rfl|hxy
  ·unfold Jdd at h3
   rw [if_pos (J1m.2 hx)] at h3
   split at h3
   ·rename_i g;exact J1m.1 g
   ·have:=congrArg List.length h3;simp at this
  ·exact k2 x y hxy hx
theorem Jqx {E:List (Str×Str)}{S:List Str}{e:Str×Str}{a:Str}(he:e∈E) (h:∀ x∈S,RT E a x):∀ x∈Jdd S e,RT E a x:=by
 unfold Jdd;split
 ·rename_i g
  split
  ·exact h
  ·intro x hx
   rcases List.mem_append.1 hx with hx|hx
   ·exact h x hx
   ·rw [List.mem_singleton.1 hx];exact (h _ (J1m.1 g)).step he
 ·exact h
theorem Jof {E:List (Str×Str)}{a:Str} : ∀ {S:List Str},(∀ x∈S,RT E a x)→∀ x∈Jfb E S,RT E a x:=by
 have key:∀ (E':List (Str×Str)),(∀ e∈E',e∈E)→∀ (S:List Str),(∀ x∈S,RT E a x)→∀ x∈E'.foldl Jdd S,RT E a x:=by
  intro E'
  induction E' with
  | nil=>intro _ S h;exact h
  | cons e E' ih=>intro hE S h;exact ih (fun e he=>hE e (List.mem_cons_of_mem _ he)) _ (Jqx (hE e (List.mem_cons_self ..)) h)
 intro S h
 exact key E (fun _ h=>h) S h
theorem Jjh {E:List (Str×Str)}{a:Str} : ∀ {n:Nat}{S:List Str},(∀ x∈S,RT E a x)→∀ x∈Jir E n S,RT E a x
 | 0,_,h=>h
 | n+1,_,h=>Jjh (n:=n) (Jof h)
theorem Jdc {E:List (Str×Str)}{N:List Str}(hE:∀ e∈E,e.2∈N):∀ {S:List Str},(∀ x∈S,x∈N)→∀ x∈Jfb E S,x∈N:=by
 unfold Jfb
 induction E with
 | nil=>intro S h;exact h
 | cons e E ih=>
  intro S h
  refine ih (fun e he=>hE e (List.mem_cons_of_mem _ he)) ?_
  intro x hx
  unfold Jdd at hx
  split at hx
  ·split at hx
   ·exact h x hx
   ·rcases List.mem_append.1 hx with hx|hx
    ·exact h x hx
    ·rw [List.mem_singleton.1 hx];exact hE e (List.mem_cons_self ..)
  ·exact h x hx
theorem J8n {N:List Str} : ∀ {S:List Str},S.Nodup→(∀ x∈S,x∈N)→S.length≤N.length:=by
 induction N with
 | nil=>
  intro S _ h
  cases S with
  | nil=>exact Nat.le_refl _
  | cons x S=>have:=h x (List.mem_cons_self ..);cases this
 | cons y N ih=>
  intro S hS h
  have:=ih (S:=S.filter (· != y)) (hS.sublist List.filter_sublist) (fun x hx=>by
   rw [List.mem_filter] at hx
   rcases List.mem_cons.1 (h x hx.1) with rfl|h'
   ·simp at hx
   ·exact h')
  have hc:S.length≤(S.filter (· != y)).length+1:=by
   clear this ih h
   induction S with
   | nil=>simp
   | cons x S ih=>
    rw [List.nodup_cons] at hS
    by_cases hx:x=y
    ·subst hx
     have hf:S.filter (· != x)=S:=List.filter_eq_self.2 fun z hz=>by simp;rintro rfl;exact hS.1 hz
     simp [hf]
    ·have hx':(x != y)=true:=by simpa using hx
     simp only [List.filter_cons,hx',if_true,List.length_cons]
     have:=ih hS.2
     omega
  simp only [List.length_cons];omega
theorem Jbv {E:List (Str×Str)}{N:List Str}(hE:∀ e∈E,e.2∈N):∀ (n:Nat) {S:List Str},S.Nodup→(∀ x∈S,x∈N)→N.length≤n+S.length→∀ x y,(x,y)∈E→x∈Jir E n S→y∈Jir E n S
 | 0,S,hS,hN,hn,x,y,hxy,hx=>by
  have h1:=J8n (Jcs (E:=E) hS) (Jdc hE hN)
  have h2:=Jed (E:=E) (S:=S)
  exact (Jb5 (E:=E) (S:=S) (by omega)).2 x y hxy hx
 | n+1,S,hS,hN,hn,x,y,hxy,hx=>by
  by_cases hst:(Jfb E S).length=S.length
  ·obtain ⟨k1,k2⟩:=Jb5 hst
   have hall:∀ m,Jir E m S=S:=by
    intro m
    induction m with
    | zero=>rfl
    | succ m ih=>simp only [Jir,k1];exact ih
   rw [hall] at hx ⊢
   exact k2 x y hxy hx
  ·have h2:=Jed (E:=E) (S:=S)
   exact Jbv hE n (Jcs hS) (Jdc hE hN) (by omega) x y hxy hx
theorem Jao {E:List (Str×Str)}{N:List Str}{a:Str}(hE:∀ e∈E,e.2∈N) (ha:a∈N) {n:Nat}(hn:N.length≤n+1) (x:Str):x∈Jir E n [a]↔RT E a x:=by
 constructor
 ·exact Jjh (fun x hx=>by rw [List.mem_singleton.1 hx];exact .refl _) x
 ·intro h
  exact h.closed (Jhi (by simp)) (Jbv hE n (by simp) (fun x hx=>by rw [List.mem_singleton.1 hx];exact ha) (by simpa using hn))
def J21 (E:List (Str×Str)) (N:List Str) (a:Str):List Str:=N.filter (J1a (Jir E N.length [a]))
theorem J3m {E:List (Str×Str)}{N:List Str}{a:Str}(hE:∀ e∈E,e.2∈N) (ha:a∈N) (x:Str):x∈J21 E N a↔x∈N∧RT E a x:=by
 unfold J21
 rw [List.mem_filter,J1m,Jao hE ha (by omega)]
theorem Jkv {E:List (Str×Str)}{N:List Str}{a:Str}{M:List Str}(hE:∀ e∈E,e.2∈N) (ha:a∈N) (hM:∀ x,x∈M↔RT E a x):N.filter (J1a M)=J21 E N a:=by
 unfold J21
 refine List.filter_congr fun x _ => ?_
 rw [Bool.eq_iff_iff,J1m,J1m,hM,Jao hE ha (by omega)]
theorem Jkl {E:List (Str×Str)}{N:List Str}{a b:Str}(hE:∀ e∈E,e.2∈N) (ha:a∈N) (hb:b∈N) (hab:RT E a b) (hba:RT E b a):J21 E N a=J21 E N b:=by
 unfold J21
 refine List.filter_congr fun x _ => ?_
 rw [Bool.eq_iff_iff,J1m,J1m,Jao hE ha (by omega),Jao hE hb (by omega)]
 exact ⟨fun h=>hba.trans h,fun h=>hab.trans h⟩
def J3n (E:List (Str×Str)) (N:List Str) (a:Str):List Str:=(J21 E N a).filter fun g=>J1a (J21 E N g) a
theorem J3v {E:List (Str×Str)}{N:List Str}{a:Str}(hE:∀ e∈E,e.2∈N) (ha:a∈N) (x:Str):x∈J3n E N a↔x∈N∧RT E a x∧RT E x a:=by
 unfold J3n
 rw [List.mem_filter,J1m,J3m hE ha]
 constructor
 ·rintro ⟨⟨h1,h2⟩,h3⟩
  exact ⟨h1,h2,((J3m hE h1 a).1 h3).2⟩
 ·rintro ⟨h1,h2,h3⟩
  exact ⟨⟨h1,h2⟩,(J3m hE h1 a).2 ⟨ha,h3⟩⟩
def Jcm (E:List (Str×Str)) (N done:List Str) (a:Str):Bool:=(J21 E N a).all fun g=>J1a done g||J1a (J3n E N a) g
def J66 (E:List (Str×Str)) (N done:List Str) (a:Str):Bool := !J1a done a&&Jcm E N done a
def J4i (E:List (Str×Str)) (N:List Str):Nat→List Str→List (List Str)
 | 0,_=>[]
 | n+1,done=>if done.length<N.length then (match N.find? (J66 E N done) with
  | some a=>J3n E N a::J4i E N n (done++J3n E N a)
  | Option.none=>[]) else []
structure Done (E:List (Str×Str)) (N done:List Str):Prop where
 nd:done.Nodup
 sub:∀ x∈done,x∈N
 whole:∀ a∈done,∀ b,b∈J3n E N a→b∈done
theorem Done.nil {E:List (Str×Str)}{N:List Str} : Done E N []:=⟨List.nodup_nil,fun _ h=>(by cases h),fun _ h=>(by cases h)⟩
theorem Jj3 {E:List (Str×Str)}{N:List Str}(hN:N.Nodup) (hE:∀ e∈E,e.2∈N) {a g:Str}(ha:a∈N) (hg:g∈J21 E N a) (hng:g∉J3n E N a):(J21 E N g).length<(J21 E N a).length:=by
 obtain ⟨h1,h2⟩:=(J3m hE ha g).1 hg
 have hnot:¬RT E g a:=fun h=>hng ((J3v hE ha g).2 ⟨h1,h2,h⟩)
 have hsub:∀ x∈J21 E N g,x∈(J21 E N a).filter (· != a):=by
  intro x hx
  obtain ⟨k1,k2⟩:=(J3m hE h1 x).1 hx
  rw [List.mem_filter]
  refine ⟨(J3m hE ha x).2 ⟨k1,h2.trans k2⟩,?_⟩
  simp only [bne_iff_ne,ne_eq]
  rintro rfl
  exact hnot k2
 have haa:a∈J21 E N a:=(J3m hE ha a).2 ⟨ha,.refl _⟩
 have hl:=J8n (hN.sublist (List.filter_sublist (l:=N))) hsub
 have hlt:((J21 E N a).filter (· != a)).length<(J21 E N a).length:=by
  refine Nat.lt_of_le_of_ne (List.length_filter_le _ _) fun h => ?_
  have:=List.length_filter_eq_length_iff.1 h a haa
  simp at this
 exact Nat.lt_of_le_of_lt hl hlt
theorem Jf8 {E:List (Str×Str)}{N done:List Str}(hN:N.Nodup) (hE:∀ e∈E,e.2∈N):∀ (m:Nat) (a:Str),a∈N→a∉done→(J21 E N a).length≤m→(N.find? (J66 E N done)).isSome=true
 | 0,a,ha,_,hm=>by
  have haa:a∈J21 E N a:=(J3m hE ha a).2 ⟨ha,.refl _⟩
  have:=List.eq_nil_of_length_eq_zero (Nat.le_zero.1 hm)
  rw [this] at haa;cases haa
 | m+1,a,ha,hd,hm=>by
  by_cases ho:Jcm E N done a=true
  ·rw [List.find?_isSome]
   exact ⟨a,ha,by simp [J66,J98.2 hd,ho]⟩
  ·have ho':Jcm E N done a=false:=by simpa using ho
   unfold Jcm at ho'
   rw [List.all_eq_false] at ho'
   obtain ⟨g,hg,h12⟩:=ho'
   simp only [Bool.or_eq_true,not_or] at h12
   obtain ⟨h1,h2⟩:=h12
   have h1':g∉done:=fun h=>h1 (J1m.2 h)
   have h2':g∉J3n E N a:=fun h=>h2 (J1m.2 h)
   have:=Jj3 hN hE ha hg h2'
   exact Jf8 hN hE m g ((J3m hE ha g).1 hg).1 h1' (by omega)
theorem Jes {E:List (Str×Str)}{N done:List Str}(hN:N.Nodup) (hE:∀ e∈E,e.2∈N) (D:Done E N done) (hl:done.length<N.length):(N.find? (J66 E N done)).isSome=true:=by
 have:∃ a∈N,a∉done:=by
  apply Classical.byContradiction
  intro h
  have h':∀ a∈N,a∈done:=fun a ha=>Classical.byContradiction fun h2=>h ⟨a,ha,h2⟩
  have:=J8n hN h'
  omega
 obtain ⟨a,ha,hd⟩:=this
 exact Jf8 hN hE _ a ha hd (Nat.le_refl _)
theorem Done.step {E:List (Str×Str)}{N done:List Str}{a:Str}(hN:N.Nodup) (hE:∀ e∈E,e.2∈N) (D:Done E N done) (ha:a∈N) (hd:a∉done):Done E N (done++J3n E N a):=by
 have hc:(J3n E N a).Nodup:=(hN.sublist List.filter_sublist).sublist List.filter_sublist
 refine ⟨?_,?_,?_⟩
 ·rw [List.nodup_append]
  refine ⟨D.nd,hc,?_⟩
  rintro x hx y hy rfl
  obtain ⟨h1,h2,h3⟩:=(J3v hE ha x).1 hy
  exact hd (D.whole x hx a ((J3v hE h1 a).2 ⟨ha,h3,h2⟩))
 ·intro x hx
  rcases List.mem_append.1 hx with hx|hx
  ·exact D.sub x hx
  ·exact ((J3v hE ha x).1 hx).1
 ·intro x hx b hb
  rcases List.mem_append.1 hx with hx|hx
  ·exact List.mem_append_left _ (D.whole x hx b hb)
  ·obtain ⟨h1,h2,h3⟩:=(J3v hE ha x).1 hx
   obtain ⟨k1,k2,k3⟩:=(J3v hE h1 b).1 hb
   exact List.mem_append_right _ ((J3v hE ha b).2 ⟨k1,h2.trans k2,k3.trans h3⟩)
theorem J72 {E:List (Str×Str)}{N:List Str}{a:Str}(hE:∀ e∈E,e.2∈N) (ha:a∈N):a∈J3n E N a:=(J3v hE ha a).2 ⟨ha,.refl _,.refl _⟩
theorem Jia {E:List (Str×Str)}{N:List Str}{a b:Str}(hE:∀ e∈E,e.2∈N) (ha:a∈N) (hb:b∈J3n E N a):J21 E N b=J21 E N a:=by
 obtain ⟨h1,h2,h3⟩:=(J3v hE ha b).1 hb
 exact Jkl hE h1 ha h3 h2
theorem Jcx {E:List (Str×Str)}{N:List Str} : ∀ (n:Nat) (done:List Str),(J4i E N n done).length≤n
 | 0,_=>Nat.le_refl _
 | n+1,done=>by
  simp only [J4i]
  split
  ·split
   ·simp only [List.length_cons];have:=Jcx n (done++J3n E N ‹Str›) (E:=E) (N:=N);omega
   ·simp
  ·simp
def J9j (i:Nat) (k:Nat):DEdge:=⟨i,k⟩
def J2s (i:Nat) (r:DRule):List DEdge:=(List.range r.Calls.length).map (J9j i)
def J1t:Nat→List DRule→List DEdge
 | _,[]=>[]
 | i,r::l=>J2s i r++J1t (i+1) l
def J5k (p:DProgram):List DEdge:=J1t 0 p.Rules
def J26 (p:DProgram):List DEdge:=if J3q p then J5k p else []
def Jiq (p:DProgram) (e:DEdge):Str:=match p.Rules[e.Rule.toNat]? with|some r=>r.Func|Option.none=>[]
def toE (p:DProgram) (e:DEdge):Str:=match p.Rules[e.Rule.toNat]? with|some r=>(match r.Calls[e.Call.toNat]? with|some c=>c.Func|Option.none=>[])|Option.none=>[]
def J0i (p:DProgram):List (Str×Str):=(J5k p).map fun e=>(Jiq p e,toE p e)
def J07 (p:DProgram):List Str:=p.Functions.map (·.Name)
theorem J8w {e:DEdge} : ∀ {l:List DRule}{i:Nat},e∈J1t i l→∃ j k:Nat,∃ hj:j<l.length,k<(l[j]).Calls.length∧e=⟨((i+j:Nat):Int),k⟩
 | [],_,h=>by cases h
 | r::l,i,h=>by
  simp only [J1t] at h
  rcases List.mem_append.1 h with h|h
  ·simp only [J2s,List.mem_map,List.mem_range,J9j] at h
   obtain ⟨k,hk,rfl⟩:=h
   exact ⟨0,k,by simp,by simpa using hk,by simp⟩
  ·obtain ⟨j,k,hj,hk,rfl⟩:=J8w h
   exact ⟨j+1,k,by simpa using hj,by simpa using hk,by congr 1;omega⟩
theorem J9r {p:DProgram}{e:DEdge}(h:e∈J5k p):∃ i k:Nat,∃ hi:i<p.Rules.length,k<(p.Rules[i]).Calls.length∧e=⟨(i:Int),(k:Int)⟩:=by
 obtain ⟨j,k,hj,hk,rfl⟩:=J8w h
 exact ⟨j,k,hj,hk,by congr 1;omega⟩
theorem Jdo {p:DProgram}{i k:Nat}(hi:i<p.Rules.length):Jiq p ⟨(i:Int),(k:Int)⟩=(p.Rules[i]).Func:=by
 simp only [Jiq,Int.toNat_natCast,List.getElem?_eq_getElem hi]
theorem Jjp {p:DProgram}{i k:Nat}(hi:i<p.Rules.length) (hk:k<(p.Rules[i]).Calls.length):toE p ⟨(i:Int),(k:Int)⟩=((p.Rules[i]).Calls[k]).Func:=by
 simp only [toE,Int.toNat_natCast,List.getElem?_eq_getElem hi,List.getElem?_eq_getElem hk]
theorem J99:∀ (l:List DRule) (i:Nat),(J1t i l).length≤wL J3f l
 | [],_=>Nat.zero_le _
 | r::l,i=>by
  have h1:=J99 l (i+1)
  have h2:=J1h J4f r.Calls
  have h3:(J2s i r).length=r.Calls.length:=by simp [J2s]
  have h4:r.Calls.length≤J3f r:=by unfold J3f J64;omega
  simp only [J1t,List.length_append,h3]
  unfold wL at h1 ⊢
  simp only [List.map_cons,List.sum_cons,List.length_cons]
  omega
theorem J7s (p:DProgram) (hw:J0d p≤1048576):(J5k p).length≤1048576:=by
 have:=J99 p.Rules 0
 unfold J0d J6z at hw
 unfold J5k
 omega
theorem Jbu {l:List DFunction}{s:Str}(h:(J24 l s).isSome=true):s∈l.map (·.Name):=by
 unfold J24 at h
 rw [List.find?_isSome] at h
 obtain ⟨f,hf,hn⟩:=h
 exact List.mem_map.2 ⟨f,hf,by simpa using hn⟩
theorem Jby:∀ {l met:List Str},J36 met l=true→l.Nodup∧∀ x∈l,x∉met
 | [],_,_=>⟨List.nodup_nil,fun _ h=>(by cases h)⟩
 | s::l,met,h=>by
  simp only [J36,Bool.and_eq_true,Bool.not_eq_true'] at h
  obtain ⟨h1,h2⟩:=Jby h.2
  have h3:=J98.1 h.1
  refine ⟨List.nodup_cons.2 ⟨fun hs=>h2 s hs (by simp),h1⟩,?_⟩
  intro x hx
  rcases List.mem_cons.1 hx with rfl|hx
  ·exact h3
  ·exact fun hm=>h2 x hx (List.mem_append_left _ hm)
theorem J8x {p:DProgram}{r:DRule} : ∀ {l:List DCall}{k:Nat},J2x p r k l=true→∀ c∈l,∃ s,Jal p c s=true
 | [],_,_,_,h=>by cases h
 | c::l,k,h,d,hd=>by
  simp only [J2x,Bool.and_eq_true] at h
  rcases List.mem_cons.1 hd with rfl|hd
  ·exact ⟨_,h.1⟩
  ·exact J8x h.2 d hd
theorem J46 {p:DProgram}(h:J3q p=true):(J07 p).Nodup∧(∀ e∈J0i p,e.1∈J07 p∧e.2∈J07 p)∧p.Functions.length≤3∧p.Rules.length≤8:=by
 unfold J3q at h
 simp only [Bool.and_eq_true,decide_eq_true_eq,J9s] at h
 obtain ⟨⟨⟨h1,h2⟩,h3⟩,h4⟩:=h
 have h1':p.Functions.length≤3:=by unfold inR at h1;simp at h1;omega
 refine ⟨(Jby h2.2).1,?_,h1',h3⟩
 intro e he
 obtain ⟨x,hx,rfl⟩:=List.mem_map.1 he
 obtain ⟨i,k,hi,hk,rfl⟩:=J9r hx
 have hr:=List.all_eq_true.1 h4 _ (List.getElem_mem hi)
 unfold J68 at hr
 simp only [Bool.and_eq_true,decide_eq_true_eq] at hr
 obtain ⟨⟨⟨⟨⟨⟨⟨g1,g2⟩,g3⟩,g4⟩,g5⟩,g6⟩,g7⟩,g8⟩:=hr
 rw [Jdo hi,Jjp hi hk]
 refine ⟨Jbu g1,?_⟩
 obtain ⟨s,hs⟩:=J8x g6 _ (List.getElem_mem hk)
 unfold Jal at hs
 simp only [Bool.and_eq_true] at hs
 exact Jbu hs.1.1.1
def J0q (p:DProgram) (name:Str):List Str:=if J3q p&&J1a (J07 p) name then J21 (J0i p) (J07 p) name else []
def Jfr (p:DProgram) (name:Str):List Str:=(J0q p name).filter fun g=>J1a (J0q p g) name
theorem Jei {p:DProgram}{name:Str}(h:J3q p=true) (hn:name∈J07 p):Jfr p name=J3n (J0i p) (J07 p) name:=by
 unfold Jfr J3n
 rw [show J0q p name=J21 (J0i p) (J07 p) name by unfold J0q;rw [h,J1m.2 hn];rfl]
 refine List.filter_congr fun g hg => ?_
 have hgn:g∈J07 p:=(List.mem_filter.1 hg).1
 rw [show J0q p g=J21 (J0i p) (J07 p) g by unfold J0q;rw [h,J1m.2 hgn];rfl]
def J1c (p:DProgram):List (List Str):=if J3q p then J4i (J0i p) (J07 p) (J07 p).length [] else []
def a151:AFn:= ⟨30,[.t 2],(.seq (.reg [Zo 1 (.boxv (.t 0)),Zo 2 (.mv (.k (.nil 2)))]) (.seq (.reg [Zo 3 (.mv (.k (.nil 2)))]) (.seq (.seq (.reg [Zf 7 1 1,Zl 8 false 1 7,Zo 9 (.len false (.t 8)),Zo 10 (.mv (.k (.int .i64 0)))]) (.blk 0 (.loop (.seq (.reg [Zo 11 (.bin .lss (.t 10) (.t 9))]) (.seq (.cond (.t 11) .skip (.exit 0)) (.seq (.blk 1 (.seq (.reg [Zv 12 10,Zo 13 (.ixa 7 (.t 8) (.t 10)),Zl 14 true 7 13,Zo 5 (.box [(.str []),(.nil 4),(.nil 2),(.nil 3),(.bool false),(.nil 2),(.str [])]),Zv 4 12,⟨no,.st 7 (.t 5) (.t 14),no⟩]) (.seq (.reg [Zf 15 3 5,Zl 16 false 1 15,Zo 17 (.len false (.t 16)),Zo 18 (.mv (.k (.int .i64 0)))]) (.blk 2 (.loop (.seq (.reg [Zo 19 (.bin .lss (.t 18) (.t 17))]) (.seq (.cond (.t 19) .skip (.exit 2)) (.seq (.blk 3 (.seq (.reg [Zv 20 18,Zv 6 20]) (.reg [Zv 21 3,Zv 22 4,Zv 23 6,Zo 24 (.build [(.int .i64 0),(.int .i64 0)] [(0,(1,(.t 22))),(1,(1,(.t 23)))]),Zo 25 (.bsl 2 [.t 24]),Zo 26 (.app 16 2 (.t 21) (.t 25)),Zv 3 26]))) (.reg [Zo 27 (.bin .add (.t 18) (.k (.int .i64 1))),Zv 18 27]))))))))) (.reg [Zo 28 (.bin .add (.t 10) (.k (.int .i64 1))),Zv 10 28]))))))) (.seq (.reg [Zv 29 3,Zv 2 29]) .ret))))⟩
theorem a151_ok:J08 Tryz.prog Tryz.f151=some a151:=by kernel_rfl
def a122:AFn:= ⟨36,[.t 2],(.seq (.reg [Zo 1 (.boxv (.t 0)),Zo 2 (.mv (.k (.nil 2)))]) (.seq (.reg [Zo 6 (.bsl 2 []),Zv 3 6]) (.seq (.seq (.reg [Zl 7 true 2 1,Zc 8 61 [.t 7],Zo 9 (.un .not (.t 8))]) (.cond (.t 9) (.seq (.reg [Zv 10 3,Zv 2 10]) .ret) .skip)) (.seq (.seq (.reg [Zo 4 (.mv (.k (.int .i64 0)))]) (.blk 0 (.loop (.seq (.seq (.reg [Zv 11 4,Zf 12 1 1,Zl 13 false 1 12,Zo 14 (.len false (.t 13)),Zo 15 (.bin .lss (.t 11) (.t 14))]) (.cond (.t 15) .skip (.exit 0))) (.seq (.blk 1 (.seq (.reg [Zo 5 (.mv (.k (.int .i64 0)))]) (.blk 2 (.loop (.seq (.seq (.reg [Zv 18 5,Zf 19 1 1,Zl 20 false 1 19,Zv 21 4,Zo 22 (.ixa 7 (.t 20) (.t 21)),Zf 23 3 22,Zl 24 false 1 23,Zo 25 (.len false (.t 24)),Zo 26 (.bin .lss (.t 18) (.t 25))]) (.cond (.t 26) .skip (.exit 2))) (.seq (.blk 3 (.reg [Zv 29 3,Zv 30 4,Zv 31 5,Zo 32 (.build [(.int .i64 0),(.int .i64 0)] [(0,(1,(.t 30))),(1,(1,(.t 31)))]),Zo 33 (.bsl 2 [.t 32]),Zo 34 (.app 16 2 (.t 29) (.t 33)),Zv 3 34])) (.reg [Zv 27 5,Zo 28 (.bin .add (.t 27) (.k (.int .i64 1))),Zv 5 28]))))))) (.reg [Zv 16 4,Zo 17 (.bin .add (.t 16) (.k (.int .i64 1))),Zv 4 17])))))) (.seq (.reg [Zv 35 3,Zv 2 35]) .ret)))))⟩
theorem a122_ok:J08 Tryz.prog Tryz.f122=some a122:=by kernel_rfl
def Acc (z:Nat) (rows:List (List AV)) (v:AV) (h:Heap) (n:Nat):Prop:=(rows=[]∧v = .nil z)∨∃ id,id<n∧v = .ref id 0 rows.length∧h id=some ⟨false,z,rows⟩
theorem J83 {l:List DRule}{i k:Nat}(hi:i<l.length):J1t k (l.drop i)=J2s k l[i]++J1t (k+1) (l.drop (i+1)):=by rw [List.drop_eq_getElem_cons hi];rfl
theorem J82 {r:DRule}{i j:Nat}(hj:j<r.Calls.length):(J2s i r).drop j=J9j i j::(J2s i r).drop (j+1):=by
 rw [List.drop_eq_getElem_cons (by simp [J2s,hj])]
 simp [J2s]
theorem J9g (i:Nat) (r:DRule):(J2s i r).length=r.Calls.length:=by simp [J2s]
theorem Jf9 (p:DProgram) (hp:J0d p≤1048576):Holds Tryz.prog 151 [.agg (J00 p)] (fun x=>x = .us 2 ((J5k p).map J2f)):=by
 have hTl:=J7s p hp
 refine J01 Tryz.func151 a151_ok rfl (by simp [a151]) ?_
 simp [a151,J00]
 intro hlr
 unfold J5k at *
 generalize hT:J1t 0 p.Rules=T at *
 refine J0h [8,9] 10 p.Rules.length (fun i s h n=>∃ acc:List DEdge,acc++J1t i (p.Rules.drop i)=T∧Acc 2 (acc.map J2f) (s 3) h n) hlr (by simp) ⟨[],by simpa using hT,.inl (by simp)⟩ ?_ ?_
 ·rintro i st h n R hi hg hk s10 hw ⟨acc,hJ,hA⟩ hR hret _
  simp at hk
  rw [J83 hi] at hJ
  refine J0e [3,8,9,10] (fun s=>s 11 = .bool true) (by simp [hk,s10,hi]) ?_
  intro st1 hk1 s11
  simp at hk1
  refine J4m s11 (J0c (J1d ?_))
  refine J1q [3,8,9,10] (fun s h' n'=>s 4 = .int .i64 i∧s 5 = .ptr n 0 0∧n'=n+1∧h' n=some ⟨true,7,[J0a p.Rules[i]]⟩∧Acc 2 (acc.map J2f) (s 3) h' n') ?_ ?_
  ·simp [hk,hk1,s10,hi,J0a]
   rcases hA with ⟨ha,hv⟩|⟨id,hid,hv,he⟩
   ·exact .inl ⟨ha,hv⟩
   ·have z0:¬id=n:=by omega
    exact .inr ⟨id,by omega,hv,by simp [he,z0]⟩
  rintro st2 h2 n2 hk2 ⟨s4,s5,rfl,en,hA⟩
  simp at hk2
  refine J0c ?_
  simp [hk,hk1,hk2,s5,en,J0a]
  intro hlc
  refine J0h [4,8,9,10,17] 18 (p.Rules[i]).Calls.length (fun j s h n=>∃ acc:List DEdge,acc++((J2s i p.Rules[i]).drop j++J1t (i+1) (p.Rules.drop (i+1)))=T∧Acc 2 (acc.map J2f) (s 3) h n) hlc (by simp) ⟨acc,by simpa using hJ,by simpa using hA⟩ ?_ ?_
  ·rintro j stj hj nj Rj hji hjg hkj s18 hwj ⟨accj,hJj,hAj⟩ hRj hretj _
   simp at hkj
   rw [J82 hji] at hJj
   have hal:=congrArg List.length hJj
   simp at hal
   rcases hAj with ⟨ha,hv⟩|⟨id,hid,hv,he⟩
   ·simp at ha
    subst ha
    simp [hkj,hk2,hk1,s4,s18,hji,hv,hwj]
    refine ⟨by unfold LIM;omega,?_⟩
    refine hRj _ _ _ (by simp [hkj]) (by simp) ⟨[J9j i j],by simpa using hJj,.inr ⟨nj+1,by omega,by simp,by simp [J2f,J9j]⟩⟩
   ·simp at hv
    have z0:¬id=nj:=by omega
    have z1:¬id=nj+1:=by omega
    have z2:¬nj+1=id:=by omega
    have z3:¬nj=id:=by omega
    simp [hkj,hk2,hk1,s4,s18,hji,hv,he,z0,z1,z2,z3,hwj]
    refine ⟨by unfold LIM;omega,?_⟩
    refine hRj _ _ _ (by simp [hkj]) (by simp) ⟨accj++[J9j i j],by simpa using hJj,.inr ⟨nj+1,by omega,by simp,by simp [J2f,J9j,List.take_of_length_le]⟩⟩
  rintro stj hj nj Rj hkj s18 ⟨accj,hJj,hAj⟩ hretj hXj
  simp at hkj
  rw [List.drop_eq_nil_of_le (by rw [J9g];omega),List.nil_append] at hJj
  refine J0e [3,4,8,9,10,17] (fun s=>s 19 = .bool false) (by simp [hkj,s18]) ?_
  intro stk hkk s19
  simp at hkk
  refine J4k s19 ?_
  refine hXj _ _ _ _ ?_
  simp [hk,hk1,hk2,hkj,hkk,s10,hw]
  exact hR _ _ _ (by simp [hk,hk1,hk2,hkj,hkk]) (by simp) ⟨accj,hJj,by simpa [hkk] using hAj⟩
 rintro st h n R hk s10 ⟨acc,hJ,hA⟩ hret hX
 simp at hk
 rw [List.drop_eq_nil_of_le (by omega)] at hJ
 simp [J1t] at hJ
 subst hJ
 refine J0e [3] (fun s=>s 11 = .bool false) (by simp [hk,s10]) ?_
 intro st1 hk1 s11
 simp at hk1
 refine J4k s11 ?_
 refine hX _ _ _ _ ?_
 rcases hA with ⟨ha,hv⟩|⟨id,hid,hv,he⟩
 ·simp at ha
  simp [hk1,hv,ha]
 ·simp at hv
  simp [hk1,hv,he]
theorem Jcq (p:DProgram) (hp:J0d p≤1048576):Holds Tryz.prog 122 [.agg (J00 p)] (fun x=>x = .us 2 ((J26 p).map J2f)):=by
 have hTl:=J7s p hp
 have hlr:p.Rules.length≤1048576:=by have:=J1h J3f p.Rules;unfold J0d J6z at hp;omega
 have hlc:∀ i,∀ hi:i<p.Rules.length,(p.Rules[i]).Calls.length≤1048576:=fun i hi=>by
  have h1:=J7p hp _ (List.getElem_mem hi)
  exact (J89 h1).2.2.2.2.1
 refine J01 Tryz.func122 a122_ok rfl (by simp [a122]) ?_
 simp [a122,J00]
 first|refine J02 (J11 p hp) (by first|simp [J00];done|rfl) ?_|refine J03 (J11 p hp) (by first|simp [J00];done|rfl) ?_
 rintro r rfl
 unfold J26
 cases h1:J3q p
 ·simp
 simp
 unfold J5k at *
 generalize hT:J1t 0 p.Rules=T at *
 refine J0h [1] 4 p.Rules.length (fun i s h n=>0<n∧h 0=some ⟨true,2,[J00 p]⟩∧∃ (acc:List DEdge) (id:Nat),acc++J1t i (p.Rules.drop i)=T∧0<id∧id<n∧s 3 = .ref id 0 acc.length∧h id=some ⟨false,2,acc.map J2f⟩) (by unfold LIM;omega) (by simp) ⟨by simp,by simp [J00],[],1,by simpa using hT,by omega,by omega,by simp,by simp⟩ ?_ ?_
 ·rintro i st h n R hi hg hk s4 hw ⟨hn,e0,acc,id,hJ,hid0,hid,s3,eid⟩ hR hret _
  simp at hk
  rw [J83 hi] at hJ
  refine J0c (J0e [1,3,4] (fun s=>s 15 = .bool true) (by simp [hk,s4,hi,e0,J00]) ?_)
  intro st1 hk1 s15
  simp at hk1
  refine J2i s15 (J0c (J1d (J0c ?_)))
  simp [hk,hk1]
  refine J0h [1,4] 5 (p.Rules[i]).Calls.length (fun j s h n=>0<n∧h 0=some ⟨true,2,[J00 p]⟩∧∃ (acc:List DEdge) (id:Nat),acc++((J2s i p.Rules[i]).drop j++J1t (i+1) (p.Rules.drop (i+1)))=T∧0<id∧id<n∧s 3 = .ref id 0 acc.length∧h id=some ⟨false,2,acc.map J2f⟩) (by have:=hlc i hi;unfold LIM;omega) (by simp) ⟨hn,by simpa using e0,acc,id,by simpa using hJ,hid0,hid,by simp [hk1,s3],by simpa using eid⟩ ?_ ?_
  ·rintro j stj hj nj Rj hji hjg hkj s5 hwj ⟨hnj,e0j,accj,idj,hJj,hid0j,hidj,s3j,eidj⟩ hRj hretj _
   simp at hkj
   rw [J82 hji] at hJj
   have hal:=congrArg List.length hJj
   simp at hal
   have z0:¬idj=nj:=by omega
   have z1:¬idj=nj+1:=by omega
   have z2:¬nj+1=idj:=by omega
   have z3:¬nj=idj:=by omega
   have z4:¬0=idj:=by omega
   have z5:¬0=nj:=by omega
   have z6:¬0=nj+1:=by omega
   have z7:¬idj=0:=by omega
   have z8:¬nj=0:=by omega
   refine J0c (J0e [1,3,4,5] (fun s=>s 26 = .bool true) (by simp [hk,hkj,hk1,s4,s5,hi,hji,e0j,J00,J0a]) ?_)
   intro stk hkk s26
   simp at hkk
   refine J2i s26 ?_
   simp [hk,hkj,hk1,hkk,s4,s5,s3j,eidj,e0j,z0,z1,z2,z3,z4,z5,z6,z7,z8,hwj]
   refine ⟨by unfold LIM;omega,?_⟩
   exact hRj _ _ _ (by simp [hkj,hkk]) (by simp) ⟨by omega,by simp [e0j,z4,z5,z6,z8],accj++[J9j i j],nj+1,by simpa using hJj,by omega,by omega,by simp,by simp [J2f,J9j,List.take_of_length_le]⟩
  rintro stj hj nj Rj hkj s5 ⟨hnj,e0j,accj,idj,hJj,hid0j,hidj,s3j,eidj⟩ hretj hXj
  simp at hkj
  rw [List.drop_eq_nil_of_le (by rw [J9g];omega),List.nil_append] at hJj
  refine J0c (J0e [1,3,4] (fun s=>s 26 = .bool false) (by simp [hk,hkj,hk1,s4,s5,hi,e0j,J00,J0a]) ?_)
  intro stk hkk s26
  simp at hkk
  refine J2g s26 ?_
  simp
  refine hXj _ _ _ _ ?_
  simp [hk,hk1,hkj,hkk,s4,hw]
  exact hR _ _ _ (by simp [hk,hk1,hkj,hkk]) (by simp) ⟨hnj,e0j,accj,idj,hJj,hid0j,hidj,by simp [hkk,s3j],eidj⟩
 rintro st h n R hk s4 ⟨hn,e0,acc,id,hJ,hid0,hid,s3,eid⟩ hret hX
 simp at hk
 rw [List.drop_eq_nil_of_le (by omega)] at hJ
 simp [J1t] at hJ
 subst hJ
 refine J0c (J0e [3] (fun s=>s 15 = .bool false) (by simp [hk,s4,e0,J00]) ?_)
 intro st1 hk1 s15
 simp at hk1
 refine J2g s15 ?_
 refine hX _ _ _ _ ?_
 simp [hk1,s3,eid]
def a152:AFn:= ⟨22,[.t 4,.t 5],(.seq (.reg [Zo 2 (.boxv (.t 0)),Zo 3 (.boxv (.t 1)),Zo 4 (.mv (.k (.str []))),Zo 5 (.mv (.k (.str [])))]) (.seq (.reg [Zf 7 1 2,Zl 8 false 1 7,Zf 9 0 3,Zl 10 false 1 9,Zo 11 (.ixa 7 (.t 8) (.t 10)),Zl 12 true 7 11,Zo 6 (.box [(.str []),(.nil 4),(.nil 2),(.nil 3),(.bool false),(.nil 2),(.str [])]),⟨no,.st 7 (.t 6) (.t 12),no⟩]) (.seq (.draw (.op (Zf 13 0 6) (.op (Zl 14 false 1 13) (.op (Zf 15 3 6) (.op (Zl 16 false 1 15) (.op (Zf 17 1 3) (.op (Zl 18 false 1 17) (.op (Zo 19 (.ixa 3 (.t 16) (.t 18))) (.op (Zf 20 1 19) (.op (Zl 21 false 1 20) (.op (Zv 4 14) (.op (Zv 5 21) .fin)))))))))))) .ret)))⟩
theorem a152_ok:J08 Tryz.prog Tryz.f152=some a152:=by kernel_rfl
def a199:AFn:= ⟨12,[.t 4],(.seq (.reg [Zo 2 (.boxv (.t 0)),Zo 3 (.boxv (.t 1)),Zo 4 (.mv (.k (.str [])))]) (.seq (.reg [Zf 5 1 2,Zl 6 false 1 5,Zf 7 0 3,Zl 8 false 1 7,Zo 9 (.ixa 7 (.t 6) (.t 8)),Zf 10 0 9,Zl 11 false 1 10,Zv 4 11]) .ret))⟩
theorem a199_ok:J08 Tryz.prog Tryz.f199=some a199:=by kernel_rfl
def a173:AFn:= ⟨17,[.t 4],(.seq (.reg [Zo 2 (.boxv (.t 0)),Zo 3 (.boxv (.t 1)),Zo 4 (.mv (.k (.str [])))]) (.seq (.draw (.op (Zf 5 1 2) (.op (Zl 6 false 1 5) (.op (Zf 7 0 3) (.op (Zl 8 false 1 7) (.op (Zo 9 (.ixa 7 (.t 6) (.t 8))) (.op (Zf 10 3 9) (.op (Zl 11 false 1 10) (.op (Zf 12 1 3) (.op (Zl 13 false 1 12) (.op (Zo 14 (.ixa 3 (.t 11) (.t 13))) (.op (Zf 15 1 14) (.op (Zl 16 false 1 15) (.op (Zv 4 16) .fin)))))))))))))) .ret))⟩
theorem a173_ok:J08 Tryz.prog Tryz.f173=some a173:=by kernel_rfl
theorem Jno (p:DProgram) {i k:Nat}(hi:i<p.Rules.length) (hk:k<(p.Rules[i]).Calls.length):Holds Tryz.prog 152 [.agg (J00 p),.agg (J3r ⟨i,k⟩)] (fun x=>x = .tup [.str (p.Rules[i]).Func,.str ((p.Rules[i]).Calls[k]).Func]):=by
 refine J01 Tryz.func152 a152_ok rfl (by simp [a152]) ?_
 simp [a152,J00,J3r,hi,hk,J0a,J0t]
theorem Jd0 (p:DProgram) {i k:Nat}(hi:i<p.Rules.length):Holds Tryz.prog 199 [.agg (J00 p),.agg (J3r ⟨i,k⟩)] (fun x=>x = .str (p.Rules[i]).Func):=by
 refine J01 Tryz.func199 a199_ok rfl (by simp [a199]) ?_
 simp [a199,J00,J3r,hi,J0a,J0t]
theorem Jaz (p:DProgram) {i k:Nat}(hi:i<p.Rules.length) (hk:k<(p.Rules[i]).Calls.length):Holds Tryz.prog 173 [.agg (J00 p),.agg (J3r ⟨i,k⟩)] (fun x=>x = .str ((p.Rules[i]).Calls[k]).Func):=by
 refine J01 Tryz.func173 a173_ok rfl (by simp [a173]) ?_
 simp [a173,J00,J3r,hi,hk,J0a,J0t]
def Jlf (b z:Nat) (rows:List (List AV)) (v:AV) (h:Heap) (n:Nat):Prop:=(rows=[]∧v = .nil z)∨∃ id,b<id∧id<n∧v = .ref id 0 rows.length∧h id=some ⟨false,z,rows⟩
theorem Jlf.mono {b z:Nat}{rows:List (List AV)}{v:AV}{h:Heap}{n m:Nat}(a:Jlf b z rows v h n) (hm:n≤m):Jlf b z rows v h m:=a.imp id fun ⟨i,h1,h2,h3⟩=>⟨i,h1,by omega,h3⟩
theorem Jij {p:DProgram}{j:Nat}(hj:j<(J26 p).length):∃ i k:Nat,∃ hi:i<p.Rules.length,∃ hk:k<(p.Rules[i]).Calls.length,(J26 p)[j]=⟨(i:Int),(k:Int)⟩∧Jiq p ⟨(i:Int),(k:Int)⟩=(p.Rules[i]).Func∧toE p ⟨(i:Int),(k:Int)⟩=((p.Rules[i]).Calls[k]).Func:=by
 have hm:(J26 p)[j]∈J5k p:=by
  have h0:(J26 p)[j]∈J26 p:=List.getElem_mem hj
  generalize (J26 p)[j]=e at h0
  unfold J26 at h0
  split at h0
  ·exact h0
  ·cases h0
 obtain ⟨i,k,hi,hk,he⟩:=J9r hm
 exact ⟨i,k,hi,hk,he,Jdo hi,Jjp hi hk⟩
theorem Jgz (p:DProgram) (hp:J0d p≤1048576):(J26 p).length≤1048576:=by
 have:=J7s p hp
 unfold J26
 split
 ·exact this
 ·simp
theorem Jb6 (l:List Str) (s:Str):decide (0≤J0p (fun x=>x==s) l 0)=J1a l s:=by
 have:=J5l (p:=fun x=>x==s) (l:=l) (i:=0)
 simp only [ge_iff_le] at this
 simp [this,J1a]
def a70:AFn:= ⟨68,[.t 4],(.seq (.reg [Zo 2 (.boxv (.t 0)),Zo 4 (.mv (.k (.nil 1)))]) (.seq (.seq (.reg [Zl 13 true 2 2,Zc 14 67 [.t 13],Zo 15 (.un .not (.t 14)),Zv 16 15,⟨some 17,.ld true 2 (.t 2),(some (16,false))⟩,⟨some 18,.mv (.t 1),(some (16,false))⟩,⟨some 19,.call (.k (.fn (.func 84) [] [])) [.t 17,.t 18],(some (16,false))⟩,⟨some 20,.bin .lss (.t 19) (.k (.int .i64 0)),(some (16,false))⟩,Zo 21 (.pick (.t 16) (.k (.bool true)) (.t 20))]) (.cond (.t 21) (.seq (.reg [Zo 4 (.mv (.k (.nil 1)))]) .ret) .skip)) (.seq (.reg [Zo 22 (.mmk),Zv 23 1,⟨no,.mput (.t 22) (.t 23) (.k (.bool true)),no⟩,Zv 24 22,Zv 5 24]) (.seq (.seq (.reg [Zf 25 0 2,Zl 26 false 1 25,Zo 27 (.len false (.t 26)),Zo 28 (.mv (.k (.int .i64 0)))]) (.blk 0 (.loop (.seq (.reg [Zo 29 (.bin .lss (.t 28) (.t 27))]) (.seq (.cond (.t 29) .skip (.exit 0)) (.seq (.blk 1 (.seq (.reg [Zl 30 true 2 2,Zc 31 151 [.t 30],Zo 32 (.len false (.t 31)),Zo 33 (.mv (.k (.int .i64 0)))]) (.blk 2 (.loop (.seq (.reg [Zo 34 (.bin .lss (.t 33) (.t 32))]) (.seq (.cond (.t 34) .skip (.exit 2)) (.seq (.blk 3 (.seq (.reg [Zo 35 (.ixa 2 (.t 31) (.t 33)),Zl 36 true 2 35,Zo 7 (.box [(.int .i64 0),(.int .i64 0)]),⟨no,.st 2 (.t 7) (.t 36),no⟩]) (.seq (.reg [Zl 38 true 2 2,Zl 39 true 2 7,Zc 40 152 [.t 38,.t 39],Zv 37 40,Zo 41 (.ext (.t 37) 0),Zo 42 (.ext (.t 37) 1),Zv 8 41,Zv 9 42]) (.seq (.reg [Zv 43 5,Zv 44 8,Zo 45 (.mget (.bool false) (.t 43) (.t 44))]) (.cond (.t 45) (.reg [Zv 46 5,Zv 47 9,⟨no,.mput (.t 46) (.t 47) (.k (.bool true)),no⟩]) .skip))))) (.reg [Zo 48 (.bin .add (.t 33) (.k (.int .i64 1))),Zv 33 48])))))))) (.reg [Zo 49 (.bin .add (.t 28) (.k (.int .i64 1))),Zv 28 49]))))))) (.seq (.reg [Zo 10 (.mv (.k (.nil 1)))]) (.seq (.seq (.reg [Zf 50 0 2,Zl 51 false 1 50,Zo 52 (.len false (.t 51)),Zo 53 (.mv (.k (.int .i64 0)))]) (.blk 4 (.loop (.seq (.reg [Zo 54 (.bin .lss (.t 53) (.t 52))]) (.seq (.cond (.t 54) .skip (.exit 4)) (.seq (.blk 5 (.seq (.reg [Zo 55 (.ixa 4 (.t 51) (.t 53)),Zl 56 true 4 55,Zo 12 (.box [(.str []),(.nil 1),(.bool false),(.nil 2)]),⟨no,.st 4 (.t 12) (.t 56),no⟩]) (.seq (.reg [Zv 57 5,Zf 58 0 12,Zl 59 false 1 58,Zo 60 (.mget (.bool false) (.t 57) (.t 59))]) (.cond (.t 60) (.reg [Zv 61 10,Zf 62 0 12,Zl 63 false 1 62,Zo 64 (.bsl 1 [.t 63]),Zo 65 (.app 16 1 (.t 61) (.t 64)),Zv 10 65]) .skip)))) (.reg [Zo 66 (.bin .add (.t 53) (.k (.int .i64 1))),Zv 53 66]))))))) (.seq (.reg [Zv 67 10,Zv 4 67]) .ret)))))))⟩
theorem a70_ok:J08 Tryz.prog Tryz.f70=some a70:=by kernel_rfl
def Jag (M:List Str):List (List AV):=M.map fun k=>[.str k,.bool true]
theorem J6b:∀ (M:List Str) (key:Str),(Jaj (Jag M) key).getD (.bool false) = .bool (J1a M key)
 | [],key=>rfl
 | k::M,key=>by
  have ih:=J6b M key
  by_cases h:k=key
  ·simp [Jag,Jaj,h,J1a]
  ·unfold Jag J1a at *
   simp only [List.map_cons,Jaj,if_neg h,List.any_cons]
   rw [ih]
   simp [h]
theorem Jc9:∀ (M:List Str) (key:Str),Jiy (Jag M) key (.bool true)=Jag (if J1a M key then M else M++[key])
 | [],key=>rfl
 | k::M,key=>by
  have ih:=Jc9 M key
  by_cases h:k=key
  ·simp [Jag,Jiy,h,J1a]
  ·have hh:J1a (k::M) key=J1a M key:=by simp [J1a,h]
   rw [hh]
   simp only [Jag,List.map_cons,Jiy,if_neg h] at *
   rw [ih]
   split <;> simp
theorem Jke (p:DProgram) (name:Str):decide (J0p (fun f=>f.Name==name) p.Functions 0<0) = !J1a (J07 p) name:=by
 have:=J5l (p:=fun f:DFunction=>f.Name==name) (l:=p.Functions) (i:=0)
 have h2:J1a (J07 p) name=p.Functions.any (fun f=>f.Name==name):=by simp [J1a,J07,List.any_map,Function.comp_def]
 rw [h2,←this]
 by_cases h:J0p (fun f:DFunction=>f.Name==name) p.Functions 0<0
 ·have h3:¬(J0p (fun f:DFunction=>f.Name==name) p.Functions 0≥0):=by omega
  simp [h,h3]
 ·have h3:J0p (fun f:DFunction=>f.Name==name) p.Functions 0≥0:=by omega
  simp [h,h3]
theorem Jlf.keep {b z:Nat}{rows:List (List AV)}{v:AV}{h:Heap}{n:Nat}(a:Jlf b z rows v h n) (x:Option Blk):Jlf b z rows v (upd h n x) n:=a.imp id fun ⟨i,h1,h2,h3,h4⟩=>⟨i,h1,h2,h3,by rw [Jud (by omega)];exact h4⟩
def Jcf (p:DProgram) (e:DEdge):Str×Str:=(Jiq p e,toE p e)
theorem Jd1 (p:DProgram):J0i p=(J5k p).map (Jcf p):=rfl
theorem Jjm {p:DProgram}{j:Nat}(hj:j<(J5k p).length):∃ i k:Nat,∃ hi:i<p.Rules.length,∃ hk:k<(p.Rules[i]).Calls.length,(J5k p)[j]=⟨(i:Int),(k:Int)⟩∧Jiq p ⟨(i:Int),(k:Int)⟩=(p.Rules[i]).Func∧toE p ⟨(i:Int),(k:Int)⟩=((p.Rules[i]).Calls[k]).Func:=by
 obtain ⟨i,k,hi,hk,he⟩:=J9r (List.getElem_mem hj)
 exact ⟨i,k,hi,hk,he,Jdo hi,Jjp hi hk⟩
theorem J39 (p:DProgram) (hp:J0d p≤1048576) (name:Str):Holds Tryz.prog 70 [.agg (J00 p),.str name] (fun x=>x = .us 1 (J05 (J0q p name))):=by
 have hTl:=J7s p hp
 have hfl:p.Functions.length≤1048576:=by have:=J1h J0j p.Functions;unfold J0d J17 at hp;omega
 refine J01 Tryz.func70 a70_ok rfl (by simp [a70]) ?_
 simp [a70,J00]
 first|refine J02 (J3z p hp) (by first|simp [J00];done|rfl) ?_|refine J03 (J3z p hp) (by first|simp [J00];done|rfl) ?_
 rintro r rfl
 unfold J0q
 cases h1:J3q p
 ·simp [J05]
 simp
 first|refine J02 (J47 p name) (by first|simp [J00];done|rfl) ?_|refine J03 (J47 p name) (by first|simp [J00];done|rfl) ?_
 rintro r rfl
 have g1:=Jke p name
 cases h2:J1a (J07 p) name
 ·rw [h2] at g1
  simp at g1
  simp [g1,J05]
 rw [h2] at g1
 simp at g1
 have g2:¬J0p (fun f:DFunction=>f.Name==name) p.Functions 0<0:=by omega
 simp [g1,g2,Jiy]
 intro _
 generalize hS:Jir (J0i p) p.Functions.length [name]=S
 have hre:J21 (J0i p) (J07 p) name=(J07 p).filter (J1a S):=by
  unfold J21
  rw [show (J07 p).length=p.Functions.length by simp [J07],hS]
 rw [hre]
 refine J0h [2,5,27] 28 p.Functions.length (fun i s h n=>1<n∧h 0=some ⟨true,2,[J00 p]⟩∧∃ M:List Str,h 1=some ⟨true,0,Jag M⟩∧Jir (J0i p) (p.Functions.length - i) M=S) (by unfold LIM;omega) (by simp) ⟨by simp,by simp [J00],[name],by simp [Jag],by simpa using hS⟩ ?_ ?_
 ·rintro i st h n R hi hg hk s28 hw ⟨hn,e0,M,e1,hJ⟩ hR hret _
  simp at hk
  refine J0e [2,5,27,28] (fun s=>s 29 = .bool true) (by simp [hk,s28,hi]) ?_
  intro st1 hk1 s29
  simp at hk1
  refine J4m s29 (J0c (J1d ?_))
  simp [hk,hk1,e0,J00]
  first|refine J02 (Jf9 p hp) (by first|simp [J00];done|rfl) ?_|refine J03 (Jf9 p hp) (by first|simp [J00];done|rfl) ?_
  rintro r rfl
  simp
  intro hle
  have z0:¬0=n:=by omega
  have z1:¬1=n:=by omega
  have z2:¬n=0:=by omega
  have hJ':Jir (J0i p) (p.Functions.length - (i+1)) (Jfb (J0i p) M)=S:=by
   rw [←hJ,show p.Functions.length - i=(p.Functions.length - (i+1))+1 by omega]
   rfl
  generalize hM2:Jfb (J0i p) M=M2 at hJ'
  refine J0h [2,5,27,28,31,32] 33 (J5k p).length (fun j s h' n'=>n<n'∧h' 0=some ⟨true,2,[J00 p]⟩∧h' n=some ⟨false,2,(J5k p).map J2f⟩∧∃ X:List Str,h' 1=some ⟨true,0,Jag X⟩∧(((J5k p).drop j).map (Jcf p)).foldl Jdd X=M2) hle (by simp) ⟨by omega,by simp [e0,z0,z2,J00],by simp,M,by simp [e1,z1],by rw [←hM2,Jd1];simp [Jfb]⟩ ?_ ?_
  ·rintro j st2 h2 n2 R2 hj hjg hk2 s33 hw2 ⟨hn2,f0,fn,X,f1,hX⟩ hR2 hret2 _
   simp at hk2
   obtain ⟨a,b,ha,hb,he,hf,ht⟩:=Jjm hj
   rw [List.drop_eq_getElem_cons hj,List.map_cons,List.foldl_cons,he,Jcf,hf,ht] at hX
   have y0:¬0=n2:=by omega
   have y1:¬1=n2:=by omega
   have y2:¬n=n2:=by omega
   have y3:¬n2=n:=by omega
   have y4:¬n2=1:=by omega
   have y5:¬n2=0:=by omega
   have y6:¬n=1:=by omega
   refine J0e [2,5,27,28,31,32,33] (fun s=>s 34 = .bool true) (by simp [hk2,s33,hj]) ?_
   intro st3 hk3 s34
   simp at hk3
   refine J4m s34 (J0c (J1d ?_))
   simp [hk2,hk3,hk1,hk,s33,hj,f0,fn,f1,he,J2f,J00,y0,y1,y2,y3,y4,y5,y6,z0,z1,z2]
   first|refine J02 (Jno p ha hb) (by first|simp [J00,J3r];done|rfl) ?_|refine J03 (Jno p ha hb) (by first|simp [J00,J3r];done|rfl) ?_
   rintro r rfl
   simp [hk2,hk3,hk1,hk,f0,fn,f1,J6b,y0,y1,y2,y3,y4,y5,y6]
   cases c1:J1a X (p.Rules[a]).Func
   ·rw [Jdd,c1] at hX
    simp at hX
    simp [hk2,hk3,hk1,hk,s33,hw2]
    exact hR2 _ _ _ (by simp [hk2,hk3,hk1,hk]) (by simp) ⟨by omega,by simp [f0,y0,y5,J00],by simp [fn,y2,y3],X,by simp [f1,y1,y4],by simpa using hX⟩
   ·rw [Jdd,c1] at hX
    simp only [if_true] at hX
    simp [hk2,hk3,hk1,hk,f1,s33,hw2,Jc9,y0,y1,y2,y3,y4,y5,y6]
    exact hR2 _ _ _ (by simp [hk2,hk3,hk1,hk]) (by simp) ⟨by omega,by simp [f0,y0,y5,J00],by simp [fn,y2,y3,y6],(if J1a X ((p.Rules[a]).Calls[b]).Func then X else X++[((p.Rules[a]).Calls[b]).Func]),by simp,by simpa using hX⟩
  rintro st2 h2 n2 R2 hk2 s33 ⟨hn2,f0,fn,X,f1,hX⟩ hret2 hX2
  simp at hk2
  rw [List.drop_eq_nil_of_le (by omega)] at hX
  simp at hX
  subst hX
  refine J0e [2,5,27,28] (fun s=>s 34 = .bool false) (by simp [hk2,s33]) ?_
  intro st3 hk3 s34
  simp at hk3
  refine J4k s34 ?_
  refine hX2 _ _ _ _ ?_
  simp [hk,hk1,hk2,hk3,s28,hw]
  exact hR _ _ _ (by simp [hk,hk1,hk2,hk3]) (by simp) ⟨by omega,f0,X,f1,hJ'⟩
 rintro st h n R hk s28 ⟨hn,e0,M,e1,hJ⟩ hret hX
 simp at hk
 rw [Nat.sub_self] at hJ
 simp only [Jir] at hJ
 subst hJ
 refine J0e [2,5] (fun s=>s 29 = .bool false) (by simp [hk,s28]) ?_
 intro st1 hk1 s29
 simp at hk1
 refine J4k s29 ?_
 refine hX _ _ _ _ ?_
 simp [hk,hk1,e0,J00]
 intro _
 generalize hT:(J07 p).filter (J1a M)=T
 have hTn:T.length≤p.Functions.length:=by rw [←hT];refine Nat.le_trans (List.length_filter_le _ _) (by simp [J07])
 refine J0h [5,51,52] 53 p.Functions.length (fun i s h n=>1<n∧h 1=some ⟨true,0,Jag M⟩∧∃ acc:List Str,acc++((J07 p).drop i).filter (J1a M)=T∧Jlf 1 1 (J05 acc) (s 10) h n) (by unfold LIM;omega) (by simp) ⟨hn,by simpa using e1,[],by simpa using hT,.inl (by simp [J05])⟩ ?_ ?_
 ·rintro i st2 h2 n2 R2 hi hg hk2 s53 hw ⟨hn2,f1,acc,hJ,hA⟩ hR2 hret2 _
  simp at hk2
  have hin:i<(J07 p).length:=by simpa [J07] using hi
  have hni:(J07 p)[i]=(p.Functions[i]).Name:=by simp [J07]
  rw [List.drop_eq_getElem_cons hin,List.filter_cons,hni] at hJ
  have y0:¬1=n2:=by omega
  have y1:¬n2=1:=by omega
  have y2:¬1=n2+1:=by omega
  have y3:¬1=n2+1+1:=by omega
  have y4:¬n2=0:=by omega
  refine J0e [5,10,51,52,53] (fun s=>s 54 = .bool true) (by simp [hk2,s53,hi]) ?_
  intro st3 hk3 s54
  simp at hk3
  refine J4m s54 (J0c (J1d ?_))
  refine J1q [5,10,51,52,53] (fun s h' n'=>s 12 = .ptr n2 0 0∧n'=n2+1∧h' n2=some ⟨true,4,[J04 p.Functions[i]]⟩∧h' 1=some ⟨true,0,Jag M⟩∧Jlf 1 1 (J05 acc) (st2 10) h' n2) ?_ ?_
  ·simp [hk2,hk3,hk1,hk,s53,hi,J04,f1,y0,y1,y4]
   exact hA.keep _
  rintro st4 h4 n4 hk4 ⟨s12,rfl,en,f1',hA'⟩
  simp at hk4
  refine J0e [5,10,12,51,52,53] (fun s=>s 60 = .bool (J1a M (p.Functions[i]).Name)) ?_ ?_
  ·simp [hk4,hk2,hk3,hk1,hk,s12,en,J04,f1',J6b]
  intro st5 hk5 s60
  simp at hk5
  cases c1:J1a M (p.Functions[i]).Name
  ·rw [c1] at hJ s60
   simp only [Bool.false_eq_true,if_false] at hJ
   simp [hk5,hk4,hk2,hk3,hk1,hk,s53,s60,hw]
   exact hR2 _ _ _ (by simp [hk5,hk4,hk2,hk3,hk1,hk]) (by simp) ⟨by omega,f1',acc,hJ,by simpa [hk5,hk4,hk3] using hA'.mono (Nat.le_succ _)⟩
  rw [c1] at hJ s60
  simp only [if_true] at hJ
  have hal:=congrArg List.length hJ
  simp only [List.length_append,List.length_cons] at hal
  rcases hA' with ⟨hz,hv⟩|⟨id,hid,hid',hv,hc⟩
  ·have hz':acc=[]:=by simpa [J05] using hz
   subst hz'
   simp [hk5,hk4,hk2,hk3,hk1,hk,hv,s12,s60,en,J04,s53,hw,y0,y1,y2,y3,y4]
   refine ⟨by unfold LIM;omega,?_⟩
   exact hR2 _ _ _ (by simp [hk5,hk4,hk2,hk3,hk1,hk]) (by simp) ⟨by omega,by simp [f1',y0,y1,y2,y3,y4],[(p.Functions[i]).Name],by simpa using hJ,.inr ⟨n2+1+1,by omega,by omega,by simp [J05],by simp [J05]⟩⟩
  ·simp [J05] at hv
   have x0:¬id=n2:=by omega
   have x1:¬id=n2+1:=by omega
   have x2:¬n2+1=id:=by omega
   have x3:¬n2=id:=by omega
   have x4:¬1=id:=by omega
   simp [hk5,hk4,hk2,hk3,hk1,hk,hv,hc,s12,s60,en,J04,s53,hw,y0,y1,y2,y3,y4,x0,x1,x2,x3,x4]
   refine ⟨by unfold LIM;omega,?_⟩
   exact hR2 _ _ _ (by simp [hk5,hk4,hk2,hk3,hk1,hk]) (by simp) ⟨by omega,by simp [f1',y0,y1,y2,y3,y4,x4],acc++[(p.Functions[i]).Name],by simpa using hJ,.inr ⟨n2+1+1,by omega,by omega,by simp [J05],by simp [J05,List.take_of_length_le]⟩⟩
 rintro st2 h2 n2 R2 hk2 s53 ⟨hn2,f1,acc,hJ,hA⟩ hret2 hX2
 simp at hk2
 rw [List.drop_eq_nil_of_le (by simp [J07])] at hJ
 simp at hJ
 subst hJ
 refine J0e [10] (fun s=>s 54 = .bool false) (by simp [hk2,s53]) ?_
 intro st3 hk3 s54
 simp at hk3
 refine J4k s54 ?_
 refine hX2 _ _ _ _ ?_
 rcases hA with ⟨hz,hv⟩|⟨id,hid,hid',hv,hc⟩
 ·simp [hk3,hv,hz]
 ·simp at hv
  simp [hk3,hv,hc]
end Go.Proofs.YtoclolkigjbcgaaGreat

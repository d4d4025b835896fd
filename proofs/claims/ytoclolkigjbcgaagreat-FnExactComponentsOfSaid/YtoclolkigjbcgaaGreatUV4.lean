/- Contracts: valid arguments. -/
import Derived.Test.YtoclolkigjbcgaaGreatUC13
import Derived.Test.YtoclolkigjbcgaaGreatUC1
import Derived.Test.YtoclolkigjbcgaaGreatUM1
namespace Go.Proofs.YtoclolkigjbcgaaGreat
set_option maxRecDepth 40000
set_option maxHeartbeats 4000000
open Go Go.RowKit Go.Proofs
set_option linter.all false
def a298:AFn:= ⟨6,[.t 2],(.seq (.reg [Zo 1 (.boxv (.t 0)),Zo 2 (.mv (.k (.bool false)))]) (.seq (.reg [Zl 3 true 2 1,Zc 4 237 [.t 3],Zo 5 (.un .not (.t 4)),Zv 2 5]) .ret))⟩
theorem a298_ok:J08 Tryz.prog Tryz.f298=some a298:=by kernel_rfl
def a242:AFn:= ⟨32,[.t 2],(.seq (.reg [Zo 1 (.boxv (.t 0)),Zo 2 (.mv (.k (.bool false)))]) (.seq (.seq (.reg [Zf 3 1 1,Zl 4 false 1 3,Zc 5 297 [.t 4,(.k (.fn (.func 298) [] []))]]) (.cond (.t 5) (.seq (.reg [Zo 2 (.mv (.k (.bool false)))]) .ret) .skip)) (.seq (.seq (.reg [Zf 6 0 1,Zl 7 false 1 6,Zo 8 (.un .not (.t 7))]) (.cond (.t 8) (.seq (.reg [Zf 9 1 1,Zl 10 false 1 9,Zo 11 (.len false (.t 10)),Zo 12 (.bin .eql (.t 11) (.k (.int .i64 1))),Zv 13 12,⟨some 14,.fld 2 (.t 1),(some (13,true))⟩,⟨some 15,.ld false 1 (.t 14),(some (13,true))⟩,⟨some 16,.bin .eql (.t 15) (.k (.str [])),(some (13,true))⟩,Zo 17 (.pick (.t 13) (.t 16) (.k (.bool false))),Zv 2 17]) .ret) .skip)) (.seq (.reg [Zf 18 1 1,Zl 19 false 1 18,Zo 20 (.len false (.t 19)),Zo 21 (.bin .leq (.t 20) (.k (.int .i64 3))),Zv 22 21,⟨some 23,.fld 2 (.t 1),(some (22,true))⟩,⟨some 24,.ld false 1 (.t 23),(some (22,true))⟩,⟨some 25,.bin .eql (.t 24) (.k (.str [])),(some (22,true))⟩,⟨some 26,.mv (.t 25),(some (22,true))⟩,⟨some 27,.fld 2 (.t 1),(some (26,false))⟩,⟨some 28,.ld false 1 (.t 27),(some (26,false))⟩,⟨some 29,.call (.k (.fn (.func 205) [] [])) [.t 28],(some (26,false))⟩,⟨some 30,.pick (.t 26) (.k (.bool true)) (.t 29),(some (22,true))⟩,Zo 31 (.pick (.t 22) (.t 30) (.k (.bool false))),Zv 2 31]) .ret))))⟩
theorem a242_ok:J08 Tryz.prog Tryz.f242=some a242:=by kernel_rfl
def a287:AFn:= ⟨44,[.t 2],(.seq (.reg [Zo 1 (.boxv (.t 0)),Zo 2 (.mv (.k (.bool false)))]) (.seq (.seq (.reg [Zo 3 (.mv (.k (.int .i64 0)))]) (.blk 0 (.loop (.seq (.seq (.reg [Zv 4 3,Zf 5 1 1,Zl 6 false 1 5,Zo 7 (.len false (.t 6)),Zo 8 (.bin .lss (.t 4) (.t 7))]) (.cond (.t 8) .skip (.exit 0))) (.seq (.blk 1 (.seq (.reg [Zf 11 1 1,Zl 12 false 1 11,Zv 13 3,Zo 14 (.ixa 2 (.t 12) (.t 13)),Zl 15 true 2 14,Zc 16 286 [.t 15],Zo 17 (.un .not (.t 16))]) (.cond (.t 17) (.seq (.reg [Zo 2 (.mv (.k (.bool false)))]) .ret) .skip))) (.reg [Zv 9 3,Zo 10 (.bin .add (.t 9) (.k (.int .i64 1))),Zv 3 10])))))) (.seq (.seq (.reg [Zf 18 0 1,Zl 19 false 1 18,Zo 20 (.un .not (.t 19))]) (.cond (.t 20) (.seq (.reg [Zf 21 1 1,Zl 22 false 1 21,Zo 23 (.len false (.t 22)),Zo 24 (.bin .eql (.t 23) (.k (.int .i64 1))),Zv 25 24,⟨some 26,.fld 2 (.t 1),(some (25,true))⟩,⟨some 27,.ld false 1 (.t 26),(some (25,true))⟩,⟨some 28,.bin .eql (.t 27) (.k (.str [])),(some (25,true))⟩,Zo 29 (.pick (.t 25) (.t 28) (.k (.bool false))),Zv 2 29]) .ret) .skip)) (.seq (.reg [Zf 30 1 1,Zl 31 false 1 30,Zo 32 (.len false (.t 31)),Zo 33 (.bin .leq (.t 32) (.k (.int .i64 3))),Zv 34 33,⟨some 35,.fld 2 (.t 1),(some (34,true))⟩,⟨some 36,.ld false 1 (.t 35),(some (34,true))⟩,⟨some 37,.bin .eql (.t 36) (.k (.str [])),(some (34,true))⟩,⟨some 38,.mv (.t 37),(some (34,true))⟩,⟨some 39,.fld 2 (.t 1),(some (38,false))⟩,⟨some 40,.ld false 1 (.t 39),(some (38,false))⟩,⟨some 41,.call (.k (.fn (.func 260) [] [])) [.t 40],(some (38,false))⟩,⟨some 42,.pick (.t 38) (.k (.bool true)) (.t 41),(some (34,true))⟩,Zo 43 (.pick (.t 34) (.t 42) (.k (.bool false))),Zv 2 43]) .ret))))⟩
theorem a287_ok:J08 Tryz.prog Tryz.f287=some a287:=by kernel_rfl
def a223:AFn:= ⟨23,[.t 6],(.seq (.reg [Zo 3 (.boxv (.t 0)),Zo 6 (.mv (.k (.bool false)))]) (.seq (.reg [Zl 7 true 3 3,Zc 8 287 [.t 7],Zv 9 8,⟨some 10,.fld 0 (.t 3),(some (9,true))⟩,⟨some 11,.ld false 1 (.t 10),(some (9,true))⟩,⟨some 12,.mv (.t 1),(some (9,true))⟩,⟨some 13,.beq false (.t 11) (.t 12),(some (9,true))⟩,Zo 14 (.pick (.t 9) (.t 13) (.k (.bool false))),Zv 15 14,⟨some 16,.ld true 3 (.t 3),(some (15,true))⟩,⟨some 17,.call (.k (.fn (.func 288) [] [])) [.t 16],(some (15,true))⟩,⟨some 18,.mv (.t 2),(some (15,true))⟩,⟨some 19,.call (.k (.fn (.func 137) [] [])) [.t 17,.t 18],(some (15,true))⟩,⟨some 20,.len false (.t 19),(some (15,true))⟩,⟨some 21,.bin .eql (.t 20) (.k (.int .i64 0)),(some (15,true))⟩,Zo 22 (.pick (.t 15) (.t 21) (.k (.bool false))),Zv 6 22]) .ret))⟩
theorem a223_ok:J08 Tryz.prog Tryz.f223=some a223:=by kernel_rfl
theorem Ju7 (s:DSum):Holds Tryz.prog 298 [.agg (J10 s)] (fun r=>r = .bool (!J8h s)):=by
 refine J01 Tryz.func298 a298_ok rfl (by simp [a298]) ?_
 simp [a298,J10]
 first|refine J02 (J5u s) (by first|simp [J10];done|rfl) ?_|refine J03 (J5u s) (by first|simp [J10];done|rfl) ?_
 rintro r rfl
 simp
theorem J43 (x:DArg):Holds Tryz.prog 242 [.agg (J0o x)] (fun r=>r = .bool (Jcc x)):=by
 refine J01 Tryz.func242 a242_ok rfl (by simp [a242]) ?_
 simp [a242,J0o]
 refine J15 (p:=fun s => !J8h s) (rowOf:=J10) (eltOf:=fun s => .agg (J10 s)) Tryz.func297 a297_ok rfl Tryz.func323 a323_ok rfl (fun x=>by simp) x.Heads
  (fun s _=>J60 (Ju7 s) (by simp) rfl) ?_
 rw [J9o]
 unfold Jcc
 cases h1:x.Heads.all J8h
 ·simp
 simp
 cases h2:x.Lst
 ·simp
  intro _
  by_cases h3:(x.Heads.length:Int)=1
  ·have h3n:x.Heads.length=1:=by omega
   simp [h3,h3n]
  ·have h3n:¬x.Heads.length=1:=by omega
   simp [h3,h3n]
 ·simp
  intro _
  by_cases h3:(x.Heads.length:Int)≤3
  ·have h3n:x.Heads.length≤3:=by omega
   simp [h3,h3n,Int.not_lt.2 h3]
   by_cases h4:x.Base=[]
   ·simp [h4]
   simp [h4]
   first|refine J02 (J19 x.Base) (by first|simp;done|rfl) ?_|refine J03 (J19 x.Base) (by first|simp;done|rfl) ?_
   rintro r rfl
   simp [h4]
  ·have h3n:¬x.Heads.length≤3:=by omega
   simp [h3,h3n]
theorem J95 (x:DArg):Holds Tryz.prog 287 [.agg (J0o x)] (fun r=>r = .bool (Jcc x)):=by
 refine J1f Tryz.func287 rfl rfl fun hl => ?_
 simp [J0o] at hl
 refine J01 Tryz.func287 a287_ok rfl (by simp [a287]) ?_
 simp [a287,J0o]
 unfold Jcc
 generalize hB:x.Heads.all J8h=B
 refine J5e [1] 3 x.Heads.length (fun i _=>(x.Heads.drop i).all J8h=B) hl.1 (by simp) (by simpa using hB) ?_ ?_
 ·rintro i st h R hi hg hk s3 hw hJ hh hR hret _
  simp at hk
  rw [List.drop_eq_getElem_cons hi,List.all_cons] at hJ
  have e0:=hh 0
  simp at e0
  simp [hk,s3,hi,hg,e0]
  intro _
  first|refine J02 (J56 (x.Heads[i]'hi)) (by first|simp;done|rfl) ?_|refine J03 (J56 (x.Heads[i]'hi)) (by first|simp;done|rfl) ?_
  rintro r rfl
  cases hc:J8h x.Heads[i]
  ·rw [hc,Bool.false_and] at hJ
   subst hJ
   simp
   refine hret _ _ _ ?_
   simp
  ·rw [hc,Bool.true_and] at hJ
   simp [hk,s3,hw]
   exact hR _ (by simp [hk]) (by simp) hJ
 ·rintro st h R hk s3 hJ hh _ hX
  simp at hk
  rw [List.drop_eq_nil_of_le (by omega)] at hJ
  have e0:=hh 0
  simp at e0
  simp [hk,s3,e0]
  intro _
  refine hX _ _ ?_
  simp at hJ
  subst hJ
  simp [hk]
  cases h2:x.Lst
  ·simp [hk]
   intro _
   by_cases h3:(x.Heads.length:Int)=1
   ·have h3n:x.Heads.length=1:=by omega
    simp [h3,h3n,hk]
   ·have h3n:¬x.Heads.length=1:=by omega
    simp [h3,h3n]
  ·simp [hk]
   intro _
   by_cases h3:(x.Heads.length:Int)≤3
   ·have h3n:x.Heads.length≤3:=by omega
    simp [h3,h3n,Int.not_lt.2 h3,hk]
    by_cases h4:x.Base=[]
    ·simp [h4]
    simp [h4,hk]
    first|refine J02 (J0x x.Base) (by first|simp;done|rfl) ?_|refine J03 (J0x x.Base) (by first|simp;done|rfl) ?_
    rintro r rfl
    simp [h4]
   ·have h3n:¬x.Heads.length≤3:=by omega
    simp [h3,h3n]
theorem J50 (x:DArg) (b:Bool) (scope:List Str) (hw:J7w x≤1048576):Holds Tryz.prog 223 [.agg (J0o x),.bool b,.sl 1 (J05 scope)] (fun r=>r = .bool (J6o x b scope)):=by
 refine J01 Tryz.func223 a223_ok rfl (by simp [a223]) ?_
 simp [a223,J0o]
 first|refine J02 (J95 x) (by first|simp [J0o];done|rfl) ?_|refine J03 (J95 x) (by first|simp [J0o];done|rfl) ?_
 rintro r rfl
 unfold J6o
 cases h1:Jcc x
 ·simp
 simp
 by_cases hb:x.Lst=b
 case neg=>simp [hb]
 simp [hb]
 subst hb
 first|refine J02 (Jdb x hw) (by first|simp [J0o];done|rfl) ?_|refine J03 (Jdb x hw) (by first|simp [J0o];done|rfl) ?_
 rintro r rfl
 simp
 have hl:(J3x (J5q x)).length≤1048576:=Nat.le_trans (Ji9 _) (Jba x hw)
 first|refine J02 (J45 (J3x (J5q x)) scope hl) (by first|simp;done|rfl) ?_|refine J03 (J45 (J3x (J5q x)) scope hl) (by first|simp;done|rfl) ?_
 rintro r rfl
 simp
 intro _
 rw [←Jad]
 rw [Bool.eq_iff_iff]
 simp
theorem a293_ok:J08 Tryz.prog Tryz.f293=some (J1z 322):=by kernel_rfl
theorem a322_ok:J08 Tryz.prog Tryz.f322=some (J2r true 4):=by kernel_rfl
def a294:AFn:= ⟨9,[.t 3],(.seq (.reg [Zo 2 (.boxv (.t 0)),Zo 3 (.mv (.k (.bool false)))]) (.seq (.reg [Zf 4 0 2,Zl 5 false 1 4,Zf 6 0 1,Zl 7 false 1 6,Zo 8 (.bin .eql (.t 5) (.t 7)),Zv 3 8]) .ret))⟩
theorem a294_ok:J08 Tryz.prog Tryz.f294=some a294:=by kernel_rfl
def a236:AFn:= ⟨54,[.t 4],(.seq (.reg [Zo 2 (.boxv (.t 0)),Zo 4 (.mv (.k (.bool false)))]) (.seq (.seq (.reg [Zv 7 1,Zo 8 (.len false (.t 7)),Zo 9 (.mv (.k (.int .i64 0)))]) (.blk 0 (.loop (.seq (.reg [Zo 10 (.bin .lss (.t 9) (.t 8))]) (.seq (.cond (.t 10) .skip (.exit 0)) (.seq (.blk 1 (.seq (.reg [Zv 11 9,Zo 12 (.ixa 4 (.t 7) (.t 9)),Zl 13 true 4 12,Zo 6 (.box [(.str []),(.bool false),(.str []),(.str [])]),Zv 5 11,⟨no,.st 4 (.t 6) (.t 13),no⟩]) (.seq (.seq (.reg [Zf 14 0 6,Zl 15 false 1 14,Zc 16 205 [.t 15],Zo 17 (.un .not (.t 16)),Zv 18 17,⟨some 19,.fld 1 (.t 2),(some (18,false))⟩,⟨some 20,.ld false 1 (.t 19),(some (18,false))⟩,⟨some 21,.fld 0 (.t 6),(some (18,false))⟩,⟨some 22,.ld false 1 (.t 21),(some (18,false))⟩,⟨some 23,.call (.k (.fn (.func 72) [] [])) [.t 20,.t 22],(some (18,false))⟩,⟨some 24,.un .not (.t 23),(some (18,false))⟩,Zo 25 (.pick (.t 18) (.k (.bool true)) (.t 24)),Zv 26 25,⟨some 27,.mv (.t 1),(some (26,false))⟩,⟨some 28,.mv (.t 5),(some (26,false))⟩,⟨some 29,.slc false 4 (.t 27) Option.none (some (.t 28)),(some (26,false))⟩,⟨some 30,.mkf (.func 294) [] [.t 6],(some (26,false))⟩,⟨some 31,.call (.k (.fn (.func 293) [] [])) [.t 29,.t 30],(some (26,false))⟩,Zo 32 (.pick (.t 26) (.k (.bool true)) (.t 31))]) (.cond (.t 32) (.seq (.reg [Zo 4 (.mv (.k (.bool false)))]) .ret) .skip)) (.seq (.reg [Zf 33 1 6,Zl 34 false 1 33]) (.cond (.t 34) (.seq (.reg [Zf 35 2 6,Zl 36 false 1 35,Zc 37 140 [.t 36],Zo 38 (.un .not (.t 37)),Zv 39 38,⟨some 40,.fld 3 (.t 6),(some (39,false))⟩,⟨some 41,.ld false 1 (.t 40),(some (39,false))⟩,⟨some 42,.call (.k (.fn (.func 205) [] [])) [.t 41],(some (39,false))⟩,⟨some 43,.un .not (.t 42),(some (39,false))⟩,Zo 44 (.pick (.t 39) (.k (.bool true)) (.t 43))]) (.cond (.t 44) (.seq (.reg [Zo 4 (.mv (.k (.bool false)))]) .ret) .skip)) (.seq (.reg [Zf 45 2 6,Zl 46 false 1 45,Zo 47 (.bin .neq (.t 46) (.k (.str []))),Zv 48 47,⟨some 49,.fld 3 (.t 6),(some (48,false))⟩,⟨some 50,.ld false 1 (.t 49),(some (48,false))⟩,⟨some 51,.bin .neq (.t 50) (.k (.str [])),(some (48,false))⟩,Zo 52 (.pick (.t 48) (.k (.bool true)) (.t 51))]) (.cond (.t 52) (.seq (.reg [Zo 4 (.mv (.k (.bool false)))]) .ret) .skip))))))) (.reg [Zo 53 (.bin .add (.t 9) (.k (.int .i64 1))),Zv 9 53]))))))) (.seq (.reg [Zo 4 (.mv (.k (.bool true)))]) .ret)))⟩
theorem a236_ok:J08 Tryz.prog Tryz.f236=some a236:=by kernel_rfl
def a219:AFn:= ⟨72,[.t 4],(.seq (.reg [Zo 2 (.boxv (.t 0)),Zo 4 (.mv (.k (.bool false)))]) (.seq (.reg [Zo 8 (.bsl 1 []),Zv 5 8]) (.seq (.seq (.reg [Zo 6 (.mv (.k (.int .i64 0)))]) (.blk 0 (.loop (.seq (.seq (.reg [Zv 9 6,Zv 10 1,Zo 11 (.len false (.t 10)),Zo 12 (.bin .lss (.t 9) (.t 11))]) (.cond (.t 12) .skip (.exit 0))) (.seq (.blk 1 (.seq (.reg [Zv 15 1,Zv 16 6,Zo 17 (.ixa 4 (.t 15) (.t 16)),Zl 18 true 4 17,Zo 7 (.box [(.str []),(.bool false),(.str []),(.str [])]),⟨no,.st 4 (.t 7) (.t 18),no⟩]) (.seq (.seq (.reg [Zf 19 1 2,Zl 20 false 1 19,Zf 21 0 7,Zl 22 false 1 21,Zc 23 63 [.t 20,.t 22],Zo 24 (.bin .lss (.t 23) (.k (.int .i64 0))),Zv 25 24,⟨some 26,.fld 0 (.t 7),(some (25,false))⟩,⟨some 27,.ld false 1 (.t 26),(some (25,false))⟩,⟨some 28,.call (.k (.fn (.func 260) [] [])) [.t 27],(some (25,false))⟩,⟨some 29,.un .not (.t 28),(some (25,false))⟩,Zo 30 (.pick (.t 25) (.k (.bool true)) (.t 29)),Zv 31 30,⟨some 32,.mv (.t 5),(some (31,false))⟩,⟨some 33,.fld 0 (.t 7),(some (31,false))⟩,⟨some 34,.ld false 1 (.t 33),(some (31,false))⟩,⟨some 35,.call (.k (.fn (.func 63) [] [])) [.t 32,.t 34],(some (31,false))⟩,⟨some 36,.bin .geq (.t 35) (.k (.int .i64 0)),(some (31,false))⟩,Zo 37 (.pick (.t 31) (.k (.bool true)) (.t 36))]) (.cond (.t 37) (.seq (.reg [Zo 4 (.mv (.k (.bool false)))]) .ret) .skip)) (.seq (.reg [Zv 38 5,Zf 39 0 7,Zl 40 false 1 39,Zo 41 (.bsl 1 [.t 40]),Zo 42 (.app 16 1 (.t 38) (.t 41)),Zv 5 42]) (.seq (.reg [Zf 43 1 7,Zl 44 false 1 43,Zv 45 44,⟨some 46,.fld 2 (.t 7),(some (45,true))⟩,⟨some 47,.ld false 1 (.t 46),(some (45,true))⟩,⟨some 48,.call (.k (.fn (.func 216) [] [])) [.t 47],(some (45,true))⟩,⟨some 49,.un .not (.t 48),(some (45,true))⟩,⟨some 50,.mv (.t 49),(some (45,true))⟩,⟨some 51,.fld 3 (.t 7),(some (50,false))⟩,⟨some 52,.ld false 1 (.t 51),(some (50,false))⟩,⟨some 53,.call (.k (.fn (.func 260) [] [])) [.t 52],(some (50,false))⟩,⟨some 54,.un .not (.t 53),(some (50,false))⟩,⟨some 55,.pick (.t 50) (.k (.bool true)) (.t 54),(some (45,true))⟩,Zo 56 (.pick (.t 45) (.t 55) (.k (.bool false))),Zv 57 56,⟨some 58,.fld 1 (.t 7),(some (57,false))⟩,⟨some 59,.ld false 1 (.t 58),(some (57,false))⟩,⟨some 60,.un .not (.t 59),(some (57,false))⟩,⟨some 61,.mv (.t 60),(some (57,false))⟩,⟨some 62,.fld 2 (.t 7),(some (61,true))⟩,⟨some 63,.ld false 1 (.t 62),(some (61,true))⟩,⟨some 64,.bin .neq (.t 63) (.k (.str [])),(some (61,true))⟩,⟨some 65,.mv (.t 64),(some (61,true))⟩,⟨some 66,.fld 3 (.t 7),(some (65,false))⟩,⟨some 67,.ld false 1 (.t 66),(some (65,false))⟩,⟨some 68,.bin .neq (.t 67) (.k (.str [])),(some (65,false))⟩,⟨some 69,.pick (.t 65) (.k (.bool true)) (.t 68),(some (61,true))⟩,⟨some 70,.pick (.t 61) (.t 69) (.k (.bool false)),(some (57,false))⟩,Zo 71 (.pick (.t 57) (.k (.bool true)) (.t 70))]) (.cond (.t 71) (.seq (.reg [Zo 4 (.mv (.k (.bool false)))]) .ret) .skip)))))) (.reg [Zv 13 6,Zo 14 (.bin .add (.t 13) (.k (.int .i64 1))),Zv 6 14])))))) (.seq (.reg [Zo 4 (.mv (.k (.bool true)))]) .ret))))⟩
theorem a219_ok:J08 Tryz.prog Tryz.f219=some a219:=by kernel_rfl
def a220:AFn:= ⟨32,[.t 4],(.seq (.reg [Zo 4 (.mv (.k (.bool false)))]) (.seq (.seq (.reg [Zo 5 (.mv (.k (.int .i64 0)))]) (.blk 0 (.loop (.seq (.seq (.reg [Zv 6 5,Zv 7 0,Zo 8 (.len false (.t 7)),Zo 9 (.bin .lss (.t 6) (.t 8))]) (.cond (.t 9) .skip (.exit 0))) (.seq (.blk 1 (.seq (.reg [Zv 12 0,Zv 13 5,Zo 14 (.ixa 2 (.t 12) (.t 13)),Zl 15 true 2 14,Zc 16 286 [.t 15],Zo 17 (.un .not (.t 16)),Zv 18 17,⟨some 19,.mv (.t 0),(some (18,false))⟩,⟨some 20,.mv (.t 5),(some (18,false))⟩,⟨some 21,.mv (.t 5),(some (18,false))⟩,⟨some 22,.bin .add (.t 21) (.k (.int .i64 1)),(some (18,false))⟩,⟨some 23,.slc false 2 (.t 19) (some (.t 20)) (some (.t 22)),(some (18,false))⟩,⟨some 24,.build [(.bool false),(.nil 2),(.str [])] [(1,(1,(.t 23)))],(some (18,false))⟩,⟨some 25,.mv (.t 1),(some (18,false))⟩,⟨some 26,.call (.k (.fn (.func 223) [] [])) [.t 24,(.k (.bool false)),.t 25],(some (18,false))⟩,⟨some 27,.un .not (.t 26),(some (18,false))⟩,Zo 28 (.pick (.t 18) (.k (.bool true)) (.t 27))]) (.cond (.t 28) (.seq (.reg [Zo 4 (.mv (.k (.bool false)))]) .ret) .skip))) (.reg [Zv 10 5,Zo 11 (.bin .add (.t 10) (.k (.int .i64 1))),Zv 5 11])))))) (.seq (.reg [Zv 29 0,Zo 30 (.len false (.t 29)),Zo 31 (.bin .leq (.t 30) (.k (.int .i64 2))),Zv 4 31]) .ret)))⟩
theorem a220_ok:J08 Tryz.prog Tryz.f220=some a220:=by kernel_rfl
theorem Jmq {h:Heap}{n id:Nat}{q:DPattern}(x:DPattern) (hv:h id=some ⟨true,4,[J06 q]⟩) (hid:id<n):Jce Tryz.prog 294 [] [.ptr id 0 0] h n (.agg (J06 x)) (.bool (x.Lst==q.Lst)):=by
 intro K hK
 refine J9a ?_
 refine J14 Tryz.func294 a294_ok rfl (by simp [a294]) ?_
 have n1:¬id=n:=by omega
 simp [a294,hv,n1,J06,Jex,hK]
 intro j hj hj'
 omega
def J75 (qs:List DPattern) (i:Nat):List Str:=(qs.take i).map (·.Lst)
theorem Jc7 {qs:List DPattern}{i:Nat}(hi:i<qs.length):J75 qs (i+1)=J75 qs i++[(qs[i]).Lst]:=by unfold J75;rw [List.take_succ_eq_append_getElem hi,List.map_append];rfl
theorem Jmf {qs:List DPattern}{i:Nat}(hi:i≤qs.length):(J75 qs i).length=i:=by simp [J75];omega
theorem Joa (l:List DPattern) (s:Str):(l.any fun x=>x.Lst==s)=J1a (l.map (·.Lst)) s:=by simp [J1a,List.any_map,Function.comp_def]
set_option maxHeartbeats 1000000 in
theorem Ja6 (f:DFunction) (qs:List DPattern):Holds Tryz.prog 236 [.agg (J04 f),.sl 4 (qs.map J06)] (fun r=>r = .bool (J34 f.Params [] qs)):=by
 refine J01 Tryz.func236 a236_ok rfl (by simp [a236]) ?_
 simp [a236,J04]
 intro hl
 generalize hB:J34 f.Params [] qs=B
 refine J0h [1,2,7,8] 9 qs.length (fun i s h n=>0<n∧h 0=some ⟨true,4,[[.str f.Name,.sl 1 (J05 f.Params),.bool f.ListResult,.sl 2 (f.Pre.map J12)]]⟩∧J34 f.Params (J75 qs i) (qs.drop i)=B) hl (by simp) ⟨by simp,by simp,hB⟩ ?_ ?_
 ·rintro i st h n R hi hg hk s9 hw ⟨hn,e0,hJ⟩ hR hret _
  simp at hk
  rw [List.drop_eq_getElem_cons hi] at hJ
  simp only [J34] at hJ
  have z0:¬0=n:=by omega
  have z1:¬n=0:=by omega
  refine J0e [1,2,7,8,9] (fun s=>s 10 = .bool true) (by simp [hk,s9,hi]) ?_
  intro st1 hk1 s10
  simp at hk1
  refine J4m s10 (J0c (J1d ?_))
  refine J1q [1,2,7,8,9] (fun s h' n'=>s 5 = .int .i64 i∧s 6 = .ptr n 0 0∧n'=n+1∧h' n=some ⟨true,4,[J06 qs[i]]⟩∧h' 0=some ⟨true,4,[[.str f.Name,.sl 1 (J05 f.Params),.bool f.ListResult,.sl 2 (f.Pre.map J12)]]⟩) (by simp [hk,hk1,s9,hi,J06,e0,z0]) ?_
  rintro st2 h2 n2 hk2 ⟨s5,s6,rfl,en,e0'⟩
  simp at hk2
  have ht:∀ l:List DPattern,List.take i (l.map J06)=(l.take i).map J06:=fun l=>by simp
  refine J0c (J0e [1,2,6,7,8,9] (fun s=>s 32 = .bool (!J0f (qs[i]).Lst || !J1a f.Params (qs[i]).Lst||J1a (J75 qs i) (qs[i]).Lst)) ?_ ?_)
  ·simp [hk,hk1,hk2,s9,hi,J06,e0',en,z0,z1,s5,s6]
   first|refine J02 (J19 (qs[i]'hi).Lst) (by first|simp;done|rfl) ?_|refine J03 (J19 (qs[i]'hi).Lst) (by first|simp;done|rfl) ?_
   rintro r rfl
   cases c1:J0f (qs[i]).Lst
   ·simp [hk,hk1,hk2,s9,hi,J06,e0',en,z0,s5,s6]
   simp [hk,hk1,hk2,s9,hi,J06,e0',en,z0,z1,s5,s6]
   first|refine J02 (J30 f.Params (qs[i]'hi).Lst) (by first|simp;done|rfl) ?_|refine J03 (J30 f.Params (qs[i]'hi).Lst) (by first|simp;done|rfl) ?_
   rintro r rfl
   cases c2:J1a f.Params (qs[i]).Lst
   ·simp [hk,hk1,hk2,s9,hi,J06,e0',en,z0,s5,s6]
   simp [hk,hk1,hk2,s9,hi,e0',en,z0,z1,s5,s6,J37,asI]
   refine ⟨by omega,?_⟩
   rw [ht]
   refine J15 (p:=fun x=>x.Lst==(qs[i]).Lst) (rowOf:=J06) (eltOf:=fun x => .agg (J06 x)) Tryz.func293 a293_ok rfl Tryz.func322 a322_ok rfl (fun x=>by simp) (qs.take i)
    (fun x _=>Jmq (q:=qs[i]) x en (Nat.lt_succ_self n)) ?_
   rw [Joa,show List.map (·.Lst) (qs.take i)=J75 qs i from rfl]
   simp [hk,hk1,hk2,e0',en]
  intro st3 hk3 s32
  simp at hk3
  generalize hcc:(!J0f (qs[i]).Lst || !J1a f.Params (qs[i]).Lst||J1a (J75 qs i) (qs[i]).Lst)=cc at *
  have hp:(J75 qs (i+1))=J75 qs i++[(qs[i]).Lst]:=Jc7 hi
  rw [←hp] at hJ
  cases cc
  case true=>
   have:(Jor f.Params qs[i] && !J1a (J75 qs i) (qs[i]).Lst)=false:=by
    unfold Jor
    cases g1:J0f (qs[i]).Lst <;> cases g2:J1a f.Params (qs[i]).Lst <;> cases g3:J1a (J75 qs i) (qs[i]).Lst <;> rw [g1,g2,g3] at hcc <;> simp at hcc <;> simp
   rw [this,Bool.false_and] at hJ
   subst hJ
   simp [s32]
   refine hret _ _ _ ?_
   simp
  have hcc':J0f (qs[i]).Lst=true∧J1a f.Params (qs[i]).Lst=true∧J1a (J75 qs i) (qs[i]).Lst=false:=by
   cases g1:J0f (qs[i]).Lst <;> cases g2:J1a f.Params (qs[i]).Lst <;> cases g3:J1a (J75 qs i) (qs[i]).Lst <;> rw [g1,g2,g3] at hcc <;> simp at hcc <;> simp
  unfold Jor at hJ
  rw [hcc'.1,hcc'.2.1,hcc'.2.2] at hJ
  simp only [Bool.true_and,Bool.not_false,Bool.and_true] at hJ
  simp [hk,hk1,hk2,hk3,s32,s6,en,J06]
  cases c3:(qs[i]).Cons
  ·rw [c3] at hJ
   simp only [Bool.false_eq_true,if_false] at hJ
   simp [hk,hk1,hk2,hk3,s6,en,J06,c3]
   cases c4:((qs[i]).Head==[])
   ·rw [c4,Bool.false_and,Bool.false_and] at hJ
    subst hJ
    have c4':¬(qs[i]).Head=[]:=by simpa using c4
    simp [hk,hk1,hk2,hk3,s6,en,J06,c3,c4']
    refine hret _ _ _ ?_
    simp
   have c4':(qs[i]).Head=[]:=by simpa using c4
   cases c5:((qs[i]).Tail==[])
   ·rw [c4,c5,Bool.and_false,Bool.false_and] at hJ
    subst hJ
    have c5':¬(qs[i]).Tail=[]:=by simpa using c5
    simp [hk,hk1,hk2,hk3,s6,en,J06,c3,c4',c5']
    refine hret _ _ _ ?_
    simp
   ·rw [c4,c5,Bool.true_and,Bool.true_and] at hJ
    have c5':(qs[i]).Tail=[]:=by simpa using c5
    simp [hk,hk1,hk2,hk3,s6,en,J06,c3,c4',c5',s9,hw]
    exact hR _ _ _ (by simp [hk,hk1,hk2,hk3]) (by simp) ⟨by omega,by simp [e0'],hJ⟩
  ·rw [c3] at hJ
   simp only [if_true] at hJ
   simp [hk,hk1,hk2,hk3,s6,en,J06,c3]
   first|refine J02 (J3e (qs[i]'hi).Head) (by first|simp;done|rfl) ?_|refine J03 (J3e (qs[i]'hi).Head) (by first|simp;done|rfl) ?_
   rintro r rfl
   cases c4:J1i (qs[i]).Head
   ·rw [c4,Bool.false_and,Bool.false_and] at hJ
    subst hJ
    simp
    refine hret _ _ _ ?_
    simp
   simp [hk,hk1,hk2,hk3,s6,en,J06,c3]
   first|refine J02 (J19 (qs[i]'hi).Tail) (by first|simp;done|rfl) ?_|refine J03 (J19 (qs[i]'hi).Tail) (by first|simp;done|rfl) ?_
   rintro r rfl
   cases c5:J0f (qs[i]).Tail
   ·rw [c4,c5,Bool.and_false,Bool.false_and] at hJ
    subst hJ
    simp
    refine hret _ _ _ ?_
    simp
   ·rw [c4,c5,Bool.true_and,Bool.true_and] at hJ
    simp [hk,hk1,hk2,hk3,s9,hw]
    exact hR _ _ _ (by simp [hk,hk1,hk2,hk3]) (by simp) ⟨by omega,by simp [e0'],hJ⟩
 ·rintro st h n R hk s9 ⟨hn,e0,hJ⟩ hret hX
  simp at hk
  rw [List.drop_eq_nil_of_le (by omega)] at hJ
  refine J0e [1,2,7,8,9] (fun s=>s 10 = .bool false) (by simp [hk,s9]) ?_
  intro st1 hk1 s10
  simp at hk1
  refine J4k s10 ?_
  simp
  refine hX _ _ _ _ ?_
  simp [←hJ,J34]
theorem Jus (l:List Str) (s:Str):decide (J0p (fun x=>x==s) l 0<0) = !J1a l s:=by
 cases h:J1a l s
 ·have:=J5j (p:=fun x=>x==s) (l:=l) (i:=0) |>.2 h
  simp [this]
 ·have:¬J0p (fun x=>x==s) l 0<0:=fun h'=>by have:=J5j.1 h';unfold J1a at h;rw [h] at this;cases this
  simp [this]
theorem Jst (l:List Str) (s:Str):decide (0≤J0p (fun x=>x==s) l 0)=J1a l s:=by
 have:=J5l (p:=fun x=>x==s) (l:=l) (i:=0)
 simp only [ge_iff_le] at this
 rw [this];rfl
set_option maxHeartbeats 1000000 in
theorem J80 (f:DFunction) (qs:List DPattern) (hq:qs.length≤1048576):Holds Tryz.prog 219 [.agg (J04 f),.sl 4 (qs.map J06)] (fun r=>r = .bool (J34 f.Params [] qs)):=by
 refine J01 Tryz.func219 a219_ok rfl (by simp [a219]) ?_
 simp [a219,J04]
 generalize hB:J34 f.Params [] qs=B
 refine J0h [1,2] 6 qs.length (fun i s h n=>0<n∧h 0=some ⟨true,4,[[.str f.Name,.sl 1 (J05 f.Params),.bool f.ListResult,.sl 2 (f.Pre.map J12)]]⟩∧J34 f.Params (J75 qs i) (qs.drop i)=B ∧
  ∃ id,0<id∧id<n∧s 5 = .ref id 0 i∧h id=some ⟨false,1,J05 (J75 qs i)⟩) (by unfold LIM;omega) (by simp) ⟨by simp,by simp,hB,1,by omega,by omega,by simp,by simp [J05,J75]⟩ ?_ ?_
 ·rintro i st h n R hi hg hk s6 hw ⟨hn,e0,hJ,id,hid0,hidn,s5,eid⟩ hR hret _
  simp at hk
  rw [List.drop_eq_getElem_cons hi] at hJ
  simp only [J34] at hJ
  have z0:¬0=n:=by omega
  have z1:¬n=0:=by omega
  have z2:¬id=n:=by omega
  have z3:¬n=id:=by omega
  have z4:¬id=0:=by omega
  have z5:¬0=id:=by omega
  have hlt:(J75 qs i).length=i:=Jmf (by omega)
  refine J0c (J0e [1,2,5,6] (fun s=>s 12 = .bool true) (by simp [hk,s6,hi]) ?_)
  intro st1 hk1 s12
  simp at hk1
  refine J2i s12 (J0c (J1d ?_))
  refine J1q [1,2,5,6] (fun s h' n'=>s 7 = .ptr n 0 0∧n'=n+1∧h' n=some ⟨true,4,[J06 qs[i]]⟩∧h' 0=some ⟨true,4,[[.str f.Name,.sl 1 (J05 f.Params),.bool f.ListResult,.sl 2 (f.Pre.map J12)]]⟩∧h' id=some ⟨false,1,J05 (J75 qs i)⟩) (by simp [hk,hk1,s6,hi,J06,e0,z0,z2,z3,eid]) ?_
  rintro st2 h2 n2 hk2 ⟨s7,rfl,en,e0',eid'⟩
  simp at hk2
  have ht:List.take i (J05 (J75 qs i))=J05 (J75 qs i):=List.take_of_length_le (by simp [hlt])
  refine J0c (J0e [1,2,5,6,7] (fun s=>s 37 = .bool (!J1a f.Params (qs[i]).Lst || !J0f (qs[i]).Lst||J1a (J75 qs i) (qs[i]).Lst)) ?_ ?_)
  ·simp [hk,hk1,hk2,s6,hi,J06,e0',en,z0,z1,s7]
   first|refine J02 (J1n f.Params (qs[i]'hi).Lst) (by first|simp;done|rfl) ?_|refine J03 (J1n f.Params (qs[i]'hi).Lst) (by first|simp;done|rfl) ?_
   rintro r rfl
   have e1:=Jus f.Params (qs[i]).Lst
   generalize J0p (fun x=>x==(qs[i]).Lst) f.Params 0=k1 at e1
   cases c1:J1a f.Params (qs[i]).Lst
   ·rw [c1] at e1
    have:k1<0:=by simpa using e1
    simp [this]
   rw [c1] at e1
   have:¬k1<0:=by simpa using e1
   simp [hk,hk1,hk2,s6,hi,J06,e0',en,z0,z1,s7,this]
   first|refine J02 (J0x (qs[i]'hi).Lst) (by first|simp;done|rfl) ?_|refine J03 (J0x (qs[i]'hi).Lst) (by first|simp;done|rfl) ?_
   rintro r rfl
   cases c2:J0f (qs[i]).Lst
   ·simp
   simp [hk,hk1,hk2,s6,hi,J06,e0',en,z0,z1,s7,s5,eid']
   first|refine J02 (J1n (J75 qs i) (qs[i]'hi).Lst) (by first|simp [eid',ht,hlt];done|rfl) ?_|refine J03 (J1n (J75 qs i) (qs[i]'hi).Lst) (by first|simp [eid',ht,hlt];done|rfl) ?_
   rintro r rfl
   have e2:=Jst (J75 qs i) (qs[i]).Lst
   generalize J0p (fun x=>x==(qs[i]).Lst) (J75 qs i) 0=k2 at e2
   simp [hk,hk1,hk2,e0',en,e2]
  intro st3 hk3 s37
  simp at hk3
  generalize hcc:(!J1a f.Params (qs[i]).Lst || !J0f (qs[i]).Lst||J1a (J75 qs i) (qs[i]).Lst)=cc at *
  have hp:(J75 qs (i+1))=J75 qs i++[(qs[i]).Lst]:=Jc7 hi
  rw [←hp] at hJ
  cases cc
  case true=>
   have:(Jor f.Params qs[i] && !J1a (J75 qs i) (qs[i]).Lst)=false:=by
    unfold Jor
    cases g1:J0f (qs[i]).Lst <;> cases g2:J1a f.Params (qs[i]).Lst <;> cases g3:J1a (J75 qs i) (qs[i]).Lst <;> rw [g1,g2,g3] at hcc <;> simp at hcc <;> simp
   rw [this,Bool.false_and] at hJ
   subst hJ
   simp [s37]
   refine hret _ _ _ ?_
   simp
  have hcc':J0f (qs[i]).Lst=true∧J1a f.Params (qs[i]).Lst=true∧J1a (J75 qs i) (qs[i]).Lst=false:=by
   cases g1:J0f (qs[i]).Lst <;> cases g2:J1a f.Params (qs[i]).Lst <;> cases g3:J1a (J75 qs i) (qs[i]).Lst <;> rw [g1,g2,g3] at hcc <;> simp at hcc <;> simp
  unfold Jor at hJ
  rw [hcc'.1,hcc'.2.1,hcc'.2.2] at hJ
  simp only [Bool.true_and,Bool.not_false,Bool.and_true] at hJ
  refine Je5 s37 ?_
  have y0:¬0=n+1:=by omega
  have y1:¬n=n+1:=by omega
  have y2:¬id=n+1:=by omega
  have y3:¬n+1=id:=by omega
  have y4:¬n+1=0:=by omega
  have y5:¬n+2=0:=by omega
  have y6:¬n=n+2:=by omega
  have y7:¬0=n+2:=by omega
  have y8:¬n+1=n:=by omega
  simp only [Jb1]
  refine J1q [1,2,6,7] (fun s h' n'=>n'=n+3∧s 5 = .ref (n+2) 0 (i+1)∧h' n=some ⟨true,4,[J06 qs[i]]⟩∧h' 0=some ⟨true,4,[[.str f.Name,.sl 1 (J05 f.Params),.bool f.ListResult,.sl 2 (f.Pre.map J12)]]⟩∧h' (n+2)=some ⟨false,1,J05 (J75 qs (i+1))⟩) ?_ ?_
  ·simp [hk,hk1,hk2,hk3,s7,en,J06,e0',s5,eid',z0,z1,z2,z3,z4,z5,y0,y1,y2,y3,y4,y5,y6,y7,y8,ht,hlt,Jc7 hi]
   refine ⟨by unfold LIM;omega,?_⟩
   simp [J05]
  rintro st4 h4 n4 hk4 ⟨rfl,s5',en',e0'',eid''⟩
  simp at hk4
  refine J0e [1,2,5,6,7] (fun s=>s 71 = .bool (!(if (qs[i]).Cons then J1i (qs[i]).Head&&J0f (qs[i]).Tail else (qs[i]).Head==[]&&(qs[i]).Tail==[]))) ?_ ?_
  ·cases c3:(qs[i]).Cons
   ·cases c4:((qs[i]).Head==[])
    ·have c4':¬(qs[i]).Head=[]:=by simpa using c4
     have c4e:(qs[i]).Head.isEmpty=false:=by simpa using c4'
     simp [hk,hk1,hk2,hk3,hk4,s7,en',J06,c3,c4,c4',c4e]
    have c4':(qs[i]).Head=[]:=by simpa using c4
    cases c5:((qs[i]).Tail==[])
    ·have c5':¬(qs[i]).Tail=[]:=by simpa using c5
     have c5e:(qs[i]).Tail.isEmpty=false:=by simpa using c5'
     simp [hk,hk1,hk2,hk3,hk4,s7,en',J06,c3,c4',c5,c5',c5e]
    ·have c5':(qs[i]).Tail=[]:=by simpa using c5
     simp [hk,hk1,hk2,hk3,hk4,s7,en',J06,c3,c4',c5']
   ·simp [hk,hk1,hk2,hk3,hk4,s7,en',J06,c3]
    first|refine J02 (J3j (qs[i]'hi).Head) (by first|simp;done|rfl) ?_|refine J03 (J3j (qs[i]'hi).Head) (by first|simp;done|rfl) ?_
    rintro r rfl
    cases c4:J1i (qs[i]).Head
    ·simp [hk,hk1,hk2,hk3,hk4,s7,en',J06,c3]
    simp [hk,hk1,hk2,hk3,hk4,s7,en',J06,c3]
    first|refine J02 (J0x (qs[i]'hi).Tail) (by first|simp;done|rfl) ?_|refine J03 (J0x (qs[i]'hi).Tail) (by first|simp;done|rfl) ?_
    rintro r rfl
    cases c5:J0f (qs[i]).Tail
    ·simp [hk,hk1,hk2,hk3,hk4,s7,en',J06,c3]
    ·simp [hk,hk1,hk2,hk3,hk4,s7,en',J06,c3]
  intro st5 hk5 s71
  simp at hk5
  generalize (if (qs[i]).Cons then J1i (qs[i]).Head&&J0f (qs[i]).Tail else (qs[i]).Head==[]&&(qs[i]).Tail==[])=D at *
  cases D
  ·rw [Bool.false_and] at hJ
   subst hJ
   simp [s71]
   refine hret _ _ _ ?_
   simp
  ·rw [Bool.true_and] at hJ
   simp [hk,hk1,hk2,hk3,hk4,hk5,s71,s6,hw]
   exact hR _ _ _ (by simp [hk,hk1,hk2,hk3,hk4,hk5]) (by simp) ⟨by omega,by simp [e0''],hJ,n+2,by omega,by omega,by simp [hk5,s5'],by simp [eid'']⟩
 ·rintro st h n R hk s6 ⟨hn,e0,hJ,_⟩ hret hX
  simp at hk
  rw [List.drop_eq_nil_of_le (by omega)] at hJ
  refine J0c (J0e [1,2,6] (fun s=>s 12 = .bool false) (by simp [hk,s6]) ?_)
  intro st1 hk1 s12
  simp at hk1
  refine J2g s12 ?_
  simp
  refine hX _ _ _ _ ?_
  simp [←hJ,J34]
theorem Jsx {list:List DSum}{i:Nat}(hi:i<list.length) (hw:J4u list≤1048576):J7w ⟨false,[list[i]],[]⟩≤1048576:=by
 have h1:=J3i (w:=J8j) (List.getElem_mem hi)
 unfold J4u at hw
 have h2:1+J8j list[i]≤wL J8j list:=by
  have h3:=Jg8 J8j list (List.getElem_mem hi)
  unfold wL;omega
 unfold J7w J4u wL
 simp
 omega
theorem Jk1 (s:DSum) (scope:List Str):J6o ⟨false,[s],[]⟩ false scope=J41 scope s:=by
 unfold J6o J41
 rw [Jgf,Jg5,Jh0]
 simp
theorem Ja1 (list:List DSum) (scope:List Str) (hw:J4u list≤1048576):Holds Tryz.prog 220 [.sl 2 (list.map J10),.sl 1 (J05 scope)] (fun r=>r = .bool (list.all (J41 scope)&&decide (list.length≤2))):=by
 refine J1f Tryz.func220 rfl rfl fun hl => ?_
 simp at hl
 refine J01 Tryz.func220 a220_ok rfl (by simp [a220]) ?_
 simp [a220]
 generalize hB:list.all (J41 scope)=B
 refine J5e [0,1] 5 list.length (fun i _=>(list.drop i).all (J41 scope)=B) hl.1 (by simp) (by simpa using hB) ?_ ?_
 ·rintro i st h R hi hg hk s5 hw5 hJ hh hR hret _
  simp at hk
  rw [List.drop_eq_getElem_cons hi,List.all_cons] at hJ
  simp [hk,s5,hi,hg]
  intro _
  first|refine J02 (J56 (list[i]'hi)) (by first|simp;done|rfl) ?_|refine J03 (J56 (list[i]'hi)) (by first|simp;done|rfl) ?_
  rintro r rfl
  cases hc:J8h list[i]
  ·have:J41 scope list[i]=false:=by unfold J41;rw [hc];rfl
   rw [this,Bool.false_and] at hJ
   subst hJ
   simp
   refine hret _ _ _ ?_
   simp
  simp [hk,s5,hi,hg,hw5,J37,asI]
  refine ⟨by omega,by omega,?_⟩
  have ht:(List.take (i+1) (list.map J10)).drop i=[J10 list[i]]:=by
   rw [List.take_succ_eq_append_getElem (by simpa using hi)]
   rw [List.drop_left' (by simp;omega)]
   simp
  have he:((i:Int)+1).toNat=i+1:=by omega
  have hb:bwl [.agg [.bool false,.sl 2 [J10 list[i]],.str []],.bool false,.sl 1 (J05 scope)] h=some [.agg (J0o ⟨false,[list[i]],[]⟩),.bool false,.sl 1 (J05 scope)]:=by simp [J0o]
  simp only [he,ht]
  first|refine J02 (J50 ⟨false,[list[i]'hi],[]⟩ false scope (Jsx hi hw)) (by first|simp [J0o,he,ht];done|rfl) ?_|refine J03 (J50 ⟨false,[list[i]'hi],[]⟩ false scope (Jsx hi hw)) (by first|simp [J0o,he,ht];done|rfl) ?_
  rintro r rfl
  rw [Jk1]
  cases hc2:J41 scope list[i]
  ·rw [hc2,Bool.false_and] at hJ
   subst hJ
   simp
   refine hret _ _ _ ?_
   simp
  ·rw [hc2,Bool.true_and] at hJ
   simp [hk,s5,hw5]
   exact hR _ (by simp [hk]) (by simp) hJ
 ·rintro st h R hk s5 hJ hh _ hX
  simp at hk
  rw [List.drop_eq_nil_of_le (by omega)] at hJ
  simp [hk,s5]
  intro _
  refine hX _ _ ?_
  simp at hJ
  subst hJ
  simp [hk]
  omega
def a241:AFn:= ⟨78,[.t 6],(.seq (.reg [Zo 3 (.boxv (.t 0)),Zo 4 (.boxv (.t 1)),Zo 6 (.mv (.k (.bool false)))]) (.seq (.reg [Zl 12 true 2 3,Zf 13 1 4,Zl 14 false 1 13,Zc 15 176 [.t 12,.t 14],Zv 11 15,Zo 16 (.ext (.t 11) 0),Zo 17 (.ext (.t 11) 1),Zo 7 (.box [(.str []),(.nil 1),(.bool false),(.nil 2)]),⟨no,.st 4 (.t 7) (.t 16),no⟩,Zv 8 17]) (.seq (.seq (.reg [Zv 18 8,Zo 19 (.un .not (.t 18)),Zv 20 19,⟨some 21,.fld 2 (.t 4),(some (20,false))⟩,⟨some 22,.ld false 1 (.t 21),(some (20,false))⟩,⟨some 23,.len false (.t 22),(some (20,false))⟩,⟨some 24,.fld 1 (.t 7),(some (20,false))⟩,⟨some 25,.ld false 1 (.t 24),(some (20,false))⟩,⟨some 26,.len false (.t 25),(some (20,false))⟩,⟨some 27,.bin .neq (.t 23) (.t 26),(some (20,false))⟩,Zo 28 (.pick (.t 20) (.k (.bool true)) (.t 27))]) (.cond (.t 28) (.seq (.reg [Zo 6 (.mv (.k (.bool false)))]) .ret) .skip)) (.seq (.seq (.reg [Zf 29 2 7,Zl 30 false 1 29,Zv 31 30,⟨some 32,.fld 0 (.t 4),(some (31,true))⟩,⟨some 33,.ld false 1 (.t 32),(some (31,true))⟩,⟨some 34,.call (.k (.fn (.func 205) [] [])) [.t 33],(some (31,true))⟩,⟨some 35,.un .not (.t 34),(some (31,true))⟩,Zo 36 (.pick (.t 31) (.t 35) (.k (.bool false))),Zv 37 36,⟨some 38,.fld 2 (.t 7),(some (37,false))⟩,⟨some 39,.ld false 1 (.t 38),(some (37,false))⟩,⟨some 40,.un .not (.t 39),(some (37,false))⟩,⟨some 41,.mv (.t 40),(some (37,false))⟩,⟨some 42,.fld 0 (.t 4),(some (41,true))⟩,⟨some 43,.ld false 1 (.t 42),(some (41,true))⟩,⟨some 44,.call (.k (.fn (.func 140) [] [])) [.t 43],(some (41,true))⟩,⟨some 45,.un .not (.t 44),(some (41,true))⟩,⟨some 46,.pick (.t 41) (.t 45) (.k (.bool false)),(some (37,false))⟩,Zo 47 (.pick (.t 37) (.k (.bool true)) (.t 46))]) (.cond (.t 47) (.seq (.reg [Zo 6 (.mv (.k (.bool false)))]) .ret) .skip)) (.seq (.seq (.reg [Zf 48 2 4,Zl 49 false 1 48,Zo 50 (.len false (.t 49)),Zo 51 (.mv (.k (.int .i64 0)))]) (.blk 0 (.loop (.seq (.reg [Zo 52 (.bin .lss (.t 51) (.t 50))]) (.seq (.cond (.t 52) .skip (.exit 0)) (.seq (.blk 1 (.seq (.reg [Zv 53 51,Zo 54 (.ixa 3 (.t 49) (.t 51)),Zl 55 true 3 54,Zo 10 (.box [(.bool false),(.nil 2),(.str [])]),Zv 9 53,⟨no,.st 3 (.t 10) (.t 55),no⟩]) (.seq (.draw (.op (Zl 56 true 3 10) (.op (Zc 57 242 [.t 56]) (.op (Zo 58 (.un .not (.t 57))) (.op (Zv 59 58) (.op ⟨some 60,.fld 0 (.t 10),(some (59,false))⟩ (.op ⟨some 61,.ld false 1 (.t 60),(some (59,false))⟩ (.op ⟨some 62,.fld 1 (.t 7),(some (59,false))⟩ (.op ⟨some 63,.ld false 1 (.t 62),(some (59,false))⟩ (.op ⟨some 64,.mv (.t 9),(some (59,false))⟩ (.op ⟨some 65,.ixa 1 (.t 63) (.t 64),(some (59,false))⟩ (.op ⟨some 66,.ld false 1 (.t 65),(some (59,false))⟩ (.op ⟨some 67,.call (.k (.fn (.func 205) [] [])) [.t 66],(some (59,false))⟩ (.op ⟨some 68,.beq true (.t 61) (.t 67),(some (59,false))⟩ (.op (Zo 69 (.pick (.t 59) (.k (.bool true)) (.t 68))) (.op (Zv 70 69) (.op ⟨some 71,.ld true 3 (.t 10),(some (70,false))⟩ (.op ⟨some 73,.mv (.t 2),(some (70,false))⟩ (.op ⟨some 72,.call (.k (.fn (.func 243) [] [])) [.t 71],(some (70,false))⟩ (.op ⟨some 74,.call (.k (.fn (.func 238) [] [])) [.t 72,.t 73],(some (70,false))⟩ (.op ⟨some 75,.un .not (.t 74),(some (70,false))⟩ (.op (Zo 76 (.pick (.t 70) (.k (.bool true)) (.t 75))) .fin)))))))))))))))))))))) (.cond (.t 76) (.seq (.reg [Zo 6 (.mv (.k (.bool false)))]) .ret) .skip)))) (.reg [Zo 77 (.bin .add (.t 51) (.k (.int .i64 1))),Zv 51 77]))))))) (.seq (.reg [Zo 6 (.mv (.k (.bool true)))]) .ret))))))⟩
theorem a241_ok:J08 Tryz.prog Tryz.f241=some a241:=by kernel_rfl
theorem J6n {scope:List Str}{l:List DArg}{m:List Str}{i:Nat}(h1:i<l.length) (h2:i<m.length):J71 scope (l.drop i) (m.drop i)=(J6o l[i] (J0f m[i]) scope&&J71 scope (l.drop (i+1)) (m.drop (i+1))):=by
 rw [List.drop_eq_getElem_cons h1,List.drop_eq_getElem_cons h2];rfl
theorem J7o (scope:List Str) (m:List Str):J71 scope [] m=true:=by cases m <;> rfl
theorem J4w {c:DCall}{i:Nat}(hi:i<c.Args.length) (hw:J4f c≤1048576):J7w c.Args[i]≤1048576:=by
 have:=J3i (w:=J7w) (List.getElem_mem hi)
 unfold J4f Jc1 at hw
 omega
set_option maxHeartbeats 1000000 in
theorem Jb0 (p:DProgram) (c:DCall) (scope:List Str) (hp:J0d p≤1048576) (hc:J4f c≤1048576):Holds Tryz.prog 241 [.agg (J00 p),.agg (J0t c),.sl 1 (J05 scope)] (fun r=>r = .bool (Jal p c scope)):=by
 have hal:c.Args.length≤1048576:=by have:=J1h J7w c.Args;unfold J4f Jc1 at hc;omega
 refine J01 Tryz.func241 a241_ok rfl (by simp [a241]) ?_
 simp [a241,J00,J0t]
 first|refine J02 (J31 p c.Func hp) (by first|simp [J00];done|rfl) ?_|refine J03 (J31 p c.Func hp) (by first|simp [J00];done|rfl) ?_
 rintro r rfl
 unfold Jal
 generalize hG:(J24 p.Functions c.Func).getD fn0=G
 simp only [Jbn,hG]
 generalize hb1:(J24 p.Functions c.Func).isSome=b1
 simp [J0b]
 cases b1
 ·simp
 simp
 intro _ _
 have hd:decide (c.Args.length=G.Params.length)=decide ((c.Args.length:Int)=G.Params.length):=by rw [decide_eq_decide];omega
 by_cases h1:(c.Args.length:Int)=G.Params.length
 case neg=>
  have h1n:¬c.Args.length=G.Params.length:=by omega
  simp [h1,h1n]
 have h1n:c.Args.length=G.Params.length:=by omega
 simp [h1,h1n]
 generalize hB:J71 scope c.Args G.Params=B
 cases hL:G.ListResult
 ·simp
  first|refine J02 (J3e c.Bind) (by first|simp;done|rfl) ?_|refine J03 (J3e c.Bind) (by first|simp;done|rfl) ?_
  rintro r rfl
  cases hn:J1i c.Bind
  ·simp
  simp [hL]
  intro _
  refine J0h [2,7,49,50] 51 c.Args.length (fun i s h n=>4<n∧h 4=some ⟨true,4,[[.str G.Name,.ref 2 0 G.Params.length,.bool false,.ref 3 0 G.Pre.length]]⟩∧h 2=some ⟨false,1,J05 G.Params⟩∧J71 scope (c.Args.drop i) (G.Params.drop i)=B) (by unfold LIM;omega) (by simp) ⟨by simp,by simp,by simp,by simpa using hB⟩ ?_ ?_
  ·rintro i st h n R hi hg hk s51 hw ⟨hn,e4,e2,hJ⟩ hR hret _
   simp at hk
   have hip:i<G.Params.length:=by omega
   rw [J6n hi hip] at hJ
   have z2:¬2=n:=by omega
   have z4:¬4=n:=by omega
   have y2:¬2=n+1:=by omega
   have y4:¬4=n+1:=by omega
   refine J0e [2,7,49,50,51] (fun s=>s 52 = .bool true) (by simp [hk,s51,hi,←h1n]) ?_
   intro st1 hk1 s52
   simp at hk1
   refine J4m s52 (J0c (J1d ?_))
   refine J1q [2,7,49,50,51] (fun s h' n'=>s 9 = .int .i64 i∧s 10 = .ptr n 0 0∧n'=n+1∧h' n=some ⟨true,3,[J0o c.Args[i]]⟩∧h' 4=some ⟨true,4,[[.str G.Name,.ref 2 0 G.Params.length,.bool false,.ref 3 0 G.Pre.length]]⟩∧h' 2=some ⟨false,1,J05 G.Params⟩) (by simp [hk,hk1,s51,hi,J0o,e4,e2,z2,z4]) ?_
   rintro st2 h2 n2 hk2 ⟨s9,s10,rfl,en,e4',e2'⟩
   simp at hk2
   refine J1q [2,7,49,50,51] (fun s h' n'=>n<n'∧s 76 = .bool (!J6o c.Args[i] (J0f G.Params[i]) scope)∧h' 4=some ⟨true,4,[[.str G.Name,.ref 2 0 G.Params.length,.bool false,.ref 3 0 G.Pre.length]]⟩∧h' 2=some ⟨false,1,J05 G.Params⟩) ?_ ?_
   ·simp [hk,hk1,hk2,s10,en]
    first|refine J02 (J43 (c.Args[i]'hi)) (by first|simp;done|rfl) ?_|refine J03 (J43 (c.Args[i]'hi)) (by first|simp;done|rfl) ?_
    rintro r rfl
    unfold J6o
    cases g1:Jcc c.Args[i]
    ·simp [e4',e2']
    simp [hk,hk1,hk2,s9,s10,en,e4',e2',hip,J0o]
    first|refine J02 (J19 (G.Params[i]'hip)) (by first|simp;done|rfl) ?_|refine J03 (J19 (G.Params[i]'hip)) (by first|simp;done|rfl) ?_
    rintro r rfl
    cases g2:((c.Args[i]).Lst==J0f G.Params[i])
    ·have g2':¬(c.Args[i]).Lst=J0f G.Params[i]:=by simpa using g2
     simp [g2',e4',e2']
    have g2':(c.Args[i]).Lst=J0f G.Params[i]:=by simpa using g2
    simp [g2',hk,hk1,hk2,s9,s10,en,e4',e2',hip,J0o]
    first|refine J02 (J6a (c.Args[i]'hi) (J4w hi hc)) (by first|simp [J0o,g2'];done|rfl) ?_|refine J03 (J6a (c.Args[i]'hi) (J4w hi hc)) (by first|simp [J0o,g2'];done|rfl) ?_
    rintro r rfl
    simp [g2',hk,hk1,hk2,s9,s10,en,e4',e2',hip,J0o,y2,y4]
    first|refine J02 (J79 (J3x (J5q (c.Args[i]'hi))) scope) (by first|simp;done|rfl) ?_|refine J03 (J79 (J3x (J5q (c.Args[i]'hi))) scope) (by first|simp;done|rfl) ?_
    rintro r rfl
    simp [e4',e2',y2,y4]
   rintro st3 h3 n3 hk3 ⟨hn3,s76,e4'',e2''⟩
   simp at hk3
   generalize J6o c.Args[i] (J0f G.Params[i]) scope=D at *
   cases D
   ·rw [Bool.false_and] at hJ
    subst hJ
    simp [s76]
    refine hret _ _ _ ?_
    simp
   ·rw [Bool.true_and] at hJ
    simp [hk,hk1,hk2,hk3,s76,s51,hw]
    exact hR _ _ _ (by simp [hk,hk1,hk2,hk3]) (by simp) ⟨by omega,by simp [e4''],by simp [e2''],hJ⟩
  ·rintro st h n R hk s51 ⟨hn,e4,e2,hJ⟩ hret hX
   simp at hk
   rw [List.drop_eq_nil_of_le (by omega),J7o] at hJ
   refine J0e [2] (fun s=>s 52 = .bool false) (by simp [hk,s51,←h1n]) ?_
   intro st1 hk1 s52
   refine J4k s52 ?_
   simp
   refine hX _ _ _ _ ?_
   simp [←hJ]
 ·simp
  first|refine J02 (J19 c.Bind) (by first|simp;done|rfl) ?_|refine J03 (J19 c.Bind) (by first|simp;done|rfl) ?_
  rintro r rfl
  cases hn:J0f c.Bind
  ·simp
  simp [hL]
  intro _
  refine J0h [2,7,49,50] 51 c.Args.length (fun i s h n=>4<n∧h 4=some ⟨true,4,[[.str G.Name,.ref 2 0 G.Params.length,.bool true,.ref 3 0 G.Pre.length]]⟩∧h 2=some ⟨false,1,J05 G.Params⟩∧J71 scope (c.Args.drop i) (G.Params.drop i)=B) (by unfold LIM;omega) (by simp) ⟨by simp,by simp,by simp,by simpa using hB⟩ ?_ ?_
  ·rintro i st h n R hi hg hk s51 hw ⟨hn,e4,e2,hJ⟩ hR hret _
   simp at hk
   have hip:i<G.Params.length:=by omega
   rw [J6n hi hip] at hJ
   have z2:¬2=n:=by omega
   have z4:¬4=n:=by omega
   have y2:¬2=n+1:=by omega
   have y4:¬4=n+1:=by omega
   refine J0e [2,7,49,50,51] (fun s=>s 52 = .bool true) (by simp [hk,s51,hi,←h1n]) ?_
   intro st1 hk1 s52
   simp at hk1
   refine J4m s52 (J0c (J1d ?_))
   refine J1q [2,7,49,50,51] (fun s h' n'=>s 9 = .int .i64 i∧s 10 = .ptr n 0 0∧n'=n+1∧h' n=some ⟨true,3,[J0o c.Args[i]]⟩∧h' 4=some ⟨true,4,[[.str G.Name,.ref 2 0 G.Params.length,.bool true,.ref 3 0 G.Pre.length]]⟩∧h' 2=some ⟨false,1,J05 G.Params⟩) (by simp [hk,hk1,s51,hi,J0o,e4,e2,z2,z4]) ?_
   rintro st2 h2 n2 hk2 ⟨s9,s10,rfl,en,e4',e2'⟩
   simp at hk2
   refine J1q [2,7,49,50,51] (fun s h' n'=>n<n'∧s 76 = .bool (!J6o c.Args[i] (J0f G.Params[i]) scope)∧h' 4=some ⟨true,4,[[.str G.Name,.ref 2 0 G.Params.length,.bool true,.ref 3 0 G.Pre.length]]⟩∧h' 2=some ⟨false,1,J05 G.Params⟩) ?_ ?_
   ·simp [hk,hk1,hk2,s10,en]
    first|refine J02 (J43 (c.Args[i]'hi)) (by first|simp;done|rfl) ?_|refine J03 (J43 (c.Args[i]'hi)) (by first|simp;done|rfl) ?_
    rintro r rfl
    unfold J6o
    cases g1:Jcc c.Args[i]
    ·simp [e4',e2']
    simp [hk,hk1,hk2,s9,s10,en,e4',e2',hip,J0o]
    first|refine J02 (J19 (G.Params[i]'hip)) (by first|simp;done|rfl) ?_|refine J03 (J19 (G.Params[i]'hip)) (by first|simp;done|rfl) ?_
    rintro r rfl
    cases g2:((c.Args[i]).Lst==J0f G.Params[i])
    ·have g2':¬(c.Args[i]).Lst=J0f G.Params[i]:=by simpa using g2
     simp [g2',e4',e2']
    have g2':(c.Args[i]).Lst=J0f G.Params[i]:=by simpa using g2
    simp [g2',hk,hk1,hk2,s9,s10,en,e4',e2',hip,J0o]
    first|refine J02 (J6a (c.Args[i]'hi) (J4w hi hc)) (by first|simp [J0o,g2'];done|rfl) ?_|refine J03 (J6a (c.Args[i]'hi) (J4w hi hc)) (by first|simp [J0o,g2'];done|rfl) ?_
    rintro r rfl
    simp [g2',hk,hk1,hk2,s9,s10,en,e4',e2',hip,J0o,y2,y4]
    first|refine J02 (J79 (J3x (J5q (c.Args[i]'hi))) scope) (by first|simp;done|rfl) ?_|refine J03 (J79 (J3x (J5q (c.Args[i]'hi))) scope) (by first|simp;done|rfl) ?_
    rintro r rfl
    simp [e4',e2',y2,y4]
   rintro st3 h3 n3 hk3 ⟨hn3,s76,e4'',e2''⟩
   simp at hk3
   generalize J6o c.Args[i] (J0f G.Params[i]) scope=D at *
   cases D
   ·rw [Bool.false_and] at hJ
    subst hJ
    simp [s76]
    refine hret _ _ _ ?_
    simp
   ·rw [Bool.true_and] at hJ
    simp [hk,hk1,hk2,hk3,s76,s51,hw]
    exact hR _ _ _ (by simp [hk,hk1,hk2,hk3]) (by simp) ⟨by omega,by simp [e4''],by simp [e2''],hJ⟩
  ·rintro st h n R hk s51 ⟨hn,e4,e2,hJ⟩ hret hX
   simp at hk
   rw [List.drop_eq_nil_of_le (by omega),J7o] at hJ
   refine J0e [2] (fun s=>s 52 = .bool false) (by simp [hk,s51,←h1n]) ?_
   intro st1 hk1 s52
   refine J4k s52 ?_
   simp
   refine hX _ _ _ _ ?_
   simp [←hJ]
def a222:AFn:= ⟨70,[.t 6],(.seq (.reg [Zo 3 (.boxv (.t 0)),Zo 4 (.boxv (.t 1)),Zo 6 (.mv (.k (.bool false)))]) (.seq (.reg [Zl 11 true 2 3,Zf 12 1 4,Zl 13 false 1 12,Zc 14 172 [.t 11,.t 13],Zv 10 14,Zo 15 (.ext (.t 10) 0),Zo 16 (.ext (.t 10) 1),Zo 7 (.box [(.str []),(.nil 1),(.bool false),(.nil 2)]),⟨no,.st 4 (.t 7) (.t 15),no⟩,Zv 8 16]) (.seq (.seq (.reg [Zv 17 8,Zo 18 (.un .not (.t 17)),Zv 19 18,⟨some 20,.fld 2 (.t 4),(some (19,false))⟩,⟨some 21,.ld false 1 (.t 20),(some (19,false))⟩,⟨some 22,.len false (.t 21),(some (19,false))⟩,⟨some 23,.fld 1 (.t 7),(some (19,false))⟩,⟨some 24,.ld false 1 (.t 23),(some (19,false))⟩,⟨some 25,.len false (.t 24),(some (19,false))⟩,⟨some 26,.bin .neq (.t 22) (.t 25),(some (19,false))⟩,Zo 27 (.pick (.t 19) (.k (.bool true)) (.t 26)),Zv 28 27,⟨some 29,.fld 2 (.t 7),(some (28,false))⟩,⟨some 30,.ld false 1 (.t 29),(some (28,false))⟩,⟨some 31,.mv (.t 30),(some (28,false))⟩,⟨some 32,.fld 0 (.t 4),(some (31,true))⟩,⟨some 33,.ld false 1 (.t 32),(some (31,true))⟩,⟨some 34,.call (.k (.fn (.func 260) [] [])) [.t 33],(some (31,true))⟩,⟨some 35,.un .not (.t 34),(some (31,true))⟩,⟨some 36,.pick (.t 31) (.t 35) (.k (.bool false)),(some (28,false))⟩,Zo 37 (.pick (.t 28) (.k (.bool true)) (.t 36)),Zv 38 37,⟨some 39,.fld 2 (.t 7),(some (38,false))⟩,⟨some 40,.ld false 1 (.t 39),(some (38,false))⟩,⟨some 41,.un .not (.t 40),(some (38,false))⟩,⟨some 42,.mv (.t 41),(some (38,false))⟩,⟨some 43,.fld 0 (.t 4),(some (42,true))⟩,⟨some 44,.ld false 1 (.t 43),(some (42,true))⟩,⟨some 45,.call (.k (.fn (.func 216) [] [])) [.t 44],(some (42,true))⟩,⟨some 46,.un .not (.t 45),(some (42,true))⟩,⟨some 47,.pick (.t 42) (.t 46) (.k (.bool false)),(some (38,false))⟩,Zo 48 (.pick (.t 38) (.k (.bool true)) (.t 47))]) (.cond (.t 48) (.seq (.reg [Zo 6 (.mv (.k (.bool false)))]) .ret) .skip)) (.seq (.seq (.reg [Zo 9 (.mv (.k (.int .i64 0)))]) (.blk 0 (.loop (.seq (.seq (.reg [Zv 49 9,Zf 50 2 4,Zl 51 false 1 50,Zo 52 (.len false (.t 51)),Zo 53 (.bin .lss (.t 49) (.t 52))]) (.cond (.t 53) .skip (.exit 0))) (.seq (.blk 1 (.seq (.draw (.op (Zf 56 2 4) (.op (Zl 57 false 1 56) (.op (Zv 58 9) (.op (Zo 59 (.ixa 3 (.t 57) (.t 58))) (.op (Zl 60 true 3 59) (.op (Zf 61 1 7) (.op (Zl 62 false 1 61) (.op (Zv 63 9) (.op (Zo 64 (.ixa 1 (.t 62) (.t 63))) (.op (Zl 65 false 1 64) (.op (Zv 67 2) (.op (Zc 66 260 [.t 65]) (.op (Zc 68 223 [.t 60,.t 66,.t 67]) (.op (Zo 69 (.un .not (.t 68))) .fin))))))))))))))) (.cond (.t 69) (.seq (.reg [Zo 6 (.mv (.k (.bool false)))]) .ret) .skip))) (.reg [Zv 54 9,Zo 55 (.bin .add (.t 54) (.k (.int .i64 1))),Zv 9 55])))))) (.seq (.reg [Zo 6 (.mv (.k (.bool true)))]) .ret)))))⟩
theorem a222_ok:J08 Tryz.prog Tryz.f222=some a222:=by kernel_rfl
set_option maxHeartbeats 1000000 in
theorem J7r (p:DProgram) (c:DCall) (scope:List Str) (hp:J0d p≤1048576) (hc:J4f c≤1048576):Holds Tryz.prog 222 [.agg (J00 p),.agg (J0t c),.sl 1 (J05 scope)] (fun r=>r = .bool (Jal p c scope)):=by
 have hal:c.Args.length≤1048576:=by have:=J1h J7w c.Args;unfold J4f Jc1 at hc;omega
 refine J01 Tryz.func222 a222_ok rfl (by simp [a222]) ?_
 simp [a222,J00,J0t]
 first|refine J02 (J2u p c.Func hp) (by first|simp [J00];done|rfl) ?_|refine J03 (J2u p c.Func hp) (by first|simp [J00];done|rfl) ?_
 rintro r rfl
 unfold Jal
 generalize hG:(J24 p.Functions c.Func).getD fn0=G
 simp only [Jbn,hG]
 generalize hb1:(J24 p.Functions c.Func).isSome=b1
 simp [J0b]
 cases b1
 ·simp
 simp
 intro _ _
 have hd:decide (c.Args.length=G.Params.length)=decide ((c.Args.length:Int)=G.Params.length):=by rw [decide_eq_decide];omega
 by_cases h1:(c.Args.length:Int)=G.Params.length
 case neg=>
  have h1n:¬c.Args.length=G.Params.length:=by omega
  simp [h1,h1n]
 have h1n:c.Args.length=G.Params.length:=by omega
 simp [h1,h1n]
 generalize hB:J71 scope c.Args G.Params=B
 cases hL:G.ListResult
 ·simp
  first|refine J02 (J3j c.Bind) (by first|simp;done|rfl) ?_|refine J03 (J3j c.Bind) (by first|simp;done|rfl) ?_
  rintro r rfl
  cases hn:J1i c.Bind
  ·simp
  simp [hL]
  refine J0h [2,4,7] 9 c.Args.length (fun i s h n=>4<n∧h 1=some ⟨true,3,[[.str c.Bind,.str c.Func,.sl 3 (c.Args.map J0o)]]⟩∧h 4=some ⟨true,4,[[.str G.Name,.ref 2 0 G.Params.length,.bool false,.ref 3 0 G.Pre.length]]⟩∧h 2=some ⟨false,1,J05 G.Params⟩∧J71 scope (c.Args.drop i) (G.Params.drop i)=B) (by unfold LIM;omega) (by simp) ⟨by simp,by simp,by simp,by simp,by simpa using hB⟩ ?_ ?_
  ·rintro i st h n R hi hg hk s9 hw ⟨hn,e1,e4,e2,hJ⟩ hR hret _
   simp at hk
   have hip:i<G.Params.length:=by omega
   rw [J6n hi hip] at hJ
   refine J0c (J0e [2,4,7,9] (fun s=>s 53 = .bool true) (by simp [hk,s9,hi,hip,e1,h1n]) ?_)
   intro st1 hk1 s53
   simp at hk1
   refine J2i s53 (J0c (J1d ?_))
   refine J1q [2,4,7,9] (fun s h' n'=>4<n'∧s 69 = .bool (!J6o c.Args[i] (J0f G.Params[i]) scope)∧h' 1=some ⟨true,3,[[.str c.Bind,.str c.Func,.sl 3 (c.Args.map J0o)]]⟩∧h' 4=some ⟨true,4,[[.str G.Name,.ref 2 0 G.Params.length,.bool false,.ref 3 0 G.Pre.length]]⟩∧h' 2=some ⟨false,1,J05 G.Params⟩) ?_ ?_
   ·simp [hk,hk1,s9,e1,e4,e2,hi,hip,hg]
    first|refine J02 (J0x (G.Params[i]'hip)) (by first|simp;done|rfl) ?_|refine J03 (J0x (G.Params[i]'hip)) (by first|simp;done|rfl) ?_
    rintro r rfl
    simp [hk,hk1,s9,e1,e4,e2,hi,hip,J0o]
    first|refine J02 (J50 (c.Args[i]'hi) (J0f (G.Params[i]'hip)) scope (J4w hi hc)) (by first|simp [J0o];done|rfl) ?_|refine J03 (J50 (c.Args[i]'hi) (J0f (G.Params[i]'hip)) scope (J4w hi hc)) (by first|simp [J0o];done|rfl) ?_
    rintro r rfl
    simp [e1,e4,e2,hn]
   rintro st3 h3 n3 hk3 ⟨hn3,s69,e1'',e4'',e2''⟩
   simp at hk3
   generalize J6o c.Args[i] (J0f G.Params[i]) scope=D at *
   cases D
   ·rw [Bool.false_and] at hJ
    subst hJ
    simp [s69]
    refine hret _ _ _ ?_
    simp
   ·rw [Bool.true_and] at hJ
    simp [hk,hk1,hk3,s69,s9,hw]
    exact hR _ _ _ (by simp [hk,hk1,hk3]) (by simp) ⟨by omega,by simp [e1''],by simp [e4''],by simp [e2''],hJ⟩
  ·rintro st h n R hk s9 ⟨hn,e1,e4,e2,hJ⟩ hret hX
   simp at hk
   rw [List.drop_eq_nil_of_le (by omega),J7o] at hJ
   refine J0c (J0e [2] (fun s=>s 53 = .bool false) (by simp [hk,s9,e1,h1n]) ?_)
   intro st1 hk1 s53
   refine J2g s53 ?_
   simp
   refine hX _ _ _ _ ?_
   simp [←hJ]
 ·simp
  first|refine J02 (J0x c.Bind) (by first|simp;done|rfl) ?_|refine J03 (J0x c.Bind) (by first|simp;done|rfl) ?_
  rintro r rfl
  cases hn:J0f c.Bind
  ·simp
  simp [hL]
  refine J0h [2,4,7] 9 c.Args.length (fun i s h n=>4<n∧h 1=some ⟨true,3,[[.str c.Bind,.str c.Func,.sl 3 (c.Args.map J0o)]]⟩∧h 4=some ⟨true,4,[[.str G.Name,.ref 2 0 G.Params.length,.bool true,.ref 3 0 G.Pre.length]]⟩∧h 2=some ⟨false,1,J05 G.Params⟩∧J71 scope (c.Args.drop i) (G.Params.drop i)=B) (by unfold LIM;omega) (by simp) ⟨by simp,by simp,by simp,by simp,by simpa using hB⟩ ?_ ?_
  ·rintro i st h n R hi hg hk s9 hw ⟨hn,e1,e4,e2,hJ⟩ hR hret _
   simp at hk
   have hip:i<G.Params.length:=by omega
   rw [J6n hi hip] at hJ
   refine J0c (J0e [2,4,7,9] (fun s=>s 53 = .bool true) (by simp [hk,s9,hi,hip,e1,h1n]) ?_)
   intro st1 hk1 s53
   simp at hk1
   refine J2i s53 (J0c (J1d ?_))
   refine J1q [2,4,7,9] (fun s h' n'=>4<n'∧s 69 = .bool (!J6o c.Args[i] (J0f G.Params[i]) scope)∧h' 1=some ⟨true,3,[[.str c.Bind,.str c.Func,.sl 3 (c.Args.map J0o)]]⟩∧h' 4=some ⟨true,4,[[.str G.Name,.ref 2 0 G.Params.length,.bool true,.ref 3 0 G.Pre.length]]⟩∧h' 2=some ⟨false,1,J05 G.Params⟩) ?_ ?_
   ·simp [hk,hk1,s9,e1,e4,e2,hi,hip,hg]
    first|refine J02 (J0x (G.Params[i]'hip)) (by first|simp;done|rfl) ?_|refine J03 (J0x (G.Params[i]'hip)) (by first|simp;done|rfl) ?_
    rintro r rfl
    simp [hk,hk1,s9,e1,e4,e2,hi,hip,J0o]
    first|refine J02 (J50 (c.Args[i]'hi) (J0f (G.Params[i]'hip)) scope (J4w hi hc)) (by first|simp [J0o];done|rfl) ?_|refine J03 (J50 (c.Args[i]'hi) (J0f (G.Params[i]'hip)) scope (J4w hi hc)) (by first|simp [J0o];done|rfl) ?_
    rintro r rfl
    simp [e1,e4,e2,hn]
   rintro st3 h3 n3 hk3 ⟨hn3,s69,e1'',e4'',e2''⟩
   simp at hk3
   generalize J6o c.Args[i] (J0f G.Params[i]) scope=D at *
   cases D
   ·rw [Bool.false_and] at hJ
    subst hJ
    simp [s69]
    refine hret _ _ _ ?_
    simp
   ·rw [Bool.true_and] at hJ
    simp [hk,hk1,hk3,s69,s9,hw]
    exact hR _ _ _ (by simp [hk,hk1,hk3]) (by simp) ⟨by omega,by simp [e1''],by simp [e4''],by simp [e2''],hJ⟩
  ·rintro st h n R hk s9 ⟨hn,e1,e4,e2,hJ⟩ hret hX
   simp at hk
   rw [List.drop_eq_nil_of_le (by omega),J7o] at hJ
   refine J0c (J0e [2] (fun s=>s 53 = .bool false) (by simp [hk,s9,e1,h1n]) ?_)
   intro st1 hk1 s53
   refine J2g s53 ?_
   simp
   refine hX _ _ _ _ ?_
   simp [←hJ]
def a149:AFn:= ⟨105,[.t 4],(.seq (.reg [Zo 2 (.boxv (.t 0)),Zo 3 (.boxv (.t 1)),Zo 4 (.mv (.k (.bool false)))]) (.seq (.reg [Zl 13 true 2 2,Zf 14 0 3,Zl 15 false 1 14,Zc 16 176 [.t 13,.t 15],Zv 12 16,Zo 17 (.ext (.t 12) 0),Zo 18 (.ext (.t 12) 1),Zo 5 (.box [(.str []),(.nil 1),(.bool false),(.nil 2)]),⟨no,.st 4 (.t 5) (.t 17),no⟩,Zv 6 18]) (.seq (.seq (.reg [Zv 19 6,Zo 20 (.un .not (.t 19)),Zv 21 20,⟨some 22,.ld true 4 (.t 5),(some (21,false))⟩,⟨some 23,.fld 1 (.t 3),(some (21,false))⟩,⟨some 24,.ld false 1 (.t 23),(some (21,false))⟩,⟨some 25,.call (.k (.fn (.func 236) [] [])) [.t 22,.t 24],(some (21,false))⟩,⟨some 26,.un .not (.t 25),(some (21,false))⟩,Zo 27 (.pick (.t 21) (.k (.bool true)) (.t 26)),Zv 28 27,⟨some 29,.fld 2 (.t 3),(some (28,false))⟩,⟨some 30,.ld false 1 (.t 29),(some (28,false))⟩,⟨some 31,.len false (.t 30),(some (28,false))⟩,⟨some 32,.bin .gtr (.t 31) (.k (.int .i64 2)),(some (28,false))⟩,Zo 33 (.pick (.t 28) (.k (.bool true)) (.t 32)),Zv 34 33,⟨some 35,.fld 3 (.t 3),(some (34,false))⟩,⟨some 36,.ld false 1 (.t 35),(some (34,false))⟩,⟨some 37,.len false (.t 36),(some (34,false))⟩,⟨some 38,.bin .gtr (.t 37) (.k (.int .i64 2)),(some (34,false))⟩,Zo 39 (.pick (.t 34) (.k (.bool true)) (.t 38))]) (.cond (.t 39) (.seq (.reg [Zo 4 (.mv (.k (.bool false)))]) .ret) .skip)) (.seq (.seq (.reg [Zf 40 2 3,Zl 41 false 1 40,Zo 42 (.len false (.t 41)),Zo 43 (.mv (.k (.int .i64 0)))]) (.blk 0 (.loop (.seq (.reg [Zo 44 (.bin .lss (.t 43) (.t 42))]) (.seq (.cond (.t 44) .skip (.exit 0)) (.seq (.blk 1 (.seq (.reg [Zo 45 (.ixa 2 (.t 41) (.t 43)),Zl 46 true 2 45,Zo 8 (.box [(.int .i64 0),(.nil 2)]),⟨no,.st 2 (.t 8) (.t 46),no⟩]) (.seq (.draw (.op (Zl 47 true 2 8) (.op (Zc 48 237 [.t 47]) (.op (Zo 49 (.un .not (.t 48))) (.op (Zv 50 49) (.op ⟨some 51,.ld true 2 (.t 8),(some (50,false))⟩ (.op ⟨some 53,.ld true 2 (.t 2),(some (50,false))⟩ (.op ⟨some 54,.ld true 7 (.t 3),(some (50,false))⟩ (.op ⟨some 52,.call (.k (.fn (.func 239) [] [])) [.t 51],(some (50,false))⟩ (.op ⟨some 55,.call (.k (.fn (.func 240) [] [])) [.t 53,.t 54,(.k (.int .i64 0))],(some (50,false))⟩ (.op ⟨some 56,.call (.k (.fn (.func 238) [] [])) [.t 52,.t 55],(some (50,false))⟩ (.op ⟨some 57,.un .not (.t 56),(some (50,false))⟩ (.op (Zo 58 (.pick (.t 50) (.k (.bool true)) (.t 57))) .fin))))))))))))) (.cond (.t 58) (.seq (.reg [Zo 4 (.mv (.k (.bool false)))]) .ret) .skip)))) (.reg [Zo 59 (.bin .add (.t 43) (.k (.int .i64 1))),Zv 43 59]))))))) (.seq (.seq (.reg [Zf 60 3 3,Zl 61 false 1 60,Zo 62 (.len false (.t 61)),Zo 63 (.mv (.k (.int .i64 0)))]) (.blk 2 (.loop (.seq (.reg [Zo 64 (.bin .lss (.t 63) (.t 62))]) (.seq (.cond (.t 64) .skip (.exit 2)) (.seq (.blk 3 (.seq (.reg [Zv 65 63,Zo 66 (.ixa 3 (.t 61) (.t 63)),Zl 67 true 3 66,Zo 10 (.box [(.str []),(.str []),(.nil 3)]),Zv 9 65,⟨no,.st 3 (.t 10) (.t 67),no⟩]) (.seq (.draw (.op (Zl 68 true 2 2) (.op (Zl 69 true 3 10) (.op (Zl 70 true 2 2) (.op (Zl 71 true 7 3) (.op (Zv 72 9) (.op (Zc 73 240 [.t 70,.t 71,.t 72]) (.op (Zc 74 241 [.t 68,.t 69,.t 73]) (.op (Zo 75 (.un .not (.t 74))) .fin))))))))) (.cond (.t 75) (.seq (.reg [Zo 4 (.mv (.k (.bool false)))]) .ret) .skip)))) (.reg [Zo 76 (.bin .add (.t 63) (.k (.int .i64 1))),Zv 63 76]))))))) (.seq (.reg [Zl 77 true 2 2,Zl 78 true 7 3,Zf 79 3 3,Zl 80 false 1 79,Zo 81 (.len false (.t 80)),Zc 82 240 [.t 77,.t 78,.t 81],Zv 11 82]) (.seq (.reg [Zf 83 4 3,Zl 84 true 3 83,Zc 85 242 [.t 84],Zv 86 85,⟨some 87,.fld 4 (.t 3),(some (86,true))⟩,⟨some 88,.fld 0 (.t 87),(some (86,true))⟩,⟨some 89,.ld false 1 (.t 88),(some (86,true))⟩,⟨some 90,.fld 2 (.t 5),(some (86,true))⟩,⟨some 91,.ld false 1 (.t 90),(some (86,true))⟩,⟨some 92,.beq false (.t 89) (.t 91),(some (86,true))⟩,Zo 93 (.pick (.t 86) (.t 92) (.k (.bool false))),Zv 94 93,⟨some 95,.fld 4 (.t 3),(some (94,true))⟩,⟨some 96,.ld true 3 (.t 95),(some (94,true))⟩,⟨some 97,.call (.k (.fn (.func 243) [] [])) [.t 96],(some (94,true))⟩,⟨some 98,.mv (.t 11),(some (94,true))⟩,⟨some 99,.call (.k (.fn (.func 238) [] [])) [.t 97,.t 98],(some (94,true))⟩,Zo 100 (.pick (.t 94) (.t 99) (.k (.bool false))),Zv 101 100,⟨some 102,.mv (.t 11),(some (101,true))⟩,⟨some 103,.call (.k (.fn (.func 141) [] [])) [.t 102],(some (101,true))⟩,Zo 104 (.pick (.t 101) (.t 103) (.k (.bool false))),Zv 4 104]) .ret)))))))⟩
theorem a149_ok:J08 Tryz.prog Tryz.f149=some a149:=by kernel_rfl
theorem J89 {r:DRule}(hr:J3f r≤1048576):(∀ g∈r.Guards,g.Terms.length≤1048576)∧(∀ c∈r.Calls,J4f c≤1048576)∧J7w r.Result≤1048576∧r.Guards.length≤1048576∧r.Calls.length≤1048576∧r.Patterns.length≤1048576∧J4u r.Guards≤1048576:=by
 have h1:=J1h J8j r.Guards
 have h2:=J1h J4f r.Calls
 have h3:=J1h J1w r.Patterns
 unfold J3f J1s J4u J64 at hr
 refine ⟨fun g hg => ?_,fun c hc => ?_,by omega,by omega,by omega,by omega,by unfold J4u;omega⟩
 ·have h4:=J3i (w:=J8j) hg
  have h5:=J1h J5o g.Terms
  rw [show J8j g=wL J5o g.Terms from rfl] at h4
  omega
 ·have h4:=J3i (w:=J4f) hc
  omega
theorem J84 {p:DProgram}{r:DRule}{i:Nat}(hi:i<r.Calls.length):J2x p r i (r.Calls.drop i)=(Jal p r.Calls[i] (J0z p r i)&&J2x p r (i+1) (r.Calls.drop (i+1))):=by
 rw [List.drop_eq_getElem_cons hi];rfl
theorem J8t (p:DProgram) (r:DRule) (hp:J0d p≤1048576) (hr:J3f r≤1048576):Holds Tryz.prog 149 [.agg (J00 p),.agg (J0a r)] (fun x=>x = .bool (J68 p r)):=by
 obtain ⟨wg,wc,wa,lg,lc,lp,_⟩:=J89 hr
 refine J01 Tryz.func149 a149_ok rfl (by simp [a149]) ?_
 simp [a149,J00,J0a]
 first|refine J02 (J31 p r.Func hp) (by first|simp [J00];done|rfl) ?_|refine J03 (J31 p r.Func hp) (by first|simp [J00];done|rfl) ?_
 rintro r rfl
 unfold J68
 generalize hG:(J24 p.Functions r.Func).getD fn0=G
 simp only [Jbn,hG]
 generalize hb1:(J24 p.Functions r.Func).isSome=b1
 simp [J0b]
 cases b1
 ·simp
 simp
 first|refine J02 (Ja6 G r.Patterns) (by first|simp [J04];done|rfl) ?_|refine J03 (Ja6 G r.Patterns) (by first|simp [J04];done|rfl) ?_
 rintro r rfl
 cases h1:J34 G.Params [] r.Patterns
 ·simp
 simp
 intro _
 have hdg:decide (r.Guards.length≤2)=decide ((r.Guards.length:Int)≤2):=by rw [decide_eq_decide];omega
 have hdc:decide (r.Calls.length≤2)=decide ((r.Calls.length:Int)≤2):=by rw [decide_eq_decide];omega
 by_cases h2:(r.Guards.length:Int)≤2
 case neg=>
  have h2n:¬r.Guards.length≤2:=by omega
  simp [h2,h2n,Int.not_le.1 h2]
 have h2n:r.Guards.length≤2:=by omega
 simp [h2,h2n,Int.not_lt.2 h2]
 intro _
 by_cases h3:(r.Calls.length:Int)≤2
 case neg=>
  have h3n:¬r.Calls.length≤2:=by omega
  simp [h3,h3n,Int.not_le.1 h3]
 have h3n:r.Calls.length≤2:=by omega
 simp [h3,h3n,Int.not_lt.2 h3]
 intro _
 generalize hB1:r.Guards.all (J41 (J0z p r 0))=B1
 refine J0h [2,3,5,41,42] 43 r.Guards.length (fun i s h n=>4<n∧h 0=some ⟨true,2,[J00 p]⟩∧h 1=some ⟨true,7,[J0a r]⟩∧h 4=some ⟨true,4,[[.str G.Name,.ref 2 0 G.Params.length,.bool G.ListResult,.ref 3 0 G.Pre.length]]⟩∧(r.Guards.drop i).all (J41 (J0z p r 0))=B1) (by unfold LIM;omega) (by simp) ⟨by simp,by simp [J00],by simp [J0a],by simp,by simpa using hB1⟩ ?_ ?_
 ·rintro i st h n R hi hg hk s43 hw ⟨hn,e0,e1,e4,hJ⟩ hR hret _
  simp at hk
  rw [List.drop_eq_getElem_cons hi,List.all_cons] at hJ
  have z0:¬0=n:=by omega
  have z1:¬1=n:=by omega
  have z4:¬4=n:=by omega
  have y0:¬0=n+1:=by omega
  have y1:¬1=n+1:=by omega
  have y4:¬4=n+1:=by omega
  have x0:¬0=n+1+1:=by omega
  have x1:¬1=n+1+1:=by omega
  have x4:¬4=n+1+1:=by omega
  have v0:¬n+1=n+1+1:=by omega
  have v1:¬n+1+1=n+1:=by omega
  have v4:¬n+1=n:=by omega
  have q0:¬n=0:=by omega
  have q1:¬n=1:=by omega
  have q3:¬n=3:=by omega
  have q4:¬n=4:=by omega
  refine J0e [2,3,5,41,42,43] (fun s=>s 44 = .bool true) (by simp [hk,s43,hi]) ?_
  intro st1 hk1 s44
  simp at hk1
  refine J4m s44 (J0c (J1d ?_))
  refine J1q [2,3,5,41,42,43] (fun s h' n'=>s 8 = .ptr n 0 0∧n'=n+1∧h' n=some ⟨true,2,[J10 r.Guards[i]]⟩∧h' 0=some ⟨true,2,[J00 p]⟩∧h' 1=some ⟨true,7,[J0a r]⟩∧h' 4=some ⟨true,4,[[.str G.Name,.ref 2 0 G.Params.length,.bool G.ListResult,.ref 3 0 G.Pre.length]]⟩) (by simp [hk,hk1,s43,hi,J10,e0,e1,e4,z0,z1,z4,q0,q1,q4]) ?_
  rintro st2 h2' n2 hk2 ⟨s8,rfl,en,e0',e1',e4'⟩
  simp at hk2
  refine J1q [2,3,5,41,42,43] (fun s h' n'=>n<n'∧s 58 = .bool (!J41 (J0z p r 0) r.Guards[i])∧h' 0=some ⟨true,2,[J00 p]⟩∧h' 1=some ⟨true,7,[J0a r]⟩∧h' 4=some ⟨true,4,[[.str G.Name,.ref 2 0 G.Params.length,.bool G.ListResult,.ref 3 0 G.Pre.length]]⟩) ?_ ?_
  ·simp [hk,hk1,hk2,s8,en]
   first|refine J02 (J5u (r.Guards[i]'hi)) (by first|simp;done|rfl) ?_|refine J03 (J5u (r.Guards[i]'hi)) (by first|simp;done|rfl) ?_
   rintro r rfl
   unfold J41
   cases g1:J8h r.Guards[i]
   ·simp [e0',e1',e4']
   simp [hk,hk1,hk2,s8,en,e0',e1',e4',J00,J0a]
   first|refine J02 (J42 (r.Guards[i]'hi) (wg _ (List.getElem_mem hi))) (by simp [J00,J0a]) ?_|refine J03 (J42 (r.Guards[i]'hi) (wg _ (List.getElem_mem hi))) (by simp [J00,J0a]) ?_|refine J02 (J42 (r.Guards[i]'hi) (wg _ (List.getElem_mem hi))) rfl ?_|refine J03 (J42 (r.Guards[i]'hi) (wg _ (List.getElem_mem hi))) rfl ?_
   rintro r rfl
   simp [hk,hk1,hk2,s8,en,e0',e1',e4',J00,J0a,z0,z1,z4,y0,y1,y4,x0,x1,x4,v0,v1,v4,q0,q1,q3,q4]
   first|refine J02 (J6e p r 0 hp hr) (by first|simp [J00,J0a];done|rfl) ?_|refine J03 (J6e p r 0 hp hr) (by first|simp [J00,J0a];done|rfl) ?_
   rintro r rfl
   simp [hk,hk1,hk2,s8,en,e0',e1',e4',J00,J0a,z0,z1,z4,y0,y1,y4,x0,x1,x4,v0,v1,v4,q0,q1,q3,q4]
   first|refine J02 (J79 (J54 (r.Guards[i]'hi)) (J0z p r 0)) (by first|simp [z0,z1,z4,y0,y1,y4,x0,x1,x4,v0,v1,v4,q0,q1,q3,q4];done|rfl) ?_|refine J03 (J79 (J54 (r.Guards[i]'hi)) (J0z p r 0)) (by first|simp [z0,z1,z4,y0,y1,y4,x0,x1,x4,v0,v1,v4,q0,q1,q3,q4];done|rfl) ?_
   rintro r rfl
   simp [e0',e1',e4',J00,J0a,z0,z1,z4,y0,y1,y4,x0,x1,x4,v0,v1,v4,q0,q1,q3,q4]
  rintro st3 h3' n3 hk3 ⟨hn3,s58,e0'',e1'',e4''⟩
  simp at hk3
  generalize J41 (J0z p r 0) r.Guards[i]=D at *
  cases D
  ·rw [Bool.false_and] at hJ
   subst hJ
   simp [s58]
   refine hret _ _ _ ?_
   simp
  ·rw [Bool.true_and] at hJ
   simp [hk,hk1,hk2,hk3,s58,s43,hw]
   exact hR _ _ _ (by simp [hk,hk1,hk2,hk3]) (by simp) ⟨by omega,e0'',e1'',e4'',hJ⟩
 rintro st h n R hk s43 ⟨hn,e0,e1,e4,hJ⟩ hret hX
 simp at hk
 rw [List.drop_eq_nil_of_le (by omega)] at hJ
 refine J0e [2,3,5,41,42,43] (fun s=>s 44 = .bool false) (by simp [hk,s43]) ?_
 intro st1 hk1 s44
 simp at hk1
 refine J4k s44 ?_
 refine hX _ _ _ _ ?_
 simp at hJ
 subst hJ
 clear hX hret hB1
 simp [hk,hk1,e1,J0a]
 intro _
 generalize hB2:J2x p r 0 r.Calls=B2
 refine J0h [2,3,5,61,62] 63 r.Calls.length (fun i s h n=>4<n∧h 0=some ⟨true,2,[J00 p]⟩∧h 1=some ⟨true,7,[J0a r]⟩∧h 4=some ⟨true,4,[[.str G.Name,.ref 2 0 G.Params.length,.bool G.ListResult,.ref 3 0 G.Pre.length]]⟩∧J2x p r i (r.Calls.drop i)=B2) (by unfold LIM;omega) (by simp) ⟨hn,e0,e1,e4,by simpa using hB2⟩ ?_ ?_
 ·rintro i st h n R hi hg hkk s63 hw ⟨hn,e0,e1,e4,hJ⟩ hR hret _
  simp at hkk
  rw [J84 hi] at hJ
  have z0:¬0=n:=by omega
  have z1:¬1=n:=by omega
  have z4:¬4=n:=by omega
  have y0:¬0=n+1:=by omega
  have y1:¬1=n+1:=by omega
  have y4:¬4=n+1:=by omega
  have x0:¬0=n+1+1:=by omega
  have x1:¬1=n+1+1:=by omega
  have x4:¬4=n+1+1:=by omega
  have v0:¬n+1=n+1+1:=by omega
  have v1:¬n+1+1=n+1:=by omega
  have v4:¬n+1=n:=by omega
  have q0:¬n=0:=by omega
  have q1:¬n=1:=by omega
  have q3:¬n=3:=by omega
  have q4:¬n=4:=by omega
  refine J0e [2,3,5,61,62,63] (fun s=>s 64 = .bool true) (by simp [hkk,s63,hi]) ?_
  intro stb hkb s64
  simp at hkb
  refine J4m s64 (J0c (J1d ?_))
  refine J1q [2,3,5,61,62,63] (fun s h' n'=>s 9 = .int .i64 i∧s 10 = .ptr n 0 0∧n'=n+1∧h' n=some ⟨true,3,[J0t r.Calls[i]]⟩∧h' 0=some ⟨true,2,[J00 p]⟩∧h' 1=some ⟨true,7,[J0a r]⟩∧h' 4=some ⟨true,4,[[.str G.Name,.ref 2 0 G.Params.length,.bool G.ListResult,.ref 3 0 G.Pre.length]]⟩) (by simp [hk,hkk,hk1,hkb,s63,hi,J0t,e0,e1,e4,z0,z1,z4,q0,q1,q4]) ?_
  rintro st2 h2' n2 hk2 ⟨s9,s10,rfl,en,e0',e1',e4'⟩
  simp at hk2
  refine J1q [2,3,5,61,62,63] (fun s h' n'=>n<n'∧s 75 = .bool (!Jal p r.Calls[i] (J0z p r i))∧h' 0=some ⟨true,2,[J00 p]⟩∧h' 1=some ⟨true,7,[J0a r]⟩∧h' 4=some ⟨true,4,[[.str G.Name,.ref 2 0 G.Params.length,.bool G.ListResult,.ref 3 0 G.Pre.length]]⟩) ?_ ?_
  ·simp [hk,hkk,hk1,hkb,hk2,s9,s10,en,e0',e1',e4',J00,J0a]
   first|refine J02 (J6e p r i hp hr) (by first|simp [J00,J0a];done|rfl) ?_|refine J03 (J6e p r i hp hr) (by first|simp [J00,J0a];done|rfl) ?_
   rintro r rfl
   simp [hk,hkk,hk1,hkb,hk2,s9,s10,en,e0',e1',e4',J00,J0a,z0,z1,z4,y0,y1,y4,x0,x1,x4,v0,v1,v4,q0,q1,q3,q4]
   first|refine J02 (Jb0 p (r.Calls[i]'hi) (J0z p r i) hp (wc _ (List.getElem_mem hi))) (by simp [J00,z0,z1,z4,y0,y1,y4,x0,x1,x4,v0,v1,v4,q0,q1,q3,q4]) ?_|refine J03 (Jb0 p (r.Calls[i]'hi) (J0z p r i) hp (wc _ (List.getElem_mem hi))) (by simp [J00,z0,z1,z4,y0,y1,y4,x0,x1,x4,v0,v1,v4,q0,q1,q3,q4]) ?_|refine J02 (Jb0 p (r.Calls[i]'hi) (J0z p r i) hp (wc _ (List.getElem_mem hi))) rfl ?_|refine J03 (Jb0 p (r.Calls[i]'hi) (J0z p r i) hp (wc _ (List.getElem_mem hi))) rfl ?_
   rintro r rfl
   simp [e0',e1',e4',J00,J0a,z0,z1,z4,y0,y1,y4,x0,x1,x4,v0,v1,v4,q0,q1,q3,q4]
  rintro st3 h3' n3 hk3 ⟨hn3,s75,e0'',e1'',e4''⟩
  simp at hk3
  generalize Jal p r.Calls[i] (J0z p r i)=D at *
  cases D
  ·rw [Bool.false_and] at hJ
   subst hJ
   simp [s75]
   refine hret _ _ _ ?_
   simp
  ·rw [Bool.true_and] at hJ
   simp [hk,hkk,hk1,hkb,hk2,hk3,s75,s63,hw]
   exact hR _ _ _ (by simp [hk,hkk,hk1,hkb,hk2,hk3]) (by simp) ⟨by omega,e0'',e1'',e4'',hJ⟩
 rintro st h n R hkk s63 ⟨hn,e0,e1,e4,hJ⟩ hret hX
 simp at hkk
 rw [List.drop_eq_nil_of_le (by omega)] at hJ
 refine J0e [2,3,5,61,62,63] (fun s=>s 64 = .bool false) (by simp [hkk,s63]) ?_
 intro st1 hk1' s64
 simp at hk1'
 refine J4k s64 ?_
 refine hX _ _ _ _ ?_
 simp [J2x] at hJ
 subst hJ
 clear hX hret hB2
 have z0:¬0=n:=by omega
 have z1:¬1=n:=by omega
 have z4:¬4=n:=by omega
 have y0:¬0=n+1:=by omega
 have y1:¬1=n+1:=by omega
 have y4:¬4=n+1:=by omega
 have x0:¬0=n+1+1:=by omega
 have x1:¬1=n+1+1:=by omega
 have x4:¬4=n+1+1:=by omega
 have v0:¬n+1=n+1+1:=by omega
 have v1:¬n+1+1=n+1:=by omega
 have v4:¬n+1=n:=by omega
 have q0:¬n=0:=by omega
 have q1:¬n=1:=by omega
 have q3:¬n=3:=by omega
 have q4:¬n=4:=by omega
 simp [hk,hk1,hkk,hk1',e0,e1,J0a,J00]
 intro _
 first|refine J02 (J6e p r r.Calls.length hp hr) (by first|simp [J00,J0a];done|rfl) ?_|refine J03 (J6e p r r.Calls.length hp hr) (by first|simp [J00,J0a];done|rfl) ?_
 rintro r rfl
 simp [hk,hk1,hkk,hk1',e0,e1,e4,J0a,J00,z0,z1,z4,y0,y1,y4,x0,x1,x4,v0,v1,v4,q0,q1,q3,q4]
 first|refine J02 (J43 r.Result) (by first|simp [J0o];done|rfl) ?_|refine J03 (J43 r.Result) (by first|simp [J0o];done|rfl) ?_
 rintro r rfl
 unfold J6o
 cases g1:Jcc r.Result
 ·simp
 simp [hk,hk1,hkk,hk1',e0,e1,e4,J0a,J00,z0,z1,z4,y0,y1,y4,x0,x1,x4,v0,v1,v4,q0,q1,q3,q4]
 cases g2:(r.Result.Lst==G.ListResult)
 ·have g2':¬r.Result.Lst=G.ListResult:=by simpa using g2
  simp [g2']
 have g2':r.Result.Lst=G.ListResult:=by simpa using g2
 simp [hk,hk1,hkk,hk1',e0,e1,e4,J0a,J00,z0,z1,z4,y0,y1,y4,x0,x1,x4,v0,v1,v4,q0,q1,q3,q4,g2']
 first|refine J02 (J6a r.Result wa) (by first|simp [J0o,g2'];done|rfl) ?_|refine J03 (J6a r.Result wa) (by first|simp [J0o,g2'];done|rfl) ?_
 rintro r rfl
 simp [hk,hk1,hkk,hk1',e0,e1,e4,J0a,J00,z0,z1,z4,y0,y1,y4,x0,x1,x4,v0,v1,v4,q0,q1,q3,q4,g2']
 first|refine J02 (J79 (J3x (J5q r.Result)) (J0z p r r.Calls.length)) (by first|simp [z0,z1,z4,y0,y1,y4,x0,x1,x4,v0,v1,v4,q0,q1,q3,q4];done|rfl) ?_|refine J03 (J79 (J3x (J5q r.Result)) (J0z p r r.Calls.length)) (by first|simp [z0,z1,z4,y0,y1,y4,x0,x1,x4,v0,v1,v4,q0,q1,q3,q4];done|rfl) ?_
 rintro r rfl
 cases g3:Jjz (J3x (J5q r.Result)) (J0z p r r.Calls.length)
 ·simp
 simp [z0,z1,z4,y0,y1,y4,x0,x1,x4,v0,v1,v4,q0,q1,q3,q4]
 first|refine J02 (J57 (J0z p r r.Calls.length)) (by first|simp [z0,z1,z4,y0,y1,y4,x0,x1,x4,v0,v1,v4,q0,q1,q3,q4];done|rfl) ?_|refine J03 (J57 (J0z p r r.Calls.length)) (by first|simp [z0,z1,z4,y0,y1,y4,x0,x1,x4,v0,v1,v4,q0,q1,q3,q4];done|rfl) ?_
 rintro r rfl
 simp
def a135:AFn:= ⟨75,[.t 4],(.seq (.reg [Zo 2 (.boxv (.t 0)),Zo 3 (.boxv (.t 1)),Zo 4 (.mv (.k (.bool false)))]) (.seq (.reg [Zl 10 true 2 2,Zf 11 0 3,Zl 12 false 1 11,Zc 13 172 [.t 10,.t 12],Zv 9 13,Zo 14 (.ext (.t 9) 0),Zo 15 (.ext (.t 9) 1),Zo 5 (.box [(.str []),(.nil 1),(.bool false),(.nil 2)]),⟨no,.st 4 (.t 5) (.t 14),no⟩,Zv 6 15]) (.seq (.seq (.draw (.op (Zv 16 6) (.op (Zo 17 (.un .not (.t 16))) (.op (Zv 18 17) (.op ⟨some 19,.ld true 4 (.t 5),(some (18,false))⟩ (.op ⟨some 20,.fld 1 (.t 3),(some (18,false))⟩ (.op ⟨some 21,.ld false 1 (.t 20),(some (18,false))⟩ (.op ⟨some 22,.call (.k (.fn (.func 219) [] [])) [.t 19,.t 21],(some (18,false))⟩ (.op ⟨some 23,.un .not (.t 22),(some (18,false))⟩ (.op (Zo 24 (.pick (.t 18) (.k (.bool true)) (.t 23))) (.op (Zv 25 24) (.op ⟨some 26,.fld 2 (.t 3),(some (25,false))⟩ (.op ⟨some 27,.ld false 1 (.t 26),(some (25,false))⟩ (.op ⟨some 28,.ld true 2 (.t 2),(some (25,false))⟩ (.op ⟨some 29,.ld true 7 (.t 3),(some (25,false))⟩ (.op ⟨some 30,.call (.k (.fn (.func 221) [] [])) [.t 28,.t 29,(.k (.int .i64 0))],(some (25,false))⟩ (.op ⟨some 31,.call (.k (.fn (.func 220) [] [])) [.t 27,.t 30],(some (25,false))⟩ (.op ⟨some 32,.un .not (.t 31),(some (25,false))⟩ (.op (Zo 33 (.pick (.t 25) (.k (.bool true)) (.t 32))) (.op (Zv 34 33) (.op ⟨some 35,.fld 3 (.t 3),(some (34,false))⟩ (.op ⟨some 36,.ld false 1 (.t 35),(some (34,false))⟩ (.op ⟨some 37,.len false (.t 36),(some (34,false))⟩ (.op ⟨some 38,.bin .gtr (.t 37) (.k (.int .i64 2)),(some (34,false))⟩ (.op (Zo 39 (.pick (.t 34) (.k (.bool true)) (.t 38))) .fin))))))))))))))))))))))))) (.cond (.t 39) (.seq (.reg [Zo 4 (.mv (.k (.bool false)))]) .ret) .skip)) (.seq (.seq (.reg [Zo 7 (.mv (.k (.int .i64 0)))]) (.blk 0 (.loop (.seq (.seq (.reg [Zv 40 7,Zf 41 3 3,Zl 42 false 1 41,Zo 43 (.len false (.t 42)),Zo 44 (.bin .lss (.t 40) (.t 43))]) (.cond (.t 44) .skip (.exit 0))) (.seq (.blk 1 (.seq (.draw (.op (Zl 47 true 2 2) (.op (Zf 48 3 3) (.op (Zl 49 false 1 48) (.op (Zv 50 7) (.op (Zo 51 (.ixa 3 (.t 49) (.t 50))) (.op (Zl 52 true 3 51) (.op (Zl 53 true 2 2) (.op (Zl 54 true 7 3) (.op (Zv 55 7) (.op (Zc 56 221 [.t 53,.t 54,.t 55]) (.op (Zc 57 222 [.t 47,.t 52,.t 56]) (.op (Zo 58 (.un .not (.t 57))) .fin))))))))))))) (.cond (.t 58) (.seq (.reg [Zo 4 (.mv (.k (.bool false)))]) .ret) .skip))) (.reg [Zv 45 7,Zo 46 (.bin .add (.t 45) (.k (.int .i64 1))),Zv 7 46])))))) (.seq (.reg [Zl 59 true 2 2,Zl 60 true 7 3,Zf 61 3 3,Zl 62 false 1 61,Zo 63 (.len false (.t 62)),Zc 64 221 [.t 59,.t 60,.t 63],Zv 8 64]) (.seq (.reg [Zf 65 4 3,Zl 66 true 3 65,Zf 67 2 5,Zl 68 false 1 67,Zv 69 8,Zc 70 223 [.t 66,.t 68,.t 69],Zv 71 70,⟨some 72,.mv (.t 8),(some (71,true))⟩,⟨some 73,.call (.k (.fn (.func 218) [] [])) [.t 72],(some (71,true))⟩,Zo 74 (.pick (.t 71) (.t 73) (.k (.bool false))),Zv 4 74]) .ret))))))⟩
theorem a135_ok:J08 Tryz.prog Tryz.f135=some a135:=by kernel_rfl
theorem J4q (p:DProgram) (r:DRule) (hp:J0d p≤1048576) (hr:J3f r≤1048576):Holds Tryz.prog 135 [.agg (J00 p),.agg (J0a r)] (fun x=>x = .bool (J68 p r)):=by
 obtain ⟨wg,wc,wa,lg,lc,lp,wgs⟩:=J89 hr
 refine J01 Tryz.func135 a135_ok rfl (by simp [a135]) ?_
 simp [a135,J00,J0a]
 first|refine J02 (J2u p r.Func hp) (by first|simp [J00];done|rfl) ?_|refine J03 (J2u p r.Func hp) (by first|simp [J00];done|rfl) ?_
 rintro r rfl
 unfold J68
 generalize hG:(J24 p.Functions r.Func).getD fn0=G
 simp only [Jbn,hG]
 generalize hb1:(J24 p.Functions r.Func).isSome=b1
 simp [J0b]
 cases b1
 ·simp
 simp
 first|refine J02 (J80 G r.Patterns lp) (by first|simp [J04];done|rfl) ?_|refine J03 (J80 G r.Patterns lp) (by first|simp [J04];done|rfl) ?_
 rintro r rfl
 cases h1:J34 G.Params [] r.Patterns
 ·simp
 simp
 first|refine J02 (J5c p r 0 hp hr) (by first|simp [J00,J0a];done|rfl) ?_|refine J03 (J5c p r 0 hp hr) (by first|simp [J00,J0a];done|rfl) ?_
 rintro r rfl
 simp
 first|refine J02 (Ja1 r.Guards (J0z p r 0) wgs) (by first|simp;done|rfl) ?_|refine J03 (Ja1 r.Guards (J0z p r 0) wgs) (by first|simp;done|rfl) ?_
 rintro r rfl
 generalize hB1:r.Guards.all (J41 (J0z p r 0))=B1
 cases B1
 ·simp
 have hdg:decide (r.Guards.length≤2)=decide ((r.Guards.length:Int)≤2):=by rw [decide_eq_decide];omega
 by_cases h2n:r.Guards.length≤2
 case neg=>simp [h2n]
 simp [h2n]
 by_cases h3:(r.Calls.length:Int)≤2
 case neg=>
  have h3n:¬r.Calls.length≤2:=by omega
  simp [h3,h3n,Int.not_le.1 h3]
 have h3n:r.Calls.length≤2:=by omega
 simp [h3,h3n,Int.not_lt.2 h3]
 generalize hB2:J2x p r 0 r.Calls=B2
 refine J0h [2,3,5] 7 r.Calls.length (fun i s h n=>4<n∧h 0=some ⟨true,2,[J00 p]⟩∧h 1=some ⟨true,7,[J0a r]⟩∧h 4=some ⟨true,4,[[.str G.Name,.ref 2 0 G.Params.length,.bool G.ListResult,.ref 3 0 G.Pre.length]]⟩∧J2x p r i (r.Calls.drop i)=B2) (by unfold LIM;omega) (by simp) ⟨by simp,by simp [J00],by simp [J0a],by simp,by simpa using hB2⟩ ?_ ?_
 ·rintro i st h n R hi hg hk s7 hw ⟨hn,e0,e1,e4,hJ⟩ hR hret _
  simp at hk
  rw [J84 hi] at hJ
  have z0:¬0=n:=by omega
  have z1:¬1=n:=by omega
  have z4:¬4=n:=by omega
  have y0:¬0=n+1:=by omega
  have y1:¬1=n+1:=by omega
  have y4:¬4=n+1:=by omega
  have x0:¬0=n+1+1:=by omega
  have x1:¬1=n+1+1:=by omega
  have x4:¬4=n+1+1:=by omega
  have v0:¬n+1=n+1+1:=by omega
  have v1:¬n+1+1=n+1:=by omega
  have v4:¬n+1=n:=by omega
  have q0:¬n=0:=by omega
  have q1:¬n=1:=by omega
  have q3:¬n=3:=by omega
  have q4:¬n=4:=by omega
  refine J0c (J0e [2,3,5,7] (fun s=>s 44 = .bool true) (by simp [hk,s7,hi,e1,J0a]) ?_)
  intro st1 hk1 s44
  simp at hk1
  refine J2i s44 (J0c (J1d ?_))
  refine J1q [2,3,5,7] (fun s h' n'=>4<n'∧s 58 = .bool (!Jal p r.Calls[i] (J0z p r i))∧h' 0=some ⟨true,2,[J00 p]⟩∧h' 1=some ⟨true,7,[J0a r]⟩∧h' 4=some ⟨true,4,[[.str G.Name,.ref 2 0 G.Params.length,.bool G.ListResult,.ref 3 0 G.Pre.length]]⟩) ?_ ?_
  ·simp [hk,hk1,s7,hi,hg,e0,e1,e4,J00,J0a,z0,z1,z4,y0,y1,y4,x0,x1,x4,v0,v1,v4,q0,q1,q3,q4]
   first|refine J02 (J5c p r i hp hr) (by first|simp [J00,J0a];done|rfl) ?_|refine J03 (J5c p r i hp hr) (by first|simp [J00,J0a];done|rfl) ?_
   rintro r rfl
   simp [hk,hk1,s7,hi,e0,e1,e4,J00,J0a,z0,z1,z4,y0,y1,y4,x0,x1,x4,v0,v1,v4,q0,q1,q3,q4]
   first|refine J02 (J7r p (r.Calls[i]'hi) (J0z p r i) hp (wc _ (List.getElem_mem hi))) (by simp [J00,z0,z1,z4,y0,y1,y4,x0,x1,x4,v0,v1,v4,q0,q1,q3,q4]) ?_|refine J03 (J7r p (r.Calls[i]'hi) (J0z p r i) hp (wc _ (List.getElem_mem hi))) (by simp [J00,z0,z1,z4,y0,y1,y4,x0,x1,x4,v0,v1,v4,q0,q1,q3,q4]) ?_|refine J02 (J7r p (r.Calls[i]'hi) (J0z p r i) hp (wc _ (List.getElem_mem hi))) rfl ?_|refine J03 (J7r p (r.Calls[i]'hi) (J0z p r i) hp (wc _ (List.getElem_mem hi))) rfl ?_
   rintro r rfl
   simp [e0,e1,e4,J00,J0a,z0,z1,z4,y0,y1,y4,x0,x1,x4,v0,v1,v4,q0,q1,q3,q4]
   omega
  rintro st3 h3' n3 hk3 ⟨hn3,s58,e0'',e1'',e4''⟩
  simp at hk3
  generalize Jal p r.Calls[i] (J0z p r i)=D at *
  cases D
  ·rw [Bool.false_and] at hJ
   subst hJ
   simp [s58]
   refine hret _ _ _ ?_
   simp
  ·rw [Bool.true_and] at hJ
   simp [hk,hk1,hk3,s58,s7,hw]
   exact hR _ _ _ (by simp [hk,hk1,hk3]) (by simp) ⟨hn3,e0'',e1'',e4'',hJ⟩
 rintro st h n R hk s7 ⟨hn,e0,e1,e4,hJ⟩ hret hX
 simp at hk
 rw [List.drop_eq_nil_of_le (by omega)] at hJ
 refine J0c (J0e [2,3,5] (fun s=>s 44 = .bool false) (by simp [hk,s7,e1,J0a]) ?_)
 intro st1 hk1 s44
 simp at hk1
 refine J2g s44 ?_
 refine hX _ _ _ _ ?_
 simp [J2x] at hJ
 subst hJ
 clear hX hret hB2
 have z0:¬0=n:=by omega
 have z1:¬1=n:=by omega
 have z4:¬4=n:=by omega
 have y0:¬0=n+1:=by omega
 have y1:¬1=n+1:=by omega
 have y4:¬4=n+1:=by omega
 have x0:¬0=n+1+1:=by omega
 have x1:¬1=n+1+1:=by omega
 have x4:¬4=n+1+1:=by omega
 have v0:¬n+1=n+1+1:=by omega
 have v1:¬n+1+1=n+1:=by omega
 have v4:¬n+1=n:=by omega
 have q0:¬n=0:=by omega
 have q1:¬n=1:=by omega
 have q3:¬n=3:=by omega
 have q4:¬n=4:=by omega
 simp [hk,hk1,e0,e1,J0a,J00]
 intro _
 first|refine J02 (J5c p r r.Calls.length hp hr) (by first|simp [J00,J0a];done|rfl) ?_|refine J03 (J5c p r r.Calls.length hp hr) (by first|simp [J00,J0a];done|rfl) ?_
 rintro r rfl
 simp [hk,hk1,e0,e1,e4,J0a,J00,z0,z1,z4,y0,y1,y4,x0,x1,x4,v0,v1,v4,q0,q1,q3,q4]
 first|refine J02 (J50 r.Result G.ListResult (J0z p r r.Calls.length) wa) (by first|simp [J0o,z0,z1,z4,y0,y1,y4,x0,x1,x4,v0,v1,v4,q0,q1,q3,q4];done|rfl) ?_|refine J03 (J50 r.Result G.ListResult (J0z p r r.Calls.length) wa) (by first|simp [J0o,z0,z1,z4,y0,y1,y4,x0,x1,x4,v0,v1,v4,q0,q1,q3,q4];done|rfl) ?_
 rintro r rfl
 cases g1:J6o r.Result G.ListResult (J0z p r r.Calls.length)
 ·simp
 simp [z0,z1,z4,y0,y1,y4,x0,x1,x4,v0,v1,v4,q0,q1,q3,q4]
 first|refine J02 (J2z (J0z p r r.Calls.length)) (by first|simp [z0,z1,z4,y0,y1,y4,x0,x1,x4,v0,v1,v4,q0,q1,q3,q4];done|rfl) ?_|refine J03 (J2z (J0z p r r.Calls.length)) (by first|simp [z0,z1,z4,y0,y1,y4,x0,x1,x4,v0,v1,v4,q0,q1,q3,q4];done|rfl) ?_
 rintro r rfl
 simp
theorem a144_ok:J08 Tryz.prog Tryz.f144=some (J1z 231):=by kernel_rfl
theorem a231_ok:J08 Tryz.prog Tryz.f231=some (J2r true 2):=by kernel_rfl
def Jyp (l:DLin) (k:Int):Option DLin:=if (Jw4 l.Const k).2&&J6i l l.Coeffs.length then some ⟨(Jw4 l.Const k).1,l.Coeffs⟩ else Option.none
end Go.Proofs.YtoclolkigjbcgaaGreat

/- Contracts: whole numbers within limits, linear expressions. -/
import Derived.Test.YtoclolkigjbcgaaGreatJT1
import Derived.Test.YtoclolkigjbcgaaGreatProg
import Derived.Test.YtoclolkigjbcgaaGreatJRE
namespace Go.Proofs.YtoclolkigjbcgaaGreat
set_option maxRecDepth 40000
set_option maxHeartbeats 4000000
open Go Go.RowKit Go.Proofs
set_option linter.all false
def a102:AFn:= ⟨15,[.t 6],(.seq (.reg [⟨some 6,.mv (.k (.bool false)),no⟩]) (.seq (.reg [⟨some 7,.mv (.t 0),no⟩,⟨some 8,.mv (.t 1),no⟩,⟨some 9,.bin .geq (.t 7) (.t 8),no⟩,⟨some 10,.mv (.t 9),no⟩,⟨some 11,.mv (.t 0),(some (10,true))⟩,⟨some 12,.mv (.t 2),(some (10,true))⟩,⟨some 13,.bin .leq (.t 11) (.t 12),(some (10,true))⟩,⟨some 14,.pick (.t 10) (.t 13) (.k (.bool false)),no⟩,⟨some 6,.mv (.t 14),no⟩]) .ret))⟩
theorem a102_ok:J09 Tryz.prog Tryz.f102=some a102:=by kernel_rfl
def a232:AFn:= ⟨5,[.t 2],(.seq (.reg [⟨some 2,.mv (.k (.bool false)),no⟩]) (.seq (.reg [⟨some 3,.mv (.t 0),no⟩,⟨some 4,.call (.k (.fn (.func 102) [] [])) [.t 3,(.k (.int .i64 (-1000000000))),(.k (.int .i64 1000000000))],no⟩,⟨some 2,.mv (.t 4),no⟩]) .ret))⟩
theorem a232_ok:J09 Tryz.prog Tryz.f232=some a232:=by kernel_rfl
def a183:AFn:= ⟨15,[.t 6],(.seq (.reg [⟨some 6,.mv (.k (.bool false)),no⟩]) (.seq (.reg [⟨some 7,.mv (.t 0),no⟩,⟨some 8,.mv (.t 1),no⟩,⟨some 9,.bin .geq (.t 7) (.t 8),no⟩,⟨some 10,.mv (.t 9),no⟩,⟨some 11,.mv (.t 0),(some (10,true))⟩,⟨some 12,.mv (.t 2),(some (10,true))⟩,⟨some 13,.bin .leq (.t 11) (.t 12),(some (10,true))⟩,⟨some 14,.pick (.t 10) (.t 13) (.k (.bool false)),no⟩,⟨some 6,.mv (.t 14),no⟩]) .ret))⟩
theorem a183_ok:J09 Tryz.prog Tryz.f183=some a183:=by kernel_rfl
def a181:AFn:= ⟨5,[.t 2],(.seq (.reg [⟨some 2,.mv (.k (.bool false)),no⟩]) (.seq (.reg [⟨some 3,.mv (.t 0),no⟩,⟨some 4,.call (.k (.fn (.func 183) [] [])) [.t 3,(.k (.int .i64 (-1000000000))),(.k (.int .i64 1000000000))],no⟩,⟨some 2,.mv (.t 4),no⟩]) .ret))⟩
theorem a181_ok:J09 Tryz.prog Tryz.f181=some a181:=by kernel_rfl
def a271:AFn:= ⟨24,[.t 4,.t 5],(.seq (.reg [⟨some 4,.mv (.k (.int .i64 0)),no⟩,⟨some 5,.mv (.k (.bool false)),no⟩]) (.seq (.seq (.reg [⟨some 6,.mv (.t 0),no⟩,⟨some 7,.call (.k (.fn (.func 232) [] [])) [.t 6],no⟩,⟨some 8,.un .not (.t 7),no⟩,⟨some 9,.mv (.t 8),no⟩,⟨some 10,.mv (.t 1),(some (9,false))⟩,⟨some 11,.call (.k (.fn (.func 232) [] [])) [.t 10],(some (9,false))⟩,⟨some 12,.un .not (.t 11),(some (9,false))⟩,⟨some 13,.pick (.t 9) (.k (.bool true)) (.t 12),no⟩,⟨some 14,.mv (.t 13),no⟩,⟨some 15,.mv (.t 0),(some (14,false))⟩,⟨some 16,.mv (.t 1),(some (14,false))⟩,⟨some 17,.bin .add (.t 15) (.t 16),(some (14,false))⟩,⟨some 18,.call (.k (.fn (.func 232) [] [])) [.t 17],(some (14,false))⟩,⟨some 19,.un .not (.t 18),(some (14,false))⟩,⟨some 20,.pick (.t 14) (.k (.bool true)) (.t 19),no⟩]) (.cond (.t 20) (.seq (.reg [⟨some 4,.mv (.k (.int .i64 0)),no⟩,⟨some 5,.mv (.k (.bool false)),no⟩]) .ret) .skip)) (.seq (.reg [⟨some 21,.mv (.t 0),no⟩,⟨some 22,.mv (.t 1),no⟩,⟨some 23,.bin .add (.t 21) (.t 22),no⟩,⟨some 4,.mv (.t 23),no⟩,⟨some 5,.mv (.k (.bool true)),no⟩]) .ret)))⟩
theorem a271_ok:J09 Tryz.prog Tryz.f271=some a271:=by kernel_rfl
def a308:AFn:= ⟨24,[.t 4,.t 5],(.seq (.reg [⟨some 4,.mv (.k (.int .i64 0)),no⟩,⟨some 5,.mv (.k (.bool false)),no⟩]) (.seq (.seq (.reg [⟨some 6,.mv (.t 0),no⟩,⟨some 7,.call (.k (.fn (.func 232) [] [])) [.t 6],no⟩,⟨some 8,.un .not (.t 7),no⟩,⟨some 9,.mv (.t 8),no⟩,⟨some 10,.mv (.t 1),(some (9,false))⟩,⟨some 11,.call (.k (.fn (.func 232) [] [])) [.t 10],(some (9,false))⟩,⟨some 12,.un .not (.t 11),(some (9,false))⟩,⟨some 13,.pick (.t 9) (.k (.bool true)) (.t 12),no⟩,⟨some 14,.mv (.t 13),no⟩,⟨some 15,.mv (.t 0),(some (14,false))⟩,⟨some 16,.mv (.t 1),(some (14,false))⟩,⟨some 17,.bin .mul (.t 15) (.t 16),(some (14,false))⟩,⟨some 18,.call (.k (.fn (.func 232) [] [])) [.t 17],(some (14,false))⟩,⟨some 19,.un .not (.t 18),(some (14,false))⟩,⟨some 20,.pick (.t 14) (.k (.bool true)) (.t 19),no⟩]) (.cond (.t 20) (.seq (.reg [⟨some 4,.mv (.k (.int .i64 0)),no⟩,⟨some 5,.mv (.k (.bool false)),no⟩]) .ret) .skip)) (.seq (.reg [⟨some 21,.mv (.t 0),no⟩,⟨some 22,.mv (.t 1),no⟩,⟨some 23,.bin .mul (.t 21) (.t 22),no⟩,⟨some 4,.mv (.t 23),no⟩,⟨some 5,.mv (.k (.bool true)),no⟩]) .ret)))⟩
theorem a308_ok:J09 Tryz.prog Tryz.f308=some a308:=by kernel_rfl
def a264:AFn:= ⟨24,[.t 4,.t 5],(.seq (.reg [⟨some 4,.mv (.k (.int .i64 0)),no⟩,⟨some 5,.mv (.k (.bool false)),no⟩]) (.seq (.seq (.reg [⟨some 6,.mv (.t 0),no⟩,⟨some 7,.call (.k (.fn (.func 181) [] [])) [.t 6],no⟩,⟨some 8,.un .not (.t 7),no⟩,⟨some 9,.mv (.t 8),no⟩,⟨some 10,.mv (.t 1),(some (9,false))⟩,⟨some 11,.call (.k (.fn (.func 181) [] [])) [.t 10],(some (9,false))⟩,⟨some 12,.un .not (.t 11),(some (9,false))⟩,⟨some 13,.pick (.t 9) (.k (.bool true)) (.t 12),no⟩,⟨some 14,.mv (.t 13),no⟩,⟨some 15,.mv (.t 0),(some (14,false))⟩,⟨some 16,.mv (.t 1),(some (14,false))⟩,⟨some 17,.bin .add (.t 15) (.t 16),(some (14,false))⟩,⟨some 18,.call (.k (.fn (.func 181) [] [])) [.t 17],(some (14,false))⟩,⟨some 19,.un .not (.t 18),(some (14,false))⟩,⟨some 20,.pick (.t 14) (.k (.bool true)) (.t 19),no⟩]) (.cond (.t 20) (.seq (.reg [⟨some 4,.mv (.k (.int .i64 0)),no⟩,⟨some 5,.mv (.k (.bool false)),no⟩]) .ret) .skip)) (.seq (.reg [⟨some 21,.mv (.t 0),no⟩,⟨some 22,.mv (.t 1),no⟩,⟨some 23,.bin .add (.t 21) (.t 22),no⟩,⟨some 4,.mv (.t 23),no⟩,⟨some 5,.mv (.k (.bool true)),no⟩]) .ret)))⟩
theorem a264_ok:J09 Tryz.prog Tryz.f264=some a264:=by kernel_rfl
def a263:AFn:= ⟨24,[.t 4,.t 5],(.seq (.reg [⟨some 4,.mv (.k (.int .i64 0)),no⟩,⟨some 5,.mv (.k (.bool false)),no⟩]) (.seq (.seq (.reg [⟨some 6,.mv (.t 0),no⟩,⟨some 7,.call (.k (.fn (.func 181) [] [])) [.t 6],no⟩,⟨some 8,.un .not (.t 7),no⟩,⟨some 9,.mv (.t 8),no⟩,⟨some 10,.mv (.t 1),(some (9,false))⟩,⟨some 11,.call (.k (.fn (.func 181) [] [])) [.t 10],(some (9,false))⟩,⟨some 12,.un .not (.t 11),(some (9,false))⟩,⟨some 13,.pick (.t 9) (.k (.bool true)) (.t 12),no⟩,⟨some 14,.mv (.t 13),no⟩,⟨some 15,.mv (.t 0),(some (14,false))⟩,⟨some 16,.mv (.t 1),(some (14,false))⟩,⟨some 17,.bin .mul (.t 15) (.t 16),(some (14,false))⟩,⟨some 18,.call (.k (.fn (.func 181) [] [])) [.t 17],(some (14,false))⟩,⟨some 19,.un .not (.t 18),(some (14,false))⟩,⟨some 20,.pick (.t 14) (.k (.bool true)) (.t 19),no⟩]) (.cond (.t 20) (.seq (.reg [⟨some 4,.mv (.k (.int .i64 0)),no⟩,⟨some 5,.mv (.k (.bool false)),no⟩]) .ret) .skip)) (.seq (.reg [⟨some 21,.mv (.t 0),no⟩,⟨some 22,.mv (.t 1),no⟩,⟨some 23,.bin .mul (.t 21) (.t 22),no⟩,⟨some 4,.mv (.t 23),no⟩,⟨some 5,.mv (.k (.bool true)),no⟩]) .ret)))⟩
theorem a263_ok:J09 Tryz.prog Tryz.f263=some a263:=by kernel_rfl
def a274:AFn:= ⟨29,[.t 6,.t 7],(.seq (.reg [⟨some 6,.mv (.k (.int .i64 0)),no⟩,⟨some 7,.mv (.k (.bool false)),no⟩]) (.seq (.reg [⟨some 13,.mv (.t 1),no⟩,⟨some 14,.mv (.t 2),no⟩,⟨some 15,.call (.k (.fn (.func 308) [] [])) [.t 13,.t 14],no⟩,⟨some 12,.mv (.t 15),no⟩,⟨some 16,.ext (.t 12) 0,no⟩,⟨some 17,.ext (.t 12) 1,no⟩,⟨some 8,.mv (.t 16),no⟩,⟨some 9,.mv (.t 17),no⟩]) (.seq (.reg [⟨some 19,.mv (.t 0),no⟩,⟨some 20,.mv (.t 8),no⟩,⟨some 21,.call (.k (.fn (.func 271) [] [])) [.t 19,.t 20],no⟩,⟨some 18,.mv (.t 21),no⟩,⟨some 22,.ext (.t 18) 0,no⟩,⟨some 23,.ext (.t 18) 1,no⟩,⟨some 10,.mv (.t 22),no⟩,⟨some 11,.mv (.t 23),no⟩]) (.seq (.reg [⟨some 24,.mv (.t 10),no⟩,⟨some 25,.mv (.t 9),no⟩,⟨some 26,.mv (.t 25),no⟩,⟨some 27,.mv (.t 11),(some (26,true))⟩,⟨some 28,.pick (.t 26) (.t 27) (.k (.bool false)),no⟩,⟨some 6,.mv (.t 24),no⟩,⟨some 7,.mv (.t 28),no⟩]) .ret))))⟩
theorem a274_ok:J09 Tryz.prog Tryz.f274=some a274:=by kernel_rfl
def a182:AFn:= ⟨23,[.t 6,.t 7],(.seq (.reg [⟨some 6,.mv (.k (.int .i64 0)),no⟩,⟨some 7,.mv (.k (.bool false)),no⟩]) (.seq (.reg [⟨some 11,.mv (.t 1),no⟩,⟨some 12,.mv (.t 2),no⟩,⟨some 13,.call (.k (.fn (.func 263) [] [])) [.t 11,.t 12],no⟩,⟨some 10,.mv (.t 13),no⟩,⟨some 14,.ext (.t 10) 0,no⟩,⟨some 15,.ext (.t 10) 1,no⟩,⟨some 8,.mv (.t 14),no⟩,⟨some 9,.mv (.t 15),no⟩]) (.seq (.seq (.reg [⟨some 16,.mv (.t 9),no⟩,⟨some 17,.un .not (.t 16),no⟩]) (.cond (.t 17) (.seq (.reg [⟨some 6,.mv (.k (.int .i64 0)),no⟩,⟨some 7,.mv (.k (.bool false)),no⟩]) .ret) .skip)) (.seq (.reg [⟨some 18,.mv (.t 0),no⟩,⟨some 19,.mv (.t 8),no⟩,⟨some 20,.call (.k (.fn (.func 264) [] [])) [.t 18,.t 19],no⟩,⟨some 21,.ext (.t 20) 0,no⟩,⟨some 22,.ext (.t 20) 1,no⟩,⟨some 6,.mv (.t 21),no⟩,⟨some 7,.mv (.t 22),no⟩]) .ret))))⟩
theorem a182_ok:J09 Tryz.prog Tryz.f182=some a182:=by kernel_rfl
def a234:AFn:= ⟨6,[.t 2],(.seq (.reg [⟨some 2,.mv (.k (.bool false)),no⟩]) (.seq (.reg [⟨some 3,.mv (.t 0),no⟩,⟨some 4,.call (.k (.fn (.func 232) [] [])) [.t 3],no⟩,⟨some 5,.un .not (.t 4),no⟩,⟨some 2,.mv (.t 5),no⟩]) .ret))⟩
theorem a234_ok:J09 Tryz.prog Tryz.f234=some a234:=by kernel_rfl
def a146:AFn:= ⟨25,[.t 4],(.seq (.reg [⟨some 2,.boxv (.t 0),no⟩,⟨some 4,.mv (.k (.bool false)),no⟩]) (.seq (.reg [⟨some 5,.mv (.t 1),no⟩,⟨some 6,.call (.k (.fn (.func 102) [] [])) [.t 5,(.k (.int .i64 0)),(.k (.int .i64 8))],no⟩,⟨some 7,.mv (.t 6),no⟩,⟨some 8,.fld 1 (.t 2),(some (7,true))⟩,⟨some 9,.ld false 1 (.t 8),(some (7,true))⟩,⟨some 10,.len false (.t 9),(some (7,true))⟩,⟨some 11,.mv (.t 1),(some (7,true))⟩,⟨some 12,.bin .eql (.t 10) (.t 11),(some (7,true))⟩,⟨some 13,.pick (.t 7) (.t 12) (.k (.bool false)),no⟩,⟨some 14,.mv (.t 13),no⟩,⟨some 15,.fld 0 (.t 2),(some (14,true))⟩,⟨some 16,.ld false 1 (.t 15),(some (14,true))⟩,⟨some 17,.call (.k (.fn (.func 232) [] [])) [.t 16],(some (14,true))⟩,⟨some 18,.pick (.t 14) (.t 17) (.k (.bool false)),no⟩,⟨some 19,.mv (.t 18),no⟩,⟨some 20,.fld 1 (.t 2),(some (19,true))⟩,⟨some 21,.ld false 1 (.t 20),(some (19,true))⟩,⟨some 22,.call (.k (.fn (.func 233) [] [])) [.t 21,(.k (.fn (.func 234) [] []))],(some (19,true))⟩,⟨some 23,.un .not (.t 22),(some (19,true))⟩,⟨some 24,.pick (.t 19) (.t 23) (.k (.bool false)),no⟩,⟨some 4,.mv (.t 24),no⟩]) .ret))⟩
theorem a146_ok:J09 Tryz.prog Tryz.f146=some a146:=by kernel_rfl
def a179:AFn:= ⟨34,[.t 4],(.seq (.reg [⟨some 2,.boxv (.t 0),no⟩,⟨some 4,.mv (.k (.bool false)),no⟩]) (.seq (.seq (.reg [⟨some 5,.mv (.k (.int .i64 0)),no⟩]) (.blk 0 (.loop (.seq (.seq (.reg [⟨some 6,.mv (.t 5),no⟩,⟨some 7,.fld 1 (.t 2),no⟩,⟨some 8,.ld false 1 (.t 7),no⟩,⟨some 9,.len false (.t 8),no⟩,⟨some 10,.bin .lss (.t 6) (.t 9),no⟩]) (.cond (.t 10) .skip (.exit 0))) (.seq (.blk 1 (.seq (.reg [⟨some 13,.fld 1 (.t 2),no⟩,⟨some 14,.ld false 1 (.t 13),no⟩,⟨some 15,.mv (.t 5),no⟩,⟨some 16,.ixa 1 (.t 14) (.t 15),no⟩,⟨some 17,.ld false 1 (.t 16),no⟩,⟨some 18,.call (.k (.fn (.func 181) [] [])) [.t 17],no⟩,⟨some 19,.un .not (.t 18),no⟩]) (.cond (.t 19) (.seq (.reg [⟨some 4,.mv (.k (.bool false)),no⟩]) .ret) .skip))) (.reg [⟨some 11,.mv (.t 5),no⟩,⟨some 12,.bin .add (.t 11) (.k (.int .i64 1)),no⟩,⟨some 5,.mv (.t 12),no⟩])))))) (.seq (.reg [⟨some 20,.mv (.t 1),no⟩,⟨some 21,.call (.k (.fn (.func 183) [] [])) [.t 20,(.k (.int .i64 0)),(.k (.int .i64 8))],no⟩,⟨some 22,.mv (.t 21),no⟩,⟨some 23,.fld 1 (.t 2),(some (22,true))⟩,⟨some 24,.ld false 1 (.t 23),(some (22,true))⟩,⟨some 25,.len false (.t 24),(some (22,true))⟩,⟨some 26,.mv (.t 1),(some (22,true))⟩,⟨some 27,.bin .eql (.t 25) (.t 26),(some (22,true))⟩,⟨some 28,.pick (.t 22) (.t 27) (.k (.bool false)),no⟩,⟨some 29,.mv (.t 28),no⟩,⟨some 30,.fld 0 (.t 2),(some (29,true))⟩,⟨some 31,.ld false 1 (.t 30),(some (29,true))⟩,⟨some 32,.call (.k (.fn (.func 181) [] [])) [.t 31],(some (29,true))⟩,⟨some 33,.pick (.t 29) (.t 32) (.k (.bool false)),no⟩,⟨some 4,.mv (.t 33),no⟩]) .ret)))⟩
theorem a179_ok:J09 Tryz.prog Tryz.f179=some a179:=by kernel_rfl
theorem a233_ok:J09 Tryz.prog Tryz.f233=some (J2y 292):=by kernel_rfl
theorem a292_ok:J09 Tryz.prog Tryz.f292=some (J3u false 1):=by kernel_rfl
def inR (n lo hi:Int):Bool:=decide (lo≤n∧n≤hi)
def okC (n:Int):Bool:=inR n (-1000000000) 1000000000
theorem Jfr {n:Int} : okC n=true ↔ -1000000000≤n∧n≤1000000000:=by simp [okC,inR]
theorem Jqg {x y:Int}(hx:okC x=true) (hy:okC y=true) : -1000000000000000000≤x*y∧x*y≤1000000000000000000:=by
 rw [Jfr] at hx hy
 have h:(x*y).natAbs≤1000000000*1000000000:=by
  rw [Int.natAbs_mul];exact Nat.mul_le_mul (by omega) (by omega)
 omega
theorem J1y (n lo hi:Int):Holds Tryz.prog 102 [i64 n,i64 lo,i64 hi] (fun r=>r = .bool (inR n lo hi)):=by
 refine J03 Tryz.func102 a102_ok rfl (by simp [a102]) ?_
 simp [a102]
 constructor <;> intro h <;> simp [inR] <;> omega
theorem J27 (n:Int):Holds Tryz.prog 232 [i64 n] (fun r=>r = .bool (okC n)):=by
 refine J03 Tryz.func232 a232_ok rfl (by simp [a232]) ?_
 simp [a232]
 first|refine J00 (J1y n (-1000000000) 1000000000) (by first|simp;done|rfl) ?_|refine J01 (J1y n (-1000000000) 1000000000) (by first|simp;done|rfl) ?_
 rintro r rfl
 simp
 rfl
theorem J5x (n lo hi:Int):Holds Tryz.prog 183 [i64 n,i64 lo,i64 hi] (fun r=>r = .bool (inR n lo hi)):=by
 refine J03 Tryz.func183 a183_ok rfl (by simp [a183]) ?_
 simp [a183]
 constructor <;> intro h <;> simp [inR] <;> omega
theorem J4y (n:Int):Holds Tryz.prog 181 [i64 n] (fun r=>r = .bool (okC n)):=by
 refine J03 Tryz.func181 a181_ok rfl (by simp [a181]) ?_
 simp [a181]
 first|refine J00 (J5x n (-1000000000) 1000000000) (by first|simp;done|rfl) ?_|refine J01 (J5x n (-1000000000) 1000000000) (by first|simp;done|rfl) ?_
 rintro r rfl
 simp
 rfl
def Jgy (x y:Int):Int×Bool:=if okC x&&okC y&&okC (x+y) then (x+y,true) else (0,false)
def Jds (x y:Int):Int×Bool:=if okC x&&okC y&&okC (x*y) then (x*y,true) else (0,false)
def J44 (p:Int×Bool):AV := .tup [i64 p.1,.bool p.2]
theorem J7p (x y:Int):Holds Tryz.prog 271 [i64 x,i64 y] (fun r=>r=J44 (Jgy x y)):=by
 refine J03 Tryz.func271 a271_ok rfl (by simp [a271]) ?_
 simp [a271,J44,Jgy]
 first|refine J00 (J27 x) (by first|simp;done|rfl) ?_|refine J01 (J27 x) (by first|simp;done|rfl) ?_
 rintro r rfl
 cases hx:okC x
 ·simp
 simp
 first|refine J00 (J27 y) (by first|simp;done|rfl) ?_|refine J01 (J27 y) (by first|simp;done|rfl) ?_
 rintro r rfl
 cases hy:okC y
 ·simp
 simp
 rw [Jfr] at hx hy
 rw [J0p (by omega)]
 first|refine J00 (J27 (x+y)) (by first|simp;done|rfl) ?_|refine J01 (J27 (x+y)) (by first|simp;done|rfl) ?_
 rintro r rfl
 cases hz:okC (x+y)
 ·simp
 ·simp;exact J0p (by omega)
theorem Jdb (x y:Int):Holds Tryz.prog 308 [i64 x,i64 y] (fun r=>r=J44 (Jds x y)):=by
 refine J03 Tryz.func308 a308_ok rfl (by simp [a308]) ?_
 simp [a308,J44,Jds]
 first|refine J00 (J27 x) (by first|simp;done|rfl) ?_|refine J01 (J27 x) (by first|simp;done|rfl) ?_
 rintro r rfl
 cases hx:okC x
 ·simp
 simp
 first|refine J00 (J27 y) (by first|simp;done|rfl) ?_|refine J01 (J27 y) (by first|simp;done|rfl) ?_
 rintro r rfl
 cases hy:okC y
 ·simp
 simp
 have:=Jqg hx hy
 rw [J0p (by omega)]
 first|refine J00 (J27 (x*y)) (by first|simp;done|rfl) ?_|refine J01 (J27 (x*y)) (by first|simp;done|rfl) ?_
 rintro r rfl
 cases hz:okC (x*y)
 ·simp
 ·simp;exact J0p (by omega)
theorem Jbl (x y:Int):Holds Tryz.prog 264 [i64 x,i64 y] (fun r=>r=J44 (Jgy x y)):=by
 refine J03 Tryz.func264 a264_ok rfl (by simp [a264]) ?_
 simp [a264,J44,Jgy]
 first|refine J00 (J4y x) (by first|simp;done|rfl) ?_|refine J01 (J4y x) (by first|simp;done|rfl) ?_
 rintro r rfl
 cases hx:okC x
 ·simp
 simp
 first|refine J00 (J4y y) (by first|simp;done|rfl) ?_|refine J01 (J4y y) (by first|simp;done|rfl) ?_
 rintro r rfl
 cases hy:okC y
 ·simp
 simp
 rw [Jfr] at hx hy
 rw [J0p (by omega)]
 first|refine J00 (J4y (x+y)) (by first|simp;done|rfl) ?_|refine J01 (J4y (x+y)) (by first|simp;done|rfl) ?_
 rintro r rfl
 cases hz:okC (x+y)
 ·simp
 ·simp;exact J0p (by omega)
theorem Jbm (x y:Int):Holds Tryz.prog 263 [i64 x,i64 y] (fun r=>r=J44 (Jds x y)):=by
 refine J03 Tryz.func263 a263_ok rfl (by simp [a263]) ?_
 simp [a263,J44,Jds]
 first|refine J00 (J4y x) (by first|simp;done|rfl) ?_|refine J01 (J4y x) (by first|simp;done|rfl) ?_
 rintro r rfl
 cases hx:okC x
 ·simp
 simp
 first|refine J00 (J4y y) (by first|simp;done|rfl) ?_|refine J01 (J4y y) (by first|simp;done|rfl) ?_
 rintro r rfl
 cases hy:okC y
 ·simp
 simp
 have:=Jqg hx hy
 rw [J0p (by omega)]
 first|refine J00 (J4y (x*y)) (by first|simp;done|rfl) ?_|refine J01 (J4y (x*y)) (by first|simp;done|rfl) ?_
 rintro r rfl
 cases hz:okC (x*y)
 ·simp
 ·simp;exact J0p (by omega)
def J5t (x k y:Int):Int×Bool:=((Jgy x (Jds k y).1).1,(Jds k y).2&&(Jgy x (Jds k y).1).2)
def J5c (x k y:Int):Int×Bool:=if (Jds k y).2 then Jgy x (Jds k y).1 else (0,false)
theorem Ja8 (x k y:Int):Holds Tryz.prog 274 [i64 x,i64 k,i64 y] (fun r=>r=J44 (J5t x k y)):=by
 refine J03 Tryz.func274 a274_ok rfl (by simp [a274]) ?_
 simp [a274]
 first|refine J00 (Jdb k y) (by first|simp [J44];done|rfl) ?_|refine J01 (Jdb k y) (by first|simp [J44];done|rfl) ?_
 rintro r rfl
 simp [J44]
 first|refine J00 (J7p x (Jds k y).1) (by first|simp [J44,J5t];done|rfl) ?_|refine J01 (J7p x (Jds k y).1) (by first|simp [J44,J5t];done|rfl) ?_
 rintro r rfl
 simp [J44,J5t]
 cases (Jds k y).2 <;> simp
theorem J5a (x k y:Int):Holds Tryz.prog 182 [i64 x,i64 k,i64 y] (fun r=>r=J44 (J5c x k y)):=by
 refine J03 Tryz.func182 a182_ok rfl (by simp [a182]) ?_
 simp [a182]
 first|refine J00 (Jbm k y) (by first|simp [J44,J5c];done|rfl) ?_|refine J01 (Jbm k y) (by first|simp [J44,J5c];done|rfl) ?_
 rintro r rfl
 simp [J44,J5c]
 cases h:(Jds k y).2
 ·simp
 simp
 first|refine J00 (Jbl x (Jds k y).1) (by first|simp [J44];done|rfl) ?_|refine J01 (Jbl x (Jds k y).1) (by first|simp [J44];done|rfl) ?_
 rintro r rfl
 simp [J44]
def J2b (x k y:Int):Option Int:=if (Jds k y).2&&(Jgy x (Jds k y).1).2 then some (Jgy x (Jds k y).1).1 else Option.none
theorem Jef (x k y:Int):(J5t x k y).2=(J2b x k y).isSome:=by unfold J5t J2b;split <;> simp_all
theorem Jb1 (x k y:Int):(J5c x k y).2=(J2b x k y).isSome:=by unfold J5c J2b;cases (Jds k y).2 <;> simp;cases h:(Jgy x (Jds k y).1).2 <;> simp
theorem Je8 {x k y v:Int}(h:J2b x k y=some v):(J5t x k y).1=v:=by unfold J2b at h;unfold J5t;split at h <;> simp_all
theorem Jen {x k y v:Int}(h:J2b x k y=some v):(J5c x k y).1=v:=by unfold J2b at h;unfold J5c;split at h <;> simp_all
def J1j (l:DLin) (n:Int):Bool:=inR n 0 8&&decide ((l.Coeffs.length:Int)=n)&&okC l.Const&&l.Coeffs.all okC
theorem K3y (n:Int):Holds Tryz.prog 234 [i64 n] (fun r=>r = .bool (!okC n)):=by
 refine J03 Tryz.func234 a234_ok rfl (by simp [a234]) ?_
 simp [a234]
 first|refine J00 (J27 n) (by first|simp;done|rfl) ?_|refine J01 (J27 n) (by first|simp;done|rfl) ?_
 rintro r rfl
 simp
theorem Jaw {α:Type}(p:α→Bool) (l:List α):l.any (fun x => !p x) = !l.all p:=by
 rw [List.all_eq_not_any_not,Bool.not_not]
theorem Jp4 {h:Heap}{n:Nat}{K:AV→Heap→Nat→Prop}(l:List Int) (hK:K (.bool (!l.all okC)) h n):J25 Tryz.prog 233 [.sl 1 (J0k l),.fn (.func 234) [] []] h n K:=
 J1r (p:=fun n => !okC n) (rowOf:=fun n=>[i64 n]) (eltOf:=i64) Tryz.func233 a233_ok rfl Tryz.func292 a292_ok rfl (fun x=>by simp) l
  (fun x _=>J7y (K3y x) rfl rfl) (by rw [Jaw];exact hK)
theorem J1m (l:DLin) (n:Int):Holds Tryz.prog 146 [.agg (J06 l),i64 n] (fun r=>r = .bool (J1j l n)):=by
 refine J03 Tryz.func146 a146_ok rfl (by simp [a146]) ?_
 simp [a146,J06]
 first|refine J00 (J1y n 0 8) (by first|simp;done|rfl) ?_|refine J01 (J1y n 0 8) (by first|simp;done|rfl) ?_
 rintro r rfl
 unfold J1j
 cases h1:inR n 0 8
 ·simp
 simp
 intro _
 by_cases h2:(l.Coeffs.length:Int)=n
 case neg=>simp [h2]
 simp [h2]
 first|refine J00 (J27 l.Const) (by first|simp;done|rfl) ?_|refine J01 (J27 l.Const) (by first|simp;done|rfl) ?_
 rintro r rfl
 cases h3:okC l.Const
 ·simp
 simp
 refine Jp4 l.Coeffs ?_
 simp
theorem J10 (l:DLin) (n:Int):Holds Tryz.prog 179 [.agg (J06 l),i64 n] (fun r=>r = .bool (J1j l n)):=by
 refine J1e Tryz.func179 rfl rfl fun hl => ?_
 simp [J06] at hl
 refine J03 Tryz.func179 a179_ok rfl (by simp [a179]) ?_
 simp [a179,J06]
 refine Jw1 [1,2] 5 l.Coeffs.length (fun i _=>(l.Coeffs.drop i).all okC=l.Coeffs.all okC) hl (by simp) (by simp) ?_ ?_
 ·intro i s hi hg hk s5 hw hJ
  simp at hk
  rw [List.drop_eq_getElem_cons hi,List.all_cons] at hJ
  simp [hk,s5,hi,hg]
  intro _
  first|refine J00 (J4y _) (by simp) ?_|refine J01 (J4y _) (by simp) ?_|refine J00 (J4y _) rfl ?_|refine J01 (J4y _) rfl ?_
  rintro r rfl
  cases h1:okC l.Coeffs[i]
  ·have hJ:l.Coeffs.all okC=false:=by rw [←hJ,h1];rfl
   simp [hk,J1j,hJ]
  ·rw [h1,Bool.true_and] at hJ
   simp [hk,s5,hw]
   exact hJ
 ·intro s hk s5 hJ
  simp at hk hJ
  simp [hk,s5]
  intro _
  first|refine J00 (J5x n 0 8) (by first|simp;done|rfl) ?_|refine J01 (J5x n 0 8) (by first|simp;done|rfl) ?_
  rintro r rfl
  unfold J1j
  cases h1:inR n 0 8
  ·simp
  simp [hk]
  intro _
  by_cases h2:(l.Coeffs.length:Int)=n
  case neg=>simp [h2]
  simp [h2]
  first|refine J00 (J4y l.Const) (by first|simp;done|rfl) ?_|refine J01 (J4y l.Const) (by first|simp;done|rfl) ?_
  rintro r rfl
  cases h3:okC l.Const <;> simp
  exact hJ
def a178:AFn:= ⟨18,[(.c 4 true 2)],(.seq (.reg [⟨some 4,.box [(.int .i64 0),(.nil 1)],no⟩]) (.seq (.seq (.reg [⟨some 5,.mv (.t 1),no⟩,⟨some 6,.call (.k (.fn (.func 102) [] [])) [.t 5,(.k (.int .i64 0)),(.k (.int .i64 8))],no⟩,⟨some 7,.un .not (.t 6),no⟩,⟨some 8,.mv (.t 7),no⟩,⟨some 9,.mv (.t 0),(some (8,false))⟩,⟨some 10,.call (.k (.fn (.func 232) [] [])) [.t 9],(some (8,false))⟩,⟨some 11,.un .not (.t 10),(some (8,false))⟩,⟨some 12,.pick (.t 8) (.k (.bool true)) (.t 11),no⟩]) (.cond (.t 12) (.seq (.reg [⟨some 13,.build [(.int .i64 0),(.nil 1)] [],no⟩,⟨no,.st 2 (.t 4) (.t 13),no⟩]) .ret) .skip)) (.seq (.reg [⟨some 14,.mv (.t 0),no⟩,⟨some 15,.mv (.t 1),no⟩,⟨some 16,.mks 8 [(.int .i64 0)] (.t 15) (.t 15),no⟩,⟨some 17,.build [(.int .i64 0),(.nil 1)] [(0,(1,(.t 14))),(1,(1,(.t 16)))],no⟩,⟨no,.st 2 (.t 4) (.t 17),no⟩]) .ret)))⟩
theorem a178_ok:J09 Tryz.prog Tryz.f178=some a178:=by kernel_rfl
def a99:AFn:= ⟨18,[(.c 4 true 2)],(.seq (.reg [⟨some 4,.box [(.int .i64 0),(.nil 1)],no⟩]) (.seq (.seq (.reg [⟨some 5,.mv (.t 1),no⟩,⟨some 6,.call (.k (.fn (.func 183) [] [])) [.t 5,(.k (.int .i64 0)),(.k (.int .i64 8))],no⟩,⟨some 7,.un .not (.t 6),no⟩,⟨some 8,.mv (.t 7),no⟩,⟨some 9,.mv (.t 0),(some (8,false))⟩,⟨some 10,.call (.k (.fn (.func 181) [] [])) [.t 9],(some (8,false))⟩,⟨some 11,.un .not (.t 10),(some (8,false))⟩,⟨some 12,.pick (.t 8) (.k (.bool true)) (.t 11),no⟩]) (.cond (.t 12) (.seq (.reg [⟨some 13,.build [(.int .i64 0),(.nil 1)] [],no⟩,⟨no,.st 2 (.t 4) (.t 13),no⟩]) .ret) .skip)) (.seq (.reg [⟨some 14,.mv (.t 0),no⟩,⟨some 15,.mv (.t 1),no⟩,⟨some 16,.mks 8 [(.int .i64 0)] (.t 15) (.t 15),no⟩,⟨some 17,.build [(.int .i64 0),(.nil 1)] [(0,(1,(.t 14))),(1,(1,(.t 16)))],no⟩,⟨no,.st 2 (.t 4) (.t 17),no⟩]) .ret)))⟩
theorem a99_ok:J09 Tryz.prog Tryz.f99=some a99:=by kernel_rfl
def a166:AFn:= ⟨8,[.t 2],(.seq (.reg [⟨some 2,.mv (.k (.nil 1)),no⟩]) (.seq (.seq (.reg [⟨some 3,.mv (.t 0),no⟩,⟨some 4,.inil false (.t 3),no⟩]) (.cond (.t 4) (.seq (.reg [⟨some 2,.mv (.k (.nil 1)),no⟩]) .ret) .skip)) (.seq (.reg [⟨some 5,.bsl 1 [],no⟩,⟨some 6,.mv (.t 0),no⟩,⟨some 7,.app 8 1 (.t 5) (.t 6),no⟩,⟨some 2,.mv (.t 7),no⟩]) .ret)))⟩
theorem a166_ok:J09 Tryz.prog Tryz.f166=some a166:=by kernel_rfl
def a86:AFn:= ⟨9,[(.c 2 true 2)],(.seq (.reg [⟨some 1,.boxv (.t 0),no⟩,⟨some 2,.box [(.int .i64 0),(.nil 1)],no⟩]) (.seq (.draw (.op ⟨some 3,.fld 0 (.t 1),no⟩ (.op ⟨some 4,.ld false 1 (.t 3),no⟩ (.op ⟨some 5,.fld 1 (.t 1),no⟩ (.op ⟨some 6,.ld false 1 (.t 5),no⟩ (.op ⟨some 7,.call (.k (.fn (.func 166) [] [])) [.t 6],no⟩ (.op ⟨some 8,.build [(.int .i64 0),(.nil 1)] [(0,(1,(.t 4))),(1,(1,(.t 7)))],no⟩ (.hop ⟨no,.st 2 (.t 2) (.t 8),no⟩ [] .fin)))))))) .ret))⟩
theorem a86_ok:J09 Tryz.prog Tryz.f86=some a86:=by kernel_rfl
def a82:AFn:= ⟨10,[(.c 2 true 2)],(.seq (.reg [⟨some 1,.boxv (.t 0),no⟩,⟨some 2,.box [(.int .i64 0),(.nil 1)],no⟩]) (.seq (.draw (.op ⟨some 3,.fld 0 (.t 1),no⟩ (.op ⟨some 4,.ld false 1 (.t 3),no⟩ (.op ⟨some 6,.fld 1 (.t 1),no⟩ (.op ⟨some 7,.ld false 1 (.t 6),no⟩ (.hop ⟨some 5,.bsl 1 [],no⟩ [(.ld false 1 (.t 6)),(.fld 1 (.t 1)),(.ld false 1 (.t 3)),(.fld 0 (.t 1))] (.hop ⟨some 8,.app 8 1 (.t 5) (.t 7),no⟩ [(.ld false 1 (.t 3)),(.fld 0 (.t 1))] (.op ⟨some 9,.build [(.int .i64 0),(.nil 1)] [(0,(1,(.t 4))),(1,(1,(.t 8)))],no⟩ (.hop ⟨no,.st 2 (.t 2) (.t 9),no⟩ [] .fin))))))))) .ret))⟩
theorem a82_ok:J09 Tryz.prog Tryz.f82=some a82:=by kernel_rfl
def a193:AFn:= ⟨82,[(.c 6 true 2),.t 7],(.seq (.reg [⟨some 3,.boxv (.t 0),no⟩,⟨some 5,.boxv (.t 2),no⟩,⟨some 6,.box [(.int .i64 0),(.nil 1)],no⟩,⟨some 7,.mv (.k (.bool false)),no⟩]) (.seq (.reg [⟨some 15,.fld 1 (.t 3),no⟩,⟨some 16,.ld false 1 (.t 15),no⟩,⟨some 17,.len false (.t 16),no⟩,⟨some 8,.mv (.t 17),no⟩]) (.seq (.seq (.reg [⟨some 18,.ld true 2 (.t 3),no⟩,⟨some 19,.mv (.t 8),no⟩,⟨some 20,.call (.k (.fn (.func 146) [] [])) [.t 18,.t 19],no⟩,⟨some 21,.un .not (.t 20),no⟩,⟨some 22,.mv (.t 21),no⟩,⟨some 23,.ld true 2 (.t 5),(some (22,false))⟩,⟨some 24,.mv (.t 8),(some (22,false))⟩,⟨some 25,.call (.k (.fn (.func 146) [] [])) [.t 23,.t 24],(some (22,false))⟩,⟨some 26,.un .not (.t 25),(some (22,false))⟩,⟨some 27,.pick (.t 22) (.k (.bool true)) (.t 26),no⟩,⟨some 28,.mv (.t 27),no⟩,⟨some 29,.mv (.t 1),(some (28,false))⟩,⟨some 30,.call (.k (.fn (.func 232) [] [])) [.t 29],(some (28,false))⟩,⟨some 31,.un .not (.t 30),(some (28,false))⟩,⟨some 32,.pick (.t 28) (.k (.bool true)) (.t 31),no⟩]) (.cond (.t 32) (.seq (.reg [⟨some 33,.build [(.int .i64 0),(.nil 1)] [],no⟩,⟨no,.st 2 (.t 6) (.t 33),no⟩,⟨some 7,.mv (.k (.bool false)),no⟩]) .ret) .skip)) (.seq (.reg [⟨some 34,.mv (.t 8),no⟩,⟨some 35,.call (.k (.fn (.func 178) [] [])) [(.k (.int .i64 0)),.t 34],no⟩,⟨some 9,.box [(.int .i64 0),(.nil 1)],no⟩,⟨no,.st 2 (.t 9) (.t 35),no⟩]) (.seq (.reg [⟨some 37,.fld 0 (.t 3),no⟩,⟨some 38,.ld false 1 (.t 37),no⟩,⟨some 39,.mv (.t 1),no⟩,⟨some 40,.fld 0 (.t 5),no⟩,⟨some 41,.ld false 1 (.t 40),no⟩,⟨some 42,.call (.k (.fn (.func 274) [] [])) [.t 38,.t 39,.t 41],no⟩,⟨some 36,.mv (.t 42),no⟩,⟨some 43,.ext (.t 36) 0,no⟩,⟨some 44,.ext (.t 36) 1,no⟩,⟨some 10,.mv (.t 43),no⟩,⟨some 11,.mv (.t 44),no⟩]) (.seq (.reg [⟨some 45,.mv (.t 10),no⟩,⟨some 46,.fld 0 (.t 9),no⟩,⟨no,.st 1 (.t 46) (.t 45),no⟩]) (.seq (.seq (.reg [⟨some 47,.fld 1 (.t 3),no⟩,⟨some 48,.ld false 1 (.t 47),no⟩,⟨some 49,.len false (.t 48),no⟩,⟨some 50,.mv (.k (.int .i64 0)),no⟩]) (.blk 0 (.loop (.seq (.reg [⟨some 51,.bin .lss (.t 50) (.t 49),no⟩]) (.seq (.cond (.t 51) .skip (.exit 0)) (.seq (.blk 1 (.seq (.reg [⟨some 52,.mv (.t 50),no⟩,⟨some 12,.mv (.t 52),no⟩]) (.seq (.draw (.op ⟨some 54,.fld 1 (.t 3),no⟩ (.op ⟨some 55,.ld false 1 (.t 54),no⟩ (.op ⟨some 56,.mv (.t 12),no⟩ (.op ⟨some 57,.ixa 1 (.t 55) (.t 56),no⟩ (.op ⟨some 58,.ld false 1 (.t 57),no⟩ (.op ⟨some 59,.mv (.t 1),no⟩ (.op ⟨some 60,.fld 1 (.t 5),no⟩ (.op ⟨some 61,.ld false 1 (.t 60),no⟩ (.op ⟨some 62,.mv (.t 12),no⟩ (.op ⟨some 63,.ixa 1 (.t 61) (.t 62),no⟩ (.op ⟨some 64,.ld false 1 (.t 63),no⟩ (.op ⟨some 65,.call (.k (.fn (.func 274) [] [])) [.t 58,.t 59,.t 64],no⟩ (.op ⟨some 53,.mv (.t 65),no⟩ (.op ⟨some 66,.ext (.t 53) 0,no⟩ (.op ⟨some 67,.ext (.t 53) 1,no⟩ (.op ⟨some 13,.mv (.t 66),no⟩ (.op ⟨some 14,.mv (.t 67),no⟩ .fin)))))))))))))))))) (.seq (.reg [⟨some 68,.fld 1 (.t 9),no⟩,⟨some 69,.ld false 1 (.t 68),no⟩,⟨some 70,.mv (.t 12),no⟩,⟨some 71,.mv (.t 13),no⟩,⟨some 72,.ixa 1 (.t 69) (.t 70),no⟩,⟨no,.st 1 (.t 72) (.t 71),no⟩]) (.reg [⟨some 73,.mv (.t 11),no⟩,⟨some 74,.mv (.t 73),no⟩,⟨some 75,.mv (.t 14),(some (74,true))⟩,⟨some 76,.pick (.t 74) (.t 75) (.k (.bool false)),no⟩,⟨some 11,.mv (.t 76),no⟩]))))) (.reg [⟨some 77,.bin .add (.t 50) (.k (.int .i64 1)),no⟩,⟨some 50,.mv (.t 77),no⟩]))))))) (.seq (.seq (.reg [⟨some 78,.mv (.t 11),no⟩,⟨some 79,.un .not (.t 78),no⟩]) (.cond (.t 79) (.seq (.reg [⟨some 80,.build [(.int .i64 0),(.nil 1)] [],no⟩,⟨no,.st 2 (.t 6) (.t 80),no⟩,⟨some 7,.mv (.k (.bool false)),no⟩]) .ret) .skip)) (.seq (.reg [⟨some 81,.ld true 2 (.t 9),no⟩,⟨no,.st 2 (.t 6) (.t 81),no⟩,⟨some 7,.mv (.k (.bool true)),no⟩]) .ret)))))))))⟩
theorem a193_ok:J09 Tryz.prog Tryz.f193=some a193:=by kernel_rfl
def a98:AFn:= ⟨86,[(.c 6 true 2),.t 7],(.seq (.reg [⟨some 3,.boxv (.t 0),no⟩,⟨some 5,.boxv (.t 2),no⟩,⟨some 6,.box [(.int .i64 0),(.nil 1)],no⟩,⟨some 7,.mv (.k (.bool false)),no⟩]) (.seq (.reg [⟨some 16,.fld 1 (.t 3),no⟩,⟨some 17,.ld false 1 (.t 16),no⟩,⟨some 18,.len false (.t 17),no⟩,⟨some 8,.mv (.t 18),no⟩]) (.seq (.seq (.reg [⟨some 19,.ld true 2 (.t 3),no⟩,⟨some 20,.mv (.t 8),no⟩,⟨some 21,.call (.k (.fn (.func 179) [] [])) [.t 19,.t 20],no⟩,⟨some 22,.un .not (.t 21),no⟩,⟨some 23,.mv (.t 22),no⟩,⟨some 24,.ld true 2 (.t 5),(some (23,false))⟩,⟨some 25,.mv (.t 8),(some (23,false))⟩,⟨some 26,.call (.k (.fn (.func 179) [] [])) [.t 24,.t 25],(some (23,false))⟩,⟨some 27,.un .not (.t 26),(some (23,false))⟩,⟨some 28,.pick (.t 23) (.k (.bool true)) (.t 27),no⟩,⟨some 29,.mv (.t 28),no⟩,⟨some 30,.mv (.t 1),(some (29,false))⟩,⟨some 31,.call (.k (.fn (.func 181) [] [])) [.t 30],(some (29,false))⟩,⟨some 32,.un .not (.t 31),(some (29,false))⟩,⟨some 33,.pick (.t 29) (.k (.bool true)) (.t 32),no⟩]) (.cond (.t 33) (.seq (.reg [⟨some 34,.build [(.int .i64 0),(.nil 1)] [],no⟩,⟨no,.st 2 (.t 6) (.t 34),no⟩,⟨some 7,.mv (.k (.bool false)),no⟩]) .ret) .skip)) (.seq (.reg [⟨some 35,.mv (.t 8),no⟩,⟨some 36,.mks 8 [(.int .i64 0)] (.t 35) (.t 35),no⟩,⟨some 37,.build [(.int .i64 0),(.nil 1)] [(1,(1,(.t 36)))],no⟩,⟨some 9,.box [(.int .i64 0),(.nil 1)],no⟩,⟨no,.st 2 (.t 9) (.t 37),no⟩]) (.seq (.reg [⟨some 10,.mv (.k (.bool true)),no⟩]) (.seq (.seq (.reg [⟨some 11,.mv (.k (.int .i64 0)),no⟩]) (.blk 0 (.loop (.seq (.seq (.reg [⟨some 38,.mv (.t 11),no⟩,⟨some 39,.mv (.t 8),no⟩,⟨some 40,.bin .lss (.t 38) (.t 39),no⟩]) (.cond (.t 40) .skip (.exit 0))) (.seq (.blk 1 (.seq (.draw (.op ⟨some 44,.fld 1 (.t 3),no⟩ (.op ⟨some 45,.ld false 1 (.t 44),no⟩ (.op ⟨some 46,.mv (.t 11),no⟩ (.op ⟨some 47,.ixa 1 (.t 45) (.t 46),no⟩ (.op ⟨some 48,.ld false 1 (.t 47),no⟩ (.op ⟨some 49,.mv (.t 1),no⟩ (.op ⟨some 50,.fld 1 (.t 5),no⟩ (.op ⟨some 51,.ld false 1 (.t 50),no⟩ (.op ⟨some 52,.mv (.t 11),no⟩ (.op ⟨some 53,.ixa 1 (.t 51) (.t 52),no⟩ (.op ⟨some 54,.ld false 1 (.t 53),no⟩ (.op ⟨some 55,.call (.k (.fn (.func 182) [] [])) [.t 48,.t 49,.t 54],no⟩ (.op ⟨some 43,.mv (.t 55),no⟩ (.op ⟨some 56,.ext (.t 43) 0,no⟩ (.op ⟨some 57,.ext (.t 43) 1,no⟩ (.op ⟨some 12,.mv (.t 56),no⟩ (.op ⟨some 13,.mv (.t 57),no⟩ .fin)))))))))))))))))) (.seq (.reg [⟨some 58,.fld 1 (.t 9),no⟩,⟨some 59,.ld false 1 (.t 58),no⟩,⟨some 60,.mv (.t 11),no⟩,⟨some 61,.mv (.t 12),no⟩,⟨some 62,.ixa 1 (.t 59) (.t 60),no⟩,⟨no,.st 1 (.t 62) (.t 61),no⟩]) (.reg [⟨some 63,.mv (.t 10),no⟩,⟨some 64,.mv (.t 63),no⟩,⟨some 65,.mv (.t 13),(some (64,true))⟩,⟨some 66,.pick (.t 64) (.t 65) (.k (.bool false)),no⟩,⟨some 10,.mv (.t 66),no⟩])))) (.reg [⟨some 41,.mv (.t 11),no⟩,⟨some 42,.bin .add (.t 41) (.k (.int .i64 1)),no⟩,⟨some 11,.mv (.t 42),no⟩])))))) (.seq (.reg [⟨some 68,.fld 0 (.t 3),no⟩,⟨some 69,.ld false 1 (.t 68),no⟩,⟨some 70,.mv (.t 1),no⟩,⟨some 71,.fld 0 (.t 5),no⟩,⟨some 72,.ld false 1 (.t 71),no⟩,⟨some 73,.call (.k (.fn (.func 182) [] [])) [.t 69,.t 70,.t 72],no⟩,⟨some 67,.mv (.t 73),no⟩,⟨some 74,.ext (.t 67) 0,no⟩,⟨some 75,.ext (.t 67) 1,no⟩,⟨some 14,.mv (.t 74),no⟩,⟨some 15,.mv (.t 75),no⟩]) (.seq (.seq (.reg [⟨some 76,.mv (.t 10),no⟩,⟨some 77,.un .not (.t 76),no⟩,⟨some 78,.mv (.t 77),no⟩,⟨some 79,.mv (.t 15),(some (78,false))⟩,⟨some 80,.un .not (.t 79),(some (78,false))⟩,⟨some 81,.pick (.t 78) (.k (.bool true)) (.t 80),no⟩]) (.cond (.t 81) (.seq (.reg [⟨some 82,.build [(.int .i64 0),(.nil 1)] [],no⟩,⟨no,.st 2 (.t 6) (.t 82),no⟩,⟨some 7,.mv (.k (.bool false)),no⟩]) .ret) .skip)) (.seq (.reg [⟨some 83,.mv (.t 14),no⟩,⟨some 84,.fld 0 (.t 9),no⟩,⟨no,.st 1 (.t 84) (.t 83),no⟩]) (.seq (.reg [⟨some 85,.ld true 2 (.t 9),no⟩,⟨no,.st 2 (.t 6) (.t 85),no⟩,⟨some 7,.mv (.k (.bool true)),no⟩]) .ret))))))))))⟩
theorem a98_ok:J09 Tryz.prog Tryz.f98=some a98:=by kernel_rfl
def J05 (k n:Int):DLin:=if inR n 0 8&&okC k then ⟨k,List.replicate n.toNat 0⟩ else ⟨0,[]⟩
@[simp] theorem Jeh (m:Nat):J0k (List.replicate m 0)=List.replicate m [AV.int .i64 0]:=by simp [J0k]
@[simp] theorem K2o (m:Nat):J3y (List.replicate m [AV.int .i64 0])=true:=by rw [←Jeh];exact Jkj _
@[simp] theorem Jjn (l:List Int) (i:Nat) (v:Int):(J0k l).set i [AV.int .i64 v]=J0k (l.set i v):=by simp [J0k,List.map_set]
theorem J20 (k n:Int):Holds Tryz.prog 178 [i64 k,i64 n] (fun r=>r = .agg (J08 (J05 k n))):=by
 refine J03 Tryz.func178 a178_ok rfl (by simp [a178]) ?_
 simp [a178]
 first|refine J00 (J1y n 0 8) (by first|simp;done|rfl) ?_|refine J01 (J1y n 0 8) (by first|simp;done|rfl) ?_
 rintro r rfl
 unfold J05
 cases h1:inR n 0 8
 ·simp [J08,J0k]
 simp
 first|refine J00 (J27 k) (by first|simp;done|rfl) ?_|refine J01 (J27 k) (by first|simp;done|rfl) ?_
 rintro r rfl
 cases h2:okC k
 ·simp [J08,J0k]
 have hn:0≤n∧n≤8:=by simpa [inR] using h1
 obtain ⟨m,rfl⟩:∃ m:Nat,n=m:=⟨n.toNat,by omega⟩
 simp [J08]
 unfold LIM
 omega
theorem J1o (k n:Int):Holds Tryz.prog 99 [i64 k,i64 n] (fun r=>r = .agg (J08 (J05 k n))):=by
 refine J03 Tryz.func99 a99_ok rfl (by simp [a99]) ?_
 simp [a99]
 first|refine J00 (J5x n 0 8) (by first|simp;done|rfl) ?_|refine J01 (J5x n 0 8) (by first|simp;done|rfl) ?_
 rintro r rfl
 unfold J05
 cases h1:inR n 0 8
 ·simp [J08,J0k]
 simp
 first|refine J00 (J4y k) (by first|simp;done|rfl) ?_|refine J01 (J4y k) (by first|simp;done|rfl) ?_
 rintro r rfl
 cases h2:okC k
 ·simp [J08,J0k]
 have hn:0≤n∧n≤8:=by simpa [inR] using h1
 obtain ⟨m,rfl⟩:∃ m:Nat,n=m:=⟨n.toNat,by omega⟩
 simp [J08]
 unfold LIM
 omega
theorem Jh4 (l:List Int) (hl:l.length≤1048576):Holds Tryz.prog 166 [.sl 1 (J0k l)] (fun r=>r = .us 1 (J0k l)):=by
 refine J03 Tryz.func166 a166_ok rfl (by simp [a166]) ?_
 simp [a166]
 unfold LIM
 omega
theorem J55 (x:DLin) (hl:x.Coeffs.length≤1048576):Holds Tryz.prog 86 [.agg (J06 x)] (fun r=>r = .agg (J08 x)):=by
 refine J03 Tryz.func86 a86_ok rfl (by simp [a86]) ?_
 simp [a86,J06]
 first|refine J00 (Jh4 x.Coeffs hl) (by first|simp [J08];done|rfl) ?_|refine J01 (Jh4 x.Coeffs hl) (by first|simp [J08];done|rfl) ?_
 rintro r rfl
 simp [J08]
theorem J2v (x:DLin) (hl:x.Coeffs.length≤1048576):Holds Tryz.prog 82 [.agg (J06 x)] (fun r=>r = .agg (J08 x)):=by
 refine J03 Tryz.func82 a82_ok rfl (by simp [a82]) ?_
 simp [a82,J06,J08]
 unfold LIM
 omega
def J1s:DLin:=⟨0,[]⟩
def J1h:Option DLin→AV
 | some l => .tup [.agg (J08 l),.bool true]
 | Option.none => .tup [.agg (J08 J1s),.bool false]
theorem J0o (o:Option DLin):J1h o = .tup [.agg (J08 (o.getD J1s)),.bool o.isSome]:=by cases o <;> rfl
def J50 (a:DLin) (k:Int) (b:DLin):List (Option Int):=List.zipWith (fun x y=>J2b x k y) a.Coeffs b.Coeffs
def Jd5 (a:DLin) (k:Int) (b:DLin):Bool:=(J50 a k b).all Option.isSome
def J0l (a:DLin) (k:Int) (b:DLin):Option DLin:=
 if J1j a a.Coeffs.length&&J1j b a.Coeffs.length&&okC k&&(J2b a.Const k b.Const).isSome&&Jd5 a k b then
  some ⟨(J2b a.Const k b.Const).getD 0,(J50 a k b).map (·.getD 0)⟩
 else Option.none
theorem J1t {l:DLin}{n:Int}(h:J1j l n=true):(l.Coeffs.length:Int)=n∧0≤n∧n≤8:=by
 unfold J1j at h
 simp [inR] at h
 omega
theorem Jiv {a b:DLin}{k:Int}{vs:List Int}(hl:b.Coeffs.length=a.Coeffs.length) (hv:vs.length=a.Coeffs.length) (g:Int→Int→Int→Int) (hg:∀ x y v,J2b x k y=some v→g x k y=v)
 (hj:∀ j (h:j<a.Coeffs.length) (h':j<b.Coeffs.length),vs[j]? = some (g a.Coeffs[j] k b.Coeffs[j])) (hZ:(J50 a k b).all Option.isSome=true):vs=(J50 a k b).map (·.getD 0):=by
 refine List.ext_getElem (by simp [J50,hv,hl]) fun j h1 h2 => ?_
 have h3:j<a.Coeffs.length:=by omega
 have h4:j<b.Coeffs.length:=by omega
 have h5:=hj j h3 h4
 rw [List.getElem?_eq_getElem h1] at h5
 rw [Option.some.inj h5,List.getElem_map]
 have h6:(J50 a k b)[j]'(by simpa using h2)=J2b a.Coeffs[j] k b.Coeffs[j]:=by simp [J50]
 rw [h6]
 have h7:=List.all_eq_true.1 hZ _ (List.getElem_mem (by simpa using h2:j<(J50 a k b).length))
 rw [h6] at h7
 obtain ⟨v,hv'⟩:=Option.isSome_iff_exists.1 h7
 rw [hg _ _ _ hv',hv'];rfl
set_option maxHeartbeats 1000000 in
theorem J1x (a:DLin) (k:Int) (b:DLin):Holds Tryz.prog 193 [.agg (J06 a),i64 k,.agg (J06 b)] (fun r=>r=J1h (J0l a k b)):=by
 refine J03 Tryz.func193 a193_ok rfl (by simp [a193]) ?_
 simp [a193,J06]
 intro hlim
 unfold J0l
 first|refine J00 (J1m a a.Coeffs.length) (by first|simp [J06];done|rfl) ?_|refine J01 (J1m a a.Coeffs.length) (by first|simp [J06];done|rfl) ?_
 rintro r rfl
 cases h1:J1j a a.Coeffs.length
 ·simp [J1h,J1s,J08,J0k]
 simp
 first|refine J00 (J1m b a.Coeffs.length) (by first|simp [J06];done|rfl) ?_|refine J01 (J1m b a.Coeffs.length) (by first|simp [J06];done|rfl) ?_
 rintro r rfl
 cases h2:J1j b a.Coeffs.length
 ·simp [J1h,J1s,J08,J0k]
 simp
 first|refine J00 (J27 k) (by first|simp;done|rfl) ?_|refine J01 (J27 k) (by first|simp;done|rfl) ?_
 rintro r rfl
 cases h3:okC k
 ·simp [J1h,J1s,J08,J0k]
 simp
 have hla:=J1t h1
 have hlb:=J1t h2
 have hl:b.Coeffs.length=a.Coeffs.length:=by omega
 have hc0:J05 0 (a.Coeffs.length:Int)=⟨0,List.replicate a.Coeffs.length 0⟩:=by
  unfold J05
  rw [if_pos (by simp [inR,okC];omega)]
  simp
 first|refine J00 (J20 0 a.Coeffs.length) (by first|simp;done|rfl) ?_|refine J01 (J20 0 a.Coeffs.length) (by first|simp;done|rfl) ?_
 rintro r rfl
 rw [hc0]
 simp [J08]
 first|refine J00 (Ja8 a.Const k b.Const) (by first|simp [J44];done|rfl) ?_|refine J01 (Ja8 a.Const k b.Const) (by first|simp [J44];done|rfl) ?_
 rintro r rfl
 simp [J44]
 intro _
 have hzl:(J50 a k b).length=a.Coeffs.length:=by simp [J50,hl]
 refine J0m [1,3,5,6,9,49] 50 a.Coeffs.length (fun i s h n=>h 0=some ⟨true,2,[[.int .i64 a.Const,.sl 1 (J0k a.Coeffs)]]⟩∧h 1=some ⟨true,2,[[.int .i64 b.Const,.sl 1 (J0k b.Coeffs)]]⟩∧h 2=some ⟨true,2,[[.int .i64 0,.nil 1]]⟩ ∧
  h 4=some ⟨true,2,[[.int .i64 (J5t a.Const k b.Const).1,.ref 3 0 a.Coeffs.length]]⟩∧∃ vs:List Int,h 3=some ⟨false,1,J0k vs⟩∧vs.length=a.Coeffs.length ∧
  (∀ j (h:j<a.Coeffs.length) (h':j<b.Coeffs.length),j<i→vs[j]? = some (J5t a.Coeffs[j] k b.Coeffs[j]).1)∧s 11 = .bool ((J2b a.Const k b.Const).isSome&&((J50 a k b).take i).all Option.isSome))
  hlim (by simp) (by simp;exact ⟨List.replicate a.Coeffs.length 0,by simp,by simp,by simp [Jef]⟩) ?_ ?_
 ·rintro i s h n R hi hg hk s50 hw ⟨e0,e1,e2,e4,vs,e3,hvl,hvs,s11⟩ hR _ _
  simp at hk
  have hib:i<b.Coeffs.length:=by omega
  have hiv:i<vs.length:=by omega
  have hiz:i<(J50 a k b).length:=by omega
  have hZi:(J50 a k b)[i]=J2b a.Coeffs[i] k b.Coeffs[i]:=by simp [J50]
  have hflag:((J2b a.Const k b.Const).isSome&&((J50 a k b).take (i+1)).all Option.isSome)=(((J2b a.Const k b.Const).isSome&&((J50 a k b).take i).all Option.isSome)&&(J5t a.Coeffs[i] k b.Coeffs[i]).2):=by
   rw [List.take_succ_eq_append_getElem hiz,List.all_append,hZi,Jef]
   simp [Bool.and_assoc]
  have hvs':∀ j (h:j<a.Coeffs.length) (h':j<b.Coeffs.length),j<i+1→(vs.set i (J5t a.Coeffs[i] k b.Coeffs[i]).1)[j]? = some (J5t a.Coeffs[j] k b.Coeffs[j]).1:=by
   intro j h h' hj
   rw [List.getElem?_set]
   by_cases hji:i=j
   ·subst hji;simp [hiv]
   ·rw [if_neg hji];exact hvs j h h' (by omega)
  obtain ⟨f,hf⟩:∃ f,f=((J2b a.Const k b.Const).isSome&&((J50 a k b).take i).all Option.isSome):=⟨_,rfl⟩
  rw [←hf] at s11 hflag
  cases f
  all_goals
   simp [hk,s50,hi,hg,hw,hib,hiv,e0,e1,e2,e3,e4,s11]
   first|refine J00 (Ja8 _ _ _) (by simp [J44]) ?_|refine J01 (Ja8 _ _ _) (by simp [J44]) ?_|refine J00 (Ja8 _ _ _) rfl ?_|refine J01 (Ja8 _ _ _) rfl ?_
   rintro r rfl
   simp [hk,s50,hi,hg,hw,hib,hiv,e0,e1,e2,e3,e4,s11,J44]
   exact hR _ _ _ (by simp [hk]) (by simp) ⟨by simp [e0],by simp [e1],by simp [e2],by simp [e4],_,by simp,by simp [hvl],hvs',by rw [hflag];simp⟩
 ·rintro s h n R hk s50 ⟨e0,e1,e2,e4,vs,e3,hvl,hvs,s11⟩ hret hX
  simp at hk
  rw [List.take_of_length_le (by omega)] at s11
  simp [hk,s50]
  refine hX _ _ _ _ ?_
  cases hc:(J2b a.Const k b.Const).isSome
  ·rw [hc] at s11
   simp at s11
   simp [hk,s11,e2,J1h,J1s,J08,J0k]
  rw [show (J50 a k b).all Option.isSome=Jd5 a k b from rfl] at s11
  cases hz:Jd5 a k b
  ·rw [hc,hz] at s11
   simp at s11
   simp [hk,s11,e2,J1h,J1s,J08,J0k]
  ·rw [hc,hz] at s11
   simp at s11
   obtain ⟨v,hv⟩:=Option.isSome_iff_exists.1 hc
   have hval:=Jiv hl hvl (fun x k y=>(J5t x k y).1) (fun x y v h=>Je8 h) (fun j h h'=>hvs j h h' h) hz
   simp [hk,s11,e2,e3,e4,J1h,J08,hvl]
   rw [←hval,hv,Je8 hv]
   simp [hvl,List.take_of_length_le]
set_option maxHeartbeats 1000000 in
theorem J0q (a:DLin) (k:Int) (b:DLin):Holds Tryz.prog 98 [.agg (J06 a),i64 k,.agg (J06 b)] (fun r=>r=J1h (J0l a k b)):=by
 refine J03 Tryz.func98 a98_ok rfl (by simp [a98]) ?_
 simp [a98,J06]
 intro hlim
 unfold J0l
 first|refine J00 (J10 a a.Coeffs.length) (by first|simp [J06];done|rfl) ?_|refine J01 (J10 a a.Coeffs.length) (by first|simp [J06];done|rfl) ?_
 rintro r rfl
 cases h1:J1j a a.Coeffs.length
 ·simp [J1h,J1s,J08,J0k]
 simp
 first|refine J00 (J10 b a.Coeffs.length) (by first|simp [J06];done|rfl) ?_|refine J01 (J10 b a.Coeffs.length) (by first|simp [J06];done|rfl) ?_
 rintro r rfl
 cases h2:J1j b a.Coeffs.length
 ·simp [J1h,J1s,J08,J0k]
 simp
 first|refine J00 (J4y k) (by first|simp;done|rfl) ?_|refine J01 (J4y k) (by first|simp;done|rfl) ?_
 rintro r rfl
 cases h3:okC k
 ·simp [J1h,J1s,J08,J0k]
 simp
 have hla:=J1t h1
 have hlb:=J1t h2
 have hl:b.Coeffs.length=a.Coeffs.length:=by omega
 have hzl:(J50 a k b).length=a.Coeffs.length:=by simp [J50,hl]
 refine ⟨by unfold LIM;omega,?_⟩
 refine J0m [1,3,5,6,8,9] 11 a.Coeffs.length (fun i s h n=>h 0=some ⟨true,2,[[.int .i64 a.Const,.sl 1 (J0k a.Coeffs)]]⟩∧h 1=some ⟨true,2,[[.int .i64 b.Const,.sl 1 (J0k b.Coeffs)]]⟩∧h 2=some ⟨true,2,[[.int .i64 0,.nil 1]]⟩ ∧
  h 4=some ⟨true,2,[[.int .i64 0,.ref 3 0 a.Coeffs.length]]⟩∧∃ vs:List Int,h 3=some ⟨false,1,J0k vs⟩∧vs.length=a.Coeffs.length ∧
  (∀ j (h:j<a.Coeffs.length) (h':j<b.Coeffs.length),j<i→vs[j]? = some (J5c a.Coeffs[j] k b.Coeffs[j]).1)∧s 10 = .bool (((J50 a k b).take i).all Option.isSome))
  hlim (by simp) (by simp;exact ⟨List.replicate a.Coeffs.length 0,by simp,by simp⟩) ?_ ?_
 ·rintro i s h n R hi hg hk s11 hw ⟨e0,e1,e2,e4,vs,e3,hvl,hvs,s10⟩ hR _ _
  simp at hk
  have hib:i<b.Coeffs.length:=by omega
  have hiv:i<vs.length:=by omega
  have hiz:i<(J50 a k b).length:=by omega
  have hZi:(J50 a k b)[i]=J2b a.Coeffs[i] k b.Coeffs[i]:=by simp [J50]
  have hflag:(((J50 a k b).take (i+1)).all Option.isSome)=((((J50 a k b).take i).all Option.isSome)&&(J5c a.Coeffs[i] k b.Coeffs[i]).2):=by
   rw [List.take_succ_eq_append_getElem hiz,List.all_append,hZi,Jb1]
   simp
  have hvs':∀ j (h:j<a.Coeffs.length) (h':j<b.Coeffs.length),j<i+1→(vs.set i (J5c a.Coeffs[i] k b.Coeffs[i]).1)[j]? = some (J5c a.Coeffs[j] k b.Coeffs[j]).1:=by
   intro j h h' hj
   rw [List.getElem?_set]
   by_cases hji:i=j
   ·subst hji;simp [hiv]
   ·rw [if_neg hji];exact hvs j h h' (by omega)
  obtain ⟨f,hf⟩:∃ f,f=(((J50 a k b).take i).all Option.isSome):=⟨_,rfl⟩
  rw [←hf] at s10 hflag
  cases f
  all_goals
   simp [hk,s11,hi,hg,hw,hib,hiv,e0,e1,e2,e3,e4,s10]
   first|refine J00 (J5a _ _ _) (by simp [J44]) ?_|refine J01 (J5a _ _ _) (by simp [J44]) ?_|refine J00 (J5a _ _ _) rfl ?_|refine J01 (J5a _ _ _) rfl ?_
   rintro r rfl
   simp [hk,s11,hi,hg,hw,hib,hiv,e0,e1,e2,e3,e4,s10,J44]
   exact hR _ _ _ (by simp [hk]) (by simp) ⟨by simp [e0],by simp [e1],by simp [e2],by simp [e4],_,by simp,by simp [hvl],hvs',by rw [hflag];simp⟩
 ·rintro s h n R hk s11 ⟨e0,e1,e2,e4,vs,e3,hvl,hvs,s10⟩ hret hX
  simp at hk
  rw [List.take_of_length_le (by omega),show (J50 a k b).all Option.isSome=Jd5 a k b from rfl] at s10
  simp [hk,s11]
  refine hX _ _ _ _ ?_
  cases hz:Jd5 a k b
  ·rw [hz] at s10
   simp [hk,s10,e0,e1,e2,e4]
   first|refine J00 (J5a _ _ _) (by simp [J44]) ?_|refine J01 (J5a _ _ _) (by simp [J44]) ?_|refine J00 (J5a _ _ _) rfl ?_|refine J01 (J5a _ _ _) rfl ?_
   rintro r rfl
   simp [hk,s10,e0,e1,e2,e4,J44,J1h,J1s,J08,J0k]
  ·rw [hz] at s10
   have hval:=Jiv hl hvl (fun x k y=>(J5c x k y).1) (fun x y v h=>Jen h) (fun j h h'=>hvs j h h' h) hz
   simp [hk,s10,e0,e1,e2,e4]
   first|refine J00 (J5a _ _ _) (by simp [J44]) ?_|refine J01 (J5a _ _ _) (by simp [J44]) ?_|refine J00 (J5a _ _ _) rfl ?_|refine J01 (J5a _ _ _) rfl ?_
   rintro r rfl
   cases hc:(J2b a.Const k b.Const).isSome
   ·have hc':(J5c a.Const k b.Const).2=false:=by rw [Jb1,hc]
    simp [hk,s10,e0,e1,e2,e4,J44,hc',J1h,J1s,J08,J0k]
   ·have hc':(J5c a.Const k b.Const).2=true:=by rw [Jb1,hc]
    obtain ⟨v,hv⟩:=Option.isSome_iff_exists.1 hc
    simp [hk,s10,e0,e1,e2,e3,e4,J44,hc',J1h,J08,hvl]
    rw [←hval,hv,Jen hv]
    simp [hvl,List.take_of_length_le]
theorem a144_ok:J09 Tryz.prog Tryz.f144=some (J2y 231):=by kernel_rfl
theorem a231_ok:J09 Tryz.prog Tryz.f231=some (J3u true 2):=by kernel_rfl
def a307:AFn:= ⟨8,[.t 3],(.seq (.reg [⟨some 2,.boxv (.t 0),no⟩,⟨some 3,.mv (.k (.bool false)),no⟩]) (.seq (.reg [⟨some 4,.ld true 2 (.t 2),no⟩,⟨some 5,.ld false 1 (.t 1),no⟩,⟨some 6,.call (.k (.fn (.func 146) [] [])) [.t 4,.t 5],no⟩,⟨some 7,.un .not (.t 6),no⟩,⟨some 3,.mv (.t 7),no⟩]) .ret))⟩
theorem a307_ok:J09 Tryz.prog Tryz.f307=some a307:=by kernel_rfl
def a272:AFn:= ⟨57,[(.c 4 true 2),.t 5],(.seq (.reg [⟨some 2,.boxv (.t 0),no⟩,⟨some 4,.box [(.int .i64 0),(.nil 1)],no⟩,⟨some 5,.mv (.k (.bool false)),no⟩]) (.seq (.reg [⟨some 6,.box [(.int .i64 0)],no⟩,⟨no,.st 1 (.t 6) (.k (.int .i64 0)),no⟩]) (.seq (.seq (.reg [⟨some 11,.mv (.t 1),no⟩,⟨some 12,.len false (.t 11),no⟩,⟨some 13,.bin .gtr (.t 12) (.k (.int .i64 0)),no⟩]) (.cond (.t 13) (.reg [⟨some 14,.mv (.t 1),no⟩,⟨some 15,.ixa 2 (.t 14) (.k (.int .i64 0)),no⟩,⟨some 16,.fld 1 (.t 15),no⟩,⟨some 17,.ld false 1 (.t 16),no⟩,⟨some 18,.len false (.t 17),no⟩,⟨no,.st 1 (.t 6) (.t 18),no⟩]) .skip)) (.seq (.seq (.reg [⟨some 19,.ld true 2 (.t 2),no⟩,⟨some 20,.mv (.t 1),no⟩,⟨some 21,.len false (.t 20),no⟩,⟨some 22,.call (.k (.fn (.func 146) [] [])) [.t 19,.t 21],no⟩,⟨some 23,.un .not (.t 22),no⟩,⟨some 24,.mv (.t 23),no⟩,⟨some 25,.mv (.t 1),(some (24,false))⟩,⟨some 26,.mkf (.func 307) [] [.t 6],(some (24,false))⟩,⟨some 27,.call (.k (.fn (.func 144) [] [])) [.t 25,.t 26],(some (24,false))⟩,⟨some 28,.pick (.t 24) (.k (.bool true)) (.t 27),no⟩]) (.cond (.t 28) (.seq (.reg [⟨some 29,.build [(.int .i64 0),(.nil 1)] [],no⟩,⟨no,.st 2 (.t 4) (.t 29),no⟩,⟨some 5,.mv (.k (.bool false)),no⟩]) .ret) .skip)) (.seq (.reg [⟨some 30,.fld 0 (.t 2),no⟩,⟨some 31,.ld false 1 (.t 30),no⟩,⟨some 32,.ld false 1 (.t 6),no⟩,⟨some 33,.call (.k (.fn (.func 178) [] [])) [.t 31,.t 32],no⟩,⟨some 7,.box [(.int .i64 0),(.nil 1)],no⟩,⟨no,.st 2 (.t 7) (.t 33),no⟩]) (.seq (.reg [⟨some 8,.mv (.k (.bool true)),no⟩]) (.seq (.seq (.reg [⟨some 34,.mv (.t 1),no⟩,⟨some 35,.len false (.t 34),no⟩,⟨some 36,.mv (.k (.int .i64 0)),no⟩]) (.blk 0 (.loop (.seq (.reg [⟨some 37,.bin .lss (.t 36) (.t 35),no⟩]) (.seq (.cond (.t 37) .skip (.exit 0)) (.seq (.blk 1 (.seq (.reg [⟨some 38,.mv (.t 36),no⟩,⟨some 39,.ixa 2 (.t 34) (.t 36),no⟩,⟨some 40,.ld true 2 (.t 39),no⟩,⟨some 10,.box [(.int .i64 0),(.nil 1)],no⟩,⟨some 9,.mv (.t 38),no⟩,⟨no,.st 2 (.t 10) (.t 40),no⟩]) (.seq (.draw (.op ⟨some 42,.ld true 2 (.t 7),no⟩ (.op ⟨some 43,.fld 1 (.t 2),no⟩ (.op ⟨some 44,.ld false 1 (.t 43),no⟩ (.op ⟨some 45,.mv (.t 9),no⟩ (.op ⟨some 46,.ixa 1 (.t 44) (.t 45),no⟩ (.op ⟨some 47,.ld false 1 (.t 46),no⟩ (.op ⟨some 48,.ld true 2 (.t 10),no⟩ (.op ⟨some 49,.call (.k (.fn (.func 193) [] [])) [.t 42,.t 47,.t 48],no⟩ (.op ⟨some 41,.mv (.t 49),no⟩ (.op ⟨some 50,.ext (.t 41) 0,no⟩ (.op ⟨some 51,.ext (.t 41) 1,no⟩ (.hop ⟨no,.st 2 (.t 7) (.t 50),no⟩ [] (.op ⟨some 8,.mv (.t 51),no⟩ .fin)))))))))))))) (.seq (.reg [⟨some 52,.mv (.t 8),no⟩,⟨some 53,.un .not (.t 52),no⟩]) (.cond (.t 53) (.seq (.reg [⟨some 54,.build [(.int .i64 0),(.nil 1)] [],no⟩,⟨no,.st 2 (.t 4) (.t 54),no⟩,⟨some 5,.mv (.k (.bool false)),no⟩]) .ret) .skip))))) (.reg [⟨some 55,.bin .add (.t 36) (.k (.int .i64 1)),no⟩,⟨some 36,.mv (.t 55),no⟩]))))))) (.seq (.reg [⟨some 56,.ld true 2 (.t 7),no⟩,⟨no,.st 2 (.t 4) (.t 56),no⟩,⟨some 5,.mv (.k (.bool true)),no⟩]) .ret))))))))⟩
theorem a272_ok:J09 Tryz.prog Tryz.f272=some a272:=by kernel_rfl
def a269:AFn:= ⟨60,[(.c 4 true 2),.t 5],(.seq (.reg [⟨some 2,.boxv (.t 0),no⟩,⟨some 4,.box [(.int .i64 0),(.nil 1)],no⟩,⟨some 5,.mv (.k (.bool false)),no⟩]) (.seq (.reg [⟨some 6,.mv (.k (.int .i64 0)),no⟩]) (.seq (.seq (.reg [⟨some 11,.mv (.t 1),no⟩,⟨some 12,.len false (.t 11),no⟩,⟨some 13,.bin .gtr (.t 12) (.k (.int .i64 0)),no⟩]) (.cond (.t 13) (.reg [⟨some 14,.mv (.t 1),no⟩,⟨some 15,.ixa 2 (.t 14) (.k (.int .i64 0)),no⟩,⟨some 16,.fld 1 (.t 15),no⟩,⟨some 17,.ld false 1 (.t 16),no⟩,⟨some 18,.len false (.t 17),no⟩,⟨some 6,.mv (.t 18),no⟩]) .skip)) (.seq (.reg [⟨some 19,.fld 0 (.t 2),no⟩,⟨some 20,.ld false 1 (.t 19),no⟩,⟨some 21,.mv (.t 6),no⟩,⟨some 22,.call (.k (.fn (.func 99) [] [])) [.t 20,.t 21],no⟩,⟨some 7,.box [(.int .i64 0),(.nil 1)],no⟩,⟨no,.st 2 (.t 7) (.t 22),no⟩]) (.seq (.seq (.reg [⟨some 23,.ld true 2 (.t 2),no⟩,⟨some 24,.mv (.t 1),no⟩,⟨some 25,.len false (.t 24),no⟩,⟨some 26,.call (.k (.fn (.func 179) [] [])) [.t 23,.t 25],no⟩,⟨some 27,.un .not (.t 26),no⟩,⟨some 28,.mv (.t 27),no⟩,⟨some 29,.ld true 2 (.t 7),(some (28,false))⟩,⟨some 30,.mv (.t 6),(some (28,false))⟩,⟨some 31,.call (.k (.fn (.func 179) [] [])) [.t 29,.t 30],(some (28,false))⟩,⟨some 32,.un .not (.t 31),(some (28,false))⟩,⟨some 33,.pick (.t 28) (.k (.bool true)) (.t 32),no⟩]) (.cond (.t 33) (.seq (.reg [⟨some 34,.build [(.int .i64 0),(.nil 1)] [],no⟩,⟨no,.st 2 (.t 4) (.t 34),no⟩,⟨some 5,.mv (.k (.bool false)),no⟩]) .ret) .skip)) (.seq (.seq (.reg [⟨some 8,.mv (.k (.int .i64 0)),no⟩]) (.blk 0 (.loop (.seq (.seq (.reg [⟨some 35,.mv (.t 8),no⟩,⟨some 36,.mv (.t 1),no⟩,⟨some 37,.len false (.t 36),no⟩,⟨some 38,.bin .lss (.t 35) (.t 37),no⟩]) (.cond (.t 38) .skip (.exit 0))) (.seq (.blk 1 (.seq (.draw (.op ⟨some 42,.ld true 2 (.t 7),no⟩ (.op ⟨some 43,.fld 1 (.t 2),no⟩ (.op ⟨some 44,.ld false 1 (.t 43),no⟩ (.op ⟨some 45,.mv (.t 8),no⟩ (.op ⟨some 46,.ixa 1 (.t 44) (.t 45),no⟩ (.op ⟨some 47,.ld false 1 (.t 46),no⟩ (.op ⟨some 48,.mv (.t 1),no⟩ (.op ⟨some 49,.mv (.t 8),no⟩ (.op ⟨some 50,.ixa 2 (.t 48) (.t 49),no⟩ (.op ⟨some 51,.ld true 2 (.t 50),no⟩ (.both (.op ⟨some 52,.call (.k (.fn (.func 98) [] [])) [.t 42,.t 47,.t 51],no⟩ (.op ⟨some 41,.mv (.t 52),no⟩ (.op ⟨some 53,.ext (.t 41) 0,no⟩ (.op ⟨some 54,.ext (.t 41) 1,no⟩ (.op ⟨some 9,.box [(.int .i64 0),(.nil 1)],no⟩ (.hop ⟨no,.st 2 (.t 9) (.t 53),no⟩ [] (.op ⟨some 10,.mv (.t 54),no⟩ .fin))))))) (.op ⟨some 9,.box [(.int .i64 0),(.nil 1)],no⟩ (.op ⟨some 52,.call (.k (.fn (.func 98) [] [])) [.t 42,.t 47,.t 51],no⟩ (.op ⟨some 41,.mv (.t 52),no⟩ (.op ⟨some 53,.ext (.t 41) 0,no⟩ (.op ⟨some 54,.ext (.t 41) 1,no⟩ (.hop ⟨no,.st 2 (.t 9) (.t 53),no⟩ [] (.op ⟨some 10,.mv (.t 54),no⟩ .fin))))))))))))))))))) (.seq (.seq (.reg [⟨some 55,.mv (.t 10),no⟩,⟨some 56,.un .not (.t 55),no⟩]) (.cond (.t 56) (.seq (.reg [⟨some 57,.build [(.int .i64 0),(.nil 1)] [],no⟩,⟨no,.st 2 (.t 4) (.t 57),no⟩,⟨some 5,.mv (.k (.bool false)),no⟩]) .ret) .skip)) (.reg [⟨some 58,.ld true 2 (.t 9),no⟩,⟨no,.st 2 (.t 7) (.t 58),no⟩])))) (.reg [⟨some 39,.mv (.t 8),no⟩,⟨some 40,.bin .add (.t 39) (.k (.int .i64 1)),no⟩,⟨some 8,.mv (.t 40),no⟩])))))) (.seq (.reg [⟨some 59,.ld true 2 (.t 7),no⟩,⟨no,.st 2 (.t 4) (.t 59),no⟩,⟨some 5,.mv (.k (.bool true)),no⟩]) .ret)))))))⟩
theorem a269_ok:J09 Tryz.prog Tryz.f269=some a269:=by kernel_rfl
def J5w:List (Int×DLin)→DLin→Option DLin
 | [],o=>some o
 | p::l,o=>match J0l o p.1 p.2 with
  | some o'=>J5w l o'
  | Option.none=>Option.none
def Jik (args:List DLin):Nat:=match args with | []=>0|a::_=>a.Coeffs.length
def J42 (l:DLin) (args:List DLin):Option DLin:=
 if J1j l args.length&&J1j (J05 l.Const (Jik args)) (Jik args) then J5w (l.Coeffs.zip args) (J05 l.Const (Jik args)) else Option.none
theorem J7w {a b o:DLin}{k:Int}(h:J0l a k b=some o):o.Coeffs.length=a.Coeffs.length∧J1j b a.Coeffs.length=true:=by
 unfold J0l at h
 split at h
 ·rename_i hc
  simp only [Bool.and_eq_true] at hc
  have h1:=J1t hc.1.1.1.1
  have h2:=J1t hc.1.1.1.2
  cases h
  refine ⟨?_,hc.1.1.1.2⟩
  simp [J50];omega
 ·cases h
theorem Jgq {n:Nat} : ∀ (l:List (Int×DLin)) (o:DLin),o.Coeffs.length=n→(∃ p∈l,J1j p.2 n=false)→J5w l o=Option.none
 | [],o,_,h=>by obtain ⟨p,hp,_⟩:=h;cases hp
 | q::l,o,hn,h=>by
  obtain ⟨p,hp,hb⟩:=h
  simp only [J5w]
  split
  ·rename_i o' ho
   obtain ⟨h1,h2⟩:=J7w ho
   rcases List.mem_cons.1 hp with rfl|hp
   ·rw [hn,hb] at h2;cases h2
   ·exact Jgq l o' (by omega) ⟨p,hp,hb⟩
  ·rfl
theorem J7d {c:Int}{n:Nat}(hc:okC c=true) (hn:(n:Int)≤8):J05 c n=⟨c,List.replicate n 0⟩∧J1j (J05 c n) n=true:=by
 have h:J05 c n=⟨c,List.replicate n 0⟩:=by
  unfold J05
  rw [if_pos (by simp [inR,hc];omega)];simp
 refine ⟨h,?_⟩
 rw [h]
 simp [J1j,inR,hc,hn]
 right;decide
theorem Ji4 {l:DLin}{n:Int}(h:J1j l n=true):okC l.Const=true:=by
 unfold J1j at h;simp only [Bool.and_eq_true] at h;exact h.1.2
theorem Jeu {l:DLin}{args:List DLin}(h1:J1j l args.length=true):J42 l args=if args.all (fun a=>J1j a (Jik args)) then J5w (l.Coeffs.zip args) (J05 l.Const (Jik args)) else Option.none:=by
 unfold J42
 rw [h1,Bool.true_and]
 have hl:=J1t h1
 cases h2:args.all (fun a=>J1j a (Jik args))
 ·simp only [Bool.false_eq_true,if_false]
  split
  ·rename_i h3
   have h3':=J1t h3
   rw [List.all_eq_false] at h2
   obtain ⟨a,ha,hb⟩:=h2
   obtain ⟨i,hi,rfl⟩:=List.mem_iff_getElem.1 ha
   refine Jgq (n:=Jik args) _ _ (by omega) ⟨(l.Coeffs[i]'(by omega),args[i]),List.mem_iff_getElem.2 ⟨i,by simp;omega,by simp⟩,by simpa using hb⟩
  ·rfl
 ·have hn:((Jik args:Nat):Int)≤8:=by
   cases args with
   | nil=>simp [Jik]
   | cons a rest=>
    simp only [List.all_cons,Bool.and_eq_true] at h2
    exact (J1t h2.1).2.2
  rw [if_pos (J7d (Ji4 h1) hn).2,if_pos rfl]
theorem Jo7 {h:Heap}{n id:Nat}{v:Int}(x:DLin) (hv:h id=some ⟨true,1,[[i64 v]]⟩) (hid:id<n):Jfx Tryz.prog 307 [] [.ptr id 0 0] h n (.agg (J06 x)) (.bool (!J1j x v)):=by
 intro K hK
 refine Ja7 ?_
 refine J0z Tryz.func307 a307_ok rfl (by simp [a307]) ?_
 have n1:¬id=n:=by omega
 simp [a307,hv,n1,J06]
 first|refine J00 (J1m x v) (by first|simp [J06];done|rfl) ?_|refine J01 (J1m x v) (by first|simp [J06];done|rfl) ?_
 rintro r rfl
 simp [Je7,hK]
 intro j hj hj'
 omega
set_option maxHeartbeats 1000000 in
theorem J8z (l:DLin) (args:List DLin):Holds Tryz.prog 272 [.agg (J06 l),.sl 2 (args.map J06)] (fun r=>r=J1h (J42 l args)):=by
 refine J1e Tryz.func272 rfl rfl fun hlm => ?_
 simp [J06] at hlm
 have hN:(args.length=0∧Jik args=0)∨∃ hz:0<args.length,Jik args=(args[0]'hz).Coeffs.length:=by
  cases args with
  | nil=>exact .inl ⟨rfl,rfl⟩
  | cons a rest=>exact .inr ⟨by simp,rfl⟩
 rcases hN with ⟨hz,hN⟩|⟨hz,hN⟩
 ·refine J03 Tryz.func272 a272_ok rfl (by simp [a272]) ?_
  simp [a272,J06]
  simp [hz]
  intro hnil
  subst hnil
  first|refine J00 (J1m l 0) (by first|simp [J06];done|rfl) ?_|refine J01 (J1m l 0) (by first|simp [J06];done|rfl) ?_
  rintro r rfl
  cases h1:J1j l 0
  ·have e:J42 l []=Option.none:=by simp [J42,h1]
   simp [e,J1h,J1s,J08,J0k]
  have e:J42 l []=some (J05 l.Const 0):=by rw [Jeu h1];simp [Jik,J5w]
  rw [e]
  simp
  refine J1r (p:=fun x => !J1j x 0) (rowOf:=J06) (eltOf:=fun x => .agg (J06 x)) Tryz.func144 a144_ok rfl Tryz.func231 a231_ok rfl (fun x=>by simp) [] (fun x hx=>by cases hx) ?_
  simp
  first|refine J00 (J20 l.Const 0) (by first|simp;done|rfl) ?_|refine J01 (J20 l.Const 0) (by first|simp;done|rfl) ?_
  rintro r rfl
  simp [J08]
  refine J4h [4,5,7,35] 36 0 (fun i s=>True) (by decide) (by simp) trivial ?_ ?_
  ·intro i s h R hi;omega
  ·rintro s h R hk s36 _ hh _ hX
   simp at hk hh
   simp [hk,s36,hh]
   refine hX _ _ ?_
   simp [hk,hh,J1h,J08]
 ·refine J03 Tryz.func272 a272_ok rfl (by simp [a272]) ?_
  simp [a272,J06]
  have hne:¬args=[]:=by rintro rfl;simp at hz
  simp [hz,hne,J06]
  intro _ _ _
  first|refine J00 (J1m l args.length) (by first|simp [J06];done|rfl) ?_|refine J01 (J1m l args.length) (by first|simp [J06];done|rfl) ?_
  rintro r rfl
  cases h1:J1j l args.length
  ·have e:J42 l args=Option.none:=by simp [J42,h1]
   simp [e,J1h,J1s,J08,J0k]
  rw [Jeu h1,hN]
  generalize hc3:(args.all fun x=>J1j x (args[0].Coeffs.length:Int))=b3
  have hla:=J1t h1
  simp
  refine J1r (p:=fun x => !J1j x (args[0].Coeffs.length:Int)) (rowOf:=J06) (eltOf:=fun x => .agg (J06 x)) Tryz.func144 a144_ok rfl Tryz.func231 a231_ok rfl (fun x=>by simp) args (fun x _=>Jo7 x (by simp [i64]) (by omega)) ?_
  rw [Jaw (fun x:DLin=>J1j x (args[0].Coeffs.length:Int)),hc3]
  cases b3
  ·simp [J1h,J1s,J08,J0k]
  simp
  first|refine J00 (J20 l.Const (args[0].Coeffs.length:Int)) (by first|simp;done|rfl) ?_|refine J01 (J20 l.Const (args[0].Coeffs.length:Int)) (by first|simp;done|rfl) ?_
  rintro r rfl
  simp [J08]
  intro _
  have hzl:(l.Coeffs.zip args).length=args.length:=by simp;omega
  generalize hG:J5w (l.Coeffs.zip args) (J05 l.Const (args[0].Coeffs.length:Int))=G
  refine J0m [1,2,4,7,34,35] 36 args.length (fun i s h n=>h 0=some ⟨true,2,[[.int .i64 l.Const,.sl 1 (J0k l.Coeffs)]]⟩∧h 1=some ⟨true,2,[[.int .i64 0,.nil 1]]⟩∧4<n ∧
   ∃ (o:DLin) (id:Nat),h 4=some ⟨true,2,[[.int .i64 o.Const,.ref id 0 o.Coeffs.length]]⟩∧h id=some ⟨false,1,J0k o.Coeffs⟩∧id<n∧(id=3∨4<id)∧J5w ((l.Coeffs.zip args).drop i) o=G)
   hlm.2 (by simp) ⟨by simp,by simp,by simp,J05 l.Const (args[0].Coeffs.length:Int),3,by simp,by simp,by omega,by omega,by simpa using hG⟩ ?_ ?_
  ·rintro i s h n R hi hg hk s36 hw ⟨e0,e1,hn,o,id,e4,eid,hidn,hid,hJ⟩ hR hret _
   simp at hk
   have hir:i<l.Coeffs.length:=by omega
   rw [List.drop_eq_getElem_cons (by omega:i<(l.Coeffs.zip args).length)] at hJ
   simp only [J5w,List.getElem_zip] at hJ
   have n0:¬0=n:=by omega
   have n1:¬1=n:=by omega
   have n4:¬4=n:=by omega
   have n4':¬n=4:=by omega
   have nid:¬id=n:=by omega
   simp [hk,s36,hi,hg,hw,hir,e0,e1,e4,eid,n0,n1,n4,n4',nid]
   refine ⟨by simp [J06],?_⟩
   have m0:¬0=n+1:=by omega
   have m1:¬1=n+1:=by omega
   have m4:¬4=n+1:=by omega
   have m4':¬n+1=4:=by omega
   have m3':¬n=3:=by omega
   have z0:¬n=0:=by omega
   first|refine J00 (J1x o (l.Coeffs[i]'hir) (args[i]'hi)) (by first|simp [J06,eid,nid];done|rfl) ?_|refine J01 (J1x o (l.Coeffs[i]'hir) (args[i]'hi)) (by first|simp [J06,eid,nid];done|rfl) ?_
   rintro r rfl
   cases ho:J0l o l.Coeffs[i] args[i]
   ·rw [ho] at hJ
    simp [J1h,J1s,J08,hk,e0,e1,e4,n0,n1,n4,n4',m0,m1,m4,m4',m3',z0]
    refine hret _ _ _ ?_
    simp [hk,←hJ,J1h,J1s,J08,J0k,m1,n1,z0]
   ·rename_i o'
    rw [ho] at hJ
    simp only at hJ
    simp [J1h,J08,hk,s36,hw,e0,e1,e4,n0,n1,n4,n4',m0,m1,m4,m4',m3',z0]
    exact hR _ _ _ (by simp [hk]) (by simp) ⟨by simp [e0,n0,m0],by simp [e1,n1,m1,z0],by omega,o',n+1,by simp,by simp [m3'],by omega,by omega,hJ⟩
  ·rintro s h n R hk s36 ⟨e0,e1,hn,o,id,e4,eid,hidn,hid,hJ⟩ hret hX
   simp at hk
   rw [List.drop_eq_nil_of_le (by omega)] at hJ
   simp only [J5w] at hJ
   simp [hk,s36]
   refine hX _ _ _ _ ?_
   have i1:¬1=id:=by omega
   have i1':¬id=1:=by omega
   simp [hk,e1,e4,eid,←hJ,J1h,J08,i1,i1']
set_option maxHeartbeats 1000000 in
theorem J82 (l:DLin) (args:List DLin):Holds Tryz.prog 269 [.agg (J06 l),.sl 2 (args.map J06)] (fun r=>r=J1h (J42 l args)):=by
 refine J1e Tryz.func269 rfl rfl fun hlm => ?_
 simp [J06] at hlm
 have hN:(args.length=0∧Jik args=0)∨∃ hz:0<args.length,Jik args=(args[0]'hz).Coeffs.length:=by
  cases args with
  | nil=>exact .inl ⟨rfl,rfl⟩
  | cons a rest=>exact .inr ⟨by simp,rfl⟩
 rcases hN with ⟨hz,hN⟩|⟨hz,hN⟩
 ·refine J03 Tryz.func269 a269_ok rfl (by simp [a269]) ?_
  simp [a269,J06]
  simp [hz]
  intro hnil
  subst hnil
  first|refine J00 (J1o l.Const 0) (by first|simp;done|rfl) ?_|refine J01 (J1o l.Const 0) (by first|simp;done|rfl) ?_
  rintro r rfl
  simp [J08]
  first|refine J00 (J10 l 0) (by first|simp [J06];done|rfl) ?_|refine J01 (J10 l 0) (by first|simp [J06];done|rfl) ?_
  rintro r rfl
  cases h1:J1j l 0
  ·have e:J42 l []=Option.none:=by simp [J42,h1]
   simp [e,J1h,J1s,J08,J0k]
  have e:J42 l []=some (J05 l.Const 0):=by rw [Jeu h1];simp [Jik,J5w]
  rw [e]
  simp
  first|refine J00 (J10 (J05 l.Const 0) 0) (by first|simp [J06];done|rfl) ?_|refine J01 (J10 (J05 l.Const 0) 0) (by first|simp [J06];done|rfl) ?_
  rintro r rfl
  have h2:=(J7d (n:=0) (Ji4 h1) (by decide)).2
  rw [show ((0:Nat):Int)=0 from rfl] at h2
  simp [h2]
  refine J4h [1,4,5,6,7] 8 0 (fun i s=>True) (by decide) (by simp) trivial ?_ ?_
  ·intro i s h R hi;omega
  ·rintro s h R hk s8 _ hh _ hX
   simp at hk hh
   simp [hk,s8,hh]
   refine hX _ _ ?_
   simp [hk,hh,J1h,J08]
 ·refine J03 Tryz.func269 a269_ok rfl (by simp [a269]) ?_
  simp [a269,J06]
  have hne:¬args=[]:=by rintro rfl;simp at hz
  simp [hz,hne,J06]
  intro _ _
  first|refine J00 (J1o l.Const (args[0].Coeffs.length:Int)) (by first|simp;done|rfl) ?_|refine J01 (J1o l.Const (args[0].Coeffs.length:Int)) (by first|simp;done|rfl) ?_
  rintro r rfl
  simp [J08]
  intro _
  first|refine J00 (J10 l args.length) (by first|simp [J06];done|rfl) ?_|refine J01 (J10 l args.length) (by first|simp [J06];done|rfl) ?_
  rintro r rfl
  cases h1:J1j l args.length
  ·have e:J42 l args=Option.none:=by simp [J42,h1]
   simp [e,J1h,J1s,J08,J0k]
  have e:J42 l args=if J1j (J05 l.Const (args[0].Coeffs.length:Int)) (args[0].Coeffs.length:Int) then J5w (l.Coeffs.zip args) (J05 l.Const (args[0].Coeffs.length:Int)) else Option.none:=by
   unfold J42;rw [h1,hN,Bool.true_and]
  rw [e]
  have hla:=J1t h1
  simp
  first|refine J00 (J10 (J05 l.Const (args[0].Coeffs.length:Int)) (args[0].Coeffs.length:Int)) (by first|simp [J06];done|rfl) ?_|refine J01 (J10 (J05 l.Const (args[0].Coeffs.length:Int)) (args[0].Coeffs.length:Int)) (by first|simp [J06];done|rfl) ?_
  rintro r rfl
  generalize hc3:J1j (J05 l.Const (args[0].Coeffs.length:Int)) (args[0].Coeffs.length:Int)=b3
  cases b3
  ·simp [J1h,J1s,J08,J0k]
  simp
  have hzl:(l.Coeffs.zip args).length=args.length:=by simp;omega
  generalize hG:J5w (l.Coeffs.zip args) (J05 l.Const (args[0].Coeffs.length:Int))=G
  refine J0m [1,2,4,6,7] 8 args.length (fun i s h n=>h 0=some ⟨true,2,[[.int .i64 l.Const,.sl 1 (J0k l.Coeffs)]]⟩∧h 1=some ⟨true,2,[[.int .i64 0,.nil 1]]⟩∧3<n ∧
   ∃ (o:DLin) (id:Nat),h 3=some ⟨true,2,[[.int .i64 o.Const,.ref id 0 o.Coeffs.length]]⟩∧h id=some ⟨false,1,J0k o.Coeffs⟩∧id<n∧(id=2∨3<id)∧J5w ((l.Coeffs.zip args).drop i) o=G)
   hlm.2 (by simp) ⟨by simp,by simp,by simp,J05 l.Const (args[0].Coeffs.length:Int),2,by simp,by simp,by omega,by omega,by simpa using hG⟩ ?_ ?_
  ·rintro i s h n R hi hg hk s8 hw ⟨e0,e1,hn,o,id,e3,eid,hidn,hid,hJ⟩ hR hret _
   simp at hk
   have hir:i<l.Coeffs.length:=by omega
   rw [List.drop_eq_getElem_cons (by omega:i<(l.Coeffs.zip args).length)] at hJ
   simp only [J5w,List.getElem_zip] at hJ
   have n0:¬0=n:=by omega
   have n1:¬1=n:=by omega
   have n3:¬3=n:=by omega
   have n3':¬n=3:=by omega
   have nid:¬id=n:=by omega
   have m0:¬0=n+1:=by omega
   have m1:¬1=n+1:=by omega
   have m3:¬3=n+1:=by omega
   have m3':¬n+1=3:=by omega
   have mid:¬id=n+1:=by omega
   have z0:¬n=0:=by omega
   have z2:¬n=2:=by omega
   simp [hk,s8,hi,hg,hir,e0,e1,e3,eid]
   intro _
   constructor
   ·skip
    first|refine J00 (J0q o (l.Coeffs[i]'hir) (args[i]'hi)) (by first|simp [J06,eid];done|rfl) ?_|refine J01 (J0q o (l.Coeffs[i]'hir) (args[i]'hi)) (by first|simp [J06,eid];done|rfl) ?_
    rintro r rfl
    cases ho:J0l o l.Coeffs[i] args[i]
    ·rw [ho] at hJ
     simp [J1h,J1s,J08,hk,s8,hi,e0,e1,e3,n0,n1,n3,n3',z0,z2]
     refine hret _ _ _ ?_
     simp [hk,←hJ,J1h,J1s,J08,J0k]
    ·rename_i o'
     rw [ho] at hJ
     simp only at hJ
     simp [J1h,J08,hk,s8,hi,hw,e0,e1,e3,n0,n1,n3,n3',z0,z2]
     exact hR _ _ _ (by simp [hk]) (by simp) ⟨by simp [e0,n0],by simp [e1,n1,z0],by omega,o',n,by simp,by simp [n3'],by omega,by omega,hJ⟩
   ·skip
    first|refine J00 (J0q o (l.Coeffs[i]'hir) (args[i]'hi)) (by first|simp [J06,eid,mid,nid];done|rfl) ?_|refine J01 (J0q o (l.Coeffs[i]'hir) (args[i]'hi)) (by first|simp [J06,eid,mid,nid];done|rfl) ?_
    rintro r rfl
    cases ho:J0l o l.Coeffs[i] args[i]
    ·rw [ho] at hJ
     simp [J1h,J1s,J08,hk,s8,hi,e0,e1,e3,n0,n1,n3,n3',z0,z2]
     refine hret _ _ _ ?_
     simp [hk,←hJ,J1h,J1s,J08,J0k]
    ·rename_i o'
     rw [ho] at hJ
     simp only at hJ
     simp [J1h,J08,hk,s8,hi,hw,e0,e1,e3,n0,n1,n3,n3',z0,z2]
     exact hR _ _ _ (by simp [hk]) (by simp) ⟨by simp [e0,n0],by simp [e1,n1,z0],by omega,o',n+1,by simp,by simp [z2],by omega,by omega,hJ⟩
  ·rintro s h n R hk s8 ⟨e0,e1,hn,o,id,e3,eid,hidn,hid,hJ⟩ hret hX
   simp at hk
   rw [List.drop_eq_nil_of_le (by omega)] at hJ
   simp only [J5w] at hJ
   simp [hk,s8]
   intro _
   refine hX _ _ _ _ ?_
   have i1:¬1=id:=by omega
   have i1':¬id=1:=by omega
   simp [hk,e1,e3,eid,←hJ,J1h,J08,i1,i1']
def a189:AFn:= ⟨32,[(.c 4 true 2),.t 5],(.seq (.reg [⟨some 2,.boxv (.t 0),no⟩,⟨some 4,.box [(.int .i64 0),(.nil 1)],no⟩,⟨some 5,.mv (.k (.bool false)),no⟩]) (.seq (.reg [⟨some 10,.fld 0 (.t 2),no⟩,⟨some 11,.ld false 1 (.t 10),no⟩,⟨some 12,.mv (.t 1),no⟩,⟨some 13,.call (.k (.fn (.func 271) [] [])) [.t 11,.t 12],no⟩,⟨some 9,.mv (.t 13),no⟩,⟨some 14,.ext (.t 9) 0,no⟩,⟨some 15,.ext (.t 9) 1,no⟩,⟨some 6,.mv (.t 14),no⟩,⟨some 7,.mv (.t 15),no⟩]) (.seq (.seq (.reg [⟨some 16,.mv (.t 7),no⟩,⟨some 17,.un .not (.t 16),no⟩,⟨some 18,.mv (.t 17),no⟩,⟨some 19,.ld true 2 (.t 2),(some (18,false))⟩,⟨some 20,.fld 1 (.t 2),(some (18,false))⟩,⟨some 21,.ld false 1 (.t 20),(some (18,false))⟩,⟨some 22,.len false (.t 21),(some (18,false))⟩,⟨some 23,.call (.k (.fn (.func 146) [] [])) [.t 19,.t 22],(some (18,false))⟩,⟨some 24,.un .not (.t 23),(some (18,false))⟩,⟨some 25,.pick (.t 18) (.k (.bool true)) (.t 24),no⟩]) (.cond (.t 25) (.seq (.reg [⟨some 26,.build [(.int .i64 0),(.nil 1)] [],no⟩,⟨no,.st 2 (.t 4) (.t 26),no⟩,⟨some 5,.mv (.k (.bool false)),no⟩]) .ret) .skip)) (.seq (.reg [⟨some 27,.ld true 2 (.t 2),no⟩,⟨some 28,.call (.k (.fn (.func 86) [] [])) [.t 27],no⟩,⟨some 8,.box [(.int .i64 0),(.nil 1)],no⟩,⟨no,.st 2 (.t 8) (.t 28),no⟩]) (.seq (.reg [⟨some 29,.mv (.t 6),no⟩,⟨some 30,.fld 0 (.t 8),no⟩,⟨no,.st 1 (.t 30) (.t 29),no⟩]) (.seq (.reg [⟨some 31,.ld true 2 (.t 8),no⟩,⟨no,.st 2 (.t 4) (.t 31),no⟩,⟨some 5,.mv (.k (.bool true)),no⟩]) .ret))))))⟩
theorem a189_ok:J09 Tryz.prog Tryz.f189=some a189:=by kernel_rfl
def J61 (l:DLin) (k:Int):Option DLin:=if (Jgy l.Const k).2&&J1j l l.Coeffs.length then some ⟨(Jgy l.Const k).1,l.Coeffs⟩ else Option.none
theorem Jaj (l:DLin) (k:Int):Holds Tryz.prog 189 [.agg (J06 l),i64 k] (fun r=>r=J1h (J61 l k)):=by
 refine J03 Tryz.func189 a189_ok rfl (by simp [a189]) ?_
 simp [a189,J06]
 first|refine J00 (J7p l.Const k) (by first|simp;done|rfl) ?_|refine J01 (J7p l.Const k) (by first|simp;done|rfl) ?_
 rintro r rfl
 simp [J44]
 unfold J61
 cases h1:(Jgy l.Const k).2
 ·simp [J1h,J1s,J08,J0k]
 simp
 intro _
 first|refine J00 (J1m l l.Coeffs.length) (by first|simp [J06];done|rfl) ?_|refine J01 (J1m l l.Coeffs.length) (by first|simp [J06];done|rfl) ?_
 rintro r rfl
 cases h2:J1j l l.Coeffs.length
 ·simp [J1h,J1s,J08,J0k]
 simp
 have hl:=J1t h2
 first|refine J00 (J55 l (by omega)) (by first|simp [J06,J08,J1h];done|rfl) ?_|refine J01 (J55 l (by omega)) (by first|simp [J06,J08,J1h];done|rfl) ?_
 rintro r rfl
 simp [J06,J08,J1h]
def a191:AFn:= ⟨29,[(.c 6 true 2),.t 7],(.seq (.reg [⟨some 3,.boxv (.t 0),no⟩,⟨some 6,.box [(.int .i64 0),(.nil 1)],no⟩,⟨some 7,.mv (.k (.bool false)),no⟩]) (.seq (.seq (.reg [⟨some 8,.mv (.t 1),no⟩,⟨some 9,.len false (.t 8),no⟩,⟨some 10,.bin .gtr (.t 9) (.k (.int .i64 0)),no⟩]) (.cond (.t 10) (.seq (.reg [⟨some 11,.ld true 2 (.t 3),no⟩,⟨some 12,.mv (.t 1),no⟩,⟨some 13,.call (.k (.fn (.func 272) [] [])) [.t 11,.t 12],no⟩,⟨some 14,.ext (.t 13) 0,no⟩,⟨some 15,.ext (.t 13) 1,no⟩,⟨no,.st 2 (.t 6) (.t 14),no⟩,⟨some 7,.mv (.t 15),no⟩]) .ret) .skip)) (.seq (.seq (.reg [⟨some 16,.ld true 2 (.t 3),no⟩,⟨some 17,.call (.k (.fn (.func 146) [] [])) [.t 16,(.k (.int .i64 0))],no⟩,⟨some 18,.un .not (.t 17),no⟩,⟨some 19,.mv (.t 18),no⟩,⟨some 20,.mv (.t 2),(some (19,false))⟩,⟨some 21,.call (.k (.fn (.func 102) [] [])) [.t 20,(.k (.int .i64 0)),(.k (.int .i64 8))],(some (19,false))⟩,⟨some 22,.un .not (.t 21),(some (19,false))⟩,⟨some 23,.pick (.t 19) (.k (.bool true)) (.t 22),no⟩]) (.cond (.t 23) (.seq (.reg [⟨some 24,.build [(.int .i64 0),(.nil 1)] [],no⟩,⟨no,.st 2 (.t 6) (.t 24),no⟩,⟨some 7,.mv (.k (.bool false)),no⟩]) .ret) .skip)) (.seq (.reg [⟨some 25,.fld 0 (.t 3),no⟩,⟨some 26,.ld false 1 (.t 25),no⟩,⟨some 27,.mv (.t 2),no⟩,⟨some 28,.call (.k (.fn (.func 178) [] [])) [.t 26,.t 27],no⟩,⟨no,.st 2 (.t 6) (.t 28),no⟩,⟨some 7,.mv (.k (.bool true)),no⟩]) .ret))))⟩
theorem a191_ok:J09 Tryz.prog Tryz.f191=some a191:=by kernel_rfl
def a185:AFn:= ⟨36,[(.c 6 true 2),.t 7],(.seq (.reg [⟨some 3,.boxv (.t 0),no⟩,⟨some 4,.boxv (.t 1),no⟩,⟨some 6,.box [(.int .i64 0),(.nil 1)],no⟩,⟨some 7,.mv (.k (.bool false)),no⟩]) (.seq (.seq (.reg [⟨some 9,.mv (.t 2),no⟩,⟨some 10,.len false (.t 9),no⟩,⟨some 11,.bin .gtr (.t 10) (.k (.int .i64 0)),no⟩]) (.cond (.t 11) (.seq (.reg [⟨some 12,.ld true 2 (.t 4),no⟩,⟨some 13,.mv (.t 2),no⟩,⟨some 14,.call (.k (.fn (.func 269) [] [])) [.t 12,.t 13],no⟩,⟨some 15,.ext (.t 14) 0,no⟩,⟨some 16,.ext (.t 14) 1,no⟩,⟨no,.st 2 (.t 6) (.t 15),no⟩,⟨some 7,.mv (.t 16),no⟩]) .ret) .skip)) (.seq (.reg [⟨some 17,.fld 0 (.t 4),no⟩,⟨some 18,.ld false 1 (.t 17),no⟩,⟨some 19,.fld 0 (.t 3),no⟩,⟨some 20,.fld 0 (.t 19),no⟩,⟨some 21,.ld false 1 (.t 20),no⟩,⟨some 22,.call (.k (.fn (.func 99) [] [])) [.t 18,.t 21],no⟩,⟨some 8,.box [(.int .i64 0),(.nil 1)],no⟩,⟨no,.st 2 (.t 8) (.t 22),no⟩]) (.seq (.seq (.reg [⟨some 23,.ld true 2 (.t 4),no⟩,⟨some 24,.call (.k (.fn (.func 179) [] [])) [.t 23,(.k (.int .i64 0))],no⟩,⟨some 25,.un .not (.t 24),no⟩,⟨some 26,.mv (.t 25),no⟩,⟨some 27,.ld true 2 (.t 8),(some (26,false))⟩,⟨some 28,.fld 0 (.t 3),(some (26,false))⟩,⟨some 29,.fld 0 (.t 28),(some (26,false))⟩,⟨some 30,.ld false 1 (.t 29),(some (26,false))⟩,⟨some 31,.call (.k (.fn (.func 179) [] [])) [.t 27,.t 30],(some (26,false))⟩,⟨some 32,.un .not (.t 31),(some (26,false))⟩,⟨some 33,.pick (.t 26) (.k (.bool true)) (.t 32),no⟩]) (.cond (.t 33) (.seq (.reg [⟨some 34,.build [(.int .i64 0),(.nil 1)] [],no⟩,⟨no,.st 2 (.t 6) (.t 34),no⟩,⟨some 7,.mv (.k (.bool false)),no⟩]) .ret) .skip)) (.seq (.reg [⟨some 35,.ld true 2 (.t 8),no⟩,⟨no,.st 2 (.t 6) (.t 35),no⟩,⟨some 7,.mv (.k (.bool true)),no⟩]) .ret)))))⟩
theorem a185_ok:J09 Tryz.prog Tryz.f185=some a185:=by kernel_rfl
def a177:AFn:= ⟨28,[(.c 6 true 2),.t 7],(.seq (.reg [⟨some 3,.boxv (.t 0),no⟩,⟨some 4,.boxv (.t 1),no⟩,⟨some 6,.box [(.int .i64 0),(.nil 1)],no⟩,⟨some 7,.mv (.k (.bool false)),no⟩]) (.seq (.seq (.reg [⟨some 8,.mv (.t 2),no⟩,⟨some 9,.fld 3 (.t 3),no⟩,⟨some 10,.ld false 1 (.t 9),no⟩,⟨some 11,.len false (.t 10),no⟩,⟨some 12,.bin .sub (.t 11) (.k (.int .i64 1)),no⟩,⟨some 13,.call (.k (.fn (.func 102) [] [])) [.t 8,(.k (.int .i64 0)),.t 12],no⟩,⟨some 14,.un .not (.t 13),no⟩]) (.cond (.t 14) (.seq (.reg [⟨some 15,.build [(.int .i64 0),(.nil 1)] [],no⟩,⟨no,.st 2 (.t 6) (.t 15),no⟩,⟨some 7,.mv (.k (.bool false)),no⟩]) .ret) .skip)) (.seq (.draw (.op ⟨some 16,.ld true 2 (.t 4),no⟩ (.op ⟨some 17,.fld 3 (.t 3),no⟩ (.op ⟨some 18,.ld false 1 (.t 17),no⟩ (.op ⟨some 19,.mv (.t 2),no⟩ (.op ⟨some 20,.ixa 1 (.t 18) (.t 19),no⟩ (.op ⟨some 21,.ld false 1 (.t 20),no⟩ (.op ⟨some 22,.fld 0 (.t 3),no⟩ (.op ⟨some 23,.fld 0 (.t 22),no⟩ (.op ⟨some 24,.ld false 1 (.t 23),no⟩ (.op ⟨some 25,.call (.k (.fn (.func 191) [] [])) [.t 16,.t 21,.t 24],no⟩ (.op ⟨some 26,.ext (.t 25) 0,no⟩ (.op ⟨some 27,.ext (.t 25) 1,no⟩ (.hop ⟨no,.st 2 (.t 6) (.t 26),no⟩ [] (.op ⟨some 7,.mv (.t 27),no⟩ .fin))))))))))))))) .ret)))⟩
theorem a177_ok:J09 Tryz.prog Tryz.f177=some a177:=by kernel_rfl
def a174:AFn:= ⟨26,[(.c 6 true 2),.t 7],(.seq (.reg [⟨some 3,.boxv (.t 0),no⟩,⟨some 4,.boxv (.t 1),no⟩,⟨some 6,.box [(.int .i64 0),(.nil 1)],no⟩,⟨some 7,.mv (.k (.bool false)),no⟩]) (.seq (.seq (.reg [⟨some 8,.mv (.t 2),no⟩,⟨some 9,.fld 3 (.t 3),no⟩,⟨some 10,.ld false 1 (.t 9),no⟩,⟨some 11,.len false (.t 10),no⟩,⟨some 12,.bin .sub (.t 11) (.k (.int .i64 1)),no⟩,⟨some 13,.call (.k (.fn (.func 183) [] [])) [.t 8,(.k (.int .i64 0)),.t 12],no⟩,⟨some 14,.un .not (.t 13),no⟩]) (.cond (.t 14) (.seq (.reg [⟨some 15,.build [(.int .i64 0),(.nil 1)] [],no⟩,⟨no,.st 2 (.t 6) (.t 15),no⟩,⟨some 7,.mv (.k (.bool false)),no⟩]) .ret) .skip)) (.seq (.draw (.op ⟨some 16,.ld true 6 (.t 3),no⟩ (.op ⟨some 17,.ld true 2 (.t 4),no⟩ (.op ⟨some 18,.fld 3 (.t 3),no⟩ (.op ⟨some 19,.ld false 1 (.t 18),no⟩ (.op ⟨some 20,.mv (.t 2),no⟩ (.op ⟨some 21,.ixa 1 (.t 19) (.t 20),no⟩ (.op ⟨some 22,.ld false 1 (.t 21),no⟩ (.op ⟨some 23,.call (.k (.fn (.func 185) [] [])) [.t 16,.t 17,.t 22],no⟩ (.op ⟨some 24,.ext (.t 23) 0,no⟩ (.op ⟨some 25,.ext (.t 23) 1,no⟩ (.hop ⟨no,.st 2 (.t 6) (.t 24),no⟩ [] (.op ⟨some 7,.mv (.t 25),no⟩ .fin))))))))))))) .ret)))⟩
theorem a174_ok:J09 Tryz.prog Tryz.f174=some a174:=by kernel_rfl
def J1w (l:DLin) (args:List DLin) (n:Int):Option DLin:=
 if 0<args.length then J42 l args else if J1j l 0&&inR n 0 8 then some (J05 l.Const n) else Option.none
def J60 (m:DModel) (l:DLin) (call:Int):Option DLin:=
 if inR call 0 ((m.Args.length:Int) - 1) then J1w l (m.Args.getD call.toNat []) m.System.N else Option.none
theorem J2c (l:DLin) (args:List DLin) (n:Int):Holds Tryz.prog 191 [.agg (J06 l),.sl 2 (args.map J06),i64 n] (fun r=>r=J1h (J1w l args n)):=by
 refine J03 Tryz.func191 a191_ok rfl (by simp [a191]) ?_
 simp [a191,J06]
 unfold J1w
 intro _
 by_cases h:0<args.length
 ·have hne:¬args=[]:=by rintro rfl;simp at h
  simp [h,hne]
  first|refine J00 (J8z l args) (by first|simp [J06];done|rfl) ?_|refine J01 (J8z l args) (by first|simp [J06];done|rfl) ?_
  rintro r rfl
  simp [J0o,J08]
 have hne:args=[]:=List.eq_nil_of_length_eq_zero (by omega)
 subst hne
 simp
 first|refine J00 (J1m l 0) (by first|simp [J06];done|rfl) ?_|refine J01 (J1m l 0) (by first|simp [J06];done|rfl) ?_
 rintro r rfl
 cases h1:J1j l 0
 ·simp [J1h,J1s,J08,J0k]
 simp
 first|refine J00 (J1y n 0 8) (by first|simp;done|rfl) ?_|refine J01 (J1y n 0 8) (by first|simp;done|rfl) ?_
 rintro r rfl
 cases h2:inR n 0 8
 ·simp [J1h,J1s,J08,J0k]
 simp
 first|refine J00 (J20 l.Const n) (by first|simp;done|rfl) ?_|refine J01 (J20 l.Const n) (by first|simp;done|rfl) ?_
 rintro r rfl
 simp [J1h,J08]
theorem J4p (m:DModel) (l:DLin) (args:List DLin):Holds Tryz.prog 185 [.agg (J1a m),.agg (J06 l),.sl 2 (args.map J06)] (fun r=>r=J1h (J1w l args m.System.N)):=by
 refine J03 Tryz.func185 a185_ok rfl (by simp [a185]) ?_
 simp [a185,J06,J1a]
 unfold J1w
 intro _
 by_cases h:0<args.length
 ·have hne:¬args=[]:=by rintro rfl;simp at h
  simp [h,hne]
  first|refine J00 (J82 l args) (by first|simp [J06];done|rfl) ?_|refine J01 (J82 l args) (by first|simp [J06];done|rfl) ?_
  rintro r rfl
  simp [J0o,J08]
 have hne:args=[]:=List.eq_nil_of_length_eq_zero (by omega)
 subst hne
 simp
 first|refine J00 (J1o l.Const m.System.N) (by first|simp;done|rfl) ?_|refine J01 (J1o l.Const m.System.N) (by first|simp;done|rfl) ?_
 rintro r rfl
 simp [J08]
 first|refine J00 (J10 l 0) (by first|simp [J06];done|rfl) ?_|refine J01 (J10 l 0) (by first|simp [J06];done|rfl) ?_
 rintro r rfl
 cases h1:J1j l 0
 ·simp [J1h,J1s,J08,J0k]
 simp
 first|refine J00 (J10 (J05 l.Const m.System.N) m.System.N) (by first|simp [J06];done|rfl) ?_|refine J01 (J10 (J05 l.Const m.System.N) m.System.N) (by first|simp [J06];done|rfl) ?_
 rintro r rfl
 have hv:J1j (J05 l.Const m.System.N) m.System.N=inR m.System.N 0 8:=by
  cases h2:inR m.System.N 0 8
  ·simp [J1j,h2]
  ·have h3:0≤m.System.N∧m.System.N≤8:=by simpa [inR] using h2
   have:=(J7d (n:=m.System.N.toNat) (Ji4 h1) (by omega)).2
   rwa [show ((m.System.N.toNat:Nat):Int)=m.System.N by omega] at this
 rw [hv]
 cases h2:inR m.System.N 0 8
 ·simp [J1h,J1s,J08,J0k]
 simp [J1h,J08]
theorem J66 (m:DModel) (l:DLin) (call:Int):Holds Tryz.prog 177 [.agg (J1a m),.agg (J06 l),i64 call] (fun r=>r=J1h (J60 m l call)):=by
 refine J1e Tryz.func177 rfl rfl fun hlm => ?_
 simp [J06,J1a] at hlm
 refine J03 Tryz.func177 a177_ok rfl (by simp [a177]) ?_
 simp [a177,J06,J1a]
 intro hl
 unfold LIM at hl
 rw [J0p (by omega)]
 unfold J60
 first|refine J00 (J1y call 0 ((m.Args.length:Int) - 1)) (by first|simp;done|rfl) ?_|refine J01 (J1y call 0 ((m.Args.length:Int) - 1)) (by first|simp;done|rfl) ?_
 rintro r rfl
 cases h1:inR call 0 ((m.Args.length:Int) - 1)
 ·simp [J1h,J1s,J08,J0k]
 have hc:0≤call∧call≤(m.Args.length:Int) - 1:=by simpa [inR] using h1
 obtain ⟨c,rfl⟩:∃ c:Nat,call=c:=⟨call.toNat,by omega⟩
 have hcl:c<m.Args.length:=by omega
 simp [hcl,Jd1]
 first|refine J00 (J2c l (m.Args[c]'hcl) m.System.N) (by first|simp [J06];done|rfl) ?_|refine J01 (J2c l (m.Args[c]'hcl) m.System.N) (by first|simp [J06];done|rfl) ?_
 rintro r rfl
 simp [J0o,J08]
theorem J5h (m:DModel) (l:DLin) (call:Int):Holds Tryz.prog 174 [.agg (J1a m),.agg (J06 l),i64 call] (fun r=>r=J1h (J60 m l call)):=by
 refine J1e Tryz.func174 rfl rfl fun hlm => ?_
 simp [J06,J1a] at hlm
 refine J03 Tryz.func174 a174_ok rfl (by simp [a174]) ?_
 simp [a174,J06,J1a]
 intro hl
 unfold LIM at hl
 rw [J0p (by omega)]
 unfold J60
 first|refine J00 (J5x call 0 ((m.Args.length:Int) - 1)) (by first|simp;done|rfl) ?_|refine J01 (J5x call 0 ((m.Args.length:Int) - 1)) (by first|simp;done|rfl) ?_
 rintro r rfl
 cases h1:inR call 0 ((m.Args.length:Int) - 1)
 ·simp [J1h,J1s,J08,J0k]
 have hc:0≤call∧call≤(m.Args.length:Int) - 1:=by simpa [inR] using h1
 obtain ⟨c,rfl⟩:∃ c:Nat,call=c:=⟨call.toNat,by omega⟩
 have hcl:c<m.Args.length:=by omega
 simp [hcl,Jd1]
 first|refine J00 (J4p m l (m.Args[c]'hcl)) (by first|simp [J06,J1a];done|rfl) ?_|refine J01 (J4p m l (m.Args[c]'hcl)) (by first|simp [J06,J1a];done|rfl) ?_
 rintro r rfl
 simp [J0o,J08]
end Go.Proofs.YtoclolkigjbcgaaGreat

/- Contracts: whole numbers within limits, linear expressions. -/
import Derived.Test.YtoclolkigjbcgaaGreatKT1
import Derived.Test.YtoclolkigjbcgaaGreatProg
namespace Go.Proofs.YtoclolkigjbcgaaGreat
set_option maxRecDepth 40000
set_option maxHeartbeats 4000000
open Go Go.RowKit Go.Proofs
set_option linter.all false
def a102:AFn:= ⟨15,[.t 6],(.seq (.reg [⟨some 6,.mv (.k (.bool false)),no⟩]) (.seq (.reg [⟨some 7,.mv (.t 0),no⟩,⟨some 8,.mv (.t 1),no⟩,⟨some 9,.bin .geq (.t 7) (.t 8),no⟩,⟨some 10,.mv (.t 9),no⟩,⟨some 11,.mv (.t 0),(some (10,true))⟩,⟨some 12,.mv (.t 2),(some (10,true))⟩,⟨some 13,.bin .leq (.t 11) (.t 12),(some (10,true))⟩,⟨some 14,.pick (.t 10) (.t 13) (.k (.bool false)),no⟩,⟨some 6,.mv (.t 14),no⟩]) .ret))⟩
theorem a102_ok:J0a Tryz.prog Tryz.f102=some a102:=by kernel_rfl
def a232:AFn:= ⟨5,[.t 2],(.seq (.reg [⟨some 2,.mv (.k (.bool false)),no⟩]) (.seq (.reg [⟨some 3,.mv (.t 0),no⟩,⟨some 4,.call (.k (.fn (.func 102) [] [])) [.t 3,(.k (.int .i64 (-1000000000))),(.k (.int .i64 1000000000))],no⟩,⟨some 2,.mv (.t 4),no⟩]) .ret))⟩
theorem a232_ok:J0a Tryz.prog Tryz.f232=some a232:=by kernel_rfl
def a183:AFn:= ⟨15,[.t 6],(.seq (.reg [⟨some 6,.mv (.k (.bool false)),no⟩]) (.seq (.reg [⟨some 7,.mv (.t 0),no⟩,⟨some 8,.mv (.t 1),no⟩,⟨some 9,.bin .geq (.t 7) (.t 8),no⟩,⟨some 10,.mv (.t 9),no⟩,⟨some 11,.mv (.t 0),(some (10,true))⟩,⟨some 12,.mv (.t 2),(some (10,true))⟩,⟨some 13,.bin .leq (.t 11) (.t 12),(some (10,true))⟩,⟨some 14,.pick (.t 10) (.t 13) (.k (.bool false)),no⟩,⟨some 6,.mv (.t 14),no⟩]) .ret))⟩
theorem a183_ok:J0a Tryz.prog Tryz.f183=some a183:=by kernel_rfl
def a181:AFn:= ⟨5,[.t 2],(.seq (.reg [⟨some 2,.mv (.k (.bool false)),no⟩]) (.seq (.reg [⟨some 3,.mv (.t 0),no⟩,⟨some 4,.call (.k (.fn (.func 183) [] [])) [.t 3,(.k (.int .i64 (-1000000000))),(.k (.int .i64 1000000000))],no⟩,⟨some 2,.mv (.t 4),no⟩]) .ret))⟩
theorem a181_ok:J0a Tryz.prog Tryz.f181=some a181:=by kernel_rfl
def a271:AFn:= ⟨24,[.t 4,.t 5],(.seq (.reg [⟨some 4,.mv (.k (.int .i64 0)),no⟩,⟨some 5,.mv (.k (.bool false)),no⟩]) (.seq (.seq (.reg [⟨some 6,.mv (.t 0),no⟩,⟨some 7,.call (.k (.fn (.func 232) [] [])) [.t 6],no⟩,⟨some 8,.un .not (.t 7),no⟩,⟨some 9,.mv (.t 8),no⟩,⟨some 10,.mv (.t 1),(some (9,false))⟩,⟨some 11,.call (.k (.fn (.func 232) [] [])) [.t 10],(some (9,false))⟩,⟨some 12,.un .not (.t 11),(some (9,false))⟩,⟨some 13,.pick (.t 9) (.k (.bool true)) (.t 12),no⟩,⟨some 14,.mv (.t 13),no⟩,⟨some 15,.mv (.t 0),(some (14,false))⟩,⟨some 16,.mv (.t 1),(some (14,false))⟩,⟨some 17,.bin .add (.t 15) (.t 16),(some (14,false))⟩,⟨some 18,.call (.k (.fn (.func 232) [] [])) [.t 17],(some (14,false))⟩,⟨some 19,.un .not (.t 18),(some (14,false))⟩,⟨some 20,.pick (.t 14) (.k (.bool true)) (.t 19),no⟩]) (.cond (.t 20) (.seq (.reg [⟨some 4,.mv (.k (.int .i64 0)),no⟩,⟨some 5,.mv (.k (.bool false)),no⟩]) .ret) .skip)) (.seq (.reg [⟨some 21,.mv (.t 0),no⟩,⟨some 22,.mv (.t 1),no⟩,⟨some 23,.bin .add (.t 21) (.t 22),no⟩,⟨some 4,.mv (.t 23),no⟩,⟨some 5,.mv (.k (.bool true)),no⟩]) .ret)))⟩
theorem a271_ok:J0a Tryz.prog Tryz.f271=some a271:=by kernel_rfl
def a308:AFn:= ⟨24,[.t 4,.t 5],(.seq (.reg [⟨some 4,.mv (.k (.int .i64 0)),no⟩,⟨some 5,.mv (.k (.bool false)),no⟩]) (.seq (.seq (.reg [⟨some 6,.mv (.t 0),no⟩,⟨some 7,.call (.k (.fn (.func 232) [] [])) [.t 6],no⟩,⟨some 8,.un .not (.t 7),no⟩,⟨some 9,.mv (.t 8),no⟩,⟨some 10,.mv (.t 1),(some (9,false))⟩,⟨some 11,.call (.k (.fn (.func 232) [] [])) [.t 10],(some (9,false))⟩,⟨some 12,.un .not (.t 11),(some (9,false))⟩,⟨some 13,.pick (.t 9) (.k (.bool true)) (.t 12),no⟩,⟨some 14,.mv (.t 13),no⟩,⟨some 15,.mv (.t 0),(some (14,false))⟩,⟨some 16,.mv (.t 1),(some (14,false))⟩,⟨some 17,.bin .mul (.t 15) (.t 16),(some (14,false))⟩,⟨some 18,.call (.k (.fn (.func 232) [] [])) [.t 17],(some (14,false))⟩,⟨some 19,.un .not (.t 18),(some (14,false))⟩,⟨some 20,.pick (.t 14) (.k (.bool true)) (.t 19),no⟩]) (.cond (.t 20) (.seq (.reg [⟨some 4,.mv (.k (.int .i64 0)),no⟩,⟨some 5,.mv (.k (.bool false)),no⟩]) .ret) .skip)) (.seq (.reg [⟨some 21,.mv (.t 0),no⟩,⟨some 22,.mv (.t 1),no⟩,⟨some 23,.bin .mul (.t 21) (.t 22),no⟩,⟨some 4,.mv (.t 23),no⟩,⟨some 5,.mv (.k (.bool true)),no⟩]) .ret)))⟩
theorem a308_ok:J0a Tryz.prog Tryz.f308=some a308:=by kernel_rfl
def a264:AFn:= ⟨24,[.t 4,.t 5],(.seq (.reg [⟨some 4,.mv (.k (.int .i64 0)),no⟩,⟨some 5,.mv (.k (.bool false)),no⟩]) (.seq (.seq (.reg [⟨some 6,.mv (.t 0),no⟩,⟨some 7,.call (.k (.fn (.func 181) [] [])) [.t 6],no⟩,⟨some 8,.un .not (.t 7),no⟩,⟨some 9,.mv (.t 8),no⟩,⟨some 10,.mv (.t 1),(some (9,false))⟩,⟨some 11,.call (.k (.fn (.func 181) [] [])) [.t 10],(some (9,false))⟩,⟨some 12,.un .not (.t 11),(some (9,false))⟩,⟨some 13,.pick (.t 9) (.k (.bool true)) (.t 12),no⟩,⟨some 14,.mv (.t 13),no⟩,⟨some 15,.mv (.t 0),(some (14,false))⟩,⟨some 16,.mv (.t 1),(some (14,false))⟩,⟨some 17,.bin .add (.t 15) (.t 16),(some (14,false))⟩,⟨some 18,.call (.k (.fn (.func 181) [] [])) [.t 17],(some (14,false))⟩,⟨some 19,.un .not (.t 18),(some (14,false))⟩,⟨some 20,.pick (.t 14) (.k (.bool true)) (.t 19),no⟩]) (.cond (.t 20) (.seq (.reg [⟨some 4,.mv (.k (.int .i64 0)),no⟩,⟨some 5,.mv (.k (.bool false)),no⟩]) .ret) .skip)) (.seq (.reg [⟨some 21,.mv (.t 0),no⟩,⟨some 22,.mv (.t 1),no⟩,⟨some 23,.bin .add (.t 21) (.t 22),no⟩,⟨some 4,.mv (.t 23),no⟩,⟨some 5,.mv (.k (.bool true)),no⟩]) .ret)))⟩
theorem a264_ok:J0a Tryz.prog Tryz.f264=some a264:=by kernel_rfl
def a263:AFn:= ⟨24,[.t 4,.t 5],(.seq (.reg [⟨some 4,.mv (.k (.int .i64 0)),no⟩,⟨some 5,.mv (.k (.bool false)),no⟩]) (.seq (.seq (.reg [⟨some 6,.mv (.t 0),no⟩,⟨some 7,.call (.k (.fn (.func 181) [] [])) [.t 6],no⟩,⟨some 8,.un .not (.t 7),no⟩,⟨some 9,.mv (.t 8),no⟩,⟨some 10,.mv (.t 1),(some (9,false))⟩,⟨some 11,.call (.k (.fn (.func 181) [] [])) [.t 10],(some (9,false))⟩,⟨some 12,.un .not (.t 11),(some (9,false))⟩,⟨some 13,.pick (.t 9) (.k (.bool true)) (.t 12),no⟩,⟨some 14,.mv (.t 13),no⟩,⟨some 15,.mv (.t 0),(some (14,false))⟩,⟨some 16,.mv (.t 1),(some (14,false))⟩,⟨some 17,.bin .mul (.t 15) (.t 16),(some (14,false))⟩,⟨some 18,.call (.k (.fn (.func 181) [] [])) [.t 17],(some (14,false))⟩,⟨some 19,.un .not (.t 18),(some (14,false))⟩,⟨some 20,.pick (.t 14) (.k (.bool true)) (.t 19),no⟩]) (.cond (.t 20) (.seq (.reg [⟨some 4,.mv (.k (.int .i64 0)),no⟩,⟨some 5,.mv (.k (.bool false)),no⟩]) .ret) .skip)) (.seq (.reg [⟨some 21,.mv (.t 0),no⟩,⟨some 22,.mv (.t 1),no⟩,⟨some 23,.bin .mul (.t 21) (.t 22),no⟩,⟨some 4,.mv (.t 23),no⟩,⟨some 5,.mv (.k (.bool true)),no⟩]) .ret)))⟩
theorem a263_ok:J0a Tryz.prog Tryz.f263=some a263:=by kernel_rfl
def a274:AFn:= ⟨29,[.t 6,.t 7],(.seq (.reg [⟨some 6,.mv (.k (.int .i64 0)),no⟩,⟨some 7,.mv (.k (.bool false)),no⟩]) (.seq (.reg [⟨some 13,.mv (.t 1),no⟩,⟨some 14,.mv (.t 2),no⟩,⟨some 15,.call (.k (.fn (.func 308) [] [])) [.t 13,.t 14],no⟩,⟨some 12,.mv (.t 15),no⟩,⟨some 16,.ext (.t 12) 0,no⟩,⟨some 17,.ext (.t 12) 1,no⟩,⟨some 8,.mv (.t 16),no⟩,⟨some 9,.mv (.t 17),no⟩]) (.seq (.reg [⟨some 19,.mv (.t 0),no⟩,⟨some 20,.mv (.t 8),no⟩,⟨some 21,.call (.k (.fn (.func 271) [] [])) [.t 19,.t 20],no⟩,⟨some 18,.mv (.t 21),no⟩,⟨some 22,.ext (.t 18) 0,no⟩,⟨some 23,.ext (.t 18) 1,no⟩,⟨some 10,.mv (.t 22),no⟩,⟨some 11,.mv (.t 23),no⟩]) (.seq (.reg [⟨some 24,.mv (.t 10),no⟩,⟨some 25,.mv (.t 9),no⟩,⟨some 26,.mv (.t 25),no⟩,⟨some 27,.mv (.t 11),(some (26,true))⟩,⟨some 28,.pick (.t 26) (.t 27) (.k (.bool false)),no⟩,⟨some 6,.mv (.t 24),no⟩,⟨some 7,.mv (.t 28),no⟩]) .ret))))⟩
theorem a274_ok:J0a Tryz.prog Tryz.f274=some a274:=by kernel_rfl
def a182:AFn:= ⟨23,[.t 6,.t 7],(.seq (.reg [⟨some 6,.mv (.k (.int .i64 0)),no⟩,⟨some 7,.mv (.k (.bool false)),no⟩]) (.seq (.reg [⟨some 11,.mv (.t 1),no⟩,⟨some 12,.mv (.t 2),no⟩,⟨some 13,.call (.k (.fn (.func 263) [] [])) [.t 11,.t 12],no⟩,⟨some 10,.mv (.t 13),no⟩,⟨some 14,.ext (.t 10) 0,no⟩,⟨some 15,.ext (.t 10) 1,no⟩,⟨some 8,.mv (.t 14),no⟩,⟨some 9,.mv (.t 15),no⟩]) (.seq (.seq (.reg [⟨some 16,.mv (.t 9),no⟩,⟨some 17,.un .not (.t 16),no⟩]) (.cond (.t 17) (.seq (.reg [⟨some 6,.mv (.k (.int .i64 0)),no⟩,⟨some 7,.mv (.k (.bool false)),no⟩]) .ret) .skip)) (.seq (.reg [⟨some 18,.mv (.t 0),no⟩,⟨some 19,.mv (.t 8),no⟩,⟨some 20,.call (.k (.fn (.func 264) [] [])) [.t 18,.t 19],no⟩,⟨some 21,.ext (.t 20) 0,no⟩,⟨some 22,.ext (.t 20) 1,no⟩,⟨some 6,.mv (.t 21),no⟩,⟨some 7,.mv (.t 22),no⟩]) .ret))))⟩
theorem a182_ok:J0a Tryz.prog Tryz.f182=some a182:=by kernel_rfl
def a234:AFn:= ⟨6,[.t 2],(.seq (.reg [⟨some 2,.mv (.k (.bool false)),no⟩]) (.seq (.reg [⟨some 3,.mv (.t 0),no⟩,⟨some 4,.call (.k (.fn (.func 232) [] [])) [.t 3],no⟩,⟨some 5,.un .not (.t 4),no⟩,⟨some 2,.mv (.t 5),no⟩]) .ret))⟩
theorem a234_ok:J0a Tryz.prog Tryz.f234=some a234:=by kernel_rfl
def a146:AFn:= ⟨25,[.t 4],(.seq (.reg [⟨some 2,.boxv (.t 0),no⟩,⟨some 4,.mv (.k (.bool false)),no⟩]) (.seq (.reg [⟨some 5,.mv (.t 1),no⟩,⟨some 6,.call (.k (.fn (.func 102) [] [])) [.t 5,(.k (.int .i64 0)),(.k (.int .i64 8))],no⟩,⟨some 7,.mv (.t 6),no⟩,⟨some 8,.fld 1 (.t 2),(some (7,true))⟩,⟨some 9,.ld false 1 (.t 8),(some (7,true))⟩,⟨some 10,.len false (.t 9),(some (7,true))⟩,⟨some 11,.mv (.t 1),(some (7,true))⟩,⟨some 12,.bin .eql (.t 10) (.t 11),(some (7,true))⟩,⟨some 13,.pick (.t 7) (.t 12) (.k (.bool false)),no⟩,⟨some 14,.mv (.t 13),no⟩,⟨some 15,.fld 0 (.t 2),(some (14,true))⟩,⟨some 16,.ld false 1 (.t 15),(some (14,true))⟩,⟨some 17,.call (.k (.fn (.func 232) [] [])) [.t 16],(some (14,true))⟩,⟨some 18,.pick (.t 14) (.t 17) (.k (.bool false)),no⟩,⟨some 19,.mv (.t 18),no⟩,⟨some 20,.fld 1 (.t 2),(some (19,true))⟩,⟨some 21,.ld false 1 (.t 20),(some (19,true))⟩,⟨some 22,.call (.k (.fn (.func 233) [] [])) [.t 21,(.k (.fn (.func 234) [] []))],(some (19,true))⟩,⟨some 23,.un .not (.t 22),(some (19,true))⟩,⟨some 24,.pick (.t 19) (.t 23) (.k (.bool false)),no⟩,⟨some 4,.mv (.t 24),no⟩]) .ret))⟩
theorem a146_ok:J0a Tryz.prog Tryz.f146=some a146:=by kernel_rfl
def a179:AFn:= ⟨34,[.t 4],(.seq (.reg [⟨some 2,.boxv (.t 0),no⟩,⟨some 4,.mv (.k (.bool false)),no⟩]) (.seq (.seq (.reg [⟨some 5,.mv (.k (.int .i64 0)),no⟩]) (.blk 0 (.loop (.seq (.seq (.reg [⟨some 6,.mv (.t 5),no⟩,⟨some 7,.fld 1 (.t 2),no⟩,⟨some 8,.ld false 1 (.t 7),no⟩,⟨some 9,.len false (.t 8),no⟩,⟨some 10,.bin .lss (.t 6) (.t 9),no⟩]) (.cond (.t 10) .skip (.exit 0))) (.seq (.blk 1 (.seq (.reg [⟨some 13,.fld 1 (.t 2),no⟩,⟨some 14,.ld false 1 (.t 13),no⟩,⟨some 15,.mv (.t 5),no⟩,⟨some 16,.ixa 1 (.t 14) (.t 15),no⟩,⟨some 17,.ld false 1 (.t 16),no⟩,⟨some 18,.call (.k (.fn (.func 181) [] [])) [.t 17],no⟩,⟨some 19,.un .not (.t 18),no⟩]) (.cond (.t 19) (.seq (.reg [⟨some 4,.mv (.k (.bool false)),no⟩]) .ret) .skip))) (.reg [⟨some 11,.mv (.t 5),no⟩,⟨some 12,.bin .add (.t 11) (.k (.int .i64 1)),no⟩,⟨some 5,.mv (.t 12),no⟩])))))) (.seq (.reg [⟨some 20,.mv (.t 1),no⟩,⟨some 21,.call (.k (.fn (.func 183) [] [])) [.t 20,(.k (.int .i64 0)),(.k (.int .i64 8))],no⟩,⟨some 22,.mv (.t 21),no⟩,⟨some 23,.fld 1 (.t 2),(some (22,true))⟩,⟨some 24,.ld false 1 (.t 23),(some (22,true))⟩,⟨some 25,.len false (.t 24),(some (22,true))⟩,⟨some 26,.mv (.t 1),(some (22,true))⟩,⟨some 27,.bin .eql (.t 25) (.t 26),(some (22,true))⟩,⟨some 28,.pick (.t 22) (.t 27) (.k (.bool false)),no⟩,⟨some 29,.mv (.t 28),no⟩,⟨some 30,.fld 0 (.t 2),(some (29,true))⟩,⟨some 31,.ld false 1 (.t 30),(some (29,true))⟩,⟨some 32,.call (.k (.fn (.func 181) [] [])) [.t 31],(some (29,true))⟩,⟨some 33,.pick (.t 29) (.t 32) (.k (.bool false)),no⟩,⟨some 4,.mv (.t 33),no⟩]) .ret)))⟩
theorem a179_ok:J0a Tryz.prog Tryz.f179=some a179:=by kernel_rfl
theorem a233_ok:J0a Tryz.prog Tryz.f233=some (J31 292):=by kernel_rfl
theorem a292_ok:J0a Tryz.prog Tryz.f292=some (J3p false 1):=by kernel_rfl
def inR (n lo hi:Int):Bool:=decide (lo≤n∧n≤hi)
def okC (n:Int):Bool:=inR n (-1000000000) 1000000000
theorem Jca {n:Int} : okC n=true ↔ -1000000000≤n∧n≤1000000000:=by simp [okC,inR]
theorem Joe {x y:Int}(hx:okC x=true) (hy:okC y=true) : -1000000000000000000≤x*y∧x*y≤1000000000000000000:=by
 rw [Jca] at hx hy
 have h:(x*y).natAbs≤1000000000*1000000000:=by
  rw [Int.natAbs_mul];exact Nat.mul_le_mul (by omega) (by omega)
 omega
theorem J1s (n lo hi:Int):Holds Tryz.prog 102 [i64 n,i64 lo,i64 hi] (fun r=>r = .bool (inR n lo hi)):=by
 refine J03 Tryz.func102 a102_ok rfl (by simp [a102]) ?_
 simp [a102]
 constructor <;> intro h <;> simp [inR] <;> omega
theorem J25 (n:Int):Holds Tryz.prog 232 [i64 n] (fun r=>r = .bool (okC n)):=by
 refine J03 Tryz.func232 a232_ok rfl (by simp [a232]) ?_
 simp [a232]
 first|refine J00 (J1s n (-1000000000) 1000000000) (by first|simp;done|rfl) ?_|refine J02 (J1s n (-1000000000) 1000000000) (by first|simp;done|rfl) ?_
 rintro r rfl
 simp
 rfl
theorem J4d (n lo hi:Int):Holds Tryz.prog 183 [i64 n,i64 lo,i64 hi] (fun r=>r = .bool (inR n lo hi)):=by
 refine J03 Tryz.func183 a183_ok rfl (by simp [a183]) ?_
 simp [a183]
 constructor <;> intro h <;> simp [inR] <;> omega
theorem J4s (n:Int):Holds Tryz.prog 181 [i64 n] (fun r=>r = .bool (okC n)):=by
 refine J03 Tryz.func181 a181_ok rfl (by simp [a181]) ?_
 simp [a181]
 first|refine J00 (J4d n (-1000000000) 1000000000) (by first|simp;done|rfl) ?_|refine J02 (J4d n (-1000000000) 1000000000) (by first|simp;done|rfl) ?_
 rintro r rfl
 simp
 rfl
def Jdo (x y:Int):Int×Bool:=if okC x&&okC y&&okC (x+y) then (x+y,true) else (0,false)
def Jd7 (x y:Int):Int×Bool:=if okC x&&okC y&&okC (x*y) then (x*y,true) else (0,false)
def J43 (p:Int×Bool):AV := .tup [i64 p.1,.bool p.2]
theorem J78 (x y:Int):Holds Tryz.prog 271 [i64 x,i64 y] (fun r=>r=J43 (Jdo x y)):=by
 refine J03 Tryz.func271 a271_ok rfl (by simp [a271]) ?_
 simp [a271,J43,Jdo]
 first|refine J00 (J25 x) (by first|simp;done|rfl) ?_|refine J02 (J25 x) (by first|simp;done|rfl) ?_
 rintro r rfl
 cases hx:okC x
 ·simp
 simp
 first|refine J00 (J25 y) (by first|simp;done|rfl) ?_|refine J02 (J25 y) (by first|simp;done|rfl) ?_
 rintro r rfl
 cases hy:okC y
 ·simp
 simp
 rw [Jca] at hx hy
 rw [J1e (by omega)]
 first|refine J00 (J25 (x+y)) (by first|simp;done|rfl) ?_|refine J02 (J25 (x+y)) (by first|simp;done|rfl) ?_
 rintro r rfl
 cases hz:okC (x+y)
 ·simp
 ·simp;exact J1e (by omega)
theorem Jcu (x y:Int):Holds Tryz.prog 308 [i64 x,i64 y] (fun r=>r=J43 (Jd7 x y)):=by
 refine J03 Tryz.func308 a308_ok rfl (by simp [a308]) ?_
 simp [a308,J43,Jd7]
 first|refine J00 (J25 x) (by first|simp;done|rfl) ?_|refine J02 (J25 x) (by first|simp;done|rfl) ?_
 rintro r rfl
 cases hx:okC x
 ·simp
 simp
 first|refine J00 (J25 y) (by first|simp;done|rfl) ?_|refine J02 (J25 y) (by first|simp;done|rfl) ?_
 rintro r rfl
 cases hy:okC y
 ·simp
 simp
 have:=Joe hx hy
 rw [J1e (by omega)]
 first|refine J00 (J25 (x*y)) (by first|simp;done|rfl) ?_|refine J02 (J25 (x*y)) (by first|simp;done|rfl) ?_
 rintro r rfl
 cases hz:okC (x*y)
 ·simp
 ·simp;exact J1e (by omega)
theorem Jbh (x y:Int):Holds Tryz.prog 264 [i64 x,i64 y] (fun r=>r=J43 (Jdo x y)):=by
 refine J03 Tryz.func264 a264_ok rfl (by simp [a264]) ?_
 simp [a264,J43,Jdo]
 first|refine J00 (J4s x) (by first|simp;done|rfl) ?_|refine J02 (J4s x) (by first|simp;done|rfl) ?_
 rintro r rfl
 cases hx:okC x
 ·simp
 simp
 first|refine J00 (J4s y) (by first|simp;done|rfl) ?_|refine J02 (J4s y) (by first|simp;done|rfl) ?_
 rintro r rfl
 cases hy:okC y
 ·simp
 simp
 rw [Jca] at hx hy
 rw [J1e (by omega)]
 first|refine J00 (J4s (x+y)) (by first|simp;done|rfl) ?_|refine J02 (J4s (x+y)) (by first|simp;done|rfl) ?_
 rintro r rfl
 cases hz:okC (x+y)
 ·simp
 ·simp;exact J1e (by omega)
theorem Jbj (x y:Int):Holds Tryz.prog 263 [i64 x,i64 y] (fun r=>r=J43 (Jd7 x y)):=by
 refine J03 Tryz.func263 a263_ok rfl (by simp [a263]) ?_
 simp [a263,J43,Jd7]
 first|refine J00 (J4s x) (by first|simp;done|rfl) ?_|refine J02 (J4s x) (by first|simp;done|rfl) ?_
 rintro r rfl
 cases hx:okC x
 ·simp
 simp
 first|refine J00 (J4s y) (by first|simp;done|rfl) ?_|refine J02 (J4s y) (by first|simp;done|rfl) ?_
 rintro r rfl
 cases hy:okC y
 ·simp
 simp
 have:=Joe hx hy
 rw [J1e (by omega)]
 first|refine J00 (J4s (x*y)) (by first|simp;done|rfl) ?_|refine J02 (J4s (x*y)) (by first|simp;done|rfl) ?_
 rintro r rfl
 cases hz:okC (x*y)
 ·simp
 ·simp;exact J1e (by omega)
def J5h (x k y:Int):Int×Bool:=((Jdo x (Jd7 k y).1).1,(Jd7 k y).2&&(Jdo x (Jd7 k y).1).2)
def J55 (x k y:Int):Int×Bool:=if (Jd7 k y).2 then Jdo x (Jd7 k y).1 else (0,false)
theorem J9s (x k y:Int):Holds Tryz.prog 274 [i64 x,i64 k,i64 y] (fun r=>r=J43 (J5h x k y)):=by
 refine J03 Tryz.func274 a274_ok rfl (by simp [a274]) ?_
 simp [a274]
 first|refine J00 (Jcu k y) (by first|simp [J43];done|rfl) ?_|refine J02 (Jcu k y) (by first|simp [J43];done|rfl) ?_
 rintro r rfl
 simp [J43]
 first|refine J00 (J78 x (Jd7 k y).1) (by first|simp [J43,J5h];done|rfl) ?_|refine J02 (J78 x (Jd7 k y).1) (by first|simp [J43,J5h];done|rfl) ?_
 rintro r rfl
 simp [J43,J5h]
 cases (Jd7 k y).2 <;> simp
theorem J50 (x k y:Int):Holds Tryz.prog 182 [i64 x,i64 k,i64 y] (fun r=>r=J43 (J55 x k y)):=by
 refine J03 Tryz.func182 a182_ok rfl (by simp [a182]) ?_
 simp [a182]
 first|refine J00 (Jbj k y) (by first|simp [J43,J55];done|rfl) ?_|refine J02 (Jbj k y) (by first|simp [J43,J55];done|rfl) ?_
 rintro r rfl
 simp [J43,J55]
 cases h:(Jd7 k y).2
 ·simp
 simp
 first|refine J00 (Jbh x (Jd7 k y).1) (by first|simp [J43];done|rfl) ?_|refine J02 (Jbh x (Jd7 k y).1) (by first|simp [J43];done|rfl) ?_
 rintro r rfl
 simp [J43]
def J20 (x k y:Int):Option Int:=if (Jd7 k y).2&&(Jdo x (Jd7 k y).1).2 then some (Jdo x (Jd7 k y).1).1 else Option.none
theorem Jeh (x k y:Int):(J5h x k y).2=(J20 x k y).isSome:=by unfold J5h J20;split <;> simp_all
theorem Jay (x k y:Int):(J55 x k y).2=(J20 x k y).isSome:=by unfold J55 J20;cases (Jd7 k y).2 <;> simp;cases h:(Jdo x (Jd7 k y).1).2 <;> simp
theorem Jel {x k y v:Int}(h:J20 x k y=some v):(J5h x k y).1=v:=by unfold J20 at h;unfold J5h;split at h <;> simp_all
theorem Jea {x k y v:Int}(h:J20 x k y=some v):(J55 x k y).1=v:=by unfold J20 at h;unfold J55;split at h <;> simp_all
def J14 (l:DLin) (n:Int):Bool:=inR n 0 8&&decide ((l.Coeffs.length:Int)=n)&&okC l.Const&&l.Coeffs.all okC
theorem Jz9 (n:Int):Holds Tryz.prog 234 [i64 n] (fun r=>r = .bool (!okC n)):=by
 refine J03 Tryz.func234 a234_ok rfl (by simp [a234]) ?_
 simp [a234]
 first|refine J00 (J25 n) (by first|simp;done|rfl) ?_|refine J02 (J25 n) (by first|simp;done|rfl) ?_
 rintro r rfl
 simp
theorem J89 {α:Type}(p:α→Bool) (l:List α):l.any (fun x => !p x) = !l.all p:=by
 rw [List.all_eq_not_any_not,Bool.not_not]
theorem Jns {h:Heap}{n:Nat}{K:AV→Heap→Nat→Prop}(l:List Int) (hK:K (.bool (!l.all okC)) h n):J3w Tryz.prog 233 [.sl 1 (J0k l),.fn (.func 234) [] []] h n K:=
 J1d (p:=fun n => !okC n) (rowOf:=fun n=>[i64 n]) (eltOf:=i64) Tryz.func233 a233_ok rfl Tryz.func292 a292_ok rfl (fun x=>by simp) l
  (fun x _=>J4y (Jz9 x) rfl rfl) (by rw [J89];exact hK)
theorem J0y (l:DLin) (n:Int):Holds Tryz.prog 146 [.agg (J07 l),i64 n] (fun r=>r = .bool (J14 l n)):=by
 refine J03 Tryz.func146 a146_ok rfl (by simp [a146]) ?_
 simp [a146,J07]
 first|refine J00 (J1s n 0 8) (by first|simp;done|rfl) ?_|refine J02 (J1s n 0 8) (by first|simp;done|rfl) ?_
 rintro r rfl
 unfold J14
 cases h1:inR n 0 8
 ·simp
 simp
 intro _
 by_cases h2:(l.Coeffs.length:Int)=n
 case neg=>simp [h2]
 simp [h2]
 first|refine J00 (J25 l.Const) (by first|simp;done|rfl) ?_|refine J02 (J25 l.Const) (by first|simp;done|rfl) ?_
 rintro r rfl
 cases h3:okC l.Const
 ·simp
 simp
 refine Jns l.Coeffs ?_
 simp
theorem J0q (l:DLin) (n:Int):Holds Tryz.prog 179 [.agg (J07 l),i64 n] (fun r=>r = .bool (J14 l n)):=by
 refine J1h Tryz.func179 rfl rfl fun hl => ?_
 simp [J07] at hl
 refine J03 Tryz.func179 a179_ok rfl (by simp [a179]) ?_
 simp [a179,J07]
 refine Jtj [1,2] 5 l.Coeffs.length (fun i _=>(l.Coeffs.drop i).all okC=l.Coeffs.all okC) hl (by simp) (by simp) ?_ ?_
 ·intro i s hi hg hk s5 hw hJ
  simp at hk
  rw [List.drop_eq_getElem_cons hi,List.all_cons] at hJ
  simp [hk,s5,hi,hg]
  intro _
  first|refine J00 (J4s _) (by simp) ?_|refine J02 (J4s _) (by simp) ?_|refine J00 (J4s _) rfl ?_|refine J02 (J4s _) rfl ?_
  rintro r rfl
  cases h1:okC l.Coeffs[i]
  ·have hJ:l.Coeffs.all okC=false:=by rw [←hJ,h1];rfl
   simp [hk,J14,hJ]
  ·rw [h1,Bool.true_and] at hJ
   simp [hk,s5,hw]
   exact hJ
 ·intro s hk s5 hJ
  simp at hk hJ
  simp [hk,s5]
  intro _
  first|refine J00 (J4d n 0 8) (by first|simp;done|rfl) ?_|refine J02 (J4d n 0 8) (by first|simp;done|rfl) ?_
  rintro r rfl
  unfold J14
  cases h1:inR n 0 8
  ·simp
  simp [hk]
  intro _
  by_cases h2:(l.Coeffs.length:Int)=n
  case neg=>simp [h2]
  simp [h2]
  first|refine J00 (J4s l.Const) (by first|simp;done|rfl) ?_|refine J02 (J4s l.Const) (by first|simp;done|rfl) ?_
  rintro r rfl
  cases h3:okC l.Const <;> simp
  exact hJ
def a178:AFn:= ⟨18,[(.c 4 true 2)],(.seq (.reg [⟨some 4,.box [(.int .i64 0),(.nil 1)],no⟩]) (.seq (.seq (.reg [⟨some 5,.mv (.t 1),no⟩,⟨some 6,.call (.k (.fn (.func 102) [] [])) [.t 5,(.k (.int .i64 0)),(.k (.int .i64 8))],no⟩,⟨some 7,.un .not (.t 6),no⟩,⟨some 8,.mv (.t 7),no⟩,⟨some 9,.mv (.t 0),(some (8,false))⟩,⟨some 10,.call (.k (.fn (.func 232) [] [])) [.t 9],(some (8,false))⟩,⟨some 11,.un .not (.t 10),(some (8,false))⟩,⟨some 12,.pick (.t 8) (.k (.bool true)) (.t 11),no⟩]) (.cond (.t 12) (.seq (.reg [⟨some 13,.build [(.int .i64 0),(.nil 1)] [],no⟩,⟨no,.st 2 (.t 4) (.t 13),no⟩]) .ret) .skip)) (.seq (.reg [⟨some 14,.mv (.t 0),no⟩,⟨some 15,.mv (.t 1),no⟩,⟨some 16,.mks 8 [(.int .i64 0)] (.t 15) (.t 15),no⟩,⟨some 17,.build [(.int .i64 0),(.nil 1)] [(0,(1,(.t 14))),(1,(1,(.t 16)))],no⟩,⟨no,.st 2 (.t 4) (.t 17),no⟩]) .ret)))⟩
theorem a178_ok:J0a Tryz.prog Tryz.f178=some a178:=by kernel_rfl
def a99:AFn:= ⟨18,[(.c 4 true 2)],(.seq (.reg [⟨some 4,.box [(.int .i64 0),(.nil 1)],no⟩]) (.seq (.seq (.reg [⟨some 5,.mv (.t 1),no⟩,⟨some 6,.call (.k (.fn (.func 183) [] [])) [.t 5,(.k (.int .i64 0)),(.k (.int .i64 8))],no⟩,⟨some 7,.un .not (.t 6),no⟩,⟨some 8,.mv (.t 7),no⟩,⟨some 9,.mv (.t 0),(some (8,false))⟩,⟨some 10,.call (.k (.fn (.func 181) [] [])) [.t 9],(some (8,false))⟩,⟨some 11,.un .not (.t 10),(some (8,false))⟩,⟨some 12,.pick (.t 8) (.k (.bool true)) (.t 11),no⟩]) (.cond (.t 12) (.seq (.reg [⟨some 13,.build [(.int .i64 0),(.nil 1)] [],no⟩,⟨no,.st 2 (.t 4) (.t 13),no⟩]) .ret) .skip)) (.seq (.reg [⟨some 14,.mv (.t 0),no⟩,⟨some 15,.mv (.t 1),no⟩,⟨some 16,.mks 8 [(.int .i64 0)] (.t 15) (.t 15),no⟩,⟨some 17,.build [(.int .i64 0),(.nil 1)] [(0,(1,(.t 14))),(1,(1,(.t 16)))],no⟩,⟨no,.st 2 (.t 4) (.t 17),no⟩]) .ret)))⟩
theorem a99_ok:J0a Tryz.prog Tryz.f99=some a99:=by kernel_rfl
def a166:AFn:= ⟨8,[.t 2],(.seq (.reg [⟨some 2,.mv (.k (.nil 1)),no⟩]) (.seq (.seq (.reg [⟨some 3,.mv (.t 0),no⟩,⟨some 4,.inil false (.t 3),no⟩]) (.cond (.t 4) (.seq (.reg [⟨some 2,.mv (.k (.nil 1)),no⟩]) .ret) .skip)) (.seq (.reg [⟨some 5,.bsl 1 [],no⟩,⟨some 6,.mv (.t 0),no⟩,⟨some 7,.app 8 1 (.t 5) (.t 6),no⟩,⟨some 2,.mv (.t 7),no⟩]) .ret)))⟩
theorem a166_ok:J0a Tryz.prog Tryz.f166=some a166:=by kernel_rfl
def a86:AFn:= ⟨9,[(.c 2 true 2)],(.seq (.reg [⟨some 1,.boxv (.t 0),no⟩,⟨some 2,.box [(.int .i64 0),(.nil 1)],no⟩]) (.seq (.draw (.op ⟨some 3,.fld 0 (.t 1),no⟩ (.op ⟨some 4,.ld false 1 (.t 3),no⟩ (.op ⟨some 5,.fld 1 (.t 1),no⟩ (.op ⟨some 6,.ld false 1 (.t 5),no⟩ (.op ⟨some 7,.call (.k (.fn (.func 166) [] [])) [.t 6],no⟩ (.op ⟨some 8,.build [(.int .i64 0),(.nil 1)] [(0,(1,(.t 4))),(1,(1,(.t 7)))],no⟩ (.hop ⟨no,.st 2 (.t 2) (.t 8),no⟩ [] .fin)))))))) .ret))⟩
theorem a86_ok:J0a Tryz.prog Tryz.f86=some a86:=by kernel_rfl
def a82:AFn:= ⟨10,[(.c 2 true 2)],(.seq (.reg [⟨some 1,.boxv (.t 0),no⟩,⟨some 2,.box [(.int .i64 0),(.nil 1)],no⟩]) (.seq (.draw (.op ⟨some 3,.fld 0 (.t 1),no⟩ (.op ⟨some 4,.ld false 1 (.t 3),no⟩ (.op ⟨some 6,.fld 1 (.t 1),no⟩ (.op ⟨some 7,.ld false 1 (.t 6),no⟩ (.hop ⟨some 5,.bsl 1 [],no⟩ [(.ld false 1 (.t 6)),(.fld 1 (.t 1)),(.ld false 1 (.t 3)),(.fld 0 (.t 1))] (.hop ⟨some 8,.app 8 1 (.t 5) (.t 7),no⟩ [(.ld false 1 (.t 3)),(.fld 0 (.t 1))] (.op ⟨some 9,.build [(.int .i64 0),(.nil 1)] [(0,(1,(.t 4))),(1,(1,(.t 8)))],no⟩ (.hop ⟨no,.st 2 (.t 2) (.t 9),no⟩ [] .fin))))))))) .ret))⟩
theorem a82_ok:J0a Tryz.prog Tryz.f82=some a82:=by kernel_rfl
def a193:AFn:= ⟨82,[(.c 6 true 2),.t 7],(.seq (.reg [⟨some 3,.boxv (.t 0),no⟩,⟨some 5,.boxv (.t 2),no⟩,⟨some 6,.box [(.int .i64 0),(.nil 1)],no⟩,⟨some 7,.mv (.k (.bool false)),no⟩]) (.seq (.reg [⟨some 15,.fld 1 (.t 3),no⟩,⟨some 16,.ld false 1 (.t 15),no⟩,⟨some 17,.len false (.t 16),no⟩,⟨some 8,.mv (.t 17),no⟩]) (.seq (.seq (.reg [⟨some 18,.ld true 2 (.t 3),no⟩,⟨some 19,.mv (.t 8),no⟩,⟨some 20,.call (.k (.fn (.func 146) [] [])) [.t 18,.t 19],no⟩,⟨some 21,.un .not (.t 20),no⟩,⟨some 22,.mv (.t 21),no⟩,⟨some 23,.ld true 2 (.t 5),(some (22,false))⟩,⟨some 24,.mv (.t 8),(some (22,false))⟩,⟨some 25,.call (.k (.fn (.func 146) [] [])) [.t 23,.t 24],(some (22,false))⟩,⟨some 26,.un .not (.t 25),(some (22,false))⟩,⟨some 27,.pick (.t 22) (.k (.bool true)) (.t 26),no⟩,⟨some 28,.mv (.t 27),no⟩,⟨some 29,.mv (.t 1),(some (28,false))⟩,⟨some 30,.call (.k (.fn (.func 232) [] [])) [.t 29],(some (28,false))⟩,⟨some 31,.un .not (.t 30),(some (28,false))⟩,⟨some 32,.pick (.t 28) (.k (.bool true)) (.t 31),no⟩]) (.cond (.t 32) (.seq (.reg [⟨some 33,.build [(.int .i64 0),(.nil 1)] [],no⟩,⟨no,.st 2 (.t 6) (.t 33),no⟩,⟨some 7,.mv (.k (.bool false)),no⟩]) .ret) .skip)) (.seq (.reg [⟨some 34,.mv (.t 8),no⟩,⟨some 35,.call (.k (.fn (.func 178) [] [])) [(.k (.int .i64 0)),.t 34],no⟩,⟨some 9,.box [(.int .i64 0),(.nil 1)],no⟩,⟨no,.st 2 (.t 9) (.t 35),no⟩]) (.seq (.reg [⟨some 37,.fld 0 (.t 3),no⟩,⟨some 38,.ld false 1 (.t 37),no⟩,⟨some 39,.mv (.t 1),no⟩,⟨some 40,.fld 0 (.t 5),no⟩,⟨some 41,.ld false 1 (.t 40),no⟩,⟨some 42,.call (.k (.fn (.func 274) [] [])) [.t 38,.t 39,.t 41],no⟩,⟨some 36,.mv (.t 42),no⟩,⟨some 43,.ext (.t 36) 0,no⟩,⟨some 44,.ext (.t 36) 1,no⟩,⟨some 10,.mv (.t 43),no⟩,⟨some 11,.mv (.t 44),no⟩]) (.seq (.reg [⟨some 45,.mv (.t 10),no⟩,⟨some 46,.fld 0 (.t 9),no⟩,⟨no,.st 1 (.t 46) (.t 45),no⟩]) (.seq (.seq (.reg [⟨some 47,.fld 1 (.t 3),no⟩,⟨some 48,.ld false 1 (.t 47),no⟩,⟨some 49,.len false (.t 48),no⟩,⟨some 50,.mv (.k (.int .i64 0)),no⟩]) (.blk 0 (.loop (.seq (.reg [⟨some 51,.bin .lss (.t 50) (.t 49),no⟩]) (.seq (.cond (.t 51) .skip (.exit 0)) (.seq (.blk 1 (.seq (.reg [⟨some 52,.mv (.t 50),no⟩,⟨some 12,.mv (.t 52),no⟩]) (.seq (.draw (.op ⟨some 54,.fld 1 (.t 3),no⟩ (.op ⟨some 55,.ld false 1 (.t 54),no⟩ (.op ⟨some 56,.mv (.t 12),no⟩ (.op ⟨some 57,.ixa 1 (.t 55) (.t 56),no⟩ (.op ⟨some 58,.ld false 1 (.t 57),no⟩ (.op ⟨some 59,.mv (.t 1),no⟩ (.op ⟨some 60,.fld 1 (.t 5),no⟩ (.op ⟨some 61,.ld false 1 (.t 60),no⟩ (.op ⟨some 62,.mv (.t 12),no⟩ (.op ⟨some 63,.ixa 1 (.t 61) (.t 62),no⟩ (.op ⟨some 64,.ld false 1 (.t 63),no⟩ (.op ⟨some 65,.call (.k (.fn (.func 274) [] [])) [.t 58,.t 59,.t 64],no⟩ (.op ⟨some 53,.mv (.t 65),no⟩ (.op ⟨some 66,.ext (.t 53) 0,no⟩ (.op ⟨some 67,.ext (.t 53) 1,no⟩ (.op ⟨some 13,.mv (.t 66),no⟩ (.op ⟨some 14,.mv (.t 67),no⟩ .fin)))))))))))))))))) (.seq (.reg [⟨some 68,.fld 1 (.t 9),no⟩,⟨some 69,.ld false 1 (.t 68),no⟩,⟨some 70,.mv (.t 12),no⟩,⟨some 71,.mv (.t 13),no⟩,⟨some 72,.ixa 1 (.t 69) (.t 70),no⟩,⟨no,.st 1 (.t 72) (.t 71),no⟩]) (.reg [⟨some 73,.mv (.t 11),no⟩,⟨some 74,.mv (.t 73),no⟩,⟨some 75,.mv (.t 14),(some (74,true))⟩,⟨some 76,.pick (.t 74) (.t 75) (.k (.bool false)),no⟩,⟨some 11,.mv (.t 76),no⟩]))))) (.reg [⟨some 77,.bin .add (.t 50) (.k (.int .i64 1)),no⟩,⟨some 50,.mv (.t 77),no⟩]))))))) (.seq (.seq (.reg [⟨some 78,.mv (.t 11),no⟩,⟨some 79,.un .not (.t 78),no⟩]) (.cond (.t 79) (.seq (.reg [⟨some 80,.build [(.int .i64 0),(.nil 1)] [],no⟩,⟨no,.st 2 (.t 6) (.t 80),no⟩,⟨some 7,.mv (.k (.bool false)),no⟩]) .ret) .skip)) (.seq (.reg [⟨some 81,.ld true 2 (.t 9),no⟩,⟨no,.st 2 (.t 6) (.t 81),no⟩,⟨some 7,.mv (.k (.bool true)),no⟩]) .ret)))))))))⟩
theorem a193_ok:J0a Tryz.prog Tryz.f193=some a193:=by kernel_rfl
def a98:AFn:= ⟨86,[(.c 6 true 2),.t 7],(.seq (.reg [⟨some 3,.boxv (.t 0),no⟩,⟨some 5,.boxv (.t 2),no⟩,⟨some 6,.box [(.int .i64 0),(.nil 1)],no⟩,⟨some 7,.mv (.k (.bool false)),no⟩]) (.seq (.reg [⟨some 16,.fld 1 (.t 3),no⟩,⟨some 17,.ld false 1 (.t 16),no⟩,⟨some 18,.len false (.t 17),no⟩,⟨some 8,.mv (.t 18),no⟩]) (.seq (.seq (.reg [⟨some 19,.ld true 2 (.t 3),no⟩,⟨some 20,.mv (.t 8),no⟩,⟨some 21,.call (.k (.fn (.func 179) [] [])) [.t 19,.t 20],no⟩,⟨some 22,.un .not (.t 21),no⟩,⟨some 23,.mv (.t 22),no⟩,⟨some 24,.ld true 2 (.t 5),(some (23,false))⟩,⟨some 25,.mv (.t 8),(some (23,false))⟩,⟨some 26,.call (.k (.fn (.func 179) [] [])) [.t 24,.t 25],(some (23,false))⟩,⟨some 27,.un .not (.t 26),(some (23,false))⟩,⟨some 28,.pick (.t 23) (.k (.bool true)) (.t 27),no⟩,⟨some 29,.mv (.t 28),no⟩,⟨some 30,.mv (.t 1),(some (29,false))⟩,⟨some 31,.call (.k (.fn (.func 181) [] [])) [.t 30],(some (29,false))⟩,⟨some 32,.un .not (.t 31),(some (29,false))⟩,⟨some 33,.pick (.t 29) (.k (.bool true)) (.t 32),no⟩]) (.cond (.t 33) (.seq (.reg [⟨some 34,.build [(.int .i64 0),(.nil 1)] [],no⟩,⟨no,.st 2 (.t 6) (.t 34),no⟩,⟨some 7,.mv (.k (.bool false)),no⟩]) .ret) .skip)) (.seq (.reg [⟨some 35,.mv (.t 8),no⟩,⟨some 36,.mks 8 [(.int .i64 0)] (.t 35) (.t 35),no⟩,⟨some 37,.build [(.int .i64 0),(.nil 1)] [(1,(1,(.t 36)))],no⟩,⟨some 9,.box [(.int .i64 0),(.nil 1)],no⟩,⟨no,.st 2 (.t 9) (.t 37),no⟩]) (.seq (.reg [⟨some 10,.mv (.k (.bool true)),no⟩]) (.seq (.seq (.reg [⟨some 11,.mv (.k (.int .i64 0)),no⟩]) (.blk 0 (.loop (.seq (.seq (.reg [⟨some 38,.mv (.t 11),no⟩,⟨some 39,.mv (.t 8),no⟩,⟨some 40,.bin .lss (.t 38) (.t 39),no⟩]) (.cond (.t 40) .skip (.exit 0))) (.seq (.blk 1 (.seq (.draw (.op ⟨some 44,.fld 1 (.t 3),no⟩ (.op ⟨some 45,.ld false 1 (.t 44),no⟩ (.op ⟨some 46,.mv (.t 11),no⟩ (.op ⟨some 47,.ixa 1 (.t 45) (.t 46),no⟩ (.op ⟨some 48,.ld false 1 (.t 47),no⟩ (.op ⟨some 49,.mv (.t 1),no⟩ (.op ⟨some 50,.fld 1 (.t 5),no⟩ (.op ⟨some 51,.ld false 1 (.t 50),no⟩ (.op ⟨some 52,.mv (.t 11),no⟩ (.op ⟨some 53,.ixa 1 (.t 51) (.t 52),no⟩ (.op ⟨some 54,.ld false 1 (.t 53),no⟩ (.op ⟨some 55,.call (.k (.fn (.func 182) [] [])) [.t 48,.t 49,.t 54],no⟩ (.op ⟨some 43,.mv (.t 55),no⟩ (.op ⟨some 56,.ext (.t 43) 0,no⟩ (.op ⟨some 57,.ext (.t 43) 1,no⟩ (.op ⟨some 12,.mv (.t 56),no⟩ (.op ⟨some 13,.mv (.t 57),no⟩ .fin)))))))))))))))))) (.seq (.reg [⟨some 58,.fld 1 (.t 9),no⟩,⟨some 59,.ld false 1 (.t 58),no⟩,⟨some 60,.mv (.t 11),no⟩,⟨some 61,.mv (.t 12),no⟩,⟨some 62,.ixa 1 (.t 59) (.t 60),no⟩,⟨no,.st 1 (.t 62) (.t 61),no⟩]) (.reg [⟨some 63,.mv (.t 10),no⟩,⟨some 64,.mv (.t 63),no⟩,⟨some 65,.mv (.t 13),(some (64,true))⟩,⟨some 66,.pick (.t 64) (.t 65) (.k (.bool false)),no⟩,⟨some 10,.mv (.t 66),no⟩])))) (.reg [⟨some 41,.mv (.t 11),no⟩,⟨some 42,.bin .add (.t 41) (.k (.int .i64 1)),no⟩,⟨some 11,.mv (.t 42),no⟩])))))) (.seq (.reg [⟨some 68,.fld 0 (.t 3),no⟩,⟨some 69,.ld false 1 (.t 68),no⟩,⟨some 70,.mv (.t 1),no⟩,⟨some 71,.fld 0 (.t 5),no⟩,⟨some 72,.ld false 1 (.t 71),no⟩,⟨some 73,.call (.k (.fn (.func 182) [] [])) [.t 69,.t 70,.t 72],no⟩,⟨some 67,.mv (.t 73),no⟩,⟨some 74,.ext (.t 67) 0,no⟩,⟨some 75,.ext (.t 67) 1,no⟩,⟨some 14,.mv (.t 74),no⟩,⟨some 15,.mv (.t 75),no⟩]) (.seq (.seq (.reg [⟨some 76,.mv (.t 10),no⟩,⟨some 77,.un .not (.t 76),no⟩,⟨some 78,.mv (.t 77),no⟩,⟨some 79,.mv (.t 15),(some (78,false))⟩,⟨some 80,.un .not (.t 79),(some (78,false))⟩,⟨some 81,.pick (.t 78) (.k (.bool true)) (.t 80),no⟩]) (.cond (.t 81) (.seq (.reg [⟨some 82,.build [(.int .i64 0),(.nil 1)] [],no⟩,⟨no,.st 2 (.t 6) (.t 82),no⟩,⟨some 7,.mv (.k (.bool false)),no⟩]) .ret) .skip)) (.seq (.reg [⟨some 83,.mv (.t 14),no⟩,⟨some 84,.fld 0 (.t 9),no⟩,⟨no,.st 1 (.t 84) (.t 83),no⟩]) (.seq (.reg [⟨some 85,.ld true 2 (.t 9),no⟩,⟨no,.st 2 (.t 6) (.t 85),no⟩,⟨some 7,.mv (.k (.bool true)),no⟩]) .ret))))))))))⟩
theorem a98_ok:J0a Tryz.prog Tryz.f98=some a98:=by kernel_rfl
def J05 (k n:Int):DLin:=if inR n 0 8&&okC k then ⟨k,List.replicate n.toNat 0⟩ else ⟨0,[]⟩
@[simp] theorem Jeg (m:Nat):J0k (List.replicate m 0)=List.replicate m [AV.int .i64 0]:=by simp [J0k]
@[simp] theorem Jzd (m:Nat):J4k (List.replicate m [AV.int .i64 0])=true:=by rw [←Jeg];exact Jkg _
@[simp] theorem Jik (l:List Int) (i:Nat) (v:Int):(J0k l).set i [AV.int .i64 v]=J0k (l.set i v):=by simp [J0k,List.map_set]
theorem J1t (k n:Int):Holds Tryz.prog 178 [i64 k,i64 n] (fun r=>r = .agg (J08 (J05 k n))):=by
 refine J03 Tryz.func178 a178_ok rfl (by simp [a178]) ?_
 simp [a178]
 first|refine J00 (J1s n 0 8) (by first|simp;done|rfl) ?_|refine J02 (J1s n 0 8) (by first|simp;done|rfl) ?_
 rintro r rfl
 unfold J05
 cases h1:inR n 0 8
 ·simp [J08,J0k]
 simp
 first|refine J00 (J25 k) (by first|simp;done|rfl) ?_|refine J02 (J25 k) (by first|simp;done|rfl) ?_
 rintro r rfl
 cases h2:okC k
 ·simp [J08,J0k]
 have hn:0≤n∧n≤8:=by simpa [inR] using h1
 obtain ⟨m,rfl⟩:∃ m:Nat,n=m:=⟨n.toNat,by omega⟩
 simp [J08]
 unfold LIM
 omega
theorem J13 (k n:Int):Holds Tryz.prog 99 [i64 k,i64 n] (fun r=>r = .agg (J08 (J05 k n))):=by
 refine J03 Tryz.func99 a99_ok rfl (by simp [a99]) ?_
 simp [a99]
 first|refine J00 (J4d n 0 8) (by first|simp;done|rfl) ?_|refine J02 (J4d n 0 8) (by first|simp;done|rfl) ?_
 rintro r rfl
 unfold J05
 cases h1:inR n 0 8
 ·simp [J08,J0k]
 simp
 first|refine J00 (J4s k) (by first|simp;done|rfl) ?_|refine J02 (J4s k) (by first|simp;done|rfl) ?_
 rintro r rfl
 cases h2:okC k
 ·simp [J08,J0k]
 have hn:0≤n∧n≤8:=by simpa [inR] using h1
 obtain ⟨m,rfl⟩:∃ m:Nat,n=m:=⟨n.toNat,by omega⟩
 simp [J08]
 unfold LIM
 omega
theorem Jga (l:List Int) (hl:l.length≤1048576):Holds Tryz.prog 166 [.sl 1 (J0k l)] (fun r=>r = .us 1 (J0k l)):=by
 refine J03 Tryz.func166 a166_ok rfl (by simp [a166]) ?_
 simp [a166]
 unfold LIM
 omega
theorem J4w (x:DLin) (hl:x.Coeffs.length≤1048576):Holds Tryz.prog 86 [.agg (J07 x)] (fun r=>r = .agg (J08 x)):=by
 refine J03 Tryz.func86 a86_ok rfl (by simp [a86]) ?_
 simp [a86,J07]
 first|refine J00 (Jga x.Coeffs hl) (by first|simp [J08];done|rfl) ?_|refine J02 (Jga x.Coeffs hl) (by first|simp [J08];done|rfl) ?_
 rintro r rfl
 simp [J08]
theorem J2k (x:DLin) (hl:x.Coeffs.length≤1048576):Holds Tryz.prog 82 [.agg (J07 x)] (fun r=>r = .agg (J08 x)):=by
 refine J03 Tryz.func82 a82_ok rfl (by simp [a82]) ?_
 simp [a82,J07,J08]
 unfold LIM
 omega
def J1b:DLin:=⟨0,[]⟩
def J0u:Option DLin→AV
 | some l => .tup [.agg (J08 l),.bool true]
 | Option.none => .tup [.agg (J08 J1b),.bool false]
theorem J0l (o:Option DLin):J0u o = .tup [.agg (J08 (o.getD J1b)),.bool o.isSome]:=by cases o <;> rfl
def J4h (a:DLin) (k:Int) (b:DLin):List (Option Int):=List.zipWith (fun x y=>J20 x k y) a.Coeffs b.Coeffs
def Jag (a:DLin) (k:Int) (b:DLin):Bool:=(J4h a k b).all Option.isSome
def J0j (a:DLin) (k:Int) (b:DLin):Option DLin:=
 if J14 a a.Coeffs.length&&J14 b a.Coeffs.length&&okC k&&(J20 a.Const k b.Const).isSome&&Jag a k b then
  some ⟨(J20 a.Const k b.Const).getD 0,(J4h a k b).map (·.getD 0)⟩
 else Option.none
theorem J1u {l:DLin}{n:Int}(h:J14 l n=true):(l.Coeffs.length:Int)=n∧0≤n∧n≤8:=by
 unfold J14 at h
 simp [inR] at h
 omega
theorem Jic {a b:DLin}{k:Int}{vs:List Int}(hl:b.Coeffs.length=a.Coeffs.length) (hv:vs.length=a.Coeffs.length) (g:Int→Int→Int→Int) (hg:∀ x y v,J20 x k y=some v→g x k y=v)
 (hj:∀ j (h:j<a.Coeffs.length) (h':j<b.Coeffs.length),vs[j]? = some (g a.Coeffs[j] k b.Coeffs[j])) (hZ:(J4h a k b).all Option.isSome=true):vs=(J4h a k b).map (·.getD 0):=by
 refine List.ext_getElem (by simp [J4h,hv,hl]) fun j h1 h2 => ?_
 have h3:j<a.Coeffs.length:=by omega
 have h4:j<b.Coeffs.length:=by omega
 have h5:=hj j h3 h4
 rw [List.getElem?_eq_getElem h1] at h5
 rw [Option.some.inj h5,List.getElem_map]
 have h6:(J4h a k b)[j]'(by simpa using h2)=J20 a.Coeffs[j] k b.Coeffs[j]:=by simp [J4h]
 rw [h6]
 have h7:=List.all_eq_true.1 hZ _ (List.getElem_mem (by simpa using h2:j<(J4h a k b).length))
 rw [h6] at h7
 obtain ⟨v,hv'⟩:=Option.isSome_iff_exists.1 h7
 rw [hg _ _ _ hv',hv'];rfl
set_option maxHeartbeats 1000000 in
theorem J1r (a:DLin) (k:Int) (b:DLin):Holds Tryz.prog 193 [.agg (J07 a),i64 k,.agg (J07 b)] (fun r=>r=J0u (J0j a k b)):=by
 refine J03 Tryz.func193 a193_ok rfl (by simp [a193]) ?_
 simp [a193,J07]
 intro hlim
 unfold J0j
 first|refine J00 (J0y a a.Coeffs.length) (by first|simp [J07];done|rfl) ?_|refine J02 (J0y a a.Coeffs.length) (by first|simp [J07];done|rfl) ?_
 rintro r rfl
 cases h1:J14 a a.Coeffs.length
 ·simp [J0u,J1b,J08,J0k]
 simp
 first|refine J00 (J0y b a.Coeffs.length) (by first|simp [J07];done|rfl) ?_|refine J02 (J0y b a.Coeffs.length) (by first|simp [J07];done|rfl) ?_
 rintro r rfl
 cases h2:J14 b a.Coeffs.length
 ·simp [J0u,J1b,J08,J0k]
 simp
 first|refine J00 (J25 k) (by first|simp;done|rfl) ?_|refine J02 (J25 k) (by first|simp;done|rfl) ?_
 rintro r rfl
 cases h3:okC k
 ·simp [J0u,J1b,J08,J0k]
 simp
 have hla:=J1u h1
 have hlb:=J1u h2
 have hl:b.Coeffs.length=a.Coeffs.length:=by omega
 have hc0:J05 0 (a.Coeffs.length:Int)=⟨0,List.replicate a.Coeffs.length 0⟩:=by
  unfold J05
  rw [if_pos (by simp [inR,okC];omega)]
  simp
 first|refine J00 (J1t 0 a.Coeffs.length) (by first|simp;done|rfl) ?_|refine J02 (J1t 0 a.Coeffs.length) (by first|simp;done|rfl) ?_
 rintro r rfl
 rw [hc0]
 simp [J08]
 first|refine J00 (J9s a.Const k b.Const) (by first|simp [J43];done|rfl) ?_|refine J02 (J9s a.Const k b.Const) (by first|simp [J43];done|rfl) ?_
 rintro r rfl
 simp [J43]
 intro _
 have hzl:(J4h a k b).length=a.Coeffs.length:=by simp [J4h,hl]
 refine J0o [1,3,5,6,9,49] 50 a.Coeffs.length (fun i s h n=>h 0=some ⟨true,2,[[.int .i64 a.Const,.sl 1 (J0k a.Coeffs)]]⟩∧h 1=some ⟨true,2,[[.int .i64 b.Const,.sl 1 (J0k b.Coeffs)]]⟩∧h 2=some ⟨true,2,[[.int .i64 0,.nil 1]]⟩ ∧
  h 4=some ⟨true,2,[[.int .i64 (J5h a.Const k b.Const).1,.ref 3 0 a.Coeffs.length]]⟩∧∃ vs:List Int,h 3=some ⟨false,1,J0k vs⟩∧vs.length=a.Coeffs.length ∧
  (∀ j (h:j<a.Coeffs.length) (h':j<b.Coeffs.length),j<i→vs[j]? = some (J5h a.Coeffs[j] k b.Coeffs[j]).1)∧s 11 = .bool ((J20 a.Const k b.Const).isSome&&((J4h a k b).take i).all Option.isSome))
  hlim (by simp) (by simp;exact ⟨List.replicate a.Coeffs.length 0,by simp,by simp,by simp [Jeh]⟩) ?_ ?_
 ·rintro i s h n R hi hg hk s50 hw ⟨e0,e1,e2,e4,vs,e3,hvl,hvs,s11⟩ hR _ _
  simp at hk
  have hib:i<b.Coeffs.length:=by omega
  have hiv:i<vs.length:=by omega
  have hiz:i<(J4h a k b).length:=by omega
  have hZi:(J4h a k b)[i]=J20 a.Coeffs[i] k b.Coeffs[i]:=by simp [J4h]
  have hflag:((J20 a.Const k b.Const).isSome&&((J4h a k b).take (i+1)).all Option.isSome)=(((J20 a.Const k b.Const).isSome&&((J4h a k b).take i).all Option.isSome)&&(J5h a.Coeffs[i] k b.Coeffs[i]).2):=by
   rw [List.take_succ_eq_append_getElem hiz,List.all_append,hZi,Jeh]
   simp [Bool.and_assoc]
  have hvs':∀ j (h:j<a.Coeffs.length) (h':j<b.Coeffs.length),j<i+1→(vs.set i (J5h a.Coeffs[i] k b.Coeffs[i]).1)[j]? = some (J5h a.Coeffs[j] k b.Coeffs[j]).1:=by
   intro j h h' hj
   rw [List.getElem?_set]
   by_cases hji:i=j
   ·subst hji;simp [hiv]
   ·rw [if_neg hji];exact hvs j h h' (by omega)
  obtain ⟨f,hf⟩:∃ f,f=((J20 a.Const k b.Const).isSome&&((J4h a k b).take i).all Option.isSome):=⟨_,rfl⟩
  rw [←hf] at s11 hflag
  cases f
  all_goals
   simp [hk,s50,hi,hg,hw,hib,hiv,e0,e1,e2,e3,e4,s11]
   first|refine J00 (J9s _ _ _) (by simp [J43]) ?_|refine J02 (J9s _ _ _) (by simp [J43]) ?_|refine J00 (J9s _ _ _) rfl ?_|refine J02 (J9s _ _ _) rfl ?_
   rintro r rfl
   simp [hk,s50,hi,hg,hw,hib,hiv,e0,e1,e2,e3,e4,s11,J43]
   exact hR _ _ _ (by simp [hk]) (by simp) ⟨by simp [e0],by simp [e1],by simp [e2],by simp [e4],_,by simp,by simp [hvl],hvs',by rw [hflag];simp⟩
 ·rintro s h n R hk s50 ⟨e0,e1,e2,e4,vs,e3,hvl,hvs,s11⟩ hret hX
  simp at hk
  rw [List.take_of_length_le (by omega)] at s11
  simp [hk,s50]
  refine hX _ _ _ _ ?_
  cases hc:(J20 a.Const k b.Const).isSome
  ·rw [hc] at s11
   simp at s11
   simp [hk,s11,e2,J0u,J1b,J08,J0k]
  rw [show (J4h a k b).all Option.isSome=Jag a k b from rfl] at s11
  cases hz:Jag a k b
  ·rw [hc,hz] at s11
   simp at s11
   simp [hk,s11,e2,J0u,J1b,J08,J0k]
  ·rw [hc,hz] at s11
   simp at s11
   obtain ⟨v,hv⟩:=Option.isSome_iff_exists.1 hc
   have hval:=Jic hl hvl (fun x k y=>(J5h x k y).1) (fun x y v h=>Jel h) (fun j h h'=>hvs j h h' h) hz
   simp [hk,s11,e2,e3,e4,J0u,J08,hvl]
   rw [←hval,hv,Jel hv]
   simp [hvl,List.take_of_length_le]
set_option maxHeartbeats 1000000 in
theorem J0m (a:DLin) (k:Int) (b:DLin):Holds Tryz.prog 98 [.agg (J07 a),i64 k,.agg (J07 b)] (fun r=>r=J0u (J0j a k b)):=by
 refine J03 Tryz.func98 a98_ok rfl (by simp [a98]) ?_
 simp [a98,J07]
 intro hlim
 unfold J0j
 first|refine J00 (J0q a a.Coeffs.length) (by first|simp [J07];done|rfl) ?_|refine J02 (J0q a a.Coeffs.length) (by first|simp [J07];done|rfl) ?_
 rintro r rfl
 cases h1:J14 a a.Coeffs.length
 ·simp [J0u,J1b,J08,J0k]
 simp
 first|refine J00 (J0q b a.Coeffs.length) (by first|simp [J07];done|rfl) ?_|refine J02 (J0q b a.Coeffs.length) (by first|simp [J07];done|rfl) ?_
 rintro r rfl
 cases h2:J14 b a.Coeffs.length
 ·simp [J0u,J1b,J08,J0k]
 simp
 first|refine J00 (J4s k) (by first|simp;done|rfl) ?_|refine J02 (J4s k) (by first|simp;done|rfl) ?_
 rintro r rfl
 cases h3:okC k
 ·simp [J0u,J1b,J08,J0k]
 simp
 have hla:=J1u h1
 have hlb:=J1u h2
 have hl:b.Coeffs.length=a.Coeffs.length:=by omega
 have hzl:(J4h a k b).length=a.Coeffs.length:=by simp [J4h,hl]
 refine ⟨by unfold LIM;omega,?_⟩
 refine J0o [1,3,5,6,8,9] 11 a.Coeffs.length (fun i s h n=>h 0=some ⟨true,2,[[.int .i64 a.Const,.sl 1 (J0k a.Coeffs)]]⟩∧h 1=some ⟨true,2,[[.int .i64 b.Const,.sl 1 (J0k b.Coeffs)]]⟩∧h 2=some ⟨true,2,[[.int .i64 0,.nil 1]]⟩ ∧
  h 4=some ⟨true,2,[[.int .i64 0,.ref 3 0 a.Coeffs.length]]⟩∧∃ vs:List Int,h 3=some ⟨false,1,J0k vs⟩∧vs.length=a.Coeffs.length ∧
  (∀ j (h:j<a.Coeffs.length) (h':j<b.Coeffs.length),j<i→vs[j]? = some (J55 a.Coeffs[j] k b.Coeffs[j]).1)∧s 10 = .bool (((J4h a k b).take i).all Option.isSome))
  hlim (by simp) (by simp;exact ⟨List.replicate a.Coeffs.length 0,by simp,by simp⟩) ?_ ?_
 ·rintro i s h n R hi hg hk s11 hw ⟨e0,e1,e2,e4,vs,e3,hvl,hvs,s10⟩ hR _ _
  simp at hk
  have hib:i<b.Coeffs.length:=by omega
  have hiv:i<vs.length:=by omega
  have hiz:i<(J4h a k b).length:=by omega
  have hZi:(J4h a k b)[i]=J20 a.Coeffs[i] k b.Coeffs[i]:=by simp [J4h]
  have hflag:(((J4h a k b).take (i+1)).all Option.isSome)=((((J4h a k b).take i).all Option.isSome)&&(J55 a.Coeffs[i] k b.Coeffs[i]).2):=by
   rw [List.take_succ_eq_append_getElem hiz,List.all_append,hZi,Jay]
   simp
  have hvs':∀ j (h:j<a.Coeffs.length) (h':j<b.Coeffs.length),j<i+1→(vs.set i (J55 a.Coeffs[i] k b.Coeffs[i]).1)[j]? = some (J55 a.Coeffs[j] k b.Coeffs[j]).1:=by
   intro j h h' hj
   rw [List.getElem?_set]
   by_cases hji:i=j
   ·subst hji;simp [hiv]
   ·rw [if_neg hji];exact hvs j h h' (by omega)
  obtain ⟨f,hf⟩:∃ f,f=(((J4h a k b).take i).all Option.isSome):=⟨_,rfl⟩
  rw [←hf] at s10 hflag
  cases f
  all_goals
   simp [hk,s11,hi,hg,hw,hib,hiv,e0,e1,e2,e3,e4,s10]
   first|refine J00 (J50 _ _ _) (by simp [J43]) ?_|refine J02 (J50 _ _ _) (by simp [J43]) ?_|refine J00 (J50 _ _ _) rfl ?_|refine J02 (J50 _ _ _) rfl ?_
   rintro r rfl
   simp [hk,s11,hi,hg,hw,hib,hiv,e0,e1,e2,e3,e4,s10,J43]
   exact hR _ _ _ (by simp [hk]) (by simp) ⟨by simp [e0],by simp [e1],by simp [e2],by simp [e4],_,by simp,by simp [hvl],hvs',by rw [hflag];simp⟩
 ·rintro s h n R hk s11 ⟨e0,e1,e2,e4,vs,e3,hvl,hvs,s10⟩ hret hX
  simp at hk
  rw [List.take_of_length_le (by omega),show (J4h a k b).all Option.isSome=Jag a k b from rfl] at s10
  simp [hk,s11]
  refine hX _ _ _ _ ?_
  cases hz:Jag a k b
  ·rw [hz] at s10
   simp [hk,s10,e0,e1,e2,e4]
   first|refine J00 (J50 _ _ _) (by simp [J43]) ?_|refine J02 (J50 _ _ _) (by simp [J43]) ?_|refine J00 (J50 _ _ _) rfl ?_|refine J02 (J50 _ _ _) rfl ?_
   rintro r rfl
   simp [hk,s10,e0,e1,e2,e4,J43,J0u,J1b,J08,J0k]
  ·rw [hz] at s10
   have hval:=Jic hl hvl (fun x k y=>(J55 x k y).1) (fun x y v h=>Jea h) (fun j h h'=>hvs j h h' h) hz
   simp [hk,s10,e0,e1,e2,e4]
   first|refine J00 (J50 _ _ _) (by simp [J43]) ?_|refine J02 (J50 _ _ _) (by simp [J43]) ?_|refine J00 (J50 _ _ _) rfl ?_|refine J02 (J50 _ _ _) rfl ?_
   rintro r rfl
   cases hc:(J20 a.Const k b.Const).isSome
   ·have hc':(J55 a.Const k b.Const).2=false:=by rw [Jay,hc]
    simp [hk,s10,e0,e1,e2,e4,J43,hc',J0u,J1b,J08,J0k]
   ·have hc':(J55 a.Const k b.Const).2=true:=by rw [Jay,hc]
    obtain ⟨v,hv⟩:=Option.isSome_iff_exists.1 hc
    simp [hk,s10,e0,e1,e2,e3,e4,J43,hc',J0u,J08,hvl]
    rw [←hval,hv,Jea hv]
    simp [hvl,List.take_of_length_le]
theorem a144_ok:J0a Tryz.prog Tryz.f144=some (J31 231):=by kernel_rfl
theorem a231_ok:J0a Tryz.prog Tryz.f231=some (J3p true 2):=by kernel_rfl
def a307:AFn:= ⟨8,[.t 3],(.seq (.reg [⟨some 2,.boxv (.t 0),no⟩,⟨some 3,.mv (.k (.bool false)),no⟩]) (.seq (.reg [⟨some 4,.ld true 2 (.t 2),no⟩,⟨some 5,.ld false 1 (.t 1),no⟩,⟨some 6,.call (.k (.fn (.func 146) [] [])) [.t 4,.t 5],no⟩,⟨some 7,.un .not (.t 6),no⟩,⟨some 3,.mv (.t 7),no⟩]) .ret))⟩
theorem a307_ok:J0a Tryz.prog Tryz.f307=some a307:=by kernel_rfl
def a272:AFn:= ⟨57,[(.c 4 true 2),.t 5],(.seq (.reg [⟨some 2,.boxv (.t 0),no⟩,⟨some 4,.box [(.int .i64 0),(.nil 1)],no⟩,⟨some 5,.mv (.k (.bool false)),no⟩]) (.seq (.reg [⟨some 6,.box [(.int .i64 0)],no⟩,⟨no,.st 1 (.t 6) (.k (.int .i64 0)),no⟩]) (.seq (.seq (.reg [⟨some 11,.mv (.t 1),no⟩,⟨some 12,.len false (.t 11),no⟩,⟨some 13,.bin .gtr (.t 12) (.k (.int .i64 0)),no⟩]) (.cond (.t 13) (.reg [⟨some 14,.mv (.t 1),no⟩,⟨some 15,.ixa 2 (.t 14) (.k (.int .i64 0)),no⟩,⟨some 16,.fld 1 (.t 15),no⟩,⟨some 17,.ld false 1 (.t 16),no⟩,⟨some 18,.len false (.t 17),no⟩,⟨no,.st 1 (.t 6) (.t 18),no⟩]) .skip)) (.seq (.seq (.reg [⟨some 19,.ld true 2 (.t 2),no⟩,⟨some 20,.mv (.t 1),no⟩,⟨some 21,.len false (.t 20),no⟩,⟨some 22,.call (.k (.fn (.func 146) [] [])) [.t 19,.t 21],no⟩,⟨some 23,.un .not (.t 22),no⟩,⟨some 24,.mv (.t 23),no⟩,⟨some 25,.mv (.t 1),(some (24,false))⟩,⟨some 26,.mkf (.func 307) [] [.t 6],(some (24,false))⟩,⟨some 27,.call (.k (.fn (.func 144) [] [])) [.t 25,.t 26],(some (24,false))⟩,⟨some 28,.pick (.t 24) (.k (.bool true)) (.t 27),no⟩]) (.cond (.t 28) (.seq (.reg [⟨some 29,.build [(.int .i64 0),(.nil 1)] [],no⟩,⟨no,.st 2 (.t 4) (.t 29),no⟩,⟨some 5,.mv (.k (.bool false)),no⟩]) .ret) .skip)) (.seq (.reg [⟨some 30,.fld 0 (.t 2),no⟩,⟨some 31,.ld false 1 (.t 30),no⟩,⟨some 32,.ld false 1 (.t 6),no⟩,⟨some 33,.call (.k (.fn (.func 178) [] [])) [.t 31,.t 32],no⟩,⟨some 7,.box [(.int .i64 0),(.nil 1)],no⟩,⟨no,.st 2 (.t 7) (.t 33),no⟩]) (.seq (.reg [⟨some 8,.mv (.k (.bool true)),no⟩]) (.seq (.seq (.reg [⟨some 34,.mv (.t 1),no⟩,⟨some 35,.len false (.t 34),no⟩,⟨some 36,.mv (.k (.int .i64 0)),no⟩]) (.blk 0 (.loop (.seq (.reg [⟨some 37,.bin .lss (.t 36) (.t 35),no⟩]) (.seq (.cond (.t 37) .skip (.exit 0)) (.seq (.blk 1 (.seq (.reg [⟨some 38,.mv (.t 36),no⟩,⟨some 39,.ixa 2 (.t 34) (.t 36),no⟩,⟨some 40,.ld true 2 (.t 39),no⟩,⟨some 10,.box [(.int .i64 0),(.nil 1)],no⟩,⟨some 9,.mv (.t 38),no⟩,⟨no,.st 2 (.t 10) (.t 40),no⟩]) (.seq (.draw (.op ⟨some 42,.ld true 2 (.t 7),no⟩ (.op ⟨some 43,.fld 1 (.t 2),no⟩ (.op ⟨some 44,.ld false 1 (.t 43),no⟩ (.op ⟨some 45,.mv (.t 9),no⟩ (.op ⟨some 46,.ixa 1 (.t 44) (.t 45),no⟩ (.op ⟨some 47,.ld false 1 (.t 46),no⟩ (.op ⟨some 48,.ld true 2 (.t 10),no⟩ (.op ⟨some 49,.call (.k (.fn (.func 193) [] [])) [.t 42,.t 47,.t 48],no⟩ (.op ⟨some 41,.mv (.t 49),no⟩ (.op ⟨some 50,.ext (.t 41) 0,no⟩ (.op ⟨some 51,.ext (.t 41) 1,no⟩ (.hop ⟨no,.st 2 (.t 7) (.t 50),no⟩ [] (.op ⟨some 8,.mv (.t 51),no⟩ .fin)))))))))))))) (.seq (.reg [⟨some 52,.mv (.t 8),no⟩,⟨some 53,.un .not (.t 52),no⟩]) (.cond (.t 53) (.seq (.reg [⟨some 54,.build [(.int .i64 0),(.nil 1)] [],no⟩,⟨no,.st 2 (.t 4) (.t 54),no⟩,⟨some 5,.mv (.k (.bool false)),no⟩]) .ret) .skip))))) (.reg [⟨some 55,.bin .add (.t 36) (.k (.int .i64 1)),no⟩,⟨some 36,.mv (.t 55),no⟩]))))))) (.seq (.reg [⟨some 56,.ld true 2 (.t 7),no⟩,⟨no,.st 2 (.t 4) (.t 56),no⟩,⟨some 5,.mv (.k (.bool true)),no⟩]) .ret))))))))⟩
theorem a272_ok:J0a Tryz.prog Tryz.f272=some a272:=by kernel_rfl
def a269:AFn:= ⟨60,[(.c 4 true 2),.t 5],(.seq (.reg [⟨some 2,.boxv (.t 0),no⟩,⟨some 4,.box [(.int .i64 0),(.nil 1)],no⟩,⟨some 5,.mv (.k (.bool false)),no⟩]) (.seq (.reg [⟨some 6,.mv (.k (.int .i64 0)),no⟩]) (.seq (.seq (.reg [⟨some 11,.mv (.t 1),no⟩,⟨some 12,.len false (.t 11),no⟩,⟨some 13,.bin .gtr (.t 12) (.k (.int .i64 0)),no⟩]) (.cond (.t 13) (.reg [⟨some 14,.mv (.t 1),no⟩,⟨some 15,.ixa 2 (.t 14) (.k (.int .i64 0)),no⟩,⟨some 16,.fld 1 (.t 15),no⟩,⟨some 17,.ld false 1 (.t 16),no⟩,⟨some 18,.len false (.t 17),no⟩,⟨some 6,.mv (.t 18),no⟩]) .skip)) (.seq (.reg [⟨some 19,.fld 0 (.t 2),no⟩,⟨some 20,.ld false 1 (.t 19),no⟩,⟨some 21,.mv (.t 6),no⟩,⟨some 22,.call (.k (.fn (.func 99) [] [])) [.t 20,.t 21],no⟩,⟨some 7,.box [(.int .i64 0),(.nil 1)],no⟩,⟨no,.st 2 (.t 7) (.t 22),no⟩]) (.seq (.seq (.reg [⟨some 23,.ld true 2 (.t 2),no⟩,⟨some 24,.mv (.t 1),no⟩,⟨some 25,.len false (.t 24),no⟩,⟨some 26,.call (.k (.fn (.func 179) [] [])) [.t 23,.t 25],no⟩,⟨some 27,.un .not (.t 26),no⟩,⟨some 28,.mv (.t 27),no⟩,⟨some 29,.ld true 2 (.t 7),(some (28,false))⟩,⟨some 30,.mv (.t 6),(some (28,false))⟩,⟨some 31,.call (.k (.fn (.func 179) [] [])) [.t 29,.t 30],(some (28,false))⟩,⟨some 32,.un .not (.t 31),(some (28,false))⟩,⟨some 33,.pick (.t 28) (.k (.bool true)) (.t 32),no⟩]) (.cond (.t 33) (.seq (.reg [⟨some 34,.build [(.int .i64 0),(.nil 1)] [],no⟩,⟨no,.st 2 (.t 4) (.t 34),no⟩,⟨some 5,.mv (.k (.bool false)),no⟩]) .ret) .skip)) (.seq (.seq (.reg [⟨some 8,.mv (.k (.int .i64 0)),no⟩]) (.blk 0 (.loop (.seq (.seq (.reg [⟨some 35,.mv (.t 8),no⟩,⟨some 36,.mv (.t 1),no⟩,⟨some 37,.len false (.t 36),no⟩,⟨some 38,.bin .lss (.t 35) (.t 37),no⟩]) (.cond (.t 38) .skip (.exit 0))) (.seq (.blk 1 (.seq (.draw (.op ⟨some 42,.ld true 2 (.t 7),no⟩ (.op ⟨some 43,.fld 1 (.t 2),no⟩ (.op ⟨some 44,.ld false 1 (.t 43),no⟩ (.op ⟨some 45,.mv (.t 8),no⟩ (.op ⟨some 46,.ixa 1 (.t 44) (.t 45),no⟩ (.op ⟨some 47,.ld false 1 (.t 46),no⟩ (.op ⟨some 48,.mv (.t 1),no⟩ (.op ⟨some 49,.mv (.t 8),no⟩ (.op ⟨some 50,.ixa 2 (.t 48) (.t 49),no⟩ (.op ⟨some 51,.ld true 2 (.t 50),no⟩ (.both (.op ⟨some 52,.call (.k (.fn (.func 98) [] [])) [.t 42,.t 47,.t 51],no⟩ (.op ⟨some 41,.mv (.t 52),no⟩ (.op ⟨some 53,.ext (.t 41) 0,no⟩ (.op ⟨some 54,.ext (.t 41) 1,no⟩ (.op ⟨some 9,.box [(.int .i64 0),(.nil 1)],no⟩ (.hop ⟨no,.st 2 (.t 9) (.t 53),no⟩ [] (.op ⟨some 10,.mv (.t 54),no⟩ .fin))))))) (.op ⟨some 9,.box [(.int .i64 0),(.nil 1)],no⟩ (.op ⟨some 52,.call (.k (.fn (.func 98) [] [])) [.t 42,.t 47,.t 51],no⟩ (.op ⟨some 41,.mv (.t 52),no⟩ (.op ⟨some 53,.ext (.t 41) 0,no⟩ (.op ⟨some 54,.ext (.t 41) 1,no⟩ (.hop ⟨no,.st 2 (.t 9) (.t 53),no⟩ [] (.op ⟨some 10,.mv (.t 54),no⟩ .fin))))))))))))))))))) (.seq (.seq (.reg [⟨some 55,.mv (.t 10),no⟩,⟨some 56,.un .not (.t 55),no⟩]) (.cond (.t 56) (.seq (.reg [⟨some 57,.build [(.int .i64 0),(.nil 1)] [],no⟩,⟨no,.st 2 (.t 4) (.t 57),no⟩,⟨some 5,.mv (.k (.bool false)),no⟩]) .ret) .skip)) (.reg [⟨some 58,.ld true 2 (.t 9),no⟩,⟨no,.st 2 (.t 7) (.t 58),no⟩])))) (.reg [⟨some 39,.mv (.t 8),no⟩,⟨some 40,.bin .add (.t 39) (.k (.int .i64 1)),no⟩,⟨some 8,.mv (.t 40),no⟩])))))) (.seq (.reg [⟨some 59,.ld true 2 (.t 7),no⟩,⟨no,.st 2 (.t 4) (.t 59),no⟩,⟨some 5,.mv (.k (.bool true)),no⟩]) .ret)))))))⟩
theorem a269_ok:J0a Tryz.prog Tryz.f269=some a269:=by kernel_rfl
def J5r:List (Int×DLin)→DLin→Option DLin
 | [],o=>some o
 | p::l,o=>match J0j o p.1 p.2 with
  | some o'=>J5r l o'
  | Option.none=>Option.none
def Ji0 (args:List DLin):Nat:=match args with | []=>0|a::_=>a.Coeffs.length
def J41 (l:DLin) (args:List DLin):Option DLin:=
 if J14 l args.length&&J14 (J05 l.Const (Ji0 args)) (Ji0 args) then J5r (l.Coeffs.zip args) (J05 l.Const (Ji0 args)) else Option.none
theorem Ja8 {a b o:DLin}{k:Int}(h:J0j a k b=some o):o.Coeffs.length=a.Coeffs.length∧J14 b a.Coeffs.length=true:=by
 unfold J0j at h
 split at h
 ·rename_i hc
  simp only [Bool.and_eq_true] at hc
  have h1:=J1u hc.1.1.1.1
  have h2:=J1u hc.1.1.1.2
  cases h
  refine ⟨?_,hc.1.1.1.2⟩
  simp [J4h];omega
 ·cases h
theorem Jgt {n:Nat} : ∀ (l:List (Int×DLin)) (o:DLin),o.Coeffs.length=n→(∃ p∈l,J14 p.2 n=false)→J5r l o=Option.none
 | [],o,_,h=>by obtain ⟨p,hp,_⟩:=h;cases hp
 | q::l,o,hn,h=>by
  obtain ⟨p,hp,hb⟩:=h
  simp only [J5r]
  split
  ·rename_i o' ho
   obtain ⟨h1,h2⟩:=Ja8 ho
   rcases List.mem_cons.1 hp with rfl|hp
   ·rw [hn,hb] at h2;cases h2
   ·exact Jgt l o' (by omega) ⟨p,hp,hb⟩
  ·rfl
theorem J72 {c:Int}{n:Nat}(hc:okC c=true) (hn:(n:Int)≤8):J05 c n=⟨c,List.replicate n 0⟩∧J14 (J05 c n) n=true:=by
 have h:J05 c n=⟨c,List.replicate n 0⟩:=by
  unfold J05
  rw [if_pos (by simp [inR,hc];omega)];simp
 refine ⟨h,?_⟩
 rw [h]
 simp [J14,inR,hc,hn]
 right;decide
theorem Jh5 {l:DLin}{n:Int}(h:J14 l n=true):okC l.Const=true:=by
 unfold J14 at h;simp only [Bool.and_eq_true] at h;exact h.1.2
theorem Jeu {l:DLin}{args:List DLin}(h1:J14 l args.length=true):J41 l args=if args.all (fun a=>J14 a (Ji0 args)) then J5r (l.Coeffs.zip args) (J05 l.Const (Ji0 args)) else Option.none:=by
 unfold J41
 rw [h1,Bool.true_and]
 have hl:=J1u h1
 cases h2:args.all (fun a=>J14 a (Ji0 args))
 ·simp only [Bool.false_eq_true,if_false]
  split
  ·rename_i h3
   have h3':=J1u h3
   rw [List.all_eq_false] at h2
   obtain ⟨a,ha,hb⟩:=h2
   obtain ⟨i,hi,rfl⟩:=List.mem_iff_getElem.1 ha
   refine Jgt (n:=Ji0 args) _ _ (by omega) ⟨(l.Coeffs[i]'(by omega),args[i]),List.mem_iff_getElem.2 ⟨i,by simp;omega,by simp⟩,by simpa using hb⟩
  ·rfl
 ·have hn:((Ji0 args:Nat):Int)≤8:=by
   cases args with
   | nil=>simp [Ji0]
   | cons a rest=>
    simp only [List.all_cons,Bool.and_eq_true] at h2
    exact (J1u h2.1).2.2
  rw [if_pos (J72 (Jh5 h1) hn).2,if_pos rfl]
theorem Jm6 {h:Heap}{n id:Nat}{v:Int}(x:DLin) (hv:h id=some ⟨true,1,[[i64 v]]⟩) (hid:id<n):Jfp Tryz.prog 307 [] [.ptr id 0 0] h n (.agg (J07 x)) (.bool (!J14 x v)):=by
 intro K hK
 refine J9x ?_
 refine J2g Tryz.func307 a307_ok rfl (by simp [a307]) ?_
 have n1:¬id=n:=by omega
 simp [a307,hv,n1,J07]
 first|refine J00 (J0y x v) (by first|simp [J07];done|rfl) ?_|refine J02 (J0y x v) (by first|simp [J07];done|rfl) ?_
 rintro r rfl
 simp [Jnp,hK]
 intro j hj hj'
 omega
set_option maxHeartbeats 1000000 in
theorem J8o (l:DLin) (args:List DLin):Holds Tryz.prog 272 [.agg (J07 l),.sl 2 (args.map J07)] (fun r=>r=J0u (J41 l args)):=by
 refine J1h Tryz.func272 rfl rfl fun hlm => ?_
 simp [J07] at hlm
 have hN:(args.length=0∧Ji0 args=0)∨∃ hz:0<args.length,Ji0 args=(args[0]'hz).Coeffs.length:=by
  cases args with
  | nil=>exact .inl ⟨rfl,rfl⟩
  | cons a rest=>exact .inr ⟨by simp,rfl⟩
 rcases hN with ⟨hz,hN⟩|⟨hz,hN⟩
 ·refine J03 Tryz.func272 a272_ok rfl (by simp [a272]) ?_
  simp [a272,J07]
  simp [hz]
  intro hnil
  subst hnil
  first|refine J00 (J0y l 0) (by first|simp [J07];done|rfl) ?_|refine J02 (J0y l 0) (by first|simp [J07];done|rfl) ?_
  rintro r rfl
  cases h1:J14 l 0
  ·have e:J41 l []=Option.none:=by simp [J41,h1]
   simp [e,J0u,J1b,J08,J0k]
  have e:J41 l []=some (J05 l.Const 0):=by rw [Jeu h1];simp [Ji0,J5r]
  rw [e]
  simp
  refine J1d (p:=fun x => !J14 x 0) (rowOf:=J07) (eltOf:=fun x => .agg (J07 x)) Tryz.func144 a144_ok rfl Tryz.func231 a231_ok rfl (fun x=>by simp) [] (fun x hx=>by cases hx) ?_
  simp
  first|refine J00 (J1t l.Const 0) (by first|simp;done|rfl) ?_|refine J02 (J1t l.Const 0) (by first|simp;done|rfl) ?_
  rintro r rfl
  simp [J08]
  refine J3t [4,5,7,35] 36 0 (fun i s=>True) (by decide) (by simp) trivial ?_ ?_
  ·intro i s h R hi;omega
  ·rintro s h R hk s36 _ hh _ hX
   simp at hk hh
   simp [hk,s36,hh]
   refine hX _ _ ?_
   simp [hk,hh,J0u,J08]
 ·refine J03 Tryz.func272 a272_ok rfl (by simp [a272]) ?_
  simp [a272,J07]
  have hne:¬args=[]:=by rintro rfl;simp at hz
  simp [hz,hne,J07]
  intro _ _ _
  first|refine J00 (J0y l args.length) (by first|simp [J07];done|rfl) ?_|refine J02 (J0y l args.length) (by first|simp [J07];done|rfl) ?_
  rintro r rfl
  cases h1:J14 l args.length
  ·have e:J41 l args=Option.none:=by simp [J41,h1]
   simp [e,J0u,J1b,J08,J0k]
  rw [Jeu h1,hN]
  generalize hc3:(args.all fun x=>J14 x (args[0].Coeffs.length:Int))=b3
  have hla:=J1u h1
  simp
  refine J1d (p:=fun x => !J14 x (args[0].Coeffs.length:Int)) (rowOf:=J07) (eltOf:=fun x => .agg (J07 x)) Tryz.func144 a144_ok rfl Tryz.func231 a231_ok rfl (fun x=>by simp) args (fun x _=>Jm6 x (by simp [i64]) (by omega)) ?_
  rw [J89 (fun x:DLin=>J14 x (args[0].Coeffs.length:Int)),hc3]
  cases b3
  ·simp [J0u,J1b,J08,J0k]
  simp
  first|refine J00 (J1t l.Const (args[0].Coeffs.length:Int)) (by first|simp;done|rfl) ?_|refine J02 (J1t l.Const (args[0].Coeffs.length:Int)) (by first|simp;done|rfl) ?_
  rintro r rfl
  simp [J08]
  intro _
  have hzl:(l.Coeffs.zip args).length=args.length:=by simp;omega
  generalize hG:J5r (l.Coeffs.zip args) (J05 l.Const (args[0].Coeffs.length:Int))=G
  refine J0o [1,2,4,7,34,35] 36 args.length (fun i s h n=>h 0=some ⟨true,2,[[.int .i64 l.Const,.sl 1 (J0k l.Coeffs)]]⟩∧h 1=some ⟨true,2,[[.int .i64 0,.nil 1]]⟩∧4<n ∧
   ∃ (o:DLin) (id:Nat),h 4=some ⟨true,2,[[.int .i64 o.Const,.ref id 0 o.Coeffs.length]]⟩∧h id=some ⟨false,1,J0k o.Coeffs⟩∧id<n∧(id=3∨4<id)∧J5r ((l.Coeffs.zip args).drop i) o=G)
   hlm.2 (by simp) ⟨by simp,by simp,by simp,J05 l.Const (args[0].Coeffs.length:Int),3,by simp,by simp,by omega,by omega,by simpa using hG⟩ ?_ ?_
  ·rintro i s h n R hi hg hk s36 hw ⟨e0,e1,hn,o,id,e4,eid,hidn,hid,hJ⟩ hR hret _
   simp at hk
   have hir:i<l.Coeffs.length:=by omega
   rw [List.drop_eq_getElem_cons (by omega:i<(l.Coeffs.zip args).length)] at hJ
   simp only [J5r,List.getElem_zip] at hJ
   have n0:¬0=n:=by omega
   have n1:¬1=n:=by omega
   have n4:¬4=n:=by omega
   have n4':¬n=4:=by omega
   have nid:¬id=n:=by omega
   simp [hk,s36,hi,hg,hw,hir,e0,e1,e4,eid,n0,n1,n4,n4',nid]
   refine ⟨by simp [J07],?_⟩
   have m0:¬0=n+1:=by omega
   have m1:¬1=n+1:=by omega
   have m4:¬4=n+1:=by omega
   have m4':¬n+1=4:=by omega
   have m3':¬n=3:=by omega
   have z0:¬n=0:=by omega
   first|refine J00 (J1r o (l.Coeffs[i]'hir) (args[i]'hi)) (by first|simp [J07,eid,nid];done|rfl) ?_|refine J02 (J1r o (l.Coeffs[i]'hir) (args[i]'hi)) (by first|simp [J07,eid,nid];done|rfl) ?_
   rintro r rfl
   cases ho:J0j o l.Coeffs[i] args[i]
   ·rw [ho] at hJ
    simp [J0u,J1b,J08,hk,e0,e1,e4,n0,n1,n4,n4',m0,m1,m4,m4',m3',z0]
    refine hret _ _ _ ?_
    simp [hk,←hJ,J0u,J1b,J08,J0k,m1,n1,z0]
   ·rename_i o'
    rw [ho] at hJ
    simp only at hJ
    simp [J0u,J08,hk,s36,hw,e0,e1,e4,n0,n1,n4,n4',m0,m1,m4,m4',m3',z0]
    exact hR _ _ _ (by simp [hk]) (by simp) ⟨by simp [e0,n0,m0],by simp [e1,n1,m1,z0],by omega,o',n+1,by simp,by simp [m3'],by omega,by omega,hJ⟩
  ·rintro s h n R hk s36 ⟨e0,e1,hn,o,id,e4,eid,hidn,hid,hJ⟩ hret hX
   simp at hk
   rw [List.drop_eq_nil_of_le (by omega)] at hJ
   simp only [J5r] at hJ
   simp [hk,s36]
   refine hX _ _ _ _ ?_
   have i1:¬1=id:=by omega
   have i1':¬id=1:=by omega
   simp [hk,e1,e4,eid,←hJ,J0u,J08,i1,i1']
set_option maxHeartbeats 1000000 in
theorem J86 (l:DLin) (args:List DLin):Holds Tryz.prog 269 [.agg (J07 l),.sl 2 (args.map J07)] (fun r=>r=J0u (J41 l args)):=by
 refine J1h Tryz.func269 rfl rfl fun hlm => ?_
 simp [J07] at hlm
 have hN:(args.length=0∧Ji0 args=0)∨∃ hz:0<args.length,Ji0 args=(args[0]'hz).Coeffs.length:=by
  cases args with
  | nil=>exact .inl ⟨rfl,rfl⟩
  | cons a rest=>exact .inr ⟨by simp,rfl⟩
 rcases hN with ⟨hz,hN⟩|⟨hz,hN⟩
 ·refine J03 Tryz.func269 a269_ok rfl (by simp [a269]) ?_
  simp [a269,J07]
  simp [hz]
  intro hnil
  subst hnil
  first|refine J00 (J13 l.Const 0) (by first|simp;done|rfl) ?_|refine J02 (J13 l.Const 0) (by first|simp;done|rfl) ?_
  rintro r rfl
  simp [J08]
  first|refine J00 (J0q l 0) (by first|simp [J07];done|rfl) ?_|refine J02 (J0q l 0) (by first|simp [J07];done|rfl) ?_
  rintro r rfl
  cases h1:J14 l 0
  ·have e:J41 l []=Option.none:=by simp [J41,h1]
   simp [e,J0u,J1b,J08,J0k]
  have e:J41 l []=some (J05 l.Const 0):=by rw [Jeu h1];simp [Ji0,J5r]
  rw [e]
  simp
  first|refine J00 (J0q (J05 l.Const 0) 0) (by first|simp [J07];done|rfl) ?_|refine J02 (J0q (J05 l.Const 0) 0) (by first|simp [J07];done|rfl) ?_
  rintro r rfl
  have h2:=(J72 (n:=0) (Jh5 h1) (by decide)).2
  rw [show ((0:Nat):Int)=0 from rfl] at h2
  simp [h2]
  refine J3t [1,4,5,6,7] 8 0 (fun i s=>True) (by decide) (by simp) trivial ?_ ?_
  ·intro i s h R hi;omega
  ·rintro s h R hk s8 _ hh _ hX
   simp at hk hh
   simp [hk,s8,hh]
   refine hX _ _ ?_
   simp [hk,hh,J0u,J08]
 ·refine J03 Tryz.func269 a269_ok rfl (by simp [a269]) ?_
  simp [a269,J07]
  have hne:¬args=[]:=by rintro rfl;simp at hz
  simp [hz,hne,J07]
  intro _ _
  first|refine J00 (J13 l.Const (args[0].Coeffs.length:Int)) (by first|simp;done|rfl) ?_|refine J02 (J13 l.Const (args[0].Coeffs.length:Int)) (by first|simp;done|rfl) ?_
  rintro r rfl
  simp [J08]
  intro _
  first|refine J00 (J0q l args.length) (by first|simp [J07];done|rfl) ?_|refine J02 (J0q l args.length) (by first|simp [J07];done|rfl) ?_
  rintro r rfl
  cases h1:J14 l args.length
  ·have e:J41 l args=Option.none:=by simp [J41,h1]
   simp [e,J0u,J1b,J08,J0k]
  have e:J41 l args=if J14 (J05 l.Const (args[0].Coeffs.length:Int)) (args[0].Coeffs.length:Int) then J5r (l.Coeffs.zip args) (J05 l.Const (args[0].Coeffs.length:Int)) else Option.none:=by
   unfold J41;rw [h1,hN,Bool.true_and]
  rw [e]
  have hla:=J1u h1
  simp
  first|refine J00 (J0q (J05 l.Const (args[0].Coeffs.length:Int)) (args[0].Coeffs.length:Int)) (by first|simp [J07];done|rfl) ?_|refine J02 (J0q (J05 l.Const (args[0].Coeffs.length:Int)) (args[0].Coeffs.length:Int)) (by first|simp [J07];done|rfl) ?_
  rintro r rfl
  generalize hc3:J14 (J05 l.Const (args[0].Coeffs.length:Int)) (args[0].Coeffs.length:Int)=b3
  cases b3
  ·simp [J0u,J1b,J08,J0k]
  simp
  have hzl:(l.Coeffs.zip args).length=args.length:=by simp;omega
  generalize hG:J5r (l.Coeffs.zip args) (J05 l.Const (args[0].Coeffs.length:Int))=G
  refine J0o [1,2,4,6,7] 8 args.length (fun i s h n=>h 0=some ⟨true,2,[[.int .i64 l.Const,.sl 1 (J0k l.Coeffs)]]⟩∧h 1=some ⟨true,2,[[.int .i64 0,.nil 1]]⟩∧3<n ∧
   ∃ (o:DLin) (id:Nat),h 3=some ⟨true,2,[[.int .i64 o.Const,.ref id 0 o.Coeffs.length]]⟩∧h id=some ⟨false,1,J0k o.Coeffs⟩∧id<n∧(id=2∨3<id)∧J5r ((l.Coeffs.zip args).drop i) o=G)
   hlm.2 (by simp) ⟨by simp,by simp,by simp,J05 l.Const (args[0].Coeffs.length:Int),2,by simp,by simp,by omega,by omega,by simpa using hG⟩ ?_ ?_
  ·rintro i s h n R hi hg hk s8 hw ⟨e0,e1,hn,o,id,e3,eid,hidn,hid,hJ⟩ hR hret _
   simp at hk
   have hir:i<l.Coeffs.length:=by omega
   rw [List.drop_eq_getElem_cons (by omega:i<(l.Coeffs.zip args).length)] at hJ
   simp only [J5r,List.getElem_zip] at hJ
   have n0:¬0=n:=by omega
   have n1:¬1=n:=by omega
   have n3:¬3=n:=by omega
   have n3':¬n=3:=by omega
   have nid:¬id=n:=by omega
   have m0:¬0=n+1:=by omega
   have m1:¬1=n+1:=by omega
   have m3:¬3=n+1:=by omega
   have m3':¬n+1=3:=by omega
   have mid:¬id=n+1:=by omega
   have z0:¬n=0:=by omega
   have z2:¬n=2:=by omega
   simp [hk,s8,hi,hg,hir,e0,e1,e3,eid]
   intro _
   constructor
   ·skip
    first|refine J00 (J0m o (l.Coeffs[i]'hir) (args[i]'hi)) (by first|simp [J07,eid];done|rfl) ?_|refine J02 (J0m o (l.Coeffs[i]'hir) (args[i]'hi)) (by first|simp [J07,eid];done|rfl) ?_
    rintro r rfl
    cases ho:J0j o l.Coeffs[i] args[i]
    ·rw [ho] at hJ
     simp [J0u,J1b,J08,hk,s8,hi,e0,e1,e3,n0,n1,n3,n3',z0,z2]
     refine hret _ _ _ ?_
     simp [hk,←hJ,J0u,J1b,J08,J0k]
    ·rename_i o'
     rw [ho] at hJ
     simp only at hJ
     simp [J0u,J08,hk,s8,hi,hw,e0,e1,e3,n0,n1,n3,n3',z0,z2]
     exact hR _ _ _ (by simp [hk]) (by simp) ⟨by simp [e0,n0],by simp [e1,n1,z0],by omega,o',n,by simp,by simp [n3'],by omega,by omega,hJ⟩
   ·skip
    first|refine J00 (J0m o (l.Coeffs[i]'hir) (args[i]'hi)) (by first|simp [J07,eid,mid,nid];done|rfl) ?_|refine J02 (J0m o (l.Coeffs[i]'hir) (args[i]'hi)) (by first|simp [J07,eid,mid,nid];done|rfl) ?_
    rintro r rfl
    cases ho:J0j o l.Coeffs[i] args[i]
    ·rw [ho] at hJ
     simp [J0u,J1b,J08,hk,s8,hi,e0,e1,e3,n0,n1,n3,n3',z0,z2]
     refine hret _ _ _ ?_
     simp [hk,←hJ,J0u,J1b,J08,J0k]
    ·rename_i o'
     rw [ho] at hJ
     simp only at hJ
     simp [J0u,J08,hk,s8,hi,hw,e0,e1,e3,n0,n1,n3,n3',z0,z2]
     exact hR _ _ _ (by simp [hk]) (by simp) ⟨by simp [e0,n0],by simp [e1,n1,z0],by omega,o',n+1,by simp,by simp [z2],by omega,by omega,hJ⟩
  ·rintro s h n R hk s8 ⟨e0,e1,hn,o,id,e3,eid,hidn,hid,hJ⟩ hret hX
   simp at hk
   rw [List.drop_eq_nil_of_le (by omega)] at hJ
   simp only [J5r] at hJ
   simp [hk,s8]
   intro _
   refine hX _ _ _ _ ?_
   have i1:¬1=id:=by omega
   have i1':¬id=1:=by omega
   simp [hk,e1,e3,eid,←hJ,J0u,J08,i1,i1']
def a189:AFn:= ⟨32,[(.c 4 true 2),.t 5],(.seq (.reg [⟨some 2,.boxv (.t 0),no⟩,⟨some 4,.box [(.int .i64 0),(.nil 1)],no⟩,⟨some 5,.mv (.k (.bool false)),no⟩]) (.seq (.reg [⟨some 10,.fld 0 (.t 2),no⟩,⟨some 11,.ld false 1 (.t 10),no⟩,⟨some 12,.mv (.t 1),no⟩,⟨some 13,.call (.k (.fn (.func 271) [] [])) [.t 11,.t 12],no⟩,⟨some 9,.mv (.t 13),no⟩,⟨some 14,.ext (.t 9) 0,no⟩,⟨some 15,.ext (.t 9) 1,no⟩,⟨some 6,.mv (.t 14),no⟩,⟨some 7,.mv (.t 15),no⟩]) (.seq (.seq (.reg [⟨some 16,.mv (.t 7),no⟩,⟨some 17,.un .not (.t 16),no⟩,⟨some 18,.mv (.t 17),no⟩,⟨some 19,.ld true 2 (.t 2),(some (18,false))⟩,⟨some 20,.fld 1 (.t 2),(some (18,false))⟩,⟨some 21,.ld false 1 (.t 20),(some (18,false))⟩,⟨some 22,.len false (.t 21),(some (18,false))⟩,⟨some 23,.call (.k (.fn (.func 146) [] [])) [.t 19,.t 22],(some (18,false))⟩,⟨some 24,.un .not (.t 23),(some (18,false))⟩,⟨some 25,.pick (.t 18) (.k (.bool true)) (.t 24),no⟩]) (.cond (.t 25) (.seq (.reg [⟨some 26,.build [(.int .i64 0),(.nil 1)] [],no⟩,⟨no,.st 2 (.t 4) (.t 26),no⟩,⟨some 5,.mv (.k (.bool false)),no⟩]) .ret) .skip)) (.seq (.reg [⟨some 27,.ld true 2 (.t 2),no⟩,⟨some 28,.call (.k (.fn (.func 86) [] [])) [.t 27],no⟩,⟨some 8,.box [(.int .i64 0),(.nil 1)],no⟩,⟨no,.st 2 (.t 8) (.t 28),no⟩]) (.seq (.reg [⟨some 29,.mv (.t 6),no⟩,⟨some 30,.fld 0 (.t 8),no⟩,⟨no,.st 1 (.t 30) (.t 29),no⟩]) (.seq (.reg [⟨some 31,.ld true 2 (.t 8),no⟩,⟨no,.st 2 (.t 4) (.t 31),no⟩,⟨some 5,.mv (.k (.bool true)),no⟩]) .ret))))))⟩
theorem a189_ok:J0a Tryz.prog Tryz.f189=some a189:=by kernel_rfl
def a310:AFn:= ⟨5,[.t 2],(.seq (.reg [⟨some 2,.mv (.k (.bool false)),no⟩]) (.seq (.reg [⟨some 3,.mv (.t 0),no⟩,⟨some 4,.bin .neq (.t 3) (.k (.int .i64 0)),no⟩,⟨some 2,.mv (.t 4),no⟩]) .ret))⟩
theorem a310_ok:J0a Tryz.prog Tryz.f310=some a310:=by kernel_rfl
def a279:AFn:= ⟨7,[.t 2],(.seq (.reg [⟨some 1,.boxv (.t 0),no⟩,⟨some 2,.mv (.k (.bool false)),no⟩]) (.seq (.reg [⟨some 3,.fld 1 (.t 1),no⟩,⟨some 4,.ld false 1 (.t 3),no⟩,⟨some 5,.call (.k (.fn (.func 233) [] [])) [.t 4,(.k (.fn (.func 310) [] []))],no⟩,⟨some 6,.un .not (.t 5),no⟩,⟨some 2,.mv (.t 6),no⟩]) .ret))⟩
theorem a279_ok:J0a Tryz.prog Tryz.f279=some a279:=by kernel_rfl
def a276:AFn:= ⟨17,[.t 2],(.seq (.reg [⟨some 1,.boxv (.t 0),no⟩,⟨some 2,.mv (.k (.bool false)),no⟩]) (.seq (.seq (.reg [⟨some 3,.mv (.k (.int .i64 0)),no⟩]) (.blk 0 (.loop (.seq (.seq (.reg [⟨some 4,.mv (.t 3),no⟩,⟨some 5,.fld 1 (.t 1),no⟩,⟨some 6,.ld false 1 (.t 5),no⟩,⟨some 7,.len false (.t 6),no⟩,⟨some 8,.bin .lss (.t 4) (.t 7),no⟩]) (.cond (.t 8) .skip (.exit 0))) (.seq (.blk 1 (.seq (.reg [⟨some 11,.fld 1 (.t 1),no⟩,⟨some 12,.ld false 1 (.t 11),no⟩,⟨some 13,.mv (.t 3),no⟩,⟨some 14,.ixa 1 (.t 12) (.t 13),no⟩,⟨some 15,.ld false 1 (.t 14),no⟩,⟨some 16,.bin .neq (.t 15) (.k (.int .i64 0)),no⟩]) (.cond (.t 16) (.seq (.reg [⟨some 2,.mv (.k (.bool false)),no⟩]) .ret) .skip))) (.reg [⟨some 9,.mv (.t 3),no⟩,⟨some 10,.bin .add (.t 9) (.k (.int .i64 1)),no⟩,⟨some 3,.mv (.t 10),no⟩])))))) (.seq (.reg [⟨some 2,.mv (.k (.bool true)),no⟩]) .ret)))⟩
theorem a276_ok:J0a Tryz.prog Tryz.f276=some a276:=by kernel_rfl
def a277:AFn:= ⟨28,[.t 2],(.seq (.reg [⟨some 1,.boxv (.t 0),no⟩,⟨some 2,.mv (.k (.bool false)),no⟩]) (.seq (.seq (.reg [⟨some 5,.fld 0 (.t 1),no⟩,⟨some 6,.ld false 1 (.t 5),no⟩,⟨some 7,.call (.k (.fn (.func 102) [] [])) [.t 6,(.k (.int .i64 0)),(.k (.int .i64 8))],no⟩,⟨some 8,.un .not (.t 7),no⟩,⟨some 9,.mv (.t 8),no⟩,⟨some 10,.fld 1 (.t 1),(some (9,false))⟩,⟨some 11,.ld false 1 (.t 10),(some (9,false))⟩,⟨some 12,.len false (.t 11),(some (9,false))⟩,⟨some 13,.bin .gtr (.t 12) (.k (.int .i64 20)),(some (9,false))⟩,⟨some 14,.pick (.t 9) (.k (.bool true)) (.t 13),no⟩]) (.cond (.t 14) (.seq (.reg [⟨some 2,.mv (.k (.bool false)),no⟩]) .ret) .skip)) (.seq (.seq (.reg [⟨some 15,.fld 1 (.t 1),no⟩,⟨some 16,.ld false 1 (.t 15),no⟩,⟨some 17,.len false (.t 16),no⟩,⟨some 18,.mv (.k (.int .i64 0)),no⟩]) (.blk 0 (.loop (.seq (.reg [⟨some 19,.bin .lss (.t 18) (.t 17),no⟩]) (.seq (.cond (.t 19) .skip (.exit 0)) (.seq (.blk 1 (.seq (.reg [⟨some 20,.ixa 2 (.t 16) (.t 18),no⟩,⟨some 21,.ld true 2 (.t 20),no⟩,⟨some 4,.box [(.int .i64 0),(.nil 1)],no⟩,⟨no,.st 2 (.t 4) (.t 21),no⟩]) (.seq (.reg [⟨some 22,.ld true 2 (.t 4),no⟩,⟨some 23,.fld 0 (.t 1),no⟩,⟨some 24,.ld false 1 (.t 23),no⟩,⟨some 25,.call (.k (.fn (.func 146) [] [])) [.t 22,.t 24],no⟩,⟨some 26,.un .not (.t 25),no⟩]) (.cond (.t 26) (.seq (.reg [⟨some 2,.mv (.k (.bool false)),no⟩]) .ret) .skip)))) (.reg [⟨some 27,.bin .add (.t 18) (.k (.int .i64 1)),no⟩,⟨some 18,.mv (.t 27),no⟩]))))))) (.seq (.reg [⟨some 2,.mv (.k (.bool true)),no⟩]) .ret))))⟩
theorem a277_ok:J0a Tryz.prog Tryz.f277=some a277:=by kernel_rfl
def a258:AFn:= ⟨29,[.t 2],(.seq (.reg [⟨some 1,.boxv (.t 0),no⟩,⟨some 2,.mv (.k (.bool false)),no⟩]) (.seq (.seq (.reg [⟨some 3,.mv (.k (.int .i64 0)),no⟩]) (.blk 0 (.loop (.seq (.seq (.reg [⟨some 4,.mv (.t 3),no⟩,⟨some 5,.fld 1 (.t 1),no⟩,⟨some 6,.ld false 1 (.t 5),no⟩,⟨some 7,.len false (.t 6),no⟩,⟨some 8,.bin .lss (.t 4) (.t 7),no⟩]) (.cond (.t 8) .skip (.exit 0))) (.seq (.blk 1 (.seq (.draw (.op ⟨some 11,.fld 1 (.t 1),no⟩ (.op ⟨some 12,.ld false 1 (.t 11),no⟩ (.op ⟨some 13,.mv (.t 3),no⟩ (.op ⟨some 14,.ixa 2 (.t 12) (.t 13),no⟩ (.op ⟨some 15,.ld true 2 (.t 14),no⟩ (.op ⟨some 16,.fld 0 (.t 1),no⟩ (.op ⟨some 17,.ld false 1 (.t 16),no⟩ (.op ⟨some 18,.call (.k (.fn (.func 179) [] [])) [.t 15,.t 17],no⟩ (.op ⟨some 19,.un .not (.t 18),no⟩ .fin)))))))))) (.cond (.t 19) (.seq (.reg [⟨some 2,.mv (.k (.bool false)),no⟩]) .ret) .skip))) (.reg [⟨some 9,.mv (.t 3),no⟩,⟨some 10,.bin .add (.t 9) (.k (.int .i64 1)),no⟩,⟨some 3,.mv (.t 10),no⟩])))))) (.seq (.reg [⟨some 20,.fld 0 (.t 1),no⟩,⟨some 21,.ld false 1 (.t 20),no⟩,⟨some 22,.call (.k (.fn (.func 183) [] [])) [.t 21,(.k (.int .i64 0)),(.k (.int .i64 8))],no⟩,⟨some 23,.mv (.t 22),no⟩,⟨some 24,.fld 1 (.t 1),(some (23,true))⟩,⟨some 25,.ld false 1 (.t 24),(some (23,true))⟩,⟨some 26,.len false (.t 25),(some (23,true))⟩,⟨some 27,.bin .leq (.t 26) (.k (.int .i64 20)),(some (23,true))⟩,⟨some 28,.pick (.t 23) (.t 27) (.k (.bool false)),no⟩,⟨some 2,.mv (.t 28),no⟩]) .ret)))⟩
theorem a258_ok:J0a Tryz.prog Tryz.f258=some a258:=by kernel_rfl
def J4b (l:DLin) (k:Int):Option DLin:=if (Jdo l.Const k).2&&J14 l l.Coeffs.length then some ⟨(Jdo l.Const k).1,l.Coeffs⟩ else Option.none
theorem J8v (l:DLin) (k:Int):Holds Tryz.prog 189 [.agg (J07 l),i64 k] (fun r=>r=J0u (J4b l k)):=by
 refine J03 Tryz.func189 a189_ok rfl (by simp [a189]) ?_
 simp [a189,J07]
 first|refine J00 (J78 l.Const k) (by first|simp;done|rfl) ?_|refine J02 (J78 l.Const k) (by first|simp;done|rfl) ?_
 rintro r rfl
 simp [J43]
 unfold J4b
 cases h1:(Jdo l.Const k).2
 ·simp [J0u,J1b,J08,J0k]
 simp
 intro _
 first|refine J00 (J0y l l.Coeffs.length) (by first|simp [J07];done|rfl) ?_|refine J02 (J0y l l.Coeffs.length) (by first|simp [J07];done|rfl) ?_
 rintro r rfl
 cases h2:J14 l l.Coeffs.length
 ·simp [J0u,J1b,J08,J0k]
 simp
 have hl:=J1u h2
 first|refine J00 (J4w l (by omega)) (by first|simp [J07,J08,J0u];done|rfl) ?_|refine J02 (J4w l (by omega)) (by first|simp [J07,J08,J0u];done|rfl) ?_
 rintro r rfl
 simp [J07,J08,J0u]
def J93 (l:DLin):Bool:=l.Coeffs.all (· == 0)
theorem Jho (n:Int):Holds Tryz.prog 310 [i64 n] (fun r=>r = .bool (!(n==0))):=by
 refine J03 Tryz.func310 a310_ok rfl (by simp [a310]) ?_
 simp [a310]
 rfl
theorem Jcy (l:DLin):Holds Tryz.prog 279 [.agg (J07 l)] (fun r=>r = .bool (J93 l)):=by
 refine J03 Tryz.func279 a279_ok rfl (by simp [a279]) ?_
 simp [a279,J07]
 refine J1d (p:=fun n => !(n==0)) (rowOf:=fun n=>[i64 n]) (eltOf:=i64) Tryz.func233 a233_ok rfl Tryz.func292 a292_ok rfl (fun x=>by simp) l.Coeffs
  (fun x _=>J4y (Jho x) rfl rfl) ?_
 rw [J89 (fun n:Int=>n==0)]
 simp [J93]
theorem Jbp (l:DLin):Holds Tryz.prog 276 [.agg (J07 l)] (fun r=>r = .bool (J93 l)):=by
 refine J1h Tryz.func276 rfl rfl fun hl => ?_
 simp [J07] at hl
 refine J03 Tryz.func276 a276_ok rfl (by simp [a276]) ?_
 simp [a276,J07]
 refine J3t [1] 3 l.Coeffs.length (fun i _=>(l.Coeffs.drop i).all (· == 0)=J93 l) hl (by simp) rfl ?_ ?_
 ·rintro i s h R hi hg hk s3 hw hJ hh hR hret _
  simp at hk hh
  rw [List.drop_eq_getElem_cons hi,List.all_cons] at hJ
  simp [hk,s3,hi,hg,hh,hw]
  intro _
  by_cases h0:l.Coeffs[i]=0
  ·simp [h0] at hJ ⊢
   exact hR _ (by simp [hk]) (by simp) (by simpa using hJ)
  ·have hJ:J93 l=false:=by rw [←hJ];simp [h0]
   simp [h0]
   refine hret _ _ _ ?_
   simp [hJ]
 ·rintro s h R hk s3 hJ hh _ hX
  simp at hk hh
  simp at hJ
  simp [hk,s3,hh]
  intro _
  refine hX _ _ ?_
  simp [←hJ]
def Je6 (s:DSystem):Bool:=inR s.N 0 8&&decide (s.Rows.length≤20)&&s.Rows.all fun r=>J14 r s.N
theorem J5d (x:DSystem):Holds Tryz.prog 277 [.agg (J0x x)] (fun r=>r = .bool (Je6 x)):=by
 refine J03 Tryz.func277 a277_ok rfl (by simp [a277]) ?_
 simp [a277,J0x]
 first|refine J00 (J1s x.N 0 8) (by first|simp;done|rfl) ?_|refine J02 (J1s x.N 0 8) (by first|simp;done|rfl) ?_
 rintro r rfl
 unfold Je6
 cases h1:inR x.N 0 8
 ·simp
 simp
 intro hl
 by_cases h2:x.Rows.length≤20
 case neg=>simp [h2];omega
 simp [h2]
 refine ⟨fun h=>by omega,fun _ _ => ?_⟩
 refine J0o [1,16,17] 18 x.Rows.length (fun i s h n=>0<n∧h 0=some ⟨true,2,[[.int .i64 x.N,.sl 2 (x.Rows.map J07)]]⟩∧(x.Rows.drop i).all (fun r=>J14 r x.N)=x.Rows.all (fun r=>J14 r x.N)) hl (by simp) ⟨by simp,by simp,rfl⟩ ?_ ?_
 ·rintro i s h n R hi hg hk s18 hw ⟨hn,e0,hJ⟩ hR hret _
  simp at hk
  rw [List.drop_eq_getElem_cons hi,List.all_cons] at hJ
  have hn':¬0=n:=by omega
  simp [hk,s18,hi,hg,hw,e0,hn',J07]
  first|refine J00 (J0y _ _) (by simp [J07]) ?_|refine J02 (J0y _ _) (by simp [J07]) ?_|refine J00 (J0y _ _) rfl ?_|refine J02 (J0y _ _) rfl ?_
  rintro r rfl
  cases h0:J14 x.Rows[i] x.N
  ·rw [h0] at hJ
   have hJ:x.Rows.all (fun r=>J14 r x.N)=false:=by rw [←hJ];rfl
   simp
   refine hret _ _ _ ?_
   simp [hJ]
  ·rw [h0,Bool.true_and] at hJ
   simp [hk,s18,hi,hg,hw]
   exact hR _ _ _ (by simp [hk]) (by simp) ⟨by omega,by simp [hn',e0],hJ⟩
 ·rintro s h n R hk s18 ⟨hn,e0,hJ⟩ hret hX
  simp at hk
  rw [List.drop_eq_nil_of_le (Nat.le_refl _)] at hJ
  simp [hk,s18]
  refine hX _ _ _ _ ?_
  rw [←hJ]
  simp
theorem J8r (x:DSystem):Holds Tryz.prog 258 [.agg (J0x x)] (fun r=>r = .bool (Je6 x)):=by
 refine J1h Tryz.func258 rfl rfl fun hl => ?_
 simp [J0x] at hl
 refine J03 Tryz.func258 a258_ok rfl (by simp [a258]) ?_
 simp [a258,J0x]
 refine J3t [1] 3 x.Rows.length (fun i _=>(x.Rows.drop i).all (fun r=>J14 r x.N)=x.Rows.all (fun r=>J14 r x.N)) hl (by simp) rfl ?_ ?_
 ·rintro i s h R hi hg hk s3 hw hJ hh hR hret _
  simp at hk hh
  rw [List.drop_eq_getElem_cons hi,List.all_cons] at hJ
  simp [hk,s3,hi,hg,hh,hw]
  intro _
  first|refine J00 (J0q _ _) (by simp [J07]) ?_|refine J02 (J0q _ _) (by simp [J07]) ?_|refine J00 (J0q _ _) rfl ?_|refine J02 (J0q _ _) rfl ?_
  rintro r rfl
  cases h0:J14 x.Rows[i] x.N
  ·rw [h0] at hJ
   have hJ:x.Rows.all (fun r=>J14 r x.N)=false:=by rw [←hJ];rfl
   simp
   refine hret _ _ _ ?_
   simp [Je6,hJ]
  ·rw [h0,Bool.true_and] at hJ
   simp [hk,s3,hi,hg,hh,hw]
   exact hR _ (by simp [hk]) (by simp) hJ
 ·rintro s h R hk s3 hJ hh _ hX
  simp at hk hh
  rw [List.drop_eq_nil_of_le (Nat.le_refl _)] at hJ
  simp [hk,s3,hh]
  intro _
  refine hX _ _ ?_
  simp [hk,hh]
  first|refine J00 (J4d x.N 0 8) (by first|simp;done|rfl) ?_|refine J02 (J4d x.N 0 8) (by first|simp;done|rfl) ?_
  rintro r rfl
  unfold Je6
  rw [←hJ]
  cases h1:inR x.N 0 8
  ·simp
  simp [hk]
  intro _
  omega
end Go.Proofs.YtoclolkigjbcgaaGreat

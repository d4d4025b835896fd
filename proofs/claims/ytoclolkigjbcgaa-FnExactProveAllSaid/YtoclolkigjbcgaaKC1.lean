/- Contracts: whole numbers within limits, linear expressions. -/
import Derived.Test.YtoclolkigjbcgaaKT1
import Derived.Test.YtoclolkigjbcgaaProg
namespace Go.Proofs.Ytoclolkigjbcgaa
set_option linter.all false
open Go Go.RowKit Go.Proofs
def a51:AFn:=
⟨15,[.t 6],(.seq
 (.reg [⟨some 6,.mv (.k (.bool false)),no⟩]) (.seq
 (.reg [⟨some 7,.mv (.t 0),no⟩,⟨some 8,.mv (.t 1),no⟩,⟨some 9,.bin .geq (.t 7) (.t 8),no⟩,⟨some 10,.mv (.t 9),no⟩,⟨some 11,.mv (.t 0),(some (10,true))⟩,⟨some 12,.mv (.t 2),(some (10,true))⟩,⟨some 13,.bin .leq (.t 11) (.t 12),(some (10,true))⟩,⟨some 14,.pick (.t 10) (.t 13) (.k (.bool false)),no⟩,⟨some 6,.mv (.t 14),no⟩]) .ret))⟩
theorem a51_ok:compFn Try.prog Try.f51=some a51:=by kernel_rfl
def a52:AFn:=
⟨5,[.t 2],(.seq
 (.reg [⟨some 2,.mv (.k (.bool false)),no⟩]) (.seq
 (.reg [⟨some 3,.mv (.t 0),no⟩,⟨some 4,.call (.k (.fn (.func 51) [] [])) [.t 3,(.k (.int .i64 (-1000000000))),(.k (.int .i64 1000000000))],no⟩,⟨some 2,.mv (.t 4),no⟩]) .ret))⟩
theorem a52_ok:compFn Try.prog Try.f52=some a52:=by kernel_rfl
def a43:AFn:=
⟨15,[.t 6],(.seq
 (.reg [⟨some 6,.mv (.k (.bool false)),no⟩]) (.seq
 (.reg [⟨some 7,.mv (.t 0),no⟩,⟨some 8,.mv (.t 1),no⟩,⟨some 9,.bin .geq (.t 7) (.t 8),no⟩,⟨some 10,.mv (.t 9),no⟩,⟨some 11,.mv (.t 0),(some (10,true))⟩,⟨some 12,.mv (.t 2),(some (10,true))⟩,⟨some 13,.bin .leq (.t 11) (.t 12),(some (10,true))⟩,⟨some 14,.pick (.t 10) (.t 13) (.k (.bool false)),no⟩,⟨some 6,.mv (.t 14),no⟩]) .ret))⟩
theorem a43_ok:compFn Try.prog Try.f43=some a43:=by kernel_rfl
def a44:AFn:=
⟨5,[.t 2],(.seq
 (.reg [⟨some 2,.mv (.k (.bool false)),no⟩]) (.seq
 (.reg [⟨some 3,.mv (.t 0),no⟩,⟨some 4,.call (.k (.fn (.func 43) [] [])) [.t 3,(.k (.int .i64 (-1000000000))),(.k (.int .i64 1000000000))],no⟩,⟨some 2,.mv (.t 4),no⟩]) .ret))⟩
theorem a44_ok:compFn Try.prog Try.f44=some a44:=by kernel_rfl
def a69:AFn:=
⟨24,[.t 4,.t 5],(.seq
 (.reg [⟨some 4,.mv (.k (.int .i64 0)),no⟩,⟨some 5,.mv (.k (.bool false)),no⟩]) (.seq (.seq
 (.reg [⟨some 6,.mv (.t 0),no⟩,⟨some 7,.call (.k (.fn (.func 52) [] [])) [.t 6],no⟩,⟨some 8,.un .not (.t 7),no⟩,⟨some 9,.mv (.t 8),no⟩,⟨some 10,.mv (.t 1),(some (9,false))⟩,⟨some 11,.call (.k (.fn (.func 52) [] [])) [.t 10],(some (9,false))⟩,⟨some 12,.un .not (.t 11),(some (9,false))⟩,⟨some 13,.pick (.t 9) (.k (.bool true)) (.t 12),no⟩,⟨some 14,.mv (.t 13),no⟩,⟨some 15,.mv (.t 0),(some (14,false))⟩,⟨some 16,.mv (.t 1),(some (14,false))⟩,⟨some 17,.bin .add (.t 15) (.t 16),(some (14,false))⟩,⟨some 18,.call (.k (.fn (.func 52) [] [])) [.t 17],(some (14,false))⟩,⟨some 19,.un .not (.t 18),(some (14,false))⟩,⟨some 20,.pick (.t 14) (.k (.bool true)) (.t 19),no⟩]) (.cond (.t 20) (.seq
 (.reg [⟨some 4,.mv (.k (.int .i64 0)),no⟩,⟨some 5,.mv (.k (.bool false)),no⟩]) .ret) .skip)) (.seq
 (.reg [⟨some 21,.mv (.t 0),no⟩,⟨some 22,.mv (.t 1),no⟩,⟨some 23,.bin .add (.t 21) (.t 22),no⟩,⟨some 4,.mv (.t 23),no⟩,⟨some 5,.mv (.k (.bool true)),no⟩]) .ret)))⟩
theorem a69_ok:compFn Try.prog Try.f69=some a69:=by kernel_rfl
def a68:AFn:=
⟨24,[.t 4,.t 5],(.seq
 (.reg [⟨some 4,.mv (.k (.int .i64 0)),no⟩,⟨some 5,.mv (.k (.bool false)),no⟩]) (.seq (.seq
 (.reg [⟨some 6,.mv (.t 0),no⟩,⟨some 7,.call (.k (.fn (.func 52) [] [])) [.t 6],no⟩,⟨some 8,.un .not (.t 7),no⟩,⟨some 9,.mv (.t 8),no⟩,⟨some 10,.mv (.t 1),(some (9,false))⟩,⟨some 11,.call (.k (.fn (.func 52) [] [])) [.t 10],(some (9,false))⟩,⟨some 12,.un .not (.t 11),(some (9,false))⟩,⟨some 13,.pick (.t 9) (.k (.bool true)) (.t 12),no⟩,⟨some 14,.mv (.t 13),no⟩,⟨some 15,.mv (.t 0),(some (14,false))⟩,⟨some 16,.mv (.t 1),(some (14,false))⟩,⟨some 17,.bin .mul (.t 15) (.t 16),(some (14,false))⟩,⟨some 18,.call (.k (.fn (.func 52) [] [])) [.t 17],(some (14,false))⟩,⟨some 19,.un .not (.t 18),(some (14,false))⟩,⟨some 20,.pick (.t 14) (.k (.bool true)) (.t 19),no⟩]) (.cond (.t 20) (.seq
 (.reg [⟨some 4,.mv (.k (.int .i64 0)),no⟩,⟨some 5,.mv (.k (.bool false)),no⟩]) .ret) .skip)) (.seq
 (.reg [⟨some 21,.mv (.t 0),no⟩,⟨some 22,.mv (.t 1),no⟩,⟨some 23,.bin .mul (.t 21) (.t 22),no⟩,⟨some 4,.mv (.t 23),no⟩,⟨some 5,.mv (.k (.bool true)),no⟩]) .ret)))⟩
theorem a68_ok:compFn Try.prog Try.f68=some a68:=by kernel_rfl
def a63:AFn:=
⟨24,[.t 4,.t 5],(.seq
 (.reg [⟨some 4,.mv (.k (.int .i64 0)),no⟩,⟨some 5,.mv (.k (.bool false)),no⟩]) (.seq (.seq
 (.reg [⟨some 6,.mv (.t 0),no⟩,⟨some 7,.call (.k (.fn (.func 44) [] [])) [.t 6],no⟩,⟨some 8,.un .not (.t 7),no⟩,⟨some 9,.mv (.t 8),no⟩,⟨some 10,.mv (.t 1),(some (9,false))⟩,⟨some 11,.call (.k (.fn (.func 44) [] [])) [.t 10],(some (9,false))⟩,⟨some 12,.un .not (.t 11),(some (9,false))⟩,⟨some 13,.pick (.t 9) (.k (.bool true)) (.t 12),no⟩,⟨some 14,.mv (.t 13),no⟩,⟨some 15,.mv (.t 0),(some (14,false))⟩,⟨some 16,.mv (.t 1),(some (14,false))⟩,⟨some 17,.bin .add (.t 15) (.t 16),(some (14,false))⟩,⟨some 18,.call (.k (.fn (.func 44) [] [])) [.t 17],(some (14,false))⟩,⟨some 19,.un .not (.t 18),(some (14,false))⟩,⟨some 20,.pick (.t 14) (.k (.bool true)) (.t 19),no⟩]) (.cond (.t 20) (.seq
 (.reg [⟨some 4,.mv (.k (.int .i64 0)),no⟩,⟨some 5,.mv (.k (.bool false)),no⟩]) .ret) .skip)) (.seq
 (.reg [⟨some 21,.mv (.t 0),no⟩,⟨some 22,.mv (.t 1),no⟩,⟨some 23,.bin .add (.t 21) (.t 22),no⟩,⟨some 4,.mv (.t 23),no⟩,⟨some 5,.mv (.k (.bool true)),no⟩]) .ret)))⟩
theorem a63_ok:compFn Try.prog Try.f63=some a63:=by kernel_rfl
def a62:AFn:=
⟨24,[.t 4,.t 5],(.seq
 (.reg [⟨some 4,.mv (.k (.int .i64 0)),no⟩,⟨some 5,.mv (.k (.bool false)),no⟩]) (.seq (.seq
 (.reg [⟨some 6,.mv (.t 0),no⟩,⟨some 7,.call (.k (.fn (.func 44) [] [])) [.t 6],no⟩,⟨some 8,.un .not (.t 7),no⟩,⟨some 9,.mv (.t 8),no⟩,⟨some 10,.mv (.t 1),(some (9,false))⟩,⟨some 11,.call (.k (.fn (.func 44) [] [])) [.t 10],(some (9,false))⟩,⟨some 12,.un .not (.t 11),(some (9,false))⟩,⟨some 13,.pick (.t 9) (.k (.bool true)) (.t 12),no⟩,⟨some 14,.mv (.t 13),no⟩,⟨some 15,.mv (.t 0),(some (14,false))⟩,⟨some 16,.mv (.t 1),(some (14,false))⟩,⟨some 17,.bin .mul (.t 15) (.t 16),(some (14,false))⟩,⟨some 18,.call (.k (.fn (.func 44) [] [])) [.t 17],(some (14,false))⟩,⟨some 19,.un .not (.t 18),(some (14,false))⟩,⟨some 20,.pick (.t 14) (.k (.bool true)) (.t 19),no⟩]) (.cond (.t 20) (.seq
 (.reg [⟨some 4,.mv (.k (.int .i64 0)),no⟩,⟨some 5,.mv (.k (.bool false)),no⟩]) .ret) .skip)) (.seq
 (.reg [⟨some 21,.mv (.t 0),no⟩,⟨some 22,.mv (.t 1),no⟩,⟨some 23,.bin .mul (.t 21) (.t 22),no⟩,⟨some 4,.mv (.t 23),no⟩,⟨some 5,.mv (.k (.bool true)),no⟩]) .ret)))⟩
theorem a62_ok:compFn Try.prog Try.f62=some a62:=by kernel_rfl
def a55:AFn:=
⟨29,[.t 6,.t 7],(.seq
 (.reg [⟨some 6,.mv (.k (.int .i64 0)),no⟩,⟨some 7,.mv (.k (.bool false)),no⟩]) (.seq
 (.reg [⟨some 13,.mv (.t 1),no⟩,⟨some 14,.mv (.t 2),no⟩,⟨some 15,.call (.k (.fn (.func 68) [] [])) [.t 13,.t 14],no⟩,⟨some 12,.mv (.t 15),no⟩,⟨some 16,.ext (.t 12) 0,no⟩,⟨some 17,.ext (.t 12) 1,no⟩,⟨some 8,.mv (.t 16),no⟩,⟨some 9,.mv (.t 17),no⟩]) (.seq
 (.reg [⟨some 19,.mv (.t 0),no⟩,⟨some 20,.mv (.t 8),no⟩,⟨some 21,.call (.k (.fn (.func 69) [] [])) [.t 19,.t 20],no⟩,⟨some 18,.mv (.t 21),no⟩,⟨some 22,.ext (.t 18) 0,no⟩,⟨some 23,.ext (.t 18) 1,no⟩,⟨some 10,.mv (.t 22),no⟩,⟨some 11,.mv (.t 23),no⟩]) (.seq
 (.reg [⟨some 24,.mv (.t 10),no⟩,⟨some 25,.mv (.t 9),no⟩,⟨some 26,.mv (.t 25),no⟩,⟨some 27,.mv (.t 11),(some (26,true))⟩,⟨some 28,.pick (.t 26) (.t 27) (.k (.bool false)),no⟩,⟨some 6,.mv (.t 24),no⟩,⟨some 7,.mv (.t 28),no⟩]) .ret))))⟩
theorem a55_ok:compFn Try.prog Try.f55=some a55:=by kernel_rfl
def a45:AFn:=
⟨23,[.t 6,.t 7],(.seq
 (.reg [⟨some 6,.mv (.k (.int .i64 0)),no⟩,⟨some 7,.mv (.k (.bool false)),no⟩]) (.seq
 (.reg [⟨some 11,.mv (.t 1),no⟩,⟨some 12,.mv (.t 2),no⟩,⟨some 13,.call (.k (.fn (.func 62) [] [])) [.t 11,.t 12],no⟩,⟨some 10,.mv (.t 13),no⟩,⟨some 14,.ext (.t 10) 0,no⟩,⟨some 15,.ext (.t 10) 1,no⟩,⟨some 8,.mv (.t 14),no⟩,⟨some 9,.mv (.t 15),no⟩]) (.seq (.seq
 (.reg [⟨some 16,.mv (.t 9),no⟩,⟨some 17,.un .not (.t 16),no⟩]) (.cond (.t 17) (.seq
 (.reg [⟨some 6,.mv (.k (.int .i64 0)),no⟩,⟨some 7,.mv (.k (.bool false)),no⟩]) .ret) .skip)) (.seq
 (.reg [⟨some 18,.mv (.t 0),no⟩,⟨some 19,.mv (.t 8),no⟩,⟨some 20,.call (.k (.fn (.func 63) [] [])) [.t 18,.t 19],no⟩,⟨some 21,.ext (.t 20) 0,no⟩,⟨some 22,.ext (.t 20) 1,no⟩,⟨some 6,.mv (.t 21),no⟩,⟨some 7,.mv (.t 22),no⟩]) .ret))))⟩
theorem a45_ok:compFn Try.prog Try.f45=some a45:=by kernel_rfl
def a54:AFn:=
⟨6,[.t 2],(.seq
 (.reg [⟨some 2,.mv (.k (.bool false)),no⟩]) (.seq
 (.reg [⟨some 3,.mv (.t 0),no⟩,⟨some 4,.call (.k (.fn (.func 52) [] [])) [.t 3],no⟩,⟨some 5,.un .not (.t 4),no⟩,⟨some 2,.mv (.t 5),no⟩]) .ret))⟩
theorem a54_ok:compFn Try.prog Try.f54=some a54:=by kernel_rfl
def a33:AFn:=
⟨25,[.t 4],(.seq
 (.reg [⟨some 2,.boxv (.t 0),no⟩,⟨some 4,.mv (.k (.bool false)),no⟩]) (.seq
 (.reg [⟨some 5,.mv (.t 1),no⟩,⟨some 6,.call (.k (.fn (.func 51) [] [])) [.t 5,(.k (.int .i64 0)),(.k (.int .i64 8))],no⟩,⟨some 7,.mv (.t 6),no⟩,⟨some 8,.fld 1 (.t 2),(some (7,true))⟩,⟨some 9,.ld false 1 (.t 8),(some (7,true))⟩,⟨some 10,.len false (.t 9),(some (7,true))⟩,⟨some 11,.mv (.t 1),(some (7,true))⟩,⟨some 12,.bin .eql (.t 10) (.t 11),(some (7,true))⟩,⟨some 13,.pick (.t 7) (.t 12) (.k (.bool false)),no⟩,⟨some 14,.mv (.t 13),no⟩,⟨some 15,.fld 0 (.t 2),(some (14,true))⟩,⟨some 16,.ld false 1 (.t 15),(some (14,true))⟩,⟨some 17,.call (.k (.fn (.func 52) [] [])) [.t 16],(some (14,true))⟩,⟨some 18,.pick (.t 14) (.t 17) (.k (.bool false)),no⟩,⟨some 19,.mv (.t 18),no⟩,⟨some 20,.fld 1 (.t 2),(some (19,true))⟩,⟨some 21,.ld false 1 (.t 20),(some (19,true))⟩,⟨some 22,.call (.k (.fn (.func 53) [] [])) [.t 21,(.k (.fn (.func 54) [] []))],(some (19,true))⟩,⟨some 23,.un .not (.t 22),(some (19,true))⟩,⟨some 24,.pick (.t 19) (.t 23) (.k (.bool false)),no⟩,⟨some 4,.mv (.t 24),no⟩]) .ret))⟩
theorem a33_ok:compFn Try.prog Try.f33=some a33:=by kernel_rfl
def a25:AFn:=
⟨34,[.t 4],(.seq
 (.reg [⟨some 2,.boxv (.t 0),no⟩,⟨some 4,.mv (.k (.bool false)),no⟩]) (.seq (.seq
 (.reg [⟨some 5,.mv (.k (.int .i64 0)),no⟩]) (.blk 0 (.loop (.seq (.seq
 (.reg [⟨some 6,.mv (.t 5),no⟩,⟨some 7,.fld 1 (.t 2),no⟩,⟨some 8,.ld false 1 (.t 7),no⟩,⟨some 9,.len false (.t 8),no⟩,⟨some 10,.bin .lss (.t 6) (.t 9),no⟩]) (.cond (.t 10) .skip (.exit 0))) (.seq (.blk 1 (.seq
 (.reg [⟨some 13,.fld 1 (.t 2),no⟩,⟨some 14,.ld false 1 (.t 13),no⟩,⟨some 15,.mv (.t 5),no⟩,⟨some 16,.ixa 1 (.t 14) (.t 15),no⟩,⟨some 17,.ld false 1 (.t 16),no⟩,⟨some 18,.call (.k (.fn (.func 44) [] [])) [.t 17],no⟩,⟨some 19,.un .not (.t 18),no⟩]) (.cond (.t 19) (.seq
 (.reg [⟨some 4,.mv (.k (.bool false)),no⟩]) .ret) .skip)))
 (.reg [⟨some 11,.mv (.t 5),no⟩,⟨some 12,.bin .add (.t 11) (.k (.int .i64 1)),no⟩,⟨some 5,.mv (.t 12),no⟩])))))) (.seq
 (.reg [⟨some 20,.mv (.t 1),no⟩,⟨some 21,.call (.k (.fn (.func 43) [] [])) [.t 20,(.k (.int .i64 0)),(.k (.int .i64 8))],no⟩,⟨some 22,.mv (.t 21),no⟩,⟨some 23,.fld 1 (.t 2),(some (22,true))⟩,⟨some 24,.ld false 1 (.t 23),(some (22,true))⟩,⟨some 25,.len false (.t 24),(some (22,true))⟩,⟨some 26,.mv (.t 1),(some (22,true))⟩,⟨some 27,.bin .eql (.t 25) (.t 26),(some (22,true))⟩,⟨some 28,.pick (.t 22) (.t 27) (.k (.bool false)),no⟩,⟨some 29,.mv (.t 28),no⟩,⟨some 30,.fld 0 (.t 2),(some (29,true))⟩,⟨some 31,.ld false 1 (.t 30),(some (29,true))⟩,⟨some 32,.call (.k (.fn (.func 44) [] [])) [.t 31],(some (29,true))⟩,⟨some 33,.pick (.t 29) (.t 32) (.k (.bool false)),no⟩,⟨some 4,.mv (.t 33),no⟩]) .ret)))⟩
theorem a25_ok:compFn Try.prog Try.f25=some a25:=by kernel_rfl
theorem a53_ok:compFn Try.prog Try.f53=some (tContainsFunc 67):=by kernel_rfl
theorem a67_ok:compFn Try.prog Try.f67=some (tIndexFunc false 1):=by kernel_rfl
def inR (n lo hi:Int):Bool:=decide (lo≤n∧n≤hi)
def okC (n:Int):Bool:=inR n (-1000000000) 1000000000
theorem okC_iff {n:Int} : okC n=true ↔ -1000000000≤n∧n≤1000000000:=by simp [okC,inR]
theorem mul_lim {x y:Int} (hx:okC x=true) (hy:okC y=true) : -1000000000000000000≤x*y∧x*y≤1000000000000000000:=by
 rw [okC_iff] at hx hy
 have h:(x*y).natAbs≤1000000000*1000000000:=by
   rw [Int.natAbs_mul]; exact Nat.mul_le_mul (by omega) (by omega)
 omega
theorem k_within (n lo hi:Int):Holds Try.prog 51 [i64 n,i64 lo,i64 hi] (fun r=>r = .bool (inR n lo hi)):=by
 refine holds_of_run Try.func51 a51_ok rfl (by simp [a51]) ?_
 simp [a51]
 constructor <;> intro h <;> simp [inR] <;> omega
theorem k_coeffOk (n:Int):Holds Try.prog 52 [i64 n] (fun r=>r = .bool (okC n)):=by
 refine holds_of_run Try.func52 a52_ok rfl (by simp [a52]) ?_
 simp [a52]
 first|refine callD_of (k_within n (-1000000000) 1000000000) (by first|simp;done|rfl) ?_|refine call_of (k_within n (-1000000000) 1000000000) (by first|simp;done|rfl) ?_
 rintro r rfl
 simp
 rfl
theorem k_l1In (n lo hi:Int):Holds Try.prog 43 [i64 n,i64 lo,i64 hi] (fun r=>r = .bool (inR n lo hi)):=by
 refine holds_of_run Try.func43 a43_ok rfl (by simp [a43]) ?_
 simp [a43]
 constructor <;> intro h <;> simp [inR] <;> omega
theorem k_l3In (n:Int):Holds Try.prog 44 [i64 n] (fun r=>r = .bool (okC n)):=by
 refine holds_of_run Try.func44 a44_ok rfl (by simp [a44]) ?_
 simp [a44]
 first|refine callD_of (k_l1In n (-1000000000) 1000000000) (by first|simp;done|rfl) ?_|refine call_of (k_l1In n (-1000000000) 1000000000) (by first|simp;done|rfl) ?_
 rintro r rfl
 simp
 rfl
def addL (x y:Int):Int×Bool:=if okC x&&okC y&&okC (x+y) then (x+y,true) else (0,false)
def mulL (x y:Int):Int×Bool:=if okC x&&okC y&&okC (x*y) then (x*y,true) else (0,false)
def pairA (p:Int×Bool):AV := .tup [i64 p.1,.bool p.2]
theorem k_AddLimited (x y:Int):Holds Try.prog 69 [i64 x,i64 y] (fun r=>r=pairA (addL x y)):=by
 refine holds_of_run Try.func69 a69_ok rfl (by simp [a69]) ?_
 simp [a69,pairA,addL]
 first|refine callD_of (k_coeffOk x) (by first|simp;done|rfl) ?_|refine call_of (k_coeffOk x) (by first|simp;done|rfl) ?_
 rintro r rfl
 cases hx:okC x
 · simp
 simp
 first|refine callD_of (k_coeffOk y) (by first|simp;done|rfl) ?_|refine call_of (k_coeffOk y) (by first|simp;done|rfl) ?_
 rintro r rfl
 cases hy:okC y
 · simp
 simp
 rw [okC_iff] at hx hy
 rw [wrap64 (by omega)]
 first|refine callD_of (k_coeffOk (x+y)) (by first|simp;done|rfl) ?_|refine call_of (k_coeffOk (x+y)) (by first|simp;done|rfl) ?_
 rintro r rfl
 cases hz:okC (x+y)
 · simp
 · simp; exact wrap64 (by omega)
theorem k_MulLimited (x y:Int):Holds Try.prog 68 [i64 x,i64 y] (fun r=>r=pairA (mulL x y)):=by
 refine holds_of_run Try.func68 a68_ok rfl (by simp [a68]) ?_
 simp [a68,pairA,mulL]
 first|refine callD_of (k_coeffOk x) (by first|simp;done|rfl) ?_|refine call_of (k_coeffOk x) (by first|simp;done|rfl) ?_
 rintro r rfl
 cases hx:okC x
 · simp
 simp
 first|refine callD_of (k_coeffOk y) (by first|simp;done|rfl) ?_|refine call_of (k_coeffOk y) (by first|simp;done|rfl) ?_
 rintro r rfl
 cases hy:okC y
 · simp
 simp
 have:=mul_lim hx hy
 rw [wrap64 (by omega)]
 first|refine callD_of (k_coeffOk (x*y)) (by first|simp;done|rfl) ?_|refine call_of (k_coeffOk (x*y)) (by first|simp;done|rfl) ?_
 rintro r rfl
 cases hz:okC (x*y)
 · simp
 · simp; exact wrap64 (by omega)
theorem ks_AddLimited (x y:Int):Holds Try.prog 63 [i64 x,i64 y] (fun r=>r=pairA (addL x y)):=by
 refine holds_of_run Try.func63 a63_ok rfl (by simp [a63]) ?_
 simp [a63,pairA,addL]
 first|refine callD_of (k_l3In x) (by first|simp;done|rfl) ?_|refine call_of (k_l3In x) (by first|simp;done|rfl) ?_
 rintro r rfl
 cases hx:okC x
 · simp
 simp
 first|refine callD_of (k_l3In y) (by first|simp;done|rfl) ?_|refine call_of (k_l3In y) (by first|simp;done|rfl) ?_
 rintro r rfl
 cases hy:okC y
 · simp
 simp
 rw [okC_iff] at hx hy
 rw [wrap64 (by omega)]
 first|refine callD_of (k_l3In (x+y)) (by first|simp;done|rfl) ?_|refine call_of (k_l3In (x+y)) (by first|simp;done|rfl) ?_
 rintro r rfl
 cases hz:okC (x+y)
 · simp
 · simp; exact wrap64 (by omega)
theorem ks_MulLimited (x y:Int):Holds Try.prog 62 [i64 x,i64 y] (fun r=>r=pairA (mulL x y)):=by
 refine holds_of_run Try.func62 a62_ok rfl (by simp [a62]) ?_
 simp [a62,pairA,mulL]
 first|refine callD_of (k_l3In x) (by first|simp;done|rfl) ?_|refine call_of (k_l3In x) (by first|simp;done|rfl) ?_
 rintro r rfl
 cases hx:okC x
 · simp
 simp
 first|refine callD_of (k_l3In y) (by first|simp;done|rfl) ?_|refine call_of (k_l3In y) (by first|simp;done|rfl) ?_
 rintro r rfl
 cases hy:okC y
 · simp
 simp
 have:=mul_lim hx hy
 rw [wrap64 (by omega)]
 first|refine callD_of (k_l3In (x*y)) (by first|simp;done|rfl) ?_|refine call_of (k_l3In (x*y)) (by first|simp;done|rfl) ?_
 rintro r rfl
 cases hz:okC (x*y)
 · simp
 · simp; exact wrap64 (by omega)
def scaledI (x k y:Int):Int×Bool:=((addL x (mulL k y).1).1,(mulL k y).2&&(addL x (mulL k y).1).2)
def scaledS (x k y:Int):Int×Bool:=if (mulL k y).2 then addL x (mulL k y).1 else (0,false)
theorem k_scaled (x k y:Int):Holds Try.prog 55 [i64 x,i64 k,i64 y] (fun r=>r=pairA (scaledI x k y)):=by
 refine holds_of_run Try.func55 a55_ok rfl (by simp [a55]) ?_
 simp [a55]
 first|refine callD_of (k_MulLimited k y) (by first|simp [pairA];done|rfl) ?_|refine call_of (k_MulLimited k y) (by first|simp [pairA];done|rfl) ?_
 rintro r rfl
 simp [pairA]
 first|refine callD_of (k_AddLimited x (mulL k y).1) (by first|simp [pairA,scaledI];done|rfl) ?_|refine call_of (k_AddLimited x (mulL k y).1) (by first|simp [pairA,scaledI];done|rfl) ?_
 rintro r rfl
 simp [pairA,scaledI]
 cases (mulL k y).2 <;> simp
theorem ks_l4Sum (x k y:Int):Holds Try.prog 45 [i64 x,i64 k,i64 y] (fun r=>r=pairA (scaledS x k y)):=by
 refine holds_of_run Try.func45 a45_ok rfl (by simp [a45]) ?_
 simp [a45]
 first|refine callD_of (ks_MulLimited k y) (by first|simp [pairA,scaledS];done|rfl) ?_|refine call_of (ks_MulLimited k y) (by first|simp [pairA,scaledS];done|rfl) ?_
 rintro r rfl
 simp [pairA,scaledS]
 cases h:(mulL k y).2
 · simp
 simp
 first|refine callD_of (ks_AddLimited x (mulL k y).1) (by first|simp [pairA];done|rfl) ?_|refine call_of (ks_AddLimited x (mulL k y).1) (by first|simp [pairA];done|rfl) ?_
 rintro r rfl
 simp [pairA]
def scaledO (x k y:Int):Option Int:=if (mulL k y).2&&(addL x (mulL k y).1).2 then some (addL x (mulL k y).1).1 else Option.none
theorem scaledI_snd (x k y:Int):(scaledI x k y).2=(scaledO x k y).isSome:=by unfold scaledI scaledO; split <;> simp_all
theorem scaledS_snd (x k y:Int):(scaledS x k y).2=(scaledO x k y).isSome:=by unfold scaledS scaledO; cases (mulL k y).2 <;> simp; cases h:(addL x (mulL k y).1).2 <;> simp
theorem scaledI_fst {x k y v:Int} (h:scaledO x k y=some v):(scaledI x k y).1=v:=by unfold scaledO at h; unfold scaledI; split at h <;> simp_all
theorem scaledS_fst {x k y v:Int} (h:scaledO x k y=some v):(scaledS x k y).1=v:=by unfold scaledO at h; unfold scaledS; split at h <;> simp_all
def okLin (l:DLin) (n:Int):Bool:=inR n 0 8&&decide ((l.Coeffs.length:Int)=n)&&okC l.Const&&l.Coeffs.all okC
theorem k_notC (n:Int):Holds Try.prog 54 [i64 n] (fun r=>r = .bool (!okC n)):=by
 refine holds_of_run Try.func54 a54_ok rfl (by simp [a54]) ?_
 simp [a54]
 first|refine callD_of (k_coeffOk n) (by first|simp;done|rfl) ?_|refine call_of (k_coeffOk n) (by first|simp;done|rfl) ?_
 rintro r rfl
 simp
theorem any_not {α:Type} (p:α→Bool) (l:List α):l.any (fun x => !p x) = !l.all p:=by
 rw [List.all_eq_not_any_not,Bool.not_not]
theorem a_anyNotC {h:Heap} {n:Nat} {K:AV→Heap→Nat→Prop} (l:List Int) (hK:K (.bool (!l.all okC)) h n):ACall Try.prog 53 [.sl 1 (intsR l),.fn (.func 54) [] []] h n K:=
 acall_tContainsFunc (p:=fun n => !okC n) (rowOf:=fun n=>[i64 n]) (eltOf:=i64) Try.func53 a53_ok rfl Try.func67 a67_ok rfl (fun x=>by simp) l
   (fun x _=>pure1_of_holds (k_notC x) rfl rfl) (by rw [any_not]; exact hK)
theorem k_IsValidLin (l:DLin) (n:Int):Holds Try.prog 33 [.agg (rALin l),i64 n] (fun r=>r = .bool (okLin l n)):=by
 refine holds_of_run Try.func33 a33_ok rfl (by simp [a33]) ?_
 simp [a33,rALin]
 first|refine callD_of (k_within n 0 8) (by first|simp;done|rfl) ?_|refine call_of (k_within n 0 8) (by first|simp;done|rfl) ?_
 rintro r rfl
 unfold okLin
 cases h1:inR n 0 8
 · simp
 simp
 intro _
 by_cases h2:(l.Coeffs.length:Int)=n
 case neg=>simp [h2]
 simp [h2]
 first|refine callD_of (k_coeffOk l.Const) (by first|simp;done|rfl) ?_|refine call_of (k_coeffOk l.Const) (by first|simp;done|rfl) ?_
 rintro r rfl
 cases h3:okC l.Const
 · simp
 simp
 refine a_anyNotC l.Coeffs ?_
 simp
theorem ks_IsValidLin (l:DLin) (n:Int):Holds Try.prog 25 [.agg (rALin l),i64 n] (fun r=>r = .bool (okLin l n)):=by
 refine holds_of_lim Try.func25 rfl rfl fun hl => ?_
 simp [rALin] at hl
 refine holds_of_run Try.func25 a25_ok rfl (by simp [a25]) ?_
 simp [a25,rALin]
 refine rL_for [1,2] 5 l.Coeffs.length (fun i _=>(l.Coeffs.drop i).all okC=l.Coeffs.all okC) hl (by simp) (by simp) ?_ ?_
 · intro i s hi hg hk s5 hw hJ
   simp at hk
   rw [List.drop_eq_getElem_cons hi,List.all_cons] at hJ
   simp [hk,s5,hi,hg]
   intro _
   first | refine callD_of (k_l3In _) (by simp) ?_ | refine call_of (k_l3In _) (by simp) ?_ | refine callD_of (k_l3In _) rfl ?_ | refine call_of (k_l3In _) rfl ?_
   rintro r rfl
   cases h1:okC l.Coeffs[i]
   · have hJ:l.Coeffs.all okC=false:=by rw [←hJ,h1]; rfl
     simp [hk,okLin,hJ]
   · rw [h1,Bool.true_and] at hJ
     simp [hk,s5,hw]
     exact hJ
 · intro s hk s5 hJ
   simp at hk hJ
   simp [hk,s5]
   intro _
   first|refine callD_of (k_l1In n 0 8) (by first|simp;done|rfl) ?_|refine call_of (k_l1In n 0 8) (by first|simp;done|rfl) ?_
   rintro r rfl
   unfold okLin
   cases h1:inR n 0 8
   · simp
   simp [hk]
   intro _
   by_cases h2:(l.Coeffs.length:Int)=n
   case neg=>simp [h2]
   simp [h2]
   first|refine callD_of (k_l3In l.Const) (by first|simp;done|rfl) ?_|refine call_of (k_l3In l.Const) (by first|simp;done|rfl) ?_
   rintro r rfl
   cases h3:okC l.Const <;> simp
   exact hJ
end Go.Proofs.Ytoclolkigjbcgaa

namespace Go.Proofs.Ytoclolkigjbcgaa
set_option linter.all false
open Go Go.RowKit Go.Proofs
def a35:AFn:=
⟨18,[(.c 4 true 2)],(.seq
 (.reg [⟨some 4,.box [(.int .i64 0),(.nil 1)],no⟩]) (.seq (.seq
 (.reg [⟨some 5,.mv (.t 1),no⟩,⟨some 6,.call (.k (.fn (.func 51) [] [])) [.t 5,(.k (.int .i64 0)),(.k (.int .i64 8))],no⟩,⟨some 7,.un .not (.t 6),no⟩,⟨some 8,.mv (.t 7),no⟩,⟨some 9,.mv (.t 0),(some (8,false))⟩,⟨some 10,.call (.k (.fn (.func 52) [] [])) [.t 9],(some (8,false))⟩,⟨some 11,.un .not (.t 10),(some (8,false))⟩,⟨some 12,.pick (.t 8) (.k (.bool true)) (.t 11),no⟩]) (.cond (.t 12) (.seq
 (.reg [⟨some 13,.build [(.int .i64 0),(.nil 1)] [],no⟩,⟨no,.st 2 (.t 4) (.t 13),no⟩]) .ret) .skip)) (.seq
 (.reg [⟨some 14,.mv (.t 0),no⟩,⟨some 15,.mv (.t 1),no⟩,⟨some 16,.mks 8 [(.int .i64 0)] (.t 15) (.t 15),no⟩,⟨some 17,.build [(.int .i64 0),(.nil 1)] [(0,(1,(.t 14))),(1,(1,(.t 16)))],no⟩,⟨no,.st 2 (.t 4) (.t 17),no⟩]) .ret)))⟩
theorem a35_ok:compFn Try.prog Try.f35=some a35:=by kernel_rfl
def a27:AFn:=
⟨18,[(.c 4 true 2)],(.seq
 (.reg [⟨some 4,.box [(.int .i64 0),(.nil 1)],no⟩]) (.seq (.seq
 (.reg [⟨some 5,.mv (.t 1),no⟩,⟨some 6,.call (.k (.fn (.func 43) [] [])) [.t 5,(.k (.int .i64 0)),(.k (.int .i64 8))],no⟩,⟨some 7,.un .not (.t 6),no⟩,⟨some 8,.mv (.t 7),no⟩,⟨some 9,.mv (.t 0),(some (8,false))⟩,⟨some 10,.call (.k (.fn (.func 44) [] [])) [.t 9],(some (8,false))⟩,⟨some 11,.un .not (.t 10),(some (8,false))⟩,⟨some 12,.pick (.t 8) (.k (.bool true)) (.t 11),no⟩]) (.cond (.t 12) (.seq
 (.reg [⟨some 13,.build [(.int .i64 0),(.nil 1)] [],no⟩,⟨no,.st 2 (.t 4) (.t 13),no⟩]) .ret) .skip)) (.seq
 (.reg [⟨some 14,.mv (.t 0),no⟩,⟨some 15,.mv (.t 1),no⟩,⟨some 16,.mks 8 [(.int .i64 0)] (.t 15) (.t 15),no⟩,⟨some 17,.build [(.int .i64 0),(.nil 1)] [(0,(1,(.t 14))),(1,(1,(.t 16)))],no⟩,⟨no,.st 2 (.t 4) (.t 17),no⟩]) .ret)))⟩
theorem a27_ok:compFn Try.prog Try.f27=some a27:=by kernel_rfl
def a75:AFn:=
⟨8,[.t 2],(.seq
 (.reg [⟨some 2,.mv (.k (.nil 1)),no⟩]) (.seq (.seq
 (.reg [⟨some 3,.mv (.t 0),no⟩,⟨some 4,.inil false (.t 3),no⟩]) (.cond (.t 4) (.seq
 (.reg [⟨some 2,.mv (.k (.nil 1)),no⟩]) .ret) .skip)) (.seq
 (.reg [⟨some 5,.bsl 1 [],no⟩,⟨some 6,.mv (.t 0),no⟩,⟨some 7,.app 8 1 (.t 5) (.t 6),no⟩,⟨some 2,.mv (.t 7),no⟩]) .ret)))⟩
theorem a75_ok:compFn Try.prog Try.f75=some a75:=by kernel_rfl
def a72:AFn:=
⟨9,[(.c 2 true 2)],(.seq
 (.reg [⟨some 1,.boxv (.t 0),no⟩,⟨some 2,.box [(.int .i64 0),(.nil 1)],no⟩]) (.seq (.draw (.op ⟨some 3,.fld 0 (.t 1),no⟩ (.op ⟨some 4,.ld false 1 (.t 3),no⟩ (.op ⟨some 5,.fld 1 (.t 1),no⟩ (.op ⟨some 6,.ld false 1 (.t 5),no⟩ (.op ⟨some 7,.call (.k (.fn (.func 75) [] [])) [.t 6],no⟩ (.op ⟨some 8,.build [(.int .i64 0),(.nil 1)] [(0,(1,(.t 4))),(1,(1,(.t 7)))],no⟩ (.hop ⟨no,.st 2 (.t 2) (.t 8),no⟩ [] .fin)))))))) .ret))⟩
theorem a72_ok:compFn Try.prog Try.f72=some a72:=by kernel_rfl
def a34:AFn:=
⟨82,[(.c 6 true 2),.t 7],(.seq
 (.reg [⟨some 3,.boxv (.t 0),no⟩,⟨some 5,.boxv (.t 2),no⟩,⟨some 6,.box [(.int .i64 0),(.nil 1)],no⟩,⟨some 7,.mv (.k (.bool false)),no⟩]) (.seq
 (.reg [⟨some 15,.fld 1 (.t 3),no⟩,⟨some 16,.ld false 1 (.t 15),no⟩,⟨some 17,.len false (.t 16),no⟩,⟨some 8,.mv (.t 17),no⟩]) (.seq (.seq
 (.reg [⟨some 18,.ld true 2 (.t 3),no⟩,⟨some 19,.mv (.t 8),no⟩,⟨some 20,.call (.k (.fn (.func 33) [] [])) [.t 18,.t 19],no⟩,⟨some 21,.un .not (.t 20),no⟩,⟨some 22,.mv (.t 21),no⟩,⟨some 23,.ld true 2 (.t 5),(some (22,false))⟩,⟨some 24,.mv (.t 8),(some (22,false))⟩,⟨some 25,.call (.k (.fn (.func 33) [] [])) [.t 23,.t 24],(some (22,false))⟩,⟨some 26,.un .not (.t 25),(some (22,false))⟩,⟨some 27,.pick (.t 22) (.k (.bool true)) (.t 26),no⟩,⟨some 28,.mv (.t 27),no⟩,⟨some 29,.mv (.t 1),(some (28,false))⟩,⟨some 30,.call (.k (.fn (.func 52) [] [])) [.t 29],(some (28,false))⟩,⟨some 31,.un .not (.t 30),(some (28,false))⟩,⟨some 32,.pick (.t 28) (.k (.bool true)) (.t 31),no⟩]) (.cond (.t 32) (.seq
 (.reg [⟨some 33,.build [(.int .i64 0),(.nil 1)] [],no⟩,⟨no,.st 2 (.t 6) (.t 33),no⟩,⟨some 7,.mv (.k (.bool false)),no⟩]) .ret) .skip)) (.seq
 (.reg [⟨some 34,.mv (.t 8),no⟩,⟨some 35,.call (.k (.fn (.func 35) [] [])) [(.k (.int .i64 0)),.t 34],no⟩,⟨some 9,.box [(.int .i64 0),(.nil 1)],no⟩,⟨no,.st 2 (.t 9) (.t 35),no⟩]) (.seq
 (.reg [⟨some 37,.fld 0 (.t 3),no⟩,⟨some 38,.ld false 1 (.t 37),no⟩,⟨some 39,.mv (.t 1),no⟩,⟨some 40,.fld 0 (.t 5),no⟩,⟨some 41,.ld false 1 (.t 40),no⟩,⟨some 42,.call (.k (.fn (.func 55) [] [])) [.t 38,.t 39,.t 41],no⟩,⟨some 36,.mv (.t 42),no⟩,⟨some 43,.ext (.t 36) 0,no⟩,⟨some 44,.ext (.t 36) 1,no⟩,⟨some 10,.mv (.t 43),no⟩,⟨some 11,.mv (.t 44),no⟩]) (.seq
 (.reg [⟨some 45,.mv (.t 10),no⟩,⟨some 46,.fld 0 (.t 9),no⟩,⟨no,.st 1 (.t 46) (.t 45),no⟩]) (.seq (.seq
 (.reg [⟨some 47,.fld 1 (.t 3),no⟩,⟨some 48,.ld false 1 (.t 47),no⟩,⟨some 49,.len false (.t 48),no⟩,⟨some 50,.mv (.k (.int .i64 0)),no⟩]) (.blk 0 (.loop (.seq
 (.reg [⟨some 51,.bin .lss (.t 50) (.t 49),no⟩]) (.seq (.cond (.t 51) .skip (.exit 0)) (.seq (.blk 1 (.seq
 (.reg [⟨some 52,.mv (.t 50),no⟩,⟨some 12,.mv (.t 52),no⟩]) (.seq (.draw (.op ⟨some 54,.fld 1 (.t 3),no⟩ (.op ⟨some 55,.ld false 1 (.t 54),no⟩ (.op ⟨some 56,.mv (.t 12),no⟩ (.op ⟨some 57,.ixa 1 (.t 55) (.t 56),no⟩ (.op ⟨some 58,.ld false 1 (.t 57),no⟩ (.op ⟨some 59,.mv (.t 1),no⟩ (.op ⟨some 60,.fld 1 (.t 5),no⟩ (.op ⟨some 61,.ld false 1 (.t 60),no⟩ (.op ⟨some 62,.mv (.t 12),no⟩ (.op ⟨some 63,.ixa 1 (.t 61) (.t 62),no⟩ (.op ⟨some 64,.ld false 1 (.t 63),no⟩ (.op ⟨some 65,.call (.k (.fn (.func 55) [] [])) [.t 58,.t 59,.t 64],no⟩ (.op ⟨some 53,.mv (.t 65),no⟩ (.op ⟨some 66,.ext (.t 53) 0,no⟩ (.op ⟨some 67,.ext (.t 53) 1,no⟩ (.op ⟨some 13,.mv (.t 66),no⟩ (.op ⟨some 14,.mv (.t 67),no⟩ .fin)))))))))))))))))) (.seq
 (.reg [⟨some 68,.fld 1 (.t 9),no⟩,⟨some 69,.ld false 1 (.t 68),no⟩,⟨some 70,.mv (.t 12),no⟩,⟨some 71,.mv (.t 13),no⟩,⟨some 72,.ixa 1 (.t 69) (.t 70),no⟩,⟨no,.st 1 (.t 72) (.t 71),no⟩])
 (.reg [⟨some 73,.mv (.t 11),no⟩,⟨some 74,.mv (.t 73),no⟩,⟨some 75,.mv (.t 14),(some (74,true))⟩,⟨some 76,.pick (.t 74) (.t 75) (.k (.bool false)),no⟩,⟨some 11,.mv (.t 76),no⟩])))))
 (.reg [⟨some 77,.bin .add (.t 50) (.k (.int .i64 1)),no⟩,⟨some 50,.mv (.t 77),no⟩]))))))) (.seq (.seq
 (.reg [⟨some 78,.mv (.t 11),no⟩,⟨some 79,.un .not (.t 78),no⟩]) (.cond (.t 79) (.seq
 (.reg [⟨some 80,.build [(.int .i64 0),(.nil 1)] [],no⟩,⟨no,.st 2 (.t 6) (.t 80),no⟩,⟨some 7,.mv (.k (.bool false)),no⟩]) .ret) .skip)) (.seq
 (.reg [⟨some 81,.ld true 2 (.t 9),no⟩,⟨no,.st 2 (.t 6) (.t 81),no⟩,⟨some 7,.mv (.k (.bool true)),no⟩]) .ret)))))))))⟩
theorem a34_ok:compFn Try.prog Try.f34=some a34:=by kernel_rfl
def a26:AFn:=
⟨86,[(.c 6 true 2),.t 7],(.seq
 (.reg [⟨some 3,.boxv (.t 0),no⟩,⟨some 5,.boxv (.t 2),no⟩,⟨some 6,.box [(.int .i64 0),(.nil 1)],no⟩,⟨some 7,.mv (.k (.bool false)),no⟩]) (.seq
 (.reg [⟨some 16,.fld 1 (.t 3),no⟩,⟨some 17,.ld false 1 (.t 16),no⟩,⟨some 18,.len false (.t 17),no⟩,⟨some 8,.mv (.t 18),no⟩]) (.seq (.seq
 (.reg [⟨some 19,.ld true 2 (.t 3),no⟩,⟨some 20,.mv (.t 8),no⟩,⟨some 21,.call (.k (.fn (.func 25) [] [])) [.t 19,.t 20],no⟩,⟨some 22,.un .not (.t 21),no⟩,⟨some 23,.mv (.t 22),no⟩,⟨some 24,.ld true 2 (.t 5),(some (23,false))⟩,⟨some 25,.mv (.t 8),(some (23,false))⟩,⟨some 26,.call (.k (.fn (.func 25) [] [])) [.t 24,.t 25],(some (23,false))⟩,⟨some 27,.un .not (.t 26),(some (23,false))⟩,⟨some 28,.pick (.t 23) (.k (.bool true)) (.t 27),no⟩,⟨some 29,.mv (.t 28),no⟩,⟨some 30,.mv (.t 1),(some (29,false))⟩,⟨some 31,.call (.k (.fn (.func 44) [] [])) [.t 30],(some (29,false))⟩,⟨some 32,.un .not (.t 31),(some (29,false))⟩,⟨some 33,.pick (.t 29) (.k (.bool true)) (.t 32),no⟩]) (.cond (.t 33) (.seq
 (.reg [⟨some 34,.build [(.int .i64 0),(.nil 1)] [],no⟩,⟨no,.st 2 (.t 6) (.t 34),no⟩,⟨some 7,.mv (.k (.bool false)),no⟩]) .ret) .skip)) (.seq
 (.reg [⟨some 35,.mv (.t 8),no⟩,⟨some 36,.mks 8 [(.int .i64 0)] (.t 35) (.t 35),no⟩,⟨some 37,.build [(.int .i64 0),(.nil 1)] [(1,(1,(.t 36)))],no⟩,⟨some 9,.box [(.int .i64 0),(.nil 1)],no⟩,⟨no,.st 2 (.t 9) (.t 37),no⟩]) (.seq
 (.reg [⟨some 10,.mv (.k (.bool true)),no⟩]) (.seq (.seq
 (.reg [⟨some 11,.mv (.k (.int .i64 0)),no⟩]) (.blk 0 (.loop (.seq (.seq
 (.reg [⟨some 38,.mv (.t 11),no⟩,⟨some 39,.mv (.t 8),no⟩,⟨some 40,.bin .lss (.t 38) (.t 39),no⟩]) (.cond (.t 40) .skip (.exit 0))) (.seq (.blk 1 (.seq (.draw (.op ⟨some 44,.fld 1 (.t 3),no⟩ (.op ⟨some 45,.ld false 1 (.t 44),no⟩ (.op ⟨some 46,.mv (.t 11),no⟩ (.op ⟨some 47,.ixa 1 (.t 45) (.t 46),no⟩ (.op ⟨some 48,.ld false 1 (.t 47),no⟩ (.op ⟨some 49,.mv (.t 1),no⟩ (.op ⟨some 50,.fld 1 (.t 5),no⟩ (.op ⟨some 51,.ld false 1 (.t 50),no⟩ (.op ⟨some 52,.mv (.t 11),no⟩ (.op ⟨some 53,.ixa 1 (.t 51) (.t 52),no⟩ (.op ⟨some 54,.ld false 1 (.t 53),no⟩ (.op ⟨some 55,.call (.k (.fn (.func 45) [] [])) [.t 48,.t 49,.t 54],no⟩ (.op ⟨some 43,.mv (.t 55),no⟩ (.op ⟨some 56,.ext (.t 43) 0,no⟩ (.op ⟨some 57,.ext (.t 43) 1,no⟩ (.op ⟨some 12,.mv (.t 56),no⟩ (.op ⟨some 13,.mv (.t 57),no⟩ .fin)))))))))))))))))) (.seq
 (.reg [⟨some 58,.fld 1 (.t 9),no⟩,⟨some 59,.ld false 1 (.t 58),no⟩,⟨some 60,.mv (.t 11),no⟩,⟨some 61,.mv (.t 12),no⟩,⟨some 62,.ixa 1 (.t 59) (.t 60),no⟩,⟨no,.st 1 (.t 62) (.t 61),no⟩])
 (.reg [⟨some 63,.mv (.t 10),no⟩,⟨some 64,.mv (.t 63),no⟩,⟨some 65,.mv (.t 13),(some (64,true))⟩,⟨some 66,.pick (.t 64) (.t 65) (.k (.bool false)),no⟩,⟨some 10,.mv (.t 66),no⟩]))))
 (.reg [⟨some 41,.mv (.t 11),no⟩,⟨some 42,.bin .add (.t 41) (.k (.int .i64 1)),no⟩,⟨some 11,.mv (.t 42),no⟩])))))) (.seq
 (.reg [⟨some 68,.fld 0 (.t 3),no⟩,⟨some 69,.ld false 1 (.t 68),no⟩,⟨some 70,.mv (.t 1),no⟩,⟨some 71,.fld 0 (.t 5),no⟩,⟨some 72,.ld false 1 (.t 71),no⟩,⟨some 73,.call (.k (.fn (.func 45) [] [])) [.t 69,.t 70,.t 72],no⟩,⟨some 67,.mv (.t 73),no⟩,⟨some 74,.ext (.t 67) 0,no⟩,⟨some 75,.ext (.t 67) 1,no⟩,⟨some 14,.mv (.t 74),no⟩,⟨some 15,.mv (.t 75),no⟩]) (.seq (.seq
 (.reg [⟨some 76,.mv (.t 10),no⟩,⟨some 77,.un .not (.t 76),no⟩,⟨some 78,.mv (.t 77),no⟩,⟨some 79,.mv (.t 15),(some (78,false))⟩,⟨some 80,.un .not (.t 79),(some (78,false))⟩,⟨some 81,.pick (.t 78) (.k (.bool true)) (.t 80),no⟩]) (.cond (.t 81) (.seq
 (.reg [⟨some 82,.build [(.int .i64 0),(.nil 1)] [],no⟩,⟨no,.st 2 (.t 6) (.t 82),no⟩,⟨some 7,.mv (.k (.bool false)),no⟩]) .ret) .skip)) (.seq
 (.reg [⟨some 83,.mv (.t 14),no⟩,⟨some 84,.fld 0 (.t 9),no⟩,⟨no,.st 1 (.t 84) (.t 83),no⟩]) (.seq
 (.reg [⟨some 85,.ld true 2 (.t 9),no⟩,⟨no,.st 2 (.t 6) (.t 85),no⟩,⟨some 7,.mv (.k (.bool true)),no⟩]) .ret))))))))))⟩
theorem a26_ok:compFn Try.prog Try.f26=some a26:=by kernel_rfl
def constLin (k n:Int):DLin:=if inR n 0 8&&okC k then ⟨k,List.replicate n.toNat 0⟩ else ⟨0,[]⟩
@[simp] theorem intsR_rep (m:Nat):intsR (List.replicate m 0)=List.replicate m [AV.int .i64 0]:=by simp [intsR]
@[simp] theorem clean_rep (m:Nat):cleanr (List.replicate m [AV.int .i64 0])=true:=by rw [←intsR_rep]; exact clean_intsR _
@[simp] theorem intsR_set (l:List Int) (i:Nat) (v:Int):(intsR l).set i [AV.int .i64 v]=intsR (l.set i v):=by simp [intsR,List.map_set]
theorem k_ConstLin (k n:Int):Holds Try.prog 35 [i64 k,i64 n] (fun r=>r = .agg (rULin (constLin k n))):=by
 refine holds_of_run Try.func35 a35_ok rfl (by simp [a35]) ?_
 simp [a35]
 first|refine callD_of (k_within n 0 8) (by first|simp;done|rfl) ?_|refine call_of (k_within n 0 8) (by first|simp;done|rfl) ?_
 rintro r rfl
 unfold constLin
 cases h1:inR n 0 8
 · simp [rULin,intsR]
 simp
 first|refine callD_of (k_coeffOk k) (by first|simp;done|rfl) ?_|refine call_of (k_coeffOk k) (by first|simp;done|rfl) ?_
 rintro r rfl
 cases h2:okC k
 · simp [rULin,intsR]
 have hn:0≤n∧n≤8:=by simpa [inR] using h1
 obtain ⟨m,rfl⟩:∃ m:Nat,n=m:=⟨n.toNat,by omega⟩
 simp [rULin]
 unfold LIM
 omega
theorem ks_ConstLin (k n:Int):Holds Try.prog 27 [i64 k,i64 n] (fun r=>r = .agg (rULin (constLin k n))):=by
 refine holds_of_run Try.func27 a27_ok rfl (by simp [a27]) ?_
 simp [a27]
 first|refine callD_of (k_l1In n 0 8) (by first|simp;done|rfl) ?_|refine call_of (k_l1In n 0 8) (by first|simp;done|rfl) ?_
 rintro r rfl
 unfold constLin
 cases h1:inR n 0 8
 · simp [rULin,intsR]
 simp
 first|refine callD_of (k_l3In k) (by first|simp;done|rfl) ?_|refine call_of (k_l3In k) (by first|simp;done|rfl) ?_
 rintro r rfl
 cases h2:okC k
 · simp [rULin,intsR]
 have hn:0≤n∧n≤8:=by simpa [inR] using h1
 obtain ⟨m,rfl⟩:∃ m:Nat,n=m:=⟨n.toNat,by omega⟩
 simp [rULin]
 unfold LIM
 omega
theorem k_CloneInt (l:List Int) (hl:l.length≤1048576):Holds Try.prog 75 [.sl 1 (intsR l)] (fun r=>r = .us 1 (intsR l)):=by
 refine holds_of_run Try.func75 a75_ok rfl (by simp [a75]) ?_
 simp [a75]
 unfold LIM
 omega
theorem k_copyLin (x:DLin) (hl:x.Coeffs.length≤1048576):Holds Try.prog 72 [.agg (rALin x)] (fun r=>r = .agg (rULin x)):=by
 refine holds_of_run Try.func72 a72_ok rfl (by simp [a72]) ?_
 simp [a72,rALin]
 first|refine callD_of (k_CloneInt x.Coeffs hl) (by first|simp [rULin];done|rfl) ?_|refine call_of (k_CloneInt x.Coeffs hl) (by first|simp [rULin];done|rfl) ?_
 rintro r rfl
 simp [rULin]
def lin0:DLin:=⟨0,[]⟩
def optLin:Option DLin→AV
 | some l => .tup [.agg (rULin l),.bool true]
 | Option.none => .tup [.agg (rULin lin0),.bool false]
theorem optLin_eq (o:Option DLin):optLin o = .tup [.agg (rULin (o.getD lin0)),.bool o.isSome]:=by cases o <;> rfl
def combZ (a:DLin) (k:Int) (b:DLin):List (Option Int):=List.zipWith (fun x y=>scaledO x k y) a.Coeffs b.Coeffs
def combOk (a:DLin) (k:Int) (b:DLin):Bool:=(combZ a k b).all Option.isSome
def addScaled (a:DLin) (k:Int) (b:DLin):Option DLin:=
 if okLin a a.Coeffs.length&&okLin b a.Coeffs.length&&okC k&&(scaledO a.Const k b.Const).isSome&&combOk a k b then
   some ⟨(scaledO a.Const k b.Const).getD 0,(combZ a k b).map (·.getD 0)⟩
 else Option.none
theorem okLin_len {l:DLin} {n:Int} (h:okLin l n=true):(l.Coeffs.length:Int)=n∧0≤n∧n≤8:=by
 unfold okLin at h
 simp [inR] at h
 omega
theorem comb_vals {a b:DLin} {k:Int} {vs:List Int} (hl:b.Coeffs.length=a.Coeffs.length) (hv:vs.length=a.Coeffs.length) (g:Int→Int→Int→Int) (hg:∀ x y v,scaledO x k y=some v→g x k y=v)
   (hj:∀ j (h:j<a.Coeffs.length) (h':j<b.Coeffs.length),vs[j]? = some (g a.Coeffs[j] k b.Coeffs[j])) (hZ:(combZ a k b).all Option.isSome=true):vs=(combZ a k b).map (·.getD 0):=by
 refine List.ext_getElem (by simp [combZ,hv,hl]) fun j h1 h2 => ?_
 have h3:j<a.Coeffs.length:=by omega
 have h4:j<b.Coeffs.length:=by omega
 have h5:=hj j h3 h4
 rw [List.getElem?_eq_getElem h1] at h5
 rw [Option.some.inj h5,List.getElem_map]
 have h6:(combZ a k b)[j]'(by simpa using h2)=scaledO a.Coeffs[j] k b.Coeffs[j]:=by simp [combZ]
 rw [h6]
 have h7:=List.all_eq_true.1 hZ _ (List.getElem_mem (by simpa using h2:j<(combZ a k b).length))
 rw [h6] at h7
 obtain ⟨v,hv'⟩:=Option.isSome_iff_exists.1 h7
 rw [hg _ _ _ hv',hv']; rfl
set_option maxRecDepth 20000 in
set_option maxHeartbeats 1000000 in
theorem k_AddScaled (a:DLin) (k:Int) (b:DLin):Holds Try.prog 34 [.agg (rALin a),i64 k,.agg (rALin b)] (fun r=>r=optLin (addScaled a k b)):=by
 refine holds_of_run Try.func34 a34_ok rfl (by simp [a34]) ?_
 simp [a34,rALin]
 intro hlim
 unfold addScaled
 first|refine callD_of (k_IsValidLin a a.Coeffs.length) (by first|simp [rALin];done|rfl) ?_|refine call_of (k_IsValidLin a a.Coeffs.length) (by first|simp [rALin];done|rfl) ?_
 rintro r rfl
 cases h1:okLin a a.Coeffs.length
 · simp [optLin,lin0,rULin,intsR]
 simp
 first|refine callD_of (k_IsValidLin b a.Coeffs.length) (by first|simp [rALin];done|rfl) ?_|refine call_of (k_IsValidLin b a.Coeffs.length) (by first|simp [rALin];done|rfl) ?_
 rintro r rfl
 cases h2:okLin b a.Coeffs.length
 · simp [optLin,lin0,rULin,intsR]
 simp
 first|refine callD_of (k_coeffOk k) (by first|simp;done|rfl) ?_|refine call_of (k_coeffOk k) (by first|simp;done|rfl) ?_
 rintro r rfl
 cases h3:okC k
 · simp [optLin,lin0,rULin,intsR]
 simp
 have hla:=okLin_len h1
 have hlb:=okLin_len h2
 have hl:b.Coeffs.length=a.Coeffs.length:=by omega
 have hc0:constLin 0 (a.Coeffs.length:Int)=⟨0,List.replicate a.Coeffs.length 0⟩:=by
   unfold constLin
   rw [if_pos (by simp [inR,okC]; omega)]
   simp
 first|refine callD_of (k_ConstLin 0 a.Coeffs.length) (by first|simp;done|rfl) ?_|refine call_of (k_ConstLin 0 a.Coeffs.length) (by first|simp;done|rfl) ?_
 rintro r rfl
 rw [hc0]
 simp [rULin]
 first|refine callD_of (k_scaled a.Const k b.Const) (by first|simp [pairA];done|rfl) ?_|refine call_of (k_scaled a.Const k b.Const) (by first|simp [pairA];done|rfl) ?_
 rintro r rfl
 simp [pairA]
 intro _
 have hzl:(combZ a k b).length=a.Coeffs.length:=by simp [combZ,hl]
 refine rL_forO [1,3,5,6,9,49] 50 a.Coeffs.length (fun i s h n=>h 0=some ⟨true,2,[[.int .i64 a.Const,.sl 1 (intsR a.Coeffs)]]⟩∧h 1=some ⟨true,2,[[.int .i64 b.Const,.sl 1 (intsR b.Coeffs)]]⟩∧h 2=some ⟨true,2,[[.int .i64 0,.nil 1]]⟩ ∧
     h 4=some ⟨true,2,[[.int .i64 (scaledI a.Const k b.Const).1,.ref 3 0 a.Coeffs.length]]⟩∧∃ vs:List Int,h 3=some ⟨false,1,intsR vs⟩∧vs.length=a.Coeffs.length ∧
     (∀ j (h:j<a.Coeffs.length) (h':j<b.Coeffs.length),j<i→vs[j]? = some (scaledI a.Coeffs[j] k b.Coeffs[j]).1)∧s 11 = .bool ((scaledO a.Const k b.Const).isSome&&((combZ a k b).take i).all Option.isSome))
   hlim (by simp) (by simp; exact ⟨List.replicate a.Coeffs.length 0,by simp,by simp,by simp [scaledI_snd]⟩) ?_ ?_
 · rintro i s h n R hi hg hk s50 hw ⟨e0,e1,e2,e4,vs,e3,hvl,hvs,s11⟩ hR _ _
   simp at hk
   have hib:i<b.Coeffs.length:=by omega
   have hiv:i<vs.length:=by omega
   have hiz:i<(combZ a k b).length:=by omega
   have hZi:(combZ a k b)[i]=scaledO a.Coeffs[i] k b.Coeffs[i]:=by simp [combZ]
   have hflag:((scaledO a.Const k b.Const).isSome&&((combZ a k b).take (i+1)).all Option.isSome)=(((scaledO a.Const k b.Const).isSome&&((combZ a k b).take i).all Option.isSome)&&(scaledI a.Coeffs[i] k b.Coeffs[i]).2):=by
     rw [List.take_succ_eq_append_getElem hiz,List.all_append,hZi,scaledI_snd]
     simp [Bool.and_assoc]
   have hvs':∀ j (h:j<a.Coeffs.length) (h':j<b.Coeffs.length),j<i+1→(vs.set i (scaledI a.Coeffs[i] k b.Coeffs[i]).1)[j]? = some (scaledI a.Coeffs[j] k b.Coeffs[j]).1:=by
     intro j h h' hj
     rw [List.getElem?_set]
     by_cases hji:i=j
     · subst hji; simp [hiv]
     · rw [if_neg hji]; exact hvs j h h' (by omega)
   obtain ⟨f,hf⟩:∃ f,f=((scaledO a.Const k b.Const).isSome&&((combZ a k b).take i).all Option.isSome):=⟨_,rfl⟩
   rw [←hf] at s11 hflag
   cases f
   all_goals
     simp [hk,s50,hi,hg,hw,hib,hiv,e0,e1,e2,e3,e4,s11]
     first | refine callD_of (k_scaled _ _ _) (by simp [pairA]) ?_ | refine call_of (k_scaled _ _ _) (by simp [pairA]) ?_ | refine callD_of (k_scaled _ _ _) rfl ?_ | refine call_of (k_scaled _ _ _) rfl ?_
     rintro r rfl
     simp [hk,s50,hi,hg,hw,hib,hiv,e0,e1,e2,e3,e4,s11,pairA]
     exact hR _ _ _ (by simp [hk]) (by simp) ⟨by simp [e0],by simp [e1],by simp [e2],by simp [e4],_,by simp,by simp [hvl],hvs',by rw [hflag]; simp⟩
 · rintro s h n R hk s50 ⟨e0,e1,e2,e4,vs,e3,hvl,hvs,s11⟩ hret hX
   simp at hk
   rw [List.take_of_length_le (by omega)] at s11
   simp [hk,s50]
   refine hX _ _ _ _ ?_
   cases hc:(scaledO a.Const k b.Const).isSome
   · rw [hc] at s11
     simp at s11
     simp [hk,s11,e2,optLin,lin0,rULin,intsR]
   rw [show (combZ a k b).all Option.isSome=combOk a k b from rfl] at s11
   cases hz:combOk a k b
   · rw [hc,hz] at s11
     simp at s11
     simp [hk,s11,e2,optLin,lin0,rULin,intsR]
   · rw [hc,hz] at s11
     simp at s11
     obtain ⟨v,hv⟩:=Option.isSome_iff_exists.1 hc
     have hval:=comb_vals hl hvl (fun x k y=>(scaledI x k y).1) (fun x y v h=>scaledI_fst h) (fun j h h'=>hvs j h h' h) hz
     simp [hk,s11,e2,e3,e4,optLin,rULin,hvl]
     rw [←hval,hv,scaledI_fst hv]
     simp [hvl,List.take_of_length_le]
set_option maxRecDepth 20000 in
set_option maxHeartbeats 1000000 in
theorem ks_AddScaled (a:DLin) (k:Int) (b:DLin):Holds Try.prog 26 [.agg (rALin a),i64 k,.agg (rALin b)] (fun r=>r=optLin (addScaled a k b)):=by
 refine holds_of_run Try.func26 a26_ok rfl (by simp [a26]) ?_
 simp [a26,rALin]
 intro hlim
 unfold addScaled
 first|refine callD_of (ks_IsValidLin a a.Coeffs.length) (by first|simp [rALin];done|rfl) ?_|refine call_of (ks_IsValidLin a a.Coeffs.length) (by first|simp [rALin];done|rfl) ?_
 rintro r rfl
 cases h1:okLin a a.Coeffs.length
 · simp [optLin,lin0,rULin,intsR]
 simp
 first|refine callD_of (ks_IsValidLin b a.Coeffs.length) (by first|simp [rALin];done|rfl) ?_|refine call_of (ks_IsValidLin b a.Coeffs.length) (by first|simp [rALin];done|rfl) ?_
 rintro r rfl
 cases h2:okLin b a.Coeffs.length
 · simp [optLin,lin0,rULin,intsR]
 simp
 first|refine callD_of (k_l3In k) (by first|simp;done|rfl) ?_|refine call_of (k_l3In k) (by first|simp;done|rfl) ?_
 rintro r rfl
 cases h3:okC k
 · simp [optLin,lin0,rULin,intsR]
 simp
 have hla:=okLin_len h1
 have hlb:=okLin_len h2
 have hl:b.Coeffs.length=a.Coeffs.length:=by omega
 have hzl:(combZ a k b).length=a.Coeffs.length:=by simp [combZ,hl]
 refine ⟨by unfold LIM; omega,?_⟩
 refine rL_forO [1,3,5,6,8,9] 11 a.Coeffs.length (fun i s h n=>h 0=some ⟨true,2,[[.int .i64 a.Const,.sl 1 (intsR a.Coeffs)]]⟩∧h 1=some ⟨true,2,[[.int .i64 b.Const,.sl 1 (intsR b.Coeffs)]]⟩∧h 2=some ⟨true,2,[[.int .i64 0,.nil 1]]⟩ ∧
     h 4=some ⟨true,2,[[.int .i64 0,.ref 3 0 a.Coeffs.length]]⟩∧∃ vs:List Int,h 3=some ⟨false,1,intsR vs⟩∧vs.length=a.Coeffs.length ∧
     (∀ j (h:j<a.Coeffs.length) (h':j<b.Coeffs.length),j<i→vs[j]? = some (scaledS a.Coeffs[j] k b.Coeffs[j]).1)∧s 10 = .bool (((combZ a k b).take i).all Option.isSome))
   hlim (by simp) (by simp; exact ⟨List.replicate a.Coeffs.length 0,by simp,by simp⟩) ?_ ?_
 · rintro i s h n R hi hg hk s11 hw ⟨e0,e1,e2,e4,vs,e3,hvl,hvs,s10⟩ hR _ _
   simp at hk
   have hib:i<b.Coeffs.length:=by omega
   have hiv:i<vs.length:=by omega
   have hiz:i<(combZ a k b).length:=by omega
   have hZi:(combZ a k b)[i]=scaledO a.Coeffs[i] k b.Coeffs[i]:=by simp [combZ]
   have hflag:(((combZ a k b).take (i+1)).all Option.isSome)=((((combZ a k b).take i).all Option.isSome)&&(scaledS a.Coeffs[i] k b.Coeffs[i]).2):=by
     rw [List.take_succ_eq_append_getElem hiz,List.all_append,hZi,scaledS_snd]
     simp
   have hvs':∀ j (h:j<a.Coeffs.length) (h':j<b.Coeffs.length),j<i+1→(vs.set i (scaledS a.Coeffs[i] k b.Coeffs[i]).1)[j]? = some (scaledS a.Coeffs[j] k b.Coeffs[j]).1:=by
     intro j h h' hj
     rw [List.getElem?_set]
     by_cases hji:i=j
     · subst hji; simp [hiv]
     · rw [if_neg hji]; exact hvs j h h' (by omega)
   obtain ⟨f,hf⟩:∃ f,f=(((combZ a k b).take i).all Option.isSome):=⟨_,rfl⟩
   rw [←hf] at s10 hflag
   cases f
   all_goals
     simp [hk,s11,hi,hg,hw,hib,hiv,e0,e1,e2,e3,e4,s10]
     first | refine callD_of (ks_l4Sum _ _ _) (by simp [pairA]) ?_ | refine call_of (ks_l4Sum _ _ _) (by simp [pairA]) ?_ | refine callD_of (ks_l4Sum _ _ _) rfl ?_ | refine call_of (ks_l4Sum _ _ _) rfl ?_
     rintro r rfl
     simp [hk,s11,hi,hg,hw,hib,hiv,e0,e1,e2,e3,e4,s10,pairA]
     exact hR _ _ _ (by simp [hk]) (by simp) ⟨by simp [e0],by simp [e1],by simp [e2],by simp [e4],_,by simp,by simp [hvl],hvs',by rw [hflag]; simp⟩
 · rintro s h n R hk s11 ⟨e0,e1,e2,e4,vs,e3,hvl,hvs,s10⟩ hret hX
   simp at hk
   rw [List.take_of_length_le (by omega),show (combZ a k b).all Option.isSome=combOk a k b from rfl] at s10
   simp [hk,s11]
   refine hX _ _ _ _ ?_
   cases hz:combOk a k b
   · rw [hz] at s10
     simp [hk,s10,e0,e1,e2,e4]
     first | refine callD_of (ks_l4Sum _ _ _) (by simp [pairA]) ?_ | refine call_of (ks_l4Sum _ _ _) (by simp [pairA]) ?_ | refine callD_of (ks_l4Sum _ _ _) rfl ?_ | refine call_of (ks_l4Sum _ _ _) rfl ?_
     rintro r rfl
     simp [hk,s10,e0,e1,e2,e4,pairA,optLin,lin0,rULin,intsR]
   · rw [hz] at s10
     have hval:=comb_vals hl hvl (fun x k y=>(scaledS x k y).1) (fun x y v h=>scaledS_fst h) (fun j h h'=>hvs j h h' h) hz
     simp [hk,s10,e0,e1,e2,e4]
     first | refine callD_of (ks_l4Sum _ _ _) (by simp [pairA]) ?_ | refine call_of (ks_l4Sum _ _ _) (by simp [pairA]) ?_ | refine callD_of (ks_l4Sum _ _ _) rfl ?_ | refine call_of (ks_l4Sum _ _ _) rfl ?_
     rintro r rfl
     cases hc:(scaledO a.Const k b.Const).isSome
     · have hc':(scaledS a.Const k b.Const).2=false:=by rw [scaledS_snd,hc]
       simp [hk,s10,e0,e1,e2,e4,pairA,hc',optLin,lin0,rULin,intsR]
     · have hc':(scaledS a.Const k b.Const).2=true:=by rw [scaledS_snd,hc]
       obtain ⟨v,hv⟩:=Option.isSome_iff_exists.1 hc
       simp [hk,s10,e0,e1,e2,e3,e4,pairA,hc',optLin,rULin,hvl]
       rw [←hval,hv,scaledS_fst hv]
       simp [hvl,List.take_of_length_le]
end Go.Proofs.Ytoclolkigjbcgaa

namespace Go.Proofs.Ytoclolkigjbcgaa
set_option linter.all false
open Go Go.RowKit Go.Proofs
def a59:AFn:=
⟨32,[(.c 4 true 2),.t 5],(.seq
 (.reg [⟨some 2,.boxv (.t 0),no⟩,⟨some 4,.box [(.int .i64 0),(.nil 1)],no⟩,⟨some 5,.mv (.k (.bool false)),no⟩]) (.seq
 (.reg [⟨some 10,.fld 0 (.t 2),no⟩,⟨some 11,.ld false 1 (.t 10),no⟩,⟨some 12,.mv (.t 1),no⟩,⟨some 13,.call (.k (.fn (.func 69) [] [])) [.t 11,.t 12],no⟩,⟨some 9,.mv (.t 13),no⟩,⟨some 14,.ext (.t 9) 0,no⟩,⟨some 15,.ext (.t 9) 1,no⟩,⟨some 6,.mv (.t 14),no⟩,⟨some 7,.mv (.t 15),no⟩]) (.seq (.seq
 (.reg [⟨some 16,.mv (.t 7),no⟩,⟨some 17,.un .not (.t 16),no⟩,⟨some 18,.mv (.t 17),no⟩,⟨some 19,.ld true 2 (.t 2),(some (18,false))⟩,⟨some 20,.fld 1 (.t 2),(some (18,false))⟩,⟨some 21,.ld false 1 (.t 20),(some (18,false))⟩,⟨some 22,.len false (.t 21),(some (18,false))⟩,⟨some 23,.call (.k (.fn (.func 33) [] [])) [.t 19,.t 22],(some (18,false))⟩,⟨some 24,.un .not (.t 23),(some (18,false))⟩,⟨some 25,.pick (.t 18) (.k (.bool true)) (.t 24),no⟩]) (.cond (.t 25) (.seq
 (.reg [⟨some 26,.build [(.int .i64 0),(.nil 1)] [],no⟩,⟨no,.st 2 (.t 4) (.t 26),no⟩,⟨some 5,.mv (.k (.bool false)),no⟩]) .ret) .skip)) (.seq
 (.reg [⟨some 27,.ld true 2 (.t 2),no⟩,⟨some 28,.call (.k (.fn (.func 72) [] [])) [.t 27],no⟩,⟨some 8,.box [(.int .i64 0),(.nil 1)],no⟩,⟨no,.st 2 (.t 8) (.t 28),no⟩]) (.seq
 (.reg [⟨some 29,.mv (.t 6),no⟩,⟨some 30,.fld 0 (.t 8),no⟩,⟨no,.st 1 (.t 30) (.t 29),no⟩]) (.seq
 (.reg [⟨some 31,.ld true 2 (.t 8),no⟩,⟨no,.st 2 (.t 4) (.t 31),no⟩,⟨some 5,.mv (.k (.bool true)),no⟩]) .ret))))))⟩
theorem a59_ok:compFn Try.prog Try.f59=some a59:=by kernel_rfl
def a73:AFn:=
⟨5,[.t 2],(.seq
 (.reg [⟨some 2,.mv (.k (.bool false)),no⟩]) (.seq
 (.reg [⟨some 3,.mv (.t 0),no⟩,⟨some 4,.bin .neq (.t 3) (.k (.int .i64 0)),no⟩,⟨some 2,.mv (.t 4),no⟩]) .ret))⟩
theorem a73_ok:compFn Try.prog Try.f73=some a73:=by kernel_rfl
def a60:AFn:=
⟨7,[.t 2],(.seq
 (.reg [⟨some 1,.boxv (.t 0),no⟩,⟨some 2,.mv (.k (.bool false)),no⟩]) (.seq
 (.reg [⟨some 3,.fld 1 (.t 1),no⟩,⟨some 4,.ld false 1 (.t 3),no⟩,⟨some 5,.call (.k (.fn (.func 53) [] [])) [.t 4,(.k (.fn (.func 73) [] []))],no⟩,⟨some 6,.un .not (.t 5),no⟩,⟨some 2,.mv (.t 6),no⟩]) .ret))⟩
theorem a60_ok:compFn Try.prog Try.f60=some a60:=by kernel_rfl
def a48:AFn:=
⟨17,[.t 2],(.seq
 (.reg [⟨some 1,.boxv (.t 0),no⟩,⟨some 2,.mv (.k (.bool false)),no⟩]) (.seq (.seq
 (.reg [⟨some 3,.mv (.k (.int .i64 0)),no⟩]) (.blk 0 (.loop (.seq (.seq
 (.reg [⟨some 4,.mv (.t 3),no⟩,⟨some 5,.fld 1 (.t 1),no⟩,⟨some 6,.ld false 1 (.t 5),no⟩,⟨some 7,.len false (.t 6),no⟩,⟨some 8,.bin .lss (.t 4) (.t 7),no⟩]) (.cond (.t 8) .skip (.exit 0))) (.seq (.blk 1 (.seq
 (.reg [⟨some 11,.fld 1 (.t 1),no⟩,⟨some 12,.ld false 1 (.t 11),no⟩,⟨some 13,.mv (.t 3),no⟩,⟨some 14,.ixa 1 (.t 12) (.t 13),no⟩,⟨some 15,.ld false 1 (.t 14),no⟩,⟨some 16,.bin .neq (.t 15) (.k (.int .i64 0)),no⟩]) (.cond (.t 16) (.seq
 (.reg [⟨some 2,.mv (.k (.bool false)),no⟩]) .ret) .skip)))
 (.reg [⟨some 9,.mv (.t 3),no⟩,⟨some 10,.bin .add (.t 9) (.k (.int .i64 1)),no⟩,⟨some 3,.mv (.t 10),no⟩])))))) (.seq
 (.reg [⟨some 2,.mv (.k (.bool true)),no⟩]) .ret)))⟩
theorem a48_ok:compFn Try.prog Try.f48=some a48:=by kernel_rfl
def a32:AFn:=
⟨28,[.t 2],(.seq
 (.reg [⟨some 1,.boxv (.t 0),no⟩,⟨some 2,.mv (.k (.bool false)),no⟩]) (.seq (.seq
 (.reg [⟨some 5,.fld 0 (.t 1),no⟩,⟨some 6,.ld false 1 (.t 5),no⟩,⟨some 7,.call (.k (.fn (.func 51) [] [])) [.t 6,(.k (.int .i64 0)),(.k (.int .i64 8))],no⟩,⟨some 8,.un .not (.t 7),no⟩,⟨some 9,.mv (.t 8),no⟩,⟨some 10,.fld 1 (.t 1),(some (9,false))⟩,⟨some 11,.ld false 1 (.t 10),(some (9,false))⟩,⟨some 12,.len false (.t 11),(some (9,false))⟩,⟨some 13,.bin .gtr (.t 12) (.k (.int .i64 20)),(some (9,false))⟩,⟨some 14,.pick (.t 9) (.k (.bool true)) (.t 13),no⟩]) (.cond (.t 14) (.seq
 (.reg [⟨some 2,.mv (.k (.bool false)),no⟩]) .ret) .skip)) (.seq (.seq
 (.reg [⟨some 15,.fld 1 (.t 1),no⟩,⟨some 16,.ld false 1 (.t 15),no⟩,⟨some 17,.len false (.t 16),no⟩,⟨some 18,.mv (.k (.int .i64 0)),no⟩]) (.blk 0 (.loop (.seq
 (.reg [⟨some 19,.bin .lss (.t 18) (.t 17),no⟩]) (.seq (.cond (.t 19) .skip (.exit 0)) (.seq (.blk 1 (.seq
 (.reg [⟨some 20,.ixa 2 (.t 16) (.t 18),no⟩,⟨some 21,.ld true 2 (.t 20),no⟩,⟨some 4,.box [(.int .i64 0),(.nil 1)],no⟩,⟨no,.st 2 (.t 4) (.t 21),no⟩]) (.seq
 (.reg [⟨some 22,.ld true 2 (.t 4),no⟩,⟨some 23,.fld 0 (.t 1),no⟩,⟨some 24,.ld false 1 (.t 23),no⟩,⟨some 25,.call (.k (.fn (.func 33) [] [])) [.t 22,.t 24],no⟩,⟨some 26,.un .not (.t 25),no⟩]) (.cond (.t 26) (.seq
 (.reg [⟨some 2,.mv (.k (.bool false)),no⟩]) .ret) .skip))))
 (.reg [⟨some 27,.bin .add (.t 18) (.k (.int .i64 1)),no⟩,⟨some 18,.mv (.t 27),no⟩]))))))) (.seq
 (.reg [⟨some 2,.mv (.k (.bool true)),no⟩]) .ret))))⟩
theorem a32_ok:compFn Try.prog Try.f32=some a32:=by kernel_rfl
def a24:AFn:=
⟨29,[.t 2],(.seq
 (.reg [⟨some 1,.boxv (.t 0),no⟩,⟨some 2,.mv (.k (.bool false)),no⟩]) (.seq (.seq
 (.reg [⟨some 3,.mv (.k (.int .i64 0)),no⟩]) (.blk 0 (.loop (.seq (.seq
 (.reg [⟨some 4,.mv (.t 3),no⟩,⟨some 5,.fld 1 (.t 1),no⟩,⟨some 6,.ld false 1 (.t 5),no⟩,⟨some 7,.len false (.t 6),no⟩,⟨some 8,.bin .lss (.t 4) (.t 7),no⟩]) (.cond (.t 8) .skip (.exit 0))) (.seq (.blk 1 (.seq (.draw (.op ⟨some 11,.fld 1 (.t 1),no⟩ (.op ⟨some 12,.ld false 1 (.t 11),no⟩ (.op ⟨some 13,.mv (.t 3),no⟩ (.op ⟨some 14,.ixa 2 (.t 12) (.t 13),no⟩ (.op ⟨some 15,.ld true 2 (.t 14),no⟩ (.op ⟨some 16,.fld 0 (.t 1),no⟩ (.op ⟨some 17,.ld false 1 (.t 16),no⟩ (.op ⟨some 18,.call (.k (.fn (.func 25) [] [])) [.t 15,.t 17],no⟩ (.op ⟨some 19,.un .not (.t 18),no⟩ .fin)))))))))) (.cond (.t 19) (.seq
 (.reg [⟨some 2,.mv (.k (.bool false)),no⟩]) .ret) .skip)))
 (.reg [⟨some 9,.mv (.t 3),no⟩,⟨some 10,.bin .add (.t 9) (.k (.int .i64 1)),no⟩,⟨some 3,.mv (.t 10),no⟩])))))) (.seq
 (.reg [⟨some 20,.fld 0 (.t 1),no⟩,⟨some 21,.ld false 1 (.t 20),no⟩,⟨some 22,.call (.k (.fn (.func 43) [] [])) [.t 21,(.k (.int .i64 0)),(.k (.int .i64 8))],no⟩,⟨some 23,.mv (.t 22),no⟩,⟨some 24,.fld 1 (.t 1),(some (23,true))⟩,⟨some 25,.ld false 1 (.t 24),(some (23,true))⟩,⟨some 26,.len false (.t 25),(some (23,true))⟩,⟨some 27,.bin .leq (.t 26) (.k (.int .i64 20)),(some (23,true))⟩,⟨some 28,.pick (.t 23) (.t 27) (.k (.bool false)),no⟩,⟨some 2,.mv (.t 28),no⟩]) .ret)))⟩
theorem a24_ok:compFn Try.prog Try.f24=some a24:=by kernel_rfl
def plusL (l:DLin) (k:Int):Option DLin:=if (addL l.Const k).2&&okLin l l.Coeffs.length then some ⟨(addL l.Const k).1,l.Coeffs⟩ else Option.none
theorem k_plus (l:DLin) (k:Int):Holds Try.prog 59 [.agg (rALin l),i64 k] (fun r=>r=optLin (plusL l k)):=by
 refine holds_of_run Try.func59 a59_ok rfl (by simp [a59]) ?_
 simp [a59,rALin]
 first|refine callD_of (k_AddLimited l.Const k) (by first|simp;done|rfl) ?_|refine call_of (k_AddLimited l.Const k) (by first|simp;done|rfl) ?_
 rintro r rfl
 simp [pairA]
 unfold plusL
 cases h1:(addL l.Const k).2
 · simp [optLin,lin0,rULin,intsR]
 simp
 intro _
 first|refine callD_of (k_IsValidLin l l.Coeffs.length) (by first|simp [rALin];done|rfl) ?_|refine call_of (k_IsValidLin l l.Coeffs.length) (by first|simp [rALin];done|rfl) ?_
 rintro r rfl
 cases h2:okLin l l.Coeffs.length
 · simp [optLin,lin0,rULin,intsR]
 simp
 have hl:=okLin_len h2
 first|refine callD_of (k_copyLin l (by omega)) (by first|simp [rALin,rULin,optLin];done|rfl) ?_|refine call_of (k_copyLin l (by omega)) (by first|simp [rALin,rULin,optLin];done|rfl) ?_
 rintro r rfl
 simp [rALin,rULin,optLin]
def isConst (l:DLin):Bool:=l.Coeffs.all (· == 0)
theorem k_IsConstant1 (n:Int):Holds Try.prog 73 [i64 n] (fun r=>r = .bool (!(n==0))):=by
 refine holds_of_run Try.func73 a73_ok rfl (by simp [a73]) ?_
 simp [a73]
 rfl
theorem k_IsConstant (l:DLin):Holds Try.prog 60 [.agg (rALin l)] (fun r=>r = .bool (isConst l)):=by
 refine holds_of_run Try.func60 a60_ok rfl (by simp [a60]) ?_
 simp [a60,rALin]
 refine acall_tContainsFunc (p:=fun n => !(n==0)) (rowOf:=fun n=>[i64 n]) (eltOf:=i64) Try.func53 a53_ok rfl Try.func67 a67_ok rfl (fun x=>by simp) l.Coeffs
   (fun x _=>pure1_of_holds (k_IsConstant1 x) rfl rfl) ?_
 rw [any_not (fun n:Int=>n==0)]
 simp [isConst]
theorem ks_IsConstant (l:DLin):Holds Try.prog 48 [.agg (rALin l)] (fun r=>r = .bool (isConst l)):=by
 refine holds_of_lim Try.func48 rfl rfl fun hl => ?_
 simp [rALin] at hl
 refine holds_of_run Try.func48 a48_ok rfl (by simp [a48]) ?_
 simp [a48,rALin]
 refine rL_forS [1] 3 l.Coeffs.length (fun i _=>(l.Coeffs.drop i).all (· == 0)=isConst l) hl (by simp) rfl ?_ ?_
 · rintro i s h R hi hg hk s3 hw hJ hh hR hret _
   simp at hk hh
   rw [List.drop_eq_getElem_cons hi,List.all_cons] at hJ
   simp [hk,s3,hi,hg,hh,hw]
   intro _
   by_cases h0:l.Coeffs[i]=0
   · simp [h0] at hJ ⊢
     exact hR _ (by simp [hk]) (by simp) (by simpa using hJ)
   · have hJ:isConst l=false:=by rw [←hJ]; simp [h0]
     simp [h0]
     refine hret _ _ _ ?_
     simp [hJ]
 · rintro s h R hk s3 hJ hh _ hX
   simp at hk hh
   simp at hJ
   simp [hk,s3,hh]
   intro _
   refine hX _ _ ?_
   simp [←hJ]
def okSys (s:DSystem):Bool:=inR s.N 0 8&&decide (s.Rows.length≤20)&&s.Rows.all fun r=>okLin r s.N
theorem k_IsValidSystem (x:DSystem):Holds Try.prog 32 [.agg (rASystem x)] (fun r=>r = .bool (okSys x)):=by
 refine holds_of_run Try.func32 a32_ok rfl (by simp [a32]) ?_
 simp [a32,rASystem]
 first|refine callD_of (k_within x.N 0 8) (by first|simp;done|rfl) ?_|refine call_of (k_within x.N 0 8) (by first|simp;done|rfl) ?_
 rintro r rfl
 unfold okSys
 cases h1:inR x.N 0 8
 · simp
 simp
 intro hl
 by_cases h2:x.Rows.length≤20
 case neg=>simp [h2]; omega
 simp [h2]
 refine ⟨fun h=>by omega,fun _ _ => ?_⟩
 refine rL_forO [1,16,17] 18 x.Rows.length (fun i s h n=>0<n∧h 0=some ⟨true,2,[[.int .i64 x.N,.sl 2 (x.Rows.map rALin)]]⟩∧(x.Rows.drop i).all (fun r=>okLin r x.N)=x.Rows.all (fun r=>okLin r x.N)) hl (by simp) ⟨by simp,by simp,rfl⟩ ?_ ?_
 · rintro i s h n R hi hg hk s18 hw ⟨hn,e0,hJ⟩ hR hret _
   simp at hk
   rw [List.drop_eq_getElem_cons hi,List.all_cons] at hJ
   have hn':¬0=n:=by omega
   simp [hk,s18,hi,hg,hw,e0,hn',rALin]
   first | refine callD_of (k_IsValidLin _ _) (by simp [rALin]) ?_ | refine call_of (k_IsValidLin _ _) (by simp [rALin]) ?_ | refine callD_of (k_IsValidLin _ _) rfl ?_ | refine call_of (k_IsValidLin _ _) rfl ?_
   rintro r rfl
   cases h0:okLin x.Rows[i] x.N
   · rw [h0] at hJ
     have hJ:x.Rows.all (fun r=>okLin r x.N)=false:=by rw [←hJ]; rfl
     simp
     refine hret _ _ _ ?_
     simp [hJ]
   · rw [h0,Bool.true_and] at hJ
     simp [hk,s18,hi,hg,hw]
     exact hR _ _ _ (by simp [hk]) (by simp) ⟨by omega,by simp [hn',e0],hJ⟩
 · rintro s h n R hk s18 ⟨hn,e0,hJ⟩ hret hX
   simp at hk
   rw [List.drop_eq_nil_of_le (Nat.le_refl _)] at hJ
   simp [hk,s18]
   refine hX _ _ _ _ ?_
   rw [←hJ]
   simp
theorem ks_IsValidSystem (x:DSystem):Holds Try.prog 24 [.agg (rASystem x)] (fun r=>r = .bool (okSys x)):=by
 refine holds_of_lim Try.func24 rfl rfl fun hl => ?_
 simp [rASystem] at hl
 refine holds_of_run Try.func24 a24_ok rfl (by simp [a24]) ?_
 simp [a24,rASystem]
 refine rL_forS [1] 3 x.Rows.length (fun i _=>(x.Rows.drop i).all (fun r=>okLin r x.N)=x.Rows.all (fun r=>okLin r x.N)) hl (by simp) rfl ?_ ?_
 · rintro i s h R hi hg hk s3 hw hJ hh hR hret _
   simp at hk hh
   rw [List.drop_eq_getElem_cons hi,List.all_cons] at hJ
   simp [hk,s3,hi,hg,hh,hw]
   intro _
   first | refine callD_of (ks_IsValidLin _ _) (by simp [rALin]) ?_ | refine call_of (ks_IsValidLin _ _) (by simp [rALin]) ?_ | refine callD_of (ks_IsValidLin _ _) rfl ?_ | refine call_of (ks_IsValidLin _ _) rfl ?_
   rintro r rfl
   cases h0:okLin x.Rows[i] x.N
   · rw [h0] at hJ
     have hJ:x.Rows.all (fun r=>okLin r x.N)=false:=by rw [←hJ]; rfl
     simp
     refine hret _ _ _ ?_
     simp [okSys,hJ]
   · rw [h0,Bool.true_and] at hJ
     simp [hk,s3,hi,hg,hh,hw]
     exact hR _ (by simp [hk]) (by simp) hJ
 · rintro s h R hk s3 hJ hh _ hX
   simp at hk hh
   rw [List.drop_eq_nil_of_le (Nat.le_refl _)] at hJ
   simp [hk,s3,hh]
   intro _
   refine hX _ _ ?_
   simp [hk,hh]
   first|refine callD_of (k_l1In x.N 0 8) (by first|simp;done|rfl) ?_|refine call_of (k_l1In x.N 0 8) (by first|simp;done|rfl) ?_
   rintro r rfl
   unfold okSys
   rw [←hJ]
   cases h1:inR x.N 0 8
   · simp
   simp [hk]
   intro _
   omega
end Go.Proofs.Ytoclolkigjbcgaa

namespace Go.Proofs.Ytoclolkigjbcgaa
set_option linter.all false
open Go Go.RowKit Go.Proofs
def a71:AFn:=
⟨6,[.t 2],(.seq
 (.reg [⟨some 2,.mv (.k (.bool false)),no⟩]) (.seq
 (.reg [⟨some 3,.mv (.t 0),no⟩,⟨some 4,.call (.k (.fn (.func 51) [] [])) [.t 3,(.k (.int .i64 0)),(.k (.int .i64 1000000000))],no⟩,⟨some 5,.un .not (.t 4),no⟩,⟨some 2,.mv (.t 5),no⟩]) .ret))⟩
theorem a71_ok:compFn Try.prog Try.f71=some a71:=by kernel_rfl
def a58:AFn:=
⟨52,[(.c 4 true 2),.t 5],(.seq
 (.reg [⟨some 2,.boxv (.t 0),no⟩,⟨some 4,.box [(.int .i64 0),(.nil 1)],no⟩,⟨some 5,.mv (.k (.bool false)),no⟩]) (.seq (.seq
 (.reg [⟨some 10,.ld true 2 (.t 2),no⟩,⟨some 11,.call (.k (.fn (.func 32) [] [])) [.t 10],no⟩,⟨some 12,.un .not (.t 11),no⟩,⟨some 13,.mv (.t 12),no⟩,⟨some 14,.mv (.t 1),(some (13,false))⟩,⟨some 15,.len false (.t 14),(some (13,false))⟩,⟨some 16,.fld 1 (.t 2),(some (13,false))⟩,⟨some 17,.ld false 1 (.t 16),(some (13,false))⟩,⟨some 18,.len false (.t 17),(some (13,false))⟩,⟨some 19,.bin .neq (.t 15) (.t 18),(some (13,false))⟩,⟨some 20,.pick (.t 13) (.k (.bool true)) (.t 19),no⟩,⟨some 21,.mv (.t 20),no⟩,⟨some 22,.mv (.t 1),(some (21,false))⟩,⟨some 23,.call (.k (.fn (.func 53) [] [])) [.t 22,(.k (.fn (.func 71) [] []))],(some (21,false))⟩,⟨some 24,.pick (.t 21) (.k (.bool true)) (.t 23),no⟩]) (.cond (.t 24) (.seq
 (.reg [⟨some 25,.build [(.int .i64 0),(.nil 1)] [],no⟩,⟨no,.st 2 (.t 4) (.t 25),no⟩,⟨some 5,.mv (.k (.bool false)),no⟩]) .ret) .skip)) (.seq
 (.reg [⟨some 26,.fld 0 (.t 2),no⟩,⟨some 27,.ld false 1 (.t 26),no⟩,⟨some 28,.call (.k (.fn (.func 35) [] [])) [(.k (.int .i64 0)),.t 27],no⟩,⟨some 6,.box [(.int .i64 0),(.nil 1)],no⟩,⟨no,.st 2 (.t 6) (.t 28),no⟩]) (.seq
 (.reg [⟨some 7,.mv (.k (.bool true)),no⟩]) (.seq (.seq
 (.reg [⟨some 29,.mv (.t 1),no⟩,⟨some 30,.len false (.t 29),no⟩,⟨some 31,.mv (.k (.int .i64 0)),no⟩]) (.blk 0 (.loop (.seq
 (.reg [⟨some 32,.bin .lss (.t 31) (.t 30),no⟩]) (.seq (.cond (.t 32) .skip (.exit 0)) (.seq (.blk 1 (.seq
 (.reg [⟨some 33,.mv (.t 31),no⟩,⟨some 34,.ixa 1 (.t 29) (.t 31),no⟩,⟨some 35,.ld false 1 (.t 34),no⟩,⟨some 8,.mv (.t 33),no⟩,⟨some 9,.mv (.t 35),no⟩]) (.seq (.draw (.op ⟨some 37,.ld true 2 (.t 6),no⟩ (.op ⟨some 38,.mv (.t 9),no⟩ (.op ⟨some 39,.fld 1 (.t 2),no⟩ (.op ⟨some 40,.ld false 1 (.t 39),no⟩ (.op ⟨some 41,.mv (.t 8),no⟩ (.op ⟨some 42,.ixa 2 (.t 40) (.t 41),no⟩ (.op ⟨some 43,.ld true 2 (.t 42),no⟩ (.op ⟨some 44,.call (.k (.fn (.func 34) [] [])) [.t 37,.t 38,.t 43],no⟩ (.op ⟨some 36,.mv (.t 44),no⟩ (.op ⟨some 45,.ext (.t 36) 0,no⟩ (.op ⟨some 46,.ext (.t 36) 1,no⟩ (.hop ⟨no,.st 2 (.t 6) (.t 45),no⟩ [] (.op ⟨some 7,.mv (.t 46),no⟩ .fin)))))))))))))) (.seq
 (.reg [⟨some 47,.mv (.t 7),no⟩,⟨some 48,.un .not (.t 47),no⟩]) (.cond (.t 48) (.seq
 (.reg [⟨some 49,.build [(.int .i64 0),(.nil 1)] [],no⟩,⟨no,.st 2 (.t 4) (.t 49),no⟩,⟨some 5,.mv (.k (.bool false)),no⟩]) .ret) .skip)))))
 (.reg [⟨some 50,.bin .add (.t 31) (.k (.int .i64 1)),no⟩,⟨some 31,.mv (.t 50),no⟩]))))))) (.seq
 (.reg [⟨some 51,.ld true 2 (.t 6),no⟩,⟨no,.st 2 (.t 4) (.t 51),no⟩,⟨some 5,.mv (.k (.bool true)),no⟩]) .ret))))))⟩
theorem a58_ok:compFn Try.prog Try.f58=some a58:=by kernel_rfl
def a47:AFn:=
⟨57,[(.c 4 true 2),.t 5],(.seq
 (.reg [⟨some 2,.boxv (.t 0),no⟩,⟨some 4,.box [(.int .i64 0),(.nil 1)],no⟩,⟨some 5,.mv (.k (.bool false)),no⟩]) (.seq (.seq
 (.reg [⟨some 10,.ld true 2 (.t 2),no⟩,⟨some 11,.call (.k (.fn (.func 24) [] [])) [.t 10],no⟩,⟨some 12,.un .not (.t 11),no⟩,⟨some 13,.mv (.t 12),no⟩,⟨some 14,.mv (.t 1),(some (13,false))⟩,⟨some 15,.len false (.t 14),(some (13,false))⟩,⟨some 16,.fld 1 (.t 2),(some (13,false))⟩,⟨some 17,.ld false 1 (.t 16),(some (13,false))⟩,⟨some 18,.len false (.t 17),(some (13,false))⟩,⟨some 19,.bin .neq (.t 15) (.t 18),(some (13,false))⟩,⟨some 20,.pick (.t 13) (.k (.bool true)) (.t 19),no⟩]) (.cond (.t 20) (.seq
 (.reg [⟨some 21,.build [(.int .i64 0),(.nil 1)] [],no⟩,⟨no,.st 2 (.t 4) (.t 21),no⟩,⟨some 5,.mv (.k (.bool false)),no⟩]) .ret) .skip)) (.seq
 (.reg [⟨some 22,.fld 0 (.t 2),no⟩,⟨some 23,.ld false 1 (.t 22),no⟩,⟨some 24,.call (.k (.fn (.func 27) [] [])) [(.k (.int .i64 0)),.t 23],no⟩,⟨some 6,.box [(.int .i64 0),(.nil 1)],no⟩,⟨no,.st 2 (.t 6) (.t 24),no⟩]) (.seq (.seq
 (.reg [⟨some 7,.mv (.k (.int .i64 0)),no⟩]) (.blk 0 (.loop (.seq (.seq
 (.reg [⟨some 25,.mv (.t 7),no⟩,⟨some 26,.mv (.t 1),no⟩,⟨some 27,.len false (.t 26),no⟩,⟨some 28,.bin .lss (.t 25) (.t 27),no⟩]) (.cond (.t 28) .skip (.exit 0))) (.seq (.blk 1 (.seq (.draw (.op ⟨some 32,.ld true 2 (.t 6),no⟩ (.op ⟨some 33,.mv (.t 1),no⟩ (.op ⟨some 34,.mv (.t 7),no⟩ (.op ⟨some 35,.ixa 1 (.t 33) (.t 34),no⟩ (.op ⟨some 36,.ld false 1 (.t 35),no⟩ (.op ⟨some 37,.fld 1 (.t 2),no⟩ (.op ⟨some 38,.ld false 1 (.t 37),no⟩ (.op ⟨some 39,.mv (.t 7),no⟩ (.op ⟨some 40,.ixa 2 (.t 38) (.t 39),no⟩ (.op ⟨some 41,.ld true 2 (.t 40),no⟩ (.both (.op ⟨some 42,.call (.k (.fn (.func 26) [] [])) [.t 32,.t 36,.t 41],no⟩ (.op ⟨some 31,.mv (.t 42),no⟩ (.op ⟨some 43,.ext (.t 31) 0,no⟩ (.op ⟨some 44,.ext (.t 31) 1,no⟩ (.op ⟨some 8,.box [(.int .i64 0),(.nil 1)],no⟩ (.hop ⟨no,.st 2 (.t 8) (.t 43),no⟩ [] (.op ⟨some 9,.mv (.t 44),no⟩ .fin))))))) (.op ⟨some 8,.box [(.int .i64 0),(.nil 1)],no⟩ (.op ⟨some 42,.call (.k (.fn (.func 26) [] [])) [.t 32,.t 36,.t 41],no⟩ (.op ⟨some 31,.mv (.t 42),no⟩ (.op ⟨some 43,.ext (.t 31) 0,no⟩ (.op ⟨some 44,.ext (.t 31) 1,no⟩ (.hop ⟨no,.st 2 (.t 8) (.t 43),no⟩ [] (.op ⟨some 9,.mv (.t 44),no⟩ .fin))))))))))))))))))) (.seq (.seq
 (.reg [⟨some 45,.mv (.t 9),no⟩,⟨some 46,.un .not (.t 45),no⟩,⟨some 47,.mv (.t 46),no⟩,⟨some 48,.mv (.t 1),(some (47,false))⟩,⟨some 49,.mv (.t 7),(some (47,false))⟩,⟨some 50,.ixa 1 (.t 48) (.t 49),(some (47,false))⟩,⟨some 51,.ld false 1 (.t 50),(some (47,false))⟩,⟨some 52,.bin .lss (.t 51) (.k (.int .i64 0)),(some (47,false))⟩,⟨some 53,.pick (.t 47) (.k (.bool true)) (.t 52),no⟩]) (.cond (.t 53) (.seq
 (.reg [⟨some 54,.build [(.int .i64 0),(.nil 1)] [],no⟩,⟨no,.st 2 (.t 4) (.t 54),no⟩,⟨some 5,.mv (.k (.bool false)),no⟩]) .ret) .skip))
 (.reg [⟨some 55,.ld true 2 (.t 8),no⟩,⟨no,.st 2 (.t 6) (.t 55),no⟩]))))
 (.reg [⟨some 29,.mv (.t 7),no⟩,⟨some 30,.bin .add (.t 29) (.k (.int .i64 1)),no⟩,⟨some 7,.mv (.t 30),no⟩])))))) (.seq
 (.reg [⟨some 56,.ld true 2 (.t 6),no⟩,⟨no,.st 2 (.t 4) (.t 56),no⟩,⟨some 5,.mv (.k (.bool true)),no⟩]) .ret)))))⟩
theorem a47_ok:compFn Try.prog Try.f47=some a47:=by kernel_rfl
def goComb:List (Int×DLin)→DLin→Option DLin
 | [],o=>some o
 | p::l,o=>match addScaled o p.1 p.2 with
   | some o'=>if p.1<0 then Option.none else goComb l o'
   | Option.none=>Option.none
def combO (x:DSystem) (m:List Int):Option DLin:=
 if okSys x&&decide (m.length=x.Rows.length) then goComb (m.zip x.Rows) (constLin 0 x.N) else Option.none
theorem goComb_bad:∀ (l:List (Int×DLin)) (o:DLin),(∃ p∈l,inR p.1 0 1000000000=false)→goComb l o=Option.none
 | [],o,h=>by obtain ⟨p,hp,_⟩:=h; cases hp
 | q::l,o,h=>by
   obtain ⟨p,hp,hb⟩:=h
   simp only [goComb]
   split
   · rename_i o' ho
     split
     · rfl
     · rename_i hq
       rcases List.mem_cons.1 hp with rfl | hp
       · exfalso
         have hk:okC p.1=true:=by
           cases hc:okC p.1
           · unfold addScaled at ho; rw [hc] at ho; simp at ho
           · rfl
         rw [okC_iff] at hk
         simp [inR] at hb
         omega
       · exact goComb_bad l o' ⟨p,hp,hb⟩
   · rfl
theorem zip_bad {m:List Int} {rows:List DLin} (hl:m.length=rows.length) (h:m.all (fun v=>inR v 0 1000000000)=false):∃ p∈m.zip rows,inR p.1 0 1000000000=false:=by
 rw [List.all_eq_false] at h
 obtain ⟨v,hv,hb⟩:=h
 obtain ⟨i,hi,rfl⟩:=List.mem_iff_getElem.1 hv
 exact ⟨(m[i],rows[i]),List.mem_iff_getElem.2 ⟨i,by simp; omega,by simp⟩,by simpa using hb⟩
theorem k_CombineRows1 (n:Int):Holds Try.prog 71 [i64 n] (fun r=>r = .bool (!(inR n 0 1000000000))):=by
 refine holds_of_run Try.func71 a71_ok rfl (by simp [a71]) ?_
 simp [a71]
 first|refine callD_of (k_within n 0 1000000000) (by first|simp;done|rfl) ?_|refine call_of (k_within n 0 1000000000) (by first|simp;done|rfl) ?_
 rintro r rfl
 simp
set_option maxRecDepth 20000 in
set_option maxHeartbeats 1000000 in
theorem k_CombineRows (x:DSystem) (m:List Int):Holds Try.prog 58 [.agg (rASystem x),.sl 1 (intsR m)] (fun r=>r=optLin (combO x m)):=by
 refine holds_of_run Try.func58 a58_ok rfl (by simp [a58]) ?_
 simp [a58,rASystem]
 first|refine callD_of (k_IsValidSystem x) (by first|simp [rASystem];done|rfl) ?_|refine call_of (k_IsValidSystem x) (by first|simp [rASystem];done|rfl) ?_
 rintro r rfl
 unfold combO
 cases h1:okSys x
 · simp [optLin,lin0,rULin,intsR]
 simp
 intro hlm hlr
 by_cases h2:m.length=x.Rows.length
 case neg=>simp [h2,optLin,lin0,rULin,intsR]; omega
 simp [h2]
 refine acall_tContainsFunc (p:=fun n => !(inR n 0 1000000000)) (rowOf:=fun n=>[i64 n]) (eltOf:=i64) Try.func53 a53_ok rfl Try.func67 a67_ok rfl (fun x=>by simp) m
   (fun x _=>pure1_of_holds (k_CombineRows1 x) rfl rfl) ?_
 rw [any_not (fun n:Int=>inR n 0 1000000000)]
 cases h3:m.all (fun n=>inR n 0 1000000000)
 · rw [goComb_bad _ _ (zip_bad h2 h3)]
   simp [optLin,lin0,rULin,intsR]
 simp
 first|refine callD_of (k_ConstLin 0 x.N) (by first|simp;done|rfl) ?_|refine call_of (k_ConstLin 0 x.N) (by first|simp;done|rfl) ?_
 rintro r rfl
 simp [rULin]
 intro _
 have hzl:(m.zip x.Rows).length=m.length:=by simp [h2]
 refine rL_forO [2,4,6,29,30] 31 m.length (fun i s h n=>h 0=some ⟨true,2,[[.int .i64 x.N,.sl 2 (x.Rows.map rALin)]]⟩∧h 1=some ⟨true,2,[[.int .i64 0,.nil 1]]⟩∧3<n ∧
     ∃ (o:DLin) (id:Nat),h 3=some ⟨true,2,[[.int .i64 o.Const,.ref id 0 o.Coeffs.length]]⟩∧h id=some ⟨false,1,intsR o.Coeffs⟩∧id<n∧(id=2∨3<id)∧goComb ((m.zip x.Rows).drop i) o=goComb (m.zip x.Rows) (constLin 0 x.N))
   hlm (by simp) ⟨by simp,by simp,by simp,constLin 0 x.N,2,by simp,by simp,by omega,by omega,rfl⟩ ?_ ?_
 · rintro i s h n R hi hg hk s31 hw ⟨e0,e1,hn,o,id,e3,eid,hidn,hid,hJ⟩ hR hret _
   simp at hk
   have hir:i<x.Rows.length:=by omega
   rw [List.drop_eq_getElem_cons (by omega:i<(m.zip x.Rows).length)] at hJ
   simp only [goComb,List.getElem_zip] at hJ
   have hm:=List.all_eq_true.1 h3 _ (List.getElem_mem hi)
   simp [inR] at hm
   have n0:¬0=n:=by omega
   have n1:¬1=n:=by omega
   have n3:¬3=n:=by omega
   have n3':¬n=3:=by omega
   have nid:¬id=n:=by omega
   simp [hk,s31,hi,hg,hw,hir,e0,e1,e3,eid]
   first|refine callD_of (k_AddScaled o (m[i]'hi) (x.Rows[i]'hir)) (by first|simp [rALin,eid];done|rfl) ?_|refine call_of (k_AddScaled o (m[i]'hi) (x.Rows[i]'hir)) (by first|simp [rALin,eid];done|rfl) ?_
   rintro r rfl
   cases ho:addScaled o m[i] x.Rows[i]
   · rw [ho] at hJ
     simp [optLin,lin0,rULin,hk,e0,e1,e3,n0,n1,n3,n3']
     refine hret _ _ _ ?_
     simp [hk,←hJ,optLin,lin0,rULin,intsR]
   · rename_i o'
     rw [ho] at hJ
     simp only at hJ
     rw [if_neg (by omega)] at hJ
     simp [optLin,rULin,hk,s31,hw,e0,e1,e3,n0,n1,n3,n3']
     exact hR _ _ _ (by simp [hk]) (by simp) ⟨by simp [e0,n0],by simp [e1,n1],by omega,o',n,by simp,by simp [n3'],by omega,by omega,hJ⟩
 · rintro s h n R hk s31 ⟨e0,e1,hn,o,id,e3,eid,hidn,hid,hJ⟩ hret hX
   simp at hk
   rw [List.drop_eq_nil_of_le (by omega)] at hJ
   simp only [goComb] at hJ
   simp [hk,s31]
   refine hX _ _ _ _ ?_
   have i1:¬1=id:=by omega
   have i1':¬id=1:=by omega
   simp [hk,e1,e3,eid,←hJ,optLin,rULin,i1,i1']
set_option maxRecDepth 20000 in
set_option maxHeartbeats 2000000 in
theorem ks_CombineRows (x:DSystem) (m:List Int):Holds Try.prog 47 [.agg (rASystem x),.sl 1 (intsR m)] (fun r=>r=optLin (combO x m)):=by
 refine holds_of_lim Try.func47 rfl rfl fun hlm => ?_
 simp [rASystem] at hlm
 refine holds_of_run Try.func47 a47_ok rfl (by simp [a47]) ?_
 simp [a47,rASystem]
 first|refine callD_of (ks_IsValidSystem x) (by first|simp [rASystem];done|rfl) ?_|refine call_of (ks_IsValidSystem x) (by first|simp [rASystem];done|rfl) ?_
 rintro r rfl
 unfold combO
 cases h1:okSys x
 · simp [optLin,lin0,rULin,intsR]
 simp
 intro _ _
 by_cases h2:m.length=x.Rows.length
 case neg=>simp [h2,optLin,lin0,rULin,intsR]; omega
 simp [h2]
 first|refine callD_of (ks_ConstLin 0 x.N) (by first|simp;done|rfl) ?_|refine call_of (ks_ConstLin 0 x.N) (by first|simp;done|rfl) ?_
 rintro r rfl
 simp [rULin]
 have hzl:(m.zip x.Rows).length=m.length:=by simp [h2]
 refine rL_forO [1,2,4,6] 7 m.length (fun i s h n=>h 0=some ⟨true,2,[[.int .i64 x.N,.sl 2 (x.Rows.map rALin)]]⟩∧h 1=some ⟨true,2,[[.int .i64 0,.nil 1]]⟩∧3<n ∧
     ∃ (o:DLin) (id:Nat),h 3=some ⟨true,2,[[.int .i64 o.Const,.ref id 0 o.Coeffs.length]]⟩∧h id=some ⟨false,1,intsR o.Coeffs⟩∧id<n∧(id=2∨3<id)∧goComb ((m.zip x.Rows).drop i) o=goComb (m.zip x.Rows) (constLin 0 x.N))
   hlm.2 (by simp) ⟨by simp,by simp,by simp,constLin 0 x.N,2,by simp,by simp,by omega,by omega,rfl⟩ ?_ ?_
 · rintro i s h n R hi hg hk s7 hw ⟨e0,e1,hn,o,id,e3,eid,hidn,hid,hJ⟩ hR hret _
   simp at hk
   have hir:i<x.Rows.length:=by omega
   rw [List.drop_eq_getElem_cons (by omega:i<(m.zip x.Rows).length)] at hJ
   simp only [goComb,List.getElem_zip] at hJ
   have n0:¬0=n:=by omega
   have n1:¬1=n:=by omega
   have n3:¬3=n:=by omega
   have n3':¬n=3:=by omega
   have nid:¬id=n:=by omega
   have m0:¬0=n+1:=by omega
   have m1:¬1=n+1:=by omega
   have m3:¬3=n+1:=by omega
   have m3':¬n+1=3:=by omega
   have mid:¬id=n+1:=by omega
   have z0:¬n=0:=by omega
   have z2:¬n=2:=by omega
   simp [hk,s7,hi,hg,hir,e0,e1,e3,eid]
   intro _
   constructor
   · skip
     first|refine callD_of (ks_AddScaled o (m[i]'hi) (x.Rows[i]'hir)) (by first|simp [rALin,eid];done|rfl) ?_|refine call_of (ks_AddScaled o (m[i]'hi) (x.Rows[i]'hir)) (by first|simp [rALin,eid];done|rfl) ?_
     rintro r rfl
     cases ho:addScaled o m[i] x.Rows[i]
     · rw [ho] at hJ
       simp [optLin,lin0,rULin,hk,s7,hi,e0,e1,e3,n0,n1,n3,n3',z0,z2]
       refine hret _ _ _ ?_
       simp [hk,←hJ,optLin,lin0,rULin,intsR]
     · rename_i o'
       rw [ho] at hJ
       simp only at hJ
       simp [optLin,rULin,hk,s7,hi,hw,e0,e1,e3,n0,n1,n3,n3',z0,z2]
       refine ⟨fun hm => ?_,fun hm => ?_⟩
       · rw [if_pos hm] at hJ
         refine hret _ _ _ ?_
         simp [hk,←hJ,optLin,lin0,rULin,intsR]
       · rw [if_neg (by omega)] at hJ
         exact hR _ _ _ (by simp [hk]) (by simp) ⟨by simp [e0,n0],by simp [e1,n1,z0],by omega,o',n,by simp,by simp [n3'],by omega,by omega,hJ⟩
   · skip
     first|refine callD_of (ks_AddScaled o (m[i]'hi) (x.Rows[i]'hir)) (by first|simp [rALin,eid,mid,nid];done|rfl) ?_|refine call_of (ks_AddScaled o (m[i]'hi) (x.Rows[i]'hir)) (by first|simp [rALin,eid,mid,nid];done|rfl) ?_
     rintro r rfl
     cases ho:addScaled o m[i] x.Rows[i]
     · rw [ho] at hJ
       simp [optLin,lin0,rULin,hk,s7,hi,e0,e1,e3,n0,n1,n3,n3',z0,z2]
       refine hret _ _ _ ?_
       simp [hk,←hJ,optLin,lin0,rULin,intsR]
     · rename_i o'
       rw [ho] at hJ
       simp only at hJ
       simp [optLin,rULin,hk,s7,hi,hw,e0,e1,e3,n0,n1,n3,n3',z0,z2]
       refine ⟨fun hm => ?_,fun hm => ?_⟩
       · rw [if_pos hm] at hJ
         refine hret _ _ _ ?_
         simp [hk,←hJ,optLin,lin0,rULin,intsR]
       · rw [if_neg (by omega)] at hJ
         exact hR _ _ _ (by simp [hk]) (by simp) ⟨by simp [e0,n0],by simp [e1,n1,z0],by omega,o',n+1,by simp,by simp [z2],by omega,by omega,hJ⟩
 · rintro s h n R hk s7 ⟨e0,e1,hn,o,id,e3,eid,hidn,hid,hJ⟩ hret hX
   simp at hk
   rw [List.drop_eq_nil_of_le (by omega)] at hJ
   simp only [goComb] at hJ
   simp [hk,s7]
   intro _
   refine hX _ _ _ _ ?_
   have i1:¬1=id:=by omega
   have i1':¬id=1:=by omega
   simp [hk,e1,e3,eid,←hJ,optLin,rULin,i1,i1']
end Go.Proofs.Ytoclolkigjbcgaa

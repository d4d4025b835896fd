/- Contracts: whole numbers within limits, linear expressions. -/
import Derived.Test.YtilcageplifbgaaGreatJT1
import Derived.Test.YtilcageplifbgaaGreatProg
import Derived.Test.YtilcageplifbgaaGreatJRE
namespace Go.Proofs.YtilcageplifbgaaGreat
set_option linter.all false
open Go Go.RowKit Go.Proofs
def a98:AFn:=
⟨15,[.t 6],(.seq
 (.reg [⟨some 6,.mv (.k (.bool false)),no⟩]) (.seq
 (.reg [⟨some 7,.mv (.t 0),no⟩,⟨some 8,.mv (.t 1),no⟩,⟨some 9,.bin .geq (.t 7) (.t 8),no⟩,⟨some 10,.mv (.t 9),no⟩,⟨some 11,.mv (.t 0),(some (10,true))⟩,⟨some 12,.mv (.t 2),(some (10,true))⟩,⟨some 13,.bin .leq (.t 11) (.t 12),(some (10,true))⟩,⟨some 14,.pick (.t 10) (.t 13) (.k (.bool false)),no⟩,⟨some 6,.mv (.t 14),no⟩]) .ret))⟩
theorem a98_ok:compFn Tryz.prog Tryz.f98=some a98:=by kernel_rfl
def a183:AFn:=
⟨5,[.t 2],(.seq
 (.reg [⟨some 2,.mv (.k (.bool false)),no⟩]) (.seq
 (.reg [⟨some 3,.mv (.t 0),no⟩,⟨some 4,.call (.k (.fn (.func 98) [] [])) [.t 3,(.k (.int .i64 (-1000000000))),(.k (.int .i64 1000000000))],no⟩,⟨some 2,.mv (.t 4),no⟩]) .ret))⟩
theorem a183_ok:compFn Tryz.prog Tryz.f183=some a183:=by kernel_rfl
def a96:AFn:=
⟨15,[.t 6],(.seq
 (.reg [⟨some 6,.mv (.k (.bool false)),no⟩]) (.seq
 (.reg [⟨some 7,.mv (.t 0),no⟩,⟨some 8,.mv (.t 1),no⟩,⟨some 9,.bin .geq (.t 7) (.t 8),no⟩,⟨some 10,.mv (.t 9),no⟩,⟨some 11,.mv (.t 0),(some (10,true))⟩,⟨some 12,.mv (.t 2),(some (10,true))⟩,⟨some 13,.bin .leq (.t 11) (.t 12),(some (10,true))⟩,⟨some 14,.pick (.t 10) (.t 13) (.k (.bool false)),no⟩,⟨some 6,.mv (.t 14),no⟩]) .ret))⟩
theorem a96_ok:compFn Tryz.prog Tryz.f96=some a96:=by kernel_rfl
def a187:AFn:=
⟨5,[.t 2],(.seq
 (.reg [⟨some 2,.mv (.k (.bool false)),no⟩]) (.seq
 (.reg [⟨some 3,.mv (.t 0),no⟩,⟨some 4,.call (.k (.fn (.func 96) [] [])) [.t 3,(.k (.int .i64 (-1000000000))),(.k (.int .i64 1000000000))],no⟩,⟨some 2,.mv (.t 4),no⟩]) .ret))⟩
theorem a187_ok:compFn Tryz.prog Tryz.f187=some a187:=by kernel_rfl
def a185:AFn:=
⟨24,[.t 4,.t 5],(.seq
 (.reg [⟨some 4,.mv (.k (.int .i64 0)),no⟩,⟨some 5,.mv (.k (.bool false)),no⟩]) (.seq (.seq
 (.reg [⟨some 6,.mv (.t 0),no⟩,⟨some 7,.call (.k (.fn (.func 183) [] [])) [.t 6],no⟩,⟨some 8,.un .not (.t 7),no⟩,⟨some 9,.mv (.t 8),no⟩,⟨some 10,.mv (.t 1),(some (9,false))⟩,⟨some 11,.call (.k (.fn (.func 183) [] [])) [.t 10],(some (9,false))⟩,⟨some 12,.un .not (.t 11),(some (9,false))⟩,⟨some 13,.pick (.t 9) (.k (.bool true)) (.t 12),no⟩,⟨some 14,.mv (.t 13),no⟩,⟨some 15,.mv (.t 0),(some (14,false))⟩,⟨some 16,.mv (.t 1),(some (14,false))⟩,⟨some 17,.bin .add (.t 15) (.t 16),(some (14,false))⟩,⟨some 18,.call (.k (.fn (.func 183) [] [])) [.t 17],(some (14,false))⟩,⟨some 19,.un .not (.t 18),(some (14,false))⟩,⟨some 20,.pick (.t 14) (.k (.bool true)) (.t 19),no⟩]) (.cond (.t 20) (.seq
 (.reg [⟨some 4,.mv (.k (.int .i64 0)),no⟩,⟨some 5,.mv (.k (.bool false)),no⟩]) .ret) .skip)) (.seq
 (.reg [⟨some 21,.mv (.t 0),no⟩,⟨some 22,.mv (.t 1),no⟩,⟨some 23,.bin .add (.t 21) (.t 22),no⟩,⟨some 4,.mv (.t 23),no⟩,⟨some 5,.mv (.k (.bool true)),no⟩]) .ret)))⟩
theorem a185_ok:compFn Tryz.prog Tryz.f185=some a185:=by kernel_rfl
def a250:AFn:=
⟨24,[.t 4,.t 5],(.seq
 (.reg [⟨some 4,.mv (.k (.int .i64 0)),no⟩,⟨some 5,.mv (.k (.bool false)),no⟩]) (.seq (.seq
 (.reg [⟨some 6,.mv (.t 0),no⟩,⟨some 7,.call (.k (.fn (.func 183) [] [])) [.t 6],no⟩,⟨some 8,.un .not (.t 7),no⟩,⟨some 9,.mv (.t 8),no⟩,⟨some 10,.mv (.t 1),(some (9,false))⟩,⟨some 11,.call (.k (.fn (.func 183) [] [])) [.t 10],(some (9,false))⟩,⟨some 12,.un .not (.t 11),(some (9,false))⟩,⟨some 13,.pick (.t 9) (.k (.bool true)) (.t 12),no⟩,⟨some 14,.mv (.t 13),no⟩,⟨some 15,.mv (.t 0),(some (14,false))⟩,⟨some 16,.mv (.t 1),(some (14,false))⟩,⟨some 17,.bin .mul (.t 15) (.t 16),(some (14,false))⟩,⟨some 18,.call (.k (.fn (.func 183) [] [])) [.t 17],(some (14,false))⟩,⟨some 19,.un .not (.t 18),(some (14,false))⟩,⟨some 20,.pick (.t 14) (.k (.bool true)) (.t 19),no⟩]) (.cond (.t 20) (.seq
 (.reg [⟨some 4,.mv (.k (.int .i64 0)),no⟩,⟨some 5,.mv (.k (.bool false)),no⟩]) .ret) .skip)) (.seq
 (.reg [⟨some 21,.mv (.t 0),no⟩,⟨some 22,.mv (.t 1),no⟩,⟨some 23,.bin .mul (.t 21) (.t 22),no⟩,⟨some 4,.mv (.t 23),no⟩,⟨some 5,.mv (.k (.bool true)),no⟩]) .ret)))⟩
theorem a250_ok:compFn Tryz.prog Tryz.f250=some a250:=by kernel_rfl
def a256:AFn:=
⟨24,[.t 4,.t 5],(.seq
 (.reg [⟨some 4,.mv (.k (.int .i64 0)),no⟩,⟨some 5,.mv (.k (.bool false)),no⟩]) (.seq (.seq
 (.reg [⟨some 6,.mv (.t 0),no⟩,⟨some 7,.call (.k (.fn (.func 187) [] [])) [.t 6],no⟩,⟨some 8,.un .not (.t 7),no⟩,⟨some 9,.mv (.t 8),no⟩,⟨some 10,.mv (.t 1),(some (9,false))⟩,⟨some 11,.call (.k (.fn (.func 187) [] [])) [.t 10],(some (9,false))⟩,⟨some 12,.un .not (.t 11),(some (9,false))⟩,⟨some 13,.pick (.t 9) (.k (.bool true)) (.t 12),no⟩,⟨some 14,.mv (.t 13),no⟩,⟨some 15,.mv (.t 0),(some (14,false))⟩,⟨some 16,.mv (.t 1),(some (14,false))⟩,⟨some 17,.bin .add (.t 15) (.t 16),(some (14,false))⟩,⟨some 18,.call (.k (.fn (.func 187) [] [])) [.t 17],(some (14,false))⟩,⟨some 19,.un .not (.t 18),(some (14,false))⟩,⟨some 20,.pick (.t 14) (.k (.bool true)) (.t 19),no⟩]) (.cond (.t 20) (.seq
 (.reg [⟨some 4,.mv (.k (.int .i64 0)),no⟩,⟨some 5,.mv (.k (.bool false)),no⟩]) .ret) .skip)) (.seq
 (.reg [⟨some 21,.mv (.t 0),no⟩,⟨some 22,.mv (.t 1),no⟩,⟨some 23,.bin .add (.t 21) (.t 22),no⟩,⟨some 4,.mv (.t 23),no⟩,⟨some 5,.mv (.k (.bool true)),no⟩]) .ret)))⟩
theorem a256_ok:compFn Tryz.prog Tryz.f256=some a256:=by kernel_rfl
def a255:AFn:=
⟨24,[.t 4,.t 5],(.seq
 (.reg [⟨some 4,.mv (.k (.int .i64 0)),no⟩,⟨some 5,.mv (.k (.bool false)),no⟩]) (.seq (.seq
 (.reg [⟨some 6,.mv (.t 0),no⟩,⟨some 7,.call (.k (.fn (.func 187) [] [])) [.t 6],no⟩,⟨some 8,.un .not (.t 7),no⟩,⟨some 9,.mv (.t 8),no⟩,⟨some 10,.mv (.t 1),(some (9,false))⟩,⟨some 11,.call (.k (.fn (.func 187) [] [])) [.t 10],(some (9,false))⟩,⟨some 12,.un .not (.t 11),(some (9,false))⟩,⟨some 13,.pick (.t 9) (.k (.bool true)) (.t 12),no⟩,⟨some 14,.mv (.t 13),no⟩,⟨some 15,.mv (.t 0),(some (14,false))⟩,⟨some 16,.mv (.t 1),(some (14,false))⟩,⟨some 17,.bin .mul (.t 15) (.t 16),(some (14,false))⟩,⟨some 18,.call (.k (.fn (.func 187) [] [])) [.t 17],(some (14,false))⟩,⟨some 19,.un .not (.t 18),(some (14,false))⟩,⟨some 20,.pick (.t 14) (.k (.bool true)) (.t 19),no⟩]) (.cond (.t 20) (.seq
 (.reg [⟨some 4,.mv (.k (.int .i64 0)),no⟩,⟨some 5,.mv (.k (.bool false)),no⟩]) .ret) .skip)) (.seq
 (.reg [⟨some 21,.mv (.t 0),no⟩,⟨some 22,.mv (.t 1),no⟩,⟨some 23,.bin .mul (.t 21) (.t 22),no⟩,⟨some 4,.mv (.t 23),no⟩,⟨some 5,.mv (.k (.bool true)),no⟩]) .ret)))⟩
theorem a255_ok:compFn Tryz.prog Tryz.f255=some a255:=by kernel_rfl
def a184:AFn:=
⟨29,[.t 6,.t 7],(.seq
 (.reg [⟨some 6,.mv (.k (.int .i64 0)),no⟩,⟨some 7,.mv (.k (.bool false)),no⟩]) (.seq
 (.reg [⟨some 13,.mv (.t 1),no⟩,⟨some 14,.mv (.t 2),no⟩,⟨some 15,.call (.k (.fn (.func 250) [] [])) [.t 13,.t 14],no⟩,⟨some 12,.mv (.t 15),no⟩,⟨some 16,.ext (.t 12) 0,no⟩,⟨some 17,.ext (.t 12) 1,no⟩,⟨some 8,.mv (.t 16),no⟩,⟨some 9,.mv (.t 17),no⟩]) (.seq
 (.reg [⟨some 19,.mv (.t 0),no⟩,⟨some 20,.mv (.t 8),no⟩,⟨some 21,.call (.k (.fn (.func 185) [] [])) [.t 19,.t 20],no⟩,⟨some 18,.mv (.t 21),no⟩,⟨some 22,.ext (.t 18) 0,no⟩,⟨some 23,.ext (.t 18) 1,no⟩,⟨some 10,.mv (.t 22),no⟩,⟨some 11,.mv (.t 23),no⟩]) (.seq
 (.reg [⟨some 24,.mv (.t 10),no⟩,⟨some 25,.mv (.t 9),no⟩,⟨some 26,.mv (.t 25),no⟩,⟨some 27,.mv (.t 11),(some (26,true))⟩,⟨some 28,.pick (.t 26) (.t 27) (.k (.bool false)),no⟩,⟨some 6,.mv (.t 24),no⟩,⟨some 7,.mv (.t 28),no⟩]) .ret))))⟩
theorem a184_ok:compFn Tryz.prog Tryz.f184=some a184:=by kernel_rfl
def a192:AFn:=
⟨23,[.t 6,.t 7],(.seq
 (.reg [⟨some 6,.mv (.k (.int .i64 0)),no⟩,⟨some 7,.mv (.k (.bool false)),no⟩]) (.seq
 (.reg [⟨some 11,.mv (.t 1),no⟩,⟨some 12,.mv (.t 2),no⟩,⟨some 13,.call (.k (.fn (.func 255) [] [])) [.t 11,.t 12],no⟩,⟨some 10,.mv (.t 13),no⟩,⟨some 14,.ext (.t 10) 0,no⟩,⟨some 15,.ext (.t 10) 1,no⟩,⟨some 8,.mv (.t 14),no⟩,⟨some 9,.mv (.t 15),no⟩]) (.seq (.seq
 (.reg [⟨some 16,.mv (.t 9),no⟩,⟨some 17,.un .not (.t 16),no⟩]) (.cond (.t 17) (.seq
 (.reg [⟨some 6,.mv (.k (.int .i64 0)),no⟩,⟨some 7,.mv (.k (.bool false)),no⟩]) .ret) .skip)) (.seq
 (.reg [⟨some 18,.mv (.t 0),no⟩,⟨some 19,.mv (.t 8),no⟩,⟨some 20,.call (.k (.fn (.func 256) [] [])) [.t 18,.t 19],no⟩,⟨some 21,.ext (.t 20) 0,no⟩,⟨some 22,.ext (.t 20) 1,no⟩,⟨some 6,.mv (.t 21),no⟩,⟨some 7,.mv (.t 22),no⟩]) .ret))))⟩
theorem a192_ok:compFn Tryz.prog Tryz.f192=some a192:=by kernel_rfl
def a222:AFn:=
⟨6,[.t 2],(.seq
 (.reg [⟨some 2,.mv (.k (.bool false)),no⟩]) (.seq
 (.reg [⟨some 3,.mv (.t 0),no⟩,⟨some 4,.call (.k (.fn (.func 183) [] [])) [.t 3],no⟩,⟨some 5,.un .not (.t 4),no⟩,⟨some 2,.mv (.t 5),no⟩]) .ret))⟩
theorem a222_ok:compFn Tryz.prog Tryz.f222=some a222:=by kernel_rfl
def a155:AFn:=
⟨25,[.t 4],(.seq
 (.reg [⟨some 2,.boxv (.t 0),no⟩,⟨some 4,.mv (.k (.bool false)),no⟩]) (.seq
 (.reg [⟨some 5,.mv (.t 1),no⟩,⟨some 6,.call (.k (.fn (.func 98) [] [])) [.t 5,(.k (.int .i64 0)),(.k (.int .i64 8))],no⟩,⟨some 7,.mv (.t 6),no⟩,⟨some 8,.fld 1 (.t 2),(some (7,true))⟩,⟨some 9,.ld false 1 (.t 8),(some (7,true))⟩,⟨some 10,.len false (.t 9),(some (7,true))⟩,⟨some 11,.mv (.t 1),(some (7,true))⟩,⟨some 12,.bin .eql (.t 10) (.t 11),(some (7,true))⟩,⟨some 13,.pick (.t 7) (.t 12) (.k (.bool false)),no⟩,⟨some 14,.mv (.t 13),no⟩,⟨some 15,.fld 0 (.t 2),(some (14,true))⟩,⟨some 16,.ld false 1 (.t 15),(some (14,true))⟩,⟨some 17,.call (.k (.fn (.func 183) [] [])) [.t 16],(some (14,true))⟩,⟨some 18,.pick (.t 14) (.t 17) (.k (.bool false)),no⟩,⟨some 19,.mv (.t 18),no⟩,⟨some 20,.fld 1 (.t 2),(some (19,true))⟩,⟨some 21,.ld false 1 (.t 20),(some (19,true))⟩,⟨some 22,.call (.k (.fn (.func 221) [] [])) [.t 21,(.k (.fn (.func 222) [] []))],(some (19,true))⟩,⟨some 23,.un .not (.t 22),(some (19,true))⟩,⟨some 24,.pick (.t 19) (.t 23) (.k (.bool false)),no⟩,⟨some 4,.mv (.t 24),no⟩]) .ret))⟩
theorem a155_ok:compFn Tryz.prog Tryz.f155=some a155:=by kernel_rfl
def a191:AFn:=
⟨34,[.t 4],(.seq
 (.reg [⟨some 2,.boxv (.t 0),no⟩,⟨some 4,.mv (.k (.bool false)),no⟩]) (.seq (.seq
 (.reg [⟨some 5,.mv (.k (.int .i64 0)),no⟩]) (.blk 0 (.loop (.seq (.seq
 (.reg [⟨some 6,.mv (.t 5),no⟩,⟨some 7,.fld 1 (.t 2),no⟩,⟨some 8,.ld false 1 (.t 7),no⟩,⟨some 9,.len false (.t 8),no⟩,⟨some 10,.bin .lss (.t 6) (.t 9),no⟩]) (.cond (.t 10) .skip (.exit 0))) (.seq (.blk 1 (.seq
 (.reg [⟨some 13,.fld 1 (.t 2),no⟩,⟨some 14,.ld false 1 (.t 13),no⟩,⟨some 15,.mv (.t 5),no⟩,⟨some 16,.ixa 1 (.t 14) (.t 15),no⟩,⟨some 17,.ld false 1 (.t 16),no⟩,⟨some 18,.call (.k (.fn (.func 187) [] [])) [.t 17],no⟩,⟨some 19,.un .not (.t 18),no⟩]) (.cond (.t 19) (.seq
 (.reg [⟨some 4,.mv (.k (.bool false)),no⟩]) .ret) .skip)))
 (.reg [⟨some 11,.mv (.t 5),no⟩,⟨some 12,.bin .add (.t 11) (.k (.int .i64 1)),no⟩,⟨some 5,.mv (.t 12),no⟩])))))) (.seq
 (.reg [⟨some 20,.mv (.t 1),no⟩,⟨some 21,.call (.k (.fn (.func 96) [] [])) [.t 20,(.k (.int .i64 0)),(.k (.int .i64 8))],no⟩,⟨some 22,.mv (.t 21),no⟩,⟨some 23,.fld 1 (.t 2),(some (22,true))⟩,⟨some 24,.ld false 1 (.t 23),(some (22,true))⟩,⟨some 25,.len false (.t 24),(some (22,true))⟩,⟨some 26,.mv (.t 1),(some (22,true))⟩,⟨some 27,.bin .eql (.t 25) (.t 26),(some (22,true))⟩,⟨some 28,.pick (.t 22) (.t 27) (.k (.bool false)),no⟩,⟨some 29,.mv (.t 28),no⟩,⟨some 30,.fld 0 (.t 2),(some (29,true))⟩,⟨some 31,.ld false 1 (.t 30),(some (29,true))⟩,⟨some 32,.call (.k (.fn (.func 187) [] [])) [.t 31],(some (29,true))⟩,⟨some 33,.pick (.t 29) (.t 32) (.k (.bool false)),no⟩,⟨some 4,.mv (.t 33),no⟩]) .ret)))⟩
theorem a191_ok:compFn Tryz.prog Tryz.f191=some a191:=by kernel_rfl
theorem a221_ok:compFn Tryz.prog Tryz.f221=some (tContainsFunc 275):=by kernel_rfl
theorem a275_ok:compFn Tryz.prog Tryz.f275=some (tIndexFunc false 1):=by kernel_rfl
def inR (n lo hi:Int):Bool:=decide (lo≤n∧n≤hi)
def okC (n:Int):Bool:=inR n (-1000000000) 1000000000
theorem okC_iff {n:Int} : okC n=true ↔ -1000000000≤n∧n≤1000000000:=by simp [okC,inR]
theorem mul_lim {x y:Int} (hx:okC x=true) (hy:okC y=true) : -1000000000000000000≤x*y∧x*y≤1000000000000000000:=by
 rw [okC_iff] at hx hy
 have h:(x*y).natAbs≤1000000000*1000000000:=by
   rw [Int.natAbs_mul]; exact Nat.mul_le_mul (by omega) (by omega)
 omega
theorem k_within (n lo hi:Int):Holds Tryz.prog 98 [i64 n,i64 lo,i64 hi] (fun r=>r = .bool (inR n lo hi)):=by
 refine holds_of_run Tryz.func98 a98_ok rfl (by simp [a98]) ?_
 simp [a98]
 constructor <;> intro h <;> simp [inR] <;> omega
theorem k_coeffOk (n:Int):Holds Tryz.prog 183 [i64 n] (fun r=>r = .bool (okC n)):=by
 refine holds_of_run Tryz.func183 a183_ok rfl (by simp [a183]) ?_
 simp [a183]
 first|refine callD_of (k_within n (-1000000000) 1000000000) (by first|(simp;done)|rfl) ?_|refine call_of (k_within n (-1000000000) 1000000000) (by first|(simp;done)|rfl) ?_
 rintro r rfl
 simp
 rfl
theorem k_l1In (n lo hi:Int):Holds Tryz.prog 96 [i64 n,i64 lo,i64 hi] (fun r=>r = .bool (inR n lo hi)):=by
 refine holds_of_run Tryz.func96 a96_ok rfl (by simp [a96]) ?_
 simp [a96]
 constructor <;> intro h <;> simp [inR] <;> omega
theorem k_l3In (n:Int):Holds Tryz.prog 187 [i64 n] (fun r=>r = .bool (okC n)):=by
 refine holds_of_run Tryz.func187 a187_ok rfl (by simp [a187]) ?_
 simp [a187]
 first|refine callD_of (k_l1In n (-1000000000) 1000000000) (by first|(simp;done)|rfl) ?_|refine call_of (k_l1In n (-1000000000) 1000000000) (by first|(simp;done)|rfl) ?_
 rintro r rfl
 simp
 rfl
def addL (x y:Int):Int×Bool:=if okC x&&okC y&&okC (x+y) then (x+y,true) else (0,false)
def mulL (x y:Int):Int×Bool:=if okC x&&okC y&&okC (x*y) then (x*y,true) else (0,false)
def pairA (p:Int×Bool):AV := .tup [i64 p.1,.bool p.2]
theorem k_AddLimited (x y:Int):Holds Tryz.prog 185 [i64 x,i64 y] (fun r=>r=pairA (addL x y)):=by
 refine holds_of_run Tryz.func185 a185_ok rfl (by simp [a185]) ?_
 simp [a185,pairA,addL]
 first|refine callD_of (k_coeffOk x) (by first|(simp;done)|rfl) ?_|refine call_of (k_coeffOk x) (by first|(simp;done)|rfl) ?_
 rintro r rfl
 cases hx:okC x
 · simp
 simp
 first|refine callD_of (k_coeffOk y) (by first|(simp;done)|rfl) ?_|refine call_of (k_coeffOk y) (by first|(simp;done)|rfl) ?_
 rintro r rfl
 cases hy:okC y
 · simp
 simp
 rw [okC_iff] at hx hy
 rw [wrap64 (by omega)]
 first|refine callD_of (k_coeffOk (x+y)) (by first|(simp;done)|rfl) ?_|refine call_of (k_coeffOk (x+y)) (by first|(simp;done)|rfl) ?_
 rintro r rfl
 cases hz:okC (x+y)
 · simp
 · simp; exact wrap64 (by omega)
theorem k_MulLimited (x y:Int):Holds Tryz.prog 250 [i64 x,i64 y] (fun r=>r=pairA (mulL x y)):=by
 refine holds_of_run Tryz.func250 a250_ok rfl (by simp [a250]) ?_
 simp [a250,pairA,mulL]
 first|refine callD_of (k_coeffOk x) (by first|(simp;done)|rfl) ?_|refine call_of (k_coeffOk x) (by first|(simp;done)|rfl) ?_
 rintro r rfl
 cases hx:okC x
 · simp
 simp
 first|refine callD_of (k_coeffOk y) (by first|(simp;done)|rfl) ?_|refine call_of (k_coeffOk y) (by first|(simp;done)|rfl) ?_
 rintro r rfl
 cases hy:okC y
 · simp
 simp
 have:=mul_lim hx hy
 rw [wrap64 (by omega)]
 first|refine callD_of (k_coeffOk (x*y)) (by first|(simp;done)|rfl) ?_|refine call_of (k_coeffOk (x*y)) (by first|(simp;done)|rfl) ?_
 rintro r rfl
 cases hz:okC (x*y)
 · simp
 · simp; exact wrap64 (by omega)
theorem ks_AddLimited (x y:Int):Holds Tryz.prog 256 [i64 x,i64 y] (fun r=>r=pairA (addL x y)):=by
 refine holds_of_run Tryz.func256 a256_ok rfl (by simp [a256]) ?_
 simp [a256,pairA,addL]
 first|refine callD_of (k_l3In x) (by first|(simp;done)|rfl) ?_|refine call_of (k_l3In x) (by first|(simp;done)|rfl) ?_
 rintro r rfl
 cases hx:okC x
 · simp
 simp
 first|refine callD_of (k_l3In y) (by first|(simp;done)|rfl) ?_|refine call_of (k_l3In y) (by first|(simp;done)|rfl) ?_
 rintro r rfl
 cases hy:okC y
 · simp
 simp
 rw [okC_iff] at hx hy
 rw [wrap64 (by omega)]
 first|refine callD_of (k_l3In (x+y)) (by first|(simp;done)|rfl) ?_|refine call_of (k_l3In (x+y)) (by first|(simp;done)|rfl) ?_
 rintro r rfl
 cases hz:okC (x+y)
 · simp
 · simp; exact wrap64 (by omega)
theorem ks_MulLimited (x y:Int):Holds Tryz.prog 255 [i64 x,i64 y] (fun r=>r=pairA (mulL x y)):=by
 refine holds_of_run Tryz.func255 a255_ok rfl (by simp [a255]) ?_
 simp [a255,pairA,mulL]
 first|refine callD_of (k_l3In x) (by first|(simp;done)|rfl) ?_|refine call_of (k_l3In x) (by first|(simp;done)|rfl) ?_
 rintro r rfl
 cases hx:okC x
 · simp
 simp
 first|refine callD_of (k_l3In y) (by first|(simp;done)|rfl) ?_|refine call_of (k_l3In y) (by first|(simp;done)|rfl) ?_
 rintro r rfl
 cases hy:okC y
 · simp
 simp
 have:=mul_lim hx hy
 rw [wrap64 (by omega)]
 first|refine callD_of (k_l3In (x*y)) (by first|(simp;done)|rfl) ?_|refine call_of (k_l3In (x*y)) (by first|(simp;done)|rfl) ?_
 rintro r rfl
 cases hz:okC (x*y)
 · simp
 · simp; exact wrap64 (by omega)
def scaledI (x k y:Int):Int×Bool:=((addL x (mulL k y).1).1,(mulL k y).2&&(addL x (mulL k y).1).2)
def scaledS (x k y:Int):Int×Bool:=if (mulL k y).2 then addL x (mulL k y).1 else (0,false)
theorem k_scaled (x k y:Int):Holds Tryz.prog 184 [i64 x,i64 k,i64 y] (fun r=>r=pairA (scaledI x k y)):=by
 refine holds_of_run Tryz.func184 a184_ok rfl (by simp [a184]) ?_
 simp [a184]
 first|refine callD_of (k_MulLimited k y) (by first|(simp [pairA];done)|rfl) ?_|refine call_of (k_MulLimited k y) (by first|(simp [pairA];done)|rfl) ?_
 rintro r rfl
 simp [pairA]
 first|refine callD_of (k_AddLimited x (mulL k y).1) (by first|(simp [pairA,scaledI];done)|rfl) ?_|refine call_of (k_AddLimited x (mulL k y).1) (by first|(simp [pairA,scaledI];done)|rfl) ?_
 rintro r rfl
 simp [pairA,scaledI]
 cases (mulL k y).2 <;> simp
theorem ks_l4Sum (x k y:Int):Holds Tryz.prog 192 [i64 x,i64 k,i64 y] (fun r=>r=pairA (scaledS x k y)):=by
 refine holds_of_run Tryz.func192 a192_ok rfl (by simp [a192]) ?_
 simp [a192]
 first|refine callD_of (ks_MulLimited k y) (by first|(simp [pairA,scaledS];done)|rfl) ?_|refine call_of (ks_MulLimited k y) (by first|(simp [pairA,scaledS];done)|rfl) ?_
 rintro r rfl
 simp [pairA,scaledS]
 cases h:(mulL k y).2
 · simp
 simp
 first|refine callD_of (ks_AddLimited x (mulL k y).1) (by first|(simp [pairA];done)|rfl) ?_|refine call_of (ks_AddLimited x (mulL k y).1) (by first|(simp [pairA];done)|rfl) ?_
 rintro r rfl
 simp [pairA]
def scaledO (x k y:Int):Option Int:=if (mulL k y).2&&(addL x (mulL k y).1).2 then some (addL x (mulL k y).1).1 else Option.none
theorem scaledI_snd (x k y:Int):(scaledI x k y).2=(scaledO x k y).isSome:=by unfold scaledI scaledO; split <;> simp_all
theorem scaledS_snd (x k y:Int):(scaledS x k y).2=(scaledO x k y).isSome:=by unfold scaledS scaledO; cases (mulL k y).2 <;> simp; cases h:(addL x (mulL k y).1).2 <;> simp
theorem scaledI_fst {x k y v:Int} (h:scaledO x k y=some v):(scaledI x k y).1=v:=by unfold scaledO at h; unfold scaledI; split at h <;> simp_all
theorem scaledS_fst {x k y v:Int} (h:scaledO x k y=some v):(scaledS x k y).1=v:=by unfold scaledO at h; unfold scaledS; split at h <;> simp_all
def okLin (l:DLin) (n:Int):Bool:=inR n 0 8&&decide ((l.Coeffs.length:Int)=n)&&okC l.Const&&l.Coeffs.all okC
theorem k_notC (n:Int):Holds Tryz.prog 222 [i64 n] (fun r=>r = .bool (!okC n)):=by
 refine holds_of_run Tryz.func222 a222_ok rfl (by simp [a222]) ?_
 simp [a222]
 first|refine callD_of (k_coeffOk n) (by first|(simp;done)|rfl) ?_|refine call_of (k_coeffOk n) (by first|(simp;done)|rfl) ?_
 rintro r rfl
 simp
theorem any_not {α:Type} (p:α→Bool) (l:List α):l.any (fun x => !p x) = !l.all p:=by
 rw [List.all_eq_not_any_not,Bool.not_not]
theorem a_anyNotC {h:Heap} {n:Nat} {K:AV→Heap→Nat→Prop} (l:List Int) (hK:K (.bool (!l.all okC)) h n):ACall Tryz.prog 221 [.sl 1 (intsR l),.fn (.func 222) [] []] h n K:=
 acall_tContainsFunc (p:=fun n => !okC n) (rowOf:=fun n=>[i64 n]) (eltOf:=i64) Tryz.func221 a221_ok rfl Tryz.func275 a275_ok rfl (fun x=>by simp) l
   (fun x _=>pure1_of_holds (k_notC x) rfl rfl) (by rw [any_not]; exact hK)
theorem k_IsValidLin (l:DLin) (n:Int):Holds Tryz.prog 155 [.agg (rALin l),i64 n] (fun r=>r = .bool (okLin l n)):=by
 refine holds_of_run Tryz.func155 a155_ok rfl (by simp [a155]) ?_
 simp [a155,rALin]
 first|refine callD_of (k_within n 0 8) (by first|(simp;done)|rfl) ?_|refine call_of (k_within n 0 8) (by first|(simp;done)|rfl) ?_
 rintro r rfl
 unfold okLin
 cases h1:inR n 0 8
 · simp
 simp
 intro _
 by_cases h2:(l.Coeffs.length:Int)=n
 case neg=>simp [h2]
 simp [h2]
 first|refine callD_of (k_coeffOk l.Const) (by first|(simp;done)|rfl) ?_|refine call_of (k_coeffOk l.Const) (by first|(simp;done)|rfl) ?_
 rintro r rfl
 cases h3:okC l.Const
 · simp
 simp
 refine a_anyNotC l.Coeffs ?_
 simp
theorem ks_IsValidLin (l:DLin) (n:Int):Holds Tryz.prog 191 [.agg (rALin l),i64 n] (fun r=>r = .bool (okLin l n)):=by
 refine holds_of_lim Tryz.func191 rfl rfl fun hl => ?_
 simp [rALin] at hl
 refine holds_of_run Tryz.func191 a191_ok rfl (by simp [a191]) ?_
 simp [a191,rALin]
 refine rL_for [1,2] 5 l.Coeffs.length (fun i _=>(l.Coeffs.drop i).all okC=l.Coeffs.all okC) hl (by simp) (by simp) ?_ ?_
 · intro i s hi hg hk s5 hw hJ
   simp at hk
   rw [List.drop_eq_getElem_cons hi,List.all_cons] at hJ
   simp [hk,s5,hi,hg]
   intro _
   first | refine callD_of (k_l3In _) (by simp) ?_ | refine call_of (k_l3In _) (by simp) ?_ | refine callD_of (k_l3In _) rfl ?_ | refine call_of (k_l3In _) rfl ?_
   rintro r rfl
   cases h1:okC l.Coeffs[i]
   · have hJ:l.Coeffs.all okC=false:=by rw [←hJ,h1]; rfl
     simp [hk,okLin,hJ]
   · rw [h1,Bool.true_and] at hJ
     simp [hk,s5,hw]
     exact hJ
 · intro s hk s5 hJ
   simp at hk hJ
   simp [hk,s5]
   intro _
   first|refine callD_of (k_l1In n 0 8) (by first|(simp;done)|rfl) ?_|refine call_of (k_l1In n 0 8) (by first|(simp;done)|rfl) ?_
   rintro r rfl
   unfold okLin
   cases h1:inR n 0 8
   · simp
   simp [hk]
   intro _
   by_cases h2:(l.Coeffs.length:Int)=n
   case neg=>simp [h2]
   simp [h2]
   first|refine callD_of (k_l3In l.Const) (by first|(simp;done)|rfl) ?_|refine call_of (k_l3In l.Const) (by first|(simp;done)|rfl) ?_
   rintro r rfl
   cases h3:okC l.Const <;> simp
   exact hJ
end Go.Proofs.YtilcageplifbgaaGreat

namespace Go.Proofs.YtilcageplifbgaaGreat
set_option linter.all false
open Go Go.RowKit Go.Proofs
def a103:AFn:=
⟨18,[(.c 4 true 2)],(.seq
 (.reg [⟨some 4,.box [(.int .i64 0),(.nil 1)],no⟩]) (.seq (.seq
 (.reg [⟨some 5,.mv (.t 1),no⟩,⟨some 6,.call (.k (.fn (.func 98) [] [])) [.t 5,(.k (.int .i64 0)),(.k (.int .i64 8))],no⟩,⟨some 7,.un .not (.t 6),no⟩,⟨some 8,.mv (.t 7),no⟩,⟨some 9,.mv (.t 0),(some (8,false))⟩,⟨some 10,.call (.k (.fn (.func 183) [] [])) [.t 9],(some (8,false))⟩,⟨some 11,.un .not (.t 10),(some (8,false))⟩,⟨some 12,.pick (.t 8) (.k (.bool true)) (.t 11),no⟩]) (.cond (.t 12) (.seq
 (.reg [⟨some 13,.build [(.int .i64 0),(.nil 1)] [],no⟩,⟨no,.st 2 (.t 4) (.t 13),no⟩]) .ret) .skip)) (.seq
 (.reg [⟨some 14,.mv (.t 0),no⟩,⟨some 15,.mv (.t 1),no⟩,⟨some 16,.mks 8 [(.int .i64 0)] (.t 15) (.t 15),no⟩,⟨some 17,.build [(.int .i64 0),(.nil 1)] [(0,(1,(.t 14))),(1,(1,(.t 16)))],no⟩,⟨no,.st 2 (.t 4) (.t 17),no⟩]) .ret)))⟩
theorem a103_ok:compFn Tryz.prog Tryz.f103=some a103:=by kernel_rfl
def a114:AFn:=
⟨18,[(.c 4 true 2)],(.seq
 (.reg [⟨some 4,.box [(.int .i64 0),(.nil 1)],no⟩]) (.seq (.seq
 (.reg [⟨some 5,.mv (.t 1),no⟩,⟨some 6,.call (.k (.fn (.func 96) [] [])) [.t 5,(.k (.int .i64 0)),(.k (.int .i64 8))],no⟩,⟨some 7,.un .not (.t 6),no⟩,⟨some 8,.mv (.t 7),no⟩,⟨some 9,.mv (.t 0),(some (8,false))⟩,⟨some 10,.call (.k (.fn (.func 187) [] [])) [.t 9],(some (8,false))⟩,⟨some 11,.un .not (.t 10),(some (8,false))⟩,⟨some 12,.pick (.t 8) (.k (.bool true)) (.t 11),no⟩]) (.cond (.t 12) (.seq
 (.reg [⟨some 13,.build [(.int .i64 0),(.nil 1)] [],no⟩,⟨no,.st 2 (.t 4) (.t 13),no⟩]) .ret) .skip)) (.seq
 (.reg [⟨some 14,.mv (.t 0),no⟩,⟨some 15,.mv (.t 1),no⟩,⟨some 16,.mks 8 [(.int .i64 0)] (.t 15) (.t 15),no⟩,⟨some 17,.build [(.int .i64 0),(.nil 1)] [(0,(1,(.t 14))),(1,(1,(.t 16)))],no⟩,⟨no,.st 2 (.t 4) (.t 17),no⟩]) .ret)))⟩
theorem a114_ok:compFn Tryz.prog Tryz.f114=some a114:=by kernel_rfl
def a174:AFn:=
⟨8,[.t 2],(.seq
 (.reg [⟨some 2,.mv (.k (.nil 1)),no⟩]) (.seq (.seq
 (.reg [⟨some 3,.mv (.t 0),no⟩,⟨some 4,.inil false (.t 3),no⟩]) (.cond (.t 4) (.seq
 (.reg [⟨some 2,.mv (.k (.nil 1)),no⟩]) .ret) .skip)) (.seq
 (.reg [⟨some 5,.bsl 1 [],no⟩,⟨some 6,.mv (.t 0),no⟩,⟨some 7,.app 8 1 (.t 5) (.t 6),no⟩,⟨some 2,.mv (.t 7),no⟩]) .ret)))⟩
theorem a174_ok:compFn Tryz.prog Tryz.f174=some a174:=by kernel_rfl
def a91:AFn:=
⟨9,[(.c 2 true 2)],(.seq
 (.reg [⟨some 1,.boxv (.t 0),no⟩,⟨some 2,.box [(.int .i64 0),(.nil 1)],no⟩]) (.seq (.draw (.op ⟨some 3,.fld 0 (.t 1),no⟩ (.op ⟨some 4,.ld false 1 (.t 3),no⟩ (.op ⟨some 5,.fld 1 (.t 1),no⟩ (.op ⟨some 6,.ld false 1 (.t 5),no⟩ (.op ⟨some 7,.call (.k (.fn (.func 174) [] [])) [.t 6],no⟩ (.op ⟨some 8,.build [(.int .i64 0),(.nil 1)] [(0,(1,(.t 4))),(1,(1,(.t 7)))],no⟩ (.hop ⟨no,.st 2 (.t 2) (.t 8),no⟩ [] .fin)))))))) .ret))⟩
theorem a91_ok:compFn Tryz.prog Tryz.f91=some a91:=by kernel_rfl
def a87:AFn:=
⟨10,[(.c 2 true 2)],(.seq
 (.reg [⟨some 1,.boxv (.t 0),no⟩,⟨some 2,.box [(.int .i64 0),(.nil 1)],no⟩]) (.seq (.draw (.op ⟨some 3,.fld 0 (.t 1),no⟩ (.op ⟨some 4,.ld false 1 (.t 3),no⟩ (.op ⟨some 6,.fld 1 (.t 1),no⟩ (.op ⟨some 7,.ld false 1 (.t 6),no⟩ (.hop ⟨some 5,.bsl 1 [],no⟩ [(.ld false 1 (.t 6)),(.fld 1 (.t 1)),(.ld false 1 (.t 3)),(.fld 0 (.t 1))] (.hop ⟨some 8,.app 8 1 (.t 5) (.t 7),no⟩ [(.ld false 1 (.t 3)),(.fld 0 (.t 1))] (.op ⟨some 9,.build [(.int .i64 0),(.nil 1)] [(0,(1,(.t 4))),(1,(1,(.t 8)))],no⟩ (.hop ⟨no,.st 2 (.t 2) (.t 9),no⟩ [] .fin))))))))) .ret))⟩
theorem a87_ok:compFn Tryz.prog Tryz.f87=some a87:=by kernel_rfl
def a102:AFn:=
⟨82,[(.c 6 true 2),.t 7],(.seq
 (.reg [⟨some 3,.boxv (.t 0),no⟩,⟨some 5,.boxv (.t 2),no⟩,⟨some 6,.box [(.int .i64 0),(.nil 1)],no⟩,⟨some 7,.mv (.k (.bool false)),no⟩]) (.seq
 (.reg [⟨some 15,.fld 1 (.t 3),no⟩,⟨some 16,.ld false 1 (.t 15),no⟩,⟨some 17,.len false (.t 16),no⟩,⟨some 8,.mv (.t 17),no⟩]) (.seq (.seq
 (.reg [⟨some 18,.ld true 2 (.t 3),no⟩,⟨some 19,.mv (.t 8),no⟩,⟨some 20,.call (.k (.fn (.func 155) [] [])) [.t 18,.t 19],no⟩,⟨some 21,.un .not (.t 20),no⟩,⟨some 22,.mv (.t 21),no⟩,⟨some 23,.ld true 2 (.t 5),(some (22,false))⟩,⟨some 24,.mv (.t 8),(some (22,false))⟩,⟨some 25,.call (.k (.fn (.func 155) [] [])) [.t 23,.t 24],(some (22,false))⟩,⟨some 26,.un .not (.t 25),(some (22,false))⟩,⟨some 27,.pick (.t 22) (.k (.bool true)) (.t 26),no⟩,⟨some 28,.mv (.t 27),no⟩,⟨some 29,.mv (.t 1),(some (28,false))⟩,⟨some 30,.call (.k (.fn (.func 183) [] [])) [.t 29],(some (28,false))⟩,⟨some 31,.un .not (.t 30),(some (28,false))⟩,⟨some 32,.pick (.t 28) (.k (.bool true)) (.t 31),no⟩]) (.cond (.t 32) (.seq
 (.reg [⟨some 33,.build [(.int .i64 0),(.nil 1)] [],no⟩,⟨no,.st 2 (.t 6) (.t 33),no⟩,⟨some 7,.mv (.k (.bool false)),no⟩]) .ret) .skip)) (.seq
 (.reg [⟨some 34,.mv (.t 8),no⟩,⟨some 35,.call (.k (.fn (.func 103) [] [])) [(.k (.int .i64 0)),.t 34],no⟩,⟨some 9,.box [(.int .i64 0),(.nil 1)],no⟩,⟨no,.st 2 (.t 9) (.t 35),no⟩]) (.seq
 (.reg [⟨some 37,.fld 0 (.t 3),no⟩,⟨some 38,.ld false 1 (.t 37),no⟩,⟨some 39,.mv (.t 1),no⟩,⟨some 40,.fld 0 (.t 5),no⟩,⟨some 41,.ld false 1 (.t 40),no⟩,⟨some 42,.call (.k (.fn (.func 184) [] [])) [.t 38,.t 39,.t 41],no⟩,⟨some 36,.mv (.t 42),no⟩,⟨some 43,.ext (.t 36) 0,no⟩,⟨some 44,.ext (.t 36) 1,no⟩,⟨some 10,.mv (.t 43),no⟩,⟨some 11,.mv (.t 44),no⟩]) (.seq
 (.reg [⟨some 45,.mv (.t 10),no⟩,⟨some 46,.fld 0 (.t 9),no⟩,⟨no,.st 1 (.t 46) (.t 45),no⟩]) (.seq (.seq
 (.reg [⟨some 47,.fld 1 (.t 3),no⟩,⟨some 48,.ld false 1 (.t 47),no⟩,⟨some 49,.len false (.t 48),no⟩,⟨some 50,.mv (.k (.int .i64 0)),no⟩]) (.blk 0 (.loop (.seq
 (.reg [⟨some 51,.bin .lss (.t 50) (.t 49),no⟩]) (.seq (.cond (.t 51) .skip (.exit 0)) (.seq (.blk 1 (.seq
 (.reg [⟨some 52,.mv (.t 50),no⟩,⟨some 12,.mv (.t 52),no⟩]) (.seq (.draw (.op ⟨some 54,.fld 1 (.t 3),no⟩ (.op ⟨some 55,.ld false 1 (.t 54),no⟩ (.op ⟨some 56,.mv (.t 12),no⟩ (.op ⟨some 57,.ixa 1 (.t 55) (.t 56),no⟩ (.op ⟨some 58,.ld false 1 (.t 57),no⟩ (.op ⟨some 59,.mv (.t 1),no⟩ (.op ⟨some 60,.fld 1 (.t 5),no⟩ (.op ⟨some 61,.ld false 1 (.t 60),no⟩ (.op ⟨some 62,.mv (.t 12),no⟩ (.op ⟨some 63,.ixa 1 (.t 61) (.t 62),no⟩ (.op ⟨some 64,.ld false 1 (.t 63),no⟩ (.op ⟨some 65,.call (.k (.fn (.func 184) [] [])) [.t 58,.t 59,.t 64],no⟩ (.op ⟨some 53,.mv (.t 65),no⟩ (.op ⟨some 66,.ext (.t 53) 0,no⟩ (.op ⟨some 67,.ext (.t 53) 1,no⟩ (.op ⟨some 13,.mv (.t 66),no⟩ (.op ⟨some 14,.mv (.t 67),no⟩ .fin)))))))))))))))))) (.seq
 (.reg [⟨some 68,.fld 1 (.t 9),no⟩,⟨some 69,.ld false 1 (.t 68),no⟩,⟨some 70,.mv (.t 12),no⟩,⟨some 71,.mv (.t 13),no⟩,⟨some 72,.ixa 1 (.t 69) (.t 70),no⟩,⟨no,.st 1 (.t 72) (.t 71),no⟩])
 (.reg [⟨some 73,.mv (.t 11),no⟩,⟨some 74,.mv (.t 73),no⟩,⟨some 75,.mv (.t 14),(some (74,true))⟩,⟨some 76,.pick (.t 74) (.t 75) (.k (.bool false)),no⟩,⟨some 11,.mv (.t 76),no⟩])))))
 (.reg [⟨some 77,.bin .add (.t 50) (.k (.int .i64 1)),no⟩,⟨some 50,.mv (.t 77),no⟩]))))))) (.seq (.seq
 (.reg [⟨some 78,.mv (.t 11),no⟩,⟨some 79,.un .not (.t 78),no⟩]) (.cond (.t 79) (.seq
 (.reg [⟨some 80,.build [(.int .i64 0),(.nil 1)] [],no⟩,⟨no,.st 2 (.t 6) (.t 80),no⟩,⟨some 7,.mv (.k (.bool false)),no⟩]) .ret) .skip)) (.seq
 (.reg [⟨some 81,.ld true 2 (.t 9),no⟩,⟨no,.st 2 (.t 6) (.t 81),no⟩,⟨some 7,.mv (.k (.bool true)),no⟩]) .ret)))))))))⟩
theorem a102_ok:compFn Tryz.prog Tryz.f102=some a102:=by kernel_rfl
def a126:AFn:=
⟨86,[(.c 6 true 2),.t 7],(.seq
 (.reg [⟨some 3,.boxv (.t 0),no⟩,⟨some 5,.boxv (.t 2),no⟩,⟨some 6,.box [(.int .i64 0),(.nil 1)],no⟩,⟨some 7,.mv (.k (.bool false)),no⟩]) (.seq
 (.reg [⟨some 16,.fld 1 (.t 3),no⟩,⟨some 17,.ld false 1 (.t 16),no⟩,⟨some 18,.len false (.t 17),no⟩,⟨some 8,.mv (.t 18),no⟩]) (.seq (.seq
 (.reg [⟨some 19,.ld true 2 (.t 3),no⟩,⟨some 20,.mv (.t 8),no⟩,⟨some 21,.call (.k (.fn (.func 191) [] [])) [.t 19,.t 20],no⟩,⟨some 22,.un .not (.t 21),no⟩,⟨some 23,.mv (.t 22),no⟩,⟨some 24,.ld true 2 (.t 5),(some (23,false))⟩,⟨some 25,.mv (.t 8),(some (23,false))⟩,⟨some 26,.call (.k (.fn (.func 191) [] [])) [.t 24,.t 25],(some (23,false))⟩,⟨some 27,.un .not (.t 26),(some (23,false))⟩,⟨some 28,.pick (.t 23) (.k (.bool true)) (.t 27),no⟩,⟨some 29,.mv (.t 28),no⟩,⟨some 30,.mv (.t 1),(some (29,false))⟩,⟨some 31,.call (.k (.fn (.func 187) [] [])) [.t 30],(some (29,false))⟩,⟨some 32,.un .not (.t 31),(some (29,false))⟩,⟨some 33,.pick (.t 29) (.k (.bool true)) (.t 32),no⟩]) (.cond (.t 33) (.seq
 (.reg [⟨some 34,.build [(.int .i64 0),(.nil 1)] [],no⟩,⟨no,.st 2 (.t 6) (.t 34),no⟩,⟨some 7,.mv (.k (.bool false)),no⟩]) .ret) .skip)) (.seq
 (.reg [⟨some 35,.mv (.t 8),no⟩,⟨some 36,.mks 8 [(.int .i64 0)] (.t 35) (.t 35),no⟩,⟨some 37,.build [(.int .i64 0),(.nil 1)] [(1,(1,(.t 36)))],no⟩,⟨some 9,.box [(.int .i64 0),(.nil 1)],no⟩,⟨no,.st 2 (.t 9) (.t 37),no⟩]) (.seq
 (.reg [⟨some 10,.mv (.k (.bool true)),no⟩]) (.seq (.seq
 (.reg [⟨some 11,.mv (.k (.int .i64 0)),no⟩]) (.blk 0 (.loop (.seq (.seq
 (.reg [⟨some 38,.mv (.t 11),no⟩,⟨some 39,.mv (.t 8),no⟩,⟨some 40,.bin .lss (.t 38) (.t 39),no⟩]) (.cond (.t 40) .skip (.exit 0))) (.seq (.blk 1 (.seq (.draw (.op ⟨some 44,.fld 1 (.t 3),no⟩ (.op ⟨some 45,.ld false 1 (.t 44),no⟩ (.op ⟨some 46,.mv (.t 11),no⟩ (.op ⟨some 47,.ixa 1 (.t 45) (.t 46),no⟩ (.op ⟨some 48,.ld false 1 (.t 47),no⟩ (.op ⟨some 49,.mv (.t 1),no⟩ (.op ⟨some 50,.fld 1 (.t 5),no⟩ (.op ⟨some 51,.ld false 1 (.t 50),no⟩ (.op ⟨some 52,.mv (.t 11),no⟩ (.op ⟨some 53,.ixa 1 (.t 51) (.t 52),no⟩ (.op ⟨some 54,.ld false 1 (.t 53),no⟩ (.op ⟨some 55,.call (.k (.fn (.func 192) [] [])) [.t 48,.t 49,.t 54],no⟩ (.op ⟨some 43,.mv (.t 55),no⟩ (.op ⟨some 56,.ext (.t 43) 0,no⟩ (.op ⟨some 57,.ext (.t 43) 1,no⟩ (.op ⟨some 12,.mv (.t 56),no⟩ (.op ⟨some 13,.mv (.t 57),no⟩ .fin)))))))))))))))))) (.seq
 (.reg [⟨some 58,.fld 1 (.t 9),no⟩,⟨some 59,.ld false 1 (.t 58),no⟩,⟨some 60,.mv (.t 11),no⟩,⟨some 61,.mv (.t 12),no⟩,⟨some 62,.ixa 1 (.t 59) (.t 60),no⟩,⟨no,.st 1 (.t 62) (.t 61),no⟩])
 (.reg [⟨some 63,.mv (.t 10),no⟩,⟨some 64,.mv (.t 63),no⟩,⟨some 65,.mv (.t 13),(some (64,true))⟩,⟨some 66,.pick (.t 64) (.t 65) (.k (.bool false)),no⟩,⟨some 10,.mv (.t 66),no⟩]))))
 (.reg [⟨some 41,.mv (.t 11),no⟩,⟨some 42,.bin .add (.t 41) (.k (.int .i64 1)),no⟩,⟨some 11,.mv (.t 42),no⟩])))))) (.seq
 (.reg [⟨some 68,.fld 0 (.t 3),no⟩,⟨some 69,.ld false 1 (.t 68),no⟩,⟨some 70,.mv (.t 1),no⟩,⟨some 71,.fld 0 (.t 5),no⟩,⟨some 72,.ld false 1 (.t 71),no⟩,⟨some 73,.call (.k (.fn (.func 192) [] [])) [.t 69,.t 70,.t 72],no⟩,⟨some 67,.mv (.t 73),no⟩,⟨some 74,.ext (.t 67) 0,no⟩,⟨some 75,.ext (.t 67) 1,no⟩,⟨some 14,.mv (.t 74),no⟩,⟨some 15,.mv (.t 75),no⟩]) (.seq (.seq
 (.reg [⟨some 76,.mv (.t 10),no⟩,⟨some 77,.un .not (.t 76),no⟩,⟨some 78,.mv (.t 77),no⟩,⟨some 79,.mv (.t 15),(some (78,false))⟩,⟨some 80,.un .not (.t 79),(some (78,false))⟩,⟨some 81,.pick (.t 78) (.k (.bool true)) (.t 80),no⟩]) (.cond (.t 81) (.seq
 (.reg [⟨some 82,.build [(.int .i64 0),(.nil 1)] [],no⟩,⟨no,.st 2 (.t 6) (.t 82),no⟩,⟨some 7,.mv (.k (.bool false)),no⟩]) .ret) .skip)) (.seq
 (.reg [⟨some 83,.mv (.t 14),no⟩,⟨some 84,.fld 0 (.t 9),no⟩,⟨no,.st 1 (.t 84) (.t 83),no⟩]) (.seq
 (.reg [⟨some 85,.ld true 2 (.t 9),no⟩,⟨no,.st 2 (.t 6) (.t 85),no⟩,⟨some 7,.mv (.k (.bool true)),no⟩]) .ret))))))))))⟩
theorem a126_ok:compFn Tryz.prog Tryz.f126=some a126:=by kernel_rfl
def constLin (k n:Int):DLin:=if inR n 0 8&&okC k then ⟨k,List.replicate n.toNat 0⟩ else ⟨0,[]⟩
@[simp] theorem intsR_rep (m:Nat):intsR (List.replicate m 0)=List.replicate m [AV.int .i64 0]:=by simp [intsR]
@[simp] theorem clean_rep (m:Nat):cleanr (List.replicate m [AV.int .i64 0])=true:=by rw [←intsR_rep]; exact clean_intsR _
@[simp] theorem intsR_set (l:List Int) (i:Nat) (v:Int):(intsR l).set i [AV.int .i64 v]=intsR (l.set i v):=by simp [intsR,List.map_set]
theorem k_ConstLin (k n:Int):Holds Tryz.prog 103 [i64 k,i64 n] (fun r=>r = .agg (rULin (constLin k n))):=by
 refine holds_of_run Tryz.func103 a103_ok rfl (by simp [a103]) ?_
 simp [a103]
 first|refine callD_of (k_within n 0 8) (by first|(simp;done)|rfl) ?_|refine call_of (k_within n 0 8) (by first|(simp;done)|rfl) ?_
 rintro r rfl
 unfold constLin
 cases h1:inR n 0 8
 · simp [rULin,intsR]
 simp
 first|refine callD_of (k_coeffOk k) (by first|(simp;done)|rfl) ?_|refine call_of (k_coeffOk k) (by first|(simp;done)|rfl) ?_
 rintro r rfl
 cases h2:okC k
 · simp [rULin,intsR]
 have hn:0≤n∧n≤8:=by simpa [inR] using h1
 obtain ⟨m,rfl⟩:∃ m:Nat,n=m:=⟨n.toNat,by omega⟩
 simp [rULin]
 unfold LIM
 omega
theorem ks_ConstLin (k n:Int):Holds Tryz.prog 114 [i64 k,i64 n] (fun r=>r = .agg (rULin (constLin k n))):=by
 refine holds_of_run Tryz.func114 a114_ok rfl (by simp [a114]) ?_
 simp [a114]
 first|refine callD_of (k_l1In n 0 8) (by first|(simp;done)|rfl) ?_|refine call_of (k_l1In n 0 8) (by first|(simp;done)|rfl) ?_
 rintro r rfl
 unfold constLin
 cases h1:inR n 0 8
 · simp [rULin,intsR]
 simp
 first|refine callD_of (k_l3In k) (by first|(simp;done)|rfl) ?_|refine call_of (k_l3In k) (by first|(simp;done)|rfl) ?_
 rintro r rfl
 cases h2:okC k
 · simp [rULin,intsR]
 have hn:0≤n∧n≤8:=by simpa [inR] using h1
 obtain ⟨m,rfl⟩:∃ m:Nat,n=m:=⟨n.toNat,by omega⟩
 simp [rULin]
 unfold LIM
 omega
theorem k_CloneInt (l:List Int) (hl:l.length≤1048576):Holds Tryz.prog 174 [.sl 1 (intsR l)] (fun r=>r = .us 1 (intsR l)):=by
 refine holds_of_run Tryz.func174 a174_ok rfl (by simp [a174]) ?_
 simp [a174]
 unfold LIM
 omega
theorem k_copyLin (x:DLin) (hl:x.Coeffs.length≤1048576):Holds Tryz.prog 91 [.agg (rALin x)] (fun r=>r = .agg (rULin x)):=by
 refine holds_of_run Tryz.func91 a91_ok rfl (by simp [a91]) ?_
 simp [a91,rALin]
 first|refine callD_of (k_CloneInt x.Coeffs hl) (by first|(simp [rULin];done)|rfl) ?_|refine call_of (k_CloneInt x.Coeffs hl) (by first|(simp [rULin];done)|rfl) ?_
 rintro r rfl
 simp [rULin]
theorem ks_l4Copy (x:DLin) (hl:x.Coeffs.length≤1048576):Holds Tryz.prog 87 [.agg (rALin x)] (fun r=>r = .agg (rULin x)):=by
 refine holds_of_run Tryz.func87 a87_ok rfl (by simp [a87]) ?_
 simp [a87,rALin,rULin]
 unfold LIM
 omega
def lin0:DLin:=⟨0,[]⟩
def optLin:Option DLin→AV
 | some l => .tup [.agg (rULin l),.bool true]
 | Option.none => .tup [.agg (rULin lin0),.bool false]
theorem optLin_eq (o:Option DLin):optLin o = .tup [.agg (rULin (o.getD lin0)),.bool o.isSome]:=by cases o <;> rfl
def combZ (a:DLin) (k:Int) (b:DLin):List (Option Int):=List.zipWith (fun x y=>scaledO x k y) a.Coeffs b.Coeffs
def combOk (a:DLin) (k:Int) (b:DLin):Bool:=(combZ a k b).all Option.isSome
def addScaled (a:DLin) (k:Int) (b:DLin):Option DLin:=
 if okLin a a.Coeffs.length&&okLin b a.Coeffs.length&&okC k&&(scaledO a.Const k b.Const).isSome&&combOk a k b then
   some ⟨(scaledO a.Const k b.Const).getD 0,(combZ a k b).map (·.getD 0)⟩
 else Option.none
theorem okLin_len {l:DLin} {n:Int} (h:okLin l n=true):(l.Coeffs.length:Int)=n∧0≤n∧n≤8:=by
 unfold okLin at h
 simp [inR] at h
 omega
theorem comb_vals {a b:DLin} {k:Int} {vs:List Int} (hl:b.Coeffs.length=a.Coeffs.length) (hv:vs.length=a.Coeffs.length) (g:Int→Int→Int→Int) (hg:∀ x y v,scaledO x k y=some v→g x k y=v)
   (hj:∀ j (h:j<a.Coeffs.length) (h':j<b.Coeffs.length),vs[j]? = some (g a.Coeffs[j] k b.Coeffs[j])) (hZ:(combZ a k b).all Option.isSome=true):vs=(combZ a k b).map (·.getD 0):=by
 refine List.ext_getElem (by simp [combZ,hv,hl]) fun j h1 h2 => ?_
 have h3:j<a.Coeffs.length:=by omega
 have h4:j<b.Coeffs.length:=by omega
 have h5:=hj j h3 h4
 rw [List.getElem?_eq_getElem h1] at h5
 rw [Option.some.inj h5,List.getElem_map]
 have h6:(combZ a k b)[j]'(by simpa using h2)=scaledO a.Coeffs[j] k b.Coeffs[j]:=by simp [combZ]
 rw [h6]
 have h7:=List.all_eq_true.1 hZ _ (List.getElem_mem (by simpa using h2:j<(combZ a k b).length))
 rw [h6] at h7
 obtain ⟨v,hv'⟩:=Option.isSome_iff_exists.1 h7
 rw [hg _ _ _ hv',hv']; rfl
set_option maxRecDepth 20000 in
set_option maxHeartbeats 1000000 in
theorem k_AddScaled (a:DLin) (k:Int) (b:DLin):Holds Tryz.prog 102 [.agg (rALin a),i64 k,.agg (rALin b)] (fun r=>r=optLin (addScaled a k b)):=by
 refine holds_of_run Tryz.func102 a102_ok rfl (by simp [a102]) ?_
 simp [a102,rALin]
 intro hlim
 unfold addScaled
 first|refine callD_of (k_IsValidLin a a.Coeffs.length) (by first|(simp [rALin];done)|rfl) ?_|refine call_of (k_IsValidLin a a.Coeffs.length) (by first|(simp [rALin];done)|rfl) ?_
 rintro r rfl
 cases h1:okLin a a.Coeffs.length
 · simp [optLin,lin0,rULin,intsR]
 simp
 first|refine callD_of (k_IsValidLin b a.Coeffs.length) (by first|(simp [rALin];done)|rfl) ?_|refine call_of (k_IsValidLin b a.Coeffs.length) (by first|(simp [rALin];done)|rfl) ?_
 rintro r rfl
 cases h2:okLin b a.Coeffs.length
 · simp [optLin,lin0,rULin,intsR]
 simp
 first|refine callD_of (k_coeffOk k) (by first|(simp;done)|rfl) ?_|refine call_of (k_coeffOk k) (by first|(simp;done)|rfl) ?_
 rintro r rfl
 cases h3:okC k
 · simp [optLin,lin0,rULin,intsR]
 simp
 have hla:=okLin_len h1
 have hlb:=okLin_len h2
 have hl:b.Coeffs.length=a.Coeffs.length:=by omega
 have hc0:constLin 0 (a.Coeffs.length:Int)=⟨0,List.replicate a.Coeffs.length 0⟩:=by
   unfold constLin
   rw [if_pos (by simp [inR,okC]; omega)]
   simp
 first|refine callD_of (k_ConstLin 0 a.Coeffs.length) (by first|(simp;done)|rfl) ?_|refine call_of (k_ConstLin 0 a.Coeffs.length) (by first|(simp;done)|rfl) ?_
 rintro r rfl
 rw [hc0]
 simp [rULin]
 first|refine callD_of (k_scaled a.Const k b.Const) (by first|(simp [pairA];done)|rfl) ?_|refine call_of (k_scaled a.Const k b.Const) (by first|(simp [pairA];done)|rfl) ?_
 rintro r rfl
 simp [pairA]
 intro _
 have hzl:(combZ a k b).length=a.Coeffs.length:=by simp [combZ,hl]
 refine rL_forO [1,3,5,6,9,49] 50 a.Coeffs.length (fun i s h n=>h 0=some ⟨true,2,[[.int .i64 a.Const,.sl 1 (intsR a.Coeffs)]]⟩∧h 1=some ⟨true,2,[[.int .i64 b.Const,.sl 1 (intsR b.Coeffs)]]⟩∧h 2=some ⟨true,2,[[.int .i64 0,.nil 1]]⟩ ∧
     h 4=some ⟨true,2,[[.int .i64 (scaledI a.Const k b.Const).1,.ref 3 0 a.Coeffs.length]]⟩∧∃ vs:List Int,h 3=some ⟨false,1,intsR vs⟩∧vs.length=a.Coeffs.length ∧
     (∀ j (h:j<a.Coeffs.length) (h':j<b.Coeffs.length),j<i→vs[j]? = some (scaledI a.Coeffs[j] k b.Coeffs[j]).1)∧s 11 = .bool ((scaledO a.Const k b.Const).isSome&&((combZ a k b).take i).all Option.isSome))
   hlim (by simp) (by simp; exact ⟨List.replicate a.Coeffs.length 0,by simp,by simp,by simp [scaledI_snd]⟩) ?_ ?_
 · rintro i s h n R hi hg hk s50 hw ⟨e0,e1,e2,e4,vs,e3,hvl,hvs,s11⟩ hR _ _
   simp at hk
   have hib:i<b.Coeffs.length:=by omega
   have hiv:i<vs.length:=by omega
   have hiz:i<(combZ a k b).length:=by omega
   have hZi:(combZ a k b)[i]=scaledO a.Coeffs[i] k b.Coeffs[i]:=by simp [combZ]
   have hflag:((scaledO a.Const k b.Const).isSome&&((combZ a k b).take (i+1)).all Option.isSome)=(((scaledO a.Const k b.Const).isSome&&((combZ a k b).take i).all Option.isSome)&&(scaledI a.Coeffs[i] k b.Coeffs[i]).2):=by
     rw [List.take_succ_eq_append_getElem hiz,List.all_append,hZi,scaledI_snd]
     simp [Bool.and_assoc]
   have hvs':∀ j (h:j<a.Coeffs.length) (h':j<b.Coeffs.length),j<i+1→(vs.set i (scaledI a.Coeffs[i] k b.Coeffs[i]).1)[j]? = some (scaledI a.Coeffs[j] k b.Coeffs[j]).1:=by
     intro j h h' hj
     rw [List.getElem?_set]
     by_cases hji:i=j
     · subst hji; simp [hiv]
     · rw [if_neg hji]; exact hvs j h h' (by omega)
   obtain ⟨f,hf⟩:∃ f,f=((scaledO a.Const k b.Const).isSome&&((combZ a k b).take i).all Option.isSome):=⟨_,rfl⟩
   rw [←hf] at s11 hflag
   cases f
   all_goals
     simp [hk,s50,hi,hg,hw,hib,hiv,e0,e1,e2,e3,e4,s11]
     first | refine callD_of (k_scaled _ _ _) (by simp [pairA]) ?_ | refine call_of (k_scaled _ _ _) (by simp [pairA]) ?_ | refine callD_of (k_scaled _ _ _) rfl ?_ | refine call_of (k_scaled _ _ _) rfl ?_
     rintro r rfl
     simp [hk,s50,hi,hg,hw,hib,hiv,e0,e1,e2,e3,e4,s11,pairA]
     exact hR _ _ _ (by simp [hk]) (by simp) ⟨by simp [e0],by simp [e1],by simp [e2],by simp [e4],_,by simp,by simp [hvl],hvs',by rw [hflag]; simp⟩
 · rintro s h n R hk s50 ⟨e0,e1,e2,e4,vs,e3,hvl,hvs,s11⟩ hret hX
   simp at hk
   rw [List.take_of_length_le (by omega)] at s11
   simp [hk,s50]
   refine hX _ _ _ _ ?_
   cases hc:(scaledO a.Const k b.Const).isSome
   · rw [hc] at s11
     simp at s11
     simp [hk,s11,e2,optLin,lin0,rULin,intsR]
   rw [show (combZ a k b).all Option.isSome=combOk a k b from rfl] at s11
   cases hz:combOk a k b
   · rw [hc,hz] at s11
     simp at s11
     simp [hk,s11,e2,optLin,lin0,rULin,intsR]
   · rw [hc,hz] at s11
     simp at s11
     obtain ⟨v,hv⟩:=Option.isSome_iff_exists.1 hc
     have hval:=comb_vals hl hvl (fun x k y=>(scaledI x k y).1) (fun x y v h=>scaledI_fst h) (fun j h h'=>hvs j h h' h) hz
     simp [hk,s11,e2,e3,e4,optLin,rULin,hvl]
     rw [←hval,hv,scaledI_fst hv]
     simp [hvl,List.take_of_length_le]
set_option maxRecDepth 20000 in
set_option maxHeartbeats 1000000 in
theorem ks_AddScaled (a:DLin) (k:Int) (b:DLin):Holds Tryz.prog 126 [.agg (rALin a),i64 k,.agg (rALin b)] (fun r=>r=optLin (addScaled a k b)):=by
 refine holds_of_run Tryz.func126 a126_ok rfl (by simp [a126]) ?_
 simp [a126,rALin]
 intro hlim
 unfold addScaled
 first|refine callD_of (ks_IsValidLin a a.Coeffs.length) (by first|(simp [rALin];done)|rfl) ?_|refine call_of (ks_IsValidLin a a.Coeffs.length) (by first|(simp [rALin];done)|rfl) ?_
 rintro r rfl
 cases h1:okLin a a.Coeffs.length
 · simp [optLin,lin0,rULin,intsR]
 simp
 first|refine callD_of (ks_IsValidLin b a.Coeffs.length) (by first|(simp [rALin];done)|rfl) ?_|refine call_of (ks_IsValidLin b a.Coeffs.length) (by first|(simp [rALin];done)|rfl) ?_
 rintro r rfl
 cases h2:okLin b a.Coeffs.length
 · simp [optLin,lin0,rULin,intsR]
 simp
 first|refine callD_of (k_l3In k) (by first|(simp;done)|rfl) ?_|refine call_of (k_l3In k) (by first|(simp;done)|rfl) ?_
 rintro r rfl
 cases h3:okC k
 · simp [optLin,lin0,rULin,intsR]
 simp
 have hla:=okLin_len h1
 have hlb:=okLin_len h2
 have hl:b.Coeffs.length=a.Coeffs.length:=by omega
 have hzl:(combZ a k b).length=a.Coeffs.length:=by simp [combZ,hl]
 refine ⟨by unfold LIM; omega,?_⟩
 refine rL_forO [1,3,5,6,8,9] 11 a.Coeffs.length (fun i s h n=>h 0=some ⟨true,2,[[.int .i64 a.Const,.sl 1 (intsR a.Coeffs)]]⟩∧h 1=some ⟨true,2,[[.int .i64 b.Const,.sl 1 (intsR b.Coeffs)]]⟩∧h 2=some ⟨true,2,[[.int .i64 0,.nil 1]]⟩ ∧
     h 4=some ⟨true,2,[[.int .i64 0,.ref 3 0 a.Coeffs.length]]⟩∧∃ vs:List Int,h 3=some ⟨false,1,intsR vs⟩∧vs.length=a.Coeffs.length ∧
     (∀ j (h:j<a.Coeffs.length) (h':j<b.Coeffs.length),j<i→vs[j]? = some (scaledS a.Coeffs[j] k b.Coeffs[j]).1)∧s 10 = .bool (((combZ a k b).take i).all Option.isSome))
   hlim (by simp) (by simp; exact ⟨List.replicate a.Coeffs.length 0,by simp,by simp⟩) ?_ ?_
 · rintro i s h n R hi hg hk s11 hw ⟨e0,e1,e2,e4,vs,e3,hvl,hvs,s10⟩ hR _ _
   simp at hk
   have hib:i<b.Coeffs.length:=by omega
   have hiv:i<vs.length:=by omega
   have hiz:i<(combZ a k b).length:=by omega
   have hZi:(combZ a k b)[i]=scaledO a.Coeffs[i] k b.Coeffs[i]:=by simp [combZ]
   have hflag:(((combZ a k b).take (i+1)).all Option.isSome)=((((combZ a k b).take i).all Option.isSome)&&(scaledS a.Coeffs[i] k b.Coeffs[i]).2):=by
     rw [List.take_succ_eq_append_getElem hiz,List.all_append,hZi,scaledS_snd]
     simp
   have hvs':∀ j (h:j<a.Coeffs.length) (h':j<b.Coeffs.length),j<i+1→(vs.set i (scaledS a.Coeffs[i] k b.Coeffs[i]).1)[j]? = some (scaledS a.Coeffs[j] k b.Coeffs[j]).1:=by
     intro j h h' hj
     rw [List.getElem?_set]
     by_cases hji:i=j
     · subst hji; simp [hiv]
     · rw [if_neg hji]; exact hvs j h h' (by omega)
   obtain ⟨f,hf⟩:∃ f,f=(((combZ a k b).take i).all Option.isSome):=⟨_,rfl⟩
   rw [←hf] at s10 hflag
   cases f
   all_goals
     simp [hk,s11,hi,hg,hw,hib,hiv,e0,e1,e2,e3,e4,s10]
     first | refine callD_of (ks_l4Sum _ _ _) (by simp [pairA]) ?_ | refine call_of (ks_l4Sum _ _ _) (by simp [pairA]) ?_ | refine callD_of (ks_l4Sum _ _ _) rfl ?_ | refine call_of (ks_l4Sum _ _ _) rfl ?_
     rintro r rfl
     simp [hk,s11,hi,hg,hw,hib,hiv,e0,e1,e2,e3,e4,s10,pairA]
     exact hR _ _ _ (by simp [hk]) (by simp) ⟨by simp [e0],by simp [e1],by simp [e2],by simp [e4],_,by simp,by simp [hvl],hvs',by rw [hflag]; simp⟩
 · rintro s h n R hk s11 ⟨e0,e1,e2,e4,vs,e3,hvl,hvs,s10⟩ hret hX
   simp at hk
   rw [List.take_of_length_le (by omega),show (combZ a k b).all Option.isSome=combOk a k b from rfl] at s10
   simp [hk,s11]
   refine hX _ _ _ _ ?_
   cases hz:combOk a k b
   · rw [hz] at s10
     simp [hk,s10,e0,e1,e2,e4]
     first | refine callD_of (ks_l4Sum _ _ _) (by simp [pairA]) ?_ | refine call_of (ks_l4Sum _ _ _) (by simp [pairA]) ?_ | refine callD_of (ks_l4Sum _ _ _) rfl ?_ | refine call_of (ks_l4Sum _ _ _) rfl ?_
     rintro r rfl
     simp [hk,s10,e0,e1,e2,e4,pairA,optLin,lin0,rULin,intsR]
   · rw [hz] at s10
     have hval:=comb_vals hl hvl (fun x k y=>(scaledS x k y).1) (fun x y v h=>scaledS_fst h) (fun j h h'=>hvs j h h' h) hz
     simp [hk,s10,e0,e1,e2,e4]
     first | refine callD_of (ks_l4Sum _ _ _) (by simp [pairA]) ?_ | refine call_of (ks_l4Sum _ _ _) (by simp [pairA]) ?_ | refine callD_of (ks_l4Sum _ _ _) rfl ?_ | refine call_of (ks_l4Sum _ _ _) rfl ?_
     rintro r rfl
     cases hc:(scaledO a.Const k b.Const).isSome
     · have hc':(scaledS a.Const k b.Const).2=false:=by rw [scaledS_snd,hc]
       simp [hk,s10,e0,e1,e2,e4,pairA,hc',optLin,lin0,rULin,intsR]
     · have hc':(scaledS a.Const k b.Const).2=true:=by rw [scaledS_snd,hc]
       obtain ⟨v,hv⟩:=Option.isSome_iff_exists.1 hc
       simp [hk,s10,e0,e1,e2,e3,e4,pairA,hc',optLin,rULin,hvl]
       rw [←hval,hv,scaledS_fst hv]
       simp [hvl,List.take_of_length_le]
end Go.Proofs.YtilcageplifbgaaGreat

namespace Go.Proofs.YtilcageplifbgaaGreat
set_option linter.all false
open Go Go.RowKit Go.Proofs
theorem a153_ok:compFn Tryz.prog Tryz.f153=some (tContainsFunc 220):=by kernel_rfl
theorem a220_ok:compFn Tryz.prog Tryz.f220=some (tIndexFunc true 2):=by kernel_rfl
def a249:AFn:=
⟨8,[.t 3],(.seq
 (.reg [⟨some 2,.boxv (.t 0),no⟩,⟨some 3,.mv (.k (.bool false)),no⟩]) (.seq
 (.reg [⟨some 4,.ld true 2 (.t 2),no⟩,⟨some 5,.ld false 1 (.t 1),no⟩,⟨some 6,.call (.k (.fn (.func 155) [] [])) [.t 4,.t 5],no⟩,⟨some 7,.un .not (.t 6),no⟩,⟨some 3,.mv (.t 7),no⟩]) .ret))⟩
theorem a249_ok:compFn Tryz.prog Tryz.f249=some a249:=by kernel_rfl
def a182:AFn:=
⟨57,[(.c 4 true 2),.t 5],(.seq
 (.reg [⟨some 2,.boxv (.t 0),no⟩,⟨some 4,.box [(.int .i64 0),(.nil 1)],no⟩,⟨some 5,.mv (.k (.bool false)),no⟩]) (.seq
 (.reg [⟨some 6,.box [(.int .i64 0)],no⟩,⟨no,.st 1 (.t 6) (.k (.int .i64 0)),no⟩]) (.seq (.seq
 (.reg [⟨some 11,.mv (.t 1),no⟩,⟨some 12,.len false (.t 11),no⟩,⟨some 13,.bin .gtr (.t 12) (.k (.int .i64 0)),no⟩]) (.cond (.t 13)
 (.reg [⟨some 14,.mv (.t 1),no⟩,⟨some 15,.ixa 2 (.t 14) (.k (.int .i64 0)),no⟩,⟨some 16,.fld 1 (.t 15),no⟩,⟨some 17,.ld false 1 (.t 16),no⟩,⟨some 18,.len false (.t 17),no⟩,⟨no,.st 1 (.t 6) (.t 18),no⟩]) .skip)) (.seq (.seq
 (.reg [⟨some 19,.ld true 2 (.t 2),no⟩,⟨some 20,.mv (.t 1),no⟩,⟨some 21,.len false (.t 20),no⟩,⟨some 22,.call (.k (.fn (.func 155) [] [])) [.t 19,.t 21],no⟩,⟨some 23,.un .not (.t 22),no⟩,⟨some 24,.mv (.t 23),no⟩,⟨some 25,.mv (.t 1),(some (24,false))⟩,⟨some 26,.mkf (.func 249) [] [.t 6],(some (24,false))⟩,⟨some 27,.call (.k (.fn (.func 153) [] [])) [.t 25,.t 26],(some (24,false))⟩,⟨some 28,.pick (.t 24) (.k (.bool true)) (.t 27),no⟩]) (.cond (.t 28) (.seq
 (.reg [⟨some 29,.build [(.int .i64 0),(.nil 1)] [],no⟩,⟨no,.st 2 (.t 4) (.t 29),no⟩,⟨some 5,.mv (.k (.bool false)),no⟩]) .ret) .skip)) (.seq
 (.reg [⟨some 30,.fld 0 (.t 2),no⟩,⟨some 31,.ld false 1 (.t 30),no⟩,⟨some 32,.ld false 1 (.t 6),no⟩,⟨some 33,.call (.k (.fn (.func 103) [] [])) [.t 31,.t 32],no⟩,⟨some 7,.box [(.int .i64 0),(.nil 1)],no⟩,⟨no,.st 2 (.t 7) (.t 33),no⟩]) (.seq
 (.reg [⟨some 8,.mv (.k (.bool true)),no⟩]) (.seq (.seq
 (.reg [⟨some 34,.mv (.t 1),no⟩,⟨some 35,.len false (.t 34),no⟩,⟨some 36,.mv (.k (.int .i64 0)),no⟩]) (.blk 0 (.loop (.seq
 (.reg [⟨some 37,.bin .lss (.t 36) (.t 35),no⟩]) (.seq (.cond (.t 37) .skip (.exit 0)) (.seq (.blk 1 (.seq
 (.reg [⟨some 38,.mv (.t 36),no⟩,⟨some 39,.ixa 2 (.t 34) (.t 36),no⟩,⟨some 40,.ld true 2 (.t 39),no⟩,⟨some 10,.box [(.int .i64 0),(.nil 1)],no⟩,⟨some 9,.mv (.t 38),no⟩,⟨no,.st 2 (.t 10) (.t 40),no⟩]) (.seq (.draw (.op ⟨some 42,.ld true 2 (.t 7),no⟩ (.op ⟨some 43,.fld 1 (.t 2),no⟩ (.op ⟨some 44,.ld false 1 (.t 43),no⟩ (.op ⟨some 45,.mv (.t 9),no⟩ (.op ⟨some 46,.ixa 1 (.t 44) (.t 45),no⟩ (.op ⟨some 47,.ld false 1 (.t 46),no⟩ (.op ⟨some 48,.ld true 2 (.t 10),no⟩ (.op ⟨some 49,.call (.k (.fn (.func 102) [] [])) [.t 42,.t 47,.t 48],no⟩ (.op ⟨some 41,.mv (.t 49),no⟩ (.op ⟨some 50,.ext (.t 41) 0,no⟩ (.op ⟨some 51,.ext (.t 41) 1,no⟩ (.hop ⟨no,.st 2 (.t 7) (.t 50),no⟩ [] (.op ⟨some 8,.mv (.t 51),no⟩ .fin)))))))))))))) (.seq
 (.reg [⟨some 52,.mv (.t 8),no⟩,⟨some 53,.un .not (.t 52),no⟩]) (.cond (.t 53) (.seq
 (.reg [⟨some 54,.build [(.int .i64 0),(.nil 1)] [],no⟩,⟨no,.st 2 (.t 4) (.t 54),no⟩,⟨some 5,.mv (.k (.bool false)),no⟩]) .ret) .skip)))))
 (.reg [⟨some 55,.bin .add (.t 36) (.k (.int .i64 1)),no⟩,⟨some 36,.mv (.t 55),no⟩]))))))) (.seq
 (.reg [⟨some 56,.ld true 2 (.t 7),no⟩,⟨no,.st 2 (.t 4) (.t 56),no⟩,⟨some 5,.mv (.k (.bool true)),no⟩]) .ret))))))))⟩
theorem a182_ok:compFn Tryz.prog Tryz.f182=some a182:=by kernel_rfl
def a251:AFn:=
⟨60,[(.c 4 true 2),.t 5],(.seq
 (.reg [⟨some 2,.boxv (.t 0),no⟩,⟨some 4,.box [(.int .i64 0),(.nil 1)],no⟩,⟨some 5,.mv (.k (.bool false)),no⟩]) (.seq
 (.reg [⟨some 6,.mv (.k (.int .i64 0)),no⟩]) (.seq (.seq
 (.reg [⟨some 11,.mv (.t 1),no⟩,⟨some 12,.len false (.t 11),no⟩,⟨some 13,.bin .gtr (.t 12) (.k (.int .i64 0)),no⟩]) (.cond (.t 13)
 (.reg [⟨some 14,.mv (.t 1),no⟩,⟨some 15,.ixa 2 (.t 14) (.k (.int .i64 0)),no⟩,⟨some 16,.fld 1 (.t 15),no⟩,⟨some 17,.ld false 1 (.t 16),no⟩,⟨some 18,.len false (.t 17),no⟩,⟨some 6,.mv (.t 18),no⟩]) .skip)) (.seq
 (.reg [⟨some 19,.fld 0 (.t 2),no⟩,⟨some 20,.ld false 1 (.t 19),no⟩,⟨some 21,.mv (.t 6),no⟩,⟨some 22,.call (.k (.fn (.func 114) [] [])) [.t 20,.t 21],no⟩,⟨some 7,.box [(.int .i64 0),(.nil 1)],no⟩,⟨no,.st 2 (.t 7) (.t 22),no⟩]) (.seq (.seq
 (.reg [⟨some 23,.ld true 2 (.t 2),no⟩,⟨some 24,.mv (.t 1),no⟩,⟨some 25,.len false (.t 24),no⟩,⟨some 26,.call (.k (.fn (.func 191) [] [])) [.t 23,.t 25],no⟩,⟨some 27,.un .not (.t 26),no⟩,⟨some 28,.mv (.t 27),no⟩,⟨some 29,.ld true 2 (.t 7),(some (28,false))⟩,⟨some 30,.mv (.t 6),(some (28,false))⟩,⟨some 31,.call (.k (.fn (.func 191) [] [])) [.t 29,.t 30],(some (28,false))⟩,⟨some 32,.un .not (.t 31),(some (28,false))⟩,⟨some 33,.pick (.t 28) (.k (.bool true)) (.t 32),no⟩]) (.cond (.t 33) (.seq
 (.reg [⟨some 34,.build [(.int .i64 0),(.nil 1)] [],no⟩,⟨no,.st 2 (.t 4) (.t 34),no⟩,⟨some 5,.mv (.k (.bool false)),no⟩]) .ret) .skip)) (.seq (.seq
 (.reg [⟨some 8,.mv (.k (.int .i64 0)),no⟩]) (.blk 0 (.loop (.seq (.seq
 (.reg [⟨some 35,.mv (.t 8),no⟩,⟨some 36,.mv (.t 1),no⟩,⟨some 37,.len false (.t 36),no⟩,⟨some 38,.bin .lss (.t 35) (.t 37),no⟩]) (.cond (.t 38) .skip (.exit 0))) (.seq (.blk 1 (.seq (.draw (.op ⟨some 42,.ld true 2 (.t 7),no⟩ (.op ⟨some 43,.fld 1 (.t 2),no⟩ (.op ⟨some 44,.ld false 1 (.t 43),no⟩ (.op ⟨some 45,.mv (.t 8),no⟩ (.op ⟨some 46,.ixa 1 (.t 44) (.t 45),no⟩ (.op ⟨some 47,.ld false 1 (.t 46),no⟩ (.op ⟨some 48,.mv (.t 1),no⟩ (.op ⟨some 49,.mv (.t 8),no⟩ (.op ⟨some 50,.ixa 2 (.t 48) (.t 49),no⟩ (.op ⟨some 51,.ld true 2 (.t 50),no⟩ (.both (.op ⟨some 52,.call (.k (.fn (.func 126) [] [])) [.t 42,.t 47,.t 51],no⟩ (.op ⟨some 41,.mv (.t 52),no⟩ (.op ⟨some 53,.ext (.t 41) 0,no⟩ (.op ⟨some 54,.ext (.t 41) 1,no⟩ (.op ⟨some 9,.box [(.int .i64 0),(.nil 1)],no⟩ (.hop ⟨no,.st 2 (.t 9) (.t 53),no⟩ [] (.op ⟨some 10,.mv (.t 54),no⟩ .fin))))))) (.op ⟨some 9,.box [(.int .i64 0),(.nil 1)],no⟩ (.op ⟨some 52,.call (.k (.fn (.func 126) [] [])) [.t 42,.t 47,.t 51],no⟩ (.op ⟨some 41,.mv (.t 52),no⟩ (.op ⟨some 53,.ext (.t 41) 0,no⟩ (.op ⟨some 54,.ext (.t 41) 1,no⟩ (.hop ⟨no,.st 2 (.t 9) (.t 53),no⟩ [] (.op ⟨some 10,.mv (.t 54),no⟩ .fin))))))))))))))))))) (.seq (.seq
 (.reg [⟨some 55,.mv (.t 10),no⟩,⟨some 56,.un .not (.t 55),no⟩]) (.cond (.t 56) (.seq
 (.reg [⟨some 57,.build [(.int .i64 0),(.nil 1)] [],no⟩,⟨no,.st 2 (.t 4) (.t 57),no⟩,⟨some 5,.mv (.k (.bool false)),no⟩]) .ret) .skip))
 (.reg [⟨some 58,.ld true 2 (.t 9),no⟩,⟨no,.st 2 (.t 7) (.t 58),no⟩]))))
 (.reg [⟨some 39,.mv (.t 8),no⟩,⟨some 40,.bin .add (.t 39) (.k (.int .i64 1)),no⟩,⟨some 8,.mv (.t 40),no⟩])))))) (.seq
 (.reg [⟨some 59,.ld true 2 (.t 7),no⟩,⟨no,.st 2 (.t 4) (.t 59),no⟩,⟨some 5,.mv (.k (.bool true)),no⟩]) .ret)))))))⟩
theorem a251_ok:compFn Tryz.prog Tryz.f251=some a251:=by kernel_rfl
def goInst:List (Int×DLin)→DLin→Option DLin
 | [],o=>some o
 | p::l,o=>match addScaled o p.1 p.2 with
   | some o'=>goInst l o'
   | Option.none=>Option.none
def argN (args:List DLin):Nat:=match args with | []=>0 | a::_=>a.Coeffs.length
def instLin (l:DLin) (args:List DLin):Option DLin:=
 if okLin l args.length&&okLin (constLin l.Const (argN args)) (argN args) then goInst (l.Coeffs.zip args) (constLin l.Const (argN args)) else Option.none
theorem addScaled_some {a b o:DLin} {k:Int} (h:addScaled a k b=some o):o.Coeffs.length=a.Coeffs.length∧okLin b a.Coeffs.length=true:=by
 unfold addScaled at h
 split at h
 · rename_i hc
   simp only [Bool.and_eq_true] at hc
   have h1:=okLin_len hc.1.1.1.1
   have h2:=okLin_len hc.1.1.1.2
   cases h
   refine ⟨?_,hc.1.1.1.2⟩
   simp [combZ]; omega
 · cases h
theorem goInst_bad {n:Nat} : ∀ (l:List (Int×DLin)) (o:DLin),o.Coeffs.length=n→(∃ p∈l,okLin p.2 n=false)→goInst l o=Option.none
 | [],o,_,h=>by obtain ⟨p,hp,_⟩:=h; cases hp
 | q::l,o,hn,h=>by
   obtain ⟨p,hp,hb⟩:=h
   simp only [goInst]
   split
   · rename_i o' ho
     obtain ⟨h1,h2⟩:=addScaled_some ho
     rcases List.mem_cons.1 hp with rfl | hp
     · rw [hn,hb] at h2; cases h2
     · exact goInst_bad l o' (by omega) ⟨p,hp,hb⟩
   · rfl
theorem constLin_ok {c:Int} {n:Nat} (hc:okC c=true) (hn:(n:Int)≤8):constLin c n=⟨c,List.replicate n 0⟩∧okLin (constLin c n) n=true:=by
 have h:constLin c n=⟨c,List.replicate n 0⟩:=by
   unfold constLin
   rw [if_pos (by simp [inR,hc]; omega)]; simp
 refine ⟨h,?_⟩
 rw [h]
 simp [okLin,inR,hc,hn]
 right; decide
theorem okLin_c {l:DLin} {n:Int} (h:okLin l n=true):okC l.Const=true:=by
 unfold okLin at h; simp only [Bool.and_eq_true] at h; exact h.1.2
theorem inst_impl {l:DLin} {args:List DLin} (h1:okLin l args.length=true):instLin l args=if args.all (fun a=>okLin a (argN args)) then goInst (l.Coeffs.zip args) (constLin l.Const (argN args)) else Option.none:=by
 unfold instLin
 rw [h1,Bool.true_and]
 have hl:=okLin_len h1
 cases h2:args.all (fun a=>okLin a (argN args))
 · simp only [Bool.false_eq_true,if_false]
   split
   · rename_i h3
     have h3':=okLin_len h3
     rw [List.all_eq_false] at h2
     obtain ⟨a,ha,hb⟩:=h2
     obtain ⟨i,hi,rfl⟩:=List.mem_iff_getElem.1 ha
     refine goInst_bad (n:=argN args) _ _ (by omega) ⟨(l.Coeffs[i]'(by omega),args[i]),List.mem_iff_getElem.2 ⟨i,by simp; omega,by simp⟩,by simpa using hb⟩
   · rfl
 · have hn:((argN args:Nat):Int)≤8:=by
     cases args with
     | nil=>simp [argN]
     | cons a rest=>
       simp only [List.all_cons,Bool.and_eq_true] at h2
       exact (okLin_len h2.1).2.2
   rw [if_pos (constLin_ok (okLin_c h1) hn).2,if_pos rfl]
theorem pure_Inst1 {h:Heap} {n id:Nat} {v:Int} (x:DLin) (hv:h id=some ⟨true,1,[[i64 v]]⟩) (hid:id<n):Pure1 Tryz.prog 249 [] [.ptr id 0 0] h n (.agg (rALin x)) (.bool (!okLin x v)):=by
 intro K hK
 refine acall_gc ?_
 refine acall_body Tryz.func249 a249_ok rfl (by simp [a249]) ?_
 have n1:¬id=n:=by omega
 simp [a249,hv,n1,rALin]
 first|refine callD_of (k_IsValidLin x v) (by first|(simp [rALin];done)|rfl) ?_|refine call_of (k_IsValidLin x v) (by first|(simp [rALin];done)|rfl) ?_
 rintro r rfl
 simp [scal,hK]
 intro j hj hj'
 omega
set_option maxRecDepth 20000 in
set_option maxHeartbeats 1000000 in
theorem k_InstantiateLin (l:DLin) (args:List DLin):Holds Tryz.prog 182 [.agg (rALin l),.sl 2 (args.map rALin)] (fun r=>r=optLin (instLin l args)):=by
 refine holds_of_lim Tryz.func182 rfl rfl fun hlm => ?_
 simp [rALin] at hlm
 have hN:(args.length=0∧argN args=0)∨∃ hz:0<args.length,argN args=(args[0]'hz).Coeffs.length:=by
   cases args with
   | nil=>exact .inl ⟨rfl,rfl⟩
   | cons a rest=>exact .inr ⟨by simp,rfl⟩
 rcases hN with ⟨hz,hN⟩ | ⟨hz,hN⟩
 · refine holds_of_run Tryz.func182 a182_ok rfl (by simp [a182]) ?_
   simp [a182,rALin]
   simp [hz]
   intro hnil
   subst hnil
   first|refine callD_of (k_IsValidLin l 0) (by first|(simp [rALin];done)|rfl) ?_|refine call_of (k_IsValidLin l 0) (by first|(simp [rALin];done)|rfl) ?_
   rintro r rfl
   cases h1:okLin l 0
   · have e:instLin l []=Option.none:=by simp [instLin,h1]
     simp [e,optLin,lin0,rULin,intsR]
   have e:instLin l []=some (constLin l.Const 0):=by rw [inst_impl h1]; simp [argN,goInst]
   rw [e]
   simp
   refine acall_tContainsFunc (p:=fun x => !okLin x 0) (rowOf:=rALin) (eltOf:=fun x => .agg (rALin x)) Tryz.func153 a153_ok rfl Tryz.func220 a220_ok rfl (fun x=>by simp) [] (fun x hx=>by cases hx) ?_
   simp
   first|refine callD_of (k_ConstLin l.Const 0) (by first|(simp;done)|rfl) ?_|refine call_of (k_ConstLin l.Const 0) (by first|(simp;done)|rfl) ?_
   rintro r rfl
   simp [rULin]
   refine rL_forS [4,5,7,35] 36 0 (fun i s=>True) (by decide) (by simp) trivial ?_ ?_
   · intro i s h R hi; omega
   · rintro s h R hk s36 _ hh _ hX
     simp at hk hh
     simp [hk,s36,hh]
     refine hX _ _ ?_
     simp [hk,hh,optLin,rULin]
 · refine holds_of_run Tryz.func182 a182_ok rfl (by simp [a182]) ?_
   simp [a182,rALin]
   have hne:¬args=[]:=by rintro rfl; simp at hz
   simp [hz,hne,rALin]
   intro _ _ _
   first|refine callD_of (k_IsValidLin l args.length) (by first|(simp [rALin];done)|rfl) ?_|refine call_of (k_IsValidLin l args.length) (by first|(simp [rALin];done)|rfl) ?_
   rintro r rfl
   cases h1:okLin l args.length
   · have e:instLin l args=Option.none:=by simp [instLin,h1]
     simp [e,optLin,lin0,rULin,intsR]
   rw [inst_impl h1,hN]
   generalize hc3:(args.all fun x=>okLin x (args[0].Coeffs.length:Int))=b3
   have hla:=okLin_len h1
   simp
   refine acall_tContainsFunc (p:=fun x => !okLin x (args[0].Coeffs.length:Int)) (rowOf:=rALin) (eltOf:=fun x => .agg (rALin x)) Tryz.func153 a153_ok rfl Tryz.func220 a220_ok rfl (fun x=>by simp) args (fun x _=>pure_Inst1 x (by simp [i64]) (by omega)) ?_
   rw [any_not (fun x:DLin=>okLin x (args[0].Coeffs.length:Int)),hc3]
   cases b3
   · simp [optLin,lin0,rULin,intsR]
   simp
   first|refine callD_of (k_ConstLin l.Const (args[0].Coeffs.length:Int)) (by first|(simp;done)|rfl) ?_|refine call_of (k_ConstLin l.Const (args[0].Coeffs.length:Int)) (by first|(simp;done)|rfl) ?_
   rintro r rfl
   simp [rULin]
   intro _
   have hzl:(l.Coeffs.zip args).length=args.length:=by simp; omega
   generalize hG:goInst (l.Coeffs.zip args) (constLin l.Const (args[0].Coeffs.length:Int))=G
   refine rL_forO [1,2,4,7,34,35] 36 args.length (fun i s h n=>h 0=some ⟨true,2,[[.int .i64 l.Const,.sl 1 (intsR l.Coeffs)]]⟩∧h 1=some ⟨true,2,[[.int .i64 0,.nil 1]]⟩∧4<n ∧
       ∃ (o:DLin) (id:Nat),h 4=some ⟨true,2,[[.int .i64 o.Const,.ref id 0 o.Coeffs.length]]⟩∧h id=some ⟨false,1,intsR o.Coeffs⟩∧id<n∧(id=3∨4<id)∧goInst ((l.Coeffs.zip args).drop i) o=G)
     hlm.2 (by simp) ⟨by simp,by simp,by simp,constLin l.Const (args[0].Coeffs.length:Int),3,by simp,by simp,by omega,by omega,by simpa using hG⟩ ?_ ?_
   · rintro i s h n R hi hg hk s36 hw ⟨e0,e1,hn,o,id,e4,eid,hidn,hid,hJ⟩ hR hret _
     simp at hk
     have hir:i<l.Coeffs.length:=by omega
     rw [List.drop_eq_getElem_cons (by omega:i<(l.Coeffs.zip args).length)] at hJ
     simp only [goInst,List.getElem_zip] at hJ
     have n0:¬0=n:=by omega
     have n1:¬1=n:=by omega
     have n4:¬4=n:=by omega
     have n4':¬n=4:=by omega
     have nid:¬id=n:=by omega
     simp [hk,s36,hi,hg,hw,hir,e0,e1,e4,eid,n0,n1,n4,n4',nid]
     refine ⟨by simp [rALin],?_⟩
     have m0:¬0=n+1:=by omega
     have m1:¬1=n+1:=by omega
     have m4:¬4=n+1:=by omega
     have m4':¬n+1=4:=by omega
     have m3':¬n=3:=by omega
     have z0:¬n=0:=by omega
     first|refine callD_of (k_AddScaled o (l.Coeffs[i]'hir) (args[i]'hi)) (by first|(simp [rALin,eid,nid];done)|rfl) ?_|refine call_of (k_AddScaled o (l.Coeffs[i]'hir) (args[i]'hi)) (by first|(simp [rALin,eid,nid];done)|rfl) ?_
     rintro r rfl
     cases ho:addScaled o l.Coeffs[i] args[i]
     · rw [ho] at hJ
       simp [optLin,lin0,rULin,hk,e0,e1,e4,n0,n1,n4,n4',m0,m1,m4,m4',m3',z0]
       refine hret _ _ _ ?_
       simp [hk,←hJ,optLin,lin0,rULin,intsR,m1,n1,z0]
     · rename_i o'
       rw [ho] at hJ
       simp only at hJ
       simp [optLin,rULin,hk,s36,hw,e0,e1,e4,n0,n1,n4,n4',m0,m1,m4,m4',m3',z0]
       exact hR _ _ _ (by simp [hk]) (by simp) ⟨by simp [e0,n0,m0],by simp [e1,n1,m1,z0],by omega,o',n+1,by simp,by simp [m3'],by omega,by omega,hJ⟩
   · rintro s h n R hk s36 ⟨e0,e1,hn,o,id,e4,eid,hidn,hid,hJ⟩ hret hX
     simp at hk
     rw [List.drop_eq_nil_of_le (by omega)] at hJ
     simp only [goInst] at hJ
     simp [hk,s36]
     refine hX _ _ _ _ ?_
     have i1:¬1=id:=by omega
     have i1':¬id=1:=by omega
     simp [hk,e1,e4,eid,←hJ,optLin,rULin,i1,i1']
set_option maxRecDepth 20000 in
set_option maxHeartbeats 1000000 in
theorem ks_InstantiateLin (l:DLin) (args:List DLin):Holds Tryz.prog 251 [.agg (rALin l),.sl 2 (args.map rALin)] (fun r=>r=optLin (instLin l args)):=by
 refine holds_of_lim Tryz.func251 rfl rfl fun hlm => ?_
 simp [rALin] at hlm
 have hN:(args.length=0∧argN args=0)∨∃ hz:0<args.length,argN args=(args[0]'hz).Coeffs.length:=by
   cases args with
   | nil=>exact .inl ⟨rfl,rfl⟩
   | cons a rest=>exact .inr ⟨by simp,rfl⟩
 rcases hN with ⟨hz,hN⟩ | ⟨hz,hN⟩
 · refine holds_of_run Tryz.func251 a251_ok rfl (by simp [a251]) ?_
   simp [a251,rALin]
   simp [hz]
   intro hnil
   subst hnil
   first|refine callD_of (ks_ConstLin l.Const 0) (by first|(simp;done)|rfl) ?_|refine call_of (ks_ConstLin l.Const 0) (by first|(simp;done)|rfl) ?_
   rintro r rfl
   simp [rULin]
   first|refine callD_of (ks_IsValidLin l 0) (by first|(simp [rALin];done)|rfl) ?_|refine call_of (ks_IsValidLin l 0) (by first|(simp [rALin];done)|rfl) ?_
   rintro r rfl
   cases h1:okLin l 0
   · have e:instLin l []=Option.none:=by simp [instLin,h1]
     simp [e,optLin,lin0,rULin,intsR]
   have e:instLin l []=some (constLin l.Const 0):=by rw [inst_impl h1]; simp [argN,goInst]
   rw [e]
   simp
   first|refine callD_of (ks_IsValidLin (constLin l.Const 0) 0) (by first|(simp [rALin];done)|rfl) ?_|refine call_of (ks_IsValidLin (constLin l.Const 0) 0) (by first|(simp [rALin];done)|rfl) ?_
   rintro r rfl
   have h2:=(constLin_ok (n:=0) (okLin_c h1) (by decide)).2
   rw [show ((0:Nat):Int)=0 from rfl] at h2
   simp [h2]
   refine rL_forS [1,4,5,6,7] 8 0 (fun i s=>True) (by decide) (by simp) trivial ?_ ?_
   · intro i s h R hi; omega
   · rintro s h R hk s8 _ hh _ hX
     simp at hk hh
     simp [hk,s8,hh]
     refine hX _ _ ?_
     simp [hk,hh,optLin,rULin]
 · refine holds_of_run Tryz.func251 a251_ok rfl (by simp [a251]) ?_
   simp [a251,rALin]
   have hne:¬args=[]:=by rintro rfl; simp at hz
   simp [hz,hne,rALin]
   intro _ _
   first|refine callD_of (ks_ConstLin l.Const (args[0].Coeffs.length:Int)) (by first|(simp;done)|rfl) ?_|refine call_of (ks_ConstLin l.Const (args[0].Coeffs.length:Int)) (by first|(simp;done)|rfl) ?_
   rintro r rfl
   simp [rULin]
   intro _
   first|refine callD_of (ks_IsValidLin l args.length) (by first|(simp [rALin];done)|rfl) ?_|refine call_of (ks_IsValidLin l args.length) (by first|(simp [rALin];done)|rfl) ?_
   rintro r rfl
   cases h1:okLin l args.length
   · have e:instLin l args=Option.none:=by simp [instLin,h1]
     simp [e,optLin,lin0,rULin,intsR]
   have e:instLin l args=if okLin (constLin l.Const (args[0].Coeffs.length:Int)) (args[0].Coeffs.length:Int) then goInst (l.Coeffs.zip args) (constLin l.Const (args[0].Coeffs.length:Int)) else Option.none:=by
     unfold instLin; rw [h1,hN,Bool.true_and]
   rw [e]
   have hla:=okLin_len h1
   simp
   first|refine callD_of (ks_IsValidLin (constLin l.Const (args[0].Coeffs.length:Int)) (args[0].Coeffs.length:Int)) (by first|(simp [rALin];done)|rfl) ?_|refine call_of (ks_IsValidLin (constLin l.Const (args[0].Coeffs.length:Int)) (args[0].Coeffs.length:Int)) (by first|(simp [rALin];done)|rfl) ?_
   rintro r rfl
   generalize hc3:okLin (constLin l.Const (args[0].Coeffs.length:Int)) (args[0].Coeffs.length:Int)=b3
   cases b3
   · simp [optLin,lin0,rULin,intsR]
   simp
   have hzl:(l.Coeffs.zip args).length=args.length:=by simp; omega
   generalize hG:goInst (l.Coeffs.zip args) (constLin l.Const (args[0].Coeffs.length:Int))=G
   refine rL_forO [1,2,4,6,7] 8 args.length (fun i s h n=>h 0=some ⟨true,2,[[.int .i64 l.Const,.sl 1 (intsR l.Coeffs)]]⟩∧h 1=some ⟨true,2,[[.int .i64 0,.nil 1]]⟩∧3<n ∧
       ∃ (o:DLin) (id:Nat),h 3=some ⟨true,2,[[.int .i64 o.Const,.ref id 0 o.Coeffs.length]]⟩∧h id=some ⟨false,1,intsR o.Coeffs⟩∧id<n∧(id=2∨3<id)∧goInst ((l.Coeffs.zip args).drop i) o=G)
     hlm.2 (by simp) ⟨by simp,by simp,by simp,constLin l.Const (args[0].Coeffs.length:Int),2,by simp,by simp,by omega,by omega,by simpa using hG⟩ ?_ ?_
   · rintro i s h n R hi hg hk s8 hw ⟨e0,e1,hn,o,id,e3,eid,hidn,hid,hJ⟩ hR hret _
     simp at hk
     have hir:i<l.Coeffs.length:=by omega
     rw [List.drop_eq_getElem_cons (by omega:i<(l.Coeffs.zip args).length)] at hJ
     simp only [goInst,List.getElem_zip] at hJ
     have n0:¬0=n:=by omega
     have n1:¬1=n:=by omega
     have n3:¬3=n:=by omega
     have n3':¬n=3:=by omega
     have nid:¬id=n:=by omega
     have m0:¬0=n+1:=by omega
     have m1:¬1=n+1:=by omega
     have m3:¬3=n+1:=by omega
     have m3':¬n+1=3:=by omega
     have mid:¬id=n+1:=by omega
     have z0:¬n=0:=by omega
     have z2:¬n=2:=by omega
     simp [hk,s8,hi,hg,hir,e0,e1,e3,eid]
     intro _
     constructor
     · skip
       first|refine callD_of (ks_AddScaled o (l.Coeffs[i]'hir) (args[i]'hi)) (by first|(simp [rALin,eid];done)|rfl) ?_|refine call_of (ks_AddScaled o (l.Coeffs[i]'hir) (args[i]'hi)) (by first|(simp [rALin,eid];done)|rfl) ?_
       rintro r rfl
       cases ho:addScaled o l.Coeffs[i] args[i]
       · rw [ho] at hJ
         simp [optLin,lin0,rULin,hk,s8,hi,e0,e1,e3,n0,n1,n3,n3',z0,z2]
         refine hret _ _ _ ?_
         simp [hk,←hJ,optLin,lin0,rULin,intsR]
       · rename_i o'
         rw [ho] at hJ
         simp only at hJ
         simp [optLin,rULin,hk,s8,hi,hw,e0,e1,e3,n0,n1,n3,n3',z0,z2]
         exact hR _ _ _ (by simp [hk]) (by simp) ⟨by simp [e0,n0],by simp [e1,n1,z0],by omega,o',n,by simp,by simp [n3'],by omega,by omega,hJ⟩
     · skip
       first|refine callD_of (ks_AddScaled o (l.Coeffs[i]'hir) (args[i]'hi)) (by first|(simp [rALin,eid,mid,nid];done)|rfl) ?_|refine call_of (ks_AddScaled o (l.Coeffs[i]'hir) (args[i]'hi)) (by first|(simp [rALin,eid,mid,nid];done)|rfl) ?_
       rintro r rfl
       cases ho:addScaled o l.Coeffs[i] args[i]
       · rw [ho] at hJ
         simp [optLin,lin0,rULin,hk,s8,hi,e0,e1,e3,n0,n1,n3,n3',z0,z2]
         refine hret _ _ _ ?_
         simp [hk,←hJ,optLin,lin0,rULin,intsR]
       · rename_i o'
         rw [ho] at hJ
         simp only at hJ
         simp [optLin,rULin,hk,s8,hi,hw,e0,e1,e3,n0,n1,n3,n3',z0,z2]
         exact hR _ _ _ (by simp [hk]) (by simp) ⟨by simp [e0,n0],by simp [e1,n1,z0],by omega,o',n+1,by simp,by simp [z2],by omega,by omega,hJ⟩
   · rintro s h n R hk s8 ⟨e0,e1,hn,o,id,e3,eid,hidn,hid,hJ⟩ hret hX
     simp at hk
     rw [List.drop_eq_nil_of_le (by omega)] at hJ
     simp only [goInst] at hJ
     simp [hk,s8]
     intro _
     refine hX _ _ _ _ ?_
     have i1:¬1=id:=by omega
     have i1':¬id=1:=by omega
     simp [hk,e1,e3,eid,←hJ,optLin,rULin,i1,i1']
theorem goInst_len:∀ (l:List (Int×DLin)) (o r:DLin),goInst l o=some r→r.Coeffs.length=o.Coeffs.length
 | [],o,r,h=>by cases h; rfl
 | p::l,o,r,h=>by
   simp only [goInst] at h
   split at h
   · rename_i o' ho
     rw [goInst_len l o' r h,(addScaled_some ho).1]
   · cases h
theorem constLin_len (c:Int) (n:Int):(constLin c n).Coeffs.length≤8:=by
 unfold constLin
 split
 · rename_i h
   simp [inR] at h
   simp; omega
 · simp
theorem instLin_c (l:DLin) (args:List DLin):cLin ((instLin l args).getD lin0)≤8:=by
 unfold cLin
 rw [cIntS_len]
 cases h:instLin l args with
 | none=>simp [lin0]
 | some r=>
   unfold instLin at h
   split at h
   · simp [goInst_len _ _ _ h,constLin_len]
   · cases h
end Go.Proofs.YtilcageplifbgaaGreat

namespace Go.Proofs.YtilcageplifbgaaGreat
set_option linter.all false
open Go Go.RowKit Go.Proofs
def a104:AFn:=
⟨32,[(.c 4 true 2),.t 5],(.seq
 (.reg [⟨some 2,.boxv (.t 0),no⟩,⟨some 4,.box [(.int .i64 0),(.nil 1)],no⟩,⟨some 5,.mv (.k (.bool false)),no⟩]) (.seq
 (.reg [⟨some 10,.fld 0 (.t 2),no⟩,⟨some 11,.ld false 1 (.t 10),no⟩,⟨some 12,.mv (.t 1),no⟩,⟨some 13,.call (.k (.fn (.func 185) [] [])) [.t 11,.t 12],no⟩,⟨some 9,.mv (.t 13),no⟩,⟨some 14,.ext (.t 9) 0,no⟩,⟨some 15,.ext (.t 9) 1,no⟩,⟨some 6,.mv (.t 14),no⟩,⟨some 7,.mv (.t 15),no⟩]) (.seq (.seq
 (.reg [⟨some 16,.mv (.t 7),no⟩,⟨some 17,.un .not (.t 16),no⟩,⟨some 18,.mv (.t 17),no⟩,⟨some 19,.ld true 2 (.t 2),(some (18,false))⟩,⟨some 20,.fld 1 (.t 2),(some (18,false))⟩,⟨some 21,.ld false 1 (.t 20),(some (18,false))⟩,⟨some 22,.len false (.t 21),(some (18,false))⟩,⟨some 23,.call (.k (.fn (.func 155) [] [])) [.t 19,.t 22],(some (18,false))⟩,⟨some 24,.un .not (.t 23),(some (18,false))⟩,⟨some 25,.pick (.t 18) (.k (.bool true)) (.t 24),no⟩]) (.cond (.t 25) (.seq
 (.reg [⟨some 26,.build [(.int .i64 0),(.nil 1)] [],no⟩,⟨no,.st 2 (.t 4) (.t 26),no⟩,⟨some 5,.mv (.k (.bool false)),no⟩]) .ret) .skip)) (.seq
 (.reg [⟨some 27,.ld true 2 (.t 2),no⟩,⟨some 28,.call (.k (.fn (.func 91) [] [])) [.t 27],no⟩,⟨some 8,.box [(.int .i64 0),(.nil 1)],no⟩,⟨no,.st 2 (.t 8) (.t 28),no⟩]) (.seq
 (.reg [⟨some 29,.mv (.t 6),no⟩,⟨some 30,.fld 0 (.t 8),no⟩,⟨no,.st 1 (.t 30) (.t 29),no⟩]) (.seq
 (.reg [⟨some 31,.ld true 2 (.t 8),no⟩,⟨no,.st 2 (.t 4) (.t 31),no⟩,⟨some 5,.mv (.k (.bool true)),no⟩]) .ret))))))⟩
theorem a104_ok:compFn Tryz.prog Tryz.f104=some a104:=by kernel_rfl
def plusL (l:DLin) (k:Int):Option DLin:=if (addL l.Const k).2&&okLin l l.Coeffs.length then some ⟨(addL l.Const k).1,l.Coeffs⟩ else Option.none
theorem k_plus (l:DLin) (k:Int):Holds Tryz.prog 104 [.agg (rALin l),i64 k] (fun r=>r=optLin (plusL l k)):=by
 refine holds_of_run Tryz.func104 a104_ok rfl (by simp [a104]) ?_
 simp [a104,rALin]
 first|refine callD_of (k_AddLimited l.Const k) (by first|(simp;done)|rfl) ?_|refine call_of (k_AddLimited l.Const k) (by first|(simp;done)|rfl) ?_
 rintro r rfl
 simp [pairA]
 unfold plusL
 cases h1:(addL l.Const k).2
 · simp [optLin,lin0,rULin,intsR]
 simp
 intro _
 first|refine callD_of (k_IsValidLin l l.Coeffs.length) (by first|(simp [rALin];done)|rfl) ?_|refine call_of (k_IsValidLin l l.Coeffs.length) (by first|(simp [rALin];done)|rfl) ?_
 rintro r rfl
 cases h2:okLin l l.Coeffs.length
 · simp [optLin,lin0,rULin,intsR]
 simp
 have hl:=okLin_len h2
 first|refine callD_of (k_copyLin l (by omega)) (by first|(simp [rALin,rULin,optLin];done)|rfl) ?_|refine call_of (k_copyLin l (by omega)) (by first|(simp [rALin,rULin,optLin];done)|rfl) ?_
 rintro r rfl
 simp [rALin,rULin,optLin]
end Go.Proofs.YtilcageplifbgaaGreat

namespace Go.Proofs.YtilcageplifbgaaGreat
set_option linter.all false
open Go Go.RowKit Go.Proofs
def a101:AFn:=
⟨29,[(.c 6 true 2),.t 7],(.seq
 (.reg [⟨some 3,.boxv (.t 0),no⟩,⟨some 6,.box [(.int .i64 0),(.nil 1)],no⟩,⟨some 7,.mv (.k (.bool false)),no⟩]) (.seq (.seq
 (.reg [⟨some 8,.mv (.t 1),no⟩,⟨some 9,.len false (.t 8),no⟩,⟨some 10,.bin .gtr (.t 9) (.k (.int .i64 0)),no⟩]) (.cond (.t 10) (.seq
 (.reg [⟨some 11,.ld true 2 (.t 3),no⟩,⟨some 12,.mv (.t 1),no⟩,⟨some 13,.call (.k (.fn (.func 182) [] [])) [.t 11,.t 12],no⟩,⟨some 14,.ext (.t 13) 0,no⟩,⟨some 15,.ext (.t 13) 1,no⟩,⟨no,.st 2 (.t 6) (.t 14),no⟩,⟨some 7,.mv (.t 15),no⟩]) .ret) .skip)) (.seq (.seq
 (.reg [⟨some 16,.ld true 2 (.t 3),no⟩,⟨some 17,.call (.k (.fn (.func 155) [] [])) [.t 16,(.k (.int .i64 0))],no⟩,⟨some 18,.un .not (.t 17),no⟩,⟨some 19,.mv (.t 18),no⟩,⟨some 20,.mv (.t 2),(some (19,false))⟩,⟨some 21,.call (.k (.fn (.func 98) [] [])) [.t 20,(.k (.int .i64 0)),(.k (.int .i64 8))],(some (19,false))⟩,⟨some 22,.un .not (.t 21),(some (19,false))⟩,⟨some 23,.pick (.t 19) (.k (.bool true)) (.t 22),no⟩]) (.cond (.t 23) (.seq
 (.reg [⟨some 24,.build [(.int .i64 0),(.nil 1)] [],no⟩,⟨no,.st 2 (.t 6) (.t 24),no⟩,⟨some 7,.mv (.k (.bool false)),no⟩]) .ret) .skip)) (.seq
 (.reg [⟨some 25,.fld 0 (.t 3),no⟩,⟨some 26,.ld false 1 (.t 25),no⟩,⟨some 27,.mv (.t 2),no⟩,⟨some 28,.call (.k (.fn (.func 103) [] [])) [.t 26,.t 27],no⟩,⟨no,.st 2 (.t 6) (.t 28),no⟩,⟨some 7,.mv (.k (.bool true)),no⟩]) .ret))))⟩
theorem a101_ok:compFn Tryz.prog Tryz.f101=some a101:=by kernel_rfl
def a186:AFn:=
⟨36,[(.c 6 true 2),.t 7],(.seq
 (.reg [⟨some 3,.boxv (.t 0),no⟩,⟨some 4,.boxv (.t 1),no⟩,⟨some 6,.box [(.int .i64 0),(.nil 1)],no⟩,⟨some 7,.mv (.k (.bool false)),no⟩]) (.seq (.seq
 (.reg [⟨some 9,.mv (.t 2),no⟩,⟨some 10,.len false (.t 9),no⟩,⟨some 11,.bin .gtr (.t 10) (.k (.int .i64 0)),no⟩]) (.cond (.t 11) (.seq
 (.reg [⟨some 12,.ld true 2 (.t 4),no⟩,⟨some 13,.mv (.t 2),no⟩,⟨some 14,.call (.k (.fn (.func 251) [] [])) [.t 12,.t 13],no⟩,⟨some 15,.ext (.t 14) 0,no⟩,⟨some 16,.ext (.t 14) 1,no⟩,⟨no,.st 2 (.t 6) (.t 15),no⟩,⟨some 7,.mv (.t 16),no⟩]) .ret) .skip)) (.seq
 (.reg [⟨some 17,.fld 0 (.t 4),no⟩,⟨some 18,.ld false 1 (.t 17),no⟩,⟨some 19,.fld 0 (.t 3),no⟩,⟨some 20,.fld 0 (.t 19),no⟩,⟨some 21,.ld false 1 (.t 20),no⟩,⟨some 22,.call (.k (.fn (.func 114) [] [])) [.t 18,.t 21],no⟩,⟨some 8,.box [(.int .i64 0),(.nil 1)],no⟩,⟨no,.st 2 (.t 8) (.t 22),no⟩]) (.seq (.seq
 (.reg [⟨some 23,.ld true 2 (.t 4),no⟩,⟨some 24,.call (.k (.fn (.func 191) [] [])) [.t 23,(.k (.int .i64 0))],no⟩,⟨some 25,.un .not (.t 24),no⟩,⟨some 26,.mv (.t 25),no⟩,⟨some 27,.ld true 2 (.t 8),(some (26,false))⟩,⟨some 28,.fld 0 (.t 3),(some (26,false))⟩,⟨some 29,.fld 0 (.t 28),(some (26,false))⟩,⟨some 30,.ld false 1 (.t 29),(some (26,false))⟩,⟨some 31,.call (.k (.fn (.func 191) [] [])) [.t 27,.t 30],(some (26,false))⟩,⟨some 32,.un .not (.t 31),(some (26,false))⟩,⟨some 33,.pick (.t 26) (.k (.bool true)) (.t 32),no⟩]) (.cond (.t 33) (.seq
 (.reg [⟨some 34,.build [(.int .i64 0),(.nil 1)] [],no⟩,⟨no,.st 2 (.t 6) (.t 34),no⟩,⟨some 7,.mv (.k (.bool false)),no⟩]) .ret) .skip)) (.seq
 (.reg [⟨some 35,.ld true 2 (.t 8),no⟩,⟨no,.st 2 (.t 6) (.t 35),no⟩,⟨some 7,.mv (.k (.bool true)),no⟩]) .ret)))))⟩
theorem a186_ok:compFn Tryz.prog Tryz.f186=some a186:=by kernel_rfl
def a118:AFn:=
⟨28,[(.c 6 true 2),.t 7],(.seq
 (.reg [⟨some 3,.boxv (.t 0),no⟩,⟨some 4,.boxv (.t 1),no⟩,⟨some 6,.box [(.int .i64 0),(.nil 1)],no⟩,⟨some 7,.mv (.k (.bool false)),no⟩]) (.seq (.seq
 (.reg [⟨some 8,.mv (.t 2),no⟩,⟨some 9,.fld 3 (.t 3),no⟩,⟨some 10,.ld false 1 (.t 9),no⟩,⟨some 11,.len false (.t 10),no⟩,⟨some 12,.bin .sub (.t 11) (.k (.int .i64 1)),no⟩,⟨some 13,.call (.k (.fn (.func 98) [] [])) [.t 8,(.k (.int .i64 0)),.t 12],no⟩,⟨some 14,.un .not (.t 13),no⟩]) (.cond (.t 14) (.seq
 (.reg [⟨some 15,.build [(.int .i64 0),(.nil 1)] [],no⟩,⟨no,.st 2 (.t 6) (.t 15),no⟩,⟨some 7,.mv (.k (.bool false)),no⟩]) .ret) .skip)) (.seq (.draw (.op ⟨some 16,.ld true 2 (.t 4),no⟩ (.op ⟨some 17,.fld 3 (.t 3),no⟩ (.op ⟨some 18,.ld false 1 (.t 17),no⟩ (.op ⟨some 19,.mv (.t 2),no⟩ (.op ⟨some 20,.ixa 1 (.t 18) (.t 19),no⟩ (.op ⟨some 21,.ld false 1 (.t 20),no⟩ (.op ⟨some 22,.fld 0 (.t 3),no⟩ (.op ⟨some 23,.fld 0 (.t 22),no⟩ (.op ⟨some 24,.ld false 1 (.t 23),no⟩ (.op ⟨some 25,.call (.k (.fn (.func 101) [] [])) [.t 16,.t 21,.t 24],no⟩ (.op ⟨some 26,.ext (.t 25) 0,no⟩ (.op ⟨some 27,.ext (.t 25) 1,no⟩ (.hop ⟨no,.st 2 (.t 6) (.t 26),no⟩ [] (.op ⟨some 7,.mv (.t 27),no⟩ .fin))))))))))))))) .ret)))⟩
theorem a118_ok:compFn Tryz.prog Tryz.f118=some a118:=by kernel_rfl
def a113:AFn:=
⟨26,[(.c 6 true 2),.t 7],(.seq
 (.reg [⟨some 3,.boxv (.t 0),no⟩,⟨some 4,.boxv (.t 1),no⟩,⟨some 6,.box [(.int .i64 0),(.nil 1)],no⟩,⟨some 7,.mv (.k (.bool false)),no⟩]) (.seq (.seq
 (.reg [⟨some 8,.mv (.t 2),no⟩,⟨some 9,.fld 3 (.t 3),no⟩,⟨some 10,.ld false 1 (.t 9),no⟩,⟨some 11,.len false (.t 10),no⟩,⟨some 12,.bin .sub (.t 11) (.k (.int .i64 1)),no⟩,⟨some 13,.call (.k (.fn (.func 96) [] [])) [.t 8,(.k (.int .i64 0)),.t 12],no⟩,⟨some 14,.un .not (.t 13),no⟩]) (.cond (.t 14) (.seq
 (.reg [⟨some 15,.build [(.int .i64 0),(.nil 1)] [],no⟩,⟨no,.st 2 (.t 6) (.t 15),no⟩,⟨some 7,.mv (.k (.bool false)),no⟩]) .ret) .skip)) (.seq (.draw (.op ⟨some 16,.ld true 6 (.t 3),no⟩ (.op ⟨some 17,.ld true 2 (.t 4),no⟩ (.op ⟨some 18,.fld 3 (.t 3),no⟩ (.op ⟨some 19,.ld false 1 (.t 18),no⟩ (.op ⟨some 20,.mv (.t 2),no⟩ (.op ⟨some 21,.ixa 1 (.t 19) (.t 20),no⟩ (.op ⟨some 22,.ld false 1 (.t 21),no⟩ (.op ⟨some 23,.call (.k (.fn (.func 186) [] [])) [.t 16,.t 17,.t 22],no⟩ (.op ⟨some 24,.ext (.t 23) 0,no⟩ (.op ⟨some 25,.ext (.t 23) 1,no⟩ (.hop ⟨no,.st 2 (.t 6) (.t 24),no⟩ [] (.op ⟨some 7,.mv (.t 25),no⟩ .fin))))))))))))) .ret)))⟩
theorem a113_ok:compFn Tryz.prog Tryz.f113=some a113:=by kernel_rfl
def placeLin (l:DLin) (args:List DLin) (n:Int):Option DLin:=
 if 0<args.length then instLin l args else if okLin l 0&&inR n 0 8 then some (constLin l.Const n) else Option.none
def transp (m:DModel) (l:DLin) (call:Int):Option DLin:=
 if inR call 0 ((m.Args.length:Int) - 1) then placeLin l (m.Args.getD call.toNat []) m.System.N else Option.none
set_option maxRecDepth 20000 in
theorem k_instantiated (l:DLin) (args:List DLin) (n:Int):Holds Tryz.prog 101 [.agg (rALin l),.sl 2 (args.map rALin),i64 n] (fun r=>r=optLin (placeLin l args n)):=by
 refine holds_of_run Tryz.func101 a101_ok rfl (by simp [a101]) ?_
 simp [a101,rALin]
 unfold placeLin
 intro _
 by_cases h:0<args.length
 · have hne:¬args=[]:=by rintro rfl; simp at h
   simp [h,hne]
   first|refine callD_of (k_InstantiateLin l args) (by first|(simp [rALin];done)|rfl) ?_|refine call_of (k_InstantiateLin l args) (by first|(simp [rALin];done)|rfl) ?_
   rintro r rfl
   simp [optLin_eq,rULin]
 have hne:args=[]:=List.eq_nil_of_length_eq_zero (by omega)
 subst hne
 simp
 first|refine callD_of (k_IsValidLin l 0) (by first|(simp [rALin];done)|rfl) ?_|refine call_of (k_IsValidLin l 0) (by first|(simp [rALin];done)|rfl) ?_
 rintro r rfl
 cases h1:okLin l 0
 · simp [optLin,lin0,rULin,intsR]
 simp
 first|refine callD_of (k_within n 0 8) (by first|(simp;done)|rfl) ?_|refine call_of (k_within n 0 8) (by first|(simp;done)|rfl) ?_
 rintro r rfl
 cases h2:inR n 0 8
 · simp [optLin,lin0,rULin,intsR]
 simp
 first|refine callD_of (k_ConstLin l.Const n) (by first|(simp;done)|rfl) ?_|refine call_of (k_ConstLin l.Const n) (by first|(simp;done)|rfl) ?_
 rintro r rfl
 simp [optLin,rULin]
set_option maxRecDepth 20000 in
theorem ks_l15Place (m:DModel) (l:DLin) (args:List DLin):Holds Tryz.prog 186 [.agg (rAModel m),.agg (rALin l),.sl 2 (args.map rALin)] (fun r=>r=optLin (placeLin l args m.System.N)):=by
 refine holds_of_run Tryz.func186 a186_ok rfl (by simp [a186]) ?_
 simp [a186,rALin,rAModel]
 unfold placeLin
 intro _
 by_cases h:0<args.length
 · have hne:¬args=[]:=by rintro rfl; simp at h
   simp [h,hne]
   first|refine callD_of (ks_InstantiateLin l args) (by first|(simp [rALin];done)|rfl) ?_|refine call_of (ks_InstantiateLin l args) (by first|(simp [rALin];done)|rfl) ?_
   rintro r rfl
   simp [optLin_eq,rULin]
 have hne:args=[]:=List.eq_nil_of_length_eq_zero (by omega)
 subst hne
 simp
 first|refine callD_of (ks_ConstLin l.Const m.System.N) (by first|(simp;done)|rfl) ?_|refine call_of (ks_ConstLin l.Const m.System.N) (by first|(simp;done)|rfl) ?_
 rintro r rfl
 simp [rULin]
 first|refine callD_of (ks_IsValidLin l 0) (by first|(simp [rALin];done)|rfl) ?_|refine call_of (ks_IsValidLin l 0) (by first|(simp [rALin];done)|rfl) ?_
 rintro r rfl
 cases h1:okLin l 0
 · simp [optLin,lin0,rULin,intsR]
 simp
 first|refine callD_of (ks_IsValidLin (constLin l.Const m.System.N) m.System.N) (by first|(simp [rALin];done)|rfl) ?_|refine call_of (ks_IsValidLin (constLin l.Const m.System.N) m.System.N) (by first|(simp [rALin];done)|rfl) ?_
 rintro r rfl
 have hv:okLin (constLin l.Const m.System.N) m.System.N=inR m.System.N 0 8:=by
   cases h2:inR m.System.N 0 8
   · simp [okLin,h2]
   · have h3:0≤m.System.N∧m.System.N≤8:=by simpa [inR] using h2
     have:=(constLin_ok (n:=m.System.N.toNat) (okLin_c h1) (by omega)).2
     rwa [show ((m.System.N.toNat:Nat):Int)=m.System.N by omega] at this
 rw [hv]
 cases h2:inR m.System.N 0 8
 · simp [optLin,lin0,rULin,intsR]
 simp [optLin,rULin]
set_option maxRecDepth 20000 in
theorem k_Transport (m:DModel) (l:DLin) (call:Int):Holds Tryz.prog 118 [.agg (rAModel m),.agg (rALin l),i64 call] (fun r=>r=optLin (transp m l call)):=by
 refine holds_of_lim Tryz.func118 rfl rfl fun hlm => ?_
 simp [rALin,rAModel] at hlm
 refine holds_of_run Tryz.func118 a118_ok rfl (by simp [a118]) ?_
 simp [a118,rALin,rAModel]
 intro hl
 unfold LIM at hl
 rw [wrap64 (by omega)]
 unfold transp
 first|refine callD_of (k_within call 0 ((m.Args.length:Int) - 1)) (by first|(simp;done)|rfl) ?_|refine call_of (k_within call 0 ((m.Args.length:Int) - 1)) (by first|(simp;done)|rfl) ?_
 rintro r rfl
 cases h1:inR call 0 ((m.Args.length:Int) - 1)
 · simp [optLin,lin0,rULin,intsR]
 have hc:0≤call∧call≤(m.Args.length:Int) - 1:=by simpa [inR] using h1
 obtain ⟨c,rfl⟩:∃ c:Nat,call=c:=⟨call.toNat,by omega⟩
 have hcl:c<m.Args.length:=by omega
 simp [hcl,rALinS]
 first|refine callD_of (k_instantiated l (m.Args[c]'hcl) m.System.N) (by first|(simp [rALin];done)|rfl) ?_|refine call_of (k_instantiated l (m.Args[c]'hcl) m.System.N) (by first|(simp [rALin];done)|rfl) ?_
 rintro r rfl
 simp [optLin_eq,rULin]
set_option maxRecDepth 20000 in
theorem ks_Transport (m:DModel) (l:DLin) (call:Int):Holds Tryz.prog 113 [.agg (rAModel m),.agg (rALin l),i64 call] (fun r=>r=optLin (transp m l call)):=by
 refine holds_of_lim Tryz.func113 rfl rfl fun hlm => ?_
 simp [rALin,rAModel] at hlm
 refine holds_of_run Tryz.func113 a113_ok rfl (by simp [a113]) ?_
 simp [a113,rALin,rAModel]
 intro hl
 unfold LIM at hl
 rw [wrap64 (by omega)]
 unfold transp
 first|refine callD_of (k_l1In call 0 ((m.Args.length:Int) - 1)) (by first|(simp;done)|rfl) ?_|refine call_of (k_l1In call 0 ((m.Args.length:Int) - 1)) (by first|(simp;done)|rfl) ?_
 rintro r rfl
 cases h1:inR call 0 ((m.Args.length:Int) - 1)
 · simp [optLin,lin0,rULin,intsR]
 have hc:0≤call∧call≤(m.Args.length:Int) - 1:=by simpa [inR] using h1
 obtain ⟨c,rfl⟩:∃ c:Nat,call=c:=⟨call.toNat,by omega⟩
 have hcl:c<m.Args.length:=by omega
 simp [hcl,rALinS]
 first|refine callD_of (ks_l15Place m l (m.Args[c]'hcl)) (by first|(simp [rALin,rAModel];done)|rfl) ?_|refine call_of (ks_l15Place m l (m.Args[c]'hcl)) (by first|(simp [rALin,rAModel];done)|rfl) ?_
 rintro r rfl
 simp [optLin_eq,rULin]
theorem placeLin_c (l:DLin) (args:List DLin) (n:Int):cLin ((placeLin l args n).getD lin0)≤8:=by
 unfold placeLin
 split
 · exact instLin_c l args
 · split
   · unfold cLin; rw [cIntS_len]; exact constLin_len _ _
   · unfold cLin; rw [cIntS_len]; simp [lin0]
theorem transp_c (m:DModel) (l:DLin) (call:Int):cLin ((transp m l call).getD lin0)≤8:=by
 unfold transp
 split
 · exact placeLin_c _ _ _
 · unfold cLin; rw [cIntS_len]; simp [lin0]
end Go.Proofs.YtilcageplifbgaaGreat

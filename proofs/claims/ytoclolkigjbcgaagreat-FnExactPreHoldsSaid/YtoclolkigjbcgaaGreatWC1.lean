/- Contracts: whole numbers within limits, linear expressions. -/
import Derived.Test.YtoclolkigjbcgaaGreatWT1
import Derived.Test.YtoclolkigjbcgaaGreatProg
namespace Go.Proofs.YtoclolkigjbcgaaGreat
set_option maxRecDepth 40000
set_option maxHeartbeats 4000000
open Go Go.RowKit Go.Proofs
set_option linter.all false
def a102:AFn:= ⟨15,[.t 6],(.seq (.reg [Zo 6 (.mv (.k (.bool false)))]) (.seq (.reg [Zv 7 0,Zv 8 1,Zo 9 (.bin .geq (.t 7) (.t 8)),Zv 10 9,⟨some 11,.mv (.t 0),(some (10,true))⟩,⟨some 12,.mv (.t 2),(some (10,true))⟩,⟨some 13,.bin .leq (.t 11) (.t 12),(some (10,true))⟩,Zo 14 (.pick (.t 10) (.t 13) (.k (.bool false))),Zv 6 14]) .ret))⟩
theorem a102_ok:J0a Tryz.prog Tryz.f102=some a102:=by kernel_rfl
def a232:AFn:= ⟨5,[.t 2],(.seq (.reg [Zo 2 (.mv (.k (.bool false)))]) (.seq (.reg [Zv 3 0,Zc 4 102 [.t 3,(.k (.int .i64 (-1000000000))),(.k (.int .i64 1000000000))],Zv 2 4]) .ret))⟩
theorem a232_ok:J0a Tryz.prog Tryz.f232=some a232:=by kernel_rfl
def a183:AFn:= ⟨15,[.t 6],(.seq (.reg [Zo 6 (.mv (.k (.bool false)))]) (.seq (.reg [Zv 7 0,Zv 8 1,Zo 9 (.bin .geq (.t 7) (.t 8)),Zv 10 9,⟨some 11,.mv (.t 0),(some (10,true))⟩,⟨some 12,.mv (.t 2),(some (10,true))⟩,⟨some 13,.bin .leq (.t 11) (.t 12),(some (10,true))⟩,Zo 14 (.pick (.t 10) (.t 13) (.k (.bool false))),Zv 6 14]) .ret))⟩
theorem a183_ok:J0a Tryz.prog Tryz.f183=some a183:=by kernel_rfl
def a181:AFn:= ⟨5,[.t 2],(.seq (.reg [Zo 2 (.mv (.k (.bool false)))]) (.seq (.reg [Zv 3 0,Zc 4 183 [.t 3,(.k (.int .i64 (-1000000000))),(.k (.int .i64 1000000000))],Zv 2 4]) .ret))⟩
theorem a181_ok:J0a Tryz.prog Tryz.f181=some a181:=by kernel_rfl
def a271:AFn:= ⟨24,[.t 4,.t 5],(.seq (.reg [Zo 4 (.mv (.k (.int .i64 0))),Zo 5 (.mv (.k (.bool false)))]) (.seq (.seq (.reg [Zv 6 0,Zc 7 232 [.t 6],Zo 8 (.un .not (.t 7)),Zv 9 8,⟨some 10,.mv (.t 1),(some (9,false))⟩,⟨some 11,.call (.k (.fn (.func 232) [] [])) [.t 10],(some (9,false))⟩,⟨some 12,.un .not (.t 11),(some (9,false))⟩,Zo 13 (.pick (.t 9) (.k (.bool true)) (.t 12)),Zv 14 13,⟨some 15,.mv (.t 0),(some (14,false))⟩,⟨some 16,.mv (.t 1),(some (14,false))⟩,⟨some 17,.bin .add (.t 15) (.t 16),(some (14,false))⟩,⟨some 18,.call (.k (.fn (.func 232) [] [])) [.t 17],(some (14,false))⟩,⟨some 19,.un .not (.t 18),(some (14,false))⟩,Zo 20 (.pick (.t 14) (.k (.bool true)) (.t 19))]) (.cond (.t 20) (.seq (.reg [Zo 4 (.mv (.k (.int .i64 0))),Zo 5 (.mv (.k (.bool false)))]) .ret) .skip)) (.seq (.reg [Zv 21 0,Zv 22 1,Zo 23 (.bin .add (.t 21) (.t 22)),Zv 4 23,Zo 5 (.mv (.k (.bool true)))]) .ret)))⟩
theorem a271_ok:J0a Tryz.prog Tryz.f271=some a271:=by kernel_rfl
def a308:AFn:= ⟨24,[.t 4,.t 5],(.seq (.reg [Zo 4 (.mv (.k (.int .i64 0))),Zo 5 (.mv (.k (.bool false)))]) (.seq (.seq (.reg [Zv 6 0,Zc 7 232 [.t 6],Zo 8 (.un .not (.t 7)),Zv 9 8,⟨some 10,.mv (.t 1),(some (9,false))⟩,⟨some 11,.call (.k (.fn (.func 232) [] [])) [.t 10],(some (9,false))⟩,⟨some 12,.un .not (.t 11),(some (9,false))⟩,Zo 13 (.pick (.t 9) (.k (.bool true)) (.t 12)),Zv 14 13,⟨some 15,.mv (.t 0),(some (14,false))⟩,⟨some 16,.mv (.t 1),(some (14,false))⟩,⟨some 17,.bin .mul (.t 15) (.t 16),(some (14,false))⟩,⟨some 18,.call (.k (.fn (.func 232) [] [])) [.t 17],(some (14,false))⟩,⟨some 19,.un .not (.t 18),(some (14,false))⟩,Zo 20 (.pick (.t 14) (.k (.bool true)) (.t 19))]) (.cond (.t 20) (.seq (.reg [Zo 4 (.mv (.k (.int .i64 0))),Zo 5 (.mv (.k (.bool false)))]) .ret) .skip)) (.seq (.reg [Zv 21 0,Zv 22 1,Zo 23 (.bin .mul (.t 21) (.t 22)),Zv 4 23,Zo 5 (.mv (.k (.bool true)))]) .ret)))⟩
theorem a308_ok:J0a Tryz.prog Tryz.f308=some a308:=by kernel_rfl
def a264:AFn:= ⟨24,[.t 4,.t 5],(.seq (.reg [Zo 4 (.mv (.k (.int .i64 0))),Zo 5 (.mv (.k (.bool false)))]) (.seq (.seq (.reg [Zv 6 0,Zc 7 181 [.t 6],Zo 8 (.un .not (.t 7)),Zv 9 8,⟨some 10,.mv (.t 1),(some (9,false))⟩,⟨some 11,.call (.k (.fn (.func 181) [] [])) [.t 10],(some (9,false))⟩,⟨some 12,.un .not (.t 11),(some (9,false))⟩,Zo 13 (.pick (.t 9) (.k (.bool true)) (.t 12)),Zv 14 13,⟨some 15,.mv (.t 0),(some (14,false))⟩,⟨some 16,.mv (.t 1),(some (14,false))⟩,⟨some 17,.bin .add (.t 15) (.t 16),(some (14,false))⟩,⟨some 18,.call (.k (.fn (.func 181) [] [])) [.t 17],(some (14,false))⟩,⟨some 19,.un .not (.t 18),(some (14,false))⟩,Zo 20 (.pick (.t 14) (.k (.bool true)) (.t 19))]) (.cond (.t 20) (.seq (.reg [Zo 4 (.mv (.k (.int .i64 0))),Zo 5 (.mv (.k (.bool false)))]) .ret) .skip)) (.seq (.reg [Zv 21 0,Zv 22 1,Zo 23 (.bin .add (.t 21) (.t 22)),Zv 4 23,Zo 5 (.mv (.k (.bool true)))]) .ret)))⟩
theorem a264_ok:J0a Tryz.prog Tryz.f264=some a264:=by kernel_rfl
def a263:AFn:= ⟨24,[.t 4,.t 5],(.seq (.reg [Zo 4 (.mv (.k (.int .i64 0))),Zo 5 (.mv (.k (.bool false)))]) (.seq (.seq (.reg [Zv 6 0,Zc 7 181 [.t 6],Zo 8 (.un .not (.t 7)),Zv 9 8,⟨some 10,.mv (.t 1),(some (9,false))⟩,⟨some 11,.call (.k (.fn (.func 181) [] [])) [.t 10],(some (9,false))⟩,⟨some 12,.un .not (.t 11),(some (9,false))⟩,Zo 13 (.pick (.t 9) (.k (.bool true)) (.t 12)),Zv 14 13,⟨some 15,.mv (.t 0),(some (14,false))⟩,⟨some 16,.mv (.t 1),(some (14,false))⟩,⟨some 17,.bin .mul (.t 15) (.t 16),(some (14,false))⟩,⟨some 18,.call (.k (.fn (.func 181) [] [])) [.t 17],(some (14,false))⟩,⟨some 19,.un .not (.t 18),(some (14,false))⟩,Zo 20 (.pick (.t 14) (.k (.bool true)) (.t 19))]) (.cond (.t 20) (.seq (.reg [Zo 4 (.mv (.k (.int .i64 0))),Zo 5 (.mv (.k (.bool false)))]) .ret) .skip)) (.seq (.reg [Zv 21 0,Zv 22 1,Zo 23 (.bin .mul (.t 21) (.t 22)),Zv 4 23,Zo 5 (.mv (.k (.bool true)))]) .ret)))⟩
theorem a263_ok:J0a Tryz.prog Tryz.f263=some a263:=by kernel_rfl
def a274:AFn:= ⟨29,[.t 6,.t 7],(.seq (.reg [Zo 6 (.mv (.k (.int .i64 0))),Zo 7 (.mv (.k (.bool false)))]) (.seq (.reg [Zv 13 1,Zv 14 2,Zc 15 308 [.t 13,.t 14],Zv 12 15,Zo 16 (.ext (.t 12) 0),Zo 17 (.ext (.t 12) 1),Zv 8 16,Zv 9 17]) (.seq (.reg [Zv 19 0,Zv 20 8,Zc 21 271 [.t 19,.t 20],Zv 18 21,Zo 22 (.ext (.t 18) 0),Zo 23 (.ext (.t 18) 1),Zv 10 22,Zv 11 23]) (.seq (.reg [Zv 24 10,Zv 25 9,Zv 26 25,⟨some 27,.mv (.t 11),(some (26,true))⟩,Zo 28 (.pick (.t 26) (.t 27) (.k (.bool false))),Zv 6 24,Zv 7 28]) .ret))))⟩
theorem a274_ok:J0a Tryz.prog Tryz.f274=some a274:=by kernel_rfl
def a182:AFn:= ⟨23,[.t 6,.t 7],(.seq (.reg [Zo 6 (.mv (.k (.int .i64 0))),Zo 7 (.mv (.k (.bool false)))]) (.seq (.reg [Zv 11 1,Zv 12 2,Zc 13 263 [.t 11,.t 12],Zv 10 13,Zo 14 (.ext (.t 10) 0),Zo 15 (.ext (.t 10) 1),Zv 8 14,Zv 9 15]) (.seq (.seq (.reg [Zv 16 9,Zo 17 (.un .not (.t 16))]) (.cond (.t 17) (.seq (.reg [Zo 6 (.mv (.k (.int .i64 0))),Zo 7 (.mv (.k (.bool false)))]) .ret) .skip)) (.seq (.reg [Zv 18 0,Zv 19 8,Zc 20 264 [.t 18,.t 19],Zo 21 (.ext (.t 20) 0),Zo 22 (.ext (.t 20) 1),Zv 6 21,Zv 7 22]) .ret))))⟩
theorem a182_ok:J0a Tryz.prog Tryz.f182=some a182:=by kernel_rfl
def a234:AFn:= ⟨6,[.t 2],(.seq (.reg [Zo 2 (.mv (.k (.bool false)))]) (.seq (.reg [Zv 3 0,Zc 4 232 [.t 3],Zo 5 (.un .not (.t 4)),Zv 2 5]) .ret))⟩
theorem a234_ok:J0a Tryz.prog Tryz.f234=some a234:=by kernel_rfl
def a146:AFn:= ⟨25,[.t 4],(.seq (.reg [Zo 2 (.boxv (.t 0)),Zo 4 (.mv (.k (.bool false)))]) (.seq (.reg [Zv 5 1,Zc 6 102 [.t 5,(.k (.int .i64 0)),(.k (.int .i64 8))],Zv 7 6,⟨some 8,.fld 1 (.t 2),(some (7,true))⟩,⟨some 9,.ld false 1 (.t 8),(some (7,true))⟩,⟨some 10,.len false (.t 9),(some (7,true))⟩,⟨some 11,.mv (.t 1),(some (7,true))⟩,⟨some 12,.bin .eql (.t 10) (.t 11),(some (7,true))⟩,Zo 13 (.pick (.t 7) (.t 12) (.k (.bool false))),Zv 14 13,⟨some 15,.fld 0 (.t 2),(some (14,true))⟩,⟨some 16,.ld false 1 (.t 15),(some (14,true))⟩,⟨some 17,.call (.k (.fn (.func 232) [] [])) [.t 16],(some (14,true))⟩,Zo 18 (.pick (.t 14) (.t 17) (.k (.bool false))),Zv 19 18,⟨some 20,.fld 1 (.t 2),(some (19,true))⟩,⟨some 21,.ld false 1 (.t 20),(some (19,true))⟩,⟨some 22,.call (.k (.fn (.func 233) [] [])) [.t 21,(.k (.fn (.func 234) [] []))],(some (19,true))⟩,⟨some 23,.un .not (.t 22),(some (19,true))⟩,Zo 24 (.pick (.t 19) (.t 23) (.k (.bool false))),Zv 4 24]) .ret))⟩
theorem a146_ok:J0a Tryz.prog Tryz.f146=some a146:=by kernel_rfl
def a179:AFn:= ⟨34,[.t 4],(.seq (.reg [Zo 2 (.boxv (.t 0)),Zo 4 (.mv (.k (.bool false)))]) (.seq (.seq (.reg [Zo 5 (.mv (.k (.int .i64 0)))]) (.blk 0 (.loop (.seq (.seq (.reg [Zv 6 5,Zf 7 1 2,Zl 8 false 1 7,Zo 9 (.len false (.t 8)),Zo 10 (.bin .lss (.t 6) (.t 9))]) (.cond (.t 10) .skip (.exit 0))) (.seq (.blk 1 (.seq (.reg [Zf 13 1 2,Zl 14 false 1 13,Zv 15 5,Zo 16 (.ixa 1 (.t 14) (.t 15)),Zl 17 false 1 16,Zc 18 181 [.t 17],Zo 19 (.un .not (.t 18))]) (.cond (.t 19) (.seq (.reg [Zo 4 (.mv (.k (.bool false)))]) .ret) .skip))) (.reg [Zv 11 5,Zo 12 (.bin .add (.t 11) (.k (.int .i64 1))),Zv 5 12])))))) (.seq (.reg [Zv 20 1,Zc 21 183 [.t 20,(.k (.int .i64 0)),(.k (.int .i64 8))],Zv 22 21,⟨some 23,.fld 1 (.t 2),(some (22,true))⟩,⟨some 24,.ld false 1 (.t 23),(some (22,true))⟩,⟨some 25,.len false (.t 24),(some (22,true))⟩,⟨some 26,.mv (.t 1),(some (22,true))⟩,⟨some 27,.bin .eql (.t 25) (.t 26),(some (22,true))⟩,Zo 28 (.pick (.t 22) (.t 27) (.k (.bool false))),Zv 29 28,⟨some 30,.fld 0 (.t 2),(some (29,true))⟩,⟨some 31,.ld false 1 (.t 30),(some (29,true))⟩,⟨some 32,.call (.k (.fn (.func 181) [] [])) [.t 31],(some (29,true))⟩,Zo 33 (.pick (.t 29) (.t 32) (.k (.bool false))),Zv 4 33]) .ret)))⟩
theorem a179_ok:J0a Tryz.prog Tryz.f179=some a179:=by kernel_rfl
theorem a233_ok:J0a Tryz.prog Tryz.f233=some (J2r 292):=by kernel_rfl
theorem a292_ok:J0a Tryz.prog Tryz.f292=some (J3h false 1):=by kernel_rfl
def inR (n lo hi:Int):Bool:=decide (lo≤n∧n≤hi)
def okC (n:Int):Bool:=inR n (-1000000000) 1000000000
theorem J5m {n:Int} : okC n=true ↔ -1000000000≤n∧n≤1000000000:=by simp [okC,inR]
theorem Jow {x y:Int}(hx:okC x=true) (hy:okC y=true) : -1000000000000000000≤x*y∧x*y≤1000000000000000000:=by
 rw [J5m] at hx hy
 have h:(x*y).natAbs≤1000000000*1000000000:=by
  rw [Int.natAbs_mul];exact Nat.mul_le_mul (by omega) (by omega)
 omega
theorem J1v (n lo hi:Int):Holds Tryz.prog 102 [i64 n,i64 lo,i64 hi] (fun r=>r = .bool (inR n lo hi)):=by
 refine J02 Tryz.func102 a102_ok rfl (by simp [a102]) ?_
 simp [a102]
 constructor <;> intro h <;> simp [inR] <;> omega
theorem J1x (n:Int):Holds Tryz.prog 232 [i64 n] (fun r=>r = .bool (okC n)):=by
 refine J02 Tryz.func232 a232_ok rfl (by simp [a232]) ?_
 simp [a232]
 first|refine J00 (J1v n (-1000000000) 1000000000) (by first|simp;done|rfl) ?_|refine J01 (J1v n (-1000000000) 1000000000) (by first|simp;done|rfl) ?_
 rintro r rfl
 simp
 rfl
theorem J43 (n lo hi:Int):Holds Tryz.prog 183 [i64 n,i64 lo,i64 hi] (fun r=>r = .bool (inR n lo hi)):=by
 refine J02 Tryz.func183 a183_ok rfl (by simp [a183]) ?_
 simp [a183]
 constructor <;> intro h <;> simp [inR] <;> omega
theorem J3n (n:Int):Holds Tryz.prog 181 [i64 n] (fun r=>r = .bool (okC n)):=by
 refine J02 Tryz.func181 a181_ok rfl (by simp [a181]) ?_
 simp [a181]
 first|refine J00 (J43 n (-1000000000) 1000000000) (by first|simp;done|rfl) ?_|refine J01 (J43 n (-1000000000) 1000000000) (by first|simp;done|rfl) ?_
 rintro r rfl
 simp
 rfl
def Jcf (x y:Int):Int×Bool:=if okC x&&okC y&&okC (x+y) then (x+y,true) else (0,false)
def J63 (x y:Int):Int×Bool:=if okC x&&okC y&&okC (x*y) then (x*y,true) else (0,false)
def J2v (p:Int×Bool):AV := .tup [i64 p.1,.bool p.2]
theorem J6z (x y:Int):Holds Tryz.prog 271 [i64 x,i64 y] (fun r=>r=J2v (Jcf x y)):=by
 refine J02 Tryz.func271 a271_ok rfl (by simp [a271]) ?_
 simp [a271,J2v,Jcf]
 first|refine J00 (J1x x) (by first|simp;done|rfl) ?_|refine J01 (J1x x) (by first|simp;done|rfl) ?_
 rintro r rfl
 cases hx:okC x
 ·simp
 simp
 first|refine J00 (J1x y) (by first|simp;done|rfl) ?_|refine J01 (J1x y) (by first|simp;done|rfl) ?_
 rintro r rfl
 cases hy:okC y
 ·simp
 simp
 rw [J5m] at hx hy
 rw [J19 (by omega)]
 first|refine J00 (J1x (x+y)) (by first|simp;done|rfl) ?_|refine J01 (J1x (x+y)) (by first|simp;done|rfl) ?_
 rintro r rfl
 cases hz:okC (x+y)
 ·simp
 ·simp;exact J19 (by omega)
theorem J76 (x y:Int):Holds Tryz.prog 308 [i64 x,i64 y] (fun r=>r=J2v (J63 x y)):=by
 refine J02 Tryz.func308 a308_ok rfl (by simp [a308]) ?_
 simp [a308,J2v,J63]
 first|refine J00 (J1x x) (by first|simp;done|rfl) ?_|refine J01 (J1x x) (by first|simp;done|rfl) ?_
 rintro r rfl
 cases hx:okC x
 ·simp
 simp
 first|refine J00 (J1x y) (by first|simp;done|rfl) ?_|refine J01 (J1x y) (by first|simp;done|rfl) ?_
 rintro r rfl
 cases hy:okC y
 ·simp
 simp
 have:=Jow hx hy
 rw [J19 (by omega)]
 first|refine J00 (J1x (x*y)) (by first|simp;done|rfl) ?_|refine J01 (J1x (x*y)) (by first|simp;done|rfl) ?_
 rintro r rfl
 cases hz:okC (x*y)
 ·simp
 ·simp;exact J19 (by omega)
theorem J6d (x y:Int):Holds Tryz.prog 264 [i64 x,i64 y] (fun r=>r=J2v (Jcf x y)):=by
 refine J02 Tryz.func264 a264_ok rfl (by simp [a264]) ?_
 simp [a264,J2v,Jcf]
 first|refine J00 (J3n x) (by first|simp;done|rfl) ?_|refine J01 (J3n x) (by first|simp;done|rfl) ?_
 rintro r rfl
 cases hx:okC x
 ·simp
 simp
 first|refine J00 (J3n y) (by first|simp;done|rfl) ?_|refine J01 (J3n y) (by first|simp;done|rfl) ?_
 rintro r rfl
 cases hy:okC y
 ·simp
 simp
 rw [J5m] at hx hy
 rw [J19 (by omega)]
 first|refine J00 (J3n (x+y)) (by first|simp;done|rfl) ?_|refine J01 (J3n (x+y)) (by first|simp;done|rfl) ?_
 rintro r rfl
 cases hz:okC (x+y)
 ·simp
 ·simp;exact J19 (by omega)
theorem J4e (x y:Int):Holds Tryz.prog 263 [i64 x,i64 y] (fun r=>r=J2v (J63 x y)):=by
 refine J02 Tryz.func263 a263_ok rfl (by simp [a263]) ?_
 simp [a263,J2v,J63]
 first|refine J00 (J3n x) (by first|simp;done|rfl) ?_|refine J01 (J3n x) (by first|simp;done|rfl) ?_
 rintro r rfl
 cases hx:okC x
 ·simp
 simp
 first|refine J00 (J3n y) (by first|simp;done|rfl) ?_|refine J01 (J3n y) (by first|simp;done|rfl) ?_
 rintro r rfl
 cases hy:okC y
 ·simp
 simp
 have:=Jow hx hy
 rw [J19 (by omega)]
 first|refine J00 (J3n (x*y)) (by first|simp;done|rfl) ?_|refine J01 (J3n (x*y)) (by first|simp;done|rfl) ?_
 rintro r rfl
 cases hz:okC (x*y)
 ·simp
 ·simp;exact J19 (by omega)
def J4b (x k y:Int):Int×Bool:=((Jcf x (J63 k y).1).1,(J63 k y).2&&(Jcf x (J63 k y).1).2)
def J4w (x k y:Int):Int×Bool:=if (J63 k y).2 then Jcf x (J63 k y).1 else (0,false)
theorem J72 (x k y:Int):Holds Tryz.prog 274 [i64 x,i64 k,i64 y] (fun r=>r=J2v (J4b x k y)):=by
 refine J02 Tryz.func274 a274_ok rfl (by simp [a274]) ?_
 simp [a274]
 first|refine J00 (J76 k y) (by first|simp [J2v];done|rfl) ?_|refine J01 (J76 k y) (by first|simp [J2v];done|rfl) ?_
 rintro r rfl
 simp [J2v]
 first|refine J00 (J6z x (J63 k y).1) (by first|simp [J2v,J4b];done|rfl) ?_|refine J01 (J6z x (J63 k y).1) (by first|simp [J2v,J4b];done|rfl) ?_
 rintro r rfl
 simp [J2v,J4b]
 cases (J63 k y).2 <;> simp
theorem J4u (x k y:Int):Holds Tryz.prog 182 [i64 x,i64 k,i64 y] (fun r=>r=J2v (J4w x k y)):=by
 refine J02 Tryz.func182 a182_ok rfl (by simp [a182]) ?_
 simp [a182]
 first|refine J00 (J4e k y) (by first|simp [J2v,J4w];done|rfl) ?_|refine J01 (J4e k y) (by first|simp [J2v,J4w];done|rfl) ?_
 rintro r rfl
 simp [J2v,J4w]
 cases h:(J63 k y).2
 ·simp
 simp
 first|refine J00 (J6d x (J63 k y).1) (by first|simp [J2v];done|rfl) ?_|refine J01 (J6d x (J63 k y).1) (by first|simp [J2v];done|rfl) ?_
 rintro r rfl
 simp [J2v]
def J24 (x k y:Int):Option Int:=if (J63 k y).2&&(Jcf x (J63 k y).1).2 then some (Jcf x (J63 k y).1).1 else Option.none
theorem Je3 (x k y:Int):(J4b x k y).2=(J24 x k y).isSome:=by unfold J4b J24;split <;> simp_all
theorem Ja9 (x k y:Int):(J4w x k y).2=(J24 x k y).isSome:=by unfold J4w J24;cases (J63 k y).2 <;> simp;cases h:(Jcf x (J63 k y).1).2 <;> simp
theorem Jeb {x k y v:Int}(h:J24 x k y=some v):(J4b x k y).1=v:=by unfold J24 at h;unfold J4b;split at h <;> simp_all
theorem Jef {x k y v:Int}(h:J24 x k y=some v):(J4w x k y).1=v:=by unfold J24 at h;unfold J4w;split at h <;> simp_all
def J1c (l:DLin) (n:Int):Bool:=inR n 0 8&&decide ((l.Coeffs.length:Int)=n)&&okC l.Const&&l.Coeffs.all okC
theorem K0m (n:Int):Holds Tryz.prog 234 [i64 n] (fun r=>r = .bool (!okC n)):=by
 refine J02 Tryz.func234 a234_ok rfl (by simp [a234]) ?_
 simp [a234]
 first|refine J00 (J1x n) (by first|simp;done|rfl) ?_|refine J01 (J1x n) (by first|simp;done|rfl) ?_
 rintro r rfl
 simp
theorem J88 {α:Type}(p:α→Bool) (l:List α):l.any (fun x => !p x) = !l.all p:=by
 rw [List.all_eq_not_any_not,Bool.not_not]
theorem Jn7 {h:Heap}{n:Nat}{K:AV→Heap→Nat→Prop}(l:List Int) (hK:K (.bool (!l.all okC)) h n):J30 Tryz.prog 233 [.sl 1 (J0e l),.fn (.func 234) [] []] h n K:=
 J1e (p:=fun n => !okC n) (rowOf:=fun n=>[i64 n]) (eltOf:=i64) Tryz.func233 a233_ok rfl Tryz.func292 a292_ok rfl (fun x=>by simp) l
  (fun x _=>J4n (K0m x) rfl rfl) (by rw [J88];exact hK)
theorem J0z (l:DLin) (n:Int):Holds Tryz.prog 146 [.agg (J06 l),i64 n] (fun r=>r = .bool (J1c l n)):=by
 refine J02 Tryz.func146 a146_ok rfl (by simp [a146]) ?_
 simp [a146,J06]
 first|refine J00 (J1v n 0 8) (by first|simp;done|rfl) ?_|refine J01 (J1v n 0 8) (by first|simp;done|rfl) ?_
 rintro r rfl
 unfold J1c
 cases h1:inR n 0 8
 ·simp
 simp
 intro _
 by_cases h2:(l.Coeffs.length:Int)=n
 case neg=>simp [h2]
 simp [h2]
 first|refine J00 (J1x l.Const) (by first|simp;done|rfl) ?_|refine J01 (J1x l.Const) (by first|simp;done|rfl) ?_
 rintro r rfl
 cases h3:okC l.Const
 ·simp
 simp
 refine Jn7 l.Coeffs ?_
 simp
theorem J0p (l:DLin) (n:Int):Holds Tryz.prog 179 [.agg (J06 l),i64 n] (fun r=>r = .bool (J1c l n)):=by
 refine J1k Tryz.func179 rfl rfl fun hl => ?_
 simp [J06] at hl
 refine J02 Tryz.func179 a179_ok rfl (by simp [a179]) ?_
 simp [a179,J06]
 refine Jsy [1,2] 5 l.Coeffs.length (fun i _=>(l.Coeffs.drop i).all okC=l.Coeffs.all okC) hl (by simp) (by simp) ?_ ?_
 ·intro i s hi hg hk s5 hw hJ
  simp at hk
  rw [List.drop_eq_getElem_cons hi,List.all_cons] at hJ
  simp [hk,s5,hi,hg]
  intro _
  first|refine J00 (J3n _) (by simp) ?_|refine J01 (J3n _) (by simp) ?_|refine J00 (J3n _) rfl ?_|refine J01 (J3n _) rfl ?_
  rintro r rfl
  cases h1:okC l.Coeffs[i]
  ·have hJ:l.Coeffs.all okC=false:=by rw [←hJ,h1];rfl
   simp [hk,J1c,hJ]
  ·rw [h1,Bool.true_and] at hJ
   simp [hk,s5,hw]
   exact hJ
 ·intro s hk s5 hJ
  simp at hk hJ
  simp [hk,s5]
  intro _
  first|refine J00 (J43 n 0 8) (by first|simp;done|rfl) ?_|refine J01 (J43 n 0 8) (by first|simp;done|rfl) ?_
  rintro r rfl
  unfold J1c
  cases h1:inR n 0 8
  ·simp
  simp [hk]
  intro _
  by_cases h2:(l.Coeffs.length:Int)=n
  case neg=>simp [h2]
  simp [h2]
  first|refine J00 (J3n l.Const) (by first|simp;done|rfl) ?_|refine J01 (J3n l.Const) (by first|simp;done|rfl) ?_
  rintro r rfl
  cases h3:okC l.Const <;> simp
  exact hJ
def a178:AFn:= ⟨18,[(.c 4 true 2)],(.seq (.reg [Zo 4 (.box [(.int .i64 0),(.nil 1)])]) (.seq (.seq (.reg [Zv 5 1,Zc 6 102 [.t 5,(.k (.int .i64 0)),(.k (.int .i64 8))],Zo 7 (.un .not (.t 6)),Zv 8 7,⟨some 9,.mv (.t 0),(some (8,false))⟩,⟨some 10,.call (.k (.fn (.func 232) [] [])) [.t 9],(some (8,false))⟩,⟨some 11,.un .not (.t 10),(some (8,false))⟩,Zo 12 (.pick (.t 8) (.k (.bool true)) (.t 11))]) (.cond (.t 12) (.seq (.reg [Zo 13 (.build [(.int .i64 0),(.nil 1)] []),⟨no,.st 2 (.t 4) (.t 13),no⟩]) .ret) .skip)) (.seq (.reg [Zv 14 0,Zv 15 1,Zo 16 (.mks 8 [(.int .i64 0)] (.t 15) (.t 15)),Zo 17 (.build [(.int .i64 0),(.nil 1)] [(0,(1,(.t 14))),(1,(1,(.t 16)))]),⟨no,.st 2 (.t 4) (.t 17),no⟩]) .ret)))⟩
theorem a178_ok:J0a Tryz.prog Tryz.f178=some a178:=by kernel_rfl
def a99:AFn:= ⟨18,[(.c 4 true 2)],(.seq (.reg [Zo 4 (.box [(.int .i64 0),(.nil 1)])]) (.seq (.seq (.reg [Zv 5 1,Zc 6 183 [.t 5,(.k (.int .i64 0)),(.k (.int .i64 8))],Zo 7 (.un .not (.t 6)),Zv 8 7,⟨some 9,.mv (.t 0),(some (8,false))⟩,⟨some 10,.call (.k (.fn (.func 181) [] [])) [.t 9],(some (8,false))⟩,⟨some 11,.un .not (.t 10),(some (8,false))⟩,Zo 12 (.pick (.t 8) (.k (.bool true)) (.t 11))]) (.cond (.t 12) (.seq (.reg [Zo 13 (.build [(.int .i64 0),(.nil 1)] []),⟨no,.st 2 (.t 4) (.t 13),no⟩]) .ret) .skip)) (.seq (.reg [Zv 14 0,Zv 15 1,Zo 16 (.mks 8 [(.int .i64 0)] (.t 15) (.t 15)),Zo 17 (.build [(.int .i64 0),(.nil 1)] [(0,(1,(.t 14))),(1,(1,(.t 16)))]),⟨no,.st 2 (.t 4) (.t 17),no⟩]) .ret)))⟩
theorem a99_ok:J0a Tryz.prog Tryz.f99=some a99:=by kernel_rfl
def a166:AFn:= ⟨8,[.t 2],(.seq (.reg [Zo 2 (.mv (.k (.nil 1)))]) (.seq (.seq (.reg [Zv 3 0,Zo 4 (.inil false (.t 3))]) (.cond (.t 4) (.seq (.reg [Zo 2 (.mv (.k (.nil 1)))]) .ret) .skip)) (.seq (.reg [Zo 5 (.bsl 1 []),Zv 6 0,Zo 7 (.app 8 1 (.t 5) (.t 6)),Zv 2 7]) .ret)))⟩
theorem a166_ok:J0a Tryz.prog Tryz.f166=some a166:=by kernel_rfl
def a86:AFn:= ⟨9,[(.c 2 true 2)],(.seq (.reg [Zo 1 (.boxv (.t 0)),Zo 2 (.box [(.int .i64 0),(.nil 1)])]) (.seq (.draw (.op (Zf 3 0 1) (.op (Zl 4 false 1 3) (.op (Zf 5 1 1) (.op (Zl 6 false 1 5) (.op (Zc 7 166 [.t 6]) (.op (Zo 8 (.build [(.int .i64 0),(.nil 1)] [(0,(1,(.t 4))),(1,(1,(.t 7)))])) (.hop ⟨no,.st 2 (.t 2) (.t 8),no⟩ [] .fin)))))))) .ret))⟩
theorem a86_ok:J0a Tryz.prog Tryz.f86=some a86:=by kernel_rfl
def a82:AFn:= ⟨10,[(.c 2 true 2)],(.seq (.reg [Zo 1 (.boxv (.t 0)),Zo 2 (.box [(.int .i64 0),(.nil 1)])]) (.seq (.draw (.op (Zf 3 0 1) (.op (Zl 4 false 1 3) (.op (Zf 6 1 1) (.op (Zl 7 false 1 6) (.hop (Zo 5 (.bsl 1 [])) [(.ld false 1 (.t 6)),(.fld 1 (.t 1)),(.ld false 1 (.t 3)),(.fld 0 (.t 1))] (.hop (Zo 8 (.app 8 1 (.t 5) (.t 7))) [(.ld false 1 (.t 3)),(.fld 0 (.t 1))] (.op (Zo 9 (.build [(.int .i64 0),(.nil 1)] [(0,(1,(.t 4))),(1,(1,(.t 8)))])) (.hop ⟨no,.st 2 (.t 2) (.t 9),no⟩ [] .fin))))))))) .ret))⟩
theorem a82_ok:J0a Tryz.prog Tryz.f82=some a82:=by kernel_rfl
def a193:AFn:= ⟨82,[(.c 6 true 2),.t 7],(.seq (.reg [Zo 3 (.boxv (.t 0)),Zo 5 (.boxv (.t 2)),Zo 6 (.box [(.int .i64 0),(.nil 1)]),Zo 7 (.mv (.k (.bool false)))]) (.seq (.reg [Zf 15 1 3,Zl 16 false 1 15,Zo 17 (.len false (.t 16)),Zv 8 17]) (.seq (.seq (.reg [Zl 18 true 2 3,Zv 19 8,Zc 20 146 [.t 18,.t 19],Zo 21 (.un .not (.t 20)),Zv 22 21,⟨some 23,.ld true 2 (.t 5),(some (22,false))⟩,⟨some 24,.mv (.t 8),(some (22,false))⟩,⟨some 25,.call (.k (.fn (.func 146) [] [])) [.t 23,.t 24],(some (22,false))⟩,⟨some 26,.un .not (.t 25),(some (22,false))⟩,Zo 27 (.pick (.t 22) (.k (.bool true)) (.t 26)),Zv 28 27,⟨some 29,.mv (.t 1),(some (28,false))⟩,⟨some 30,.call (.k (.fn (.func 232) [] [])) [.t 29],(some (28,false))⟩,⟨some 31,.un .not (.t 30),(some (28,false))⟩,Zo 32 (.pick (.t 28) (.k (.bool true)) (.t 31))]) (.cond (.t 32) (.seq (.reg [Zo 33 (.build [(.int .i64 0),(.nil 1)] []),⟨no,.st 2 (.t 6) (.t 33),no⟩,Zo 7 (.mv (.k (.bool false)))]) .ret) .skip)) (.seq (.reg [Zv 34 8,Zc 35 178 [(.k (.int .i64 0)),.t 34],Zo 9 (.box [(.int .i64 0),(.nil 1)]),⟨no,.st 2 (.t 9) (.t 35),no⟩]) (.seq (.reg [Zf 37 0 3,Zl 38 false 1 37,Zv 39 1,Zf 40 0 5,Zl 41 false 1 40,Zc 42 274 [.t 38,.t 39,.t 41],Zv 36 42,Zo 43 (.ext (.t 36) 0),Zo 44 (.ext (.t 36) 1),Zv 10 43,Zv 11 44]) (.seq (.reg [Zv 45 10,Zf 46 0 9,⟨no,.st 1 (.t 46) (.t 45),no⟩]) (.seq (.seq (.reg [Zf 47 1 3,Zl 48 false 1 47,Zo 49 (.len false (.t 48)),Zo 50 (.mv (.k (.int .i64 0)))]) (.blk 0 (.loop (.seq (.reg [Zo 51 (.bin .lss (.t 50) (.t 49))]) (.seq (.cond (.t 51) .skip (.exit 0)) (.seq (.blk 1 (.seq (.reg [Zv 52 50,Zv 12 52]) (.seq (.draw (.op (Zf 54 1 3) (.op (Zl 55 false 1 54) (.op (Zv 56 12) (.op (Zo 57 (.ixa 1 (.t 55) (.t 56))) (.op (Zl 58 false 1 57) (.op (Zv 59 1) (.op (Zf 60 1 5) (.op (Zl 61 false 1 60) (.op (Zv 62 12) (.op (Zo 63 (.ixa 1 (.t 61) (.t 62))) (.op (Zl 64 false 1 63) (.op (Zc 65 274 [.t 58,.t 59,.t 64]) (.op (Zv 53 65) (.op (Zo 66 (.ext (.t 53) 0)) (.op (Zo 67 (.ext (.t 53) 1)) (.op (Zv 13 66) (.op (Zv 14 67) .fin)))))))))))))))))) (.seq (.reg [Zf 68 1 9,Zl 69 false 1 68,Zv 70 12,Zv 71 13,Zo 72 (.ixa 1 (.t 69) (.t 70)),⟨no,.st 1 (.t 72) (.t 71),no⟩]) (.reg [Zv 73 11,Zv 74 73,⟨some 75,.mv (.t 14),(some (74,true))⟩,Zo 76 (.pick (.t 74) (.t 75) (.k (.bool false))),Zv 11 76]))))) (.reg [Zo 77 (.bin .add (.t 50) (.k (.int .i64 1))),Zv 50 77]))))))) (.seq (.seq (.reg [Zv 78 11,Zo 79 (.un .not (.t 78))]) (.cond (.t 79) (.seq (.reg [Zo 80 (.build [(.int .i64 0),(.nil 1)] []),⟨no,.st 2 (.t 6) (.t 80),no⟩,Zo 7 (.mv (.k (.bool false)))]) .ret) .skip)) (.seq (.reg [Zl 81 true 2 9,⟨no,.st 2 (.t 6) (.t 81),no⟩,Zo 7 (.mv (.k (.bool true)))]) .ret)))))))))⟩
theorem a193_ok:J0a Tryz.prog Tryz.f193=some a193:=by kernel_rfl
def a98:AFn:= ⟨86,[(.c 6 true 2),.t 7],(.seq (.reg [Zo 3 (.boxv (.t 0)),Zo 5 (.boxv (.t 2)),Zo 6 (.box [(.int .i64 0),(.nil 1)]),Zo 7 (.mv (.k (.bool false)))]) (.seq (.reg [Zf 16 1 3,Zl 17 false 1 16,Zo 18 (.len false (.t 17)),Zv 8 18]) (.seq (.seq (.reg [Zl 19 true 2 3,Zv 20 8,Zc 21 179 [.t 19,.t 20],Zo 22 (.un .not (.t 21)),Zv 23 22,⟨some 24,.ld true 2 (.t 5),(some (23,false))⟩,⟨some 25,.mv (.t 8),(some (23,false))⟩,⟨some 26,.call (.k (.fn (.func 179) [] [])) [.t 24,.t 25],(some (23,false))⟩,⟨some 27,.un .not (.t 26),(some (23,false))⟩,Zo 28 (.pick (.t 23) (.k (.bool true)) (.t 27)),Zv 29 28,⟨some 30,.mv (.t 1),(some (29,false))⟩,⟨some 31,.call (.k (.fn (.func 181) [] [])) [.t 30],(some (29,false))⟩,⟨some 32,.un .not (.t 31),(some (29,false))⟩,Zo 33 (.pick (.t 29) (.k (.bool true)) (.t 32))]) (.cond (.t 33) (.seq (.reg [Zo 34 (.build [(.int .i64 0),(.nil 1)] []),⟨no,.st 2 (.t 6) (.t 34),no⟩,Zo 7 (.mv (.k (.bool false)))]) .ret) .skip)) (.seq (.reg [Zv 35 8,Zo 36 (.mks 8 [(.int .i64 0)] (.t 35) (.t 35)),Zo 37 (.build [(.int .i64 0),(.nil 1)] [(1,(1,(.t 36)))]),Zo 9 (.box [(.int .i64 0),(.nil 1)]),⟨no,.st 2 (.t 9) (.t 37),no⟩]) (.seq (.reg [Zo 10 (.mv (.k (.bool true)))]) (.seq (.seq (.reg [Zo 11 (.mv (.k (.int .i64 0)))]) (.blk 0 (.loop (.seq (.seq (.reg [Zv 38 11,Zv 39 8,Zo 40 (.bin .lss (.t 38) (.t 39))]) (.cond (.t 40) .skip (.exit 0))) (.seq (.blk 1 (.seq (.draw (.op (Zf 44 1 3) (.op (Zl 45 false 1 44) (.op (Zv 46 11) (.op (Zo 47 (.ixa 1 (.t 45) (.t 46))) (.op (Zl 48 false 1 47) (.op (Zv 49 1) (.op (Zf 50 1 5) (.op (Zl 51 false 1 50) (.op (Zv 52 11) (.op (Zo 53 (.ixa 1 (.t 51) (.t 52))) (.op (Zl 54 false 1 53) (.op (Zc 55 182 [.t 48,.t 49,.t 54]) (.op (Zv 43 55) (.op (Zo 56 (.ext (.t 43) 0)) (.op (Zo 57 (.ext (.t 43) 1)) (.op (Zv 12 56) (.op (Zv 13 57) .fin)))))))))))))))))) (.seq (.reg [Zf 58 1 9,Zl 59 false 1 58,Zv 60 11,Zv 61 12,Zo 62 (.ixa 1 (.t 59) (.t 60)),⟨no,.st 1 (.t 62) (.t 61),no⟩]) (.reg [Zv 63 10,Zv 64 63,⟨some 65,.mv (.t 13),(some (64,true))⟩,Zo 66 (.pick (.t 64) (.t 65) (.k (.bool false))),Zv 10 66])))) (.reg [Zv 41 11,Zo 42 (.bin .add (.t 41) (.k (.int .i64 1))),Zv 11 42])))))) (.seq (.reg [Zf 68 0 3,Zl 69 false 1 68,Zv 70 1,Zf 71 0 5,Zl 72 false 1 71,Zc 73 182 [.t 69,.t 70,.t 72],Zv 67 73,Zo 74 (.ext (.t 67) 0),Zo 75 (.ext (.t 67) 1),Zv 14 74,Zv 15 75]) (.seq (.seq (.reg [Zv 76 10,Zo 77 (.un .not (.t 76)),Zv 78 77,⟨some 79,.mv (.t 15),(some (78,false))⟩,⟨some 80,.un .not (.t 79),(some (78,false))⟩,Zo 81 (.pick (.t 78) (.k (.bool true)) (.t 80))]) (.cond (.t 81) (.seq (.reg [Zo 82 (.build [(.int .i64 0),(.nil 1)] []),⟨no,.st 2 (.t 6) (.t 82),no⟩,Zo 7 (.mv (.k (.bool false)))]) .ret) .skip)) (.seq (.reg [Zv 83 14,Zf 84 0 9,⟨no,.st 1 (.t 84) (.t 83),no⟩]) (.seq (.reg [Zl 85 true 2 9,⟨no,.st 2 (.t 6) (.t 85),no⟩,Zo 7 (.mv (.k (.bool true)))]) .ret))))))))))⟩
theorem a98_ok:J0a Tryz.prog Tryz.f98=some a98:=by kernel_rfl
def J04 (k n:Int):DLin:=if inR n 0 8&&okC k then ⟨k,List.replicate n.toNat 0⟩ else ⟨0,[]⟩
@[simp] theorem Je2 (m:Nat):J0e (List.replicate m 0)=List.replicate m [AV.int .i64 0]:=by simp [J0e]
@[simp] theorem K1e (m:Nat):J42 (List.replicate m [AV.int .i64 0])=true:=by rw [←Je2];exact Jjv _
@[simp] theorem Jhh (l:List Int) (i:Nat) (v:Int):(J0e l).set i [AV.int .i64 v]=J0e (l.set i v):=by simp [J0e,List.map_set]
theorem J11 (k n:Int):Holds Tryz.prog 178 [i64 k,i64 n] (fun r=>r = .agg (J07 (J04 k n))):=by
 refine J02 Tryz.func178 a178_ok rfl (by simp [a178]) ?_
 simp [a178]
 first|refine J00 (J1v n 0 8) (by first|simp;done|rfl) ?_|refine J01 (J1v n 0 8) (by first|simp;done|rfl) ?_
 rintro r rfl
 unfold J04
 cases h1:inR n 0 8
 ·simp [J07,J0e]
 simp
 first|refine J00 (J1x k) (by first|simp;done|rfl) ?_|refine J01 (J1x k) (by first|simp;done|rfl) ?_
 rintro r rfl
 cases h2:okC k
 ·simp [J07,J0e]
 have hn:0≤n∧n≤8:=by simpa [inR] using h1
 obtain ⟨m,rfl⟩:∃ m:Nat,n=m:=⟨n.toNat,by omega⟩
 simp [J07]
 unfold LIM
 omega
theorem J13 (k n:Int):Holds Tryz.prog 99 [i64 k,i64 n] (fun r=>r = .agg (J07 (J04 k n))):=by
 refine J02 Tryz.func99 a99_ok rfl (by simp [a99]) ?_
 simp [a99]
 first|refine J00 (J43 n 0 8) (by first|simp;done|rfl) ?_|refine J01 (J43 n 0 8) (by first|simp;done|rfl) ?_
 rintro r rfl
 unfold J04
 cases h1:inR n 0 8
 ·simp [J07,J0e]
 simp
 first|refine J00 (J3n k) (by first|simp;done|rfl) ?_|refine J01 (J3n k) (by first|simp;done|rfl) ?_
 rintro r rfl
 cases h2:okC k
 ·simp [J07,J0e]
 have hn:0≤n∧n≤8:=by simpa [inR] using h1
 obtain ⟨m,rfl⟩:∃ m:Nat,n=m:=⟨n.toNat,by omega⟩
 simp [J07]
 unfold LIM
 omega
theorem Jfm (l:List Int) (hl:l.length≤1048576):Holds Tryz.prog 166 [.sl 1 (J0e l)] (fun r=>r = .us 1 (J0e l)):=by
 refine J02 Tryz.func166 a166_ok rfl (by simp [a166]) ?_
 simp [a166]
 unfold LIM
 omega
theorem J4t (x:DLin) (hl:x.Coeffs.length≤1048576):Holds Tryz.prog 86 [.agg (J06 x)] (fun r=>r = .agg (J07 x)):=by
 refine J02 Tryz.func86 a86_ok rfl (by simp [a86]) ?_
 simp [a86,J06]
 first|refine J00 (Jfm x.Coeffs hl) (by first|simp [J07];done|rfl) ?_|refine J01 (Jfm x.Coeffs hl) (by first|simp [J07];done|rfl) ?_
 rintro r rfl
 simp [J07]
theorem J2c (x:DLin) (hl:x.Coeffs.length≤1048576):Holds Tryz.prog 82 [.agg (J06 x)] (fun r=>r = .agg (J07 x)):=by
 refine J02 Tryz.func82 a82_ok rfl (by simp [a82]) ?_
 simp [a82,J06,J07]
 unfold LIM
 omega
def J1d:DLin:=⟨0,[]⟩
def J0s:Option DLin→AV
 | some l => .tup [.agg (J07 l),.bool true]
 | Option.none => .tup [.agg (J07 J1d),.bool false]
theorem J0o (o:Option DLin):J0s o = .tup [.agg (J07 (o.getD J1d)),.bool o.isSome]:=by cases o <;> rfl
def J4i (a:DLin) (k:Int) (b:DLin):List (Option Int):=List.zipWith (fun x y=>J24 x k y) a.Coeffs b.Coeffs
def Jcg (a:DLin) (k:Int) (b:DLin):Bool:=(J4i a k b).all Option.isSome
def J0b (a:DLin) (k:Int) (b:DLin):Option DLin:=
 if J1c a a.Coeffs.length&&J1c b a.Coeffs.length&&okC k&&(J24 a.Const k b.Const).isSome&&Jcg a k b then
  some ⟨(J24 a.Const k b.Const).getD 0,(J4i a k b).map (·.getD 0)⟩
 else Option.none
theorem J1t {l:DLin}{n:Int}(h:J1c l n=true):(l.Coeffs.length:Int)=n∧0≤n∧n≤8:=by
 unfold J1c at h
 simp [inR] at h
 omega
theorem Jhk {a b:DLin}{k:Int}{vs:List Int}(hl:b.Coeffs.length=a.Coeffs.length) (hv:vs.length=a.Coeffs.length) (g:Int→Int→Int→Int) (hg:∀ x y v,J24 x k y=some v→g x k y=v)
 (hj:∀ j (h:j<a.Coeffs.length) (h':j<b.Coeffs.length),vs[j]? = some (g a.Coeffs[j] k b.Coeffs[j])) (hZ:(J4i a k b).all Option.isSome=true):vs=(J4i a k b).map (·.getD 0):=by
 refine List.ext_getElem (by simp [J4i,hv,hl]) fun j h1 h2 => ?_
 have h3:j<a.Coeffs.length:=by omega
 have h4:j<b.Coeffs.length:=by omega
 have h5:=hj j h3 h4
 rw [List.getElem?_eq_getElem h1] at h5
 rw [Option.some.inj h5,List.getElem_map]
 have h6:(J4i a k b)[j]'(by simpa using h2)=J24 a.Coeffs[j] k b.Coeffs[j]:=by simp [J4i]
 rw [h6]
 have h7:=List.all_eq_true.1 hZ _ (List.getElem_mem (by simpa using h2:j<(J4i a k b).length))
 rw [h6] at h7
 obtain ⟨v,hv'⟩:=Option.isSome_iff_exists.1 h7
 rw [hg _ _ _ hv',hv'];rfl
set_option maxHeartbeats 1000000 in
theorem J0q (a:DLin) (k:Int) (b:DLin):Holds Tryz.prog 193 [.agg (J06 a),i64 k,.agg (J06 b)] (fun r=>r=J0s (J0b a k b)):=by
 refine J02 Tryz.func193 a193_ok rfl (by simp [a193]) ?_
 simp [a193,J06]
 intro hlim
 unfold J0b
 first|refine J00 (J0z a a.Coeffs.length) (by first|simp [J06];done|rfl) ?_|refine J01 (J0z a a.Coeffs.length) (by first|simp [J06];done|rfl) ?_
 rintro r rfl
 cases h1:J1c a a.Coeffs.length
 ·simp [J0s,J1d,J07,J0e]
 simp
 first|refine J00 (J0z b a.Coeffs.length) (by first|simp [J06];done|rfl) ?_|refine J01 (J0z b a.Coeffs.length) (by first|simp [J06];done|rfl) ?_
 rintro r rfl
 cases h2:J1c b a.Coeffs.length
 ·simp [J0s,J1d,J07,J0e]
 simp
 first|refine J00 (J1x k) (by first|simp;done|rfl) ?_|refine J01 (J1x k) (by first|simp;done|rfl) ?_
 rintro r rfl
 cases h3:okC k
 ·simp [J0s,J1d,J07,J0e]
 simp
 have hla:=J1t h1
 have hlb:=J1t h2
 have hl:b.Coeffs.length=a.Coeffs.length:=by omega
 have hc0:J04 0 (a.Coeffs.length:Int)=⟨0,List.replicate a.Coeffs.length 0⟩:=by
  unfold J04
  rw [if_pos (by simp [inR,okC];omega)]
  simp
 first|refine J00 (J11 0 a.Coeffs.length) (by first|simp;done|rfl) ?_|refine J01 (J11 0 a.Coeffs.length) (by first|simp;done|rfl) ?_
 rintro r rfl
 rw [hc0]
 simp [J07]
 first|refine J00 (J72 a.Const k b.Const) (by first|simp [J2v];done|rfl) ?_|refine J01 (J72 a.Const k b.Const) (by first|simp [J2v];done|rfl) ?_
 rintro r rfl
 simp [J2v]
 intro _
 have hzl:(J4i a k b).length=a.Coeffs.length:=by simp [J4i,hl]
 refine J0k [1,3,5,6,9,49] 50 a.Coeffs.length (fun i s h n=>h 0=some ⟨true,2,[[.int .i64 a.Const,.sl 1 (J0e a.Coeffs)]]⟩∧h 1=some ⟨true,2,[[.int .i64 b.Const,.sl 1 (J0e b.Coeffs)]]⟩∧h 2=some ⟨true,2,[[.int .i64 0,.nil 1]]⟩ ∧
  h 4=some ⟨true,2,[[.int .i64 (J4b a.Const k b.Const).1,.ref 3 0 a.Coeffs.length]]⟩∧∃ vs:List Int,h 3=some ⟨false,1,J0e vs⟩∧vs.length=a.Coeffs.length ∧
  (∀ j (h:j<a.Coeffs.length) (h':j<b.Coeffs.length),j<i→vs[j]? = some (J4b a.Coeffs[j] k b.Coeffs[j]).1)∧s 11 = .bool ((J24 a.Const k b.Const).isSome&&((J4i a k b).take i).all Option.isSome))
  hlim (by simp) (by simp;exact ⟨List.replicate a.Coeffs.length 0,by simp,by simp,by simp [Je3]⟩) ?_ ?_
 ·rintro i s h n R hi hg hk s50 hw ⟨e0,e1,e2,e4,vs,e3,hvl,hvs,s11⟩ hR _ _
  simp at hk
  have hib:i<b.Coeffs.length:=by omega
  have hiv:i<vs.length:=by omega
  have hiz:i<(J4i a k b).length:=by omega
  have hZi:(J4i a k b)[i]=J24 a.Coeffs[i] k b.Coeffs[i]:=by simp [J4i]
  have hflag:((J24 a.Const k b.Const).isSome&&((J4i a k b).take (i+1)).all Option.isSome)=(((J24 a.Const k b.Const).isSome&&((J4i a k b).take i).all Option.isSome)&&(J4b a.Coeffs[i] k b.Coeffs[i]).2):=by
   rw [List.take_succ_eq_append_getElem hiz,List.all_append,hZi,Je3]
   simp [Bool.and_assoc]
  have hvs':∀ j (h:j<a.Coeffs.length) (h':j<b.Coeffs.length),j<i+1→(vs.set i (J4b a.Coeffs[i] k b.Coeffs[i]).1)[j]? = some (J4b a.Coeffs[j] k b.Coeffs[j]).1:=by
   intro j h h' hj
   rw [List.getElem?_set]
   by_cases hji:i=j
   ·subst hji;simp [hiv]
   ·rw [if_neg hji];exact hvs j h h' (by omega)
  obtain ⟨f,hf⟩:∃ f,f=((J24 a.Const k b.Const).isSome&&((J4i a k b).take i).all Option.isSome):=⟨_,rfl⟩
  rw [←hf] at s11 hflag
  cases f
  all_goals
   simp [hk,s50,hi,hg,hw,hib,hiv,e0,e1,e2,e3,e4,s11]
   first|refine J00 (J72 _ _ _) (by simp [J2v]) ?_|refine J01 (J72 _ _ _) (by simp [J2v]) ?_|refine J00 (J72 _ _ _) rfl ?_|refine J01 (J72 _ _ _) rfl ?_
   rintro r rfl
   simp [hk,s50,hi,hg,hw,hib,hiv,e0,e1,e2,e3,e4,s11,J2v]
   exact hR _ _ _ (by simp [hk]) (by simp) ⟨by simp [e0],by simp [e1],by simp [e2],by simp [e4],_,by simp,by simp [hvl],hvs',by rw [hflag];simp⟩
 ·rintro s h n R hk s50 ⟨e0,e1,e2,e4,vs,e3,hvl,hvs,s11⟩ hret hX
  simp at hk
  rw [List.take_of_length_le (by omega)] at s11
  simp [hk,s50]
  refine hX _ _ _ _ ?_
  cases hc:(J24 a.Const k b.Const).isSome
  ·rw [hc] at s11
   simp at s11
   simp [hk,s11,e2,J0s,J1d,J07,J0e]
  rw [show (J4i a k b).all Option.isSome=Jcg a k b from rfl] at s11
  cases hz:Jcg a k b
  ·rw [hc,hz] at s11
   simp at s11
   simp [hk,s11,e2,J0s,J1d,J07,J0e]
  ·rw [hc,hz] at s11
   simp at s11
   obtain ⟨v,hv⟩:=Option.isSome_iff_exists.1 hc
   have hval:=Jhk hl hvl (fun x k y=>(J4b x k y).1) (fun x y v h=>Jeb h) (fun j h h'=>hvs j h h' h) hz
   simp [hk,s11,e2,e3,e4,J0s,J07,hvl]
   rw [←hval,hv,Jeb hv]
   simp [hvl,List.take_of_length_le]
set_option maxHeartbeats 1000000 in
theorem J0m (a:DLin) (k:Int) (b:DLin):Holds Tryz.prog 98 [.agg (J06 a),i64 k,.agg (J06 b)] (fun r=>r=J0s (J0b a k b)):=by
 refine J02 Tryz.func98 a98_ok rfl (by simp [a98]) ?_
 simp [a98,J06]
 intro hlim
 unfold J0b
 first|refine J00 (J0p a a.Coeffs.length) (by first|simp [J06];done|rfl) ?_|refine J01 (J0p a a.Coeffs.length) (by first|simp [J06];done|rfl) ?_
 rintro r rfl
 cases h1:J1c a a.Coeffs.length
 ·simp [J0s,J1d,J07,J0e]
 simp
 first|refine J00 (J0p b a.Coeffs.length) (by first|simp [J06];done|rfl) ?_|refine J01 (J0p b a.Coeffs.length) (by first|simp [J06];done|rfl) ?_
 rintro r rfl
 cases h2:J1c b a.Coeffs.length
 ·simp [J0s,J1d,J07,J0e]
 simp
 first|refine J00 (J3n k) (by first|simp;done|rfl) ?_|refine J01 (J3n k) (by first|simp;done|rfl) ?_
 rintro r rfl
 cases h3:okC k
 ·simp [J0s,J1d,J07,J0e]
 simp
 have hla:=J1t h1
 have hlb:=J1t h2
 have hl:b.Coeffs.length=a.Coeffs.length:=by omega
 have hzl:(J4i a k b).length=a.Coeffs.length:=by simp [J4i,hl]
 refine ⟨by unfold LIM;omega,?_⟩
 refine J0k [1,3,5,6,8,9] 11 a.Coeffs.length (fun i s h n=>h 0=some ⟨true,2,[[.int .i64 a.Const,.sl 1 (J0e a.Coeffs)]]⟩∧h 1=some ⟨true,2,[[.int .i64 b.Const,.sl 1 (J0e b.Coeffs)]]⟩∧h 2=some ⟨true,2,[[.int .i64 0,.nil 1]]⟩ ∧
  h 4=some ⟨true,2,[[.int .i64 0,.ref 3 0 a.Coeffs.length]]⟩∧∃ vs:List Int,h 3=some ⟨false,1,J0e vs⟩∧vs.length=a.Coeffs.length ∧
  (∀ j (h:j<a.Coeffs.length) (h':j<b.Coeffs.length),j<i→vs[j]? = some (J4w a.Coeffs[j] k b.Coeffs[j]).1)∧s 10 = .bool (((J4i a k b).take i).all Option.isSome))
  hlim (by simp) (by simp;exact ⟨List.replicate a.Coeffs.length 0,by simp,by simp⟩) ?_ ?_
 ·rintro i s h n R hi hg hk s11 hw ⟨e0,e1,e2,e4,vs,e3,hvl,hvs,s10⟩ hR _ _
  simp at hk
  have hib:i<b.Coeffs.length:=by omega
  have hiv:i<vs.length:=by omega
  have hiz:i<(J4i a k b).length:=by omega
  have hZi:(J4i a k b)[i]=J24 a.Coeffs[i] k b.Coeffs[i]:=by simp [J4i]
  have hflag:(((J4i a k b).take (i+1)).all Option.isSome)=((((J4i a k b).take i).all Option.isSome)&&(J4w a.Coeffs[i] k b.Coeffs[i]).2):=by
   rw [List.take_succ_eq_append_getElem hiz,List.all_append,hZi,Ja9]
   simp
  have hvs':∀ j (h:j<a.Coeffs.length) (h':j<b.Coeffs.length),j<i+1→(vs.set i (J4w a.Coeffs[i] k b.Coeffs[i]).1)[j]? = some (J4w a.Coeffs[j] k b.Coeffs[j]).1:=by
   intro j h h' hj
   rw [List.getElem?_set]
   by_cases hji:i=j
   ·subst hji;simp [hiv]
   ·rw [if_neg hji];exact hvs j h h' (by omega)
  obtain ⟨f,hf⟩:∃ f,f=(((J4i a k b).take i).all Option.isSome):=⟨_,rfl⟩
  rw [←hf] at s10 hflag
  cases f
  all_goals
   simp [hk,s11,hi,hg,hw,hib,hiv,e0,e1,e2,e3,e4,s10]
   first|refine J00 (J4u _ _ _) (by simp [J2v]) ?_|refine J01 (J4u _ _ _) (by simp [J2v]) ?_|refine J00 (J4u _ _ _) rfl ?_|refine J01 (J4u _ _ _) rfl ?_
   rintro r rfl
   simp [hk,s11,hi,hg,hw,hib,hiv,e0,e1,e2,e3,e4,s10,J2v]
   exact hR _ _ _ (by simp [hk]) (by simp) ⟨by simp [e0],by simp [e1],by simp [e2],by simp [e4],_,by simp,by simp [hvl],hvs',by rw [hflag];simp⟩
 ·rintro s h n R hk s11 ⟨e0,e1,e2,e4,vs,e3,hvl,hvs,s10⟩ hret hX
  simp at hk
  rw [List.take_of_length_le (by omega),show (J4i a k b).all Option.isSome=Jcg a k b from rfl] at s10
  simp [hk,s11]
  refine hX _ _ _ _ ?_
  cases hz:Jcg a k b
  ·rw [hz] at s10
   simp [hk,s10,e0,e1,e2,e4]
   first|refine J00 (J4u _ _ _) (by simp [J2v]) ?_|refine J01 (J4u _ _ _) (by simp [J2v]) ?_|refine J00 (J4u _ _ _) rfl ?_|refine J01 (J4u _ _ _) rfl ?_
   rintro r rfl
   simp [hk,s10,e0,e1,e2,e4,J2v,J0s,J1d,J07,J0e]
  ·rw [hz] at s10
   have hval:=Jhk hl hvl (fun x k y=>(J4w x k y).1) (fun x y v h=>Jef h) (fun j h h'=>hvs j h h' h) hz
   simp [hk,s10,e0,e1,e2,e4]
   first|refine J00 (J4u _ _ _) (by simp [J2v]) ?_|refine J01 (J4u _ _ _) (by simp [J2v]) ?_|refine J00 (J4u _ _ _) rfl ?_|refine J01 (J4u _ _ _) rfl ?_
   rintro r rfl
   cases hc:(J24 a.Const k b.Const).isSome
   ·have hc':(J4w a.Const k b.Const).2=false:=by rw [Ja9,hc]
    simp [hk,s10,e0,e1,e2,e4,J2v,hc',J0s,J1d,J07,J0e]
   ·have hc':(J4w a.Const k b.Const).2=true:=by rw [Ja9,hc]
    obtain ⟨v,hv⟩:=Option.isSome_iff_exists.1 hc
    simp [hk,s10,e0,e1,e2,e3,e4,J2v,hc',J0s,J07,hvl]
    rw [←hval,hv,Jef hv]
    simp [hvl,List.take_of_length_le]
def a189:AFn:= ⟨32,[(.c 4 true 2),.t 5],(.seq (.reg [Zo 2 (.boxv (.t 0)),Zo 4 (.box [(.int .i64 0),(.nil 1)]),Zo 5 (.mv (.k (.bool false)))]) (.seq (.reg [Zf 10 0 2,Zl 11 false 1 10,Zv 12 1,Zc 13 271 [.t 11,.t 12],Zv 9 13,Zo 14 (.ext (.t 9) 0),Zo 15 (.ext (.t 9) 1),Zv 6 14,Zv 7 15]) (.seq (.seq (.reg [Zv 16 7,Zo 17 (.un .not (.t 16)),Zv 18 17,⟨some 19,.ld true 2 (.t 2),(some (18,false))⟩,⟨some 20,.fld 1 (.t 2),(some (18,false))⟩,⟨some 21,.ld false 1 (.t 20),(some (18,false))⟩,⟨some 22,.len false (.t 21),(some (18,false))⟩,⟨some 23,.call (.k (.fn (.func 146) [] [])) [.t 19,.t 22],(some (18,false))⟩,⟨some 24,.un .not (.t 23),(some (18,false))⟩,Zo 25 (.pick (.t 18) (.k (.bool true)) (.t 24))]) (.cond (.t 25) (.seq (.reg [Zo 26 (.build [(.int .i64 0),(.nil 1)] []),⟨no,.st 2 (.t 4) (.t 26),no⟩,Zo 5 (.mv (.k (.bool false)))]) .ret) .skip)) (.seq (.reg [Zl 27 true 2 2,Zc 28 86 [.t 27],Zo 8 (.box [(.int .i64 0),(.nil 1)]),⟨no,.st 2 (.t 8) (.t 28),no⟩]) (.seq (.reg [Zv 29 6,Zf 30 0 8,⟨no,.st 1 (.t 30) (.t 29),no⟩]) (.seq (.reg [Zl 31 true 2 8,⟨no,.st 2 (.t 4) (.t 31),no⟩,Zo 5 (.mv (.k (.bool true)))]) .ret))))))⟩
theorem a189_ok:J0a Tryz.prog Tryz.f189=some a189:=by kernel_rfl
def a310:AFn:= ⟨5,[.t 2],(.seq (.reg [Zo 2 (.mv (.k (.bool false)))]) (.seq (.reg [Zv 3 0,Zo 4 (.bin .neq (.t 3) (.k (.int .i64 0))),Zv 2 4]) .ret))⟩
theorem a310_ok:J0a Tryz.prog Tryz.f310=some a310:=by kernel_rfl
def a279:AFn:= ⟨7,[.t 2],(.seq (.reg [Zo 1 (.boxv (.t 0)),Zo 2 (.mv (.k (.bool false)))]) (.seq (.reg [Zf 3 1 1,Zl 4 false 1 3,Zc 5 233 [.t 4,(.k (.fn (.func 310) [] []))],Zo 6 (.un .not (.t 5)),Zv 2 6]) .ret))⟩
theorem a279_ok:J0a Tryz.prog Tryz.f279=some a279:=by kernel_rfl
def a276:AFn:= ⟨17,[.t 2],(.seq (.reg [Zo 1 (.boxv (.t 0)),Zo 2 (.mv (.k (.bool false)))]) (.seq (.seq (.reg [Zo 3 (.mv (.k (.int .i64 0)))]) (.blk 0 (.loop (.seq (.seq (.reg [Zv 4 3,Zf 5 1 1,Zl 6 false 1 5,Zo 7 (.len false (.t 6)),Zo 8 (.bin .lss (.t 4) (.t 7))]) (.cond (.t 8) .skip (.exit 0))) (.seq (.blk 1 (.seq (.reg [Zf 11 1 1,Zl 12 false 1 11,Zv 13 3,Zo 14 (.ixa 1 (.t 12) (.t 13)),Zl 15 false 1 14,Zo 16 (.bin .neq (.t 15) (.k (.int .i64 0)))]) (.cond (.t 16) (.seq (.reg [Zo 2 (.mv (.k (.bool false)))]) .ret) .skip))) (.reg [Zv 9 3,Zo 10 (.bin .add (.t 9) (.k (.int .i64 1))),Zv 3 10])))))) (.seq (.reg [Zo 2 (.mv (.k (.bool true)))]) .ret)))⟩
theorem a276_ok:J0a Tryz.prog Tryz.f276=some a276:=by kernel_rfl
def a277:AFn:= ⟨28,[.t 2],(.seq (.reg [Zo 1 (.boxv (.t 0)),Zo 2 (.mv (.k (.bool false)))]) (.seq (.seq (.reg [Zf 5 0 1,Zl 6 false 1 5,Zc 7 102 [.t 6,(.k (.int .i64 0)),(.k (.int .i64 8))],Zo 8 (.un .not (.t 7)),Zv 9 8,⟨some 10,.fld 1 (.t 1),(some (9,false))⟩,⟨some 11,.ld false 1 (.t 10),(some (9,false))⟩,⟨some 12,.len false (.t 11),(some (9,false))⟩,⟨some 13,.bin .gtr (.t 12) (.k (.int .i64 20)),(some (9,false))⟩,Zo 14 (.pick (.t 9) (.k (.bool true)) (.t 13))]) (.cond (.t 14) (.seq (.reg [Zo 2 (.mv (.k (.bool false)))]) .ret) .skip)) (.seq (.seq (.reg [Zf 15 1 1,Zl 16 false 1 15,Zo 17 (.len false (.t 16)),Zo 18 (.mv (.k (.int .i64 0)))]) (.blk 0 (.loop (.seq (.reg [Zo 19 (.bin .lss (.t 18) (.t 17))]) (.seq (.cond (.t 19) .skip (.exit 0)) (.seq (.blk 1 (.seq (.reg [Zo 20 (.ixa 2 (.t 16) (.t 18)),Zl 21 true 2 20,Zo 4 (.box [(.int .i64 0),(.nil 1)]),⟨no,.st 2 (.t 4) (.t 21),no⟩]) (.seq (.reg [Zl 22 true 2 4,Zf 23 0 1,Zl 24 false 1 23,Zc 25 146 [.t 22,.t 24],Zo 26 (.un .not (.t 25))]) (.cond (.t 26) (.seq (.reg [Zo 2 (.mv (.k (.bool false)))]) .ret) .skip)))) (.reg [Zo 27 (.bin .add (.t 18) (.k (.int .i64 1))),Zv 18 27]))))))) (.seq (.reg [Zo 2 (.mv (.k (.bool true)))]) .ret))))⟩
theorem a277_ok:J0a Tryz.prog Tryz.f277=some a277:=by kernel_rfl
def a258:AFn:= ⟨29,[.t 2],(.seq (.reg [Zo 1 (.boxv (.t 0)),Zo 2 (.mv (.k (.bool false)))]) (.seq (.seq (.reg [Zo 3 (.mv (.k (.int .i64 0)))]) (.blk 0 (.loop (.seq (.seq (.reg [Zv 4 3,Zf 5 1 1,Zl 6 false 1 5,Zo 7 (.len false (.t 6)),Zo 8 (.bin .lss (.t 4) (.t 7))]) (.cond (.t 8) .skip (.exit 0))) (.seq (.blk 1 (.seq (.draw (.op (Zf 11 1 1) (.op (Zl 12 false 1 11) (.op (Zv 13 3) (.op (Zo 14 (.ixa 2 (.t 12) (.t 13))) (.op (Zl 15 true 2 14) (.op (Zf 16 0 1) (.op (Zl 17 false 1 16) (.op (Zc 18 179 [.t 15,.t 17]) (.op (Zo 19 (.un .not (.t 18))) .fin)))))))))) (.cond (.t 19) (.seq (.reg [Zo 2 (.mv (.k (.bool false)))]) .ret) .skip))) (.reg [Zv 9 3,Zo 10 (.bin .add (.t 9) (.k (.int .i64 1))),Zv 3 10])))))) (.seq (.reg [Zf 20 0 1,Zl 21 false 1 20,Zc 22 183 [.t 21,(.k (.int .i64 0)),(.k (.int .i64 8))],Zv 23 22,⟨some 24,.fld 1 (.t 1),(some (23,true))⟩,⟨some 25,.ld false 1 (.t 24),(some (23,true))⟩,⟨some 26,.len false (.t 25),(some (23,true))⟩,⟨some 27,.bin .leq (.t 26) (.k (.int .i64 20)),(some (23,true))⟩,Zo 28 (.pick (.t 23) (.t 27) (.k (.bool false))),Zv 2 28]) .ret)))⟩
theorem a258_ok:J0a Tryz.prog Tryz.f258=some a258:=by kernel_rfl
def J7h (l:DLin) (k:Int):Option DLin:=if (Jcf l.Const k).2&&J1c l l.Coeffs.length then some ⟨(Jcf l.Const k).1,l.Coeffs⟩ else Option.none
theorem Jlb (l:DLin) (k:Int):Holds Tryz.prog 189 [.agg (J06 l),i64 k] (fun r=>r=J0s (J7h l k)):=by
 refine J02 Tryz.func189 a189_ok rfl (by simp [a189]) ?_
 simp [a189,J06]
 first|refine J00 (J6z l.Const k) (by first|simp;done|rfl) ?_|refine J01 (J6z l.Const k) (by first|simp;done|rfl) ?_
 rintro r rfl
 simp [J2v]
 unfold J7h
 cases h1:(Jcf l.Const k).2
 ·simp [J0s,J1d,J07,J0e]
 simp
 intro _
 first|refine J00 (J0z l l.Coeffs.length) (by first|simp [J06];done|rfl) ?_|refine J01 (J0z l l.Coeffs.length) (by first|simp [J06];done|rfl) ?_
 rintro r rfl
 cases h2:J1c l l.Coeffs.length
 ·simp [J0s,J1d,J07,J0e]
 simp
 have hl:=J1t h2
 first|refine J00 (J4t l (by omega)) (by first|simp [J06,J07,J0s];done|rfl) ?_|refine J01 (J4t l (by omega)) (by first|simp [J06,J07,J0s];done|rfl) ?_
 rintro r rfl
 simp [J06,J07,J0s]
def J8z (l:DLin):Bool:=l.Coeffs.all (· == 0)
theorem Jgv (n:Int):Holds Tryz.prog 310 [i64 n] (fun r=>r = .bool (!(n==0))):=by
 refine J02 Tryz.func310 a310_ok rfl (by simp [a310]) ?_
 simp [a310]
 rfl
theorem Jc0 (l:DLin):Holds Tryz.prog 279 [.agg (J06 l)] (fun r=>r = .bool (J8z l)):=by
 refine J02 Tryz.func279 a279_ok rfl (by simp [a279]) ?_
 simp [a279,J06]
 refine J1e (p:=fun n => !(n==0)) (rowOf:=fun n=>[i64 n]) (eltOf:=i64) Tryz.func233 a233_ok rfl Tryz.func292 a292_ok rfl (fun x=>by simp) l.Coeffs
  (fun x _=>J4n (Jgv x) rfl rfl) ?_
 rw [J88 (fun n:Int=>n==0)]
 simp [J8z]
theorem Jb5 (l:DLin):Holds Tryz.prog 276 [.agg (J06 l)] (fun r=>r = .bool (J8z l)):=by
 refine J1k Tryz.func276 rfl rfl fun hl => ?_
 simp [J06] at hl
 refine J02 Tryz.func276 a276_ok rfl (by simp [a276]) ?_
 simp [a276,J06]
 refine J4m [1] 3 l.Coeffs.length (fun i _=>(l.Coeffs.drop i).all (· == 0)=J8z l) hl (by simp) rfl ?_ ?_
 ·rintro i s h R hi hg hk s3 hw hJ hh hR hret _
  simp at hk hh
  rw [List.drop_eq_getElem_cons hi,List.all_cons] at hJ
  simp [hk,s3,hi,hg,hh,hw]
  intro _
  by_cases h0:l.Coeffs[i]=0
  ·simp [h0] at hJ ⊢
   exact hR _ (by simp [hk]) (by simp) (by simpa using hJ)
  ·have hJ:J8z l=false:=by rw [←hJ];simp [h0]
   simp [h0]
   refine hret _ _ _ ?_
   simp [hJ]
 ·rintro s h R hk s3 hJ hh _ hX
  simp at hk hh
  simp at hJ
  simp [hk,s3,hh]
  intro _
  refine hX _ _ ?_
  simp [←hJ]
def J7y (s:DSystem):Bool:=inR s.N 0 8&&decide (s.Rows.length≤20)&&s.Rows.all fun r=>J1c r s.N
theorem J3i (x:DSystem):Holds Tryz.prog 277 [.agg (J0f x)] (fun r=>r = .bool (J7y x)):=by
 refine J02 Tryz.func277 a277_ok rfl (by simp [a277]) ?_
 simp [a277,J0f]
 first|refine J00 (J1v x.N 0 8) (by first|simp;done|rfl) ?_|refine J01 (J1v x.N 0 8) (by first|simp;done|rfl) ?_
 rintro r rfl
 unfold J7y
 cases h1:inR x.N 0 8
 ·simp
 simp
 intro hl
 by_cases h2:x.Rows.length≤20
 case neg=>simp [h2];omega
 simp [h2]
 refine ⟨fun h=>by omega,fun _ _ => ?_⟩
 refine J0k [1,16,17] 18 x.Rows.length (fun i s h n=>0<n∧h 0=some ⟨true,2,[[.int .i64 x.N,.sl 2 (x.Rows.map J06)]]⟩∧(x.Rows.drop i).all (fun r=>J1c r x.N)=x.Rows.all (fun r=>J1c r x.N)) hl (by simp) ⟨by simp,by simp,rfl⟩ ?_ ?_
 ·rintro i s h n R hi hg hk s18 hw ⟨hn,e0,hJ⟩ hR hret _
  simp at hk
  rw [List.drop_eq_getElem_cons hi,List.all_cons] at hJ
  have hn':¬0=n:=by omega
  simp [hk,s18,hi,hg,hw,e0,hn',J06]
  first|refine J00 (J0z _ _) (by simp [J06]) ?_|refine J01 (J0z _ _) (by simp [J06]) ?_|refine J00 (J0z _ _) rfl ?_|refine J01 (J0z _ _) rfl ?_
  rintro r rfl
  cases h0:J1c x.Rows[i] x.N
  ·rw [h0] at hJ
   have hJ:x.Rows.all (fun r=>J1c r x.N)=false:=by rw [←hJ];rfl
   simp
   refine hret _ _ _ ?_
   simp [hJ]
  ·rw [h0,Bool.true_and] at hJ
   simp [hk,s18,hi,hg,hw]
   exact hR _ _ _ (by simp [hk]) (by simp) ⟨by omega,by simp [hn',e0],hJ⟩
 ·rintro s h n R hk s18 ⟨hn,e0,hJ⟩ hret hX
  simp at hk
  rw [List.drop_eq_nil_of_le (Nat.le_refl _)] at hJ
  simp [hk,s18]
  refine hX _ _ _ _ ?_
  rw [←hJ]
  simp
theorem J4v (x:DSystem):Holds Tryz.prog 258 [.agg (J0f x)] (fun r=>r = .bool (J7y x)):=by
 refine J1k Tryz.func258 rfl rfl fun hl => ?_
 simp [J0f] at hl
 refine J02 Tryz.func258 a258_ok rfl (by simp [a258]) ?_
 simp [a258,J0f]
 refine J4m [1] 3 x.Rows.length (fun i _=>(x.Rows.drop i).all (fun r=>J1c r x.N)=x.Rows.all (fun r=>J1c r x.N)) hl (by simp) rfl ?_ ?_
 ·rintro i s h R hi hg hk s3 hw hJ hh hR hret _
  simp at hk hh
  rw [List.drop_eq_getElem_cons hi,List.all_cons] at hJ
  simp [hk,s3,hi,hg,hh,hw]
  intro _
  first|refine J00 (J0p _ _) (by simp [J06]) ?_|refine J01 (J0p _ _) (by simp [J06]) ?_|refine J00 (J0p _ _) rfl ?_|refine J01 (J0p _ _) rfl ?_
  rintro r rfl
  cases h0:J1c x.Rows[i] x.N
  ·rw [h0] at hJ
   have hJ:x.Rows.all (fun r=>J1c r x.N)=false:=by rw [←hJ];rfl
   simp
   refine hret _ _ _ ?_
   simp [J7y,hJ]
  ·rw [h0,Bool.true_and] at hJ
   simp [hk,s3,hi,hg,hh,hw]
   exact hR _ (by simp [hk]) (by simp) hJ
 ·rintro s h R hk s3 hJ hh _ hX
  simp at hk hh
  rw [List.drop_eq_nil_of_le (Nat.le_refl _)] at hJ
  simp [hk,s3,hh]
  intro _
  refine hX _ _ ?_
  simp [hk,hh]
  first|refine J00 (J43 x.N 0 8) (by first|simp;done|rfl) ?_|refine J01 (J43 x.N 0 8) (by first|simp;done|rfl) ?_
  rintro r rfl
  unfold J7y
  rw [←hJ]
  cases h1:inR x.N 0 8
  ·simp
  simp [hk]
  intro _
  omega
def a309:AFn:= ⟨6,[.t 2],(.seq (.reg [Zo 2 (.mv (.k (.bool false)))]) (.seq (.reg [Zv 3 0,Zc 4 102 [.t 3,(.k (.int .i64 0)),(.k (.int .i64 1000000000))],Zo 5 (.un .not (.t 4)),Zv 2 5]) .ret))⟩
theorem a309_ok:J0a Tryz.prog Tryz.f309=some a309:=by kernel_rfl
def a278:AFn:= ⟨52,[(.c 4 true 2),.t 5],(.seq (.reg [Zo 2 (.boxv (.t 0)),Zo 4 (.box [(.int .i64 0),(.nil 1)]),Zo 5 (.mv (.k (.bool false)))]) (.seq (.seq (.reg [Zl 10 true 2 2,Zc 11 277 [.t 10],Zo 12 (.un .not (.t 11)),Zv 13 12,⟨some 14,.mv (.t 1),(some (13,false))⟩,⟨some 15,.len false (.t 14),(some (13,false))⟩,⟨some 16,.fld 1 (.t 2),(some (13,false))⟩,⟨some 17,.ld false 1 (.t 16),(some (13,false))⟩,⟨some 18,.len false (.t 17),(some (13,false))⟩,⟨some 19,.bin .neq (.t 15) (.t 18),(some (13,false))⟩,Zo 20 (.pick (.t 13) (.k (.bool true)) (.t 19)),Zv 21 20,⟨some 22,.mv (.t 1),(some (21,false))⟩,⟨some 23,.call (.k (.fn (.func 233) [] [])) [.t 22,(.k (.fn (.func 309) [] []))],(some (21,false))⟩,Zo 24 (.pick (.t 21) (.k (.bool true)) (.t 23))]) (.cond (.t 24) (.seq (.reg [Zo 25 (.build [(.int .i64 0),(.nil 1)] []),⟨no,.st 2 (.t 4) (.t 25),no⟩,Zo 5 (.mv (.k (.bool false)))]) .ret) .skip)) (.seq (.reg [Zf 26 0 2,Zl 27 false 1 26,Zc 28 178 [(.k (.int .i64 0)),.t 27],Zo 6 (.box [(.int .i64 0),(.nil 1)]),⟨no,.st 2 (.t 6) (.t 28),no⟩]) (.seq (.reg [Zo 7 (.mv (.k (.bool true)))]) (.seq (.seq (.reg [Zv 29 1,Zo 30 (.len false (.t 29)),Zo 31 (.mv (.k (.int .i64 0)))]) (.blk 0 (.loop (.seq (.reg [Zo 32 (.bin .lss (.t 31) (.t 30))]) (.seq (.cond (.t 32) .skip (.exit 0)) (.seq (.blk 1 (.seq (.reg [Zv 33 31,Zo 34 (.ixa 1 (.t 29) (.t 31)),Zl 35 false 1 34,Zv 8 33,Zv 9 35]) (.seq (.draw (.op (Zl 37 true 2 6) (.op (Zv 38 9) (.op (Zf 39 1 2) (.op (Zl 40 false 1 39) (.op (Zv 41 8) (.op (Zo 42 (.ixa 2 (.t 40) (.t 41))) (.op (Zl 43 true 2 42) (.op (Zc 44 193 [.t 37,.t 38,.t 43]) (.op (Zv 36 44) (.op (Zo 45 (.ext (.t 36) 0)) (.op (Zo 46 (.ext (.t 36) 1)) (.hop ⟨no,.st 2 (.t 6) (.t 45),no⟩ [] (.op (Zv 7 46) .fin)))))))))))))) (.seq (.reg [Zv 47 7,Zo 48 (.un .not (.t 47))]) (.cond (.t 48) (.seq (.reg [Zo 49 (.build [(.int .i64 0),(.nil 1)] []),⟨no,.st 2 (.t 4) (.t 49),no⟩,Zo 5 (.mv (.k (.bool false)))]) .ret) .skip))))) (.reg [Zo 50 (.bin .add (.t 31) (.k (.int .i64 1))),Zv 31 50]))))))) (.seq (.reg [Zl 51 true 2 6,⟨no,.st 2 (.t 4) (.t 51),no⟩,Zo 5 (.mv (.k (.bool true)))]) .ret))))))⟩
theorem a278_ok:J0a Tryz.prog Tryz.f278=some a278:=by kernel_rfl
def a275:AFn:= ⟨57,[(.c 4 true 2),.t 5],(.seq (.reg [Zo 2 (.boxv (.t 0)),Zo 4 (.box [(.int .i64 0),(.nil 1)]),Zo 5 (.mv (.k (.bool false)))]) (.seq (.seq (.reg [Zl 10 true 2 2,Zc 11 258 [.t 10],Zo 12 (.un .not (.t 11)),Zv 13 12,⟨some 14,.mv (.t 1),(some (13,false))⟩,⟨some 15,.len false (.t 14),(some (13,false))⟩,⟨some 16,.fld 1 (.t 2),(some (13,false))⟩,⟨some 17,.ld false 1 (.t 16),(some (13,false))⟩,⟨some 18,.len false (.t 17),(some (13,false))⟩,⟨some 19,.bin .neq (.t 15) (.t 18),(some (13,false))⟩,Zo 20 (.pick (.t 13) (.k (.bool true)) (.t 19))]) (.cond (.t 20) (.seq (.reg [Zo 21 (.build [(.int .i64 0),(.nil 1)] []),⟨no,.st 2 (.t 4) (.t 21),no⟩,Zo 5 (.mv (.k (.bool false)))]) .ret) .skip)) (.seq (.reg [Zf 22 0 2,Zl 23 false 1 22,Zc 24 99 [(.k (.int .i64 0)),.t 23],Zo 6 (.box [(.int .i64 0),(.nil 1)]),⟨no,.st 2 (.t 6) (.t 24),no⟩]) (.seq (.seq (.reg [Zo 7 (.mv (.k (.int .i64 0)))]) (.blk 0 (.loop (.seq (.seq (.reg [Zv 25 7,Zv 26 1,Zo 27 (.len false (.t 26)),Zo 28 (.bin .lss (.t 25) (.t 27))]) (.cond (.t 28) .skip (.exit 0))) (.seq (.blk 1 (.seq (.draw (.op (Zl 32 true 2 6) (.op (Zv 33 1) (.op (Zv 34 7) (.op (Zo 35 (.ixa 1 (.t 33) (.t 34))) (.op (Zl 36 false 1 35) (.op (Zf 37 1 2) (.op (Zl 38 false 1 37) (.op (Zv 39 7) (.op (Zo 40 (.ixa 2 (.t 38) (.t 39))) (.op (Zl 41 true 2 40) (.both (.op (Zc 42 98 [.t 32,.t 36,.t 41]) (.op (Zv 31 42) (.op (Zo 43 (.ext (.t 31) 0)) (.op (Zo 44 (.ext (.t 31) 1)) (.op (Zo 8 (.box [(.int .i64 0),(.nil 1)])) (.hop ⟨no,.st 2 (.t 8) (.t 43),no⟩ [] (.op (Zv 9 44) .fin))))))) (.op (Zo 8 (.box [(.int .i64 0),(.nil 1)])) (.op (Zc 42 98 [.t 32,.t 36,.t 41]) (.op (Zv 31 42) (.op (Zo 43 (.ext (.t 31) 0)) (.op (Zo 44 (.ext (.t 31) 1)) (.hop ⟨no,.st 2 (.t 8) (.t 43),no⟩ [] (.op (Zv 9 44) .fin))))))))))))))))))) (.seq (.seq (.reg [Zv 45 9,Zo 46 (.un .not (.t 45)),Zv 47 46,⟨some 48,.mv (.t 1),(some (47,false))⟩,⟨some 49,.mv (.t 7),(some (47,false))⟩,⟨some 50,.ixa 1 (.t 48) (.t 49),(some (47,false))⟩,⟨some 51,.ld false 1 (.t 50),(some (47,false))⟩,⟨some 52,.bin .lss (.t 51) (.k (.int .i64 0)),(some (47,false))⟩,Zo 53 (.pick (.t 47) (.k (.bool true)) (.t 52))]) (.cond (.t 53) (.seq (.reg [Zo 54 (.build [(.int .i64 0),(.nil 1)] []),⟨no,.st 2 (.t 4) (.t 54),no⟩,Zo 5 (.mv (.k (.bool false)))]) .ret) .skip)) (.reg [Zl 55 true 2 8,⟨no,.st 2 (.t 6) (.t 55),no⟩])))) (.reg [Zv 29 7,Zo 30 (.bin .add (.t 29) (.k (.int .i64 1))),Zv 7 30])))))) (.seq (.reg [Zl 56 true 2 6,⟨no,.st 2 (.t 4) (.t 56),no⟩,Zo 5 (.mv (.k (.bool true)))]) .ret)))))⟩
theorem a275_ok:J0a Tryz.prog Tryz.f275=some a275:=by kernel_rfl
def J8k:List (Int×DLin)→DLin→Option DLin
 | [],o=>some o
 | p::l,o=>match J0b o p.1 p.2 with
  | some o'=>if p.1<0 then Option.none else J8k l o'
  | Option.none=>Option.none
def J8p (x:DSystem) (m:List Int):Option DLin:=
 if J7y x&&decide (m.length=x.Rows.length) then J8k (m.zip x.Rows) (J04 0 x.N) else Option.none
theorem Jg0:∀ (l:List (Int×DLin)) (o:DLin),(∃ p∈l,inR p.1 0 1000000000=false)→J8k l o=Option.none
 | [],o,h=>by obtain ⟨p,hp,_⟩:=h;cases hp
 | q::l,o,h=>by
  obtain ⟨p,hp,hb⟩:=h
  simp only [J8k]
  split
  ·rename_i o' ho
   split
   ·rfl
   ·rename_i hq
    rcases List.mem_cons.1 hp with rfl|hp
    ·exfalso
     have hk:okC p.1=true:=by
      cases hc:okC p.1
      ·unfold J0b at ho;rw [hc] at ho;simp at ho
      ·rfl
     rw [J5m] at hk
     simp [inR] at hb
     omega
    ·exact Jg0 l o' ⟨p,hp,hb⟩
  ·rfl
theorem Jw6 {m:List Int}{rows:List DLin}(hl:m.length=rows.length) (h:m.all (fun v=>inR v 0 1000000000)=false):∃ p∈m.zip rows,inR p.1 0 1000000000=false:=by
 rw [List.all_eq_false] at h
 obtain ⟨v,hv,hb⟩:=h
 obtain ⟨i,hi,rfl⟩:=List.mem_iff_getElem.1 hv
 exact ⟨(m[i],rows[i]),List.mem_iff_getElem.2 ⟨i,by simp;omega,by simp⟩,by simpa using hb⟩
theorem Jew (n:Int):Holds Tryz.prog 309 [i64 n] (fun r=>r = .bool (!(inR n 0 1000000000))):=by
 refine J02 Tryz.func309 a309_ok rfl (by simp [a309]) ?_
 simp [a309]
 first|refine J00 (J1v n 0 1000000000) (by first|simp;done|rfl) ?_|refine J01 (J1v n 0 1000000000) (by first|simp;done|rfl) ?_
 rintro r rfl
 simp
set_option maxHeartbeats 1000000 in
theorem Jb8 (x:DSystem) (m:List Int):Holds Tryz.prog 278 [.agg (J0f x),.sl 1 (J0e m)] (fun r=>r=J0s (J8p x m)):=by
 refine J02 Tryz.func278 a278_ok rfl (by simp [a278]) ?_
 simp [a278,J0f]
 first|refine J00 (J3i x) (by first|simp [J0f];done|rfl) ?_|refine J01 (J3i x) (by first|simp [J0f];done|rfl) ?_
 rintro r rfl
 unfold J8p
 cases h1:J7y x
 ·simp [J0s,J1d,J07,J0e]
 simp
 intro hlm hlr
 by_cases h2:m.length=x.Rows.length
 case neg=>simp [h2,J0s,J1d,J07,J0e];omega
 simp [h2]
 refine J1e (p:=fun n => !(inR n 0 1000000000)) (rowOf:=fun n=>[i64 n]) (eltOf:=i64) Tryz.func233 a233_ok rfl Tryz.func292 a292_ok rfl (fun x=>by simp) m
  (fun x _=>J4n (Jew x) rfl rfl) ?_
 rw [J88 (fun n:Int=>inR n 0 1000000000)]
 cases h3:m.all (fun n=>inR n 0 1000000000)
 ·rw [Jg0 _ _ (Jw6 h2 h3)]
  simp [J0s,J1d,J07,J0e]
 simp
 first|refine J00 (J11 0 x.N) (by first|simp;done|rfl) ?_|refine J01 (J11 0 x.N) (by first|simp;done|rfl) ?_
 rintro r rfl
 simp [J07]
 intro _
 have hzl:(m.zip x.Rows).length=m.length:=by simp [h2]
 refine J0k [2,4,6,29,30] 31 m.length (fun i s h n=>h 0=some ⟨true,2,[[.int .i64 x.N,.sl 2 (x.Rows.map J06)]]⟩∧h 1=some ⟨true,2,[[.int .i64 0,.nil 1]]⟩∧3<n ∧
  ∃ (o:DLin) (id:Nat),h 3=some ⟨true,2,[[.int .i64 o.Const,.ref id 0 o.Coeffs.length]]⟩∧h id=some ⟨false,1,J0e o.Coeffs⟩∧id<n∧(id=2∨3<id)∧J8k ((m.zip x.Rows).drop i) o=J8k (m.zip x.Rows) (J04 0 x.N))
  hlm (by simp) ⟨by simp,by simp,by simp,J04 0 x.N,2,by simp,by simp,by omega,by omega,rfl⟩ ?_ ?_
 ·rintro i s h n R hi hg hk s31 hw ⟨e0,e1,hn,o,id,e3,eid,hidn,hid,hJ⟩ hR hret _
  simp at hk
  have hir:i<x.Rows.length:=by omega
  rw [List.drop_eq_getElem_cons (by omega:i<(m.zip x.Rows).length)] at hJ
  simp only [J8k,List.getElem_zip] at hJ
  have hm:=List.all_eq_true.1 h3 _ (List.getElem_mem hi)
  simp [inR] at hm
  have n0:¬0=n:=by omega
  have n1:¬1=n:=by omega
  have n3:¬3=n:=by omega
  have n3':¬n=3:=by omega
  have nid:¬id=n:=by omega
  simp [hk,s31,hi,hg,hw,hir,e0,e1,e3,eid]
  first|refine J00 (J0q o (m[i]'hi) (x.Rows[i]'hir)) (by first|simp [J06,eid];done|rfl) ?_|refine J01 (J0q o (m[i]'hi) (x.Rows[i]'hir)) (by first|simp [J06,eid];done|rfl) ?_
  rintro r rfl
  cases ho:J0b o m[i] x.Rows[i]
  ·rw [ho] at hJ
   simp [J0s,J1d,J07,hk,e0,e1,e3,n0,n1,n3,n3']
   refine hret _ _ _ ?_
   simp [hk,←hJ,J0s,J1d,J07,J0e]
  ·rename_i o'
   rw [ho] at hJ
   simp only at hJ
   rw [if_neg (by omega)] at hJ
   simp [J0s,J07,hk,s31,hw,e0,e1,e3,n0,n1,n3,n3']
   exact hR _ _ _ (by simp [hk]) (by simp) ⟨by simp [e0,n0],by simp [e1,n1],by omega,o',n,by simp,by simp [n3'],by omega,by omega,hJ⟩
 ·rintro s h n R hk s31 ⟨e0,e1,hn,o,id,e3,eid,hidn,hid,hJ⟩ hret hX
  simp at hk
  rw [List.drop_eq_nil_of_le (by omega)] at hJ
  simp only [J8k] at hJ
  simp [hk,s31]
  refine hX _ _ _ _ ?_
  have i1:¬1=id:=by omega
  have i1':¬id=1:=by omega
  simp [hk,e1,e3,eid,←hJ,J0s,J07,i1,i1']
theorem Ja1 (x:DSystem) (m:List Int):Holds Tryz.prog 275 [.agg (J0f x),.sl 1 (J0e m)] (fun r=>r=J0s (J8p x m)):=by
 refine J1k Tryz.func275 rfl rfl fun hlm => ?_
 simp [J0f] at hlm
 refine J02 Tryz.func275 a275_ok rfl (by simp [a275]) ?_
 simp [a275,J0f]
 first|refine J00 (J4v x) (by first|simp [J0f];done|rfl) ?_|refine J01 (J4v x) (by first|simp [J0f];done|rfl) ?_
 rintro r rfl
 unfold J8p
 cases h1:J7y x
 ·simp [J0s,J1d,J07,J0e]
 simp
 intro _ _
 by_cases h2:m.length=x.Rows.length
 case neg=>simp [h2,J0s,J1d,J07,J0e];omega
 simp [h2]
 first|refine J00 (J13 0 x.N) (by first|simp;done|rfl) ?_|refine J01 (J13 0 x.N) (by first|simp;done|rfl) ?_
 rintro r rfl
 simp [J07]
 have hzl:(m.zip x.Rows).length=m.length:=by simp [h2]
 refine J0k [1,2,4,6] 7 m.length (fun i s h n=>h 0=some ⟨true,2,[[.int .i64 x.N,.sl 2 (x.Rows.map J06)]]⟩∧h 1=some ⟨true,2,[[.int .i64 0,.nil 1]]⟩∧3<n ∧
  ∃ (o:DLin) (id:Nat),h 3=some ⟨true,2,[[.int .i64 o.Const,.ref id 0 o.Coeffs.length]]⟩∧h id=some ⟨false,1,J0e o.Coeffs⟩∧id<n∧(id=2∨3<id)∧J8k ((m.zip x.Rows).drop i) o=J8k (m.zip x.Rows) (J04 0 x.N))
  hlm.2 (by simp) ⟨by simp,by simp,by simp,J04 0 x.N,2,by simp,by simp,by omega,by omega,rfl⟩ ?_ ?_
 ·rintro i s h n R hi hg hk s7 hw ⟨e0,e1,hn,o,id,e3,eid,hidn,hid,hJ⟩ hR hret _
  simp at hk
  have hir:i<x.Rows.length:=by omega
  rw [List.drop_eq_getElem_cons (by omega:i<(m.zip x.Rows).length)] at hJ
  simp only [J8k,List.getElem_zip] at hJ
  have n0:¬0=n:=by omega
  have n1:¬1=n:=by omega
  have n3:¬3=n:=by omega
  have n3':¬n=3:=by omega
  have nid:¬id=n:=by omega
  have m0:¬0=n+1:=by omega
  have m1:¬1=n+1:=by omega
  have m3:¬3=n+1:=by omega
  have m3':¬n+1=3:=by omega
  have mid:¬id=n+1:=by omega
  have z0:¬n=0:=by omega
  have z2:¬n=2:=by omega
  simp [hk,s7,hi,hg,hir,e0,e1,e3,eid]
  intro _
  constructor
  ·skip
   first|refine J00 (J0m o (m[i]'hi) (x.Rows[i]'hir)) (by first|simp [J06,eid];done|rfl) ?_|refine J01 (J0m o (m[i]'hi) (x.Rows[i]'hir)) (by first|simp [J06,eid];done|rfl) ?_
   rintro r rfl
   cases ho:J0b o m[i] x.Rows[i]
   ·rw [ho] at hJ
    simp [J0s,J1d,J07,hk,s7,hi,e0,e1,e3,n0,n1,n3,n3',z0,z2]
    refine hret _ _ _ ?_
    simp [hk,←hJ,J0s,J1d,J07,J0e]
   ·rename_i o'
    rw [ho] at hJ
    simp only at hJ
    simp [J0s,J07,hk,s7,hi,hw,e0,e1,e3,n0,n1,n3,n3',z0,z2]
    refine ⟨fun hm => ?_,fun hm => ?_⟩
    ·rw [if_pos hm] at hJ
     refine hret _ _ _ ?_
     simp [hk,←hJ,J0s,J1d,J07,J0e]
    ·rw [if_neg (by omega)] at hJ
     exact hR _ _ _ (by simp [hk]) (by simp) ⟨by simp [e0,n0],by simp [e1,n1,z0],by omega,o',n,by simp,by simp [n3'],by omega,by omega,hJ⟩
  ·skip
   first|refine J00 (J0m o (m[i]'hi) (x.Rows[i]'hir)) (by first|simp [J06,eid,mid,nid];done|rfl) ?_|refine J01 (J0m o (m[i]'hi) (x.Rows[i]'hir)) (by first|simp [J06,eid,mid,nid];done|rfl) ?_
   rintro r rfl
   cases ho:J0b o m[i] x.Rows[i]
   ·rw [ho] at hJ
    simp [J0s,J1d,J07,hk,s7,hi,e0,e1,e3,n0,n1,n3,n3',z0,z2]
    refine hret _ _ _ ?_
    simp [hk,←hJ,J0s,J1d,J07,J0e]
   ·rename_i o'
    rw [ho] at hJ
    simp only at hJ
    simp [J0s,J07,hk,s7,hi,hw,e0,e1,e3,n0,n1,n3,n3',z0,z2]
    refine ⟨fun hm => ?_,fun hm => ?_⟩
    ·rw [if_pos hm] at hJ
     refine hret _ _ _ ?_
     simp [hk,←hJ,J0s,J1d,J07,J0e]
    ·rw [if_neg (by omega)] at hJ
     exact hR _ _ _ (by simp [hk]) (by simp) ⟨by simp [e0,n0],by simp [e1,n1,z0],by omega,o',n+1,by simp,by simp [z2],by omega,by omega,hJ⟩
 ·rintro s h n R hk s7 ⟨e0,e1,hn,o,id,e3,eid,hidn,hid,hJ⟩ hret hX
  simp at hk
  rw [List.drop_eq_nil_of_le (by omega)] at hJ
  simp only [J8k] at hJ
  simp [hk,s7]
  intro _
  refine hX _ _ _ _ ?_
  have i1:¬1=id:=by omega
  have i1':¬id=1:=by omega
  simp [hk,e1,e3,eid,←hJ,J0s,J07,i1,i1']
def a196:AFn:= ⟨66,[.t 6],(.seq (.reg [Zo 3 (.boxv (.t 0)),Zo 4 (.boxv (.t 1)),Zo 5 (.boxv (.t 2)),Zo 6 (.mv (.k (.bool false)))]) (.seq (.seq (.reg [Zl 13 true 2 3,Zc 14 277 [.t 13],Zo 15 (.un .not (.t 14)),Zv 16 15,⟨some 17,.ld true 2 (.t 4),(some (16,false))⟩,⟨some 18,.fld 0 (.t 3),(some (16,false))⟩,⟨some 19,.ld false 1 (.t 18),(some (16,false))⟩,⟨some 20,.call (.k (.fn (.func 146) [] [])) [.t 17,.t 19],(some (16,false))⟩,⟨some 21,.un .not (.t 20),(some (16,false))⟩,Zo 22 (.pick (.t 16) (.k (.bool true)) (.t 21)),Zv 23 22,⟨some 24,.fld 0 (.t 5),(some (23,false))⟩,⟨some 25,.ld false 1 (.t 24),(some (23,false))⟩,⟨some 26,.call (.k (.fn (.func 102) [] [])) [.t 25,(.k (.int .i64 0)),(.k (.int .i64 1000000000))],(some (23,false))⟩,⟨some 27,.un .not (.t 26),(some (23,false))⟩,Zo 28 (.pick (.t 23) (.k (.bool true)) (.t 27))]) (.cond (.t 28) (.seq (.reg [Zo 6 (.mv (.k (.bool false)))]) .ret) .skip)) (.seq (.reg [Zl 30 true 2 3,Zf 31 1 5,Zl 32 false 1 31,Zc 33 278 [.t 30,.t 32],Zv 29 33,Zo 34 (.ext (.t 29) 0),Zo 35 (.ext (.t 29) 1),Zo 7 (.box [(.int .i64 0),(.nil 1)]),⟨no,.st 2 (.t 7) (.t 34),no⟩,Zv 8 35]) (.seq (.reg [Zl 37 true 2 4,Zc 38 189 [.t 37,(.k (.int .i64 1))],Zv 36 38,Zo 39 (.ext (.t 36) 0),Zo 40 (.ext (.t 36) 1),Zo 9 (.box [(.int .i64 0),(.nil 1)]),⟨no,.st 2 (.t 9) (.t 39),no⟩,Zv 10 40]) (.seq (.seq (.reg [Zv 41 8,Zo 42 (.un .not (.t 41)),Zv 43 42,⟨some 44,.mv (.t 10),(some (43,false))⟩,⟨some 45,.un .not (.t 44),(some (43,false))⟩,Zo 46 (.pick (.t 43) (.k (.bool true)) (.t 45))]) (.cond (.t 46) (.seq (.reg [Zo 6 (.mv (.k (.bool false)))]) .ret) .skip)) (.seq (.reg [Zl 48 true 2 7,Zf 49 0 5,Zl 50 false 1 49,Zo 51 (.un .neg (.t 50)),Zl 52 true 2 9,Zc 53 193 [.t 48,.t 51,.t 52],Zv 47 53,Zo 54 (.ext (.t 47) 0),Zo 55 (.ext (.t 47) 1),Zo 11 (.box [(.int .i64 0),(.nil 1)]),⟨no,.st 2 (.t 11) (.t 54),no⟩,Zv 12 55]) (.seq (.reg [Zv 56 12,Zv 57 56,⟨some 58,.ld true 2 (.t 11),(some (57,true))⟩,⟨some 59,.call (.k (.fn (.func 279) [] [])) [.t 58],(some (57,true))⟩,Zo 60 (.pick (.t 57) (.t 59) (.k (.bool false))),Zv 61 60,⟨some 62,.fld 0 (.t 11),(some (61,true))⟩,⟨some 63,.ld false 1 (.t 62),(some (61,true))⟩,⟨some 64,.bin .lss (.t 63) (.k (.int .i64 0)),(some (61,true))⟩,Zo 65 (.pick (.t 61) (.t 64) (.k (.bool false))),Zv 6 65]) .ret)))))))⟩
theorem a196_ok:J0a Tryz.prog Tryz.f196=some a196:=by kernel_rfl
def a195:AFn:= ⟨65,[.t 6],(.seq (.reg [Zo 3 (.boxv (.t 0)),Zo 4 (.boxv (.t 1)),Zo 5 (.boxv (.t 2)),Zo 6 (.mv (.k (.bool false)))]) (.seq (.reg [Zl 14 true 2 3,Zf 15 1 5,Zl 16 false 1 15,Zc 17 275 [.t 14,.t 16],Zv 13 17,Zo 18 (.ext (.t 13) 0),Zo 19 (.ext (.t 13) 1),Zo 7 (.box [(.int .i64 0),(.nil 1)]),⟨no,.st 2 (.t 7) (.t 18),no⟩,Zv 8 19]) (.seq (.seq (.reg [Zv 20 8,Zo 21 (.un .not (.t 20)),Zv 22 21,⟨some 23,.ld true 2 (.t 4),(some (22,false))⟩,⟨some 24,.fld 0 (.t 3),(some (22,false))⟩,⟨some 25,.ld false 1 (.t 24),(some (22,false))⟩,⟨some 26,.call (.k (.fn (.func 179) [] [])) [.t 23,.t 25],(some (22,false))⟩,⟨some 27,.un .not (.t 26),(some (22,false))⟩,Zo 28 (.pick (.t 22) (.k (.bool true)) (.t 27)),Zv 29 28,⟨some 30,.fld 0 (.t 5),(some (29,false))⟩,⟨some 31,.ld false 1 (.t 30),(some (29,false))⟩,⟨some 32,.call (.k (.fn (.func 183) [] [])) [.t 31,(.k (.int .i64 0)),(.k (.int .i64 1000000000))],(some (29,false))⟩,⟨some 33,.un .not (.t 32),(some (29,false))⟩,Zo 34 (.pick (.t 29) (.k (.bool true)) (.t 33))]) (.cond (.t 34) (.seq (.reg [Zo 6 (.mv (.k (.bool false)))]) .ret) .skip)) (.seq (.draw (.op (Zl 36 true 2 4) (.op (Zf 37 0 3) (.op (Zl 38 false 1 37) (.both (.op (Zc 39 99 [(.k (.int .i64 1)),.t 38]) (.both (.op (Zc 40 98 [.t 36,(.k (.int .i64 1)),.t 39]) (.op (Zv 35 40) (.op (Zo 41 (.ext (.t 35) 0)) (.op (Zo 42 (.ext (.t 35) 1)) (.op (Zo 9 (.box [(.int .i64 0),(.nil 1)])) (.hop ⟨no,.st 2 (.t 9) (.t 41),no⟩ [] (.op (Zv 10 42) .fin))))))) (.op (Zo 9 (.box [(.int .i64 0),(.nil 1)])) (.op (Zc 40 98 [.t 36,(.k (.int .i64 1)),.t 39]) (.op (Zv 35 40) (.op (Zo 41 (.ext (.t 35) 0)) (.op (Zo 42 (.ext (.t 35) 1)) (.hop ⟨no,.st 2 (.t 9) (.t 41),no⟩ [] (.op (Zv 10 42) .fin))))))))) (.op (Zo 9 (.box [(.int .i64 0),(.nil 1)])) (.op (Zc 39 99 [(.k (.int .i64 1)),.t 38]) (.op (Zc 40 98 [.t 36,(.k (.int .i64 1)),.t 39]) (.op (Zv 35 40) (.op (Zo 41 (.ext (.t 35) 0)) (.op (Zo 42 (.ext (.t 35) 1)) (.hop ⟨no,.st 2 (.t 9) (.t 41),no⟩ [] (.op (Zv 10 42) .fin))))))))))))) (.seq (.reg [Zl 44 true 2 7,Zf 45 0 5,Zl 46 false 1 45,Zo 47 (.bin .sub (.k (.int .i64 0)) (.t 46)),Zl 48 true 2 9,Zc 49 98 [.t 44,.t 47,.t 48],Zv 43 49,Zo 50 (.ext (.t 43) 0),Zo 51 (.ext (.t 43) 1),Zo 11 (.box [(.int .i64 0),(.nil 1)]),⟨no,.st 2 (.t 11) (.t 50),no⟩,Zv 12 51]) (.seq (.reg [Zv 52 10,Zv 53 52,⟨some 54,.mv (.t 12),(some (53,true))⟩,Zo 55 (.pick (.t 53) (.t 54) (.k (.bool false))),Zv 56 55,⟨some 57,.ld true 2 (.t 11),(some (56,true))⟩,⟨some 58,.call (.k (.fn (.func 276) [] [])) [.t 57],(some (56,true))⟩,Zo 59 (.pick (.t 56) (.t 58) (.k (.bool false))),Zv 60 59,⟨some 61,.fld 0 (.t 11),(some (60,true))⟩,⟨some 62,.ld false 1 (.t 61),(some (60,true))⟩,⟨some 63,.bin .lss (.t 62) (.k (.int .i64 0)),(some (60,true))⟩,Zo 64 (.pick (.t 60) (.t 63) (.k (.bool false))),Zv 6 64]) .ret))))))⟩
theorem a195_ok:J0a Tryz.prog Tryz.f195=some a195:=by kernel_rfl
def Jbu (x:DSystem) (t:DLin) (f:DFarkas):Option DLin:=J0b ((J8p x f.Mult).getD J1d) (-f.Scale) ((J7h t 1).getD J1d)
def J7b (x:DSystem) (t:DLin) (f:DFarkas):Bool:=
 (J8p x f.Mult).isSome&&J1c t x.N&&inR f.Scale 0 1000000000&&(J7h t 1).isSome&&(Jbu x t f).isSome&&J8z ((Jbu x t f).getD J1d)&&decide (((Jbu x t f).getD J1d).Const<0)
theorem Jsj {x:DSystem}{m:List Int}(h:(J8p x m).isSome=true):J7y x=true:=by
 unfold J8p at h
 cases hs:J7y x
 ·rw [hs] at h;simp at h
 ·rfl
theorem Jr6 {t:DLin}{n:Int}(h:J1c t n=true):J0b t 1 (J04 1 n)=J7h t 1:=by
 have hl:=J1t h
 have hc:J04 1 n=⟨1,List.replicate n.toNat 0⟩:=by
  unfold J04
  rw [if_pos (by simp [inR,okC];omega)]
 have hz:∀ c,okC c=true→J24 c 1 0=some c:=fun c hc=>by
  have h0:okC 0=true:=by decide
  have h1:okC 1=true:=by decide
  simp [J24,J63,Jcf,h0,h1,hc]
 have h1:J24 t.Const 1 1=if (Jcf t.Const 1).2 then some (Jcf t.Const 1).1 else Option.none:=by
  have h1:okC 1=true:=by decide
  simp [J24,J63,h1]
 have hok:J1c t t.Coeffs.length=true:=by rw [hl.1];exact h
 have hok2:J1c (J04 1 n) t.Coeffs.length=true:=by
  rw [hc];unfold J1c
  simp [inR]
  exact ⟨⟨⟨by omega,by omega⟩,by decide⟩,.inr (by decide)⟩
 have hall:t.Coeffs.all okC=true:=by
  unfold J1c at h;simp at h;simpa using h.2
 have hZ:J4i t 1 (J04 1 n)=t.Coeffs.map some:=by
  rw [hc]
  unfold J4i
  refine List.ext_getElem (by simp;omega) fun i h1 h2 => ?_
  simp
  exact hz _ (List.all_eq_true.1 hall _ (List.getElem_mem _))
 have hO:Jcg t 1 (J04 1 n)=true:=by unfold Jcg;rw [hZ];simp
 unfold J0b J7h
 rw [hok,hok2,hO,hZ]
 have hc1:(J04 1 n).Const=1:=by rw [hc]
 rw [hc1,h1]
 have h11:okC 1=true:=by decide
 rw [h11]
 cases (Jcf t.Const 1).2 <;> simp [Function.comp_def]
theorem Jh5 (x:DSystem) (t:DLin) (f:DFarkas):Holds Tryz.prog 196 [.agg (J0f x),.agg (J06 t),.agg (J45 f)] (fun r=>r = .bool (J7b x t f)):=by
 refine J02 Tryz.func196 a196_ok rfl (by simp [a196]) ?_
 simp [a196,J0f,J06,J45]
 first|refine J00 (J3i x) (by first|simp [J0f];done|rfl) ?_|refine J01 (J3i x) (by first|simp [J0f];done|rfl) ?_
 rintro r rfl
 unfold J7b
 cases h1:J7y x
 ·have h1':(J8p x f.Mult).isSome=false:=by
   cases hc:(J8p x f.Mult).isSome
   ·rfl
   ·rw [Jsj hc] at h1;cases h1
  simp [h1']
 simp
 first|refine J00 (J0z t x.N) (by first|simp [J06];done|rfl) ?_|refine J01 (J0z t x.N) (by first|simp [J06];done|rfl) ?_
 rintro r rfl
 cases h2:J1c t x.N
 ·simp
 simp
 first|refine J00 (J1v f.Scale 0 1000000000) (by first|simp;done|rfl) ?_|refine J01 (J1v f.Scale 0 1000000000) (by first|simp;done|rfl) ?_
 rintro r rfl
 cases h3:inR f.Scale 0 1000000000
 ·simp
 have hs:0≤f.Scale∧f.Scale≤1000000000:=by simpa [inR] using h3
 simp
 first|refine J00 (Jb8 x f.Mult) (by first|simp [J0f];done|rfl) ?_|refine J01 (Jb8 x f.Mult) (by first|simp [J0f];done|rfl) ?_
 rintro r rfl
 rw [J0o]
 generalize hb1:(J8p x f.Mult).isSome=b1
 simp [J07]
 first|refine J00 (Jlb t 1) (by first|simp [J06];done|rfl) ?_|refine J01 (Jlb t 1) (by first|simp [J06];done|rfl) ?_
 rintro r rfl
 rw [J0o]
 generalize hb2:(J7h t 1).isSome=b2
 cases b1
 ·simp [J07]
 cases b2
 ·simp [J07]
 simp [J07]
 rw [J19 (by omega)]
 first|refine J00 (J0q ((J8p x f.Mult).getD J1d) (-f.Scale) ((J7h t 1).getD J1d)) (by first|simp [J06];done|rfl) ?_|refine J01 (J0q ((J8p x f.Mult).getD J1d) (-f.Scale) ((J7h t 1).getD J1d)) (by first|simp [J06];done|rfl) ?_
 rintro r rfl
 rw [show J0b ((J8p x f.Mult).getD J1d) (-f.Scale) ((J7h t 1).getD J1d)=Jbu x t f from rfl,J0o]
 generalize hb3:(Jbu x t f).isSome=b3
 cases b3
 ·simp [J07]
 simp [J07]
 first|refine J00 (Jc0 ((Jbu x t f).getD J1d)) (by first|simp [J06];done|rfl) ?_|refine J01 (Jc0 ((Jbu x t f).getD J1d)) (by first|simp [J06];done|rfl) ?_
 rintro r rfl
 cases h7:J8z ((Jbu x t f).getD J1d) <;> simp
theorem Jes (x:DSystem) (t:DLin) (f:DFarkas):Holds Tryz.prog 195 [.agg (J0f x),.agg (J06 t),.agg (J45 f)] (fun r=>r = .bool (J7b x t f)):=by
 refine J02 Tryz.func195 a195_ok rfl (by simp [a195]) ?_
 simp [a195,J0f,J06,J45]
 first|refine J00 (Ja1 x f.Mult) (by first|simp [J0f];done|rfl) ?_|refine J01 (Ja1 x f.Mult) (by first|simp [J0f];done|rfl) ?_
 rintro r rfl
 rw [J0o]
 unfold J7b
 generalize hb1:(J8p x f.Mult).isSome=b1
 cases b1
 ·simp [J07]
 simp [J07]
 first|refine J00 (J0p t x.N) (by first|simp [J06];done|rfl) ?_|refine J01 (J0p t x.N) (by first|simp [J06];done|rfl) ?_
 rintro r rfl
 cases h2:J1c t x.N
 ·simp
 simp
 first|refine J00 (J43 f.Scale 0 1000000000) (by first|simp;done|rfl) ?_|refine J01 (J43 f.Scale 0 1000000000) (by first|simp;done|rfl) ?_
 rintro r rfl
 cases h3:inR f.Scale 0 1000000000
 ·simp
 have hs:0≤f.Scale∧f.Scale≤1000000000:=by simpa [inR] using h3
 simp
 refine ⟨?_,?_⟩
 all_goals
  first|refine J00 (J13 1 x.N) (by first|simp;done|rfl) ?_|refine J01 (J13 1 x.N) (by first|simp;done|rfl) ?_
  rintro r rfl
  simp [J07]
 refine And.intro ?_ ?_
 all_goals
  first|refine J00 (J0m t 1 (J04 1 x.N)) (by first|simp [J06];done|rfl) ?_|refine J01 (J0m t 1 (J04 1 x.N)) (by first|simp [J06];done|rfl) ?_
  rintro r rfl
  rw [Jr6 h2,J0o]
  generalize hb2:(J7h t 1).isSome=b2
  simp [J07]
  rw [J19 (by omega)]
  first|refine J00 (J0m ((J8p x f.Mult).getD J1d) (-f.Scale) ((J7h t 1).getD J1d)) (by first|simp [J06];done|rfl) ?_|refine J01 (J0m ((J8p x f.Mult).getD J1d) (-f.Scale) ((J7h t 1).getD J1d)) (by first|simp [J06];done|rfl) ?_
  rintro r rfl
  rw [show J0b ((J8p x f.Mult).getD J1d) (-f.Scale) ((J7h t 1).getD J1d)=Jbu x t f from rfl,J0o]
  generalize hb3:(Jbu x t f).isSome=b3
  cases b2
  ·simp [J07]
  cases b3
  ·simp [J07]
  simp [J07]
  first|refine J00 (Jb5 ((Jbu x t f).getD J1d)) (by first|simp [J06];done|rfl) ?_|refine J01 (Jb5 ((Jbu x t f).getD J1d)) (by first|simp [J06];done|rfl) ?_
  rintro r rfl
  cases h7:J8z ((Jbu x t f).getD J1d) <;> simp
end Go.Proofs.YtoclolkigjbcgaaGreat

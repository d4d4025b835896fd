/- Contracts: whole numbers within limits, linear expressions. -/
import Derived.Test.YtoclolkigjbcgaaGreatXT1
import Derived.Test.YtoclolkigjbcgaaGreatProg
import Derived.Test.YtoclolkigjbcgaaGreatXRE
namespace Go.Proofs.YtoclolkigjbcgaaGreat
set_option maxRecDepth 40000
set_option maxHeartbeats 4000000
open Go Go.RowKit Go.Proofs
set_option linter.all false
def a102:AFn:= ⟨15,[.t 6],(.seq (.reg [Zo 6 (.mv (.k (.bool false)))]) (.seq (.reg [Zv 7 0,Zv 8 1,Zo 9 (.bin .geq (.t 7) (.t 8)),Zv 10 9,⟨some 11,.mv (.t 0),(some (10,true))⟩,⟨some 12,.mv (.t 2),(some (10,true))⟩,⟨some 13,.bin .leq (.t 11) (.t 12),(some (10,true))⟩,Zo 14 (.pick (.t 10) (.t 13) (.k (.bool false))),Zv 6 14]) .ret))⟩
theorem a102_ok:J06 Tryz.prog Tryz.f102=some a102:=by kernel_rfl
def a232:AFn:= ⟨5,[.t 2],(.seq (.reg [Zo 2 (.mv (.k (.bool false)))]) (.seq (.reg [Zv 3 0,Zc 4 102 [.t 3,(.k (.int .i64 (-1000000000))),(.k (.int .i64 1000000000))],Zv 2 4]) .ret))⟩
theorem a232_ok:J06 Tryz.prog Tryz.f232=some a232:=by kernel_rfl
def a183:AFn:= ⟨15,[.t 6],(.seq (.reg [Zo 6 (.mv (.k (.bool false)))]) (.seq (.reg [Zv 7 0,Zv 8 1,Zo 9 (.bin .geq (.t 7) (.t 8)),Zv 10 9,⟨some 11,.mv (.t 0),(some (10,true))⟩,⟨some 12,.mv (.t 2),(some (10,true))⟩,⟨some 13,.bin .leq (.t 11) (.t 12),(some (10,true))⟩,Zo 14 (.pick (.t 10) (.t 13) (.k (.bool false))),Zv 6 14]) .ret))⟩
theorem a183_ok:J06 Tryz.prog Tryz.f183=some a183:=by kernel_rfl
def a181:AFn:= ⟨5,[.t 2],(.seq (.reg [Zo 2 (.mv (.k (.bool false)))]) (.seq (.reg [Zv 3 0,Zc 4 183 [.t 3,(.k (.int .i64 (-1000000000))),(.k (.int .i64 1000000000))],Zv 2 4]) .ret))⟩
theorem a181_ok:J06 Tryz.prog Tryz.f181=some a181:=by kernel_rfl
def a271:AFn:= ⟨24,[.t 4,.t 5],(.seq (.reg [Zo 4 (.mv (.k (.int .i64 0))),Zo 5 (.mv (.k (.bool false)))]) (.seq (.seq (.reg [Zv 6 0,Zc 7 232 [.t 6],Zo 8 (.un .not (.t 7)),Zv 9 8,⟨some 10,.mv (.t 1),(some (9,false))⟩,⟨some 11,.call (.k (.fn (.func 232) [] [])) [.t 10],(some (9,false))⟩,⟨some 12,.un .not (.t 11),(some (9,false))⟩,Zo 13 (.pick (.t 9) (.k (.bool true)) (.t 12)),Zv 14 13,⟨some 15,.mv (.t 0),(some (14,false))⟩,⟨some 16,.mv (.t 1),(some (14,false))⟩,⟨some 17,.bin .add (.t 15) (.t 16),(some (14,false))⟩,⟨some 18,.call (.k (.fn (.func 232) [] [])) [.t 17],(some (14,false))⟩,⟨some 19,.un .not (.t 18),(some (14,false))⟩,Zo 20 (.pick (.t 14) (.k (.bool true)) (.t 19))]) (.cond (.t 20) (.seq (.reg [Zo 4 (.mv (.k (.int .i64 0))),Zo 5 (.mv (.k (.bool false)))]) .ret) .skip)) (.seq (.reg [Zv 21 0,Zv 22 1,Zo 23 (.bin .add (.t 21) (.t 22)),Zv 4 23,Zo 5 (.mv (.k (.bool true)))]) .ret)))⟩
theorem a271_ok:J06 Tryz.prog Tryz.f271=some a271:=by kernel_rfl
def a308:AFn:= ⟨24,[.t 4,.t 5],(.seq (.reg [Zo 4 (.mv (.k (.int .i64 0))),Zo 5 (.mv (.k (.bool false)))]) (.seq (.seq (.reg [Zv 6 0,Zc 7 232 [.t 6],Zo 8 (.un .not (.t 7)),Zv 9 8,⟨some 10,.mv (.t 1),(some (9,false))⟩,⟨some 11,.call (.k (.fn (.func 232) [] [])) [.t 10],(some (9,false))⟩,⟨some 12,.un .not (.t 11),(some (9,false))⟩,Zo 13 (.pick (.t 9) (.k (.bool true)) (.t 12)),Zv 14 13,⟨some 15,.mv (.t 0),(some (14,false))⟩,⟨some 16,.mv (.t 1),(some (14,false))⟩,⟨some 17,.bin .mul (.t 15) (.t 16),(some (14,false))⟩,⟨some 18,.call (.k (.fn (.func 232) [] [])) [.t 17],(some (14,false))⟩,⟨some 19,.un .not (.t 18),(some (14,false))⟩,Zo 20 (.pick (.t 14) (.k (.bool true)) (.t 19))]) (.cond (.t 20) (.seq (.reg [Zo 4 (.mv (.k (.int .i64 0))),Zo 5 (.mv (.k (.bool false)))]) .ret) .skip)) (.seq (.reg [Zv 21 0,Zv 22 1,Zo 23 (.bin .mul (.t 21) (.t 22)),Zv 4 23,Zo 5 (.mv (.k (.bool true)))]) .ret)))⟩
theorem a308_ok:J06 Tryz.prog Tryz.f308=some a308:=by kernel_rfl
def a264:AFn:= ⟨24,[.t 4,.t 5],(.seq (.reg [Zo 4 (.mv (.k (.int .i64 0))),Zo 5 (.mv (.k (.bool false)))]) (.seq (.seq (.reg [Zv 6 0,Zc 7 181 [.t 6],Zo 8 (.un .not (.t 7)),Zv 9 8,⟨some 10,.mv (.t 1),(some (9,false))⟩,⟨some 11,.call (.k (.fn (.func 181) [] [])) [.t 10],(some (9,false))⟩,⟨some 12,.un .not (.t 11),(some (9,false))⟩,Zo 13 (.pick (.t 9) (.k (.bool true)) (.t 12)),Zv 14 13,⟨some 15,.mv (.t 0),(some (14,false))⟩,⟨some 16,.mv (.t 1),(some (14,false))⟩,⟨some 17,.bin .add (.t 15) (.t 16),(some (14,false))⟩,⟨some 18,.call (.k (.fn (.func 181) [] [])) [.t 17],(some (14,false))⟩,⟨some 19,.un .not (.t 18),(some (14,false))⟩,Zo 20 (.pick (.t 14) (.k (.bool true)) (.t 19))]) (.cond (.t 20) (.seq (.reg [Zo 4 (.mv (.k (.int .i64 0))),Zo 5 (.mv (.k (.bool false)))]) .ret) .skip)) (.seq (.reg [Zv 21 0,Zv 22 1,Zo 23 (.bin .add (.t 21) (.t 22)),Zv 4 23,Zo 5 (.mv (.k (.bool true)))]) .ret)))⟩
theorem a264_ok:J06 Tryz.prog Tryz.f264=some a264:=by kernel_rfl
def a263:AFn:= ⟨24,[.t 4,.t 5],(.seq (.reg [Zo 4 (.mv (.k (.int .i64 0))),Zo 5 (.mv (.k (.bool false)))]) (.seq (.seq (.reg [Zv 6 0,Zc 7 181 [.t 6],Zo 8 (.un .not (.t 7)),Zv 9 8,⟨some 10,.mv (.t 1),(some (9,false))⟩,⟨some 11,.call (.k (.fn (.func 181) [] [])) [.t 10],(some (9,false))⟩,⟨some 12,.un .not (.t 11),(some (9,false))⟩,Zo 13 (.pick (.t 9) (.k (.bool true)) (.t 12)),Zv 14 13,⟨some 15,.mv (.t 0),(some (14,false))⟩,⟨some 16,.mv (.t 1),(some (14,false))⟩,⟨some 17,.bin .mul (.t 15) (.t 16),(some (14,false))⟩,⟨some 18,.call (.k (.fn (.func 181) [] [])) [.t 17],(some (14,false))⟩,⟨some 19,.un .not (.t 18),(some (14,false))⟩,Zo 20 (.pick (.t 14) (.k (.bool true)) (.t 19))]) (.cond (.t 20) (.seq (.reg [Zo 4 (.mv (.k (.int .i64 0))),Zo 5 (.mv (.k (.bool false)))]) .ret) .skip)) (.seq (.reg [Zv 21 0,Zv 22 1,Zo 23 (.bin .mul (.t 21) (.t 22)),Zv 4 23,Zo 5 (.mv (.k (.bool true)))]) .ret)))⟩
theorem a263_ok:J06 Tryz.prog Tryz.f263=some a263:=by kernel_rfl
def a274:AFn:= ⟨29,[.t 6,.t 7],(.seq (.reg [Zo 6 (.mv (.k (.int .i64 0))),Zo 7 (.mv (.k (.bool false)))]) (.seq (.reg [Zv 13 1,Zv 14 2,Zc 15 308 [.t 13,.t 14],Zv 12 15,Zo 16 (.ext (.t 12) 0),Zo 17 (.ext (.t 12) 1),Zv 8 16,Zv 9 17]) (.seq (.reg [Zv 19 0,Zv 20 8,Zc 21 271 [.t 19,.t 20],Zv 18 21,Zo 22 (.ext (.t 18) 0),Zo 23 (.ext (.t 18) 1),Zv 10 22,Zv 11 23]) (.seq (.reg [Zv 24 10,Zv 25 9,Zv 26 25,⟨some 27,.mv (.t 11),(some (26,true))⟩,Zo 28 (.pick (.t 26) (.t 27) (.k (.bool false))),Zv 6 24,Zv 7 28]) .ret))))⟩
theorem a274_ok:J06 Tryz.prog Tryz.f274=some a274:=by kernel_rfl
def a182:AFn:= ⟨23,[.t 6,.t 7],(.seq (.reg [Zo 6 (.mv (.k (.int .i64 0))),Zo 7 (.mv (.k (.bool false)))]) (.seq (.reg [Zv 11 1,Zv 12 2,Zc 13 263 [.t 11,.t 12],Zv 10 13,Zo 14 (.ext (.t 10) 0),Zo 15 (.ext (.t 10) 1),Zv 8 14,Zv 9 15]) (.seq (.seq (.reg [Zv 16 9,Zo 17 (.un .not (.t 16))]) (.cond (.t 17) (.seq (.reg [Zo 6 (.mv (.k (.int .i64 0))),Zo 7 (.mv (.k (.bool false)))]) .ret) .skip)) (.seq (.reg [Zv 18 0,Zv 19 8,Zc 20 264 [.t 18,.t 19],Zo 21 (.ext (.t 20) 0),Zo 22 (.ext (.t 20) 1),Zv 6 21,Zv 7 22]) .ret))))⟩
theorem a182_ok:J06 Tryz.prog Tryz.f182=some a182:=by kernel_rfl
def a234:AFn:= ⟨6,[.t 2],(.seq (.reg [Zo 2 (.mv (.k (.bool false)))]) (.seq (.reg [Zv 3 0,Zc 4 232 [.t 3],Zo 5 (.un .not (.t 4)),Zv 2 5]) .ret))⟩
theorem a234_ok:J06 Tryz.prog Tryz.f234=some a234:=by kernel_rfl
def a146:AFn:= ⟨25,[.t 4],(.seq (.reg [Zo 2 (.boxv (.t 0)),Zo 4 (.mv (.k (.bool false)))]) (.seq (.reg [Zv 5 1,Zc 6 102 [.t 5,(.k (.int .i64 0)),(.k (.int .i64 8))],Zv 7 6,⟨some 8,.fld 1 (.t 2),(some (7,true))⟩,⟨some 9,.ld false 1 (.t 8),(some (7,true))⟩,⟨some 10,.len false (.t 9),(some (7,true))⟩,⟨some 11,.mv (.t 1),(some (7,true))⟩,⟨some 12,.bin .eql (.t 10) (.t 11),(some (7,true))⟩,Zo 13 (.pick (.t 7) (.t 12) (.k (.bool false))),Zv 14 13,⟨some 15,.fld 0 (.t 2),(some (14,true))⟩,⟨some 16,.ld false 1 (.t 15),(some (14,true))⟩,⟨some 17,.call (.k (.fn (.func 232) [] [])) [.t 16],(some (14,true))⟩,Zo 18 (.pick (.t 14) (.t 17) (.k (.bool false))),Zv 19 18,⟨some 20,.fld 1 (.t 2),(some (19,true))⟩,⟨some 21,.ld false 1 (.t 20),(some (19,true))⟩,⟨some 22,.call (.k (.fn (.func 233) [] [])) [.t 21,(.k (.fn (.func 234) [] []))],(some (19,true))⟩,⟨some 23,.un .not (.t 22),(some (19,true))⟩,Zo 24 (.pick (.t 19) (.t 23) (.k (.bool false))),Zv 4 24]) .ret))⟩
theorem a146_ok:J06 Tryz.prog Tryz.f146=some a146:=by kernel_rfl
def a179:AFn:= ⟨34,[.t 4],(.seq (.reg [Zo 2 (.boxv (.t 0)),Zo 4 (.mv (.k (.bool false)))]) (.seq (.seq (.reg [Zo 5 (.mv (.k (.int .i64 0)))]) (.blk 0 (.loop (.seq (.seq (.reg [Zv 6 5,Zf 7 1 2,Zl 8 false 1 7,Zo 9 (.len false (.t 8)),Zo 10 (.bin .lss (.t 6) (.t 9))]) (.cond (.t 10) .skip (.exit 0))) (.seq (.blk 1 (.seq (.reg [Zf 13 1 2,Zl 14 false 1 13,Zv 15 5,Zo 16 (.ixa 1 (.t 14) (.t 15)),Zl 17 false 1 16,Zc 18 181 [.t 17],Zo 19 (.un .not (.t 18))]) (.cond (.t 19) (.seq (.reg [Zo 4 (.mv (.k (.bool false)))]) .ret) .skip))) (.reg [Zv 11 5,Zo 12 (.bin .add (.t 11) (.k (.int .i64 1))),Zv 5 12])))))) (.seq (.reg [Zv 20 1,Zc 21 183 [.t 20,(.k (.int .i64 0)),(.k (.int .i64 8))],Zv 22 21,⟨some 23,.fld 1 (.t 2),(some (22,true))⟩,⟨some 24,.ld false 1 (.t 23),(some (22,true))⟩,⟨some 25,.len false (.t 24),(some (22,true))⟩,⟨some 26,.mv (.t 1),(some (22,true))⟩,⟨some 27,.bin .eql (.t 25) (.t 26),(some (22,true))⟩,Zo 28 (.pick (.t 22) (.t 27) (.k (.bool false))),Zv 29 28,⟨some 30,.fld 0 (.t 2),(some (29,true))⟩,⟨some 31,.ld false 1 (.t 30),(some (29,true))⟩,⟨some 32,.call (.k (.fn (.func 181) [] [])) [.t 31],(some (29,true))⟩,Zo 33 (.pick (.t 29) (.t 32) (.k (.bool false))),Zv 4 33]) .ret)))⟩
theorem a179_ok:J06 Tryz.prog Tryz.f179=some a179:=by kernel_rfl
theorem a233_ok:J06 Tryz.prog Tryz.f233=some (J3c 292):=by kernel_rfl
theorem a292_ok:J06 Tryz.prog Tryz.f292=some (J4a false 1):=by kernel_rfl
def inR (n lo hi:Int):Bool:=decide (lo≤n∧n≤hi)
def okC (n:Int):Bool:=inR n (-1000000000) 1000000000
theorem Jg5 {n:Int} : okC n=true ↔ -1000000000≤n∧n≤1000000000:=by simp [okC,inR]
theorem Jra {x y:Int}(hx:okC x=true) (hy:okC y=true) : -1000000000000000000≤x*y∧x*y≤1000000000000000000:=by
 rw [Jg5] at hx hy
 have h:(x*y).natAbs≤1000000000*1000000000:=by
  rw [Int.natAbs_mul];exact Nat.mul_le_mul (by omega) (by omega)
 omega
theorem J24 (n lo hi:Int):Holds Tryz.prog 102 [i64 n,i64 lo,i64 hi] (fun r=>r = .bool (inR n lo hi)):=by
 refine J03 Tryz.func102 a102_ok rfl (by simp [a102]) ?_
 simp [a102]
 constructor <;> intro h <;> simp [inR] <;> omega
theorem J20 (n:Int):Holds Tryz.prog 232 [i64 n] (fun r=>r = .bool (okC n)):=by
 refine J03 Tryz.func232 a232_ok rfl (by simp [a232]) ?_
 simp [a232]
 first|refine J01 (J24 n (-1000000000) 1000000000) (by first|simp;done|rfl) ?_|refine J02 (J24 n (-1000000000) 1000000000) (by first|simp;done|rfl) ?_
 rintro r rfl
 simp
 rfl
theorem J5m (n lo hi:Int):Holds Tryz.prog 183 [i64 n,i64 lo,i64 hi] (fun r=>r = .bool (inR n lo hi)):=by
 refine J03 Tryz.func183 a183_ok rfl (by simp [a183]) ?_
 simp [a183]
 constructor <;> intro h <;> simp [inR] <;> omega
theorem J55 (n:Int):Holds Tryz.prog 181 [i64 n] (fun r=>r = .bool (okC n)):=by
 refine J03 Tryz.func181 a181_ok rfl (by simp [a181]) ?_
 simp [a181]
 first|refine J01 (J5m n (-1000000000) 1000000000) (by first|simp;done|rfl) ?_|refine J02 (J5m n (-1000000000) 1000000000) (by first|simp;done|rfl) ?_
 rintro r rfl
 simp
 rfl
def Jh2 (x y:Int):Int×Bool:=if okC x&&okC y&&okC (x+y) then (x+y,true) else (0,false)
def Je5 (x y:Int):Int×Bool:=if okC x&&okC y&&okC (x*y) then (x*y,true) else (0,false)
def J4d (p:Int×Bool):AV := .tup [i64 p.1,.bool p.2]
theorem J80 (x y:Int):Holds Tryz.prog 271 [i64 x,i64 y] (fun r=>r=J4d (Jh2 x y)):=by
 refine J03 Tryz.func271 a271_ok rfl (by simp [a271]) ?_
 simp [a271,J4d,Jh2]
 first|refine J01 (J20 x) (by first|simp;done|rfl) ?_|refine J02 (J20 x) (by first|simp;done|rfl) ?_
 rintro r rfl
 cases hx:okC x
 ·simp
 simp
 first|refine J01 (J20 y) (by first|simp;done|rfl) ?_|refine J02 (J20 y) (by first|simp;done|rfl) ?_
 rintro r rfl
 cases hy:okC y
 ·simp
 simp
 rw [Jg5] at hx hy
 rw [J0r (by omega)]
 first|refine J01 (J20 (x+y)) (by first|simp;done|rfl) ?_|refine J02 (J20 (x+y)) (by first|simp;done|rfl) ?_
 rintro r rfl
 cases hz:okC (x+y)
 ·simp
 ·simp;exact J0r (by omega)
theorem Jda (x y:Int):Holds Tryz.prog 308 [i64 x,i64 y] (fun r=>r=J4d (Je5 x y)):=by
 refine J03 Tryz.func308 a308_ok rfl (by simp [a308]) ?_
 simp [a308,J4d,Je5]
 first|refine J01 (J20 x) (by first|simp;done|rfl) ?_|refine J02 (J20 x) (by first|simp;done|rfl) ?_
 rintro r rfl
 cases hx:okC x
 ·simp
 simp
 first|refine J01 (J20 y) (by first|simp;done|rfl) ?_|refine J02 (J20 y) (by first|simp;done|rfl) ?_
 rintro r rfl
 cases hy:okC y
 ·simp
 simp
 have:=Jra hx hy
 rw [J0r (by omega)]
 first|refine J01 (J20 (x*y)) (by first|simp;done|rfl) ?_|refine J02 (J20 (x*y)) (by first|simp;done|rfl) ?_
 rintro r rfl
 cases hz:okC (x*y)
 ·simp
 ·simp;exact J0r (by omega)
theorem Jcf (x y:Int):Holds Tryz.prog 264 [i64 x,i64 y] (fun r=>r=J4d (Jh2 x y)):=by
 refine J03 Tryz.func264 a264_ok rfl (by simp [a264]) ?_
 simp [a264,J4d,Jh2]
 first|refine J01 (J55 x) (by first|simp;done|rfl) ?_|refine J02 (J55 x) (by first|simp;done|rfl) ?_
 rintro r rfl
 cases hx:okC x
 ·simp
 simp
 first|refine J01 (J55 y) (by first|simp;done|rfl) ?_|refine J02 (J55 y) (by first|simp;done|rfl) ?_
 rintro r rfl
 cases hy:okC y
 ·simp
 simp
 rw [Jg5] at hx hy
 rw [J0r (by omega)]
 first|refine J01 (J55 (x+y)) (by first|simp;done|rfl) ?_|refine J02 (J55 (x+y)) (by first|simp;done|rfl) ?_
 rintro r rfl
 cases hz:okC (x+y)
 ·simp
 ·simp;exact J0r (by omega)
theorem Jby (x y:Int):Holds Tryz.prog 263 [i64 x,i64 y] (fun r=>r=J4d (Je5 x y)):=by
 refine J03 Tryz.func263 a263_ok rfl (by simp [a263]) ?_
 simp [a263,J4d,Je5]
 first|refine J01 (J55 x) (by first|simp;done|rfl) ?_|refine J02 (J55 x) (by first|simp;done|rfl) ?_
 rintro r rfl
 cases hx:okC x
 ·simp
 simp
 first|refine J01 (J55 y) (by first|simp;done|rfl) ?_|refine J02 (J55 y) (by first|simp;done|rfl) ?_
 rintro r rfl
 cases hy:okC y
 ·simp
 simp
 have:=Jra hx hy
 rw [J0r (by omega)]
 first|refine J01 (J55 (x*y)) (by first|simp;done|rfl) ?_|refine J02 (J55 (x*y)) (by first|simp;done|rfl) ?_
 rintro r rfl
 cases hz:okC (x*y)
 ·simp
 ·simp;exact J0r (by omega)
def J5x (x k y:Int):Int×Bool:=((Jh2 x (Je5 k y).1).1,(Je5 k y).2&&(Jh2 x (Je5 k y).1).2)
def J5i (x k y:Int):Int×Bool:=if (Je5 k y).2 then Jh2 x (Je5 k y).1 else (0,false)
theorem J9y (x k y:Int):Holds Tryz.prog 274 [i64 x,i64 k,i64 y] (fun r=>r=J4d (J5x x k y)):=by
 refine J03 Tryz.func274 a274_ok rfl (by simp [a274]) ?_
 simp [a274]
 first|refine J01 (Jda k y) (by first|simp [J4d];done|rfl) ?_|refine J02 (Jda k y) (by first|simp [J4d];done|rfl) ?_
 rintro r rfl
 simp [J4d]
 first|refine J01 (J80 x (Je5 k y).1) (by first|simp [J4d,J5x];done|rfl) ?_|refine J02 (J80 x (Je5 k y).1) (by first|simp [J4d,J5x];done|rfl) ?_
 rintro r rfl
 simp [J4d,J5x]
 cases (Je5 k y).2 <;> simp
theorem J5f (x k y:Int):Holds Tryz.prog 182 [i64 x,i64 k,i64 y] (fun r=>r=J4d (J5i x k y)):=by
 refine J03 Tryz.func182 a182_ok rfl (by simp [a182]) ?_
 simp [a182]
 first|refine J01 (Jby k y) (by first|simp [J4d,J5i];done|rfl) ?_|refine J02 (Jby k y) (by first|simp [J4d,J5i];done|rfl) ?_
 rintro r rfl
 simp [J4d,J5i]
 cases h:(Je5 k y).2
 ·simp
 simp
 first|refine J01 (Jcf x (Je5 k y).1) (by first|simp [J4d];done|rfl) ?_|refine J02 (Jcf x (Je5 k y).1) (by first|simp [J4d];done|rfl) ?_
 rintro r rfl
 simp [J4d]
def J2f (x k y:Int):Option Int:=if (Je5 k y).2&&(Jh2 x (Je5 k y).1).2 then some (Jh2 x (Je5 k y).1).1 else Option.none
theorem Jgb (x k y:Int):(J5x x k y).2=(J2f x k y).isSome:=by unfold J5x J2f;split <;> simp_all
theorem Jbb (x k y:Int):(J5i x k y).2=(J2f x k y).isSome:=by unfold J5i J2f;cases (Je5 k y).2 <;> simp;cases h:(Jh2 x (Je5 k y).1).2 <;> simp
theorem Jf1 {x k y v:Int}(h:J2f x k y=some v):(J5x x k y).1=v:=by unfold J2f at h;unfold J5x;split at h <;> simp_all
theorem Jff {x k y v:Int}(h:J2f x k y=some v):(J5i x k y).1=v:=by unfold J2f at h;unfold J5i;split at h <;> simp_all
def J1q (l:DLin) (n:Int):Bool:=inR n 0 8&&decide ((l.Coeffs.length:Int)=n)&&okC l.Const&&l.Coeffs.all okC
theorem K4x (n:Int):Holds Tryz.prog 234 [i64 n] (fun r=>r = .bool (!okC n)):=by
 refine J03 Tryz.func234 a234_ok rfl (by simp [a234]) ?_
 simp [a234]
 first|refine J01 (J20 n) (by first|simp;done|rfl) ?_|refine J02 (J20 n) (by first|simp;done|rfl) ?_
 rintro r rfl
 simp
theorem Jaz {α:Type}(p:α→Bool) (l:List α):l.any (fun x => !p x) = !l.all p:=by
 rw [List.all_eq_not_any_not,Bool.not_not]
theorem Jpw {h:Heap}{n:Nat}{K:AV→Heap→Nat→Prop}(l:List Int) (hK:K (.bool (!l.all okC)) h n):J2c Tryz.prog 233 [.sl 1 (J0m l),.fn (.func 234) [] []] h n K:=
 J1t (p:=fun n => !okC n) (rowOf:=fun n=>[i64 n]) (eltOf:=i64) Tryz.func233 a233_ok rfl Tryz.func292 a292_ok rfl (fun x=>by simp) l
  (fun x _=>J83 (K4x x) rfl rfl) (by rw [Jaz];exact hK)
theorem J1p (l:DLin) (n:Int):Holds Tryz.prog 146 [.agg (J05 l),i64 n] (fun r=>r = .bool (J1q l n)):=by
 refine J03 Tryz.func146 a146_ok rfl (by simp [a146]) ?_
 simp [a146,J05]
 first|refine J01 (J24 n 0 8) (by first|simp;done|rfl) ?_|refine J02 (J24 n 0 8) (by first|simp;done|rfl) ?_
 rintro r rfl
 unfold J1q
 cases h1:inR n 0 8
 ·simp
 simp
 intro _
 by_cases h2:(l.Coeffs.length:Int)=n
 case neg=>simp [h2]
 simp [h2]
 first|refine J01 (J20 l.Const) (by first|simp;done|rfl) ?_|refine J02 (J20 l.Const) (by first|simp;done|rfl) ?_
 rintro r rfl
 cases h3:okC l.Const
 ·simp
 simp
 refine Jpw l.Coeffs ?_
 simp
theorem J1a (l:DLin) (n:Int):Holds Tryz.prog 179 [.agg (J05 l),i64 n] (fun r=>r = .bool (J1q l n)):=by
 refine J1l Tryz.func179 rfl rfl fun hl => ?_
 simp [J05] at hl
 refine J03 Tryz.func179 a179_ok rfl (by simp [a179]) ?_
 simp [a179,J05]
 refine Jwn [1,2] 5 l.Coeffs.length (fun i _=>(l.Coeffs.drop i).all okC=l.Coeffs.all okC) hl (by simp) (by simp) ?_ ?_
 ·intro i s hi hg hk s5 hw hJ
  simp at hk
  rw [List.drop_eq_getElem_cons hi,List.all_cons] at hJ
  simp [hk,s5,hi,hg]
  intro _
  first|refine J01 (J55 _) (by simp) ?_|refine J02 (J55 _) (by simp) ?_|refine J01 (J55 _) rfl ?_|refine J02 (J55 _) rfl ?_
  rintro r rfl
  cases h1:okC l.Coeffs[i]
  ·have hJ:l.Coeffs.all okC=false:=by rw [←hJ,h1];rfl
   simp [hk,J1q,hJ]
  ·rw [h1,Bool.true_and] at hJ
   simp [hk,s5,hw]
   exact hJ
 ·intro s hk s5 hJ
  simp at hk hJ
  simp [hk,s5]
  intro _
  first|refine J01 (J5m n 0 8) (by first|simp;done|rfl) ?_|refine J02 (J5m n 0 8) (by first|simp;done|rfl) ?_
  rintro r rfl
  unfold J1q
  cases h1:inR n 0 8
  ·simp
  simp [hk]
  intro _
  by_cases h2:(l.Coeffs.length:Int)=n
  case neg=>simp [h2]
  simp [h2]
  first|refine J01 (J55 l.Const) (by first|simp;done|rfl) ?_|refine J02 (J55 l.Const) (by first|simp;done|rfl) ?_
  rintro r rfl
  cases h3:okC l.Const <;> simp
  exact hJ
def a178:AFn:= ⟨18,[(.c 4 true 2)],(.seq (.reg [Zo 4 (.box [(.int .i64 0),(.nil 1)])]) (.seq (.seq (.reg [Zv 5 1,Zc 6 102 [.t 5,(.k (.int .i64 0)),(.k (.int .i64 8))],Zo 7 (.un .not (.t 6)),Zv 8 7,⟨some 9,.mv (.t 0),(some (8,false))⟩,⟨some 10,.call (.k (.fn (.func 232) [] [])) [.t 9],(some (8,false))⟩,⟨some 11,.un .not (.t 10),(some (8,false))⟩,Zo 12 (.pick (.t 8) (.k (.bool true)) (.t 11))]) (.cond (.t 12) (.seq (.reg [Zo 13 (.build [(.int .i64 0),(.nil 1)] []),⟨no,.st 2 (.t 4) (.t 13),no⟩]) .ret) .skip)) (.seq (.reg [Zv 14 0,Zv 15 1,Zo 16 (.mks 8 [(.int .i64 0)] (.t 15) (.t 15)),Zo 17 (.build [(.int .i64 0),(.nil 1)] [(0,(1,(.t 14))),(1,(1,(.t 16)))]),⟨no,.st 2 (.t 4) (.t 17),no⟩]) .ret)))⟩
theorem a178_ok:J06 Tryz.prog Tryz.f178=some a178:=by kernel_rfl
def a99:AFn:= ⟨18,[(.c 4 true 2)],(.seq (.reg [Zo 4 (.box [(.int .i64 0),(.nil 1)])]) (.seq (.seq (.reg [Zv 5 1,Zc 6 183 [.t 5,(.k (.int .i64 0)),(.k (.int .i64 8))],Zo 7 (.un .not (.t 6)),Zv 8 7,⟨some 9,.mv (.t 0),(some (8,false))⟩,⟨some 10,.call (.k (.fn (.func 181) [] [])) [.t 9],(some (8,false))⟩,⟨some 11,.un .not (.t 10),(some (8,false))⟩,Zo 12 (.pick (.t 8) (.k (.bool true)) (.t 11))]) (.cond (.t 12) (.seq (.reg [Zo 13 (.build [(.int .i64 0),(.nil 1)] []),⟨no,.st 2 (.t 4) (.t 13),no⟩]) .ret) .skip)) (.seq (.reg [Zv 14 0,Zv 15 1,Zo 16 (.mks 8 [(.int .i64 0)] (.t 15) (.t 15)),Zo 17 (.build [(.int .i64 0),(.nil 1)] [(0,(1,(.t 14))),(1,(1,(.t 16)))]),⟨no,.st 2 (.t 4) (.t 17),no⟩]) .ret)))⟩
theorem a99_ok:J06 Tryz.prog Tryz.f99=some a99:=by kernel_rfl
def a166:AFn:= ⟨8,[.t 2],(.seq (.reg [Zo 2 (.mv (.k (.nil 1)))]) (.seq (.seq (.reg [Zv 3 0,Zo 4 (.inil false (.t 3))]) (.cond (.t 4) (.seq (.reg [Zo 2 (.mv (.k (.nil 1)))]) .ret) .skip)) (.seq (.reg [Zo 5 (.bsl 1 []),Zv 6 0,Zo 7 (.app 8 1 (.t 5) (.t 6)),Zv 2 7]) .ret)))⟩
theorem a166_ok:J06 Tryz.prog Tryz.f166=some a166:=by kernel_rfl
def a86:AFn:= ⟨9,[(.c 2 true 2)],(.seq (.reg [Zo 1 (.boxv (.t 0)),Zo 2 (.box [(.int .i64 0),(.nil 1)])]) (.seq (.draw (.op (Zf 3 0 1) (.op (Zl 4 false 1 3) (.op (Zf 5 1 1) (.op (Zl 6 false 1 5) (.op (Zc 7 166 [.t 6]) (.op (Zo 8 (.build [(.int .i64 0),(.nil 1)] [(0,(1,(.t 4))),(1,(1,(.t 7)))])) (.hop ⟨no,.st 2 (.t 2) (.t 8),no⟩ [] .fin)))))))) .ret))⟩
theorem a86_ok:J06 Tryz.prog Tryz.f86=some a86:=by kernel_rfl
def a82:AFn:= ⟨10,[(.c 2 true 2)],(.seq (.reg [Zo 1 (.boxv (.t 0)),Zo 2 (.box [(.int .i64 0),(.nil 1)])]) (.seq (.draw (.op (Zf 3 0 1) (.op (Zl 4 false 1 3) (.op (Zf 6 1 1) (.op (Zl 7 false 1 6) (.hop (Zo 5 (.bsl 1 [])) [(.ld false 1 (.t 6)),(.fld 1 (.t 1)),(.ld false 1 (.t 3)),(.fld 0 (.t 1))] (.hop (Zo 8 (.app 8 1 (.t 5) (.t 7))) [(.ld false 1 (.t 3)),(.fld 0 (.t 1))] (.op (Zo 9 (.build [(.int .i64 0),(.nil 1)] [(0,(1,(.t 4))),(1,(1,(.t 8)))])) (.hop ⟨no,.st 2 (.t 2) (.t 9),no⟩ [] .fin))))))))) .ret))⟩
theorem a82_ok:J06 Tryz.prog Tryz.f82=some a82:=by kernel_rfl
def a193:AFn:= ⟨82,[(.c 6 true 2),.t 7],(.seq (.reg [Zo 3 (.boxv (.t 0)),Zo 5 (.boxv (.t 2)),Zo 6 (.box [(.int .i64 0),(.nil 1)]),Zo 7 (.mv (.k (.bool false)))]) (.seq (.reg [Zf 15 1 3,Zl 16 false 1 15,Zo 17 (.len false (.t 16)),Zv 8 17]) (.seq (.seq (.reg [Zl 18 true 2 3,Zv 19 8,Zc 20 146 [.t 18,.t 19],Zo 21 (.un .not (.t 20)),Zv 22 21,⟨some 23,.ld true 2 (.t 5),(some (22,false))⟩,⟨some 24,.mv (.t 8),(some (22,false))⟩,⟨some 25,.call (.k (.fn (.func 146) [] [])) [.t 23,.t 24],(some (22,false))⟩,⟨some 26,.un .not (.t 25),(some (22,false))⟩,Zo 27 (.pick (.t 22) (.k (.bool true)) (.t 26)),Zv 28 27,⟨some 29,.mv (.t 1),(some (28,false))⟩,⟨some 30,.call (.k (.fn (.func 232) [] [])) [.t 29],(some (28,false))⟩,⟨some 31,.un .not (.t 30),(some (28,false))⟩,Zo 32 (.pick (.t 28) (.k (.bool true)) (.t 31))]) (.cond (.t 32) (.seq (.reg [Zo 33 (.build [(.int .i64 0),(.nil 1)] []),⟨no,.st 2 (.t 6) (.t 33),no⟩,Zo 7 (.mv (.k (.bool false)))]) .ret) .skip)) (.seq (.reg [Zv 34 8,Zc 35 178 [(.k (.int .i64 0)),.t 34],Zo 9 (.box [(.int .i64 0),(.nil 1)]),⟨no,.st 2 (.t 9) (.t 35),no⟩]) (.seq (.reg [Zf 37 0 3,Zl 38 false 1 37,Zv 39 1,Zf 40 0 5,Zl 41 false 1 40,Zc 42 274 [.t 38,.t 39,.t 41],Zv 36 42,Zo 43 (.ext (.t 36) 0),Zo 44 (.ext (.t 36) 1),Zv 10 43,Zv 11 44]) (.seq (.reg [Zv 45 10,Zf 46 0 9,⟨no,.st 1 (.t 46) (.t 45),no⟩]) (.seq (.seq (.reg [Zf 47 1 3,Zl 48 false 1 47,Zo 49 (.len false (.t 48)),Zo 50 (.mv (.k (.int .i64 0)))]) (.blk 0 (.loop (.seq (.reg [Zo 51 (.bin .lss (.t 50) (.t 49))]) (.seq (.cond (.t 51) .skip (.exit 0)) (.seq (.blk 1 (.seq (.reg [Zv 52 50,Zv 12 52]) (.seq (.draw (.op (Zf 54 1 3) (.op (Zl 55 false 1 54) (.op (Zv 56 12) (.op (Zo 57 (.ixa 1 (.t 55) (.t 56))) (.op (Zl 58 false 1 57) (.op (Zv 59 1) (.op (Zf 60 1 5) (.op (Zl 61 false 1 60) (.op (Zv 62 12) (.op (Zo 63 (.ixa 1 (.t 61) (.t 62))) (.op (Zl 64 false 1 63) (.op (Zc 65 274 [.t 58,.t 59,.t 64]) (.op (Zv 53 65) (.op (Zo 66 (.ext (.t 53) 0)) (.op (Zo 67 (.ext (.t 53) 1)) (.op (Zv 13 66) (.op (Zv 14 67) .fin)))))))))))))))))) (.seq (.reg [Zf 68 1 9,Zl 69 false 1 68,Zv 70 12,Zv 71 13,Zo 72 (.ixa 1 (.t 69) (.t 70)),⟨no,.st 1 (.t 72) (.t 71),no⟩]) (.reg [Zv 73 11,Zv 74 73,⟨some 75,.mv (.t 14),(some (74,true))⟩,Zo 76 (.pick (.t 74) (.t 75) (.k (.bool false))),Zv 11 76]))))) (.reg [Zo 77 (.bin .add (.t 50) (.k (.int .i64 1))),Zv 50 77]))))))) (.seq (.seq (.reg [Zv 78 11,Zo 79 (.un .not (.t 78))]) (.cond (.t 79) (.seq (.reg [Zo 80 (.build [(.int .i64 0),(.nil 1)] []),⟨no,.st 2 (.t 6) (.t 80),no⟩,Zo 7 (.mv (.k (.bool false)))]) .ret) .skip)) (.seq (.reg [Zl 81 true 2 9,⟨no,.st 2 (.t 6) (.t 81),no⟩,Zo 7 (.mv (.k (.bool true)))]) .ret)))))))))⟩
theorem a193_ok:J06 Tryz.prog Tryz.f193=some a193:=by kernel_rfl
def a98:AFn:= ⟨86,[(.c 6 true 2),.t 7],(.seq (.reg [Zo 3 (.boxv (.t 0)),Zo 5 (.boxv (.t 2)),Zo 6 (.box [(.int .i64 0),(.nil 1)]),Zo 7 (.mv (.k (.bool false)))]) (.seq (.reg [Zf 16 1 3,Zl 17 false 1 16,Zo 18 (.len false (.t 17)),Zv 8 18]) (.seq (.seq (.reg [Zl 19 true 2 3,Zv 20 8,Zc 21 179 [.t 19,.t 20],Zo 22 (.un .not (.t 21)),Zv 23 22,⟨some 24,.ld true 2 (.t 5),(some (23,false))⟩,⟨some 25,.mv (.t 8),(some (23,false))⟩,⟨some 26,.call (.k (.fn (.func 179) [] [])) [.t 24,.t 25],(some (23,false))⟩,⟨some 27,.un .not (.t 26),(some (23,false))⟩,Zo 28 (.pick (.t 23) (.k (.bool true)) (.t 27)),Zv 29 28,⟨some 30,.mv (.t 1),(some (29,false))⟩,⟨some 31,.call (.k (.fn (.func 181) [] [])) [.t 30],(some (29,false))⟩,⟨some 32,.un .not (.t 31),(some (29,false))⟩,Zo 33 (.pick (.t 29) (.k (.bool true)) (.t 32))]) (.cond (.t 33) (.seq (.reg [Zo 34 (.build [(.int .i64 0),(.nil 1)] []),⟨no,.st 2 (.t 6) (.t 34),no⟩,Zo 7 (.mv (.k (.bool false)))]) .ret) .skip)) (.seq (.reg [Zv 35 8,Zo 36 (.mks 8 [(.int .i64 0)] (.t 35) (.t 35)),Zo 37 (.build [(.int .i64 0),(.nil 1)] [(1,(1,(.t 36)))]),Zo 9 (.box [(.int .i64 0),(.nil 1)]),⟨no,.st 2 (.t 9) (.t 37),no⟩]) (.seq (.reg [Zo 10 (.mv (.k (.bool true)))]) (.seq (.seq (.reg [Zo 11 (.mv (.k (.int .i64 0)))]) (.blk 0 (.loop (.seq (.seq (.reg [Zv 38 11,Zv 39 8,Zo 40 (.bin .lss (.t 38) (.t 39))]) (.cond (.t 40) .skip (.exit 0))) (.seq (.blk 1 (.seq (.draw (.op (Zf 44 1 3) (.op (Zl 45 false 1 44) (.op (Zv 46 11) (.op (Zo 47 (.ixa 1 (.t 45) (.t 46))) (.op (Zl 48 false 1 47) (.op (Zv 49 1) (.op (Zf 50 1 5) (.op (Zl 51 false 1 50) (.op (Zv 52 11) (.op (Zo 53 (.ixa 1 (.t 51) (.t 52))) (.op (Zl 54 false 1 53) (.op (Zc 55 182 [.t 48,.t 49,.t 54]) (.op (Zv 43 55) (.op (Zo 56 (.ext (.t 43) 0)) (.op (Zo 57 (.ext (.t 43) 1)) (.op (Zv 12 56) (.op (Zv 13 57) .fin)))))))))))))))))) (.seq (.reg [Zf 58 1 9,Zl 59 false 1 58,Zv 60 11,Zv 61 12,Zo 62 (.ixa 1 (.t 59) (.t 60)),⟨no,.st 1 (.t 62) (.t 61),no⟩]) (.reg [Zv 63 10,Zv 64 63,⟨some 65,.mv (.t 13),(some (64,true))⟩,Zo 66 (.pick (.t 64) (.t 65) (.k (.bool false))),Zv 10 66])))) (.reg [Zv 41 11,Zo 42 (.bin .add (.t 41) (.k (.int .i64 1))),Zv 11 42])))))) (.seq (.reg [Zf 68 0 3,Zl 69 false 1 68,Zv 70 1,Zf 71 0 5,Zl 72 false 1 71,Zc 73 182 [.t 69,.t 70,.t 72],Zv 67 73,Zo 74 (.ext (.t 67) 0),Zo 75 (.ext (.t 67) 1),Zv 14 74,Zv 15 75]) (.seq (.seq (.reg [Zv 76 10,Zo 77 (.un .not (.t 76)),Zv 78 77,⟨some 79,.mv (.t 15),(some (78,false))⟩,⟨some 80,.un .not (.t 79),(some (78,false))⟩,Zo 81 (.pick (.t 78) (.k (.bool true)) (.t 80))]) (.cond (.t 81) (.seq (.reg [Zo 82 (.build [(.int .i64 0),(.nil 1)] []),⟨no,.st 2 (.t 6) (.t 82),no⟩,Zo 7 (.mv (.k (.bool false)))]) .ret) .skip)) (.seq (.reg [Zv 83 14,Zf 84 0 9,⟨no,.st 1 (.t 84) (.t 83),no⟩]) (.seq (.reg [Zl 85 true 2 9,⟨no,.st 2 (.t 6) (.t 85),no⟩,Zo 7 (.mv (.k (.bool true)))]) .ret))))))))))⟩
theorem a98_ok:J06 Tryz.prog Tryz.f98=some a98:=by kernel_rfl
def J09 (k n:Int):DLin:=if inR n 0 8&&okC k then ⟨k,List.replicate n.toNat 0⟩ else ⟨0,[]⟩
@[simp] theorem Jeu (m:Nat):J0m (List.replicate m 0)=List.replicate m [AV.int .i64 0]:=by simp [J0m]
@[simp] theorem K4o (m:Nat):J46 (List.replicate m [AV.int .i64 0])=true:=by rw [←Jeu];exact Jlf _
@[simp] theorem Jjt (l:List Int) (i:Nat) (v:Int):(J0m l).set i [AV.int .i64 v]=J0m (l.set i v):=by simp [J0m,List.map_set]
theorem J27 (k n:Int):Holds Tryz.prog 178 [i64 k,i64 n] (fun r=>r = .agg (J08 (J09 k n))):=by
 refine J03 Tryz.func178 a178_ok rfl (by simp [a178]) ?_
 simp [a178]
 first|refine J01 (J24 n 0 8) (by first|simp;done|rfl) ?_|refine J02 (J24 n 0 8) (by first|simp;done|rfl) ?_
 rintro r rfl
 unfold J09
 cases h1:inR n 0 8
 ·simp [J08,J0m]
 simp
 first|refine J01 (J20 k) (by first|simp;done|rfl) ?_|refine J02 (J20 k) (by first|simp;done|rfl) ?_
 rintro r rfl
 cases h2:okC k
 ·simp [J08,J0m]
 have hn:0≤n∧n≤8:=by simpa [inR] using h1
 obtain ⟨m,rfl⟩:∃ m:Nat,n=m:=⟨n.toNat,by omega⟩
 simp [J08]
 unfold LIM
 omega
theorem J21 (k n:Int):Holds Tryz.prog 99 [i64 k,i64 n] (fun r=>r = .agg (J08 (J09 k n))):=by
 refine J03 Tryz.func99 a99_ok rfl (by simp [a99]) ?_
 simp [a99]
 first|refine J01 (J5m n 0 8) (by first|simp;done|rfl) ?_|refine J02 (J5m n 0 8) (by first|simp;done|rfl) ?_
 rintro r rfl
 unfold J09
 cases h1:inR n 0 8
 ·simp [J08,J0m]
 simp
 first|refine J01 (J55 k) (by first|simp;done|rfl) ?_|refine J02 (J55 k) (by first|simp;done|rfl) ?_
 rintro r rfl
 cases h2:okC k
 ·simp [J08,J0m]
 have hn:0≤n∧n≤8:=by simpa [inR] using h1
 obtain ⟨m,rfl⟩:∃ m:Nat,n=m:=⟨n.toNat,by omega⟩
 simp [J08]
 unfold LIM
 omega
theorem Ji5 (l:List Int) (hl:l.length≤1048576):Holds Tryz.prog 166 [.sl 1 (J0m l)] (fun r=>r = .us 1 (J0m l)):=by
 refine J03 Tryz.func166 a166_ok rfl (by simp [a166]) ?_
 simp [a166]
 unfold LIM
 omega
theorem J5b (x:DLin) (hl:x.Coeffs.length≤1048576):Holds Tryz.prog 86 [.agg (J05 x)] (fun r=>r = .agg (J08 x)):=by
 refine J03 Tryz.func86 a86_ok rfl (by simp [a86]) ?_
 simp [a86,J05]
 first|refine J01 (Ji5 x.Coeffs hl) (by first|simp [J08];done|rfl) ?_|refine J02 (Ji5 x.Coeffs hl) (by first|simp [J08];done|rfl) ?_
 rintro r rfl
 simp [J08]
theorem J2v (x:DLin) (hl:x.Coeffs.length≤1048576):Holds Tryz.prog 82 [.agg (J05 x)] (fun r=>r = .agg (J08 x)):=by
 refine J03 Tryz.func82 a82_ok rfl (by simp [a82]) ?_
 simp [a82,J05,J08]
 unfold LIM
 omega
def J1g:DLin:=⟨0,[]⟩
def J18:Option DLin→AV
 | some l => .tup [.agg (J08 l),.bool true]
 | Option.none => .tup [.agg (J08 J1g),.bool false]
theorem J0u (o:Option DLin):J18 o = .tup [.agg (J08 (o.getD J1g)),.bool o.isSome]:=by cases o <;> rfl
def J59 (a:DLin) (k:Int) (b:DLin):List (Option Int):=List.zipWith (fun x y=>J2f x k y) a.Coeffs b.Coeffs
def Jdm (a:DLin) (k:Int) (b:DLin):Bool:=(J59 a k b).all Option.isSome
def J0j (a:DLin) (k:Int) (b:DLin):Option DLin:=
 if J1q a a.Coeffs.length&&J1q b a.Coeffs.length&&okC k&&(J2f a.Const k b.Const).isSome&&Jdm a k b then
  some ⟨(J2f a.Const k b.Const).getD 0,(J59 a k b).map (·.getD 0)⟩
 else Option.none
theorem J1z {l:DLin}{n:Int}(h:J1q l n=true):(l.Coeffs.length:Int)=n∧0≤n∧n≤8:=by
 unfold J1q at h
 simp [inR] at h
 omega
theorem Jl0 {a b:DLin}{k:Int}{vs:List Int}(hl:b.Coeffs.length=a.Coeffs.length) (hv:vs.length=a.Coeffs.length) (g:Int→Int→Int→Int) (hg:∀ x y v,J2f x k y=some v→g x k y=v)
 (hj:∀ j (h:j<a.Coeffs.length) (h':j<b.Coeffs.length),vs[j]? = some (g a.Coeffs[j] k b.Coeffs[j])) (hZ:(J59 a k b).all Option.isSome=true):vs=(J59 a k b).map (·.getD 0):=by
 refine List.ext_getElem (by simp [J59,hv,hl]) fun j h1 h2 => ?_
 have h3:j<a.Coeffs.length:=by omega
 have h4:j<b.Coeffs.length:=by omega
 have h5:=hj j h3 h4
 rw [List.getElem?_eq_getElem h1] at h5
 rw [Option.some.inj h5,List.getElem_map]
 have h6:(J59 a k b)[j]'(by simpa using h2)=J2f a.Coeffs[j] k b.Coeffs[j]:=by simp [J59]
 rw [h6]
 have h7:=List.all_eq_true.1 hZ _ (List.getElem_mem (by simpa using h2:j<(J59 a k b).length))
 rw [h6] at h7
 obtain ⟨v,hv'⟩:=Option.isSome_iff_exists.1 h7
 rw [hg _ _ _ hv',hv'];rfl
set_option maxHeartbeats 1000000 in
theorem J22 (a:DLin) (k:Int) (b:DLin):Holds Tryz.prog 193 [.agg (J05 a),i64 k,.agg (J05 b)] (fun r=>r=J18 (J0j a k b)):=by
 refine J03 Tryz.func193 a193_ok rfl (by simp [a193]) ?_
 simp [a193,J05]
 intro hlim
 unfold J0j
 first|refine J01 (J1p a a.Coeffs.length) (by first|simp [J05];done|rfl) ?_|refine J02 (J1p a a.Coeffs.length) (by first|simp [J05];done|rfl) ?_
 rintro r rfl
 cases h1:J1q a a.Coeffs.length
 ·simp [J18,J1g,J08,J0m]
 simp
 first|refine J01 (J1p b a.Coeffs.length) (by first|simp [J05];done|rfl) ?_|refine J02 (J1p b a.Coeffs.length) (by first|simp [J05];done|rfl) ?_
 rintro r rfl
 cases h2:J1q b a.Coeffs.length
 ·simp [J18,J1g,J08,J0m]
 simp
 first|refine J01 (J20 k) (by first|simp;done|rfl) ?_|refine J02 (J20 k) (by first|simp;done|rfl) ?_
 rintro r rfl
 cases h3:okC k
 ·simp [J18,J1g,J08,J0m]
 simp
 have hla:=J1z h1
 have hlb:=J1z h2
 have hl:b.Coeffs.length=a.Coeffs.length:=by omega
 have hc0:J09 0 (a.Coeffs.length:Int)=⟨0,List.replicate a.Coeffs.length 0⟩:=by
  unfold J09
  rw [if_pos (by simp [inR,okC];omega)]
  simp
 first|refine J01 (J27 0 a.Coeffs.length) (by first|simp;done|rfl) ?_|refine J02 (J27 0 a.Coeffs.length) (by first|simp;done|rfl) ?_
 rintro r rfl
 rw [hc0]
 simp [J08]
 first|refine J01 (J9y a.Const k b.Const) (by first|simp [J4d];done|rfl) ?_|refine J02 (J9y a.Const k b.Const) (by first|simp [J4d];done|rfl) ?_
 rintro r rfl
 simp [J4d]
 intro _
 have hzl:(J59 a k b).length=a.Coeffs.length:=by simp [J59,hl]
 refine J0l [1,3,5,6,9,49] 50 a.Coeffs.length (fun i s h n=>h 0=some ⟨true,2,[[.int .i64 a.Const,.sl 1 (J0m a.Coeffs)]]⟩∧h 1=some ⟨true,2,[[.int .i64 b.Const,.sl 1 (J0m b.Coeffs)]]⟩∧h 2=some ⟨true,2,[[.int .i64 0,.nil 1]]⟩ ∧
  h 4=some ⟨true,2,[[.int .i64 (J5x a.Const k b.Const).1,.ref 3 0 a.Coeffs.length]]⟩∧∃ vs:List Int,h 3=some ⟨false,1,J0m vs⟩∧vs.length=a.Coeffs.length ∧
  (∀ j (h:j<a.Coeffs.length) (h':j<b.Coeffs.length),j<i→vs[j]? = some (J5x a.Coeffs[j] k b.Coeffs[j]).1)∧s 11 = .bool ((J2f a.Const k b.Const).isSome&&((J59 a k b).take i).all Option.isSome))
  hlim (by simp) (by simp;exact ⟨List.replicate a.Coeffs.length 0,by simp,by simp,by simp [Jgb]⟩) ?_ ?_
 ·rintro i s h n R hi hg hk s50 hw ⟨e0,e1,e2,e4,vs,e3,hvl,hvs,s11⟩ hR _ _
  simp at hk
  have hib:i<b.Coeffs.length:=by omega
  have hiv:i<vs.length:=by omega
  have hiz:i<(J59 a k b).length:=by omega
  have hZi:(J59 a k b)[i]=J2f a.Coeffs[i] k b.Coeffs[i]:=by simp [J59]
  have hflag:((J2f a.Const k b.Const).isSome&&((J59 a k b).take (i+1)).all Option.isSome)=(((J2f a.Const k b.Const).isSome&&((J59 a k b).take i).all Option.isSome)&&(J5x a.Coeffs[i] k b.Coeffs[i]).2):=by
   rw [List.take_succ_eq_append_getElem hiz,List.all_append,hZi,Jgb]
   simp [Bool.and_assoc]
  have hvs':∀ j (h:j<a.Coeffs.length) (h':j<b.Coeffs.length),j<i+1→(vs.set i (J5x a.Coeffs[i] k b.Coeffs[i]).1)[j]? = some (J5x a.Coeffs[j] k b.Coeffs[j]).1:=by
   intro j h h' hj
   rw [List.getElem?_set]
   by_cases hji:i=j
   ·subst hji;simp [hiv]
   ·rw [if_neg hji];exact hvs j h h' (by omega)
  obtain ⟨f,hf⟩:∃ f,f=((J2f a.Const k b.Const).isSome&&((J59 a k b).take i).all Option.isSome):=⟨_,rfl⟩
  rw [←hf] at s11 hflag
  cases f
  all_goals
   simp [hk,s50,hi,hg,hw,hib,hiv,e0,e1,e2,e3,e4,s11]
   first|refine J01 (J9y _ _ _) (by simp [J4d]) ?_|refine J02 (J9y _ _ _) (by simp [J4d]) ?_|refine J01 (J9y _ _ _) rfl ?_|refine J02 (J9y _ _ _) rfl ?_
   rintro r rfl
   simp [hk,s50,hi,hg,hw,hib,hiv,e0,e1,e2,e3,e4,s11,J4d]
   exact hR _ _ _ (by simp [hk]) (by simp) ⟨by simp [e0],by simp [e1],by simp [e2],by simp [e4],_,by simp,by simp [hvl],hvs',by rw [hflag];simp⟩
 ·rintro s h n R hk s50 ⟨e0,e1,e2,e4,vs,e3,hvl,hvs,s11⟩ hret hX
  simp at hk
  rw [List.take_of_length_le (by omega)] at s11
  simp [hk,s50]
  refine hX _ _ _ _ ?_
  cases hc:(J2f a.Const k b.Const).isSome
  ·rw [hc] at s11
   simp at s11
   simp [hk,s11,e2,J18,J1g,J08,J0m]
  rw [show (J59 a k b).all Option.isSome=Jdm a k b from rfl] at s11
  cases hz:Jdm a k b
  ·rw [hc,hz] at s11
   simp at s11
   simp [hk,s11,e2,J18,J1g,J08,J0m]
  ·rw [hc,hz] at s11
   simp at s11
   obtain ⟨v,hv⟩:=Option.isSome_iff_exists.1 hc
   have hval:=Jl0 hl hvl (fun x k y=>(J5x x k y).1) (fun x y v h=>Jf1 h) (fun j h h'=>hvs j h h' h) hz
   simp [hk,s11,e2,e3,e4,J18,J08,hvl]
   rw [←hval,hv,Jf1 hv]
   simp [hvl,List.take_of_length_le]
set_option maxHeartbeats 1000000 in
theorem J0w (a:DLin) (k:Int) (b:DLin):Holds Tryz.prog 98 [.agg (J05 a),i64 k,.agg (J05 b)] (fun r=>r=J18 (J0j a k b)):=by
 refine J03 Tryz.func98 a98_ok rfl (by simp [a98]) ?_
 simp [a98,J05]
 intro hlim
 unfold J0j
 first|refine J01 (J1a a a.Coeffs.length) (by first|simp [J05];done|rfl) ?_|refine J02 (J1a a a.Coeffs.length) (by first|simp [J05];done|rfl) ?_
 rintro r rfl
 cases h1:J1q a a.Coeffs.length
 ·simp [J18,J1g,J08,J0m]
 simp
 first|refine J01 (J1a b a.Coeffs.length) (by first|simp [J05];done|rfl) ?_|refine J02 (J1a b a.Coeffs.length) (by first|simp [J05];done|rfl) ?_
 rintro r rfl
 cases h2:J1q b a.Coeffs.length
 ·simp [J18,J1g,J08,J0m]
 simp
 first|refine J01 (J55 k) (by first|simp;done|rfl) ?_|refine J02 (J55 k) (by first|simp;done|rfl) ?_
 rintro r rfl
 cases h3:okC k
 ·simp [J18,J1g,J08,J0m]
 simp
 have hla:=J1z h1
 have hlb:=J1z h2
 have hl:b.Coeffs.length=a.Coeffs.length:=by omega
 have hzl:(J59 a k b).length=a.Coeffs.length:=by simp [J59,hl]
 refine ⟨by unfold LIM;omega,?_⟩
 refine J0l [1,3,5,6,8,9] 11 a.Coeffs.length (fun i s h n=>h 0=some ⟨true,2,[[.int .i64 a.Const,.sl 1 (J0m a.Coeffs)]]⟩∧h 1=some ⟨true,2,[[.int .i64 b.Const,.sl 1 (J0m b.Coeffs)]]⟩∧h 2=some ⟨true,2,[[.int .i64 0,.nil 1]]⟩ ∧
  h 4=some ⟨true,2,[[.int .i64 0,.ref 3 0 a.Coeffs.length]]⟩∧∃ vs:List Int,h 3=some ⟨false,1,J0m vs⟩∧vs.length=a.Coeffs.length ∧
  (∀ j (h:j<a.Coeffs.length) (h':j<b.Coeffs.length),j<i→vs[j]? = some (J5i a.Coeffs[j] k b.Coeffs[j]).1)∧s 10 = .bool (((J59 a k b).take i).all Option.isSome))
  hlim (by simp) (by simp;exact ⟨List.replicate a.Coeffs.length 0,by simp,by simp⟩) ?_ ?_
 ·rintro i s h n R hi hg hk s11 hw ⟨e0,e1,e2,e4,vs,e3,hvl,hvs,s10⟩ hR _ _
  simp at hk
  have hib:i<b.Coeffs.length:=by omega
  have hiv:i<vs.length:=by omega
  have hiz:i<(J59 a k b).length:=by omega
  have hZi:(J59 a k b)[i]=J2f a.Coeffs[i] k b.Coeffs[i]:=by simp [J59]
  have hflag:(((J59 a k b).take (i+1)).all Option.isSome)=((((J59 a k b).take i).all Option.isSome)&&(J5i a.Coeffs[i] k b.Coeffs[i]).2):=by
   rw [List.take_succ_eq_append_getElem hiz,List.all_append,hZi,Jbb]
   simp
  have hvs':∀ j (h:j<a.Coeffs.length) (h':j<b.Coeffs.length),j<i+1→(vs.set i (J5i a.Coeffs[i] k b.Coeffs[i]).1)[j]? = some (J5i a.Coeffs[j] k b.Coeffs[j]).1:=by
   intro j h h' hj
   rw [List.getElem?_set]
   by_cases hji:i=j
   ·subst hji;simp [hiv]
   ·rw [if_neg hji];exact hvs j h h' (by omega)
  obtain ⟨f,hf⟩:∃ f,f=(((J59 a k b).take i).all Option.isSome):=⟨_,rfl⟩
  rw [←hf] at s10 hflag
  cases f
  all_goals
   simp [hk,s11,hi,hg,hw,hib,hiv,e0,e1,e2,e3,e4,s10]
   first|refine J01 (J5f _ _ _) (by simp [J4d]) ?_|refine J02 (J5f _ _ _) (by simp [J4d]) ?_|refine J01 (J5f _ _ _) rfl ?_|refine J02 (J5f _ _ _) rfl ?_
   rintro r rfl
   simp [hk,s11,hi,hg,hw,hib,hiv,e0,e1,e2,e3,e4,s10,J4d]
   exact hR _ _ _ (by simp [hk]) (by simp) ⟨by simp [e0],by simp [e1],by simp [e2],by simp [e4],_,by simp,by simp [hvl],hvs',by rw [hflag];simp⟩
 ·rintro s h n R hk s11 ⟨e0,e1,e2,e4,vs,e3,hvl,hvs,s10⟩ hret hX
  simp at hk
  rw [List.take_of_length_le (by omega),show (J59 a k b).all Option.isSome=Jdm a k b from rfl] at s10
  simp [hk,s11]
  refine hX _ _ _ _ ?_
  cases hz:Jdm a k b
  ·rw [hz] at s10
   simp [hk,s10,e0,e1,e2,e4]
   first|refine J01 (J5f _ _ _) (by simp [J4d]) ?_|refine J02 (J5f _ _ _) (by simp [J4d]) ?_|refine J01 (J5f _ _ _) rfl ?_|refine J02 (J5f _ _ _) rfl ?_
   rintro r rfl
   simp [hk,s10,e0,e1,e2,e4,J4d,J18,J1g,J08,J0m]
  ·rw [hz] at s10
   have hval:=Jl0 hl hvl (fun x k y=>(J5i x k y).1) (fun x y v h=>Jff h) (fun j h h'=>hvs j h h' h) hz
   simp [hk,s10,e0,e1,e2,e4]
   first|refine J01 (J5f _ _ _) (by simp [J4d]) ?_|refine J02 (J5f _ _ _) (by simp [J4d]) ?_|refine J01 (J5f _ _ _) rfl ?_|refine J02 (J5f _ _ _) rfl ?_
   rintro r rfl
   cases hc:(J2f a.Const k b.Const).isSome
   ·have hc':(J5i a.Const k b.Const).2=false:=by rw [Jbb,hc]
    simp [hk,s10,e0,e1,e2,e4,J4d,hc',J18,J1g,J08,J0m]
   ·have hc':(J5i a.Const k b.Const).2=true:=by rw [Jbb,hc]
    obtain ⟨v,hv⟩:=Option.isSome_iff_exists.1 hc
    simp [hk,s10,e0,e1,e2,e3,e4,J4d,hc',J18,J08,hvl]
    rw [←hval,hv,Jff hv]
    simp [hvl,List.take_of_length_le]
theorem a144_ok:J06 Tryz.prog Tryz.f144=some (J3c 231):=by kernel_rfl
theorem a231_ok:J06 Tryz.prog Tryz.f231=some (J4a true 2):=by kernel_rfl
def a307:AFn:= ⟨8,[.t 3],(.seq (.reg [Zo 2 (.boxv (.t 0)),Zo 3 (.mv (.k (.bool false)))]) (.seq (.reg [Zl 4 true 2 2,Zl 5 false 1 1,Zc 6 146 [.t 4,.t 5],Zo 7 (.un .not (.t 6)),Zv 3 7]) .ret))⟩
theorem a307_ok:J06 Tryz.prog Tryz.f307=some a307:=by kernel_rfl
def a272:AFn:= ⟨57,[(.c 4 true 2),.t 5],(.seq (.reg [Zo 2 (.boxv (.t 0)),Zo 4 (.box [(.int .i64 0),(.nil 1)]),Zo 5 (.mv (.k (.bool false)))]) (.seq (.reg [Zo 6 (.box [(.int .i64 0)]),⟨no,.st 1 (.t 6) (.k (.int .i64 0)),no⟩]) (.seq (.seq (.reg [Zv 11 1,Zo 12 (.len false (.t 11)),Zo 13 (.bin .gtr (.t 12) (.k (.int .i64 0)))]) (.cond (.t 13) (.reg [Zv 14 1,Zo 15 (.ixa 2 (.t 14) (.k (.int .i64 0))),Zf 16 1 15,Zl 17 false 1 16,Zo 18 (.len false (.t 17)),⟨no,.st 1 (.t 6) (.t 18),no⟩]) .skip)) (.seq (.seq (.reg [Zl 19 true 2 2,Zv 20 1,Zo 21 (.len false (.t 20)),Zc 22 146 [.t 19,.t 21],Zo 23 (.un .not (.t 22)),Zv 24 23,⟨some 25,.mv (.t 1),(some (24,false))⟩,⟨some 26,.mkf (.func 307) [] [.t 6],(some (24,false))⟩,⟨some 27,.call (.k (.fn (.func 144) [] [])) [.t 25,.t 26],(some (24,false))⟩,Zo 28 (.pick (.t 24) (.k (.bool true)) (.t 27))]) (.cond (.t 28) (.seq (.reg [Zo 29 (.build [(.int .i64 0),(.nil 1)] []),⟨no,.st 2 (.t 4) (.t 29),no⟩,Zo 5 (.mv (.k (.bool false)))]) .ret) .skip)) (.seq (.reg [Zf 30 0 2,Zl 31 false 1 30,Zl 32 false 1 6,Zc 33 178 [.t 31,.t 32],Zo 7 (.box [(.int .i64 0),(.nil 1)]),⟨no,.st 2 (.t 7) (.t 33),no⟩]) (.seq (.reg [Zo 8 (.mv (.k (.bool true)))]) (.seq (.seq (.reg [Zv 34 1,Zo 35 (.len false (.t 34)),Zo 36 (.mv (.k (.int .i64 0)))]) (.blk 0 (.loop (.seq (.reg [Zo 37 (.bin .lss (.t 36) (.t 35))]) (.seq (.cond (.t 37) .skip (.exit 0)) (.seq (.blk 1 (.seq (.reg [Zv 38 36,Zo 39 (.ixa 2 (.t 34) (.t 36)),Zl 40 true 2 39,Zo 10 (.box [(.int .i64 0),(.nil 1)]),Zv 9 38,⟨no,.st 2 (.t 10) (.t 40),no⟩]) (.seq (.draw (.op (Zl 42 true 2 7) (.op (Zf 43 1 2) (.op (Zl 44 false 1 43) (.op (Zv 45 9) (.op (Zo 46 (.ixa 1 (.t 44) (.t 45))) (.op (Zl 47 false 1 46) (.op (Zl 48 true 2 10) (.op (Zc 49 193 [.t 42,.t 47,.t 48]) (.op (Zv 41 49) (.op (Zo 50 (.ext (.t 41) 0)) (.op (Zo 51 (.ext (.t 41) 1)) (.hop ⟨no,.st 2 (.t 7) (.t 50),no⟩ [] (.op (Zv 8 51) .fin)))))))))))))) (.seq (.reg [Zv 52 8,Zo 53 (.un .not (.t 52))]) (.cond (.t 53) (.seq (.reg [Zo 54 (.build [(.int .i64 0),(.nil 1)] []),⟨no,.st 2 (.t 4) (.t 54),no⟩,Zo 5 (.mv (.k (.bool false)))]) .ret) .skip))))) (.reg [Zo 55 (.bin .add (.t 36) (.k (.int .i64 1))),Zv 36 55]))))))) (.seq (.reg [Zl 56 true 2 7,⟨no,.st 2 (.t 4) (.t 56),no⟩,Zo 5 (.mv (.k (.bool true)))]) .ret))))))))⟩
theorem a272_ok:J06 Tryz.prog Tryz.f272=some a272:=by kernel_rfl
def a269:AFn:= ⟨60,[(.c 4 true 2),.t 5],(.seq (.reg [Zo 2 (.boxv (.t 0)),Zo 4 (.box [(.int .i64 0),(.nil 1)]),Zo 5 (.mv (.k (.bool false)))]) (.seq (.reg [Zo 6 (.mv (.k (.int .i64 0)))]) (.seq (.seq (.reg [Zv 11 1,Zo 12 (.len false (.t 11)),Zo 13 (.bin .gtr (.t 12) (.k (.int .i64 0)))]) (.cond (.t 13) (.reg [Zv 14 1,Zo 15 (.ixa 2 (.t 14) (.k (.int .i64 0))),Zf 16 1 15,Zl 17 false 1 16,Zo 18 (.len false (.t 17)),Zv 6 18]) .skip)) (.seq (.reg [Zf 19 0 2,Zl 20 false 1 19,Zv 21 6,Zc 22 99 [.t 20,.t 21],Zo 7 (.box [(.int .i64 0),(.nil 1)]),⟨no,.st 2 (.t 7) (.t 22),no⟩]) (.seq (.seq (.reg [Zl 23 true 2 2,Zv 24 1,Zo 25 (.len false (.t 24)),Zc 26 179 [.t 23,.t 25],Zo 27 (.un .not (.t 26)),Zv 28 27,⟨some 29,.ld true 2 (.t 7),(some (28,false))⟩,⟨some 30,.mv (.t 6),(some (28,false))⟩,⟨some 31,.call (.k (.fn (.func 179) [] [])) [.t 29,.t 30],(some (28,false))⟩,⟨some 32,.un .not (.t 31),(some (28,false))⟩,Zo 33 (.pick (.t 28) (.k (.bool true)) (.t 32))]) (.cond (.t 33) (.seq (.reg [Zo 34 (.build [(.int .i64 0),(.nil 1)] []),⟨no,.st 2 (.t 4) (.t 34),no⟩,Zo 5 (.mv (.k (.bool false)))]) .ret) .skip)) (.seq (.seq (.reg [Zo 8 (.mv (.k (.int .i64 0)))]) (.blk 0 (.loop (.seq (.seq (.reg [Zv 35 8,Zv 36 1,Zo 37 (.len false (.t 36)),Zo 38 (.bin .lss (.t 35) (.t 37))]) (.cond (.t 38) .skip (.exit 0))) (.seq (.blk 1 (.seq (.draw (.op (Zl 42 true 2 7) (.op (Zf 43 1 2) (.op (Zl 44 false 1 43) (.op (Zv 45 8) (.op (Zo 46 (.ixa 1 (.t 44) (.t 45))) (.op (Zl 47 false 1 46) (.op (Zv 48 1) (.op (Zv 49 8) (.op (Zo 50 (.ixa 2 (.t 48) (.t 49))) (.op (Zl 51 true 2 50) (.both (.op (Zc 52 98 [.t 42,.t 47,.t 51]) (.op (Zv 41 52) (.op (Zo 53 (.ext (.t 41) 0)) (.op (Zo 54 (.ext (.t 41) 1)) (.op (Zo 9 (.box [(.int .i64 0),(.nil 1)])) (.hop ⟨no,.st 2 (.t 9) (.t 53),no⟩ [] (.op (Zv 10 54) .fin))))))) (.op (Zo 9 (.box [(.int .i64 0),(.nil 1)])) (.op (Zc 52 98 [.t 42,.t 47,.t 51]) (.op (Zv 41 52) (.op (Zo 53 (.ext (.t 41) 0)) (.op (Zo 54 (.ext (.t 41) 1)) (.hop ⟨no,.st 2 (.t 9) (.t 53),no⟩ [] (.op (Zv 10 54) .fin))))))))))))))))))) (.seq (.seq (.reg [Zv 55 10,Zo 56 (.un .not (.t 55))]) (.cond (.t 56) (.seq (.reg [Zo 57 (.build [(.int .i64 0),(.nil 1)] []),⟨no,.st 2 (.t 4) (.t 57),no⟩,Zo 5 (.mv (.k (.bool false)))]) .ret) .skip)) (.reg [Zl 58 true 2 9,⟨no,.st 2 (.t 7) (.t 58),no⟩])))) (.reg [Zv 39 8,Zo 40 (.bin .add (.t 39) (.k (.int .i64 1))),Zv 8 40])))))) (.seq (.reg [Zl 59 true 2 7,⟨no,.st 2 (.t 4) (.t 59),no⟩,Zo 5 (.mv (.k (.bool true)))]) .ret)))))))⟩
theorem a269_ok:J06 Tryz.prog Tryz.f269=some a269:=by kernel_rfl
def J5j:List (Int×DLin)→DLin→Option DLin
 | [],o=>some o
 | p::l,o=>match J0j o p.1 p.2 with
  | some o'=>J5j l o'
  | Option.none=>Option.none
def Jij (args:List DLin):Nat:=match args with | []=>0|a::_=>a.Coeffs.length
def J3q (l:DLin) (args:List DLin):Option DLin:=
 if J1q l args.length&&J1q (J09 l.Const (Jij args)) (Jij args) then J5j (l.Coeffs.zip args) (J09 l.Const (Jij args)) else Option.none
theorem J6e {a b o:DLin}{k:Int}(h:J0j a k b=some o):o.Coeffs.length=a.Coeffs.length∧J1q b a.Coeffs.length=true:=by
 unfold J0j at h
 split at h
 ·rename_i hc
  simp only [Bool.and_eq_true] at hc
  have h1:=J1z hc.1.1.1.1
  have h2:=J1z hc.1.1.1.2
  cases h
  refine ⟨?_,hc.1.1.1.2⟩
  simp [J59];omega
 ·cases h
theorem Jh5 {n:Nat} : ∀ (l:List (Int×DLin)) (o:DLin),o.Coeffs.length=n→(∃ p∈l,J1q p.2 n=false)→J5j l o=Option.none
 | [],o,_,h=>by obtain ⟨p,hp,_⟩:=h;cases hp
 | q::l,o,hn,h=>by
  obtain ⟨p,hp,hb⟩:=h
  simp only [J5j]
  split
  ·rename_i o' ho
   obtain ⟨h1,h2⟩:=J6e ho
   rcases List.mem_cons.1 hp with rfl|hp
   ·rw [hn,hb] at h2;cases h2
   ·exact Jh5 l o' (by omega) ⟨p,hp,hb⟩
  ·rfl
theorem J7f {c:Int}{n:Nat}(hc:okC c=true) (hn:(n:Int)≤8):J09 c n=⟨c,List.replicate n 0⟩∧J1q (J09 c n) n=true:=by
 have h:J09 c n=⟨c,List.replicate n 0⟩:=by
  unfold J09
  rw [if_pos (by simp [inR,hc];omega)];simp
 refine ⟨h,?_⟩
 rw [h]
 simp [J1q,inR,hc,hn]
 right;decide
theorem Jiz {l:DLin}{n:Int}(h:J1q l n=true):okC l.Const=true:=by
 unfold J1q at h;simp only [Bool.and_eq_true] at h;exact h.1.2
theorem Jf6 {l:DLin}{args:List DLin}(h1:J1q l args.length=true):J3q l args=if args.all (fun a=>J1q a (Jij args)) then J5j (l.Coeffs.zip args) (J09 l.Const (Jij args)) else Option.none:=by
 unfold J3q
 rw [h1,Bool.true_and]
 have hl:=J1z h1
 cases h2:args.all (fun a=>J1q a (Jij args))
 ·simp only [Bool.false_eq_true,if_false]
  split
  ·rename_i h3
   have h3':=J1z h3
   rw [List.all_eq_false] at h2
   obtain ⟨a,ha,hb⟩:=h2
   obtain ⟨i,hi,rfl⟩:=List.mem_iff_getElem.1 ha
   refine Jh5 (n:=Jij args) _ _ (by omega) ⟨(l.Coeffs[i]'(by omega),args[i]),List.mem_iff_getElem.2 ⟨i,by simp;omega,by simp⟩,by simpa using hb⟩
  ·rfl
 ·have hn:((Jij args:Nat):Int)≤8:=by
   cases args with
   | nil=>simp [Jij]
   | cons a rest=>
    simp only [List.all_cons,Bool.and_eq_true] at h2
    exact (J1z h2.1).2.2
  rw [if_pos (J7f (Jiz h1) hn).2,if_pos rfl]
theorem Jpm {h:Heap}{n id:Nat}{v:Int}(x:DLin) (hv:h id=some ⟨true,1,[[i64 v]]⟩) (hid:id<n):Jgt Tryz.prog 307 [] [.ptr id 0 0] h n (.agg (J05 x)) (.bool (!J1q x v)):=by
 intro K hK
 refine J9x ?_
 refine J17 Tryz.func307 a307_ok rfl (by simp [a307]) ?_
 have n1:¬id=n:=by omega
 simp [a307,hv,n1,J05]
 first|refine J01 (J1p x v) (by first|simp [J05];done|rfl) ?_|refine J02 (J1p x v) (by first|simp [J05];done|rfl) ?_
 rintro r rfl
 simp [Jeq,hK]
 intro j hj hj'
 omega
set_option maxHeartbeats 1000000 in
theorem J92 (l:DLin) (args:List DLin):Holds Tryz.prog 272 [.agg (J05 l),.sl 2 (args.map J05)] (fun r=>r=J18 (J3q l args)):=by
 refine J1l Tryz.func272 rfl rfl fun hlm => ?_
 simp [J05] at hlm
 have hN:(args.length=0∧Jij args=0)∨∃ hz:0<args.length,Jij args=(args[0]'hz).Coeffs.length:=by
  cases args with
  | nil=>exact .inl ⟨rfl,rfl⟩
  | cons a rest=>exact .inr ⟨by simp,rfl⟩
 rcases hN with ⟨hz,hN⟩|⟨hz,hN⟩
 ·refine J03 Tryz.func272 a272_ok rfl (by simp [a272]) ?_
  simp [a272,J05]
  simp [hz]
  intro hnil
  subst hnil
  first|refine J01 (J1p l 0) (by first|simp [J05];done|rfl) ?_|refine J02 (J1p l 0) (by first|simp [J05];done|rfl) ?_
  rintro r rfl
  cases h1:J1q l 0
  ·have e:J3q l []=Option.none:=by simp [J3q,h1]
   simp [e,J18,J1g,J08,J0m]
  have e:J3q l []=some (J09 l.Const 0):=by rw [Jf6 h1];simp [Jij,J5j]
  rw [e]
  simp
  refine J1t (p:=fun x => !J1q x 0) (rowOf:=J05) (eltOf:=fun x => .agg (J05 x)) Tryz.func144 a144_ok rfl Tryz.func231 a231_ok rfl (fun x=>by simp) [] (fun x hx=>by cases hx) ?_
  simp
  first|refine J01 (J27 l.Const 0) (by first|simp;done|rfl) ?_|refine J02 (J27 l.Const 0) (by first|simp;done|rfl) ?_
  rintro r rfl
  simp [J08]
  refine J60 [4,5,7,35] 36 0 (fun i s=>True) (by decide) (by simp) trivial ?_ ?_
  ·intro i s h R hi;omega
  ·rintro s h R hk s36 _ hh _ hX
   simp at hk hh
   simp [hk,s36,hh]
   refine hX _ _ ?_
   simp [hk,hh,J18,J08]
 ·refine J03 Tryz.func272 a272_ok rfl (by simp [a272]) ?_
  simp [a272,J05]
  have hne:¬args=[]:=by rintro rfl;simp at hz
  simp [hz,hne,J05]
  intro _ _ _
  first|refine J01 (J1p l args.length) (by first|simp [J05];done|rfl) ?_|refine J02 (J1p l args.length) (by first|simp [J05];done|rfl) ?_
  rintro r rfl
  cases h1:J1q l args.length
  ·have e:J3q l args=Option.none:=by simp [J3q,h1]
   simp [e,J18,J1g,J08,J0m]
  rw [Jf6 h1,hN]
  generalize hc3:(args.all fun x=>J1q x (args[0].Coeffs.length:Int))=b3
  have hla:=J1z h1
  simp
  refine J1t (p:=fun x => !J1q x (args[0].Coeffs.length:Int)) (rowOf:=J05) (eltOf:=fun x => .agg (J05 x)) Tryz.func144 a144_ok rfl Tryz.func231 a231_ok rfl (fun x=>by simp) args (fun x _=>Jpm x (by simp [i64]) (by omega)) ?_
  rw [Jaz (fun x:DLin=>J1q x (args[0].Coeffs.length:Int)),hc3]
  cases b3
  ·simp [J18,J1g,J08,J0m]
  simp
  first|refine J01 (J27 l.Const (args[0].Coeffs.length:Int)) (by first|simp;done|rfl) ?_|refine J02 (J27 l.Const (args[0].Coeffs.length:Int)) (by first|simp;done|rfl) ?_
  rintro r rfl
  simp [J08]
  intro _
  have hzl:(l.Coeffs.zip args).length=args.length:=by simp;omega
  generalize hG:J5j (l.Coeffs.zip args) (J09 l.Const (args[0].Coeffs.length:Int))=G
  refine J0l [1,2,4,7,34,35] 36 args.length (fun i s h n=>h 0=some ⟨true,2,[[.int .i64 l.Const,.sl 1 (J0m l.Coeffs)]]⟩∧h 1=some ⟨true,2,[[.int .i64 0,.nil 1]]⟩∧4<n ∧
   ∃ (o:DLin) (id:Nat),h 4=some ⟨true,2,[[.int .i64 o.Const,.ref id 0 o.Coeffs.length]]⟩∧h id=some ⟨false,1,J0m o.Coeffs⟩∧id<n∧(id=3∨4<id)∧J5j ((l.Coeffs.zip args).drop i) o=G)
   hlm.2 (by simp) ⟨by simp,by simp,by simp,J09 l.Const (args[0].Coeffs.length:Int),3,by simp,by simp,by omega,by omega,by simpa using hG⟩ ?_ ?_
  ·rintro i s h n R hi hg hk s36 hw ⟨e0,e1,hn,o,id,e4,eid,hidn,hid,hJ⟩ hR hret _
   simp at hk
   have hir:i<l.Coeffs.length:=by omega
   rw [List.drop_eq_getElem_cons (by omega:i<(l.Coeffs.zip args).length)] at hJ
   simp only [J5j,List.getElem_zip] at hJ
   have n0:¬0=n:=by omega
   have n1:¬1=n:=by omega
   have n4:¬4=n:=by omega
   have n4':¬n=4:=by omega
   have nid:¬id=n:=by omega
   simp [hk,s36,hi,hg,hw,hir,e0,e1,e4,eid,n0,n1,n4,n4',nid]
   refine ⟨by simp [J05],?_⟩
   have m0:¬0=n+1:=by omega
   have m1:¬1=n+1:=by omega
   have m4:¬4=n+1:=by omega
   have m4':¬n+1=4:=by omega
   have m3':¬n=3:=by omega
   have z0:¬n=0:=by omega
   first|refine J01 (J22 o (l.Coeffs[i]'hir) (args[i]'hi)) (by first|simp [J05,eid,nid];done|rfl) ?_|refine J02 (J22 o (l.Coeffs[i]'hir) (args[i]'hi)) (by first|simp [J05,eid,nid];done|rfl) ?_
   rintro r rfl
   cases ho:J0j o l.Coeffs[i] args[i]
   ·rw [ho] at hJ
    simp [J18,J1g,J08,hk,e0,e1,e4,n0,n1,n4,n4',m0,m1,m4,m4',m3',z0]
    refine hret _ _ _ ?_
    simp [hk,←hJ,J18,J1g,J08,J0m,m1,n1,z0]
   ·rename_i o'
    rw [ho] at hJ
    simp only at hJ
    simp [J18,J08,hk,s36,hw,e0,e1,e4,n0,n1,n4,n4',m0,m1,m4,m4',m3',z0]
    exact hR _ _ _ (by simp [hk]) (by simp) ⟨by simp [e0,n0,m0],by simp [e1,n1,m1,z0],by omega,o',n+1,by simp,by simp [m3'],by omega,by omega,hJ⟩
  ·rintro s h n R hk s36 ⟨e0,e1,hn,o,id,e4,eid,hidn,hid,hJ⟩ hret hX
   simp at hk
   rw [List.drop_eq_nil_of_le (by omega)] at hJ
   simp only [J5j] at hJ
   simp [hk,s36]
   refine hX _ _ _ _ ?_
   have i1:¬1=id:=by omega
   have i1':¬id=1:=by omega
   simp [hk,e1,e4,eid,←hJ,J18,J08,i1,i1']
set_option maxHeartbeats 1000000 in
theorem J87 (l:DLin) (args:List DLin):Holds Tryz.prog 269 [.agg (J05 l),.sl 2 (args.map J05)] (fun r=>r=J18 (J3q l args)):=by
 refine J1l Tryz.func269 rfl rfl fun hlm => ?_
 simp [J05] at hlm
 have hN:(args.length=0∧Jij args=0)∨∃ hz:0<args.length,Jij args=(args[0]'hz).Coeffs.length:=by
  cases args with
  | nil=>exact .inl ⟨rfl,rfl⟩
  | cons a rest=>exact .inr ⟨by simp,rfl⟩
 rcases hN with ⟨hz,hN⟩|⟨hz,hN⟩
 ·refine J03 Tryz.func269 a269_ok rfl (by simp [a269]) ?_
  simp [a269,J05]
  simp [hz]
  intro hnil
  subst hnil
  first|refine J01 (J21 l.Const 0) (by first|simp;done|rfl) ?_|refine J02 (J21 l.Const 0) (by first|simp;done|rfl) ?_
  rintro r rfl
  simp [J08]
  first|refine J01 (J1a l 0) (by first|simp [J05];done|rfl) ?_|refine J02 (J1a l 0) (by first|simp [J05];done|rfl) ?_
  rintro r rfl
  cases h1:J1q l 0
  ·have e:J3q l []=Option.none:=by simp [J3q,h1]
   simp [e,J18,J1g,J08,J0m]
  have e:J3q l []=some (J09 l.Const 0):=by rw [Jf6 h1];simp [Jij,J5j]
  rw [e]
  simp
  first|refine J01 (J1a (J09 l.Const 0) 0) (by first|simp [J05];done|rfl) ?_|refine J02 (J1a (J09 l.Const 0) 0) (by first|simp [J05];done|rfl) ?_
  rintro r rfl
  have h2:=(J7f (n:=0) (Jiz h1) (by decide)).2
  rw [show ((0:Nat):Int)=0 from rfl] at h2
  simp [h2]
  refine J60 [1,4,5,6,7] 8 0 (fun i s=>True) (by decide) (by simp) trivial ?_ ?_
  ·intro i s h R hi;omega
  ·rintro s h R hk s8 _ hh _ hX
   simp at hk hh
   simp [hk,s8,hh]
   refine hX _ _ ?_
   simp [hk,hh,J18,J08]
 ·refine J03 Tryz.func269 a269_ok rfl (by simp [a269]) ?_
  simp [a269,J05]
  have hne:¬args=[]:=by rintro rfl;simp at hz
  simp [hz,hne,J05]
  intro _ _
  first|refine J01 (J21 l.Const (args[0].Coeffs.length:Int)) (by first|simp;done|rfl) ?_|refine J02 (J21 l.Const (args[0].Coeffs.length:Int)) (by first|simp;done|rfl) ?_
  rintro r rfl
  simp [J08]
  intro _
  first|refine J01 (J1a l args.length) (by first|simp [J05];done|rfl) ?_|refine J02 (J1a l args.length) (by first|simp [J05];done|rfl) ?_
  rintro r rfl
  cases h1:J1q l args.length
  ·have e:J3q l args=Option.none:=by simp [J3q,h1]
   simp [e,J18,J1g,J08,J0m]
  have e:J3q l args=if J1q (J09 l.Const (args[0].Coeffs.length:Int)) (args[0].Coeffs.length:Int) then J5j (l.Coeffs.zip args) (J09 l.Const (args[0].Coeffs.length:Int)) else Option.none:=by
   unfold J3q;rw [h1,hN,Bool.true_and]
  rw [e]
  have hla:=J1z h1
  simp
  first|refine J01 (J1a (J09 l.Const (args[0].Coeffs.length:Int)) (args[0].Coeffs.length:Int)) (by first|simp [J05];done|rfl) ?_|refine J02 (J1a (J09 l.Const (args[0].Coeffs.length:Int)) (args[0].Coeffs.length:Int)) (by first|simp [J05];done|rfl) ?_
  rintro r rfl
  generalize hc3:J1q (J09 l.Const (args[0].Coeffs.length:Int)) (args[0].Coeffs.length:Int)=b3
  cases b3
  ·simp [J18,J1g,J08,J0m]
  simp
  have hzl:(l.Coeffs.zip args).length=args.length:=by simp;omega
  generalize hG:J5j (l.Coeffs.zip args) (J09 l.Const (args[0].Coeffs.length:Int))=G
  refine J0l [1,2,4,6,7] 8 args.length (fun i s h n=>h 0=some ⟨true,2,[[.int .i64 l.Const,.sl 1 (J0m l.Coeffs)]]⟩∧h 1=some ⟨true,2,[[.int .i64 0,.nil 1]]⟩∧3<n ∧
   ∃ (o:DLin) (id:Nat),h 3=some ⟨true,2,[[.int .i64 o.Const,.ref id 0 o.Coeffs.length]]⟩∧h id=some ⟨false,1,J0m o.Coeffs⟩∧id<n∧(id=2∨3<id)∧J5j ((l.Coeffs.zip args).drop i) o=G)
   hlm.2 (by simp) ⟨by simp,by simp,by simp,J09 l.Const (args[0].Coeffs.length:Int),2,by simp,by simp,by omega,by omega,by simpa using hG⟩ ?_ ?_
  ·rintro i s h n R hi hg hk s8 hw ⟨e0,e1,hn,o,id,e3,eid,hidn,hid,hJ⟩ hR hret _
   simp at hk
   have hir:i<l.Coeffs.length:=by omega
   rw [List.drop_eq_getElem_cons (by omega:i<(l.Coeffs.zip args).length)] at hJ
   simp only [J5j,List.getElem_zip] at hJ
   have n0:¬0=n:=by omega
   have n1:¬1=n:=by omega
   have n3:¬3=n:=by omega
   have n3':¬n=3:=by omega
   have nid:¬id=n:=by omega
   have m0:¬0=n+1:=by omega
   have m1:¬1=n+1:=by omega
   have m3:¬3=n+1:=by omega
   have m3':¬n+1=3:=by omega
   have mid:¬id=n+1:=by omega
   have z0:¬n=0:=by omega
   have z2:¬n=2:=by omega
   simp [hk,s8,hi,hg,hir,e0,e1,e3,eid]
   intro _
   constructor
   ·skip
    first|refine J01 (J0w o (l.Coeffs[i]'hir) (args[i]'hi)) (by first|simp [J05,eid];done|rfl) ?_|refine J02 (J0w o (l.Coeffs[i]'hir) (args[i]'hi)) (by first|simp [J05,eid];done|rfl) ?_
    rintro r rfl
    cases ho:J0j o l.Coeffs[i] args[i]
    ·rw [ho] at hJ
     simp [J18,J1g,J08,hk,s8,hi,e0,e1,e3,n0,n1,n3,n3',z0,z2]
     refine hret _ _ _ ?_
     simp [hk,←hJ,J18,J1g,J08,J0m]
    ·rename_i o'
     rw [ho] at hJ
     simp only at hJ
     simp [J18,J08,hk,s8,hi,hw,e0,e1,e3,n0,n1,n3,n3',z0,z2]
     exact hR _ _ _ (by simp [hk]) (by simp) ⟨by simp [e0,n0],by simp [e1,n1,z0],by omega,o',n,by simp,by simp [n3'],by omega,by omega,hJ⟩
   ·skip
    first|refine J01 (J0w o (l.Coeffs[i]'hir) (args[i]'hi)) (by first|simp [J05,eid,mid,nid];done|rfl) ?_|refine J02 (J0w o (l.Coeffs[i]'hir) (args[i]'hi)) (by first|simp [J05,eid,mid,nid];done|rfl) ?_
    rintro r rfl
    cases ho:J0j o l.Coeffs[i] args[i]
    ·rw [ho] at hJ
     simp [J18,J1g,J08,hk,s8,hi,e0,e1,e3,n0,n1,n3,n3',z0,z2]
     refine hret _ _ _ ?_
     simp [hk,←hJ,J18,J1g,J08,J0m]
    ·rename_i o'
     rw [ho] at hJ
     simp only at hJ
     simp [J18,J08,hk,s8,hi,hw,e0,e1,e3,n0,n1,n3,n3',z0,z2]
     exact hR _ _ _ (by simp [hk]) (by simp) ⟨by simp [e0,n0],by simp [e1,n1,z0],by omega,o',n+1,by simp,by simp [z2],by omega,by omega,hJ⟩
  ·rintro s h n R hk s8 ⟨e0,e1,hn,o,id,e3,eid,hidn,hid,hJ⟩ hret hX
   simp at hk
   rw [List.drop_eq_nil_of_le (by omega)] at hJ
   simp only [J5j] at hJ
   simp [hk,s8]
   intro _
   refine hX _ _ _ _ ?_
   have i1:¬1=id:=by omega
   have i1':¬id=1:=by omega
   simp [hk,e1,e3,eid,←hJ,J18,J08,i1,i1']
theorem Ji8:∀ (l:List (Int×DLin)) (o r:DLin),J5j l o=some r→r.Coeffs.length=o.Coeffs.length
 | [],o,r,h=>by cases h;rfl
 | p::l,o,r,h=>by
  simp only [J5j] at h
  split at h
  ·rename_i o' ho
   rw [Ji8 l o' r h,(J6e ho).1]
  ·cases h
theorem Jdu (c:Int) (n:Int):(J09 c n).Coeffs.length≤8:=by
 unfold J09
 split
 ·rename_i h
  simp [inR] at h
  simp;omega
 ·simp
theorem Jrd (l:DLin) (args:List DLin):Jpt ((J3q l args).getD J1g)≤8:=by
 unfold Jpt
 rw [J4z]
 cases h:J3q l args with
 | none=>simp [J1g]
 | some r=>
  unfold J3q at h
  split at h
  ·simp [Ji8 _ _ _ h,Jdu]
  ·cases h
def a189:AFn:= ⟨32,[(.c 4 true 2),.t 5],(.seq (.reg [Zo 2 (.boxv (.t 0)),Zo 4 (.box [(.int .i64 0),(.nil 1)]),Zo 5 (.mv (.k (.bool false)))]) (.seq (.reg [Zf 10 0 2,Zl 11 false 1 10,Zv 12 1,Zc 13 271 [.t 11,.t 12],Zv 9 13,Zo 14 (.ext (.t 9) 0),Zo 15 (.ext (.t 9) 1),Zv 6 14,Zv 7 15]) (.seq (.seq (.reg [Zv 16 7,Zo 17 (.un .not (.t 16)),Zv 18 17,⟨some 19,.ld true 2 (.t 2),(some (18,false))⟩,⟨some 20,.fld 1 (.t 2),(some (18,false))⟩,⟨some 21,.ld false 1 (.t 20),(some (18,false))⟩,⟨some 22,.len false (.t 21),(some (18,false))⟩,⟨some 23,.call (.k (.fn (.func 146) [] [])) [.t 19,.t 22],(some (18,false))⟩,⟨some 24,.un .not (.t 23),(some (18,false))⟩,Zo 25 (.pick (.t 18) (.k (.bool true)) (.t 24))]) (.cond (.t 25) (.seq (.reg [Zo 26 (.build [(.int .i64 0),(.nil 1)] []),⟨no,.st 2 (.t 4) (.t 26),no⟩,Zo 5 (.mv (.k (.bool false)))]) .ret) .skip)) (.seq (.reg [Zl 27 true 2 2,Zc 28 86 [.t 27],Zo 8 (.box [(.int .i64 0),(.nil 1)]),⟨no,.st 2 (.t 8) (.t 28),no⟩]) (.seq (.reg [Zv 29 6,Zf 30 0 8,⟨no,.st 1 (.t 30) (.t 29),no⟩]) (.seq (.reg [Zl 31 true 2 8,⟨no,.st 2 (.t 4) (.t 31),no⟩,Zo 5 (.mv (.k (.bool true)))]) .ret))))))⟩
theorem a189_ok:J06 Tryz.prog Tryz.f189=some a189:=by kernel_rfl
def Jbs (l:DLin) (k:Int):Option DLin:=if (Jh2 l.Const k).2&&J1q l l.Coeffs.length then some ⟨(Jh2 l.Const k).1,l.Coeffs⟩ else Option.none
theorem Jnd (l:DLin) (k:Int):Holds Tryz.prog 189 [.agg (J05 l),i64 k] (fun r=>r=J18 (Jbs l k)):=by
 refine J03 Tryz.func189 a189_ok rfl (by simp [a189]) ?_
 simp [a189,J05]
 first|refine J01 (J80 l.Const k) (by first|simp;done|rfl) ?_|refine J02 (J80 l.Const k) (by first|simp;done|rfl) ?_
 rintro r rfl
 simp [J4d]
 unfold Jbs
 cases h1:(Jh2 l.Const k).2
 ·simp [J18,J1g,J08,J0m]
 simp
 intro _
 first|refine J01 (J1p l l.Coeffs.length) (by first|simp [J05];done|rfl) ?_|refine J02 (J1p l l.Coeffs.length) (by first|simp [J05];done|rfl) ?_
 rintro r rfl
 cases h2:J1q l l.Coeffs.length
 ·simp [J18,J1g,J08,J0m]
 simp
 have hl:=J1z h2
 first|refine J01 (J5b l (by omega)) (by first|simp [J05,J08,J18];done|rfl) ?_|refine J02 (J5b l (by omega)) (by first|simp [J05,J08,J18];done|rfl) ?_
 rintro r rfl
 simp [J05,J08,J18]
def a191:AFn:= ⟨29,[(.c 6 true 2),.t 7],(.seq (.reg [Zo 3 (.boxv (.t 0)),Zo 6 (.box [(.int .i64 0),(.nil 1)]),Zo 7 (.mv (.k (.bool false)))]) (.seq (.seq (.reg [Zv 8 1,Zo 9 (.len false (.t 8)),Zo 10 (.bin .gtr (.t 9) (.k (.int .i64 0)))]) (.cond (.t 10) (.seq (.reg [Zl 11 true 2 3,Zv 12 1,Zc 13 272 [.t 11,.t 12],Zo 14 (.ext (.t 13) 0),Zo 15 (.ext (.t 13) 1),⟨no,.st 2 (.t 6) (.t 14),no⟩,Zv 7 15]) .ret) .skip)) (.seq (.seq (.reg [Zl 16 true 2 3,Zc 17 146 [.t 16,(.k (.int .i64 0))],Zo 18 (.un .not (.t 17)),Zv 19 18,⟨some 20,.mv (.t 2),(some (19,false))⟩,⟨some 21,.call (.k (.fn (.func 102) [] [])) [.t 20,(.k (.int .i64 0)),(.k (.int .i64 8))],(some (19,false))⟩,⟨some 22,.un .not (.t 21),(some (19,false))⟩,Zo 23 (.pick (.t 19) (.k (.bool true)) (.t 22))]) (.cond (.t 23) (.seq (.reg [Zo 24 (.build [(.int .i64 0),(.nil 1)] []),⟨no,.st 2 (.t 6) (.t 24),no⟩,Zo 7 (.mv (.k (.bool false)))]) .ret) .skip)) (.seq (.reg [Zf 25 0 3,Zl 26 false 1 25,Zv 27 2,Zc 28 178 [.t 26,.t 27],⟨no,.st 2 (.t 6) (.t 28),no⟩,Zo 7 (.mv (.k (.bool true)))]) .ret))))⟩
theorem a191_ok:J06 Tryz.prog Tryz.f191=some a191:=by kernel_rfl
def a185:AFn:= ⟨36,[(.c 6 true 2),.t 7],(.seq (.reg [Zo 3 (.boxv (.t 0)),Zo 4 (.boxv (.t 1)),Zo 6 (.box [(.int .i64 0),(.nil 1)]),Zo 7 (.mv (.k (.bool false)))]) (.seq (.seq (.reg [Zv 9 2,Zo 10 (.len false (.t 9)),Zo 11 (.bin .gtr (.t 10) (.k (.int .i64 0)))]) (.cond (.t 11) (.seq (.reg [Zl 12 true 2 4,Zv 13 2,Zc 14 269 [.t 12,.t 13],Zo 15 (.ext (.t 14) 0),Zo 16 (.ext (.t 14) 1),⟨no,.st 2 (.t 6) (.t 15),no⟩,Zv 7 16]) .ret) .skip)) (.seq (.reg [Zf 17 0 4,Zl 18 false 1 17,Zf 19 0 3,Zf 20 0 19,Zl 21 false 1 20,Zc 22 99 [.t 18,.t 21],Zo 8 (.box [(.int .i64 0),(.nil 1)]),⟨no,.st 2 (.t 8) (.t 22),no⟩]) (.seq (.seq (.reg [Zl 23 true 2 4,Zc 24 179 [.t 23,(.k (.int .i64 0))],Zo 25 (.un .not (.t 24)),Zv 26 25,⟨some 27,.ld true 2 (.t 8),(some (26,false))⟩,⟨some 28,.fld 0 (.t 3),(some (26,false))⟩,⟨some 29,.fld 0 (.t 28),(some (26,false))⟩,⟨some 30,.ld false 1 (.t 29),(some (26,false))⟩,⟨some 31,.call (.k (.fn (.func 179) [] [])) [.t 27,.t 30],(some (26,false))⟩,⟨some 32,.un .not (.t 31),(some (26,false))⟩,Zo 33 (.pick (.t 26) (.k (.bool true)) (.t 32))]) (.cond (.t 33) (.seq (.reg [Zo 34 (.build [(.int .i64 0),(.nil 1)] []),⟨no,.st 2 (.t 6) (.t 34),no⟩,Zo 7 (.mv (.k (.bool false)))]) .ret) .skip)) (.seq (.reg [Zl 35 true 2 8,⟨no,.st 2 (.t 6) (.t 35),no⟩,Zo 7 (.mv (.k (.bool true)))]) .ret)))))⟩
theorem a185_ok:J06 Tryz.prog Tryz.f185=some a185:=by kernel_rfl
def a177:AFn:= ⟨28,[(.c 6 true 2),.t 7],(.seq (.reg [Zo 3 (.boxv (.t 0)),Zo 4 (.boxv (.t 1)),Zo 6 (.box [(.int .i64 0),(.nil 1)]),Zo 7 (.mv (.k (.bool false)))]) (.seq (.seq (.reg [Zv 8 2,Zf 9 3 3,Zl 10 false 1 9,Zo 11 (.len false (.t 10)),Zo 12 (.bin .sub (.t 11) (.k (.int .i64 1))),Zc 13 102 [.t 8,(.k (.int .i64 0)),.t 12],Zo 14 (.un .not (.t 13))]) (.cond (.t 14) (.seq (.reg [Zo 15 (.build [(.int .i64 0),(.nil 1)] []),⟨no,.st 2 (.t 6) (.t 15),no⟩,Zo 7 (.mv (.k (.bool false)))]) .ret) .skip)) (.seq (.draw (.op (Zl 16 true 2 4) (.op (Zf 17 3 3) (.op (Zl 18 false 1 17) (.op (Zv 19 2) (.op (Zo 20 (.ixa 1 (.t 18) (.t 19))) (.op (Zl 21 false 1 20) (.op (Zf 22 0 3) (.op (Zf 23 0 22) (.op (Zl 24 false 1 23) (.op (Zc 25 191 [.t 16,.t 21,.t 24]) (.op (Zo 26 (.ext (.t 25) 0)) (.op (Zo 27 (.ext (.t 25) 1)) (.hop ⟨no,.st 2 (.t 6) (.t 26),no⟩ [] (.op (Zv 7 27) .fin))))))))))))))) .ret)))⟩
theorem a177_ok:J06 Tryz.prog Tryz.f177=some a177:=by kernel_rfl
def a174:AFn:= ⟨26,[(.c 6 true 2),.t 7],(.seq (.reg [Zo 3 (.boxv (.t 0)),Zo 4 (.boxv (.t 1)),Zo 6 (.box [(.int .i64 0),(.nil 1)]),Zo 7 (.mv (.k (.bool false)))]) (.seq (.seq (.reg [Zv 8 2,Zf 9 3 3,Zl 10 false 1 9,Zo 11 (.len false (.t 10)),Zo 12 (.bin .sub (.t 11) (.k (.int .i64 1))),Zc 13 183 [.t 8,(.k (.int .i64 0)),.t 12],Zo 14 (.un .not (.t 13))]) (.cond (.t 14) (.seq (.reg [Zo 15 (.build [(.int .i64 0),(.nil 1)] []),⟨no,.st 2 (.t 6) (.t 15),no⟩,Zo 7 (.mv (.k (.bool false)))]) .ret) .skip)) (.seq (.draw (.op (Zl 16 true 6 3) (.op (Zl 17 true 2 4) (.op (Zf 18 3 3) (.op (Zl 19 false 1 18) (.op (Zv 20 2) (.op (Zo 21 (.ixa 1 (.t 19) (.t 20))) (.op (Zl 22 false 1 21) (.op (Zc 23 185 [.t 16,.t 17,.t 22]) (.op (Zo 24 (.ext (.t 23) 0)) (.op (Zo 25 (.ext (.t 23) 1)) (.hop ⟨no,.st 2 (.t 6) (.t 24),no⟩ [] (.op (Zv 7 25) .fin))))))))))))) .ret)))⟩
theorem a174_ok:J06 Tryz.prog Tryz.f174=some a174:=by kernel_rfl
def J0s (l:DLin) (args:List DLin) (n:Int):Option DLin:=
 if 0<args.length then J3q l args else if J1q l 0&&inR n 0 8 then some (J09 l.Const n) else Option.none
def J3u (m:DModel) (l:DLin) (call:Int):Option DLin:=
 if inR call 0 ((m.Args.length:Int) - 1) then J0s l (m.Args.getD call.toNat []) m.System.N else Option.none
def J84 (m:DModel) (a:DLin) (call:Int) (b:DLin) (k:Int):Option DLin:=
 if (J0s a m.Params m.System.N).isSome&&(J3u m b call).isSome&&okC k then
  (if (J0j ((J0s a m.Params m.System.N).getD J1g) (-1) ((J3u m b call).getD J1g)).isSome then
   Jbs ((J0j ((J0s a m.Params m.System.N).getD J1g) (-1) ((J3u m b call).getD J1g)).getD J1g) (-k) else Option.none)
 else Option.none
theorem J3f (l:DLin) (args:List DLin) (n:Int):Holds Tryz.prog 191 [.agg (J05 l),.sl 2 (args.map J05),i64 n] (fun r=>r=J18 (J0s l args n)):=by
 refine J03 Tryz.func191 a191_ok rfl (by simp [a191]) ?_
 simp [a191,J05]
 unfold J0s
 intro _
 by_cases h:0<args.length
 ·have hne:¬args=[]:=by rintro rfl;simp at h
  simp [h,hne]
  first|refine J01 (J92 l args) (by first|simp [J05];done|rfl) ?_|refine J02 (J92 l args) (by first|simp [J05];done|rfl) ?_
  rintro r rfl
  simp [J0u,J08]
 have hne:args=[]:=List.eq_nil_of_length_eq_zero (by omega)
 subst hne
 simp
 first|refine J01 (J1p l 0) (by first|simp [J05];done|rfl) ?_|refine J02 (J1p l 0) (by first|simp [J05];done|rfl) ?_
 rintro r rfl
 cases h1:J1q l 0
 ·simp [J18,J1g,J08,J0m]
 simp
 first|refine J01 (J24 n 0 8) (by first|simp;done|rfl) ?_|refine J02 (J24 n 0 8) (by first|simp;done|rfl) ?_
 rintro r rfl
 cases h2:inR n 0 8
 ·simp [J18,J1g,J08,J0m]
 simp
 first|refine J01 (J27 l.Const n) (by first|simp;done|rfl) ?_|refine J02 (J27 l.Const n) (by first|simp;done|rfl) ?_
 rintro r rfl
 simp [J18,J08]
theorem J7h (m:DModel) (l:DLin) (args:List DLin):Holds Tryz.prog 185 [.agg (J0o m),.agg (J05 l),.sl 2 (args.map J05)] (fun r=>r=J18 (J0s l args m.System.N)):=by
 refine J03 Tryz.func185 a185_ok rfl (by simp [a185]) ?_
 simp [a185,J05,J0o]
 unfold J0s
 intro _
 by_cases h:0<args.length
 ·have hne:¬args=[]:=by rintro rfl;simp at h
  simp [h,hne]
  first|refine J01 (J87 l args) (by first|simp [J05];done|rfl) ?_|refine J02 (J87 l args) (by first|simp [J05];done|rfl) ?_
  rintro r rfl
  simp [J0u,J08]
 have hne:args=[]:=List.eq_nil_of_length_eq_zero (by omega)
 subst hne
 simp
 first|refine J01 (J21 l.Const m.System.N) (by first|simp;done|rfl) ?_|refine J02 (J21 l.Const m.System.N) (by first|simp;done|rfl) ?_
 rintro r rfl
 simp [J08]
 first|refine J01 (J1a l 0) (by first|simp [J05];done|rfl) ?_|refine J02 (J1a l 0) (by first|simp [J05];done|rfl) ?_
 rintro r rfl
 cases h1:J1q l 0
 ·simp [J18,J1g,J08,J0m]
 simp
 first|refine J01 (J1a (J09 l.Const m.System.N) m.System.N) (by first|simp [J05];done|rfl) ?_|refine J02 (J1a (J09 l.Const m.System.N) m.System.N) (by first|simp [J05];done|rfl) ?_
 rintro r rfl
 have hv:J1q (J09 l.Const m.System.N) m.System.N=inR m.System.N 0 8:=by
  cases h2:inR m.System.N 0 8
  ·simp [J1q,h2]
  ·have h3:0≤m.System.N∧m.System.N≤8:=by simpa [inR] using h2
   have:=(J7f (n:=m.System.N.toNat) (Jiz h1) (by omega)).2
   rwa [show ((m.System.N.toNat:Nat):Int)=m.System.N by omega] at this
 rw [hv]
 cases h2:inR m.System.N 0 8
 ·simp [J18,J1g,J08,J0m]
 simp [J18,J08]
theorem Jgh (m:DModel) (l:DLin) (call:Int):Holds Tryz.prog 177 [.agg (J0o m),.agg (J05 l),i64 call] (fun r=>r=J18 (J3u m l call)):=by
 refine J1l Tryz.func177 rfl rfl fun hlm => ?_
 simp [J05,J0o] at hlm
 refine J03 Tryz.func177 a177_ok rfl (by simp [a177]) ?_
 simp [a177,J05,J0o]
 intro hl
 unfold LIM at hl
 rw [J0r (by omega)]
 unfold J3u
 first|refine J01 (J24 call 0 ((m.Args.length:Int) - 1)) (by first|simp;done|rfl) ?_|refine J02 (J24 call 0 ((m.Args.length:Int) - 1)) (by first|simp;done|rfl) ?_
 rintro r rfl
 cases h1:inR call 0 ((m.Args.length:Int) - 1)
 ·simp [J18,J1g,J08,J0m]
 have hc:0≤call∧call≤(m.Args.length:Int) - 1:=by simpa [inR] using h1
 obtain ⟨c,rfl⟩:∃ c:Nat,call=c:=⟨call.toNat,by omega⟩
 have hcl:c<m.Args.length:=by omega
 simp [hcl,J2x]
 first|refine J01 (J3f l (m.Args[c]'hcl) m.System.N) (by first|simp [J05];done|rfl) ?_|refine J02 (J3f l (m.Args[c]'hcl) m.System.N) (by first|simp [J05];done|rfl) ?_
 rintro r rfl
 simp [J0u,J08]
theorem Jdw (m:DModel) (l:DLin) (call:Int):Holds Tryz.prog 174 [.agg (J0o m),.agg (J05 l),i64 call] (fun r=>r=J18 (J3u m l call)):=by
 refine J1l Tryz.func174 rfl rfl fun hlm => ?_
 simp [J05,J0o] at hlm
 refine J03 Tryz.func174 a174_ok rfl (by simp [a174]) ?_
 simp [a174,J05,J0o]
 intro hl
 unfold LIM at hl
 rw [J0r (by omega)]
 unfold J3u
 first|refine J01 (J5m call 0 ((m.Args.length:Int) - 1)) (by first|simp;done|rfl) ?_|refine J02 (J5m call 0 ((m.Args.length:Int) - 1)) (by first|simp;done|rfl) ?_
 rintro r rfl
 cases h1:inR call 0 ((m.Args.length:Int) - 1)
 ·simp [J18,J1g,J08,J0m]
 have hc:0≤call∧call≤(m.Args.length:Int) - 1:=by simpa [inR] using h1
 obtain ⟨c,rfl⟩:∃ c:Nat,call=c:=⟨call.toNat,by omega⟩
 have hcl:c<m.Args.length:=by omega
 simp [hcl,J2x]
 first|refine J01 (J7h m l (m.Args[c]'hcl)) (by first|simp [J05,J0o];done|rfl) ?_|refine J02 (J7h m l (m.Args[c]'hcl)) (by first|simp [J05,J0o];done|rfl) ?_
 rintro r rfl
 simp [J0u,J08]
theorem Jp3 (l:DLin) (args:List DLin) (n:Int):Jpt ((J0s l args n).getD J1g)≤8:=by
 unfold J0s
 split
 ·exact Jrd l args
 ·split
  ·unfold Jpt;rw [J4z];exact Jdu _ _
  ·unfold Jpt;rw [J4z];simp [J1g]
end Go.Proofs.YtoclolkigjbcgaaGreat

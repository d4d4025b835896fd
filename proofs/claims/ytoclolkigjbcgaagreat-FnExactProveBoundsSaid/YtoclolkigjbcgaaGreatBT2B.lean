/- Contracts of the laws' functions over the types. -/
import Derived.Test.YtoclolkigjbcgaaGreatBHB5
import Derived.Test.YtoclolkigjbcgaaGreatBC1
import Derived.Test.YtoclolkigjbcgaaGreatBFF9
import Derived.Test.YtoclolkigjbcgaaGreatBRE
import Derived.Test.YtoclolkigjbcgaaGreatProg
namespace Go.Proofs.YtoclolkigjbcgaaGreat
open Tryz(prog)
open List(length_map take_of_length_le)
set_option maxRecDepth 40000
set_option maxHeartbeats 4000000
open Go Go.RowKit Go.Proofs
set_option linter.all false
def a332:Jk:= ⟨13,[.t 4],(Zq [ZB 2 0,Zi 4 0] (Zq [Zv 5 1,Zf 6 1 2,Zl 7 false 1 6,Zo 8 (.len true (.t 7)),Zb 9 .sub 5 8,Zv 1 9] (.seq (Zq [Zv 10 1,Zk 11 .lss 10 0] (.cond (.t 11) (Zq [Zi 4 (-1)] .ret) .skip)) (Zq [Zv 12 1,Zv 4 12] .ret))))⟩
theorem a332_ok:Jf prog Tryz.f332=some a332:=by kernel_rfl
def a334:Jk:= ⟨11,[(.c 2 true 2)],(Zq [ZB 1 0,Zo 2 (.box [(.int .i64 0),(.str [])])] (Zq [Zo 3 (.box [(.int .i64 0),(.str [])])] (Zq [Zf 4 0 1,Zl 5 false 1 4,Zf 6 0 3,⟨no,.st 1 (.t 6) (.t 5),no⟩] (Zq [Zf 7 1 1,Zl 8 false 1 7,Zf 9 1 3,⟨no,.st 1 (.t 9) (.t 8),no⟩] (Zq [Zl 10 true 2 3,⟨no,.st 2 (.t 2) (.t 10),no⟩] .ret)))))⟩
theorem a334_ok:Jf prog Tryz.f334=some a334:=by kernel_rfl
def a337:Jk:= ⟨15,[.t 4],(Zq [ZB 2 0,ZB 3 1,Zt 4 false] (.seq (Zq [Zf 5 0 2,Zl 6 false 1 5,Zf 7 0 3,Zl 8 false 1 7,Zb 9 .neq 6 8] (.cond (.t 9) (Zq [Zt 4 false] .ret) .skip)) (.seq (Zq [Zf 10 1 2,Zl 11 false 1 10,Zf 12 1 3,Zl 13 false 1 12,Zb 14 .neq 11 13] (.cond (.t 14) (Zq [Zt 4 false] .ret) .skip)) (Zq [Zt 4 true] .ret))))⟩
theorem a337_ok:Jf prog Tryz.f337=some a337:=by kernel_rfl
def a283:Jk:= ⟨12,[.t 4],(Zq [ZB 2 0,Zi 4 0] (Zq [Zf 5 1 2,Zl 6 false 1 5,Zv 7 1,Zc 8 314 [.t 6,.t 7],Zv 1 8] (.seq (Zq [Zv 9 1,Zk 10 .lss 9 0] (.cond (.t 10) (Zq [Zi 4 (-1)] .ret) .skip)) (Zq [Zv 11 1,Zv 4 11] .ret))))⟩
theorem a283_ok:Jf prog Tryz.f283=some a283:=by kernel_rfl
def a290:Jk:= ⟨12,[(.c 2 true 2)],(Zq [ZB 1 0,Zo 2 (.box [(.int .i64 0),(.nil 2)])] (Zq [Zo 3 (.box [(.int .i64 0),(.nil 2)])] (Zq [Zf 4 0 1,Zl 5 false 1 4,Zf 6 0 3,⟨no,.st 1 (.t 6) (.t 5),no⟩] (Zq [Zf 7 1 1,Zl 8 false 1 7,Zc 9 320 [.t 8],Zf 10 1 3,⟨no,.st 1 (.t 10) (.t 9),no⟩] (Zq [Zl 11 true 2 3,⟨no,.st 2 (.t 2) (.t 11),no⟩] .ret)))))⟩
theorem a290_ok:Jf prog Tryz.f290=some a290:=by kernel_rfl
def a301:Jk:= ⟨16,[.t 4],(Zq [ZB 2 0,ZB 3 1,Zt 4 false] (.seq (Zq [Zf 5 0 2,Zl 6 false 1 5,Zf 7 0 3,Zl 8 false 1 7,Zb 9 .neq 6 8] (.cond (.t 9) (Zq [Zt 4 false] .ret) .skip)) (.seq (Zq [Zf 10 1 2,Zl 11 false 1 10,Zf 12 1 3,Zl 13 false 1 12,Zc 14 326 [.t 11,.t 13],ZN 15 14] (.cond (.t 15) (Zq [Zt 4 false] .ret) .skip)) (Zq [Zt 4 true] .ret))))⟩
theorem a301_ok:Jf prog Tryz.f301=some a301:=by kernel_rfl
def a215:Jk:= ⟨19,[.t 4],(Zq [ZB 2 0,Zi 4 0] (Zq [Zf 5 1 2,Zl 6 false 1 5,Zv 7 1,Zc 8 213 [.t 6,.t 7],Zv 1 8] (.seq (Zq [Zv 9 1,Zk 10 .lss 9 0] (.cond (.t 10) (Zq [Zi 4 (-1)] .ret) .skip)) (Zq [Zv 11 1,Zf 12 2 2,Zl 13 false 1 12,Zo 14 (.len true (.t 13)),Zb 15 .sub 11 14,Zv 1 15] (.seq (Zq [Zv 16 1,Zk 17 .lss 16 0] (.cond (.t 17) (Zq [Zi 4 (-1)] .ret) .skip)) (Zq [Zv 18 1,Zv 4 18] .ret))))))⟩
theorem a215_ok:Jf prog Tryz.f215=some a215:=by kernel_rfl
def a229:Jk:= ⟨15,[(.c 2 true 3)],(Zq [ZB 1 0,Zo 2 (.box [(.bool false),(.nil 2),(.str [])])] (Zq [Zo 3 (.box [(.bool false),(.nil 2),(.str [])])] (Zq [Zf 4 0 1,Zl 5 false 1 4,Zf 6 0 3,⟨no,.st 1 (.t 6) (.t 5),no⟩] (Zq [Zf 7 1 1,Zl 8 false 1 7,Zc 9 227 [.t 8],Zf 10 1 3,⟨no,.st 1 (.t 10) (.t 9),no⟩] (Zq [Zf 11 2 1,Zl 12 false 1 11,Zf 13 2 3,⟨no,.st 1 (.t 13) (.t 12),no⟩] (Zq [Zl 14 true 3 3,⟨no,.st 3 (.t 2) (.t 14),no⟩] .ret))))))⟩
theorem a229_ok:Jf prog Tryz.f229=some a229:=by kernel_rfl
def a247:Jk:= ⟨21,[.t 4],(Zq [ZB 2 0,ZB 3 1,Zt 4 false] (.seq (Zq [Zf 5 0 2,Zl 6 false 1 5,Zf 7 0 3,Zl 8 false 1 7,Zo 9 (.beq true (.t 6) (.t 8))] (.cond (.t 9) (Zq [Zt 4 false] .ret) .skip)) (.seq (Zq [Zf 10 1 2,Zl 11 false 1 10,Zf 12 1 3,Zl 13 false 1 12,Zc 14 245 [.t 11,.t 13],ZN 15 14] (.cond (.t 15) (Zq [Zt 4 false] .ret) .skip)) (.seq (Zq [Zf 16 2 2,Zl 17 false 1 16,Zf 18 2 3,Zl 19 false 1 18,Zb 20 .neq 17 19] (.cond (.t 20) (Zq [Zt 4 false] .ret) .skip)) (Zq [Zt 4 true] .ret)))))⟩
theorem a247_ok:Jf prog Tryz.f247=some a247:=by kernel_rfl
def a282:Jk:= ⟨27,[.t 4],(Zq [ZB 2 0,Zi 4 0] (Zq [Zv 5 1,Zf 6 0 2,Zl 7 false 1 6,Zo 8 (.len true (.t 7)),Zb 9 .sub 5 8,Zv 1 9] (.seq (Zq [Zv 10 1,Zk 11 .lss 10 0] (.cond (.t 11) (Zq [Zi 4 (-1)] .ret) .skip)) (Zq [Zv 12 1,Zf 13 2 2,Zl 14 false 1 13,Zo 15 (.len true (.t 14)),Zb 16 .sub 12 15,Zv 1 16] (.seq (Zq [Zv 17 1,Zk 18 .lss 17 0] (.cond (.t 18) (Zq [Zi 4 (-1)] .ret) .skip)) (Zq [Zv 19 1,Zf 20 3 2,Zl 21 false 1 20,Zo 22 (.len true (.t 21)),Zb 23 .sub 19 22,Zv 1 23] (.seq (Zq [Zv 24 1,Zk 25 .lss 24 0] (.cond (.t 25) (Zq [Zi 4 (-1)] .ret) .skip)) (Zq [Zv 26 1,Zv 4 26] .ret))))))))⟩
theorem a282_ok:Jf prog Tryz.f282=some a282:=by kernel_rfl
def a289:Jk:= ⟨17,[(.c 2 true 4)],(Zq [ZB 1 0,Zo 2 (.box [(.str []),(.bool false),(.str []),(.str [])])] (Zq [Zo 3 (.box [(.str []),(.bool false),(.str []),(.str [])])] (Zq [Zf 4 0 1,Zl 5 false 1 4,Zf 6 0 3,⟨no,.st 1 (.t 6) (.t 5),no⟩] (Zq [Zf 7 1 1,Zl 8 false 1 7,Zf 9 1 3,⟨no,.st 1 (.t 9) (.t 8),no⟩] (Zq [Zf 10 2 1,Zl 11 false 1 10,Zf 12 2 3,⟨no,.st 1 (.t 12) (.t 11),no⟩] (Zq [Zf 13 3 1,Zl 14 false 1 13,Zf 15 3 3,⟨no,.st 1 (.t 15) (.t 14),no⟩] (Zq [Zl 16 true 4 3,⟨no,.st 4 (.t 2) (.t 16),no⟩] .ret)))))))⟩
theorem a289_ok:Jf prog Tryz.f289=some a289:=by kernel_rfl
def a300:Jk:= ⟨25,[.t 4],(Zq [ZB 2 0,ZB 3 1,Zt 4 false] (.seq (Zq [Zf 5 0 2,Zl 6 false 1 5,Zf 7 0 3,Zl 8 false 1 7,Zb 9 .neq 6 8] (.cond (.t 9) (Zq [Zt 4 false] .ret) .skip)) (.seq (Zq [Zf 10 1 2,Zl 11 false 1 10,Zf 12 1 3,Zl 13 false 1 12,Zo 14 (.beq true (.t 11) (.t 13))] (.cond (.t 14) (Zq [Zt 4 false] .ret) .skip)) (.seq (Zq [Zf 15 2 2,Zl 16 false 1 15,Zf 17 2 3,Zl 18 false 1 17,Zb 19 .neq 16 18] (.cond (.t 19) (Zq [Zt 4 false] .ret) .skip)) (.seq (Zq [Zf 20 3 2,Zl 21 false 1 20,Zf 22 3 3,Zl 23 false 1 22,Zb 24 .neq 21 23] (.cond (.t 24) (Zq [Zt 4 false] .ret) .skip)) (Zq [Zt 4 true] .ret))))))⟩
theorem a300_ok:Jf prog Tryz.f300=some a300:=by kernel_rfl
def a284:Jk:= ⟨26,[.t 4],(Zq [ZB 2 0,Zi 4 0] (Zq [Zv 5 1,Zf 6 0 2,Zl 7 false 1 6,Zo 8 (.len true (.t 7)),Zb 9 .sub 5 8,Zv 1 9] (.seq (Zq [Zv 10 1,Zk 11 .lss 10 0] (.cond (.t 11) (Zq [Zi 4 (-1)] .ret) .skip)) (Zq [Zv 12 1,Zf 13 1 2,Zl 14 false 1 13,Zo 15 (.len true (.t 14)),Zb 16 .sub 12 15,Zv 1 16] (.seq (Zq [Zv 17 1,Zk 18 .lss 17 0] (.cond (.t 18) (Zq [Zi 4 (-1)] .ret) .skip)) (Zq [Zf 19 2 2,Zl 20 false 1 19,Zv 21 1,Zc 22 315 [.t 20,.t 21],Zv 1 22] (.seq (Zq [Zv 23 1,Zk 24 .lss 23 0] (.cond (.t 24) (Zq [Zi 4 (-1)] .ret) .skip)) (Zq [Zv 25 1,Zv 4 25] .ret))))))))⟩
theorem a284_ok:Jf prog Tryz.f284=some a284:=by kernel_rfl
def a291:Jk:= ⟨15,[(.c 2 true 3)],(Zq [ZB 1 0,Zo 2 (.box [(.str []),(.str []),(.nil 3)])] (Zq [Zo 3 (.box [(.str []),(.str []),(.nil 3)])] (Zq [Zf 4 0 1,Zl 5 false 1 4,Zf 6 0 3,⟨no,.st 1 (.t 6) (.t 5),no⟩] (Zq [Zf 7 1 1,Zl 8 false 1 7,Zf 9 1 3,⟨no,.st 1 (.t 9) (.t 8),no⟩] (Zq [Zf 10 2 1,Zl 11 false 1 10,Zc 12 321 [.t 11],Zf 13 2 3,⟨no,.st 1 (.t 13) (.t 12),no⟩] (Zq [Zl 14 true 3 3,⟨no,.st 3 (.t 2) (.t 14),no⟩] .ret))))))⟩
theorem a291_ok:Jf prog Tryz.f291=some a291:=by kernel_rfl
def a302:Jk:= ⟨21,[.t 4],(Zq [ZB 2 0,ZB 3 1,Zt 4 false] (.seq (Zq [Zf 5 0 2,Zl 6 false 1 5,Zf 7 0 3,Zl 8 false 1 7,Zb 9 .neq 6 8] (.cond (.t 9) (Zq [Zt 4 false] .ret) .skip)) (.seq (Zq [Zf 10 1 2,Zl 11 false 1 10,Zf 12 1 3,Zl 13 false 1 12,Zb 14 .neq 11 13] (.cond (.t 14) (Zq [Zt 4 false] .ret) .skip)) (.seq (Zq [Zf 15 2 2,Zl 16 false 1 15,Zf 17 2 3,Zl 18 false 1 17,Zc 19 327 [.t 16,.t 18],ZN 20 19] (.cond (.t 20) (Zq [Zt 4 false] .ret) .skip)) (Zq [Zt 4 true] .ret)))))⟩
theorem a302_ok:Jf prog Tryz.f302=some a302:=by kernel_rfl
def a133:Jk:= ⟨37,[.t 4],(Zq [ZB 2 0,Zi 4 0] (Zq [Zv 5 1,Zf 6 0 2,Zl 7 false 1 6,Zo 8 (.len true (.t 7)),Zb 9 .sub 5 8,Zv 1 9] (.seq (Zq [Zv 10 1,Zk 11 .lss 10 0] (.cond (.t 11) (Zq [Zi 4 (-1)] .ret) .skip)) (Zq [Zf 12 1 2,Zl 13 false 1 12,Zv 14 1,Zc 15 212 [.t 13,.t 14],Zv 1 15] (.seq (Zq [Zv 16 1,Zk 17 .lss 16 0] (.cond (.t 17) (Zq [Zi 4 (-1)] .ret) .skip)) (Zq [Zf 18 2 2,Zl 19 false 1 18,Zv 20 1,Zc 21 213 [.t 19,.t 20],Zv 1 21] (.seq (Zq [Zv 22 1,Zk 23 .lss 22 0] (.cond (.t 23) (Zq [Zi 4 (-1)] .ret) .skip)) (Zq [Zf 24 3 2,Zl 25 false 1 24,Zv 26 1,Zc 27 214 [.t 25,.t 26],Zv 1 27] (.seq (Zq [Zv 28 1,Zk 29 .lss 28 0] (.cond (.t 29) (Zq [Zi 4 (-1)] .ret) .skip)) (Zq [Zf 30 4 2,Zl 31 true 3 30,Zv 32 1,Zc 33 215 [.t 31,.t 32],Zv 1 33] (.seq (Zq [Zv 34 1,Zk 35 .lss 34 0] (.cond (.t 35) (Zq [Zi 4 (-1)] .ret) .skip)) (Zq [Zv 36 1,Zv 4 36] .ret))))))))))))⟩
theorem a133_ok:Jf prog Tryz.f133=some a133:=by kernel_rfl
def a139:Jk:= ⟨24,[(.c 2 true 7)],(Zq [ZB 1 0,Zo 2 (.box [(.str []),(.nil 4),(.nil 2),(.nil 3),(.bool false),(.nil 2),(.str [])])] (Zq [Zo 3 (.box [(.str []),(.nil 4),(.nil 2),(.nil 3),(.bool false),(.nil 2),(.str [])])] (Zq [Zf 4 0 1,Zl 5 false 1 4,Zf 6 0 3,⟨no,.st 1 (.t 6) (.t 5),no⟩] (Zq [Zf 7 1 1,Zl 8 false 1 7,Zc 9 226 [.t 8],Zf 10 1 3,⟨no,.st 1 (.t 10) (.t 9),no⟩] (Zq [Zf 11 2 1,Zl 12 false 1 11,Zc 13 227 [.t 12],Zf 14 2 3,⟨no,.st 1 (.t 14) (.t 13),no⟩] (Zq [Zf 15 3 1,Zl 16 false 1 15,Zc 17 228 [.t 16],Zf 18 3 3,⟨no,.st 1 (.t 18) (.t 17),no⟩] (Zq [Zf 19 4 1,Zl 20 true 3 19,Zc 21 229 [.t 20],Zf 22 4 3,⟨no,.st 3 (.t 22) (.t 21),no⟩] (Zq [Zl 23 true 7 3,⟨no,.st 7 (.t 2) (.t 23),no⟩] .ret))))))))⟩
theorem a139_ok:Jf prog Tryz.f139=some a139:=by kernel_rfl
def a155:Jk:= ⟨34,[.t 4],(Zq [ZB 2 0,ZB 3 1,Zt 4 false] (.seq (Zq [Zf 5 0 2,Zl 6 false 1 5,Zf 7 0 3,Zl 8 false 1 7,Zb 9 .neq 6 8] (.cond (.t 9) (Zq [Zt 4 false] .ret) .skip)) (.seq (Zq [Zf 10 1 2,Zl 11 false 1 10,Zf 12 1 3,Zl 13 false 1 12,Zc 14 244 [.t 11,.t 13],ZN 15 14] (.cond (.t 15) (Zq [Zt 4 false] .ret) .skip)) (.seq (Zq [Zf 16 2 2,Zl 17 false 1 16,Zf 18 2 3,Zl 19 false 1 18,Zc 20 245 [.t 17,.t 19],ZN 21 20] (.cond (.t 21) (Zq [Zt 4 false] .ret) .skip)) (.seq (Zq [Zf 22 3 2,Zl 23 false 1 22,Zf 24 3 3,Zl 25 false 1 24,Zc 26 246 [.t 23,.t 25],ZN 27 26] (.cond (.t 27) (Zq [Zt 4 false] .ret) .skip)) (.seq (Zq [Zf 28 4 2,Zl 29 true 3 28,Zf 30 4 3,Zl 31 true 3 30,Zc 32 247 [.t 29,.t 31],ZN 33 32] (.cond (.t 33) (Zq [Zt 4 false] .ret) .skip)) (Zq [Zt 4 true] .ret)))))))⟩
theorem a155_ok:Jf prog Tryz.f155=some a155:=by kernel_rfl
def a132:Jk:= ⟨25,[.t 4],(Zq [ZB 2 0,Zi 4 0] (Zq [Zv 5 1,Zf 6 0 2,Zl 7 false 1 6,Zo 8 (.len true (.t 7)),Zb 9 .sub 5 8,Zv 1 9] (.seq (Zq [Zv 10 1,Zk 11 .lss 10 0] (.cond (.t 11) (Zq [Zi 4 (-1)] .ret) .skip)) (Zq [Zf 12 1 2,Zl 13 false 1 12,Zv 14 1,Zc 15 211 [.t 13,.t 14],Zv 1 15] (.seq (Zq [Zv 16 1,Zk 17 .lss 16 0] (.cond (.t 17) (Zq [Zi 4 (-1)] .ret) .skip)) (Zq [Zf 18 3 2,Zl 19 false 1 18,Zv 20 1,Zc 21 95 [.t 19,.t 20],Zv 1 21] (.seq (Zq [Zv 22 1,Zk 23 .lss 22 0] (.cond (.t 23) (Zq [Zi 4 (-1)] .ret) .skip)) (Zq [Zv 24 1,Zv 4 24] .ret))))))))⟩
theorem a132_ok:Jf prog Tryz.f132=some a132:=by kernel_rfl
def a138:Jk:= ⟨19,[(.c 2 true 4)],(Zq [ZB 1 0,Zo 2 (.box [(.str []),(.nil 1),(.bool false),(.nil 2)])] (Zq [Zo 3 (.box [(.str []),(.nil 1),(.bool false),(.nil 2)])] (Zq [Zf 4 0 1,Zl 5 false 1 4,Zf 6 0 3,⟨no,.st 1 (.t 6) (.t 5),no⟩] (Zq [Zf 7 1 1,Zl 8 false 1 7,Zc 9 225 [.t 8],Zf 10 1 3,⟨no,.st 1 (.t 10) (.t 9),no⟩] (Zq [Zf 11 2 1,Zl 12 false 1 11,Zf 13 2 3,⟨no,.st 1 (.t 13) (.t 12),no⟩] (Zq [Zf 14 3 1,Zl 15 false 1 14,Zc 16 101 [.t 15],Zf 17 3 3,⟨no,.st 1 (.t 17) (.t 16),no⟩] (Zq [Zl 18 true 4 3,⟨no,.st 4 (.t 2) (.t 18),no⟩] .ret)))))))⟩
theorem a138_ok:Jf prog Tryz.f138=some a138:=by kernel_rfl
def a154:Jk:= ⟨27,[.t 4],(Zq [ZB 2 0,ZB 3 1,Zt 4 false] (.seq (Zq [Zf 5 0 2,Zl 6 false 1 5,Zf 7 0 3,Zl 8 false 1 7,Zb 9 .neq 6 8] (.cond (.t 9) (Zq [Zt 4 false] .ret) .skip)) (.seq (Zq [Zf 10 1 2,Zl 11 false 1 10,Zf 12 1 3,Zl 13 false 1 12,Zc 14 73 [.t 11,.t 13],ZN 15 14] (.cond (.t 15) (Zq [Zt 4 false] .ret) .skip)) (.seq (Zq [Zf 16 2 2,Zl 17 false 1 16,Zf 18 2 3,Zl 19 false 1 18,Zo 20 (.beq true (.t 17) (.t 19))] (.cond (.t 20) (Zq [Zt 4 false] .ret) .skip)) (.seq (Zq [Zf 21 3 2,Zl 22 false 1 21,Zf 23 3 3,Zl 24 false 1 23,Zc 25 107 [.t 22,.t 24],ZN 26 25] (.cond (.t 26) (Zq [Zt 4 false] .ret) .skip)) (Zq [Zt 4 true] .ret))))))⟩
theorem a154_ok:Jf prog Tryz.f154=some a154:=by kernel_rfl
def a12:Jk:= ⟨18,[.t 4],(Zq [ZB 2 0,Zi 4 0] (Zq [Zf 5 0 2,Zl 6 false 1 5,Zv 7 1,Zc 8 58 [.t 6,.t 7],Zv 1 8] (.seq (Zq [Zv 9 1,Zk 10 .lss 9 0] (.cond (.t 10) (Zq [Zi 4 (-1)] .ret) .skip)) (Zq [Zf 11 1 2,Zl 12 false 1 11,Zv 13 1,Zc 14 59 [.t 12,.t 13],Zv 1 14] (.seq (Zq [Zv 15 1,Zk 16 .lss 15 0] (.cond (.t 16) (Zq [Zi 4 (-1)] .ret) .skip)) (Zq [Zv 17 1,Zv 4 17] .ret))))))⟩
theorem a12_ok:Jf prog Tryz.f12=some a12:=by kernel_rfl
def a14:Jk:= ⟨13,[(.c 2 true 2)],(Zq [ZB 1 0,Zo 2 (.box [(.nil 4),(.nil 7)])] (Zq [Zo 3 (.box [(.nil 4),(.nil 7)])] (Zq [Zf 4 0 1,Zl 5 false 1 4,Zc 6 65 [.t 5],Zf 7 0 3,⟨no,.st 1 (.t 7) (.t 6),no⟩] (Zq [Zf 8 1 1,Zl 9 false 1 8,Zc 10 66 [.t 9],Zf 11 1 3,⟨no,.st 1 (.t 11) (.t 10),no⟩] (Zq [Zl 12 true 2 3,⟨no,.st 2 (.t 2) (.t 12),no⟩] .ret)))))⟩
theorem a14_ok:Jf prog Tryz.f14=some a14:=by kernel_rfl
def a17:Jk:= ⟨17,[.t 4],(Zq [ZB 2 0,ZB 3 1,Zt 4 false] (.seq (Zq [Zf 5 0 2,Zl 6 false 1 5,Zf 7 0 3,Zl 8 false 1 7,Zc 9 74 [.t 6,.t 8],ZN 10 9] (.cond (.t 10) (Zq [Zt 4 false] .ret) .skip)) (.seq (Zq [Zf 11 1 2,Zl 12 false 1 11,Zf 13 1 3,Zl 14 false 1 13,Zc 15 75 [.t 12,.t 14],ZN 16 15] (.cond (.t 16) (Zq [Zt 4 false] .ret) .skip)) (Zq [Zt 4 true] .ret))))⟩
theorem a17_ok:Jf prog Tryz.f17=some a17:=by kernel_rfl
theorem Jgg(x:Yb)(left:Int)(h0:0<=left/\left<=4611686018427387904):Holds prog 332 [.agg (Xe x),i64 left] (λr=>r=i64 (Ku left (Vg x))):=by
 refine Jp Tryz.func332 a332_ok rfl (by simp[a332]) ?_;simp[a332,Xe];have e0:Vg x=Vg x:=rfl
 conv at e0=>rhs;unfold Vg
 intro hl0;rw[Kk (by unfold Jb at hl0;omega)];by_cases h1:left - (x.Name.length:Nat)<0
 case pos=>
  have q:left - (Vg x:Int)<0:=by omega
  simp[Ku,h1,q];try omega
 have g1:(x.Name.length:Nat)<=left:=by omega
 simp[Ku,h1,g1];try(rw[if_neg (by omega)];omega)
theorem Ji2(x:Yb)(_hw:Vg x<=1048576):Holds prog 334 [.agg (Xe x)] (λr=>r = .agg (Wr x)):=by have hw:=_hw;unfold Vg at hw;refine Jp Tryz.func334 a334_ok rfl (by simp[a334]) ?_;simp[a334,Xe];try simp[Wr]
theorem Jh5(x y:Yb):Holds prog 337 [.agg (Xe x),.agg (Xe y)] (λr=>r = .bool (decide (x=y))):=by
 refine Jp Tryz.func337 a337_ok rfl (by simp[a337]) ?_;simp[a337,Xe];by_cases h0:x.Coeff=y.Coeff
 case neg=>simp[h0];try exact λe=>h0 (by rw[e])
 simp[h0];by_cases h1:x.Name=y.Name
 case neg=>simp[h1];try exact λe=>h1 (by rw[e])
 simp[h1];cases x;cases y;simp_all
theorem a314_ok:Jf prog Tryz.f314=some (Bj true 2 332):=by kernel_rfl
theorem Jde(l:List Yb)(left:Int)(h0:0<=left/\left<=4611686018427387904):Holds prog 314 [.sl 2 (l.map Xe),i64 left] (λr=>r=i64 (Ku left (F9 l))):=by rw[show F9 l=wL Vg l from rfl,<-Dy (w:=Vg) (g:=λx lf=>Ku lf (Vg x)) (λ_ _ _=>rfl) l left h0.1];exact Ey Tryz.func314 a314_ok rfl (rowOf:=Xe) (eltOf:=(λx=>.agg (Xe x))) (λx=>by simp[Xe]) (λx h=>by simp[Xe]) (λx lf h=>F4 h) l left h0 (λx lf _ hl=>Jgg x lf hl)
theorem a320_ok:Jf prog Tryz.f320=some (Bi true 2 24 334 [.int .i64 0,.str []]):=by kernel_rfl
theorem Je8(l:List Yb)(hw:F9 l<=1048576):Holds prog 320 [.sl 2 (l.map Xe)] (λr=>r = .us 2 (l.map Wr)):=
 Ef Tryz.func320 a320_ok rfl (rowOf:=Xe) (eltOf:=(λx=>.agg (Xe x))) (eltU:=(λx=>.agg (Wr x))) (λx=>by simp[Xe]) (λx h=>by simp[Xe]) (λx=>by simp) (λx=>by simp[Wr]) (λx=>by simp[Wr]) rfl l (by have:=Yk Vg l;unfold F9 at hw;unfold Jb;omega) (λx h=>Ji2 x (by have:=W6 (w:=Vg) h;unfold F9 at hw;omega))
theorem a326_ok:Jf prog Tryz.f326=some (H6 true 2 337):=by kernel_rfl
theorem Je2(l m:List Yb):Holds prog 326 [.sl 2 (l.map Xe),.sl 2 (m.map Xe)] (λr=>r = .bool (decide (l=m))):=by rw[<-Dg];exact E8 Tryz.func326 a326_ok rfl (rowOf:=Xe) (eltOf:=(λx=>.agg (Xe x))) (λx=>by simp[Xe]) (λx h=>by simp[Xe]) l m (λx y _ _=>Jh5 x y)
theorem Jm3(x:Xb)(left:Int)(h0:0<=left/\left<=4611686018427387904):Holds prog 283 [.agg (Kq x),i64 left] (λr=>r=i64 (Ku left (Uw x))):=by
 refine Jp Tryz.func283 a283_ok rfl (by simp[a283]) ?_;simp[a283,Kq];have e0:Uw x=Uw x:=rfl
 conv at e0=>rhs;unfold Uw
 refine Jd (Jde x.Terms left (by omega)) (by simp) ?_;rintro r rfl;by_cases h1:left - (F9 x.Terms:Nat)<0
 case pos=>
  have q:left - (Uw x:Int)<0:=by omega
  simp[Ku,h1,q];try first|omega|(constructor <;>intros <;>omega)
 simp[Ku,h1];try(rw[if_neg (by omega)];omega)
theorem Jn7(x:Xb)(_hw:Uw x<=1048576):Holds prog 290 [.agg (Kq x)] (λr=>r = .agg (Uc x)):=by have hw:=_hw;unfold Uw at hw;refine Jp Tryz.func290 a290_ok rfl (by simp[a290]) ?_;simp[a290,Kq];refine Jd (Je8 x.Terms (by omega)) (by simp[]) ?_;rintro r rfl;simp[];try simp[Uc]
theorem Jl6(x y:Xb):Holds prog 301 [.agg (Kq x),.agg (Kq y)] (λr=>r = .bool (decide (x=y))):=by
 refine Jp Tryz.func301 a301_ok rfl (by simp[a301]) ?_;simp[a301,Kq];by_cases h0:x.Const=y.Const
 case neg=>simp[h0];try exact λe=>h0 (by rw[e])
 simp[h0];refine Jd (Je2 x.Terms y.Terms) (by simp[]) ?_;rintro r rfl;by_cases h1:x.Terms=y.Terms
 case neg=>simp[h1];try exact λe=>h1 (by rw[e])
 simp[h1];cases x;cases y;simp_all
theorem a213_ok:Jf prog Tryz.f213=some (Bj true 2 283):=by kernel_rfl
theorem J9t(l:List Xb)(left:Int)(h0:0<=left/\left<=4611686018427387904):Holds prog 213 [.sl 2 (l.map Kq),i64 left] (λr=>r=i64 (Ku left (Wl l))):=by rw[show Wl l=wL Uw l from rfl,<-Dy (w:=Uw) (g:=λx lf=>Ku lf (Uw x)) (λ_ _ _=>rfl) l left h0.1];exact Ey Tryz.func213 a213_ok rfl (rowOf:=Kq) (eltOf:=(λx=>.agg (Kq x))) (λx=>by simp[Kq]) (λx h=>by simp[Kq]) (λx lf h=>F4 h) l left h0 (λx lf _ hl=>Jm3 x lf hl)
theorem a227_ok:Jf prog Tryz.f227=some (Bi true 2 32 290 [.int .i64 0,.nil 2]):=by kernel_rfl
theorem Jal(l:List Xb)(hw:Wl l<=1048576):Holds prog 227 [.sl 2 (l.map Kq)] (λr=>r = .us 2 (l.map Uc)):=
 Ef Tryz.func227 a227_ok rfl (rowOf:=Kq) (eltOf:=(λx=>.agg (Kq x))) (eltU:=(λx=>.agg (Uc x))) (λx=>by simp[Kq]) (λx h=>by simp[Kq]) (λx=>by simp) (λx=>by simp[Uc]) (λx=>by simp[Uc]) rfl l (by have:=Yk Uw l;unfold Wl at hw;unfold Jb;omega) (λx h=>Jn7 x (by have:=W6 (w:=Uw) h;unfold Wl at hw;omega))
theorem a245_ok:Jf prog Tryz.f245=some (H6 true 2 301):=by kernel_rfl
theorem Ja2(l m:List Xb):Holds prog 245 [.sl 2 (l.map Kq),.sl 2 (m.map Kq)] (λr=>r = .bool (decide (l=m))):=by rw[<-Dg];exact E8 Tryz.func245 a245_ok rfl (rowOf:=Kq) (eltOf:=(λx=>.agg (Kq x))) (λx=>by simp[Kq]) (λx h=>by simp[Kq]) l m (λx y _ _=>Jl6 x y)
theorem Jcl(x:X8)(left:Int)(h0:0<=left/\left<=4611686018427387904):Holds prog 215 [.agg (Kf x),i64 left] (λr=>r=i64 (Ku left (Yz x))):=by
 refine Jp Tryz.func215 a215_ok rfl (by simp[a215]) ?_;simp[a215,Kf];have e0:Yz x=Yz x:=rfl
 conv at e0=>rhs;unfold Yz
 refine Jd (J9t x.Heads left (by omega)) (by simp) ?_;rintro r rfl;by_cases h1:left - (Wl x.Heads:Nat)<0
 case pos=>
  have q:left - (Yz x:Int)<0:=by omega
  simp[Ku,h1,q];try first|omega|(constructor <;>intros <;>omega)
 simp[Ku,h1];intro hl1;rw[Kk (by unfold Jb at hl1;omega)];by_cases h2:(left - (Wl x.Heads:Nat)) - (x.Base.length:Nat)<0
 case pos=>
  have q:left - (Yz x:Int)<0:=by omega
  simp[h2,q];try omega
 have g2:(x.Base.length:Nat)<=(left - (Wl x.Heads:Nat)):=by omega
 simp[h2,g2];try(rw[if_neg (by omega)];omega)
theorem Jce(x:X8)(_hw:Yz x<=1048576):Holds prog 229 [.agg (Kf x)] (λr=>r = .agg (Uk x)):=by have hw:=_hw;unfold Yz at hw;refine Jp Tryz.func229 a229_ok rfl (by simp[a229]) ?_;simp[a229,Kf];refine Jd (Jal x.Heads (by omega)) (by simp[]) ?_;rintro r rfl;simp[];try simp[Uk]
theorem Jda(x y:X8):Holds prog 247 [.agg (Kf x),.agg (Kf y)] (λr=>r = .bool (decide (x=y))):=by
 refine Jp Tryz.func247 a247_ok rfl (by simp[a247]) ?_;simp[a247,Kf];by_cases h0:x.Lst=y.Lst
 case neg=>simp[h0];try exact λe=>h0 (by rw[e])
 simp[h0];refine Jd (Ja2 x.Heads y.Heads) (by simp[]) ?_;rintro r rfl;by_cases h1:x.Heads=y.Heads
 case neg=>simp[h1];try exact λe=>h1 (by rw[e])
 simp[h1];by_cases h2:x.Base=y.Base
 case neg=>simp[h2];try exact λe=>h2 (by rw[e])
 simp[h2];cases x;cases y;simp_all
theorem a315_ok:Jf prog Tryz.f315=some (Bj true 3 215):=by kernel_rfl
theorem Jhg(l:List X8)(left:Int)(h0:0<=left/\left<=4611686018427387904):Holds prog 315 [.sl 3 (l.map Kf),i64 left] (λr=>r=i64 (Ku left (G1 l))):=by rw[show G1 l=wL Yz l from rfl,<-Dy (w:=Yz) (g:=λx lf=>Ku lf (Yz x)) (λ_ _ _=>rfl) l left h0.1];exact Ey Tryz.func315 a315_ok rfl (rowOf:=Kf) (eltOf:=(λx=>.agg (Kf x))) (λx=>by simp[Kf]) (λx h=>by simp[Kf]) (λx lf h=>F4 h) l left h0 (λx lf _ hl=>Jcl x lf hl)
theorem a321_ok:Jf prog Tryz.f321=some (Bi true 3 48 229 [.bool false,.nil 2,.str []]):=by kernel_rfl
theorem Jhk(l:List X8)(hw:G1 l<=1048576):Holds prog 321 [.sl 3 (l.map Kf)] (λr=>r = .us 3 (l.map Uk)):=
 Ef Tryz.func321 a321_ok rfl (rowOf:=Kf) (eltOf:=(λx=>.agg (Kf x))) (eltU:=(λx=>.agg (Uk x))) (λx=>by simp[Kf]) (λx h=>by simp[Kf]) (λx=>by simp) (λx=>by simp[Uk]) (λx=>by simp[Uk]) rfl l (by have:=Yk Yz l;unfold G1 at hw;unfold Jb;omega) (λx h=>Jce x (by have:=W6 (w:=Yz) h;unfold G1 at hw;omega))
theorem a327_ok:Jf prog Tryz.f327=some (H6 true 3 247):=by kernel_rfl
theorem Jhr(l m:List X8):Holds prog 327 [.sl 3 (l.map Kf),.sl 3 (m.map Kf)] (λr=>r = .bool (decide (l=m))):=by rw[<-Dg];exact E8 Tryz.func327 a327_ok rfl (rowOf:=Kf) (eltOf:=(λx=>.agg (Kf x))) (λx=>by simp[Kf]) (λx h=>by simp[Kf]) l m (λx y _ _=>Jda x y)
theorem J84(x:X2)(left:Int)(h0:0<=left/\left<=4611686018427387904):Holds prog 282 [.agg (Kb x),i64 left] (λr=>r=i64 (Ku left (Qf x))):=by
 refine Jp Tryz.func282 a282_ok rfl (by simp[a282]) ?_;simp[a282,Kb];have e0:Qf x=Qf x:=rfl
 conv at e0=>rhs;unfold Qf
 intro hl0;rw[Kk (by unfold Jb at hl0;omega)];by_cases h1:left - (x.Lst.length:Nat)<0
 case pos=>
  have q:left - (Qf x:Int)<0:=by omega
  simp[Ku,h1,q];try omega
 have g1:(x.Lst.length:Nat)<=left:=by omega
 simp[Ku,h1,g1];intro hl1;rw[Kk (by unfold Jb at hl1;omega)];by_cases h2:(left - (x.Lst.length:Nat)) - (x.Head.length:Nat)<0
 case pos=>
  have q:left - (Qf x:Int)<0:=by omega
  simp[h2,q];try omega
 have g2:(x.Head.length:Nat)<=(left - (x.Lst.length:Nat)):=by omega
 simp[h2,g2];intro hl2;rw[Kk (by unfold Jb at hl2;omega)];by_cases h3:(left - (x.Lst.length:Nat) - (x.Head.length:Nat)) - (x.Tail.length:Nat)<0
 case pos=>
  have q:left - (Qf x:Int)<0:=by omega
  simp[h3,q];try omega
 have g3:(x.Tail.length:Nat)<=(left - (x.Lst.length:Nat) - (x.Head.length:Nat)):=by omega
 simp[h3,g3];try(rw[if_neg (by omega)];omega)
theorem J8g(x:X2)(_hw:Qf x<=1048576):Holds prog 289 [.agg (Kb x)] (λr=>r = .agg (Ue x)):=by have hw:=_hw;unfold Qf at hw;refine Jp Tryz.func289 a289_ok rfl (by simp[a289]) ?_;simp[a289,Kb];try simp[Ue]
theorem J8q(x y:X2):Holds prog 300 [.agg (Kb x),.agg (Kb y)] (λr=>r = .bool (decide (x=y))):=by
 refine Jp Tryz.func300 a300_ok rfl (by simp[a300]) ?_;simp[a300,Kb];by_cases h0:x.Lst=y.Lst
 case neg=>simp[h0];try exact λe=>h0 (by rw[e])
 simp[h0];by_cases h1:x.Cons=y.Cons
 case neg=>simp[h1];try exact λe=>h1 (by rw[e])
 simp[h1];by_cases h2:x.Head=y.Head
 case neg=>simp[h2];try exact λe=>h2 (by rw[e])
 simp[h2];by_cases h3:x.Tail=y.Tail
 case neg=>simp[h3];try exact λe=>h3 (by rw[e])
 simp[h3];cases x;cases y;simp_all
theorem a212_ok:Jf prog Tryz.f212=some (Bj true 4 282):=by kernel_rfl
theorem J7j(l:List X2)(left:Int)(h0:0<=left/\left<=4611686018427387904):Holds prog 212 [.sl 4 (l.map Kb),i64 left] (λr=>r=i64 (Ku left (O6 l))):=by rw[show O6 l=wL Qf l from rfl,<-Dy (w:=Qf) (g:=λx lf=>Ku lf (Qf x)) (λ_ _ _=>rfl) l left h0.1];exact Ey Tryz.func212 a212_ok rfl (rowOf:=Kb) (eltOf:=(λx=>.agg (Kb x))) (λx=>by simp[Kb]) (λx h=>by simp[Kb]) (λx lf h=>F4 h) l left h0 (λx lf _ hl=>J84 x lf hl)
theorem a226_ok:Jf prog Tryz.f226=some (Bi true 4 56 289 [.str [],.bool false,.str [],.str []]):=by kernel_rfl
theorem J7l(l:List X2)(hw:O6 l<=1048576):Holds prog 226 [.sl 4 (l.map Kb)] (λr=>r = .us 4 (l.map Ue)):=
 Ef Tryz.func226 a226_ok rfl (rowOf:=Kb) (eltOf:=(λx=>.agg (Kb x))) (eltU:=(λx=>.agg (Ue x))) (λx=>by simp[Kb]) (λx h=>by simp[Kb]) (λx=>by simp) (λx=>by simp[Ue]) (λx=>by simp[Ue]) rfl l (by have:=Yk Qf l;unfold O6 at hw;unfold Jb;omega) (λx h=>J8g x (by have:=W6 (w:=Qf) h;unfold O6 at hw;omega))
theorem a244_ok:Jf prog Tryz.f244=some (H6 true 4 300):=by kernel_rfl
theorem J79(l m:List X2):Holds prog 244 [.sl 4 (l.map Kb),.sl 4 (m.map Kb)] (λr=>r = .bool (decide (l=m))):=by rw[<-Dg];exact E8 Tryz.func244 a244_ok rfl (rowOf:=Kb) (eltOf:=(λx=>.agg (Kb x))) (λx=>by simp[Kb]) (λx h=>by simp[Kb]) l m (λx y _ _=>J8q x y)
theorem Jgn(x:Xf)(left:Int)(h0:0<=left/\left<=4611686018427387904):Holds prog 284 [.agg (Kx x),i64 left] (λr=>r=i64 (Ku left (Ub x))):=by
 refine Jp Tryz.func284 a284_ok rfl (by simp[a284]) ?_;simp[a284,Kx];have e0:Ub x=Ub x:=rfl
 conv at e0=>rhs;unfold Ub
 intro hl0;rw[Kk (by unfold Jb at hl0;omega)];by_cases h1:left - (x.Bind.length:Nat)<0
 case pos=>
  have q:left - (Ub x:Int)<0:=by omega
  simp[Ku,h1,q];try omega
 have g1:(x.Bind.length:Nat)<=left:=by omega
 simp[Ku,h1,g1];intro hl1;rw[Kk (by unfold Jb at hl1;omega)];by_cases h2:(left - (x.Bind.length:Nat)) - (x.Func.length:Nat)<0
 case pos=>
  have q:left - (Ub x:Int)<0:=by omega
  simp[h2,q];try omega
 have g2:(x.Func.length:Nat)<=(left - (x.Bind.length:Nat)):=by omega
 simp[h2,g2];refine Jd (Jhg x.Args (left - (x.Bind.length:Nat) - (x.Func.length:Nat)) (by omega)) (by simp) ?_;rintro r rfl;by_cases h3:(left - (x.Bind.length:Nat) - (x.Func.length:Nat)) - (G1 x.Args:Nat)<0
 case pos=>
  have q:left - (Ub x:Int)<0:=by omega
  simp[Ku,h3,q];try first|omega|(constructor <;>intros <;>omega)
 simp[Ku,h3];try(rw[if_neg (by omega)];omega)
theorem Jgm(x:Xf)(_hw:Ub x<=1048576):Holds prog 291 [.agg (Kx x)] (λr=>r = .agg (Ux x)):=by have hw:=_hw;unfold Ub at hw;refine Jp Tryz.func291 a291_ok rfl (by simp[a291]) ?_;simp[a291,Kx];refine Jd (Jhk x.Args (by omega)) (by simp[]) ?_;rintro r rfl;simp[];try simp[Ux]
theorem Ji6(x y:Xf):Holds prog 302 [.agg (Kx x),.agg (Kx y)] (λr=>r = .bool (decide (x=y))):=by
 refine Jp Tryz.func302 a302_ok rfl (by simp[a302]) ?_;simp[a302,Kx];by_cases h0:x.Bind=y.Bind
 case neg=>simp[h0];try exact λe=>h0 (by rw[e])
 simp[h0];by_cases h1:x.Func=y.Func
 case neg=>simp[h1];try exact λe=>h1 (by rw[e])
 simp[h1];refine Jd (Jhr x.Args y.Args) (by simp[]) ?_;rintro r rfl;by_cases h2:x.Args=y.Args
 case neg=>simp[h2];try exact λe=>h2 (by rw[e])
 simp[h2];cases x;cases y;simp_all
theorem a214_ok:Jf prog Tryz.f214=some (Bj true 3 284):=by kernel_rfl
theorem Je4(l:List Xf)(left:Int)(h0:0<=left/\left<=4611686018427387904):Holds prog 214 [.sl 3 (l.map Kx),i64 left] (λr=>r=i64 (Ku left (Iw l))):=by rw[show Iw l=wL Ub l from rfl,<-Dy (w:=Ub) (g:=λx lf=>Ku lf (Ub x)) (λ_ _ _=>rfl) l left h0.1];exact Ey Tryz.func214 a214_ok rfl (rowOf:=Kx) (eltOf:=(λx=>.agg (Kx x))) (λx=>by simp[Kx]) (λx h=>by simp[Kx]) (λx lf h=>F4 h) l left h0 (λx lf _ hl=>Jgn x lf hl)
theorem a228_ok:Jf prog Tryz.f228=some (Bi true 3 56 291 [.str [],.str [],.nil 3]):=by kernel_rfl
theorem Jer(l:List Xf)(hw:Iw l<=1048576):Holds prog 228 [.sl 3 (l.map Kx)] (λr=>r = .us 3 (l.map Ux)):=
 Ef Tryz.func228 a228_ok rfl (rowOf:=Kx) (eltOf:=(λx=>.agg (Kx x))) (eltU:=(λx=>.agg (Ux x))) (λx=>by simp[Kx]) (λx h=>by simp[Kx]) (λx=>by simp) (λx=>by simp[Ux]) (λx=>by simp[Ux]) rfl l (by have:=Yk Ub l;unfold Iw at hw;unfold Jb;omega) (λx h=>Jgm x (by have:=W6 (w:=Ub) h;unfold Iw at hw;omega))
theorem a246_ok:Jf prog Tryz.f246=some (H6 true 3 302):=by kernel_rfl
theorem Jf4(l m:List Xf):Holds prog 246 [.sl 3 (l.map Kx),.sl 3 (m.map Kx)] (λr=>r = .bool (decide (l=m))):=by rw[<-Dg];exact E8 Tryz.func246 a246_ok rfl (rowOf:=Kx) (eltOf:=(λx=>.agg (Kx x))) (λx=>by simp[Kx]) (λx h=>by simp[Kx]) l m (λx y _ _=>Ji6 x y)
theorem Jg4(x:Jy)(left:Int)(h0:0<=left/\left<=4611686018427387904):Holds prog 133 [.agg (Jr x),i64 left] (λr=>r=i64 (Ku left (Y0 x))):=by
 refine Jp Tryz.func133 a133_ok rfl (by simp[a133]) ?_;simp[a133,Jr];have e0:Y0 x=Y0 x:=rfl
 conv at e0=>rhs;unfold Y0
 intro hl0;rw[Kk (by unfold Jb at hl0;omega)];by_cases h1:left - (x.Func.length:Nat)<0
 case pos=>
  have q:left - (Y0 x:Int)<0:=by omega
  simp[Ku,h1,q];try omega
 have g1:(x.Func.length:Nat)<=left:=by omega
 simp[Ku,h1,g1];refine Jd (J7j x.Patterns (left - (x.Func.length:Nat)) (by omega)) (by simp) ?_;rintro r rfl;by_cases h2:(left - (x.Func.length:Nat)) - (O6 x.Patterns:Nat)<0
 case pos=>
  have q:left - (Y0 x:Int)<0:=by omega
  simp[Ku,h2,q];try first|omega|(constructor <;>intros <;>omega)
 simp[Ku,h2];refine Jd (J9t x.Guards (left - (x.Func.length:Nat) - (O6 x.Patterns:Nat)) (by omega)) (by simp) ?_;rintro r rfl;by_cases h3:(left - (x.Func.length:Nat) - (O6 x.Patterns:Nat)) - (Wl x.Guards:Nat)<0
 case pos=>
  have q:left - (Y0 x:Int)<0:=by omega
  simp[Ku,h3,q];try first|omega|(constructor <;>intros <;>omega)
 simp[Ku,h3];refine Jd (Je4 x.Calls (left - (x.Func.length:Nat) - (O6 x.Patterns:Nat) - (Wl x.Guards:Nat)) (by omega)) (by simp) ?_;rintro r rfl;by_cases h4:(left - (x.Func.length:Nat) - (O6 x.Patterns:Nat) - (Wl x.Guards:Nat)) - (Iw x.Calls:Nat)<0
 case pos=>
  have q:left - (Y0 x:Int)<0:=by omega
  simp[Ku,h4,q];try first|omega|(constructor <;>intros <;>omega)
 simp[Ku,h4];refine Jd (Jcl x.Result (left - (x.Func.length:Nat) - (O6 x.Patterns:Nat) - (Wl x.Guards:Nat) - (Iw x.Calls:Nat)) (by omega)) (by simp[Kf]) ?_;rintro r rfl;by_cases h5:(left - (x.Func.length:Nat) - (O6 x.Patterns:Nat) - (Wl x.Guards:Nat) - (Iw x.Calls:Nat)) - (Yz x.Result:Nat)<0
 case pos=>
  have q:left - (Y0 x:Int)<0:=by omega
  simp[Ku,h5,q];try first|omega|(constructor <;>intros <;>omega)
 simp[Ku,h5];try(rw[if_neg (by omega)];omega)
theorem Jgq(x:Jy)(_hw:Y0 x<=1048576):Holds prog 139 [.agg (Jr x)] (λr=>r = .agg (Ya x)):=by have hw:=_hw;unfold Y0 at hw;refine Jp Tryz.func139 a139_ok rfl (by simp[a139]) ?_;simp[a139,Jr];refine Jd (J7l x.Patterns (by omega)) (by simp[]) ?_;rintro r rfl;simp[];refine Jd (Jal x.Guards (by omega)) (by simp[]) ?_;rintro r rfl;simp[];refine Jd (Jer x.Calls (by omega)) (by simp[]) ?_;rintro r rfl;simp[];refine Jd (Jce x.Result (by omega)) (by simp[Kf]) ?_;rintro r rfl;simp[Uk];try simp[Ya]
theorem Jg2(x y:Jy):Holds prog 155 [.agg (Jr x),.agg (Jr y)] (λr=>r = .bool (decide (x=y))):=by
 refine Jp Tryz.func155 a155_ok rfl (by simp[a155]) ?_;simp[a155,Jr];by_cases h0:x.Func=y.Func
 case neg=>simp[h0];try exact λe=>h0 (by rw[e])
 simp[h0];refine Jd (J79 x.Patterns y.Patterns) (by simp[]) ?_;rintro r rfl;by_cases h1:x.Patterns=y.Patterns
 case neg=>simp[h1];try exact λe=>h1 (by rw[e])
 simp[h1];refine Jd (Ja2 x.Guards y.Guards) (by simp[]) ?_;rintro r rfl;by_cases h2:x.Guards=y.Guards
 case neg=>simp[h2];try exact λe=>h2 (by rw[e])
 simp[h2];refine Jd (Jf4 x.Calls y.Calls) (by simp[]) ?_;rintro r rfl;by_cases h3:x.Calls=y.Calls
 case neg=>simp[h3];try exact λe=>h3 (by rw[e])
 simp[h3];refine Jd (Jda x.Result y.Result) (by simp[Kf]) ?_;rintro r rfl;by_cases h4:x.Result=y.Result
 case neg=>simp[h4];try exact λe=>h4 (by rw[e])
 simp[h4];cases x;cases y;simp_all
theorem a59_ok:Jf prog Tryz.f59=some (Bj true 7 133):=by kernel_rfl
theorem Jf1(l:List Jy)(left:Int)(h0:0<=left/\left<=4611686018427387904):Holds prog 59 [.sl 7 (l.map Jr),i64 left] (λr=>r=i64 (Ku left (G4 l))):=by rw[show G4 l=wL Y0 l from rfl,<-Dy (w:=Y0) (g:=λx lf=>Ku lf (Y0 x)) (λ_ _ _=>rfl) l left h0.1];exact Ey Tryz.func59 a59_ok rfl (rowOf:=Jr) (eltOf:=(λx=>.agg (Jr x))) (λx=>by simp[Jr]) (λx h=>by simp[Jr]) (λx lf h=>F4 h) l left h0 (λx lf _ hl=>Jg4 x lf hl)
theorem a66_ok:Jf prog Tryz.f66=some (Bi true 7 136 139 [.str [],.nil 4,.nil 2,.nil 3,.bool false,.nil 2,.str []]):=by kernel_rfl
theorem Je0(l:List Jy)(hw:G4 l<=1048576):Holds prog 66 [.sl 7 (l.map Jr)] (λr=>r = .us 7 (l.map Ya)):=
 Ef Tryz.func66 a66_ok rfl (rowOf:=Jr) (eltOf:=(λx=>.agg (Jr x))) (eltU:=(λx=>.agg (Ya x))) (λx=>by simp[Jr]) (λx h=>by simp[Jr]) (λx=>by simp) (λx=>by simp[Ya]) (λx=>by simp[Ya]) rfl l (by have:=Yk Y0 l;unfold G4 at hw;unfold Jb;omega) (λx h=>Jgq x (by have:=W6 (w:=Y0) h;unfold G4 at hw;omega))
theorem a75_ok:Jf prog Tryz.f75=some (H6 true 7 155):=by kernel_rfl
theorem Jeb(l m:List Jy):Holds prog 75 [.sl 7 (l.map Jr),.sl 7 (m.map Jr)] (λr=>r = .bool (decide (l=m))):=by rw[<-Dg];exact E8 Tryz.func75 a75_ok rfl (rowOf:=Jr) (eltOf:=(λx=>.agg (Jr x))) (λx=>by simp[Jr]) (λx h=>by simp[Jr]) l m (λx y _ _=>Jg2 x y)
theorem J6u(x:K3)(left:Int)(h0:0<=left/\left<=4611686018427387904):Holds prog 132 [.agg (K5 x),i64 left] (λr=>r=i64 (Ku left (Ys x))):=by
 refine Jp Tryz.func132 a132_ok rfl (by simp[a132]) ?_;simp[a132,K5];have e0:Ys x=Ys x:=rfl
 conv at e0=>rhs;unfold Ys
 intro hl0;rw[Kk (by unfold Jb at hl0;omega)];by_cases h1:left - (x.Name.length:Nat)<0
 case pos=>
  have q:left - (Ys x:Int)<0:=by omega
  simp[Ku,h1,q];try omega
 have g1:(x.Name.length:Nat)<=left:=by omega
 simp[Ku,h1,g1];refine Jd (J81 x.Params (left - (x.Name.length:Nat)) (by omega)) (by simp) ?_;rintro r rfl;by_cases h2:(left - (x.Name.length:Nat)) - (Ir x.Params:Nat)<0
 case pos=>
  have q:left - (Ys x:Int)<0:=by omega
  simp[Ku,h2,q];try first|omega|(constructor <;>intros <;>omega)
 simp[Ku,h2];refine Jd (J9o x.Pre (left - (x.Name.length:Nat) - (Ir x.Params:Nat)) (by omega)) (by simp) ?_;rintro r rfl;by_cases h3:(left - (x.Name.length:Nat) - (Ir x.Params:Nat)) - (W5 x.Pre:Nat)<0
 case pos=>
  have q:left - (Ys x:Int)<0:=by omega
  simp[Ku,h3,q];try first|omega|(constructor <;>intros <;>omega)
 simp[Ku,h3];try(rw[if_neg (by omega)];omega)
theorem J7f(x:K3)(_hw:Ys x<=1048576):Holds prog 138 [.agg (K5 x)] (λr=>r = .agg (Xk x)):=by have hw:=_hw;unfold Ys at hw;refine Jp Tryz.func138 a138_ok rfl (by simp[a138]) ?_;simp[a138,K5];refine Jd (J8y x.Params (by omega)) (by simp[]) ?_;rintro r rfl;simp[];refine Jd (J97 x.Pre (by omega)) (by simp[]) ?_;rintro r rfl;simp[];try simp[Xk]
theorem J77(x y:K3):Holds prog 154 [.agg (K5 x),.agg (K5 y)] (λr=>r = .bool (decide (x=y))):=by
 refine Jp Tryz.func154 a154_ok rfl (by simp[a154]) ?_;simp[a154,K5];by_cases h0:x.Name=y.Name
 case neg=>simp[h0];try exact λe=>h0 (by rw[e])
 simp[h0];refine Jd (J8h x.Params y.Params) (by simp[]) ?_;rintro r rfl;by_cases h1:x.Params=y.Params
 case neg=>simp[h1];try exact λe=>h1 (by rw[e])
 simp[h1];by_cases h2:x.ListResult=y.ListResult
 case neg=>simp[h2];try exact λe=>h2 (by rw[e])
 simp[h2];refine Jd (Ja0 x.Pre y.Pre) (by simp[]) ?_;rintro r rfl;by_cases h3:x.Pre=y.Pre
 case neg=>simp[h3];try exact λe=>h3 (by rw[e])
 simp[h3];cases x;cases y;simp_all
theorem a58_ok:Jf prog Tryz.f58=some (Bj true 4 132):=by kernel_rfl
theorem J5r(l:List K3)(left:Int)(h0:0<=left/\left<=4611686018427387904):Holds prog 58 [.sl 4 (l.map K5),i64 left] (λr=>r=i64 (Ku left (I4 l))):=by rw[show I4 l=wL Ys l from rfl,<-Dy (w:=Ys) (g:=λx lf=>Ku lf (Ys x)) (λ_ _ _=>rfl) l left h0.1];exact Ey Tryz.func58 a58_ok rfl (rowOf:=K5) (eltOf:=(λx=>.agg (K5 x))) (λx=>by simp[K5]) (λx h=>by simp[K5]) (λx lf h=>F4 h) l left h0 (λx lf _ hl=>J6u x lf hl)
theorem a65_ok:Jf prog Tryz.f65=some (Bi true 4 72 138 [.str [],.nil 1,.bool false,.nil 2]):=by kernel_rfl
theorem J60(l:List K3)(hw:I4 l<=1048576):Holds prog 65 [.sl 4 (l.map K5)] (λr=>r = .us 4 (l.map Xk)):=
 Ef Tryz.func65 a65_ok rfl (rowOf:=K5) (eltOf:=(λx=>.agg (K5 x))) (eltU:=(λx=>.agg (Xk x))) (λx=>by simp[K5]) (λx h=>by simp[K5]) (λx=>by simp) (λx=>by simp[Xk]) (λx=>by simp[Xk]) rfl l (by have:=Yk Ys l;unfold I4 at hw;unfold Jb;omega) (λx h=>J7f x (by have:=W6 (w:=Ys) h;unfold I4 at hw;omega))
theorem a74_ok:Jf prog Tryz.f74=some (H6 true 4 154):=by kernel_rfl
theorem J5q(l m:List K3):Holds prog 74 [.sl 4 (l.map K5),.sl 4 (m.map K5)] (λr=>r = .bool (decide (l=m))):=by rw[<-Dg];exact E8 Tryz.func74 a74_ok rfl (rowOf:=K5) (eltOf:=(λx=>.agg (K5 x))) (λx=>by simp[K5]) (λx h=>by simp[K5]) l m (λx y _ _=>J77 x y)
theorem J8s(x:Jq)(left:Int)(h0:0<=left/\left<=4611686018427387904):Holds prog 12 [.agg (Jh x),i64 left] (λr=>r=i64 (Ku left (Ks x))):=by
 refine Jp Tryz.func12 a12_ok rfl (by simp[a12]) ?_;simp[a12,Jh];have e0:Ks x=Ks x:=rfl
 conv at e0=>rhs;unfold Ks
 refine Jd (J5r x.Functions left (by omega)) (by simp) ?_;rintro r rfl;by_cases h1:left - (I4 x.Functions:Nat)<0
 case pos=>
  have q:left - (Ks x:Int)<0:=by omega
  simp[Ku,h1,q];try first|omega|(constructor <;>intros <;>omega)
 simp[Ku,h1];refine Jd (Jf1 x.Rules (left - (I4 x.Functions:Nat)) (by omega)) (by simp) ?_;rintro r rfl;by_cases h2:(left - (I4 x.Functions:Nat)) - (G4 x.Rules:Nat)<0
 case pos=>
  have q:left - (Ks x:Int)<0:=by omega
  simp[Ku,h2,q];try first|omega|(constructor <;>intros <;>omega)
 simp[Ku,h2];try(rw[if_neg (by omega)];omega)
theorem R4(x:Jq)(_hw:Ks x<=1048576):Holds prog 14 [.agg (Jh x)] (λr=>r = .agg (Qv x)):=by have hw:=_hw;unfold Ks at hw;refine Jp Tryz.func14 a14_ok rfl (by simp[a14]) ?_;simp[a14,Jh];refine Jd (J60 x.Functions (by omega)) (by simp[]) ?_;rintro r rfl;simp[];refine Jd (Je0 x.Rules (by omega)) (by simp[]) ?_;rintro r rfl;simp[];try simp[Qv]
theorem J8d(x y:Jq):Holds prog 17 [.agg (Jh x),.agg (Jh y)] (λr=>r = .bool (decide (x=y))):=by
 refine Jp Tryz.func17 a17_ok rfl (by simp[a17]) ?_;simp[a17,Jh];refine Jd (J5q x.Functions y.Functions) (by simp[]) ?_;rintro r rfl;by_cases h0:x.Functions=y.Functions
 case neg=>simp[h0];try exact λe=>h0 (by rw[e])
 simp[h0];refine Jd (Jeb x.Rules y.Rules) (by simp[]) ?_;rintro r rfl;by_cases h1:x.Rules=y.Rules
 case neg=>simp[h1];try exact λe=>h1 (by rw[e])
 simp[h1];cases x;cases y;simp_all
def a115:Jk:= ⟨30,[.t 4],(Zq [Zt 4 false] (.seq (Zq [Zv 7 0,Zn 8 7,Zv 9 1,Zn 10 9,Zb 11 .neq 8 10] (.cond (.t 11) (Zq [Zt 4 false] .ret) .skip)) (.seq (Zq [Zv 12 0,Zn 13 12,Zi 14 0] (.blk 0 (.loop (Zq [Zb 15 .lss 14 13] (.seq (Zw 15 0) (.seq (.blk 1 (Zq [Zv 16 14,Zx 17 4 12 14,Zl 18 true 4 17,Zo 6 (.box [(.int .i64 0),(.nil 2),(.int .i64 0),(.nil 1)]),Zv 5 16,⟨no,.st 4 (.t 6) (.t 18),no⟩] (.seq (.draw (.op (Zf 19 0 6) (.op (Zl 20 true 2 19) (.op (Zf 21 2 6) (.op (Zl 22 true 2 21) (.op (Zv 23 1) (.op (Zv 24 5) (.op (Zx 25 2 23 24) (.op (Zl 26 true 2 25) (.op (Zc 27 196 [.t 20,.t 22,.t 26]) (.op (ZN 28 27) .fin))))))))))) (.cond (.t 28) (Zq [Zt 4 false] .ret) .skip)))) (.reg [Zk 29 .add 14 1,Zv 14 29]))))))) (Zq [Zt 4 true] .ret))))⟩
theorem a115_ok:Jf prog Tryz.f115=some a115:=by kernel_rfl
def J2j(os:List X5)(fs:List Xz):Bool:=decide (os.length=fs.length)&&(os.zip fs).all λp=>Qz p.1.System p.1.Target p.2
theorem Jbj(os:List X5)(fs:List Xz):Holds prog 115 [.sl 4 (os.map Wu),.sl 2 (fs.map Up)] (λr=>r = .bool (J2j os fs)):=by
 refine Jp Tryz.func115 a115_ok rfl (by simp[a115]) ?_;simp[a115];intro hl1 hl2;unfold J2j;by_cases h1:os.length=fs.length
 case neg=>simp[h1];omega
 simp[h1];have hzl:(os.zip fs).length=os.length:=by simp[h1]
 generalize hB:((os.zip fs).all λp=>Qz p.1.System p.1.Target p.2)=B;intro _;refine Ki [0,1,12,13] 14 fs.length (λi _ _ _=>((os.zip fs).drop i).all (λp=>Qz p.1.System p.1.Target p.2)=B) hl2 (by simp) hB ?_ ?_
 ·rintro i s h n R hi hg hk s14 hw hJ hR hret _;simp at hk;have hif:i<os.length:=by omega
  rw[List.drop_eq_getElem_cons (by omega:i<(os.zip fs).length),List.all_cons,List.getElem_zip]at hJ;simp[hk,s14,hi,hif];simp[Wu];refine Jw (J0y (os[i]'hif).System (os[i]'hif).Target (fs[i]'hi)) (by simp[Up,Kv,Ja]) ?_;rintro r rfl;cases hc:Qz (os[i]).System (os[i]).Target fs[i]
  ·rw[hc,Bool.false_and]at hJ;simp;refine hret _ _ _ ?_;simp[<-hJ]
  ·rw[hc,Bool.true_and]at hJ;simp[s14,hw];exact hR _ _ _ (by simp[hk]) (by simp) hJ
 ·rintro s h n R hk s14 hJ hret hX;simp at hk;rw[List.drop_eq_nil_of_le (by omega)]at hJ;simp[hk,s14];refine hX _ _ _ _ ?_;simp[<-hJ]
def a42:Jk:= ⟨24,[.t 6],(Zq [ZB 3 0,ZB 4 1,Zt 6 false] (Zq [Zl 10 true 2 3,Zl 11 true 2 4,Zc 12 33 [.t 10,.t 11],Zv 9 12,Ze 13 9 0,Ze 14 9 1,Zv 7 13,Zv 8 14] (Zq [Zv 15 8,Zv 16 15,Zg 17 16 true (.ld true 2 (.t 3)),Zg 18 16 true (.call (.k (.fn (.func 94) [] [])) [.t 17]),Zg 19 16 true (.mv (.t 7)),Zg 20 16 true (.app 64 4 (.t 18) (.t 19)),Zg 21 16 true (.mv (.t 2)),Zg 22 16 true (.call (.k (.fn (.func 115) [] [])) [.t 20,.t 21]),ZQ 23 16 22,Zv 6 23] .ret)))⟩
theorem a42_ok:Jf prog Tryz.f42=some a42:=by kernel_rfl
def a112:Jk:= ⟨19,[.t 4,.t 5],(Zq [ZB 2 0,ZB 3 1,Zo 4 (.mv (.k (.nil 4))),Zt 5 false] (Zq [Zl 9 true 2 2,Zl 10 true 2 3,Zc 11 31 [.t 9,.t 10],Zv 8 11,Ze 12 8 0,Ze 13 8 1,Zv 6 12,Zv 7 13] (Zq [Zl 14 true 2 2,Zc 15 92 [.t 14],Zv 16 6,ZA 17 64 4 15 16,Zv 18 7,Zv 4 17,Zv 5 18] .ret)))⟩
theorem a112_ok:Jf prog Tryz.f112=some a112:=by kernel_rfl
def Jcj(p:Jq)(b:X0)(fs:List Xz):Bool:=(Uz p b).isSome&&J2j (Qx p++(Uz p b).getD []) fs
theorem Mh(p:Jq)(b:X0):((Uz p b).getD []).length<=11:=by
 cases h:Uz p b with
 |none=>simp
 |some o=>
  unfold Uz at h;split at h
  case isFalse=>cases h
  rename_i hB;obtain⟨hpo,_,hbl⟩:=F7 hB;have hl:=Jd0 h;have hf:=(Cj hpo).2.2;simp only[List.length_nil,List.length_append,Il,Qs,length_map,List.length_range]at hl;simp only[Option.getD_some];omega
theorem Jie(p:Jq)(hp:Ks p<=1048576)(b:X0)(fs:List Xz):Holds prog 42 [.agg (Jh p),.agg (Kr b),.sl 2 (fs.map Up)] (λx=>x = .bool (Jcj p b fs)):=by
 have h1:=Mh p b;have h2:=Cm p hp;refine Jp Tryz.func42 a42_ok rfl (by simp[a42]) ?_;simp[a42];refine Jd (J01 p hp b) (by simp) ?_;rintro r rfl;unfold Ob Jcj;generalize(Uz p b).isSome=ok at *;generalize(Uz p b).getD []=O at *;cases ok
 ·simp
 simp;refine Jd (J06 p hp) (by simp) ?_;rintro r rfl;generalize Qx p=R at *;simp;refine⟨by unfold Jb;omega,?_⟩;have hm:R.map Km++O.map Km=(R++O).map Km:=by simp
 have ht:List.take (R.length+O.length) ((R++O).map Km)=(R++O).map Km:=take_of_length_le (by simp);rw[hm];refine Jd (Jbj (R++O) fs) (by simp[ht,-List.map_append]) ?_;rintro r rfl;simp
theorem Jed(p:Jq)(hp:Ks p<=1048576)(b:X0):Holds prog 112 [.agg (Jh p),.agg (Kr b)] (λx=>x = .tup [.us 4 ((Qx p++(Uz p b).getD []).map Km),.bool (Uz p b).isSome]):=by
 have h1:=Mh p b;have h2:=Cm p hp;refine Jp Tryz.func112 a112_ok rfl (by simp[a112]) ?_;simp[a112];refine Jd (J0u p hp b) (by simp) ?_;rintro r rfl;unfold Ob;generalize(Uz p b).isSome=ok at *;generalize(Uz p b).getD []=O at *;simp;refine Jd (J1u p hp) (by simp) ?_;rintro r rfl;generalize Qx p=R at *;simp;have hm:R.map Km++O.map Km=(R++O).map Km:=by simp
 have ht:List.take (R.length+O.length) ((R++O).map Km)=(R++O).map Km:=take_of_length_le (by simp);rw[hm,ht];exact⟨by unfold Jb;omega,J1g _,rfl⟩
def a53:Jk:= ⟨23,[.t 4,.t 5],(Zq [ZB 2 0,ZB 3 1,Zo 4 (.mv (.k (.nil 2))),Zt 5 false] (Zq [Zl 9 true 2 2,Zl 10 true 2 3,Zc 11 33 [.t 9,.t 10],Zv 8 11,Ze 12 8 0,Ze 13 8 1,Zv 6 12,Zv 7 13] (.seq (Zq [Zv 14 7,ZN 15 14] (.cond (.t 15) (Zq [Zo 4 (.mv (.k (.nil 2))),Zt 5 false] .ret) .skip)) (Zq [Zl 16 true 2 2,Zc 17 94 [.t 16],Zv 18 6,ZA 19 64 4 17 18,Zc 20 131 [.t 19],Ze 21 20 0,Ze 22 20 1,Zv 4 21,Zv 5 22] .ret))))⟩
theorem a53_ok:Jf prog Tryz.f53=some a53:=by kernel_rfl
def a52:Jk:= ⟨21,[.t 4,.t 5],(Zq [ZB 2 0,ZB 3 1,Zo 4 (.mv (.k (.nil 2))),Zt 5 false] (Zq [Zl 9 true 2 2,Zl 10 true 2 3,Zc 11 112 [.t 9,.t 10],Zv 8 11,Ze 12 8 0,Ze 13 8 1,Zv 6 12,Zv 7 13] (.seq (Zq [Zv 14 7,ZN 15 14] (.cond (.t 15) (Zq [Zo 16 (.bsl 2 []),Zv 4 16,Zt 5 false] .ret) .skip)) (Zq [Zv 17 6,Zc 18 91 [.t 17],Ze 19 18 0,Ze 20 18 1,Zv 4 19,Zv 5 20] .ret))))⟩
theorem a52_ok:Jf prog Tryz.f52=some a52:=by kernel_rfl
theorem Jqp:∀(l:List Xz),(∀f∈l,f.Mult.length<=20)->Ot l<=21*l.length:=by
 intro l
 induction l with
 |nil=>intro _;simp[Ot,cL]
 |cons e l ih=>
  intro h;have h1:=ih λx hx=>h x (List.mem_cons_of_mem _ hx)
  have h2:=h e List.mem_cons_self;have h3:Df e<=21:=by simp only[Df,Ds];omega
  unfold Ot at *;simp only[cL,List.length_cons];omega
theorem J8p(os:List X5):Ot ((Bc os).getD [])<=21*os.length:=by obtain⟨h1,h2⟩:=J6w os;have:=Jqp _ h2;omega
def Vl(p:Jq)(b:X0):Option (List Xz):=(Uz p b).bind λos=>Bc (Qx p++os)
theorem Jec(p:Jq)(b:X0):Ot ((Vl p b).getD [])<=33554432:=by
 cases h:Uz p b with
 |none=>simp[Vl,h,Ot,cL]
 |some os=>
  have h1:=Mh p b;rw[h]at h1;have h2:=(J8x p).1;have h3:=J8p (Qx p++os);simp only[Option.getD_some]at h1;simp only[Vl,h,Option.bind_some];simp only[List.length_append]at h3;omega
theorem J1a(p:Jq)(hp:Ks p<=1048576)(b:X0):Holds prog 53 [.agg (Jh p),.agg (Kr b)] (λr=>r = .tup [.us 2 (((Vl p b).getD []).map Y9),.bool (Vl p b).isSome]):=by
 have h1:=Mh p b;have h2:=Cm p hp;refine Jp Tryz.func53 a53_ok rfl (by simp[a53]) ?_;simp[a53];refine Jd (J01 p hp b) (by simp) ?_;rintro r rfl;unfold Ob Vl
 cases hb:Uz p b with
 |none=>simp
 |some O=>
  rw[hb]at h1;simp only[Option.getD_some]at h1;simp;refine Jd (J06 p hp) (by simp) ?_;rintro r rfl;generalize Qx p=R at *;simp;refine⟨by unfold Jb;omega,?_⟩;have hm:R.map Km++O.map Km=(R++O).map Km:=by simp
  have ht:List.take (R.length+O.length) ((R++O).map Km)=(R++O).map Km:=take_of_length_le (by simp);rw[hm];refine Jd (Jb7 (R++O) (by simp;omega)) (by simp[ht,-List.map_append]) ?_;rintro r rfl;simp[E9]
theorem J41(p:Jq)(hp:Ks p<=1048576)(b:X0):Holds prog 52 [.agg (Jh p),.agg (Kr b)] (λr=>r = .tup [.us 2 (((Vl p b).getD []).map Y9),.bool (Vl p b).isSome]):=by
 have h1:=Mh p b;have h2:=Cm p hp;refine Jp Tryz.func52 a52_ok rfl (by simp[a52]) ?_;simp[a52];refine Jd (Jed p hp b) (by simp) ?_;rintro r rfl;unfold Vl
 cases hb:Uz p b with
 |none=>simp
 |some O=>
  rw[hb]at h1;simp only[Option.getD_some]at h1;simp only[Option.getD_some,Option.isSome_some,Option.bind_some];have hx:(Qx p++O).length<=3000000:=by simp;omega
  generalize Qx p++O=X at *;have ht:List.take X.length (X.map Km)=X.map Km:=take_of_length_le (by simp);simp;refine Jd (J80 X hx) (by simp[ht]) ?_;rintro r rfl;simp[E9]
def a156:Jk:= ⟨20,[.t 2],(Zq [Zo 2 (.mv (.k (.str [])))] (.seq (Zq [Zv 4 0,Zk 5 .leq 4 0] (.cond (.t 5) (Zq [Zo 2 (.mv (.k (.str [109,48])))] .ret) .skip)) (Zq [Zo 3 (.mv (.k (.str [])))] (.seq (.blk 0 (.loop (.seq (Zq [Zv 6 0,Zk 7 .gtr 6 0] (Zw 7 0)) (.blk 1 (Zq [Zv 8 0,Zk 9 .rem 8 10,Zo 10 (.bin .add (.k (.int .i64 48)) (.t 9)),Zo 11 (.cvi .u8 (.t 10)),Zo 12 (.bsl 1 [.t 11]),Zo 13 (.cvb (.t 12)),Zv 14 3,Zb 15 .add 13 14,Zv 3 15] (.reg [Zv 16 0,Zk 17 .quo 16 10,Zv 0 17])))))) (Zq [Zv 18 3,Zo 19 (.bin .add (.k (.str [109])) (.t 18)),Zv 2 19] .ret)))))⟩
theorem a156_ok:Jf prog Tryz.f156=some a156:=by kernel_rfl
theorem Jmu{n:Nat}(h:¬n=0):Dt n=Dt (n / 10)++[UInt8.ofNat (48+n % 10)]:=by rw[Dt];simp[h]
theorem Jgh:Dt 0=[]:=by rw[Dt];simp
theorem Bb(k:Int)(h0:0<=k/\k<=4611686018427387904):Holds prog 156 [i64 k] (λr=>r = .str (W4 k)):=by
 refine Jp Tryz.func156 a156_ok rfl (by simp[a156]) ?_;simp[a156];refine⟨λh1=>by simp[h1,W4],λh1=>?_⟩;refine Oe (λj s h n=>∃(l:List UInt8),s 0=i64 j/\s 3 = .str l/\Dt j++l=Dt k.toNat/\l.length<=20/\j*10 ^ (l.length)<=4611686018427387904) k.toNat ⟨[],by simp;rw[Int.max_eq_left h0.1],by simp,by simp,by simp,by simp;omega⟩ ?_;rintro j s h n ⟨l,s0,s3,hd,hl,hb⟩;by_cases hj:j=0
 ·subst hj;rw[Jgh,List.nil_append]at hd;simp[s0,s3];refine⟨by unfold Jb;omega,?_⟩;rw[hd,W4,if_neg (by omega)]
 ·have hj':0<j:=by omega
  simp[s0,s3,hj'];have hj2:j<=4611686018427387904:=Nat.le_trans (Nat.le_mul_of_pos_right j (Nat.pow_pos (by decide))) hb;have e1:((j:Int)).tmod 10=((j % 10:Nat):Int):=rfl;rw[e1,Kk (by omega)]
  have e2:IntKind.u8.wrap (48+((j % 10:Nat):Int))=((48+j % 10:Nat):Int):=by
   have:48+j % 10<256:=by omega
   unfold IntKind.wrap;simp[IntKind.bits,IntKind.signed];omega
  rw[e2];simp[bytesOf]
  have hl20:l.length<20:=by
   apply Classical.byContradiction;intro hc;have h20:l.length=20:=by omega
   rw[h20]at hb;omega
  refine⟨by unfold Jb;omega,j / 10,by omega,by rw[Kk (by omega)];omega,?_,by omega,?_⟩
  ·have e3:UInt8.ofNat (48+(j:Int) % 10).toNat=UInt8.ofNat (48+j % 10):=by congr 1
   rw[<-hd,Jmu hj];simp[e3]
  ·rw[Nat.add_comm,Nat.pow_succ];refine Nat.le_trans ?_ hb;rw[Nat.mul_comm (10 ^ l.length) 10,<-Nat.mul_assoc];exact Nat.mul_le_mul_right _ (by omega)
def a88:Jk:= ⟨19,[.t 4],(Zq [Zi 4 0] (.seq (Zq [Zi 5 0] (.blk 0 (.loop (.seq (Zq [Zv 6 5,Zv 7 0,Zn 8 7,Zb 9 .lss 6 8] (Zw 9 0)) (.seq (.blk 1 (Zq [Zv 12 0,Zv 13 5,Zv 14 1,Zx 15 1 12 13,⟨no,.st 1 (.t 15) (.t 14),no⟩] (.reg [Zv 16 1,Zk 17 .add 16 1,Zv 1 17]))) (.reg [Zv 10 5,Zk 11 .add 10 1,Zv 5 11])))))) (Zq [Zv 18 1,Zv 4 18] .ret)))⟩
theorem a88_ok:Jf prog Tryz.f88=some a88:=by kernel_rfl
def a110:Jk:= ⟨21,[.t 4],(Zq [Zi 4 0] (.seq (Zq [Zi 5 0] (.blk 0 (.loop (.seq (Zq [Zv 6 5,Zv 7 0,Zn 8 7,Zb 9 .lss 6 8] (Zw 9 0)) (.seq (.blk 1 (.seq (Zq [Zv 12 0,Zv 13 5,Zx 14 1 12 13,Zl 15 false 1 14,Zv 16 1,Zb 17 .neq 15 16] (.cond (.t 17) (Zq [Zi 4 (-1)] .ret) .skip)) (.reg [Zv 18 1,Zk 19 .add 18 1,Zv 1 19]))) (.reg [Zv 10 5,Zk 11 .add 10 1,Zv 5 11])))))) (Zq [Zv 20 1,Zv 4 20] .ret)))⟩
theorem a110_ok:Jf prog Tryz.f110=some a110:=by kernel_rfl
def a108:Jk:= ⟨27,[.t 4],(Zq [Zi 4 0] (.seq (Zq [Zi 5 0] (.blk 0 (.loop (.seq (Zq [Zv 6 5,Zv 7 0,Zn 8 7,Zb 9 .lss 6 8] (Zw 9 0)) (.seq (.blk 1 (Zq [Zv 12 0,Zv 13 5,Zv 14 1,Zx 15 2 12 13,Zf 16 0 15,⟨no,.st 1 (.t 16) (.t 14),no⟩] (Zq [Zv 17 1,Zk 18 .add 17 1,Zv 1 18] (.reg [Zv 19 0,Zv 20 5,Zx 21 2 19 20,Zf 22 1 21,Zl 23 false 1 22,Zv 24 1,Zc 25 88 [.t 23,.t 24],Zv 1 25])))) (.reg [Zv 10 5,Zk 11 .add 10 1,Zv 5 11])))))) (Zq [Zv 26 1,Zv 4 26] .ret)))⟩
theorem a108_ok:Jf prog Tryz.f108=some a108:=by kernel_rfl
def a54:Jk:= ⟨27,[.t 4],(Zq [Zi 4 0] (.seq (Zq [Zi 5 0] (.blk 0 (.loop (.seq (Zq [Zv 6 5,Zv 7 0,Zn 8 7,Zb 9 .lss 6 8] (Zw 9 0)) (.seq (.blk 1 (Zq [Zv 12 0,Zv 13 5,Zv 14 1,Zx 15 2 12 13,Zf 16 0 15,⟨no,.st 1 (.t 16) (.t 14),no⟩] (Zq [Zv 17 1,Zk 18 .add 17 1,Zv 1 18] (.reg [Zv 19 0,Zv 20 5,Zx 21 2 19 20,Zf 22 1 21,Zl 23 false 1 22,Zv 24 1,Zc 25 88 [.t 23,.t 24],Zv 1 25])))) (.reg [Zv 10 5,Zk 11 .add 10 1,Zv 5 11])))))) (Zq [Zv 26 1,Zv 4 26] .ret)))⟩
theorem a54_ok:Jf prog Tryz.f54=some a54:=by kernel_rfl
def a55:Jk:= ⟨31,[.t 4],(Zq [Zi 4 0] (.seq (Zq [Zi 5 0] (.blk 0 (.loop (.seq (Zq [Zv 6 5,Zv 7 0,Zn 8 7,Zb 9 .lss 6 8] (Zw 9 0)) (.seq (.blk 1 (.seq (Zq [Zv 12 0,Zv 13 5,Zx 14 2 12 13,Zf 15 0 14,Zl 16 false 1 15,Zv 17 1,Zb 18 .neq 16 17] (.cond (.t 18) (Zq [Zi 4 (-1)] .ret) .skip)) (Zq [Zv 19 1,Zk 20 .add 19 1,Zv 1 20] (Zq [Zv 21 0,Zv 22 5,Zx 23 2 21 22,Zf 24 1 23,Zl 25 false 1 24,Zv 26 1,Zc 27 110 [.t 25,.t 26],Zv 1 27] (Zq [Zv 28 1,Zk 29 .lss 28 0] (.cond (.t 29) (Zq [Zi 4 (-1)] .ret) .skip)))))) (.reg [Zv 10 5,Zk 11 .add 10 1,Zv 5 11])))))) (Zq [Zv 30 1,Zv 4 30] .ret)))⟩
theorem a55_ok:Jf prog Tryz.f55=some a55:=by kernel_rfl
def a78:Jk:= ⟨20,[.t 4],(Zq [Zi 4 0] (.seq (Zq [Zi 5 0] (.blk 0 (.loop (.seq (Zq [Zv 6 5,Zv 7 0,Zn 8 7,Zb 9 .lss 6 8] (Zw 9 0)) (.seq (.blk 1 (Zq [Zv 12 0,Zv 13 5,Zv 14 1,Zc 15 156 [.t 14],Zx 16 1 12 13,⟨no,.st 1 (.t 16) (.t 15),no⟩] (.reg [Zv 17 1,Zk 18 .add 17 1,Zv 1 18]))) (.reg [Zv 10 5,Zk 11 .add 10 1,Zv 5 11])))))) (Zq [Zv 19 1,Zv 4 19] .ret)))⟩
theorem a78_ok:Jf prog Tryz.f78=some a78:=by kernel_rfl
set_option maxHeartbeats 1000000 in
theorem J4l(l:List Int)(k:Int)(h0:0<=k/\k+Gu l<=4611686018427387904):Iu prog 88 (.us 1 (Jg l)) k (.us 1 (Jg (N8 l k))) (k+Gu l):=by
 intro h n a I K hT hI hn hK;obtain⟨id,rows0,I0,rfl,_,hB,_⟩:=Gf hT;simp only[Jg,length_map]at hT hB hK⊢;refine Bk Tryz.func88 rfl rfl (by rw[hB];simp) λhlim=>?_
 refine U8 Tryz.func88 a88_ok rfl (by simp[a88]) ?_;simp[a88];unfold Gu at *;refine Ki [0] 5 l.length (λi s h1 n1=>MJ (λ_ k=>k) (λ_=>1) (λn=>[i64 n]) 1 h n id I l k i (s 1) h1 n1) hlim (by simp) (by simpa using MJ.start hT) ?_ ?_
 ·rintro i s h1 n1 R hi hg hk s5 hw hJ hR hret _;simp at hk;obtain⟨x,ki,rows,cells,I2,s1,hki,hki2,hlen,hc0,hnd,hI2,hstart,hclose⟩:=hJ.step2 hI hn hi;obtain⟨_,rfl,hc1⟩:=Hn.1 hc0;obtain⟨rfl,rfl⟩:=Wt.1 hc1;have S:=hstart _ Yq.nil;have e:=S.e;have w0:IntKind.i64.wrap (ki+1)=ki+1:=Kk (by omega);simp[hk,s5,hi,hw,s1,e,hlen,w0];intro _;refine hR _ _ _ (by simp[hk]) (by simp) (hclose _ _ [.int .i64 (ki)] _ _ S.store (Hn.2 ⟨_,rfl,(Wt.2 ⟨rfl,rfl⟩)⟩) (by simp[i64];try omega))
 ·rintro s h1 n1 R hk s5 hJ hret hX;simp at hk;obtain⟨s1,hn1,hf,ht⟩:=hJ.fin;simp[hk,s5,s1];refine⟨Hx ht,λ_=>?_⟩;refine hX _ _ _ _ ?_;simp[s1];exact hK _ _ hn1 hf ht
set_option maxHeartbeats 1000000 in
theorem Jbb(l:List Int)(k:Int)(h0:0<=k/\k+Gu l<=4611686018427387904):Holds prog 110 [.sl 1 (Jg (N8 l k)),i64 k] (λr=>r=i64 (k+Gu l)):=by
 refine Vv Tryz.func110 rfl rfl λhlim=>?_
 simp at hlim;generalize hM:N8 l k=M at *;refine Jp Tryz.func110 a110_ok rfl (by simp[a110]) ?_;simp[a110];unfold Gu at *;refine Ki [0] 5 M.length (λi s h1 n1=>HJ (λ_ k=>k) (λ_=>1) M l k i (s 1)) hlim (by simp) (by rw[<-hM];simp;exact HJ.start) ?_ ?_
 ·rintro i s h1 n1 R hi hg hk s5 hw hJ hR hret _;simp at hk;obtain⟨x,ki,s1,hki,hki2,hx,hclose⟩:=hJ.step hi;have w0:IntKind.i64.wrap (ki+1)=ki+1:=Kk (by omega);simp[hk,s5,hi,hw,s1,hx,w0];intro _;refine hR _ _ _ (by simp[hk]) (by simp) (hclose _ (by simp[i64];try omega))
 ·rintro s h1 n1 R hk s5 hJ hret hX;simp at hk;have s1:=hJ.fin (Nat.le_refl _);simp[hk,s5,s1]
  (intro _;refine hX _ _ _ _ ?_)
  simp[s1]
set_option maxHeartbeats 1000000 in
theorem J4s(l:List Jc)(k:Int)(h0:0<=k/\k+D0 l<=4611686018427387904):Iu prog 108 (.us 2 (l.map J9)) k (.us 2 ((Sf l k).map J9)) (k+D0 l):=by
 intro h n a I K hT hI hn hK;obtain⟨id,rows0,I0,rfl,_,hB,_⟩:=Gf hT;simp only[length_map]at hT hB hK⊢;refine Bk Tryz.func108 rfl rfl (by rw[hB];simp) λhlim=>?_
 refine U8 Tryz.func108 a108_ok rfl (by simp[a108]) ?_;simp[a108];unfold D0 at *;refine Ki [0] 5 l.length (λi s h1 n1=>MJ T4 El J9 2 h n id I l k i (s 1) h1 n1) hlim (by simp) (by simpa using MJ.start hT) ?_ ?_
 ·rintro i s h1 n1 R hi hg hk s5 hw hJ hR hret _;simp at hk;obtain⟨x,ki,rows,cells,I2,s1,hki,hki2,hlen,hc0,hnd,hI2,hstart,hclose⟩:=hJ.step2 hI hn hi;simp only[J9]at hc0;simp only[El]at hki2;obtain⟨_,rfl,hc1⟩:=Hn.1 hc0;obtain⟨d1,len1,_,J1,_,rfl,rfl,hl1,ht1,hc2⟩:=Oz hc1;have hq1:len1=(x.Coeffs).length:=by simpa using hl1
  subst hq1;obtain⟨rfl,rfl⟩:=Wt.1 hc2;have S:=hstart _ (Yq.cons ht1 hnd hI2 λhnd hI2=>Yq.nil);have e:=S.e;have w0:IntKind.i64.wrap (ki+1)=ki+1:=Kk (by omega);simp[hk,s5,hi,s1,e,hlen,w0];intro _;refine RS.mark (T1:=[]) (J4l _ _ (by omega)) S.store ?_;clear S e;intro h2 n2 S;have e:=S.e;simp[s5,hw];refine hR _ _ _ (by simp[hk]) (by simp) (hclose _ _ [.int .i64 (ki),.ref d1 0 (x.Coeffs).length] _ _ S (Hn.2 ⟨_,rfl,(G5 (S.live.ids (_,.ref d1 0 _,J1) (by simp[T4])).1 (Wt.2 ⟨rfl,rfl⟩))⟩) (by simp[i64,El];try omega))
 ·rintro s h1 n1 R hk s5 hJ hret hX;simp at hk;obtain⟨s1,hn1,hf,ht⟩:=hJ.fin;simp[hk,s5,s1];refine⟨Hx ht,λ_=>?_⟩;refine hX _ _ _ _ ?_;simp[s1];exact hK _ _ hn1 hf ht
set_option maxHeartbeats 1000000 in
theorem J5l(l:List Xz)(k:Int)(h0:0<=k/\k+Ot l<=4611686018427387904):Iu prog 54 (.us 2 (l.map Y9)) k (.us 2 ((J32 l k).map Y9)) (k+Ot l):=by
 intro h n a I K hT hI hn hK;obtain⟨id,rows0,I0,rfl,_,hB,_⟩:=Gf hT;simp only[length_map]at hT hB hK⊢;refine Bk Tryz.func54 rfl rfl (by rw[hB];simp) λhlim=>?_
 refine U8 Tryz.func54 a54_ok rfl (by simp[a54]) ?_;simp[a54];unfold Ot at *;refine Ki [0] 5 l.length (λi s h1 n1=>MJ Me Df Y9 2 h n id I l k i (s 1) h1 n1) hlim (by simp) (by simpa using MJ.start hT) ?_ ?_
 ·rintro i s h1 n1 R hi hg hk s5 hw hJ hR hret _;simp at hk;obtain⟨x,ki,rows,cells,I2,s1,hki,hki2,hlen,hc0,hnd,hI2,hstart,hclose⟩:=hJ.step2 hI hn hi;simp only[Y9]at hc0;simp only[Df]at hki2;obtain⟨_,rfl,hc1⟩:=Hn.1 hc0;obtain⟨d1,len1,_,J1,_,rfl,rfl,hl1,ht1,hc2⟩:=Oz hc1;have hq1:len1=(x.Mult).length:=by simpa using hl1
  subst hq1;obtain⟨rfl,rfl⟩:=Wt.1 hc2;have S:=hstart _ (Yq.cons ht1 hnd hI2 λhnd hI2=>Yq.nil);have e:=S.e;have w0:IntKind.i64.wrap (ki+1)=ki+1:=Kk (by omega);simp[hk,s5,hi,s1,e,hlen,w0];intro _;refine RS.mark (T1:=[]) (J4l _ _ (by omega)) S.store ?_;clear S e;intro h2 n2 S;have e:=S.e;simp[s5,hw];refine hR _ _ _ (by simp[hk]) (by simp) (hclose _ _ [.int .i64 (ki),.ref d1 0 (x.Mult).length] _ _ S (Hn.2 ⟨_,rfl,(G5 (S.live.ids (_,.ref d1 0 _,J1) (by simp[Me])).1 (Wt.2 ⟨rfl,rfl⟩))⟩) (by simp[i64,Df];try omega))
 ·rintro s h1 n1 R hk s5 hJ hret hX;simp at hk;obtain⟨s1,hn1,hf,ht⟩:=hJ.fin;simp[hk,s5,s1];refine⟨Hx ht,λ_=>?_⟩;refine hX _ _ _ _ ?_;simp[s1];exact hK _ _ hn1 hf ht
set_option maxHeartbeats 1000000 in
theorem J1c(l:List Xz)(k:Int)(h0:0<=k/\k+Ot l<=4611686018427387904):Holds prog 55 [.sl 2 ((J32 l k).map Up),i64 k] (λr=>r=i64 (k+Ot l)):=by
 refine Vv Tryz.func55 rfl rfl λhlim=>?_
 simp at hlim;generalize hM:J32 l k=M at *;refine Jp Tryz.func55 a55_ok rfl (by simp[a55]) ?_;simp[a55];unfold Ot at *;refine Ki [0] 5 M.length (λi s h1 n1=>HJ Me Df M l k i (s 1)) hlim (by simp) (by rw[<-hM];simp;exact HJ.start) ?_ ?_
 ·rintro i s h1 n1 R hi hg hk s5 hw hJ hR hret _;simp at hk;obtain⟨x,ki,s1,hki,hki2,hx,hclose⟩:=hJ.step hi;simp only[Df]at hki2;have w0:IntKind.i64.wrap (ki+1)=ki+1:=Kk (by omega);simp[hk,s5,hi,s1,hx,Me,w0];intro _;refine Jd (Jbb (x.Mult) (ki+1) (by omega)) (by simp) ?_;rintro r rfl;have g1:¬ki+1+(Gu x.Mult:Int)<0:=by omega
  simp[s5,hw,g1];refine hR _ _ _ (by simp[hk]) (by simp) (hclose _ (by simp[i64,Df];try omega))
 ·rintro s h1 n1 R hk s5 hJ hret hX;simp at hk;have s1:=hJ.fin (Nat.le_refl _);simp[hk,s5,s1]
  (intro _;refine hX _ _ _ _ ?_)
  simp[s1]
set_option maxHeartbeats 1000000 in
theorem J5j(l:List Je)(k:Int)(h0:0<=k/\k+Hr l<=4611686018427387904):Iu prog 78 (.us 1 (Ji l)) k (.us 1 (Ji (J66 l k))) (k+Hr l):=by
 intro h n a I K hT hI hn hK;obtain⟨id,rows0,I0,rfl,_,hB,_⟩:=Gf hT;simp only[Ji,length_map]at hT hB hK⊢;refine Bk Tryz.func78 rfl rfl (by rw[hB];simp) λhlim=>?_
 refine U8 Tryz.func78 a78_ok rfl (by simp[a78]) ?_;simp[a78];unfold Hr at *;refine Ki [0] 5 l.length (λi s h1 n1=>MJ (λ_ k=>W4 k) (λ_=>1) (λs=>[.str s]) 1 h n id I l k i (s 1) h1 n1) hlim (by simp) (by simpa using MJ.start hT) ?_ ?_
 ·rintro i s h1 n1 R hi hg hk s5 hw hJ hR hret _;simp at hk;obtain⟨x,ki,rows,cells,I2,s1,hki,hki2,hlen,hc0,hnd,hI2,hstart,hclose⟩:=hJ.step2 hI hn hi;obtain⟨_,rfl,hc1⟩:=Vt.1 hc0;obtain⟨rfl,rfl⟩:=Wt.1 hc1;have S:=hstart _ Yq.nil;have e:=S.e;have w0:IntKind.i64.wrap (ki+1)=ki+1:=Kk (by omega);simp[hk,s5,hi,s1,e];intro _;refine Jd (Bb (ki) (by omega)) (by simp) ?_;rintro r rfl;simp[s5,hi,hw,s1,e,hlen,w0];refine hR _ _ _ (by simp[hk]) (by simp) (hclose _ _ [.str (W4 (ki))] _ _ S.store (Vt.2 ⟨_,rfl,(Wt.2 ⟨rfl,rfl⟩)⟩) (by simp[i64];try omega))
 ·rintro s h1 n1 R hk s5 hJ hret hX;simp at hk;obtain⟨s1,hn1,hf,ht⟩:=hJ.fin;simp[hk,s5,s1];refine⟨Hx ht,λ_=>?_⟩;refine hX _ _ _ _ ?_;simp[s1];exact hK _ _ hn1 hf ht
end Go.Proofs.YtoclolkigjbcgaaGreat

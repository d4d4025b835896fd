/- Contracts of the laws' functions over the types. -/
import Derived.Test.YtoclolkigjbcgaaGreatUE4
import Derived.Test.YtoclolkigjbcgaaGreatUG8
import Derived.Test.YtoclolkigjbcgaaGreatUT1
import Derived.Test.YtoclolkigjbcgaaGreatProg
import Derived.Test.YtoclolkigjbcgaaGreatRows
namespace Go.Proofs.YtoclolkigjbcgaaGreat
set_option maxRecDepth 40000
set_option maxHeartbeats 4000000
set_option linter.all false
open Go Go.RowKit Go.Proofs
def a332:AFn:= ⟨13,[.t 4],(.seq (.reg [Zo 2 (.boxv (.t 0)),Zo 4 (.mv (.k (.int .i64 0)))]) (.seq (.reg [Zv 5 1,Zf 6 1 2,Zl 7 false 1 6,Zo 8 (.len true (.t 7)),Zo 9 (.bin .sub (.t 5) (.t 8)),Zv 1 9]) (.seq (.seq (.reg [Zv 10 1,Zo 11 (.bin .lss (.t 10) (.k (.int .i64 0)))]) (.cond (.t 11) (.seq (.reg [Zo 4 (.mv (.k (.int .i64 (-1))))]) .ret) .skip)) (.seq (.reg [Zv 12 1,Zv 4 12]) .ret))))⟩
theorem a332_ok:J08 Tryz.prog Tryz.f332=some a332:=by kernel_rfl
def a334:AFn:= ⟨11,[(.c 2 true 2)],(.seq (.reg [Zo 1 (.boxv (.t 0)),Zo 2 (.box [(.int .i64 0),(.str [])])]) (.seq (.reg [Zo 3 (.box [(.int .i64 0),(.str [])])]) (.seq (.reg [Zf 4 0 1,Zl 5 false 1 4,Zf 6 0 3,⟨no,.st 1 (.t 6) (.t 5),no⟩]) (.seq (.reg [Zf 7 1 1,Zl 8 false 1 7,Zf 9 1 3,⟨no,.st 1 (.t 9) (.t 8),no⟩]) (.seq (.reg [Zl 10 true 2 3,⟨no,.st 2 (.t 2) (.t 10),no⟩]) .ret)))))⟩
theorem a334_ok:J08 Tryz.prog Tryz.f334=some a334:=by kernel_rfl
def a337:AFn:= ⟨15,[.t 4],(.seq (.reg [Zo 2 (.boxv (.t 0)),Zo 3 (.boxv (.t 1)),Zo 4 (.mv (.k (.bool false)))]) (.seq (.seq (.reg [Zf 5 0 2,Zl 6 false 1 5,Zf 7 0 3,Zl 8 false 1 7,Zo 9 (.bin .neq (.t 6) (.t 8))]) (.cond (.t 9) (.seq (.reg [Zo 4 (.mv (.k (.bool false)))]) .ret) .skip)) (.seq (.seq (.reg [Zf 10 1 2,Zl 11 false 1 10,Zf 12 1 3,Zl 13 false 1 12,Zo 14 (.bin .neq (.t 11) (.t 13))]) (.cond (.t 14) (.seq (.reg [Zo 4 (.mv (.k (.bool false)))]) .ret) .skip)) (.seq (.reg [Zo 4 (.mv (.k (.bool true)))]) .ret))))⟩
theorem a337_ok:J08 Tryz.prog Tryz.f337=some a337:=by kernel_rfl
def a283:AFn:= ⟨12,[.t 4],(.seq (.reg [Zo 2 (.boxv (.t 0)),Zo 4 (.mv (.k (.int .i64 0)))]) (.seq (.reg [Zf 5 1 2,Zl 6 false 1 5,Zv 7 1,Zc 8 314 [.t 6,.t 7],Zv 1 8]) (.seq (.seq (.reg [Zv 9 1,Zo 10 (.bin .lss (.t 9) (.k (.int .i64 0)))]) (.cond (.t 10) (.seq (.reg [Zo 4 (.mv (.k (.int .i64 (-1))))]) .ret) .skip)) (.seq (.reg [Zv 11 1,Zv 4 11]) .ret))))⟩
theorem a283_ok:J08 Tryz.prog Tryz.f283=some a283:=by kernel_rfl
def a290:AFn:= ⟨12,[(.c 2 true 2)],(.seq (.reg [Zo 1 (.boxv (.t 0)),Zo 2 (.box [(.int .i64 0),(.nil 2)])]) (.seq (.reg [Zo 3 (.box [(.int .i64 0),(.nil 2)])]) (.seq (.reg [Zf 4 0 1,Zl 5 false 1 4,Zf 6 0 3,⟨no,.st 1 (.t 6) (.t 5),no⟩]) (.seq (.reg [Zf 7 1 1,Zl 8 false 1 7,Zc 9 320 [.t 8],Zf 10 1 3,⟨no,.st 1 (.t 10) (.t 9),no⟩]) (.seq (.reg [Zl 11 true 2 3,⟨no,.st 2 (.t 2) (.t 11),no⟩]) .ret)))))⟩
theorem a290_ok:J08 Tryz.prog Tryz.f290=some a290:=by kernel_rfl
def a301:AFn:= ⟨16,[.t 4],(.seq (.reg [Zo 2 (.boxv (.t 0)),Zo 3 (.boxv (.t 1)),Zo 4 (.mv (.k (.bool false)))]) (.seq (.seq (.reg [Zf 5 0 2,Zl 6 false 1 5,Zf 7 0 3,Zl 8 false 1 7,Zo 9 (.bin .neq (.t 6) (.t 8))]) (.cond (.t 9) (.seq (.reg [Zo 4 (.mv (.k (.bool false)))]) .ret) .skip)) (.seq (.seq (.reg [Zf 10 1 2,Zl 11 false 1 10,Zf 12 1 3,Zl 13 false 1 12,Zc 14 326 [.t 11,.t 13],Zo 15 (.un .not (.t 14))]) (.cond (.t 15) (.seq (.reg [Zo 4 (.mv (.k (.bool false)))]) .ret) .skip)) (.seq (.reg [Zo 4 (.mv (.k (.bool true)))]) .ret))))⟩
theorem a301_ok:J08 Tryz.prog Tryz.f301=some a301:=by kernel_rfl
def a215:AFn:= ⟨19,[.t 4],(.seq (.reg [Zo 2 (.boxv (.t 0)),Zo 4 (.mv (.k (.int .i64 0)))]) (.seq (.reg [Zf 5 1 2,Zl 6 false 1 5,Zv 7 1,Zc 8 213 [.t 6,.t 7],Zv 1 8]) (.seq (.seq (.reg [Zv 9 1,Zo 10 (.bin .lss (.t 9) (.k (.int .i64 0)))]) (.cond (.t 10) (.seq (.reg [Zo 4 (.mv (.k (.int .i64 (-1))))]) .ret) .skip)) (.seq (.reg [Zv 11 1,Zf 12 2 2,Zl 13 false 1 12,Zo 14 (.len true (.t 13)),Zo 15 (.bin .sub (.t 11) (.t 14)),Zv 1 15]) (.seq (.seq (.reg [Zv 16 1,Zo 17 (.bin .lss (.t 16) (.k (.int .i64 0)))]) (.cond (.t 17) (.seq (.reg [Zo 4 (.mv (.k (.int .i64 (-1))))]) .ret) .skip)) (.seq (.reg [Zv 18 1,Zv 4 18]) .ret))))))⟩
theorem a215_ok:J08 Tryz.prog Tryz.f215=some a215:=by kernel_rfl
def a229:AFn:= ⟨15,[(.c 2 true 3)],(.seq (.reg [Zo 1 (.boxv (.t 0)),Zo 2 (.box [(.bool false),(.nil 2),(.str [])])]) (.seq (.reg [Zo 3 (.box [(.bool false),(.nil 2),(.str [])])]) (.seq (.reg [Zf 4 0 1,Zl 5 false 1 4,Zf 6 0 3,⟨no,.st 1 (.t 6) (.t 5),no⟩]) (.seq (.reg [Zf 7 1 1,Zl 8 false 1 7,Zc 9 227 [.t 8],Zf 10 1 3,⟨no,.st 1 (.t 10) (.t 9),no⟩]) (.seq (.reg [Zf 11 2 1,Zl 12 false 1 11,Zf 13 2 3,⟨no,.st 1 (.t 13) (.t 12),no⟩]) (.seq (.reg [Zl 14 true 3 3,⟨no,.st 3 (.t 2) (.t 14),no⟩]) .ret))))))⟩
theorem a229_ok:J08 Tryz.prog Tryz.f229=some a229:=by kernel_rfl
def a247:AFn:= ⟨21,[.t 4],(.seq (.reg [Zo 2 (.boxv (.t 0)),Zo 3 (.boxv (.t 1)),Zo 4 (.mv (.k (.bool false)))]) (.seq (.seq (.reg [Zf 5 0 2,Zl 6 false 1 5,Zf 7 0 3,Zl 8 false 1 7,Zo 9 (.beq true (.t 6) (.t 8))]) (.cond (.t 9) (.seq (.reg [Zo 4 (.mv (.k (.bool false)))]) .ret) .skip)) (.seq (.seq (.reg [Zf 10 1 2,Zl 11 false 1 10,Zf 12 1 3,Zl 13 false 1 12,Zc 14 245 [.t 11,.t 13],Zo 15 (.un .not (.t 14))]) (.cond (.t 15) (.seq (.reg [Zo 4 (.mv (.k (.bool false)))]) .ret) .skip)) (.seq (.seq (.reg [Zf 16 2 2,Zl 17 false 1 16,Zf 18 2 3,Zl 19 false 1 18,Zo 20 (.bin .neq (.t 17) (.t 19))]) (.cond (.t 20) (.seq (.reg [Zo 4 (.mv (.k (.bool false)))]) .ret) .skip)) (.seq (.reg [Zo 4 (.mv (.k (.bool true)))]) .ret)))))⟩
theorem a247_ok:J08 Tryz.prog Tryz.f247=some a247:=by kernel_rfl
def a282:AFn:= ⟨27,[.t 4],(.seq (.reg [Zo 2 (.boxv (.t 0)),Zo 4 (.mv (.k (.int .i64 0)))]) (.seq (.reg [Zv 5 1,Zf 6 0 2,Zl 7 false 1 6,Zo 8 (.len true (.t 7)),Zo 9 (.bin .sub (.t 5) (.t 8)),Zv 1 9]) (.seq (.seq (.reg [Zv 10 1,Zo 11 (.bin .lss (.t 10) (.k (.int .i64 0)))]) (.cond (.t 11) (.seq (.reg [Zo 4 (.mv (.k (.int .i64 (-1))))]) .ret) .skip)) (.seq (.reg [Zv 12 1,Zf 13 2 2,Zl 14 false 1 13,Zo 15 (.len true (.t 14)),Zo 16 (.bin .sub (.t 12) (.t 15)),Zv 1 16]) (.seq (.seq (.reg [Zv 17 1,Zo 18 (.bin .lss (.t 17) (.k (.int .i64 0)))]) (.cond (.t 18) (.seq (.reg [Zo 4 (.mv (.k (.int .i64 (-1))))]) .ret) .skip)) (.seq (.reg [Zv 19 1,Zf 20 3 2,Zl 21 false 1 20,Zo 22 (.len true (.t 21)),Zo 23 (.bin .sub (.t 19) (.t 22)),Zv 1 23]) (.seq (.seq (.reg [Zv 24 1,Zo 25 (.bin .lss (.t 24) (.k (.int .i64 0)))]) (.cond (.t 25) (.seq (.reg [Zo 4 (.mv (.k (.int .i64 (-1))))]) .ret) .skip)) (.seq (.reg [Zv 26 1,Zv 4 26]) .ret))))))))⟩
theorem a282_ok:J08 Tryz.prog Tryz.f282=some a282:=by kernel_rfl
def a289:AFn:= ⟨17,[(.c 2 true 4)],(.seq (.reg [Zo 1 (.boxv (.t 0)),Zo 2 (.box [(.str []),(.bool false),(.str []),(.str [])])]) (.seq (.reg [Zo 3 (.box [(.str []),(.bool false),(.str []),(.str [])])]) (.seq (.reg [Zf 4 0 1,Zl 5 false 1 4,Zf 6 0 3,⟨no,.st 1 (.t 6) (.t 5),no⟩]) (.seq (.reg [Zf 7 1 1,Zl 8 false 1 7,Zf 9 1 3,⟨no,.st 1 (.t 9) (.t 8),no⟩]) (.seq (.reg [Zf 10 2 1,Zl 11 false 1 10,Zf 12 2 3,⟨no,.st 1 (.t 12) (.t 11),no⟩]) (.seq (.reg [Zf 13 3 1,Zl 14 false 1 13,Zf 15 3 3,⟨no,.st 1 (.t 15) (.t 14),no⟩]) (.seq (.reg [Zl 16 true 4 3,⟨no,.st 4 (.t 2) (.t 16),no⟩]) .ret)))))))⟩
theorem a289_ok:J08 Tryz.prog Tryz.f289=some a289:=by kernel_rfl
def a300:AFn:= ⟨25,[.t 4],(.seq (.reg [Zo 2 (.boxv (.t 0)),Zo 3 (.boxv (.t 1)),Zo 4 (.mv (.k (.bool false)))]) (.seq (.seq (.reg [Zf 5 0 2,Zl 6 false 1 5,Zf 7 0 3,Zl 8 false 1 7,Zo 9 (.bin .neq (.t 6) (.t 8))]) (.cond (.t 9) (.seq (.reg [Zo 4 (.mv (.k (.bool false)))]) .ret) .skip)) (.seq (.seq (.reg [Zf 10 1 2,Zl 11 false 1 10,Zf 12 1 3,Zl 13 false 1 12,Zo 14 (.beq true (.t 11) (.t 13))]) (.cond (.t 14) (.seq (.reg [Zo 4 (.mv (.k (.bool false)))]) .ret) .skip)) (.seq (.seq (.reg [Zf 15 2 2,Zl 16 false 1 15,Zf 17 2 3,Zl 18 false 1 17,Zo 19 (.bin .neq (.t 16) (.t 18))]) (.cond (.t 19) (.seq (.reg [Zo 4 (.mv (.k (.bool false)))]) .ret) .skip)) (.seq (.seq (.reg [Zf 20 3 2,Zl 21 false 1 20,Zf 22 3 3,Zl 23 false 1 22,Zo 24 (.bin .neq (.t 21) (.t 23))]) (.cond (.t 24) (.seq (.reg [Zo 4 (.mv (.k (.bool false)))]) .ret) .skip)) (.seq (.reg [Zo 4 (.mv (.k (.bool true)))]) .ret))))))⟩
theorem a300_ok:J08 Tryz.prog Tryz.f300=some a300:=by kernel_rfl
def a284:AFn:= ⟨26,[.t 4],(.seq (.reg [Zo 2 (.boxv (.t 0)),Zo 4 (.mv (.k (.int .i64 0)))]) (.seq (.reg [Zv 5 1,Zf 6 0 2,Zl 7 false 1 6,Zo 8 (.len true (.t 7)),Zo 9 (.bin .sub (.t 5) (.t 8)),Zv 1 9]) (.seq (.seq (.reg [Zv 10 1,Zo 11 (.bin .lss (.t 10) (.k (.int .i64 0)))]) (.cond (.t 11) (.seq (.reg [Zo 4 (.mv (.k (.int .i64 (-1))))]) .ret) .skip)) (.seq (.reg [Zv 12 1,Zf 13 1 2,Zl 14 false 1 13,Zo 15 (.len true (.t 14)),Zo 16 (.bin .sub (.t 12) (.t 15)),Zv 1 16]) (.seq (.seq (.reg [Zv 17 1,Zo 18 (.bin .lss (.t 17) (.k (.int .i64 0)))]) (.cond (.t 18) (.seq (.reg [Zo 4 (.mv (.k (.int .i64 (-1))))]) .ret) .skip)) (.seq (.reg [Zf 19 2 2,Zl 20 false 1 19,Zv 21 1,Zc 22 315 [.t 20,.t 21],Zv 1 22]) (.seq (.seq (.reg [Zv 23 1,Zo 24 (.bin .lss (.t 23) (.k (.int .i64 0)))]) (.cond (.t 24) (.seq (.reg [Zo 4 (.mv (.k (.int .i64 (-1))))]) .ret) .skip)) (.seq (.reg [Zv 25 1,Zv 4 25]) .ret))))))))⟩
theorem a284_ok:J08 Tryz.prog Tryz.f284=some a284:=by kernel_rfl
def a291:AFn:= ⟨15,[(.c 2 true 3)],(.seq (.reg [Zo 1 (.boxv (.t 0)),Zo 2 (.box [(.str []),(.str []),(.nil 3)])]) (.seq (.reg [Zo 3 (.box [(.str []),(.str []),(.nil 3)])]) (.seq (.reg [Zf 4 0 1,Zl 5 false 1 4,Zf 6 0 3,⟨no,.st 1 (.t 6) (.t 5),no⟩]) (.seq (.reg [Zf 7 1 1,Zl 8 false 1 7,Zf 9 1 3,⟨no,.st 1 (.t 9) (.t 8),no⟩]) (.seq (.reg [Zf 10 2 1,Zl 11 false 1 10,Zc 12 321 [.t 11],Zf 13 2 3,⟨no,.st 1 (.t 13) (.t 12),no⟩]) (.seq (.reg [Zl 14 true 3 3,⟨no,.st 3 (.t 2) (.t 14),no⟩]) .ret))))))⟩
theorem a291_ok:J08 Tryz.prog Tryz.f291=some a291:=by kernel_rfl
def a302:AFn:= ⟨21,[.t 4],(.seq (.reg [Zo 2 (.boxv (.t 0)),Zo 3 (.boxv (.t 1)),Zo 4 (.mv (.k (.bool false)))]) (.seq (.seq (.reg [Zf 5 0 2,Zl 6 false 1 5,Zf 7 0 3,Zl 8 false 1 7,Zo 9 (.bin .neq (.t 6) (.t 8))]) (.cond (.t 9) (.seq (.reg [Zo 4 (.mv (.k (.bool false)))]) .ret) .skip)) (.seq (.seq (.reg [Zf 10 1 2,Zl 11 false 1 10,Zf 12 1 3,Zl 13 false 1 12,Zo 14 (.bin .neq (.t 11) (.t 13))]) (.cond (.t 14) (.seq (.reg [Zo 4 (.mv (.k (.bool false)))]) .ret) .skip)) (.seq (.seq (.reg [Zf 15 2 2,Zl 16 false 1 15,Zf 17 2 3,Zl 18 false 1 17,Zc 19 327 [.t 16,.t 18],Zo 20 (.un .not (.t 19))]) (.cond (.t 20) (.seq (.reg [Zo 4 (.mv (.k (.bool false)))]) .ret) .skip)) (.seq (.reg [Zo 4 (.mv (.k (.bool true)))]) .ret)))))⟩
theorem a302_ok:J08 Tryz.prog Tryz.f302=some a302:=by kernel_rfl
def a133:AFn:= ⟨37,[.t 4],(.seq (.reg [Zo 2 (.boxv (.t 0)),Zo 4 (.mv (.k (.int .i64 0)))]) (.seq (.reg [Zv 5 1,Zf 6 0 2,Zl 7 false 1 6,Zo 8 (.len true (.t 7)),Zo 9 (.bin .sub (.t 5) (.t 8)),Zv 1 9]) (.seq (.seq (.reg [Zv 10 1,Zo 11 (.bin .lss (.t 10) (.k (.int .i64 0)))]) (.cond (.t 11) (.seq (.reg [Zo 4 (.mv (.k (.int .i64 (-1))))]) .ret) .skip)) (.seq (.reg [Zf 12 1 2,Zl 13 false 1 12,Zv 14 1,Zc 15 212 [.t 13,.t 14],Zv 1 15]) (.seq (.seq (.reg [Zv 16 1,Zo 17 (.bin .lss (.t 16) (.k (.int .i64 0)))]) (.cond (.t 17) (.seq (.reg [Zo 4 (.mv (.k (.int .i64 (-1))))]) .ret) .skip)) (.seq (.reg [Zf 18 2 2,Zl 19 false 1 18,Zv 20 1,Zc 21 213 [.t 19,.t 20],Zv 1 21]) (.seq (.seq (.reg [Zv 22 1,Zo 23 (.bin .lss (.t 22) (.k (.int .i64 0)))]) (.cond (.t 23) (.seq (.reg [Zo 4 (.mv (.k (.int .i64 (-1))))]) .ret) .skip)) (.seq (.reg [Zf 24 3 2,Zl 25 false 1 24,Zv 26 1,Zc 27 214 [.t 25,.t 26],Zv 1 27]) (.seq (.seq (.reg [Zv 28 1,Zo 29 (.bin .lss (.t 28) (.k (.int .i64 0)))]) (.cond (.t 29) (.seq (.reg [Zo 4 (.mv (.k (.int .i64 (-1))))]) .ret) .skip)) (.seq (.reg [Zf 30 4 2,Zl 31 true 3 30,Zv 32 1,Zc 33 215 [.t 31,.t 32],Zv 1 33]) (.seq (.seq (.reg [Zv 34 1,Zo 35 (.bin .lss (.t 34) (.k (.int .i64 0)))]) (.cond (.t 35) (.seq (.reg [Zo 4 (.mv (.k (.int .i64 (-1))))]) .ret) .skip)) (.seq (.reg [Zv 36 1,Zv 4 36]) .ret))))))))))))⟩
theorem a133_ok:J08 Tryz.prog Tryz.f133=some a133:=by kernel_rfl
def a139:AFn:= ⟨24,[(.c 2 true 7)],(.seq (.reg [Zo 1 (.boxv (.t 0)),Zo 2 (.box [(.str []),(.nil 4),(.nil 2),(.nil 3),(.bool false),(.nil 2),(.str [])])]) (.seq (.reg [Zo 3 (.box [(.str []),(.nil 4),(.nil 2),(.nil 3),(.bool false),(.nil 2),(.str [])])]) (.seq (.reg [Zf 4 0 1,Zl 5 false 1 4,Zf 6 0 3,⟨no,.st 1 (.t 6) (.t 5),no⟩]) (.seq (.reg [Zf 7 1 1,Zl 8 false 1 7,Zc 9 226 [.t 8],Zf 10 1 3,⟨no,.st 1 (.t 10) (.t 9),no⟩]) (.seq (.reg [Zf 11 2 1,Zl 12 false 1 11,Zc 13 227 [.t 12],Zf 14 2 3,⟨no,.st 1 (.t 14) (.t 13),no⟩]) (.seq (.reg [Zf 15 3 1,Zl 16 false 1 15,Zc 17 228 [.t 16],Zf 18 3 3,⟨no,.st 1 (.t 18) (.t 17),no⟩]) (.seq (.reg [Zf 19 4 1,Zl 20 true 3 19,Zc 21 229 [.t 20],Zf 22 4 3,⟨no,.st 3 (.t 22) (.t 21),no⟩]) (.seq (.reg [Zl 23 true 7 3,⟨no,.st 7 (.t 2) (.t 23),no⟩]) .ret))))))))⟩
theorem a139_ok:J08 Tryz.prog Tryz.f139=some a139:=by kernel_rfl
def a155:AFn:= ⟨34,[.t 4],(.seq (.reg [Zo 2 (.boxv (.t 0)),Zo 3 (.boxv (.t 1)),Zo 4 (.mv (.k (.bool false)))]) (.seq (.seq (.reg [Zf 5 0 2,Zl 6 false 1 5,Zf 7 0 3,Zl 8 false 1 7,Zo 9 (.bin .neq (.t 6) (.t 8))]) (.cond (.t 9) (.seq (.reg [Zo 4 (.mv (.k (.bool false)))]) .ret) .skip)) (.seq (.seq (.reg [Zf 10 1 2,Zl 11 false 1 10,Zf 12 1 3,Zl 13 false 1 12,Zc 14 244 [.t 11,.t 13],Zo 15 (.un .not (.t 14))]) (.cond (.t 15) (.seq (.reg [Zo 4 (.mv (.k (.bool false)))]) .ret) .skip)) (.seq (.seq (.reg [Zf 16 2 2,Zl 17 false 1 16,Zf 18 2 3,Zl 19 false 1 18,Zc 20 245 [.t 17,.t 19],Zo 21 (.un .not (.t 20))]) (.cond (.t 21) (.seq (.reg [Zo 4 (.mv (.k (.bool false)))]) .ret) .skip)) (.seq (.seq (.reg [Zf 22 3 2,Zl 23 false 1 22,Zf 24 3 3,Zl 25 false 1 24,Zc 26 246 [.t 23,.t 25],Zo 27 (.un .not (.t 26))]) (.cond (.t 27) (.seq (.reg [Zo 4 (.mv (.k (.bool false)))]) .ret) .skip)) (.seq (.seq (.reg [Zf 28 4 2,Zl 29 true 3 28,Zf 30 4 3,Zl 31 true 3 30,Zc 32 247 [.t 29,.t 31],Zo 33 (.un .not (.t 32))]) (.cond (.t 33) (.seq (.reg [Zo 4 (.mv (.k (.bool false)))]) .ret) .skip)) (.seq (.reg [Zo 4 (.mv (.k (.bool true)))]) .ret)))))))⟩
theorem a155_ok:J08 Tryz.prog Tryz.f155=some a155:=by kernel_rfl
def a132:AFn:= ⟨25,[.t 4],(.seq (.reg [Zo 2 (.boxv (.t 0)),Zo 4 (.mv (.k (.int .i64 0)))]) (.seq (.reg [Zv 5 1,Zf 6 0 2,Zl 7 false 1 6,Zo 8 (.len true (.t 7)),Zo 9 (.bin .sub (.t 5) (.t 8)),Zv 1 9]) (.seq (.seq (.reg [Zv 10 1,Zo 11 (.bin .lss (.t 10) (.k (.int .i64 0)))]) (.cond (.t 11) (.seq (.reg [Zo 4 (.mv (.k (.int .i64 (-1))))]) .ret) .skip)) (.seq (.reg [Zf 12 1 2,Zl 13 false 1 12,Zv 14 1,Zc 15 211 [.t 13,.t 14],Zv 1 15]) (.seq (.seq (.reg [Zv 16 1,Zo 17 (.bin .lss (.t 16) (.k (.int .i64 0)))]) (.cond (.t 17) (.seq (.reg [Zo 4 (.mv (.k (.int .i64 (-1))))]) .ret) .skip)) (.seq (.reg [Zf 18 3 2,Zl 19 false 1 18,Zv 20 1,Zc 21 95 [.t 19,.t 20],Zv 1 21]) (.seq (.seq (.reg [Zv 22 1,Zo 23 (.bin .lss (.t 22) (.k (.int .i64 0)))]) (.cond (.t 23) (.seq (.reg [Zo 4 (.mv (.k (.int .i64 (-1))))]) .ret) .skip)) (.seq (.reg [Zv 24 1,Zv 4 24]) .ret))))))))⟩
theorem a132_ok:J08 Tryz.prog Tryz.f132=some a132:=by kernel_rfl
def a138:AFn:= ⟨19,[(.c 2 true 4)],(.seq (.reg [Zo 1 (.boxv (.t 0)),Zo 2 (.box [(.str []),(.nil 1),(.bool false),(.nil 2)])]) (.seq (.reg [Zo 3 (.box [(.str []),(.nil 1),(.bool false),(.nil 2)])]) (.seq (.reg [Zf 4 0 1,Zl 5 false 1 4,Zf 6 0 3,⟨no,.st 1 (.t 6) (.t 5),no⟩]) (.seq (.reg [Zf 7 1 1,Zl 8 false 1 7,Zc 9 225 [.t 8],Zf 10 1 3,⟨no,.st 1 (.t 10) (.t 9),no⟩]) (.seq (.reg [Zf 11 2 1,Zl 12 false 1 11,Zf 13 2 3,⟨no,.st 1 (.t 13) (.t 12),no⟩]) (.seq (.reg [Zf 14 3 1,Zl 15 false 1 14,Zc 16 101 [.t 15],Zf 17 3 3,⟨no,.st 1 (.t 17) (.t 16),no⟩]) (.seq (.reg [Zl 18 true 4 3,⟨no,.st 4 (.t 2) (.t 18),no⟩]) .ret)))))))⟩
theorem a138_ok:J08 Tryz.prog Tryz.f138=some a138:=by kernel_rfl
def a154:AFn:= ⟨27,[.t 4],(.seq (.reg [Zo 2 (.boxv (.t 0)),Zo 3 (.boxv (.t 1)),Zo 4 (.mv (.k (.bool false)))]) (.seq (.seq (.reg [Zf 5 0 2,Zl 6 false 1 5,Zf 7 0 3,Zl 8 false 1 7,Zo 9 (.bin .neq (.t 6) (.t 8))]) (.cond (.t 9) (.seq (.reg [Zo 4 (.mv (.k (.bool false)))]) .ret) .skip)) (.seq (.seq (.reg [Zf 10 1 2,Zl 11 false 1 10,Zf 12 1 3,Zl 13 false 1 12,Zc 14 73 [.t 11,.t 13],Zo 15 (.un .not (.t 14))]) (.cond (.t 15) (.seq (.reg [Zo 4 (.mv (.k (.bool false)))]) .ret) .skip)) (.seq (.seq (.reg [Zf 16 2 2,Zl 17 false 1 16,Zf 18 2 3,Zl 19 false 1 18,Zo 20 (.beq true (.t 17) (.t 19))]) (.cond (.t 20) (.seq (.reg [Zo 4 (.mv (.k (.bool false)))]) .ret) .skip)) (.seq (.seq (.reg [Zf 21 3 2,Zl 22 false 1 21,Zf 23 3 3,Zl 24 false 1 23,Zc 25 107 [.t 22,.t 24],Zo 26 (.un .not (.t 25))]) (.cond (.t 26) (.seq (.reg [Zo 4 (.mv (.k (.bool false)))]) .ret) .skip)) (.seq (.reg [Zo 4 (.mv (.k (.bool true)))]) .ret))))))⟩
theorem a154_ok:J08 Tryz.prog Tryz.f154=some a154:=by kernel_rfl
def a12:AFn:= ⟨18,[.t 4],(.seq (.reg [Zo 2 (.boxv (.t 0)),Zo 4 (.mv (.k (.int .i64 0)))]) (.seq (.reg [Zf 5 0 2,Zl 6 false 1 5,Zv 7 1,Zc 8 58 [.t 6,.t 7],Zv 1 8]) (.seq (.seq (.reg [Zv 9 1,Zo 10 (.bin .lss (.t 9) (.k (.int .i64 0)))]) (.cond (.t 10) (.seq (.reg [Zo 4 (.mv (.k (.int .i64 (-1))))]) .ret) .skip)) (.seq (.reg [Zf 11 1 2,Zl 12 false 1 11,Zv 13 1,Zc 14 59 [.t 12,.t 13],Zv 1 14]) (.seq (.seq (.reg [Zv 15 1,Zo 16 (.bin .lss (.t 15) (.k (.int .i64 0)))]) (.cond (.t 16) (.seq (.reg [Zo 4 (.mv (.k (.int .i64 (-1))))]) .ret) .skip)) (.seq (.reg [Zv 17 1,Zv 4 17]) .ret))))))⟩
theorem a12_ok:J08 Tryz.prog Tryz.f12=some a12:=by kernel_rfl
def a14:AFn:= ⟨13,[(.c 2 true 2)],(.seq (.reg [Zo 1 (.boxv (.t 0)),Zo 2 (.box [(.nil 4),(.nil 7)])]) (.seq (.reg [Zo 3 (.box [(.nil 4),(.nil 7)])]) (.seq (.reg [Zf 4 0 1,Zl 5 false 1 4,Zc 6 65 [.t 5],Zf 7 0 3,⟨no,.st 1 (.t 7) (.t 6),no⟩]) (.seq (.reg [Zf 8 1 1,Zl 9 false 1 8,Zc 10 66 [.t 9],Zf 11 1 3,⟨no,.st 1 (.t 11) (.t 10),no⟩]) (.seq (.reg [Zl 12 true 2 3,⟨no,.st 2 (.t 2) (.t 12),no⟩]) .ret)))))⟩
theorem a14_ok:J08 Tryz.prog Tryz.f14=some a14:=by kernel_rfl
def a17:AFn:= ⟨17,[.t 4],(.seq (.reg [Zo 2 (.boxv (.t 0)),Zo 3 (.boxv (.t 1)),Zo 4 (.mv (.k (.bool false)))]) (.seq (.seq (.reg [Zf 5 0 2,Zl 6 false 1 5,Zf 7 0 3,Zl 8 false 1 7,Zc 9 74 [.t 6,.t 8],Zo 10 (.un .not (.t 9))]) (.cond (.t 10) (.seq (.reg [Zo 4 (.mv (.k (.bool false)))]) .ret) .skip)) (.seq (.seq (.reg [Zf 11 1 2,Zl 12 false 1 11,Zf 13 1 3,Zl 14 false 1 13,Zc 15 75 [.t 12,.t 14],Zo 16 (.un .not (.t 15))]) (.cond (.t 16) (.seq (.reg [Zo 4 (.mv (.k (.bool false)))]) .ret) .skip)) (.seq (.reg [Zo 4 (.mv (.k (.bool true)))]) .ret))))⟩
theorem a17_ok:J08 Tryz.prog Tryz.f17=some a17:=by kernel_rfl
theorem Jna (x:DTerm) (left:Int) (h0:0≤left∧left≤4611686018427387904):Holds Tryz.prog 332 [.agg (J0l x),i64 left] (fun r=>r=i64 (J2m left (J5o x))):=by
 refine J01 Tryz.func332 a332_ok rfl (by simp [a332]) ?_
 simp [a332,J0l]
 have e0:J5o x=J5o x:=rfl
 conv at e0=>rhs;unfold J5o
 intro hl0
 rw [J0w (by unfold LIM at hl0;omega)]
 by_cases h1:left - (x.Name.length:Nat)<0
 case pos=>
  have q:left - (J5o x:Int)<0:=by omega
  simp [J2m,h1,q]
  try first|omega|(constructor <;> intros <;> omega)
 have g1:(x.Name.length:Nat)≤left:=by omega
 simp [J2m,h1,g1]
 try (rw [if_neg (by omega)];omega)
theorem Jmr (x:DTerm) (_hw:J5o x≤1048576):Holds Tryz.prog 334 [.agg (J0l x)] (fun r=>r = .agg (J2v x)):=by
 have hw:=_hw;unfold J5o at hw
 refine J01 Tryz.func334 a334_ok rfl (by simp [a334]) ?_
 simp [a334,J0l]
 try simp [J2v]
theorem Jn4 (x y:DTerm):Holds Tryz.prog 337 [.agg (J0l x),.agg (J0l y)] (fun r=>r = .bool (decide (x=y))):=by
 refine J01 Tryz.func337 a337_ok rfl (by simp [a337]) ?_
 simp [a337,J0l]
 by_cases h0:x.Coeff=y.Coeff
 case neg=>simp [h0];try exact fun e=>h0 (by rw [e])
 simp [h0]
 by_cases h1:x.Name=y.Name
 case neg=>simp [h1];try exact fun e=>h1 (by rw [e])
 simp [h1]
 cases x;cases y;simp_all
theorem a314_ok:J08 Tryz.prog Tryz.f314=some (tSz true 2 332):=by kernel_rfl
theorem Jk4 (l:List DTerm) (left:Int) (h0:0≤left∧left≤4611686018427387904):Holds Tryz.prog 314 [.sl 2 (l.map J0l),i64 left] (fun r=>r=i64 (J2m left (Jae l))):=by
 rw [show Jae l=wL J5o l from rfl,←J5a (w:=J5o) (g:=fun x lf=>J2m lf (J5o x)) (fun _ _ _=>rfl) l left h0.1]
 exact J4y Tryz.func314 a314_ok rfl (rowOf:=J0l) (eltOf:=(fun x => .agg (J0l x))) (fun x=>by simp [J0l]) (fun x h=>by simp [J0l]) (fun x lf h=>J78 h) l left h0 (fun x lf _ hl=>Jna x lf hl)
theorem a320_ok:J08 Tryz.prog Tryz.f320=some (tTo true 2 24 334 [.int .i64 0,.str []]):=by kernel_rfl
theorem Jka (l:List DTerm) (hw:Jae l≤1048576):Holds Tryz.prog 320 [.sl 2 (l.map J0l)] (fun r=>r = .us 2 (l.map J2v)):=
 J4x Tryz.func320 a320_ok rfl (rowOf:=J0l) (eltOf:=(fun x => .agg (J0l x))) (eltU:=(fun x => .agg (J2v x))) (fun x=>by simp [J0l]) (fun x h=>by simp [J0l]) (fun x=>by simp) (fun x=>by simp [J2v]) (fun x=>by simp [J2v]) rfl l (by have:=J1h J5o l;unfold Jae at hw;unfold LIM;omega) (fun x h=>Jmr x (by have:=J3i (w:=J5o) h;unfold Jae at hw;omega))
theorem a326_ok:J08 Tryz.prog Tryz.f326=some (tEq true 2 337):=by kernel_rfl
theorem Jl5 (l m:List DTerm):Holds Tryz.prog 326 [.sl 2 (l.map J0l),.sl 2 (m.map J0l)] (fun r=>r = .bool (decide (l=m))):=by
 rw [←J5z]
 exact J4d Tryz.func326 a326_ok rfl (rowOf:=J0l) (eltOf:=(fun x => .agg (J0l x))) (fun x=>by simp [J0l]) (fun x h=>by simp [J0l]) l m (fun x y _ _=>Jn4 x y)
theorem Jqj (x:DSum) (left:Int) (h0:0≤left∧left≤4611686018427387904):Holds Tryz.prog 283 [.agg (J10 x),i64 left] (fun r=>r=i64 (J2m left (J8j x))):=by
 refine J01 Tryz.func283 a283_ok rfl (by simp [a283]) ?_
 simp [a283,J10]
 have e0:J8j x=J8j x:=rfl
 conv at e0=>rhs;unfold J8j
 refine J03 (Jk4 x.Terms left (by omega)) (by simp) ?_
 rintro r rfl
 by_cases h1:left - (Jae x.Terms:Nat)<0
 case pos=>
  have q:left - (J8j x:Int)<0:=by omega
  simp [J2m,h1,q]
  try first|omega|(constructor <;> intros <;> omega)
 simp [J2m,h1]
 try (rw [if_neg (by omega)];omega)
theorem Jpn (x:DSum) (_hw:J8j x≤1048576):Holds Tryz.prog 290 [.agg (J10 x)] (fun r=>r = .agg (J3s x)):=by
 have hw:=_hw;unfold J8j at hw
 refine J01 Tryz.func290 a290_ok rfl (by simp [a290]) ?_
 simp [a290,J10]
 refine J03 (Jka x.Terms (by omega)) (by simp []) ?_
 rintro r rfl
 simp []
 try simp [J3s]
theorem Jpv (x y:DSum):Holds Tryz.prog 301 [.agg (J10 x),.agg (J10 y)] (fun r=>r = .bool (decide (x=y))):=by
 refine J01 Tryz.func301 a301_ok rfl (by simp [a301]) ?_
 simp [a301,J10]
 by_cases h0:x.Const=y.Const
 case neg=>simp [h0];try exact fun e=>h0 (by rw [e])
 simp [h0]
 refine J03 (Jl5 x.Terms y.Terms) (by simp []) ?_
 rintro r rfl
 by_cases h1:x.Terms=y.Terms
 case neg=>simp [h1];try exact fun e=>h1 (by rw [e])
 simp [h1]
 cases x;cases y;simp_all
theorem a213_ok:J08 Tryz.prog Tryz.f213=some (tSz true 2 283):=by kernel_rfl
theorem Jh8 (l:List DSum) (left:Int) (h0:0≤left∧left≤4611686018427387904):Holds Tryz.prog 213 [.sl 2 (l.map J10),i64 left] (fun r=>r=i64 (J2m left (J4u l))):=by
 rw [show J4u l=wL J8j l from rfl,←J5a (w:=J8j) (g:=fun x lf=>J2m lf (J8j x)) (fun _ _ _=>rfl) l left h0.1]
 exact J4y Tryz.func213 a213_ok rfl (rowOf:=J10) (eltOf:=(fun x => .agg (J10 x))) (fun x=>by simp [J10]) (fun x h=>by simp [J10]) (fun x lf h=>J78 h) l left h0 (fun x lf _ hl=>Jqj x lf hl)
theorem a227_ok:J08 Tryz.prog Tryz.f227=some (tTo true 2 32 290 [.int .i64 0,.nil 2]):=by kernel_rfl
theorem Jha (l:List DSum) (hw:J4u l≤1048576):Holds Tryz.prog 227 [.sl 2 (l.map J10)] (fun r=>r = .us 2 (l.map J3s)):=
 J4x Tryz.func227 a227_ok rfl (rowOf:=J10) (eltOf:=(fun x => .agg (J10 x))) (eltU:=(fun x => .agg (J3s x))) (fun x=>by simp [J10]) (fun x h=>by simp [J10]) (fun x=>by simp) (fun x=>by simp [J3s]) (fun x=>by simp [J3s]) rfl l (by have:=J1h J8j l;unfold J4u at hw;unfold LIM;omega) (fun x h=>Jpn x (by have:=J3i (w:=J8j) h;unfold J4u at hw;omega))
theorem a245_ok:J08 Tryz.prog Tryz.f245=some (tEq true 2 301):=by kernel_rfl
theorem Jhc (l m:List DSum):Holds Tryz.prog 245 [.sl 2 (l.map J10),.sl 2 (m.map J10)] (fun r=>r = .bool (decide (l=m))):=by
 rw [←J5z]
 exact J4d Tryz.func245 a245_ok rfl (rowOf:=J10) (eltOf:=(fun x => .agg (J10 x))) (fun x=>by simp [J10]) (fun x h=>by simp [J10]) l m (fun x y _ _=>Jpv x y)
theorem Jjw (x:DArg) (left:Int) (h0:0≤left∧left≤4611686018427387904):Holds Tryz.prog 215 [.agg (J0o x),i64 left] (fun r=>r=i64 (J2m left (J7w x))):=by
 refine J01 Tryz.func215 a215_ok rfl (by simp [a215]) ?_
 simp [a215,J0o]
 have e0:J7w x=J7w x:=rfl
 conv at e0=>rhs;unfold J7w
 refine J03 (Jh8 x.Heads left (by omega)) (by simp) ?_
 rintro r rfl
 by_cases h1:left - (J4u x.Heads:Nat)<0
 case pos=>
  have q:left - (J7w x:Int)<0:=by omega
  simp [J2m,h1,q]
  try first|omega|(constructor <;> intros <;> omega)
 simp [J2m,h1]
 intro hl1
 rw [J0w (by unfold LIM at hl1;omega)]
 by_cases h2:(left - (J4u x.Heads:Nat)) - (x.Base.length:Nat)<0
 case pos=>
  have q:left - (J7w x:Int)<0:=by omega
  simp [J2m,h2,q]
  try first|omega|(constructor <;> intros <;> omega)
 have g2:(x.Base.length:Nat)≤(left - (J4u x.Heads:Nat)):=by omega
 simp [J2m,h2,g2]
 try (rw [if_neg (by omega)];omega)
theorem Jj9 (x:DArg) (_hw:J7w x≤1048576):Holds Tryz.prog 229 [.agg (J0o x)] (fun r=>r = .agg (J3t x)):=by
 have hw:=_hw;unfold J7w at hw
 refine J01 Tryz.func229 a229_ok rfl (by simp [a229]) ?_
 simp [a229,J0o]
 refine J03 (Jha x.Heads (by omega)) (by simp []) ?_
 rintro r rfl
 simp []
 try simp [J3t]
theorem Jkk (x y:DArg):Holds Tryz.prog 247 [.agg (J0o x),.agg (J0o y)] (fun r=>r = .bool (decide (x=y))):=by
 refine J01 Tryz.func247 a247_ok rfl (by simp [a247]) ?_
 simp [a247,J0o]
 by_cases h0:x.Lst=y.Lst
 case neg=>simp [h0];try exact fun e=>h0 (by rw [e])
 simp [h0]
 refine J03 (Jhc x.Heads y.Heads) (by simp []) ?_
 rintro r rfl
 by_cases h1:x.Heads=y.Heads
 case neg=>simp [h1];try exact fun e=>h1 (by rw [e])
 simp [h1]
 by_cases h2:x.Base=y.Base
 case neg=>simp [h2];try exact fun e=>h2 (by rw [e])
 simp [h2]
 cases x;cases y;simp_all
theorem a315_ok:J08 Tryz.prog Tryz.f315=some (tSz true 3 215):=by kernel_rfl
theorem Jmg (l:List DArg) (left:Int) (h0:0≤left∧left≤4611686018427387904):Holds Tryz.prog 315 [.sl 3 (l.map J0o),i64 left] (fun r=>r=i64 (J2m left (Jc1 l))):=by
 rw [show Jc1 l=wL J7w l from rfl,←J5a (w:=J7w) (g:=fun x lf=>J2m lf (J7w x)) (fun _ _ _=>rfl) l left h0.1]
 exact J4y Tryz.func315 a315_ok rfl (rowOf:=J0o) (eltOf:=(fun x => .agg (J0o x))) (fun x=>by simp [J0o]) (fun x h=>by simp [J0o]) (fun x lf h=>J78 h) l left h0 (fun x lf _ hl=>Jjw x lf hl)
theorem a321_ok:J08 Tryz.prog Tryz.f321=some (tTo true 3 48 229 [.bool false,.nil 2,.str []]):=by kernel_rfl
theorem Jlr (l:List DArg) (hw:Jc1 l≤1048576):Holds Tryz.prog 321 [.sl 3 (l.map J0o)] (fun r=>r = .us 3 (l.map J3t)):=
 J4x Tryz.func321 a321_ok rfl (rowOf:=J0o) (eltOf:=(fun x => .agg (J0o x))) (eltU:=(fun x => .agg (J3t x))) (fun x=>by simp [J0o]) (fun x h=>by simp [J0o]) (fun x=>by simp) (fun x=>by simp [J3t]) (fun x=>by simp [J3t]) rfl l (by have:=J1h J7w l;unfold Jc1 at hw;unfold LIM;omega) (fun x h=>Jj9 x (by have:=J3i (w:=J7w) h;unfold Jc1 at hw;omega))
theorem a327_ok:J08 Tryz.prog Tryz.f327=some (tEq true 3 247):=by kernel_rfl
theorem Jmo (l m:List DArg):Holds Tryz.prog 327 [.sl 3 (l.map J0o),.sl 3 (m.map J0o)] (fun r=>r = .bool (decide (l=m))):=by
 rw [←J5z]
 exact J4d Tryz.func327 a327_ok rfl (rowOf:=J0o) (eltOf:=(fun x => .agg (J0o x))) (fun x=>by simp [J0o]) (fun x h=>by simp [J0o]) l m (fun x y _ _=>Jkk x y)
theorem Jgo (x:DPattern) (left:Int) (h0:0≤left∧left≤4611686018427387904):Holds Tryz.prog 282 [.agg (J06 x),i64 left] (fun r=>r=i64 (J2m left (J1w x))):=by
 refine J01 Tryz.func282 a282_ok rfl (by simp [a282]) ?_
 simp [a282,J06]
 have e0:J1w x=J1w x:=rfl
 conv at e0=>rhs;unfold J1w
 intro hl0
 rw [J0w (by unfold LIM at hl0;omega)]
 by_cases h1:left - (x.Lst.length:Nat)<0
 case pos=>
  have q:left - (J1w x:Int)<0:=by omega
  simp [J2m,h1,q]
  try first|omega|(constructor <;> intros <;> omega)
 have g1:(x.Lst.length:Nat)≤left:=by omega
 simp [J2m,h1,g1]
 intro hl1
 rw [J0w (by unfold LIM at hl1;omega)]
 by_cases h2:(left - (x.Lst.length:Nat)) - (x.Head.length:Nat)<0
 case pos=>
  have q:left - (J1w x:Int)<0:=by omega
  simp [J2m,h2,q]
  try first|omega|(constructor <;> intros <;> omega)
 have g2:(x.Head.length:Nat)≤(left - (x.Lst.length:Nat)):=by omega
 simp [J2m,h2,g2]
 intro hl2
 rw [J0w (by unfold LIM at hl2;omega)]
 by_cases h3:(left - (x.Lst.length:Nat) - (x.Head.length:Nat)) - (x.Tail.length:Nat)<0
 case pos=>
  have q:left - (J1w x:Int)<0:=by omega
  simp [J2m,h3,q]
  try first|omega|(constructor <;> intros <;> omega)
 have g3:(x.Tail.length:Nat)≤(left - (x.Lst.length:Nat) - (x.Head.length:Nat)):=by omega
 simp [J2m,h3,g3]
 try (rw [if_neg (by omega)];omega)
theorem Jgi (x:DPattern) (_hw:J1w x≤1048576):Holds Tryz.prog 289 [.agg (J06 x)] (fun r=>r = .agg (J0m x)):=by
 have hw:=_hw;unfold J1w at hw
 refine J01 Tryz.func289 a289_ok rfl (by simp [a289]) ?_
 simp [a289,J06]
 try simp [J0m]
theorem Jg7 (x y:DPattern):Holds Tryz.prog 300 [.agg (J06 x),.agg (J06 y)] (fun r=>r = .bool (decide (x=y))):=by
 refine J01 Tryz.func300 a300_ok rfl (by simp [a300]) ?_
 simp [a300,J06]
 by_cases h0:x.Lst=y.Lst
 case neg=>simp [h0];try exact fun e=>h0 (by rw [e])
 simp [h0]
 by_cases h1:x.Cons=y.Cons
 case neg=>simp [h1];try exact fun e=>h1 (by rw [e])
 simp [h1]
 by_cases h2:x.Head=y.Head
 case neg=>simp [h2];try exact fun e=>h2 (by rw [e])
 simp [h2]
 by_cases h3:x.Tail=y.Tail
 case neg=>simp [h3];try exact fun e=>h3 (by rw [e])
 simp [h3]
 cases x;cases y;simp_all
theorem a212_ok:J08 Tryz.prog Tryz.f212=some (tSz true 4 282):=by kernel_rfl
theorem Jfz (l:List DPattern) (left:Int) (h0:0≤left∧left≤4611686018427387904):Holds Tryz.prog 212 [.sl 4 (l.map J06),i64 left] (fun r=>r=i64 (J2m left (J1s l))):=by
 rw [show J1s l=wL J1w l from rfl,←J5a (w:=J1w) (g:=fun x lf=>J2m lf (J1w x)) (fun _ _ _=>rfl) l left h0.1]
 exact J4y Tryz.func212 a212_ok rfl (rowOf:=J06) (eltOf:=(fun x => .agg (J06 x))) (fun x=>by simp [J06]) (fun x h=>by simp [J06]) (fun x lf h=>J78 h) l left h0 (fun x lf _ hl=>Jgo x lf hl)
theorem a226_ok:J08 Tryz.prog Tryz.f226=some (tTo true 4 56 289 [.str [],.bool false,.str [],.str []]):=by kernel_rfl
theorem Jep (l:List DPattern) (hw:J1s l≤1048576):Holds Tryz.prog 226 [.sl 4 (l.map J06)] (fun r=>r = .us 4 (l.map J0m)):=
 J4x Tryz.func226 a226_ok rfl (rowOf:=J06) (eltOf:=(fun x => .agg (J06 x))) (eltU:=(fun x => .agg (J0m x))) (fun x=>by simp [J06]) (fun x h=>by simp [J06]) (fun x=>by simp) (fun x=>by simp [J0m]) (fun x=>by simp [J0m]) rfl l (by have:=J1h J1w l;unfold J1s at hw;unfold LIM;omega) (fun x h=>Jgi x (by have:=J3i (w:=J1w) h;unfold J1s at hw;omega))
theorem a244_ok:J08 Tryz.prog Tryz.f244=some (tEq true 4 300):=by kernel_rfl
theorem Jf0 (l m:List DPattern):Holds Tryz.prog 244 [.sl 4 (l.map J06),.sl 4 (m.map J06)] (fun r=>r = .bool (decide (l=m))):=by
 rw [←J5z]
 exact J4d Tryz.func244 a244_ok rfl (rowOf:=J06) (eltOf:=(fun x => .agg (J06 x))) (fun x=>by simp [J06]) (fun x h=>by simp [J06]) l m (fun x y _ _=>Jg7 x y)
theorem Jmh (x:DCall) (left:Int) (h0:0≤left∧left≤4611686018427387904):Holds Tryz.prog 284 [.agg (J0t x),i64 left] (fun r=>r=i64 (J2m left (J4f x))):=by
 refine J01 Tryz.func284 a284_ok rfl (by simp [a284]) ?_
 simp [a284,J0t]
 have e0:J4f x=J4f x:=rfl
 conv at e0=>rhs;unfold J4f
 intro hl0
 rw [J0w (by unfold LIM at hl0;omega)]
 by_cases h1:left - (x.Bind.length:Nat)<0
 case pos=>
  have q:left - (J4f x:Int)<0:=by omega
  simp [J2m,h1,q]
  try first|omega|(constructor <;> intros <;> omega)
 have g1:(x.Bind.length:Nat)≤left:=by omega
 simp [J2m,h1,g1]
 intro hl1
 rw [J0w (by unfold LIM at hl1;omega)]
 by_cases h2:(left - (x.Bind.length:Nat)) - (x.Func.length:Nat)<0
 case pos=>
  have q:left - (J4f x:Int)<0:=by omega
  simp [J2m,h2,q]
  try first|omega|(constructor <;> intros <;> omega)
 have g2:(x.Func.length:Nat)≤(left - (x.Bind.length:Nat)):=by omega
 simp [J2m,h2,g2]
 refine J03 (Jmg x.Args (left - (x.Bind.length:Nat) - (x.Func.length:Nat)) (by omega)) (by simp) ?_
 rintro r rfl
 by_cases h3:(left - (x.Bind.length:Nat) - (x.Func.length:Nat)) - (Jc1 x.Args:Nat)<0
 case pos=>
  have q:left - (J4f x:Int)<0:=by omega
  simp [J2m,h3,q]
  try first|omega|(constructor <;> intros <;> omega)
 simp [J2m,h3]
 try (rw [if_neg (by omega)];omega)
theorem Jn8 (x:DCall) (_hw:J4f x≤1048576):Holds Tryz.prog 291 [.agg (J0t x)] (fun r=>r = .agg (J2a x)):=by
 have hw:=_hw;unfold J4f at hw
 refine J01 Tryz.func291 a291_ok rfl (by simp [a291]) ?_
 simp [a291,J0t]
 refine J03 (Jlr x.Args (by omega)) (by simp []) ?_
 rintro r rfl
 simp []
 try simp [J2a]
theorem Jlx (x y:DCall):Holds Tryz.prog 302 [.agg (J0t x),.agg (J0t y)] (fun r=>r = .bool (decide (x=y))):=by
 refine J01 Tryz.func302 a302_ok rfl (by simp [a302]) ?_
 simp [a302,J0t]
 by_cases h0:x.Bind=y.Bind
 case neg=>simp [h0];try exact fun e=>h0 (by rw [e])
 simp [h0]
 by_cases h1:x.Func=y.Func
 case neg=>simp [h1];try exact fun e=>h1 (by rw [e])
 simp [h1]
 refine J03 (Jmo x.Args y.Args) (by simp []) ?_
 rintro r rfl
 by_cases h2:x.Args=y.Args
 case neg=>simp [h2];try exact fun e=>h2 (by rw [e])
 simp [h2]
 cases x;cases y;simp_all
theorem a214_ok:J08 Tryz.prog Tryz.f214=some (tSz true 3 284):=by kernel_rfl
theorem Jk6 (l:List DCall) (left:Int) (h0:0≤left∧left≤4611686018427387904):Holds Tryz.prog 214 [.sl 3 (l.map J0t),i64 left] (fun r=>r=i64 (J2m left (J64 l))):=by
 rw [show J64 l=wL J4f l from rfl,←J5a (w:=J4f) (g:=fun x lf=>J2m lf (J4f x)) (fun _ _ _=>rfl) l left h0.1]
 exact J4y Tryz.func214 a214_ok rfl (rowOf:=J0t) (eltOf:=(fun x => .agg (J0t x))) (fun x=>by simp [J0t]) (fun x h=>by simp [J0t]) (fun x lf h=>J78 h) l left h0 (fun x lf _ hl=>Jmh x lf hl)
theorem a228_ok:J08 Tryz.prog Tryz.f228=some (tTo true 3 56 291 [.str [],.str [],.nil 3]):=by kernel_rfl
theorem Jk8 (l:List DCall) (hw:J64 l≤1048576):Holds Tryz.prog 228 [.sl 3 (l.map J0t)] (fun r=>r = .us 3 (l.map J2a)):=
 J4x Tryz.func228 a228_ok rfl (rowOf:=J0t) (eltOf:=(fun x => .agg (J0t x))) (eltU:=(fun x => .agg (J2a x))) (fun x=>by simp [J0t]) (fun x h=>by simp [J0t]) (fun x=>by simp) (fun x=>by simp [J2a]) (fun x=>by simp [J2a]) rfl l (by have:=J1h J4f l;unfold J64 at hw;unfold LIM;omega) (fun x h=>Jn8 x (by have:=J3i (w:=J4f) h;unfold J64 at hw;omega))
theorem a246_ok:J08 Tryz.prog Tryz.f246=some (tEq true 3 302):=by kernel_rfl
theorem Jl0 (l m:List DCall):Holds Tryz.prog 246 [.sl 3 (l.map J0t),.sl 3 (m.map J0t)] (fun r=>r = .bool (decide (l=m))):=by
 rw [←J5z]
 exact J4d Tryz.func246 a246_ok rfl (rowOf:=J0t) (eltOf:=(fun x => .agg (J0t x))) (fun x=>by simp [J0t]) (fun x h=>by simp [J0t]) l m (fun x y _ _=>Jlx x y)
theorem Jmm (x:DRule) (left:Int) (h0:0≤left∧left≤4611686018427387904):Holds Tryz.prog 133 [.agg (J0a x),i64 left] (fun r=>r=i64 (J2m left (J3f x))):=by
 refine J01 Tryz.func133 a133_ok rfl (by simp [a133]) ?_
 simp [a133,J0a]
 have e0:J3f x=J3f x:=rfl
 conv at e0=>rhs;unfold J3f
 intro hl0
 rw [J0w (by unfold LIM at hl0;omega)]
 by_cases h1:left - (x.Func.length:Nat)<0
 case pos=>
  have q:left - (J3f x:Int)<0:=by omega
  simp [J2m,h1,q]
  try first|omega|(constructor <;> intros <;> omega)
 have g1:(x.Func.length:Nat)≤left:=by omega
 simp [J2m,h1,g1]
 refine J03 (Jfz x.Patterns (left - (x.Func.length:Nat)) (by omega)) (by simp) ?_
 rintro r rfl
 by_cases h2:(left - (x.Func.length:Nat)) - (J1s x.Patterns:Nat)<0
 case pos=>
  have q:left - (J3f x:Int)<0:=by omega
  simp [J2m,h2,q]
  try first|omega|(constructor <;> intros <;> omega)
 simp [J2m,h2]
 refine J03 (Jh8 x.Guards (left - (x.Func.length:Nat) - (J1s x.Patterns:Nat)) (by omega)) (by simp) ?_
 rintro r rfl
 by_cases h3:(left - (x.Func.length:Nat) - (J1s x.Patterns:Nat)) - (J4u x.Guards:Nat)<0
 case pos=>
  have q:left - (J3f x:Int)<0:=by omega
  simp [J2m,h3,q]
  try first|omega|(constructor <;> intros <;> omega)
 simp [J2m,h3]
 refine J03 (Jk6 x.Calls (left - (x.Func.length:Nat) - (J1s x.Patterns:Nat) - (J4u x.Guards:Nat)) (by omega)) (by simp) ?_
 rintro r rfl
 by_cases h4:(left - (x.Func.length:Nat) - (J1s x.Patterns:Nat) - (J4u x.Guards:Nat)) - (J64 x.Calls:Nat)<0
 case pos=>
  have q:left - (J3f x:Int)<0:=by omega
  simp [J2m,h4,q]
  try first|omega|(constructor <;> intros <;> omega)
 simp [J2m,h4]
 refine J03 (Jjw x.Result (left - (x.Func.length:Nat) - (J1s x.Patterns:Nat) - (J4u x.Guards:Nat) - (J64 x.Calls:Nat)) (by omega)) (by simp [J0o]) ?_
 rintro r rfl
 by_cases h5:(left - (x.Func.length:Nat) - (J1s x.Patterns:Nat) - (J4u x.Guards:Nat) - (J64 x.Calls:Nat)) - (J7w x.Result:Nat)<0
 case pos=>
  have q:left - (J3f x:Int)<0:=by omega
  simp [J2m,h5,q]
  try first|omega|(constructor <;> intros <;> omega)
 simp [J2m,h5]
 try (rw [if_neg (by omega)];omega)
theorem Jlw (x:DRule) (_hw:J3f x≤1048576):Holds Tryz.prog 139 [.agg (J0a x)] (fun r=>r = .agg (J18 x)):=by
 have hw:=_hw;unfold J3f at hw
 refine J01 Tryz.func139 a139_ok rfl (by simp [a139]) ?_
 simp [a139,J0a]
 refine J03 (Jep x.Patterns (by omega)) (by simp []) ?_
 rintro r rfl
 simp []
 refine J03 (Jha x.Guards (by omega)) (by simp []) ?_
 rintro r rfl
 simp []
 refine J03 (Jk8 x.Calls (by omega)) (by simp []) ?_
 rintro r rfl
 simp []
 refine J03 (Jj9 x.Result (by omega)) (by simp [J0o]) ?_
 rintro r rfl
 simp [J3t]
 try simp [J18]
theorem Jmb (x y:DRule):Holds Tryz.prog 155 [.agg (J0a x),.agg (J0a y)] (fun r=>r = .bool (decide (x=y))):=by
 refine J01 Tryz.func155 a155_ok rfl (by simp [a155]) ?_
 simp [a155,J0a]
 by_cases h0:x.Func=y.Func
 case neg=>simp [h0];try exact fun e=>h0 (by rw [e])
 simp [h0]
 refine J03 (Jf0 x.Patterns y.Patterns) (by simp []) ?_
 rintro r rfl
 by_cases h1:x.Patterns=y.Patterns
 case neg=>simp [h1];try exact fun e=>h1 (by rw [e])
 simp [h1]
 refine J03 (Jhc x.Guards y.Guards) (by simp []) ?_
 rintro r rfl
 by_cases h2:x.Guards=y.Guards
 case neg=>simp [h2];try exact fun e=>h2 (by rw [e])
 simp [h2]
 refine J03 (Jl0 x.Calls y.Calls) (by simp []) ?_
 rintro r rfl
 by_cases h3:x.Calls=y.Calls
 case neg=>simp [h3];try exact fun e=>h3 (by rw [e])
 simp [h3]
 refine J03 (Jkk x.Result y.Result) (by simp [J0o]) ?_
 rintro r rfl
 by_cases h4:x.Result=y.Result
 case neg=>simp [h4];try exact fun e=>h4 (by rw [e])
 simp [h4]
 cases x;cases y;simp_all
theorem a59_ok:J08 Tryz.prog Tryz.f59=some (tSz true 7 133):=by kernel_rfl
theorem Jjn (l:List DRule) (left:Int) (h0:0≤left∧left≤4611686018427387904):Holds Tryz.prog 59 [.sl 7 (l.map J0a),i64 left] (fun r=>r=i64 (J2m left (J6z l))):=by
 rw [show J6z l=wL J3f l from rfl,←J5a (w:=J3f) (g:=fun x lf=>J2m lf (J3f x)) (fun _ _ _=>rfl) l left h0.1]
 exact J4y Tryz.func59 a59_ok rfl (rowOf:=J0a) (eltOf:=(fun x => .agg (J0a x))) (fun x=>by simp [J0a]) (fun x h=>by simp [J0a]) (fun x lf h=>J78 h) l left h0 (fun x lf _ hl=>Jmm x lf hl)
theorem a66_ok:J08 Tryz.prog Tryz.f66=some (tTo true 7 136 139 [.str [],.nil 4,.nil 2,.nil 3,.bool false,.nil 2,.str []]):=by kernel_rfl
theorem Jj4 (l:List DRule) (hw:J6z l≤1048576):Holds Tryz.prog 66 [.sl 7 (l.map J0a)] (fun r=>r = .us 7 (l.map J18)):=
 J4x Tryz.func66 a66_ok rfl (rowOf:=J0a) (eltOf:=(fun x => .agg (J0a x))) (eltU:=(fun x => .agg (J18 x))) (fun x=>by simp [J0a]) (fun x h=>by simp [J0a]) (fun x=>by simp) (fun x=>by simp [J18]) (fun x=>by simp [J18]) rfl l (by have:=J1h J3f l;unfold J6z at hw;unfold LIM;omega) (fun x h=>Jlw x (by have:=J3i (w:=J3f) h;unfold J6z at hw;omega))
theorem a75_ok:J08 Tryz.prog Tryz.f75=some (tEq true 7 155):=by kernel_rfl
theorem Jj5 (l m:List DRule):Holds Tryz.prog 75 [.sl 7 (l.map J0a),.sl 7 (m.map J0a)] (fun r=>r = .bool (decide (l=m))):=by
 rw [←J5z]
 exact J4d Tryz.func75 a75_ok rfl (rowOf:=J0a) (eltOf:=(fun x => .agg (J0a x))) (fun x=>by simp [J0a]) (fun x h=>by simp [J0a]) l m (fun x y _ _=>Jmb x y)
theorem Jf5 (x:DFunction) (left:Int) (h0:0≤left∧left≤4611686018427387904):Holds Tryz.prog 132 [.agg (J04 x),i64 left] (fun r=>r=i64 (J2m left (J0j x))):=by
 refine J01 Tryz.func132 a132_ok rfl (by simp [a132]) ?_
 simp [a132,J04]
 have e0:J0j x=J0j x:=rfl
 conv at e0=>rhs;unfold J0j
 intro hl0
 rw [J0w (by unfold LIM at hl0;omega)]
 by_cases h1:left - (x.Name.length:Nat)<0
 case pos=>
  have q:left - (J0j x:Int)<0:=by omega
  simp [J2m,h1,q]
  try first|omega|(constructor <;> intros <;> omega)
 have g1:(x.Name.length:Nat)≤left:=by omega
 simp [J2m,h1,g1]
 refine J03 (Jh3 x.Params (left - (x.Name.length:Nat)) (by omega)) (by simp) ?_
 rintro r rfl
 by_cases h2:(left - (x.Name.length:Nat)) - (J33 x.Params:Nat)<0
 case pos=>
  have q:left - (J0j x:Int)<0:=by omega
  simp [J2m,h2,q]
  try first|omega|(constructor <;> intros <;> omega)
 simp [J2m,h2]
 refine J03 (Jmn x.Pre (left - (x.Name.length:Nat) - (J33 x.Params:Nat)) (by omega)) (by simp) ?_
 rintro r rfl
 by_cases h3:(left - (x.Name.length:Nat) - (J33 x.Params:Nat)) - (J90 x.Pre:Nat)<0
 case pos=>
  have q:left - (J0j x:Int)<0:=by omega
  simp [J2m,h3,q]
  try first|omega|(constructor <;> intros <;> omega)
 simp [J2m,h3]
 try (rw [if_neg (by omega)];omega)
theorem Jft (x:DFunction) (_hw:J0j x≤1048576):Holds Tryz.prog 138 [.agg (J04 x)] (fun r=>r = .agg (J0b x)):=by
 have hw:=_hw;unfold J0j at hw
 refine J01 Tryz.func138 a138_ok rfl (by simp [a138]) ?_
 simp [a138,J04]
 refine J03 (Jgg x.Params (by omega)) (by simp []) ?_
 rintro r rfl
 simp []
 refine J03 (Jlq x.Pre (by omega)) (by simp []) ?_
 rintro r rfl
 simp []
 try simp [J0b]
theorem Jfi (x y:DFunction):Holds Tryz.prog 154 [.agg (J04 x),.agg (J04 y)] (fun r=>r = .bool (decide (x=y))):=by
 refine J01 Tryz.func154 a154_ok rfl (by simp [a154]) ?_
 simp [a154,J04]
 by_cases h0:x.Name=y.Name
 case neg=>simp [h0];try exact fun e=>h0 (by rw [e])
 simp [h0]
 refine J03 (Jc3 x.Params y.Params) (by simp []) ?_
 rintro r rfl
 by_cases h1:x.Params=y.Params
 case neg=>simp [h1];try exact fun e=>h1 (by rw [e])
 simp [h1]
 by_cases h2:x.ListResult=y.ListResult
 case neg=>simp [h2];try exact fun e=>h2 (by rw [e])
 simp [h2]
 refine J03 (Jma x.Pre y.Pre) (by simp []) ?_
 rintro r rfl
 by_cases h3:x.Pre=y.Pre
 case neg=>simp [h3];try exact fun e=>h3 (by rw [e])
 simp [h3]
 cases x;cases y;simp_all
theorem a58_ok:J08 Tryz.prog Tryz.f58=some (tSz true 4 132):=by kernel_rfl
theorem Jds (l:List DFunction) (left:Int) (h0:0≤left∧left≤4611686018427387904):Holds Tryz.prog 58 [.sl 4 (l.map J04),i64 left] (fun r=>r=i64 (J2m left (J17 l))):=by
 rw [show J17 l=wL J0j l from rfl,←J5a (w:=J0j) (g:=fun x lf=>J2m lf (J0j x)) (fun _ _ _=>rfl) l left h0.1]
 exact J4y Tryz.func58 a58_ok rfl (rowOf:=J04) (eltOf:=(fun x => .agg (J04 x))) (fun x=>by simp [J04]) (fun x h=>by simp [J04]) (fun x lf h=>J78 h) l left h0 (fun x lf _ hl=>Jf5 x lf hl)
theorem a65_ok:J08 Tryz.prog Tryz.f65=some (tTo true 4 72 138 [.str [],.nil 1,.bool false,.nil 2]):=by kernel_rfl
theorem Jdm (l:List DFunction) (hw:J17 l≤1048576):Holds Tryz.prog 65 [.sl 4 (l.map J04)] (fun r=>r = .us 4 (l.map J0b)):=
 J4x Tryz.func65 a65_ok rfl (rowOf:=J04) (eltOf:=(fun x => .agg (J04 x))) (eltU:=(fun x => .agg (J0b x))) (fun x=>by simp [J04]) (fun x h=>by simp [J04]) (fun x=>by simp) (fun x=>by simp [J0b]) (fun x=>by simp [J0b]) rfl l (by have:=J1h J0j l;unfold J17 at hw;unfold LIM;omega) (fun x h=>Jft x (by have:=J3i (w:=J0j) h;unfold J17 at hw;omega))
theorem a74_ok:J08 Tryz.prog Tryz.f74=some (tEq true 4 154):=by kernel_rfl
theorem Jdu (l m:List DFunction):Holds Tryz.prog 74 [.sl 4 (l.map J04),.sl 4 (m.map J04)] (fun r=>r = .bool (decide (l=m))):=by
 rw [←J5z]
 exact J4d Tryz.func74 a74_ok rfl (rowOf:=J04) (eltOf:=(fun x => .agg (J04 x))) (fun x=>by simp [J04]) (fun x h=>by simp [J04]) l m (fun x y _ _=>Jfi x y)
theorem Jbk (x:DProgram) (left:Int) (h0:0≤left∧left≤4611686018427387904):Holds Tryz.prog 12 [.agg (J00 x),i64 left] (fun r=>r=i64 (J2m left (J0d x))):=by
 refine J01 Tryz.func12 a12_ok rfl (by simp [a12]) ?_
 simp [a12,J00]
 have e0:J0d x=J0d x:=rfl
 conv at e0=>rhs;unfold J0d
 refine J03 (Jds x.Functions left (by omega)) (by simp) ?_
 rintro r rfl
 by_cases h1:left - (J17 x.Functions:Nat)<0
 case pos=>
  have q:left - (J0d x:Int)<0:=by omega
  simp [J2m,h1,q]
  try first|omega|(constructor <;> intros <;> omega)
 simp [J2m,h1]
 refine J03 (Jjn x.Rules (left - (J17 x.Functions:Nat)) (by omega)) (by simp) ?_
 rintro r rfl
 by_cases h2:(left - (J17 x.Functions:Nat)) - (J6z x.Rules:Nat)<0
 case pos=>
  have q:left - (J0d x:Int)<0:=by omega
  simp [J2m,h2,q]
  try first|omega|(constructor <;> intros <;> omega)
 simp [J2m,h2]
 try (rw [if_neg (by omega)];omega)
theorem J3b (x:DProgram) (_hw:J0d x≤1048576):Holds Tryz.prog 14 [.agg (J00 x)] (fun r=>r = .agg (J1g x)):=by
 have hw:=_hw;unfold J0d at hw
 refine J01 Tryz.func14 a14_ok rfl (by simp [a14]) ?_
 simp [a14,J00]
 refine J03 (Jdm x.Functions (by omega)) (by simp []) ?_
 rintro r rfl
 simp []
 refine J03 (Jj4 x.Rules (by omega)) (by simp []) ?_
 rintro r rfl
 simp []
 try simp [J1g]
theorem Jbp (x y:DProgram):Holds Tryz.prog 17 [.agg (J00 x),.agg (J00 y)] (fun r=>r = .bool (decide (x=y))):=by
 refine J01 Tryz.func17 a17_ok rfl (by simp [a17]) ?_
 simp [a17,J00]
 refine J03 (Jdu x.Functions y.Functions) (by simp []) ?_
 rintro r rfl
 by_cases h0:x.Functions=y.Functions
 case neg=>simp [h0];try exact fun e=>h0 (by rw [e])
 simp [h0]
 refine J03 (Jj5 x.Rules y.Rules) (by simp []) ?_
 rintro r rfl
 by_cases h1:x.Rules=y.Rules
 case neg=>simp [h1];try exact fun e=>h1 (by rw [e])
 simp [h1]
 cases x;cases y;simp_all
end Go.Proofs.YtoclolkigjbcgaaGreat
namespace Go.Proofs.YtoclolkigjbcgaaGreat
set_option linter.all false
open Go Go.RowKit Go.Proofs
def a3:AFn:= ⟨69,[.t 2],(.seq (.reg [Zo 1 (.boxv (.t 0)),Zo 2 (.mv (.k (.bool false)))]) (.seq (.reg [Zo 3 (.mv (.k (.int .i64 1048576)))]) (.seq (.reg [Zl 11 true 2 1,Zv 12 3,Zc 13 12 [.t 11,.t 12],Zv 3 13]) (.seq (.seq (.reg [Zv 14 3,Zo 15 (.bin .lss (.t 14) (.k (.int .i64 0)))]) (.cond (.t 15) (.seq (.reg [Zo 2 (.mv (.k (.bool true)))]) .ret) .skip)) (.seq (.reg [Zl 16 true 2 1,Zc 17 14 [.t 16],Zc 18 13 [.t 17],Zv 4 18]) (.seq (.reg [Zl 19 true 2 1,Zc 20 14 [.t 19],Zo 5 (.box [(.nil 4),(.nil 7)]),⟨no,.st 2 (.t 5) (.t 20),no⟩]) (.seq (.reg [Zl 21 true 2 5,Zc 22 15 [.t 21],Zv 6 22]) (.seq (.seq (.reg [Zv 23 6,Zv 24 4,Zc 25 16 [.t 23,.t 24],Zo 26 (.un .not (.t 25))]) (.cond (.t 26) (.seq (.reg [Zo 2 (.mv (.k (.bool false)))]) .ret) .skip)) (.seq (.seq (.draw (.op (Zl 27 true 2 5) (.op (Zl 28 true 2 1) (.op (Zc 29 14 [.t 28]) (.op (Zc 30 17 [.t 27,.t 29]) (.op (Zo 31 (.un .not (.t 30))) .fin)))))) (.cond (.t 31) (.seq (.reg [Zo 2 (.mv (.k (.bool false)))]) .ret) .skip)) (.seq (.reg [Zo 7 (.mv (.k (.int .i64 1)))]) (.seq (.reg [Zl 32 true 2 5,Zv 33 7,Zc 34 18 [.t 32,.t 33],Zv 7 34]) (.seq (.seq (.reg [Zv 35 7,Zo 36 (.bin .lss (.t 35) (.k (.int .i64 0))),Zv 37 36,⟨some 38,.mv (.t 6),(some (37,false))⟩,⟨some 39,.mv (.t 4),(some (37,false))⟩,⟨some 40,.call (.k (.fn (.func 16) [] [])) [.t 38,.t 39],(some (37,false))⟩,⟨some 41,.un .not (.t 40),(some (37,false))⟩,Zo 42 (.pick (.t 37) (.k (.bool true)) (.t 41))]) (.cond (.t 42) (.seq (.reg [Zo 2 (.mv (.k (.bool false)))]) .ret) .skip)) (.seq (.reg [Zo 8 (.mv (.k (.int .i64 1)))]) (.seq (.reg [Zv 43 6,Zv 44 8,Zc 45 19 [.t 43,.t 44],Zv 8 45]) (.seq (.reg [Zo 9 (.mv (.k (.int .i64 1)))]) (.seq (.reg [Zv 46 6,Zv 47 9,Zc 48 20 [.t 46,.t 47],Zv 9 48]) (.seq (.seq (.reg [Zv 49 9,Zo 50 (.bin .lss (.t 49) (.k (.int .i64 0)))]) (.cond (.t 50) (.seq (.reg [Zo 2 (.mv (.k (.bool false)))]) .ret) .skip)) (.seq (.seq (.reg [Zv 51 9,Zv 52 8,Zo 53 (.bin .neq (.t 51) (.t 52))]) (.cond (.t 53) (.seq (.reg [Zo 2 (.mv (.k (.bool false)))]) .ret) .skip)) (.seq (.reg [Zl 54 true 2 1,Zc 55 14 [.t 54],Zc 56 15 [.t 55],Zv 10 56]) (.seq (.seq (.reg [Zv 57 10,Zv 58 4,Zc 59 16 [.t 57,.t 58],Zo 60 (.un .not (.t 59))]) (.cond (.t 60) (.seq (.reg [Zo 2 (.mv (.k (.bool false)))]) .ret) .skip)) (.seq (.reg [Zo 9 (.mv (.k (.int .i64 1)))]) (.seq (.reg [Zv 61 6,Zv 62 9,Zc 63 20 [.t 61,.t 62],Zv 9 63]) (.seq (.seq (.reg [Zv 64 9,Zo 65 (.bin .lss (.t 64) (.k (.int .i64 0)))]) (.cond (.t 65) (.seq (.reg [Zo 2 (.mv (.k (.bool false)))]) .ret) .skip)) (.seq (.seq (.reg [Zv 66 9,Zv 67 8,Zo 68 (.bin .neq (.t 66) (.t 67))]) (.cond (.t 68) (.seq (.reg [Zo 2 (.mv (.k (.bool false)))]) .ret) .skip)) (.seq (.reg [Zo 2 (.mv (.k (.bool true)))]) .ret)))))))))))))))))))))))))⟩
theorem a3_ok:J08 Tryz.prog Tryz.f3=some a3:=by kernel_rfl
theorem Jan (aP:DProgram):Holds Tryz.prog 3 [.agg (J00 aP)] (fun x=>x = .bool true):=by
 refine J01 Tryz.func3 a3_ok rfl (by simp [a3]) ?_
 simp [a3]
 first|refine J02 (Jbk aP 1048576 (by omega)) (by first|simp;done|rfl) ?_|refine J03 (Jbk aP 1048576 (by omega)) (by first|simp;done|rfl) ?_
 rintro r rfl
 by_cases h1:1048576 - (J0d aP:Int)<0
 ·simp [J2m,h1]
 simp [J2m,h1]
 have hw_aP:J0d aP≤1048576:=by omega
 have hb_aP:=Jie aP
 first|refine Je6 (J3b aP hw_aP) ((LS.start).push) (by simp) ⟨.inl (fun h=>by first|rfl|simp),trivial⟩ ?_|refine Ji4 (J3b aP hw_aP) ((LS.start).push) (by simp) ⟨.inl (fun h=>by first|rfl|simp),trivial⟩ ?_
 intro c0 h0x n0 J0 S0 hl0 hc0
 have e:=S0.eqs;have ne:=S0.nes;simp only [bxE,bxN,Nat.zero_add,Nat.reduceAdd] at e ne;simp only [J5s] at hl0
 have ht0:List.take 2 c0=c0:=List.take_of_length_le (by omega)
 simp [e,ne,hl0,ht0,hc0]
 first|refine Jjb (len:=((J1c aP)).length) (J74 aP hw_aP) (S0) (by simp) ⟨.inr ⟨_,.head _,rfl,by simp [dr]⟩,trivial⟩ ?_|refine Jpq (len:=((J1c aP)).length) (J74 aP hw_aP) (S0) (by simp) ⟨.inr ⟨_,.head _,rfl,by simp [dr]⟩,trivial⟩ ?_
 intro d1 h1x n1 J1 S1
 have e:=S1.eqs;have ne:=S1.nes;simp only [bxE,bxN,Nat.zero_add,Nat.reduceAdd] at e ne
 simp [e,ne,hl0,ht0]
 first|refine Je6 (J3b aP hw_aP) (S1) (by simp) ⟨.inl (fun h=>by first|rfl|simp),trivial⟩ ?_|refine Ji4 (J3b aP hw_aP) (S1) (by simp) ⟨.inl (fun h=>by first|rfl|simp),trivial⟩ ?_
 intro c2 h2x n2 J2 S2 hl2 hc2
 have e:=S2.eqs;have ne:=S2.nes;simp only [bxE,bxN,Nat.zero_add,Nat.reduceAdd] at e ne;simp only [J5s] at hl2
 have ht2:List.take 2 c2=c2:=List.take_of_length_le (by omega)
 simp [e,ne,hl0,ht0,hl2,ht2,hc2]
 first|refine Jjb (len:=((J1c aP)).length) (J4s aP hw_aP) ((S2).push) (by simp) ⟨.inr ⟨_,.head _,rfl,by simp [dr]⟩,trivial⟩ ?_|refine Jpq (len:=((J1c aP)).length) (J4s aP hw_aP) ((S2).push) (by simp) ⟨.inr ⟨_,.head _,rfl,by simp [dr]⟩,trivial⟩ ?_
 intro d3 h3x n3 J3 S3
 have e:=S3.eqs;have ne:=S3.nes;simp only [bxE,bxN,Nat.zero_add,Nat.reduceAdd] at e ne
 simp [e,ne,hl0,ht0,hl2,ht2]
 first|refine J7i (J49 ((J1c aP)) ((J1c aP))) (S3) rfl ⟨.inr ⟨_,.head _,rfl,by simp [dr]⟩,.inr ⟨_,.tail _ (.tail _ (.head _)),rfl,by simp [dr]⟩,trivial⟩ ?_|refine J9u (J49 ((J1c aP)) ((J1c aP))) (S3) rfl ⟨.inr ⟨_,.head _,rfl,by simp [dr]⟩,.inr ⟨_,.tail _ (.tail _ (.head _)),rfl,by simp [dr]⟩,trivial⟩ ?_
 simp [e,ne,hl0,ht0,hl2,ht2]
 first|refine Je6 (J3b aP hw_aP) (S3) (by simp) ⟨.inl (fun h=>by first|rfl|simp),trivial⟩ ?_|refine Ji4 (J3b aP hw_aP) (S3) (by simp) ⟨.inl (fun h=>by first|rfl|simp),trivial⟩ ?_
 intro c4 h4x n4 J4 S4 hl4 hc4
 have e:=S4.eqs;have ne:=S4.nes;simp only [bxE,bxN,Nat.zero_add,Nat.reduceAdd] at e ne;simp only [J5s] at hl4
 have ht4:List.take 2 c4=c4:=List.take_of_length_le (by omega)
 simp [e,ne,hl0,ht0,hl2,ht2,hl4,ht4,hc4]
 first|refine J7i (Jbp (aP) (aP)) (S4) rfl ⟨.inr ⟨_,.tail _ (.tail _ (.head _)),rfl,by simp [dr]⟩,.inr ⟨_,.head _,rfl,by simp [dr]⟩,trivial⟩ ?_|refine J9u (Jbp (aP) (aP)) (S4) rfl ⟨.inr ⟨_,.tail _ (.tail _ (.head _)),rfl,by simp [dr]⟩,.inr ⟨_,.head _,rfl,by simp [dr]⟩,trivial⟩ ?_
 simp [e,ne,hl0,ht0,hl2,ht2,hl4,ht4]
 refine Jkt (T1:=[_,_]) (Jdy (aP) (1) (by omega)) (S4) ?_
 intro h5x n5 S5
 have e:=S5.eqs;have ne:=S5.nes;simp only [bxE,bxN,Nat.zero_add,Nat.reduceAdd] at e ne
 have hq1:¬1+J6k aP<(0:Int):=by omega
 simp [e,ne,hl0,ht0,hl2,ht2,hl4,ht4,hq1]
 first|refine J7i (J49 ((J1c aP)) ((J1c aP))) (S5) rfl ⟨.inr ⟨_,.tail _ (.head _),rfl,by simp [dr]⟩,.inr ⟨_,.tail _ (.tail _ (.tail _ (.head _))),rfl,by simp [dr]⟩,trivial⟩ ?_|refine J9u (J49 ((J1c aP)) ((J1c aP))) (S5) rfl ⟨.inr ⟨_,.tail _ (.head _),rfl,by simp [dr]⟩,.inr ⟨_,.tail _ (.tail _ (.tail _ (.head _))),rfl,by simp [dr]⟩,trivial⟩ ?_
 simp [e,ne,hl0,ht0,hl2,ht2,hl4,ht4]
 have hg:=Jn7 aP
 have hm:¬1+(J2o ((J1c aP)):Int)<0:=by omega
 refine Jkt (T1:=[_]) (Jcd ((J1c aP)) (1) (by omega)) (S5) ?_
 intro h6x n6 S6
 have e:=S6.eqs;have ne:=S6.nes;simp only [bxE,bxN,Nat.zero_add,Nat.reduceAdd] at e ne
 have hq2:¬1+J2o ((J1c aP))<(0:Int):=by omega
 simp [e,ne,hl0,ht0,hl2,ht2,hl4,ht4,hq2]
 first|refine J7i (J4p ((J1c aP)) (1) (by omega)) (S6) rfl ⟨.inr ⟨_,.tail _ (.head _),rfl,by simp [dr]⟩,.inl (fun h=>by first|rfl|simp),trivial⟩ ?_|refine J9u (J4p ((J1c aP)) (1) (by omega)) (S6) rfl ⟨.inr ⟨_,.tail _ (.head _),rfl,by simp [dr]⟩,.inl (fun h=>by first|rfl|simp),trivial⟩ ?_
 simp [e,ne,hl0,ht0,hl2,ht2,hl4,ht4,hm]
 first|refine Je6 (J3b aP hw_aP) (S6) (by simp) ⟨.inl (fun h=>by first|rfl|simp),trivial⟩ ?_|refine Ji4 (J3b aP hw_aP) (S6) (by simp) ⟨.inl (fun h=>by first|rfl|simp),trivial⟩ ?_
 intro c7 h7x n7 J7 S7 hl7 hc7
 have e:=S7.eqs;have ne:=S7.nes;simp only [bxE,bxN,Nat.zero_add,Nat.reduceAdd] at e ne;simp only [J5s] at hl7
 have ht7:List.take 2 c7=c7:=List.take_of_length_le (by omega)
 simp [e,ne,hl0,ht0,hl2,ht2,hl4,ht4,hl7,ht7,hc7]
 first|refine Jjb (len:=((J1c aP)).length) (J4s aP hw_aP) (S7) (by simp) ⟨.inr ⟨_,.head _,rfl,by simp [dr]⟩,trivial⟩ ?_|refine Jpq (len:=((J1c aP)).length) (J4s aP hw_aP) (S7) (by simp) ⟨.inr ⟨_,.head _,rfl,by simp [dr]⟩,trivial⟩ ?_
 intro d8 h8x n8 J8 S8
 have e:=S8.eqs;have ne:=S8.nes;simp only [bxE,bxN,Nat.zero_add,Nat.reduceAdd] at e ne
 simp [e,ne,hl0,ht0,hl2,ht2,hl4,ht4,hl7,ht7]
 first|refine J7i (J49 ((J1c aP)) ((J1c aP))) (S8) rfl ⟨.inr ⟨_,.head _,rfl,by simp [dr]⟩,.inr ⟨_,.tail _ (.tail _ (.tail _ (.tail _ (.tail _ (.head _))))),rfl,by simp [dr]⟩,trivial⟩ ?_|refine J9u (J49 ((J1c aP)) ((J1c aP))) (S8) rfl ⟨.inr ⟨_,.head _,rfl,by simp [dr]⟩,.inr ⟨_,.tail _ (.tail _ (.tail _ (.tail _ (.tail _ (.head _))))),rfl,by simp [dr]⟩,trivial⟩ ?_
 simp [e,ne,hl0,ht0,hl2,ht2,hl4,ht4,hl7,ht7]
 first|refine J7i (J4p ((J1c aP)) (1) (by omega)) (S8) rfl ⟨.inr ⟨_,.tail _ (.tail _ (.tail _ (.head _))),rfl,by simp [dr]⟩,.inl (fun h=>by first|rfl|simp),trivial⟩ ?_|refine J9u (J4p ((J1c aP)) (1) (by omega)) (S8) rfl ⟨.inr ⟨_,.tail _ (.tail _ (.tail _ (.head _))),rfl,by simp [dr]⟩,.inl (fun h=>by first|rfl|simp),trivial⟩ ?_
 simp [e,ne,hl0,ht0,hl2,ht2,hl4,ht4,hl7,ht7,hm]
end Go.Proofs.YtoclolkigjbcgaaGreat
namespace Go.Proofs.YtoclolkigjbcgaaGreat
set_option linter.all false
open Go Go.RowKit Go.Proofs Go.ChangeShapes Go.WideShapes
theorem Tryz.own:ownKnob Tryz.prog.godebug=none:=by kernel_rfl
theorem Tryz.laidOut:laidOutB Tryz.prog=true:=by kernel_rfl
theorem J22 {α:Type}{P:List AV→Prop}{f:α→List AV}(hP:∀ r,P r→∃ x,r=f x):∀ {rows:List (List AV)},(∀ r∈rows,P r)→∃ l:List α,rows=l.map f
 | [],_=>⟨[],rfl⟩
 | r::rows,h=>by
  obtain ⟨x,rfl⟩:=hP r (h _ List.mem_cons_self)
  obtain ⟨l,rfl⟩:=J22 hP fun r hr=>h r (List.mem_cons_of_mem _ hr)
  exact ⟨x::l,rfl⟩
set_option maxRecDepth 100000
theorem Jpd {f:Nat}{r:List AV}(h:Row Tryz.prog (f+2) 39 r):∃ x:List Int,r=[.sl 1 (J38 x)]:=by
 obtain ⟨l,rfl⟩:=Jpj Tryz.underlying39 Tryz.underlying3 (by kernel_rfl) h
 exact ⟨l,rfl⟩
theorem Jta {f:Nat}{r:List AV}(h:Row Tryz.prog (f+3) 41 r):∃ x:DLin,r=J12 x:=by
 obtain ⟨parts,rfl,g0⟩:=J3k Tryz.underlying41 h
 obtain ⟨x0,m1,rfl,h0,g1⟩:=J0v g0
 obtain ⟨x1,m2,rfl,h1,g2⟩:=J0v g1
 cases J4r g2
 obtain ⟨v0,rfl,_⟩:=Jel Tryz.underlying3 h0
 obtain ⟨v1,rfl⟩:=Jpd h1
 exact ⟨⟨v0,v1⟩,rfl⟩
theorem Jod {f:Nat}{r:List AV}(h:Row Tryz.prog (f+4) 51 r):∃ x:List DLin,r=[.sl 2 (x.map J12)]:=by
 obtain ⟨rows,rfl,_,hr⟩:=J3w Tryz.underlying51 h
 obtain ⟨l,rfl⟩:=J22 (f:=J12) (fun r h=>Jta h) hr
 exact ⟨l,by rw [show Tryz.prog.cellsOf 41=2 by kernel_rfl]⟩
theorem Jpf {f:Nat}{r:List AV}(h:Row Tryz.prog (f+2) 339 r):∃ x:DTerm,r=J0l x:=by
 obtain ⟨parts,rfl,g0⟩:=J3k Tryz.underlying339 h
 obtain ⟨x0,m1,rfl,h0,g1⟩:=J0v g0
 obtain ⟨x1,m2,rfl,h1,g2⟩:=J0v g1
 cases J4r g2
 obtain ⟨v0,rfl,_⟩:=Jel Tryz.underlying3 h0
 obtain ⟨v1,rfl,_⟩:=J32 Tryz.underlying9 h1
 exact ⟨⟨v0,v1⟩,rfl⟩
theorem Jn6 {f:Nat}{r:List AV}(h:Row Tryz.prog (f+3) 303 r):∃ x:List DTerm,r=[.sl 2 (x.map J0l)]:=by
 obtain ⟨rows,rfl,_,hr⟩:=J3w Tryz.underlying303 h
 obtain ⟨l,rfl⟩:=J22 (f:=J0l) (fun r h=>Jpf h) hr
 exact ⟨l,by rw [show Tryz.prog.cellsOf 339=2 by kernel_rfl]⟩
theorem Jtf {f:Nat}{r:List AV}(h:Row Tryz.prog (f+4) 305 r):∃ x:DSum,r=J10 x:=by
 obtain ⟨parts,rfl,g0⟩:=J3k Tryz.underlying305 h
 obtain ⟨x0,m1,rfl,h0,g1⟩:=J0v g0
 obtain ⟨x1,m2,rfl,h1,g2⟩:=J0v g1
 cases J4r g2
 obtain ⟨v0,rfl,_⟩:=Jel Tryz.underlying3 h0
 obtain ⟨v1,rfl⟩:=Jn6 h1
 exact ⟨⟨v0,v1⟩,rfl⟩
theorem Jkf {f:Nat}{r:List AV}(h:Row Tryz.prog (f+5) 170 r):∃ x:List DSum,r=[.sl 2 (x.map J10)]:=by
 obtain ⟨rows,rfl,_,hr⟩:=J3w Tryz.underlying170 h
 obtain ⟨l,rfl⟩:=J22 (f:=J10) (fun r h=>Jtf h) hr
 exact ⟨l,by rw [show Tryz.prog.cellsOf 305=2 by kernel_rfl]⟩
theorem Jni {f:Nat}{r:List AV}(h:Row Tryz.prog (f+6) 173 r):∃ x:DArg,r=J0o x:=by
 obtain ⟨parts,rfl,g0⟩:=J3k Tryz.underlying173 h
 obtain ⟨x0,m1,rfl,h0,g1⟩:=J0v g0
 obtain ⟨x1,m2,rfl,h1,g2⟩:=J0v g1
 obtain ⟨x2,m3,rfl,h2,g3⟩:=J0v g2
 cases J4r g3
 obtain ⟨v0,rfl⟩:=Jea Tryz.underlying4 h0
 obtain ⟨v1,rfl⟩:=Jkf h1
 obtain ⟨v2,rfl,_⟩:=J32 Tryz.underlying9 h2
 exact ⟨⟨v0,v1,v2⟩,rfl⟩
theorem Jqk {f:Nat}{r:List AV}(h:Row Tryz.prog (f+7) 307 r):∃ x:List DArg,r=[.sl 3 (x.map J0o)]:=by
 obtain ⟨rows,rfl,_,hr⟩:=J3w Tryz.underlying307 h
 obtain ⟨l,rfl⟩:=J22 (f:=J0o) (fun r h=>Jni h) hr
 exact ⟨l,by rw [show Tryz.prog.cellsOf 173=3 by kernel_rfl]⟩
theorem Jib {f:Nat}{r:List AV}(h:Row Tryz.prog (f+2) 94 r):∃ x:List Str,r=[.sl 1 (J05 x)]:=by
 obtain ⟨rows,rfl,_,hr⟩:=J3w Tryz.underlying94 h
 obtain ⟨l,rfl⟩:=J22 (f:=fun s:Str=>[.str s]) (fun r h=>(J32 Tryz.underlying9 h).elim fun l h=>⟨l,h.1⟩) hr
 exact ⟨l,by rw [show Tryz.prog.cellsOf 9=1 by kernel_rfl];rfl⟩
theorem Jgw {f:Nat}{r:List AV}(h:Row Tryz.prog (f+5) 167 r):∃ x:DFunction,r=J04 x:=by
 obtain ⟨parts,rfl,g0⟩:=J3k Tryz.underlying167 h
 obtain ⟨x0,m1,rfl,h0,g1⟩:=J0v g0
 obtain ⟨x1,m2,rfl,h1,g2⟩:=J0v g1
 obtain ⟨x2,m3,rfl,h2,g3⟩:=J0v g2
 obtain ⟨x3,m4,rfl,h3,g4⟩:=J0v g3
 cases J4r g4
 obtain ⟨v0,rfl,_⟩:=J32 Tryz.underlying9 h0
 obtain ⟨v1,rfl⟩:=Jib h1
 obtain ⟨v2,rfl⟩:=Jea Tryz.underlying4 h2
 obtain ⟨v3,rfl⟩:=Jod h3
 exact ⟨⟨v0,v1,v2,v3⟩,rfl⟩
theorem Jf1 {f:Nat}{r:List AV}(h:Row Tryz.prog (f+6) 22 r):∃ x:List DFunction,r=[.sl 4 (x.map J04)]:=by
 obtain ⟨rows,rfl,_,hr⟩:=J3w Tryz.underlying22 h
 obtain ⟨l,rfl⟩:=J22 (f:=J04) (fun r h=>Jgw h) hr
 exact ⟨l,by rw [show Tryz.prog.cellsOf 167=4 by kernel_rfl]⟩
theorem Jit {f:Nat}{r:List AV}(h:Row Tryz.prog (f+2) 301 r):∃ x:DPattern,r=J06 x:=by
 obtain ⟨parts,rfl,g0⟩:=J3k Tryz.underlying301 h
 obtain ⟨x0,m1,rfl,h0,g1⟩:=J0v g0
 obtain ⟨x1,m2,rfl,h1,g2⟩:=J0v g1
 obtain ⟨x2,m3,rfl,h2,g3⟩:=J0v g2
 obtain ⟨x3,m4,rfl,h3,g4⟩:=J0v g3
 cases J4r g4
 obtain ⟨v0,rfl,_⟩:=J32 Tryz.underlying9 h0
 obtain ⟨v1,rfl⟩:=Jea Tryz.underlying4 h1
 obtain ⟨v2,rfl,_⟩:=J32 Tryz.underlying9 h2
 obtain ⟨v3,rfl,_⟩:=J32 Tryz.underlying9 h3
 exact ⟨⟨v0,v1,v2,v3⟩,rfl⟩
theorem Jh2 {f:Nat}{r:List AV}(h:Row Tryz.prog (f+3) 169 r):∃ x:List DPattern,r=[.sl 4 (x.map J06)]:=by
 obtain ⟨rows,rfl,_,hr⟩:=J3w Tryz.underlying169 h
 obtain ⟨l,rfl⟩:=J22 (f:=J06) (fun r h=>Jit h) hr
 exact ⟨l,by rw [show Tryz.prog.cellsOf 301=4 by kernel_rfl]⟩
theorem Jq3 {f:Nat}{r:List AV}(h:Row Tryz.prog (f+8) 309 r):∃ x:DCall,r=J0t x:=by
 obtain ⟨parts,rfl,g0⟩:=J3k Tryz.underlying309 h
 obtain ⟨x0,m1,rfl,h0,g1⟩:=J0v g0
 obtain ⟨x1,m2,rfl,h1,g2⟩:=J0v g1
 obtain ⟨x2,m3,rfl,h2,g3⟩:=J0v g2
 cases J4r g3
 obtain ⟨v0,rfl,_⟩:=J32 Tryz.underlying9 h0
 obtain ⟨v1,rfl,_⟩:=J32 Tryz.underlying9 h1
 obtain ⟨v2,rfl⟩:=Jqk h2
 exact ⟨⟨v0,v1,v2⟩,rfl⟩
theorem Jll {f:Nat}{r:List AV}(h:Row Tryz.prog (f+9) 171 r):∃ x:List DCall,r=[.sl 3 (x.map J0t)]:=by
 obtain ⟨rows,rfl,_,hr⟩:=J3w Tryz.underlying171 h
 obtain ⟨l,rfl⟩:=J22 (f:=J0t) (fun r h=>Jq3 h) hr
 exact ⟨l,by rw [show Tryz.prog.cellsOf 309=3 by kernel_rfl]⟩
theorem Jqt {f:Nat}{r:List AV}(h:Row Tryz.prog (f+10) 175 r):∃ x:DRule,r=J0a x:=by
 obtain ⟨parts,rfl,g0⟩:=J3k Tryz.underlying175 h
 obtain ⟨x0,m1,rfl,h0,g1⟩:=J0v g0
 obtain ⟨x1,m2,rfl,h1,g2⟩:=J0v g1
 obtain ⟨x2,m3,rfl,h2,g3⟩:=J0v g2
 obtain ⟨x3,m4,rfl,h3,g4⟩:=J0v g3
 obtain ⟨x4,m5,rfl,h4,g5⟩:=J0v g4
 cases J4r g5
 obtain ⟨v0,rfl,_⟩:=J32 Tryz.underlying9 h0
 obtain ⟨v1,rfl⟩:=Jh2 h1
 obtain ⟨v2,rfl⟩:=Jkf h2
 obtain ⟨v3,rfl⟩:=Jll h3
 obtain ⟨v4,rfl⟩:=Jni h4
 exact ⟨⟨v0,v1,v2,v3,v4⟩,rfl⟩
theorem Jm7 {f:Nat}{r:List AV}(h:Row Tryz.prog (f+11) 23 r):∃ x:List DRule,r=[.sl 7 (x.map J0a)]:=by
 obtain ⟨rows,rfl,_,hr⟩:=J3w Tryz.underlying23 h
 obtain ⟨l,rfl⟩:=J22 (f:=J0a) (fun r h=>Jqt h) hr
 exact ⟨l,by rw [show Tryz.prog.cellsOf 175=7 by kernel_rfl]⟩
theorem Jip {f:Nat}{r:List AV}(h:Row Tryz.prog (f+12) 25 r):∃ x:DProgram,r=J00 x:=by
 obtain ⟨parts,rfl,g0⟩:=J3k Tryz.underlying25 h
 obtain ⟨x0,m1,rfl,h0,g1⟩:=J0v g0
 obtain ⟨x1,m2,rfl,h1,g2⟩:=J0v g1
 cases J4r g2
 obtain ⟨v0,rfl⟩:=Jf1 h0
 obtain ⟨v1,rfl⟩:=Jm7 h1
 exact ⟨⟨v0,v1⟩,rfl⟩
theorem Jgd {f:Nat}{a:AV}(h:Jf4 Tryz.prog (f+12) 25 a):∃ x:DProgram,a = .agg (J00 x):=by
 obtain ⟨row,rfl,h1⟩:=Jfo Tryz.underlying25 h
 obtain ⟨x,rfl⟩:=Jip h1
 exact ⟨x,rfl⟩
end Go.Proofs.YtoclolkigjbcgaaGreat
namespace Go.Proofs.YtoclolkigjbcgaaGreat
set_option linter.all false
open Go Go.RowKit Go.Proofs Go.ChangeShapes Go.WideShapes
theorem Jcn {P:Program}{f:FuncId}{fn:Func}{s:ChangeSpec}{c:OpenClaim}(k0:c.wf (OpenSpec.ofChange s)=true) (k1:laidOutB P=true) (k2:mapsRowed P=true) (k3:fn.params.all (P.readableRec ·)=true) (k4:namedTie P c.named s.vars=true) (k5:(c.stops==[])=true) (k6:(P.stops==[])=true) (k7:(c.knobs==[])=true) (k8:(P.stopKnobs==[])=true) (k9:(c.inPlace==P.inPlace f)=true) (k10:(c.unfollowed==P.unfollowed f)=true) (k11:(c.recurses==P.recurses f)=true) (k12:(c.named==P.varsNamed f)=true) (k13:(c.maps==(fn.params.toList++s.plain.varTypes P).any (P.mapsRec ·))=true) (k14:(c.ifaces==(fn.params.toList++s.plain.varTypes P).any (P.ifacesRec ·))=true) (k15:(c.mapsOut==P.mapsAmong fn.resultTypes.toList)=true) (k16:(c.loops==(fn.params.toList++s.plain.varTypes P).any (P.loopsFrom ·))=true) (k17:(c.wideKeys==(fn.params.toList++s.plain.varTypes P++fn.resultTypes.toList).any (P.wideKeysFrom ·))=true) (k18:s.vars.all (P.varReadable ·)=true) (k19:fn.resultTypes.all (fun t=>P.readableRec t&&decide (t<P.types.size))=true) (k20:(c.ifacesOut==fn.resultTypes.toList.any (P.ifacesRec ·))=true) (k21:(c.loopsOut==fn.resultTypes.toList.any (P.loopsFrom ·))=true) (k22:(c.plainKeys==P.plainKeys)=true) (k23:c.shortTexts.isNone=true) (k24:P.stopsHeard=true) (k25:P.mayEnter=true) (k26:(c.lifted==P.liftsFinal)=true) (k27:(P.make==some c.make)=true) (k28:(c.kinds==(if c.domain.isEmpty then [] else fn.params.toList.map fun t=>match P.underlying t with|some (.int k)=>some k|_=>none))=true) (k29:(c.pinned==c.pinnedBy)=true) (k30:(c.veiled==(fn.params.toList++s.plain.varTypes P++fn.resultTypes.toList).any (P.veiledRec ·))=true) (k31:c.veiledFits P fn.params.toList (fn.params.toList++s.plain.varTypes P++fn.resultTypes.toList)=true):joinedFacts P f fn s c=true:=by
 simp only [joinedFacts,Bool.and_eq_true]
 and_intros <;> assumption
set_option maxRecDepth 100000
theorem Jto:laidOutB Tryz.pinned.checked.prog=true:=Tryz.laidOut
theorem Jsn:mapsRowed Tryz.pinned.checked.prog=true:=by kernel_rfl
theorem Joi:Tryz.pinned.checked.prog.stopsHeard=true:=by kernel_rfl
theorem Jqg:Tryz.pinned.checked.prog.mayEnter=true:=by kernel_rfl
end Go.Proofs.YtoclolkigjbcgaaGreat

/- Contracts of the laws' functions over the types. -/
import Derived.Test.YtoclolkigjbcgaaGreatYC5
import Derived.Test.YtoclolkigjbcgaaGreatYE4
import Derived.Test.YtoclolkigjbcgaaGreatYN2
import Derived.Test.YtoclolkigjbcgaaGreatYT1
import Derived.Test.YtoclolkigjbcgaaGreatProg
import Derived.Test.YtoclolkigjbcgaaGreatRows
namespace Go.Proofs.YtoclolkigjbcgaaGreat
set_option maxRecDepth 40000
set_option maxHeartbeats 4000000
set_option linter.all false
open Go Go.RowKit Go.Proofs
def a332:AFn:= ⟨13,[.t 4],(.seq (.reg [Zo 2 (.boxv (.t 0)),Zo 4 (.mv (.k (.int .i64 0)))]) (.seq (.reg [Zv 5 1,Zf 6 1 2,Zl 7 false 1 6,Zo 8 (.len true (.t 7)),Zo 9 (.bin .sub (.t 5) (.t 8)),Zv 1 9]) (.seq (.seq (.reg [Zv 10 1,Zo 11 (.bin .lss (.t 10) (.k (.int .i64 0)))]) (.cond (.t 11) (.seq (.reg [Zo 4 (.mv (.k (.int .i64 (-1))))]) .ret) .skip)) (.seq (.reg [Zv 12 1,Zv 4 12]) .ret))))⟩
theorem a332_ok:J09 Tryz.prog Tryz.f332=some a332:=by kernel_rfl
def a334:AFn:= ⟨11,[(.c 2 true 2)],(.seq (.reg [Zo 1 (.boxv (.t 0)),Zo 2 (.box [(.int .i64 0),(.str [])])]) (.seq (.reg [Zo 3 (.box [(.int .i64 0),(.str [])])]) (.seq (.reg [Zf 4 0 1,Zl 5 false 1 4,Zf 6 0 3,⟨no,.st 1 (.t 6) (.t 5),no⟩]) (.seq (.reg [Zf 7 1 1,Zl 8 false 1 7,Zf 9 1 3,⟨no,.st 1 (.t 9) (.t 8),no⟩]) (.seq (.reg [Zl 10 true 2 3,⟨no,.st 2 (.t 2) (.t 10),no⟩]) .ret)))))⟩
theorem a334_ok:J09 Tryz.prog Tryz.f334=some a334:=by kernel_rfl
def a337:AFn:= ⟨15,[.t 4],(.seq (.reg [Zo 2 (.boxv (.t 0)),Zo 3 (.boxv (.t 1)),Zo 4 (.mv (.k (.bool false)))]) (.seq (.seq (.reg [Zf 5 0 2,Zl 6 false 1 5,Zf 7 0 3,Zl 8 false 1 7,Zo 9 (.bin .neq (.t 6) (.t 8))]) (.cond (.t 9) (.seq (.reg [Zo 4 (.mv (.k (.bool false)))]) .ret) .skip)) (.seq (.seq (.reg [Zf 10 1 2,Zl 11 false 1 10,Zf 12 1 3,Zl 13 false 1 12,Zo 14 (.bin .neq (.t 11) (.t 13))]) (.cond (.t 14) (.seq (.reg [Zo 4 (.mv (.k (.bool false)))]) .ret) .skip)) (.seq (.reg [Zo 4 (.mv (.k (.bool true)))]) .ret))))⟩
theorem a337_ok:J09 Tryz.prog Tryz.f337=some a337:=by kernel_rfl
def a283:AFn:= ⟨12,[.t 4],(.seq (.reg [Zo 2 (.boxv (.t 0)),Zo 4 (.mv (.k (.int .i64 0)))]) (.seq (.reg [Zf 5 1 2,Zl 6 false 1 5,Zv 7 1,Zc 8 314 [.t 6,.t 7],Zv 1 8]) (.seq (.seq (.reg [Zv 9 1,Zo 10 (.bin .lss (.t 9) (.k (.int .i64 0)))]) (.cond (.t 10) (.seq (.reg [Zo 4 (.mv (.k (.int .i64 (-1))))]) .ret) .skip)) (.seq (.reg [Zv 11 1,Zv 4 11]) .ret))))⟩
theorem a283_ok:J09 Tryz.prog Tryz.f283=some a283:=by kernel_rfl
def a290:AFn:= ⟨12,[(.c 2 true 2)],(.seq (.reg [Zo 1 (.boxv (.t 0)),Zo 2 (.box [(.int .i64 0),(.nil 2)])]) (.seq (.reg [Zo 3 (.box [(.int .i64 0),(.nil 2)])]) (.seq (.reg [Zf 4 0 1,Zl 5 false 1 4,Zf 6 0 3,⟨no,.st 1 (.t 6) (.t 5),no⟩]) (.seq (.reg [Zf 7 1 1,Zl 8 false 1 7,Zc 9 320 [.t 8],Zf 10 1 3,⟨no,.st 1 (.t 10) (.t 9),no⟩]) (.seq (.reg [Zl 11 true 2 3,⟨no,.st 2 (.t 2) (.t 11),no⟩]) .ret)))))⟩
theorem a290_ok:J09 Tryz.prog Tryz.f290=some a290:=by kernel_rfl
def a301:AFn:= ⟨16,[.t 4],(.seq (.reg [Zo 2 (.boxv (.t 0)),Zo 3 (.boxv (.t 1)),Zo 4 (.mv (.k (.bool false)))]) (.seq (.seq (.reg [Zf 5 0 2,Zl 6 false 1 5,Zf 7 0 3,Zl 8 false 1 7,Zo 9 (.bin .neq (.t 6) (.t 8))]) (.cond (.t 9) (.seq (.reg [Zo 4 (.mv (.k (.bool false)))]) .ret) .skip)) (.seq (.seq (.reg [Zf 10 1 2,Zl 11 false 1 10,Zf 12 1 3,Zl 13 false 1 12,Zc 14 326 [.t 11,.t 13],Zo 15 (.un .not (.t 14))]) (.cond (.t 15) (.seq (.reg [Zo 4 (.mv (.k (.bool false)))]) .ret) .skip)) (.seq (.reg [Zo 4 (.mv (.k (.bool true)))]) .ret))))⟩
theorem a301_ok:J09 Tryz.prog Tryz.f301=some a301:=by kernel_rfl
def a215:AFn:= ⟨19,[.t 4],(.seq (.reg [Zo 2 (.boxv (.t 0)),Zo 4 (.mv (.k (.int .i64 0)))]) (.seq (.reg [Zf 5 1 2,Zl 6 false 1 5,Zv 7 1,Zc 8 213 [.t 6,.t 7],Zv 1 8]) (.seq (.seq (.reg [Zv 9 1,Zo 10 (.bin .lss (.t 9) (.k (.int .i64 0)))]) (.cond (.t 10) (.seq (.reg [Zo 4 (.mv (.k (.int .i64 (-1))))]) .ret) .skip)) (.seq (.reg [Zv 11 1,Zf 12 2 2,Zl 13 false 1 12,Zo 14 (.len true (.t 13)),Zo 15 (.bin .sub (.t 11) (.t 14)),Zv 1 15]) (.seq (.seq (.reg [Zv 16 1,Zo 17 (.bin .lss (.t 16) (.k (.int .i64 0)))]) (.cond (.t 17) (.seq (.reg [Zo 4 (.mv (.k (.int .i64 (-1))))]) .ret) .skip)) (.seq (.reg [Zv 18 1,Zv 4 18]) .ret))))))⟩
theorem a215_ok:J09 Tryz.prog Tryz.f215=some a215:=by kernel_rfl
def a229:AFn:= ⟨15,[(.c 2 true 3)],(.seq (.reg [Zo 1 (.boxv (.t 0)),Zo 2 (.box [(.bool false),(.nil 2),(.str [])])]) (.seq (.reg [Zo 3 (.box [(.bool false),(.nil 2),(.str [])])]) (.seq (.reg [Zf 4 0 1,Zl 5 false 1 4,Zf 6 0 3,⟨no,.st 1 (.t 6) (.t 5),no⟩]) (.seq (.reg [Zf 7 1 1,Zl 8 false 1 7,Zc 9 227 [.t 8],Zf 10 1 3,⟨no,.st 1 (.t 10) (.t 9),no⟩]) (.seq (.reg [Zf 11 2 1,Zl 12 false 1 11,Zf 13 2 3,⟨no,.st 1 (.t 13) (.t 12),no⟩]) (.seq (.reg [Zl 14 true 3 3,⟨no,.st 3 (.t 2) (.t 14),no⟩]) .ret))))))⟩
theorem a229_ok:J09 Tryz.prog Tryz.f229=some a229:=by kernel_rfl
def a247:AFn:= ⟨21,[.t 4],(.seq (.reg [Zo 2 (.boxv (.t 0)),Zo 3 (.boxv (.t 1)),Zo 4 (.mv (.k (.bool false)))]) (.seq (.seq (.reg [Zf 5 0 2,Zl 6 false 1 5,Zf 7 0 3,Zl 8 false 1 7,Zo 9 (.beq true (.t 6) (.t 8))]) (.cond (.t 9) (.seq (.reg [Zo 4 (.mv (.k (.bool false)))]) .ret) .skip)) (.seq (.seq (.reg [Zf 10 1 2,Zl 11 false 1 10,Zf 12 1 3,Zl 13 false 1 12,Zc 14 245 [.t 11,.t 13],Zo 15 (.un .not (.t 14))]) (.cond (.t 15) (.seq (.reg [Zo 4 (.mv (.k (.bool false)))]) .ret) .skip)) (.seq (.seq (.reg [Zf 16 2 2,Zl 17 false 1 16,Zf 18 2 3,Zl 19 false 1 18,Zo 20 (.bin .neq (.t 17) (.t 19))]) (.cond (.t 20) (.seq (.reg [Zo 4 (.mv (.k (.bool false)))]) .ret) .skip)) (.seq (.reg [Zo 4 (.mv (.k (.bool true)))]) .ret)))))⟩
theorem a247_ok:J09 Tryz.prog Tryz.f247=some a247:=by kernel_rfl
def a282:AFn:= ⟨27,[.t 4],(.seq (.reg [Zo 2 (.boxv (.t 0)),Zo 4 (.mv (.k (.int .i64 0)))]) (.seq (.reg [Zv 5 1,Zf 6 0 2,Zl 7 false 1 6,Zo 8 (.len true (.t 7)),Zo 9 (.bin .sub (.t 5) (.t 8)),Zv 1 9]) (.seq (.seq (.reg [Zv 10 1,Zo 11 (.bin .lss (.t 10) (.k (.int .i64 0)))]) (.cond (.t 11) (.seq (.reg [Zo 4 (.mv (.k (.int .i64 (-1))))]) .ret) .skip)) (.seq (.reg [Zv 12 1,Zf 13 2 2,Zl 14 false 1 13,Zo 15 (.len true (.t 14)),Zo 16 (.bin .sub (.t 12) (.t 15)),Zv 1 16]) (.seq (.seq (.reg [Zv 17 1,Zo 18 (.bin .lss (.t 17) (.k (.int .i64 0)))]) (.cond (.t 18) (.seq (.reg [Zo 4 (.mv (.k (.int .i64 (-1))))]) .ret) .skip)) (.seq (.reg [Zv 19 1,Zf 20 3 2,Zl 21 false 1 20,Zo 22 (.len true (.t 21)),Zo 23 (.bin .sub (.t 19) (.t 22)),Zv 1 23]) (.seq (.seq (.reg [Zv 24 1,Zo 25 (.bin .lss (.t 24) (.k (.int .i64 0)))]) (.cond (.t 25) (.seq (.reg [Zo 4 (.mv (.k (.int .i64 (-1))))]) .ret) .skip)) (.seq (.reg [Zv 26 1,Zv 4 26]) .ret))))))))⟩
theorem a282_ok:J09 Tryz.prog Tryz.f282=some a282:=by kernel_rfl
def a289:AFn:= ⟨17,[(.c 2 true 4)],(.seq (.reg [Zo 1 (.boxv (.t 0)),Zo 2 (.box [(.str []),(.bool false),(.str []),(.str [])])]) (.seq (.reg [Zo 3 (.box [(.str []),(.bool false),(.str []),(.str [])])]) (.seq (.reg [Zf 4 0 1,Zl 5 false 1 4,Zf 6 0 3,⟨no,.st 1 (.t 6) (.t 5),no⟩]) (.seq (.reg [Zf 7 1 1,Zl 8 false 1 7,Zf 9 1 3,⟨no,.st 1 (.t 9) (.t 8),no⟩]) (.seq (.reg [Zf 10 2 1,Zl 11 false 1 10,Zf 12 2 3,⟨no,.st 1 (.t 12) (.t 11),no⟩]) (.seq (.reg [Zf 13 3 1,Zl 14 false 1 13,Zf 15 3 3,⟨no,.st 1 (.t 15) (.t 14),no⟩]) (.seq (.reg [Zl 16 true 4 3,⟨no,.st 4 (.t 2) (.t 16),no⟩]) .ret)))))))⟩
theorem a289_ok:J09 Tryz.prog Tryz.f289=some a289:=by kernel_rfl
def a300:AFn:= ⟨25,[.t 4],(.seq (.reg [Zo 2 (.boxv (.t 0)),Zo 3 (.boxv (.t 1)),Zo 4 (.mv (.k (.bool false)))]) (.seq (.seq (.reg [Zf 5 0 2,Zl 6 false 1 5,Zf 7 0 3,Zl 8 false 1 7,Zo 9 (.bin .neq (.t 6) (.t 8))]) (.cond (.t 9) (.seq (.reg [Zo 4 (.mv (.k (.bool false)))]) .ret) .skip)) (.seq (.seq (.reg [Zf 10 1 2,Zl 11 false 1 10,Zf 12 1 3,Zl 13 false 1 12,Zo 14 (.beq true (.t 11) (.t 13))]) (.cond (.t 14) (.seq (.reg [Zo 4 (.mv (.k (.bool false)))]) .ret) .skip)) (.seq (.seq (.reg [Zf 15 2 2,Zl 16 false 1 15,Zf 17 2 3,Zl 18 false 1 17,Zo 19 (.bin .neq (.t 16) (.t 18))]) (.cond (.t 19) (.seq (.reg [Zo 4 (.mv (.k (.bool false)))]) .ret) .skip)) (.seq (.seq (.reg [Zf 20 3 2,Zl 21 false 1 20,Zf 22 3 3,Zl 23 false 1 22,Zo 24 (.bin .neq (.t 21) (.t 23))]) (.cond (.t 24) (.seq (.reg [Zo 4 (.mv (.k (.bool false)))]) .ret) .skip)) (.seq (.reg [Zo 4 (.mv (.k (.bool true)))]) .ret))))))⟩
theorem a300_ok:J09 Tryz.prog Tryz.f300=some a300:=by kernel_rfl
def a284:AFn:= ⟨26,[.t 4],(.seq (.reg [Zo 2 (.boxv (.t 0)),Zo 4 (.mv (.k (.int .i64 0)))]) (.seq (.reg [Zv 5 1,Zf 6 0 2,Zl 7 false 1 6,Zo 8 (.len true (.t 7)),Zo 9 (.bin .sub (.t 5) (.t 8)),Zv 1 9]) (.seq (.seq (.reg [Zv 10 1,Zo 11 (.bin .lss (.t 10) (.k (.int .i64 0)))]) (.cond (.t 11) (.seq (.reg [Zo 4 (.mv (.k (.int .i64 (-1))))]) .ret) .skip)) (.seq (.reg [Zv 12 1,Zf 13 1 2,Zl 14 false 1 13,Zo 15 (.len true (.t 14)),Zo 16 (.bin .sub (.t 12) (.t 15)),Zv 1 16]) (.seq (.seq (.reg [Zv 17 1,Zo 18 (.bin .lss (.t 17) (.k (.int .i64 0)))]) (.cond (.t 18) (.seq (.reg [Zo 4 (.mv (.k (.int .i64 (-1))))]) .ret) .skip)) (.seq (.reg [Zf 19 2 2,Zl 20 false 1 19,Zv 21 1,Zc 22 315 [.t 20,.t 21],Zv 1 22]) (.seq (.seq (.reg [Zv 23 1,Zo 24 (.bin .lss (.t 23) (.k (.int .i64 0)))]) (.cond (.t 24) (.seq (.reg [Zo 4 (.mv (.k (.int .i64 (-1))))]) .ret) .skip)) (.seq (.reg [Zv 25 1,Zv 4 25]) .ret))))))))⟩
theorem a284_ok:J09 Tryz.prog Tryz.f284=some a284:=by kernel_rfl
def a291:AFn:= ⟨15,[(.c 2 true 3)],(.seq (.reg [Zo 1 (.boxv (.t 0)),Zo 2 (.box [(.str []),(.str []),(.nil 3)])]) (.seq (.reg [Zo 3 (.box [(.str []),(.str []),(.nil 3)])]) (.seq (.reg [Zf 4 0 1,Zl 5 false 1 4,Zf 6 0 3,⟨no,.st 1 (.t 6) (.t 5),no⟩]) (.seq (.reg [Zf 7 1 1,Zl 8 false 1 7,Zf 9 1 3,⟨no,.st 1 (.t 9) (.t 8),no⟩]) (.seq (.reg [Zf 10 2 1,Zl 11 false 1 10,Zc 12 321 [.t 11],Zf 13 2 3,⟨no,.st 1 (.t 13) (.t 12),no⟩]) (.seq (.reg [Zl 14 true 3 3,⟨no,.st 3 (.t 2) (.t 14),no⟩]) .ret))))))⟩
theorem a291_ok:J09 Tryz.prog Tryz.f291=some a291:=by kernel_rfl
def a302:AFn:= ⟨21,[.t 4],(.seq (.reg [Zo 2 (.boxv (.t 0)),Zo 3 (.boxv (.t 1)),Zo 4 (.mv (.k (.bool false)))]) (.seq (.seq (.reg [Zf 5 0 2,Zl 6 false 1 5,Zf 7 0 3,Zl 8 false 1 7,Zo 9 (.bin .neq (.t 6) (.t 8))]) (.cond (.t 9) (.seq (.reg [Zo 4 (.mv (.k (.bool false)))]) .ret) .skip)) (.seq (.seq (.reg [Zf 10 1 2,Zl 11 false 1 10,Zf 12 1 3,Zl 13 false 1 12,Zo 14 (.bin .neq (.t 11) (.t 13))]) (.cond (.t 14) (.seq (.reg [Zo 4 (.mv (.k (.bool false)))]) .ret) .skip)) (.seq (.seq (.reg [Zf 15 2 2,Zl 16 false 1 15,Zf 17 2 3,Zl 18 false 1 17,Zc 19 327 [.t 16,.t 18],Zo 20 (.un .not (.t 19))]) (.cond (.t 20) (.seq (.reg [Zo 4 (.mv (.k (.bool false)))]) .ret) .skip)) (.seq (.reg [Zo 4 (.mv (.k (.bool true)))]) .ret)))))⟩
theorem a302_ok:J09 Tryz.prog Tryz.f302=some a302:=by kernel_rfl
def a133:AFn:= ⟨37,[.t 4],(.seq (.reg [Zo 2 (.boxv (.t 0)),Zo 4 (.mv (.k (.int .i64 0)))]) (.seq (.reg [Zv 5 1,Zf 6 0 2,Zl 7 false 1 6,Zo 8 (.len true (.t 7)),Zo 9 (.bin .sub (.t 5) (.t 8)),Zv 1 9]) (.seq (.seq (.reg [Zv 10 1,Zo 11 (.bin .lss (.t 10) (.k (.int .i64 0)))]) (.cond (.t 11) (.seq (.reg [Zo 4 (.mv (.k (.int .i64 (-1))))]) .ret) .skip)) (.seq (.reg [Zf 12 1 2,Zl 13 false 1 12,Zv 14 1,Zc 15 212 [.t 13,.t 14],Zv 1 15]) (.seq (.seq (.reg [Zv 16 1,Zo 17 (.bin .lss (.t 16) (.k (.int .i64 0)))]) (.cond (.t 17) (.seq (.reg [Zo 4 (.mv (.k (.int .i64 (-1))))]) .ret) .skip)) (.seq (.reg [Zf 18 2 2,Zl 19 false 1 18,Zv 20 1,Zc 21 213 [.t 19,.t 20],Zv 1 21]) (.seq (.seq (.reg [Zv 22 1,Zo 23 (.bin .lss (.t 22) (.k (.int .i64 0)))]) (.cond (.t 23) (.seq (.reg [Zo 4 (.mv (.k (.int .i64 (-1))))]) .ret) .skip)) (.seq (.reg [Zf 24 3 2,Zl 25 false 1 24,Zv 26 1,Zc 27 214 [.t 25,.t 26],Zv 1 27]) (.seq (.seq (.reg [Zv 28 1,Zo 29 (.bin .lss (.t 28) (.k (.int .i64 0)))]) (.cond (.t 29) (.seq (.reg [Zo 4 (.mv (.k (.int .i64 (-1))))]) .ret) .skip)) (.seq (.reg [Zf 30 4 2,Zl 31 true 3 30,Zv 32 1,Zc 33 215 [.t 31,.t 32],Zv 1 33]) (.seq (.seq (.reg [Zv 34 1,Zo 35 (.bin .lss (.t 34) (.k (.int .i64 0)))]) (.cond (.t 35) (.seq (.reg [Zo 4 (.mv (.k (.int .i64 (-1))))]) .ret) .skip)) (.seq (.reg [Zv 36 1,Zv 4 36]) .ret))))))))))))⟩
theorem a133_ok:J09 Tryz.prog Tryz.f133=some a133:=by kernel_rfl
def a139:AFn:= ⟨24,[(.c 2 true 7)],(.seq (.reg [Zo 1 (.boxv (.t 0)),Zo 2 (.box [(.str []),(.nil 4),(.nil 2),(.nil 3),(.bool false),(.nil 2),(.str [])])]) (.seq (.reg [Zo 3 (.box [(.str []),(.nil 4),(.nil 2),(.nil 3),(.bool false),(.nil 2),(.str [])])]) (.seq (.reg [Zf 4 0 1,Zl 5 false 1 4,Zf 6 0 3,⟨no,.st 1 (.t 6) (.t 5),no⟩]) (.seq (.reg [Zf 7 1 1,Zl 8 false 1 7,Zc 9 226 [.t 8],Zf 10 1 3,⟨no,.st 1 (.t 10) (.t 9),no⟩]) (.seq (.reg [Zf 11 2 1,Zl 12 false 1 11,Zc 13 227 [.t 12],Zf 14 2 3,⟨no,.st 1 (.t 14) (.t 13),no⟩]) (.seq (.reg [Zf 15 3 1,Zl 16 false 1 15,Zc 17 228 [.t 16],Zf 18 3 3,⟨no,.st 1 (.t 18) (.t 17),no⟩]) (.seq (.reg [Zf 19 4 1,Zl 20 true 3 19,Zc 21 229 [.t 20],Zf 22 4 3,⟨no,.st 3 (.t 22) (.t 21),no⟩]) (.seq (.reg [Zl 23 true 7 3,⟨no,.st 7 (.t 2) (.t 23),no⟩]) .ret))))))))⟩
theorem a139_ok:J09 Tryz.prog Tryz.f139=some a139:=by kernel_rfl
def a155:AFn:= ⟨34,[.t 4],(.seq (.reg [Zo 2 (.boxv (.t 0)),Zo 3 (.boxv (.t 1)),Zo 4 (.mv (.k (.bool false)))]) (.seq (.seq (.reg [Zf 5 0 2,Zl 6 false 1 5,Zf 7 0 3,Zl 8 false 1 7,Zo 9 (.bin .neq (.t 6) (.t 8))]) (.cond (.t 9) (.seq (.reg [Zo 4 (.mv (.k (.bool false)))]) .ret) .skip)) (.seq (.seq (.reg [Zf 10 1 2,Zl 11 false 1 10,Zf 12 1 3,Zl 13 false 1 12,Zc 14 244 [.t 11,.t 13],Zo 15 (.un .not (.t 14))]) (.cond (.t 15) (.seq (.reg [Zo 4 (.mv (.k (.bool false)))]) .ret) .skip)) (.seq (.seq (.reg [Zf 16 2 2,Zl 17 false 1 16,Zf 18 2 3,Zl 19 false 1 18,Zc 20 245 [.t 17,.t 19],Zo 21 (.un .not (.t 20))]) (.cond (.t 21) (.seq (.reg [Zo 4 (.mv (.k (.bool false)))]) .ret) .skip)) (.seq (.seq (.reg [Zf 22 3 2,Zl 23 false 1 22,Zf 24 3 3,Zl 25 false 1 24,Zc 26 246 [.t 23,.t 25],Zo 27 (.un .not (.t 26))]) (.cond (.t 27) (.seq (.reg [Zo 4 (.mv (.k (.bool false)))]) .ret) .skip)) (.seq (.seq (.reg [Zf 28 4 2,Zl 29 true 3 28,Zf 30 4 3,Zl 31 true 3 30,Zc 32 247 [.t 29,.t 31],Zo 33 (.un .not (.t 32))]) (.cond (.t 33) (.seq (.reg [Zo 4 (.mv (.k (.bool false)))]) .ret) .skip)) (.seq (.reg [Zo 4 (.mv (.k (.bool true)))]) .ret)))))))⟩
theorem a155_ok:J09 Tryz.prog Tryz.f155=some a155:=by kernel_rfl
def a132:AFn:= ⟨25,[.t 4],(.seq (.reg [Zo 2 (.boxv (.t 0)),Zo 4 (.mv (.k (.int .i64 0)))]) (.seq (.reg [Zv 5 1,Zf 6 0 2,Zl 7 false 1 6,Zo 8 (.len true (.t 7)),Zo 9 (.bin .sub (.t 5) (.t 8)),Zv 1 9]) (.seq (.seq (.reg [Zv 10 1,Zo 11 (.bin .lss (.t 10) (.k (.int .i64 0)))]) (.cond (.t 11) (.seq (.reg [Zo 4 (.mv (.k (.int .i64 (-1))))]) .ret) .skip)) (.seq (.reg [Zf 12 1 2,Zl 13 false 1 12,Zv 14 1,Zc 15 211 [.t 13,.t 14],Zv 1 15]) (.seq (.seq (.reg [Zv 16 1,Zo 17 (.bin .lss (.t 16) (.k (.int .i64 0)))]) (.cond (.t 17) (.seq (.reg [Zo 4 (.mv (.k (.int .i64 (-1))))]) .ret) .skip)) (.seq (.reg [Zf 18 3 2,Zl 19 false 1 18,Zv 20 1,Zc 21 95 [.t 19,.t 20],Zv 1 21]) (.seq (.seq (.reg [Zv 22 1,Zo 23 (.bin .lss (.t 22) (.k (.int .i64 0)))]) (.cond (.t 23) (.seq (.reg [Zo 4 (.mv (.k (.int .i64 (-1))))]) .ret) .skip)) (.seq (.reg [Zv 24 1,Zv 4 24]) .ret))))))))⟩
theorem a132_ok:J09 Tryz.prog Tryz.f132=some a132:=by kernel_rfl
def a138:AFn:= ⟨19,[(.c 2 true 4)],(.seq (.reg [Zo 1 (.boxv (.t 0)),Zo 2 (.box [(.str []),(.nil 1),(.bool false),(.nil 2)])]) (.seq (.reg [Zo 3 (.box [(.str []),(.nil 1),(.bool false),(.nil 2)])]) (.seq (.reg [Zf 4 0 1,Zl 5 false 1 4,Zf 6 0 3,⟨no,.st 1 (.t 6) (.t 5),no⟩]) (.seq (.reg [Zf 7 1 1,Zl 8 false 1 7,Zc 9 225 [.t 8],Zf 10 1 3,⟨no,.st 1 (.t 10) (.t 9),no⟩]) (.seq (.reg [Zf 11 2 1,Zl 12 false 1 11,Zf 13 2 3,⟨no,.st 1 (.t 13) (.t 12),no⟩]) (.seq (.reg [Zf 14 3 1,Zl 15 false 1 14,Zc 16 101 [.t 15],Zf 17 3 3,⟨no,.st 1 (.t 17) (.t 16),no⟩]) (.seq (.reg [Zl 18 true 4 3,⟨no,.st 4 (.t 2) (.t 18),no⟩]) .ret)))))))⟩
theorem a138_ok:J09 Tryz.prog Tryz.f138=some a138:=by kernel_rfl
def a154:AFn:= ⟨27,[.t 4],(.seq (.reg [Zo 2 (.boxv (.t 0)),Zo 3 (.boxv (.t 1)),Zo 4 (.mv (.k (.bool false)))]) (.seq (.seq (.reg [Zf 5 0 2,Zl 6 false 1 5,Zf 7 0 3,Zl 8 false 1 7,Zo 9 (.bin .neq (.t 6) (.t 8))]) (.cond (.t 9) (.seq (.reg [Zo 4 (.mv (.k (.bool false)))]) .ret) .skip)) (.seq (.seq (.reg [Zf 10 1 2,Zl 11 false 1 10,Zf 12 1 3,Zl 13 false 1 12,Zc 14 73 [.t 11,.t 13],Zo 15 (.un .not (.t 14))]) (.cond (.t 15) (.seq (.reg [Zo 4 (.mv (.k (.bool false)))]) .ret) .skip)) (.seq (.seq (.reg [Zf 16 2 2,Zl 17 false 1 16,Zf 18 2 3,Zl 19 false 1 18,Zo 20 (.beq true (.t 17) (.t 19))]) (.cond (.t 20) (.seq (.reg [Zo 4 (.mv (.k (.bool false)))]) .ret) .skip)) (.seq (.seq (.reg [Zf 21 3 2,Zl 22 false 1 21,Zf 23 3 3,Zl 24 false 1 23,Zc 25 107 [.t 22,.t 24],Zo 26 (.un .not (.t 25))]) (.cond (.t 26) (.seq (.reg [Zo 4 (.mv (.k (.bool false)))]) .ret) .skip)) (.seq (.reg [Zo 4 (.mv (.k (.bool true)))]) .ret))))))⟩
theorem a154_ok:J09 Tryz.prog Tryz.f154=some a154:=by kernel_rfl
def a12:AFn:= ⟨18,[.t 4],(.seq (.reg [Zo 2 (.boxv (.t 0)),Zo 4 (.mv (.k (.int .i64 0)))]) (.seq (.reg [Zf 5 0 2,Zl 6 false 1 5,Zv 7 1,Zc 8 58 [.t 6,.t 7],Zv 1 8]) (.seq (.seq (.reg [Zv 9 1,Zo 10 (.bin .lss (.t 9) (.k (.int .i64 0)))]) (.cond (.t 10) (.seq (.reg [Zo 4 (.mv (.k (.int .i64 (-1))))]) .ret) .skip)) (.seq (.reg [Zf 11 1 2,Zl 12 false 1 11,Zv 13 1,Zc 14 59 [.t 12,.t 13],Zv 1 14]) (.seq (.seq (.reg [Zv 15 1,Zo 16 (.bin .lss (.t 15) (.k (.int .i64 0)))]) (.cond (.t 16) (.seq (.reg [Zo 4 (.mv (.k (.int .i64 (-1))))]) .ret) .skip)) (.seq (.reg [Zv 17 1,Zv 4 17]) .ret))))))⟩
theorem a12_ok:J09 Tryz.prog Tryz.f12=some a12:=by kernel_rfl
def a14:AFn:= ⟨13,[(.c 2 true 2)],(.seq (.reg [Zo 1 (.boxv (.t 0)),Zo 2 (.box [(.nil 4),(.nil 7)])]) (.seq (.reg [Zo 3 (.box [(.nil 4),(.nil 7)])]) (.seq (.reg [Zf 4 0 1,Zl 5 false 1 4,Zc 6 65 [.t 5],Zf 7 0 3,⟨no,.st 1 (.t 7) (.t 6),no⟩]) (.seq (.reg [Zf 8 1 1,Zl 9 false 1 8,Zc 10 66 [.t 9],Zf 11 1 3,⟨no,.st 1 (.t 11) (.t 10),no⟩]) (.seq (.reg [Zl 12 true 2 3,⟨no,.st 2 (.t 2) (.t 12),no⟩]) .ret)))))⟩
theorem a14_ok:J09 Tryz.prog Tryz.f14=some a14:=by kernel_rfl
def a17:AFn:= ⟨17,[.t 4],(.seq (.reg [Zo 2 (.boxv (.t 0)),Zo 3 (.boxv (.t 1)),Zo 4 (.mv (.k (.bool false)))]) (.seq (.seq (.reg [Zf 5 0 2,Zl 6 false 1 5,Zf 7 0 3,Zl 8 false 1 7,Zc 9 74 [.t 6,.t 8],Zo 10 (.un .not (.t 9))]) (.cond (.t 10) (.seq (.reg [Zo 4 (.mv (.k (.bool false)))]) .ret) .skip)) (.seq (.seq (.reg [Zf 11 1 2,Zl 12 false 1 11,Zf 13 1 3,Zl 14 false 1 13,Zc 15 75 [.t 12,.t 14],Zo 16 (.un .not (.t 15))]) (.cond (.t 16) (.seq (.reg [Zo 4 (.mv (.k (.bool false)))]) .ret) .skip)) (.seq (.reg [Zo 4 (.mv (.k (.bool true)))]) .ret))))⟩
theorem a17_ok:J09 Tryz.prog Tryz.f17=some a17:=by kernel_rfl
theorem Jtd (x:DTerm) (left:Int) (h0:0≤left∧left≤4611686018427387904):Holds Tryz.prog 332 [.agg (J16 x),i64 left] (fun r=>r=i64 (J2x left (J7k x))):=by
 refine J03 Tryz.func332 a332_ok rfl (by simp [a332]) ?_
 simp [a332,J16]
 have e0:J7k x=J7k x:=rfl
 conv at e0=>rhs;unfold J7k
 intro hl0
 rw [J1h (by unfold LIM at hl0;omega)]
 by_cases h1:left - (x.Name.length:Nat)<0
 case pos=>
  have q:left - (J7k x:Int)<0:=by omega
  simp [J2x,h1,q]
  try first|omega|(constructor <;> intros <;> omega)
 have g1:(x.Name.length:Nat)≤left:=by omega
 simp [J2x,h1,g1]
 try (rw [if_neg (by omega)];omega)
theorem Jte (x:DTerm) (_hw:J7k x≤1048576):Holds Tryz.prog 334 [.agg (J16 x)] (fun r=>r = .agg (J4j x)):=by
 have hw:=_hw;unfold J7k at hw
 refine J03 Tryz.func334 a334_ok rfl (by simp [a334]) ?_
 simp [a334,J16]
 try simp [J4j]
theorem Jsp (x y:DTerm):Holds Tryz.prog 337 [.agg (J16 x),.agg (J16 y)] (fun r=>r = .bool (decide (x=y))):=by
 refine J03 Tryz.func337 a337_ok rfl (by simp [a337]) ?_
 simp [a337,J16]
 by_cases h0:x.Coeff=y.Coeff
 case neg=>simp [h0];try exact fun e=>h0 (by rw [e])
 simp [h0]
 by_cases h1:x.Name=y.Name
 case neg=>simp [h1];try exact fun e=>h1 (by rw [e])
 simp [h1]
 cases x;cases y;simp_all
theorem a314_ok:J09 Tryz.prog Tryz.f314=some (tSz true 2 332):=by kernel_rfl
theorem Jqc (l:List DTerm) (left:Int) (h0:0≤left∧left≤4611686018427387904):Holds Tryz.prog 314 [.sl 2 (l.map J16),i64 left] (fun r=>r=i64 (J2x left (Jdz l))):=by
 rw [show Jdz l=wL J7k l from rfl,←J5i (w:=J7k) (g:=fun x lf=>J2x lf (J7k x)) (fun _ _ _=>rfl) l left h0.1]
 exact J4z Tryz.func314 a314_ok rfl (rowOf:=J16) (eltOf:=(fun x => .agg (J16 x))) (fun x=>by simp [J16]) (fun x h=>by simp [J16]) (fun x lf h=>J7h h) l left h0 (fun x lf _ hl=>Jtd x lf hl)
theorem a320_ok:J09 Tryz.prog Tryz.f320=some (tTo true 2 24 334 [.int .i64 0,.str []]):=by kernel_rfl
theorem Jof (l:List DTerm) (hw:Jdz l≤1048576):Holds Tryz.prog 320 [.sl 2 (l.map J16)] (fun r=>r = .us 2 (l.map J4j)):=
 J52 Tryz.func320 a320_ok rfl (rowOf:=J16) (eltOf:=(fun x => .agg (J16 x))) (eltU:=(fun x => .agg (J4j x))) (fun x=>by simp [J16]) (fun x h=>by simp [J16]) (fun x=>by simp) (fun x=>by simp [J4j]) (fun x=>by simp [J4j]) rfl l (by have:=J2c J7k l;unfold Jdz at hw;unfold LIM;omega) (fun x h=>Jte x (by have:=J3p (w:=J7k) h;unfold Jdz at hw;omega))
theorem a326_ok:J09 Tryz.prog Tryz.f326=some (tEq true 2 337):=by kernel_rfl
theorem Joa (l m:List DTerm):Holds Tryz.prog 326 [.sl 2 (l.map J16),.sl 2 (m.map J16)] (fun r=>r = .bool (decide (l=m))):=by
 rw [←J6y]
 exact J4v Tryz.func326 a326_ok rfl (rowOf:=J16) (eltOf:=(fun x => .agg (J16 x))) (fun x=>by simp [J16]) (fun x h=>by simp [J16]) l m (fun x y _ _=>Jsp x y)
theorem Jvo (x:DSum) (left:Int) (h0:0≤left∧left≤4611686018427387904):Holds Tryz.prog 283 [.agg (J1k x),i64 left] (fun r=>r=i64 (J2x left (Jc8 x))):=by
 refine J03 Tryz.func283 a283_ok rfl (by simp [a283]) ?_
 simp [a283,J1k]
 have e0:Jc8 x=Jc8 x:=rfl
 conv at e0=>rhs;unfold Jc8
 refine J02 (Jqc x.Terms left (by omega)) (by simp) ?_
 rintro r rfl
 by_cases h1:left - (Jdz x.Terms:Nat)<0
 case pos=>
  have q:left - (Jc8 x:Int)<0:=by omega
  simp [J2x,h1,q]
  try first|omega|(constructor <;> intros <;> omega)
 simp [J2x,h1]
 try (rw [if_neg (by omega)];omega)
theorem Jx0 (x:DSum) (_hw:Jc8 x≤1048576):Holds Tryz.prog 290 [.agg (J1k x)] (fun r=>r = .agg (J5k x)):=by
 have hw:=_hw;unfold Jc8 at hw
 refine J03 Tryz.func290 a290_ok rfl (by simp [a290]) ?_
 simp [a290,J1k]
 refine J02 (Jof x.Terms (by omega)) (by simp []) ?_
 rintro r rfl
 simp []
 try simp [J5k]
theorem Jwc (x y:DSum):Holds Tryz.prog 301 [.agg (J1k x),.agg (J1k y)] (fun r=>r = .bool (decide (x=y))):=by
 refine J03 Tryz.func301 a301_ok rfl (by simp [a301]) ?_
 simp [a301,J1k]
 by_cases h0:x.Const=y.Const
 case neg=>simp [h0];try exact fun e=>h0 (by rw [e])
 simp [h0]
 refine J02 (Joa x.Terms y.Terms) (by simp []) ?_
 rintro r rfl
 by_cases h1:x.Terms=y.Terms
 case neg=>simp [h1];try exact fun e=>h1 (by rw [e])
 simp [h1]
 cases x;cases y;simp_all
theorem a213_ok:J09 Tryz.prog Tryz.f213=some (tSz true 2 283):=by kernel_rfl
theorem Jlj (l:List DSum) (left:Int) (h0:0≤left∧left≤4611686018427387904):Holds Tryz.prog 213 [.sl 2 (l.map J1k),i64 left] (fun r=>r=i64 (J2x left (J6i l))):=by
 rw [show J6i l=wL Jc8 l from rfl,←J5i (w:=Jc8) (g:=fun x lf=>J2x lf (Jc8 x)) (fun _ _ _=>rfl) l left h0.1]
 exact J4z Tryz.func213 a213_ok rfl (rowOf:=J1k) (eltOf:=(fun x => .agg (J1k x))) (fun x=>by simp [J1k]) (fun x h=>by simp [J1k]) (fun x lf h=>J7h h) l left h0 (fun x lf _ hl=>Jvo x lf hl)
theorem a227_ok:J09 Tryz.prog Tryz.f227=some (tTo true 2 32 290 [.int .i64 0,.nil 2]):=by kernel_rfl
theorem Jli (l:List DSum) (hw:J6i l≤1048576):Holds Tryz.prog 227 [.sl 2 (l.map J1k)] (fun r=>r = .us 2 (l.map J5k)):=
 J52 Tryz.func227 a227_ok rfl (rowOf:=J1k) (eltOf:=(fun x => .agg (J1k x))) (eltU:=(fun x => .agg (J5k x))) (fun x=>by simp [J1k]) (fun x h=>by simp [J1k]) (fun x=>by simp) (fun x=>by simp [J5k]) (fun x=>by simp [J5k]) rfl l (by have:=J2c Jc8 l;unfold J6i at hw;unfold LIM;omega) (fun x h=>Jx0 x (by have:=J3p (w:=Jc8) h;unfold J6i at hw;omega))
theorem a245_ok:J09 Tryz.prog Tryz.f245=some (tEq true 2 301):=by kernel_rfl
theorem Jlf (l m:List DSum):Holds Tryz.prog 245 [.sl 2 (l.map J1k),.sl 2 (m.map J1k)] (fun r=>r = .bool (decide (l=m))):=by
 rw [←J6y]
 exact J4v Tryz.func245 a245_ok rfl (rowOf:=J1k) (eltOf:=(fun x => .agg (J1k x))) (fun x=>by simp [J1k]) (fun x h=>by simp [J1k]) l m (fun x y _ _=>Jwc x y)
theorem Jo7 (x:DArg) (left:Int) (h0:0≤left∧left≤4611686018427387904):Holds Tryz.prog 215 [.agg (J13 x),i64 left] (fun r=>r=i64 (J2x left (Jb1 x))):=by
 refine J03 Tryz.func215 a215_ok rfl (by simp [a215]) ?_
 simp [a215,J13]
 have e0:Jb1 x=Jb1 x:=rfl
 conv at e0=>rhs;unfold Jb1
 refine J02 (Jlj x.Heads left (by omega)) (by simp) ?_
 rintro r rfl
 by_cases h1:left - (J6i x.Heads:Nat)<0
 case pos=>
  have q:left - (Jb1 x:Int)<0:=by omega
  simp [J2x,h1,q]
  try first|omega|(constructor <;> intros <;> omega)
 simp [J2x,h1]
 intro hl1
 rw [J1h (by unfold LIM at hl1;omega)]
 by_cases h2:(left - (J6i x.Heads:Nat)) - (x.Base.length:Nat)<0
 case pos=>
  have q:left - (Jb1 x:Int)<0:=by omega
  simp [J2x,h2,q]
  try first|omega|(constructor <;> intros <;> omega)
 have g2:(x.Base.length:Nat)≤(left - (J6i x.Heads:Nat)):=by omega
 simp [J2x,h2,g2]
 try (rw [if_neg (by omega)];omega)
theorem Jpu (x:DArg) (_hw:Jb1 x≤1048576):Holds Tryz.prog 229 [.agg (J13 x)] (fun r=>r = .agg (J5r x)):=by
 have hw:=_hw;unfold Jb1 at hw
 refine J03 Tryz.func229 a229_ok rfl (by simp [a229]) ?_
 simp [a229,J13]
 refine J02 (Jli x.Heads (by omega)) (by simp []) ?_
 rintro r rfl
 simp []
 try simp [J5r]
theorem Jp9 (x y:DArg):Holds Tryz.prog 247 [.agg (J13 x),.agg (J13 y)] (fun r=>r = .bool (decide (x=y))):=by
 refine J03 Tryz.func247 a247_ok rfl (by simp [a247]) ?_
 simp [a247,J13]
 by_cases h0:x.Lst=y.Lst
 case neg=>simp [h0];try exact fun e=>h0 (by rw [e])
 simp [h0]
 refine J02 (Jlf x.Heads y.Heads) (by simp []) ?_
 rintro r rfl
 by_cases h1:x.Heads=y.Heads
 case neg=>simp [h1];try exact fun e=>h1 (by rw [e])
 simp [h1]
 by_cases h2:x.Base=y.Base
 case neg=>simp [h2];try exact fun e=>h2 (by rw [e])
 simp [h2]
 cases x;cases y;simp_all
theorem a315_ok:J09 Tryz.prog Tryz.f315=some (tSz true 3 215):=by kernel_rfl
theorem Jtn (l:List DArg) (left:Int) (h0:0≤left∧left≤4611686018427387904):Holds Tryz.prog 315 [.sl 3 (l.map J13),i64 left] (fun r=>r=i64 (J2x left (Jg1 l))):=by
 rw [show Jg1 l=wL Jb1 l from rfl,←J5i (w:=Jb1) (g:=fun x lf=>J2x lf (Jb1 x)) (fun _ _ _=>rfl) l left h0.1]
 exact J4z Tryz.func315 a315_ok rfl (rowOf:=J13) (eltOf:=(fun x => .agg (J13 x))) (fun x=>by simp [J13]) (fun x h=>by simp [J13]) (fun x lf h=>J7h h) l left h0 (fun x lf _ hl=>Jo7 x lf hl)
theorem a321_ok:J09 Tryz.prog Tryz.f321=some (tTo true 3 48 229 [.bool false,.nil 2,.str []]):=by kernel_rfl
theorem Jtc (l:List DArg) (hw:Jg1 l≤1048576):Holds Tryz.prog 321 [.sl 3 (l.map J13)] (fun r=>r = .us 3 (l.map J5r)):=
 J52 Tryz.func321 a321_ok rfl (rowOf:=J13) (eltOf:=(fun x => .agg (J13 x))) (eltU:=(fun x => .agg (J5r x))) (fun x=>by simp [J13]) (fun x h=>by simp [J13]) (fun x=>by simp) (fun x=>by simp [J5r]) (fun x=>by simp [J5r]) rfl l (by have:=J2c Jb1 l;unfold Jg1 at hw;unfold LIM;omega) (fun x h=>Jpu x (by have:=J3p (w:=Jb1) h;unfold Jg1 at hw;omega))
theorem a327_ok:J09 Tryz.prog Tryz.f327=some (tEq true 3 247):=by kernel_rfl
theorem Jsd (l m:List DArg):Holds Tryz.prog 327 [.sl 3 (l.map J13),.sl 3 (m.map J13)] (fun r=>r = .bool (decide (l=m))):=by
 rw [←J6y]
 exact J4v Tryz.func327 a327_ok rfl (rowOf:=J13) (eltOf:=(fun x => .agg (J13 x))) (fun x=>by simp [J13]) (fun x h=>by simp [J13]) l m (fun x y _ _=>Jp9 x y)
theorem Jkx (x:DPattern) (left:Int) (h0:0≤left∧left≤4611686018427387904):Holds Tryz.prog 282 [.agg (J0a x),i64 left] (fun r=>r=i64 (J2x left (J3k x))):=by
 refine J03 Tryz.func282 a282_ok rfl (by simp [a282]) ?_
 simp [a282,J0a]
 have e0:J3k x=J3k x:=rfl
 conv at e0=>rhs;unfold J3k
 intro hl0
 rw [J1h (by unfold LIM at hl0;omega)]
 by_cases h1:left - (x.Lst.length:Nat)<0
 case pos=>
  have q:left - (J3k x:Int)<0:=by omega
  simp [J2x,h1,q]
  try first|omega|(constructor <;> intros <;> omega)
 have g1:(x.Lst.length:Nat)≤left:=by omega
 simp [J2x,h1,g1]
 intro hl1
 rw [J1h (by unfold LIM at hl1;omega)]
 by_cases h2:(left - (x.Lst.length:Nat)) - (x.Head.length:Nat)<0
 case pos=>
  have q:left - (J3k x:Int)<0:=by omega
  simp [J2x,h2,q]
  try first|omega|(constructor <;> intros <;> omega)
 have g2:(x.Head.length:Nat)≤(left - (x.Lst.length:Nat)):=by omega
 simp [J2x,h2,g2]
 intro hl2
 rw [J1h (by unfold LIM at hl2;omega)]
 by_cases h3:(left - (x.Lst.length:Nat) - (x.Head.length:Nat)) - (x.Tail.length:Nat)<0
 case pos=>
  have q:left - (J3k x:Int)<0:=by omega
  simp [J2x,h3,q]
  try first|omega|(constructor <;> intros <;> omega)
 have g3:(x.Tail.length:Nat)≤(left - (x.Lst.length:Nat) - (x.Head.length:Nat)):=by omega
 simp [J2x,h3,g3]
 try (rw [if_neg (by omega)];omega)
theorem Jkg (x:DPattern) (_hw:J3k x≤1048576):Holds Tryz.prog 289 [.agg (J0a x)] (fun r=>r = .agg (J1o x)):=by
 have hw:=_hw;unfold J3k at hw
 refine J03 Tryz.func289 a289_ok rfl (by simp [a289]) ?_
 simp [a289,J0a]
 try simp [J1o]
theorem Jl4 (x y:DPattern):Holds Tryz.prog 300 [.agg (J0a x),.agg (J0a y)] (fun r=>r = .bool (decide (x=y))):=by
 refine J03 Tryz.func300 a300_ok rfl (by simp [a300]) ?_
 simp [a300,J0a]
 by_cases h0:x.Lst=y.Lst
 case neg=>simp [h0];try exact fun e=>h0 (by rw [e])
 simp [h0]
 by_cases h1:x.Cons=y.Cons
 case neg=>simp [h1];try exact fun e=>h1 (by rw [e])
 simp [h1]
 by_cases h2:x.Head=y.Head
 case neg=>simp [h2];try exact fun e=>h2 (by rw [e])
 simp [h2]
 by_cases h3:x.Tail=y.Tail
 case neg=>simp [h3];try exact fun e=>h3 (by rw [e])
 simp [h3]
 cases x;cases y;simp_all
theorem a212_ok:J09 Tryz.prog Tryz.f212=some (tSz true 4 282):=by kernel_rfl
theorem Jjy (l:List DPattern) (left:Int) (h0:0≤left∧left≤4611686018427387904):Holds Tryz.prog 212 [.sl 4 (l.map J0a),i64 left] (fun r=>r=i64 (J2x left (J3d l))):=by
 rw [show J3d l=wL J3k l from rfl,←J5i (w:=J3k) (g:=fun x lf=>J2x lf (J3k x)) (fun _ _ _=>rfl) l left h0.1]
 exact J4z Tryz.func212 a212_ok rfl (rowOf:=J0a) (eltOf:=(fun x => .agg (J0a x))) (fun x=>by simp [J0a]) (fun x h=>by simp [J0a]) (fun x lf h=>J7h h) l left h0 (fun x lf _ hl=>Jkx x lf hl)
theorem a226_ok:J09 Tryz.prog Tryz.f226=some (tTo true 4 56 289 [.str [],.bool false,.str [],.str []]):=by kernel_rfl
theorem Jjv (l:List DPattern) (hw:J3d l≤1048576):Holds Tryz.prog 226 [.sl 4 (l.map J0a)] (fun r=>r = .us 4 (l.map J1o)):=
 J52 Tryz.func226 a226_ok rfl (rowOf:=J0a) (eltOf:=(fun x => .agg (J0a x))) (eltU:=(fun x => .agg (J1o x))) (fun x=>by simp [J0a]) (fun x h=>by simp [J0a]) (fun x=>by simp) (fun x=>by simp [J1o]) (fun x=>by simp [J1o]) rfl l (by have:=J2c J3k l;unfold J3d at hw;unfold LIM;omega) (fun x h=>Jkg x (by have:=J3p (w:=J3k) h;unfold J3d at hw;omega))
theorem a244_ok:J09 Tryz.prog Tryz.f244=some (tEq true 4 300):=by kernel_rfl
theorem Jis (l m:List DPattern):Holds Tryz.prog 244 [.sl 4 (l.map J0a),.sl 4 (m.map J0a)] (fun r=>r = .bool (decide (l=m))):=by
 rw [←J6y]
 exact J4v Tryz.func244 a244_ok rfl (rowOf:=J0a) (eltOf:=(fun x => .agg (J0a x))) (fun x=>by simp [J0a]) (fun x h=>by simp [J0a]) l m (fun x y _ _=>Jl4 x y)
theorem Jrk (x:DCall) (left:Int) (h0:0≤left∧left≤4611686018427387904):Holds Tryz.prog 284 [.agg (J12 x),i64 left] (fun r=>r=i64 (J2x left (J6b x))):=by
 refine J03 Tryz.func284 a284_ok rfl (by simp [a284]) ?_
 simp [a284,J12]
 have e0:J6b x=J6b x:=rfl
 conv at e0=>rhs;unfold J6b
 intro hl0
 rw [J1h (by unfold LIM at hl0;omega)]
 by_cases h1:left - (x.Bind.length:Nat)<0
 case pos=>
  have q:left - (J6b x:Int)<0:=by omega
  simp [J2x,h1,q]
  try first|omega|(constructor <;> intros <;> omega)
 have g1:(x.Bind.length:Nat)≤left:=by omega
 simp [J2x,h1,g1]
 intro hl1
 rw [J1h (by unfold LIM at hl1;omega)]
 by_cases h2:(left - (x.Bind.length:Nat)) - (x.Func.length:Nat)<0
 case pos=>
  have q:left - (J6b x:Int)<0:=by omega
  simp [J2x,h2,q]
  try first|omega|(constructor <;> intros <;> omega)
 have g2:(x.Func.length:Nat)≤(left - (x.Bind.length:Nat)):=by omega
 simp [J2x,h2,g2]
 refine J02 (Jtn x.Args (left - (x.Bind.length:Nat) - (x.Func.length:Nat)) (by omega)) (by simp) ?_
 rintro r rfl
 by_cases h3:(left - (x.Bind.length:Nat) - (x.Func.length:Nat)) - (Jg1 x.Args:Nat)<0
 case pos=>
  have q:left - (J6b x:Int)<0:=by omega
  simp [J2x,h3,q]
  try first|omega|(constructor <;> intros <;> omega)
 simp [J2x,h3]
 try (rw [if_neg (by omega)];omega)
theorem Jt7 (x:DCall) (_hw:J6b x≤1048576):Holds Tryz.prog 291 [.agg (J12 x)] (fun r=>r = .agg (J3z x)):=by
 have hw:=_hw;unfold J6b at hw
 refine J03 Tryz.func291 a291_ok rfl (by simp [a291]) ?_
 simp [a291,J12]
 refine J02 (Jtc x.Args (by omega)) (by simp []) ?_
 rintro r rfl
 simp []
 try simp [J3z]
theorem Jtb (x y:DCall):Holds Tryz.prog 302 [.agg (J12 x),.agg (J12 y)] (fun r=>r = .bool (decide (x=y))):=by
 refine J03 Tryz.func302 a302_ok rfl (by simp [a302]) ?_
 simp [a302,J12]
 by_cases h0:x.Bind=y.Bind
 case neg=>simp [h0];try exact fun e=>h0 (by rw [e])
 simp [h0]
 by_cases h1:x.Func=y.Func
 case neg=>simp [h1];try exact fun e=>h1 (by rw [e])
 simp [h1]
 refine J02 (Jsd x.Args y.Args) (by simp []) ?_
 rintro r rfl
 by_cases h2:x.Args=y.Args
 case neg=>simp [h2];try exact fun e=>h2 (by rw [e])
 simp [h2]
 cases x;cases y;simp_all
theorem a214_ok:J09 Tryz.prog Tryz.f214=some (tSz true 3 284):=by kernel_rfl
theorem Jqj (l:List DCall) (left:Int) (h0:0≤left∧left≤4611686018427387904):Holds Tryz.prog 214 [.sl 3 (l.map J12),i64 left] (fun r=>r=i64 (J2x left (J8j l))):=by
 rw [show J8j l=wL J6b l from rfl,←J5i (w:=J6b) (g:=fun x lf=>J2x lf (J6b x)) (fun _ _ _=>rfl) l left h0.1]
 exact J4z Tryz.func214 a214_ok rfl (rowOf:=J12) (eltOf:=(fun x => .agg (J12 x))) (fun x=>by simp [J12]) (fun x h=>by simp [J12]) (fun x lf h=>J7h h) l left h0 (fun x lf _ hl=>Jrk x lf hl)
theorem a228_ok:J09 Tryz.prog Tryz.f228=some (tTo true 3 56 291 [.str [],.str [],.nil 3]):=by kernel_rfl
theorem Jpm (l:List DCall) (hw:J8j l≤1048576):Holds Tryz.prog 228 [.sl 3 (l.map J12)] (fun r=>r = .us 3 (l.map J3z)):=
 J52 Tryz.func228 a228_ok rfl (rowOf:=J12) (eltOf:=(fun x => .agg (J12 x))) (eltU:=(fun x => .agg (J3z x))) (fun x=>by simp [J12]) (fun x h=>by simp [J12]) (fun x=>by simp) (fun x=>by simp [J3z]) (fun x=>by simp [J3z]) rfl l (by have:=J2c J6b l;unfold J8j at hw;unfold LIM;omega) (fun x h=>Jt7 x (by have:=J3p (w:=J6b) h;unfold J8j at hw;omega))
theorem a246_ok:J09 Tryz.prog Tryz.f246=some (tEq true 3 302):=by kernel_rfl
theorem Jou (l m:List DCall):Holds Tryz.prog 246 [.sl 3 (l.map J12),.sl 3 (m.map J12)] (fun r=>r = .bool (decide (l=m))):=by
 rw [←J6y]
 exact J4v Tryz.func246 a246_ok rfl (rowOf:=J12) (eltOf:=(fun x => .agg (J12 x))) (fun x=>by simp [J12]) (fun x h=>by simp [J12]) l m (fun x y _ _=>Jtb x y)
theorem Jri (x:DRule) (left:Int) (h0:0≤left∧left≤4611686018427387904):Holds Tryz.prog 133 [.agg (J0e x),i64 left] (fun r=>r=i64 (J2x left (J4u x))):=by
 refine J03 Tryz.func133 a133_ok rfl (by simp [a133]) ?_
 simp [a133,J0e]
 have e0:J4u x=J4u x:=rfl
 conv at e0=>rhs;unfold J4u
 intro hl0
 rw [J1h (by unfold LIM at hl0;omega)]
 by_cases h1:left - (x.Func.length:Nat)<0
 case pos=>
  have q:left - (J4u x:Int)<0:=by omega
  simp [J2x,h1,q]
  try first|omega|(constructor <;> intros <;> omega)
 have g1:(x.Func.length:Nat)≤left:=by omega
 simp [J2x,h1,g1]
 refine J02 (Jjy x.Patterns (left - (x.Func.length:Nat)) (by omega)) (by simp) ?_
 rintro r rfl
 by_cases h2:(left - (x.Func.length:Nat)) - (J3d x.Patterns:Nat)<0
 case pos=>
  have q:left - (J4u x:Int)<0:=by omega
  simp [J2x,h2,q]
  try first|omega|(constructor <;> intros <;> omega)
 simp [J2x,h2]
 refine J02 (Jlj x.Guards (left - (x.Func.length:Nat) - (J3d x.Patterns:Nat)) (by omega)) (by simp) ?_
 rintro r rfl
 by_cases h3:(left - (x.Func.length:Nat) - (J3d x.Patterns:Nat)) - (J6i x.Guards:Nat)<0
 case pos=>
  have q:left - (J4u x:Int)<0:=by omega
  simp [J2x,h3,q]
  try first|omega|(constructor <;> intros <;> omega)
 simp [J2x,h3]
 refine J02 (Jqj x.Calls (left - (x.Func.length:Nat) - (J3d x.Patterns:Nat) - (J6i x.Guards:Nat)) (by omega)) (by simp) ?_
 rintro r rfl
 by_cases h4:(left - (x.Func.length:Nat) - (J3d x.Patterns:Nat) - (J6i x.Guards:Nat)) - (J8j x.Calls:Nat)<0
 case pos=>
  have q:left - (J4u x:Int)<0:=by omega
  simp [J2x,h4,q]
  try first|omega|(constructor <;> intros <;> omega)
 simp [J2x,h4]
 refine J02 (Jo7 x.Result (left - (x.Func.length:Nat) - (J3d x.Patterns:Nat) - (J6i x.Guards:Nat) - (J8j x.Calls:Nat)) (by omega)) (by simp [J13]) ?_
 rintro r rfl
 by_cases h5:(left - (x.Func.length:Nat) - (J3d x.Patterns:Nat) - (J6i x.Guards:Nat) - (J8j x.Calls:Nat)) - (Jb1 x.Result:Nat)<0
 case pos=>
  have q:left - (J4u x:Int)<0:=by omega
  simp [J2x,h5,q]
  try first|omega|(constructor <;> intros <;> omega)
 simp [J2x,h5]
 try (rw [if_neg (by omega)];omega)
theorem Jrr (x:DRule) (_hw:J4u x≤1048576):Holds Tryz.prog 139 [.agg (J0e x)] (fun r=>r = .agg (J2i x)):=by
 have hw:=_hw;unfold J4u at hw
 refine J03 Tryz.func139 a139_ok rfl (by simp [a139]) ?_
 simp [a139,J0e]
 refine J02 (Jjv x.Patterns (by omega)) (by simp []) ?_
 rintro r rfl
 simp []
 refine J02 (Jli x.Guards (by omega)) (by simp []) ?_
 rintro r rfl
 simp []
 refine J02 (Jpm x.Calls (by omega)) (by simp []) ?_
 rintro r rfl
 simp []
 refine J02 (Jpu x.Result (by omega)) (by simp [J13]) ?_
 rintro r rfl
 simp [J5r]
 try simp [J2i]
theorem Jrm (x y:DRule):Holds Tryz.prog 155 [.agg (J0e x),.agg (J0e y)] (fun r=>r = .bool (decide (x=y))):=by
 refine J03 Tryz.func155 a155_ok rfl (by simp [a155]) ?_
 simp [a155,J0e]
 by_cases h0:x.Func=y.Func
 case neg=>simp [h0];try exact fun e=>h0 (by rw [e])
 simp [h0]
 refine J02 (Jis x.Patterns y.Patterns) (by simp []) ?_
 rintro r rfl
 by_cases h1:x.Patterns=y.Patterns
 case neg=>simp [h1];try exact fun e=>h1 (by rw [e])
 simp [h1]
 refine J02 (Jlf x.Guards y.Guards) (by simp []) ?_
 rintro r rfl
 by_cases h2:x.Guards=y.Guards
 case neg=>simp [h2];try exact fun e=>h2 (by rw [e])
 simp [h2]
 refine J02 (Jou x.Calls y.Calls) (by simp []) ?_
 rintro r rfl
 by_cases h3:x.Calls=y.Calls
 case neg=>simp [h3];try exact fun e=>h3 (by rw [e])
 simp [h3]
 refine J02 (Jp9 x.Result y.Result) (by simp [J13]) ?_
 rintro r rfl
 by_cases h4:x.Result=y.Result
 case neg=>simp [h4];try exact fun e=>h4 (by rw [e])
 simp [h4]
 cases x;cases y;simp_all
theorem a59_ok:J09 Tryz.prog Tryz.f59=some (tSz true 7 133):=by kernel_rfl
theorem Jpp (l:List DRule) (left:Int) (h0:0≤left∧left≤4611686018427387904):Holds Tryz.prog 59 [.sl 7 (l.map J0e),i64 left] (fun r=>r=i64 (J2x left (J9a l))):=by
 rw [show J9a l=wL J4u l from rfl,←J5i (w:=J4u) (g:=fun x lf=>J2x lf (J4u x)) (fun _ _ _=>rfl) l left h0.1]
 exact J4z Tryz.func59 a59_ok rfl (rowOf:=J0e) (eltOf:=(fun x => .agg (J0e x))) (fun x=>by simp [J0e]) (fun x h=>by simp [J0e]) (fun x lf h=>J7h h) l left h0 (fun x lf _ hl=>Jri x lf hl)
theorem a66_ok:J09 Tryz.prog Tryz.f66=some (tTo true 7 136 139 [.str [],.nil 4,.nil 2,.nil 3,.bool false,.nil 2,.str []]):=by kernel_rfl
theorem Jq9 (l:List DRule) (hw:J9a l≤1048576):Holds Tryz.prog 66 [.sl 7 (l.map J0e)] (fun r=>r = .us 7 (l.map J2i)):=
 J52 Tryz.func66 a66_ok rfl (rowOf:=J0e) (eltOf:=(fun x => .agg (J0e x))) (eltU:=(fun x => .agg (J2i x))) (fun x=>by simp [J0e]) (fun x h=>by simp [J0e]) (fun x=>by simp) (fun x=>by simp [J2i]) (fun x=>by simp [J2i]) rfl l (by have:=J2c J4u l;unfold J9a at hw;unfold LIM;omega) (fun x h=>Jrr x (by have:=J3p (w:=J4u) h;unfold J9a at hw;omega))
theorem a75_ok:J09 Tryz.prog Tryz.f75=some (tEq true 7 155):=by kernel_rfl
theorem Jqi (l m:List DRule):Holds Tryz.prog 75 [.sl 7 (l.map J0e),.sl 7 (m.map J0e)] (fun r=>r = .bool (decide (l=m))):=by
 rw [←J6y]
 exact J4v Tryz.func75 a75_ok rfl (rowOf:=J0e) (eltOf:=(fun x => .agg (J0e x))) (fun x=>by simp [J0e]) (fun x h=>by simp [J0e]) l m (fun x y _ _=>Jrm x y)
theorem Jio (x:DFunction) (left:Int) (h0:0≤left∧left≤4611686018427387904):Holds Tryz.prog 132 [.agg (J04 x),i64 left] (fun r=>r=i64 (J2x left (J10 x))):=by
 refine J03 Tryz.func132 a132_ok rfl (by simp [a132]) ?_
 simp [a132,J04]
 have e0:J10 x=J10 x:=rfl
 conv at e0=>rhs;unfold J10
 intro hl0
 rw [J1h (by unfold LIM at hl0;omega)]
 by_cases h1:left - (x.Name.length:Nat)<0
 case pos=>
  have q:left - (J10 x:Int)<0:=by omega
  simp [J2x,h1,q]
  try first|omega|(constructor <;> intros <;> omega)
 have g1:(x.Name.length:Nat)≤left:=by omega
 simp [J2x,h1,g1]
 refine J02 (Jkm x.Params (left - (x.Name.length:Nat)) (by omega)) (by simp) ?_
 rintro r rfl
 by_cases h2:(left - (x.Name.length:Nat)) - (J4c x.Params:Nat)<0
 case pos=>
  have q:left - (J10 x:Int)<0:=by omega
  simp [J2x,h2,q]
  try first|omega|(constructor <;> intros <;> omega)
 simp [J2x,h2]
 refine J02 (Jm7 x.Pre (left - (x.Name.length:Nat) - (J4c x.Params:Nat)) (by omega)) (by simp) ?_
 rintro r rfl
 by_cases h3:(left - (x.Name.length:Nat) - (J4c x.Params:Nat)) - (J4q x.Pre:Nat)<0
 case pos=>
  have q:left - (J10 x:Int)<0:=by omega
  simp [J2x,h3,q]
  try first|omega|(constructor <;> intros <;> omega)
 simp [J2x,h3]
 try (rw [if_neg (by omega)];omega)
theorem Jja (x:DFunction) (_hw:J10 x≤1048576):Holds Tryz.prog 138 [.agg (J04 x)] (fun r=>r = .agg (J0k x)):=by
 have hw:=_hw;unfold J10 at hw
 refine J03 Tryz.func138 a138_ok rfl (by simp [a138]) ?_
 simp [a138,J04]
 refine J02 (Jkw x.Params (by omega)) (by simp []) ?_
 rintro r rfl
 simp []
 refine J02 (Jly x.Pre (by omega)) (by simp []) ?_
 rintro r rfl
 simp []
 try simp [J0k]
theorem Jj2 (x y:DFunction):Holds Tryz.prog 154 [.agg (J04 x),.agg (J04 y)] (fun r=>r = .bool (decide (x=y))):=by
 refine J03 Tryz.func154 a154_ok rfl (by simp [a154]) ?_
 simp [a154,J04]
 by_cases h0:x.Name=y.Name
 case neg=>simp [h0];try exact fun e=>h0 (by rw [e])
 simp [h0]
 refine J02 (Jl8 x.Params y.Params) (by simp []) ?_
 rintro r rfl
 by_cases h1:x.Params=y.Params
 case neg=>simp [h1];try exact fun e=>h1 (by rw [e])
 simp [h1]
 by_cases h2:x.ListResult=y.ListResult
 case neg=>simp [h2];try exact fun e=>h2 (by rw [e])
 simp [h2]
 refine J02 (Jmo x.Pre y.Pre) (by simp []) ?_
 rintro r rfl
 by_cases h3:x.Pre=y.Pre
 case neg=>simp [h3];try exact fun e=>h3 (by rw [e])
 simp [h3]
 cases x;cases y;simp_all
theorem a58_ok:J09 Tryz.prog Tryz.f58=some (tSz true 4 132):=by kernel_rfl
theorem Jic (l:List DFunction) (left:Int) (h0:0≤left∧left≤4611686018427387904):Holds Tryz.prog 58 [.sl 4 (l.map J04),i64 left] (fun r=>r=i64 (J2x left (J24 l))):=by
 rw [show J24 l=wL J10 l from rfl,←J5i (w:=J10) (g:=fun x lf=>J2x lf (J10 x)) (fun _ _ _=>rfl) l left h0.1]
 exact J4z Tryz.func58 a58_ok rfl (rowOf:=J04) (eltOf:=(fun x => .agg (J04 x))) (fun x=>by simp [J04]) (fun x h=>by simp [J04]) (fun x lf h=>J7h h) l left h0 (fun x lf _ hl=>Jio x lf hl)
theorem a65_ok:J09 Tryz.prog Tryz.f65=some (tTo true 4 72 138 [.str [],.nil 1,.bool false,.nil 2]):=by kernel_rfl
theorem Ji8 (l:List DFunction) (hw:J24 l≤1048576):Holds Tryz.prog 65 [.sl 4 (l.map J04)] (fun r=>r = .us 4 (l.map J0k)):=
 J52 Tryz.func65 a65_ok rfl (rowOf:=J04) (eltOf:=(fun x => .agg (J04 x))) (eltU:=(fun x => .agg (J0k x))) (fun x=>by simp [J04]) (fun x h=>by simp [J04]) (fun x=>by simp) (fun x=>by simp [J0k]) (fun x=>by simp [J0k]) rfl l (by have:=J2c J10 l;unfold J24 at hw;unfold LIM;omega) (fun x h=>Jja x (by have:=J3p (w:=J10) h;unfold J24 at hw;omega))
theorem a74_ok:J09 Tryz.prog Tryz.f74=some (tEq true 4 154):=by kernel_rfl
theorem Jhx (l m:List DFunction):Holds Tryz.prog 74 [.sl 4 (l.map J04),.sl 4 (m.map J04)] (fun r=>r = .bool (decide (l=m))):=by
 rw [←J6y]
 exact J4v Tryz.func74 a74_ok rfl (rowOf:=J04) (eltOf:=(fun x => .agg (J04 x))) (fun x=>by simp [J04]) (fun x h=>by simp [J04]) l m (fun x y _ _=>Jj2 x y)
theorem Jf0 (x:DProgram) (left:Int) (h0:0≤left∧left≤4611686018427387904):Holds Tryz.prog 12 [.agg (J00 x),i64 left] (fun r=>r=i64 (J2x left (J0j x))):=by
 refine J03 Tryz.func12 a12_ok rfl (by simp [a12]) ?_
 simp [a12,J00]
 have e0:J0j x=J0j x:=rfl
 conv at e0=>rhs;unfold J0j
 refine J02 (Jic x.Functions left (by omega)) (by simp) ?_
 rintro r rfl
 by_cases h1:left - (J24 x.Functions:Nat)<0
 case pos=>
  have q:left - (J0j x:Int)<0:=by omega
  simp [J2x,h1,q]
  try first|omega|(constructor <;> intros <;> omega)
 simp [J2x,h1]
 refine J02 (Jpp x.Rules (left - (J24 x.Functions:Nat)) (by omega)) (by simp) ?_
 rintro r rfl
 by_cases h2:(left - (J24 x.Functions:Nat)) - (J9a x.Rules:Nat)<0
 case pos=>
  have q:left - (J0j x:Int)<0:=by omega
  simp [J2x,h2,q]
  try first|omega|(constructor <;> intros <;> omega)
 simp [J2x,h2]
 try (rw [if_neg (by omega)];omega)
theorem J5w (x:DProgram) (_hw:J0j x≤1048576):Holds Tryz.prog 14 [.agg (J00 x)] (fun r=>r = .agg (J1r x)):=by
 have hw:=_hw;unfold J0j at hw
 refine J03 Tryz.func14 a14_ok rfl (by simp [a14]) ?_
 simp [a14,J00]
 refine J02 (Ji8 x.Functions (by omega)) (by simp []) ?_
 rintro r rfl
 simp []
 refine J02 (Jq9 x.Rules (by omega)) (by simp []) ?_
 rintro r rfl
 simp []
 try simp [J1r]
theorem Jeg (x y:DProgram):Holds Tryz.prog 17 [.agg (J00 x),.agg (J00 y)] (fun r=>r = .bool (decide (x=y))):=by
 refine J03 Tryz.func17 a17_ok rfl (by simp [a17]) ?_
 simp [a17,J00]
 refine J02 (Jhx x.Functions y.Functions) (by simp []) ?_
 rintro r rfl
 by_cases h0:x.Functions=y.Functions
 case neg=>simp [h0];try exact fun e=>h0 (by rw [e])
 simp [h0]
 refine J02 (Jqi x.Rules y.Rules) (by simp []) ?_
 rintro r rfl
 by_cases h1:x.Rules=y.Rules
 case neg=>simp [h1];try exact fun e=>h1 (by rw [e])
 simp [h1]
 cases x;cases y;simp_all
end Go.Proofs.YtoclolkigjbcgaaGreat
namespace Go.Proofs.YtoclolkigjbcgaaGreat
set_option linter.all false
open Go Go.RowKit Go.Proofs
def a113:AFn:= ⟨33,[.t 4],(.seq (.reg [Zo 4 (.mv (.k (.bool false)))]) (.seq (.seq (.reg [Zv 6 0,Zo 7 (.len false (.t 6)),Zv 8 1,Zo 9 (.len false (.t 8)),Zo 10 (.bin .neq (.t 7) (.t 9))]) (.cond (.t 10) (.seq (.reg [Zo 4 (.mv (.k (.bool false)))]) .ret) .skip)) (.seq (.seq (.reg [Zo 5 (.mv (.k (.int .i64 0)))]) (.blk 0 (.loop (.seq (.seq (.reg [Zv 11 5,Zv 12 0,Zo 13 (.len false (.t 12)),Zo 14 (.bin .lss (.t 11) (.t 13))]) (.cond (.t 14) .skip (.exit 0))) (.seq (.blk 1 (.seq (.draw (.op (Zv 17 0) (.op (Zv 18 5) (.op (Zo 19 (.ixa 4 (.t 17) (.t 18))) (.op (Zf 20 0 19) (.op (Zl 21 true 2 20) (.op (Zv 22 0) (.op (Zv 23 5) (.op (Zo 24 (.ixa 4 (.t 22) (.t 23))) (.op (Zf 25 2 24) (.op (Zl 26 true 2 25) (.op (Zv 27 1) (.op (Zv 28 5) (.op (Zo 29 (.ixa 2 (.t 27) (.t 28))) (.op (Zl 30 true 2 29) (.op (Zc 31 195 [.t 21,.t 26,.t 30]) (.op (Zo 32 (.un .not (.t 31))) .fin))))))))))))))))) (.cond (.t 32) (.seq (.reg [Zo 4 (.mv (.k (.bool false)))]) .ret) .skip))) (.reg [Zv 15 5,Zo 16 (.bin .add (.t 15) (.k (.int .i64 1))),Zv 5 16])))))) (.seq (.reg [Zo 4 (.mv (.k (.bool true)))]) .ret))))⟩
theorem a113_ok:J09 Tryz.prog Tryz.f113=some a113:=by kernel_rfl
def a115:AFn:= ⟨30,[.t 4],(.seq (.reg [Zo 4 (.mv (.k (.bool false)))]) (.seq (.seq (.reg [Zv 7 0,Zo 8 (.len false (.t 7)),Zv 9 1,Zo 10 (.len false (.t 9)),Zo 11 (.bin .neq (.t 8) (.t 10))]) (.cond (.t 11) (.seq (.reg [Zo 4 (.mv (.k (.bool false)))]) .ret) .skip)) (.seq (.seq (.reg [Zv 12 0,Zo 13 (.len false (.t 12)),Zo 14 (.mv (.k (.int .i64 0)))]) (.blk 0 (.loop (.seq (.reg [Zo 15 (.bin .lss (.t 14) (.t 13))]) (.seq (.cond (.t 15) .skip (.exit 0)) (.seq (.blk 1 (.seq (.reg [Zv 16 14,Zo 17 (.ixa 4 (.t 12) (.t 14)),Zl 18 true 4 17,Zo 6 (.box [(.int .i64 0),(.nil 2),(.int .i64 0),(.nil 1)]),Zv 5 16,⟨no,.st 4 (.t 6) (.t 18),no⟩]) (.seq (.draw (.op (Zf 19 0 6) (.op (Zl 20 true 2 19) (.op (Zf 21 2 6) (.op (Zl 22 true 2 21) (.op (Zv 23 1) (.op (Zv 24 5) (.op (Zo 25 (.ixa 2 (.t 23) (.t 24))) (.op (Zl 26 true 2 25) (.op (Zc 27 196 [.t 20,.t 22,.t 26]) (.op (Zo 28 (.un .not (.t 27))) .fin))))))))))) (.cond (.t 28) (.seq (.reg [Zo 4 (.mv (.k (.bool false)))]) .ret) .skip)))) (.reg [Zo 29 (.bin .add (.t 14) (.k (.int .i64 1))),Zv 14 29]))))))) (.seq (.reg [Zo 4 (.mv (.k (.bool true)))]) .ret))))⟩
theorem a115_ok:J09 Tryz.prog Tryz.f115=some a115:=by kernel_rfl
def J93 (os:List DObligation) (fs:List DFarkas):Bool:=decide (os.length=fs.length)&&(os.zip fs).all fun p=>J9c p.1.System p.1.Target p.2
theorem Jeu (os:List DObligation) (fs:List DFarkas):Holds Tryz.prog 113 [.sl 4 (os.map J15),.sl 2 (fs.map J0u)] (fun r=>r = .bool (J93 os fs)):=by
 refine J03 Tryz.func113 a113_ok rfl (by simp [a113]) ?_
 simp [a113]
 intro hl1 hl2
 unfold J93
 by_cases h1:os.length=fs.length
 case neg=>simp [h1];omega
 simp [h1]
 have hzl:(os.zip fs).length=os.length:=by simp [h1]
 generalize hB:((os.zip fs).all fun p=>J9c p.1.System p.1.Target p.2)=B
 refine J4k [0,1] 5 os.length (fun i _=>((os.zip fs).drop i).all (fun p=>J9c p.1.System p.1.Target p.2)=B) hl1 (by simp) hB ?_ ?_
 ·rintro i s h R hi hg hk s5 hw hJ hh hR hret _
  simp at hk
  have hif:i<fs.length:=by omega
  rw [List.drop_eq_getElem_cons (by omega:i<(os.zip fs).length),List.all_cons,List.getElem_zip] at hJ
  simp [hk,s5,hi,hg,hif]
  intro _
  first|refine J01 (Jaj (os[i]'hi).System (os[i]'hi).Target (fs[i]'hif)) (by first|simp;done|rfl) ?_|refine J02 (Jaj (os[i]'hi).System (os[i]'hi).Target (fs[i]'hif)) (by first|simp;done|rfl) ?_
  rintro r rfl
  cases hc:J9c (os[i]).System (os[i]).Target fs[i]
  ·rw [hc,Bool.false_and] at hJ
   simp
   refine hret _ _ _ ?_
   simp [←hJ]
  ·rw [hc,Bool.true_and] at hJ
   simp [hk,s5,hw]
   exact hR _ (by simp [hk]) (by simp) hJ
 ·rintro s h R hk s5 hJ hh _ hX
  simp at hk
  rw [List.drop_eq_nil_of_le (by omega)] at hJ
  simp [hk,s5]
  intro _
  refine hX _ _ ?_
  simp [←hJ]
theorem Jgj (os:List DObligation) (fs:List DFarkas):Holds Tryz.prog 115 [.sl 4 (os.map J15),.sl 2 (fs.map J0u)] (fun r=>r = .bool (J93 os fs)):=by
 refine J03 Tryz.func115 a115_ok rfl (by simp [a115]) ?_
 simp [a115]
 intro hl1 hl2
 unfold J93
 by_cases h1:os.length=fs.length
 case neg=>simp [h1];omega
 simp [h1]
 have hzl:(os.zip fs).length=os.length:=by simp [h1]
 generalize hB:((os.zip fs).all fun p=>J9c p.1.System p.1.Target p.2)=B
 intro _
 refine J0n [0,1,12,13] 14 fs.length (fun i _ _ _=>((os.zip fs).drop i).all (fun p=>J9c p.1.System p.1.Target p.2)=B) hl2 (by simp) hB ?_ ?_
 ·rintro i s h n R hi hg hk s14 hw hJ hR hret _
  simp at hk
  have hif:i<os.length:=by omega
  rw [List.drop_eq_getElem_cons (by omega:i<(os.zip fs).length),List.all_cons,List.getElem_zip] at hJ
  simp [hk,s14,hi,hg,hif]
  refine ⟨by simp [J15],?_⟩
  first|refine J01 (Jbi (os[i]'hif).System (os[i]'hif).Target (fs[i]'hi)) (by first|simp;done|rfl) ?_|refine J02 (Jbi (os[i]'hif).System (os[i]'hif).Target (fs[i]'hi)) (by first|simp;done|rfl) ?_
  rintro r rfl
  cases hc:J9c (os[i]).System (os[i]).Target fs[i]
  ·rw [hc,Bool.false_and] at hJ
   simp
   refine hret _ _ _ ?_
   simp [←hJ]
  ·rw [hc,Bool.true_and] at hJ
   simp [hk,s14,hw]
   exact hR _ _ _ (by simp [hk]) (by simp) hJ
 ·rintro s h n R hk s14 hJ hret hX
  simp at hk
  rw [List.drop_eq_nil_of_le (by omega)] at hJ
  simp [hk,s14]
  refine hX _ _ _ _ ?_
  simp [←hJ]
end Go.Proofs.YtoclolkigjbcgaaGreat
namespace Go.Proofs.YtoclolkigjbcgaaGreat
set_option linter.all false
open Go Go.RowKit Go.Proofs
def a53:AFn:= ⟨23,[.t 4,.t 5],(.seq (.reg [Zo 2 (.boxv (.t 0)),Zo 3 (.boxv (.t 1)),Zo 4 (.mv (.k (.nil 2))),Zo 5 (.mv (.k (.bool false)))]) (.seq (.reg [Zl 9 true 2 2,Zl 10 true 2 3,Zc 11 33 [.t 9,.t 10],Zv 8 11,Zo 12 (.ext (.t 8) 0),Zo 13 (.ext (.t 8) 1),Zv 6 12,Zv 7 13]) (.seq (.seq (.reg [Zv 14 7,Zo 15 (.un .not (.t 14))]) (.cond (.t 15) (.seq (.reg [Zo 4 (.mv (.k (.nil 2))),Zo 5 (.mv (.k (.bool false)))]) .ret) .skip)) (.seq (.reg [Zl 16 true 2 2,Zc 17 94 [.t 16],Zv 18 6,Zo 19 (.app 64 4 (.t 17) (.t 18)),Zc 20 131 [.t 19],Zo 21 (.ext (.t 20) 0),Zo 22 (.ext (.t 20) 1),Zv 4 21,Zv 5 22]) .ret))))⟩
end Go.Proofs.YtoclolkigjbcgaaGreat
namespace Go.Proofs.YtoclolkigjbcgaaGreat
set_option linter.all false
open Go Go.RowKit Go.Proofs
def a47:AFn:= ⟨24,[.t 6],(.seq (.reg [Zo 3 (.boxv (.t 0)),Zo 4 (.boxv (.t 1)),Zo 6 (.mv (.k (.bool false)))]) (.seq (.reg [Zl 10 true 2 3,Zl 11 true 2 4,Zc 12 50 [.t 10,.t 11],Zv 9 12,Zo 13 (.ext (.t 9) 0),Zo 14 (.ext (.t 9) 1),Zv 7 13,Zv 8 14]) (.seq (.reg [Zv 15 8,Zv 16 15,⟨some 17,.ld true 2 (.t 3),(some (16,true))⟩,⟨some 18,.call (.k (.fn (.func 94) [] [])) [.t 17],(some (16,true))⟩,⟨some 19,.mv (.t 7),(some (16,true))⟩,⟨some 20,.app 64 4 (.t 18) (.t 19),(some (16,true))⟩,⟨some 21,.mv (.t 2),(some (16,true))⟩,⟨some 22,.call (.k (.fn (.func 115) [] [])) [.t 20,.t 21],(some (16,true))⟩,Zo 23 (.pick (.t 16) (.t 22) (.k (.bool false))),Zv 6 23]) .ret)))⟩
theorem a47_ok:J09 Tryz.prog Tryz.f47=some a47:=by kernel_rfl
def a118:AFn:= ⟨19,[.t 4,.t 5],(.seq (.reg [Zo 2 (.boxv (.t 0)),Zo 3 (.boxv (.t 1)),Zo 4 (.mv (.k (.nil 4))),Zo 5 (.mv (.k (.bool false)))]) (.seq (.reg [Zl 9 true 2 2,Zl 10 true 2 3,Zc 11 49 [.t 9,.t 10],Zv 8 11,Zo 12 (.ext (.t 8) 0),Zo 13 (.ext (.t 8) 1),Zv 6 12,Zv 7 13]) (.seq (.reg [Zl 14 true 2 2,Zc 15 92 [.t 14],Zv 16 6,Zo 17 (.app 64 4 (.t 15) (.t 16)),Zv 18 7,Zv 4 17,Zv 5 18]) .ret)))⟩
theorem a118_ok:J09 Tryz.prog Tryz.f118=some a118:=by kernel_rfl
def a45:AFn:= ⟨21,[.t 6],(.seq (.reg [Zo 3 (.boxv (.t 0)),Zo 4 (.boxv (.t 1)),Zo 6 (.mv (.k (.bool false)))]) (.seq (.reg [Zl 10 true 2 3,Zl 11 true 2 4,Zc 12 118 [.t 10,.t 11],Zv 9 12,Zo 13 (.ext (.t 9) 0),Zo 14 (.ext (.t 9) 1),Zv 7 13,Zv 8 14]) (.seq (.reg [Zv 15 8,Zv 16 15,⟨some 17,.mv (.t 7),(some (16,true))⟩,⟨some 18,.mv (.t 2),(some (16,true))⟩,⟨some 19,.call (.k (.fn (.func 113) [] [])) [.t 17,.t 18],(some (16,true))⟩,Zo 20 (.pick (.t 16) (.t 19) (.k (.bool false))),Zv 6 20]) .ret)))⟩
theorem a45_ok:J09 Tryz.prog Tryz.f45=some a45:=by kernel_rfl
def Jhv (p:DProgram) (x:DRanking) (fs:List DFarkas):Bool:=(J4x p x).isSome&&J93 (Jf9 p++(J4x p x).getD []) fs
theorem Jai (p:DProgram) (hp:J0j p≤1048576) (x:DRanking) (fs:List DFarkas):Holds Tryz.prog 47 [.agg (J00 p),.agg (J0d x),.sl 2 (fs.map J0u)] (fun r=>r = .bool (Jhv p x fs)):=by
 have h1:=Jgk p x
 have h2:=Jbc p hp
 refine J03 Tryz.func47 a47_ok rfl (by simp [a47]) ?_
 simp [a47]
 first|refine J01 (J7z p hp x) (by first|simp;done|rfl) ?_|refine J02 (J7z p hp x) (by first|simp;done|rfl) ?_
 rintro r rfl
 unfold Jhv
 generalize (J4x p x).isSome=ok at *
 generalize (J4x p x).getD []=O at *
 cases ok
 ·simp
 simp
 first|refine J01 (J8o p hp) (by first|simp;done|rfl) ?_|refine J02 (J8o p hp) (by first|simp;done|rfl) ?_
 rintro r rfl
 generalize Jf9 p=R at *
 simp
 refine ⟨by unfold LIM;omega,?_⟩
 have hm:R.map J08++O.map J08=(R++O).map J08:=by simp
 have ht:List.take (R.length+O.length) ((R++O).map J08)=(R++O).map J08:=List.take_of_length_le (by simp)
 rw [hm]
 first|refine J01 (Jgj (R++O) fs) (by first|simp [ht,-List.map_append];done|rfl) ?_|refine J02 (Jgj (R++O) fs) (by first|simp [ht,-List.map_append];done|rfl) ?_
 rintro r rfl
 simp
theorem Jiv (p:DProgram) (hp:J0j p≤1048576) (x:DRanking):Holds Tryz.prog 118 [.agg (J00 p),.agg (J0d x)] (fun r=>r = .tup [.us 4 ((Jf9 p++(J4x p x).getD []).map J08),.bool (J4x p x).isSome]):=by
 have h1:=Jgk p x
 have h2:=Jbc p hp
 refine J03 Tryz.func118 a118_ok rfl (by simp [a118]) ?_
 simp [a118]
 first|refine J01 (J7c p hp x) (by first|simp;done|rfl) ?_|refine J02 (J7c p hp x) (by first|simp;done|rfl) ?_
 rintro r rfl
 generalize (J4x p x).isSome=ok at *
 generalize (J4x p x).getD []=O at *
 simp
 first|refine J01 (J7l p hp) (by first|simp;done|rfl) ?_|refine J02 (J7l p hp) (by first|simp;done|rfl) ?_
 rintro r rfl
 generalize Jf9 p=R at *
 simp
 have hm:R.map J08++O.map J08=(R++O).map J08:=by simp
 have ht:List.take (R.length+O.length) ((R++O).map J08)=(R++O).map J08:=List.take_of_length_le (by simp)
 rw [hm,ht]
 exact ⟨by unfold LIM;omega,Jb4 _,rfl⟩
theorem J98 (p:DProgram) (hp:J0j p≤1048576) (x:DRanking) (fs:List DFarkas):Holds Tryz.prog 45 [.agg (J00 p),.agg (J0d x),.sl 2 (fs.map J0u)] (fun r=>r = .bool (Jhv p x fs)):=by
 refine J03 Tryz.func45 a45_ok rfl (by simp [a45]) ?_
 simp [a45]
 first|refine J01 (Jiv p hp x) (by first|simp;done|rfl) ?_|refine J02 (Jiv p hp x) (by first|simp;done|rfl) ?_
 rintro r rfl
 unfold Jhv
 generalize (J4x p x).isSome=ok at *
 generalize (J4x p x).getD []=O at *
 cases ok
 ·simp
 generalize Jf9 p++O=X at *
 simp
 first|refine J01 (Jeu X fs) (by first|simp;done|rfl) ?_|refine J02 (Jeu X fs) (by first|simp;done|rfl) ?_
 rintro r rfl
 simp
end Go.Proofs.YtoclolkigjbcgaaGreat
namespace Go.Proofs.YtoclolkigjbcgaaGreat
set_option linter.all false
open Go Go.RowKit Go.Proofs
def a44:AFn:= ⟨18,[.t 4],(.seq (.reg [Zo 2 (.boxv (.t 0)),Zo 4 (.mv (.k (.int .i64 0)))]) (.seq (.reg [Zf 5 0 2,Zl 6 false 1 5,Zv 7 1,Zc 8 117 [.t 6,.t 7],Zv 1 8]) (.seq (.seq (.reg [Zv 9 1,Zo 10 (.bin .lss (.t 9) (.k (.int .i64 0)))]) (.cond (.t 10) (.seq (.reg [Zo 4 (.mv (.k (.int .i64 (-1))))]) .ret) .skip)) (.seq (.reg [Zf 11 1 2,Zl 12 false 1 11,Zv 13 1,Zc 14 80 [.t 12,.t 13],Zv 1 14]) (.seq (.seq (.reg [Zv 15 1,Zo 16 (.bin .lss (.t 15) (.k (.int .i64 0)))]) (.cond (.t 16) (.seq (.reg [Zo 4 (.mv (.k (.int .i64 (-1))))]) .ret) .skip)) (.seq (.reg [Zv 17 1,Zv 4 17]) .ret))))))⟩
theorem a44_ok:J09 Tryz.prog Tryz.f44=some a44:=by kernel_rfl
def a46:AFn:= ⟨13,[(.c 2 true 2)],(.seq (.reg [Zo 1 (.boxv (.t 0)),Zo 2 (.box [(.nil 1),(.nil 1)])]) (.seq (.reg [Zo 3 (.box [(.nil 1),(.nil 1)])]) (.seq (.reg [Zf 4 0 1,Zl 5 false 1 4,Zc 6 119 [.t 5],Zf 7 0 3,⟨no,.st 1 (.t 7) (.t 6),no⟩]) (.seq (.reg [Zf 8 1 1,Zl 9 false 1 8,Zc 10 83 [.t 9],Zf 11 1 3,⟨no,.st 1 (.t 11) (.t 10),no⟩]) (.seq (.reg [Zl 12 true 2 3,⟨no,.st 2 (.t 2) (.t 12),no⟩]) .ret)))))⟩
theorem a46_ok:J09 Tryz.prog Tryz.f46=some a46:=by kernel_rfl
def a48:AFn:= ⟨17,[.t 4],(.seq (.reg [Zo 2 (.boxv (.t 0)),Zo 3 (.boxv (.t 1)),Zo 4 (.mv (.k (.bool false)))]) (.seq (.seq (.reg [Zf 5 0 2,Zl 6 false 1 5,Zf 7 0 3,Zl 8 false 1 7,Zc 9 120 [.t 6,.t 8],Zo 10 (.un .not (.t 9))]) (.cond (.t 10) (.seq (.reg [Zo 4 (.mv (.k (.bool false)))]) .ret) .skip)) (.seq (.seq (.reg [Zf 11 1 2,Zl 12 false 1 11,Zf 13 1 3,Zl 14 false 1 13,Zc 15 87 [.t 12,.t 14],Zo 16 (.un .not (.t 15))]) (.cond (.t 16) (.seq (.reg [Zo 4 (.mv (.k (.bool false)))]) .ret) .skip)) (.seq (.reg [Zo 4 (.mv (.k (.bool true)))]) .ret))))⟩
theorem a48_ok:J09 Tryz.prog Tryz.f48=some a48:=by kernel_rfl
theorem Jey (x:DRanking) (left:Int) (h0:0≤left∧left≤4611686018427387904):Holds Tryz.prog 44 [.agg (J0d x),i64 left] (fun r=>r=i64 (J2x left (J4p x))):=by
 refine J03 Tryz.func44 a44_ok rfl (by simp [a44]) ?_
 simp [a44,J0d]
 have e0:J4p x=J4p x:=rfl
 conv at e0=>rhs;unfold J4p
 refine J02 (Jo2 x.Levels left (by omega)) (by simp) ?_
 rintro r rfl
 by_cases h1:left - (Jbl x.Levels:Nat)<0
 case pos=>
  have q:left - (J4p x:Int)<0:=by omega
  simp [J2x,h1,q]
  try first|omega|(constructor <;> intros <;> omega)
 simp [J2x,h1]
 refine J02 (Jhy x.Edges (left - (Jbl x.Levels:Nat)) (by omega)) (by simp) ?_
 rintro r rfl
 by_cases h2:(left - (Jbl x.Levels:Nat)) - (Jg4 x.Edges:Nat)<0
 case pos=>
  have q:left - (J4p x:Int)<0:=by omega
  simp [J2x,h2,q]
  try first|omega|(constructor <;> intros <;> omega)
 simp [J2x,h2]
 try (rw [if_neg (by omega)];omega)
theorem J5x (x:DRanking) (_hw:J4p x≤1048576):Holds Tryz.prog 46 [.agg (J0d x)] (fun r=>r = .agg (J1s x)):=by
 have hw:=_hw;unfold J4p at hw
 refine J03 Tryz.func46 a46_ok rfl (by simp [a46]) ?_
 simp [a46,J0d]
 refine J02 (Joz x.Levels (by omega)) (by simp []) ?_
 rintro r rfl
 simp []
 refine J02 (Jhh x.Edges (by omega)) (by simp []) ?_
 rintro r rfl
 simp []
 try simp [J1s]
theorem Jem (x y:DRanking):Holds Tryz.prog 48 [.agg (J0d x),.agg (J0d y)] (fun r=>r = .bool (decide (x=y))):=by
 refine J03 Tryz.func48 a48_ok rfl (by simp [a48]) ?_
 simp [a48,J0d]
 refine J02 (Jp5 x.Levels y.Levels) (by simp []) ?_
 rintro r rfl
 by_cases h0:x.Levels=y.Levels
 case neg=>simp [h0];try exact fun e=>h0 (by rw [e])
 simp [h0]
 refine J02 (Jhk x.Edges y.Edges) (by simp []) ?_
 rintro r rfl
 by_cases h1:x.Edges=y.Edges
 case neg=>simp [h1];try exact fun e=>h1 (by rw [e])
 simp [h1]
 cases x;cases y;simp_all
end Go.Proofs.YtoclolkigjbcgaaGreat
namespace Go.Proofs.YtoclolkigjbcgaaGreat
set_option linter.all false
open Go Go.RowKit Go.Proofs
def a8:AFn:= ⟨63,[.t 6],(.seq (.reg [Zo 3 (.boxv (.t 0)),Zo 4 (.boxv (.t 1)),Zo 6 (.mv (.k (.bool false)))]) (.seq (.reg [Zo 7 (.mv (.k (.int .i64 1048576)))]) (.seq (.reg [Zl 13 true 2 3,Zv 14 7,Zc 15 12 [.t 13,.t 14],Zv 7 15]) (.seq (.seq (.reg [Zv 16 7,Zo 17 (.bin .lss (.t 16) (.k (.int .i64 0)))]) (.cond (.t 17) (.seq (.reg [Zo 6 (.mv (.k (.bool true)))]) .ret) .skip)) (.seq (.reg [Zl 18 true 2 4,Zv 19 7,Zc 20 44 [.t 18,.t 19],Zv 7 20]) (.seq (.seq (.reg [Zv 21 7,Zo 22 (.bin .lss (.t 21) (.k (.int .i64 0)))]) (.cond (.t 22) (.seq (.reg [Zo 6 (.mv (.k (.bool true)))]) .ret) .skip)) (.seq (.reg [Zv 23 2,Zv 24 7,Zc 25 39 [.t 23,.t 24],Zv 7 25]) (.seq (.seq (.reg [Zv 26 7,Zo 27 (.bin .lss (.t 26) (.k (.int .i64 0)))]) (.cond (.t 27) (.seq (.reg [Zo 6 (.mv (.k (.bool true)))]) .ret) .skip)) (.seq (.draw (.op (Zl 28 true 2 3) (.op (Zl 30 true 2 4) (.op (Zv 32 2) (.op (Zc 29 14 [.t 28]) (.op (Zc 31 46 [.t 30]) (.op (Zc 33 41 [.t 32]) (.op (Zc 34 45 [.t 29,.t 31,.t 33]) (.op (Zv 8 34) .fin))))))))) (.seq (.reg [Zl 35 true 2 3,Zc 36 14 [.t 35],Zo 9 (.box [(.nil 4),(.nil 7)]),⟨no,.st 2 (.t 9) (.t 36),no⟩]) (.seq (.reg [Zl 37 true 2 4,Zc 38 46 [.t 37],Zo 10 (.box [(.nil 1),(.nil 1)]),⟨no,.st 2 (.t 10) (.t 38),no⟩]) (.seq (.reg [Zv 39 2,Zc 40 41 [.t 39],Zv 11 40]) (.seq (.reg [Zl 41 true 2 9,Zl 42 true 2 10,Zv 43 11,Zc 44 47 [.t 41,.t 42,.t 43],Zv 12 44]) (.seq (.seq (.reg [Zv 45 12,Zv 46 8,Zo 47 (.beq true (.t 45) (.t 46))]) (.cond (.t 47) (.seq (.reg [Zo 6 (.mv (.k (.bool false)))]) .ret) .skip)) (.seq (.seq (.draw (.op (Zl 48 true 2 9) (.op (Zl 49 true 2 3) (.op (Zc 50 14 [.t 49]) (.op (Zc 51 17 [.t 48,.t 50]) (.op (Zo 52 (.un .not (.t 51))) .fin)))))) (.cond (.t 52) (.seq (.reg [Zo 6 (.mv (.k (.bool false)))]) .ret) .skip)) (.seq (.seq (.draw (.op (Zl 53 true 2 10) (.op (Zl 54 true 2 4) (.op (Zc 55 46 [.t 54]) (.op (Zc 56 48 [.t 53,.t 55]) (.op (Zo 57 (.un .not (.t 56))) .fin)))))) (.cond (.t 57) (.seq (.reg [Zo 6 (.mv (.k (.bool false)))]) .ret) .skip)) (.seq (.seq (.reg [Zv 58 11,Zv 59 2,Zc 60 41 [.t 59],Zc 61 43 [.t 58,.t 60],Zo 62 (.un .not (.t 61))]) (.cond (.t 62) (.seq (.reg [Zo 6 (.mv (.k (.bool false)))]) .ret) .skip)) (.seq (.reg [Zo 6 (.mv (.k (.bool true)))]) .ret))))))))))))))))))⟩
theorem a8_ok:J09 Tryz.prog Tryz.f8=some a8:=by kernel_rfl
theorem Jdj (p:DProgram) (x:DRanking) (fs:List DFarkas):Holds Tryz.prog 8 [.agg (J00 p),.agg (J0d x),.sl 2 (fs.map J0u)] (fun x=>x = .bool true):=by
 refine J03 Tryz.func8 a8_ok rfl (by simp [a8]) ?_
 simp [a8,J00,J0d]
 first|refine J01 (Jf0 p 1048576 (by omega)) (by first|simp [J00];done|rfl) ?_|refine J02 (Jf0 p 1048576 (by omega)) (by first|simp [J00];done|rfl) ?_
 rintro r rfl
 by_cases h1:1048576 - (J0j p:Int)<0
 ·simp [J2x,h1]
 simp [J2x,h1]
 first|refine J01 (Jey x (1048576 - (J0j p:Int)) (by omega)) (by first|simp [J0d];done|rfl) ?_|refine J02 (Jey x (1048576 - (J0j p:Int)) (by omega)) (by first|simp [J0d];done|rfl) ?_
 rintro r rfl
 by_cases h2:1048576 - (J0j p:Int) - (J4p x:Int)<0
 ·simp [J2x,h2]
 simp [J2x,h2]
 first|refine J01 (Jek fs (1048576 - (J0j p:Int) - (J4p x:Int)) (by omega)) (by first|simp;done|rfl) ?_|refine J02 (Jek fs (1048576 - (J0j p:Int) - (J4p x:Int)) (by omega)) (by first|simp;done|rfl) ?_
 rintro r rfl
 by_cases h3:1048576 - (J0j p:Int) - (J4p x:Int) - (J88 fs:Int)<0
 ·simp [J2x,h3]
 simp [J2x,h3]
 have hw1:J0j p≤1048576:=by omega
 have hw2:J4p x≤1048576:=by omega
 have hw3:J88 fs≤1048576:=by omega
 first|refine J01 (J5w p hw1) (by first|simp [J00,J1r];done|rfl) ?_|refine J02 (J5w p hw1) (by first|simp [J00,J1r];done|rfl) ?_
 rintro r rfl
 simp [J00,J1r]
 first|refine J01 (J5x x hw2) (by first|simp [J0d,J1s];done|rfl) ?_|refine J02 (J5x x hw2) (by first|simp [J0d,J1s];done|rfl) ?_
 rintro r rfl
 simp [J0d,J1s]
 first|refine J01 (J62 fs hw3) (by first|simp;done|rfl) ?_|refine J02 (J62 fs hw3) (by first|simp;done|rfl) ?_
 rintro r rfl
 simp
 first|refine J01 (J98 p hw1 x fs) (by first|simp [J00,J1r,J0d,J1s];done|rfl) ?_|refine J02 (J98 p hw1 x fs) (by first|simp [J00,J1r,J0d,J1s];done|rfl) ?_
 rintro r rfl
 simp [J00,J1r,J0d,J1s]
 first|refine J01 (J5w p hw1) (by first|simp [J00,J1r];done|rfl) ?_|refine J02 (J5w p hw1) (by first|simp [J00,J1r];done|rfl) ?_
 rintro r rfl
 simp [J00,J1r]
 first|refine J01 (J5x x hw2) (by first|simp [J0d,J1s];done|rfl) ?_|refine J02 (J5x x hw2) (by first|simp [J0d,J1s];done|rfl) ?_
 rintro r rfl
 simp [J0d,J1s]
 first|refine J01 (J62 fs hw3) (by first|simp;done|rfl) ?_|refine J02 (J62 fs hw3) (by first|simp;done|rfl) ?_
 rintro r rfl
 simp
 first|refine J01 (Jai p hw1 x fs) (by first|simp [J00,J1r,J0d,J1s];done|rfl) ?_|refine J02 (Jai p hw1 x fs) (by first|simp [J00,J1r,J0d,J1s];done|rfl) ?_
 rintro r rfl
 simp [J00,J1r,J0d,J1s]
 first|refine J01 (J5w p hw1) (by first|simp [J00,J1r];done|rfl) ?_|refine J02 (J5w p hw1) (by first|simp [J00,J1r];done|rfl) ?_
 rintro r rfl
 simp [J00,J1r]
 first|refine J01 (Jeg p p) (by first|simp [J00,J1r];done|rfl) ?_|refine J02 (Jeg p p) (by first|simp [J00,J1r];done|rfl) ?_
 rintro r rfl
 simp [J00,J1r]
 first|refine J01 (J5x x hw2) (by first|simp [J0d,J1s];done|rfl) ?_|refine J02 (J5x x hw2) (by first|simp [J0d,J1s];done|rfl) ?_
 rintro r rfl
 simp [J0d,J1s]
 first|refine J01 (Jem x x) (by first|simp [J0d,J1s];done|rfl) ?_|refine J02 (Jem x x) (by first|simp [J0d,J1s];done|rfl) ?_
 rintro r rfl
 simp [J0d,J1s]
 first|refine J01 (J62 fs hw3) (by first|simp;done|rfl) ?_|refine J02 (J62 fs hw3) (by first|simp;done|rfl) ?_
 rintro r rfl
 simp
 first|refine J01 (Jeo fs fs) (by first|simp;done|rfl) ?_|refine J02 (Jeo fs fs) (by first|simp;done|rfl) ?_
 rintro r rfl
 simp
end Go.Proofs.YtoclolkigjbcgaaGreat
namespace Go.Proofs.YtoclolkigjbcgaaGreat
set_option linter.all false
open Go Go.RowKit Go.Proofs Go.ChangeShapes Go.WideShapes
theorem Tryz.own:ownKnob Tryz.prog.godebug=none:=by kernel_rfl
theorem Tryz.laidOut:laidOutB Tryz.prog=true:=by kernel_rfl
theorem J2m {α:Type}{P:List AV→Prop}{f:α→List AV}(hP:∀ r,P r→∃ x,r=f x):∀ {rows:List (List AV)},(∀ r∈rows,P r)→∃ l:List α,rows=l.map f
 | [],_=>⟨[],rfl⟩
 | r::rows,h=>by
  obtain ⟨x,rfl⟩:=hP r (h _ List.mem_cons_self)
  obtain ⟨l,rfl⟩:=J2m hP fun r hr=>h r (List.mem_cons_of_mem _ hr)
  exact ⟨x::l,rfl⟩
theorem Jl2 {P:Program}{f:Nat}{t e:TypeId}{a:AV}(hu:P.underlying t=some (.slice e)) (h:Jda P f t a):Row P f t [a]:=by simpa only [Jda,hu] using h
set_option maxRecDepth 100000
theorem Jkk {f:Nat}{r:List AV}(h:Row Tryz.prog (f+2) 39 r):∃ x:List Int,r=[.sl 1 (J0l x)]:=by
 obtain ⟨l,rfl⟩:=Jwj Tryz.underlying39 Tryz.underlying3 (by kernel_rfl) h
 exact ⟨l,rfl⟩
theorem K0j {f:Nat}{r:List AV}(h:Row Tryz.prog (f+3) 41 r):∃ x:DLin,r=J05 x:=by
 obtain ⟨parts,rfl,g0⟩:=J3x Tryz.underlying41 h
 obtain ⟨x0,m1,rfl,h0,g1⟩:=J1b g0
 obtain ⟨x1,m2,rfl,h1,g2⟩:=J1b g1
 cases J53 g2
 obtain ⟨v0,rfl,_⟩:=Jec Tryz.underlying3 h0
 obtain ⟨v1,rfl⟩:=Jkk h1
 exact ⟨⟨v0,v1⟩,rfl⟩
theorem Joc {f:Nat}{r:List AV}(h:Row Tryz.prog (f+4) 51 r):∃ x:List DLin,r=[.sl 2 (x.map J05)]:=by
 obtain ⟨rows,rfl,_,hr⟩:=J43 Tryz.underlying51 h
 obtain ⟨l,rfl⟩:=J2m (f:=J05) (fun r h=>K0j h) hr
 exact ⟨l,by rw [show Tryz.prog.cellsOf 41=2 by kernel_rfl]⟩
theorem Joh {f:Nat}{r:List AV}(h:Row Tryz.prog (f+3) 143 r):∃ x:DFarkas,r=J0u x:=by
 obtain ⟨parts,rfl,g0⟩:=J3x Tryz.underlying143 h
 obtain ⟨x0,m1,rfl,h0,g1⟩:=J1b g0
 obtain ⟨x1,m2,rfl,h1,g2⟩:=J1b g1
 cases J53 g2
 obtain ⟨v0,rfl,_⟩:=Jec Tryz.underlying3 h0
 obtain ⟨v1,rfl⟩:=Jkk h1
 exact ⟨⟨v0,v1⟩,rfl⟩
theorem Jnd {f:Nat}{r:List AV}(h:Row Tryz.prog (f+4) 67 r):∃ x:List DFarkas,r=[.sl 2 (x.map J0u)]:=by
 obtain ⟨rows,rfl,_,hr⟩:=J43 Tryz.underlying67 h
 obtain ⟨l,rfl⟩:=J2m (f:=J0u) (fun r h=>Joh h) hr
 exact ⟨l,by rw [show Tryz.prog.cellsOf 143=2 by kernel_rfl]⟩
theorem Jku {f:Nat}{a:AV}(h:Jda Tryz.prog (f+4) 67 a):∃ x:List DFarkas,a = .sl 2 (x.map J0u):=by
 obtain ⟨x,hx⟩:=Jnd (Jl2 Tryz.underlying67 h)
 exact ⟨x,by simpa using hx⟩
theorem Jv7 {f:Nat}{r:List AV}(h:Row Tryz.prog (f+2) 339 r):∃ x:DTerm,r=J16 x:=by
 obtain ⟨parts,rfl,g0⟩:=J3x Tryz.underlying339 h
 obtain ⟨x0,m1,rfl,h0,g1⟩:=J1b g0
 obtain ⟨x1,m2,rfl,h1,g2⟩:=J1b g1
 cases J53 g2
 obtain ⟨v0,rfl,_⟩:=Jec Tryz.underlying3 h0
 obtain ⟨v1,rfl,_⟩:=J46 Tryz.underlying9 h1
 exact ⟨⟨v0,v1⟩,rfl⟩
theorem Jr5 {f:Nat}{r:List AV}(h:Row Tryz.prog (f+3) 303 r):∃ x:List DTerm,r=[.sl 2 (x.map J16)]:=by
 obtain ⟨rows,rfl,_,hr⟩:=J43 Tryz.underlying303 h
 obtain ⟨l,rfl⟩:=J2m (f:=J16) (fun r h=>Jv7 h) hr
 exact ⟨l,by rw [show Tryz.prog.cellsOf 339=2 by kernel_rfl]⟩
theorem K2z {f:Nat}{r:List AV}(h:Row Tryz.prog (f+4) 305 r):∃ x:DSum,r=J1k x:=by
 obtain ⟨parts,rfl,g0⟩:=J3x Tryz.underlying305 h
 obtain ⟨x0,m1,rfl,h0,g1⟩:=J1b g0
 obtain ⟨x1,m2,rfl,h1,g2⟩:=J1b g1
 cases J53 g2
 obtain ⟨v0,rfl,_⟩:=Jec Tryz.underlying3 h0
 obtain ⟨v1,rfl⟩:=Jr5 h1
 exact ⟨⟨v0,v1⟩,rfl⟩
theorem Jpr {f:Nat}{r:List AV}(h:Row Tryz.prog (f+5) 170 r):∃ x:List DSum,r=[.sl 2 (x.map J1k)]:=by
 obtain ⟨rows,rfl,_,hr⟩:=J43 Tryz.underlying170 h
 obtain ⟨l,rfl⟩:=J2m (f:=J1k) (fun r h=>K2z h) hr
 exact ⟨l,by rw [show Tryz.prog.cellsOf 305=2 by kernel_rfl]⟩
theorem Ju5 {f:Nat}{r:List AV}(h:Row Tryz.prog (f+6) 173 r):∃ x:DArg,r=J13 x:=by
 obtain ⟨parts,rfl,g0⟩:=J3x Tryz.underlying173 h
 obtain ⟨x0,m1,rfl,h0,g1⟩:=J1b g0
 obtain ⟨x1,m2,rfl,h1,g2⟩:=J1b g1
 obtain ⟨x2,m3,rfl,h2,g3⟩:=J1b g2
 cases J53 g3
 obtain ⟨v0,rfl⟩:=Ji6 Tryz.underlying4 h0
 obtain ⟨v1,rfl⟩:=Jpr h1
 obtain ⟨v2,rfl,_⟩:=J46 Tryz.underlying9 h2
 exact ⟨⟨v0,v1,v2⟩,rfl⟩
theorem Jxt {f:Nat}{r:List AV}(h:Row Tryz.prog (f+7) 307 r):∃ x:List DArg,r=[.sl 3 (x.map J13)]:=by
 obtain ⟨rows,rfl,_,hr⟩:=J43 Tryz.underlying307 h
 obtain ⟨l,rfl⟩:=J2m (f:=J13) (fun r h=>Ju5 h) hr
 exact ⟨l,by rw [show Tryz.prog.cellsOf 173=3 by kernel_rfl]⟩
theorem Jni {f:Nat}{r:List AV}(h:Row Tryz.prog (f+2) 94 r):∃ x:List Str,r=[.sl 1 (J0b x)]:=by
 obtain ⟨rows,rfl,_,hr⟩:=J43 Tryz.underlying94 h
 obtain ⟨l,rfl⟩:=J2m (f:=fun s:Str=>[.str s]) (fun r h=>(J46 Tryz.underlying9 h).elim fun l h=>⟨l,h.1⟩) hr
 exact ⟨l,by rw [show Tryz.prog.cellsOf 9=1 by kernel_rfl];rfl⟩
theorem Jkv {f:Nat}{r:List AV}(h:Row Tryz.prog (f+5) 167 r):∃ x:DFunction,r=J04 x:=by
 obtain ⟨parts,rfl,g0⟩:=J3x Tryz.underlying167 h
 obtain ⟨x0,m1,rfl,h0,g1⟩:=J1b g0
 obtain ⟨x1,m2,rfl,h1,g2⟩:=J1b g1
 obtain ⟨x2,m3,rfl,h2,g3⟩:=J1b g2
 obtain ⟨x3,m4,rfl,h3,g4⟩:=J1b g3
 cases J53 g4
 obtain ⟨v0,rfl,_⟩:=J46 Tryz.underlying9 h0
 obtain ⟨v1,rfl⟩:=Jni h1
 obtain ⟨v2,rfl⟩:=Ji6 Tryz.underlying4 h2
 obtain ⟨v3,rfl⟩:=Joc h3
 exact ⟨⟨v0,v1,v2,v3⟩,rfl⟩
theorem Jjk {f:Nat}{r:List AV}(h:Row Tryz.prog (f+6) 22 r):∃ x:List DFunction,r=[.sl 4 (x.map J04)]:=by
 obtain ⟨rows,rfl,_,hr⟩:=J43 Tryz.underlying22 h
 obtain ⟨l,rfl⟩:=J2m (f:=J04) (fun r h=>Jkv h) hr
 exact ⟨l,by rw [show Tryz.prog.cellsOf 167=4 by kernel_rfl]⟩
theorem Jmx {f:Nat}{r:List AV}(h:Row Tryz.prog (f+2) 301 r):∃ x:DPattern,r=J0a x:=by
 obtain ⟨parts,rfl,g0⟩:=J3x Tryz.underlying301 h
 obtain ⟨x0,m1,rfl,h0,g1⟩:=J1b g0
 obtain ⟨x1,m2,rfl,h1,g2⟩:=J1b g1
 obtain ⟨x2,m3,rfl,h2,g3⟩:=J1b g2
 obtain ⟨x3,m4,rfl,h3,g4⟩:=J1b g3
 cases J53 g4
 obtain ⟨v0,rfl,_⟩:=J46 Tryz.underlying9 h0
 obtain ⟨v1,rfl⟩:=Ji6 Tryz.underlying4 h1
 obtain ⟨v2,rfl,_⟩:=J46 Tryz.underlying9 h2
 obtain ⟨v3,rfl,_⟩:=J46 Tryz.underlying9 h3
 exact ⟨⟨v0,v1,v2,v3⟩,rfl⟩
theorem Jky {f:Nat}{r:List AV}(h:Row Tryz.prog (f+3) 169 r):∃ x:List DPattern,r=[.sl 4 (x.map J0a)]:=by
 obtain ⟨rows,rfl,_,hr⟩:=J43 Tryz.underlying169 h
 obtain ⟨l,rfl⟩:=J2m (f:=J0a) (fun r h=>Jmx h) hr
 exact ⟨l,by rw [show Tryz.prog.cellsOf 301=4 by kernel_rfl]⟩
theorem Juz {f:Nat}{r:List AV}(h:Row Tryz.prog (f+8) 309 r):∃ x:DCall,r=J12 x:=by
 obtain ⟨parts,rfl,g0⟩:=J3x Tryz.underlying309 h
 obtain ⟨x0,m1,rfl,h0,g1⟩:=J1b g0
 obtain ⟨x1,m2,rfl,h1,g2⟩:=J1b g1
 obtain ⟨x2,m3,rfl,h2,g3⟩:=J1b g2
 cases J53 g3
 obtain ⟨v0,rfl,_⟩:=J46 Tryz.underlying9 h0
 obtain ⟨v1,rfl,_⟩:=J46 Tryz.underlying9 h1
 obtain ⟨v2,rfl⟩:=Jxt h2
 exact ⟨⟨v0,v1,v2⟩,rfl⟩
theorem Jrg {f:Nat}{r:List AV}(h:Row Tryz.prog (f+9) 171 r):∃ x:List DCall,r=[.sl 3 (x.map J12)]:=by
 obtain ⟨rows,rfl,_,hr⟩:=J43 Tryz.underlying171 h
 obtain ⟨l,rfl⟩:=J2m (f:=J12) (fun r h=>Juz h) hr
 exact ⟨l,by rw [show Tryz.prog.cellsOf 309=3 by kernel_rfl]⟩
theorem Jy9 {f:Nat}{r:List AV}(h:Row Tryz.prog (f+10) 175 r):∃ x:DRule,r=J0e x:=by
 obtain ⟨parts,rfl,g0⟩:=J3x Tryz.underlying175 h
 obtain ⟨x0,m1,rfl,h0,g1⟩:=J1b g0
 obtain ⟨x1,m2,rfl,h1,g2⟩:=J1b g1
 obtain ⟨x2,m3,rfl,h2,g3⟩:=J1b g2
 obtain ⟨x3,m4,rfl,h3,g4⟩:=J1b g3
 obtain ⟨x4,m5,rfl,h4,g5⟩:=J1b g4
 cases J53 g5
 obtain ⟨v0,rfl,_⟩:=J46 Tryz.underlying9 h0
 obtain ⟨v1,rfl⟩:=Jky h1
 obtain ⟨v2,rfl⟩:=Jpr h2
 obtain ⟨v3,rfl⟩:=Jrg h3
 obtain ⟨v4,rfl⟩:=Ju5 h4
 exact ⟨⟨v0,v1,v2,v3,v4⟩,rfl⟩
theorem Jrb {f:Nat}{r:List AV}(h:Row Tryz.prog (f+11) 23 r):∃ x:List DRule,r=[.sl 7 (x.map J0e)]:=by
 obtain ⟨rows,rfl,_,hr⟩:=J43 Tryz.underlying23 h
 obtain ⟨l,rfl⟩:=J2m (f:=J0e) (fun r h=>Jy9 h) hr
 exact ⟨l,by rw [show Tryz.prog.cellsOf 175=7 by kernel_rfl]⟩
theorem Jmy {f:Nat}{r:List AV}(h:Row Tryz.prog (f+12) 25 r):∃ x:DProgram,r=J00 x:=by
 obtain ⟨parts,rfl,g0⟩:=J3x Tryz.underlying25 h
 obtain ⟨x0,m1,rfl,h0,g1⟩:=J1b g0
 obtain ⟨x1,m2,rfl,h1,g2⟩:=J1b g1
 cases J53 g2
 obtain ⟨v0,rfl⟩:=Jjk h0
 obtain ⟨v1,rfl⟩:=Jrb h1
 exact ⟨⟨v0,v1⟩,rfl⟩
theorem Jkj {f:Nat}{a:AV}(h:Jda Tryz.prog (f+12) 25 a):∃ x:DProgram,a = .agg (J00 x):=by
 obtain ⟨row,rfl,h1⟩:=Jcv Tryz.underlying25 h
 obtain ⟨x,rfl⟩:=Jmy h1
 exact ⟨x,rfl⟩
theorem Js0 {f:Nat}{r:List AV}(h:Row Tryz.prog (f+5) 74 r):∃ x:List (List DLin),r=[.sl 1 (x.map J2r)]:=by
 obtain ⟨rows,rfl,_,hr⟩:=J43 Tryz.underlying74 h
 obtain ⟨l,rfl⟩:=J2m (f:=J2r) (fun r h=>Joc h) hr
 exact ⟨l,by rw [show Tryz.prog.cellsOf 51=1 by kernel_rfl]⟩
theorem Jn0 {f:Nat}{r:List AV}(h:Row Tryz.prog (f+6) 76 r):∃ x:DRanking,r=J0d x:=by
 obtain ⟨parts,rfl,g0⟩:=J3x Tryz.underlying76 h
 obtain ⟨x0,m1,rfl,h0,g1⟩:=J1b g0
 obtain ⟨x1,m2,rfl,h1,g2⟩:=J1b g1
 cases J53 g2
 obtain ⟨v0,rfl⟩:=Js0 h0
 obtain ⟨v1,rfl⟩:=Jkk h1
 exact ⟨⟨v0,v1⟩,rfl⟩
theorem Jla {f:Nat}{a:AV}(h:Jda Tryz.prog (f+6) 76 a):∃ x:DRanking,a = .agg (J0d x):=by
 obtain ⟨row,rfl,h1⟩:=Jcv Tryz.underlying76 h
 obtain ⟨x,rfl⟩:=Jn0 h1
 exact ⟨x,rfl⟩
end Go.Proofs.YtoclolkigjbcgaaGreat
namespace Go.Proofs.YtoclolkigjbcgaaGreat
set_option linter.all false
open Go Go.RowKit Go.Proofs Go.ChangeShapes Go.WideShapes
theorem Jfr {P:Program}{f:FuncId}{fn:Func}{s:ChangeSpec}{c:OpenClaim}(k0:c.wf (OpenSpec.ofChange s)=true) (k1:laidOutB P=true) (k2:mapsRowed P=true) (k3:fn.params.all (P.readableRec ·)=true) (k4:namedTie P c.named s.vars=true) (k5:(c.stops==[])=true) (k6:(P.stops==[])=true) (k7:(c.knobs==[])=true) (k8:(P.stopKnobs==[])=true) (k9:(c.inPlace==P.inPlace f)=true) (k10:(c.unfollowed==P.unfollowed f)=true) (k11:(c.recurses==P.recurses f)=true) (k12:(c.named==P.varsNamed f)=true) (k13:(c.maps==(fn.params.toList++s.plain.varTypes P).any (P.mapsRec ·))=true) (k14:(c.ifaces==(fn.params.toList++s.plain.varTypes P).any (P.ifacesRec ·))=true) (k15:(c.mapsOut==P.mapsAmong fn.resultTypes.toList)=true) (k16:(c.loops==(fn.params.toList++s.plain.varTypes P).any (P.loopsFrom ·))=true) (k17:(c.wideKeys==(fn.params.toList++s.plain.varTypes P++fn.resultTypes.toList).any (P.wideKeysFrom ·))=true) (k18:s.vars.all (P.varReadable ·)=true) (k19:fn.resultTypes.all (fun t=>P.readableRec t&&decide (t<P.types.size))=true) (k20:(c.ifacesOut==fn.resultTypes.toList.any (P.ifacesRec ·))=true) (k21:(c.loopsOut==fn.resultTypes.toList.any (P.loopsFrom ·))=true) (k22:(c.plainKeys==P.plainKeys)=true) (k23:c.shortTexts.isNone=true) (k24:P.stopsHeard=true) (k25:P.mayEnter=true) (k26:(c.lifted==P.liftsFinal)=true) (k27:(P.make==some c.make)=true) (k28:(c.kinds==(if c.domain.isEmpty then [] else fn.params.toList.map fun t=>match P.underlying t with|some (.int k)=>some k|_=>none))=true) (k29:(c.pinned==c.pinnedBy)=true) (k30:(c.veiled==(fn.params.toList++s.plain.varTypes P++fn.resultTypes.toList).any (P.veiledRec ·))=true) (k31:c.veiledFits P fn.params.toList (fn.params.toList++s.plain.varTypes P++fn.resultTypes.toList)=true):joinedFacts P f fn s c=true:=by
 simp only [joinedFacts,Bool.and_eq_true]
 and_intros <;> assumption
set_option maxRecDepth 100000
theorem K0c:laidOutB Tryz.pinned.checked.prog=true:=Tryz.laidOut
theorem K1f:mapsRowed Tryz.pinned.checked.prog=true:=by kernel_rfl
theorem Jvh:Tryz.pinned.checked.prog.stopsHeard=true:=by kernel_rfl
theorem Jyb:Tryz.pinned.checked.prog.mayEnter=true:=by kernel_rfl
end Go.Proofs.YtoclolkigjbcgaaGreat

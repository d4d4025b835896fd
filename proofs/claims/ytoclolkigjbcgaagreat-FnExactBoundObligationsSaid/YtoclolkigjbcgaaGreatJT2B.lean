/- Contracts of the laws' functions over the types. -/
import Derived.Test.YtoclolkigjbcgaaGreatJHB7
import Derived.Test.YtoclolkigjbcgaaGreatJRE
import Derived.Test.YtoclolkigjbcgaaGreatJT1
import Derived.Test.YtoclolkigjbcgaaGreatProg
namespace Go.Proofs.YtoclolkigjbcgaaGreat
set_option maxRecDepth 40000
set_option maxHeartbeats 4000000
set_option linter.all false
open Go Go.RowKit Go.Proofs
def a332:AFn:= ⟨13,[.t 4],(.seq (.reg [⟨some 2,.boxv (.t 0),no⟩,⟨some 4,.mv (.k (.int .i64 0)),no⟩]) (.seq (.reg [⟨some 5,.mv (.t 1),no⟩,⟨some 6,.fld 1 (.t 2),no⟩,⟨some 7,.ld false 1 (.t 6),no⟩,⟨some 8,.len true (.t 7),no⟩,⟨some 9,.bin .sub (.t 5) (.t 8),no⟩,⟨some 1,.mv (.t 9),no⟩]) (.seq (.seq (.reg [⟨some 10,.mv (.t 1),no⟩,⟨some 11,.bin .lss (.t 10) (.k (.int .i64 0)),no⟩]) (.cond (.t 11) (.seq (.reg [⟨some 4,.mv (.k (.int .i64 (-1))),no⟩]) .ret) .skip)) (.seq (.reg [⟨some 12,.mv (.t 1),no⟩,⟨some 4,.mv (.t 12),no⟩]) .ret))))⟩
theorem a332_ok:J09 Tryz.prog Tryz.f332=some a332:=by kernel_rfl
def a334:AFn:= ⟨11,[(.c 2 true 2)],(.seq (.reg [⟨some 1,.boxv (.t 0),no⟩,⟨some 2,.box [(.int .i64 0),(.str [])],no⟩]) (.seq (.reg [⟨some 3,.box [(.int .i64 0),(.str [])],no⟩]) (.seq (.reg [⟨some 4,.fld 0 (.t 1),no⟩,⟨some 5,.ld false 1 (.t 4),no⟩,⟨some 6,.fld 0 (.t 3),no⟩,⟨no,.st 1 (.t 6) (.t 5),no⟩]) (.seq (.reg [⟨some 7,.fld 1 (.t 1),no⟩,⟨some 8,.ld false 1 (.t 7),no⟩,⟨some 9,.fld 1 (.t 3),no⟩,⟨no,.st 1 (.t 9) (.t 8),no⟩]) (.seq (.reg [⟨some 10,.ld true 2 (.t 3),no⟩,⟨no,.st 2 (.t 2) (.t 10),no⟩]) .ret)))))⟩
theorem a334_ok:J09 Tryz.prog Tryz.f334=some a334:=by kernel_rfl
def a337:AFn:= ⟨15,[.t 4],(.seq (.reg [⟨some 2,.boxv (.t 0),no⟩,⟨some 3,.boxv (.t 1),no⟩,⟨some 4,.mv (.k (.bool false)),no⟩]) (.seq (.seq (.reg [⟨some 5,.fld 0 (.t 2),no⟩,⟨some 6,.ld false 1 (.t 5),no⟩,⟨some 7,.fld 0 (.t 3),no⟩,⟨some 8,.ld false 1 (.t 7),no⟩,⟨some 9,.bin .neq (.t 6) (.t 8),no⟩]) (.cond (.t 9) (.seq (.reg [⟨some 4,.mv (.k (.bool false)),no⟩]) .ret) .skip)) (.seq (.seq (.reg [⟨some 10,.fld 1 (.t 2),no⟩,⟨some 11,.ld false 1 (.t 10),no⟩,⟨some 12,.fld 1 (.t 3),no⟩,⟨some 13,.ld false 1 (.t 12),no⟩,⟨some 14,.bin .neq (.t 11) (.t 13),no⟩]) (.cond (.t 14) (.seq (.reg [⟨some 4,.mv (.k (.bool false)),no⟩]) .ret) .skip)) (.seq (.reg [⟨some 4,.mv (.k (.bool true)),no⟩]) .ret))))⟩
theorem a337_ok:J09 Tryz.prog Tryz.f337=some a337:=by kernel_rfl
def a283:AFn:= ⟨12,[.t 4],(.seq (.reg [⟨some 2,.boxv (.t 0),no⟩,⟨some 4,.mv (.k (.int .i64 0)),no⟩]) (.seq (.reg [⟨some 5,.fld 1 (.t 2),no⟩,⟨some 6,.ld false 1 (.t 5),no⟩,⟨some 7,.mv (.t 1),no⟩,⟨some 8,.call (.k (.fn (.func 314) [] [])) [.t 6,.t 7],no⟩,⟨some 1,.mv (.t 8),no⟩]) (.seq (.seq (.reg [⟨some 9,.mv (.t 1),no⟩,⟨some 10,.bin .lss (.t 9) (.k (.int .i64 0)),no⟩]) (.cond (.t 10) (.seq (.reg [⟨some 4,.mv (.k (.int .i64 (-1))),no⟩]) .ret) .skip)) (.seq (.reg [⟨some 11,.mv (.t 1),no⟩,⟨some 4,.mv (.t 11),no⟩]) .ret))))⟩
theorem a283_ok:J09 Tryz.prog Tryz.f283=some a283:=by kernel_rfl
def a290:AFn:= ⟨12,[(.c 2 true 2)],(.seq (.reg [⟨some 1,.boxv (.t 0),no⟩,⟨some 2,.box [(.int .i64 0),(.nil 2)],no⟩]) (.seq (.reg [⟨some 3,.box [(.int .i64 0),(.nil 2)],no⟩]) (.seq (.reg [⟨some 4,.fld 0 (.t 1),no⟩,⟨some 5,.ld false 1 (.t 4),no⟩,⟨some 6,.fld 0 (.t 3),no⟩,⟨no,.st 1 (.t 6) (.t 5),no⟩]) (.seq (.reg [⟨some 7,.fld 1 (.t 1),no⟩,⟨some 8,.ld false 1 (.t 7),no⟩,⟨some 9,.call (.k (.fn (.func 320) [] [])) [.t 8],no⟩,⟨some 10,.fld 1 (.t 3),no⟩,⟨no,.st 1 (.t 10) (.t 9),no⟩]) (.seq (.reg [⟨some 11,.ld true 2 (.t 3),no⟩,⟨no,.st 2 (.t 2) (.t 11),no⟩]) .ret)))))⟩
theorem a290_ok:J09 Tryz.prog Tryz.f290=some a290:=by kernel_rfl
def a301:AFn:= ⟨16,[.t 4],(.seq (.reg [⟨some 2,.boxv (.t 0),no⟩,⟨some 3,.boxv (.t 1),no⟩,⟨some 4,.mv (.k (.bool false)),no⟩]) (.seq (.seq (.reg [⟨some 5,.fld 0 (.t 2),no⟩,⟨some 6,.ld false 1 (.t 5),no⟩,⟨some 7,.fld 0 (.t 3),no⟩,⟨some 8,.ld false 1 (.t 7),no⟩,⟨some 9,.bin .neq (.t 6) (.t 8),no⟩]) (.cond (.t 9) (.seq (.reg [⟨some 4,.mv (.k (.bool false)),no⟩]) .ret) .skip)) (.seq (.seq (.reg [⟨some 10,.fld 1 (.t 2),no⟩,⟨some 11,.ld false 1 (.t 10),no⟩,⟨some 12,.fld 1 (.t 3),no⟩,⟨some 13,.ld false 1 (.t 12),no⟩,⟨some 14,.call (.k (.fn (.func 326) [] [])) [.t 11,.t 13],no⟩,⟨some 15,.un .not (.t 14),no⟩]) (.cond (.t 15) (.seq (.reg [⟨some 4,.mv (.k (.bool false)),no⟩]) .ret) .skip)) (.seq (.reg [⟨some 4,.mv (.k (.bool true)),no⟩]) .ret))))⟩
theorem a301_ok:J09 Tryz.prog Tryz.f301=some a301:=by kernel_rfl
def a215:AFn:= ⟨19,[.t 4],(.seq (.reg [⟨some 2,.boxv (.t 0),no⟩,⟨some 4,.mv (.k (.int .i64 0)),no⟩]) (.seq (.reg [⟨some 5,.fld 1 (.t 2),no⟩,⟨some 6,.ld false 1 (.t 5),no⟩,⟨some 7,.mv (.t 1),no⟩,⟨some 8,.call (.k (.fn (.func 213) [] [])) [.t 6,.t 7],no⟩,⟨some 1,.mv (.t 8),no⟩]) (.seq (.seq (.reg [⟨some 9,.mv (.t 1),no⟩,⟨some 10,.bin .lss (.t 9) (.k (.int .i64 0)),no⟩]) (.cond (.t 10) (.seq (.reg [⟨some 4,.mv (.k (.int .i64 (-1))),no⟩]) .ret) .skip)) (.seq (.reg [⟨some 11,.mv (.t 1),no⟩,⟨some 12,.fld 2 (.t 2),no⟩,⟨some 13,.ld false 1 (.t 12),no⟩,⟨some 14,.len true (.t 13),no⟩,⟨some 15,.bin .sub (.t 11) (.t 14),no⟩,⟨some 1,.mv (.t 15),no⟩]) (.seq (.seq (.reg [⟨some 16,.mv (.t 1),no⟩,⟨some 17,.bin .lss (.t 16) (.k (.int .i64 0)),no⟩]) (.cond (.t 17) (.seq (.reg [⟨some 4,.mv (.k (.int .i64 (-1))),no⟩]) .ret) .skip)) (.seq (.reg [⟨some 18,.mv (.t 1),no⟩,⟨some 4,.mv (.t 18),no⟩]) .ret))))))⟩
theorem a215_ok:J09 Tryz.prog Tryz.f215=some a215:=by kernel_rfl
def a229:AFn:= ⟨15,[(.c 2 true 3)],(.seq (.reg [⟨some 1,.boxv (.t 0),no⟩,⟨some 2,.box [(.bool false),(.nil 2),(.str [])],no⟩]) (.seq (.reg [⟨some 3,.box [(.bool false),(.nil 2),(.str [])],no⟩]) (.seq (.reg [⟨some 4,.fld 0 (.t 1),no⟩,⟨some 5,.ld false 1 (.t 4),no⟩,⟨some 6,.fld 0 (.t 3),no⟩,⟨no,.st 1 (.t 6) (.t 5),no⟩]) (.seq (.reg [⟨some 7,.fld 1 (.t 1),no⟩,⟨some 8,.ld false 1 (.t 7),no⟩,⟨some 9,.call (.k (.fn (.func 227) [] [])) [.t 8],no⟩,⟨some 10,.fld 1 (.t 3),no⟩,⟨no,.st 1 (.t 10) (.t 9),no⟩]) (.seq (.reg [⟨some 11,.fld 2 (.t 1),no⟩,⟨some 12,.ld false 1 (.t 11),no⟩,⟨some 13,.fld 2 (.t 3),no⟩,⟨no,.st 1 (.t 13) (.t 12),no⟩]) (.seq (.reg [⟨some 14,.ld true 3 (.t 3),no⟩,⟨no,.st 3 (.t 2) (.t 14),no⟩]) .ret))))))⟩
theorem a229_ok:J09 Tryz.prog Tryz.f229=some a229:=by kernel_rfl
def a247:AFn:= ⟨21,[.t 4],(.seq (.reg [⟨some 2,.boxv (.t 0),no⟩,⟨some 3,.boxv (.t 1),no⟩,⟨some 4,.mv (.k (.bool false)),no⟩]) (.seq (.seq (.reg [⟨some 5,.fld 0 (.t 2),no⟩,⟨some 6,.ld false 1 (.t 5),no⟩,⟨some 7,.fld 0 (.t 3),no⟩,⟨some 8,.ld false 1 (.t 7),no⟩,⟨some 9,.beq true (.t 6) (.t 8),no⟩]) (.cond (.t 9) (.seq (.reg [⟨some 4,.mv (.k (.bool false)),no⟩]) .ret) .skip)) (.seq (.seq (.reg [⟨some 10,.fld 1 (.t 2),no⟩,⟨some 11,.ld false 1 (.t 10),no⟩,⟨some 12,.fld 1 (.t 3),no⟩,⟨some 13,.ld false 1 (.t 12),no⟩,⟨some 14,.call (.k (.fn (.func 245) [] [])) [.t 11,.t 13],no⟩,⟨some 15,.un .not (.t 14),no⟩]) (.cond (.t 15) (.seq (.reg [⟨some 4,.mv (.k (.bool false)),no⟩]) .ret) .skip)) (.seq (.seq (.reg [⟨some 16,.fld 2 (.t 2),no⟩,⟨some 17,.ld false 1 (.t 16),no⟩,⟨some 18,.fld 2 (.t 3),no⟩,⟨some 19,.ld false 1 (.t 18),no⟩,⟨some 20,.bin .neq (.t 17) (.t 19),no⟩]) (.cond (.t 20) (.seq (.reg [⟨some 4,.mv (.k (.bool false)),no⟩]) .ret) .skip)) (.seq (.reg [⟨some 4,.mv (.k (.bool true)),no⟩]) .ret)))))⟩
theorem a247_ok:J09 Tryz.prog Tryz.f247=some a247:=by kernel_rfl
def a282:AFn:= ⟨27,[.t 4],(.seq (.reg [⟨some 2,.boxv (.t 0),no⟩,⟨some 4,.mv (.k (.int .i64 0)),no⟩]) (.seq (.reg [⟨some 5,.mv (.t 1),no⟩,⟨some 6,.fld 0 (.t 2),no⟩,⟨some 7,.ld false 1 (.t 6),no⟩,⟨some 8,.len true (.t 7),no⟩,⟨some 9,.bin .sub (.t 5) (.t 8),no⟩,⟨some 1,.mv (.t 9),no⟩]) (.seq (.seq (.reg [⟨some 10,.mv (.t 1),no⟩,⟨some 11,.bin .lss (.t 10) (.k (.int .i64 0)),no⟩]) (.cond (.t 11) (.seq (.reg [⟨some 4,.mv (.k (.int .i64 (-1))),no⟩]) .ret) .skip)) (.seq (.reg [⟨some 12,.mv (.t 1),no⟩,⟨some 13,.fld 2 (.t 2),no⟩,⟨some 14,.ld false 1 (.t 13),no⟩,⟨some 15,.len true (.t 14),no⟩,⟨some 16,.bin .sub (.t 12) (.t 15),no⟩,⟨some 1,.mv (.t 16),no⟩]) (.seq (.seq (.reg [⟨some 17,.mv (.t 1),no⟩,⟨some 18,.bin .lss (.t 17) (.k (.int .i64 0)),no⟩]) (.cond (.t 18) (.seq (.reg [⟨some 4,.mv (.k (.int .i64 (-1))),no⟩]) .ret) .skip)) (.seq (.reg [⟨some 19,.mv (.t 1),no⟩,⟨some 20,.fld 3 (.t 2),no⟩,⟨some 21,.ld false 1 (.t 20),no⟩,⟨some 22,.len true (.t 21),no⟩,⟨some 23,.bin .sub (.t 19) (.t 22),no⟩,⟨some 1,.mv (.t 23),no⟩]) (.seq (.seq (.reg [⟨some 24,.mv (.t 1),no⟩,⟨some 25,.bin .lss (.t 24) (.k (.int .i64 0)),no⟩]) (.cond (.t 25) (.seq (.reg [⟨some 4,.mv (.k (.int .i64 (-1))),no⟩]) .ret) .skip)) (.seq (.reg [⟨some 26,.mv (.t 1),no⟩,⟨some 4,.mv (.t 26),no⟩]) .ret))))))))⟩
theorem a282_ok:J09 Tryz.prog Tryz.f282=some a282:=by kernel_rfl
def a289:AFn:= ⟨17,[(.c 2 true 4)],(.seq (.reg [⟨some 1,.boxv (.t 0),no⟩,⟨some 2,.box [(.str []),(.bool false),(.str []),(.str [])],no⟩]) (.seq (.reg [⟨some 3,.box [(.str []),(.bool false),(.str []),(.str [])],no⟩]) (.seq (.reg [⟨some 4,.fld 0 (.t 1),no⟩,⟨some 5,.ld false 1 (.t 4),no⟩,⟨some 6,.fld 0 (.t 3),no⟩,⟨no,.st 1 (.t 6) (.t 5),no⟩]) (.seq (.reg [⟨some 7,.fld 1 (.t 1),no⟩,⟨some 8,.ld false 1 (.t 7),no⟩,⟨some 9,.fld 1 (.t 3),no⟩,⟨no,.st 1 (.t 9) (.t 8),no⟩]) (.seq (.reg [⟨some 10,.fld 2 (.t 1),no⟩,⟨some 11,.ld false 1 (.t 10),no⟩,⟨some 12,.fld 2 (.t 3),no⟩,⟨no,.st 1 (.t 12) (.t 11),no⟩]) (.seq (.reg [⟨some 13,.fld 3 (.t 1),no⟩,⟨some 14,.ld false 1 (.t 13),no⟩,⟨some 15,.fld 3 (.t 3),no⟩,⟨no,.st 1 (.t 15) (.t 14),no⟩]) (.seq (.reg [⟨some 16,.ld true 4 (.t 3),no⟩,⟨no,.st 4 (.t 2) (.t 16),no⟩]) .ret)))))))⟩
theorem a289_ok:J09 Tryz.prog Tryz.f289=some a289:=by kernel_rfl
def a300:AFn:= ⟨25,[.t 4],(.seq (.reg [⟨some 2,.boxv (.t 0),no⟩,⟨some 3,.boxv (.t 1),no⟩,⟨some 4,.mv (.k (.bool false)),no⟩]) (.seq (.seq (.reg [⟨some 5,.fld 0 (.t 2),no⟩,⟨some 6,.ld false 1 (.t 5),no⟩,⟨some 7,.fld 0 (.t 3),no⟩,⟨some 8,.ld false 1 (.t 7),no⟩,⟨some 9,.bin .neq (.t 6) (.t 8),no⟩]) (.cond (.t 9) (.seq (.reg [⟨some 4,.mv (.k (.bool false)),no⟩]) .ret) .skip)) (.seq (.seq (.reg [⟨some 10,.fld 1 (.t 2),no⟩,⟨some 11,.ld false 1 (.t 10),no⟩,⟨some 12,.fld 1 (.t 3),no⟩,⟨some 13,.ld false 1 (.t 12),no⟩,⟨some 14,.beq true (.t 11) (.t 13),no⟩]) (.cond (.t 14) (.seq (.reg [⟨some 4,.mv (.k (.bool false)),no⟩]) .ret) .skip)) (.seq (.seq (.reg [⟨some 15,.fld 2 (.t 2),no⟩,⟨some 16,.ld false 1 (.t 15),no⟩,⟨some 17,.fld 2 (.t 3),no⟩,⟨some 18,.ld false 1 (.t 17),no⟩,⟨some 19,.bin .neq (.t 16) (.t 18),no⟩]) (.cond (.t 19) (.seq (.reg [⟨some 4,.mv (.k (.bool false)),no⟩]) .ret) .skip)) (.seq (.seq (.reg [⟨some 20,.fld 3 (.t 2),no⟩,⟨some 21,.ld false 1 (.t 20),no⟩,⟨some 22,.fld 3 (.t 3),no⟩,⟨some 23,.ld false 1 (.t 22),no⟩,⟨some 24,.bin .neq (.t 21) (.t 23),no⟩]) (.cond (.t 24) (.seq (.reg [⟨some 4,.mv (.k (.bool false)),no⟩]) .ret) .skip)) (.seq (.reg [⟨some 4,.mv (.k (.bool true)),no⟩]) .ret))))))⟩
theorem a300_ok:J09 Tryz.prog Tryz.f300=some a300:=by kernel_rfl
def a284:AFn:= ⟨26,[.t 4],(.seq (.reg [⟨some 2,.boxv (.t 0),no⟩,⟨some 4,.mv (.k (.int .i64 0)),no⟩]) (.seq (.reg [⟨some 5,.mv (.t 1),no⟩,⟨some 6,.fld 0 (.t 2),no⟩,⟨some 7,.ld false 1 (.t 6),no⟩,⟨some 8,.len true (.t 7),no⟩,⟨some 9,.bin .sub (.t 5) (.t 8),no⟩,⟨some 1,.mv (.t 9),no⟩]) (.seq (.seq (.reg [⟨some 10,.mv (.t 1),no⟩,⟨some 11,.bin .lss (.t 10) (.k (.int .i64 0)),no⟩]) (.cond (.t 11) (.seq (.reg [⟨some 4,.mv (.k (.int .i64 (-1))),no⟩]) .ret) .skip)) (.seq (.reg [⟨some 12,.mv (.t 1),no⟩,⟨some 13,.fld 1 (.t 2),no⟩,⟨some 14,.ld false 1 (.t 13),no⟩,⟨some 15,.len true (.t 14),no⟩,⟨some 16,.bin .sub (.t 12) (.t 15),no⟩,⟨some 1,.mv (.t 16),no⟩]) (.seq (.seq (.reg [⟨some 17,.mv (.t 1),no⟩,⟨some 18,.bin .lss (.t 17) (.k (.int .i64 0)),no⟩]) (.cond (.t 18) (.seq (.reg [⟨some 4,.mv (.k (.int .i64 (-1))),no⟩]) .ret) .skip)) (.seq (.reg [⟨some 19,.fld 2 (.t 2),no⟩,⟨some 20,.ld false 1 (.t 19),no⟩,⟨some 21,.mv (.t 1),no⟩,⟨some 22,.call (.k (.fn (.func 315) [] [])) [.t 20,.t 21],no⟩,⟨some 1,.mv (.t 22),no⟩]) (.seq (.seq (.reg [⟨some 23,.mv (.t 1),no⟩,⟨some 24,.bin .lss (.t 23) (.k (.int .i64 0)),no⟩]) (.cond (.t 24) (.seq (.reg [⟨some 4,.mv (.k (.int .i64 (-1))),no⟩]) .ret) .skip)) (.seq (.reg [⟨some 25,.mv (.t 1),no⟩,⟨some 4,.mv (.t 25),no⟩]) .ret))))))))⟩
theorem a284_ok:J09 Tryz.prog Tryz.f284=some a284:=by kernel_rfl
def a291:AFn:= ⟨15,[(.c 2 true 3)],(.seq (.reg [⟨some 1,.boxv (.t 0),no⟩,⟨some 2,.box [(.str []),(.str []),(.nil 3)],no⟩]) (.seq (.reg [⟨some 3,.box [(.str []),(.str []),(.nil 3)],no⟩]) (.seq (.reg [⟨some 4,.fld 0 (.t 1),no⟩,⟨some 5,.ld false 1 (.t 4),no⟩,⟨some 6,.fld 0 (.t 3),no⟩,⟨no,.st 1 (.t 6) (.t 5),no⟩]) (.seq (.reg [⟨some 7,.fld 1 (.t 1),no⟩,⟨some 8,.ld false 1 (.t 7),no⟩,⟨some 9,.fld 1 (.t 3),no⟩,⟨no,.st 1 (.t 9) (.t 8),no⟩]) (.seq (.reg [⟨some 10,.fld 2 (.t 1),no⟩,⟨some 11,.ld false 1 (.t 10),no⟩,⟨some 12,.call (.k (.fn (.func 321) [] [])) [.t 11],no⟩,⟨some 13,.fld 2 (.t 3),no⟩,⟨no,.st 1 (.t 13) (.t 12),no⟩]) (.seq (.reg [⟨some 14,.ld true 3 (.t 3),no⟩,⟨no,.st 3 (.t 2) (.t 14),no⟩]) .ret))))))⟩
theorem a291_ok:J09 Tryz.prog Tryz.f291=some a291:=by kernel_rfl
def a302:AFn:= ⟨21,[.t 4],(.seq (.reg [⟨some 2,.boxv (.t 0),no⟩,⟨some 3,.boxv (.t 1),no⟩,⟨some 4,.mv (.k (.bool false)),no⟩]) (.seq (.seq (.reg [⟨some 5,.fld 0 (.t 2),no⟩,⟨some 6,.ld false 1 (.t 5),no⟩,⟨some 7,.fld 0 (.t 3),no⟩,⟨some 8,.ld false 1 (.t 7),no⟩,⟨some 9,.bin .neq (.t 6) (.t 8),no⟩]) (.cond (.t 9) (.seq (.reg [⟨some 4,.mv (.k (.bool false)),no⟩]) .ret) .skip)) (.seq (.seq (.reg [⟨some 10,.fld 1 (.t 2),no⟩,⟨some 11,.ld false 1 (.t 10),no⟩,⟨some 12,.fld 1 (.t 3),no⟩,⟨some 13,.ld false 1 (.t 12),no⟩,⟨some 14,.bin .neq (.t 11) (.t 13),no⟩]) (.cond (.t 14) (.seq (.reg [⟨some 4,.mv (.k (.bool false)),no⟩]) .ret) .skip)) (.seq (.seq (.reg [⟨some 15,.fld 2 (.t 2),no⟩,⟨some 16,.ld false 1 (.t 15),no⟩,⟨some 17,.fld 2 (.t 3),no⟩,⟨some 18,.ld false 1 (.t 17),no⟩,⟨some 19,.call (.k (.fn (.func 327) [] [])) [.t 16,.t 18],no⟩,⟨some 20,.un .not (.t 19),no⟩]) (.cond (.t 20) (.seq (.reg [⟨some 4,.mv (.k (.bool false)),no⟩]) .ret) .skip)) (.seq (.reg [⟨some 4,.mv (.k (.bool true)),no⟩]) .ret)))))⟩
theorem a302_ok:J09 Tryz.prog Tryz.f302=some a302:=by kernel_rfl
def a133:AFn:= ⟨37,[.t 4],(.seq (.reg [⟨some 2,.boxv (.t 0),no⟩,⟨some 4,.mv (.k (.int .i64 0)),no⟩]) (.seq (.reg [⟨some 5,.mv (.t 1),no⟩,⟨some 6,.fld 0 (.t 2),no⟩,⟨some 7,.ld false 1 (.t 6),no⟩,⟨some 8,.len true (.t 7),no⟩,⟨some 9,.bin .sub (.t 5) (.t 8),no⟩,⟨some 1,.mv (.t 9),no⟩]) (.seq (.seq (.reg [⟨some 10,.mv (.t 1),no⟩,⟨some 11,.bin .lss (.t 10) (.k (.int .i64 0)),no⟩]) (.cond (.t 11) (.seq (.reg [⟨some 4,.mv (.k (.int .i64 (-1))),no⟩]) .ret) .skip)) (.seq (.reg [⟨some 12,.fld 1 (.t 2),no⟩,⟨some 13,.ld false 1 (.t 12),no⟩,⟨some 14,.mv (.t 1),no⟩,⟨some 15,.call (.k (.fn (.func 212) [] [])) [.t 13,.t 14],no⟩,⟨some 1,.mv (.t 15),no⟩]) (.seq (.seq (.reg [⟨some 16,.mv (.t 1),no⟩,⟨some 17,.bin .lss (.t 16) (.k (.int .i64 0)),no⟩]) (.cond (.t 17) (.seq (.reg [⟨some 4,.mv (.k (.int .i64 (-1))),no⟩]) .ret) .skip)) (.seq (.reg [⟨some 18,.fld 2 (.t 2),no⟩,⟨some 19,.ld false 1 (.t 18),no⟩,⟨some 20,.mv (.t 1),no⟩,⟨some 21,.call (.k (.fn (.func 213) [] [])) [.t 19,.t 20],no⟩,⟨some 1,.mv (.t 21),no⟩]) (.seq (.seq (.reg [⟨some 22,.mv (.t 1),no⟩,⟨some 23,.bin .lss (.t 22) (.k (.int .i64 0)),no⟩]) (.cond (.t 23) (.seq (.reg [⟨some 4,.mv (.k (.int .i64 (-1))),no⟩]) .ret) .skip)) (.seq (.reg [⟨some 24,.fld 3 (.t 2),no⟩,⟨some 25,.ld false 1 (.t 24),no⟩,⟨some 26,.mv (.t 1),no⟩,⟨some 27,.call (.k (.fn (.func 214) [] [])) [.t 25,.t 26],no⟩,⟨some 1,.mv (.t 27),no⟩]) (.seq (.seq (.reg [⟨some 28,.mv (.t 1),no⟩,⟨some 29,.bin .lss (.t 28) (.k (.int .i64 0)),no⟩]) (.cond (.t 29) (.seq (.reg [⟨some 4,.mv (.k (.int .i64 (-1))),no⟩]) .ret) .skip)) (.seq (.reg [⟨some 30,.fld 4 (.t 2),no⟩,⟨some 31,.ld true 3 (.t 30),no⟩,⟨some 32,.mv (.t 1),no⟩,⟨some 33,.call (.k (.fn (.func 215) [] [])) [.t 31,.t 32],no⟩,⟨some 1,.mv (.t 33),no⟩]) (.seq (.seq (.reg [⟨some 34,.mv (.t 1),no⟩,⟨some 35,.bin .lss (.t 34) (.k (.int .i64 0)),no⟩]) (.cond (.t 35) (.seq (.reg [⟨some 4,.mv (.k (.int .i64 (-1))),no⟩]) .ret) .skip)) (.seq (.reg [⟨some 36,.mv (.t 1),no⟩,⟨some 4,.mv (.t 36),no⟩]) .ret))))))))))))⟩
theorem a133_ok:J09 Tryz.prog Tryz.f133=some a133:=by kernel_rfl
def a139:AFn:= ⟨24,[(.c 2 true 7)],(.seq (.reg [⟨some 1,.boxv (.t 0),no⟩,⟨some 2,.box [(.str []),(.nil 4),(.nil 2),(.nil 3),(.bool false),(.nil 2),(.str [])],no⟩]) (.seq (.reg [⟨some 3,.box [(.str []),(.nil 4),(.nil 2),(.nil 3),(.bool false),(.nil 2),(.str [])],no⟩]) (.seq (.reg [⟨some 4,.fld 0 (.t 1),no⟩,⟨some 5,.ld false 1 (.t 4),no⟩,⟨some 6,.fld 0 (.t 3),no⟩,⟨no,.st 1 (.t 6) (.t 5),no⟩]) (.seq (.reg [⟨some 7,.fld 1 (.t 1),no⟩,⟨some 8,.ld false 1 (.t 7),no⟩,⟨some 9,.call (.k (.fn (.func 226) [] [])) [.t 8],no⟩,⟨some 10,.fld 1 (.t 3),no⟩,⟨no,.st 1 (.t 10) (.t 9),no⟩]) (.seq (.reg [⟨some 11,.fld 2 (.t 1),no⟩,⟨some 12,.ld false 1 (.t 11),no⟩,⟨some 13,.call (.k (.fn (.func 227) [] [])) [.t 12],no⟩,⟨some 14,.fld 2 (.t 3),no⟩,⟨no,.st 1 (.t 14) (.t 13),no⟩]) (.seq (.reg [⟨some 15,.fld 3 (.t 1),no⟩,⟨some 16,.ld false 1 (.t 15),no⟩,⟨some 17,.call (.k (.fn (.func 228) [] [])) [.t 16],no⟩,⟨some 18,.fld 3 (.t 3),no⟩,⟨no,.st 1 (.t 18) (.t 17),no⟩]) (.seq (.reg [⟨some 19,.fld 4 (.t 1),no⟩,⟨some 20,.ld true 3 (.t 19),no⟩,⟨some 21,.call (.k (.fn (.func 229) [] [])) [.t 20],no⟩,⟨some 22,.fld 4 (.t 3),no⟩,⟨no,.st 3 (.t 22) (.t 21),no⟩]) (.seq (.reg [⟨some 23,.ld true 7 (.t 3),no⟩,⟨no,.st 7 (.t 2) (.t 23),no⟩]) .ret))))))))⟩
theorem a139_ok:J09 Tryz.prog Tryz.f139=some a139:=by kernel_rfl
def a155:AFn:= ⟨34,[.t 4],(.seq (.reg [⟨some 2,.boxv (.t 0),no⟩,⟨some 3,.boxv (.t 1),no⟩,⟨some 4,.mv (.k (.bool false)),no⟩]) (.seq (.seq (.reg [⟨some 5,.fld 0 (.t 2),no⟩,⟨some 6,.ld false 1 (.t 5),no⟩,⟨some 7,.fld 0 (.t 3),no⟩,⟨some 8,.ld false 1 (.t 7),no⟩,⟨some 9,.bin .neq (.t 6) (.t 8),no⟩]) (.cond (.t 9) (.seq (.reg [⟨some 4,.mv (.k (.bool false)),no⟩]) .ret) .skip)) (.seq (.seq (.reg [⟨some 10,.fld 1 (.t 2),no⟩,⟨some 11,.ld false 1 (.t 10),no⟩,⟨some 12,.fld 1 (.t 3),no⟩,⟨some 13,.ld false 1 (.t 12),no⟩,⟨some 14,.call (.k (.fn (.func 244) [] [])) [.t 11,.t 13],no⟩,⟨some 15,.un .not (.t 14),no⟩]) (.cond (.t 15) (.seq (.reg [⟨some 4,.mv (.k (.bool false)),no⟩]) .ret) .skip)) (.seq (.seq (.reg [⟨some 16,.fld 2 (.t 2),no⟩,⟨some 17,.ld false 1 (.t 16),no⟩,⟨some 18,.fld 2 (.t 3),no⟩,⟨some 19,.ld false 1 (.t 18),no⟩,⟨some 20,.call (.k (.fn (.func 245) [] [])) [.t 17,.t 19],no⟩,⟨some 21,.un .not (.t 20),no⟩]) (.cond (.t 21) (.seq (.reg [⟨some 4,.mv (.k (.bool false)),no⟩]) .ret) .skip)) (.seq (.seq (.reg [⟨some 22,.fld 3 (.t 2),no⟩,⟨some 23,.ld false 1 (.t 22),no⟩,⟨some 24,.fld 3 (.t 3),no⟩,⟨some 25,.ld false 1 (.t 24),no⟩,⟨some 26,.call (.k (.fn (.func 246) [] [])) [.t 23,.t 25],no⟩,⟨some 27,.un .not (.t 26),no⟩]) (.cond (.t 27) (.seq (.reg [⟨some 4,.mv (.k (.bool false)),no⟩]) .ret) .skip)) (.seq (.seq (.reg [⟨some 28,.fld 4 (.t 2),no⟩,⟨some 29,.ld true 3 (.t 28),no⟩,⟨some 30,.fld 4 (.t 3),no⟩,⟨some 31,.ld true 3 (.t 30),no⟩,⟨some 32,.call (.k (.fn (.func 247) [] [])) [.t 29,.t 31],no⟩,⟨some 33,.un .not (.t 32),no⟩]) (.cond (.t 33) (.seq (.reg [⟨some 4,.mv (.k (.bool false)),no⟩]) .ret) .skip)) (.seq (.reg [⟨some 4,.mv (.k (.bool true)),no⟩]) .ret)))))))⟩
theorem a155_ok:J09 Tryz.prog Tryz.f155=some a155:=by kernel_rfl
def a132:AFn:= ⟨25,[.t 4],(.seq (.reg [⟨some 2,.boxv (.t 0),no⟩,⟨some 4,.mv (.k (.int .i64 0)),no⟩]) (.seq (.reg [⟨some 5,.mv (.t 1),no⟩,⟨some 6,.fld 0 (.t 2),no⟩,⟨some 7,.ld false 1 (.t 6),no⟩,⟨some 8,.len true (.t 7),no⟩,⟨some 9,.bin .sub (.t 5) (.t 8),no⟩,⟨some 1,.mv (.t 9),no⟩]) (.seq (.seq (.reg [⟨some 10,.mv (.t 1),no⟩,⟨some 11,.bin .lss (.t 10) (.k (.int .i64 0)),no⟩]) (.cond (.t 11) (.seq (.reg [⟨some 4,.mv (.k (.int .i64 (-1))),no⟩]) .ret) .skip)) (.seq (.reg [⟨some 12,.fld 1 (.t 2),no⟩,⟨some 13,.ld false 1 (.t 12),no⟩,⟨some 14,.mv (.t 1),no⟩,⟨some 15,.call (.k (.fn (.func 211) [] [])) [.t 13,.t 14],no⟩,⟨some 1,.mv (.t 15),no⟩]) (.seq (.seq (.reg [⟨some 16,.mv (.t 1),no⟩,⟨some 17,.bin .lss (.t 16) (.k (.int .i64 0)),no⟩]) (.cond (.t 17) (.seq (.reg [⟨some 4,.mv (.k (.int .i64 (-1))),no⟩]) .ret) .skip)) (.seq (.reg [⟨some 18,.fld 3 (.t 2),no⟩,⟨some 19,.ld false 1 (.t 18),no⟩,⟨some 20,.mv (.t 1),no⟩,⟨some 21,.call (.k (.fn (.func 95) [] [])) [.t 19,.t 20],no⟩,⟨some 1,.mv (.t 21),no⟩]) (.seq (.seq (.reg [⟨some 22,.mv (.t 1),no⟩,⟨some 23,.bin .lss (.t 22) (.k (.int .i64 0)),no⟩]) (.cond (.t 23) (.seq (.reg [⟨some 4,.mv (.k (.int .i64 (-1))),no⟩]) .ret) .skip)) (.seq (.reg [⟨some 24,.mv (.t 1),no⟩,⟨some 4,.mv (.t 24),no⟩]) .ret))))))))⟩
theorem a132_ok:J09 Tryz.prog Tryz.f132=some a132:=by kernel_rfl
def a138:AFn:= ⟨19,[(.c 2 true 4)],(.seq (.reg [⟨some 1,.boxv (.t 0),no⟩,⟨some 2,.box [(.str []),(.nil 1),(.bool false),(.nil 2)],no⟩]) (.seq (.reg [⟨some 3,.box [(.str []),(.nil 1),(.bool false),(.nil 2)],no⟩]) (.seq (.reg [⟨some 4,.fld 0 (.t 1),no⟩,⟨some 5,.ld false 1 (.t 4),no⟩,⟨some 6,.fld 0 (.t 3),no⟩,⟨no,.st 1 (.t 6) (.t 5),no⟩]) (.seq (.reg [⟨some 7,.fld 1 (.t 1),no⟩,⟨some 8,.ld false 1 (.t 7),no⟩,⟨some 9,.call (.k (.fn (.func 225) [] [])) [.t 8],no⟩,⟨some 10,.fld 1 (.t 3),no⟩,⟨no,.st 1 (.t 10) (.t 9),no⟩]) (.seq (.reg [⟨some 11,.fld 2 (.t 1),no⟩,⟨some 12,.ld false 1 (.t 11),no⟩,⟨some 13,.fld 2 (.t 3),no⟩,⟨no,.st 1 (.t 13) (.t 12),no⟩]) (.seq (.reg [⟨some 14,.fld 3 (.t 1),no⟩,⟨some 15,.ld false 1 (.t 14),no⟩,⟨some 16,.call (.k (.fn (.func 101) [] [])) [.t 15],no⟩,⟨some 17,.fld 3 (.t 3),no⟩,⟨no,.st 1 (.t 17) (.t 16),no⟩]) (.seq (.reg [⟨some 18,.ld true 4 (.t 3),no⟩,⟨no,.st 4 (.t 2) (.t 18),no⟩]) .ret)))))))⟩
theorem a138_ok:J09 Tryz.prog Tryz.f138=some a138:=by kernel_rfl
def a154:AFn:= ⟨27,[.t 4],(.seq (.reg [⟨some 2,.boxv (.t 0),no⟩,⟨some 3,.boxv (.t 1),no⟩,⟨some 4,.mv (.k (.bool false)),no⟩]) (.seq (.seq (.reg [⟨some 5,.fld 0 (.t 2),no⟩,⟨some 6,.ld false 1 (.t 5),no⟩,⟨some 7,.fld 0 (.t 3),no⟩,⟨some 8,.ld false 1 (.t 7),no⟩,⟨some 9,.bin .neq (.t 6) (.t 8),no⟩]) (.cond (.t 9) (.seq (.reg [⟨some 4,.mv (.k (.bool false)),no⟩]) .ret) .skip)) (.seq (.seq (.reg [⟨some 10,.fld 1 (.t 2),no⟩,⟨some 11,.ld false 1 (.t 10),no⟩,⟨some 12,.fld 1 (.t 3),no⟩,⟨some 13,.ld false 1 (.t 12),no⟩,⟨some 14,.call (.k (.fn (.func 73) [] [])) [.t 11,.t 13],no⟩,⟨some 15,.un .not (.t 14),no⟩]) (.cond (.t 15) (.seq (.reg [⟨some 4,.mv (.k (.bool false)),no⟩]) .ret) .skip)) (.seq (.seq (.reg [⟨some 16,.fld 2 (.t 2),no⟩,⟨some 17,.ld false 1 (.t 16),no⟩,⟨some 18,.fld 2 (.t 3),no⟩,⟨some 19,.ld false 1 (.t 18),no⟩,⟨some 20,.beq true (.t 17) (.t 19),no⟩]) (.cond (.t 20) (.seq (.reg [⟨some 4,.mv (.k (.bool false)),no⟩]) .ret) .skip)) (.seq (.seq (.reg [⟨some 21,.fld 3 (.t 2),no⟩,⟨some 22,.ld false 1 (.t 21),no⟩,⟨some 23,.fld 3 (.t 3),no⟩,⟨some 24,.ld false 1 (.t 23),no⟩,⟨some 25,.call (.k (.fn (.func 107) [] [])) [.t 22,.t 24],no⟩,⟨some 26,.un .not (.t 25),no⟩]) (.cond (.t 26) (.seq (.reg [⟨some 4,.mv (.k (.bool false)),no⟩]) .ret) .skip)) (.seq (.reg [⟨some 4,.mv (.k (.bool true)),no⟩]) .ret))))))⟩
theorem a154_ok:J09 Tryz.prog Tryz.f154=some a154:=by kernel_rfl
def a12:AFn:= ⟨18,[.t 4],(.seq (.reg [⟨some 2,.boxv (.t 0),no⟩,⟨some 4,.mv (.k (.int .i64 0)),no⟩]) (.seq (.reg [⟨some 5,.fld 0 (.t 2),no⟩,⟨some 6,.ld false 1 (.t 5),no⟩,⟨some 7,.mv (.t 1),no⟩,⟨some 8,.call (.k (.fn (.func 58) [] [])) [.t 6,.t 7],no⟩,⟨some 1,.mv (.t 8),no⟩]) (.seq (.seq (.reg [⟨some 9,.mv (.t 1),no⟩,⟨some 10,.bin .lss (.t 9) (.k (.int .i64 0)),no⟩]) (.cond (.t 10) (.seq (.reg [⟨some 4,.mv (.k (.int .i64 (-1))),no⟩]) .ret) .skip)) (.seq (.reg [⟨some 11,.fld 1 (.t 2),no⟩,⟨some 12,.ld false 1 (.t 11),no⟩,⟨some 13,.mv (.t 1),no⟩,⟨some 14,.call (.k (.fn (.func 59) [] [])) [.t 12,.t 13],no⟩,⟨some 1,.mv (.t 14),no⟩]) (.seq (.seq (.reg [⟨some 15,.mv (.t 1),no⟩,⟨some 16,.bin .lss (.t 15) (.k (.int .i64 0)),no⟩]) (.cond (.t 16) (.seq (.reg [⟨some 4,.mv (.k (.int .i64 (-1))),no⟩]) .ret) .skip)) (.seq (.reg [⟨some 17,.mv (.t 1),no⟩,⟨some 4,.mv (.t 17),no⟩]) .ret))))))⟩
theorem a12_ok:J09 Tryz.prog Tryz.f12=some a12:=by kernel_rfl
def a14:AFn:= ⟨13,[(.c 2 true 2)],(.seq (.reg [⟨some 1,.boxv (.t 0),no⟩,⟨some 2,.box [(.nil 4),(.nil 7)],no⟩]) (.seq (.reg [⟨some 3,.box [(.nil 4),(.nil 7)],no⟩]) (.seq (.reg [⟨some 4,.fld 0 (.t 1),no⟩,⟨some 5,.ld false 1 (.t 4),no⟩,⟨some 6,.call (.k (.fn (.func 65) [] [])) [.t 5],no⟩,⟨some 7,.fld 0 (.t 3),no⟩,⟨no,.st 1 (.t 7) (.t 6),no⟩]) (.seq (.reg [⟨some 8,.fld 1 (.t 1),no⟩,⟨some 9,.ld false 1 (.t 8),no⟩,⟨some 10,.call (.k (.fn (.func 66) [] [])) [.t 9],no⟩,⟨some 11,.fld 1 (.t 3),no⟩,⟨no,.st 1 (.t 11) (.t 10),no⟩]) (.seq (.reg [⟨some 12,.ld true 2 (.t 3),no⟩,⟨no,.st 2 (.t 2) (.t 12),no⟩]) .ret)))))⟩
theorem a14_ok:J09 Tryz.prog Tryz.f14=some a14:=by kernel_rfl
def a17:AFn:= ⟨17,[.t 4],(.seq (.reg [⟨some 2,.boxv (.t 0),no⟩,⟨some 3,.boxv (.t 1),no⟩,⟨some 4,.mv (.k (.bool false)),no⟩]) (.seq (.seq (.reg [⟨some 5,.fld 0 (.t 2),no⟩,⟨some 6,.ld false 1 (.t 5),no⟩,⟨some 7,.fld 0 (.t 3),no⟩,⟨some 8,.ld false 1 (.t 7),no⟩,⟨some 9,.call (.k (.fn (.func 74) [] [])) [.t 6,.t 8],no⟩,⟨some 10,.un .not (.t 9),no⟩]) (.cond (.t 10) (.seq (.reg [⟨some 4,.mv (.k (.bool false)),no⟩]) .ret) .skip)) (.seq (.seq (.reg [⟨some 11,.fld 1 (.t 2),no⟩,⟨some 12,.ld false 1 (.t 11),no⟩,⟨some 13,.fld 1 (.t 3),no⟩,⟨some 14,.ld false 1 (.t 13),no⟩,⟨some 15,.call (.k (.fn (.func 75) [] [])) [.t 12,.t 14],no⟩,⟨some 16,.un .not (.t 15),no⟩]) (.cond (.t 16) (.seq (.reg [⟨some 4,.mv (.k (.bool false)),no⟩]) .ret) .skip)) (.seq (.reg [⟨some 4,.mv (.k (.bool true)),no⟩]) .ret))))⟩
theorem a17_ok:J09 Tryz.prog Tryz.f17=some a17:=by kernel_rfl
theorem Juy (x:DTerm) (left:Int) (h0:0≤left∧left≤4611686018427387904):Holds Tryz.prog 332 [.agg (J0y x),i64 left] (fun r=>r=i64 (J3b left (J7a x))):=by
 refine J03 Tryz.func332 a332_ok rfl (by simp [a332]) ?_
 simp [a332,J0y]
 have e0:J7a x=J7a x:=rfl
 conv at e0=>rhs;unfold J7a
 intro hl0
 rw [J0p (by unfold LIM at hl0;omega)]
 by_cases h1:left - (x.Name.length:Nat)<0
 case pos=>
  have q:left - (J7a x:Int)<0:=by omega
  simp [J3b,h1,q]
  try first|omega|(constructor <;> intros <;> omega)
 have g1:(x.Name.length:Nat)≤left:=by omega
 simp [J3b,h1,g1]
 try (rw [if_neg (by omega)];omega)
theorem Jtq (x:DTerm) (_hw:J7a x≤1048576):Holds Tryz.prog 334 [.agg (J0y x)] (fun r=>r = .agg (J3t x)):=by
 have hw:=_hw;unfold J7a at hw
 refine J03 Tryz.func334 a334_ok rfl (by simp [a334]) ?_
 simp [a334,J0y]
 try simp [J3t]
theorem Jtj (x y:DTerm):Holds Tryz.prog 337 [.agg (J0y x),.agg (J0y y)] (fun r=>r = .bool (decide (x=y))):=by
 refine J03 Tryz.func337 a337_ok rfl (by simp [a337]) ?_
 simp [a337,J0y]
 by_cases h0:x.Coeff=y.Coeff
 case neg=>simp [h0];try exact fun e=>h0 (by rw [e])
 simp [h0]
 by_cases h1:x.Name=y.Name
 case neg=>simp [h1];try exact fun e=>h1 (by rw [e])
 simp [h1]
 cases x;cases y;simp_all
theorem a314_ok:J09 Tryz.prog Tryz.f314=some (tSz true 2 332):=by kernel_rfl
theorem Jpb (l:List DTerm) (left:Int) (h0:0≤left∧left≤4611686018427387904):Holds Tryz.prog 314 [.sl 2 (l.map J0y),i64 left] (fun r=>r=i64 (J3b left (Jcv l))):=by
 rw [show Jcv l=wL J7a l from rfl,←J6r (w:=J7a) (g:=fun x lf=>J3b lf (J7a x)) (fun _ _ _=>rfl) l left h0.1]
 exact J6g Tryz.func314 a314_ok rfl (rowOf:=J0y) (eltOf:=(fun x => .agg (J0y x))) (fun x=>by simp [J0y]) (fun x h=>by simp [J0y]) (fun x lf h=>J9k h) l left h0 (fun x lf _ hl=>Juy x lf hl)
theorem a320_ok:J09 Tryz.prog Tryz.f320=some (tTo true 2 24 334 [.int .i64 0,.str []]):=by kernel_rfl
theorem Jq0 (l:List DTerm) (hw:Jcv l≤1048576):Holds Tryz.prog 320 [.sl 2 (l.map J0y)] (fun r=>r = .us 2 (l.map J3t)):=
 J6c Tryz.func320 a320_ok rfl (rowOf:=J0y) (eltOf:=(fun x => .agg (J0y x))) (eltU:=(fun x => .agg (J3t x))) (fun x=>by simp [J0y]) (fun x h=>by simp [J0y]) (fun x=>by simp) (fun x=>by simp [J3t]) (fun x=>by simp [J3t]) rfl l (by have:=J2h J7a l;unfold Jcv at hw;unfold LIM;omega) (fun x h=>Jtq x (by have:=J3n (w:=J7a) h;unfold Jcv at hw;omega))
theorem a326_ok:J09 Tryz.prog Tryz.f326=some (tEq true 2 337):=by kernel_rfl
theorem Jq5 (l m:List DTerm):Holds Tryz.prog 326 [.sl 2 (l.map J0y),.sl 2 (m.map J0y)] (fun r=>r = .bool (decide (l=m))):=by
 rw [←J81]
 exact J5m Tryz.func326 a326_ok rfl (rowOf:=J0y) (eltOf:=(fun x => .agg (J0y x))) (fun x=>by simp [J0y]) (fun x h=>by simp [J0y]) l m (fun x y _ _=>Jtj x y)
theorem Jwf (x:DSum) (left:Int) (h0:0≤left∧left≤4611686018427387904):Holds Tryz.prog 283 [.agg (J1d x),i64 left] (fun r=>r=i64 (J3b left (Jba x))):=by
 refine J03 Tryz.func283 a283_ok rfl (by simp [a283]) ?_
 simp [a283,J1d]
 have e0:Jba x=Jba x:=rfl
 conv at e0=>rhs;unfold Jba
 refine J01 (Jpb x.Terms left (by omega)) (by simp) ?_
 rintro r rfl
 by_cases h1:left - (Jcv x.Terms:Nat)<0
 case pos=>
  have q:left - (Jba x:Int)<0:=by omega
  simp [J3b,h1,q]
  try first|omega|(constructor <;> intros <;> omega)
 simp [J3b,h1]
 try (rw [if_neg (by omega)];omega)
theorem Jz7 (x:DSum) (_hw:Jba x≤1048576):Holds Tryz.prog 290 [.agg (J1d x)] (fun r=>r = .agg (J4z x)):=by
 have hw:=_hw;unfold Jba at hw
 refine J03 Tryz.func290 a290_ok rfl (by simp [a290]) ?_
 simp [a290,J1d]
 refine J01 (Jq0 x.Terms (by omega)) (by simp []) ?_
 rintro r rfl
 simp []
 try simp [J4z]
theorem Jx8 (x y:DSum):Holds Tryz.prog 301 [.agg (J1d x),.agg (J1d y)] (fun r=>r = .bool (decide (x=y))):=by
 refine J03 Tryz.func301 a301_ok rfl (by simp [a301]) ?_
 simp [a301,J1d]
 by_cases h0:x.Const=y.Const
 case neg=>simp [h0];try exact fun e=>h0 (by rw [e])
 simp [h0]
 refine J01 (Jq5 x.Terms y.Terms) (by simp []) ?_
 rintro r rfl
 by_cases h1:x.Terms=y.Terms
 case neg=>simp [h1];try exact fun e=>h1 (by rw [e])
 simp [h1]
 cases x;cases y;simp_all
theorem a213_ok:J09 Tryz.prog Tryz.f213=some (tSz true 2 283):=by kernel_rfl
theorem Jmp (l:List DSum) (left:Int) (h0:0≤left∧left≤4611686018427387904):Holds Tryz.prog 213 [.sl 2 (l.map J1d),i64 left] (fun r=>r=i64 (J3b left (J65 l))):=by
 rw [show J65 l=wL Jba l from rfl,←J6r (w:=Jba) (g:=fun x lf=>J3b lf (Jba x)) (fun _ _ _=>rfl) l left h0.1]
 exact J6g Tryz.func213 a213_ok rfl (rowOf:=J1d) (eltOf:=(fun x => .agg (J1d x))) (fun x=>by simp [J1d]) (fun x h=>by simp [J1d]) (fun x lf h=>J9k h) l left h0 (fun x lf _ hl=>Jwf x lf hl)
theorem a227_ok:J09 Tryz.prog Tryz.f227=some (tTo true 2 32 290 [.int .i64 0,.nil 2]):=by kernel_rfl
theorem Jly (l:List DSum) (hw:J65 l≤1048576):Holds Tryz.prog 227 [.sl 2 (l.map J1d)] (fun r=>r = .us 2 (l.map J4z)):=
 J6c Tryz.func227 a227_ok rfl (rowOf:=J1d) (eltOf:=(fun x => .agg (J1d x))) (eltU:=(fun x => .agg (J4z x))) (fun x=>by simp [J1d]) (fun x h=>by simp [J1d]) (fun x=>by simp) (fun x=>by simp [J4z]) (fun x=>by simp [J4z]) rfl l (by have:=J2h Jba l;unfold J65 at hw;unfold LIM;omega) (fun x h=>Jz7 x (by have:=J3n (w:=Jba) h;unfold J65 at hw;omega))
theorem a245_ok:J09 Tryz.prog Tryz.f245=some (tEq true 2 301):=by kernel_rfl
theorem Jmm (l m:List DSum):Holds Tryz.prog 245 [.sl 2 (l.map J1d),.sl 2 (m.map J1d)] (fun r=>r = .bool (decide (l=m))):=by
 rw [←J81]
 exact J5m Tryz.func245 a245_ok rfl (rowOf:=J1d) (eltOf:=(fun x => .agg (J1d x))) (fun x=>by simp [J1d]) (fun x h=>by simp [J1d]) l m (fun x y _ _=>Jx8 x y)
theorem Joz (x:DArg) (left:Int) (h0:0≤left∧left≤4611686018427387904):Holds Tryz.prog 215 [.agg (J0s x),i64 left] (fun r=>r=i64 (J3b left (J9a x))):=by
 refine J03 Tryz.func215 a215_ok rfl (by simp [a215]) ?_
 simp [a215,J0s]
 have e0:J9a x=J9a x:=rfl
 conv at e0=>rhs;unfold J9a
 refine J01 (Jmp x.Heads left (by omega)) (by simp) ?_
 rintro r rfl
 by_cases h1:left - (J65 x.Heads:Nat)<0
 case pos=>
  have q:left - (J9a x:Int)<0:=by omega
  simp [J3b,h1,q]
  try first|omega|(constructor <;> intros <;> omega)
 simp [J3b,h1]
 intro hl1
 rw [J0p (by unfold LIM at hl1;omega)]
 by_cases h2:(left - (J65 x.Heads:Nat)) - (x.Base.length:Nat)<0
 case pos=>
  have q:left - (J9a x:Int)<0:=by omega
  simp [J3b,h2,q]
  try first|omega|(constructor <;> intros <;> omega)
 have g2:(x.Base.length:Nat)≤(left - (J65 x.Heads:Nat)):=by omega
 simp [J3b,h2,g2]
 try (rw [if_neg (by omega)];omega)
theorem Joy (x:DArg) (_hw:J9a x≤1048576):Holds Tryz.prog 229 [.agg (J0s x)] (fun r=>r = .agg (J59 x)):=by
 have hw:=_hw;unfold J9a at hw
 refine J03 Tryz.func229 a229_ok rfl (by simp [a229]) ?_
 simp [a229,J0s]
 refine J01 (Jly x.Heads (by omega)) (by simp []) ?_
 rintro r rfl
 simp []
 try simp [J59]
theorem Jol (x y:DArg):Holds Tryz.prog 247 [.agg (J0s x),.agg (J0s y)] (fun r=>r = .bool (decide (x=y))):=by
 refine J03 Tryz.func247 a247_ok rfl (by simp [a247]) ?_
 simp [a247,J0s]
 by_cases h0:x.Lst=y.Lst
 case neg=>simp [h0];try exact fun e=>h0 (by rw [e])
 simp [h0]
 refine J01 (Jmm x.Heads y.Heads) (by simp []) ?_
 rintro r rfl
 by_cases h1:x.Heads=y.Heads
 case neg=>simp [h1];try exact fun e=>h1 (by rw [e])
 simp [h1]
 by_cases h2:x.Base=y.Base
 case neg=>simp [h2];try exact fun e=>h2 (by rw [e])
 simp [h2]
 cases x;cases y;simp_all
theorem a315_ok:J09 Tryz.prog Tryz.f315=some (tSz true 3 215):=by kernel_rfl
theorem Jug (l:List DArg) (left:Int) (h0:0≤left∧left≤4611686018427387904):Holds Tryz.prog 315 [.sl 3 (l.map J0s),i64 left] (fun r=>r=i64 (J3b left (Jbb l))):=by
 rw [show Jbb l=wL J9a l from rfl,←J6r (w:=J9a) (g:=fun x lf=>J3b lf (J9a x)) (fun _ _ _=>rfl) l left h0.1]
 exact J6g Tryz.func315 a315_ok rfl (rowOf:=J0s) (eltOf:=(fun x => .agg (J0s x))) (fun x=>by simp [J0s]) (fun x h=>by simp [J0s]) (fun x lf h=>J9k h) l left h0 (fun x lf _ hl=>Joz x lf hl)
theorem a321_ok:J09 Tryz.prog Tryz.f321=some (tTo true 3 48 229 [.bool false,.nil 2,.str []]):=by kernel_rfl
theorem Ju2 (l:List DArg) (hw:Jbb l≤1048576):Holds Tryz.prog 321 [.sl 3 (l.map J0s)] (fun r=>r = .us 3 (l.map J59)):=
 J6c Tryz.func321 a321_ok rfl (rowOf:=J0s) (eltOf:=(fun x => .agg (J0s x))) (eltU:=(fun x => .agg (J59 x))) (fun x=>by simp [J0s]) (fun x h=>by simp [J0s]) (fun x=>by simp) (fun x=>by simp [J59]) (fun x=>by simp [J59]) rfl l (by have:=J2h J9a l;unfold Jbb at hw;unfold LIM;omega) (fun x h=>Joy x (by have:=J3n (w:=J9a) h;unfold Jbb at hw;omega))
theorem a327_ok:J09 Tryz.prog Tryz.f327=some (tEq true 3 247):=by kernel_rfl
theorem Jtx (l m:List DArg):Holds Tryz.prog 327 [.sl 3 (l.map J0s),.sl 3 (m.map J0s)] (fun r=>r = .bool (decide (l=m))):=by
 rw [←J81]
 exact J5m Tryz.func327 a327_ok rfl (rowOf:=J0s) (eltOf:=(fun x => .agg (J0s x))) (fun x=>by simp [J0s]) (fun x h=>by simp [J0s]) l m (fun x y _ _=>Jol x y)
theorem Jl6 (x:DPattern) (left:Int) (h0:0≤left∧left≤4611686018427387904):Holds Tryz.prog 282 [.agg (J07 x),i64 left] (fun r=>r=i64 (J3b left (J2x x))):=by
 refine J03 Tryz.func282 a282_ok rfl (by simp [a282]) ?_
 simp [a282,J07]
 have e0:J2x x=J2x x:=rfl
 conv at e0=>rhs;unfold J2x
 intro hl0
 rw [J0p (by unfold LIM at hl0;omega)]
 by_cases h1:left - (x.Lst.length:Nat)<0
 case pos=>
  have q:left - (J2x x:Int)<0:=by omega
  simp [J3b,h1,q]
  try first|omega|(constructor <;> intros <;> omega)
 have g1:(x.Lst.length:Nat)≤left:=by omega
 simp [J3b,h1,g1]
 intro hl1
 rw [J0p (by unfold LIM at hl1;omega)]
 by_cases h2:(left - (x.Lst.length:Nat)) - (x.Head.length:Nat)<0
 case pos=>
  have q:left - (J2x x:Int)<0:=by omega
  simp [J3b,h2,q]
  try first|omega|(constructor <;> intros <;> omega)
 have g2:(x.Head.length:Nat)≤(left - (x.Lst.length:Nat)):=by omega
 simp [J3b,h2,g2]
 intro hl2
 rw [J0p (by unfold LIM at hl2;omega)]
 by_cases h3:(left - (x.Lst.length:Nat) - (x.Head.length:Nat)) - (x.Tail.length:Nat)<0
 case pos=>
  have q:left - (J2x x:Int)<0:=by omega
  simp [J3b,h3,q]
  try first|omega|(constructor <;> intros <;> omega)
 have g3:(x.Tail.length:Nat)≤(left - (x.Lst.length:Nat) - (x.Head.length:Nat)):=by omega
 simp [J3b,h3,g3]
 try (rw [if_neg (by omega)];omega)
theorem Jll (x:DPattern) (_hw:J2x x≤1048576):Holds Tryz.prog 289 [.agg (J07 x)] (fun r=>r = .agg (J18 x)):=by
 have hw:=_hw;unfold J2x at hw
 refine J03 Tryz.func289 a289_ok rfl (by simp [a289]) ?_
 simp [a289,J07]
 try simp [J18]
theorem Jln (x y:DPattern):Holds Tryz.prog 300 [.agg (J07 x),.agg (J07 y)] (fun r=>r = .bool (decide (x=y))):=by
 refine J03 Tryz.func300 a300_ok rfl (by simp [a300]) ?_
 simp [a300,J07]
 by_cases h0:x.Lst=y.Lst
 case neg=>simp [h0];try exact fun e=>h0 (by rw [e])
 simp [h0]
 by_cases h1:x.Cons=y.Cons
 case neg=>simp [h1];try exact fun e=>h1 (by rw [e])
 simp [h1]
 by_cases h2:x.Head=y.Head
 case neg=>simp [h2];try exact fun e=>h2 (by rw [e])
 simp [h2]
 by_cases h3:x.Tail=y.Tail
 case neg=>simp [h3];try exact fun e=>h3 (by rw [e])
 simp [h3]
 cases x;cases y;simp_all
theorem a212_ok:J09 Tryz.prog Tryz.f212=some (tSz true 4 282):=by kernel_rfl
theorem Jja (l:List DPattern) (left:Int) (h0:0≤left∧left≤4611686018427387904):Holds Tryz.prog 212 [.sl 4 (l.map J07),i64 left] (fun r=>r=i64 (J3b left (J2w l))):=by
 rw [show J2w l=wL J2x l from rfl,←J6r (w:=J2x) (g:=fun x lf=>J3b lf (J2x x)) (fun _ _ _=>rfl) l left h0.1]
 exact J6g Tryz.func212 a212_ok rfl (rowOf:=J07) (eltOf:=(fun x => .agg (J07 x))) (fun x=>by simp [J07]) (fun x h=>by simp [J07]) (fun x lf h=>J9k h) l left h0 (fun x lf _ hl=>Jl6 x lf hl)
theorem a226_ok:J09 Tryz.prog Tryz.f226=some (tTo true 4 56 289 [.str [],.bool false,.str [],.str []]):=by kernel_rfl
theorem Jiw (l:List DPattern) (hw:J2w l≤1048576):Holds Tryz.prog 226 [.sl 4 (l.map J07)] (fun r=>r = .us 4 (l.map J18)):=
 J6c Tryz.func226 a226_ok rfl (rowOf:=J07) (eltOf:=(fun x => .agg (J07 x))) (eltU:=(fun x => .agg (J18 x))) (fun x=>by simp [J07]) (fun x h=>by simp [J07]) (fun x=>by simp) (fun x=>by simp [J18]) (fun x=>by simp [J18]) rfl l (by have:=J2h J2x l;unfold J2w at hw;unfold LIM;omega) (fun x h=>Jll x (by have:=J3n (w:=J2x) h;unfold J2w at hw;omega))
theorem a244_ok:J09 Tryz.prog Tryz.f244=some (tEq true 4 300):=by kernel_rfl
theorem Jjt (l m:List DPattern):Holds Tryz.prog 244 [.sl 4 (l.map J07),.sl 4 (m.map J07)] (fun r=>r = .bool (decide (l=m))):=by
 rw [←J81]
 exact J5m Tryz.func244 a244_ok rfl (rowOf:=J07) (eltOf:=(fun x => .agg (J07 x))) (fun x=>by simp [J07]) (fun x h=>by simp [J07]) l m (fun x y _ _=>Jln x y)
theorem Jt0 (x:DCall) (left:Int) (h0:0≤left∧left≤4611686018427387904):Holds Tryz.prog 284 [.agg (J0r x),i64 left] (fun r=>r=i64 (J3b left (J54 x))):=by
 refine J03 Tryz.func284 a284_ok rfl (by simp [a284]) ?_
 simp [a284,J0r]
 have e0:J54 x=J54 x:=rfl
 conv at e0=>rhs;unfold J54
 intro hl0
 rw [J0p (by unfold LIM at hl0;omega)]
 by_cases h1:left - (x.Bind.length:Nat)<0
 case pos=>
  have q:left - (J54 x:Int)<0:=by omega
  simp [J3b,h1,q]
  try first|omega|(constructor <;> intros <;> omega)
 have g1:(x.Bind.length:Nat)≤left:=by omega
 simp [J3b,h1,g1]
 intro hl1
 rw [J0p (by unfold LIM at hl1;omega)]
 by_cases h2:(left - (x.Bind.length:Nat)) - (x.Func.length:Nat)<0
 case pos=>
  have q:left - (J54 x:Int)<0:=by omega
  simp [J3b,h2,q]
  try first|omega|(constructor <;> intros <;> omega)
 have g2:(x.Func.length:Nat)≤(left - (x.Bind.length:Nat)):=by omega
 simp [J3b,h2,g2]
 refine J01 (Jug x.Args (left - (x.Bind.length:Nat) - (x.Func.length:Nat)) (by omega)) (by simp) ?_
 rintro r rfl
 by_cases h3:(left - (x.Bind.length:Nat) - (x.Func.length:Nat)) - (Jbb x.Args:Nat)<0
 case pos=>
  have q:left - (J54 x:Int)<0:=by omega
  simp [J3b,h3,q]
  try first|omega|(constructor <;> intros <;> omega)
 simp [J3b,h3]
 try (rw [if_neg (by omega)];omega)
theorem Jtf (x:DCall) (_hw:J54 x≤1048576):Holds Tryz.prog 291 [.agg (J0r x)] (fun r=>r = .agg (J3a x)):=by
 have hw:=_hw;unfold J54 at hw
 refine J03 Tryz.func291 a291_ok rfl (by simp [a291]) ?_
 simp [a291,J0r]
 refine J01 (Ju2 x.Args (by omega)) (by simp []) ?_
 rintro r rfl
 simp []
 try simp [J3a]
theorem Jsz (x y:DCall):Holds Tryz.prog 302 [.agg (J0r x),.agg (J0r y)] (fun r=>r = .bool (decide (x=y))):=by
 refine J03 Tryz.func302 a302_ok rfl (by simp [a302]) ?_
 simp [a302,J0r]
 by_cases h0:x.Bind=y.Bind
 case neg=>simp [h0];try exact fun e=>h0 (by rw [e])
 simp [h0]
 by_cases h1:x.Func=y.Func
 case neg=>simp [h1];try exact fun e=>h1 (by rw [e])
 simp [h1]
 refine J01 (Jtx x.Args y.Args) (by simp []) ?_
 rintro r rfl
 by_cases h2:x.Args=y.Args
 case neg=>simp [h2];try exact fun e=>h2 (by rw [e])
 simp [h2]
 cases x;cases y;simp_all
theorem a214_ok:J09 Tryz.prog Tryz.f214=some (tSz true 3 284):=by kernel_rfl
theorem Jpn (l:List DCall) (left:Int) (h0:0≤left∧left≤4611686018427387904):Holds Tryz.prog 214 [.sl 3 (l.map J0r),i64 left] (fun r=>r=i64 (J3b left (J79 l))):=by
 rw [show J79 l=wL J54 l from rfl,←J6r (w:=J54) (g:=fun x lf=>J3b lf (J54 x)) (fun _ _ _=>rfl) l left h0.1]
 exact J6g Tryz.func214 a214_ok rfl (rowOf:=J0r) (eltOf:=(fun x => .agg (J0r x))) (fun x=>by simp [J0r]) (fun x h=>by simp [J0r]) (fun x lf h=>J9k h) l left h0 (fun x lf _ hl=>Jt0 x lf hl)
theorem a228_ok:J09 Tryz.prog Tryz.f228=some (tTo true 3 56 291 [.str [],.str [],.nil 3]):=by kernel_rfl
theorem Jr4 (l:List DCall) (hw:J79 l≤1048576):Holds Tryz.prog 228 [.sl 3 (l.map J0r)] (fun r=>r = .us 3 (l.map J3a)):=
 J6c Tryz.func228 a228_ok rfl (rowOf:=J0r) (eltOf:=(fun x => .agg (J0r x))) (eltU:=(fun x => .agg (J3a x))) (fun x=>by simp [J0r]) (fun x h=>by simp [J0r]) (fun x=>by simp) (fun x=>by simp [J3a]) (fun x=>by simp [J3a]) rfl l (by have:=J2h J54 l;unfold J79 at hw;unfold LIM;omega) (fun x h=>Jtf x (by have:=J3n (w:=J54) h;unfold J79 at hw;omega))
theorem a246_ok:J09 Tryz.prog Tryz.f246=some (tEq true 3 302):=by kernel_rfl
theorem Jou (l m:List DCall):Holds Tryz.prog 246 [.sl 3 (l.map J0r),.sl 3 (m.map J0r)] (fun r=>r = .bool (decide (l=m))):=by
 rw [←J81]
 exact J5m Tryz.func246 a246_ok rfl (rowOf:=J0r) (eltOf:=(fun x => .agg (J0r x))) (fun x=>by simp [J0r]) (fun x h=>by simp [J0r]) l m (fun x y _ _=>Jsz x y)
theorem Ju9 (x:DRule) (left:Int) (h0:0≤left∧left≤4611686018427387904):Holds Tryz.prog 133 [.agg (J0b x),i64 left] (fun r=>r=i64 (J3b left (J3f x))):=by
 refine J03 Tryz.func133 a133_ok rfl (by simp [a133]) ?_
 simp [a133,J0b]
 have e0:J3f x=J3f x:=rfl
 conv at e0=>rhs;unfold J3f
 intro hl0
 rw [J0p (by unfold LIM at hl0;omega)]
 by_cases h1:left - (x.Func.length:Nat)<0
 case pos=>
  have q:left - (J3f x:Int)<0:=by omega
  simp [J3b,h1,q]
  try first|omega|(constructor <;> intros <;> omega)
 have g1:(x.Func.length:Nat)≤left:=by omega
 simp [J3b,h1,g1]
 refine J01 (Jja x.Patterns (left - (x.Func.length:Nat)) (by omega)) (by simp) ?_
 rintro r rfl
 by_cases h2:(left - (x.Func.length:Nat)) - (J2w x.Patterns:Nat)<0
 case pos=>
  have q:left - (J3f x:Int)<0:=by omega
  simp [J3b,h2,q]
  try first|omega|(constructor <;> intros <;> omega)
 simp [J3b,h2]
 refine J01 (Jmp x.Guards (left - (x.Func.length:Nat) - (J2w x.Patterns:Nat)) (by omega)) (by simp) ?_
 rintro r rfl
 by_cases h3:(left - (x.Func.length:Nat) - (J2w x.Patterns:Nat)) - (J65 x.Guards:Nat)<0
 case pos=>
  have q:left - (J3f x:Int)<0:=by omega
  simp [J3b,h3,q]
  try first|omega|(constructor <;> intros <;> omega)
 simp [J3b,h3]
 refine J01 (Jpn x.Calls (left - (x.Func.length:Nat) - (J2w x.Patterns:Nat) - (J65 x.Guards:Nat)) (by omega)) (by simp) ?_
 rintro r rfl
 by_cases h4:(left - (x.Func.length:Nat) - (J2w x.Patterns:Nat) - (J65 x.Guards:Nat)) - (J79 x.Calls:Nat)<0
 case pos=>
  have q:left - (J3f x:Int)<0:=by omega
  simp [J3b,h4,q]
  try first|omega|(constructor <;> intros <;> omega)
 simp [J3b,h4]
 refine J01 (Joz x.Result (left - (x.Func.length:Nat) - (J2w x.Patterns:Nat) - (J65 x.Guards:Nat) - (J79 x.Calls:Nat)) (by omega)) (by simp [J0s]) ?_
 rintro r rfl
 by_cases h5:(left - (x.Func.length:Nat) - (J2w x.Patterns:Nat) - (J65 x.Guards:Nat) - (J79 x.Calls:Nat)) - (J9a x.Result:Nat)<0
 case pos=>
  have q:left - (J3f x:Int)<0:=by omega
  simp [J3b,h5,q]
  try first|omega|(constructor <;> intros <;> omega)
 simp [J3b,h5]
 try (rw [if_neg (by omega)];omega)
theorem Jue (x:DRule) (_hw:J3f x≤1048576):Holds Tryz.prog 139 [.agg (J0b x)] (fun r=>r = .agg (J1z x)):=by
 have hw:=_hw;unfold J3f at hw
 refine J03 Tryz.func139 a139_ok rfl (by simp [a139]) ?_
 simp [a139,J0b]
 refine J01 (Jiw x.Patterns (by omega)) (by simp []) ?_
 rintro r rfl
 simp []
 refine J01 (Jly x.Guards (by omega)) (by simp []) ?_
 rintro r rfl
 simp []
 refine J01 (Jr4 x.Calls (by omega)) (by simp []) ?_
 rintro r rfl
 simp []
 refine J01 (Joy x.Result (by omega)) (by simp [J0s]) ?_
 rintro r rfl
 simp [J59]
 try simp [J1z]
theorem Juv (x y:DRule):Holds Tryz.prog 155 [.agg (J0b x),.agg (J0b y)] (fun r=>r = .bool (decide (x=y))):=by
 refine J03 Tryz.func155 a155_ok rfl (by simp [a155]) ?_
 simp [a155,J0b]
 by_cases h0:x.Func=y.Func
 case neg=>simp [h0];try exact fun e=>h0 (by rw [e])
 simp [h0]
 refine J01 (Jjt x.Patterns y.Patterns) (by simp []) ?_
 rintro r rfl
 by_cases h1:x.Patterns=y.Patterns
 case neg=>simp [h1];try exact fun e=>h1 (by rw [e])
 simp [h1]
 refine J01 (Jmm x.Guards y.Guards) (by simp []) ?_
 rintro r rfl
 by_cases h2:x.Guards=y.Guards
 case neg=>simp [h2];try exact fun e=>h2 (by rw [e])
 simp [h2]
 refine J01 (Jou x.Calls y.Calls) (by simp []) ?_
 rintro r rfl
 by_cases h3:x.Calls=y.Calls
 case neg=>simp [h3];try exact fun e=>h3 (by rw [e])
 simp [h3]
 refine J01 (Jol x.Result y.Result) (by simp [J0s]) ?_
 rintro r rfl
 by_cases h4:x.Result=y.Result
 case neg=>simp [h4];try exact fun e=>h4 (by rw [e])
 simp [h4]
 cases x;cases y;simp_all
theorem a59_ok:J09 Tryz.prog Tryz.f59=some (tSz true 7 133):=by kernel_rfl
theorem Jrr (l:List DRule) (left:Int) (h0:0≤left∧left≤4611686018427387904):Holds Tryz.prog 59 [.sl 7 (l.map J0b),i64 left] (fun r=>r=i64 (J3b left (J94 l))):=by
 rw [show J94 l=wL J3f l from rfl,←J6r (w:=J3f) (g:=fun x lf=>J3b lf (J3f x)) (fun _ _ _=>rfl) l left h0.1]
 exact J6g Tryz.func59 a59_ok rfl (rowOf:=J0b) (eltOf:=(fun x => .agg (J0b x))) (fun x=>by simp [J0b]) (fun x h=>by simp [J0b]) (fun x lf h=>J9k h) l left h0 (fun x lf _ hl=>Ju9 x lf hl)
theorem a66_ok:J09 Tryz.prog Tryz.f66=some (tTo true 7 136 139 [.str [],.nil 4,.nil 2,.nil 3,.bool false,.nil 2,.str []]):=by kernel_rfl
theorem Jq6 (l:List DRule) (hw:J94 l≤1048576):Holds Tryz.prog 66 [.sl 7 (l.map J0b)] (fun r=>r = .us 7 (l.map J1z)):=
 J6c Tryz.func66 a66_ok rfl (rowOf:=J0b) (eltOf:=(fun x => .agg (J0b x))) (eltU:=(fun x => .agg (J1z x))) (fun x=>by simp [J0b]) (fun x h=>by simp [J0b]) (fun x=>by simp) (fun x=>by simp [J1z]) (fun x=>by simp [J1z]) rfl l (by have:=J2h J3f l;unfold J94 at hw;unfold LIM;omega) (fun x h=>Jue x (by have:=J3n (w:=J3f) h;unfold J94 at hw;omega))
theorem a75_ok:J09 Tryz.prog Tryz.f75=some (tEq true 7 155):=by kernel_rfl
theorem Jpc (l m:List DRule):Holds Tryz.prog 75 [.sl 7 (l.map J0b),.sl 7 (m.map J0b)] (fun r=>r = .bool (decide (l=m))):=by
 rw [←J81]
 exact J5m Tryz.func75 a75_ok rfl (rowOf:=J0b) (eltOf:=(fun x => .agg (J0b x))) (fun x=>by simp [J0b]) (fun x h=>by simp [J0b]) l m (fun x y _ _=>Juv x y)
theorem Jjy (x:DFunction) (left:Int) (h0:0≤left∧left≤4611686018427387904):Holds Tryz.prog 132 [.agg (J04 x),i64 left] (fun r=>r=i64 (J3b left (J0w x))):=by
 refine J03 Tryz.func132 a132_ok rfl (by simp [a132]) ?_
 simp [a132,J04]
 have e0:J0w x=J0w x:=rfl
 conv at e0=>rhs;unfold J0w
 intro hl0
 rw [J0p (by unfold LIM at hl0;omega)]
 by_cases h1:left - (x.Name.length:Nat)<0
 case pos=>
  have q:left - (J0w x:Int)<0:=by omega
  simp [J3b,h1,q]
  try first|omega|(constructor <;> intros <;> omega)
 have g1:(x.Name.length:Nat)≤left:=by omega
 simp [J3b,h1,g1]
 refine J01 (Jl1 x.Params (left - (x.Name.length:Nat)) (by omega)) (by simp) ?_
 rintro r rfl
 by_cases h2:(left - (x.Name.length:Nat)) - (J3q x.Params:Nat)<0
 case pos=>
  have q:left - (J0w x:Int)<0:=by omega
  simp [J3b,h2,q]
  try first|omega|(constructor <;> intros <;> omega)
 simp [J3b,h2]
 refine J01 (Jm5 x.Pre (left - (x.Name.length:Nat) - (J3q x.Params:Nat)) (by omega)) (by simp) ?_
 rintro r rfl
 by_cases h3:(left - (x.Name.length:Nat) - (J3q x.Params:Nat)) - (J96 x.Pre:Nat)<0
 case pos=>
  have q:left - (J0w x:Int)<0:=by omega
  simp [J3b,h3,q]
  try first|omega|(constructor <;> intros <;> omega)
 simp [J3b,h3]
 try (rw [if_neg (by omega)];omega)
theorem Jk2 (x:DFunction) (_hw:J0w x≤1048576):Holds Tryz.prog 138 [.agg (J04 x)] (fun r=>r = .agg (J0e x)):=by
 have hw:=_hw;unfold J0w at hw
 refine J03 Tryz.func138 a138_ok rfl (by simp [a138]) ?_
 simp [a138,J04]
 refine J01 (Jlu x.Params (by omega)) (by simp []) ?_
 rintro r rfl
 simp []
 refine J01 (Jlx x.Pre (by omega)) (by simp []) ?_
 rintro r rfl
 simp []
 try simp [J0e]
theorem Jjs (x y:DFunction):Holds Tryz.prog 154 [.agg (J04 x),.agg (J04 y)] (fun r=>r = .bool (decide (x=y))):=by
 refine J03 Tryz.func154 a154_ok rfl (by simp [a154]) ?_
 simp [a154,J04]
 by_cases h0:x.Name=y.Name
 case neg=>simp [h0];try exact fun e=>h0 (by rw [e])
 simp [h0]
 refine J01 (Jlm x.Params y.Params) (by simp []) ?_
 rintro r rfl
 by_cases h1:x.Params=y.Params
 case neg=>simp [h1];try exact fun e=>h1 (by rw [e])
 simp [h1]
 by_cases h2:x.ListResult=y.ListResult
 case neg=>simp [h2];try exact fun e=>h2 (by rw [e])
 simp [h2]
 refine J01 (Ji3 x.Pre y.Pre) (by simp []) ?_
 rintro r rfl
 by_cases h3:x.Pre=y.Pre
 case neg=>simp [h3];try exact fun e=>h3 (by rw [e])
 simp [h3]
 cases x;cases y;simp_all
theorem a58_ok:J09 Tryz.prog Tryz.f58=some (tSz true 4 132):=by kernel_rfl
theorem Ji6 (l:List DFunction) (left:Int) (h0:0≤left∧left≤4611686018427387904):Holds Tryz.prog 58 [.sl 4 (l.map J04),i64 left] (fun r=>r=i64 (J3b left (J21 l))):=by
 rw [show J21 l=wL J0w l from rfl,←J6r (w:=J0w) (g:=fun x lf=>J3b lf (J0w x)) (fun _ _ _=>rfl) l left h0.1]
 exact J6g Tryz.func58 a58_ok rfl (rowOf:=J04) (eltOf:=(fun x => .agg (J04 x))) (fun x=>by simp [J04]) (fun x h=>by simp [J04]) (fun x lf h=>J9k h) l left h0 (fun x lf _ hl=>Jjy x lf hl)
theorem a65_ok:J09 Tryz.prog Tryz.f65=some (tTo true 4 72 138 [.str [],.nil 1,.bool false,.nil 2]):=by kernel_rfl
theorem Jig (l:List DFunction) (hw:J21 l≤1048576):Holds Tryz.prog 65 [.sl 4 (l.map J04)] (fun r=>r = .us 4 (l.map J0e)):=
 J6c Tryz.func65 a65_ok rfl (rowOf:=J04) (eltOf:=(fun x => .agg (J04 x))) (eltU:=(fun x => .agg (J0e x))) (fun x=>by simp [J04]) (fun x h=>by simp [J04]) (fun x=>by simp) (fun x=>by simp [J0e]) (fun x=>by simp [J0e]) rfl l (by have:=J2h J0w l;unfold J21 at hw;unfold LIM;omega) (fun x h=>Jk2 x (by have:=J3n (w:=J0w) h;unfold J21 at hw;omega))
theorem a74_ok:J09 Tryz.prog Tryz.f74=some (tEq true 4 154):=by kernel_rfl
theorem Jhw (l m:List DFunction):Holds Tryz.prog 74 [.sl 4 (l.map J04),.sl 4 (m.map J04)] (fun r=>r = .bool (decide (l=m))):=by
 rw [←J81]
 exact J5m Tryz.func74 a74_ok rfl (rowOf:=J04) (eltOf:=(fun x => .agg (J04 x))) (fun x=>by simp [J04]) (fun x h=>by simp [J04]) l m (fun x y _ _=>Jjs x y)
theorem Jfo (x:DProgram) (left:Int) (h0:0≤left∧left≤4611686018427387904):Holds Tryz.prog 12 [.agg (J02 x),i64 left] (fun r=>r=i64 (J3b left (J0h x))):=by
 refine J03 Tryz.func12 a12_ok rfl (by simp [a12]) ?_
 simp [a12,J02]
 have e0:J0h x=J0h x:=rfl
 conv at e0=>rhs;unfold J0h
 refine J01 (Ji6 x.Functions left (by omega)) (by simp) ?_
 rintro r rfl
 by_cases h1:left - (J21 x.Functions:Nat)<0
 case pos=>
  have q:left - (J0h x:Int)<0:=by omega
  simp [J3b,h1,q]
  try first|omega|(constructor <;> intros <;> omega)
 simp [J3b,h1]
 refine J01 (Jrr x.Rules (left - (J21 x.Functions:Nat)) (by omega)) (by simp) ?_
 rintro r rfl
 by_cases h2:(left - (J21 x.Functions:Nat)) - (J94 x.Rules:Nat)<0
 case pos=>
  have q:left - (J0h x:Int)<0:=by omega
  simp [J3b,h2,q]
  try first|omega|(constructor <;> intros <;> omega)
 simp [J3b,h2]
 try (rw [if_neg (by omega)];omega)
theorem J4k (x:DProgram) (_hw:J0h x≤1048576):Holds Tryz.prog 14 [.agg (J02 x)] (fun r=>r = .agg (J2f x)):=by
 have hw:=_hw;unfold J0h at hw
 refine J03 Tryz.func14 a14_ok rfl (by simp [a14]) ?_
 simp [a14,J02]
 refine J01 (Jig x.Functions (by omega)) (by simp []) ?_
 rintro r rfl
 simp []
 refine J01 (Jq6 x.Rules (by omega)) (by simp []) ?_
 rintro r rfl
 simp []
 try simp [J2f]
theorem Jek (x y:DProgram):Holds Tryz.prog 17 [.agg (J02 x),.agg (J02 y)] (fun r=>r = .bool (decide (x=y))):=by
 refine J03 Tryz.func17 a17_ok rfl (by simp [a17]) ?_
 simp [a17,J02]
 refine J01 (Jhw x.Functions y.Functions) (by simp []) ?_
 rintro r rfl
 by_cases h0:x.Functions=y.Functions
 case neg=>simp [h0];try exact fun e=>h0 (by rw [e])
 simp [h0]
 refine J01 (Jpc x.Rules y.Rules) (by simp []) ?_
 rintro r rfl
 by_cases h1:x.Rules=y.Rules
 case neg=>simp [h1];try exact fun e=>h1 (by rw [e])
 simp [h1]
 cases x;cases y;simp_all
end Go.Proofs.YtoclolkigjbcgaaGreat
namespace Go.Proofs.YtoclolkigjbcgaaGreat
set_option linter.all false
open Go Go.RowKit Go.Proofs
def a30:AFn:= ⟨12,[.t 4],(.seq (.reg [⟨some 2,.boxv (.t 0),no⟩,⟨some 4,.mv (.k (.int .i64 0)),no⟩]) (.seq (.reg [⟨some 5,.fld 1 (.t 2),no⟩,⟨some 6,.ld false 1 (.t 5),no⟩,⟨some 7,.mv (.t 1),no⟩,⟨some 8,.call (.k (.fn (.func 95) [] [])) [.t 6,.t 7],no⟩,⟨some 1,.mv (.t 8),no⟩]) (.seq (.seq (.reg [⟨some 9,.mv (.t 1),no⟩,⟨some 10,.bin .lss (.t 9) (.k (.int .i64 0)),no⟩]) (.cond (.t 10) (.seq (.reg [⟨some 4,.mv (.k (.int .i64 (-1))),no⟩]) .ret) .skip)) (.seq (.reg [⟨some 11,.mv (.t 1),no⟩,⟨some 4,.mv (.t 11),no⟩]) .ret))))⟩
theorem a30_ok:J09 Tryz.prog Tryz.f30=some a30:=by kernel_rfl
def a32:AFn:= ⟨12,[(.c 2 true 2)],(.seq (.reg [⟨some 1,.boxv (.t 0),no⟩,⟨some 2,.box [(.int .i64 0),(.nil 2)],no⟩]) (.seq (.reg [⟨some 3,.box [(.int .i64 0),(.nil 2)],no⟩]) (.seq (.reg [⟨some 4,.fld 0 (.t 1),no⟩,⟨some 5,.ld false 1 (.t 4),no⟩,⟨some 6,.fld 0 (.t 3),no⟩,⟨no,.st 1 (.t 6) (.t 5),no⟩]) (.seq (.reg [⟨some 7,.fld 1 (.t 1),no⟩,⟨some 8,.ld false 1 (.t 7),no⟩,⟨some 9,.call (.k (.fn (.func 101) [] [])) [.t 8],no⟩,⟨some 10,.fld 1 (.t 3),no⟩,⟨no,.st 1 (.t 10) (.t 9),no⟩]) (.seq (.reg [⟨some 11,.ld true 2 (.t 3),no⟩,⟨no,.st 2 (.t 2) (.t 11),no⟩]) .ret)))))⟩
theorem a32_ok:J09 Tryz.prog Tryz.f32=some a32:=by kernel_rfl
def a35:AFn:= ⟨16,[.t 4],(.seq (.reg [⟨some 2,.boxv (.t 0),no⟩,⟨some 3,.boxv (.t 1),no⟩,⟨some 4,.mv (.k (.bool false)),no⟩]) (.seq (.seq (.reg [⟨some 5,.fld 0 (.t 2),no⟩,⟨some 6,.ld false 1 (.t 5),no⟩,⟨some 7,.fld 0 (.t 3),no⟩,⟨some 8,.ld false 1 (.t 7),no⟩,⟨some 9,.bin .neq (.t 6) (.t 8),no⟩]) (.cond (.t 9) (.seq (.reg [⟨some 4,.mv (.k (.bool false)),no⟩]) .ret) .skip)) (.seq (.seq (.reg [⟨some 10,.fld 1 (.t 2),no⟩,⟨some 11,.ld false 1 (.t 10),no⟩,⟨some 12,.fld 1 (.t 3),no⟩,⟨some 13,.ld false 1 (.t 12),no⟩,⟨some 14,.call (.k (.fn (.func 107) [] [])) [.t 11,.t 13],no⟩,⟨some 15,.un .not (.t 14),no⟩]) (.cond (.t 15) (.seq (.reg [⟨some 4,.mv (.k (.bool false)),no⟩]) .ret) .skip)) (.seq (.reg [⟨some 4,.mv (.k (.bool true)),no⟩]) .ret))))⟩
theorem a35_ok:J09 Tryz.prog Tryz.f35=some a35:=by kernel_rfl
def a46:AFn:= ⟨13,[(.c 2 true 2)],(.seq (.reg [⟨some 1,.boxv (.t 0),no⟩,⟨some 2,.box [(.nil 1),(.nil 1)],no⟩]) (.seq (.reg [⟨some 3,.box [(.nil 1),(.nil 1)],no⟩]) (.seq (.reg [⟨some 4,.fld 0 (.t 1),no⟩,⟨some 5,.ld false 1 (.t 4),no⟩,⟨some 6,.call (.k (.fn (.func 119) [] [])) [.t 5],no⟩,⟨some 7,.fld 0 (.t 3),no⟩,⟨no,.st 1 (.t 7) (.t 6),no⟩]) (.seq (.reg [⟨some 8,.fld 1 (.t 1),no⟩,⟨some 9,.ld false 1 (.t 8),no⟩,⟨some 10,.call (.k (.fn (.func 83) [] [])) [.t 9],no⟩,⟨some 11,.fld 1 (.t 3),no⟩,⟨no,.st 1 (.t 11) (.t 10),no⟩]) (.seq (.reg [⟨some 12,.ld true 2 (.t 3),no⟩,⟨no,.st 2 (.t 2) (.t 12),no⟩]) .ret)))))⟩
theorem Jg5 (x:DBounds) (left:Int) (h0:0≤left∧left≤4611686018427387904):Holds Tryz.prog 30 [.agg (J0g x),i64 left] (fun r=>r=i64 (J3b left (J7j x))):=by
 refine J03 Tryz.func30 a30_ok rfl (by simp [a30]) ?_
 simp [a30,J0g]
 have e0:J7j x=J7j x:=rfl
 conv at e0=>rhs;unfold J7j
 refine J01 (Jm5 x.Lins left (by omega)) (by simp) ?_
 rintro r rfl
 by_cases h1:left - (J96 x.Lins:Nat)<0
 case pos=>
  have q:left - (J7j x:Int)<0:=by omega
  simp [J3b,h1,q]
  try first|omega|(constructor <;> intros <;> omega)
 simp [J3b,h1]
 try (rw [if_neg (by omega)];omega)
theorem J5i (x:DBounds) (_hw:J7j x≤1048576):Holds Tryz.prog 32 [.agg (J0g x)] (fun r=>r = .agg (J2z x)):=by
 have hw:=_hw;unfold J7j at hw
 refine J03 Tryz.func32 a32_ok rfl (by simp [a32]) ?_
 simp [a32,J0g]
 refine J01 (Jlx x.Lins (by omega)) (by simp []) ?_
 rintro r rfl
 simp []
 try simp [J2z]
theorem Jgr (x y:DBounds):Holds Tryz.prog 35 [.agg (J0g x),.agg (J0g y)] (fun r=>r = .bool (decide (x=y))):=by
 refine J03 Tryz.func35 a35_ok rfl (by simp [a35]) ?_
 simp [a35,J0g]
 by_cases h0:x.Kind=y.Kind
 case neg=>simp [h0];try exact fun e=>h0 (by rw [e])
 simp [h0]
 refine J01 (Ji3 x.Lins y.Lins) (by simp []) ?_
 rintro r rfl
 by_cases h1:x.Lins=y.Lins
 case neg=>simp [h1];try exact fun e=>h1 (by rw [e])
 simp [h1]
 cases x;cases y;simp_all
end Go.Proofs.YtoclolkigjbcgaaGreat
namespace Go.Proofs.YtoclolkigjbcgaaGreat
set_option linter.all false
open Go Go.RowKit Go.Proofs
def a6:AFn:= ⟨119,[.t 4],(.seq (.reg [⟨some 2,.boxv (.t 0),no⟩,⟨some 3,.boxv (.t 1),no⟩,⟨some 4,.mv (.k (.bool false)),no⟩]) (.seq (.reg [⟨some 5,.mv (.k (.int .i64 1048576)),no⟩]) (.seq (.reg [⟨some 17,.ld true 2 (.t 2),no⟩,⟨some 18,.mv (.t 5),no⟩,⟨some 19,.call (.k (.fn (.func 12) [] [])) [.t 17,.t 18],no⟩,⟨some 5,.mv (.t 19),no⟩]) (.seq (.seq (.reg [⟨some 20,.mv (.t 5),no⟩,⟨some 21,.bin .lss (.t 20) (.k (.int .i64 0)),no⟩]) (.cond (.t 21) (.seq (.reg [⟨some 4,.mv (.k (.bool true)),no⟩]) .ret) .skip)) (.seq (.reg [⟨some 22,.ld true 2 (.t 3),no⟩,⟨some 23,.mv (.t 5),no⟩,⟨some 24,.call (.k (.fn (.func 30) [] [])) [.t 22,.t 23],no⟩,⟨some 5,.mv (.t 24),no⟩]) (.seq (.seq (.reg [⟨some 25,.mv (.t 5),no⟩,⟨some 26,.bin .lss (.t 25) (.k (.int .i64 0)),no⟩]) (.cond (.t 26) (.seq (.reg [⟨some 4,.mv (.k (.bool true)),no⟩]) .ret) .skip)) (.seq (.draw (.op ⟨some 28,.ld true 2 (.t 2),no⟩ (.op ⟨some 30,.ld true 2 (.t 3),no⟩ (.op ⟨some 29,.call (.k (.fn (.func 14) [] [])) [.t 28],no⟩ (.op ⟨some 31,.call (.k (.fn (.func 32) [] [])) [.t 30],no⟩ (.op ⟨some 32,.call (.k (.fn (.func 31) [] [])) [.t 29,.t 31],no⟩ (.op ⟨some 27,.mv (.t 32),no⟩ (.op ⟨some 33,.ext (.t 27) 0,no⟩ (.op ⟨some 34,.ext (.t 27) 1,no⟩ (.op ⟨some 6,.mv (.t 33),no⟩ (.op ⟨some 7,.mv (.t 34),no⟩ .fin))))))))))) (.seq (.reg [⟨some 35,.ld true 2 (.t 2),no⟩,⟨some 36,.call (.k (.fn (.func 14) [] [])) [.t 35],no⟩,⟨some 8,.box [(.nil 4),(.nil 7)],no⟩,⟨no,.st 2 (.t 8) (.t 36),no⟩]) (.seq (.reg [⟨some 37,.ld true 2 (.t 3),no⟩,⟨some 38,.call (.k (.fn (.func 32) [] [])) [.t 37],no⟩,⟨some 9,.box [(.int .i64 0),(.nil 2)],no⟩,⟨no,.st 2 (.t 9) (.t 38),no⟩]) (.seq (.reg [⟨some 40,.ld true 2 (.t 8),no⟩,⟨some 41,.ld true 2 (.t 9),no⟩,⟨some 42,.call (.k (.fn (.func 33) [] [])) [.t 40,.t 41],no⟩,⟨some 39,.mv (.t 42),no⟩,⟨some 43,.ext (.t 39) 0,no⟩,⟨some 44,.ext (.t 39) 1,no⟩,⟨some 10,.mv (.t 43),no⟩,⟨some 11,.mv (.t 44),no⟩]) (.seq (.seq (.reg [⟨some 45,.mv (.t 10),no⟩,⟨some 46,.mv (.t 6),no⟩,⟨some 47,.call (.k (.fn (.func 34) [] [])) [.t 45,.t 46],no⟩,⟨some 48,.un .not (.t 47),no⟩,⟨some 49,.mv (.t 48),no⟩,⟨some 50,.mv (.t 11),(some (49,false))⟩,⟨some 51,.mv (.t 7),(some (49,false))⟩,⟨some 52,.beq true (.t 50) (.t 51),(some (49,false))⟩,⟨some 53,.pick (.t 49) (.k (.bool true)) (.t 52),no⟩]) (.cond (.t 53) (.seq (.reg [⟨some 4,.mv (.k (.bool false)),no⟩]) .ret) .skip)) (.seq (.seq (.draw (.op ⟨some 54,.ld true 2 (.t 8),no⟩ (.op ⟨some 55,.ld true 2 (.t 2),no⟩ (.op ⟨some 56,.call (.k (.fn (.func 14) [] [])) [.t 55],no⟩ (.op ⟨some 57,.call (.k (.fn (.func 17) [] [])) [.t 54,.t 56],no⟩ (.op ⟨some 58,.un .not (.t 57),no⟩ .fin)))))) (.cond (.t 58) (.seq (.reg [⟨some 4,.mv (.k (.bool false)),no⟩]) .ret) .skip)) (.seq (.seq (.draw (.op ⟨some 59,.ld true 2 (.t 9),no⟩ (.op ⟨some 60,.ld true 2 (.t 3),no⟩ (.op ⟨some 61,.call (.k (.fn (.func 32) [] [])) [.t 60],no⟩ (.op ⟨some 62,.call (.k (.fn (.func 35) [] [])) [.t 59,.t 61],no⟩ (.op ⟨some 63,.un .not (.t 62),no⟩ .fin)))))) (.cond (.t 63) (.seq (.reg [⟨some 4,.mv (.k (.bool false)),no⟩]) .ret) .skip)) (.seq (.reg [⟨some 12,.mv (.k (.int .i64 1)),no⟩]) (.seq (.reg [⟨some 64,.ld true 2 (.t 8),no⟩,⟨some 65,.mv (.t 12),no⟩,⟨some 66,.call (.k (.fn (.func 18) [] [])) [.t 64,.t 65],no⟩,⟨some 12,.mv (.t 66),no⟩]) (.seq (.reg [⟨some 67,.ld true 2 (.t 9),no⟩,⟨some 68,.mv (.t 12),no⟩,⟨some 69,.call (.k (.fn (.func 36) [] [])) [.t 67,.t 68],no⟩,⟨some 12,.mv (.t 69),no⟩]) (.seq (.seq (.reg [⟨some 70,.mv (.t 12),no⟩,⟨some 71,.bin .lss (.t 70) (.k (.int .i64 0)),no⟩,⟨some 72,.mv (.t 71),no⟩,⟨some 73,.mv (.t 10),(some (72,false))⟩,⟨some 74,.mv (.t 6),(some (72,false))⟩,⟨some 75,.call (.k (.fn (.func 34) [] [])) [.t 73,.t 74],(some (72,false))⟩,⟨some 76,.un .not (.t 75),(some (72,false))⟩,⟨some 77,.pick (.t 72) (.k (.bool true)) (.t 76),no⟩,⟨some 78,.mv (.t 77),no⟩,⟨some 79,.mv (.t 11),(some (78,false))⟩,⟨some 80,.mv (.t 7),(some (78,false))⟩,⟨some 81,.beq true (.t 79) (.t 80),(some (78,false))⟩,⟨some 82,.pick (.t 78) (.k (.bool true)) (.t 81),no⟩]) (.cond (.t 82) (.seq (.reg [⟨some 4,.mv (.k (.bool false)),no⟩]) .ret) .skip)) (.seq (.reg [⟨some 13,.mv (.k (.int .i64 1)),no⟩]) (.seq (.reg [⟨some 83,.mv (.t 10),no⟩,⟨some 84,.mv (.t 13),no⟩,⟨some 85,.call (.k (.fn (.func 37) [] [])) [.t 83,.t 84],no⟩,⟨some 13,.mv (.t 85),no⟩]) (.seq (.reg [⟨some 14,.mv (.k (.int .i64 1)),no⟩]) (.seq (.reg [⟨some 86,.mv (.t 10),no⟩,⟨some 87,.mv (.t 14),no⟩,⟨some 88,.call (.k (.fn (.func 38) [] [])) [.t 86,.t 87],no⟩,⟨some 14,.mv (.t 88),no⟩]) (.seq (.seq (.reg [⟨some 89,.mv (.t 14),no⟩,⟨some 90,.bin .lss (.t 89) (.k (.int .i64 0)),no⟩]) (.cond (.t 90) (.seq (.reg [⟨some 4,.mv (.k (.bool false)),no⟩]) .ret) .skip)) (.seq (.seq (.reg [⟨some 91,.mv (.t 14),no⟩,⟨some 92,.mv (.t 13),no⟩,⟨some 93,.bin .neq (.t 91) (.t 92),no⟩]) (.cond (.t 93) (.seq (.reg [⟨some 4,.mv (.k (.bool false)),no⟩]) .ret) .skip)) (.seq (.draw (.op ⟨some 95,.ld true 2 (.t 2),no⟩ (.op ⟨some 97,.ld true 2 (.t 3),no⟩ (.op ⟨some 96,.call (.k (.fn (.func 14) [] [])) [.t 95],no⟩ (.op ⟨some 98,.call (.k (.fn (.func 32) [] [])) [.t 97],no⟩ (.op ⟨some 99,.call (.k (.fn (.func 33) [] [])) [.t 96,.t 98],no⟩ (.op ⟨some 94,.mv (.t 99),no⟩ (.op ⟨some 100,.ext (.t 94) 0,no⟩ (.op ⟨some 101,.ext (.t 94) 1,no⟩ (.op ⟨some 15,.mv (.t 100),no⟩ (.op ⟨some 16,.mv (.t 101),no⟩ .fin))))))))))) (.seq (.seq (.reg [⟨some 102,.mv (.t 15),no⟩,⟨some 103,.mv (.t 6),no⟩,⟨some 104,.call (.k (.fn (.func 34) [] [])) [.t 102,.t 103],no⟩,⟨some 105,.un .not (.t 104),no⟩,⟨some 106,.mv (.t 105),no⟩,⟨some 107,.mv (.t 16),(some (106,false))⟩,⟨some 108,.mv (.t 7),(some (106,false))⟩,⟨some 109,.beq true (.t 107) (.t 108),(some (106,false))⟩,⟨some 110,.pick (.t 106) (.k (.bool true)) (.t 109),no⟩]) (.cond (.t 110) (.seq (.reg [⟨some 4,.mv (.k (.bool false)),no⟩]) .ret) .skip)) (.seq (.reg [⟨some 14,.mv (.k (.int .i64 1)),no⟩]) (.seq (.reg [⟨some 111,.mv (.t 10),no⟩,⟨some 112,.mv (.t 14),no⟩,⟨some 113,.call (.k (.fn (.func 38) [] [])) [.t 111,.t 112],no⟩,⟨some 14,.mv (.t 113),no⟩]) (.seq (.seq (.reg [⟨some 114,.mv (.t 14),no⟩,⟨some 115,.bin .lss (.t 114) (.k (.int .i64 0)),no⟩]) (.cond (.t 115) (.seq (.reg [⟨some 4,.mv (.k (.bool false)),no⟩]) .ret) .skip)) (.seq (.seq (.reg [⟨some 116,.mv (.t 14),no⟩,⟨some 117,.mv (.t 13),no⟩,⟨some 118,.bin .neq (.t 116) (.t 117),no⟩]) (.cond (.t 118) (.seq (.reg [⟨some 4,.mv (.k (.bool false)),no⟩]) .ret) .skip)) (.seq (.reg [⟨some 4,.mv (.k (.bool true)),no⟩]) .ret))))))))))))))))))))))))))))))⟩
theorem a6_ok:J09 Tryz.prog Tryz.f6=some a6:=by kernel_rfl
theorem Jae (aP:DProgram) (aB:DBounds):Holds Tryz.prog 6 [.agg (J02 aP),.agg (J0g aB)] (fun x=>x = .bool true):=by
 refine J03 Tryz.func6 a6_ok rfl (by simp [a6]) ?_
 simp [a6]
 first|refine J00 (Jfo aP 1048576 (by omega)) (by first|simp;done|rfl) ?_|refine J01 (Jfo aP 1048576 (by omega)) (by first|simp;done|rfl) ?_
 rintro r rfl
 by_cases h1:1048576 - (J0h aP:Int)<0
 ·simp [J3b,h1]
 simp [J3b,h1]
 first|refine J00 (Jg5 aB (1048576 - (J0h aP:Int)) (by omega)) (by first|simp;done|rfl) ?_|refine J01 (Jg5 aB (1048576 - (J0h aP:Int)) (by omega)) (by first|simp;done|rfl) ?_
 rintro r rfl
 by_cases h2:1048576 - (J0h aP:Int) - (J7j aB:Int)<0
 ·simp [J3b,h2]
 simp [J3b,h2]
 have hw_aP:J0h aP≤1048576:=by omega
 have hw_aB:J7j aB≤1048576:=by omega
 have hb_aP:=Jnm aP
 have hb_aB:=Jpg aB
 first|refine J9h (J4k aP hw_aP) (((LS.start).push).push) (by simp) ⟨.inl (fun h=>by first|rfl|simp),trivial⟩ ?_|refine Jda (J4k aP hw_aP) (((LS.start).push).push) (by simp) ⟨.inl (fun h=>by first|rfl|simp),trivial⟩ ?_
 intro c0 h0x n0 J0 S0 hl0 hc0
 have e:=S0.eqs;have ne:=S0.nes;simp only [bxE,bxN,Nat.zero_add,Nat.reduceAdd] at e ne;simp only [J7q] at hl0
 have ht0:List.take 2 c0=c0:=List.take_of_length_le (by omega)
 simp [e,ne,hl0,ht0,hc0]
 first|refine J9h (J5i aB hw_aB) (S0) (by simp) ⟨.inl (fun h=>by first|rfl|simp),trivial⟩ ?_|refine Jda (J5i aB hw_aB) (S0) (by simp) ⟨.inl (fun h=>by first|rfl|simp),trivial⟩ ?_
 intro c1 h1x n1 J1 S1 hl1 hc1
 have e:=S1.eqs;have ne:=S1.nes;simp only [bxE,bxN,Nat.zero_add,Nat.reduceAdd] at e ne;simp only [J8t] at hl1
 have ht1:List.take 2 c1=c1:=List.take_of_length_le (by omega)
 simp [e,ne,hl0,ht0,hl1,ht1,hc1]
 first|refine Jl2 (len:=(((J1k aP aB).getD [])).length) (J7k aP hw_aP aB) (S1) rfl (by simp) ⟨.inr ⟨_,.tail _ (.head _),rfl,by simp [dr]⟩,.inr ⟨_,.head _,rfl,by simp [dr]⟩,trivial⟩ ?_|refine Jqf (len:=(((J1k aP aB).getD [])).length) (J7k aP hw_aP aB) (S1) rfl (by simp) ⟨.inr ⟨_,.tail _ (.head _),rfl,by simp [dr]⟩,.inr ⟨_,.head _,rfl,by simp [dr]⟩,trivial⟩ ?_
 intro d2 h2x n2 J2 S2
 have e:=S2.eqs;have ne:=S2.nes;simp only [bxE,bxN,Nat.zero_add,Nat.reduceAdd] at e ne
 simp [e,ne,hl0,ht0,hl1,ht1]
 first|refine J9h (J4k aP hw_aP) (S2) (by simp) ⟨.inl (fun h=>by first|rfl|simp),trivial⟩ ?_|refine Jda (J4k aP hw_aP) (S2) (by simp) ⟨.inl (fun h=>by first|rfl|simp),trivial⟩ ?_
 intro c3 h3x n3 J3 S3 hl3 hc3
 have e:=S3.eqs;have ne:=S3.nes;simp only [bxE,bxN,Nat.zero_add,Nat.reduceAdd] at e ne;simp only [J7q] at hl3
 have ht3:List.take 2 c3=c3:=List.take_of_length_le (by omega)
 simp [e,ne,hl0,ht0,hl1,ht1,hl3,ht3,hc3]
 first|refine J9h (J5i aB hw_aB) ((S3).push) (by simp) ⟨.inl (fun h=>by first|rfl|simp),trivial⟩ ?_|refine Jda (J5i aB hw_aB) ((S3).push) (by simp) ⟨.inl (fun h=>by first|rfl|simp),trivial⟩ ?_
 intro c4 h4x n4 J4 S4 hl4 hc4
 have e:=S4.eqs;have ne:=S4.nes;simp only [bxE,bxN,Nat.zero_add,Nat.reduceAdd] at e ne;simp only [J8t] at hl4
 have ht4:List.take 2 c4=c4:=List.take_of_length_le (by omega)
 simp [e,ne,hl0,ht0,hl1,ht1,hl3,ht3,hl4,ht4,hc4]
 first|refine Jl2 (len:=(((J1k aP aB).getD [])).length) (J4d aP hw_aP aB) ((S4).push) rfl (by simp) ⟨.inr ⟨_,.tail _ (.head _),rfl,by simp [dr]⟩,.inr ⟨_,.head _,rfl,by simp [dr]⟩,trivial⟩ ?_|refine Jqf (len:=(((J1k aP aB).getD [])).length) (J4d aP hw_aP aB) ((S4).push) rfl (by simp) ⟨.inr ⟨_,.tail _ (.head _),rfl,by simp [dr]⟩,.inr ⟨_,.head _,rfl,by simp [dr]⟩,trivial⟩ ?_
 intro d5 h5x n5 J5 S5
 have e:=S5.eqs;have ne:=S5.nes;simp only [bxE,bxN,Nat.zero_add,Nat.reduceAdd] at e ne
 simp [e,ne,hl0,ht0,hl1,ht1,hl3,ht3,hl4,ht4]
 first|refine J8l (J3r (((J1k aP aB).getD [])) (((J1k aP aB).getD []))) (S5) rfl ⟨.inr ⟨_,.head _,rfl,by simp [dr]⟩,.inr ⟨_,.tail _ (.tail _ (.tail _ (.head _))),rfl,by simp [dr]⟩,trivial⟩ ?_|refine Jax (J3r (((J1k aP aB).getD [])) (((J1k aP aB).getD []))) (S5) rfl ⟨.inr ⟨_,.head _,rfl,by simp [dr]⟩,.inr ⟨_,.tail _ (.tail _ (.tail _ (.head _))),rfl,by simp [dr]⟩,trivial⟩ ?_
 simp [e,ne,hl0,ht0,hl1,ht1,hl3,ht3,hl4,ht4]
 first|refine J9h (J4k aP hw_aP) (S5) (by simp) ⟨.inl (fun h=>by first|rfl|simp),trivial⟩ ?_|refine Jda (J4k aP hw_aP) (S5) (by simp) ⟨.inl (fun h=>by first|rfl|simp),trivial⟩ ?_
 intro c6 h6x n6 J6 S6 hl6 hc6
 have e:=S6.eqs;have ne:=S6.nes;simp only [bxE,bxN,Nat.zero_add,Nat.reduceAdd] at e ne;simp only [J7q] at hl6
 have ht6:List.take 2 c6=c6:=List.take_of_length_le (by omega)
 simp [e,ne,hl0,ht0,hl1,ht1,hl3,ht3,hl4,ht4,hl6,ht6,hc6]
 first|refine J8l (Jek (aP) (aP)) (S6) rfl ⟨.inr ⟨_,.tail _ (.tail _ (.tail _ (.head _))),rfl,by simp [dr]⟩,.inr ⟨_,.head _,rfl,by simp [dr]⟩,trivial⟩ ?_|refine Jax (Jek (aP) (aP)) (S6) rfl ⟨.inr ⟨_,.tail _ (.tail _ (.tail _ (.head _))),rfl,by simp [dr]⟩,.inr ⟨_,.head _,rfl,by simp [dr]⟩,trivial⟩ ?_
 simp [e,ne,hl0,ht0,hl1,ht1,hl3,ht3,hl4,ht4,hl6,ht6]
 first|refine J9h (J5i aB hw_aB) (S6) (by simp) ⟨.inl (fun h=>by first|rfl|simp),trivial⟩ ?_|refine Jda (J5i aB hw_aB) (S6) (by simp) ⟨.inl (fun h=>by first|rfl|simp),trivial⟩ ?_
 intro c7 h7x n7 J7 S7 hl7 hc7
 have e:=S7.eqs;have ne:=S7.nes;simp only [bxE,bxN,Nat.zero_add,Nat.reduceAdd] at e ne;simp only [J8t] at hl7
 have ht7:List.take 2 c7=c7:=List.take_of_length_le (by omega)
 simp [e,ne,hl0,ht0,hl1,ht1,hl3,ht3,hl4,ht4,hl6,ht6,hl7,ht7,hc7]
 first|refine J8l (Jgr (aB) (aB)) (S7) rfl ⟨.inr ⟨_,.tail _ (.tail _ (.tail _ (.head _))),rfl,by simp [dr]⟩,.inr ⟨_,.head _,rfl,by simp [dr]⟩,trivial⟩ ?_|refine Jax (Jgr (aB) (aB)) (S7) rfl ⟨.inr ⟨_,.tail _ (.tail _ (.tail _ (.head _))),rfl,by simp [dr]⟩,.inr ⟨_,.head _,rfl,by simp [dr]⟩,trivial⟩ ?_
 simp [e,ne,hl0,ht0,hl1,ht1,hl3,ht3,hl4,ht4,hl6,ht6,hl7,ht7]
 refine Jli (T1:=[_,_,_,_]) (Jhl (aP) (1) (by omega)) (S7) ?_
 intro h8x n8 S8
 have e:=S8.eqs;have ne:=S8.nes;simp only [bxE,bxN,Nat.zero_add,Nat.reduceAdd] at e ne
 have hq1:¬1+J6y aP<(0:Int):=by omega
 simp [e,ne,hl0,ht0,hl1,ht1,hl3,ht3,hl4,ht4,hl6,ht6,hl7,ht7,hq1]
 refine Jli (T1:=[_,_,_]) (Jj7 (aB) (1+J6y aP) (by omega)) (S8) ?_
 intro h9x n9 S9
 have e:=S9.eqs;have ne:=S9.nes;simp only [bxE,bxN,Nat.zero_add,Nat.reduceAdd] at e ne
 have hq2:¬1+J6y aP+Jb3 aB<(0:Int):=by omega
 simp [e,ne,hl0,ht0,hl1,ht1,hl3,ht3,hl4,ht4,hl6,ht6,hl7,ht7,hq2]
 first|refine J8l (J3r (((J1k aP aB).getD [])) (((J1k aP aB).getD []))) (S9) rfl ⟨.inr ⟨_,.tail _ (.tail _ (.head _)),rfl,by simp [dr]⟩,.inr ⟨_,.tail _ (.tail _ (.tail _ (.tail _ (.tail _ (.head _))))),rfl,by simp [dr]⟩,trivial⟩ ?_|refine Jax (J3r (((J1k aP aB).getD [])) (((J1k aP aB).getD []))) (S9) rfl ⟨.inr ⟨_,.tail _ (.tail _ (.head _)),rfl,by simp [dr]⟩,.inr ⟨_,.tail _ (.tail _ (.tail _ (.tail _ (.tail _ (.head _))))),rfl,by simp [dr]⟩,trivial⟩ ?_
 simp [e,ne,hl0,ht0,hl1,ht1,hl3,ht3,hl4,ht4,hl6,ht6,hl7,ht7]
 have hg:=Jp1 aP aB
 have hm:¬1+(J26 (((J1k aP aB).getD [])):Int)<0:=by omega
 refine Jli (T1:=[_,_]) (Jcf (((J1k aP aB).getD [])) (1) (by omega)) (S9) ?_
 intro h10x n10 S10
 have e:=S10.eqs;have ne:=S10.nes;simp only [bxE,bxN,Nat.zero_add,Nat.reduceAdd] at e ne
 have hq3:¬1+J26 (((J1k aP aB).getD []))<(0:Int):=by omega
 simp [e,ne,hl0,ht0,hl1,ht1,hl3,ht3,hl4,ht4,hl6,ht6,hl7,ht7,hq3]
 first|refine J8l (J4v (((J1k aP aB).getD [])) (1) (by omega)) (S10) rfl ⟨.inr ⟨_,.tail _ (.tail _ (.head _)),rfl,by simp [dr]⟩,.inl (fun h=>by first|rfl|simp),trivial⟩ ?_|refine Jax (J4v (((J1k aP aB).getD [])) (1) (by omega)) (S10) rfl ⟨.inr ⟨_,.tail _ (.tail _ (.head _)),rfl,by simp [dr]⟩,.inl (fun h=>by first|rfl|simp),trivial⟩ ?_
 simp [e,ne,hl0,ht0,hl1,ht1,hl3,ht3,hl4,ht4,hl6,ht6,hl7,ht7,hm]
 first|refine J9h (J4k aP hw_aP) (S10) (by simp) ⟨.inl (fun h=>by first|rfl|simp),trivial⟩ ?_|refine Jda (J4k aP hw_aP) (S10) (by simp) ⟨.inl (fun h=>by first|rfl|simp),trivial⟩ ?_
 intro c11 h11x n11 J11 S11 hl11 hc11
 have e:=S11.eqs;have ne:=S11.nes;simp only [bxE,bxN,Nat.zero_add,Nat.reduceAdd] at e ne;simp only [J7q] at hl11
 have ht11:List.take 2 c11=c11:=List.take_of_length_le (by omega)
 simp [e,ne,hl0,ht0,hl1,ht1,hl3,ht3,hl4,ht4,hl6,ht6,hl7,ht7,hl11,ht11,hc11]
 first|refine J9h (J5i aB hw_aB) (S11) (by simp) ⟨.inl (fun h=>by first|rfl|simp),trivial⟩ ?_|refine Jda (J5i aB hw_aB) (S11) (by simp) ⟨.inl (fun h=>by first|rfl|simp),trivial⟩ ?_
 intro c12 h12x n12 J12 S12 hl12 hc12
 have e:=S12.eqs;have ne:=S12.nes;simp only [bxE,bxN,Nat.zero_add,Nat.reduceAdd] at e ne;simp only [J8t] at hl12
 have ht12:List.take 2 c12=c12:=List.take_of_length_le (by omega)
 simp [e,ne,hl0,ht0,hl1,ht1,hl3,ht3,hl4,ht4,hl6,ht6,hl7,ht7,hl11,ht11,hl12,ht12,hc12]
 first|refine Jl2 (len:=(((J1k aP aB).getD [])).length) (J4d aP hw_aP aB) (S12) rfl (by simp) ⟨.inr ⟨_,.tail _ (.head _),rfl,by simp [dr]⟩,.inr ⟨_,.head _,rfl,by simp [dr]⟩,trivial⟩ ?_|refine Jqf (len:=(((J1k aP aB).getD [])).length) (J4d aP hw_aP aB) (S12) rfl (by simp) ⟨.inr ⟨_,.tail _ (.head _),rfl,by simp [dr]⟩,.inr ⟨_,.head _,rfl,by simp [dr]⟩,trivial⟩ ?_
 intro d13 h13x n13 J13 S13
 have e:=S13.eqs;have ne:=S13.nes;simp only [bxE,bxN,Nat.zero_add,Nat.reduceAdd] at e ne
 simp [e,ne,hl0,ht0,hl1,ht1,hl3,ht3,hl4,ht4,hl6,ht6,hl7,ht7,hl11,ht11,hl12,ht12]
 first|refine J8l (J3r (((J1k aP aB).getD [])) (((J1k aP aB).getD []))) (S13) rfl ⟨.inr ⟨_,.head _,rfl,by simp [dr]⟩,.inr ⟨_,.tail _ (.tail _ (.tail _ (.tail _ (.tail _ (.tail _ (.tail _ (.tail _ (.head _)))))))),rfl,by simp [dr]⟩,trivial⟩ ?_|refine Jax (J3r (((J1k aP aB).getD [])) (((J1k aP aB).getD []))) (S13) rfl ⟨.inr ⟨_,.head _,rfl,by simp [dr]⟩,.inr ⟨_,.tail _ (.tail _ (.tail _ (.tail _ (.tail _ (.tail _ (.tail _ (.tail _ (.head _)))))))),rfl,by simp [dr]⟩,trivial⟩ ?_
 simp [e,ne,hl0,ht0,hl1,ht1,hl3,ht3,hl4,ht4,hl6,ht6,hl7,ht7,hl11,ht11,hl12,ht12]
 first|refine J8l (J4v (((J1k aP aB).getD [])) (1) (by omega)) (S13) rfl ⟨.inr ⟨_,.tail _ (.tail _ (.tail _ (.tail _ (.tail _ (.head _))))),rfl,by simp [dr]⟩,.inl (fun h=>by first|rfl|simp),trivial⟩ ?_|refine Jax (J4v (((J1k aP aB).getD [])) (1) (by omega)) (S13) rfl ⟨.inr ⟨_,.tail _ (.tail _ (.tail _ (.tail _ (.tail _ (.head _))))),rfl,by simp [dr]⟩,.inl (fun h=>by first|rfl|simp),trivial⟩ ?_
 simp [e,ne,hl0,ht0,hl1,ht1,hl3,ht3,hl4,ht4,hl6,ht6,hl7,ht7,hl11,ht11,hl12,ht12,hm]
end Go.Proofs.YtoclolkigjbcgaaGreat
namespace Go.Proofs.YtoclolkigjbcgaaGreat
set_option linter.all false
open Go Go.RowKit Go.Proofs Go.ChangeShapes Go.WideShapes
theorem Tryz.own:ownKnob Tryz.prog.godebug=none:=by kernel_rfl
theorem Tryz.laidOut:laidOutB Tryz.prog=true:=by kernel_rfl
theorem J32 {α:Type}{P:List AV→Prop}{f:α→List AV}(hP:∀ r,P r→∃ x,r=f x):∀ {rows:List (List AV)},(∀ r∈rows,P r)→∃ l:List α,rows=l.map f
 | [],_=>⟨[],rfl⟩
 | r::rows,h=>by
  obtain ⟨x,rfl⟩:=hP r (h _ List.mem_cons_self)
  obtain ⟨l,rfl⟩:=J32 hP fun r hr=>h r (List.mem_cons_of_mem _ hr)
  exact ⟨x::l,rfl⟩
set_option maxRecDepth 100000
theorem Jys {f:Nat}{r:List AV}(h:Row Tryz.prog (f+2) 39 r):∃ x:List Int,r=[.sl 1 (J0k x)]:=by
 obtain ⟨l,rfl⟩:=Jxt Tryz.underlying39 Tryz.underlying3 (by kernel_rfl) h
 exact ⟨l,rfl⟩
theorem K1n {f:Nat}{r:List AV}(h:Row Tryz.prog (f+3) 41 r):∃ x:DLin,r=J06 x:=by
 obtain ⟨parts,rfl,g0⟩:=J4c Tryz.underlying41 h
 obtain ⟨x0,m1,rfl,h0,g1⟩:=J1b g0
 obtain ⟨x1,m2,rfl,h1,g2⟩:=J1b g1
 cases J5o g2
 obtain ⟨v0,rfl,_⟩:=Jff Tryz.underlying3 h0
 obtain ⟨v1,rfl⟩:=Jys h1
 exact ⟨⟨v0,v1⟩,rfl⟩
theorem Jrd {f:Nat}{r:List AV}(h:Row Tryz.prog (f+4) 51 r):∃ x:List DLin,r=[.sl 2 (x.map J06)]:=by
 obtain ⟨rows,rfl,_,hr⟩:=J53 Tryz.underlying51 h
 obtain ⟨l,rfl⟩:=J32 (f:=J06) (fun r h=>K1n h) hr
 exact ⟨l,by rw [show Tryz.prog.cellsOf 41=2 by kernel_rfl]⟩
theorem Jyt {f:Nat}{r:List AV}(h:Row Tryz.prog (f+2) 339 r):∃ x:DTerm,r=J0y x:=by
 obtain ⟨parts,rfl,g0⟩:=J4c Tryz.underlying339 h
 obtain ⟨x0,m1,rfl,h0,g1⟩:=J1b g0
 obtain ⟨x1,m2,rfl,h1,g2⟩:=J1b g1
 cases J5o g2
 obtain ⟨v0,rfl,_⟩:=Jff Tryz.underlying3 h0
 obtain ⟨v1,rfl,_⟩:=J48 Tryz.underlying9 h1
 exact ⟨⟨v0,v1⟩,rfl⟩
theorem Ju8 {f:Nat}{r:List AV}(h:Row Tryz.prog (f+3) 303 r):∃ x:List DTerm,r=[.sl 2 (x.map J0y)]:=by
 obtain ⟨rows,rfl,_,hr⟩:=J53 Tryz.underlying303 h
 obtain ⟨l,rfl⟩:=J32 (f:=J0y) (fun r h=>Jyt h) hr
 exact ⟨l,by rw [show Tryz.prog.cellsOf 339=2 by kernel_rfl]⟩
theorem K31 {f:Nat}{r:List AV}(h:Row Tryz.prog (f+4) 305 r):∃ x:DSum,r=J1d x:=by
 obtain ⟨parts,rfl,g0⟩:=J4c Tryz.underlying305 h
 obtain ⟨x0,m1,rfl,h0,g1⟩:=J1b g0
 obtain ⟨x1,m2,rfl,h1,g2⟩:=J1b g1
 cases J5o g2
 obtain ⟨v0,rfl,_⟩:=Jff Tryz.underlying3 h0
 obtain ⟨v1,rfl⟩:=Ju8 h1
 exact ⟨⟨v0,v1⟩,rfl⟩
theorem Jpk {f:Nat}{r:List AV}(h:Row Tryz.prog (f+5) 170 r):∃ x:List DSum,r=[.sl 2 (x.map J1d)]:=by
 obtain ⟨rows,rfl,_,hr⟩:=J53 Tryz.underlying170 h
 obtain ⟨l,rfl⟩:=J32 (f:=J1d) (fun r h=>K31 h) hr
 exact ⟨l,by rw [show Tryz.prog.cellsOf 305=2 by kernel_rfl]⟩
theorem Jvz {f:Nat}{r:List AV}(h:Row Tryz.prog (f+6) 173 r):∃ x:DArg,r=J0s x:=by
 obtain ⟨parts,rfl,g0⟩:=J4c Tryz.underlying173 h
 obtain ⟨x0,m1,rfl,h0,g1⟩:=J1b g0
 obtain ⟨x1,m2,rfl,h1,g2⟩:=J1b g1
 obtain ⟨x2,m3,rfl,h2,g3⟩:=J1b g2
 cases J5o g3
 obtain ⟨v0,rfl⟩:=Jht Tryz.underlying4 h0
 obtain ⟨v1,rfl⟩:=Jpk h1
 obtain ⟨v2,rfl,_⟩:=J48 Tryz.underlying9 h2
 exact ⟨⟨v0,v1,v2⟩,rfl⟩
theorem Jyg {f:Nat}{r:List AV}(h:Row Tryz.prog (f+7) 307 r):∃ x:List DArg,r=[.sl 3 (x.map J0s)]:=by
 obtain ⟨rows,rfl,_,hr⟩:=J53 Tryz.underlying307 h
 obtain ⟨l,rfl⟩:=J32 (f:=J0s) (fun r h=>Jvz h) hr
 exact ⟨l,by rw [show Tryz.prog.cellsOf 173=3 by kernel_rfl]⟩
theorem Jny {f:Nat}{r:List AV}(h:Row Tryz.prog (f+2) 94 r):∃ x:List Str,r=[.sl 1 (J0d x)]:=by
 obtain ⟨rows,rfl,_,hr⟩:=J53 Tryz.underlying94 h
 obtain ⟨l,rfl⟩:=J32 (f:=fun s:Str=>[.str s]) (fun r h=>(J48 Tryz.underlying9 h).elim fun l h=>⟨l,h.1⟩) hr
 exact ⟨l,by rw [show Tryz.prog.cellsOf 9=1 by kernel_rfl];rfl⟩
theorem Jkz {f:Nat}{r:List AV}(h:Row Tryz.prog (f+5) 167 r):∃ x:DFunction,r=J04 x:=by
 obtain ⟨parts,rfl,g0⟩:=J4c Tryz.underlying167 h
 obtain ⟨x0,m1,rfl,h0,g1⟩:=J1b g0
 obtain ⟨x1,m2,rfl,h1,g2⟩:=J1b g1
 obtain ⟨x2,m3,rfl,h2,g3⟩:=J1b g2
 obtain ⟨x3,m4,rfl,h3,g4⟩:=J1b g3
 cases J5o g4
 obtain ⟨v0,rfl,_⟩:=J48 Tryz.underlying9 h0
 obtain ⟨v1,rfl⟩:=Jny h1
 obtain ⟨v2,rfl⟩:=Jht Tryz.underlying4 h2
 obtain ⟨v3,rfl⟩:=Jrd h3
 exact ⟨⟨v0,v1,v2,v3⟩,rfl⟩
theorem Jju {f:Nat}{r:List AV}(h:Row Tryz.prog (f+6) 22 r):∃ x:List DFunction,r=[.sl 4 (x.map J04)]:=by
 obtain ⟨rows,rfl,_,hr⟩:=J53 Tryz.underlying22 h
 obtain ⟨l,rfl⟩:=J32 (f:=J04) (fun r h=>Jkz h) hr
 exact ⟨l,by rw [show Tryz.prog.cellsOf 167=4 by kernel_rfl]⟩
theorem Jo2 {f:Nat}{r:List AV}(h:Row Tryz.prog (f+2) 301 r):∃ x:DPattern,r=J07 x:=by
 obtain ⟨parts,rfl,g0⟩:=J4c Tryz.underlying301 h
 obtain ⟨x0,m1,rfl,h0,g1⟩:=J1b g0
 obtain ⟨x1,m2,rfl,h1,g2⟩:=J1b g1
 obtain ⟨x2,m3,rfl,h2,g3⟩:=J1b g2
 obtain ⟨x3,m4,rfl,h3,g4⟩:=J1b g3
 cases J5o g4
 obtain ⟨v0,rfl,_⟩:=J48 Tryz.underlying9 h0
 obtain ⟨v1,rfl⟩:=Jht Tryz.underlying4 h1
 obtain ⟨v2,rfl,_⟩:=J48 Tryz.underlying9 h2
 obtain ⟨v3,rfl,_⟩:=J48 Tryz.underlying9 h3
 exact ⟨⟨v0,v1,v2,v3⟩,rfl⟩
theorem Jl4 {f:Nat}{r:List AV}(h:Row Tryz.prog (f+3) 169 r):∃ x:List DPattern,r=[.sl 4 (x.map J07)]:=by
 obtain ⟨rows,rfl,_,hr⟩:=J53 Tryz.underlying169 h
 obtain ⟨l,rfl⟩:=J32 (f:=J07) (fun r h=>Jo2 h) hr
 exact ⟨l,by rw [show Tryz.prog.cellsOf 301=4 by kernel_rfl]⟩
theorem Jz6 {f:Nat}{r:List AV}(h:Row Tryz.prog (f+8) 309 r):∃ x:DCall,r=J0r x:=by
 obtain ⟨parts,rfl,g0⟩:=J4c Tryz.underlying309 h
 obtain ⟨x0,m1,rfl,h0,g1⟩:=J1b g0
 obtain ⟨x1,m2,rfl,h1,g2⟩:=J1b g1
 obtain ⟨x2,m3,rfl,h2,g3⟩:=J1b g2
 cases J5o g3
 obtain ⟨v0,rfl,_⟩:=J48 Tryz.underlying9 h0
 obtain ⟨v1,rfl,_⟩:=J48 Tryz.underlying9 h1
 obtain ⟨v2,rfl⟩:=Jyg h2
 exact ⟨⟨v0,v1,v2⟩,rfl⟩
theorem Jtr {f:Nat}{r:List AV}(h:Row Tryz.prog (f+9) 171 r):∃ x:List DCall,r=[.sl 3 (x.map J0r)]:=by
 obtain ⟨rows,rfl,_,hr⟩:=J53 Tryz.underlying171 h
 obtain ⟨l,rfl⟩:=J32 (f:=J0r) (fun r h=>Jz6 h) hr
 exact ⟨l,by rw [show Tryz.prog.cellsOf 309=3 by kernel_rfl]⟩
theorem Jz8 {f:Nat}{r:List AV}(h:Row Tryz.prog (f+10) 175 r):∃ x:DRule,r=J0b x:=by
 obtain ⟨parts,rfl,g0⟩:=J4c Tryz.underlying175 h
 obtain ⟨x0,m1,rfl,h0,g1⟩:=J1b g0
 obtain ⟨x1,m2,rfl,h1,g2⟩:=J1b g1
 obtain ⟨x2,m3,rfl,h2,g3⟩:=J1b g2
 obtain ⟨x3,m4,rfl,h3,g4⟩:=J1b g3
 obtain ⟨x4,m5,rfl,h4,g5⟩:=J1b g4
 cases J5o g5
 obtain ⟨v0,rfl,_⟩:=J48 Tryz.underlying9 h0
 obtain ⟨v1,rfl⟩:=Jl4 h1
 obtain ⟨v2,rfl⟩:=Jpk h2
 obtain ⟨v3,rfl⟩:=Jtr h3
 obtain ⟨v4,rfl⟩:=Jvz h4
 exact ⟨⟨v0,v1,v2,v3,v4⟩,rfl⟩
theorem Jt2 {f:Nat}{r:List AV}(h:Row Tryz.prog (f+11) 23 r):∃ x:List DRule,r=[.sl 7 (x.map J0b)]:=by
 obtain ⟨rows,rfl,_,hr⟩:=J53 Tryz.underlying23 h
 obtain ⟨l,rfl⟩:=J32 (f:=J0b) (fun r h=>Jz8 h) hr
 exact ⟨l,by rw [show Tryz.prog.cellsOf 175=7 by kernel_rfl]⟩
theorem Jnx {f:Nat}{r:List AV}(h:Row Tryz.prog (f+12) 25 r):∃ x:DProgram,r=J02 x:=by
 obtain ⟨parts,rfl,g0⟩:=J4c Tryz.underlying25 h
 obtain ⟨x0,m1,rfl,h0,g1⟩:=J1b g0
 obtain ⟨x1,m2,rfl,h1,g2⟩:=J1b g1
 cases J5o g2
 obtain ⟨v0,rfl⟩:=Jju h0
 obtain ⟨v1,rfl⟩:=Jt2 h1
 exact ⟨⟨v0,v1⟩,rfl⟩
theorem Jl5 {f:Nat}{a:AV}(h:Jhk Tryz.prog (f+12) 25 a):∃ x:DProgram,a = .agg (J02 x):=by
 obtain ⟨row,rfl,h1⟩:=Jdc Tryz.underlying25 h
 obtain ⟨x,rfl⟩:=Jnx h1
 exact ⟨x,rfl⟩
theorem Joi {f:Nat}{r:List AV}(h:Row Tryz.prog (f+5) 53 r):∃ x:DBounds,r=J0g x:=by
 obtain ⟨parts,rfl,g0⟩:=J4c Tryz.underlying53 h
 obtain ⟨x0,m1,rfl,h0,g1⟩:=J1b g0
 obtain ⟨x1,m2,rfl,h1,g2⟩:=J1b g1
 cases J5o g2
 obtain ⟨v0,rfl,_⟩:=Jff Tryz.underlying3 h0
 obtain ⟨v1,rfl⟩:=Jrd h1
 exact ⟨⟨v0,v1⟩,rfl⟩
theorem Jni {f:Nat}{a:AV}(h:Jhk Tryz.prog (f+5) 53 a):∃ x:DBounds,a = .agg (J0g x):=by
 obtain ⟨row,rfl,h1⟩:=Jdc Tryz.underlying53 h
 obtain ⟨x,rfl⟩:=Joi h1
 exact ⟨x,rfl⟩
end Go.Proofs.YtoclolkigjbcgaaGreat

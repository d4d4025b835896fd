/- Contracts of the laws' functions over the types. -/
import Derived.Test.YtoclolkigjbcgaaGreatKC6
import Derived.Test.YtoclolkigjbcgaaGreatKHB5
namespace Go.Proofs.YtoclolkigjbcgaaGreat
set_option maxRecDepth 40000
set_option maxHeartbeats 4000000
open Go Go.RowKit Go.Proofs
set_option linter.all false
def a332:AFn:= ⟨13,[.t 4],(.seq (.reg [⟨some 2,.boxv (.t 0),no⟩,⟨some 4,.mv (.k (.int .i64 0)),no⟩]) (.seq (.reg [⟨some 5,.mv (.t 1),no⟩,⟨some 6,.fld 1 (.t 2),no⟩,⟨some 7,.ld false 1 (.t 6),no⟩,⟨some 8,.len true (.t 7),no⟩,⟨some 9,.bin .sub (.t 5) (.t 8),no⟩,⟨some 1,.mv (.t 9),no⟩]) (.seq (.seq (.reg [⟨some 10,.mv (.t 1),no⟩,⟨some 11,.bin .lss (.t 10) (.k (.int .i64 0)),no⟩]) (.cond (.t 11) (.seq (.reg [⟨some 4,.mv (.k (.int .i64 (-1))),no⟩]) .ret) .skip)) (.seq (.reg [⟨some 12,.mv (.t 1),no⟩,⟨some 4,.mv (.t 12),no⟩]) .ret))))⟩
theorem a332_ok:J0a Tryz.prog Tryz.f332=some a332:=by kernel_rfl
def a334:AFn:= ⟨11,[(.c 2 true 2)],(.seq (.reg [⟨some 1,.boxv (.t 0),no⟩,⟨some 2,.box [(.int .i64 0),(.str [])],no⟩]) (.seq (.reg [⟨some 3,.box [(.int .i64 0),(.str [])],no⟩]) (.seq (.reg [⟨some 4,.fld 0 (.t 1),no⟩,⟨some 5,.ld false 1 (.t 4),no⟩,⟨some 6,.fld 0 (.t 3),no⟩,⟨no,.st 1 (.t 6) (.t 5),no⟩]) (.seq (.reg [⟨some 7,.fld 1 (.t 1),no⟩,⟨some 8,.ld false 1 (.t 7),no⟩,⟨some 9,.fld 1 (.t 3),no⟩,⟨no,.st 1 (.t 9) (.t 8),no⟩]) (.seq (.reg [⟨some 10,.ld true 2 (.t 3),no⟩,⟨no,.st 2 (.t 2) (.t 10),no⟩]) .ret)))))⟩
theorem a334_ok:J0a Tryz.prog Tryz.f334=some a334:=by kernel_rfl
def a337:AFn:= ⟨15,[.t 4],(.seq (.reg [⟨some 2,.boxv (.t 0),no⟩,⟨some 3,.boxv (.t 1),no⟩,⟨some 4,.mv (.k (.bool false)),no⟩]) (.seq (.seq (.reg [⟨some 5,.fld 0 (.t 2),no⟩,⟨some 6,.ld false 1 (.t 5),no⟩,⟨some 7,.fld 0 (.t 3),no⟩,⟨some 8,.ld false 1 (.t 7),no⟩,⟨some 9,.bin .neq (.t 6) (.t 8),no⟩]) (.cond (.t 9) (.seq (.reg [⟨some 4,.mv (.k (.bool false)),no⟩]) .ret) .skip)) (.seq (.seq (.reg [⟨some 10,.fld 1 (.t 2),no⟩,⟨some 11,.ld false 1 (.t 10),no⟩,⟨some 12,.fld 1 (.t 3),no⟩,⟨some 13,.ld false 1 (.t 12),no⟩,⟨some 14,.bin .neq (.t 11) (.t 13),no⟩]) (.cond (.t 14) (.seq (.reg [⟨some 4,.mv (.k (.bool false)),no⟩]) .ret) .skip)) (.seq (.reg [⟨some 4,.mv (.k (.bool true)),no⟩]) .ret))))⟩
theorem a337_ok:J0a Tryz.prog Tryz.f337=some a337:=by kernel_rfl
def a283:AFn:= ⟨12,[.t 4],(.seq (.reg [⟨some 2,.boxv (.t 0),no⟩,⟨some 4,.mv (.k (.int .i64 0)),no⟩]) (.seq (.reg [⟨some 5,.fld 1 (.t 2),no⟩,⟨some 6,.ld false 1 (.t 5),no⟩,⟨some 7,.mv (.t 1),no⟩,⟨some 8,.call (.k (.fn (.func 314) [] [])) [.t 6,.t 7],no⟩,⟨some 1,.mv (.t 8),no⟩]) (.seq (.seq (.reg [⟨some 9,.mv (.t 1),no⟩,⟨some 10,.bin .lss (.t 9) (.k (.int .i64 0)),no⟩]) (.cond (.t 10) (.seq (.reg [⟨some 4,.mv (.k (.int .i64 (-1))),no⟩]) .ret) .skip)) (.seq (.reg [⟨some 11,.mv (.t 1),no⟩,⟨some 4,.mv (.t 11),no⟩]) .ret))))⟩
theorem a283_ok:J0a Tryz.prog Tryz.f283=some a283:=by kernel_rfl
def a290:AFn:= ⟨12,[(.c 2 true 2)],(.seq (.reg [⟨some 1,.boxv (.t 0),no⟩,⟨some 2,.box [(.int .i64 0),(.nil 2)],no⟩]) (.seq (.reg [⟨some 3,.box [(.int .i64 0),(.nil 2)],no⟩]) (.seq (.reg [⟨some 4,.fld 0 (.t 1),no⟩,⟨some 5,.ld false 1 (.t 4),no⟩,⟨some 6,.fld 0 (.t 3),no⟩,⟨no,.st 1 (.t 6) (.t 5),no⟩]) (.seq (.reg [⟨some 7,.fld 1 (.t 1),no⟩,⟨some 8,.ld false 1 (.t 7),no⟩,⟨some 9,.call (.k (.fn (.func 320) [] [])) [.t 8],no⟩,⟨some 10,.fld 1 (.t 3),no⟩,⟨no,.st 1 (.t 10) (.t 9),no⟩]) (.seq (.reg [⟨some 11,.ld true 2 (.t 3),no⟩,⟨no,.st 2 (.t 2) (.t 11),no⟩]) .ret)))))⟩
theorem a290_ok:J0a Tryz.prog Tryz.f290=some a290:=by kernel_rfl
def a301:AFn:= ⟨16,[.t 4],(.seq (.reg [⟨some 2,.boxv (.t 0),no⟩,⟨some 3,.boxv (.t 1),no⟩,⟨some 4,.mv (.k (.bool false)),no⟩]) (.seq (.seq (.reg [⟨some 5,.fld 0 (.t 2),no⟩,⟨some 6,.ld false 1 (.t 5),no⟩,⟨some 7,.fld 0 (.t 3),no⟩,⟨some 8,.ld false 1 (.t 7),no⟩,⟨some 9,.bin .neq (.t 6) (.t 8),no⟩]) (.cond (.t 9) (.seq (.reg [⟨some 4,.mv (.k (.bool false)),no⟩]) .ret) .skip)) (.seq (.seq (.reg [⟨some 10,.fld 1 (.t 2),no⟩,⟨some 11,.ld false 1 (.t 10),no⟩,⟨some 12,.fld 1 (.t 3),no⟩,⟨some 13,.ld false 1 (.t 12),no⟩,⟨some 14,.call (.k (.fn (.func 326) [] [])) [.t 11,.t 13],no⟩,⟨some 15,.un .not (.t 14),no⟩]) (.cond (.t 15) (.seq (.reg [⟨some 4,.mv (.k (.bool false)),no⟩]) .ret) .skip)) (.seq (.reg [⟨some 4,.mv (.k (.bool true)),no⟩]) .ret))))⟩
theorem a301_ok:J0a Tryz.prog Tryz.f301=some a301:=by kernel_rfl
def a215:AFn:= ⟨19,[.t 4],(.seq (.reg [⟨some 2,.boxv (.t 0),no⟩,⟨some 4,.mv (.k (.int .i64 0)),no⟩]) (.seq (.reg [⟨some 5,.fld 1 (.t 2),no⟩,⟨some 6,.ld false 1 (.t 5),no⟩,⟨some 7,.mv (.t 1),no⟩,⟨some 8,.call (.k (.fn (.func 213) [] [])) [.t 6,.t 7],no⟩,⟨some 1,.mv (.t 8),no⟩]) (.seq (.seq (.reg [⟨some 9,.mv (.t 1),no⟩,⟨some 10,.bin .lss (.t 9) (.k (.int .i64 0)),no⟩]) (.cond (.t 10) (.seq (.reg [⟨some 4,.mv (.k (.int .i64 (-1))),no⟩]) .ret) .skip)) (.seq (.reg [⟨some 11,.mv (.t 1),no⟩,⟨some 12,.fld 2 (.t 2),no⟩,⟨some 13,.ld false 1 (.t 12),no⟩,⟨some 14,.len true (.t 13),no⟩,⟨some 15,.bin .sub (.t 11) (.t 14),no⟩,⟨some 1,.mv (.t 15),no⟩]) (.seq (.seq (.reg [⟨some 16,.mv (.t 1),no⟩,⟨some 17,.bin .lss (.t 16) (.k (.int .i64 0)),no⟩]) (.cond (.t 17) (.seq (.reg [⟨some 4,.mv (.k (.int .i64 (-1))),no⟩]) .ret) .skip)) (.seq (.reg [⟨some 18,.mv (.t 1),no⟩,⟨some 4,.mv (.t 18),no⟩]) .ret))))))⟩
theorem a215_ok:J0a Tryz.prog Tryz.f215=some a215:=by kernel_rfl
def a229:AFn:= ⟨15,[(.c 2 true 3)],(.seq (.reg [⟨some 1,.boxv (.t 0),no⟩,⟨some 2,.box [(.bool false),(.nil 2),(.str [])],no⟩]) (.seq (.reg [⟨some 3,.box [(.bool false),(.nil 2),(.str [])],no⟩]) (.seq (.reg [⟨some 4,.fld 0 (.t 1),no⟩,⟨some 5,.ld false 1 (.t 4),no⟩,⟨some 6,.fld 0 (.t 3),no⟩,⟨no,.st 1 (.t 6) (.t 5),no⟩]) (.seq (.reg [⟨some 7,.fld 1 (.t 1),no⟩,⟨some 8,.ld false 1 (.t 7),no⟩,⟨some 9,.call (.k (.fn (.func 227) [] [])) [.t 8],no⟩,⟨some 10,.fld 1 (.t 3),no⟩,⟨no,.st 1 (.t 10) (.t 9),no⟩]) (.seq (.reg [⟨some 11,.fld 2 (.t 1),no⟩,⟨some 12,.ld false 1 (.t 11),no⟩,⟨some 13,.fld 2 (.t 3),no⟩,⟨no,.st 1 (.t 13) (.t 12),no⟩]) (.seq (.reg [⟨some 14,.ld true 3 (.t 3),no⟩,⟨no,.st 3 (.t 2) (.t 14),no⟩]) .ret))))))⟩
theorem a229_ok:J0a Tryz.prog Tryz.f229=some a229:=by kernel_rfl
def a247:AFn:= ⟨21,[.t 4],(.seq (.reg [⟨some 2,.boxv (.t 0),no⟩,⟨some 3,.boxv (.t 1),no⟩,⟨some 4,.mv (.k (.bool false)),no⟩]) (.seq (.seq (.reg [⟨some 5,.fld 0 (.t 2),no⟩,⟨some 6,.ld false 1 (.t 5),no⟩,⟨some 7,.fld 0 (.t 3),no⟩,⟨some 8,.ld false 1 (.t 7),no⟩,⟨some 9,.beq true (.t 6) (.t 8),no⟩]) (.cond (.t 9) (.seq (.reg [⟨some 4,.mv (.k (.bool false)),no⟩]) .ret) .skip)) (.seq (.seq (.reg [⟨some 10,.fld 1 (.t 2),no⟩,⟨some 11,.ld false 1 (.t 10),no⟩,⟨some 12,.fld 1 (.t 3),no⟩,⟨some 13,.ld false 1 (.t 12),no⟩,⟨some 14,.call (.k (.fn (.func 245) [] [])) [.t 11,.t 13],no⟩,⟨some 15,.un .not (.t 14),no⟩]) (.cond (.t 15) (.seq (.reg [⟨some 4,.mv (.k (.bool false)),no⟩]) .ret) .skip)) (.seq (.seq (.reg [⟨some 16,.fld 2 (.t 2),no⟩,⟨some 17,.ld false 1 (.t 16),no⟩,⟨some 18,.fld 2 (.t 3),no⟩,⟨some 19,.ld false 1 (.t 18),no⟩,⟨some 20,.bin .neq (.t 17) (.t 19),no⟩]) (.cond (.t 20) (.seq (.reg [⟨some 4,.mv (.k (.bool false)),no⟩]) .ret) .skip)) (.seq (.reg [⟨some 4,.mv (.k (.bool true)),no⟩]) .ret)))))⟩
theorem a247_ok:J0a Tryz.prog Tryz.f247=some a247:=by kernel_rfl
def a282:AFn:= ⟨27,[.t 4],(.seq (.reg [⟨some 2,.boxv (.t 0),no⟩,⟨some 4,.mv (.k (.int .i64 0)),no⟩]) (.seq (.reg [⟨some 5,.mv (.t 1),no⟩,⟨some 6,.fld 0 (.t 2),no⟩,⟨some 7,.ld false 1 (.t 6),no⟩,⟨some 8,.len true (.t 7),no⟩,⟨some 9,.bin .sub (.t 5) (.t 8),no⟩,⟨some 1,.mv (.t 9),no⟩]) (.seq (.seq (.reg [⟨some 10,.mv (.t 1),no⟩,⟨some 11,.bin .lss (.t 10) (.k (.int .i64 0)),no⟩]) (.cond (.t 11) (.seq (.reg [⟨some 4,.mv (.k (.int .i64 (-1))),no⟩]) .ret) .skip)) (.seq (.reg [⟨some 12,.mv (.t 1),no⟩,⟨some 13,.fld 2 (.t 2),no⟩,⟨some 14,.ld false 1 (.t 13),no⟩,⟨some 15,.len true (.t 14),no⟩,⟨some 16,.bin .sub (.t 12) (.t 15),no⟩,⟨some 1,.mv (.t 16),no⟩]) (.seq (.seq (.reg [⟨some 17,.mv (.t 1),no⟩,⟨some 18,.bin .lss (.t 17) (.k (.int .i64 0)),no⟩]) (.cond (.t 18) (.seq (.reg [⟨some 4,.mv (.k (.int .i64 (-1))),no⟩]) .ret) .skip)) (.seq (.reg [⟨some 19,.mv (.t 1),no⟩,⟨some 20,.fld 3 (.t 2),no⟩,⟨some 21,.ld false 1 (.t 20),no⟩,⟨some 22,.len true (.t 21),no⟩,⟨some 23,.bin .sub (.t 19) (.t 22),no⟩,⟨some 1,.mv (.t 23),no⟩]) (.seq (.seq (.reg [⟨some 24,.mv (.t 1),no⟩,⟨some 25,.bin .lss (.t 24) (.k (.int .i64 0)),no⟩]) (.cond (.t 25) (.seq (.reg [⟨some 4,.mv (.k (.int .i64 (-1))),no⟩]) .ret) .skip)) (.seq (.reg [⟨some 26,.mv (.t 1),no⟩,⟨some 4,.mv (.t 26),no⟩]) .ret))))))))⟩
theorem a282_ok:J0a Tryz.prog Tryz.f282=some a282:=by kernel_rfl
def a289:AFn:= ⟨17,[(.c 2 true 4)],(.seq (.reg [⟨some 1,.boxv (.t 0),no⟩,⟨some 2,.box [(.str []),(.bool false),(.str []),(.str [])],no⟩]) (.seq (.reg [⟨some 3,.box [(.str []),(.bool false),(.str []),(.str [])],no⟩]) (.seq (.reg [⟨some 4,.fld 0 (.t 1),no⟩,⟨some 5,.ld false 1 (.t 4),no⟩,⟨some 6,.fld 0 (.t 3),no⟩,⟨no,.st 1 (.t 6) (.t 5),no⟩]) (.seq (.reg [⟨some 7,.fld 1 (.t 1),no⟩,⟨some 8,.ld false 1 (.t 7),no⟩,⟨some 9,.fld 1 (.t 3),no⟩,⟨no,.st 1 (.t 9) (.t 8),no⟩]) (.seq (.reg [⟨some 10,.fld 2 (.t 1),no⟩,⟨some 11,.ld false 1 (.t 10),no⟩,⟨some 12,.fld 2 (.t 3),no⟩,⟨no,.st 1 (.t 12) (.t 11),no⟩]) (.seq (.reg [⟨some 13,.fld 3 (.t 1),no⟩,⟨some 14,.ld false 1 (.t 13),no⟩,⟨some 15,.fld 3 (.t 3),no⟩,⟨no,.st 1 (.t 15) (.t 14),no⟩]) (.seq (.reg [⟨some 16,.ld true 4 (.t 3),no⟩,⟨no,.st 4 (.t 2) (.t 16),no⟩]) .ret)))))))⟩
theorem a289_ok:J0a Tryz.prog Tryz.f289=some a289:=by kernel_rfl
def a300:AFn:= ⟨25,[.t 4],(.seq (.reg [⟨some 2,.boxv (.t 0),no⟩,⟨some 3,.boxv (.t 1),no⟩,⟨some 4,.mv (.k (.bool false)),no⟩]) (.seq (.seq (.reg [⟨some 5,.fld 0 (.t 2),no⟩,⟨some 6,.ld false 1 (.t 5),no⟩,⟨some 7,.fld 0 (.t 3),no⟩,⟨some 8,.ld false 1 (.t 7),no⟩,⟨some 9,.bin .neq (.t 6) (.t 8),no⟩]) (.cond (.t 9) (.seq (.reg [⟨some 4,.mv (.k (.bool false)),no⟩]) .ret) .skip)) (.seq (.seq (.reg [⟨some 10,.fld 1 (.t 2),no⟩,⟨some 11,.ld false 1 (.t 10),no⟩,⟨some 12,.fld 1 (.t 3),no⟩,⟨some 13,.ld false 1 (.t 12),no⟩,⟨some 14,.beq true (.t 11) (.t 13),no⟩]) (.cond (.t 14) (.seq (.reg [⟨some 4,.mv (.k (.bool false)),no⟩]) .ret) .skip)) (.seq (.seq (.reg [⟨some 15,.fld 2 (.t 2),no⟩,⟨some 16,.ld false 1 (.t 15),no⟩,⟨some 17,.fld 2 (.t 3),no⟩,⟨some 18,.ld false 1 (.t 17),no⟩,⟨some 19,.bin .neq (.t 16) (.t 18),no⟩]) (.cond (.t 19) (.seq (.reg [⟨some 4,.mv (.k (.bool false)),no⟩]) .ret) .skip)) (.seq (.seq (.reg [⟨some 20,.fld 3 (.t 2),no⟩,⟨some 21,.ld false 1 (.t 20),no⟩,⟨some 22,.fld 3 (.t 3),no⟩,⟨some 23,.ld false 1 (.t 22),no⟩,⟨some 24,.bin .neq (.t 21) (.t 23),no⟩]) (.cond (.t 24) (.seq (.reg [⟨some 4,.mv (.k (.bool false)),no⟩]) .ret) .skip)) (.seq (.reg [⟨some 4,.mv (.k (.bool true)),no⟩]) .ret))))))⟩
theorem a300_ok:J0a Tryz.prog Tryz.f300=some a300:=by kernel_rfl
def a284:AFn:= ⟨26,[.t 4],(.seq (.reg [⟨some 2,.boxv (.t 0),no⟩,⟨some 4,.mv (.k (.int .i64 0)),no⟩]) (.seq (.reg [⟨some 5,.mv (.t 1),no⟩,⟨some 6,.fld 0 (.t 2),no⟩,⟨some 7,.ld false 1 (.t 6),no⟩,⟨some 8,.len true (.t 7),no⟩,⟨some 9,.bin .sub (.t 5) (.t 8),no⟩,⟨some 1,.mv (.t 9),no⟩]) (.seq (.seq (.reg [⟨some 10,.mv (.t 1),no⟩,⟨some 11,.bin .lss (.t 10) (.k (.int .i64 0)),no⟩]) (.cond (.t 11) (.seq (.reg [⟨some 4,.mv (.k (.int .i64 (-1))),no⟩]) .ret) .skip)) (.seq (.reg [⟨some 12,.mv (.t 1),no⟩,⟨some 13,.fld 1 (.t 2),no⟩,⟨some 14,.ld false 1 (.t 13),no⟩,⟨some 15,.len true (.t 14),no⟩,⟨some 16,.bin .sub (.t 12) (.t 15),no⟩,⟨some 1,.mv (.t 16),no⟩]) (.seq (.seq (.reg [⟨some 17,.mv (.t 1),no⟩,⟨some 18,.bin .lss (.t 17) (.k (.int .i64 0)),no⟩]) (.cond (.t 18) (.seq (.reg [⟨some 4,.mv (.k (.int .i64 (-1))),no⟩]) .ret) .skip)) (.seq (.reg [⟨some 19,.fld 2 (.t 2),no⟩,⟨some 20,.ld false 1 (.t 19),no⟩,⟨some 21,.mv (.t 1),no⟩,⟨some 22,.call (.k (.fn (.func 315) [] [])) [.t 20,.t 21],no⟩,⟨some 1,.mv (.t 22),no⟩]) (.seq (.seq (.reg [⟨some 23,.mv (.t 1),no⟩,⟨some 24,.bin .lss (.t 23) (.k (.int .i64 0)),no⟩]) (.cond (.t 24) (.seq (.reg [⟨some 4,.mv (.k (.int .i64 (-1))),no⟩]) .ret) .skip)) (.seq (.reg [⟨some 25,.mv (.t 1),no⟩,⟨some 4,.mv (.t 25),no⟩]) .ret))))))))⟩
theorem a284_ok:J0a Tryz.prog Tryz.f284=some a284:=by kernel_rfl
def a291:AFn:= ⟨15,[(.c 2 true 3)],(.seq (.reg [⟨some 1,.boxv (.t 0),no⟩,⟨some 2,.box [(.str []),(.str []),(.nil 3)],no⟩]) (.seq (.reg [⟨some 3,.box [(.str []),(.str []),(.nil 3)],no⟩]) (.seq (.reg [⟨some 4,.fld 0 (.t 1),no⟩,⟨some 5,.ld false 1 (.t 4),no⟩,⟨some 6,.fld 0 (.t 3),no⟩,⟨no,.st 1 (.t 6) (.t 5),no⟩]) (.seq (.reg [⟨some 7,.fld 1 (.t 1),no⟩,⟨some 8,.ld false 1 (.t 7),no⟩,⟨some 9,.fld 1 (.t 3),no⟩,⟨no,.st 1 (.t 9) (.t 8),no⟩]) (.seq (.reg [⟨some 10,.fld 2 (.t 1),no⟩,⟨some 11,.ld false 1 (.t 10),no⟩,⟨some 12,.call (.k (.fn (.func 321) [] [])) [.t 11],no⟩,⟨some 13,.fld 2 (.t 3),no⟩,⟨no,.st 1 (.t 13) (.t 12),no⟩]) (.seq (.reg [⟨some 14,.ld true 3 (.t 3),no⟩,⟨no,.st 3 (.t 2) (.t 14),no⟩]) .ret))))))⟩
theorem a291_ok:J0a Tryz.prog Tryz.f291=some a291:=by kernel_rfl
def a302:AFn:= ⟨21,[.t 4],(.seq (.reg [⟨some 2,.boxv (.t 0),no⟩,⟨some 3,.boxv (.t 1),no⟩,⟨some 4,.mv (.k (.bool false)),no⟩]) (.seq (.seq (.reg [⟨some 5,.fld 0 (.t 2),no⟩,⟨some 6,.ld false 1 (.t 5),no⟩,⟨some 7,.fld 0 (.t 3),no⟩,⟨some 8,.ld false 1 (.t 7),no⟩,⟨some 9,.bin .neq (.t 6) (.t 8),no⟩]) (.cond (.t 9) (.seq (.reg [⟨some 4,.mv (.k (.bool false)),no⟩]) .ret) .skip)) (.seq (.seq (.reg [⟨some 10,.fld 1 (.t 2),no⟩,⟨some 11,.ld false 1 (.t 10),no⟩,⟨some 12,.fld 1 (.t 3),no⟩,⟨some 13,.ld false 1 (.t 12),no⟩,⟨some 14,.bin .neq (.t 11) (.t 13),no⟩]) (.cond (.t 14) (.seq (.reg [⟨some 4,.mv (.k (.bool false)),no⟩]) .ret) .skip)) (.seq (.seq (.reg [⟨some 15,.fld 2 (.t 2),no⟩,⟨some 16,.ld false 1 (.t 15),no⟩,⟨some 17,.fld 2 (.t 3),no⟩,⟨some 18,.ld false 1 (.t 17),no⟩,⟨some 19,.call (.k (.fn (.func 327) [] [])) [.t 16,.t 18],no⟩,⟨some 20,.un .not (.t 19),no⟩]) (.cond (.t 20) (.seq (.reg [⟨some 4,.mv (.k (.bool false)),no⟩]) .ret) .skip)) (.seq (.reg [⟨some 4,.mv (.k (.bool true)),no⟩]) .ret)))))⟩
theorem a302_ok:J0a Tryz.prog Tryz.f302=some a302:=by kernel_rfl
def a133:AFn:= ⟨37,[.t 4],(.seq (.reg [⟨some 2,.boxv (.t 0),no⟩,⟨some 4,.mv (.k (.int .i64 0)),no⟩]) (.seq (.reg [⟨some 5,.mv (.t 1),no⟩,⟨some 6,.fld 0 (.t 2),no⟩,⟨some 7,.ld false 1 (.t 6),no⟩,⟨some 8,.len true (.t 7),no⟩,⟨some 9,.bin .sub (.t 5) (.t 8),no⟩,⟨some 1,.mv (.t 9),no⟩]) (.seq (.seq (.reg [⟨some 10,.mv (.t 1),no⟩,⟨some 11,.bin .lss (.t 10) (.k (.int .i64 0)),no⟩]) (.cond (.t 11) (.seq (.reg [⟨some 4,.mv (.k (.int .i64 (-1))),no⟩]) .ret) .skip)) (.seq (.reg [⟨some 12,.fld 1 (.t 2),no⟩,⟨some 13,.ld false 1 (.t 12),no⟩,⟨some 14,.mv (.t 1),no⟩,⟨some 15,.call (.k (.fn (.func 212) [] [])) [.t 13,.t 14],no⟩,⟨some 1,.mv (.t 15),no⟩]) (.seq (.seq (.reg [⟨some 16,.mv (.t 1),no⟩,⟨some 17,.bin .lss (.t 16) (.k (.int .i64 0)),no⟩]) (.cond (.t 17) (.seq (.reg [⟨some 4,.mv (.k (.int .i64 (-1))),no⟩]) .ret) .skip)) (.seq (.reg [⟨some 18,.fld 2 (.t 2),no⟩,⟨some 19,.ld false 1 (.t 18),no⟩,⟨some 20,.mv (.t 1),no⟩,⟨some 21,.call (.k (.fn (.func 213) [] [])) [.t 19,.t 20],no⟩,⟨some 1,.mv (.t 21),no⟩]) (.seq (.seq (.reg [⟨some 22,.mv (.t 1),no⟩,⟨some 23,.bin .lss (.t 22) (.k (.int .i64 0)),no⟩]) (.cond (.t 23) (.seq (.reg [⟨some 4,.mv (.k (.int .i64 (-1))),no⟩]) .ret) .skip)) (.seq (.reg [⟨some 24,.fld 3 (.t 2),no⟩,⟨some 25,.ld false 1 (.t 24),no⟩,⟨some 26,.mv (.t 1),no⟩,⟨some 27,.call (.k (.fn (.func 214) [] [])) [.t 25,.t 26],no⟩,⟨some 1,.mv (.t 27),no⟩]) (.seq (.seq (.reg [⟨some 28,.mv (.t 1),no⟩,⟨some 29,.bin .lss (.t 28) (.k (.int .i64 0)),no⟩]) (.cond (.t 29) (.seq (.reg [⟨some 4,.mv (.k (.int .i64 (-1))),no⟩]) .ret) .skip)) (.seq (.reg [⟨some 30,.fld 4 (.t 2),no⟩,⟨some 31,.ld true 3 (.t 30),no⟩,⟨some 32,.mv (.t 1),no⟩,⟨some 33,.call (.k (.fn (.func 215) [] [])) [.t 31,.t 32],no⟩,⟨some 1,.mv (.t 33),no⟩]) (.seq (.seq (.reg [⟨some 34,.mv (.t 1),no⟩,⟨some 35,.bin .lss (.t 34) (.k (.int .i64 0)),no⟩]) (.cond (.t 35) (.seq (.reg [⟨some 4,.mv (.k (.int .i64 (-1))),no⟩]) .ret) .skip)) (.seq (.reg [⟨some 36,.mv (.t 1),no⟩,⟨some 4,.mv (.t 36),no⟩]) .ret))))))))))))⟩
theorem a133_ok:J0a Tryz.prog Tryz.f133=some a133:=by kernel_rfl
def a139:AFn:= ⟨24,[(.c 2 true 7)],(.seq (.reg [⟨some 1,.boxv (.t 0),no⟩,⟨some 2,.box [(.str []),(.nil 4),(.nil 2),(.nil 3),(.bool false),(.nil 2),(.str [])],no⟩]) (.seq (.reg [⟨some 3,.box [(.str []),(.nil 4),(.nil 2),(.nil 3),(.bool false),(.nil 2),(.str [])],no⟩]) (.seq (.reg [⟨some 4,.fld 0 (.t 1),no⟩,⟨some 5,.ld false 1 (.t 4),no⟩,⟨some 6,.fld 0 (.t 3),no⟩,⟨no,.st 1 (.t 6) (.t 5),no⟩]) (.seq (.reg [⟨some 7,.fld 1 (.t 1),no⟩,⟨some 8,.ld false 1 (.t 7),no⟩,⟨some 9,.call (.k (.fn (.func 226) [] [])) [.t 8],no⟩,⟨some 10,.fld 1 (.t 3),no⟩,⟨no,.st 1 (.t 10) (.t 9),no⟩]) (.seq (.reg [⟨some 11,.fld 2 (.t 1),no⟩,⟨some 12,.ld false 1 (.t 11),no⟩,⟨some 13,.call (.k (.fn (.func 227) [] [])) [.t 12],no⟩,⟨some 14,.fld 2 (.t 3),no⟩,⟨no,.st 1 (.t 14) (.t 13),no⟩]) (.seq (.reg [⟨some 15,.fld 3 (.t 1),no⟩,⟨some 16,.ld false 1 (.t 15),no⟩,⟨some 17,.call (.k (.fn (.func 228) [] [])) [.t 16],no⟩,⟨some 18,.fld 3 (.t 3),no⟩,⟨no,.st 1 (.t 18) (.t 17),no⟩]) (.seq (.reg [⟨some 19,.fld 4 (.t 1),no⟩,⟨some 20,.ld true 3 (.t 19),no⟩,⟨some 21,.call (.k (.fn (.func 229) [] [])) [.t 20],no⟩,⟨some 22,.fld 4 (.t 3),no⟩,⟨no,.st 3 (.t 22) (.t 21),no⟩]) (.seq (.reg [⟨some 23,.ld true 7 (.t 3),no⟩,⟨no,.st 7 (.t 2) (.t 23),no⟩]) .ret))))))))⟩
theorem a139_ok:J0a Tryz.prog Tryz.f139=some a139:=by kernel_rfl
def a155:AFn:= ⟨34,[.t 4],(.seq (.reg [⟨some 2,.boxv (.t 0),no⟩,⟨some 3,.boxv (.t 1),no⟩,⟨some 4,.mv (.k (.bool false)),no⟩]) (.seq (.seq (.reg [⟨some 5,.fld 0 (.t 2),no⟩,⟨some 6,.ld false 1 (.t 5),no⟩,⟨some 7,.fld 0 (.t 3),no⟩,⟨some 8,.ld false 1 (.t 7),no⟩,⟨some 9,.bin .neq (.t 6) (.t 8),no⟩]) (.cond (.t 9) (.seq (.reg [⟨some 4,.mv (.k (.bool false)),no⟩]) .ret) .skip)) (.seq (.seq (.reg [⟨some 10,.fld 1 (.t 2),no⟩,⟨some 11,.ld false 1 (.t 10),no⟩,⟨some 12,.fld 1 (.t 3),no⟩,⟨some 13,.ld false 1 (.t 12),no⟩,⟨some 14,.call (.k (.fn (.func 244) [] [])) [.t 11,.t 13],no⟩,⟨some 15,.un .not (.t 14),no⟩]) (.cond (.t 15) (.seq (.reg [⟨some 4,.mv (.k (.bool false)),no⟩]) .ret) .skip)) (.seq (.seq (.reg [⟨some 16,.fld 2 (.t 2),no⟩,⟨some 17,.ld false 1 (.t 16),no⟩,⟨some 18,.fld 2 (.t 3),no⟩,⟨some 19,.ld false 1 (.t 18),no⟩,⟨some 20,.call (.k (.fn (.func 245) [] [])) [.t 17,.t 19],no⟩,⟨some 21,.un .not (.t 20),no⟩]) (.cond (.t 21) (.seq (.reg [⟨some 4,.mv (.k (.bool false)),no⟩]) .ret) .skip)) (.seq (.seq (.reg [⟨some 22,.fld 3 (.t 2),no⟩,⟨some 23,.ld false 1 (.t 22),no⟩,⟨some 24,.fld 3 (.t 3),no⟩,⟨some 25,.ld false 1 (.t 24),no⟩,⟨some 26,.call (.k (.fn (.func 246) [] [])) [.t 23,.t 25],no⟩,⟨some 27,.un .not (.t 26),no⟩]) (.cond (.t 27) (.seq (.reg [⟨some 4,.mv (.k (.bool false)),no⟩]) .ret) .skip)) (.seq (.seq (.reg [⟨some 28,.fld 4 (.t 2),no⟩,⟨some 29,.ld true 3 (.t 28),no⟩,⟨some 30,.fld 4 (.t 3),no⟩,⟨some 31,.ld true 3 (.t 30),no⟩,⟨some 32,.call (.k (.fn (.func 247) [] [])) [.t 29,.t 31],no⟩,⟨some 33,.un .not (.t 32),no⟩]) (.cond (.t 33) (.seq (.reg [⟨some 4,.mv (.k (.bool false)),no⟩]) .ret) .skip)) (.seq (.reg [⟨some 4,.mv (.k (.bool true)),no⟩]) .ret)))))))⟩
theorem a155_ok:J0a Tryz.prog Tryz.f155=some a155:=by kernel_rfl
def a132:AFn:= ⟨25,[.t 4],(.seq (.reg [⟨some 2,.boxv (.t 0),no⟩,⟨some 4,.mv (.k (.int .i64 0)),no⟩]) (.seq (.reg [⟨some 5,.mv (.t 1),no⟩,⟨some 6,.fld 0 (.t 2),no⟩,⟨some 7,.ld false 1 (.t 6),no⟩,⟨some 8,.len true (.t 7),no⟩,⟨some 9,.bin .sub (.t 5) (.t 8),no⟩,⟨some 1,.mv (.t 9),no⟩]) (.seq (.seq (.reg [⟨some 10,.mv (.t 1),no⟩,⟨some 11,.bin .lss (.t 10) (.k (.int .i64 0)),no⟩]) (.cond (.t 11) (.seq (.reg [⟨some 4,.mv (.k (.int .i64 (-1))),no⟩]) .ret) .skip)) (.seq (.reg [⟨some 12,.fld 1 (.t 2),no⟩,⟨some 13,.ld false 1 (.t 12),no⟩,⟨some 14,.mv (.t 1),no⟩,⟨some 15,.call (.k (.fn (.func 211) [] [])) [.t 13,.t 14],no⟩,⟨some 1,.mv (.t 15),no⟩]) (.seq (.seq (.reg [⟨some 16,.mv (.t 1),no⟩,⟨some 17,.bin .lss (.t 16) (.k (.int .i64 0)),no⟩]) (.cond (.t 17) (.seq (.reg [⟨some 4,.mv (.k (.int .i64 (-1))),no⟩]) .ret) .skip)) (.seq (.reg [⟨some 18,.fld 3 (.t 2),no⟩,⟨some 19,.ld false 1 (.t 18),no⟩,⟨some 20,.mv (.t 1),no⟩,⟨some 21,.call (.k (.fn (.func 95) [] [])) [.t 19,.t 20],no⟩,⟨some 1,.mv (.t 21),no⟩]) (.seq (.seq (.reg [⟨some 22,.mv (.t 1),no⟩,⟨some 23,.bin .lss (.t 22) (.k (.int .i64 0)),no⟩]) (.cond (.t 23) (.seq (.reg [⟨some 4,.mv (.k (.int .i64 (-1))),no⟩]) .ret) .skip)) (.seq (.reg [⟨some 24,.mv (.t 1),no⟩,⟨some 4,.mv (.t 24),no⟩]) .ret))))))))⟩
theorem a132_ok:J0a Tryz.prog Tryz.f132=some a132:=by kernel_rfl
def a138:AFn:= ⟨19,[(.c 2 true 4)],(.seq (.reg [⟨some 1,.boxv (.t 0),no⟩,⟨some 2,.box [(.str []),(.nil 1),(.bool false),(.nil 2)],no⟩]) (.seq (.reg [⟨some 3,.box [(.str []),(.nil 1),(.bool false),(.nil 2)],no⟩]) (.seq (.reg [⟨some 4,.fld 0 (.t 1),no⟩,⟨some 5,.ld false 1 (.t 4),no⟩,⟨some 6,.fld 0 (.t 3),no⟩,⟨no,.st 1 (.t 6) (.t 5),no⟩]) (.seq (.reg [⟨some 7,.fld 1 (.t 1),no⟩,⟨some 8,.ld false 1 (.t 7),no⟩,⟨some 9,.call (.k (.fn (.func 225) [] [])) [.t 8],no⟩,⟨some 10,.fld 1 (.t 3),no⟩,⟨no,.st 1 (.t 10) (.t 9),no⟩]) (.seq (.reg [⟨some 11,.fld 2 (.t 1),no⟩,⟨some 12,.ld false 1 (.t 11),no⟩,⟨some 13,.fld 2 (.t 3),no⟩,⟨no,.st 1 (.t 13) (.t 12),no⟩]) (.seq (.reg [⟨some 14,.fld 3 (.t 1),no⟩,⟨some 15,.ld false 1 (.t 14),no⟩,⟨some 16,.call (.k (.fn (.func 101) [] [])) [.t 15],no⟩,⟨some 17,.fld 3 (.t 3),no⟩,⟨no,.st 1 (.t 17) (.t 16),no⟩]) (.seq (.reg [⟨some 18,.ld true 4 (.t 3),no⟩,⟨no,.st 4 (.t 2) (.t 18),no⟩]) .ret)))))))⟩
theorem a138_ok:J0a Tryz.prog Tryz.f138=some a138:=by kernel_rfl
def a154:AFn:= ⟨27,[.t 4],(.seq (.reg [⟨some 2,.boxv (.t 0),no⟩,⟨some 3,.boxv (.t 1),no⟩,⟨some 4,.mv (.k (.bool false)),no⟩]) (.seq (.seq (.reg [⟨some 5,.fld 0 (.t 2),no⟩,⟨some 6,.ld false 1 (.t 5),no⟩,⟨some 7,.fld 0 (.t 3),no⟩,⟨some 8,.ld false 1 (.t 7),no⟩,⟨some 9,.bin .neq (.t 6) (.t 8),no⟩]) (.cond (.t 9) (.seq (.reg [⟨some 4,.mv (.k (.bool false)),no⟩]) .ret) .skip)) (.seq (.seq (.reg [⟨some 10,.fld 1 (.t 2),no⟩,⟨some 11,.ld false 1 (.t 10),no⟩,⟨some 12,.fld 1 (.t 3),no⟩,⟨some 13,.ld false 1 (.t 12),no⟩,⟨some 14,.call (.k (.fn (.func 73) [] [])) [.t 11,.t 13],no⟩,⟨some 15,.un .not (.t 14),no⟩]) (.cond (.t 15) (.seq (.reg [⟨some 4,.mv (.k (.bool false)),no⟩]) .ret) .skip)) (.seq (.seq (.reg [⟨some 16,.fld 2 (.t 2),no⟩,⟨some 17,.ld false 1 (.t 16),no⟩,⟨some 18,.fld 2 (.t 3),no⟩,⟨some 19,.ld false 1 (.t 18),no⟩,⟨some 20,.beq true (.t 17) (.t 19),no⟩]) (.cond (.t 20) (.seq (.reg [⟨some 4,.mv (.k (.bool false)),no⟩]) .ret) .skip)) (.seq (.seq (.reg [⟨some 21,.fld 3 (.t 2),no⟩,⟨some 22,.ld false 1 (.t 21),no⟩,⟨some 23,.fld 3 (.t 3),no⟩,⟨some 24,.ld false 1 (.t 23),no⟩,⟨some 25,.call (.k (.fn (.func 107) [] [])) [.t 22,.t 24],no⟩,⟨some 26,.un .not (.t 25),no⟩]) (.cond (.t 26) (.seq (.reg [⟨some 4,.mv (.k (.bool false)),no⟩]) .ret) .skip)) (.seq (.reg [⟨some 4,.mv (.k (.bool true)),no⟩]) .ret))))))⟩
theorem a154_ok:J0a Tryz.prog Tryz.f154=some a154:=by kernel_rfl
def a12:AFn:= ⟨18,[.t 4],(.seq (.reg [⟨some 2,.boxv (.t 0),no⟩,⟨some 4,.mv (.k (.int .i64 0)),no⟩]) (.seq (.reg [⟨some 5,.fld 0 (.t 2),no⟩,⟨some 6,.ld false 1 (.t 5),no⟩,⟨some 7,.mv (.t 1),no⟩,⟨some 8,.call (.k (.fn (.func 58) [] [])) [.t 6,.t 7],no⟩,⟨some 1,.mv (.t 8),no⟩]) (.seq (.seq (.reg [⟨some 9,.mv (.t 1),no⟩,⟨some 10,.bin .lss (.t 9) (.k (.int .i64 0)),no⟩]) (.cond (.t 10) (.seq (.reg [⟨some 4,.mv (.k (.int .i64 (-1))),no⟩]) .ret) .skip)) (.seq (.reg [⟨some 11,.fld 1 (.t 2),no⟩,⟨some 12,.ld false 1 (.t 11),no⟩,⟨some 13,.mv (.t 1),no⟩,⟨some 14,.call (.k (.fn (.func 59) [] [])) [.t 12,.t 13],no⟩,⟨some 1,.mv (.t 14),no⟩]) (.seq (.seq (.reg [⟨some 15,.mv (.t 1),no⟩,⟨some 16,.bin .lss (.t 15) (.k (.int .i64 0)),no⟩]) (.cond (.t 16) (.seq (.reg [⟨some 4,.mv (.k (.int .i64 (-1))),no⟩]) .ret) .skip)) (.seq (.reg [⟨some 17,.mv (.t 1),no⟩,⟨some 4,.mv (.t 17),no⟩]) .ret))))))⟩
theorem a12_ok:J0a Tryz.prog Tryz.f12=some a12:=by kernel_rfl
def a14:AFn:= ⟨13,[(.c 2 true 2)],(.seq (.reg [⟨some 1,.boxv (.t 0),no⟩,⟨some 2,.box [(.nil 4),(.nil 7)],no⟩]) (.seq (.reg [⟨some 3,.box [(.nil 4),(.nil 7)],no⟩]) (.seq (.reg [⟨some 4,.fld 0 (.t 1),no⟩,⟨some 5,.ld false 1 (.t 4),no⟩,⟨some 6,.call (.k (.fn (.func 65) [] [])) [.t 5],no⟩,⟨some 7,.fld 0 (.t 3),no⟩,⟨no,.st 1 (.t 7) (.t 6),no⟩]) (.seq (.reg [⟨some 8,.fld 1 (.t 1),no⟩,⟨some 9,.ld false 1 (.t 8),no⟩,⟨some 10,.call (.k (.fn (.func 66) [] [])) [.t 9],no⟩,⟨some 11,.fld 1 (.t 3),no⟩,⟨no,.st 1 (.t 11) (.t 10),no⟩]) (.seq (.reg [⟨some 12,.ld true 2 (.t 3),no⟩,⟨no,.st 2 (.t 2) (.t 12),no⟩]) .ret)))))⟩
theorem a14_ok:J0a Tryz.prog Tryz.f14=some a14:=by kernel_rfl
def a17:AFn:= ⟨17,[.t 4],(.seq (.reg [⟨some 2,.boxv (.t 0),no⟩,⟨some 3,.boxv (.t 1),no⟩,⟨some 4,.mv (.k (.bool false)),no⟩]) (.seq (.seq (.reg [⟨some 5,.fld 0 (.t 2),no⟩,⟨some 6,.ld false 1 (.t 5),no⟩,⟨some 7,.fld 0 (.t 3),no⟩,⟨some 8,.ld false 1 (.t 7),no⟩,⟨some 9,.call (.k (.fn (.func 74) [] [])) [.t 6,.t 8],no⟩,⟨some 10,.un .not (.t 9),no⟩]) (.cond (.t 10) (.seq (.reg [⟨some 4,.mv (.k (.bool false)),no⟩]) .ret) .skip)) (.seq (.seq (.reg [⟨some 11,.fld 1 (.t 2),no⟩,⟨some 12,.ld false 1 (.t 11),no⟩,⟨some 13,.fld 1 (.t 3),no⟩,⟨some 14,.ld false 1 (.t 13),no⟩,⟨some 15,.call (.k (.fn (.func 75) [] [])) [.t 12,.t 14],no⟩,⟨some 16,.un .not (.t 15),no⟩]) (.cond (.t 16) (.seq (.reg [⟨some 4,.mv (.k (.bool false)),no⟩]) .ret) .skip)) (.seq (.reg [⟨some 4,.mv (.k (.bool true)),no⟩]) .ret))))⟩
theorem a17_ok:J0a Tryz.prog Tryz.f17=some a17:=by kernel_rfl
theorem Jqm (x:DTerm) (left:Int) (h0:0≤left∧left≤4611686018427387904):Holds Tryz.prog 332 [.agg (J12 x),i64 left] (fun r=>r=i64 (J2z left (J7o x))):=by
 refine J03 Tryz.func332 a332_ok rfl (by simp [a332]) ?_
 simp [a332,J12]
 have e0:J7o x=J7o x:=rfl
 conv at e0=>rhs;unfold J7o
 intro hl0
 rw [J1e (by unfold LIM at hl0;omega)]
 by_cases h1:left - (x.Name.length:Nat)<0
 case pos=>
  have q:left - (J7o x:Int)<0:=by omega
  simp [J2z,h1,q]
  try first|omega|(constructor <;> intros <;> omega)
 have g1:(x.Name.length:Nat)≤left:=by omega
 simp [J2z,h1,g1]
 try (rw [if_neg (by omega)];omega)
theorem Jt6 (x:DTerm) (_hw:J7o x≤1048576):Holds Tryz.prog 334 [.agg (J12 x)] (fun r=>r = .agg (J4i x)):=by
 have hw:=_hw;unfold J7o at hw
 refine J03 Tryz.func334 a334_ok rfl (by simp [a334]) ?_
 simp [a334,J12]
 try simp [J4i]
theorem Jsi (x y:DTerm):Holds Tryz.prog 337 [.agg (J12 x),.agg (J12 y)] (fun r=>r = .bool (decide (x=y))):=by
 refine J03 Tryz.func337 a337_ok rfl (by simp [a337]) ?_
 simp [a337,J12]
 by_cases h0:x.Coeff=y.Coeff
 case neg=>simp [h0];try exact fun e=>h0 (by rw [e])
 simp [h0]
 by_cases h1:x.Name=y.Name
 case neg=>simp [h1];try exact fun e=>h1 (by rw [e])
 simp [h1]
 cases x;cases y;simp_all
theorem a314_ok:J0a Tryz.prog Tryz.f314=some (tSz true 2 332):=by kernel_rfl
theorem Jn5 (l:List DTerm) (left:Int) (h0:0≤left∧left≤4611686018427387904):Holds Tryz.prog 314 [.sl 2 (l.map J12),i64 left] (fun r=>r=i64 (J2z left (Jep l))):=by
 rw [show Jep l=wL J7o l from rfl,←J61 (w:=J7o) (g:=fun x lf=>J2z lf (J7o x)) (fun _ _ _=>rfl) l left h0.1]
 exact J5c Tryz.func314 a314_ok rfl (rowOf:=J12) (eltOf:=(fun x => .agg (J12 x))) (fun x=>by simp [J12]) (fun x h=>by simp [J12]) (fun x lf h=>J8b h) l left h0 (fun x lf _ hl=>Jqm x lf hl)
theorem a320_ok:J0a Tryz.prog Tryz.f320=some (tTo true 2 24 334 [.int .i64 0,.str []]):=by kernel_rfl
theorem Jp5 (l:List DTerm) (hw:Jep l≤1048576):Holds Tryz.prog 320 [.sl 2 (l.map J12)] (fun r=>r = .us 2 (l.map J4i)):=
 J5f Tryz.func320 a320_ok rfl (rowOf:=J12) (eltOf:=(fun x => .agg (J12 x))) (eltU:=(fun x => .agg (J4i x))) (fun x=>by simp [J12]) (fun x h=>by simp [J12]) (fun x=>by simp) (fun x=>by simp [J4i]) (fun x=>by simp [J4i]) rfl l (by have:=J27 J7o l;unfold Jep at hw;unfold LIM;omega) (fun x h=>Jt6 x (by have:=J3d (w:=J7o) h;unfold Jep at hw;omega))
theorem a326_ok:J0a Tryz.prog Tryz.f326=some (tEq true 2 337):=by kernel_rfl
theorem Jpg (l m:List DTerm):Holds Tryz.prog 326 [.sl 2 (l.map J12),.sl 2 (m.map J12)] (fun r=>r = .bool (decide (l=m))):=by
 rw [←J7m]
 exact J5g Tryz.func326 a326_ok rfl (rowOf:=J12) (eltOf:=(fun x => .agg (J12 x))) (fun x=>by simp [J12]) (fun x h=>by simp [J12]) l m (fun x y _ _=>Jsi x y)
theorem Jv3 (x:DSum) (left:Int) (h0:0≤left∧left≤4611686018427387904):Holds Tryz.prog 283 [.agg (J1g x),i64 left] (fun r=>r=i64 (J2z left (Jc6 x))):=by
 refine J03 Tryz.func283 a283_ok rfl (by simp [a283]) ?_
 simp [a283,J1g]
 have e0:Jc6 x=Jc6 x:=rfl
 conv at e0=>rhs;unfold Jc6
 refine J02 (Jn5 x.Terms left (by omega)) (by simp) ?_
 rintro r rfl
 by_cases h1:left - (Jep x.Terms:Nat)<0
 case pos=>
  have q:left - (Jc6 x:Int)<0:=by omega
  simp [J2z,h1,q]
  try first|omega|(constructor <;> intros <;> omega)
 simp [J2z,h1]
 try (rw [if_neg (by omega)];omega)
theorem Juu (x:DSum) (_hw:Jc6 x≤1048576):Holds Tryz.prog 290 [.agg (J1g x)] (fun r=>r = .agg (J5k x)):=by
 have hw:=_hw;unfold Jc6 at hw
 refine J03 Tryz.func290 a290_ok rfl (by simp [a290]) ?_
 simp [a290,J1g]
 refine J02 (Jp5 x.Terms (by omega)) (by simp []) ?_
 rintro r rfl
 simp []
 try simp [J5k]
theorem Jvx (x y:DSum):Holds Tryz.prog 301 [.agg (J1g x),.agg (J1g y)] (fun r=>r = .bool (decide (x=y))):=by
 refine J03 Tryz.func301 a301_ok rfl (by simp [a301]) ?_
 simp [a301,J1g]
 by_cases h0:x.Const=y.Const
 case neg=>simp [h0];try exact fun e=>h0 (by rw [e])
 simp [h0]
 refine J02 (Jpg x.Terms y.Terms) (by simp []) ?_
 rintro r rfl
 by_cases h1:x.Terms=y.Terms
 case neg=>simp [h1];try exact fun e=>h1 (by rw [e])
 simp [h1]
 cases x;cases y;simp_all
theorem a213_ok:J0a Tryz.prog Tryz.f213=some (tSz true 2 283):=by kernel_rfl
theorem Jl5 (l:List DSum) (left:Int) (h0:0≤left∧left≤4611686018427387904):Holds Tryz.prog 213 [.sl 2 (l.map J1g),i64 left] (fun r=>r=i64 (J2z left (J66 l))):=by
 rw [show J66 l=wL Jc6 l from rfl,←J61 (w:=Jc6) (g:=fun x lf=>J2z lf (Jc6 x)) (fun _ _ _=>rfl) l left h0.1]
 exact J5c Tryz.func213 a213_ok rfl (rowOf:=J1g) (eltOf:=(fun x => .agg (J1g x))) (fun x=>by simp [J1g]) (fun x h=>by simp [J1g]) (fun x lf h=>J8b h) l left h0 (fun x lf _ hl=>Jv3 x lf hl)
theorem a227_ok:J0a Tryz.prog Tryz.f227=some (tTo true 2 32 290 [.int .i64 0,.nil 2]):=by kernel_rfl
theorem Jkq (l:List DSum) (hw:J66 l≤1048576):Holds Tryz.prog 227 [.sl 2 (l.map J1g)] (fun r=>r = .us 2 (l.map J5k)):=
 J5f Tryz.func227 a227_ok rfl (rowOf:=J1g) (eltOf:=(fun x => .agg (J1g x))) (eltU:=(fun x => .agg (J5k x))) (fun x=>by simp [J1g]) (fun x h=>by simp [J1g]) (fun x=>by simp) (fun x=>by simp [J5k]) (fun x=>by simp [J5k]) rfl l (by have:=J27 Jc6 l;unfold J66 at hw;unfold LIM;omega) (fun x h=>Juu x (by have:=J3d (w:=Jc6) h;unfold J66 at hw;omega))
theorem a245_ok:J0a Tryz.prog Tryz.f245=some (tEq true 2 301):=by kernel_rfl
theorem Jl1 (l m:List DSum):Holds Tryz.prog 245 [.sl 2 (l.map J1g),.sl 2 (m.map J1g)] (fun r=>r = .bool (decide (l=m))):=by
 rw [←J7m]
 exact J5g Tryz.func245 a245_ok rfl (rowOf:=J1g) (eltOf:=(fun x => .agg (J1g x))) (fun x=>by simp [J1g]) (fun x h=>by simp [J1g]) l m (fun x y _ _=>Jvx x y)
theorem Jo7 (x:DArg) (left:Int) (h0:0≤left∧left≤4611686018427387904):Holds Tryz.prog 215 [.agg (J0v x),i64 left] (fun r=>r=i64 (J2z left (Ja1 x))):=by
 refine J03 Tryz.func215 a215_ok rfl (by simp [a215]) ?_
 simp [a215,J0v]
 have e0:Ja1 x=Ja1 x:=rfl
 conv at e0=>rhs;unfold Ja1
 refine J02 (Jl5 x.Heads left (by omega)) (by simp) ?_
 rintro r rfl
 by_cases h1:left - (J66 x.Heads:Nat)<0
 case pos=>
  have q:left - (Ja1 x:Int)<0:=by omega
  simp [J2z,h1,q]
  try first|omega|(constructor <;> intros <;> omega)
 simp [J2z,h1]
 intro hl1
 rw [J1e (by unfold LIM at hl1;omega)]
 by_cases h2:(left - (J66 x.Heads:Nat)) - (x.Base.length:Nat)<0
 case pos=>
  have q:left - (Ja1 x:Int)<0:=by omega
  simp [J2z,h2,q]
  try first|omega|(constructor <;> intros <;> omega)
 have g2:(x.Base.length:Nat)≤(left - (J66 x.Heads:Nat)):=by omega
 simp [J2z,h2,g2]
 try (rw [if_neg (by omega)];omega)
theorem Job (x:DArg) (_hw:Ja1 x≤1048576):Holds Tryz.prog 229 [.agg (J0v x)] (fun r=>r = .agg (J5p x)):=by
 have hw:=_hw;unfold Ja1 at hw
 refine J03 Tryz.func229 a229_ok rfl (by simp [a229]) ?_
 simp [a229,J0v]
 refine J02 (Jkq x.Heads (by omega)) (by simp []) ?_
 rintro r rfl
 simp []
 try simp [J5p]
theorem Joh (x y:DArg):Holds Tryz.prog 247 [.agg (J0v x),.agg (J0v y)] (fun r=>r = .bool (decide (x=y))):=by
 refine J03 Tryz.func247 a247_ok rfl (by simp [a247]) ?_
 simp [a247,J0v]
 by_cases h0:x.Lst=y.Lst
 case neg=>simp [h0];try exact fun e=>h0 (by rw [e])
 simp [h0]
 refine J02 (Jl1 x.Heads y.Heads) (by simp []) ?_
 rintro r rfl
 by_cases h1:x.Heads=y.Heads
 case neg=>simp [h1];try exact fun e=>h1 (by rw [e])
 simp [h1]
 by_cases h2:x.Base=y.Base
 case neg=>simp [h2];try exact fun e=>h2 (by rw [e])
 simp [h2]
 cases x;cases y;simp_all
theorem a315_ok:J0a Tryz.prog Tryz.f315=some (tSz true 3 215):=by kernel_rfl
theorem Jrm (l:List DArg) (left:Int) (h0:0≤left∧left≤4611686018427387904):Holds Tryz.prog 315 [.sl 3 (l.map J0v),i64 left] (fun r=>r=i64 (J2z left (Jc8 l))):=by
 rw [show Jc8 l=wL Ja1 l from rfl,←J61 (w:=Ja1) (g:=fun x lf=>J2z lf (Ja1 x)) (fun _ _ _=>rfl) l left h0.1]
 exact J5c Tryz.func315 a315_ok rfl (rowOf:=J0v) (eltOf:=(fun x => .agg (J0v x))) (fun x=>by simp [J0v]) (fun x h=>by simp [J0v]) (fun x lf h=>J8b h) l left h0 (fun x lf _ hl=>Jo7 x lf hl)
theorem a321_ok:J0a Tryz.prog Tryz.f321=some (tTo true 3 48 229 [.bool false,.nil 2,.str []]):=by kernel_rfl
theorem Jt1 (l:List DArg) (hw:Jc8 l≤1048576):Holds Tryz.prog 321 [.sl 3 (l.map J0v)] (fun r=>r = .us 3 (l.map J5p)):=
 J5f Tryz.func321 a321_ok rfl (rowOf:=J0v) (eltOf:=(fun x => .agg (J0v x))) (eltU:=(fun x => .agg (J5p x))) (fun x=>by simp [J0v]) (fun x h=>by simp [J0v]) (fun x=>by simp) (fun x=>by simp [J5p]) (fun x=>by simp [J5p]) rfl l (by have:=J27 Ja1 l;unfold Jc8 at hw;unfold LIM;omega) (fun x h=>Job x (by have:=J3d (w:=Ja1) h;unfold Jc8 at hw;omega))
theorem a327_ok:J0a Tryz.prog Tryz.f327=some (tEq true 3 247):=by kernel_rfl
theorem Jro (l m:List DArg):Holds Tryz.prog 327 [.sl 3 (l.map J0v),.sl 3 (m.map J0v)] (fun r=>r = .bool (decide (l=m))):=by
 rw [←J7m]
 exact J5g Tryz.func327 a327_ok rfl (rowOf:=J0v) (eltOf:=(fun x => .agg (J0v x))) (fun x=>by simp [J0v]) (fun x h=>by simp [J0v]) l m (fun x y _ _=>Joh x y)
theorem Jke (x:DPattern) (left:Int) (h0:0≤left∧left≤4611686018427387904):Holds Tryz.prog 282 [.agg (J09 x),i64 left] (fun r=>r=i64 (J2z left (J3h x))):=by
 refine J03 Tryz.func282 a282_ok rfl (by simp [a282]) ?_
 simp [a282,J09]
 have e0:J3h x=J3h x:=rfl
 conv at e0=>rhs;unfold J3h
 intro hl0
 rw [J1e (by unfold LIM at hl0;omega)]
 by_cases h1:left - (x.Lst.length:Nat)<0
 case pos=>
  have q:left - (J3h x:Int)<0:=by omega
  simp [J2z,h1,q]
  try first|omega|(constructor <;> intros <;> omega)
 have g1:(x.Lst.length:Nat)≤left:=by omega
 simp [J2z,h1,g1]
 intro hl1
 rw [J1e (by unfold LIM at hl1;omega)]
 by_cases h2:(left - (x.Lst.length:Nat)) - (x.Head.length:Nat)<0
 case pos=>
  have q:left - (J3h x:Int)<0:=by omega
  simp [J2z,h2,q]
  try first|omega|(constructor <;> intros <;> omega)
 have g2:(x.Head.length:Nat)≤(left - (x.Lst.length:Nat)):=by omega
 simp [J2z,h2,g2]
 intro hl2
 rw [J1e (by unfold LIM at hl2;omega)]
 by_cases h3:(left - (x.Lst.length:Nat) - (x.Head.length:Nat)) - (x.Tail.length:Nat)<0
 case pos=>
  have q:left - (J3h x:Int)<0:=by omega
  simp [J2z,h3,q]
  try first|omega|(constructor <;> intros <;> omega)
 have g3:(x.Tail.length:Nat)≤(left - (x.Lst.length:Nat) - (x.Head.length:Nat)):=by omega
 simp [J2z,h3,g3]
 try (rw [if_neg (by omega)];omega)
theorem Jk6 (x:DPattern) (_hw:J3h x≤1048576):Holds Tryz.prog 289 [.agg (J09 x)] (fun r=>r = .agg (J1k x)):=by
 have hw:=_hw;unfold J3h at hw
 refine J03 Tryz.func289 a289_ok rfl (by simp [a289]) ?_
 simp [a289,J09]
 try simp [J1k]
theorem Jkd (x y:DPattern):Holds Tryz.prog 300 [.agg (J09 x),.agg (J09 y)] (fun r=>r = .bool (decide (x=y))):=by
 refine J03 Tryz.func300 a300_ok rfl (by simp [a300]) ?_
 simp [a300,J09]
 by_cases h0:x.Lst=y.Lst
 case neg=>simp [h0];try exact fun e=>h0 (by rw [e])
 simp [h0]
 by_cases h1:x.Cons=y.Cons
 case neg=>simp [h1];try exact fun e=>h1 (by rw [e])
 simp [h1]
 by_cases h2:x.Head=y.Head
 case neg=>simp [h2];try exact fun e=>h2 (by rw [e])
 simp [h2]
 by_cases h3:x.Tail=y.Tail
 case neg=>simp [h3];try exact fun e=>h3 (by rw [e])
 simp [h3]
 cases x;cases y;simp_all
theorem a212_ok:J0a Tryz.prog Tryz.f212=some (tSz true 4 282):=by kernel_rfl
theorem Jiw (l:List DPattern) (left:Int) (h0:0≤left∧left≤4611686018427387904):Holds Tryz.prog 212 [.sl 4 (l.map J09),i64 left] (fun r=>r=i64 (J2z left (J38 l))):=by
 rw [show J38 l=wL J3h l from rfl,←J61 (w:=J3h) (g:=fun x lf=>J2z lf (J3h x)) (fun _ _ _=>rfl) l left h0.1]
 exact J5c Tryz.func212 a212_ok rfl (rowOf:=J09) (eltOf:=(fun x => .agg (J09 x))) (fun x=>by simp [J09]) (fun x h=>by simp [J09]) (fun x lf h=>J8b h) l left h0 (fun x lf _ hl=>Jke x lf hl)
theorem a226_ok:J0a Tryz.prog Tryz.f226=some (tTo true 4 56 289 [.str [],.bool false,.str [],.str []]):=by kernel_rfl
theorem Ji5 (l:List DPattern) (hw:J38 l≤1048576):Holds Tryz.prog 226 [.sl 4 (l.map J09)] (fun r=>r = .us 4 (l.map J1k)):=
 J5f Tryz.func226 a226_ok rfl (rowOf:=J09) (eltOf:=(fun x => .agg (J09 x))) (eltU:=(fun x => .agg (J1k x))) (fun x=>by simp [J09]) (fun x h=>by simp [J09]) (fun x=>by simp) (fun x=>by simp [J1k]) (fun x=>by simp [J1k]) rfl l (by have:=J27 J3h l;unfold J38 at hw;unfold LIM;omega) (fun x h=>Jk6 x (by have:=J3d (w:=J3h) h;unfold J38 at hw;omega))
theorem a244_ok:J0a Tryz.prog Tryz.f244=some (tEq true 4 300):=by kernel_rfl
theorem Jif (l m:List DPattern):Holds Tryz.prog 244 [.sl 4 (l.map J09),.sl 4 (m.map J09)] (fun r=>r = .bool (decide (l=m))):=by
 rw [←J7m]
 exact J5g Tryz.func244 a244_ok rfl (rowOf:=J09) (eltOf:=(fun x => .agg (J09 x))) (fun x=>by simp [J09]) (fun x h=>by simp [J09]) l m (fun x y _ _=>Jkd x y)
theorem Jrt (x:DCall) (left:Int) (h0:0≤left∧left≤4611686018427387904):Holds Tryz.prog 284 [.agg (J0s x),i64 left] (fun r=>r=i64 (J2z left (J53 x))):=by
 refine J03 Tryz.func284 a284_ok rfl (by simp [a284]) ?_
 simp [a284,J0s]
 have e0:J53 x=J53 x:=rfl
 conv at e0=>rhs;unfold J53
 intro hl0
 rw [J1e (by unfold LIM at hl0;omega)]
 by_cases h1:left - (x.Bind.length:Nat)<0
 case pos=>
  have q:left - (J53 x:Int)<0:=by omega
  simp [J2z,h1,q]
  try first|omega|(constructor <;> intros <;> omega)
 have g1:(x.Bind.length:Nat)≤left:=by omega
 simp [J2z,h1,g1]
 intro hl1
 rw [J1e (by unfold LIM at hl1;omega)]
 by_cases h2:(left - (x.Bind.length:Nat)) - (x.Func.length:Nat)<0
 case pos=>
  have q:left - (J53 x:Int)<0:=by omega
  simp [J2z,h2,q]
  try first|omega|(constructor <;> intros <;> omega)
 have g2:(x.Func.length:Nat)≤(left - (x.Bind.length:Nat)):=by omega
 simp [J2z,h2,g2]
 refine J02 (Jrm x.Args (left - (x.Bind.length:Nat) - (x.Func.length:Nat)) (by omega)) (by simp) ?_
 rintro r rfl
 by_cases h3:(left - (x.Bind.length:Nat) - (x.Func.length:Nat)) - (Jc8 x.Args:Nat)<0
 case pos=>
  have q:left - (J53 x:Int)<0:=by omega
  simp [J2z,h3,q]
  try first|omega|(constructor <;> intros <;> omega)
 simp [J2z,h3]
 try (rw [if_neg (by omega)];omega)
theorem Js8 (x:DCall) (_hw:J53 x≤1048576):Holds Tryz.prog 291 [.agg (J0s x)] (fun r=>r = .agg (J3z x)):=by
 have hw:=_hw;unfold J53 at hw
 refine J03 Tryz.func291 a291_ok rfl (by simp [a291]) ?_
 simp [a291,J0s]
 refine J02 (Jt1 x.Args (by omega)) (by simp []) ?_
 rintro r rfl
 simp []
 try simp [J3z]
theorem Jqp (x y:DCall):Holds Tryz.prog 302 [.agg (J0s x),.agg (J0s y)] (fun r=>r = .bool (decide (x=y))):=by
 refine J03 Tryz.func302 a302_ok rfl (by simp [a302]) ?_
 simp [a302,J0s]
 by_cases h0:x.Bind=y.Bind
 case neg=>simp [h0];try exact fun e=>h0 (by rw [e])
 simp [h0]
 by_cases h1:x.Func=y.Func
 case neg=>simp [h1];try exact fun e=>h1 (by rw [e])
 simp [h1]
 refine J02 (Jro x.Args y.Args) (by simp []) ?_
 rintro r rfl
 by_cases h2:x.Args=y.Args
 case neg=>simp [h2];try exact fun e=>h2 (by rw [e])
 simp [h2]
 cases x;cases y;simp_all
theorem a214_ok:J0a Tryz.prog Tryz.f214=some (tSz true 3 284):=by kernel_rfl
theorem Jos (l:List DCall) (left:Int) (h0:0≤left∧left≤4611686018427387904):Holds Tryz.prog 214 [.sl 3 (l.map J0s),i64 left] (fun r=>r=i64 (J2z left (J6v l))):=by
 rw [show J6v l=wL J53 l from rfl,←J61 (w:=J53) (g:=fun x lf=>J2z lf (J53 x)) (fun _ _ _=>rfl) l left h0.1]
 exact J5c Tryz.func214 a214_ok rfl (rowOf:=J0s) (eltOf:=(fun x => .agg (J0s x))) (fun x=>by simp [J0s]) (fun x h=>by simp [J0s]) (fun x lf h=>J8b h) l left h0 (fun x lf _ hl=>Jrt x lf hl)
theorem a228_ok:J0a Tryz.prog Tryz.f228=some (tTo true 3 56 291 [.str [],.str [],.nil 3]):=by kernel_rfl
theorem Jog (l:List DCall) (hw:J6v l≤1048576):Holds Tryz.prog 228 [.sl 3 (l.map J0s)] (fun r=>r = .us 3 (l.map J3z)):=
 J5f Tryz.func228 a228_ok rfl (rowOf:=J0s) (eltOf:=(fun x => .agg (J0s x))) (eltU:=(fun x => .agg (J3z x))) (fun x=>by simp [J0s]) (fun x h=>by simp [J0s]) (fun x=>by simp) (fun x=>by simp [J3z]) (fun x=>by simp [J3z]) rfl l (by have:=J27 J53 l;unfold J6v at hw;unfold LIM;omega) (fun x h=>Js8 x (by have:=J3d (w:=J53) h;unfold J6v at hw;omega))
theorem a246_ok:J0a Tryz.prog Tryz.f246=some (tEq true 3 302):=by kernel_rfl
theorem Jpj (l m:List DCall):Holds Tryz.prog 246 [.sl 3 (l.map J0s),.sl 3 (m.map J0s)] (fun r=>r = .bool (decide (l=m))):=by
 rw [←J7m]
 exact J5g Tryz.func246 a246_ok rfl (rowOf:=J0s) (eltOf:=(fun x => .agg (J0s x))) (fun x=>by simp [J0s]) (fun x h=>by simp [J0s]) l m (fun x y _ _=>Jqp x y)
theorem Jql (x:DRule) (left:Int) (h0:0≤left∧left≤4611686018427387904):Holds Tryz.prog 133 [.agg (J0c x),i64 left] (fun r=>r=i64 (J2z left (J39 x))):=by
 refine J03 Tryz.func133 a133_ok rfl (by simp [a133]) ?_
 simp [a133,J0c]
 have e0:J39 x=J39 x:=rfl
 conv at e0=>rhs;unfold J39
 intro hl0
 rw [J1e (by unfold LIM at hl0;omega)]
 by_cases h1:left - (x.Func.length:Nat)<0
 case pos=>
  have q:left - (J39 x:Int)<0:=by omega
  simp [J2z,h1,q]
  try first|omega|(constructor <;> intros <;> omega)
 have g1:(x.Func.length:Nat)≤left:=by omega
 simp [J2z,h1,g1]
 refine J02 (Jiw x.Patterns (left - (x.Func.length:Nat)) (by omega)) (by simp) ?_
 rintro r rfl
 by_cases h2:(left - (x.Func.length:Nat)) - (J38 x.Patterns:Nat)<0
 case pos=>
  have q:left - (J39 x:Int)<0:=by omega
  simp [J2z,h2,q]
  try first|omega|(constructor <;> intros <;> omega)
 simp [J2z,h2]
 refine J02 (Jl5 x.Guards (left - (x.Func.length:Nat) - (J38 x.Patterns:Nat)) (by omega)) (by simp) ?_
 rintro r rfl
 by_cases h3:(left - (x.Func.length:Nat) - (J38 x.Patterns:Nat)) - (J66 x.Guards:Nat)<0
 case pos=>
  have q:left - (J39 x:Int)<0:=by omega
  simp [J2z,h3,q]
  try first|omega|(constructor <;> intros <;> omega)
 simp [J2z,h3]
 refine J02 (Jos x.Calls (left - (x.Func.length:Nat) - (J38 x.Patterns:Nat) - (J66 x.Guards:Nat)) (by omega)) (by simp) ?_
 rintro r rfl
 by_cases h4:(left - (x.Func.length:Nat) - (J38 x.Patterns:Nat) - (J66 x.Guards:Nat)) - (J6v x.Calls:Nat)<0
 case pos=>
  have q:left - (J39 x:Int)<0:=by omega
  simp [J2z,h4,q]
  try first|omega|(constructor <;> intros <;> omega)
 simp [J2z,h4]
 refine J02 (Jo7 x.Result (left - (x.Func.length:Nat) - (J38 x.Patterns:Nat) - (J66 x.Guards:Nat) - (J6v x.Calls:Nat)) (by omega)) (by simp [J0v]) ?_
 rintro r rfl
 by_cases h5:(left - (x.Func.length:Nat) - (J38 x.Patterns:Nat) - (J66 x.Guards:Nat) - (J6v x.Calls:Nat)) - (Ja1 x.Result:Nat)<0
 case pos=>
  have q:left - (J39 x:Int)<0:=by omega
  simp [J2z,h5,q]
  try first|omega|(constructor <;> intros <;> omega)
 simp [J2z,h5]
 try (rw [if_neg (by omega)];omega)
theorem Jre (x:DRule) (_hw:J39 x≤1048576):Holds Tryz.prog 139 [.agg (J0c x)] (fun r=>r = .agg (J2d x)):=by
 have hw:=_hw;unfold J39 at hw
 refine J03 Tryz.func139 a139_ok rfl (by simp [a139]) ?_
 simp [a139,J0c]
 refine J02 (Ji5 x.Patterns (by omega)) (by simp []) ?_
 rintro r rfl
 simp []
 refine J02 (Jkq x.Guards (by omega)) (by simp []) ?_
 rintro r rfl
 simp []
 refine J02 (Jog x.Calls (by omega)) (by simp []) ?_
 rintro r rfl
 simp []
 refine J02 (Job x.Result (by omega)) (by simp [J0v]) ?_
 rintro r rfl
 simp [J5p]
 try simp [J2d]
theorem Jrz (x y:DRule):Holds Tryz.prog 155 [.agg (J0c x),.agg (J0c y)] (fun r=>r = .bool (decide (x=y))):=by
 refine J03 Tryz.func155 a155_ok rfl (by simp [a155]) ?_
 simp [a155,J0c]
 by_cases h0:x.Func=y.Func
 case neg=>simp [h0];try exact fun e=>h0 (by rw [e])
 simp [h0]
 refine J02 (Jif x.Patterns y.Patterns) (by simp []) ?_
 rintro r rfl
 by_cases h1:x.Patterns=y.Patterns
 case neg=>simp [h1];try exact fun e=>h1 (by rw [e])
 simp [h1]
 refine J02 (Jl1 x.Guards y.Guards) (by simp []) ?_
 rintro r rfl
 by_cases h2:x.Guards=y.Guards
 case neg=>simp [h2];try exact fun e=>h2 (by rw [e])
 simp [h2]
 refine J02 (Jpj x.Calls y.Calls) (by simp []) ?_
 rintro r rfl
 by_cases h3:x.Calls=y.Calls
 case neg=>simp [h3];try exact fun e=>h3 (by rw [e])
 simp [h3]
 refine J02 (Joh x.Result y.Result) (by simp [J0v]) ?_
 rintro r rfl
 by_cases h4:x.Result=y.Result
 case neg=>simp [h4];try exact fun e=>h4 (by rw [e])
 simp [h4]
 cases x;cases y;simp_all
theorem a59_ok:J0a Tryz.prog Tryz.f59=some (tSz true 7 133):=by kernel_rfl
theorem Jov (l:List DRule) (left:Int) (h0:0≤left∧left≤4611686018427387904):Holds Tryz.prog 59 [.sl 7 (l.map J0c),i64 left] (fun r=>r=i64 (J2z left (J7v l))):=by
 rw [show J7v l=wL J39 l from rfl,←J61 (w:=J39) (g:=fun x lf=>J2z lf (J39 x)) (fun _ _ _=>rfl) l left h0.1]
 exact J5c Tryz.func59 a59_ok rfl (rowOf:=J0c) (eltOf:=(fun x => .agg (J0c x))) (fun x=>by simp [J0c]) (fun x h=>by simp [J0c]) (fun x lf h=>J8b h) l left h0 (fun x lf _ hl=>Jql x lf hl)
theorem a66_ok:J0a Tryz.prog Tryz.f66=some (tTo true 7 136 139 [.str [],.nil 4,.nil 2,.nil 3,.bool false,.nil 2,.str []]):=by kernel_rfl
theorem Jpa (l:List DRule) (hw:J7v l≤1048576):Holds Tryz.prog 66 [.sl 7 (l.map J0c)] (fun r=>r = .us 7 (l.map J2d)):=
 J5f Tryz.func66 a66_ok rfl (rowOf:=J0c) (eltOf:=(fun x => .agg (J0c x))) (eltU:=(fun x => .agg (J2d x))) (fun x=>by simp [J0c]) (fun x h=>by simp [J0c]) (fun x=>by simp) (fun x=>by simp [J2d]) (fun x=>by simp [J2d]) rfl l (by have:=J27 J39 l;unfold J7v at hw;unfold LIM;omega) (fun x h=>Jre x (by have:=J3d (w:=J39) h;unfold J7v at hw;omega))
theorem a75_ok:J0a Tryz.prog Tryz.f75=some (tEq true 7 155):=by kernel_rfl
theorem Jnm (l m:List DRule):Holds Tryz.prog 75 [.sl 7 (l.map J0c),.sl 7 (m.map J0c)] (fun r=>r = .bool (decide (l=m))):=by
 rw [←J7m]
 exact J5g Tryz.func75 a75_ok rfl (rowOf:=J0c) (eltOf:=(fun x => .agg (J0c x))) (fun x=>by simp [J0c]) (fun x h=>by simp [J0c]) l m (fun x y _ _=>Jrz x y)
theorem Jj0 (x:DFunction) (left:Int) (h0:0≤left∧left≤4611686018427387904):Holds Tryz.prog 132 [.agg (J04 x),i64 left] (fun r=>r=i64 (J2z left (J11 x))):=by
 refine J03 Tryz.func132 a132_ok rfl (by simp [a132]) ?_
 simp [a132,J04]
 have e0:J11 x=J11 x:=rfl
 conv at e0=>rhs;unfold J11
 intro hl0
 rw [J1e (by unfold LIM at hl0;omega)]
 by_cases h1:left - (x.Name.length:Nat)<0
 case pos=>
  have q:left - (J11 x:Int)<0:=by omega
  simp [J2z,h1,q]
  try first|omega|(constructor <;> intros <;> omega)
 have g1:(x.Name.length:Nat)≤left:=by omega
 simp [J2z,h1,g1]
 refine J02 (Jjz x.Params (left - (x.Name.length:Nat)) (by omega)) (by simp) ?_
 rintro r rfl
 by_cases h2:(left - (x.Name.length:Nat)) - (J4e x.Params:Nat)<0
 case pos=>
  have q:left - (J11 x:Int)<0:=by omega
  simp [J2z,h2,q]
  try first|omega|(constructor <;> intros <;> omega)
 simp [J2z,h2]
 refine J02 (Jkx x.Pre (left - (x.Name.length:Nat) - (J4e x.Params:Nat)) (by omega)) (by simp) ?_
 rintro r rfl
 by_cases h3:(left - (x.Name.length:Nat) - (J4e x.Params:Nat)) - (J5n x.Pre:Nat)<0
 case pos=>
  have q:left - (J11 x:Int)<0:=by omega
  simp [J2z,h3,q]
  try first|omega|(constructor <;> intros <;> omega)
 simp [J2z,h3]
 try (rw [if_neg (by omega)];omega)
theorem Jiy (x:DFunction) (_hw:J11 x≤1048576):Holds Tryz.prog 138 [.agg (J04 x)] (fun r=>r = .agg (J0h x)):=by
 have hw:=_hw;unfold J11 at hw
 refine J03 Tryz.func138 a138_ok rfl (by simp [a138]) ?_
 simp [a138,J04]
 refine J02 (Jk7 x.Params (by omega)) (by simp []) ?_
 rintro r rfl
 simp []
 refine J02 (Jkr x.Pre (by omega)) (by simp []) ?_
 rintro r rfl
 simp []
 try simp [J0h]
theorem Jir (x y:DFunction):Holds Tryz.prog 154 [.agg (J04 x),.agg (J04 y)] (fun r=>r = .bool (decide (x=y))):=by
 refine J03 Tryz.func154 a154_ok rfl (by simp [a154]) ?_
 simp [a154,J04]
 by_cases h0:x.Name=y.Name
 case neg=>simp [h0];try exact fun e=>h0 (by rw [e])
 simp [h0]
 refine J02 (Jjo x.Params y.Params) (by simp []) ?_
 rintro r rfl
 by_cases h1:x.Params=y.Params
 case neg=>simp [h1];try exact fun e=>h1 (by rw [e])
 simp [h1]
 by_cases h2:x.ListResult=y.ListResult
 case neg=>simp [h2];try exact fun e=>h2 (by rw [e])
 simp [h2]
 refine J02 (Jle x.Pre y.Pre) (by simp []) ?_
 rintro r rfl
 by_cases h3:x.Pre=y.Pre
 case neg=>simp [h3];try exact fun e=>h3 (by rw [e])
 simp [h3]
 cases x;cases y;simp_all
theorem a58_ok:J0a Tryz.prog Tryz.f58=some (tSz true 4 132):=by kernel_rfl
theorem Jhi (l:List DFunction) (left:Int) (h0:0≤left∧left≤4611686018427387904):Holds Tryz.prog 58 [.sl 4 (l.map J04),i64 left] (fun r=>r=i64 (J2z left (J28 l))):=by
 rw [show J28 l=wL J11 l from rfl,←J61 (w:=J11) (g:=fun x lf=>J2z lf (J11 x)) (fun _ _ _=>rfl) l left h0.1]
 exact J5c Tryz.func58 a58_ok rfl (rowOf:=J04) (eltOf:=(fun x => .agg (J04 x))) (fun x=>by simp [J04]) (fun x h=>by simp [J04]) (fun x lf h=>J8b h) l left h0 (fun x lf _ hl=>Jj0 x lf hl)
theorem a65_ok:J0a Tryz.prog Tryz.f65=some (tTo true 4 72 138 [.str [],.nil 1,.bool false,.nil 2]):=by kernel_rfl
theorem Jh4 (l:List DFunction) (hw:J28 l≤1048576):Holds Tryz.prog 65 [.sl 4 (l.map J04)] (fun r=>r = .us 4 (l.map J0h)):=
 J5f Tryz.func65 a65_ok rfl (rowOf:=J04) (eltOf:=(fun x => .agg (J04 x))) (eltU:=(fun x => .agg (J0h x))) (fun x=>by simp [J04]) (fun x h=>by simp [J04]) (fun x=>by simp) (fun x=>by simp [J0h]) (fun x=>by simp [J0h]) rfl l (by have:=J27 J11 l;unfold J28 at hw;unfold LIM;omega) (fun x h=>Jiy x (by have:=J3d (w:=J11) h;unfold J28 at hw;omega))
theorem a74_ok:J0a Tryz.prog Tryz.f74=some (tEq true 4 154):=by kernel_rfl
theorem Jhc (l m:List DFunction):Holds Tryz.prog 74 [.sl 4 (l.map J04),.sl 4 (m.map J04)] (fun r=>r = .bool (decide (l=m))):=by
 rw [←J7m]
 exact J5g Tryz.func74 a74_ok rfl (rowOf:=J04) (eltOf:=(fun x => .agg (J04 x))) (fun x=>by simp [J04]) (fun x h=>by simp [J04]) l m (fun x y _ _=>Jir x y)
theorem Je4 (x:DProgram) (left:Int) (h0:0≤left∧left≤4611686018427387904):Holds Tryz.prog 12 [.agg (J01 x),i64 left] (fun r=>r=i64 (J2z left (J0f x))):=by
 refine J03 Tryz.func12 a12_ok rfl (by simp [a12]) ?_
 simp [a12,J01]
 have e0:J0f x=J0f x:=rfl
 conv at e0=>rhs;unfold J0f
 refine J02 (Jhi x.Functions left (by omega)) (by simp) ?_
 rintro r rfl
 by_cases h1:left - (J28 x.Functions:Nat)<0
 case pos=>
  have q:left - (J0f x:Int)<0:=by omega
  simp [J2z,h1,q]
  try first|omega|(constructor <;> intros <;> omega)
 simp [J2z,h1]
 refine J02 (Jov x.Rules (left - (J28 x.Functions:Nat)) (by omega)) (by simp) ?_
 rintro r rfl
 by_cases h2:(left - (J28 x.Functions:Nat)) - (J7v x.Rules:Nat)<0
 case pos=>
  have q:left - (J0f x:Int)<0:=by omega
  simp [J2z,h2,q]
  try first|omega|(constructor <;> intros <;> omega)
 simp [J2z,h2]
 try (rw [if_neg (by omega)];omega)
theorem J5w (x:DProgram) (_hw:J0f x≤1048576):Holds Tryz.prog 14 [.agg (J01 x)] (fun r=>r = .agg (J1n x)):=by
 have hw:=_hw;unfold J0f at hw
 refine J03 Tryz.func14 a14_ok rfl (by simp [a14]) ?_
 simp [a14,J01]
 refine J02 (Jh4 x.Functions (by omega)) (by simp []) ?_
 rintro r rfl
 simp []
 refine J02 (Jpa x.Rules (by omega)) (by simp []) ?_
 rintro r rfl
 simp []
 try simp [J1n]
theorem Je0 (x y:DProgram):Holds Tryz.prog 17 [.agg (J01 x),.agg (J01 y)] (fun r=>r = .bool (decide (x=y))):=by
 refine J03 Tryz.func17 a17_ok rfl (by simp [a17]) ?_
 simp [a17,J01]
 refine J02 (Jhc x.Functions y.Functions) (by simp []) ?_
 rintro r rfl
 by_cases h0:x.Functions=y.Functions
 case neg=>simp [h0];try exact fun e=>h0 (by rw [e])
 simp [h0]
 refine J02 (Jnm x.Rules y.Rules) (by simp []) ?_
 rintro r rfl
 by_cases h1:x.Rules=y.Rules
 case neg=>simp [h1];try exact fun e=>h1 (by rw [e])
 simp [h1]
 cases x;cases y;simp_all
def a113:AFn:= ⟨33,[.t 4],(.seq (.reg [⟨some 4,.mv (.k (.bool false)),no⟩]) (.seq (.seq (.reg [⟨some 6,.mv (.t 0),no⟩,⟨some 7,.len false (.t 6),no⟩,⟨some 8,.mv (.t 1),no⟩,⟨some 9,.len false (.t 8),no⟩,⟨some 10,.bin .neq (.t 7) (.t 9),no⟩]) (.cond (.t 10) (.seq (.reg [⟨some 4,.mv (.k (.bool false)),no⟩]) .ret) .skip)) (.seq (.seq (.reg [⟨some 5,.mv (.k (.int .i64 0)),no⟩]) (.blk 0 (.loop (.seq (.seq (.reg [⟨some 11,.mv (.t 5),no⟩,⟨some 12,.mv (.t 0),no⟩,⟨some 13,.len false (.t 12),no⟩,⟨some 14,.bin .lss (.t 11) (.t 13),no⟩]) (.cond (.t 14) .skip (.exit 0))) (.seq (.blk 1 (.seq (.draw (.op ⟨some 17,.mv (.t 0),no⟩ (.op ⟨some 18,.mv (.t 5),no⟩ (.op ⟨some 19,.ixa 4 (.t 17) (.t 18),no⟩ (.op ⟨some 20,.fld 0 (.t 19),no⟩ (.op ⟨some 21,.ld true 2 (.t 20),no⟩ (.op ⟨some 22,.mv (.t 0),no⟩ (.op ⟨some 23,.mv (.t 5),no⟩ (.op ⟨some 24,.ixa 4 (.t 22) (.t 23),no⟩ (.op ⟨some 25,.fld 2 (.t 24),no⟩ (.op ⟨some 26,.ld true 2 (.t 25),no⟩ (.op ⟨some 27,.mv (.t 1),no⟩ (.op ⟨some 28,.mv (.t 5),no⟩ (.op ⟨some 29,.ixa 2 (.t 27) (.t 28),no⟩ (.op ⟨some 30,.ld true 2 (.t 29),no⟩ (.op ⟨some 31,.call (.k (.fn (.func 195) [] [])) [.t 21,.t 26,.t 30],no⟩ (.op ⟨some 32,.un .not (.t 31),no⟩ .fin))))))))))))))))) (.cond (.t 32) (.seq (.reg [⟨some 4,.mv (.k (.bool false)),no⟩]) .ret) .skip))) (.reg [⟨some 15,.mv (.t 5),no⟩,⟨some 16,.bin .add (.t 15) (.k (.int .i64 1)),no⟩,⟨some 5,.mv (.t 16),no⟩])))))) (.seq (.reg [⟨some 4,.mv (.k (.bool true)),no⟩]) .ret))))⟩
theorem a113_ok:J0a Tryz.prog Tryz.f113=some a113:=by kernel_rfl
def a115:AFn:= ⟨30,[.t 4],(.seq (.reg [⟨some 4,.mv (.k (.bool false)),no⟩]) (.seq (.seq (.reg [⟨some 7,.mv (.t 0),no⟩,⟨some 8,.len false (.t 7),no⟩,⟨some 9,.mv (.t 1),no⟩,⟨some 10,.len false (.t 9),no⟩,⟨some 11,.bin .neq (.t 8) (.t 10),no⟩]) (.cond (.t 11) (.seq (.reg [⟨some 4,.mv (.k (.bool false)),no⟩]) .ret) .skip)) (.seq (.seq (.reg [⟨some 12,.mv (.t 0),no⟩,⟨some 13,.len false (.t 12),no⟩,⟨some 14,.mv (.k (.int .i64 0)),no⟩]) (.blk 0 (.loop (.seq (.reg [⟨some 15,.bin .lss (.t 14) (.t 13),no⟩]) (.seq (.cond (.t 15) .skip (.exit 0)) (.seq (.blk 1 (.seq (.reg [⟨some 16,.mv (.t 14),no⟩,⟨some 17,.ixa 4 (.t 12) (.t 14),no⟩,⟨some 18,.ld true 4 (.t 17),no⟩,⟨some 6,.box [(.int .i64 0),(.nil 2),(.int .i64 0),(.nil 1)],no⟩,⟨some 5,.mv (.t 16),no⟩,⟨no,.st 4 (.t 6) (.t 18),no⟩]) (.seq (.draw (.op ⟨some 19,.fld 0 (.t 6),no⟩ (.op ⟨some 20,.ld true 2 (.t 19),no⟩ (.op ⟨some 21,.fld 2 (.t 6),no⟩ (.op ⟨some 22,.ld true 2 (.t 21),no⟩ (.op ⟨some 23,.mv (.t 1),no⟩ (.op ⟨some 24,.mv (.t 5),no⟩ (.op ⟨some 25,.ixa 2 (.t 23) (.t 24),no⟩ (.op ⟨some 26,.ld true 2 (.t 25),no⟩ (.op ⟨some 27,.call (.k (.fn (.func 196) [] [])) [.t 20,.t 22,.t 26],no⟩ (.op ⟨some 28,.un .not (.t 27),no⟩ .fin))))))))))) (.cond (.t 28) (.seq (.reg [⟨some 4,.mv (.k (.bool false)),no⟩]) .ret) .skip)))) (.reg [⟨some 29,.bin .add (.t 14) (.k (.int .i64 1)),no⟩,⟨some 14,.mv (.t 29),no⟩]))))))) (.seq (.reg [⟨some 4,.mv (.k (.bool true)),no⟩]) .ret))))⟩
theorem a115_ok:J0a Tryz.prog Tryz.f115=some a115:=by kernel_rfl
def J9h (os:List DObligation) (fs:List DFarkas):Bool:=decide (os.length=fs.length)&&(os.zip fs).all fun p=>J9e p.1.System p.1.Target p.2
theorem Jf6 (os:List DObligation) (fs:List DFarkas):Holds Tryz.prog 113 [.sl 4 (os.map J0z),.sl 2 (fs.map J0r)] (fun r=>r = .bool (J9h os fs)):=by
 refine J03 Tryz.func113 a113_ok rfl (by simp [a113]) ?_
 simp [a113]
 intro hl1 hl2
 unfold J9h
 by_cases h1:os.length=fs.length
 case neg=>simp [h1];omega
 simp [h1]
 have hzl:(os.zip fs).length=os.length:=by simp [h1]
 generalize hB:((os.zip fs).all fun p=>J9e p.1.System p.1.Target p.2)=B
 refine J3t [0,1] 5 os.length (fun i _=>((os.zip fs).drop i).all (fun p=>J9e p.1.System p.1.Target p.2)=B) hl1 (by simp) hB ?_ ?_
 ·rintro i s h R hi hg hk s5 hw hJ hh hR hret _
  simp at hk
  have hif:i<fs.length:=by omega
  rw [List.drop_eq_getElem_cons (by omega:i<(os.zip fs).length),List.all_cons,List.getElem_zip] at hJ
  simp [hk,s5,hi,hg,hif]
  intro _
  first|refine J00 (Jac (os[i]'hi).System (os[i]'hi).Target (fs[i]'hif)) (by first|simp;done|rfl) ?_|refine J02 (Jac (os[i]'hi).System (os[i]'hi).Target (fs[i]'hif)) (by first|simp;done|rfl) ?_
  rintro r rfl
  cases hc:J9e (os[i]).System (os[i]).Target fs[i]
  ·rw [hc,Bool.false_and] at hJ
   simp
   refine hret _ _ _ ?_
   simp [←hJ]
  ·rw [hc,Bool.true_and] at hJ
   simp [hk,s5,hw]
   exact hR _ (by simp [hk]) (by simp) hJ
 ·rintro s h R hk s5 hJ hh _ hX
  simp at hk
  rw [List.drop_eq_nil_of_le (by omega)] at hJ
  simp [hk,s5]
  intro _
  refine hX _ _ ?_
  simp [←hJ]
theorem Jgi (os:List DObligation) (fs:List DFarkas):Holds Tryz.prog 115 [.sl 4 (os.map J0z),.sl 2 (fs.map J0r)] (fun r=>r = .bool (J9h os fs)):=by
 refine J03 Tryz.func115 a115_ok rfl (by simp [a115]) ?_
 simp [a115]
 intro hl1 hl2
 unfold J9h
 by_cases h1:os.length=fs.length
 case neg=>simp [h1];omega
 simp [h1]
 have hzl:(os.zip fs).length=os.length:=by simp [h1]
 generalize hB:((os.zip fs).all fun p=>J9e p.1.System p.1.Target p.2)=B
 intro _
 refine J0o [0,1,12,13] 14 fs.length (fun i _ _ _=>((os.zip fs).drop i).all (fun p=>J9e p.1.System p.1.Target p.2)=B) hl2 (by simp) hB ?_ ?_
 ·rintro i s h n R hi hg hk s14 hw hJ hR hret _
  simp at hk
  have hif:i<os.length:=by omega
  rw [List.drop_eq_getElem_cons (by omega:i<(os.zip fs).length),List.all_cons,List.getElem_zip] at hJ
  simp [hk,s14,hi,hg,hif]
  refine ⟨by simp [J0z],?_⟩
  first|refine J00 (Jba (os[i]'hif).System (os[i]'hif).Target (fs[i]'hi)) (by first|simp;done|rfl) ?_|refine J02 (Jba (os[i]'hif).System (os[i]'hif).Target (fs[i]'hi)) (by first|simp;done|rfl) ?_
  rintro r rfl
  cases hc:J9e (os[i]).System (os[i]).Target fs[i]
  ·rw [hc,Bool.false_and] at hJ
   simp
   refine hret _ _ _ ?_
   simp [←hJ]
  ·rw [hc,Bool.true_and] at hJ
   simp [hk,s14,hw]
   exact hR _ _ _ (by simp [hk]) (by simp) hJ
 ·rintro s h n R hk s14 hJ hret hX
  simp at hk
  rw [List.drop_eq_nil_of_le (by omega)] at hJ
  simp [hk,s14]
  refine hX _ _ _ _ ?_
  simp [←hJ]
def a42:AFn:= ⟨24,[.t 6],(.seq (.reg [⟨some 3,.boxv (.t 0),no⟩,⟨some 4,.boxv (.t 1),no⟩,⟨some 6,.mv (.k (.bool false)),no⟩]) (.seq (.reg [⟨some 10,.ld true 2 (.t 3),no⟩,⟨some 11,.ld true 2 (.t 4),no⟩,⟨some 12,.call (.k (.fn (.func 33) [] [])) [.t 10,.t 11],no⟩,⟨some 9,.mv (.t 12),no⟩,⟨some 13,.ext (.t 9) 0,no⟩,⟨some 14,.ext (.t 9) 1,no⟩,⟨some 7,.mv (.t 13),no⟩,⟨some 8,.mv (.t 14),no⟩]) (.seq (.reg [⟨some 15,.mv (.t 8),no⟩,⟨some 16,.mv (.t 15),no⟩,⟨some 17,.ld true 2 (.t 3),(some (16,true))⟩,⟨some 18,.call (.k (.fn (.func 94) [] [])) [.t 17],(some (16,true))⟩,⟨some 19,.mv (.t 7),(some (16,true))⟩,⟨some 20,.app 64 4 (.t 18) (.t 19),(some (16,true))⟩,⟨some 21,.mv (.t 2),(some (16,true))⟩,⟨some 22,.call (.k (.fn (.func 115) [] [])) [.t 20,.t 21],(some (16,true))⟩,⟨some 23,.pick (.t 16) (.t 22) (.k (.bool false)),no⟩,⟨some 6,.mv (.t 23),no⟩]) .ret)))⟩
theorem a42_ok:J0a Tryz.prog Tryz.f42=some a42:=by kernel_rfl
def a112:AFn:= ⟨19,[.t 4,.t 5],(.seq (.reg [⟨some 2,.boxv (.t 0),no⟩,⟨some 3,.boxv (.t 1),no⟩,⟨some 4,.mv (.k (.nil 4)),no⟩,⟨some 5,.mv (.k (.bool false)),no⟩]) (.seq (.reg [⟨some 9,.ld true 2 (.t 2),no⟩,⟨some 10,.ld true 2 (.t 3),no⟩,⟨some 11,.call (.k (.fn (.func 31) [] [])) [.t 9,.t 10],no⟩,⟨some 8,.mv (.t 11),no⟩,⟨some 12,.ext (.t 8) 0,no⟩,⟨some 13,.ext (.t 8) 1,no⟩,⟨some 6,.mv (.t 12),no⟩,⟨some 7,.mv (.t 13),no⟩]) (.seq (.reg [⟨some 14,.ld true 2 (.t 2),no⟩,⟨some 15,.call (.k (.fn (.func 92) [] [])) [.t 14],no⟩,⟨some 16,.mv (.t 6),no⟩,⟨some 17,.app 64 4 (.t 15) (.t 16),no⟩,⟨some 18,.mv (.t 7),no⟩,⟨some 4,.mv (.t 17),no⟩,⟨some 5,.mv (.t 18),no⟩]) .ret)))⟩
theorem a112_ok:J0a Tryz.prog Tryz.f112=some a112:=by kernel_rfl
def a40:AFn:= ⟨21,[.t 6],(.seq (.reg [⟨some 3,.boxv (.t 0),no⟩,⟨some 4,.boxv (.t 1),no⟩,⟨some 6,.mv (.k (.bool false)),no⟩]) (.seq (.reg [⟨some 10,.ld true 2 (.t 3),no⟩,⟨some 11,.ld true 2 (.t 4),no⟩,⟨some 12,.call (.k (.fn (.func 112) [] [])) [.t 10,.t 11],no⟩,⟨some 9,.mv (.t 12),no⟩,⟨some 13,.ext (.t 9) 0,no⟩,⟨some 14,.ext (.t 9) 1,no⟩,⟨some 7,.mv (.t 13),no⟩,⟨some 8,.mv (.t 14),no⟩]) (.seq (.reg [⟨some 15,.mv (.t 8),no⟩,⟨some 16,.mv (.t 15),no⟩,⟨some 17,.mv (.t 7),(some (16,true))⟩,⟨some 18,.mv (.t 2),(some (16,true))⟩,⟨some 19,.call (.k (.fn (.func 113) [] [])) [.t 17,.t 18],(some (16,true))⟩,⟨some 20,.pick (.t 16) (.t 19) (.k (.bool false)),no⟩,⟨some 6,.mv (.t 20),no⟩]) .ret)))⟩
theorem a40_ok:J0a Tryz.prog Tryz.f40=some a40:=by kernel_rfl
def Jhs (p:DProgram) (b:DBounds) (fs:List DFarkas):Bool:=(J2j p b).isSome&&J9h (Jf5 p++(J2j p b).getD []) fs
theorem Jfe (p:DProgram) (b:DBounds):((J2j p b).getD []).length≤11:=by
 cases h:J2j p b with
 | none=>simp
 | some o=>
  unfold J2j at h
  split at h
  case isFalse=>cases h
  rename_i hB
  obtain ⟨hpo,_,hbl⟩:=J68 hB
  have hl:=Jop h
  have hf:=(J59 hpo).2.2
  simp only [List.length_nil,List.length_append,J95,J8m,List.length_map,List.length_range] at hl
  simp only [Option.getD_some]
  omega
theorem Jbq (p:DProgram) (hp:J0f p≤1048576) (b:DBounds) (fs:List DFarkas):Holds Tryz.prog 42 [.agg (J01 p),.agg (J0d b),.sl 2 (fs.map J0r)] (fun x=>x = .bool (Jhs p b fs)):=by
 have h1:=Jfe p b
 have h2:=Jc5 p hp
 refine J03 Tryz.func42 a42_ok rfl (by simp [a42]) ?_
 simp [a42]
 first|refine J00 (J7i p hp b) (by first|simp;done|rfl) ?_|refine J02 (J7i p hp b) (by first|simp;done|rfl) ?_
 rintro r rfl
 unfold J7d Jhs
 generalize (J2j p b).isSome=ok at *
 generalize (J2j p b).getD []=O at *
 cases ok
 ·simp
 simp
 first|refine J00 (J8w p hp) (by first|simp;done|rfl) ?_|refine J02 (J8w p hp) (by first|simp;done|rfl) ?_
 rintro r rfl
 generalize Jf5 p=R at *
 simp
 refine ⟨by unfold LIM;omega,?_⟩
 have hm:R.map J06++O.map J06=(R++O).map J06:=by simp
 have ht:List.take (R.length+O.length) ((R++O).map J06)=(R++O).map J06:=List.take_of_length_le (by simp)
 rw [hm]
 first|refine J00 (Jgi (R++O) fs) (by first|simp [ht,-List.map_append];done|rfl) ?_|refine J02 (Jgi (R++O) fs) (by first|simp [ht,-List.map_append];done|rfl) ?_
 rintro r rfl
 simp
theorem Jiu (p:DProgram) (hp:J0f p≤1048576) (b:DBounds):Holds Tryz.prog 112 [.agg (J01 p),.agg (J0d b)] (fun x=>x = .tup [.us 4 ((Jf5 p++(J2j p b).getD []).map J06),.bool (J2j p b).isSome]):=by
 have h1:=Jfe p b
 have h2:=Jc5 p hp
 refine J03 Tryz.func112 a112_ok rfl (by simp [a112]) ?_
 simp [a112]
 first|refine J00 (J6y p hp b) (by first|simp;done|rfl) ?_|refine J02 (J6y p hp b) (by first|simp;done|rfl) ?_
 rintro r rfl
 unfold J7d
 generalize (J2j p b).isSome=ok at *
 generalize (J2j p b).getD []=O at *
 simp
 first|refine J00 (J83 p hp) (by first|simp;done|rfl) ?_|refine J02 (J83 p hp) (by first|simp;done|rfl) ?_
 rintro r rfl
 generalize Jf5 p=R at *
 simp
 have hm:R.map J06++O.map J06=(R++O).map J06:=by simp
 have ht:List.take (R.length+O.length) ((R++O).map J06)=(R++O).map J06:=List.take_of_length_le (by simp)
 rw [hm,ht]
 exact ⟨by unfold LIM;omega,Jb2 _,rfl⟩
theorem Ja6 (p:DProgram) (hp:J0f p≤1048576) (b:DBounds) (fs:List DFarkas):Holds Tryz.prog 40 [.agg (J01 p),.agg (J0d b),.sl 2 (fs.map J0r)] (fun x=>x = .bool (Jhs p b fs)):=by
 refine J03 Tryz.func40 a40_ok rfl (by simp [a40]) ?_
 simp [a40]
 first|refine J00 (Jiu p hp b) (by first|simp;done|rfl) ?_|refine J02 (Jiu p hp b) (by first|simp;done|rfl) ?_
 rintro r rfl
 unfold Jhs
 generalize (J2j p b).isSome=ok at *
 generalize (J2j p b).getD []=O at *
 cases ok
 ·simp
 generalize Jf5 p++O=X at *
 simp
 first|refine J00 (Jf6 X fs) (by first|simp;done|rfl) ?_|refine J02 (Jf6 X fs) (by first|simp;done|rfl) ?_
 rintro r rfl
 simp
def a30:AFn:= ⟨12,[.t 4],(.seq (.reg [⟨some 2,.boxv (.t 0),no⟩,⟨some 4,.mv (.k (.int .i64 0)),no⟩]) (.seq (.reg [⟨some 5,.fld 1 (.t 2),no⟩,⟨some 6,.ld false 1 (.t 5),no⟩,⟨some 7,.mv (.t 1),no⟩,⟨some 8,.call (.k (.fn (.func 95) [] [])) [.t 6,.t 7],no⟩,⟨some 1,.mv (.t 8),no⟩]) (.seq (.seq (.reg [⟨some 9,.mv (.t 1),no⟩,⟨some 10,.bin .lss (.t 9) (.k (.int .i64 0)),no⟩]) (.cond (.t 10) (.seq (.reg [⟨some 4,.mv (.k (.int .i64 (-1))),no⟩]) .ret) .skip)) (.seq (.reg [⟨some 11,.mv (.t 1),no⟩,⟨some 4,.mv (.t 11),no⟩]) .ret))))⟩
theorem a30_ok:J0a Tryz.prog Tryz.f30=some a30:=by kernel_rfl
def a32:AFn:= ⟨12,[(.c 2 true 2)],(.seq (.reg [⟨some 1,.boxv (.t 0),no⟩,⟨some 2,.box [(.int .i64 0),(.nil 2)],no⟩]) (.seq (.reg [⟨some 3,.box [(.int .i64 0),(.nil 2)],no⟩]) (.seq (.reg [⟨some 4,.fld 0 (.t 1),no⟩,⟨some 5,.ld false 1 (.t 4),no⟩,⟨some 6,.fld 0 (.t 3),no⟩,⟨no,.st 1 (.t 6) (.t 5),no⟩]) (.seq (.reg [⟨some 7,.fld 1 (.t 1),no⟩,⟨some 8,.ld false 1 (.t 7),no⟩,⟨some 9,.call (.k (.fn (.func 101) [] [])) [.t 8],no⟩,⟨some 10,.fld 1 (.t 3),no⟩,⟨no,.st 1 (.t 10) (.t 9),no⟩]) (.seq (.reg [⟨some 11,.ld true 2 (.t 3),no⟩,⟨no,.st 2 (.t 2) (.t 11),no⟩]) .ret)))))⟩
theorem a32_ok:J0a Tryz.prog Tryz.f32=some a32:=by kernel_rfl
def a35:AFn:= ⟨16,[.t 4],(.seq (.reg [⟨some 2,.boxv (.t 0),no⟩,⟨some 3,.boxv (.t 1),no⟩,⟨some 4,.mv (.k (.bool false)),no⟩]) (.seq (.seq (.reg [⟨some 5,.fld 0 (.t 2),no⟩,⟨some 6,.ld false 1 (.t 5),no⟩,⟨some 7,.fld 0 (.t 3),no⟩,⟨some 8,.ld false 1 (.t 7),no⟩,⟨some 9,.bin .neq (.t 6) (.t 8),no⟩]) (.cond (.t 9) (.seq (.reg [⟨some 4,.mv (.k (.bool false)),no⟩]) .ret) .skip)) (.seq (.seq (.reg [⟨some 10,.fld 1 (.t 2),no⟩,⟨some 11,.ld false 1 (.t 10),no⟩,⟨some 12,.fld 1 (.t 3),no⟩,⟨some 13,.ld false 1 (.t 12),no⟩,⟨some 14,.call (.k (.fn (.func 107) [] [])) [.t 11,.t 13],no⟩,⟨some 15,.un .not (.t 14),no⟩]) (.cond (.t 15) (.seq (.reg [⟨some 4,.mv (.k (.bool false)),no⟩]) .ret) .skip)) (.seq (.reg [⟨some 4,.mv (.k (.bool true)),no⟩]) .ret))))⟩
theorem a35_ok:J0a Tryz.prog Tryz.f35=some a35:=by kernel_rfl
def a46:AFn:= ⟨13,[(.c 2 true 2)],(.seq (.reg [⟨some 1,.boxv (.t 0),no⟩,⟨some 2,.box [(.nil 1),(.nil 1)],no⟩]) (.seq (.reg [⟨some 3,.box [(.nil 1),(.nil 1)],no⟩]) (.seq (.reg [⟨some 4,.fld 0 (.t 1),no⟩,⟨some 5,.ld false 1 (.t 4),no⟩,⟨some 6,.call (.k (.fn (.func 119) [] [])) [.t 5],no⟩,⟨some 7,.fld 0 (.t 3),no⟩,⟨no,.st 1 (.t 7) (.t 6),no⟩]) (.seq (.reg [⟨some 8,.fld 1 (.t 1),no⟩,⟨some 9,.ld false 1 (.t 8),no⟩,⟨some 10,.call (.k (.fn (.func 83) [] [])) [.t 9],no⟩,⟨some 11,.fld 1 (.t 3),no⟩,⟨no,.st 1 (.t 11) (.t 10),no⟩]) (.seq (.reg [⟨some 12,.ld true 2 (.t 3),no⟩,⟨no,.st 2 (.t 2) (.t 12),no⟩]) .ret)))))⟩
theorem Jg2 (x:DBounds) (left:Int) (h0:0≤left∧left≤4611686018427387904):Holds Tryz.prog 30 [.agg (J0d x),i64 left] (fun r=>r=i64 (J2z left (J6d x))):=by
 refine J03 Tryz.func30 a30_ok rfl (by simp [a30]) ?_
 simp [a30,J0d]
 have e0:J6d x=J6d x:=rfl
 conv at e0=>rhs;unfold J6d
 refine J02 (Jkx x.Lins left (by omega)) (by simp) ?_
 rintro r rfl
 by_cases h1:left - (J5n x.Lins:Nat)<0
 case pos=>
  have q:left - (J6d x:Int)<0:=by omega
  simp [J2z,h1,q]
  try first|omega|(constructor <;> intros <;> omega)
 simp [J2z,h1]
 try (rw [if_neg (by omega)];omega)
theorem J6t (x:DBounds) (_hw:J6d x≤1048576):Holds Tryz.prog 32 [.agg (J0d x)] (fun r=>r = .agg (J1y x)):=by
 have hw:=_hw;unfold J6d at hw
 refine J03 Tryz.func32 a32_ok rfl (by simp [a32]) ?_
 simp [a32,J0d]
 refine J02 (Jkr x.Lins (by omega)) (by simp []) ?_
 rintro r rfl
 simp []
 try simp [J1y]
theorem Jgr (x y:DBounds):Holds Tryz.prog 35 [.agg (J0d x),.agg (J0d y)] (fun r=>r = .bool (decide (x=y))):=by
 refine J03 Tryz.func35 a35_ok rfl (by simp [a35]) ?_
 simp [a35,J0d]
 by_cases h0:x.Kind=y.Kind
 case neg=>simp [h0];try exact fun e=>h0 (by rw [e])
 simp [h0]
 refine J02 (Jle x.Lins y.Lins) (by simp []) ?_
 rintro r rfl
 by_cases h1:x.Lins=y.Lins
 case neg=>simp [h1];try exact fun e=>h1 (by rw [e])
 simp [h1]
 cases x;cases y;simp_all
def a7:AFn:= ⟨63,[.t 6],(.seq (.reg [⟨some 3,.boxv (.t 0),no⟩,⟨some 4,.boxv (.t 1),no⟩,⟨some 6,.mv (.k (.bool false)),no⟩]) (.seq (.reg [⟨some 7,.mv (.k (.int .i64 1048576)),no⟩]) (.seq (.reg [⟨some 13,.ld true 2 (.t 3),no⟩,⟨some 14,.mv (.t 7),no⟩,⟨some 15,.call (.k (.fn (.func 12) [] [])) [.t 13,.t 14],no⟩,⟨some 7,.mv (.t 15),no⟩]) (.seq (.seq (.reg [⟨some 16,.mv (.t 7),no⟩,⟨some 17,.bin .lss (.t 16) (.k (.int .i64 0)),no⟩]) (.cond (.t 17) (.seq (.reg [⟨some 6,.mv (.k (.bool true)),no⟩]) .ret) .skip)) (.seq (.reg [⟨some 18,.ld true 2 (.t 4),no⟩,⟨some 19,.mv (.t 7),no⟩,⟨some 20,.call (.k (.fn (.func 30) [] [])) [.t 18,.t 19],no⟩,⟨some 7,.mv (.t 20),no⟩]) (.seq (.seq (.reg [⟨some 21,.mv (.t 7),no⟩,⟨some 22,.bin .lss (.t 21) (.k (.int .i64 0)),no⟩]) (.cond (.t 22) (.seq (.reg [⟨some 6,.mv (.k (.bool true)),no⟩]) .ret) .skip)) (.seq (.reg [⟨some 23,.mv (.t 2),no⟩,⟨some 24,.mv (.t 7),no⟩,⟨some 25,.call (.k (.fn (.func 39) [] [])) [.t 23,.t 24],no⟩,⟨some 7,.mv (.t 25),no⟩]) (.seq (.seq (.reg [⟨some 26,.mv (.t 7),no⟩,⟨some 27,.bin .lss (.t 26) (.k (.int .i64 0)),no⟩]) (.cond (.t 27) (.seq (.reg [⟨some 6,.mv (.k (.bool true)),no⟩]) .ret) .skip)) (.seq (.draw (.op ⟨some 28,.ld true 2 (.t 3),no⟩ (.op ⟨some 30,.ld true 2 (.t 4),no⟩ (.op ⟨some 32,.mv (.t 2),no⟩ (.op ⟨some 29,.call (.k (.fn (.func 14) [] [])) [.t 28],no⟩ (.op ⟨some 31,.call (.k (.fn (.func 32) [] [])) [.t 30],no⟩ (.op ⟨some 33,.call (.k (.fn (.func 41) [] [])) [.t 32],no⟩ (.op ⟨some 34,.call (.k (.fn (.func 40) [] [])) [.t 29,.t 31,.t 33],no⟩ (.op ⟨some 8,.mv (.t 34),no⟩ .fin))))))))) (.seq (.reg [⟨some 35,.ld true 2 (.t 3),no⟩,⟨some 36,.call (.k (.fn (.func 14) [] [])) [.t 35],no⟩,⟨some 9,.box [(.nil 4),(.nil 7)],no⟩,⟨no,.st 2 (.t 9) (.t 36),no⟩]) (.seq (.reg [⟨some 37,.ld true 2 (.t 4),no⟩,⟨some 38,.call (.k (.fn (.func 32) [] [])) [.t 37],no⟩,⟨some 10,.box [(.int .i64 0),(.nil 2)],no⟩,⟨no,.st 2 (.t 10) (.t 38),no⟩]) (.seq (.reg [⟨some 39,.mv (.t 2),no⟩,⟨some 40,.call (.k (.fn (.func 41) [] [])) [.t 39],no⟩,⟨some 11,.mv (.t 40),no⟩]) (.seq (.reg [⟨some 41,.ld true 2 (.t 9),no⟩,⟨some 42,.ld true 2 (.t 10),no⟩,⟨some 43,.mv (.t 11),no⟩,⟨some 44,.call (.k (.fn (.func 42) [] [])) [.t 41,.t 42,.t 43],no⟩,⟨some 12,.mv (.t 44),no⟩]) (.seq (.seq (.reg [⟨some 45,.mv (.t 12),no⟩,⟨some 46,.mv (.t 8),no⟩,⟨some 47,.beq true (.t 45) (.t 46),no⟩]) (.cond (.t 47) (.seq (.reg [⟨some 6,.mv (.k (.bool false)),no⟩]) .ret) .skip)) (.seq (.seq (.draw (.op ⟨some 48,.ld true 2 (.t 9),no⟩ (.op ⟨some 49,.ld true 2 (.t 3),no⟩ (.op ⟨some 50,.call (.k (.fn (.func 14) [] [])) [.t 49],no⟩ (.op ⟨some 51,.call (.k (.fn (.func 17) [] [])) [.t 48,.t 50],no⟩ (.op ⟨some 52,.un .not (.t 51),no⟩ .fin)))))) (.cond (.t 52) (.seq (.reg [⟨some 6,.mv (.k (.bool false)),no⟩]) .ret) .skip)) (.seq (.seq (.draw (.op ⟨some 53,.ld true 2 (.t 10),no⟩ (.op ⟨some 54,.ld true 2 (.t 4),no⟩ (.op ⟨some 55,.call (.k (.fn (.func 32) [] [])) [.t 54],no⟩ (.op ⟨some 56,.call (.k (.fn (.func 35) [] [])) [.t 53,.t 55],no⟩ (.op ⟨some 57,.un .not (.t 56),no⟩ .fin)))))) (.cond (.t 57) (.seq (.reg [⟨some 6,.mv (.k (.bool false)),no⟩]) .ret) .skip)) (.seq (.seq (.reg [⟨some 58,.mv (.t 11),no⟩,⟨some 59,.mv (.t 2),no⟩,⟨some 60,.call (.k (.fn (.func 41) [] [])) [.t 59],no⟩,⟨some 61,.call (.k (.fn (.func 43) [] [])) [.t 58,.t 60],no⟩,⟨some 62,.un .not (.t 61),no⟩]) (.cond (.t 62) (.seq (.reg [⟨some 6,.mv (.k (.bool false)),no⟩]) .ret) .skip)) (.seq (.reg [⟨some 6,.mv (.k (.bool true)),no⟩]) .ret))))))))))))))))))⟩
theorem a7_ok:J0a Tryz.prog Tryz.f7=some a7:=by kernel_rfl
theorem Jf3 (p:DProgram) (b:DBounds) (fs:List DFarkas):Holds Tryz.prog 7 [.agg (J01 p),.agg (J0d b),.sl 2 (fs.map J0r)] (fun x=>x = .bool true):=by
 refine J03 Tryz.func7 a7_ok rfl (by simp [a7]) ?_
 simp [a7,J01,J0d]
 first|refine J00 (Je4 p 1048576 (by omega)) (by first|simp [J01];done|rfl) ?_|refine J02 (Je4 p 1048576 (by omega)) (by first|simp [J01];done|rfl) ?_
 rintro r rfl
 by_cases h1:1048576 - (J0f p:Int)<0
 ·simp [J2z,h1]
 simp [J2z,h1]
 first|refine J00 (Jg2 b (1048576 - (J0f p:Int)) (by omega)) (by first|simp [J0d];done|rfl) ?_|refine J02 (Jg2 b (1048576 - (J0f p:Int)) (by omega)) (by first|simp [J0d];done|rfl) ?_
 rintro r rfl
 by_cases h2:1048576 - (J0f p:Int) - (J6d b:Int)<0
 ·simp [J2z,h2]
 simp [J2z,h2]
 first|refine J00 (Jf7 fs (1048576 - (J0f p:Int) - (J6d b:Int)) (by omega)) (by first|simp;done|rfl) ?_|refine J02 (Jf7 fs (1048576 - (J0f p:Int) - (J6d b:Int)) (by omega)) (by first|simp;done|rfl) ?_
 rintro r rfl
 by_cases h3:1048576 - (J0f p:Int) - (J6d b:Int) - (J8k fs:Int)<0
 ·simp [J2z,h3]
 simp [J2z,h3]
 have hw1:J0f p≤1048576:=by omega
 have hw2:J6d b≤1048576:=by omega
 have hw3:J8k fs≤1048576:=by omega
 first|refine J00 (J5w p hw1) (by first|simp [J01,J1n];done|rfl) ?_|refine J02 (J5w p hw1) (by first|simp [J01,J1n];done|rfl) ?_
 rintro r rfl
 simp [J01,J1n]
 first|refine J00 (J6t b hw2) (by first|simp [J0d,J1y];done|rfl) ?_|refine J02 (J6t b hw2) (by first|simp [J0d,J1y];done|rfl) ?_
 rintro r rfl
 simp [J0d,J1y]
 first|refine J00 (J5v fs hw3) (by first|simp;done|rfl) ?_|refine J02 (J5v fs hw3) (by first|simp;done|rfl) ?_
 rintro r rfl
 simp
 first|refine J00 (Ja6 p hw1 b fs) (by first|simp [J01,J1n,J0d,J1y];done|rfl) ?_|refine J02 (Ja6 p hw1 b fs) (by first|simp [J01,J1n,J0d,J1y];done|rfl) ?_
 rintro r rfl
 simp [J01,J1n,J0d,J1y]
 first|refine J00 (J5w p hw1) (by first|simp [J01,J1n];done|rfl) ?_|refine J02 (J5w p hw1) (by first|simp [J01,J1n];done|rfl) ?_
 rintro r rfl
 simp [J01,J1n]
 first|refine J00 (J6t b hw2) (by first|simp [J0d,J1y];done|rfl) ?_|refine J02 (J6t b hw2) (by first|simp [J0d,J1y];done|rfl) ?_
 rintro r rfl
 simp [J0d,J1y]
 first|refine J00 (J5v fs hw3) (by first|simp;done|rfl) ?_|refine J02 (J5v fs hw3) (by first|simp;done|rfl) ?_
 rintro r rfl
 simp
 first|refine J00 (Jbq p hw1 b fs) (by first|simp [J01,J1n,J0d,J1y];done|rfl) ?_|refine J02 (Jbq p hw1 b fs) (by first|simp [J01,J1n,J0d,J1y];done|rfl) ?_
 rintro r rfl
 simp [J01,J1n,J0d,J1y]
 first|refine J00 (J5w p hw1) (by first|simp [J01,J1n];done|rfl) ?_|refine J02 (J5w p hw1) (by first|simp [J01,J1n];done|rfl) ?_
 rintro r rfl
 simp [J01,J1n]
 first|refine J00 (Je0 p p) (by first|simp [J01,J1n];done|rfl) ?_|refine J02 (Je0 p p) (by first|simp [J01,J1n];done|rfl) ?_
 rintro r rfl
 simp [J01,J1n]
 first|refine J00 (J6t b hw2) (by first|simp [J0d,J1y];done|rfl) ?_|refine J02 (J6t b hw2) (by first|simp [J0d,J1y];done|rfl) ?_
 rintro r rfl
 simp [J0d,J1y]
 first|refine J00 (Jgr b b) (by first|simp [J0d,J1y];done|rfl) ?_|refine J02 (Jgr b b) (by first|simp [J0d,J1y];done|rfl) ?_
 rintro r rfl
 simp [J0d,J1y]
 first|refine J00 (J5v fs hw3) (by first|simp;done|rfl) ?_|refine J02 (J5v fs hw3) (by first|simp;done|rfl) ?_
 rintro r rfl
 simp
 first|refine J00 (Jec fs fs) (by first|simp;done|rfl) ?_|refine J02 (Jec fs fs) (by first|simp;done|rfl) ?_
 rintro r rfl
 simp
end Go.Proofs.YtoclolkigjbcgaaGreat

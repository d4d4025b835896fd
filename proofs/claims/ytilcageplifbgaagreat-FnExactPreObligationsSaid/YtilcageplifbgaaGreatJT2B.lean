/- Contracts of the laws' functions over the types. -/
import Derived.Test.YtilcageplifbgaaGreatJM3A
import Derived.Test.YtilcageplifbgaaGreatJHSD
import Derived.Test.YtilcageplifbgaaGreatJRE
import Derived.Test.YtilcageplifbgaaGreatJT1
import Derived.Test.YtilcageplifbgaaGreatProg
import Derived.Test.YtilcageplifbgaaGreatRows
namespace Go.Proofs.YtilcageplifbgaaGreat
set_option linter.all false
open Go Go.RowKit Go.Proofs
def a309:AFn:=
⟨13,[.t 4],(.seq
 (.reg [⟨some 2,.boxv (.t 0),no⟩,⟨some 4,.mv (.k (.int .i64 0)),no⟩]) (.seq
 (.reg [⟨some 5,.mv (.t 1),no⟩,⟨some 6,.fld 1 (.t 2),no⟩,⟨some 7,.ld false 1 (.t 6),no⟩,⟨some 8,.len true (.t 7),no⟩,⟨some 9,.bin .sub (.t 5) (.t 8),no⟩,⟨some 1,.mv (.t 9),no⟩]) (.seq (.seq
 (.reg [⟨some 10,.mv (.t 1),no⟩,⟨some 11,.bin .lss (.t 10) (.k (.int .i64 0)),no⟩]) (.cond (.t 11) (.seq
 (.reg [⟨some 4,.mv (.k (.int .i64 (-1))),no⟩]) .ret) .skip)) (.seq
 (.reg [⟨some 12,.mv (.t 1),no⟩,⟨some 4,.mv (.t 12),no⟩]) .ret))))⟩
theorem a309_ok:compFn Tryz.prog Tryz.f309=some a309:=by kernel_rfl
def a310:AFn:=
⟨11,[(.c 2 true 2)],(.seq
 (.reg [⟨some 1,.boxv (.t 0),no⟩,⟨some 2,.box [(.int .i64 0),(.str [])],no⟩]) (.seq
 (.reg [⟨some 3,.box [(.int .i64 0),(.str [])],no⟩]) (.seq
 (.reg [⟨some 4,.fld 0 (.t 1),no⟩,⟨some 5,.ld false 1 (.t 4),no⟩,⟨some 6,.fld 0 (.t 3),no⟩,⟨no,.st 1 (.t 6) (.t 5),no⟩]) (.seq
 (.reg [⟨some 7,.fld 1 (.t 1),no⟩,⟨some 8,.ld false 1 (.t 7),no⟩,⟨some 9,.fld 1 (.t 3),no⟩,⟨no,.st 1 (.t 9) (.t 8),no⟩]) (.seq
 (.reg [⟨some 10,.ld true 2 (.t 3),no⟩,⟨no,.st 2 (.t 2) (.t 10),no⟩]) .ret)))))⟩
theorem a310_ok:compFn Tryz.prog Tryz.f310=some a310:=by kernel_rfl
def a313:AFn:=
⟨15,[.t 4],(.seq
 (.reg [⟨some 2,.boxv (.t 0),no⟩,⟨some 3,.boxv (.t 1),no⟩,⟨some 4,.mv (.k (.bool false)),no⟩]) (.seq (.seq
 (.reg [⟨some 5,.fld 0 (.t 2),no⟩,⟨some 6,.ld false 1 (.t 5),no⟩,⟨some 7,.fld 0 (.t 3),no⟩,⟨some 8,.ld false 1 (.t 7),no⟩,⟨some 9,.bin .neq (.t 6) (.t 8),no⟩]) (.cond (.t 9) (.seq
 (.reg [⟨some 4,.mv (.k (.bool false)),no⟩]) .ret) .skip)) (.seq (.seq
 (.reg [⟨some 10,.fld 1 (.t 2),no⟩,⟨some 11,.ld false 1 (.t 10),no⟩,⟨some 12,.fld 1 (.t 3),no⟩,⟨some 13,.ld false 1 (.t 12),no⟩,⟨some 14,.bin .neq (.t 11) (.t 13),no⟩]) (.cond (.t 14) (.seq
 (.reg [⟨some 4,.mv (.k (.bool false)),no⟩]) .ret) .skip)) (.seq
 (.reg [⟨some 4,.mv (.k (.bool true)),no⟩]) .ret))))⟩
theorem a313_ok:compFn Tryz.prog Tryz.f313=some a313:=by kernel_rfl
def a265:AFn:=
⟨12,[.t 4],(.seq
 (.reg [⟨some 2,.boxv (.t 0),no⟩,⟨some 4,.mv (.k (.int .i64 0)),no⟩]) (.seq
 (.reg [⟨some 5,.fld 1 (.t 2),no⟩,⟨some 6,.ld false 1 (.t 5),no⟩,⟨some 7,.mv (.t 1),no⟩,⟨some 8,.call (.k (.fn (.func 291) [] [])) [.t 6,.t 7],no⟩,⟨some 1,.mv (.t 8),no⟩]) (.seq (.seq
 (.reg [⟨some 9,.mv (.t 1),no⟩,⟨some 10,.bin .lss (.t 9) (.k (.int .i64 0)),no⟩]) (.cond (.t 10) (.seq
 (.reg [⟨some 4,.mv (.k (.int .i64 (-1))),no⟩]) .ret) .skip)) (.seq
 (.reg [⟨some 11,.mv (.t 1),no⟩,⟨some 4,.mv (.t 11),no⟩]) .ret))))⟩
theorem a265_ok:compFn Tryz.prog Tryz.f265=some a265:=by kernel_rfl
def a273:AFn:=
⟨12,[(.c 2 true 2)],(.seq
 (.reg [⟨some 1,.boxv (.t 0),no⟩,⟨some 2,.box [(.int .i64 0),(.nil 2)],no⟩]) (.seq
 (.reg [⟨some 3,.box [(.int .i64 0),(.nil 2)],no⟩]) (.seq
 (.reg [⟨some 4,.fld 0 (.t 1),no⟩,⟨some 5,.ld false 1 (.t 4),no⟩,⟨some 6,.fld 0 (.t 3),no⟩,⟨no,.st 1 (.t 6) (.t 5),no⟩]) (.seq
 (.reg [⟨some 7,.fld 1 (.t 1),no⟩,⟨some 8,.ld false 1 (.t 7),no⟩,⟨some 9,.call (.k (.fn (.func 296) [] [])) [.t 8],no⟩,⟨some 10,.fld 1 (.t 3),no⟩,⟨no,.st 1 (.t 10) (.t 9),no⟩]) (.seq
 (.reg [⟨some 11,.ld true 2 (.t 3),no⟩,⟨no,.st 2 (.t 2) (.t 11),no⟩]) .ret)))))⟩
theorem a273_ok:compFn Tryz.prog Tryz.f273=some a273:=by kernel_rfl
def a284:AFn:=
⟨16,[.t 4],(.seq
 (.reg [⟨some 2,.boxv (.t 0),no⟩,⟨some 3,.boxv (.t 1),no⟩,⟨some 4,.mv (.k (.bool false)),no⟩]) (.seq (.seq
 (.reg [⟨some 5,.fld 0 (.t 2),no⟩,⟨some 6,.ld false 1 (.t 5),no⟩,⟨some 7,.fld 0 (.t 3),no⟩,⟨some 8,.ld false 1 (.t 7),no⟩,⟨some 9,.bin .neq (.t 6) (.t 8),no⟩]) (.cond (.t 9) (.seq
 (.reg [⟨some 4,.mv (.k (.bool false)),no⟩]) .ret) .skip)) (.seq (.seq
 (.reg [⟨some 10,.fld 1 (.t 2),no⟩,⟨some 11,.ld false 1 (.t 10),no⟩,⟨some 12,.fld 1 (.t 3),no⟩,⟨some 13,.ld false 1 (.t 12),no⟩,⟨some 14,.call (.k (.fn (.func 302) [] [])) [.t 11,.t 13],no⟩,⟨some 15,.un .not (.t 14),no⟩]) (.cond (.t 15) (.seq
 (.reg [⟨some 4,.mv (.k (.bool false)),no⟩]) .ret) .skip)) (.seq
 (.reg [⟨some 4,.mv (.k (.bool true)),no⟩]) .ret))))⟩
theorem a284_ok:compFn Tryz.prog Tryz.f284=some a284:=by kernel_rfl
def a203:AFn:=
⟨19,[.t 4],(.seq
 (.reg [⟨some 2,.boxv (.t 0),no⟩,⟨some 4,.mv (.k (.int .i64 0)),no⟩]) (.seq
 (.reg [⟨some 5,.fld 1 (.t 2),no⟩,⟨some 6,.ld false 1 (.t 5),no⟩,⟨some 7,.mv (.t 1),no⟩,⟨some 8,.call (.k (.fn (.func 201) [] [])) [.t 6,.t 7],no⟩,⟨some 1,.mv (.t 8),no⟩]) (.seq (.seq
 (.reg [⟨some 9,.mv (.t 1),no⟩,⟨some 10,.bin .lss (.t 9) (.k (.int .i64 0)),no⟩]) (.cond (.t 10) (.seq
 (.reg [⟨some 4,.mv (.k (.int .i64 (-1))),no⟩]) .ret) .skip)) (.seq
 (.reg [⟨some 11,.mv (.t 1),no⟩,⟨some 12,.fld 2 (.t 2),no⟩,⟨some 13,.ld false 1 (.t 12),no⟩,⟨some 14,.len true (.t 13),no⟩,⟨some 15,.bin .sub (.t 11) (.t 14),no⟩,⟨some 1,.mv (.t 15),no⟩]) (.seq (.seq
 (.reg [⟨some 16,.mv (.t 1),no⟩,⟨some 17,.bin .lss (.t 16) (.k (.int .i64 0)),no⟩]) (.cond (.t 17) (.seq
 (.reg [⟨some 4,.mv (.k (.int .i64 (-1))),no⟩]) .ret) .skip)) (.seq
 (.reg [⟨some 18,.mv (.t 1),no⟩,⟨some 4,.mv (.t 18),no⟩]) .ret))))))⟩
theorem a203_ok:compFn Tryz.prog Tryz.f203=some a203:=by kernel_rfl
def a217:AFn:=
⟨15,[(.c 2 true 3)],(.seq
 (.reg [⟨some 1,.boxv (.t 0),no⟩,⟨some 2,.box [(.bool false),(.nil 2),(.str [])],no⟩]) (.seq
 (.reg [⟨some 3,.box [(.bool false),(.nil 2),(.str [])],no⟩]) (.seq
 (.reg [⟨some 4,.fld 0 (.t 1),no⟩,⟨some 5,.ld false 1 (.t 4),no⟩,⟨some 6,.fld 0 (.t 3),no⟩,⟨no,.st 1 (.t 6) (.t 5),no⟩]) (.seq
 (.reg [⟨some 7,.fld 1 (.t 1),no⟩,⟨some 8,.ld false 1 (.t 7),no⟩,⟨some 9,.call (.k (.fn (.func 215) [] [])) [.t 8],no⟩,⟨some 10,.fld 1 (.t 3),no⟩,⟨no,.st 1 (.t 10) (.t 9),no⟩]) (.seq
 (.reg [⟨some 11,.fld 2 (.t 1),no⟩,⟨some 12,.ld false 1 (.t 11),no⟩,⟨some 13,.fld 2 (.t 3),no⟩,⟨no,.st 1 (.t 13) (.t 12),no⟩]) (.seq
 (.reg [⟨some 14,.ld true 3 (.t 3),no⟩,⟨no,.st 3 (.t 2) (.t 14),no⟩]) .ret))))))⟩
theorem a217_ok:compFn Tryz.prog Tryz.f217=some a217:=by kernel_rfl
def a235:AFn:=
⟨21,[.t 4],(.seq
 (.reg [⟨some 2,.boxv (.t 0),no⟩,⟨some 3,.boxv (.t 1),no⟩,⟨some 4,.mv (.k (.bool false)),no⟩]) (.seq (.seq
 (.reg [⟨some 5,.fld 0 (.t 2),no⟩,⟨some 6,.ld false 1 (.t 5),no⟩,⟨some 7,.fld 0 (.t 3),no⟩,⟨some 8,.ld false 1 (.t 7),no⟩,⟨some 9,.beq true (.t 6) (.t 8),no⟩]) (.cond (.t 9) (.seq
 (.reg [⟨some 4,.mv (.k (.bool false)),no⟩]) .ret) .skip)) (.seq (.seq
 (.reg [⟨some 10,.fld 1 (.t 2),no⟩,⟨some 11,.ld false 1 (.t 10),no⟩,⟨some 12,.fld 1 (.t 3),no⟩,⟨some 13,.ld false 1 (.t 12),no⟩,⟨some 14,.call (.k (.fn (.func 233) [] [])) [.t 11,.t 13],no⟩,⟨some 15,.un .not (.t 14),no⟩]) (.cond (.t 15) (.seq
 (.reg [⟨some 4,.mv (.k (.bool false)),no⟩]) .ret) .skip)) (.seq (.seq
 (.reg [⟨some 16,.fld 2 (.t 2),no⟩,⟨some 17,.ld false 1 (.t 16),no⟩,⟨some 18,.fld 2 (.t 3),no⟩,⟨some 19,.ld false 1 (.t 18),no⟩,⟨some 20,.bin .neq (.t 17) (.t 19),no⟩]) (.cond (.t 20) (.seq
 (.reg [⟨some 4,.mv (.k (.bool false)),no⟩]) .ret) .skip)) (.seq
 (.reg [⟨some 4,.mv (.k (.bool true)),no⟩]) .ret)))))⟩
theorem a235_ok:compFn Tryz.prog Tryz.f235=some a235:=by kernel_rfl
def a264:AFn:=
⟨27,[.t 4],(.seq
 (.reg [⟨some 2,.boxv (.t 0),no⟩,⟨some 4,.mv (.k (.int .i64 0)),no⟩]) (.seq
 (.reg [⟨some 5,.mv (.t 1),no⟩,⟨some 6,.fld 0 (.t 2),no⟩,⟨some 7,.ld false 1 (.t 6),no⟩,⟨some 8,.len true (.t 7),no⟩,⟨some 9,.bin .sub (.t 5) (.t 8),no⟩,⟨some 1,.mv (.t 9),no⟩]) (.seq (.seq
 (.reg [⟨some 10,.mv (.t 1),no⟩,⟨some 11,.bin .lss (.t 10) (.k (.int .i64 0)),no⟩]) (.cond (.t 11) (.seq
 (.reg [⟨some 4,.mv (.k (.int .i64 (-1))),no⟩]) .ret) .skip)) (.seq
 (.reg [⟨some 12,.mv (.t 1),no⟩,⟨some 13,.fld 2 (.t 2),no⟩,⟨some 14,.ld false 1 (.t 13),no⟩,⟨some 15,.len true (.t 14),no⟩,⟨some 16,.bin .sub (.t 12) (.t 15),no⟩,⟨some 1,.mv (.t 16),no⟩]) (.seq (.seq
 (.reg [⟨some 17,.mv (.t 1),no⟩,⟨some 18,.bin .lss (.t 17) (.k (.int .i64 0)),no⟩]) (.cond (.t 18) (.seq
 (.reg [⟨some 4,.mv (.k (.int .i64 (-1))),no⟩]) .ret) .skip)) (.seq
 (.reg [⟨some 19,.mv (.t 1),no⟩,⟨some 20,.fld 3 (.t 2),no⟩,⟨some 21,.ld false 1 (.t 20),no⟩,⟨some 22,.len true (.t 21),no⟩,⟨some 23,.bin .sub (.t 19) (.t 22),no⟩,⟨some 1,.mv (.t 23),no⟩]) (.seq (.seq
 (.reg [⟨some 24,.mv (.t 1),no⟩,⟨some 25,.bin .lss (.t 24) (.k (.int .i64 0)),no⟩]) (.cond (.t 25) (.seq
 (.reg [⟨some 4,.mv (.k (.int .i64 (-1))),no⟩]) .ret) .skip)) (.seq
 (.reg [⟨some 26,.mv (.t 1),no⟩,⟨some 4,.mv (.t 26),no⟩]) .ret))))))))⟩
theorem a264_ok:compFn Tryz.prog Tryz.f264=some a264:=by kernel_rfl
def a272:AFn:=
⟨17,[(.c 2 true 4)],(.seq
 (.reg [⟨some 1,.boxv (.t 0),no⟩,⟨some 2,.box [(.str []),(.bool false),(.str []),(.str [])],no⟩]) (.seq
 (.reg [⟨some 3,.box [(.str []),(.bool false),(.str []),(.str [])],no⟩]) (.seq
 (.reg [⟨some 4,.fld 0 (.t 1),no⟩,⟨some 5,.ld false 1 (.t 4),no⟩,⟨some 6,.fld 0 (.t 3),no⟩,⟨no,.st 1 (.t 6) (.t 5),no⟩]) (.seq
 (.reg [⟨some 7,.fld 1 (.t 1),no⟩,⟨some 8,.ld false 1 (.t 7),no⟩,⟨some 9,.fld 1 (.t 3),no⟩,⟨no,.st 1 (.t 9) (.t 8),no⟩]) (.seq
 (.reg [⟨some 10,.fld 2 (.t 1),no⟩,⟨some 11,.ld false 1 (.t 10),no⟩,⟨some 12,.fld 2 (.t 3),no⟩,⟨no,.st 1 (.t 12) (.t 11),no⟩]) (.seq
 (.reg [⟨some 13,.fld 3 (.t 1),no⟩,⟨some 14,.ld false 1 (.t 13),no⟩,⟨some 15,.fld 3 (.t 3),no⟩,⟨no,.st 1 (.t 15) (.t 14),no⟩]) (.seq
 (.reg [⟨some 16,.ld true 4 (.t 3),no⟩,⟨no,.st 4 (.t 2) (.t 16),no⟩]) .ret)))))))⟩
theorem a272_ok:compFn Tryz.prog Tryz.f272=some a272:=by kernel_rfl
def a283:AFn:=
⟨25,[.t 4],(.seq
 (.reg [⟨some 2,.boxv (.t 0),no⟩,⟨some 3,.boxv (.t 1),no⟩,⟨some 4,.mv (.k (.bool false)),no⟩]) (.seq (.seq
 (.reg [⟨some 5,.fld 0 (.t 2),no⟩,⟨some 6,.ld false 1 (.t 5),no⟩,⟨some 7,.fld 0 (.t 3),no⟩,⟨some 8,.ld false 1 (.t 7),no⟩,⟨some 9,.bin .neq (.t 6) (.t 8),no⟩]) (.cond (.t 9) (.seq
 (.reg [⟨some 4,.mv (.k (.bool false)),no⟩]) .ret) .skip)) (.seq (.seq
 (.reg [⟨some 10,.fld 1 (.t 2),no⟩,⟨some 11,.ld false 1 (.t 10),no⟩,⟨some 12,.fld 1 (.t 3),no⟩,⟨some 13,.ld false 1 (.t 12),no⟩,⟨some 14,.beq true (.t 11) (.t 13),no⟩]) (.cond (.t 14) (.seq
 (.reg [⟨some 4,.mv (.k (.bool false)),no⟩]) .ret) .skip)) (.seq (.seq
 (.reg [⟨some 15,.fld 2 (.t 2),no⟩,⟨some 16,.ld false 1 (.t 15),no⟩,⟨some 17,.fld 2 (.t 3),no⟩,⟨some 18,.ld false 1 (.t 17),no⟩,⟨some 19,.bin .neq (.t 16) (.t 18),no⟩]) (.cond (.t 19) (.seq
 (.reg [⟨some 4,.mv (.k (.bool false)),no⟩]) .ret) .skip)) (.seq (.seq
 (.reg [⟨some 20,.fld 3 (.t 2),no⟩,⟨some 21,.ld false 1 (.t 20),no⟩,⟨some 22,.fld 3 (.t 3),no⟩,⟨some 23,.ld false 1 (.t 22),no⟩,⟨some 24,.bin .neq (.t 21) (.t 23),no⟩]) (.cond (.t 24) (.seq
 (.reg [⟨some 4,.mv (.k (.bool false)),no⟩]) .ret) .skip)) (.seq
 (.reg [⟨some 4,.mv (.k (.bool true)),no⟩]) .ret))))))⟩
theorem a283_ok:compFn Tryz.prog Tryz.f283=some a283:=by kernel_rfl
def a266:AFn:=
⟨26,[.t 4],(.seq
 (.reg [⟨some 2,.boxv (.t 0),no⟩,⟨some 4,.mv (.k (.int .i64 0)),no⟩]) (.seq
 (.reg [⟨some 5,.mv (.t 1),no⟩,⟨some 6,.fld 0 (.t 2),no⟩,⟨some 7,.ld false 1 (.t 6),no⟩,⟨some 8,.len true (.t 7),no⟩,⟨some 9,.bin .sub (.t 5) (.t 8),no⟩,⟨some 1,.mv (.t 9),no⟩]) (.seq (.seq
 (.reg [⟨some 10,.mv (.t 1),no⟩,⟨some 11,.bin .lss (.t 10) (.k (.int .i64 0)),no⟩]) (.cond (.t 11) (.seq
 (.reg [⟨some 4,.mv (.k (.int .i64 (-1))),no⟩]) .ret) .skip)) (.seq
 (.reg [⟨some 12,.mv (.t 1),no⟩,⟨some 13,.fld 1 (.t 2),no⟩,⟨some 14,.ld false 1 (.t 13),no⟩,⟨some 15,.len true (.t 14),no⟩,⟨some 16,.bin .sub (.t 12) (.t 15),no⟩,⟨some 1,.mv (.t 16),no⟩]) (.seq (.seq
 (.reg [⟨some 17,.mv (.t 1),no⟩,⟨some 18,.bin .lss (.t 17) (.k (.int .i64 0)),no⟩]) (.cond (.t 18) (.seq
 (.reg [⟨some 4,.mv (.k (.int .i64 (-1))),no⟩]) .ret) .skip)) (.seq
 (.reg [⟨some 19,.fld 2 (.t 2),no⟩,⟨some 20,.ld false 1 (.t 19),no⟩,⟨some 21,.mv (.t 1),no⟩,⟨some 22,.call (.k (.fn (.func 292) [] [])) [.t 20,.t 21],no⟩,⟨some 1,.mv (.t 22),no⟩]) (.seq (.seq
 (.reg [⟨some 23,.mv (.t 1),no⟩,⟨some 24,.bin .lss (.t 23) (.k (.int .i64 0)),no⟩]) (.cond (.t 24) (.seq
 (.reg [⟨some 4,.mv (.k (.int .i64 (-1))),no⟩]) .ret) .skip)) (.seq
 (.reg [⟨some 25,.mv (.t 1),no⟩,⟨some 4,.mv (.t 25),no⟩]) .ret))))))))⟩
theorem a266_ok:compFn Tryz.prog Tryz.f266=some a266:=by kernel_rfl
def a274:AFn:=
⟨15,[(.c 2 true 3)],(.seq
 (.reg [⟨some 1,.boxv (.t 0),no⟩,⟨some 2,.box [(.str []),(.str []),(.nil 3)],no⟩]) (.seq
 (.reg [⟨some 3,.box [(.str []),(.str []),(.nil 3)],no⟩]) (.seq
 (.reg [⟨some 4,.fld 0 (.t 1),no⟩,⟨some 5,.ld false 1 (.t 4),no⟩,⟨some 6,.fld 0 (.t 3),no⟩,⟨no,.st 1 (.t 6) (.t 5),no⟩]) (.seq
 (.reg [⟨some 7,.fld 1 (.t 1),no⟩,⟨some 8,.ld false 1 (.t 7),no⟩,⟨some 9,.fld 1 (.t 3),no⟩,⟨no,.st 1 (.t 9) (.t 8),no⟩]) (.seq
 (.reg [⟨some 10,.fld 2 (.t 1),no⟩,⟨some 11,.ld false 1 (.t 10),no⟩,⟨some 12,.call (.k (.fn (.func 297) [] [])) [.t 11],no⟩,⟨some 13,.fld 2 (.t 3),no⟩,⟨no,.st 1 (.t 13) (.t 12),no⟩]) (.seq
 (.reg [⟨some 14,.ld true 3 (.t 3),no⟩,⟨no,.st 3 (.t 2) (.t 14),no⟩]) .ret))))))⟩
theorem a274_ok:compFn Tryz.prog Tryz.f274=some a274:=by kernel_rfl
def a285:AFn:=
⟨21,[.t 4],(.seq
 (.reg [⟨some 2,.boxv (.t 0),no⟩,⟨some 3,.boxv (.t 1),no⟩,⟨some 4,.mv (.k (.bool false)),no⟩]) (.seq (.seq
 (.reg [⟨some 5,.fld 0 (.t 2),no⟩,⟨some 6,.ld false 1 (.t 5),no⟩,⟨some 7,.fld 0 (.t 3),no⟩,⟨some 8,.ld false 1 (.t 7),no⟩,⟨some 9,.bin .neq (.t 6) (.t 8),no⟩]) (.cond (.t 9) (.seq
 (.reg [⟨some 4,.mv (.k (.bool false)),no⟩]) .ret) .skip)) (.seq (.seq
 (.reg [⟨some 10,.fld 1 (.t 2),no⟩,⟨some 11,.ld false 1 (.t 10),no⟩,⟨some 12,.fld 1 (.t 3),no⟩,⟨some 13,.ld false 1 (.t 12),no⟩,⟨some 14,.bin .neq (.t 11) (.t 13),no⟩]) (.cond (.t 14) (.seq
 (.reg [⟨some 4,.mv (.k (.bool false)),no⟩]) .ret) .skip)) (.seq (.seq
 (.reg [⟨some 15,.fld 2 (.t 2),no⟩,⟨some 16,.ld false 1 (.t 15),no⟩,⟨some 17,.fld 2 (.t 3),no⟩,⟨some 18,.ld false 1 (.t 17),no⟩,⟨some 19,.call (.k (.fn (.func 303) [] [])) [.t 16,.t 18],no⟩,⟨some 20,.un .not (.t 19),no⟩]) (.cond (.t 20) (.seq
 (.reg [⟨some 4,.mv (.k (.bool false)),no⟩]) .ret) .skip)) (.seq
 (.reg [⟨some 4,.mv (.k (.bool true)),no⟩]) .ret)))))⟩
theorem a285_ok:compFn Tryz.prog Tryz.f285=some a285:=by kernel_rfl
def a139:AFn:=
⟨37,[.t 4],(.seq
 (.reg [⟨some 2,.boxv (.t 0),no⟩,⟨some 4,.mv (.k (.int .i64 0)),no⟩]) (.seq
 (.reg [⟨some 5,.mv (.t 1),no⟩,⟨some 6,.fld 0 (.t 2),no⟩,⟨some 7,.ld false 1 (.t 6),no⟩,⟨some 8,.len true (.t 7),no⟩,⟨some 9,.bin .sub (.t 5) (.t 8),no⟩,⟨some 1,.mv (.t 9),no⟩]) (.seq (.seq
 (.reg [⟨some 10,.mv (.t 1),no⟩,⟨some 11,.bin .lss (.t 10) (.k (.int .i64 0)),no⟩]) (.cond (.t 11) (.seq
 (.reg [⟨some 4,.mv (.k (.int .i64 (-1))),no⟩]) .ret) .skip)) (.seq
 (.reg [⟨some 12,.fld 1 (.t 2),no⟩,⟨some 13,.ld false 1 (.t 12),no⟩,⟨some 14,.mv (.t 1),no⟩,⟨some 15,.call (.k (.fn (.func 200) [] [])) [.t 13,.t 14],no⟩,⟨some 1,.mv (.t 15),no⟩]) (.seq (.seq
 (.reg [⟨some 16,.mv (.t 1),no⟩,⟨some 17,.bin .lss (.t 16) (.k (.int .i64 0)),no⟩]) (.cond (.t 17) (.seq
 (.reg [⟨some 4,.mv (.k (.int .i64 (-1))),no⟩]) .ret) .skip)) (.seq
 (.reg [⟨some 18,.fld 2 (.t 2),no⟩,⟨some 19,.ld false 1 (.t 18),no⟩,⟨some 20,.mv (.t 1),no⟩,⟨some 21,.call (.k (.fn (.func 201) [] [])) [.t 19,.t 20],no⟩,⟨some 1,.mv (.t 21),no⟩]) (.seq (.seq
 (.reg [⟨some 22,.mv (.t 1),no⟩,⟨some 23,.bin .lss (.t 22) (.k (.int .i64 0)),no⟩]) (.cond (.t 23) (.seq
 (.reg [⟨some 4,.mv (.k (.int .i64 (-1))),no⟩]) .ret) .skip)) (.seq
 (.reg [⟨some 24,.fld 3 (.t 2),no⟩,⟨some 25,.ld false 1 (.t 24),no⟩,⟨some 26,.mv (.t 1),no⟩,⟨some 27,.call (.k (.fn (.func 202) [] [])) [.t 25,.t 26],no⟩,⟨some 1,.mv (.t 27),no⟩]) (.seq (.seq
 (.reg [⟨some 28,.mv (.t 1),no⟩,⟨some 29,.bin .lss (.t 28) (.k (.int .i64 0)),no⟩]) (.cond (.t 29) (.seq
 (.reg [⟨some 4,.mv (.k (.int .i64 (-1))),no⟩]) .ret) .skip)) (.seq
 (.reg [⟨some 30,.fld 4 (.t 2),no⟩,⟨some 31,.ld true 3 (.t 30),no⟩,⟨some 32,.mv (.t 1),no⟩,⟨some 33,.call (.k (.fn (.func 203) [] [])) [.t 31,.t 32],no⟩,⟨some 1,.mv (.t 33),no⟩]) (.seq (.seq
 (.reg [⟨some 34,.mv (.t 1),no⟩,⟨some 35,.bin .lss (.t 34) (.k (.int .i64 0)),no⟩]) (.cond (.t 35) (.seq
 (.reg [⟨some 4,.mv (.k (.int .i64 (-1))),no⟩]) .ret) .skip)) (.seq
 (.reg [⟨some 36,.mv (.t 1),no⟩,⟨some 4,.mv (.t 36),no⟩]) .ret))))))))))))⟩
theorem a139_ok:compFn Tryz.prog Tryz.f139=some a139:=by kernel_rfl
def a147:AFn:=
⟨24,[(.c 2 true 7)],(.seq
 (.reg [⟨some 1,.boxv (.t 0),no⟩,⟨some 2,.box [(.str []),(.nil 4),(.nil 2),(.nil 3),(.bool false),(.nil 2),(.str [])],no⟩]) (.seq
 (.reg [⟨some 3,.box [(.str []),(.nil 4),(.nil 2),(.nil 3),(.bool false),(.nil 2),(.str [])],no⟩]) (.seq
 (.reg [⟨some 4,.fld 0 (.t 1),no⟩,⟨some 5,.ld false 1 (.t 4),no⟩,⟨some 6,.fld 0 (.t 3),no⟩,⟨no,.st 1 (.t 6) (.t 5),no⟩]) (.seq
 (.reg [⟨some 7,.fld 1 (.t 1),no⟩,⟨some 8,.ld false 1 (.t 7),no⟩,⟨some 9,.call (.k (.fn (.func 214) [] [])) [.t 8],no⟩,⟨some 10,.fld 1 (.t 3),no⟩,⟨no,.st 1 (.t 10) (.t 9),no⟩]) (.seq
 (.reg [⟨some 11,.fld 2 (.t 1),no⟩,⟨some 12,.ld false 1 (.t 11),no⟩,⟨some 13,.call (.k (.fn (.func 215) [] [])) [.t 12],no⟩,⟨some 14,.fld 2 (.t 3),no⟩,⟨no,.st 1 (.t 14) (.t 13),no⟩]) (.seq
 (.reg [⟨some 15,.fld 3 (.t 1),no⟩,⟨some 16,.ld false 1 (.t 15),no⟩,⟨some 17,.call (.k (.fn (.func 216) [] [])) [.t 16],no⟩,⟨some 18,.fld 3 (.t 3),no⟩,⟨no,.st 1 (.t 18) (.t 17),no⟩]) (.seq
 (.reg [⟨some 19,.fld 4 (.t 1),no⟩,⟨some 20,.ld true 3 (.t 19),no⟩,⟨some 21,.call (.k (.fn (.func 217) [] [])) [.t 20],no⟩,⟨some 22,.fld 4 (.t 3),no⟩,⟨no,.st 3 (.t 22) (.t 21),no⟩]) (.seq
 (.reg [⟨some 23,.ld true 7 (.t 3),no⟩,⟨no,.st 7 (.t 2) (.t 23),no⟩]) .ret))))))))⟩
theorem a147_ok:compFn Tryz.prog Tryz.f147=some a147:=by kernel_rfl
def a160:AFn:=
⟨34,[.t 4],(.seq
 (.reg [⟨some 2,.boxv (.t 0),no⟩,⟨some 3,.boxv (.t 1),no⟩,⟨some 4,.mv (.k (.bool false)),no⟩]) (.seq (.seq
 (.reg [⟨some 5,.fld 0 (.t 2),no⟩,⟨some 6,.ld false 1 (.t 5),no⟩,⟨some 7,.fld 0 (.t 3),no⟩,⟨some 8,.ld false 1 (.t 7),no⟩,⟨some 9,.bin .neq (.t 6) (.t 8),no⟩]) (.cond (.t 9) (.seq
 (.reg [⟨some 4,.mv (.k (.bool false)),no⟩]) .ret) .skip)) (.seq (.seq
 (.reg [⟨some 10,.fld 1 (.t 2),no⟩,⟨some 11,.ld false 1 (.t 10),no⟩,⟨some 12,.fld 1 (.t 3),no⟩,⟨some 13,.ld false 1 (.t 12),no⟩,⟨some 14,.call (.k (.fn (.func 232) [] [])) [.t 11,.t 13],no⟩,⟨some 15,.un .not (.t 14),no⟩]) (.cond (.t 15) (.seq
 (.reg [⟨some 4,.mv (.k (.bool false)),no⟩]) .ret) .skip)) (.seq (.seq
 (.reg [⟨some 16,.fld 2 (.t 2),no⟩,⟨some 17,.ld false 1 (.t 16),no⟩,⟨some 18,.fld 2 (.t 3),no⟩,⟨some 19,.ld false 1 (.t 18),no⟩,⟨some 20,.call (.k (.fn (.func 233) [] [])) [.t 17,.t 19],no⟩,⟨some 21,.un .not (.t 20),no⟩]) (.cond (.t 21) (.seq
 (.reg [⟨some 4,.mv (.k (.bool false)),no⟩]) .ret) .skip)) (.seq (.seq
 (.reg [⟨some 22,.fld 3 (.t 2),no⟩,⟨some 23,.ld false 1 (.t 22),no⟩,⟨some 24,.fld 3 (.t 3),no⟩,⟨some 25,.ld false 1 (.t 24),no⟩,⟨some 26,.call (.k (.fn (.func 234) [] [])) [.t 23,.t 25],no⟩,⟨some 27,.un .not (.t 26),no⟩]) (.cond (.t 27) (.seq
 (.reg [⟨some 4,.mv (.k (.bool false)),no⟩]) .ret) .skip)) (.seq (.seq
 (.reg [⟨some 28,.fld 4 (.t 2),no⟩,⟨some 29,.ld true 3 (.t 28),no⟩,⟨some 30,.fld 4 (.t 3),no⟩,⟨some 31,.ld true 3 (.t 30),no⟩,⟨some 32,.call (.k (.fn (.func 235) [] [])) [.t 29,.t 31],no⟩,⟨some 33,.un .not (.t 32),no⟩]) (.cond (.t 33) (.seq
 (.reg [⟨some 4,.mv (.k (.bool false)),no⟩]) .ret) .skip)) (.seq
 (.reg [⟨some 4,.mv (.k (.bool true)),no⟩]) .ret)))))))⟩
theorem a160_ok:compFn Tryz.prog Tryz.f160=some a160:=by kernel_rfl
def a138:AFn:=
⟨25,[.t 4],(.seq
 (.reg [⟨some 2,.boxv (.t 0),no⟩,⟨some 4,.mv (.k (.int .i64 0)),no⟩]) (.seq
 (.reg [⟨some 5,.mv (.t 1),no⟩,⟨some 6,.fld 0 (.t 2),no⟩,⟨some 7,.ld false 1 (.t 6),no⟩,⟨some 8,.len true (.t 7),no⟩,⟨some 9,.bin .sub (.t 5) (.t 8),no⟩,⟨some 1,.mv (.t 9),no⟩]) (.seq (.seq
 (.reg [⟨some 10,.mv (.t 1),no⟩,⟨some 11,.bin .lss (.t 10) (.k (.int .i64 0)),no⟩]) (.cond (.t 11) (.seq
 (.reg [⟨some 4,.mv (.k (.int .i64 (-1))),no⟩]) .ret) .skip)) (.seq
 (.reg [⟨some 12,.fld 1 (.t 2),no⟩,⟨some 13,.ld false 1 (.t 12),no⟩,⟨some 14,.mv (.t 1),no⟩,⟨some 15,.call (.k (.fn (.func 199) [] [])) [.t 13,.t 14],no⟩,⟨some 1,.mv (.t 15),no⟩]) (.seq (.seq
 (.reg [⟨some 16,.mv (.t 1),no⟩,⟨some 17,.bin .lss (.t 16) (.k (.int .i64 0)),no⟩]) (.cond (.t 17) (.seq
 (.reg [⟨some 4,.mv (.k (.int .i64 (-1))),no⟩]) .ret) .skip)) (.seq
 (.reg [⟨some 18,.fld 3 (.t 2),no⟩,⟨some 19,.ld false 1 (.t 18),no⟩,⟨some 20,.mv (.t 1),no⟩,⟨some 21,.call (.k (.fn (.func 124) [] [])) [.t 19,.t 20],no⟩,⟨some 1,.mv (.t 21),no⟩]) (.seq (.seq
 (.reg [⟨some 22,.mv (.t 1),no⟩,⟨some 23,.bin .lss (.t 22) (.k (.int .i64 0)),no⟩]) (.cond (.t 23) (.seq
 (.reg [⟨some 4,.mv (.k (.int .i64 (-1))),no⟩]) .ret) .skip)) (.seq
 (.reg [⟨some 24,.mv (.t 1),no⟩,⟨some 4,.mv (.t 24),no⟩]) .ret))))))))⟩
theorem a138_ok:compFn Tryz.prog Tryz.f138=some a138:=by kernel_rfl
def a146:AFn:=
⟨19,[(.c 2 true 4)],(.seq
 (.reg [⟨some 1,.boxv (.t 0),no⟩,⟨some 2,.box [(.str []),(.nil 1),(.bool false),(.nil 2)],no⟩]) (.seq
 (.reg [⟨some 3,.box [(.str []),(.nil 1),(.bool false),(.nil 2)],no⟩]) (.seq
 (.reg [⟨some 4,.fld 0 (.t 1),no⟩,⟨some 5,.ld false 1 (.t 4),no⟩,⟨some 6,.fld 0 (.t 3),no⟩,⟨no,.st 1 (.t 6) (.t 5),no⟩]) (.seq
 (.reg [⟨some 7,.fld 1 (.t 1),no⟩,⟨some 8,.ld false 1 (.t 7),no⟩,⟨some 9,.call (.k (.fn (.func 213) [] [])) [.t 8],no⟩,⟨some 10,.fld 1 (.t 3),no⟩,⟨no,.st 1 (.t 10) (.t 9),no⟩]) (.seq
 (.reg [⟨some 11,.fld 2 (.t 1),no⟩,⟨some 12,.ld false 1 (.t 11),no⟩,⟨some 13,.fld 2 (.t 3),no⟩,⟨no,.st 1 (.t 13) (.t 12),no⟩]) (.seq
 (.reg [⟨some 14,.fld 3 (.t 1),no⟩,⟨some 15,.ld false 1 (.t 14),no⟩,⟨some 16,.call (.k (.fn (.func 128) [] [])) [.t 15],no⟩,⟨some 17,.fld 3 (.t 3),no⟩,⟨no,.st 1 (.t 17) (.t 16),no⟩]) (.seq
 (.reg [⟨some 18,.ld true 4 (.t 3),no⟩,⟨no,.st 4 (.t 2) (.t 18),no⟩]) .ret)))))))⟩
theorem a146_ok:compFn Tryz.prog Tryz.f146=some a146:=by kernel_rfl
def a159:AFn:=
⟨27,[.t 4],(.seq
 (.reg [⟨some 2,.boxv (.t 0),no⟩,⟨some 3,.boxv (.t 1),no⟩,⟨some 4,.mv (.k (.bool false)),no⟩]) (.seq (.seq
 (.reg [⟨some 5,.fld 0 (.t 2),no⟩,⟨some 6,.ld false 1 (.t 5),no⟩,⟨some 7,.fld 0 (.t 3),no⟩,⟨some 8,.ld false 1 (.t 7),no⟩,⟨some 9,.bin .neq (.t 6) (.t 8),no⟩]) (.cond (.t 9) (.seq
 (.reg [⟨some 4,.mv (.k (.bool false)),no⟩]) .ret) .skip)) (.seq (.seq
 (.reg [⟨some 10,.fld 1 (.t 2),no⟩,⟨some 11,.ld false 1 (.t 10),no⟩,⟨some 12,.fld 1 (.t 3),no⟩,⟨some 13,.ld false 1 (.t 12),no⟩,⟨some 14,.call (.k (.fn (.func 82) [] [])) [.t 11,.t 13],no⟩,⟨some 15,.un .not (.t 14),no⟩]) (.cond (.t 15) (.seq
 (.reg [⟨some 4,.mv (.k (.bool false)),no⟩]) .ret) .skip)) (.seq (.seq
 (.reg [⟨some 16,.fld 2 (.t 2),no⟩,⟨some 17,.ld false 1 (.t 16),no⟩,⟨some 18,.fld 2 (.t 3),no⟩,⟨some 19,.ld false 1 (.t 18),no⟩,⟨some 20,.beq true (.t 17) (.t 19),no⟩]) (.cond (.t 20) (.seq
 (.reg [⟨some 4,.mv (.k (.bool false)),no⟩]) .ret) .skip)) (.seq (.seq
 (.reg [⟨some 21,.fld 3 (.t 2),no⟩,⟨some 22,.ld false 1 (.t 21),no⟩,⟨some 23,.fld 3 (.t 3),no⟩,⟨some 24,.ld false 1 (.t 23),no⟩,⟨some 25,.call (.k (.fn (.func 66) [] [])) [.t 22,.t 24],no⟩,⟨some 26,.un .not (.t 25),no⟩]) (.cond (.t 26) (.seq
 (.reg [⟨some 4,.mv (.k (.bool false)),no⟩]) .ret) .skip)) (.seq
 (.reg [⟨some 4,.mv (.k (.bool true)),no⟩]) .ret))))))⟩
theorem a159_ok:compFn Tryz.prog Tryz.f159=some a159:=by kernel_rfl
def a11:AFn:=
⟨18,[.t 4],(.seq
 (.reg [⟨some 2,.boxv (.t 0),no⟩,⟨some 4,.mv (.k (.int .i64 0)),no⟩]) (.seq
 (.reg [⟨some 5,.fld 0 (.t 2),no⟩,⟨some 6,.ld false 1 (.t 5),no⟩,⟨some 7,.mv (.t 1),no⟩,⟨some 8,.call (.k (.fn (.func 55) [] [])) [.t 6,.t 7],no⟩,⟨some 1,.mv (.t 8),no⟩]) (.seq (.seq
 (.reg [⟨some 9,.mv (.t 1),no⟩,⟨some 10,.bin .lss (.t 9) (.k (.int .i64 0)),no⟩]) (.cond (.t 10) (.seq
 (.reg [⟨some 4,.mv (.k (.int .i64 (-1))),no⟩]) .ret) .skip)) (.seq
 (.reg [⟨some 11,.fld 1 (.t 2),no⟩,⟨some 12,.ld false 1 (.t 11),no⟩,⟨some 13,.mv (.t 1),no⟩,⟨some 14,.call (.k (.fn (.func 56) [] [])) [.t 12,.t 13],no⟩,⟨some 1,.mv (.t 14),no⟩]) (.seq (.seq
 (.reg [⟨some 15,.mv (.t 1),no⟩,⟨some 16,.bin .lss (.t 15) (.k (.int .i64 0)),no⟩]) (.cond (.t 16) (.seq
 (.reg [⟨some 4,.mv (.k (.int .i64 (-1))),no⟩]) .ret) .skip)) (.seq
 (.reg [⟨some 17,.mv (.t 1),no⟩,⟨some 4,.mv (.t 17),no⟩]) .ret))))))⟩
theorem a11_ok:compFn Tryz.prog Tryz.f11=some a11:=by kernel_rfl
def a13:AFn:=
⟨13,[(.c 2 true 2)],(.seq
 (.reg [⟨some 1,.boxv (.t 0),no⟩,⟨some 2,.box [(.nil 4),(.nil 7)],no⟩]) (.seq
 (.reg [⟨some 3,.box [(.nil 4),(.nil 7)],no⟩]) (.seq
 (.reg [⟨some 4,.fld 0 (.t 1),no⟩,⟨some 5,.ld false 1 (.t 4),no⟩,⟨some 6,.call (.k (.fn (.func 60) [] [])) [.t 5],no⟩,⟨some 7,.fld 0 (.t 3),no⟩,⟨no,.st 1 (.t 7) (.t 6),no⟩]) (.seq
 (.reg [⟨some 8,.fld 1 (.t 1),no⟩,⟨some 9,.ld false 1 (.t 8),no⟩,⟨some 10,.call (.k (.fn (.func 61) [] [])) [.t 9],no⟩,⟨some 11,.fld 1 (.t 3),no⟩,⟨no,.st 1 (.t 11) (.t 10),no⟩]) (.seq
 (.reg [⟨some 12,.ld true 2 (.t 3),no⟩,⟨no,.st 2 (.t 2) (.t 12),no⟩]) .ret)))))⟩
theorem a13_ok:compFn Tryz.prog Tryz.f13=some a13:=by kernel_rfl
def a16:AFn:=
⟨17,[.t 4],(.seq
 (.reg [⟨some 2,.boxv (.t 0),no⟩,⟨some 3,.boxv (.t 1),no⟩,⟨some 4,.mv (.k (.bool false)),no⟩]) (.seq (.seq
 (.reg [⟨some 5,.fld 0 (.t 2),no⟩,⟨some 6,.ld false 1 (.t 5),no⟩,⟨some 7,.fld 0 (.t 3),no⟩,⟨some 8,.ld false 1 (.t 7),no⟩,⟨some 9,.call (.k (.fn (.func 67) [] [])) [.t 6,.t 8],no⟩,⟨some 10,.un .not (.t 9),no⟩]) (.cond (.t 10) (.seq
 (.reg [⟨some 4,.mv (.k (.bool false)),no⟩]) .ret) .skip)) (.seq (.seq
 (.reg [⟨some 11,.fld 1 (.t 2),no⟩,⟨some 12,.ld false 1 (.t 11),no⟩,⟨some 13,.fld 1 (.t 3),no⟩,⟨some 14,.ld false 1 (.t 13),no⟩,⟨some 15,.call (.k (.fn (.func 68) [] [])) [.t 12,.t 14],no⟩,⟨some 16,.un .not (.t 15),no⟩]) (.cond (.t 16) (.seq
 (.reg [⟨some 4,.mv (.k (.bool false)),no⟩]) .ret) .skip)) (.seq
 (.reg [⟨some 4,.mv (.k (.bool true)),no⟩]) .ret))))⟩
theorem a16_ok:compFn Tryz.prog Tryz.f16=some a16:=by kernel_rfl
theorem k_szTerm (x:DTerm) (left:Int) (h0:0≤left∧left≤4611686018427387904):Holds Tryz.prog 309 [.agg (rATerm x),i64 left] (fun r=>r=i64 (sub1 left (wTerm x))):=by
 refine holds_of_run Tryz.func309 a309_ok rfl (by simp [a309]) ?_
 simp [a309,rATerm]
 have e0:wTerm x=wTerm x:=rfl
 conv at e0=>rhs; unfold wTerm
 intro hl0
 rw [wrap64 (by unfold LIM at hl0; omega)]
 by_cases h1:left - (x.Name.length:Nat)<0
 case pos=>
   have q:left - (wTerm x:Int)<0:=by omega
   simp [sub1,h1,q]
   try first | omega | (constructor <;> intros <;> omega)
 have g1:(x.Name.length:Nat)≤left:=by omega
 simp [sub1,h1,g1]
 try (rw [if_neg (by omega)]; omega)
theorem k_toTerm (x:DTerm) (_hw:wTerm x≤1048576):Holds Tryz.prog 310 [.agg (rATerm x)] (fun r=>r = .agg (rUTerm x)):=by
 have hw:=_hw; unfold wTerm at hw
 refine holds_of_run Tryz.func310 a310_ok rfl (by simp [a310]) ?_
 simp [a310,rATerm]
 try simp [rUTerm]
theorem k_eqTerm (x y:DTerm):Holds Tryz.prog 313 [.agg (rATerm x),.agg (rATerm y)] (fun r=>r = .bool (decide (x=y))):=by
 refine holds_of_run Tryz.func313 a313_ok rfl (by simp [a313]) ?_
 simp [a313,rATerm]
 by_cases h0:x.Coeff=y.Coeff
 case neg=>simp [h0]; try exact fun e=>h0 (by rw [e])
 simp [h0]
 by_cases h1:x.Name=y.Name
 case neg=>simp [h1]; try exact fun e=>h1 (by rw [e])
 simp [h1]
 cases x; cases y; simp_all
theorem a291_ok:compFn Tryz.prog Tryz.f291=some (tSz true 2 309):=by kernel_rfl
theorem k_szTermS (l:List DTerm) (left:Int) (h0:0≤left∧left≤4611686018427387904):Holds Tryz.prog 291 [.sl 2 (l.map rATerm),i64 left] (fun r=>r=i64 (sub1 left (wTermS l))):=by
 rw [show wTermS l=wL wTerm l from rfl,←szL_sub1 (w:=wTerm) (g:=fun x lf=>sub1 lf (wTerm x)) (fun _ _ _=>rfl) l left h0.1]
 exact holds_tSz Tryz.func291 a291_ok rfl (rowOf:=rATerm) (eltOf:=(fun x => .agg (rATerm x))) (fun x=>by simp [rATerm]) (fun x h=>by simp [rATerm]) (fun x lf h=>sub1_le h) l left h0 (fun x lf _ hl=>k_szTerm x lf hl)
theorem a296_ok:compFn Tryz.prog Tryz.f296=some (tTo true 2 24 310 [.int .i64 0,.str []]):=by kernel_rfl
theorem k_toTermS (l:List DTerm) (hw:wTermS l≤1048576):Holds Tryz.prog 296 [.sl 2 (l.map rATerm)] (fun r=>r = .us 2 (l.map rUTerm)):=
 holds_tTo Tryz.func296 a296_ok rfl (rowOf:=rATerm) (eltOf:=(fun x => .agg (rATerm x))) (eltU:=(fun x => .agg (rUTerm x))) (fun x=>by simp [rATerm]) (fun x h=>by simp [rATerm]) (fun x=>by simp) (fun x=>by simp [rUTerm]) (fun x=>by simp [rUTerm]) rfl l (by have:=wL_len wTerm l; unfold wTermS at hw; unfold LIM; omega) (fun x h=>k_toTerm x (by have:=wL_mem (w:=wTerm) h; unfold wTermS at hw; omega))
theorem a302_ok:compFn Tryz.prog Tryz.f302=some (tEq true 2 313):=by kernel_rfl
theorem k_eqTermS (l m:List DTerm):Holds Tryz.prog 302 [.sl 2 (l.map rATerm),.sl 2 (m.map rATerm)] (fun r=>r = .bool (decide (l=m))):=by
 rw [←eqL_dec]
 exact holds_tEq Tryz.func302 a302_ok rfl (rowOf:=rATerm) (eltOf:=(fun x => .agg (rATerm x))) (fun x=>by simp [rATerm]) (fun x h=>by simp [rATerm]) l m (fun x y _ _=>k_eqTerm x y)
theorem k_szSum (x:DSum) (left:Int) (h0:0≤left∧left≤4611686018427387904):Holds Tryz.prog 265 [.agg (rASum x),i64 left] (fun r=>r=i64 (sub1 left (wSum x))):=by
 refine holds_of_run Tryz.func265 a265_ok rfl (by simp [a265]) ?_
 simp [a265,rASum]
 have e0:wSum x=wSum x:=rfl
 conv at e0=>rhs; unfold wSum
 refine call_of (k_szTermS x.Terms left (by omega)) (by simp) ?_
 rintro r rfl
 by_cases h1:left - (wTermS x.Terms:Nat)<0
 case pos=>
   have q:left - (wSum x:Int)<0:=by omega
   simp [sub1,h1,q]
   try first | omega | (constructor <;> intros <;> omega)
 simp [sub1,h1]
 try (rw [if_neg (by omega)]; omega)
theorem k_toSum (x:DSum) (_hw:wSum x≤1048576):Holds Tryz.prog 273 [.agg (rASum x)] (fun r=>r = .agg (rUSum x)):=by
 have hw:=_hw; unfold wSum at hw
 refine holds_of_run Tryz.func273 a273_ok rfl (by simp [a273]) ?_
 simp [a273,rASum]
 refine call_of (k_toTermS x.Terms (by omega)) (by simp []) ?_
 rintro r rfl
 simp []
 try simp [rUSum]
theorem k_eqSum (x y:DSum):Holds Tryz.prog 284 [.agg (rASum x),.agg (rASum y)] (fun r=>r = .bool (decide (x=y))):=by
 refine holds_of_run Tryz.func284 a284_ok rfl (by simp [a284]) ?_
 simp [a284,rASum]
 by_cases h0:x.Const=y.Const
 case neg=>simp [h0]; try exact fun e=>h0 (by rw [e])
 simp [h0]
 refine call_of (k_eqTermS x.Terms y.Terms) (by simp []) ?_
 rintro r rfl
 by_cases h1:x.Terms=y.Terms
 case neg=>simp [h1]; try exact fun e=>h1 (by rw [e])
 simp [h1]
 cases x; cases y; simp_all
theorem a201_ok:compFn Tryz.prog Tryz.f201=some (tSz true 2 265):=by kernel_rfl
theorem k_szSumS (l:List DSum) (left:Int) (h0:0≤left∧left≤4611686018427387904):Holds Tryz.prog 201 [.sl 2 (l.map rASum),i64 left] (fun r=>r=i64 (sub1 left (wSumS l))):=by
 rw [show wSumS l=wL wSum l from rfl,←szL_sub1 (w:=wSum) (g:=fun x lf=>sub1 lf (wSum x)) (fun _ _ _=>rfl) l left h0.1]
 exact holds_tSz Tryz.func201 a201_ok rfl (rowOf:=rASum) (eltOf:=(fun x => .agg (rASum x))) (fun x=>by simp [rASum]) (fun x h=>by simp [rASum]) (fun x lf h=>sub1_le h) l left h0 (fun x lf _ hl=>k_szSum x lf hl)
theorem a215_ok:compFn Tryz.prog Tryz.f215=some (tTo true 2 32 273 [.int .i64 0,.nil 2]):=by kernel_rfl
theorem k_toSumS (l:List DSum) (hw:wSumS l≤1048576):Holds Tryz.prog 215 [.sl 2 (l.map rASum)] (fun r=>r = .us 2 (l.map rUSum)):=
 holds_tTo Tryz.func215 a215_ok rfl (rowOf:=rASum) (eltOf:=(fun x => .agg (rASum x))) (eltU:=(fun x => .agg (rUSum x))) (fun x=>by simp [rASum]) (fun x h=>by simp [rASum]) (fun x=>by simp) (fun x=>by simp [rUSum]) (fun x=>by simp [rUSum]) rfl l (by have:=wL_len wSum l; unfold wSumS at hw; unfold LIM; omega) (fun x h=>k_toSum x (by have:=wL_mem (w:=wSum) h; unfold wSumS at hw; omega))
theorem a233_ok:compFn Tryz.prog Tryz.f233=some (tEq true 2 284):=by kernel_rfl
theorem k_eqSumS (l m:List DSum):Holds Tryz.prog 233 [.sl 2 (l.map rASum),.sl 2 (m.map rASum)] (fun r=>r = .bool (decide (l=m))):=by
 rw [←eqL_dec]
 exact holds_tEq Tryz.func233 a233_ok rfl (rowOf:=rASum) (eltOf:=(fun x => .agg (rASum x))) (fun x=>by simp [rASum]) (fun x h=>by simp [rASum]) l m (fun x y _ _=>k_eqSum x y)
theorem k_szArg (x:DArg) (left:Int) (h0:0≤left∧left≤4611686018427387904):Holds Tryz.prog 203 [.agg (rAArg x),i64 left] (fun r=>r=i64 (sub1 left (wArg x))):=by
 refine holds_of_run Tryz.func203 a203_ok rfl (by simp [a203]) ?_
 simp [a203,rAArg]
 have e0:wArg x=wArg x:=rfl
 conv at e0=>rhs; unfold wArg
 refine call_of (k_szSumS x.Heads left (by omega)) (by simp) ?_
 rintro r rfl
 by_cases h1:left - (wSumS x.Heads:Nat)<0
 case pos=>
   have q:left - (wArg x:Int)<0:=by omega
   simp [sub1,h1,q]
   try first | omega | (constructor <;> intros <;> omega)
 simp [sub1,h1]
 intro hl1
 rw [wrap64 (by unfold LIM at hl1; omega)]
 by_cases h2:(left - (wSumS x.Heads:Nat)) - (x.Base.length:Nat)<0
 case pos=>
   have q:left - (wArg x:Int)<0:=by omega
   simp [sub1,h2,q]
   try first | omega | (constructor <;> intros <;> omega)
 have g2:(x.Base.length:Nat)≤(left - (wSumS x.Heads:Nat)):=by omega
 simp [sub1,h2,g2]
 try (rw [if_neg (by omega)]; omega)
theorem k_toArg (x:DArg) (_hw:wArg x≤1048576):Holds Tryz.prog 217 [.agg (rAArg x)] (fun r=>r = .agg (rUArg x)):=by
 have hw:=_hw; unfold wArg at hw
 refine holds_of_run Tryz.func217 a217_ok rfl (by simp [a217]) ?_
 simp [a217,rAArg]
 refine call_of (k_toSumS x.Heads (by omega)) (by simp []) ?_
 rintro r rfl
 simp []
 try simp [rUArg]
theorem k_eqArg (x y:DArg):Holds Tryz.prog 235 [.agg (rAArg x),.agg (rAArg y)] (fun r=>r = .bool (decide (x=y))):=by
 refine holds_of_run Tryz.func235 a235_ok rfl (by simp [a235]) ?_
 simp [a235,rAArg]
 by_cases h0:x.Lst=y.Lst
 case neg=>simp [h0]; try exact fun e=>h0 (by rw [e])
 simp [h0]
 refine call_of (k_eqSumS x.Heads y.Heads) (by simp []) ?_
 rintro r rfl
 by_cases h1:x.Heads=y.Heads
 case neg=>simp [h1]; try exact fun e=>h1 (by rw [e])
 simp [h1]
 by_cases h2:x.Base=y.Base
 case neg=>simp [h2]; try exact fun e=>h2 (by rw [e])
 simp [h2]
 cases x; cases y; simp_all
theorem a292_ok:compFn Tryz.prog Tryz.f292=some (tSz true 3 203):=by kernel_rfl
theorem k_szArgS (l:List DArg) (left:Int) (h0:0≤left∧left≤4611686018427387904):Holds Tryz.prog 292 [.sl 3 (l.map rAArg),i64 left] (fun r=>r=i64 (sub1 left (wArgS l))):=by
 rw [show wArgS l=wL wArg l from rfl,←szL_sub1 (w:=wArg) (g:=fun x lf=>sub1 lf (wArg x)) (fun _ _ _=>rfl) l left h0.1]
 exact holds_tSz Tryz.func292 a292_ok rfl (rowOf:=rAArg) (eltOf:=(fun x => .agg (rAArg x))) (fun x=>by simp [rAArg]) (fun x h=>by simp [rAArg]) (fun x lf h=>sub1_le h) l left h0 (fun x lf _ hl=>k_szArg x lf hl)
theorem a297_ok:compFn Tryz.prog Tryz.f297=some (tTo true 3 48 217 [.bool false,.nil 2,.str []]):=by kernel_rfl
theorem k_toArgS (l:List DArg) (hw:wArgS l≤1048576):Holds Tryz.prog 297 [.sl 3 (l.map rAArg)] (fun r=>r = .us 3 (l.map rUArg)):=
 holds_tTo Tryz.func297 a297_ok rfl (rowOf:=rAArg) (eltOf:=(fun x => .agg (rAArg x))) (eltU:=(fun x => .agg (rUArg x))) (fun x=>by simp [rAArg]) (fun x h=>by simp [rAArg]) (fun x=>by simp) (fun x=>by simp [rUArg]) (fun x=>by simp [rUArg]) rfl l (by have:=wL_len wArg l; unfold wArgS at hw; unfold LIM; omega) (fun x h=>k_toArg x (by have:=wL_mem (w:=wArg) h; unfold wArgS at hw; omega))
theorem a303_ok:compFn Tryz.prog Tryz.f303=some (tEq true 3 235):=by kernel_rfl
theorem k_eqArgS (l m:List DArg):Holds Tryz.prog 303 [.sl 3 (l.map rAArg),.sl 3 (m.map rAArg)] (fun r=>r = .bool (decide (l=m))):=by
 rw [←eqL_dec]
 exact holds_tEq Tryz.func303 a303_ok rfl (rowOf:=rAArg) (eltOf:=(fun x => .agg (rAArg x))) (fun x=>by simp [rAArg]) (fun x h=>by simp [rAArg]) l m (fun x y _ _=>k_eqArg x y)
theorem k_szPattern (x:DPattern) (left:Int) (h0:0≤left∧left≤4611686018427387904):Holds Tryz.prog 264 [.agg (rAPattern x),i64 left] (fun r=>r=i64 (sub1 left (wPattern x))):=by
 refine holds_of_run Tryz.func264 a264_ok rfl (by simp [a264]) ?_
 simp [a264,rAPattern]
 have e0:wPattern x=wPattern x:=rfl
 conv at e0=>rhs; unfold wPattern
 intro hl0
 rw [wrap64 (by unfold LIM at hl0; omega)]
 by_cases h1:left - (x.Lst.length:Nat)<0
 case pos=>
   have q:left - (wPattern x:Int)<0:=by omega
   simp [sub1,h1,q]
   try first | omega | (constructor <;> intros <;> omega)
 have g1:(x.Lst.length:Nat)≤left:=by omega
 simp [sub1,h1,g1]
 intro hl1
 rw [wrap64 (by unfold LIM at hl1; omega)]
 by_cases h2:(left - (x.Lst.length:Nat)) - (x.Head.length:Nat)<0
 case pos=>
   have q:left - (wPattern x:Int)<0:=by omega
   simp [sub1,h2,q]
   try first | omega | (constructor <;> intros <;> omega)
 have g2:(x.Head.length:Nat)≤(left - (x.Lst.length:Nat)):=by omega
 simp [sub1,h2,g2]
 intro hl2
 rw [wrap64 (by unfold LIM at hl2; omega)]
 by_cases h3:(left - (x.Lst.length:Nat) - (x.Head.length:Nat)) - (x.Tail.length:Nat)<0
 case pos=>
   have q:left - (wPattern x:Int)<0:=by omega
   simp [sub1,h3,q]
   try first | omega | (constructor <;> intros <;> omega)
 have g3:(x.Tail.length:Nat)≤(left - (x.Lst.length:Nat) - (x.Head.length:Nat)):=by omega
 simp [sub1,h3,g3]
 try (rw [if_neg (by omega)]; omega)
theorem k_toPattern (x:DPattern) (_hw:wPattern x≤1048576):Holds Tryz.prog 272 [.agg (rAPattern x)] (fun r=>r = .agg (rUPattern x)):=by
 have hw:=_hw; unfold wPattern at hw
 refine holds_of_run Tryz.func272 a272_ok rfl (by simp [a272]) ?_
 simp [a272,rAPattern]
 try simp [rUPattern]
theorem k_eqPattern (x y:DPattern):Holds Tryz.prog 283 [.agg (rAPattern x),.agg (rAPattern y)] (fun r=>r = .bool (decide (x=y))):=by
 refine holds_of_run Tryz.func283 a283_ok rfl (by simp [a283]) ?_
 simp [a283,rAPattern]
 by_cases h0:x.Lst=y.Lst
 case neg=>simp [h0]; try exact fun e=>h0 (by rw [e])
 simp [h0]
 by_cases h1:x.Cons=y.Cons
 case neg=>simp [h1]; try exact fun e=>h1 (by rw [e])
 simp [h1]
 by_cases h2:x.Head=y.Head
 case neg=>simp [h2]; try exact fun e=>h2 (by rw [e])
 simp [h2]
 by_cases h3:x.Tail=y.Tail
 case neg=>simp [h3]; try exact fun e=>h3 (by rw [e])
 simp [h3]
 cases x; cases y; simp_all
theorem a200_ok:compFn Tryz.prog Tryz.f200=some (tSz true 4 264):=by kernel_rfl
theorem k_szPatternS (l:List DPattern) (left:Int) (h0:0≤left∧left≤4611686018427387904):Holds Tryz.prog 200 [.sl 4 (l.map rAPattern),i64 left] (fun r=>r=i64 (sub1 left (wPatternS l))):=by
 rw [show wPatternS l=wL wPattern l from rfl,←szL_sub1 (w:=wPattern) (g:=fun x lf=>sub1 lf (wPattern x)) (fun _ _ _=>rfl) l left h0.1]
 exact holds_tSz Tryz.func200 a200_ok rfl (rowOf:=rAPattern) (eltOf:=(fun x => .agg (rAPattern x))) (fun x=>by simp [rAPattern]) (fun x h=>by simp [rAPattern]) (fun x lf h=>sub1_le h) l left h0 (fun x lf _ hl=>k_szPattern x lf hl)
theorem a214_ok:compFn Tryz.prog Tryz.f214=some (tTo true 4 56 272 [.str [],.bool false,.str [],.str []]):=by kernel_rfl
theorem k_toPatternS (l:List DPattern) (hw:wPatternS l≤1048576):Holds Tryz.prog 214 [.sl 4 (l.map rAPattern)] (fun r=>r = .us 4 (l.map rUPattern)):=
 holds_tTo Tryz.func214 a214_ok rfl (rowOf:=rAPattern) (eltOf:=(fun x => .agg (rAPattern x))) (eltU:=(fun x => .agg (rUPattern x))) (fun x=>by simp [rAPattern]) (fun x h=>by simp [rAPattern]) (fun x=>by simp) (fun x=>by simp [rUPattern]) (fun x=>by simp [rUPattern]) rfl l (by have:=wL_len wPattern l; unfold wPatternS at hw; unfold LIM; omega) (fun x h=>k_toPattern x (by have:=wL_mem (w:=wPattern) h; unfold wPatternS at hw; omega))
theorem a232_ok:compFn Tryz.prog Tryz.f232=some (tEq true 4 283):=by kernel_rfl
theorem k_eqPatternS (l m:List DPattern):Holds Tryz.prog 232 [.sl 4 (l.map rAPattern),.sl 4 (m.map rAPattern)] (fun r=>r = .bool (decide (l=m))):=by
 rw [←eqL_dec]
 exact holds_tEq Tryz.func232 a232_ok rfl (rowOf:=rAPattern) (eltOf:=(fun x => .agg (rAPattern x))) (fun x=>by simp [rAPattern]) (fun x h=>by simp [rAPattern]) l m (fun x y _ _=>k_eqPattern x y)
theorem k_szCall (x:DCall) (left:Int) (h0:0≤left∧left≤4611686018427387904):Holds Tryz.prog 266 [.agg (rACall x),i64 left] (fun r=>r=i64 (sub1 left (wCall x))):=by
 refine holds_of_run Tryz.func266 a266_ok rfl (by simp [a266]) ?_
 simp [a266,rACall]
 have e0:wCall x=wCall x:=rfl
 conv at e0=>rhs; unfold wCall
 intro hl0
 rw [wrap64 (by unfold LIM at hl0; omega)]
 by_cases h1:left - (x.Bind.length:Nat)<0
 case pos=>
   have q:left - (wCall x:Int)<0:=by omega
   simp [sub1,h1,q]
   try first | omega | (constructor <;> intros <;> omega)
 have g1:(x.Bind.length:Nat)≤left:=by omega
 simp [sub1,h1,g1]
 intro hl1
 rw [wrap64 (by unfold LIM at hl1; omega)]
 by_cases h2:(left - (x.Bind.length:Nat)) - (x.Func.length:Nat)<0
 case pos=>
   have q:left - (wCall x:Int)<0:=by omega
   simp [sub1,h2,q]
   try first | omega | (constructor <;> intros <;> omega)
 have g2:(x.Func.length:Nat)≤(left - (x.Bind.length:Nat)):=by omega
 simp [sub1,h2,g2]
 refine call_of (k_szArgS x.Args (left - (x.Bind.length:Nat) - (x.Func.length:Nat)) (by omega)) (by simp) ?_
 rintro r rfl
 by_cases h3:(left - (x.Bind.length:Nat) - (x.Func.length:Nat)) - (wArgS x.Args:Nat)<0
 case pos=>
   have q:left - (wCall x:Int)<0:=by omega
   simp [sub1,h3,q]
   try first | omega | (constructor <;> intros <;> omega)
 simp [sub1,h3]
 try (rw [if_neg (by omega)]; omega)
theorem k_toCall (x:DCall) (_hw:wCall x≤1048576):Holds Tryz.prog 274 [.agg (rACall x)] (fun r=>r = .agg (rUCall x)):=by
 have hw:=_hw; unfold wCall at hw
 refine holds_of_run Tryz.func274 a274_ok rfl (by simp [a274]) ?_
 simp [a274,rACall]
 refine call_of (k_toArgS x.Args (by omega)) (by simp []) ?_
 rintro r rfl
 simp []
 try simp [rUCall]
theorem k_eqCall (x y:DCall):Holds Tryz.prog 285 [.agg (rACall x),.agg (rACall y)] (fun r=>r = .bool (decide (x=y))):=by
 refine holds_of_run Tryz.func285 a285_ok rfl (by simp [a285]) ?_
 simp [a285,rACall]
 by_cases h0:x.Bind=y.Bind
 case neg=>simp [h0]; try exact fun e=>h0 (by rw [e])
 simp [h0]
 by_cases h1:x.Func=y.Func
 case neg=>simp [h1]; try exact fun e=>h1 (by rw [e])
 simp [h1]
 refine call_of (k_eqArgS x.Args y.Args) (by simp []) ?_
 rintro r rfl
 by_cases h2:x.Args=y.Args
 case neg=>simp [h2]; try exact fun e=>h2 (by rw [e])
 simp [h2]
 cases x; cases y; simp_all
theorem a202_ok:compFn Tryz.prog Tryz.f202=some (tSz true 3 266):=by kernel_rfl
theorem k_szCallS (l:List DCall) (left:Int) (h0:0≤left∧left≤4611686018427387904):Holds Tryz.prog 202 [.sl 3 (l.map rACall),i64 left] (fun r=>r=i64 (sub1 left (wCallS l))):=by
 rw [show wCallS l=wL wCall l from rfl,←szL_sub1 (w:=wCall) (g:=fun x lf=>sub1 lf (wCall x)) (fun _ _ _=>rfl) l left h0.1]
 exact holds_tSz Tryz.func202 a202_ok rfl (rowOf:=rACall) (eltOf:=(fun x => .agg (rACall x))) (fun x=>by simp [rACall]) (fun x h=>by simp [rACall]) (fun x lf h=>sub1_le h) l left h0 (fun x lf _ hl=>k_szCall x lf hl)
theorem a216_ok:compFn Tryz.prog Tryz.f216=some (tTo true 3 56 274 [.str [],.str [],.nil 3]):=by kernel_rfl
theorem k_toCallS (l:List DCall) (hw:wCallS l≤1048576):Holds Tryz.prog 216 [.sl 3 (l.map rACall)] (fun r=>r = .us 3 (l.map rUCall)):=
 holds_tTo Tryz.func216 a216_ok rfl (rowOf:=rACall) (eltOf:=(fun x => .agg (rACall x))) (eltU:=(fun x => .agg (rUCall x))) (fun x=>by simp [rACall]) (fun x h=>by simp [rACall]) (fun x=>by simp) (fun x=>by simp [rUCall]) (fun x=>by simp [rUCall]) rfl l (by have:=wL_len wCall l; unfold wCallS at hw; unfold LIM; omega) (fun x h=>k_toCall x (by have:=wL_mem (w:=wCall) h; unfold wCallS at hw; omega))
theorem a234_ok:compFn Tryz.prog Tryz.f234=some (tEq true 3 285):=by kernel_rfl
theorem k_eqCallS (l m:List DCall):Holds Tryz.prog 234 [.sl 3 (l.map rACall),.sl 3 (m.map rACall)] (fun r=>r = .bool (decide (l=m))):=by
 rw [←eqL_dec]
 exact holds_tEq Tryz.func234 a234_ok rfl (rowOf:=rACall) (eltOf:=(fun x => .agg (rACall x))) (fun x=>by simp [rACall]) (fun x h=>by simp [rACall]) l m (fun x y _ _=>k_eqCall x y)
theorem k_szRule (x:DRule) (left:Int) (h0:0≤left∧left≤4611686018427387904):Holds Tryz.prog 139 [.agg (rARule x),i64 left] (fun r=>r=i64 (sub1 left (wRule x))):=by
 refine holds_of_run Tryz.func139 a139_ok rfl (by simp [a139]) ?_
 simp [a139,rARule]
 have e0:wRule x=wRule x:=rfl
 conv at e0=>rhs; unfold wRule
 intro hl0
 rw [wrap64 (by unfold LIM at hl0; omega)]
 by_cases h1:left - (x.Func.length:Nat)<0
 case pos=>
   have q:left - (wRule x:Int)<0:=by omega
   simp [sub1,h1,q]
   try first | omega | (constructor <;> intros <;> omega)
 have g1:(x.Func.length:Nat)≤left:=by omega
 simp [sub1,h1,g1]
 refine call_of (k_szPatternS x.Patterns (left - (x.Func.length:Nat)) (by omega)) (by simp) ?_
 rintro r rfl
 by_cases h2:(left - (x.Func.length:Nat)) - (wPatternS x.Patterns:Nat)<0
 case pos=>
   have q:left - (wRule x:Int)<0:=by omega
   simp [sub1,h2,q]
   try first | omega | (constructor <;> intros <;> omega)
 simp [sub1,h2]
 refine call_of (k_szSumS x.Guards (left - (x.Func.length:Nat) - (wPatternS x.Patterns:Nat)) (by omega)) (by simp) ?_
 rintro r rfl
 by_cases h3:(left - (x.Func.length:Nat) - (wPatternS x.Patterns:Nat)) - (wSumS x.Guards:Nat)<0
 case pos=>
   have q:left - (wRule x:Int)<0:=by omega
   simp [sub1,h3,q]
   try first | omega | (constructor <;> intros <;> omega)
 simp [sub1,h3]
 refine call_of (k_szCallS x.Calls (left - (x.Func.length:Nat) - (wPatternS x.Patterns:Nat) - (wSumS x.Guards:Nat)) (by omega)) (by simp) ?_
 rintro r rfl
 by_cases h4:(left - (x.Func.length:Nat) - (wPatternS x.Patterns:Nat) - (wSumS x.Guards:Nat)) - (wCallS x.Calls:Nat)<0
 case pos=>
   have q:left - (wRule x:Int)<0:=by omega
   simp [sub1,h4,q]
   try first | omega | (constructor <;> intros <;> omega)
 simp [sub1,h4]
 refine call_of (k_szArg x.Result (left - (x.Func.length:Nat) - (wPatternS x.Patterns:Nat) - (wSumS x.Guards:Nat) - (wCallS x.Calls:Nat)) (by omega)) (by simp [rAArg]) ?_
 rintro r rfl
 by_cases h5:(left - (x.Func.length:Nat) - (wPatternS x.Patterns:Nat) - (wSumS x.Guards:Nat) - (wCallS x.Calls:Nat)) - (wArg x.Result:Nat)<0
 case pos=>
   have q:left - (wRule x:Int)<0:=by omega
   simp [sub1,h5,q]
   try first | omega | (constructor <;> intros <;> omega)
 simp [sub1,h5]
 try (rw [if_neg (by omega)]; omega)
theorem k_toRule (x:DRule) (_hw:wRule x≤1048576):Holds Tryz.prog 147 [.agg (rARule x)] (fun r=>r = .agg (rURule x)):=by
 have hw:=_hw; unfold wRule at hw
 refine holds_of_run Tryz.func147 a147_ok rfl (by simp [a147]) ?_
 simp [a147,rARule]
 refine call_of (k_toPatternS x.Patterns (by omega)) (by simp []) ?_
 rintro r rfl
 simp []
 refine call_of (k_toSumS x.Guards (by omega)) (by simp []) ?_
 rintro r rfl
 simp []
 refine call_of (k_toCallS x.Calls (by omega)) (by simp []) ?_
 rintro r rfl
 simp []
 refine call_of (k_toArg x.Result (by omega)) (by simp [rAArg]) ?_
 rintro r rfl
 simp [rUArg]
 try simp [rURule]
theorem k_eqRule (x y:DRule):Holds Tryz.prog 160 [.agg (rARule x),.agg (rARule y)] (fun r=>r = .bool (decide (x=y))):=by
 refine holds_of_run Tryz.func160 a160_ok rfl (by simp [a160]) ?_
 simp [a160,rARule]
 by_cases h0:x.Func=y.Func
 case neg=>simp [h0]; try exact fun e=>h0 (by rw [e])
 simp [h0]
 refine call_of (k_eqPatternS x.Patterns y.Patterns) (by simp []) ?_
 rintro r rfl
 by_cases h1:x.Patterns=y.Patterns
 case neg=>simp [h1]; try exact fun e=>h1 (by rw [e])
 simp [h1]
 refine call_of (k_eqSumS x.Guards y.Guards) (by simp []) ?_
 rintro r rfl
 by_cases h2:x.Guards=y.Guards
 case neg=>simp [h2]; try exact fun e=>h2 (by rw [e])
 simp [h2]
 refine call_of (k_eqCallS x.Calls y.Calls) (by simp []) ?_
 rintro r rfl
 by_cases h3:x.Calls=y.Calls
 case neg=>simp [h3]; try exact fun e=>h3 (by rw [e])
 simp [h3]
 refine call_of (k_eqArg x.Result y.Result) (by simp [rAArg]) ?_
 rintro r rfl
 by_cases h4:x.Result=y.Result
 case neg=>simp [h4]; try exact fun e=>h4 (by rw [e])
 simp [h4]
 cases x; cases y; simp_all
theorem a56_ok:compFn Tryz.prog Tryz.f56=some (tSz true 7 139):=by kernel_rfl
theorem k_szRuleS (l:List DRule) (left:Int) (h0:0≤left∧left≤4611686018427387904):Holds Tryz.prog 56 [.sl 7 (l.map rARule),i64 left] (fun r=>r=i64 (sub1 left (wRuleS l))):=by
 rw [show wRuleS l=wL wRule l from rfl,←szL_sub1 (w:=wRule) (g:=fun x lf=>sub1 lf (wRule x)) (fun _ _ _=>rfl) l left h0.1]
 exact holds_tSz Tryz.func56 a56_ok rfl (rowOf:=rARule) (eltOf:=(fun x => .agg (rARule x))) (fun x=>by simp [rARule]) (fun x h=>by simp [rARule]) (fun x lf h=>sub1_le h) l left h0 (fun x lf _ hl=>k_szRule x lf hl)
theorem a61_ok:compFn Tryz.prog Tryz.f61=some (tTo true 7 136 147 [.str [],.nil 4,.nil 2,.nil 3,.bool false,.nil 2,.str []]):=by kernel_rfl
theorem k_toRuleS (l:List DRule) (hw:wRuleS l≤1048576):Holds Tryz.prog 61 [.sl 7 (l.map rARule)] (fun r=>r = .us 7 (l.map rURule)):=
 holds_tTo Tryz.func61 a61_ok rfl (rowOf:=rARule) (eltOf:=(fun x => .agg (rARule x))) (eltU:=(fun x => .agg (rURule x))) (fun x=>by simp [rARule]) (fun x h=>by simp [rARule]) (fun x=>by simp) (fun x=>by simp [rURule]) (fun x=>by simp [rURule]) rfl l (by have:=wL_len wRule l; unfold wRuleS at hw; unfold LIM; omega) (fun x h=>k_toRule x (by have:=wL_mem (w:=wRule) h; unfold wRuleS at hw; omega))
theorem a68_ok:compFn Tryz.prog Tryz.f68=some (tEq true 7 160):=by kernel_rfl
theorem k_eqRuleS (l m:List DRule):Holds Tryz.prog 68 [.sl 7 (l.map rARule),.sl 7 (m.map rARule)] (fun r=>r = .bool (decide (l=m))):=by
 rw [←eqL_dec]
 exact holds_tEq Tryz.func68 a68_ok rfl (rowOf:=rARule) (eltOf:=(fun x => .agg (rARule x))) (fun x=>by simp [rARule]) (fun x h=>by simp [rARule]) l m (fun x y _ _=>k_eqRule x y)
theorem k_szFunction (x:DFunction) (left:Int) (h0:0≤left∧left≤4611686018427387904):Holds Tryz.prog 138 [.agg (rAFunction x),i64 left] (fun r=>r=i64 (sub1 left (wFunction x))):=by
 refine holds_of_run Tryz.func138 a138_ok rfl (by simp [a138]) ?_
 simp [a138,rAFunction]
 have e0:wFunction x=wFunction x:=rfl
 conv at e0=>rhs; unfold wFunction
 intro hl0
 rw [wrap64 (by unfold LIM at hl0; omega)]
 by_cases h1:left - (x.Name.length:Nat)<0
 case pos=>
   have q:left - (wFunction x:Int)<0:=by omega
   simp [sub1,h1,q]
   try first | omega | (constructor <;> intros <;> omega)
 have g1:(x.Name.length:Nat)≤left:=by omega
 simp [sub1,h1,g1]
 refine call_of (k_szStringS x.Params (left - (x.Name.length:Nat)) (by omega)) (by simp) ?_
 rintro r rfl
 by_cases h2:(left - (x.Name.length:Nat)) - (wStringS x.Params:Nat)<0
 case pos=>
   have q:left - (wFunction x:Int)<0:=by omega
   simp [sub1,h2,q]
   try first | omega | (constructor <;> intros <;> omega)
 simp [sub1,h2]
 refine call_of (k_szLinS x.Pre (left - (x.Name.length:Nat) - (wStringS x.Params:Nat)) (by omega)) (by simp) ?_
 rintro r rfl
 by_cases h3:(left - (x.Name.length:Nat) - (wStringS x.Params:Nat)) - (wLinS x.Pre:Nat)<0
 case pos=>
   have q:left - (wFunction x:Int)<0:=by omega
   simp [sub1,h3,q]
   try first | omega | (constructor <;> intros <;> omega)
 simp [sub1,h3]
 try (rw [if_neg (by omega)]; omega)
theorem k_toFunction (x:DFunction) (_hw:wFunction x≤1048576):Holds Tryz.prog 146 [.agg (rAFunction x)] (fun r=>r = .agg (rUFunction x)):=by
 have hw:=_hw; unfold wFunction at hw
 refine holds_of_run Tryz.func146 a146_ok rfl (by simp [a146]) ?_
 simp [a146,rAFunction]
 refine call_of (k_toStringS x.Params (by omega)) (by simp []) ?_
 rintro r rfl
 simp []
 refine call_of (k_toLinS x.Pre (by omega)) (by simp []) ?_
 rintro r rfl
 simp []
 try simp [rUFunction]
theorem k_eqFunction (x y:DFunction):Holds Tryz.prog 159 [.agg (rAFunction x),.agg (rAFunction y)] (fun r=>r = .bool (decide (x=y))):=by
 refine holds_of_run Tryz.func159 a159_ok rfl (by simp [a159]) ?_
 simp [a159,rAFunction]
 by_cases h0:x.Name=y.Name
 case neg=>simp [h0]; try exact fun e=>h0 (by rw [e])
 simp [h0]
 refine call_of (k_eqStringS x.Params y.Params) (by simp []) ?_
 rintro r rfl
 by_cases h1:x.Params=y.Params
 case neg=>simp [h1]; try exact fun e=>h1 (by rw [e])
 simp [h1]
 by_cases h2:x.ListResult=y.ListResult
 case neg=>simp [h2]; try exact fun e=>h2 (by rw [e])
 simp [h2]
 refine call_of (k_eqLinS x.Pre y.Pre) (by simp []) ?_
 rintro r rfl
 by_cases h3:x.Pre=y.Pre
 case neg=>simp [h3]; try exact fun e=>h3 (by rw [e])
 simp [h3]
 cases x; cases y; simp_all
theorem a55_ok:compFn Tryz.prog Tryz.f55=some (tSz true 4 138):=by kernel_rfl
theorem k_szFunctionS (l:List DFunction) (left:Int) (h0:0≤left∧left≤4611686018427387904):Holds Tryz.prog 55 [.sl 4 (l.map rAFunction),i64 left] (fun r=>r=i64 (sub1 left (wFunctionS l))):=by
 rw [show wFunctionS l=wL wFunction l from rfl,←szL_sub1 (w:=wFunction) (g:=fun x lf=>sub1 lf (wFunction x)) (fun _ _ _=>rfl) l left h0.1]
 exact holds_tSz Tryz.func55 a55_ok rfl (rowOf:=rAFunction) (eltOf:=(fun x => .agg (rAFunction x))) (fun x=>by simp [rAFunction]) (fun x h=>by simp [rAFunction]) (fun x lf h=>sub1_le h) l left h0 (fun x lf _ hl=>k_szFunction x lf hl)
theorem a60_ok:compFn Tryz.prog Tryz.f60=some (tTo true 4 72 146 [.str [],.nil 1,.bool false,.nil 2]):=by kernel_rfl
theorem k_toFunctionS (l:List DFunction) (hw:wFunctionS l≤1048576):Holds Tryz.prog 60 [.sl 4 (l.map rAFunction)] (fun r=>r = .us 4 (l.map rUFunction)):=
 holds_tTo Tryz.func60 a60_ok rfl (rowOf:=rAFunction) (eltOf:=(fun x => .agg (rAFunction x))) (eltU:=(fun x => .agg (rUFunction x))) (fun x=>by simp [rAFunction]) (fun x h=>by simp [rAFunction]) (fun x=>by simp) (fun x=>by simp [rUFunction]) (fun x=>by simp [rUFunction]) rfl l (by have:=wL_len wFunction l; unfold wFunctionS at hw; unfold LIM; omega) (fun x h=>k_toFunction x (by have:=wL_mem (w:=wFunction) h; unfold wFunctionS at hw; omega))
theorem a67_ok:compFn Tryz.prog Tryz.f67=some (tEq true 4 159):=by kernel_rfl
theorem k_eqFunctionS (l m:List DFunction):Holds Tryz.prog 67 [.sl 4 (l.map rAFunction),.sl 4 (m.map rAFunction)] (fun r=>r = .bool (decide (l=m))):=by
 rw [←eqL_dec]
 exact holds_tEq Tryz.func67 a67_ok rfl (rowOf:=rAFunction) (eltOf:=(fun x => .agg (rAFunction x))) (fun x=>by simp [rAFunction]) (fun x h=>by simp [rAFunction]) l m (fun x y _ _=>k_eqFunction x y)
theorem k_szProgram (x:DProgram) (left:Int) (h0:0≤left∧left≤4611686018427387904):Holds Tryz.prog 11 [.agg (rAProgram x),i64 left] (fun r=>r=i64 (sub1 left (wProgram x))):=by
 refine holds_of_run Tryz.func11 a11_ok rfl (by simp [a11]) ?_
 simp [a11,rAProgram]
 have e0:wProgram x=wProgram x:=rfl
 conv at e0=>rhs; unfold wProgram
 refine call_of (k_szFunctionS x.Functions left (by omega)) (by simp) ?_
 rintro r rfl
 by_cases h1:left - (wFunctionS x.Functions:Nat)<0
 case pos=>
   have q:left - (wProgram x:Int)<0:=by omega
   simp [sub1,h1,q]
   try first | omega | (constructor <;> intros <;> omega)
 simp [sub1,h1]
 refine call_of (k_szRuleS x.Rules (left - (wFunctionS x.Functions:Nat)) (by omega)) (by simp) ?_
 rintro r rfl
 by_cases h2:(left - (wFunctionS x.Functions:Nat)) - (wRuleS x.Rules:Nat)<0
 case pos=>
   have q:left - (wProgram x:Int)<0:=by omega
   simp [sub1,h2,q]
   try first | omega | (constructor <;> intros <;> omega)
 simp [sub1,h2]
 try (rw [if_neg (by omega)]; omega)
theorem k_toProgram (x:DProgram) (_hw:wProgram x≤1048576):Holds Tryz.prog 13 [.agg (rAProgram x)] (fun r=>r = .agg (rUProgram x)):=by
 have hw:=_hw; unfold wProgram at hw
 refine holds_of_run Tryz.func13 a13_ok rfl (by simp [a13]) ?_
 simp [a13,rAProgram]
 refine call_of (k_toFunctionS x.Functions (by omega)) (by simp []) ?_
 rintro r rfl
 simp []
 refine call_of (k_toRuleS x.Rules (by omega)) (by simp []) ?_
 rintro r rfl
 simp []
 try simp [rUProgram]
theorem k_eqProgram (x y:DProgram):Holds Tryz.prog 16 [.agg (rAProgram x),.agg (rAProgram y)] (fun r=>r = .bool (decide (x=y))):=by
 refine holds_of_run Tryz.func16 a16_ok rfl (by simp [a16]) ?_
 simp [a16,rAProgram]
 refine call_of (k_eqFunctionS x.Functions y.Functions) (by simp []) ?_
 rintro r rfl
 by_cases h0:x.Functions=y.Functions
 case neg=>simp [h0]; try exact fun e=>h0 (by rw [e])
 simp [h0]
 refine call_of (k_eqRuleS x.Rules y.Rules) (by simp []) ?_
 rintro r rfl
 by_cases h1:x.Rules=y.Rules
 case neg=>simp [h1]; try exact fun e=>h1 (by rw [e])
 simp [h1]
 cases x; cases y; simp_all
end Go.Proofs.YtilcageplifbgaaGreat

namespace Go.Proofs.YtilcageplifbgaaGreat
set_option linter.all false
open Go Go.RowKit Go.Proofs
def a7:AFn:=
⟨69,[.t 2],(.seq
 (.reg [⟨some 1,.boxv (.t 0),no⟩,⟨some 2,.mv (.k (.bool false)),no⟩]) (.seq
 (.reg [⟨some 3,.mv (.k (.int .i64 1048576)),no⟩]) (.seq
 (.reg [⟨some 11,.ld true 2 (.t 1),no⟩,⟨some 12,.mv (.t 3),no⟩,⟨some 13,.call (.k (.fn (.func 11) [] [])) [.t 11,.t 12],no⟩,⟨some 3,.mv (.t 13),no⟩]) (.seq (.seq
 (.reg [⟨some 14,.mv (.t 3),no⟩,⟨some 15,.bin .lss (.t 14) (.k (.int .i64 0)),no⟩]) (.cond (.t 15) (.seq
 (.reg [⟨some 2,.mv (.k (.bool true)),no⟩]) .ret) .skip)) (.seq
 (.reg [⟨some 16,.ld true 2 (.t 1),no⟩,⟨some 17,.call (.k (.fn (.func 13) [] [])) [.t 16],no⟩,⟨some 18,.call (.k (.fn (.func 37) [] [])) [.t 17],no⟩,⟨some 4,.mv (.t 18),no⟩]) (.seq
 (.reg [⟨some 19,.ld true 2 (.t 1),no⟩,⟨some 20,.call (.k (.fn (.func 13) [] [])) [.t 19],no⟩,⟨some 5,.box [(.nil 4),(.nil 7)],no⟩,⟨no,.st 2 (.t 5) (.t 20),no⟩]) (.seq
 (.reg [⟨some 21,.ld true 2 (.t 5),no⟩,⟨some 22,.call (.k (.fn (.func 38) [] [])) [.t 21],no⟩,⟨some 6,.mv (.t 22),no⟩]) (.seq (.seq
 (.reg [⟨some 23,.mv (.t 6),no⟩,⟨some 24,.mv (.t 4),no⟩,⟨some 25,.call (.k (.fn (.func 39) [] [])) [.t 23,.t 24],no⟩,⟨some 26,.un .not (.t 25),no⟩]) (.cond (.t 26) (.seq
 (.reg [⟨some 2,.mv (.k (.bool false)),no⟩]) .ret) .skip)) (.seq (.seq (.draw (.op ⟨some 27,.ld true 2 (.t 5),no⟩ (.op ⟨some 28,.ld true 2 (.t 1),no⟩ (.op ⟨some 29,.call (.k (.fn (.func 13) [] [])) [.t 28],no⟩ (.op ⟨some 30,.call (.k (.fn (.func 16) [] [])) [.t 27,.t 29],no⟩ (.op ⟨some 31,.un .not (.t 30),no⟩ .fin)))))) (.cond (.t 31) (.seq
 (.reg [⟨some 2,.mv (.k (.bool false)),no⟩]) .ret) .skip)) (.seq
 (.reg [⟨some 7,.mv (.k (.int .i64 1)),no⟩]) (.seq
 (.reg [⟨some 32,.ld true 2 (.t 5),no⟩,⟨some 33,.mv (.t 7),no⟩,⟨some 34,.call (.k (.fn (.func 17) [] [])) [.t 32,.t 33],no⟩,⟨some 7,.mv (.t 34),no⟩]) (.seq (.seq
 (.reg [⟨some 35,.mv (.t 7),no⟩,⟨some 36,.bin .lss (.t 35) (.k (.int .i64 0)),no⟩,⟨some 37,.mv (.t 36),no⟩,⟨some 38,.mv (.t 6),(some (37,false))⟩,⟨some 39,.mv (.t 4),(some (37,false))⟩,⟨some 40,.call (.k (.fn (.func 39) [] [])) [.t 38,.t 39],(some (37,false))⟩,⟨some 41,.un .not (.t 40),(some (37,false))⟩,⟨some 42,.pick (.t 37) (.k (.bool true)) (.t 41),no⟩]) (.cond (.t 42) (.seq
 (.reg [⟨some 2,.mv (.k (.bool false)),no⟩]) .ret) .skip)) (.seq
 (.reg [⟨some 8,.mv (.k (.int .i64 1)),no⟩]) (.seq
 (.reg [⟨some 43,.mv (.t 6),no⟩,⟨some 44,.mv (.t 8),no⟩,⟨some 45,.call (.k (.fn (.func 40) [] [])) [.t 43,.t 44],no⟩,⟨some 8,.mv (.t 45),no⟩]) (.seq
 (.reg [⟨some 9,.mv (.k (.int .i64 1)),no⟩]) (.seq
 (.reg [⟨some 46,.mv (.t 6),no⟩,⟨some 47,.mv (.t 9),no⟩,⟨some 48,.call (.k (.fn (.func 41) [] [])) [.t 46,.t 47],no⟩,⟨some 9,.mv (.t 48),no⟩]) (.seq (.seq
 (.reg [⟨some 49,.mv (.t 9),no⟩,⟨some 50,.bin .lss (.t 49) (.k (.int .i64 0)),no⟩]) (.cond (.t 50) (.seq
 (.reg [⟨some 2,.mv (.k (.bool false)),no⟩]) .ret) .skip)) (.seq (.seq
 (.reg [⟨some 51,.mv (.t 9),no⟩,⟨some 52,.mv (.t 8),no⟩,⟨some 53,.bin .neq (.t 51) (.t 52),no⟩]) (.cond (.t 53) (.seq
 (.reg [⟨some 2,.mv (.k (.bool false)),no⟩]) .ret) .skip)) (.seq
 (.reg [⟨some 54,.ld true 2 (.t 1),no⟩,⟨some 55,.call (.k (.fn (.func 13) [] [])) [.t 54],no⟩,⟨some 56,.call (.k (.fn (.func 38) [] [])) [.t 55],no⟩,⟨some 10,.mv (.t 56),no⟩]) (.seq (.seq
 (.reg [⟨some 57,.mv (.t 10),no⟩,⟨some 58,.mv (.t 4),no⟩,⟨some 59,.call (.k (.fn (.func 39) [] [])) [.t 57,.t 58],no⟩,⟨some 60,.un .not (.t 59),no⟩]) (.cond (.t 60) (.seq
 (.reg [⟨some 2,.mv (.k (.bool false)),no⟩]) .ret) .skip)) (.seq
 (.reg [⟨some 9,.mv (.k (.int .i64 1)),no⟩]) (.seq
 (.reg [⟨some 61,.mv (.t 6),no⟩,⟨some 62,.mv (.t 9),no⟩,⟨some 63,.call (.k (.fn (.func 41) [] [])) [.t 61,.t 62],no⟩,⟨some 9,.mv (.t 63),no⟩]) (.seq (.seq
 (.reg [⟨some 64,.mv (.t 9),no⟩,⟨some 65,.bin .lss (.t 64) (.k (.int .i64 0)),no⟩]) (.cond (.t 65) (.seq
 (.reg [⟨some 2,.mv (.k (.bool false)),no⟩]) .ret) .skip)) (.seq (.seq
 (.reg [⟨some 66,.mv (.t 9),no⟩,⟨some 67,.mv (.t 8),no⟩,⟨some 68,.bin .neq (.t 66) (.t 67),no⟩]) (.cond (.t 68) (.seq
 (.reg [⟨some 2,.mv (.k (.bool false)),no⟩]) .ret) .skip)) (.seq
 (.reg [⟨some 2,.mv (.k (.bool true)),no⟩]) .ret)))))))))))))))))))))))))⟩
theorem a7_ok:compFn Tryz.prog Tryz.f7=some a7:=by kernel_rfl
set_option maxRecDepth 40000 in
set_option maxHeartbeats 4000000 in
theorem law_PreObligations (aP:DProgram):Holds Tryz.prog 7 [.agg (rAProgram aP)] (fun x=>x = .bool true):=by
 refine holds_of_run Tryz.func7 a7_ok rfl (by simp [a7]) ?_
 simp [a7]
 first|refine callD_of (k_szProgram aP 1048576 (by omega)) (by first|(simp;done)|rfl) ?_|refine call_of (k_szProgram aP 1048576 (by omega)) (by first|(simp;done)|rfl) ?_
 rintro r rfl
 by_cases h1:1048576 - (wProgram aP:Int)<0
 · simp [sub1,h1]
 simp [sub1,h1]
 have hw_aP:wProgram aP≤1048576:=by omega
 have hb_aP:=cw_Program aP
 first | refine lsD_agg (k_toProgram aP hw_aP) ((LS.start).push) (by simp) ⟨.inl (fun h=>by first | rfl | simp),trivial⟩ ?_ | refine ls_agg (k_toProgram aP hw_aP) ((LS.start).push) (by simp) ⟨.inl (fun h=>by first | rfl | simp),trivial⟩ ?_
 intro c0 h0x n0 J0 S0 hl0 hc0
 have e:=S0.eqs; have ne:=S0.nes; simp only [bxE,bxN,Nat.zero_add,Nat.reduceAdd] at e ne; simp only [len_UProgram] at hl0
 have ht0:List.take 2 c0=c0:=List.take_of_length_le (by omega)
 simp [e,ne,hl0,ht0,hc0]
 first | refine lsD_us (len:=((preOb aP)).length) (ks_PreObligations aP hw_aP) (S0) (by simp) ⟨.inr ⟨_,.head _,rfl,by simp [dr]⟩,trivial⟩ ?_ | refine ls_us (len:=((preOb aP)).length) (ks_PreObligations aP hw_aP) (S0) (by simp) ⟨.inr ⟨_,.head _,rfl,by simp [dr]⟩,trivial⟩ ?_
 intro d1 h1x n1 J1 S1
 have e:=S1.eqs; have ne:=S1.nes; simp only [bxE,bxN,Nat.zero_add,Nat.reduceAdd] at e ne
 simp [e,ne,hl0,ht0]
 first | refine lsD_agg (k_toProgram aP hw_aP) (S1) (by simp) ⟨.inl (fun h=>by first | rfl | simp),trivial⟩ ?_ | refine ls_agg (k_toProgram aP hw_aP) (S1) (by simp) ⟨.inl (fun h=>by first | rfl | simp),trivial⟩ ?_
 intro c2 h2x n2 J2 S2 hl2 hc2
 have e:=S2.eqs; have ne:=S2.nes; simp only [bxE,bxN,Nat.zero_add,Nat.reduceAdd] at e ne; simp only [len_UProgram] at hl2
 have ht2:List.take 2 c2=c2:=List.take_of_length_le (by omega)
 simp [e,ne,hl0,ht0,hl2,ht2,hc2]
 first | refine lsD_us (len:=((preOb aP)).length) (k_PreObligations aP hw_aP) ((S2).push) (by simp) ⟨.inr ⟨_,.head _,rfl,by simp [dr]⟩,trivial⟩ ?_ | refine ls_us (len:=((preOb aP)).length) (k_PreObligations aP hw_aP) ((S2).push) (by simp) ⟨.inr ⟨_,.head _,rfl,by simp [dr]⟩,trivial⟩ ?_
 intro d3 h3x n3 J3 S3
 have e:=S3.eqs; have ne:=S3.nes; simp only [bxE,bxN,Nat.zero_add,Nat.reduceAdd] at e ne
 simp [e,ne,hl0,ht0,hl2,ht2]
 first | refine lsD_scal (k_eqObligationS ((preOb aP)) ((preOb aP))) (S3) rfl ⟨.inr ⟨_,.head _,rfl,by simp [dr]⟩,.inr ⟨_,.tail _ (.tail _ (.head _)),rfl,by simp [dr]⟩,trivial⟩ ?_ | refine ls_scal (k_eqObligationS ((preOb aP)) ((preOb aP))) (S3) rfl ⟨.inr ⟨_,.head _,rfl,by simp [dr]⟩,.inr ⟨_,.tail _ (.tail _ (.head _)),rfl,by simp [dr]⟩,trivial⟩ ?_
 simp [e,ne,hl0,ht0,hl2,ht2]
 first | refine lsD_agg (k_toProgram aP hw_aP) (S3) (by simp) ⟨.inl (fun h=>by first | rfl | simp),trivial⟩ ?_ | refine ls_agg (k_toProgram aP hw_aP) (S3) (by simp) ⟨.inl (fun h=>by first | rfl | simp),trivial⟩ ?_
 intro c4 h4x n4 J4 S4 hl4 hc4
 have e:=S4.eqs; have ne:=S4.nes; simp only [bxE,bxN,Nat.zero_add,Nat.reduceAdd] at e ne; simp only [len_UProgram] at hl4
 have ht4:List.take 2 c4=c4:=List.take_of_length_le (by omega)
 simp [e,ne,hl0,ht0,hl2,ht2,hl4,ht4,hc4]
 first | refine lsD_scal (k_eqProgram (aP) (aP)) (S4) rfl ⟨.inr ⟨_,.tail _ (.tail _ (.head _)),rfl,by simp [dr]⟩,.inr ⟨_,.head _,rfl,by simp [dr]⟩,trivial⟩ ?_ | refine ls_scal (k_eqProgram (aP) (aP)) (S4) rfl ⟨.inr ⟨_,.tail _ (.tail _ (.head _)),rfl,by simp [dr]⟩,.inr ⟨_,.head _,rfl,by simp [dr]⟩,trivial⟩ ?_
 simp [e,ne,hl0,ht0,hl2,ht2,hl4,ht4]
 refine ls_mark (T1:=[_,_]) (m_markProgram (aP) (1) (by omega)) (S4) ?_
 intro h5x n5 S5
 have e:=S5.eqs; have ne:=S5.nes; simp only [bxE,bxN,Nat.zero_add,Nat.reduceAdd] at e ne
 have hq1:¬1+cProgram aP<(0:Int):=by omega
 simp [e,ne,hl0,ht0,hl2,ht2,hl4,ht4,hq1]
 first | refine lsD_scal (k_eqObligationS ((preOb aP)) ((preOb aP))) (S5) rfl ⟨.inr ⟨_,.tail _ (.head _),rfl,by simp [dr]⟩,.inr ⟨_,.tail _ (.tail _ (.tail _ (.head _))),rfl,by simp [dr]⟩,trivial⟩ ?_ | refine ls_scal (k_eqObligationS ((preOb aP)) ((preOb aP))) (S5) rfl ⟨.inr ⟨_,.tail _ (.head _),rfl,by simp [dr]⟩,.inr ⟨_,.tail _ (.tail _ (.tail _ (.head _))),rfl,by simp [dr]⟩,trivial⟩ ?_
 simp [e,ne,hl0,ht0,hl2,ht2,hl4,ht4]
 have hg:=preOb_c aP
 have hm:¬1+(cObligationS ((preOb aP)):Int)<0:=by omega
 refine ls_mark (T1:=[_]) (m_markObligationS ((preOb aP)) (1) (by omega)) (S5) ?_
 intro h6x n6 S6
 have e:=S6.eqs; have ne:=S6.nes; simp only [bxE,bxN,Nat.zero_add,Nat.reduceAdd] at e ne
 have hq2:¬1+cObligationS ((preOb aP))<(0:Int):=by omega
 simp [e,ne,hl0,ht0,hl2,ht2,hl4,ht4,hq2]
 first | refine lsD_scal (k_heldObligationS ((preOb aP)) (1) (by omega)) (S6) rfl ⟨.inr ⟨_,.tail _ (.head _),rfl,by simp [dr]⟩,.inl (fun h=>by first | rfl | simp),trivial⟩ ?_ | refine ls_scal (k_heldObligationS ((preOb aP)) (1) (by omega)) (S6) rfl ⟨.inr ⟨_,.tail _ (.head _),rfl,by simp [dr]⟩,.inl (fun h=>by first | rfl | simp),trivial⟩ ?_
 simp [e,ne,hl0,ht0,hl2,ht2,hl4,ht4,hm]
 first | refine lsD_agg (k_toProgram aP hw_aP) (S6) (by simp) ⟨.inl (fun h=>by first | rfl | simp),trivial⟩ ?_ | refine ls_agg (k_toProgram aP hw_aP) (S6) (by simp) ⟨.inl (fun h=>by first | rfl | simp),trivial⟩ ?_
 intro c7 h7x n7 J7 S7 hl7 hc7
 have e:=S7.eqs; have ne:=S7.nes; simp only [bxE,bxN,Nat.zero_add,Nat.reduceAdd] at e ne; simp only [len_UProgram] at hl7
 have ht7:List.take 2 c7=c7:=List.take_of_length_le (by omega)
 simp [e,ne,hl0,ht0,hl2,ht2,hl4,ht4,hl7,ht7,hc7]
 first | refine lsD_us (len:=((preOb aP)).length) (k_PreObligations aP hw_aP) (S7) (by simp) ⟨.inr ⟨_,.head _,rfl,by simp [dr]⟩,trivial⟩ ?_ | refine ls_us (len:=((preOb aP)).length) (k_PreObligations aP hw_aP) (S7) (by simp) ⟨.inr ⟨_,.head _,rfl,by simp [dr]⟩,trivial⟩ ?_
 intro d8 h8x n8 J8 S8
 have e:=S8.eqs; have ne:=S8.nes; simp only [bxE,bxN,Nat.zero_add,Nat.reduceAdd] at e ne
 simp [e,ne,hl0,ht0,hl2,ht2,hl4,ht4,hl7,ht7]
 first | refine lsD_scal (k_eqObligationS ((preOb aP)) ((preOb aP))) (S8) rfl ⟨.inr ⟨_,.head _,rfl,by simp [dr]⟩,.inr ⟨_,.tail _ (.tail _ (.tail _ (.tail _ (.tail _ (.head _))))),rfl,by simp [dr]⟩,trivial⟩ ?_ | refine ls_scal (k_eqObligationS ((preOb aP)) ((preOb aP))) (S8) rfl ⟨.inr ⟨_,.head _,rfl,by simp [dr]⟩,.inr ⟨_,.tail _ (.tail _ (.tail _ (.tail _ (.tail _ (.head _))))),rfl,by simp [dr]⟩,trivial⟩ ?_
 simp [e,ne,hl0,ht0,hl2,ht2,hl4,ht4,hl7,ht7]
 first | refine lsD_scal (k_heldObligationS ((preOb aP)) (1) (by omega)) (S8) rfl ⟨.inr ⟨_,.tail _ (.tail _ (.tail _ (.head _))),rfl,by simp [dr]⟩,.inl (fun h=>by first | rfl | simp),trivial⟩ ?_ | refine ls_scal (k_heldObligationS ((preOb aP)) (1) (by omega)) (S8) rfl ⟨.inr ⟨_,.tail _ (.tail _ (.tail _ (.head _))),rfl,by simp [dr]⟩,.inl (fun h=>by first | rfl | simp),trivial⟩ ?_
 simp [e,ne,hl0,ht0,hl2,ht2,hl4,ht4,hl7,ht7,hm]
end Go.Proofs.YtilcageplifbgaaGreat

namespace Go.Proofs.YtilcageplifbgaaGreat
set_option linter.all false
open Go Go.RowKit Go.Proofs Go.ChangeShapes Go.WideShapes
theorem Tryz.own:ownKnob Tryz.prog.godebug=none:=by kernel_rfl
theorem Tryz.laidOut:laidOutB Tryz.prog=true:=by kernel_rfl
theorem list_of_rows {α:Type} {P:List AV→Prop} {f:α→List AV} (hP:∀ r,P r→∃ x,r=f x):∀ {rows:List (List AV)},(∀ r∈rows,P r)→∃ l:List α,rows=l.map f
 | [],_=>⟨[],rfl⟩
 | r::rows,h=>by
   obtain ⟨x,rfl⟩:=hP r (h _ List.mem_cons_self)
   obtain ⟨l,rfl⟩:=list_of_rows hP fun r hr=>h r (List.mem_cons_of_mem _ hr)
   exact ⟨x::l,rfl⟩
set_option maxRecDepth 100000
theorem of_IntS {f:Nat} {r:List AV} (h:Row Tryz.prog (f+2) 47 r):∃ x:List Int,r=[.sl 1 (intsR x)]:=by
 obtain ⟨l,rfl⟩:=ints_of Tryz.underlying47 Tryz.underlying3 (by kernel_rfl) h
 exact ⟨l,rfl⟩
theorem of_Lin {f:Nat} {r:List AV} (h:Row Tryz.prog (f+3) 49 r):∃ x:DLin,r=rALin x:=by
 obtain ⟨parts,rfl,g0⟩:=Row_struct Tryz.underlying49 h
 obtain ⟨x0,m1,rfl,h0,g1⟩:=All2_cons g0
 obtain ⟨x1,m2,rfl,h1,g2⟩:=All2_cons g1
 cases All2_nil g2
 obtain ⟨v0,rfl,_⟩:=Row_int Tryz.underlying3 h0
 obtain ⟨v1,rfl⟩:=of_IntS h1
 exact ⟨⟨v0,v1⟩,rfl⟩
theorem of_LinS {f:Nat} {r:List AV} (h:Row Tryz.prog (f+4) 71 r):∃ x:List DLin,r=[.sl 2 (x.map rALin)]:=by
 obtain ⟨rows,rfl,_,hr⟩:=Row_slice Tryz.underlying71 h
 obtain ⟨l,rfl⟩:=list_of_rows (f:=rALin) (fun r h=>of_Lin h) hr
 exact ⟨l,by rw [show Tryz.prog.cellsOf 49=2 by kernel_rfl]⟩
theorem of_Term {f:Nat} {r:List AV} (h:Row Tryz.prog (f+2) 319 r):∃ x:DTerm,r=rATerm x:=by
 obtain ⟨parts,rfl,g0⟩:=Row_struct Tryz.underlying319 h
 obtain ⟨x0,m1,rfl,h0,g1⟩:=All2_cons g0
 obtain ⟨x1,m2,rfl,h1,g2⟩:=All2_cons g1
 cases All2_nil g2
 obtain ⟨v0,rfl,_⟩:=Row_int Tryz.underlying3 h0
 obtain ⟨v1,rfl,_⟩:=Row_string Tryz.underlying9 h1
 exact ⟨⟨v0,v1⟩,rfl⟩
theorem of_TermS {f:Nat} {r:List AV} (h:Row Tryz.prog (f+3) 280 r):∃ x:List DTerm,r=[.sl 2 (x.map rATerm)]:=by
 obtain ⟨rows,rfl,_,hr⟩:=Row_slice Tryz.underlying280 h
 obtain ⟨l,rfl⟩:=list_of_rows (f:=rATerm) (fun r h=>of_Term h) hr
 exact ⟨l,by rw [show Tryz.prog.cellsOf 319=2 by kernel_rfl]⟩
theorem of_Sum {f:Nat} {r:List AV} (h:Row Tryz.prog (f+4) 282 r):∃ x:DSum,r=rASum x:=by
 obtain ⟨parts,rfl,g0⟩:=Row_struct Tryz.underlying282 h
 obtain ⟨x0,m1,rfl,h0,g1⟩:=All2_cons g0
 obtain ⟨x1,m2,rfl,h1,g2⟩:=All2_cons g1
 cases All2_nil g2
 obtain ⟨v0,rfl,_⟩:=Row_int Tryz.underlying3 h0
 obtain ⟨v1,rfl⟩:=of_TermS h1
 exact ⟨⟨v0,v1⟩,rfl⟩
theorem of_SumS {f:Nat} {r:List AV} (h:Row Tryz.prog (f+5) 185 r):∃ x:List DSum,r=[.sl 2 (x.map rASum)]:=by
 obtain ⟨rows,rfl,_,hr⟩:=Row_slice Tryz.underlying185 h
 obtain ⟨l,rfl⟩:=list_of_rows (f:=rASum) (fun r h=>of_Sum h) hr
 exact ⟨l,by rw [show Tryz.prog.cellsOf 282=2 by kernel_rfl]⟩
theorem of_Arg {f:Nat} {r:List AV} (h:Row Tryz.prog (f+6) 188 r):∃ x:DArg,r=rAArg x:=by
 obtain ⟨parts,rfl,g0⟩:=Row_struct Tryz.underlying188 h
 obtain ⟨x0,m1,rfl,h0,g1⟩:=All2_cons g0
 obtain ⟨x1,m2,rfl,h1,g2⟩:=All2_cons g1
 obtain ⟨x2,m3,rfl,h2,g3⟩:=All2_cons g2
 cases All2_nil g3
 obtain ⟨v0,rfl⟩:=Row_bool Tryz.underlying4 h0
 obtain ⟨v1,rfl⟩:=of_SumS h1
 obtain ⟨v2,rfl,_⟩:=Row_string Tryz.underlying9 h2
 exact ⟨⟨v0,v1,v2⟩,rfl⟩
theorem of_ArgS {f:Nat} {r:List AV} (h:Row Tryz.prog (f+7) 284 r):∃ x:List DArg,r=[.sl 3 (x.map rAArg)]:=by
 obtain ⟨rows,rfl,_,hr⟩:=Row_slice Tryz.underlying284 h
 obtain ⟨l,rfl⟩:=list_of_rows (f:=rAArg) (fun r h=>of_Arg h) hr
 exact ⟨l,by rw [show Tryz.prog.cellsOf 188=3 by kernel_rfl]⟩
theorem of_StringS {f:Nat} {r:List AV} (h:Row Tryz.prog (f+2) 92 r):∃ x:List Str,r=[.sl 1 (strsR x)]:=by
 obtain ⟨rows,rfl,_,hr⟩:=Row_slice Tryz.underlying92 h
 obtain ⟨l,rfl⟩:=list_of_rows (f:=fun s:Str=>[.str s]) (fun r h=>(Row_string Tryz.underlying9 h).elim fun l h=>⟨l,h.1⟩) hr
 exact ⟨l,by rw [show Tryz.prog.cellsOf 9=1 by kernel_rfl]; rfl⟩
theorem of_Function {f:Nat} {r:List AV} (h:Row Tryz.prog (f+5) 182 r):∃ x:DFunction,r=rAFunction x:=by
 obtain ⟨parts,rfl,g0⟩:=Row_struct Tryz.underlying182 h
 obtain ⟨x0,m1,rfl,h0,g1⟩:=All2_cons g0
 obtain ⟨x1,m2,rfl,h1,g2⟩:=All2_cons g1
 obtain ⟨x2,m3,rfl,h2,g3⟩:=All2_cons g2
 obtain ⟨x3,m4,rfl,h3,g4⟩:=All2_cons g3
 cases All2_nil g4
 obtain ⟨v0,rfl,_⟩:=Row_string Tryz.underlying9 h0
 obtain ⟨v1,rfl⟩:=of_StringS h1
 obtain ⟨v2,rfl⟩:=Row_bool Tryz.underlying4 h2
 obtain ⟨v3,rfl⟩:=of_LinS h3
 exact ⟨⟨v0,v1,v2,v3⟩,rfl⟩
theorem of_FunctionS {f:Nat} {r:List AV} (h:Row Tryz.prog (f+6) 22 r):∃ x:List DFunction,r=[.sl 4 (x.map rAFunction)]:=by
 obtain ⟨rows,rfl,_,hr⟩:=Row_slice Tryz.underlying22 h
 obtain ⟨l,rfl⟩:=list_of_rows (f:=rAFunction) (fun r h=>of_Function h) hr
 exact ⟨l,by rw [show Tryz.prog.cellsOf 182=4 by kernel_rfl]⟩
theorem of_Pattern {f:Nat} {r:List AV} (h:Row Tryz.prog (f+2) 278 r):∃ x:DPattern,r=rAPattern x:=by
 obtain ⟨parts,rfl,g0⟩:=Row_struct Tryz.underlying278 h
 obtain ⟨x0,m1,rfl,h0,g1⟩:=All2_cons g0
 obtain ⟨x1,m2,rfl,h1,g2⟩:=All2_cons g1
 obtain ⟨x2,m3,rfl,h2,g3⟩:=All2_cons g2
 obtain ⟨x3,m4,rfl,h3,g4⟩:=All2_cons g3
 cases All2_nil g4
 obtain ⟨v0,rfl,_⟩:=Row_string Tryz.underlying9 h0
 obtain ⟨v1,rfl⟩:=Row_bool Tryz.underlying4 h1
 obtain ⟨v2,rfl,_⟩:=Row_string Tryz.underlying9 h2
 obtain ⟨v3,rfl,_⟩:=Row_string Tryz.underlying9 h3
 exact ⟨⟨v0,v1,v2,v3⟩,rfl⟩
theorem of_PatternS {f:Nat} {r:List AV} (h:Row Tryz.prog (f+3) 184 r):∃ x:List DPattern,r=[.sl 4 (x.map rAPattern)]:=by
 obtain ⟨rows,rfl,_,hr⟩:=Row_slice Tryz.underlying184 h
 obtain ⟨l,rfl⟩:=list_of_rows (f:=rAPattern) (fun r h=>of_Pattern h) hr
 exact ⟨l,by rw [show Tryz.prog.cellsOf 278=4 by kernel_rfl]⟩
theorem of_Call {f:Nat} {r:List AV} (h:Row Tryz.prog (f+8) 286 r):∃ x:DCall,r=rACall x:=by
 obtain ⟨parts,rfl,g0⟩:=Row_struct Tryz.underlying286 h
 obtain ⟨x0,m1,rfl,h0,g1⟩:=All2_cons g0
 obtain ⟨x1,m2,rfl,h1,g2⟩:=All2_cons g1
 obtain ⟨x2,m3,rfl,h2,g3⟩:=All2_cons g2
 cases All2_nil g3
 obtain ⟨v0,rfl,_⟩:=Row_string Tryz.underlying9 h0
 obtain ⟨v1,rfl,_⟩:=Row_string Tryz.underlying9 h1
 obtain ⟨v2,rfl⟩:=of_ArgS h2
 exact ⟨⟨v0,v1,v2⟩,rfl⟩
theorem of_CallS {f:Nat} {r:List AV} (h:Row Tryz.prog (f+9) 186 r):∃ x:List DCall,r=[.sl 3 (x.map rACall)]:=by
 obtain ⟨rows,rfl,_,hr⟩:=Row_slice Tryz.underlying186 h
 obtain ⟨l,rfl⟩:=list_of_rows (f:=rACall) (fun r h=>of_Call h) hr
 exact ⟨l,by rw [show Tryz.prog.cellsOf 286=3 by kernel_rfl]⟩
theorem of_Rule {f:Nat} {r:List AV} (h:Row Tryz.prog (f+10) 190 r):∃ x:DRule,r=rARule x:=by
 obtain ⟨parts,rfl,g0⟩:=Row_struct Tryz.underlying190 h
 obtain ⟨x0,m1,rfl,h0,g1⟩:=All2_cons g0
 obtain ⟨x1,m2,rfl,h1,g2⟩:=All2_cons g1
 obtain ⟨x2,m3,rfl,h2,g3⟩:=All2_cons g2
 obtain ⟨x3,m4,rfl,h3,g4⟩:=All2_cons g3
 obtain ⟨x4,m5,rfl,h4,g5⟩:=All2_cons g4
 cases All2_nil g5
 obtain ⟨v0,rfl,_⟩:=Row_string Tryz.underlying9 h0
 obtain ⟨v1,rfl⟩:=of_PatternS h1
 obtain ⟨v2,rfl⟩:=of_SumS h2
 obtain ⟨v3,rfl⟩:=of_CallS h3
 obtain ⟨v4,rfl⟩:=of_Arg h4
 exact ⟨⟨v0,v1,v2,v3,v4⟩,rfl⟩
theorem of_RuleS {f:Nat} {r:List AV} (h:Row Tryz.prog (f+11) 23 r):∃ x:List DRule,r=[.sl 7 (x.map rARule)]:=by
 obtain ⟨rows,rfl,_,hr⟩:=Row_slice Tryz.underlying23 h
 obtain ⟨l,rfl⟩:=list_of_rows (f:=rARule) (fun r h=>of_Rule h) hr
 exact ⟨l,by rw [show Tryz.prog.cellsOf 190=7 by kernel_rfl]⟩
theorem of_Program {f:Nat} {r:List AV} (h:Row Tryz.prog (f+12) 25 r):∃ x:DProgram,r=rAProgram x:=by
 obtain ⟨parts,rfl,g0⟩:=Row_struct Tryz.underlying25 h
 obtain ⟨x0,m1,rfl,h0,g1⟩:=All2_cons g0
 obtain ⟨x1,m2,rfl,h1,g2⟩:=All2_cons g1
 cases All2_nil g2
 obtain ⟨v0,rfl⟩:=of_FunctionS h0
 obtain ⟨v1,rfl⟩:=of_RuleS h1
 exact ⟨⟨v0,v1⟩,rfl⟩
theorem arg_Program {f:Nat} {a:AV} (h:ArgOf Tryz.prog (f+12) 25 a):∃ x:DProgram,a = .agg (rAProgram x):=by
 obtain ⟨row,rfl,h1⟩:=ArgOf_struct Tryz.underlying25 h
 obtain ⟨x,rfl⟩:=of_Program h1
 exact ⟨x,rfl⟩
end Go.Proofs.YtilcageplifbgaaGreat

namespace Go.Proofs.YtilcageplifbgaaGreat
set_option linter.all false
open Go Go.RowKit Go.Proofs Go.ChangeShapes Go.WideShapes
theorem joinedFacts_of {P:Program} {f:FuncId} {fn:Func} {s:ChangeSpec} {c:OpenClaim} (k0:c.wf (OpenSpec.ofChange s)=true) (k1:laidOutB P=true) (k2:mapsRowed P=true) (k3:fn.params.all (P.readableRec ·)=true) (k4:namedTie P c.named s.vars=true) (k5:(c.stops==[])=true) (k6:(P.stops==[])=true) (k7:(c.knobs==[])=true) (k8:(P.stopKnobs==[])=true) (k9:(c.inPlace==P.inPlace f)=true) (k10:(c.unfollowed==P.unfollowed f)=true) (k11:(c.recurses==P.recurses f)=true) (k12:(c.named==P.varsNamed f)=true) (k13:(c.maps==(fn.params.toList++s.plain.varTypes P).any (P.mapsRec ·))=true) (k14:(c.ifaces==(fn.params.toList++s.plain.varTypes P).any (P.ifacesRec ·))=true) (k15:(c.mapsOut==P.mapsAmong fn.resultTypes.toList)=true) (k16:(c.loops==(fn.params.toList++s.plain.varTypes P).any (P.loopsFrom ·))=true) (k17:(c.wideKeys==(fn.params.toList++s.plain.varTypes P++fn.resultTypes.toList).any (P.wideKeysFrom ·))=true) (k18:s.vars.all (P.varReadable ·)=true) (k19:fn.resultTypes.all (fun t=>P.readableRec t&&decide (t<P.types.size))=true) (k20:(c.ifacesOut==fn.resultTypes.toList.any (P.ifacesRec ·))=true) (k21:(c.loopsOut==fn.resultTypes.toList.any (P.loopsFrom ·))=true) (k22:(c.plainKeys==P.plainKeys)=true) (k23:c.shortTexts.isNone=true) (k24:P.stopsHeard=true) (k25:P.mayEnter=true) (k26:(c.lifted==P.liftsFinal)=true) (k27:(P.make==some c.make)=true) (k28:(c.kinds==(if c.domain.isEmpty then [] else fn.params.toList.map fun t=>match P.underlying t with | some (.int k)=>some k | _=>none))=true) (k29:(c.pinned==c.pinnedBy)=true) (k30:(c.veiled==(fn.params.toList++s.plain.varTypes P++fn.resultTypes.toList).any (P.veiledRec ·))=true) (k31:c.veiledFits P fn.params.toList (fn.params.toList++s.plain.varTypes P++fn.resultTypes.toList)=true):joinedFacts P f fn s c=true:=by
 simp only [joinedFacts,Bool.and_eq_true]
 and_intros <;> assumption
set_option maxRecDepth 100000
theorem F_laid:laidOutB Tryz.pinned.checked.prog=true:=Tryz.laidOut
theorem F_maps:mapsRowed Tryz.pinned.checked.prog=true:=by kernel_rfl
theorem F_heard:Tryz.pinned.checked.prog.stopsHeard=true:=by kernel_rfl
theorem F_enter:Tryz.pinned.checked.prog.mayEnter=true:=by kernel_rfl
end Go.Proofs.YtilcageplifbgaaGreat

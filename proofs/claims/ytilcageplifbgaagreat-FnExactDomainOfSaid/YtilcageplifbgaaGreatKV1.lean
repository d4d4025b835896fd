/- Contracts: names. -/
import Derived.Test.YtilcageplifbgaaGreatKV0
namespace Go.Proofs.YtilcageplifbgaaGreat
set_option linter.all false
open Go Go.RowKit Go.Proofs
def a219 : AFn :=
⟨10, [(.t 2)], (.seq
 (.reg [⟨some 2, (.mv (.k (.bool false))), no⟩]) (.seq (.seq
 (.reg [⟨some 3, (.mv (.t 0)), no⟩]) (.blk 0 (.seq (.seq
 (.reg [⟨some 5, (.bin .eql (.t 3) (.k (.str [102, 117, 110]))), no⟩, ⟨some 4, (.mv (.t 5)), no⟩]) (.cond (.t 4) .skip (.seq
 (.reg [⟨some 6, (.bin .eql (.t 3) (.k (.str [112, 114, 101]))), no⟩, ⟨some 4, (.mv (.t 6)), no⟩]) (.cond (.t 4) .skip (.seq
 (.reg [⟨some 7, (.bin .eql (.t 3) (.k (.str [114, 117, 108, 101]))), no⟩, ⟨some 4, (.mv (.t 7)), no⟩]) (.cond (.t 4) .skip (.seq
 (.reg [⟨some 8, (.bin .eql (.t 3) (.k (.str [114, 101, 116, 117, 114, 110]))), no⟩, ⟨some 4, (.mv (.t 8)), no⟩]) (.cond (.t 4) .skip
 (.reg [⟨some 9, (.bin .eql (.t 3) (.k (.str [110, 105, 108]))), no⟩, ⟨some 4, (.mv (.t 9)), no⟩]))))))))) (.cond (.t 4) (.seq
 (.reg [⟨some 2, (.mv (.k (.bool true))), no⟩]) .ret) .skip)))) (.seq
 (.reg [⟨some 2, (.mv (.k (.bool false))), no⟩]) .ret)))⟩
theorem a219_ok : compFn Tryz.prog Tryz.f219 = some a219 := by kernel_rfl
def a239 : AFn :=
⟨18, [(.t 4)], (.seq
 (.reg [⟨some 4, (.mv (.k (.bool false))), no⟩]) (.seq (.seq
 (.reg [⟨some 5, (.mv (.k (.int .i64 0))), no⟩]) (.blk 0 (.loop (.seq (.seq
 (.reg [⟨some 6, (.mv (.t 5)), no⟩, ⟨some 7, (.mv (.t 0)), no⟩, ⟨some 8, (.len false (.t 7)), no⟩, ⟨some 9, (.bin .lss (.t 6) (.t 8)), no⟩]) (.cond (.t 9) .skip (.exit 0))) (.seq (.blk 1 (.seq
 (.reg [⟨some 12, (.mv (.t 0)), no⟩, ⟨some 13, (.mv (.t 5)), no⟩, ⟨some 14, (.ixa 1 (.t 12) (.t 13)), no⟩, ⟨some 15, (.ld false 1 (.t 14)), no⟩, ⟨some 16, (.mv (.t 1)), no⟩, ⟨some 17, (.bin .eql (.t 15) (.t 16)), no⟩]) (.cond (.t 17) (.seq
 (.reg [⟨some 4, (.mv (.k (.bool true))), no⟩]) .ret) .skip)))
 (.reg [⟨some 10, (.mv (.t 5)), no⟩, ⟨some 11, (.bin .add (.t 10) (.k (.int .i64 1))), no⟩, ⟨some 5, (.mv (.t 11)), no⟩])))))) (.seq
 (.reg [⟨some 4, (.mv (.k (.bool false))), no⟩]) .ret)))⟩
theorem a239_ok : compFn Tryz.prog Tryz.f239 = some a239 := by kernel_rfl
def a169 : AFn :=
⟨19, [(.t 4)], (.seq
 (.reg [⟨some 4, (.mv (.k (.int .i64 0))), no⟩]) (.seq (.seq
 (.reg [⟨some 6, (.mv (.t 0)), no⟩, ⟨some 7, (.len false (.t 6)), no⟩, ⟨some 8, (.mv (.k (.int .i64 0))), no⟩]) (.blk 0 (.loop (.seq
 (.reg [⟨some 9, (.bin .lss (.t 8) (.t 7)), no⟩]) (.seq (.cond (.t 9) .skip (.exit 0)) (.seq (.blk 1 (.seq
 (.reg [⟨some 10, (.mv (.t 8)), no⟩, ⟨some 5, (.mv (.t 10)), no⟩]) (.seq
 (.reg [⟨some 11, (.mv (.t 1)), no⟩, ⟨some 12, (.mv (.t 0)), no⟩, ⟨some 13, (.mv (.t 5)), no⟩, ⟨some 14, (.ixa 1 (.t 12) (.t 13)), no⟩, ⟨some 15, (.ld false 1 (.t 14)), no⟩, ⟨some 16, (.bin .eql (.t 11) (.t 15)), no⟩]) (.cond (.t 16) (.seq
 (.reg [⟨some 17, (.mv (.t 5)), no⟩, ⟨some 4, (.mv (.t 17)), no⟩]) .ret) .skip))))
 (.reg [⟨some 18, (.bin .add (.t 8) (.k (.int .i64 1))), no⟩, ⟨some 8, (.mv (.t 18)), no⟩]))))))) (.seq
 (.reg [⟨some 4, (.mv (.k (.int .i64 (-1)))), no⟩]) .ret)))⟩
theorem a169_ok : compFn Tryz.prog Tryz.f169 = some a169 := by kernel_rfl
def a81 : AFn :=
⟨9, [(.t 4)], (.seq
 (.reg [⟨some 4, (.mv (.k (.bool false))), no⟩]) (.seq
 (.reg [⟨some 5, (.mv (.t 0)), no⟩, ⟨some 6, (.mv (.t 1)), no⟩, ⟨some 7, (.call (.k (.fn (.func 169) [] [])) [(.t 5), (.t 6)]), no⟩, ⟨some 8, (.bin .geq (.t 7) (.k (.int .i64 0))), no⟩, ⟨some 4, (.mv (.t 8)), no⟩]) .ret))⟩
theorem a81_ok : compFn Tryz.prog Tryz.f81 = some a81 := by kernel_rfl
def a75 : AFn :=
⟨19, [(.t 4)], (.seq
 (.reg [⟨some 4, (.mv (.k (.int .i64 0))), no⟩]) (.seq (.seq
 (.reg [⟨some 5, (.mv (.k (.int .i64 0))), no⟩]) (.blk 0 (.loop (.seq (.seq
 (.reg [⟨some 6, (.mv (.t 5)), no⟩, ⟨some 7, (.mv (.t 0)), no⟩, ⟨some 8, (.len false (.t 7)), no⟩, ⟨some 9, (.bin .lss (.t 6) (.t 8)), no⟩]) (.cond (.t 9) .skip (.exit 0))) (.seq (.blk 1 (.seq
 (.reg [⟨some 12, (.mv (.t 0)), no⟩, ⟨some 13, (.mv (.t 5)), no⟩, ⟨some 14, (.ixa 1 (.t 12) (.t 13)), no⟩, ⟨some 15, (.ld false 1 (.t 14)), no⟩, ⟨some 16, (.mv (.t 1)), no⟩, ⟨some 17, (.bin .eql (.t 15) (.t 16)), no⟩]) (.cond (.t 17) (.seq
 (.reg [⟨some 18, (.mv (.t 5)), no⟩, ⟨some 4, (.mv (.t 18)), no⟩]) .ret) .skip)))
 (.reg [⟨some 10, (.mv (.t 5)), no⟩, ⟨some 11, (.bin .add (.t 10) (.k (.int .i64 1))), no⟩, ⟨some 5, (.mv (.t 11)), no⟩])))))) (.seq
 (.reg [⟨some 4, (.mv (.k (.int .i64 (-1)))), no⟩]) .ret)))⟩
theorem a75_ok : compFn Tryz.prog Tryz.f75 = some a75 := by kernel_rfl
def a295 : AFn :=
⟨2, [(.t 0)], (.seq
 (.reg [⟨some 0, (.mv (.k (.nil 1))), no⟩]) (.seq
 (.reg [⟨some 1, (.bsl 1 [(.k (.str [102, 117, 110])), (.k (.str [112, 114, 101])), (.k (.str [114, 117, 108, 101])), (.k (.str [114, 101, 116, 117, 114, 110])), (.k (.str [110, 105, 108]))]), no⟩, ⟨some 0, (.mv (.t 1)), no⟩]) .ret))⟩
theorem a295_ok : compFn Tryz.prog Tryz.f295 = some a295 := by kernel_rfl
def a271 : AFn :=
⟨6, [(.t 2)], (.seq
 (.reg [⟨some 2, (.mv (.k (.bool false))), no⟩]) (.seq
 (.reg [⟨some 3, (.call (.k (.fn (.func 295) [] [])) []), no⟩, ⟨some 4, (.mv (.t 0)), no⟩, ⟨some 5, (.call (.k (.fn (.func 239) [] [])) [(.t 3), (.t 4)]), no⟩, ⟨some 2, (.mv (.t 5)), no⟩]) .ret))⟩
theorem a271_ok : compFn Tryz.prog Tryz.f271 = some a271 := by kernel_rfl
def a152 : AFn :=
⟨50, [(.t 2)], (.seq
 (.reg [⟨some 2, (.mv (.k (.bool false))), no⟩]) (.seq (.seq
 (.reg [⟨some 6, (.mv (.t 0)), no⟩, ⟨some 7, (.len true (.t 6)), no⟩, ⟨some 8, (.call (.k (.fn (.func 98) [] [])) [(.t 7), (.k (.int .i64 1)), (.k (.int .i64 8))]), no⟩, ⟨some 9, (.un .not (.t 8)), no⟩, ⟨some 10, (.mv (.t 9)), no⟩, ⟨some 11, (.mv (.t 0)), (some (10, false))⟩, ⟨some 12, (.call (.k (.fn (.func 219) [] [])) [(.t 11)]), (some (10, false))⟩, ⟨some 13, (.pick (.t 10) (.k (.bool true)) (.t 12)), no⟩]) (.cond (.t 13) (.seq
 (.reg [⟨some 2, (.mv (.k (.bool false))), no⟩]) .ret) .skip)) (.seq (.seq
 (.reg [⟨some 3, (.mv (.k (.int .i64 0))), no⟩]) (.blk 0 (.loop (.seq (.seq
 (.reg [⟨some 14, (.mv (.t 3)), no⟩, ⟨some 15, (.mv (.t 0)), no⟩, ⟨some 16, (.len true (.t 15)), no⟩, ⟨some 17, (.bin .lss (.t 14) (.t 16)), no⟩]) (.cond (.t 17) .skip (.exit 0))) (.seq (.blk 1 (.seq
 (.reg [⟨some 20, (.mv (.t 0)), no⟩, ⟨some 21, (.mv (.t 3)), no⟩, ⟨some 22, (.ixs (.t 20) (.t 21)), no⟩, ⟨some 23, (.bin .geq (.t 22) (.k (.int .u8 97))), no⟩, ⟨some 24, (.mv (.t 23)), no⟩, ⟨some 25, (.mv (.t 0)), (some (24, true))⟩, ⟨some 26, (.mv (.t 3)), (some (24, true))⟩, ⟨some 27, (.ixs (.t 25) (.t 26)), (some (24, true))⟩, ⟨some 28, (.bin .leq (.t 27) (.k (.int .u8 122))), (some (24, true))⟩, ⟨some 29, (.pick (.t 24) (.t 28) (.k (.bool false))), no⟩, ⟨some 4, (.mv (.t 29)), no⟩]) (.seq
 (.reg [⟨some 30, (.mv (.t 0)), no⟩, ⟨some 31, (.mv (.t 3)), no⟩, ⟨some 32, (.ixs (.t 30) (.t 31)), no⟩, ⟨some 33, (.bin .geq (.t 32) (.k (.int .u8 48))), no⟩, ⟨some 34, (.mv (.t 33)), no⟩, ⟨some 35, (.mv (.t 0)), (some (34, true))⟩, ⟨some 36, (.mv (.t 3)), (some (34, true))⟩, ⟨some 37, (.ixs (.t 35) (.t 36)), (some (34, true))⟩, ⟨some 38, (.bin .leq (.t 37) (.k (.int .u8 57))), (some (34, true))⟩, ⟨some 39, (.pick (.t 34) (.t 38) (.k (.bool false))), no⟩, ⟨some 5, (.mv (.t 39)), no⟩]) (.seq
 (.reg [⟨some 40, (.mv (.t 4)), no⟩, ⟨some 41, (.un .not (.t 40)), no⟩, ⟨some 42, (.mv (.t 41)), no⟩, ⟨some 43, (.mv (.t 5)), (some (42, true))⟩, ⟨some 44, (.mv (.t 43)), (some (42, true))⟩, ⟨some 45, (.mv (.t 3)), (some (44, true))⟩, ⟨some 46, (.bin .gtr (.t 45) (.k (.int .i64 0))), (some (44, true))⟩, ⟨some 47, (.pick (.t 44) (.t 46) (.k (.bool false))), (some (42, true))⟩, ⟨some 48, (.un .not (.t 47)), (some (42, true))⟩, ⟨some 49, (.pick (.t 42) (.t 48) (.k (.bool false))), no⟩]) (.cond (.t 49) (.seq
 (.reg [⟨some 2, (.mv (.k (.bool false))), no⟩]) .ret) .skip)))))
 (.reg [⟨some 18, (.mv (.t 3)), no⟩, ⟨some 19, (.bin .add (.t 18) (.k (.int .i64 1))), no⟩, ⟨some 3, (.mv (.t 19)), no⟩])))))) (.seq
 (.reg [⟨some 2, (.mv (.k (.bool true))), no⟩]) .ret))))⟩
theorem a152_ok : compFn Tryz.prog Tryz.f152 = some a152 := by kernel_rfl
def a270 : AFn :=
⟨45, [(.t 2)], (.seq
 (.reg [⟨some 2, (.mv (.k (.bool false))), no⟩]) (.seq (.seq
 (.reg [⟨some 3, (.mv (.k (.int .i64 0))), no⟩]) (.blk 0 (.loop (.seq (.seq
 (.reg [⟨some 6, (.mv (.t 3)), no⟩, ⟨some 7, (.mv (.t 0)), no⟩, ⟨some 8, (.len true (.t 7)), no⟩, ⟨some 9, (.bin .lss (.t 6) (.t 8)), no⟩]) (.cond (.t 9) .skip (.exit 0))) (.seq (.blk 1 (.seq
 (.reg [⟨some 12, (.mv (.t 0)), no⟩, ⟨some 13, (.mv (.t 3)), no⟩, ⟨some 14, (.ixs (.t 12) (.t 13)), no⟩, ⟨some 15, (.bin .geq (.t 14) (.k (.int .u8 97))), no⟩, ⟨some 16, (.mv (.t 15)), no⟩, ⟨some 17, (.mv (.t 0)), (some (16, true))⟩, ⟨some 18, (.mv (.t 3)), (some (16, true))⟩, ⟨some 19, (.ixs (.t 17) (.t 18)), (some (16, true))⟩, ⟨some 20, (.bin .leq (.t 19) (.k (.int .u8 122))), (some (16, true))⟩, ⟨some 21, (.pick (.t 16) (.t 20) (.k (.bool false))), no⟩, ⟨some 4, (.mv (.t 21)), no⟩]) (.seq
 (.reg [⟨some 22, (.mv (.t 0)), no⟩, ⟨some 23, (.mv (.t 3)), no⟩, ⟨some 24, (.ixs (.t 22) (.t 23)), no⟩, ⟨some 25, (.bin .geq (.t 24) (.k (.int .u8 48))), no⟩, ⟨some 26, (.mv (.t 25)), no⟩, ⟨some 27, (.mv (.t 0)), (some (26, true))⟩, ⟨some 28, (.mv (.t 3)), (some (26, true))⟩, ⟨some 29, (.ixs (.t 27) (.t 28)), (some (26, true))⟩, ⟨some 30, (.bin .leq (.t 29) (.k (.int .u8 57))), (some (26, true))⟩, ⟨some 31, (.pick (.t 26) (.t 30) (.k (.bool false))), no⟩, ⟨some 5, (.mv (.t 31)), no⟩]) (.seq
 (.reg [⟨some 32, (.mv (.t 4)), no⟩, ⟨some 33, (.un .not (.t 32)), no⟩, ⟨some 34, (.mv (.t 33)), no⟩, ⟨some 35, (.mv (.t 3)), (some (34, true))⟩, ⟨some 36, (.bin .eql (.t 35) (.k (.int .i64 0))), (some (34, true))⟩, ⟨some 37, (.mv (.t 36)), (some (34, true))⟩, ⟨some 38, (.mv (.t 5)), (some (37, false))⟩, ⟨some 39, (.un .not (.t 38)), (some (37, false))⟩, ⟨some 40, (.pick (.t 37) (.k (.bool true)) (.t 39)), (some (34, true))⟩, ⟨some 41, (.pick (.t 34) (.t 40) (.k (.bool false))), no⟩]) (.cond (.t 41) (.seq
 (.reg [⟨some 2, (.mv (.k (.bool false))), no⟩]) .ret) .skip)))))
 (.reg [⟨some 10, (.mv (.t 3)), no⟩, ⟨some 11, (.bin .add (.t 10) (.k (.int .i64 1))), no⟩, ⟨some 3, (.mv (.t 11)), no⟩])))))) (.seq
 (.reg [⟨some 42, (.mv (.t 0)), no⟩, ⟨some 43, (.len true (.t 42)), no⟩, ⟨some 44, (.bin .gtr (.t 43) (.k (.int .i64 0))), no⟩, ⟨some 2, (.mv (.t 44)), no⟩]) .ret)))⟩
theorem a270_ok : compFn Tryz.prog Tryz.f270 = some a270 := by kernel_rfl
def a212 : AFn :=
⟨15, [(.t 2)], (.seq
 (.reg [⟨some 2, (.mv (.k (.bool false))), no⟩]) (.seq
 (.reg [⟨some 3, (.mv (.t 0)), no⟩, ⟨some 4, (.call (.k (.fn (.func 270) [] [])) [(.t 3)]), no⟩, ⟨some 5, (.mv (.t 4)), no⟩, ⟨some 6, (.mv (.t 0)), (some (5, true))⟩, ⟨some 7, (.len true (.t 6)), (some (5, true))⟩, ⟨some 8, (.bin .leq (.t 7) (.k (.int .i64 8))), (some (5, true))⟩, ⟨some 9, (.pick (.t 5) (.t 8) (.k (.bool false))), no⟩, ⟨some 10, (.mv (.t 9)), no⟩, ⟨some 11, (.mv (.t 0)), (some (10, true))⟩, ⟨some 12, (.call (.k (.fn (.func 271) [] [])) [(.t 11)]), (some (10, true))⟩, ⟨some 13, (.un .not (.t 12)), (some (10, true))⟩, ⟨some 14, (.pick (.t 10) (.t 13) (.k (.bool false))), no⟩, ⟨some 2, (.mv (.t 14)), no⟩]) .ret))⟩
theorem a212_ok : compFn Tryz.prog Tryz.f212 = some a212 := by kernel_rfl
def a64 : AFn :=
⟨13, [(.t 2)], (.seq
 (.reg [⟨some 2, (.mv (.k (.bool false))), no⟩]) (.seq
 (.reg [⟨some 3, (.mv (.t 0)), no⟩, ⟨some 4, (.call (.k (.fn (.func 152) [] [])) [(.t 3)]), no⟩, ⟨some 5, (.mv (.t 4)), no⟩, ⟨some 6, (.mv (.t 0)), (some (5, true))⟩, ⟨some 7, (.mv (.t 0)), (some (5, true))⟩, ⟨some 8, (.len true (.t 7)), (some (5, true))⟩, ⟨some 9, (.bin .sub (.t 8) (.k (.int .i64 1))), (some (5, true))⟩, ⟨some 10, (.ixs (.t 6) (.t 9)), (some (5, true))⟩, ⟨some 11, (.bin .eql (.t 10) (.k (.int .u8 115))), (some (5, true))⟩, ⟨some 12, (.pick (.t 5) (.t 11) (.k (.bool false))), no⟩, ⟨some 2, (.mv (.t 12)), no⟩]) .ret))⟩
theorem a64_ok : compFn Tryz.prog Tryz.f64 = some a64 := by kernel_rfl
def a149 : AFn :=
⟨10, [(.t 2)], (.seq
 (.reg [⟨some 2, (.mv (.k (.bool false))), no⟩]) (.seq
 (.reg [⟨some 3, (.mv (.t 0)), no⟩, ⟨some 4, (.call (.k (.fn (.func 152) [] [])) [(.t 3)]), no⟩, ⟨some 5, (.mv (.t 4)), no⟩, ⟨some 6, (.mv (.t 0)), (some (5, true))⟩, ⟨some 7, (.call (.k (.fn (.func 64) [] [])) [(.t 6)]), (some (5, true))⟩, ⟨some 8, (.un .not (.t 7)), (some (5, true))⟩, ⟨some 9, (.pick (.t 5) (.t 8) (.k (.bool false))), no⟩, ⟨some 2, (.mv (.t 9)), no⟩]) .ret))⟩
theorem a149_ok : compFn Tryz.prog Tryz.f149 = some a149 := by kernel_rfl
def a143 : AFn :=
⟨13, [(.t 2)], (.seq
 (.reg [⟨some 2, (.mv (.k (.bool false))), no⟩]) (.seq
 (.reg [⟨some 3, (.mv (.t 0)), no⟩, ⟨some 4, (.call (.k (.fn (.func 212) [] [])) [(.t 3)]), no⟩, ⟨some 5, (.mv (.t 4)), no⟩, ⟨some 6, (.mv (.t 0)), (some (5, true))⟩, ⟨some 7, (.mv (.t 0)), (some (5, true))⟩, ⟨some 8, (.len true (.t 7)), (some (5, true))⟩, ⟨some 9, (.bin .sub (.t 8) (.k (.int .i64 1))), (some (5, true))⟩, ⟨some 10, (.ixs (.t 6) (.t 9)), (some (5, true))⟩, ⟨some 11, (.bin .eql (.t 10) (.k (.int .u8 115))), (some (5, true))⟩, ⟨some 12, (.pick (.t 5) (.t 11) (.k (.bool false))), no⟩, ⟨some 2, (.mv (.t 12)), no⟩]) .ret))⟩
theorem a143_ok : compFn Tryz.prog Tryz.f143 = some a143 := by kernel_rfl
def a204 : AFn :=
⟨10, [(.t 2)], (.seq
 (.reg [⟨some 2, (.mv (.k (.bool false))), no⟩]) (.seq
 (.reg [⟨some 3, (.mv (.t 0)), no⟩, ⟨some 4, (.call (.k (.fn (.func 212) [] [])) [(.t 3)]), no⟩, ⟨some 5, (.mv (.t 4)), no⟩, ⟨some 6, (.mv (.t 0)), (some (5, true))⟩, ⟨some 7, (.call (.k (.fn (.func 143) [] [])) [(.t 6)]), (some (5, true))⟩, ⟨some 8, (.un .not (.t 7)), (some (5, true))⟩, ⟨some 9, (.pick (.t 5) (.t 8) (.k (.bool false))), no⟩, ⟨some 2, (.mv (.t 9)), no⟩]) .ret))⟩
theorem a204_ok : compFn Tryz.prog Tryz.f204 = some a204 := by kernel_rfl
theorem k_IsReserved (s : Str) : Holds Tryz.prog 219 [.str s] (fun r => r = .bool (resv s)) := by
  by_cases e1 : s = [102, 117, 110]
  · subst e1
    refine holds_of_run Tryz.func219 a219_ok rfl (by simp [a219]) ?_
    simp [a219, resv, hasS, resvL]
  by_cases e2 : s = [112, 114, 101]
  · subst e2
    refine holds_of_run Tryz.func219 a219_ok rfl (by simp [a219]) ?_
    simp [a219, resv, hasS, resvL]
  by_cases e3 : s = [114, 117, 108, 101]
  · subst e3
    refine holds_of_run Tryz.func219 a219_ok rfl (by simp [a219]) ?_
    simp [a219, resv, hasS, resvL]
  by_cases e4 : s = [114, 101, 116, 117, 114, 110]
  · subst e4
    refine holds_of_run Tryz.func219 a219_ok rfl (by simp [a219]) ?_
    simp [a219, resv, hasS, resvL]
  by_cases e5 : s = [110, 105, 108]
  · subst e5
    refine holds_of_run Tryz.func219 a219_ok rfl (by simp [a219]) ?_
    simp [a219, resv, hasS, resvL]
  have hr : resv s = false := by simp [resv, hasS, resvL, Ne.symm e1, Ne.symm e2, Ne.symm e3, Ne.symm e4, Ne.symm e5]
  rw [hr]
  refine holds_of_run Tryz.func219 a219_ok rfl (by simp [a219]) ?_
  simp [a219, e1, e2, e3, e4, e5]
theorem hasS_drop {l : List Str} {s : Str} {i : Nat} (hi : i < l.length) : hasS (l.drop i) s = ((l[i] == s) || hasS (l.drop (i + 1)) s) := by
  rw [List.drop_eq_getElem_cons hi]; rfl
theorem ks_l1Has (l : List Str) (s : Str) : Holds Tryz.prog 239 [.sl 1 (strsR l), .str s] (fun r => r = .bool (hasS l s)) := by
  refine holds_of_lim Tryz.func239 rfl rfl fun hl => ?_
  simp at hl
  refine holds_of_run Tryz.func239 a239_ok rfl (by simp [a239]) ?_
  simp [a239]
  generalize hB : hasS l s = B
  refine rL_forS [0, 1] 5 l.length (fun i _ => hasS (l.drop i) s = B) hl.1 (by simp) (by simpa using hB) ?_ ?_
  · rintro i st h R hi hg hk s5 hw hJ hh hR hret _
    simp at hk
    rw [hasS_drop hi] at hJ
    simp [hk, s5, hi, hg]
    intro _
    by_cases hx : l[i] = s
    · simp [hx] at hJ
      simp [hx]
      refine hret _ _ _ ?_
      simp [hJ]
    · have : (l[i] == s) = false := by simpa using hx
      rw [this, Bool.false_or] at hJ
      simp [hx, hk, s5, hw]
      exact hR _ (by simp [hk]) (by simp) hJ
  · rintro st h R hk s5 hJ hh _ hX
    simp at hk
    rw [List.drop_eq_nil_of_le (by omega)] at hJ
    simp [hk, s5]
    intro _
    refine hX _ _ ?_
    simp [← hJ, hasS]
theorem k_Index (l : List Str) (s : Str) : Holds Tryz.prog 169 [.sl 1 (strsR l), .str s] (fun r => r = i64 (idxFrom (fun x => x == s) l 0)) := by
  refine holds_of_lim Tryz.func169 rfl rfl fun hl => ?_
  simp at hl
  refine holds_of_run Tryz.func169 a169_ok rfl (by simp [a169]) ?_
  simp [a169]
  intro _
  generalize hB : idxFrom (fun x => x == s) l 0 = B
  refine rL_forS [0, 1, 7] 8 l.length (fun i _ => idxFrom (fun x => x == s) (l.drop i) i = B) hl.1 (by simp) (by simpa using hB) ?_ ?_
  · rintro i st h R hi hg hk s8 hw hJ hh hR hret _
    simp at hk
    rw [List.drop_eq_getElem_cons hi] at hJ
    simp only [idxFrom] at hJ
    simp [hk, s8, hi, hg]
    by_cases hx : s = l[i]
    · rw [if_pos (by simp [hx])] at hJ
      simp [hx]
      refine hret _ _ _ ?_
      simp [hJ]
    · rw [if_neg (by simpa using fun h => hx h.symm)] at hJ
      simp [hx, hk, s8, hw]
      exact hR _ (by simp [hk]) (by simp) hJ
  · rintro st h R hk s8 hJ hh _ hX
    simp at hk
    rw [List.drop_eq_nil_of_le (by omega)] at hJ
    simp [hk, s8]
    refine hX _ _ ?_
    simp [← hJ, idxFrom]
theorem k_Contains (l : List Str) (s : Str) : Holds Tryz.prog 81 [.sl 1 (strsR l), .str s] (fun r => r = .bool (hasS l s)) := by
  refine holds_of_run Tryz.func81 a81_ok rfl (by simp [a81]) ?_
  simp [a81]
  first | refine callD_of (k_Index l s) (by simp) ?_ | refine call_of (k_Index l s) (by simp) ?_ | refine callD_of (k_Index l s) rfl ?_ | refine call_of (k_Index l s) rfl ?_
  rintro r rfl
  have := idxFrom_any (p := fun x => x == s) (l := l) (i := 0)
  simp only [ge_iff_le] at this
  simp [this, hasS]
theorem ks_IndexOf (l : List Str) (s : Str) : Holds Tryz.prog 75 [.sl 1 (strsR l), .str s] (fun r => r = i64 (idxFrom (fun x => x == s) l 0)) := by
  refine holds_of_lim Tryz.func75 rfl rfl fun hl => ?_
  simp at hl
  refine holds_of_run Tryz.func75 a75_ok rfl (by simp [a75]) ?_
  simp [a75]
  generalize hB : idxFrom (fun x => x == s) l 0 = B
  refine rL_forS [0, 1] 5 l.length (fun i _ => idxFrom (fun x => x == s) (l.drop i) i = B) hl.1 (by simp) (by simpa using hB) ?_ ?_
  · rintro i st h R hi hg hk s5 hw hJ hh hR hret _
    simp at hk
    rw [List.drop_eq_getElem_cons hi] at hJ
    simp only [idxFrom] at hJ
    simp [hk, s5, hi, hg]
    intro _
    by_cases hx : l[i] = s
    · rw [if_pos (by simp [hx])] at hJ
      simp [hx, s5]
      refine hret _ _ _ ?_
      simp [hJ]
    · rw [if_neg (by simpa using hx)] at hJ
      simp [hx, hk, s5, hw]
      exact hR _ (by simp [hk]) (by simp) hJ
  · rintro st h R hk s5 hJ hh _ hX
    simp at hk
    rw [List.drop_eq_nil_of_le (by omega)] at hJ
    simp [hk, s5]
    intro _
    refine hX _ _ ?_
    simp [← hJ, idxFrom]
theorem ks_l2Reserved : Holds Tryz.prog 295 [] (fun r => r = .us 1 (strsR resvL)) := by
  refine holds_of_run Tryz.func295 a295_ok rfl (by simp [a295]) ?_
  simp [a295]
  simp [strsR, resvL]
theorem ks_IsReserved (s : Str) : Holds Tryz.prog 271 [.str s] (fun r => r = .bool (resv s)) := by
  refine holds_of_run Tryz.func271 a271_ok rfl (by simp [a271]) ?_
  simp [a271]
  first | refine callD_of (ks_l2Reserved) (by simp) ?_ | refine call_of (ks_l2Reserved) (by simp) ?_ | refine callD_of (ks_l2Reserved) rfl ?_ | refine call_of (ks_l2Reserved) rfl ?_
  rintro r rfl
  simp
  first | refine callD_of (ks_l1Has resvL s) (by simp) ?_ | refine call_of (ks_l1Has resvL s) (by simp) ?_ | refine callD_of (ks_l1Has resvL s) rfl ?_ | refine call_of (ks_l1Has resvL s) rfl ?_
  rintro r rfl
  simp [resv]
theorem shape_drop {s : Str} {i : Nat} (hi : i < s.length) : shapeFrom i (s.drop i) = ((letterB s[i] || (decide (i ≠ 0) && digitB s[i])) && shapeFrom (i + 1) (s.drop (i + 1))) := by
  rw [List.drop_eq_getElem_cons hi]; rfl
set_option maxRecDepth 20000 in
theorem k_IsValidName (s : Str) : Holds Tryz.prog 152 [.str s] (fun r => r = .bool (okName s)) := by
  refine holds_of_run Tryz.func152 a152_ok rfl (by simp [a152]) ?_
  simp [a152]
  intro hl
  first | refine callD_of (k_within s.length 1 8) (by simp) ?_ | refine call_of (k_within s.length 1 8) (by simp) ?_ | refine callD_of (k_within s.length 1 8) rfl ?_ | refine call_of (k_within s.length 1 8) rfl ?_
  rintro r rfl
  unfold okName
  cases h1 : inR s.length 1 8
  · simp
  simp
  first | refine callD_of (k_IsReserved s) (by simp) ?_ | refine call_of (k_IsReserved s) (by simp) ?_ | refine callD_of (k_IsReserved s) rfl ?_ | refine call_of (k_IsReserved s) rfl ?_
  rintro r rfl
  cases h2 : resv s
  case true => simp
  simp
  generalize hB : shapeFrom 0 s = B
  refine rL_forS [0] 3 s.length (fun i _ => shapeFrom i (s.drop i) = B) hl (by simp) (by simpa using hB) ?_ ?_
  · rintro i st h R hi hg hk s3 hw hJ hh hR hret _
    simp at hk
    rw [shape_drop hi] at hJ
    have hgd : s[i]?.getD 0 = s[i] := by simp [hi]
    unfold letterB digitB at hJ
    obtain ⟨m, hm⟩ : ∃ m : Int, ((s[i]).toNat : Int) = m := ⟨_, rfl⟩
    rw [hm] at hJ
    refine rC_cut [0, 3] (fun _ => True) (by simp [hk, s3, hi]) ?_
    intro s1 hk1 _
    simp at hk1
    refine rC_seqI (rC_blkI (rC_cut [0, 3] (fun s => s 4 = .bool (decide (97 ≤ m) && decide (m ≤ 122))) ?_ ?_))
    · by_cases u1 : 97 ≤ m <;> by_cases u2 : m ≤ 122 <;> simp [hk, s3, hk1, hi, hgd, hm, u1, u2]
    intro s2 hk2 s4
    simp at hk2
    refine rC_cut [0, 3, 4] (fun s => s 5 = .bool (decide (48 ≤ m) && decide (m ≤ 57))) ?_ ?_
    · by_cases u1 : 48 ≤ m <;> by_cases u2 : m ≤ 57 <;> simp [hk, s3, hk1, hk2, hi, hgd, hm, u1, u2]
    intro s5 hk5 s55
    simp at hk5
    generalize (decide (97 ≤ m) && decide (m ≤ 122)) = L at *
    generalize (decide (48 ≤ m) && decide (m ≤ 57)) = D at *
    cases L
    · cases D
      · rw [Bool.and_false, Bool.or_false, Bool.false_and] at hJ
        simp [hk, s3, hk1, hk2, hk5, s4, s55]
        refine hret _ _ _ ?_
        simp [hJ]
      · by_cases h0 : i = 0
        · subst h0
          simp at hJ
          simp [hk, s3, hk1, hk2, hk5, s4, s55]
          refine hret _ _ _ ?_
          simp [hJ]
        · simp [h0] at hJ
          simp [hk, s3, hk1, hk2, hk5, s4, s55, hw, (by omega : 0 < i)]
          exact hR _ (by simp [hk, hk1, hk2, hk5]) (by simp) hJ
    · simp at hJ
      simp [hk, s3, hk1, hk2, hk5, s4, s55, hw]
      exact hR _ (by simp [hk, hk1, hk2, hk5]) (by simp) hJ
  · rintro st h R hk s3 hJ hh _ hX
    simp at hk
    rw [List.drop_eq_nil_of_le (by omega)] at hJ
    simp [hk, s3]
    intro _
    refine hX _ _ ?_
    simp [← hJ, shapeFrom]
set_option maxRecDepth 20000 in
set_option maxHeartbeats 1000000 in
theorem ks_l2Shape (s : Str) : Holds Tryz.prog 270 [.str s] (fun r => r = .bool (shapeFrom 0 s && decide (0 < s.length))) := by
  refine holds_of_lim Tryz.func270 rfl rfl fun hl => ?_
  simp at hl
  refine holds_of_run Tryz.func270 a270_ok rfl (by simp [a270]) ?_
  simp [a270]
  generalize hB : shapeFrom 0 s = B
  refine rL_forS [0] 3 s.length (fun i _ => shapeFrom i (s.drop i) = B) hl (by simp) (by simpa using hB) ?_ ?_
  · rintro i st h R hi hg hk s3 hw hJ hh hR hret _
    simp at hk
    rw [shape_drop hi] at hJ
    have hgd : s[i]?.getD 0 = s[i] := by simp [hi]
    unfold letterB digitB at hJ
    obtain ⟨m, hm⟩ : ∃ m : Int, ((s[i]).toNat : Int) = m := ⟨_, rfl⟩
    rw [hm] at hJ
    refine rC_cut [0, 3] (fun _ => True) (by simp [hk, s3, hi]) ?_
    intro s1 hk1 _
    simp at hk1
    refine rC_seqI (rC_blkI (rC_cut [0, 3] (fun s => s 4 = .bool (decide (97 ≤ m) && decide (m ≤ 122))) ?_ ?_))
    · by_cases u1 : 97 ≤ m <;> by_cases u2 : m ≤ 122 <;> simp [hk, s3, hk1, hi, hgd, hm, u1, u2]
    intro s2 hk2 s4
    simp at hk2
    refine rC_cut [0, 3, 4] (fun s => s 5 = .bool (decide (48 ≤ m) && decide (m ≤ 57))) ?_ ?_
    · by_cases u1 : 48 ≤ m <;> by_cases u2 : m ≤ 57 <;> simp [hk, s3, hk1, hk2, hi, hgd, hm, u1, u2]
    intro s5 hk5 s55
    simp at hk5
    generalize (decide (97 ≤ m) && decide (m ≤ 122)) = L at *
    generalize (decide (48 ≤ m) && decide (m ≤ 57)) = D at *
    cases L
    · cases D
      · rw [Bool.and_false, Bool.or_false, Bool.false_and] at hJ
        subst hJ
        by_cases h0 : i = 0
        · subst h0
          simp [hk, s3, hk1, hk2, hk5, s4, s55]
          refine hret _ _ _ ?_
          simp
        · simp [hk, s3, hk1, hk2, hk5, s4, s55, h0]
          refine hret _ _ _ ?_
          simp
      · by_cases h0 : i = 0
        · subst h0
          simp at hJ
          subst hJ
          simp [hk, s3, hk1, hk2, hk5, s4, s55]
          refine hret _ _ _ ?_
          simp
        · simp [h0] at hJ
          simp [hk, s3, hk1, hk2, hk5, s4, s55, hw, h0]
          exact hR _ (by simp [hk, hk1, hk2, hk5]) (by simp) hJ
    · simp at hJ
      simp [hk, s3, hk1, hk2, hk5, s4, s55, hw]
      exact hR _ (by simp [hk, hk1, hk2, hk5]) (by simp) hJ
  · rintro st h R hk s3 hJ hh _ hX
    simp at hk
    rw [List.drop_eq_nil_of_le (by omega)] at hJ
    refine rC_cut [] (fun _ => False) ?_ (fun _ _ h => h.elim)
    simp [hk, s3]
    intro _
    refine hX _ _ ?_
    subst hJ
    simp [hk, shapeFrom]
theorem ks_IsValidName (s : Str) : Holds Tryz.prog 212 [.str s] (fun r => r = .bool (okName s)) := by
  refine holds_of_run Tryz.func212 a212_ok rfl (by simp [a212]) ?_
  simp [a212]
  first | refine callD_of (ks_l2Shape s) (by simp) ?_ | refine call_of (ks_l2Shape s) (by simp) ?_ | refine callD_of (ks_l2Shape s) rfl ?_ | refine call_of (ks_l2Shape s) rfl ?_
  rintro r rfl
  unfold okName inR
  cases h1 : shapeFrom 0 s
  · simp
  by_cases h2 : 0 < s.length
  case neg =>
    have : s.length = 0 := by omega
    simp [this]
  have h2' : (1 : Int) ≤ s.length := by omega
  simp [h2, h2']
  intro _
  by_cases h3 : s.length ≤ 8
  case neg =>
    have h3' : ¬ (s.length : Int) ≤ 8 := by omega
    simp [h3, h3']
  have h3' : (s.length : Int) ≤ 8 := by omega
  simp [h3, h3', Int.not_lt.2 h3']
  first | refine callD_of (ks_IsReserved s) (by simp) ?_ | refine call_of (ks_IsReserved s) (by simp) ?_ | refine callD_of (ks_IsReserved s) rfl ?_ | refine call_of (ks_IsReserved s) rfl ?_
  rintro r rfl
  simp
theorem beq115 (c : UInt8) : ((c.toNat : Int) == 115) = (c == 115) := by
  rw [Bool.eq_iff_iff]
  simp only [beq_iff_eq]
  constructor
  · intro h
    exact UInt8.toNat_inj.1 (by simp; omega)
  · rintro rfl
    rfl
theorem k_IsListName (s : Str) : Holds Tryz.prog 64 [.str s] (fun r => r = .bool (listName s)) := by
  refine holds_of_run Tryz.func64 a64_ok rfl (by simp [a64]) ?_
  simp [a64]
  first | refine callD_of (k_IsValidName s) (by simp) ?_ | refine call_of (k_IsValidName s) (by simp) ?_ | refine callD_of (k_IsValidName s) rfl ?_ | refine call_of (k_IsValidName s) rfl ?_
  rintro r rfl
  unfold listName
  cases h1 : okName s
  · simp
  obtain ⟨h2, h3⟩ := okName_len h1
  simp
  intro _
  rw [wrap64 (by omega)]
  have e : ((s.length : Int) - 1).toNat = s.length - 1 := by omega
  simp [e]
  refine ⟨by omega, by omega, ?_⟩
  exact beq115 _
theorem k_isIntName (s : Str) : Holds Tryz.prog 149 [.str s] (fun r => r = .bool (intName s)) := by
  refine holds_of_run Tryz.func149 a149_ok rfl (by simp [a149]) ?_
  simp [a149]
  first | refine callD_of (k_IsValidName s) (by simp) ?_ | refine call_of (k_IsValidName s) (by simp) ?_ | refine callD_of (k_IsValidName s) rfl ?_ | refine call_of (k_IsValidName s) rfl ?_
  rintro r rfl
  unfold intName
  cases h1 : okName s
  · simp
  simp
  first | refine callD_of (k_IsListName s) (by simp) ?_ | refine call_of (k_IsListName s) (by simp) ?_ | refine callD_of (k_IsListName s) rfl ?_ | refine call_of (k_IsListName s) rfl ?_
  rintro r rfl
  simp
theorem ks_IsListName (s : Str) : Holds Tryz.prog 143 [.str s] (fun r => r = .bool (listName s)) := by
  refine holds_of_run Tryz.func143 a143_ok rfl (by simp [a143]) ?_
  simp [a143]
  first | refine callD_of (ks_IsValidName s) (by simp) ?_ | refine call_of (ks_IsValidName s) (by simp) ?_ | refine callD_of (ks_IsValidName s) rfl ?_ | refine call_of (ks_IsValidName s) rfl ?_
  rintro r rfl
  unfold listName
  cases h1 : okName s
  · simp
  obtain ⟨h2, h3⟩ := okName_len h1
  simp
  intro _
  rw [wrap64 (by omega)]
  have e : ((s.length : Int) - 1).toNat = s.length - 1 := by omega
  simp [e]
  refine ⟨by omega, by omega, ?_⟩
  exact beq115 _
theorem ks_l10IntName (s : Str) : Holds Tryz.prog 204 [.str s] (fun r => r = .bool (intName s)) := by
  refine holds_of_run Tryz.func204 a204_ok rfl (by simp [a204]) ?_
  simp [a204]
  first | refine callD_of (ks_IsValidName s) (by simp) ?_ | refine call_of (ks_IsValidName s) (by simp) ?_ | refine callD_of (ks_IsValidName s) rfl ?_ | refine call_of (ks_IsValidName s) rfl ?_
  rintro r rfl
  unfold intName
  cases h1 : okName s
  · simp
  simp
  first | refine callD_of (ks_IsListName s) (by simp) ?_ | refine call_of (ks_IsListName s) (by simp) ?_ | refine callD_of (ks_IsListName s) rfl ?_ | refine call_of (ks_IsListName s) rfl ?_
  rintro r rfl
  simp
end Go.Proofs.YtilcageplifbgaaGreat

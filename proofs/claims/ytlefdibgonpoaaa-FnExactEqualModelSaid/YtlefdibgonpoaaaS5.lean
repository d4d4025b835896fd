/- Functions read as abstract code. -/
import Derived.Test.YtlefdibgonpoaaaS3
namespace Go.Proofs.Ytlefdibgonpoaaa
open Go Go.RowKit Go.Proofs
def a5 : AFn :=
⟨45, [(.t 4)], (.seq 
 (.reg [⟨some 2, (.boxv (.t 0)), no⟩, ⟨some 3, (.boxv (.t 1)), no⟩, ⟨some 4, (.mv (.k (.bool false))), no⟩]) (.seq 
 (.reg [⟨some 5, (.mv (.k (.int .i64 1048576))), no⟩]) (.seq 
 (.reg [⟨some 10, (.ld true 6 (.t 2)), no⟩, ⟨some 11, (.mv (.t 5)), no⟩, ⟨some 12, (.call (.k (.fn (.func 17) [] [])) [(.t 10), (.t 11)]), no⟩, ⟨some 5, (.mv (.t 12)), no⟩]) (.seq (.seq 
 (.reg [⟨some 13, (.mv (.t 5)), no⟩, ⟨some 14, (.bin .lss (.t 13) (.k (.int .i64 0))), no⟩]) (.cond (.t 14) (.seq 
 (.reg [⟨some 4, (.mv (.k (.bool true))), no⟩]) .ret) .skip)) (.seq 
 (.reg [⟨some 15, (.ld true 6 (.t 3)), no⟩, ⟨some 16, (.mv (.t 5)), no⟩, ⟨some 17, (.call (.k (.fn (.func 17) [] [])) [(.t 15), (.t 16)]), no⟩, ⟨some 5, (.mv (.t 17)), no⟩]) (.seq (.seq 
 (.reg [⟨some 18, (.mv (.t 5)), no⟩, ⟨some 19, (.bin .lss (.t 18) (.k (.int .i64 0))), no⟩]) (.cond (.t 19) (.seq 
 (.reg [⟨some 4, (.mv (.k (.bool true))), no⟩]) .ret) .skip)) (.seq (.draw (.op ⟨some 20, (.ld true 6 (.t 2)), no⟩ (.op ⟨some 22, (.ld true 6 (.t 3)), no⟩ (.op ⟨some 21, (.call (.k (.fn (.func 19) [] [])) [(.t 20)]), no⟩ (.op ⟨some 23, (.call (.k (.fn (.func 19) [] [])) [(.t 22)]), no⟩ (.op ⟨some 24, (.call (.k (.fn (.func 18) [] [])) [(.t 21), (.t 23)]), no⟩ (.op ⟨some 6, (.mv (.t 24)), no⟩ .fin))))))) (.seq 
 (.reg [⟨some 25, (.ld true 6 (.t 2)), no⟩, ⟨some 26, (.call (.k (.fn (.func 19) [] [])) [(.t 25)]), no⟩, ⟨some 7, (.box [(.int .i64 0), (.bool false), (.int .i64 0), (.nil 1), (.int .i64 0), (.int .i64 0)]), no⟩, ⟨no, (.st 6 (.t 7) (.t 26)), no⟩]) (.seq 
 (.reg [⟨some 27, (.ld true 6 (.t 3)), no⟩, ⟨some 28, (.call (.k (.fn (.func 19) [] [])) [(.t 27)]), no⟩, ⟨some 8, (.box [(.int .i64 0), (.bool false), (.int .i64 0), (.nil 1), (.int .i64 0), (.int .i64 0)]), no⟩, ⟨no, (.st 6 (.t 8) (.t 28)), no⟩]) (.seq 
 (.reg [⟨some 29, (.ld true 6 (.t 7)), no⟩, ⟨some 30, (.ld true 6 (.t 8)), no⟩, ⟨some 31, (.call (.k (.fn (.func 20) [] [])) [(.t 29), (.t 30)]), no⟩, ⟨some 9, (.mv (.t 31)), no⟩]) (.seq (.seq 
 (.reg [⟨some 32, (.mv (.t 9)), no⟩, ⟨some 33, (.mv (.t 6)), no⟩, ⟨some 34, (.beq true (.t 32) (.t 33)), no⟩]) (.cond (.t 34) (.seq 
 (.reg [⟨some 4, (.mv (.k (.bool false))), no⟩]) .ret) .skip)) (.seq (.seq (.draw (.op ⟨some 35, (.ld true 6 (.t 7)), no⟩ (.op ⟨some 36, (.ld true 6 (.t 2)), no⟩ (.op ⟨some 37, (.call (.k (.fn (.func 19) [] [])) [(.t 36)]), no⟩ (.op ⟨some 38, (.call (.k (.fn (.func 21) [] [])) [(.t 35), (.t 37)]), no⟩ (.op ⟨some 39, (.un .not (.t 38)), no⟩ .fin)))))) (.cond (.t 39) (.seq 
 (.reg [⟨some 4, (.mv (.k (.bool false))), no⟩]) .ret) .skip)) (.seq (.seq (.draw (.op ⟨some 40, (.ld true 6 (.t 8)), no⟩ (.op ⟨some 41, (.ld true 6 (.t 3)), no⟩ (.op ⟨some 42, (.call (.k (.fn (.func 19) [] [])) [(.t 41)]), no⟩ (.op ⟨some 43, (.call (.k (.fn (.func 21) [] [])) [(.t 40), (.t 42)]), no⟩ (.op ⟨some 44, (.un .not (.t 43)), no⟩ .fin)))))) (.cond (.t 44) (.seq 
 (.reg [⟨some 4, (.mv (.k (.bool false))), no⟩]) .ret) .skip)) (.seq 
 (.reg [⟨some 4, (.mv (.k (.bool true))), no⟩]) .ret))))))))))))))⟩
theorem a5_ok : compFn Try.prog Try.f5 = some a5 := by kernel_rfl

def a17 : AFn :=
⟨12, [(.t 4)], (.seq 
 (.reg [⟨some 2, (.boxv (.t 0)), no⟩, ⟨some 4, (.mv (.k (.int .i64 0))), no⟩]) (.seq 
 (.reg [⟨some 5, (.fld 1 (.t 2)), no⟩, ⟨some 6, (.ld true 3 (.t 5)), no⟩, ⟨some 7, (.mv (.t 1)), no⟩, ⟨some 8, (.call (.k (.fn (.func 10) [] [])) [(.t 6), (.t 7)]), no⟩, ⟨some 1, (.mv (.t 8)), no⟩]) (.seq (.seq 
 (.reg [⟨some 9, (.mv (.t 1)), no⟩, ⟨some 10, (.bin .lss (.t 9) (.k (.int .i64 0))), no⟩]) (.cond (.t 10) (.seq 
 (.reg [⟨some 4, (.mv (.k (.int .i64 (-1)))), no⟩]) .ret) .skip)) (.seq 
 (.reg [⟨some 11, (.mv (.t 1)), no⟩, ⟨some 4, (.mv (.t 11)), no⟩]) .ret))))⟩
theorem a17_ok : compFn Try.prog Try.f17 = some a17 := by kernel_rfl

def a18 : AFn :=
⟨33, [(.t 4)], (.seq 
 (.reg [⟨some 2, (.boxv (.t 0)), no⟩, ⟨some 3, (.boxv (.t 1)), no⟩, ⟨some 4, (.mv (.k (.bool false))), no⟩]) (.seq 
 (.reg [⟨some 5, (.fld 0 (.t 2)), no⟩, ⟨some 6, (.ld false 1 (.t 5)), no⟩, ⟨some 7, (.fld 0 (.t 3)), no⟩, ⟨some 8, (.ld false 1 (.t 7)), no⟩, ⟨some 9, (.bin .eql (.t 6) (.t 8)), no⟩, ⟨some 10, (.mv (.t 9)), no⟩, ⟨some 11, (.fld 4 (.t 2)), (some (10, true))⟩, ⟨some 12, (.ld false 1 (.t 11)), (some (10, true))⟩, ⟨some 13, (.fld 4 (.t 3)), (some (10, true))⟩, ⟨some 14, (.ld false 1 (.t 13)), (some (10, true))⟩, ⟨some 15, (.bin .eql (.t 12) (.t 14)), (some (10, true))⟩, ⟨some 16, (.pick (.t 10) (.t 15) (.k (.bool false))), no⟩, ⟨some 17, (.mv (.t 16)), no⟩, ⟨some 18, (.fld 5 (.t 2)), (some (17, true))⟩, ⟨some 19, (.ld false 1 (.t 18)), (some (17, true))⟩, ⟨some 20, (.fld 5 (.t 3)), (some (17, true))⟩, ⟨some 21, (.ld false 1 (.t 20)), (some (17, true))⟩, ⟨some 22, (.bin .eql (.t 19) (.t 21)), (some (17, true))⟩, ⟨some 23, (.pick (.t 17) (.t 22) (.k (.bool false))), no⟩, ⟨some 24, (.mv (.t 23)), no⟩, ⟨some 25, (.fld 1 (.t 2)), (some (24, true))⟩, ⟨some 26, (.ld true 3 (.t 25)), (some (24, true))⟩, ⟨some 27, (.bsl 3 [(.t 26)]), (some (24, true))⟩, ⟨some 28, (.fld 1 (.t 3)), (some (24, true))⟩, ⟨some 29, (.ld true 3 (.t 28)), (some (24, true))⟩, ⟨some 30, (.bsl 3 [(.t 29)]), (some (24, true))⟩, ⟨some 31, (.call (.k (.fn (.func 53) [] [])) [(.t 27), (.t 30)]), (some (24, true))⟩, ⟨some 32, (.pick (.t 24) (.t 31) (.k (.bool false))), no⟩, ⟨some 4, (.mv (.t 32)), no⟩]) .ret))⟩
theorem a18_ok : compFn Try.prog Try.f18 = some a18 := by kernel_rfl

def a19 : AFn :=
⟨18, [(.c 2 true 6)], (.seq 
 (.reg [⟨some 1, (.boxv (.t 0)), no⟩, ⟨some 2, (.box [(.int .i64 0), (.bool false), (.int .i64 0), (.nil 1), (.int .i64 0), (.int .i64 0)]), no⟩]) (.seq 
 (.reg [⟨some 3, (.box [(.int .i64 0), (.bool false), (.int .i64 0), (.nil 1), (.int .i64 0), (.int .i64 0)]), no⟩]) (.seq 
 (.reg [⟨some 4, (.fld 0 (.t 1)), no⟩, ⟨some 5, (.ld false 1 (.t 4)), no⟩, ⟨some 6, (.fld 0 (.t 3)), no⟩, ⟨no, (.st 1 (.t 6) (.t 5)), no⟩]) (.seq 
 (.reg [⟨some 7, (.fld 1 (.t 1)), no⟩, ⟨some 8, (.ld true 3 (.t 7)), no⟩, ⟨some 9, (.call (.k (.fn (.func 12) [] [])) [(.t 8)]), no⟩, ⟨some 10, (.fld 1 (.t 3)), no⟩, ⟨no, (.st 3 (.t 10) (.t 9)), no⟩]) (.seq 
 (.reg [⟨some 11, (.fld 4 (.t 1)), no⟩, ⟨some 12, (.ld false 1 (.t 11)), no⟩, ⟨some 13, (.fld 4 (.t 3)), no⟩, ⟨no, (.st 1 (.t 13) (.t 12)), no⟩]) (.seq 
 (.reg [⟨some 14, (.fld 5 (.t 1)), no⟩, ⟨some 15, (.ld false 1 (.t 14)), no⟩, ⟨some 16, (.fld 5 (.t 3)), no⟩, ⟨no, (.st 1 (.t 16) (.t 15)), no⟩]) (.seq 
 (.reg [⟨some 17, (.ld true 6 (.t 3)), no⟩, ⟨no, (.st 6 (.t 2) (.t 17)), no⟩]) .ret)))))))⟩
theorem a19_ok : compFn Try.prog Try.f19 = some a19 := by kernel_rfl

def a20 : AFn :=
⟨31, [(.t 4)], (.seq 
 (.reg [⟨some 2, (.boxv (.t 0)), no⟩, ⟨some 3, (.boxv (.t 1)), no⟩, ⟨some 4, (.mv (.k (.bool false))), no⟩]) (.seq 
 (.reg [⟨some 5, (.fld 0 (.t 2)), no⟩, ⟨some 6, (.ld false 1 (.t 5)), no⟩, ⟨some 7, (.fld 0 (.t 3)), no⟩, ⟨some 8, (.ld false 1 (.t 7)), no⟩, ⟨some 9, (.bin .eql (.t 6) (.t 8)), no⟩, ⟨some 10, (.mv (.t 9)), no⟩, ⟨some 11, (.fld 1 (.t 2)), (some (10, true))⟩, ⟨some 12, (.ld true 3 (.t 11)), (some (10, true))⟩, ⟨some 13, (.fld 1 (.t 3)), (some (10, true))⟩, ⟨some 14, (.ld true 3 (.t 13)), (some (10, true))⟩, ⟨some 15, (.call (.k (.fn (.func 54) [] [])) [(.t 12), (.t 14)]), (some (10, true))⟩, ⟨some 16, (.pick (.t 10) (.t 15) (.k (.bool false))), no⟩, ⟨some 17, (.mv (.t 16)), no⟩, ⟨some 18, (.fld 4 (.t 2)), (some (17, true))⟩, ⟨some 19, (.ld false 1 (.t 18)), (some (17, true))⟩, ⟨some 20, (.fld 4 (.t 3)), (some (17, true))⟩, ⟨some 21, (.ld false 1 (.t 20)), (some (17, true))⟩, ⟨some 22, (.bin .eql (.t 19) (.t 21)), (some (17, true))⟩, ⟨some 23, (.pick (.t 17) (.t 22) (.k (.bool false))), no⟩, ⟨some 24, (.mv (.t 23)), no⟩, ⟨some 25, (.fld 5 (.t 2)), (some (24, true))⟩, ⟨some 26, (.ld false 1 (.t 25)), (some (24, true))⟩, ⟨some 27, (.fld 5 (.t 3)), (some (24, true))⟩, ⟨some 28, (.ld false 1 (.t 27)), (some (24, true))⟩, ⟨some 29, (.bin .eql (.t 26) (.t 28)), (some (24, true))⟩, ⟨some 30, (.pick (.t 24) (.t 29) (.k (.bool false))), no⟩, ⟨some 4, (.mv (.t 30)), no⟩]) .ret))⟩
theorem a20_ok : compFn Try.prog Try.f20 = some a20 := by kernel_rfl

def a21 : AFn :=
⟨26, [(.t 4)], (.seq 
 (.reg [⟨some 2, (.boxv (.t 0)), no⟩, ⟨some 3, (.boxv (.t 1)), no⟩, ⟨some 4, (.mv (.k (.bool false))), no⟩]) (.seq (.seq 
 (.reg [⟨some 5, (.fld 0 (.t 2)), no⟩, ⟨some 6, (.ld false 1 (.t 5)), no⟩, ⟨some 7, (.fld 0 (.t 3)), no⟩, ⟨some 8, (.ld false 1 (.t 7)), no⟩, ⟨some 9, (.bin .neq (.t 6) (.t 8)), no⟩]) (.cond (.t 9) (.seq 
 (.reg [⟨some 4, (.mv (.k (.bool false))), no⟩]) .ret) .skip)) (.seq (.seq 
 (.reg [⟨some 10, (.fld 1 (.t 2)), no⟩, ⟨some 11, (.ld true 3 (.t 10)), no⟩, ⟨some 12, (.fld 1 (.t 3)), no⟩, ⟨some 13, (.ld true 3 (.t 12)), no⟩, ⟨some 14, (.call (.k (.fn (.func 14) [] [])) [(.t 11), (.t 13)]), no⟩, ⟨some 15, (.un .not (.t 14)), no⟩]) (.cond (.t 15) (.seq 
 (.reg [⟨some 4, (.mv (.k (.bool false))), no⟩]) .ret) .skip)) (.seq (.seq 
 (.reg [⟨some 16, (.fld 4 (.t 2)), no⟩, ⟨some 17, (.ld false 1 (.t 16)), no⟩, ⟨some 18, (.fld 4 (.t 3)), no⟩, ⟨some 19, (.ld false 1 (.t 18)), no⟩, ⟨some 20, (.bin .neq (.t 17) (.t 19)), no⟩]) (.cond (.t 20) (.seq 
 (.reg [⟨some 4, (.mv (.k (.bool false))), no⟩]) .ret) .skip)) (.seq (.seq 
 (.reg [⟨some 21, (.fld 5 (.t 2)), no⟩, ⟨some 22, (.ld false 1 (.t 21)), no⟩, ⟨some 23, (.fld 5 (.t 3)), no⟩, ⟨some 24, (.ld false 1 (.t 23)), no⟩, ⟨some 25, (.bin .neq (.t 22) (.t 24)), no⟩]) (.cond (.t 25) (.seq 
 (.reg [⟨some 4, (.mv (.k (.bool false))), no⟩]) .ret) .skip)) (.seq 
 (.reg [⟨some 4, (.mv (.k (.bool true))), no⟩]) .ret))))))⟩
theorem a21_ok : compFn Try.prog Try.f21 = some a21 := by kernel_rfl

def a53 : AFn :=
⟨55, [(.t 4)], (.seq 
 (.reg [⟨some 4, (.mv (.k (.bool false))), no⟩]) (.seq (.seq 
 (.reg [⟨some 6, (.mv (.t 0)), no⟩, ⟨some 7, (.len false (.t 6)), no⟩, ⟨some 8, (.mv (.t 1)), no⟩, ⟨some 9, (.len false (.t 8)), no⟩, ⟨some 10, (.bin .neq (.t 7) (.t 9)), no⟩]) (.cond (.t 10) (.seq 
 (.reg [⟨some 4, (.mv (.k (.bool false))), no⟩]) .ret) .skip)) (.seq (.seq 
 (.reg [⟨some 5, (.mv (.k (.int .i64 0))), no⟩]) (.blk 0 (.loop (.seq (.seq 
 (.reg [⟨some 11, (.mv (.t 5)), no⟩, ⟨some 12, (.mv (.t 0)), no⟩, ⟨some 13, (.len false (.t 12)), no⟩, ⟨some 14, (.bin .lss (.t 11) (.t 13)), no⟩]) (.cond (.t 14) .skip (.exit 0))) (.seq (.blk 1 (.seq (.draw (.op ⟨some 17, (.mv (.t 0)), no⟩ (.op ⟨some 18, (.mv (.t 5)), no⟩ (.op ⟨some 19, (.ixa 3 (.t 17) (.t 18)), no⟩ (.op ⟨some 20, (.fld 0 (.t 19)), no⟩ (.op ⟨some 21, (.ld false 1 (.t 20)), no⟩ (.op ⟨some 22, (.mv (.t 1)), no⟩ (.op ⟨some 23, (.mv (.t 5)), no⟩ (.op ⟨some 24, (.ixa 3 (.t 22) (.t 23)), no⟩ (.op ⟨some 25, (.fld 0 (.t 24)), no⟩ (.op ⟨some 26, (.ld false 1 (.t 25)), no⟩ (.op ⟨some 27, (.beq true (.t 21) (.t 26)), no⟩ (.op ⟨some 28, (.mv (.t 27)), no⟩ (.op ⟨some 29, (.mv (.t 0)), (some (28, false))⟩ (.op ⟨some 30, (.mv (.t 5)), (some (28, false))⟩ (.op ⟨some 31, (.ixa 3 (.t 29) (.t 30)), (some (28, false))⟩ (.op ⟨some 32, (.fld 1 (.t 31)), (some (28, false))⟩ (.op ⟨some 33, (.ld false 1 (.t 32)), (some (28, false))⟩ (.op ⟨some 34, (.mv (.t 1)), (some (28, false))⟩ (.op ⟨some 35, (.mv (.t 5)), (some (28, false))⟩ (.op ⟨some 36, (.ixa 3 (.t 34) (.t 35)), (some (28, false))⟩ (.op ⟨some 37, (.fld 1 (.t 36)), (some (28, false))⟩ (.op ⟨some 38, (.ld false 1 (.t 37)), (some (28, false))⟩ (.op ⟨some 39, (.bin .neq (.t 33) (.t 38)), (some (28, false))⟩ (.op ⟨some 40, (.pick (.t 28) (.k (.bool true)) (.t 39)), no⟩ (.op ⟨some 41, (.mv (.t 40)), no⟩ (.op ⟨some 42, (.mv (.t 0)), (some (41, false))⟩ (.op ⟨some 43, (.mv (.t 5)), (some (41, false))⟩ (.op ⟨some 44, (.ixa 3 (.t 42) (.t 43)), (some (41, false))⟩ (.op ⟨some 45, (.fld 2 (.t 44)), (some (41, false))⟩ (.op ⟨some 46, (.ld false 1 (.t 45)), (some (41, false))⟩ (.op ⟨some 47, (.mv (.t 1)), (some (41, false))⟩ (.op ⟨some 48, (.mv (.t 5)), (some (41, false))⟩ (.op ⟨some 49, (.ixa 3 (.t 47) (.t 48)), (some (41, false))⟩ (.op ⟨some 50, (.fld 2 (.t 49)), (some (41, false))⟩ (.op ⟨some 51, (.ld false 1 (.t 50)), (some (41, false))⟩ (.op ⟨some 52, (.call (.k (.fn (.func 81) [] [])) [(.t 46), (.t 51)]), (some (41, false))⟩ (.op ⟨some 53, (.un .not (.t 52)), (some (41, false))⟩ (.op ⟨some 54, (.pick (.t 41) (.k (.bool true)) (.t 53)), no⟩ .fin))))))))))))))))))))))))))))))))))))))) (.cond (.t 54) (.seq 
 (.reg [⟨some 4, (.mv (.k (.bool false))), no⟩]) .ret) .skip))) 
 (.reg [⟨some 15, (.mv (.t 5)), no⟩, ⟨some 16, (.bin .add (.t 15) (.k (.int .i64 1))), no⟩, ⟨some 5, (.mv (.t 16)), no⟩])))))) (.seq 
 (.reg [⟨some 4, (.mv (.k (.bool true))), no⟩]) .ret))))⟩
theorem a53_ok : compFn Try.prog Try.f53 = some a53 := by kernel_rfl

def a54 : AFn :=
⟨24, [(.t 4)], (.seq 
 (.reg [⟨some 2, (.boxv (.t 0)), no⟩, ⟨some 3, (.boxv (.t 1)), no⟩, ⟨some 4, (.mv (.k (.bool false))), no⟩]) (.seq 
 (.reg [⟨some 5, (.fld 0 (.t 2)), no⟩, ⟨some 6, (.ld false 1 (.t 5)), no⟩, ⟨some 7, (.fld 0 (.t 3)), no⟩, ⟨some 8, (.ld false 1 (.t 7)), no⟩, ⟨some 9, (.beq false (.t 6) (.t 8)), no⟩, ⟨some 10, (.mv (.t 9)), no⟩, ⟨some 11, (.fld 1 (.t 2)), (some (10, true))⟩, ⟨some 12, (.ld false 1 (.t 11)), (some (10, true))⟩, ⟨some 13, (.fld 1 (.t 3)), (some (10, true))⟩, ⟨some 14, (.ld false 1 (.t 13)), (some (10, true))⟩, ⟨some 15, (.bin .eql (.t 12) (.t 14)), (some (10, true))⟩, ⟨some 16, (.pick (.t 10) (.t 15) (.k (.bool false))), no⟩, ⟨some 17, (.mv (.t 16)), no⟩, ⟨some 18, (.fld 2 (.t 2)), (some (17, true))⟩, ⟨some 19, (.ld false 1 (.t 18)), (some (17, true))⟩, ⟨some 20, (.fld 2 (.t 3)), (some (17, true))⟩, ⟨some 21, (.ld false 1 (.t 20)), (some (17, true))⟩, ⟨some 22, (.call (.k (.fn (.func 96) [] [])) [(.t 19), (.t 21)]), (some (17, true))⟩, ⟨some 23, (.pick (.t 17) (.t 22) (.k (.bool false))), no⟩, ⟨some 4, (.mv (.t 23)), no⟩]) .ret))⟩
theorem a54_ok : compFn Try.prog Try.f54 = some a54 := by kernel_rfl

def a81 : AFn :=
⟨26, [(.t 4)], (.seq 
 (.reg [⟨some 4, (.mv (.k (.bool false))), no⟩]) (.seq (.seq 
 (.reg [⟨some 6, (.mv (.t 0)), no⟩, ⟨some 7, (.len false (.t 6)), no⟩, ⟨some 8, (.mv (.t 1)), no⟩, ⟨some 9, (.len false (.t 8)), no⟩, ⟨some 10, (.bin .neq (.t 7) (.t 9)), no⟩]) (.cond (.t 10) (.seq 
 (.reg [⟨some 4, (.mv (.k (.bool false))), no⟩]) .ret) .skip)) (.seq (.seq 
 (.reg [⟨some 5, (.mv (.k (.int .i64 0))), no⟩]) (.blk 0 (.loop (.seq (.seq 
 (.reg [⟨some 11, (.mv (.t 5)), no⟩, ⟨some 12, (.mv (.t 0)), no⟩, ⟨some 13, (.len false (.t 12)), no⟩, ⟨some 14, (.bin .lss (.t 11) (.t 13)), no⟩]) (.cond (.t 14) .skip (.exit 0))) (.seq (.blk 1 (.seq (.draw (.op ⟨some 17, (.mv (.t 0)), no⟩ (.op ⟨some 18, (.mv (.t 5)), no⟩ (.op ⟨some 19, (.ixa 1 (.t 17) (.t 18)), no⟩ (.op ⟨some 20, (.ld false 1 (.t 19)), no⟩ (.op ⟨some 21, (.mv (.t 1)), no⟩ (.op ⟨some 22, (.mv (.t 5)), no⟩ (.op ⟨some 23, (.ixa 1 (.t 21) (.t 22)), no⟩ (.op ⟨some 24, (.ld false 1 (.t 23)), no⟩ (.op ⟨some 25, (.bin .neq (.t 20) (.t 24)), no⟩ .fin)))))))))) (.cond (.t 25) (.seq 
 (.reg [⟨some 4, (.mv (.k (.bool false))), no⟩]) .ret) .skip))) 
 (.reg [⟨some 15, (.mv (.t 5)), no⟩, ⟨some 16, (.bin .add (.t 15) (.k (.int .i64 1))), no⟩, ⟨some 5, (.mv (.t 16)), no⟩])))))) (.seq 
 (.reg [⟨some 4, (.mv (.k (.bool true))), no⟩]) .ret))))⟩
theorem a81_ok : compFn Try.prog Try.f81 = some a81 := by kernel_rfl

def a96 : AFn :=
⟨26, [(.t 4)], (.seq 
 (.reg [⟨some 4, (.mv (.k (.bool false))), no⟩]) (.seq (.seq 
 (.reg [⟨some 6, (.mv (.t 0)), no⟩, ⟨some 7, (.len false (.t 6)), no⟩, ⟨some 8, (.mv (.t 1)), no⟩, ⟨some 9, (.len false (.t 8)), no⟩, ⟨some 10, (.bin .neq (.t 7) (.t 9)), no⟩]) (.cond (.t 10) (.seq 
 (.reg [⟨some 4, (.mv (.k (.bool false))), no⟩]) .ret) .skip)) (.seq (.seq 
 (.reg [⟨some 11, (.mv (.t 0)), no⟩, ⟨some 12, (.len false (.t 11)), no⟩, ⟨some 13, (.mv (.k (.int .i64 0))), no⟩]) (.blk 0 (.loop (.seq 
 (.reg [⟨some 14, (.bin .lss (.t 13) (.t 12)), no⟩]) (.seq (.cond (.t 14) .skip (.exit 0)) (.seq (.blk 1 (.seq 
 (.reg [⟨some 15, (.mv (.t 13)), no⟩, ⟨some 5, (.mv (.t 15)), no⟩]) (.seq (.draw (.op ⟨some 16, (.mv (.t 0)), no⟩ (.op ⟨some 17, (.mv (.t 5)), no⟩ (.op ⟨some 18, (.ixa 1 (.t 16) (.t 17)), no⟩ (.op ⟨some 19, (.ld false 1 (.t 18)), no⟩ (.op ⟨some 20, (.mv (.t 1)), no⟩ (.op ⟨some 21, (.mv (.t 5)), no⟩ (.op ⟨some 22, (.ixa 1 (.t 20) (.t 21)), no⟩ (.op ⟨some 23, (.ld false 1 (.t 22)), no⟩ (.op ⟨some 24, (.bin .neq (.t 19) (.t 23)), no⟩ .fin)))))))))) (.cond (.t 24) (.seq 
 (.reg [⟨some 4, (.mv (.k (.bool false))), no⟩]) .ret) .skip)))) 
 (.reg [⟨some 25, (.bin .add (.t 13) (.k (.int .i64 1))), no⟩, ⟨some 13, (.mv (.t 25)), no⟩]))))))) (.seq 
 (.reg [⟨some 4, (.mv (.k (.bool true))), no⟩]) .ret))))⟩
theorem a96_ok : compFn Try.prog Try.f96 = some a96 := by kernel_rfl


end Go.Proofs.Ytlefdibgonpoaaa

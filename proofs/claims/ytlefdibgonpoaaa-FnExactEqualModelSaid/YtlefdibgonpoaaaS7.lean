/- Functions read as abstract code. -/
import Derived.Test.YtlefdibgonpoaaaS5
namespace Go.Proofs.Ytlefdibgonpoaaa
open Go Go.RowKit Go.Proofs
def a6 : AFn :=
⟨45, [(.t 4)], (.seq 
 (.reg [⟨some 2, (.boxv (.t 0)), no⟩, ⟨some 3, (.boxv (.t 1)), no⟩, ⟨some 4, (.mv (.k (.bool false))), no⟩]) (.seq 
 (.reg [⟨some 5, (.mv (.k (.int .i64 1048576))), no⟩]) (.seq 
 (.reg [⟨some 10, (.ld true 6 (.t 2)), no⟩, ⟨some 11, (.mv (.t 5)), no⟩, ⟨some 12, (.call (.k (.fn (.func 22) [] [])) [(.t 10), (.t 11)]), no⟩, ⟨some 5, (.mv (.t 12)), no⟩]) (.seq (.seq 
 (.reg [⟨some 13, (.mv (.t 5)), no⟩, ⟨some 14, (.bin .lss (.t 13) (.k (.int .i64 0))), no⟩]) (.cond (.t 14) (.seq 
 (.reg [⟨some 4, (.mv (.k (.bool true))), no⟩]) .ret) .skip)) (.seq 
 (.reg [⟨some 15, (.ld true 6 (.t 3)), no⟩, ⟨some 16, (.mv (.t 5)), no⟩, ⟨some 17, (.call (.k (.fn (.func 22) [] [])) [(.t 15), (.t 16)]), no⟩, ⟨some 5, (.mv (.t 17)), no⟩]) (.seq (.seq 
 (.reg [⟨some 18, (.mv (.t 5)), no⟩, ⟨some 19, (.bin .lss (.t 18) (.k (.int .i64 0))), no⟩]) (.cond (.t 19) (.seq 
 (.reg [⟨some 4, (.mv (.k (.bool true))), no⟩]) .ret) .skip)) (.seq (.draw (.op ⟨some 20, (.ld true 6 (.t 2)), no⟩ (.op ⟨some 22, (.ld true 6 (.t 3)), no⟩ (.op ⟨some 21, (.call (.k (.fn (.func 24) [] [])) [(.t 20)]), no⟩ (.op ⟨some 23, (.call (.k (.fn (.func 24) [] [])) [(.t 22)]), no⟩ (.op ⟨some 24, (.call (.k (.fn (.func 23) [] [])) [(.t 21), (.t 23)]), no⟩ (.op ⟨some 6, (.mv (.t 24)), no⟩ .fin))))))) (.seq 
 (.reg [⟨some 25, (.ld true 6 (.t 2)), no⟩, ⟨some 26, (.call (.k (.fn (.func 24) [] [])) [(.t 25)]), no⟩, ⟨some 7, (.box [(.int .i64 0), (.nil 2), (.nil 2), (.nil 1), (.int .i64 0), (.nil 1)]), no⟩, ⟨no, (.st 6 (.t 7) (.t 26)), no⟩]) (.seq 
 (.reg [⟨some 27, (.ld true 6 (.t 3)), no⟩, ⟨some 28, (.call (.k (.fn (.func 24) [] [])) [(.t 27)]), no⟩, ⟨some 8, (.box [(.int .i64 0), (.nil 2), (.nil 2), (.nil 1), (.int .i64 0), (.nil 1)]), no⟩, ⟨no, (.st 6 (.t 8) (.t 28)), no⟩]) (.seq 
 (.reg [⟨some 29, (.ld true 6 (.t 7)), no⟩, ⟨some 30, (.ld true 6 (.t 8)), no⟩, ⟨some 31, (.call (.k (.fn (.func 25) [] [])) [(.t 29), (.t 30)]), no⟩, ⟨some 9, (.mv (.t 31)), no⟩]) (.seq (.seq 
 (.reg [⟨some 32, (.mv (.t 9)), no⟩, ⟨some 33, (.mv (.t 6)), no⟩, ⟨some 34, (.beq true (.t 32) (.t 33)), no⟩]) (.cond (.t 34) (.seq 
 (.reg [⟨some 4, (.mv (.k (.bool false))), no⟩]) .ret) .skip)) (.seq (.seq (.draw (.op ⟨some 35, (.ld true 6 (.t 7)), no⟩ (.op ⟨some 36, (.ld true 6 (.t 2)), no⟩ (.op ⟨some 37, (.call (.k (.fn (.func 24) [] [])) [(.t 36)]), no⟩ (.op ⟨some 38, (.call (.k (.fn (.func 26) [] [])) [(.t 35), (.t 37)]), no⟩ (.op ⟨some 39, (.un .not (.t 38)), no⟩ .fin)))))) (.cond (.t 39) (.seq 
 (.reg [⟨some 4, (.mv (.k (.bool false))), no⟩]) .ret) .skip)) (.seq (.seq (.draw (.op ⟨some 40, (.ld true 6 (.t 8)), no⟩ (.op ⟨some 41, (.ld true 6 (.t 3)), no⟩ (.op ⟨some 42, (.call (.k (.fn (.func 24) [] [])) [(.t 41)]), no⟩ (.op ⟨some 43, (.call (.k (.fn (.func 26) [] [])) [(.t 40), (.t 42)]), no⟩ (.op ⟨some 44, (.un .not (.t 43)), no⟩ .fin)))))) (.cond (.t 44) (.seq 
 (.reg [⟨some 4, (.mv (.k (.bool false))), no⟩]) .ret) .skip)) (.seq 
 (.reg [⟨some 4, (.mv (.k (.bool true))), no⟩]) .ret))))))))))))))⟩
theorem a6_ok : compFn Try.prog Try.f6 = some a6 := by kernel_rfl

def a22 : AFn :=
⟨30, [(.t 4)], (.seq 
 (.reg [⟨some 2, (.boxv (.t 0)), no⟩, ⟨some 4, (.mv (.k (.int .i64 0))), no⟩]) (.seq 
 (.reg [⟨some 5, (.fld 0 (.t 2)), no⟩, ⟨some 6, (.ld true 2 (.t 5)), no⟩, ⟨some 7, (.mv (.t 1)), no⟩, ⟨some 8, (.call (.k (.fn (.func 55) [] [])) [(.t 6), (.t 7)]), no⟩, ⟨some 1, (.mv (.t 8)), no⟩]) (.seq (.seq 
 (.reg [⟨some 9, (.mv (.t 1)), no⟩, ⟨some 10, (.bin .lss (.t 9) (.k (.int .i64 0))), no⟩]) (.cond (.t 10) (.seq 
 (.reg [⟨some 4, (.mv (.k (.int .i64 (-1)))), no⟩]) .ret) .skip)) (.seq 
 (.reg [⟨some 11, (.fld 2 (.t 2)), no⟩, ⟨some 12, (.ld false 1 (.t 11)), no⟩, ⟨some 13, (.mv (.t 1)), no⟩, ⟨some 14, (.call (.k (.fn (.func 35) [] [])) [(.t 12), (.t 13)]), no⟩, ⟨some 1, (.mv (.t 14)), no⟩]) (.seq (.seq 
 (.reg [⟨some 15, (.mv (.t 1)), no⟩, ⟨some 16, (.bin .lss (.t 15) (.k (.int .i64 0))), no⟩]) (.cond (.t 16) (.seq 
 (.reg [⟨some 4, (.mv (.k (.int .i64 (-1)))), no⟩]) .ret) .skip)) (.seq 
 (.reg [⟨some 17, (.fld 3 (.t 2)), no⟩, ⟨some 18, (.ld false 1 (.t 17)), no⟩, ⟨some 19, (.mv (.t 1)), no⟩, ⟨some 20, (.call (.k (.fn (.func 56) [] [])) [(.t 18), (.t 19)]), no⟩, ⟨some 1, (.mv (.t 20)), no⟩]) (.seq (.seq 
 (.reg [⟨some 21, (.mv (.t 1)), no⟩, ⟨some 22, (.bin .lss (.t 21) (.k (.int .i64 0))), no⟩]) (.cond (.t 22) (.seq 
 (.reg [⟨some 4, (.mv (.k (.int .i64 (-1)))), no⟩]) .ret) .skip)) (.seq 
 (.reg [⟨some 23, (.fld 4 (.t 2)), no⟩, ⟨some 24, (.ld true 2 (.t 23)), no⟩, ⟨some 25, (.mv (.t 1)), no⟩, ⟨some 26, (.call (.k (.fn (.func 34) [] [])) [(.t 24), (.t 25)]), no⟩, ⟨some 1, (.mv (.t 26)), no⟩]) (.seq (.seq 
 (.reg [⟨some 27, (.mv (.t 1)), no⟩, ⟨some 28, (.bin .lss (.t 27) (.k (.int .i64 0))), no⟩]) (.cond (.t 28) (.seq 
 (.reg [⟨some 4, (.mv (.k (.int .i64 (-1)))), no⟩]) .ret) .skip)) (.seq 
 (.reg [⟨some 29, (.mv (.t 1)), no⟩, ⟨some 4, (.mv (.t 29)), no⟩]) .ret))))))))))⟩
theorem a22_ok : compFn Try.prog Try.f22 = some a22 := by kernel_rfl

def a23 : AFn :=
⟨31, [(.t 4)], (.seq 
 (.reg [⟨some 2, (.boxv (.t 0)), no⟩, ⟨some 3, (.boxv (.t 1)), no⟩, ⟨some 4, (.mv (.k (.bool false))), no⟩]) (.seq 
 (.reg [⟨some 5, (.fld 0 (.t 2)), no⟩, ⟨some 6, (.ld true 2 (.t 5)), no⟩, ⟨some 7, (.fld 0 (.t 3)), no⟩, ⟨some 8, (.ld true 2 (.t 7)), no⟩, ⟨some 9, (.call (.k (.fn (.func 57) [] [])) [(.t 6), (.t 8)]), no⟩, ⟨some 10, (.mv (.t 9)), no⟩, ⟨some 11, (.fld 2 (.t 2)), (some (10, true))⟩, ⟨some 12, (.ld false 1 (.t 11)), (some (10, true))⟩, ⟨some 13, (.fld 2 (.t 3)), (some (10, true))⟩, ⟨some 14, (.ld false 1 (.t 13)), (some (10, true))⟩, ⟨some 15, (.call (.k (.fn (.func 58) [] [])) [(.t 12), (.t 14)]), (some (10, true))⟩, ⟨some 16, (.pick (.t 10) (.t 15) (.k (.bool false))), no⟩, ⟨some 17, (.mv (.t 16)), no⟩, ⟨some 18, (.fld 3 (.t 2)), (some (17, true))⟩, ⟨some 19, (.ld false 1 (.t 18)), (some (17, true))⟩, ⟨some 20, (.fld 3 (.t 3)), (some (17, true))⟩, ⟨some 21, (.ld false 1 (.t 20)), (some (17, true))⟩, ⟨some 22, (.call (.k (.fn (.func 59) [] [])) [(.t 19), (.t 21)]), (some (17, true))⟩, ⟨some 23, (.pick (.t 17) (.t 22) (.k (.bool false))), no⟩, ⟨some 24, (.mv (.t 23)), no⟩, ⟨some 25, (.fld 4 (.t 2)), (some (24, true))⟩, ⟨some 26, (.ld true 2 (.t 25)), (some (24, true))⟩, ⟨some 27, (.fld 4 (.t 3)), (some (24, true))⟩, ⟨some 28, (.ld true 2 (.t 27)), (some (24, true))⟩, ⟨some 29, (.call (.k (.fn (.func 31) [] [])) [(.t 26), (.t 28)]), (some (24, true))⟩, ⟨some 30, (.pick (.t 24) (.t 29) (.k (.bool false))), no⟩, ⟨some 4, (.mv (.t 30)), no⟩]) .ret))⟩
theorem a23_ok : compFn Try.prog Try.f23 = some a23 := by kernel_rfl

def a24 : AFn :=
⟨21, [(.c 2 true 6)], (.seq 
 (.reg [⟨some 1, (.boxv (.t 0)), no⟩, ⟨some 2, (.box [(.int .i64 0), (.nil 2), (.nil 2), (.nil 1), (.int .i64 0), (.nil 1)]), no⟩]) (.seq 
 (.reg [⟨some 3, (.box [(.int .i64 0), (.nil 2), (.nil 2), (.nil 1), (.int .i64 0), (.nil 1)]), no⟩]) (.seq 
 (.reg [⟨some 4, (.fld 0 (.t 1)), no⟩, ⟨some 5, (.ld true 2 (.t 4)), no⟩, ⟨some 6, (.call (.k (.fn (.func 60) [] [])) [(.t 5)]), no⟩, ⟨some 7, (.fld 0 (.t 3)), no⟩, ⟨no, (.st 2 (.t 7) (.t 6)), no⟩]) (.seq 
 (.reg [⟨some 8, (.fld 2 (.t 1)), no⟩, ⟨some 9, (.ld false 1 (.t 8)), no⟩, ⟨some 10, (.call (.k (.fn (.func 37) [] [])) [(.t 9)]), no⟩, ⟨some 11, (.fld 2 (.t 3)), no⟩, ⟨no, (.st 1 (.t 11) (.t 10)), no⟩]) (.seq 
 (.reg [⟨some 12, (.fld 3 (.t 1)), no⟩, ⟨some 13, (.ld false 1 (.t 12)), no⟩, ⟨some 14, (.call (.k (.fn (.func 61) [] [])) [(.t 13)]), no⟩, ⟨some 15, (.fld 3 (.t 3)), no⟩, ⟨no, (.st 1 (.t 15) (.t 14)), no⟩]) (.seq 
 (.reg [⟨some 16, (.fld 4 (.t 1)), no⟩, ⟨some 17, (.ld true 2 (.t 16)), no⟩, ⟨some 18, (.call (.k (.fn (.func 36) [] [])) [(.t 17)]), no⟩, ⟨some 19, (.fld 4 (.t 3)), no⟩, ⟨no, (.st 2 (.t 19) (.t 18)), no⟩]) (.seq 
 (.reg [⟨some 20, (.ld true 6 (.t 3)), no⟩, ⟨no, (.st 6 (.t 2) (.t 20)), no⟩]) .ret)))))))⟩
theorem a24_ok : compFn Try.prog Try.f24 = some a24 := by kernel_rfl

def a25 : AFn :=
⟨31, [(.t 4)], (.seq 
 (.reg [⟨some 2, (.boxv (.t 0)), no⟩, ⟨some 3, (.boxv (.t 1)), no⟩, ⟨some 4, (.mv (.k (.bool false))), no⟩]) (.seq 
 (.reg [⟨some 5, (.fld 0 (.t 2)), no⟩, ⟨some 6, (.ld true 2 (.t 5)), no⟩, ⟨some 7, (.fld 0 (.t 3)), no⟩, ⟨some 8, (.ld true 2 (.t 7)), no⟩, ⟨some 9, (.call (.k (.fn (.func 62) [] [])) [(.t 6), (.t 8)]), no⟩, ⟨some 10, (.mv (.t 9)), no⟩, ⟨some 11, (.fld 2 (.t 2)), (some (10, true))⟩, ⟨some 12, (.ld false 1 (.t 11)), (some (10, true))⟩, ⟨some 13, (.fld 2 (.t 3)), (some (10, true))⟩, ⟨some 14, (.ld false 1 (.t 13)), (some (10, true))⟩, ⟨some 15, (.call (.k (.fn (.func 63) [] [])) [(.t 12), (.t 14)]), (some (10, true))⟩, ⟨some 16, (.pick (.t 10) (.t 15) (.k (.bool false))), no⟩, ⟨some 17, (.mv (.t 16)), no⟩, ⟨some 18, (.fld 3 (.t 2)), (some (17, true))⟩, ⟨some 19, (.ld false 1 (.t 18)), (some (17, true))⟩, ⟨some 20, (.fld 3 (.t 3)), (some (17, true))⟩, ⟨some 21, (.ld false 1 (.t 20)), (some (17, true))⟩, ⟨some 22, (.call (.k (.fn (.func 64) [] [])) [(.t 19), (.t 21), (.k (.fn (.func 63) [] []))]), (some (17, true))⟩, ⟨some 23, (.pick (.t 17) (.t 22) (.k (.bool false))), no⟩, ⟨some 24, (.mv (.t 23)), no⟩, ⟨some 25, (.fld 4 (.t 2)), (some (24, true))⟩, ⟨some 26, (.ld true 2 (.t 25)), (some (24, true))⟩, ⟨some 27, (.fld 4 (.t 3)), (some (24, true))⟩, ⟨some 28, (.ld true 2 (.t 27)), (some (24, true))⟩, ⟨some 29, (.call (.k (.fn (.func 65) [] [])) [(.t 26), (.t 28)]), (some (24, true))⟩, ⟨some 30, (.pick (.t 24) (.t 29) (.k (.bool false))), no⟩, ⟨some 4, (.mv (.t 30)), no⟩]) .ret))⟩
theorem a25_ok : compFn Try.prog Try.f25 = some a25 := by kernel_rfl

def a26 : AFn :=
⟨29, [(.t 4)], (.seq 
 (.reg [⟨some 2, (.boxv (.t 0)), no⟩, ⟨some 3, (.boxv (.t 1)), no⟩, ⟨some 4, (.mv (.k (.bool false))), no⟩]) (.seq (.seq 
 (.reg [⟨some 5, (.fld 0 (.t 2)), no⟩, ⟨some 6, (.ld true 2 (.t 5)), no⟩, ⟨some 7, (.fld 0 (.t 3)), no⟩, ⟨some 8, (.ld true 2 (.t 7)), no⟩, ⟨some 9, (.call (.k (.fn (.func 66) [] [])) [(.t 6), (.t 8)]), no⟩, ⟨some 10, (.un .not (.t 9)), no⟩]) (.cond (.t 10) (.seq 
 (.reg [⟨some 4, (.mv (.k (.bool false))), no⟩]) .ret) .skip)) (.seq (.seq 
 (.reg [⟨some 11, (.fld 2 (.t 2)), no⟩, ⟨some 12, (.ld false 1 (.t 11)), no⟩, ⟨some 13, (.fld 2 (.t 3)), no⟩, ⟨some 14, (.ld false 1 (.t 13)), no⟩, ⟨some 15, (.call (.k (.fn (.func 39) [] [])) [(.t 12), (.t 14)]), no⟩, ⟨some 16, (.un .not (.t 15)), no⟩]) (.cond (.t 16) (.seq 
 (.reg [⟨some 4, (.mv (.k (.bool false))), no⟩]) .ret) .skip)) (.seq (.seq 
 (.reg [⟨some 17, (.fld 3 (.t 2)), no⟩, ⟨some 18, (.ld false 1 (.t 17)), no⟩, ⟨some 19, (.fld 3 (.t 3)), no⟩, ⟨some 20, (.ld false 1 (.t 19)), no⟩, ⟨some 21, (.call (.k (.fn (.func 67) [] [])) [(.t 18), (.t 20)]), no⟩, ⟨some 22, (.un .not (.t 21)), no⟩]) (.cond (.t 22) (.seq 
 (.reg [⟨some 4, (.mv (.k (.bool false))), no⟩]) .ret) .skip)) (.seq (.seq 
 (.reg [⟨some 23, (.fld 4 (.t 2)), no⟩, ⟨some 24, (.ld true 2 (.t 23)), no⟩, ⟨some 25, (.fld 4 (.t 3)), no⟩, ⟨some 26, (.ld true 2 (.t 25)), no⟩, ⟨some 27, (.call (.k (.fn (.func 38) [] [])) [(.t 24), (.t 26)]), no⟩, ⟨some 28, (.un .not (.t 27)), no⟩]) (.cond (.t 28) (.seq 
 (.reg [⟨some 4, (.mv (.k (.bool false))), no⟩]) .ret) .skip)) (.seq 
 (.reg [⟨some 4, (.mv (.k (.bool true))), no⟩]) .ret))))))⟩
theorem a26_ok : compFn Try.prog Try.f26 = some a26 := by kernel_rfl

def a31 : AFn :=
⟨17, [(.t 4)], (.seq 
 (.reg [⟨some 2, (.boxv (.t 0)), no⟩, ⟨some 3, (.boxv (.t 1)), no⟩, ⟨some 4, (.mv (.k (.bool false))), no⟩]) (.seq 
 (.reg [⟨some 5, (.fld 0 (.t 2)), no⟩, ⟨some 6, (.ld false 1 (.t 5)), no⟩, ⟨some 7, (.fld 0 (.t 3)), no⟩, ⟨some 8, (.ld false 1 (.t 7)), no⟩, ⟨some 9, (.bin .eql (.t 6) (.t 8)), no⟩, ⟨some 10, (.mv (.t 9)), no⟩, ⟨some 11, (.fld 1 (.t 2)), (some (10, true))⟩, ⟨some 12, (.ld false 1 (.t 11)), (some (10, true))⟩, ⟨some 13, (.fld 1 (.t 3)), (some (10, true))⟩, ⟨some 14, (.ld false 1 (.t 13)), (some (10, true))⟩, ⟨some 15, (.call (.k (.fn (.func 81) [] [])) [(.t 12), (.t 14)]), (some (10, true))⟩, ⟨some 16, (.pick (.t 10) (.t 15) (.k (.bool false))), no⟩, ⟨some 4, (.mv (.t 16)), no⟩]) .ret))⟩
theorem a31_ok : compFn Try.prog Try.f31 = some a31 := by kernel_rfl

def a34 : AFn :=
⟨12, [(.t 4)], (.seq 
 (.reg [⟨some 2, (.boxv (.t 0)), no⟩, ⟨some 4, (.mv (.k (.int .i64 0))), no⟩]) (.seq 
 (.reg [⟨some 5, (.fld 1 (.t 2)), no⟩, ⟨some 6, (.ld false 1 (.t 5)), no⟩, ⟨some 7, (.mv (.t 1)), no⟩, ⟨some 8, (.call (.k (.fn (.func 46) [] [])) [(.t 6), (.t 7)]), no⟩, ⟨some 1, (.mv (.t 8)), no⟩]) (.seq (.seq 
 (.reg [⟨some 9, (.mv (.t 1)), no⟩, ⟨some 10, (.bin .lss (.t 9) (.k (.int .i64 0))), no⟩]) (.cond (.t 10) (.seq 
 (.reg [⟨some 4, (.mv (.k (.int .i64 (-1)))), no⟩]) .ret) .skip)) (.seq 
 (.reg [⟨some 11, (.mv (.t 1)), no⟩, ⟨some 4, (.mv (.t 11)), no⟩]) .ret))))⟩
theorem a34_ok : compFn Try.prog Try.f34 = some a34 := by kernel_rfl

def a36 : AFn :=
⟨12, [(.c 2 true 2)], (.seq 
 (.reg [⟨some 1, (.boxv (.t 0)), no⟩, ⟨some 2, (.box [(.int .i64 0), (.nil 1)]), no⟩]) (.seq 
 (.reg [⟨some 3, (.box [(.int .i64 0), (.nil 1)]), no⟩]) (.seq 
 (.reg [⟨some 4, (.fld 0 (.t 1)), no⟩, ⟨some 5, (.ld false 1 (.t 4)), no⟩, ⟨some 6, (.fld 0 (.t 3)), no⟩, ⟨no, (.st 1 (.t 6) (.t 5)), no⟩]) (.seq 
 (.reg [⟨some 7, (.fld 1 (.t 1)), no⟩, ⟨some 8, (.ld false 1 (.t 7)), no⟩, ⟨some 9, (.call (.k (.fn (.func 47) [] [])) [(.t 8)]), no⟩, ⟨some 10, (.fld 1 (.t 3)), no⟩, ⟨no, (.st 1 (.t 10) (.t 9)), no⟩]) (.seq 
 (.reg [⟨some 11, (.ld true 2 (.t 3)), no⟩, ⟨no, (.st 2 (.t 2) (.t 11)), no⟩]) .ret)))))⟩
theorem a36_ok : compFn Try.prog Try.f36 = some a36 := by kernel_rfl

def a38 : AFn :=
⟨16, [(.t 4)], (.seq 
 (.reg [⟨some 2, (.boxv (.t 0)), no⟩, ⟨some 3, (.boxv (.t 1)), no⟩, ⟨some 4, (.mv (.k (.bool false))), no⟩]) (.seq (.seq 
 (.reg [⟨some 5, (.fld 0 (.t 2)), no⟩, ⟨some 6, (.ld false 1 (.t 5)), no⟩, ⟨some 7, (.fld 0 (.t 3)), no⟩, ⟨some 8, (.ld false 1 (.t 7)), no⟩, ⟨some 9, (.bin .neq (.t 6) (.t 8)), no⟩]) (.cond (.t 9) (.seq 
 (.reg [⟨some 4, (.mv (.k (.bool false))), no⟩]) .ret) .skip)) (.seq (.seq 
 (.reg [⟨some 10, (.fld 1 (.t 2)), no⟩, ⟨some 11, (.ld false 1 (.t 10)), no⟩, ⟨some 12, (.fld 1 (.t 3)), no⟩, ⟨some 13, (.ld false 1 (.t 12)), no⟩, ⟨some 14, (.call (.k (.fn (.func 48) [] [])) [(.t 11), (.t 13)]), no⟩, ⟨some 15, (.un .not (.t 14)), no⟩]) (.cond (.t 15) (.seq 
 (.reg [⟨some 4, (.mv (.k (.bool false))), no⟩]) .ret) .skip)) (.seq 
 (.reg [⟨some 4, (.mv (.k (.bool true))), no⟩]) .ret))))⟩
theorem a38_ok : compFn Try.prog Try.f38 = some a38 := by kernel_rfl

def a55 : AFn :=
⟨12, [(.t 4)], (.seq 
 (.reg [⟨some 2, (.boxv (.t 0)), no⟩, ⟨some 4, (.mv (.k (.int .i64 0))), no⟩]) (.seq 
 (.reg [⟨some 5, (.fld 1 (.t 2)), no⟩, ⟨some 6, (.ld false 1 (.t 5)), no⟩, ⟨some 7, (.mv (.t 1)), no⟩, ⟨some 8, (.call (.k (.fn (.func 35) [] [])) [(.t 6), (.t 7)]), no⟩, ⟨some 1, (.mv (.t 8)), no⟩]) (.seq (.seq 
 (.reg [⟨some 9, (.mv (.t 1)), no⟩, ⟨some 10, (.bin .lss (.t 9) (.k (.int .i64 0))), no⟩]) (.cond (.t 10) (.seq 
 (.reg [⟨some 4, (.mv (.k (.int .i64 (-1)))), no⟩]) .ret) .skip)) (.seq 
 (.reg [⟨some 11, (.mv (.t 1)), no⟩, ⟨some 4, (.mv (.t 11)), no⟩]) .ret))))⟩
theorem a55_ok : compFn Try.prog Try.f55 = some a55 := by kernel_rfl

def a57 : AFn :=
⟨39, [(.t 4)], (.seq 
 (.reg [⟨some 2, (.boxv (.t 0)), no⟩, ⟨some 3, (.boxv (.t 1)), no⟩, ⟨some 4, (.mv (.k (.bool false))), no⟩]) (.seq (.seq 
 (.reg [⟨some 6, (.fld 0 (.t 2)), no⟩, ⟨some 7, (.ld false 1 (.t 6)), no⟩, ⟨some 8, (.fld 0 (.t 3)), no⟩, ⟨some 9, (.ld false 1 (.t 8)), no⟩, ⟨some 10, (.bin .neq (.t 7) (.t 9)), no⟩, ⟨some 11, (.mv (.t 10)), no⟩, ⟨some 12, (.fld 1 (.t 2)), (some (11, false))⟩, ⟨some 13, (.ld false 1 (.t 12)), (some (11, false))⟩, ⟨some 14, (.len false (.t 13)), (some (11, false))⟩, ⟨some 15, (.fld 1 (.t 3)), (some (11, false))⟩, ⟨some 16, (.ld false 1 (.t 15)), (some (11, false))⟩, ⟨some 17, (.len false (.t 16)), (some (11, false))⟩, ⟨some 18, (.bin .neq (.t 14) (.t 17)), (some (11, false))⟩, ⟨some 19, (.pick (.t 11) (.k (.bool true)) (.t 18)), no⟩]) (.cond (.t 19) (.seq 
 (.reg [⟨some 4, (.mv (.k (.bool false))), no⟩]) .ret) .skip)) (.seq (.seq 
 (.reg [⟨some 5, (.mv (.k (.int .i64 0))), no⟩]) (.blk 0 (.loop (.seq (.seq 
 (.reg [⟨some 20, (.mv (.t 5)), no⟩, ⟨some 21, (.fld 1 (.t 2)), no⟩, ⟨some 22, (.ld false 1 (.t 21)), no⟩, ⟨some 23, (.len false (.t 22)), no⟩, ⟨some 24, (.bin .lss (.t 20) (.t 23)), no⟩]) (.cond (.t 24) .skip (.exit 0))) (.seq (.blk 1 (.seq (.draw (.op ⟨some 27, (.fld 1 (.t 2)), no⟩ (.op ⟨some 28, (.ld false 1 (.t 27)), no⟩ (.op ⟨some 29, (.mv (.t 5)), no⟩ (.op ⟨some 30, (.ixa 2 (.t 28) (.t 29)), no⟩ (.op ⟨some 31, (.ld true 2 (.t 30)), no⟩ (.op ⟨some 32, (.fld 1 (.t 3)), no⟩ (.op ⟨some 33, (.ld false 1 (.t 32)), no⟩ (.op ⟨some 34, (.mv (.t 5)), no⟩ (.op ⟨some 35, (.ixa 2 (.t 33) (.t 34)), no⟩ (.op ⟨some 36, (.ld true 2 (.t 35)), no⟩ (.op ⟨some 37, (.call (.k (.fn (.func 31) [] [])) [(.t 31), (.t 36)]), no⟩ (.op ⟨some 38, (.un .not (.t 37)), no⟩ .fin))))))))))))) (.cond (.t 38) (.seq 
 (.reg [⟨some 4, (.mv (.k (.bool false))), no⟩]) .ret) .skip))) 
 (.reg [⟨some 25, (.mv (.t 5)), no⟩, ⟨some 26, (.bin .add (.t 25) (.k (.int .i64 1))), no⟩, ⟨some 5, (.mv (.t 26)), no⟩])))))) (.seq 
 (.reg [⟨some 4, (.mv (.k (.bool true))), no⟩]) .ret))))⟩
theorem a57_ok : compFn Try.prog Try.f57 = some a57 := by kernel_rfl

def a58 : AFn :=
⟨10, [(.t 4)], (.seq 
 (.reg [⟨some 4, (.mv (.k (.bool false))), no⟩]) (.seq 
 (.reg [⟨some 5, (.mv (.t 0)), no⟩, ⟨some 6, (.build [(.int .i64 0), (.nil 2)] [(1, (1, (.t 5)))]), no⟩, ⟨some 7, (.mv (.t 1)), no⟩, ⟨some 8, (.build [(.int .i64 0), (.nil 2)] [(1, (1, (.t 7)))]), no⟩, ⟨some 9, (.call (.k (.fn (.func 57) [] [])) [(.t 6), (.t 8)]), no⟩, ⟨some 4, (.mv (.t 9)), no⟩]) .ret))⟩
theorem a58_ok : compFn Try.prog Try.f58 = some a58 := by kernel_rfl

def a60 : AFn :=
⟨12, [(.c 2 true 2)], (.seq 
 (.reg [⟨some 1, (.boxv (.t 0)), no⟩, ⟨some 2, (.box [(.int .i64 0), (.nil 2)]), no⟩]) (.seq 
 (.reg [⟨some 3, (.box [(.int .i64 0), (.nil 2)]), no⟩]) (.seq 
 (.reg [⟨some 4, (.fld 0 (.t 1)), no⟩, ⟨some 5, (.ld false 1 (.t 4)), no⟩, ⟨some 6, (.fld 0 (.t 3)), no⟩, ⟨no, (.st 1 (.t 6) (.t 5)), no⟩]) (.seq 
 (.reg [⟨some 7, (.fld 1 (.t 1)), no⟩, ⟨some 8, (.ld false 1 (.t 7)), no⟩, ⟨some 9, (.call (.k (.fn (.func 37) [] [])) [(.t 8)]), no⟩, ⟨some 10, (.fld 1 (.t 3)), no⟩, ⟨no, (.st 1 (.t 10) (.t 9)), no⟩]) (.seq 
 (.reg [⟨some 11, (.ld true 2 (.t 3)), no⟩, ⟨no, (.st 2 (.t 2) (.t 11)), no⟩]) .ret)))))⟩
theorem a60_ok : compFn Try.prog Try.f60 = some a60 := by kernel_rfl

def a62 : AFn :=
⟨17, [(.t 4)], (.seq 
 (.reg [⟨some 2, (.boxv (.t 0)), no⟩, ⟨some 3, (.boxv (.t 1)), no⟩, ⟨some 4, (.mv (.k (.bool false))), no⟩]) (.seq 
 (.reg [⟨some 5, (.fld 0 (.t 2)), no⟩, ⟨some 6, (.ld false 1 (.t 5)), no⟩, ⟨some 7, (.fld 0 (.t 3)), no⟩, ⟨some 8, (.ld false 1 (.t 7)), no⟩, ⟨some 9, (.bin .eql (.t 6) (.t 8)), no⟩, ⟨some 10, (.mv (.t 9)), no⟩, ⟨some 11, (.fld 1 (.t 2)), (some (10, true))⟩, ⟨some 12, (.ld false 1 (.t 11)), (some (10, true))⟩, ⟨some 13, (.fld 1 (.t 3)), (some (10, true))⟩, ⟨some 14, (.ld false 1 (.t 13)), (some (10, true))⟩, ⟨some 15, (.call (.k (.fn (.func 63) [] [])) [(.t 12), (.t 14)]), (some (10, true))⟩, ⟨some 16, (.pick (.t 10) (.t 15) (.k (.bool false))), no⟩, ⟨some 4, (.mv (.t 16)), no⟩]) .ret))⟩
theorem a62_ok : compFn Try.prog Try.f62 = some a62 := by kernel_rfl

def a63 : AFn :=
⟨8, [(.t 4)], (.seq 
 (.reg [⟨some 4, (.mv (.k (.bool false))), no⟩]) (.seq 
 (.reg [⟨some 5, (.mv (.t 0)), no⟩, ⟨some 6, (.mv (.t 1)), no⟩, ⟨some 7, (.call (.k (.fn (.func 97) [] [])) [(.t 5), (.t 6), (.k (.fn (.func 65) [] []))]), no⟩, ⟨some 4, (.mv (.t 7)), no⟩]) .ret))⟩
theorem a63_ok : compFn Try.prog Try.f63 = some a63 := by kernel_rfl

def a64 : AFn :=
⟨32, [(.t 6)], (.seq 
 (.reg [⟨some 6, (.mv (.k (.bool false))), no⟩]) (.seq (.seq 
 (.reg [⟨some 10, (.mv (.t 0)), no⟩, ⟨some 11, (.len false (.t 10)), no⟩, ⟨some 12, (.mv (.t 1)), no⟩, ⟨some 13, (.len false (.t 12)), no⟩, ⟨some 14, (.bin .neq (.t 11) (.t 13)), no⟩]) (.cond (.t 14) (.seq 
 (.reg [⟨some 6, (.mv (.k (.bool false))), no⟩]) .ret) .skip)) (.seq (.seq 
 (.reg [⟨some 15, (.mv (.t 0)), no⟩, ⟨some 16, (.len false (.t 15)), no⟩, ⟨some 17, (.mv (.k (.int .i64 0))), no⟩]) (.blk 0 (.loop (.seq 
 (.reg [⟨some 18, (.bin .lss (.t 17) (.t 16)), no⟩]) (.seq (.cond (.t 18) .skip (.exit 0)) (.seq (.blk 1 (.seq 
 (.reg [⟨some 19, (.mv (.t 17)), no⟩, ⟨some 20, (.ixa 1 (.t 15) (.t 17)), no⟩, ⟨some 21, (.ld false 1 (.t 20)), no⟩, ⟨some 7, (.mv (.t 19)), no⟩, ⟨some 8, (.mv (.t 21)), no⟩]) (.seq 
 (.reg [⟨some 22, (.mv (.t 1)), no⟩, ⟨some 23, (.mv (.t 7)), no⟩, ⟨some 24, (.ixa 1 (.t 22) (.t 23)), no⟩, ⟨some 25, (.ld false 1 (.t 24)), no⟩, ⟨some 9, (.mv (.t 25)), no⟩]) (.seq 
 (.reg [⟨some 26, (.mv (.t 2)), no⟩, ⟨some 27, (.mv (.t 8)), no⟩, ⟨some 28, (.mv (.t 9)), no⟩, ⟨some 29, (.call (.t 26) [(.t 27), (.t 28)]), no⟩, ⟨some 30, (.un .not (.t 29)), no⟩]) (.cond (.t 30) (.seq 
 (.reg [⟨some 6, (.mv (.k (.bool false))), no⟩]) .ret) .skip))))) 
 (.reg [⟨some 31, (.bin .add (.t 17) (.k (.int .i64 1))), no⟩, ⟨some 17, (.mv (.t 31)), no⟩]))))))) (.seq 
 (.reg [⟨some 6, (.mv (.k (.bool true))), no⟩]) .ret))))⟩
theorem a64_ok : compFn Try.prog Try.f64 = some a64 := by kernel_rfl

def a65 : AFn :=
⟨17, [(.t 4)], (.seq 
 (.reg [⟨some 2, (.boxv (.t 0)), no⟩, ⟨some 3, (.boxv (.t 1)), no⟩, ⟨some 4, (.mv (.k (.bool false))), no⟩]) (.seq 
 (.reg [⟨some 5, (.fld 0 (.t 2)), no⟩, ⟨some 6, (.ld false 1 (.t 5)), no⟩, ⟨some 7, (.fld 0 (.t 3)), no⟩, ⟨some 8, (.ld false 1 (.t 7)), no⟩, ⟨some 9, (.bin .eql (.t 6) (.t 8)), no⟩, ⟨some 10, (.mv (.t 9)), no⟩, ⟨some 11, (.fld 1 (.t 2)), (some (10, true))⟩, ⟨some 12, (.ld false 1 (.t 11)), (some (10, true))⟩, ⟨some 13, (.fld 1 (.t 3)), (some (10, true))⟩, ⟨some 14, (.ld false 1 (.t 13)), (some (10, true))⟩, ⟨some 15, (.call (.k (.fn (.func 96) [] [])) [(.t 12), (.t 14)]), (some (10, true))⟩, ⟨some 16, (.pick (.t 10) (.t 15) (.k (.bool false))), no⟩, ⟨some 4, (.mv (.t 16)), no⟩]) .ret))⟩
theorem a65_ok : compFn Try.prog Try.f65 = some a65 := by kernel_rfl

def a66 : AFn :=
⟨16, [(.t 4)], (.seq 
 (.reg [⟨some 2, (.boxv (.t 0)), no⟩, ⟨some 3, (.boxv (.t 1)), no⟩, ⟨some 4, (.mv (.k (.bool false))), no⟩]) (.seq (.seq 
 (.reg [⟨some 5, (.fld 0 (.t 2)), no⟩, ⟨some 6, (.ld false 1 (.t 5)), no⟩, ⟨some 7, (.fld 0 (.t 3)), no⟩, ⟨some 8, (.ld false 1 (.t 7)), no⟩, ⟨some 9, (.bin .neq (.t 6) (.t 8)), no⟩]) (.cond (.t 9) (.seq 
 (.reg [⟨some 4, (.mv (.k (.bool false))), no⟩]) .ret) .skip)) (.seq (.seq 
 (.reg [⟨some 10, (.fld 1 (.t 2)), no⟩, ⟨some 11, (.ld false 1 (.t 10)), no⟩, ⟨some 12, (.fld 1 (.t 3)), no⟩, ⟨some 13, (.ld false 1 (.t 12)), no⟩, ⟨some 14, (.call (.k (.fn (.func 39) [] [])) [(.t 11), (.t 13)]), no⟩, ⟨some 15, (.un .not (.t 14)), no⟩]) (.cond (.t 15) (.seq 
 (.reg [⟨some 4, (.mv (.k (.bool false))), no⟩]) .ret) .skip)) (.seq 
 (.reg [⟨some 4, (.mv (.k (.bool true))), no⟩]) .ret))))⟩
theorem a66_ok : compFn Try.prog Try.f66 = some a66 := by kernel_rfl

def a97 : AFn :=
⟨32, [(.t 6)], (.seq 
 (.reg [⟨some 6, (.mv (.k (.bool false))), no⟩]) (.seq (.seq 
 (.reg [⟨some 10, (.mv (.t 0)), no⟩, ⟨some 11, (.len false (.t 10)), no⟩, ⟨some 12, (.mv (.t 1)), no⟩, ⟨some 13, (.len false (.t 12)), no⟩, ⟨some 14, (.bin .neq (.t 11) (.t 13)), no⟩]) (.cond (.t 14) (.seq 
 (.reg [⟨some 6, (.mv (.k (.bool false))), no⟩]) .ret) .skip)) (.seq (.seq 
 (.reg [⟨some 15, (.mv (.t 0)), no⟩, ⟨some 16, (.len false (.t 15)), no⟩, ⟨some 17, (.mv (.k (.int .i64 0))), no⟩]) (.blk 0 (.loop (.seq 
 (.reg [⟨some 18, (.bin .lss (.t 17) (.t 16)), no⟩]) (.seq (.cond (.t 18) .skip (.exit 0)) (.seq (.blk 1 (.seq 
 (.reg [⟨some 19, (.mv (.t 17)), no⟩, ⟨some 20, (.ixa 2 (.t 15) (.t 17)), no⟩, ⟨some 21, (.ld true 2 (.t 20)), no⟩, ⟨some 8, (.box [(.int .i64 0), (.nil 1)]), no⟩, ⟨some 7, (.mv (.t 19)), no⟩, ⟨no, (.st 2 (.t 8) (.t 21)), no⟩]) (.seq 
 (.reg [⟨some 22, (.mv (.t 1)), no⟩, ⟨some 23, (.mv (.t 7)), no⟩, ⟨some 24, (.ixa 2 (.t 22) (.t 23)), no⟩, ⟨some 25, (.ld true 2 (.t 24)), no⟩, ⟨some 9, (.box [(.int .i64 0), (.nil 1)]), no⟩, ⟨no, (.st 2 (.t 9) (.t 25)), no⟩]) (.seq 
 (.reg [⟨some 26, (.mv (.t 2)), no⟩, ⟨some 27, (.ld true 2 (.t 8)), no⟩, ⟨some 28, (.ld true 2 (.t 9)), no⟩, ⟨some 29, (.call (.t 26) [(.t 27), (.t 28)]), no⟩, ⟨some 30, (.un .not (.t 29)), no⟩]) (.cond (.t 30) (.seq 
 (.reg [⟨some 6, (.mv (.k (.bool false))), no⟩]) .ret) .skip))))) 
 (.reg [⟨some 31, (.bin .add (.t 17) (.k (.int .i64 1))), no⟩, ⟨some 17, (.mv (.t 31)), no⟩]))))))) (.seq 
 (.reg [⟨some 6, (.mv (.k (.bool true))), no⟩]) .ret))))⟩
theorem a97_ok : compFn Try.prog Try.f97 = some a97 := by kernel_rfl


theorem a35_ok : compFn Try.prog Try.f35 = some (tSz true 2 34) := by kernel_rfl
theorem a56_ok : compFn Try.prog Try.f56 = some (tSz false 1 35) := by kernel_rfl
theorem a37_ok : compFn Try.prog Try.f37 = some (tTo true 2 32 36 [.int .i64 0, .nil 1]) := by kernel_rfl
theorem a61_ok : compFn Try.prog Try.f61 = some (tTo false 1 24 37 [.nil 2]) := by kernel_rfl
theorem a39_ok : compFn Try.prog Try.f39 = some (tEq true 2 38) := by kernel_rfl
theorem a67_ok : compFn Try.prog Try.f67 = some (tEq false 1 39) := by kernel_rfl
theorem a59_ok : compFn Try.prog Try.f59 = some (tEq false 1 58) := by kernel_rfl
end Go.Proofs.Ytlefdibgonpoaaa

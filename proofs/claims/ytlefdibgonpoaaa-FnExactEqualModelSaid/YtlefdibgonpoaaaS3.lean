/- Functions read as abstract code. -/
import Derived.Test.YtlefdibgonpoaaaS1
namespace Go.Proofs.Ytlefdibgonpoaaa
open Go Go.RowKit Go.Proofs
def a4 : AFn :=
⟨27, [(.t 2)], (.seq 
 (.reg [⟨some 1, (.boxv (.t 0)), no⟩, ⟨some 2, (.mv (.k (.bool false))), no⟩]) (.seq 
 (.reg [⟨some 3, (.mv (.k (.int .i64 1048576))), no⟩]) (.seq 
 (.reg [⟨some 7, (.ld true 3 (.t 1)), no⟩, ⟨some 8, (.mv (.t 3)), no⟩, ⟨some 9, (.call (.k (.fn (.func 10) [] [])) [(.t 7), (.t 8)]), no⟩, ⟨some 3, (.mv (.t 9)), no⟩]) (.seq (.seq 
 (.reg [⟨some 10, (.mv (.t 3)), no⟩, ⟨some 11, (.bin .lss (.t 10) (.k (.int .i64 0))), no⟩]) (.cond (.t 11) (.seq 
 (.reg [⟨some 2, (.mv (.k (.bool true))), no⟩]) .ret) .skip)) (.seq 
 (.reg [⟨some 12, (.ld true 3 (.t 1)), no⟩, ⟨some 13, (.call (.k (.fn (.func 12) [] [])) [(.t 12)]), no⟩, ⟨some 14, (.call (.k (.fn (.func 15) [] [])) [(.t 13)]), no⟩, ⟨some 4, (.mv (.t 14)), no⟩]) (.seq 
 (.reg [⟨some 15, (.ld true 3 (.t 1)), no⟩, ⟨some 16, (.call (.k (.fn (.func 12) [] [])) [(.t 15)]), no⟩, ⟨some 5, (.box [(.bool false), (.int .i64 0), (.nil 1)]), no⟩, ⟨no, (.st 3 (.t 5) (.t 16)), no⟩]) (.seq 
 (.reg [⟨some 17, (.ld true 3 (.t 5)), no⟩, ⟨some 18, (.call (.k (.fn (.func 16) [] [])) [(.t 17)]), no⟩, ⟨some 6, (.mv (.t 18)), no⟩]) (.seq (.seq 
 (.reg [⟨some 19, (.mv (.t 6)), no⟩, ⟨some 20, (.mv (.t 4)), no⟩, ⟨some 21, (.beq true (.t 19) (.t 20)), no⟩]) (.cond (.t 21) (.seq 
 (.reg [⟨some 2, (.mv (.k (.bool false))), no⟩]) .ret) .skip)) (.seq (.seq (.draw (.op ⟨some 22, (.ld true 3 (.t 5)), no⟩ (.op ⟨some 23, (.ld true 3 (.t 1)), no⟩ (.op ⟨some 24, (.call (.k (.fn (.func 12) [] [])) [(.t 23)]), no⟩ (.op ⟨some 25, (.call (.k (.fn (.func 14) [] [])) [(.t 22), (.t 24)]), no⟩ (.op ⟨some 26, (.un .not (.t 25)), no⟩ .fin)))))) (.cond (.t 26) (.seq 
 (.reg [⟨some 2, (.mv (.k (.bool false))), no⟩]) .ret) .skip)) (.seq 
 (.reg [⟨some 2, (.mv (.k (.bool true))), no⟩]) .ret))))))))))⟩
theorem a4_ok : compFn Try.prog Try.f4 = some a4 := by kernel_rfl

def a15 : AFn :=
⟨38, [(.t 2)], (.seq 
 (.reg [⟨some 1, (.boxv (.t 0)), no⟩, ⟨some 2, (.mv (.k (.bool false))), no⟩]) (.seq (.seq 
 (.reg [⟨some 3, (.mv (.k (.int .i64 0))), no⟩]) (.blk 0 (.loop (.seq (.seq 
 (.reg [⟨some 4, (.mv (.t 3)), no⟩, ⟨some 5, (.fld 2 (.t 1)), no⟩, ⟨some 6, (.ld false 1 (.t 5)), no⟩, ⟨some 7, (.len false (.t 6)), no⟩, ⟨some 8, (.bin .lss (.t 4) (.t 7)), no⟩]) (.cond (.t 8) .skip (.exit 0))) (.seq (.blk 1 (.seq 
 (.reg [⟨some 11, (.fld 2 (.t 1)), no⟩, ⟨some 12, (.ld false 1 (.t 11)), no⟩, ⟨some 13, (.mv (.t 3)), no⟩, ⟨some 14, (.ixa 1 (.t 12) (.t 13)), no⟩, ⟨some 15, (.ld false 1 (.t 14)), no⟩, ⟨some 16, (.call (.k (.fn (.func 49) [] [])) [(.t 15)]), no⟩, ⟨some 17, (.un .not (.t 16)), no⟩]) (.cond (.t 17) (.seq 
 (.reg [⟨some 2, (.mv (.k (.bool false))), no⟩]) .ret) .skip))) 
 (.reg [⟨some 9, (.mv (.t 3)), no⟩, ⟨some 10, (.bin .add (.t 9) (.k (.int .i64 1))), no⟩, ⟨some 3, (.mv (.t 10)), no⟩])))))) (.seq (.seq 
 (.reg [⟨some 18, (.fld 0 (.t 1)), no⟩, ⟨some 19, (.ld false 1 (.t 18)), no⟩]) (.cond (.t 19) (.seq 
 (.reg [⟨some 20, (.fld 1 (.t 1)), no⟩, ⟨some 21, (.ld false 1 (.t 20)), no⟩, ⟨some 22, (.bin .eql (.t 21) (.k (.int .i64 0))), no⟩, ⟨some 23, (.mv (.t 22)), no⟩, ⟨some 24, (.fld 2 (.t 1)), (some (23, true))⟩, ⟨some 25, (.ld false 1 (.t 24)), (some (23, true))⟩, ⟨some 26, (.len false (.t 25)), (some (23, true))⟩, ⟨some 27, (.bin .leq (.t 26) (.k (.int .i64 40))), (some (23, true))⟩, ⟨some 28, (.pick (.t 23) (.t 27) (.k (.bool false))), no⟩, ⟨some 2, (.mv (.t 28)), no⟩]) .ret) .skip)) (.seq 
 (.reg [⟨some 29, (.fld 1 (.t 1)), no⟩, ⟨some 30, (.ld false 1 (.t 29)), no⟩, ⟨some 31, (.call (.k (.fn (.func 49) [] [])) [(.t 30)]), no⟩, ⟨some 32, (.mv (.t 31)), no⟩, ⟨some 33, (.fld 2 (.t 1)), (some (32, true))⟩, ⟨some 34, (.ld false 1 (.t 33)), (some (32, true))⟩, ⟨some 35, (.len false (.t 34)), (some (32, true))⟩, ⟨some 36, (.bin .eql (.t 35) (.k (.int .i64 0))), (some (32, true))⟩, ⟨some 37, (.pick (.t 32) (.t 36) (.k (.bool false))), no⟩, ⟨some 2, (.mv (.t 37)), no⟩]) .ret))))⟩
theorem a15_ok : compFn Try.prog Try.f15 = some a15 := by kernel_rfl

def a16 : AFn :=
⟨30, [(.t 2)], (.seq 
 (.reg [⟨some 1, (.boxv (.t 0)), no⟩, ⟨some 2, (.mv (.k (.bool false))), no⟩]) (.seq (.seq 
 (.reg [⟨some 3, (.fld 0 (.t 1)), no⟩, ⟨some 4, (.ld false 1 (.t 3)), no⟩, ⟨some 5, (.un .not (.t 4)), no⟩]) (.cond (.t 5) (.seq 
 (.reg [⟨some 6, (.fld 1 (.t 1)), no⟩, ⟨some 7, (.ld false 1 (.t 6)), no⟩, ⟨some 8, (.call (.k (.fn (.func 50) [] [])) [(.t 7)]), no⟩, ⟨some 9, (.mv (.t 8)), no⟩, ⟨some 10, (.fld 2 (.t 1)), (some (9, true))⟩, ⟨some 11, (.ld false 1 (.t 10)), (some (9, true))⟩, ⟨some 12, (.len false (.t 11)), (some (9, true))⟩, ⟨some 13, (.bin .eql (.t 12) (.k (.int .i64 0))), (some (9, true))⟩, ⟨some 14, (.pick (.t 9) (.t 13) (.k (.bool false))), no⟩, ⟨some 2, (.mv (.t 14)), no⟩]) .ret) .skip)) (.seq 
 (.reg [⟨some 15, (.fld 1 (.t 1)), no⟩, ⟨some 16, (.ld false 1 (.t 15)), no⟩, ⟨some 17, (.bin .eql (.t 16) (.k (.int .i64 0))), no⟩, ⟨some 18, (.mv (.t 17)), no⟩, ⟨some 19, (.fld 2 (.t 1)), (some (18, true))⟩, ⟨some 20, (.ld false 1 (.t 19)), (some (18, true))⟩, ⟨some 21, (.len false (.t 20)), (some (18, true))⟩, ⟨some 22, (.bin .leq (.t 21) (.k (.int .i64 40))), (some (18, true))⟩, ⟨some 23, (.pick (.t 18) (.t 22) (.k (.bool false))), no⟩, ⟨some 24, (.mv (.t 23)), no⟩, ⟨some 25, (.fld 2 (.t 1)), (some (24, true))⟩, ⟨some 26, (.ld false 1 (.t 25)), (some (24, true))⟩, ⟨some 27, (.call (.k (.fn (.func 51) [] [])) [(.t 26), (.k (.fn (.func 52) [] []))]), (some (24, true))⟩, ⟨some 28, (.un .not (.t 27)), (some (24, true))⟩, ⟨some 29, (.pick (.t 24) (.t 28) (.k (.bool false))), no⟩, ⟨some 2, (.mv (.t 29)), no⟩]) .ret)))⟩
theorem a16_ok : compFn Try.prog Try.f16 = some a16 := by kernel_rfl

def a49 : AFn :=
⟨5, [(.t 2)], (.seq 
 (.reg [⟨some 2, (.mv (.k (.bool false))), no⟩]) (.seq 
 (.reg [⟨some 3, (.mv (.t 0)), no⟩, ⟨some 4, (.call (.k (.fn (.func 84) [] [])) [(.t 3), (.k (.int .i64 (-1000000))), (.k (.int .i64 1000000))]), no⟩, ⟨some 2, (.mv (.t 4)), no⟩]) .ret))⟩
theorem a49_ok : compFn Try.prog Try.f49 = some a49 := by kernel_rfl

def a50 : AFn :=
⟨5, [(.t 2)], (.seq 
 (.reg [⟨some 2, (.mv (.k (.bool false))), no⟩]) (.seq 
 (.reg [⟨some 3, (.mv (.t 0)), no⟩, ⟨some 4, (.call (.k (.fn (.func 86) [] [])) [(.t 3), (.k (.int .i64 (-1000000))), (.k (.int .i64 1000000))]), no⟩, ⟨some 2, (.mv (.t 4)), no⟩]) .ret))⟩
theorem a50_ok : compFn Try.prog Try.f50 = some a50 := by kernel_rfl

def a51 : AFn :=
⟨9, [(.t 4)], (.seq 
 (.reg [⟨some 4, (.mv (.k (.bool false))), no⟩]) (.seq 
 (.reg [⟨some 5, (.mv (.t 0)), no⟩, ⟨some 6, (.mv (.t 1)), no⟩, ⟨some 7, (.call (.k (.fn (.func 95) [] [])) [(.t 5), (.t 6)]), no⟩, ⟨some 8, (.bin .geq (.t 7) (.k (.int .i64 0))), no⟩, ⟨some 4, (.mv (.t 8)), no⟩]) .ret))⟩
theorem a51_ok : compFn Try.prog Try.f51 = some a51 := by kernel_rfl

def a52 : AFn :=
⟨6, [(.t 2)], (.seq 
 (.reg [⟨some 2, (.mv (.k (.bool false))), no⟩]) (.seq 
 (.reg [⟨some 3, (.mv (.t 0)), no⟩, ⟨some 4, (.call (.k (.fn (.func 50) [] [])) [(.t 3)]), no⟩, ⟨some 5, (.un .not (.t 4)), no⟩, ⟨some 2, (.mv (.t 5)), no⟩]) .ret))⟩
theorem a52_ok : compFn Try.prog Try.f52 = some a52 := by kernel_rfl

def a84 : AFn :=
⟨15, [(.t 6)], (.seq 
 (.reg [⟨some 6, (.mv (.k (.bool false))), no⟩]) (.seq 
 (.reg [⟨some 7, (.mv (.t 0)), no⟩, ⟨some 8, (.mv (.t 1)), no⟩, ⟨some 9, (.bin .geq (.t 7) (.t 8)), no⟩, ⟨some 10, (.mv (.t 9)), no⟩, ⟨some 11, (.mv (.t 0)), (some (10, true))⟩, ⟨some 12, (.mv (.t 2)), (some (10, true))⟩, ⟨some 13, (.bin .leq (.t 11) (.t 12)), (some (10, true))⟩, ⟨some 14, (.pick (.t 10) (.t 13) (.k (.bool false))), no⟩, ⟨some 6, (.mv (.t 14)), no⟩]) .ret))⟩
theorem a84_ok : compFn Try.prog Try.f84 = some a84 := by kernel_rfl

def a86 : AFn :=
⟨15, [(.t 6)], (.seq 
 (.reg [⟨some 6, (.mv (.k (.bool false))), no⟩]) (.seq 
 (.reg [⟨some 7, (.mv (.t 0)), no⟩, ⟨some 8, (.mv (.t 1)), no⟩, ⟨some 9, (.bin .geq (.t 7) (.t 8)), no⟩, ⟨some 10, (.mv (.t 9)), no⟩, ⟨some 11, (.mv (.t 0)), (some (10, true))⟩, ⟨some 12, (.mv (.t 2)), (some (10, true))⟩, ⟨some 13, (.bin .leq (.t 11) (.t 12)), (some (10, true))⟩, ⟨some 14, (.pick (.t 10) (.t 13) (.k (.bool false))), no⟩, ⟨some 6, (.mv (.t 14)), no⟩]) .ret))⟩
theorem a86_ok : compFn Try.prog Try.f86 = some a86 := by kernel_rfl

def a95 : AFn :=
⟨19, [(.t 4)], (.seq 
 (.reg [⟨some 4, (.mv (.k (.int .i64 0))), no⟩]) (.seq (.seq 
 (.reg [⟨some 6, (.mv (.t 0)), no⟩, ⟨some 7, (.len false (.t 6)), no⟩, ⟨some 8, (.mv (.k (.int .i64 0))), no⟩]) (.blk 0 (.loop (.seq 
 (.reg [⟨some 9, (.bin .lss (.t 8) (.t 7)), no⟩]) (.seq (.cond (.t 9) .skip (.exit 0)) (.seq (.blk 1 (.seq 
 (.reg [⟨some 10, (.mv (.t 8)), no⟩, ⟨some 5, (.mv (.t 10)), no⟩]) (.seq 
 (.reg [⟨some 11, (.mv (.t 1)), no⟩, ⟨some 12, (.mv (.t 0)), no⟩, ⟨some 13, (.mv (.t 5)), no⟩, ⟨some 14, (.ixa 1 (.t 12) (.t 13)), no⟩, ⟨some 15, (.ld false 1 (.t 14)), no⟩, ⟨some 16, (.call (.t 11) [(.t 15)]), no⟩]) (.cond (.t 16) (.seq 
 (.reg [⟨some 17, (.mv (.t 5)), no⟩, ⟨some 4, (.mv (.t 17)), no⟩]) .ret) .skip)))) 
 (.reg [⟨some 18, (.bin .add (.t 8) (.k (.int .i64 1))), no⟩, ⟨some 8, (.mv (.t 18)), no⟩]))))))) (.seq 
 (.reg [⟨some 4, (.mv (.k (.int .i64 (-1)))), no⟩]) .ret)))⟩
theorem a95_ok : compFn Try.prog Try.f95 = some a95 := by kernel_rfl


end Go.Proofs.Ytlefdibgonpoaaa

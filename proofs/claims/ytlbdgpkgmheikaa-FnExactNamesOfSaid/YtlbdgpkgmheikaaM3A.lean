/- Contracts of the marks. -/
import Derived.Test.YtlbdgpkgmheikaaM2
namespace Go.Proofs.Ytlbdgpkgmheikaa
set_option linter.all false
open Go Go.RowKit Go.Proofs
def a84 : AFn :=
⟨19, [(.t 4)], (.seq 
 (.reg [⟨some 4, (.mv (.k (.int .i64 0))), no⟩]) (.seq (.seq 
 (.reg [⟨some 5, (.mv (.k (.int .i64 0))), no⟩]) (.blk 0 (.loop (.seq (.seq 
 (.reg [⟨some 6, (.mv (.t 5)), no⟩, ⟨some 7, (.mv (.t 0)), no⟩, ⟨some 8, (.len false (.t 7)), no⟩, ⟨some 9, (.bin .lss (.t 6) (.t 8)), no⟩]) (.cond (.t 9) .skip (.exit 0))) (.seq (.blk 1 (.seq 
 (.reg [⟨some 12, (.mv (.t 0)), no⟩, ⟨some 13, (.mv (.t 5)), no⟩, ⟨some 14, (.mv (.t 1)), no⟩, ⟨some 15, (.ixa 1 (.t 12) (.t 13)), no⟩, ⟨no, (.st 1 (.t 15) (.t 14)), no⟩]) 
 (.reg [⟨some 16, (.mv (.t 1)), no⟩, ⟨some 17, (.bin .add (.t 16) (.k (.int .i64 1))), no⟩, ⟨some 1, (.mv (.t 17)), no⟩]))) 
 (.reg [⟨some 10, (.mv (.t 5)), no⟩, ⟨some 11, (.bin .add (.t 10) (.k (.int .i64 1))), no⟩, ⟨some 5, (.mv (.t 11)), no⟩])))))) (.seq 
 (.reg [⟨some 18, (.mv (.t 1)), no⟩, ⟨some 4, (.mv (.t 18)), no⟩]) .ret)))⟩
theorem a84_ok : compFn Try.prog Try.f84 = some a84 := by kernel_rfl

def a85 : AFn :=
⟨21, [(.t 4)], (.seq 
 (.reg [⟨some 4, (.mv (.k (.int .i64 0))), no⟩]) (.seq (.seq 
 (.reg [⟨some 5, (.mv (.k (.int .i64 0))), no⟩]) (.blk 0 (.loop (.seq (.seq 
 (.reg [⟨some 6, (.mv (.t 5)), no⟩, ⟨some 7, (.mv (.t 0)), no⟩, ⟨some 8, (.len false (.t 7)), no⟩, ⟨some 9, (.bin .lss (.t 6) (.t 8)), no⟩]) (.cond (.t 9) .skip (.exit 0))) (.seq (.blk 1 (.seq (.seq 
 (.reg [⟨some 12, (.mv (.t 0)), no⟩, ⟨some 13, (.mv (.t 5)), no⟩, ⟨some 14, (.ixa 1 (.t 12) (.t 13)), no⟩, ⟨some 15, (.ld false 1 (.t 14)), no⟩, ⟨some 16, (.mv (.t 1)), no⟩, ⟨some 17, (.bin .neq (.t 15) (.t 16)), no⟩]) (.cond (.t 17) (.seq 
 (.reg [⟨some 4, (.mv (.k (.int .i64 (-1)))), no⟩]) .ret) .skip)) 
 (.reg [⟨some 18, (.mv (.t 1)), no⟩, ⟨some 19, (.bin .add (.t 18) (.k (.int .i64 1))), no⟩, ⟨some 1, (.mv (.t 19)), no⟩]))) 
 (.reg [⟨some 10, (.mv (.t 5)), no⟩, ⟨some 11, (.bin .add (.t 10) (.k (.int .i64 1))), no⟩, ⟨some 5, (.mv (.t 11)), no⟩])))))) (.seq 
 (.reg [⟨some 20, (.mv (.t 1)), no⟩, ⟨some 4, (.mv (.t 20)), no⟩]) .ret)))⟩
theorem a85_ok : compFn Try.prog Try.f85 = some a85 := by kernel_rfl

def a22 : AFn :=
⟨27, [(.t 4)], (.seq 
 (.reg [⟨some 4, (.mv (.k (.int .i64 0))), no⟩]) (.seq (.seq 
 (.reg [⟨some 5, (.mv (.k (.int .i64 0))), no⟩]) (.blk 0 (.loop (.seq (.seq 
 (.reg [⟨some 6, (.mv (.t 5)), no⟩, ⟨some 7, (.mv (.t 0)), no⟩, ⟨some 8, (.len false (.t 7)), no⟩, ⟨some 9, (.bin .lss (.t 6) (.t 8)), no⟩]) (.cond (.t 9) .skip (.exit 0))) (.seq (.blk 1 (.seq 
 (.reg [⟨some 12, (.mv (.t 0)), no⟩, ⟨some 13, (.mv (.t 5)), no⟩, ⟨some 14, (.mv (.t 1)), no⟩, ⟨some 15, (.ixa 2 (.t 12) (.t 13)), no⟩, ⟨some 16, (.fld 0 (.t 15)), no⟩, ⟨no, (.st 1 (.t 16) (.t 14)), no⟩]) (.seq 
 (.reg [⟨some 17, (.mv (.t 1)), no⟩, ⟨some 18, (.bin .add (.t 17) (.k (.int .i64 1))), no⟩, ⟨some 1, (.mv (.t 18)), no⟩]) 
 (.reg [⟨some 19, (.mv (.t 0)), no⟩, ⟨some 20, (.mv (.t 5)), no⟩, ⟨some 21, (.ixa 2 (.t 19) (.t 20)), no⟩, ⟨some 22, (.fld 1 (.t 21)), no⟩, ⟨some 23, (.ld false 1 (.t 22)), no⟩, ⟨some 24, (.mv (.t 1)), no⟩, ⟨some 25, (.call (.k (.fn (.func 84) [] [])) [(.t 23), (.t 24)]), no⟩, ⟨some 1, (.mv (.t 25)), no⟩])))) 
 (.reg [⟨some 10, (.mv (.t 5)), no⟩, ⟨some 11, (.bin .add (.t 10) (.k (.int .i64 1))), no⟩, ⟨some 5, (.mv (.t 11)), no⟩])))))) (.seq 
 (.reg [⟨some 26, (.mv (.t 1)), no⟩, ⟨some 4, (.mv (.t 26)), no⟩]) .ret)))⟩
theorem a22_ok : compFn Try.prog Try.f22 = some a22 := by kernel_rfl

def a143 : AFn :=
⟨31, [(.t 4)], (.seq 
 (.reg [⟨some 4, (.mv (.k (.int .i64 0))), no⟩]) (.seq (.seq 
 (.reg [⟨some 5, (.mv (.k (.int .i64 0))), no⟩]) (.blk 0 (.loop (.seq (.seq 
 (.reg [⟨some 6, (.mv (.t 5)), no⟩, ⟨some 7, (.mv (.t 0)), no⟩, ⟨some 8, (.len false (.t 7)), no⟩, ⟨some 9, (.bin .lss (.t 6) (.t 8)), no⟩]) (.cond (.t 9) .skip (.exit 0))) (.seq (.blk 1 (.seq (.seq 
 (.reg [⟨some 12, (.mv (.t 0)), no⟩, ⟨some 13, (.mv (.t 5)), no⟩, ⟨some 14, (.ixa 2 (.t 12) (.t 13)), no⟩, ⟨some 15, (.fld 0 (.t 14)), no⟩, ⟨some 16, (.ld false 1 (.t 15)), no⟩, ⟨some 17, (.mv (.t 1)), no⟩, ⟨some 18, (.bin .neq (.t 16) (.t 17)), no⟩]) (.cond (.t 18) (.seq 
 (.reg [⟨some 4, (.mv (.k (.int .i64 (-1)))), no⟩]) .ret) .skip)) (.seq 
 (.reg [⟨some 19, (.mv (.t 1)), no⟩, ⟨some 20, (.bin .add (.t 19) (.k (.int .i64 1))), no⟩, ⟨some 1, (.mv (.t 20)), no⟩]) (.seq 
 (.reg [⟨some 21, (.mv (.t 0)), no⟩, ⟨some 22, (.mv (.t 5)), no⟩, ⟨some 23, (.ixa 2 (.t 21) (.t 22)), no⟩, ⟨some 24, (.fld 1 (.t 23)), no⟩, ⟨some 25, (.ld false 1 (.t 24)), no⟩, ⟨some 26, (.mv (.t 1)), no⟩, ⟨some 27, (.call (.k (.fn (.func 85) [] [])) [(.t 25), (.t 26)]), no⟩, ⟨some 1, (.mv (.t 27)), no⟩]) (.seq 
 (.reg [⟨some 28, (.mv (.t 1)), no⟩, ⟨some 29, (.bin .lss (.t 28) (.k (.int .i64 0))), no⟩]) (.cond (.t 29) (.seq 
 (.reg [⟨some 4, (.mv (.k (.int .i64 (-1)))), no⟩]) .ret) .skip)))))) 
 (.reg [⟨some 10, (.mv (.t 5)), no⟩, ⟨some 11, (.bin .add (.t 10) (.k (.int .i64 1))), no⟩, ⟨some 5, (.mv (.t 11)), no⟩])))))) (.seq 
 (.reg [⟨some 30, (.mv (.t 1)), no⟩, ⟨some 4, (.mv (.t 30)), no⟩]) .ret)))⟩
theorem a143_ok : compFn Try.prog Try.f143 = some a143 := by kernel_rfl

def a57 : AFn :=
⟨27, [(.t 4)], (.seq 
 (.reg [⟨some 4, (.mv (.k (.int .i64 0))), no⟩]) (.seq (.seq 
 (.reg [⟨some 5, (.mv (.k (.int .i64 0))), no⟩]) (.blk 0 (.loop (.seq (.seq 
 (.reg [⟨some 6, (.mv (.t 5)), no⟩, ⟨some 7, (.mv (.t 0)), no⟩, ⟨some 8, (.len false (.t 7)), no⟩, ⟨some 9, (.bin .lss (.t 6) (.t 8)), no⟩]) (.cond (.t 9) .skip (.exit 0))) (.seq (.blk 1 (.seq 
 (.reg [⟨some 12, (.mv (.t 0)), no⟩, ⟨some 13, (.mv (.t 5)), no⟩, ⟨some 14, (.mv (.t 1)), no⟩, ⟨some 15, (.ixa 2 (.t 12) (.t 13)), no⟩, ⟨some 16, (.fld 0 (.t 15)), no⟩, ⟨no, (.st 1 (.t 16) (.t 14)), no⟩]) (.seq 
 (.reg [⟨some 17, (.mv (.t 1)), no⟩, ⟨some 18, (.bin .add (.t 17) (.k (.int .i64 1))), no⟩, ⟨some 1, (.mv (.t 18)), no⟩]) 
 (.reg [⟨some 19, (.mv (.t 0)), no⟩, ⟨some 20, (.mv (.t 5)), no⟩, ⟨some 21, (.ixa 2 (.t 19) (.t 20)), no⟩, ⟨some 22, (.fld 1 (.t 21)), no⟩, ⟨some 23, (.ld false 1 (.t 22)), no⟩, ⟨some 24, (.mv (.t 1)), no⟩, ⟨some 25, (.call (.k (.fn (.func 84) [] [])) [(.t 23), (.t 24)]), no⟩, ⟨some 1, (.mv (.t 25)), no⟩])))) 
 (.reg [⟨some 10, (.mv (.t 5)), no⟩, ⟨some 11, (.bin .add (.t 10) (.k (.int .i64 1))), no⟩, ⟨some 5, (.mv (.t 11)), no⟩])))))) (.seq 
 (.reg [⟨some 26, (.mv (.t 1)), no⟩, ⟨some 4, (.mv (.t 26)), no⟩]) .ret)))⟩
theorem a57_ok : compFn Try.prog Try.f57 = some a57 := by kernel_rfl

def a58 : AFn :=
⟨31, [(.t 4)], (.seq 
 (.reg [⟨some 4, (.mv (.k (.int .i64 0))), no⟩]) (.seq (.seq 
 (.reg [⟨some 5, (.mv (.k (.int .i64 0))), no⟩]) (.blk 0 (.loop (.seq (.seq 
 (.reg [⟨some 6, (.mv (.t 5)), no⟩, ⟨some 7, (.mv (.t 0)), no⟩, ⟨some 8, (.len false (.t 7)), no⟩, ⟨some 9, (.bin .lss (.t 6) (.t 8)), no⟩]) (.cond (.t 9) .skip (.exit 0))) (.seq (.blk 1 (.seq (.seq 
 (.reg [⟨some 12, (.mv (.t 0)), no⟩, ⟨some 13, (.mv (.t 5)), no⟩, ⟨some 14, (.ixa 2 (.t 12) (.t 13)), no⟩, ⟨some 15, (.fld 0 (.t 14)), no⟩, ⟨some 16, (.ld false 1 (.t 15)), no⟩, ⟨some 17, (.mv (.t 1)), no⟩, ⟨some 18, (.bin .neq (.t 16) (.t 17)), no⟩]) (.cond (.t 18) (.seq 
 (.reg [⟨some 4, (.mv (.k (.int .i64 (-1)))), no⟩]) .ret) .skip)) (.seq 
 (.reg [⟨some 19, (.mv (.t 1)), no⟩, ⟨some 20, (.bin .add (.t 19) (.k (.int .i64 1))), no⟩, ⟨some 1, (.mv (.t 20)), no⟩]) (.seq 
 (.reg [⟨some 21, (.mv (.t 0)), no⟩, ⟨some 22, (.mv (.t 5)), no⟩, ⟨some 23, (.ixa 2 (.t 21) (.t 22)), no⟩, ⟨some 24, (.fld 1 (.t 23)), no⟩, ⟨some 25, (.ld false 1 (.t 24)), no⟩, ⟨some 26, (.mv (.t 1)), no⟩, ⟨some 27, (.call (.k (.fn (.func 85) [] [])) [(.t 25), (.t 26)]), no⟩, ⟨some 1, (.mv (.t 27)), no⟩]) (.seq 
 (.reg [⟨some 28, (.mv (.t 1)), no⟩, ⟨some 29, (.bin .lss (.t 28) (.k (.int .i64 0))), no⟩]) (.cond (.t 29) (.seq 
 (.reg [⟨some 4, (.mv (.k (.int .i64 (-1)))), no⟩]) .ret) .skip)))))) 
 (.reg [⟨some 10, (.mv (.t 5)), no⟩, ⟨some 11, (.bin .add (.t 10) (.k (.int .i64 1))), no⟩, ⟨some 5, (.mv (.t 11)), no⟩])))))) (.seq 
 (.reg [⟨some 30, (.mv (.t 1)), no⟩, ⟨some 4, (.mv (.t 30)), no⟩]) .ret)))⟩
theorem a58_ok : compFn Try.prog Try.f58 = some a58 := by kernel_rfl

def a52 : AFn :=
⟨20, [(.t 4)], (.seq 
 (.reg [⟨some 4, (.mv (.k (.int .i64 0))), no⟩]) (.seq (.seq 
 (.reg [⟨some 5, (.mv (.k (.int .i64 0))), no⟩]) (.blk 0 (.loop (.seq (.seq 
 (.reg [⟨some 6, (.mv (.t 5)), no⟩, ⟨some 7, (.mv (.t 0)), no⟩, ⟨some 8, (.len false (.t 7)), no⟩, ⟨some 9, (.bin .lss (.t 6) (.t 8)), no⟩]) (.cond (.t 9) .skip (.exit 0))) (.seq (.blk 1 (.seq 
 (.reg [⟨some 12, (.mv (.t 0)), no⟩, ⟨some 13, (.mv (.t 5)), no⟩, ⟨some 14, (.mv (.t 1)), no⟩, ⟨some 15, (.call (.k (.fn (.func 122) [] [])) [(.t 14)]), no⟩, ⟨some 16, (.ixa 1 (.t 12) (.t 13)), no⟩, ⟨no, (.st 1 (.t 16) (.t 15)), no⟩]) 
 (.reg [⟨some 17, (.mv (.t 1)), no⟩, ⟨some 18, (.bin .add (.t 17) (.k (.int .i64 1))), no⟩, ⟨some 1, (.mv (.t 18)), no⟩]))) 
 (.reg [⟨some 10, (.mv (.t 5)), no⟩, ⟨some 11, (.bin .add (.t 10) (.k (.int .i64 1))), no⟩, ⟨some 5, (.mv (.t 11)), no⟩])))))) (.seq 
 (.reg [⟨some 19, (.mv (.t 1)), no⟩, ⟨some 4, (.mv (.t 19)), no⟩]) .ret)))⟩
theorem a52_ok : compFn Try.prog Try.f52 = some a52 := by kernel_rfl

def a53 : AFn :=
⟨22, [(.t 4)], (.seq 
 (.reg [⟨some 4, (.mv (.k (.int .i64 0))), no⟩]) (.seq (.seq 
 (.reg [⟨some 5, (.mv (.k (.int .i64 0))), no⟩]) (.blk 0 (.loop (.seq (.seq 
 (.reg [⟨some 6, (.mv (.t 5)), no⟩, ⟨some 7, (.mv (.t 0)), no⟩, ⟨some 8, (.len false (.t 7)), no⟩, ⟨some 9, (.bin .lss (.t 6) (.t 8)), no⟩]) (.cond (.t 9) .skip (.exit 0))) (.seq (.blk 1 (.seq (.seq (.draw (.op ⟨some 12, (.mv (.t 0)), no⟩ (.op ⟨some 13, (.mv (.t 5)), no⟩ (.op ⟨some 14, (.ixa 1 (.t 12) (.t 13)), no⟩ (.op ⟨some 15, (.ld false 1 (.t 14)), no⟩ (.op ⟨some 16, (.mv (.t 1)), no⟩ (.op ⟨some 17, (.call (.k (.fn (.func 122) [] [])) [(.t 16)]), no⟩ (.op ⟨some 18, (.bin .neq (.t 15) (.t 17)), no⟩ .fin)))))))) (.cond (.t 18) (.seq 
 (.reg [⟨some 4, (.mv (.k (.int .i64 (-1)))), no⟩]) .ret) .skip)) 
 (.reg [⟨some 19, (.mv (.t 1)), no⟩, ⟨some 20, (.bin .add (.t 19) (.k (.int .i64 1))), no⟩, ⟨some 1, (.mv (.t 20)), no⟩]))) 
 (.reg [⟨some 10, (.mv (.t 5)), no⟩, ⟨some 11, (.bin .add (.t 10) (.k (.int .i64 1))), no⟩, ⟨some 5, (.mv (.t 11)), no⟩])))))) (.seq 
 (.reg [⟨some 21, (.mv (.t 1)), no⟩, ⟨some 4, (.mv (.t 21)), no⟩]) .ret)))⟩
theorem a53_ok : compFn Try.prog Try.f53 = some a53 := by kernel_rfl

def a107 : AFn :=
⟨19, [(.t 4)], (.seq 
 (.reg [⟨some 4, (.mv (.k (.int .i64 0))), no⟩]) (.seq (.seq 
 (.reg [⟨some 5, (.mv (.k (.int .i64 0))), no⟩]) (.blk 0 (.loop (.seq (.seq 
 (.reg [⟨some 6, (.mv (.t 5)), no⟩, ⟨some 7, (.mv (.t 0)), no⟩, ⟨some 8, (.len false (.t 7)), no⟩, ⟨some 9, (.bin .lss (.t 6) (.t 8)), no⟩]) (.cond (.t 9) .skip (.exit 0))) (.seq (.blk 1 
 (.reg [⟨some 12, (.mv (.t 0)), no⟩, ⟨some 13, (.mv (.t 5)), no⟩, ⟨some 14, (.ixa 1 (.t 12) (.t 13)), no⟩, ⟨some 15, (.ld false 1 (.t 14)), no⟩, ⟨some 16, (.mv (.t 1)), no⟩, ⟨some 17, (.call (.k (.fn (.func 22) [] [])) [(.t 15), (.t 16)]), no⟩, ⟨some 1, (.mv (.t 17)), no⟩])) 
 (.reg [⟨some 10, (.mv (.t 5)), no⟩, ⟨some 11, (.bin .add (.t 10) (.k (.int .i64 1))), no⟩, ⟨some 5, (.mv (.t 11)), no⟩])))))) (.seq 
 (.reg [⟨some 18, (.mv (.t 1)), no⟩, ⟨some 4, (.mv (.t 18)), no⟩]) .ret)))⟩
theorem a107_ok : compFn Try.prog Try.f107 = some a107 := by kernel_rfl

def a56 : AFn :=
⟨45, [(.t 4)], (.seq 
 (.reg [⟨some 4, (.mv (.k (.int .i64 0))), no⟩]) (.seq (.seq 
 (.reg [⟨some 5, (.mv (.k (.int .i64 0))), no⟩]) (.blk 0 (.loop (.seq (.seq 
 (.reg [⟨some 6, (.mv (.t 5)), no⟩, ⟨some 7, (.mv (.t 0)), no⟩, ⟨some 8, (.len false (.t 7)), no⟩, ⟨some 9, (.bin .lss (.t 6) (.t 8)), no⟩]) (.cond (.t 9) .skip (.exit 0))) (.seq (.blk 1 (.seq 
 (.reg [⟨some 12, (.mv (.t 0)), no⟩, ⟨some 13, (.mv (.t 5)), no⟩, ⟨some 14, (.mv (.t 1)), no⟩, ⟨some 15, (.ixa 4 (.t 12) (.t 13)), no⟩, ⟨some 16, (.fld 0 (.t 15)), no⟩, ⟨some 17, (.fld 0 (.t 16)), no⟩, ⟨no, (.st 1 (.t 17) (.t 14)), no⟩]) (.seq 
 (.reg [⟨some 18, (.mv (.t 1)), no⟩, ⟨some 19, (.bin .add (.t 18) (.k (.int .i64 1))), no⟩, ⟨some 1, (.mv (.t 19)), no⟩]) (.seq 
 (.reg [⟨some 20, (.mv (.t 0)), no⟩, ⟨some 21, (.mv (.t 5)), no⟩, ⟨some 22, (.ixa 4 (.t 20) (.t 21)), no⟩, ⟨some 23, (.fld 0 (.t 22)), no⟩, ⟨some 24, (.fld 1 (.t 23)), no⟩, ⟨some 25, (.ld false 1 (.t 24)), no⟩, ⟨some 26, (.mv (.t 1)), no⟩, ⟨some 27, (.call (.k (.fn (.func 22) [] [])) [(.t 25), (.t 26)]), no⟩, ⟨some 1, (.mv (.t 27)), no⟩]) (.seq 
 (.reg [⟨some 28, (.mv (.t 0)), no⟩, ⟨some 29, (.mv (.t 5)), no⟩, ⟨some 30, (.mv (.t 1)), no⟩, ⟨some 31, (.ixa 4 (.t 28) (.t 29)), no⟩, ⟨some 32, (.fld 2 (.t 31)), no⟩, ⟨some 33, (.fld 0 (.t 32)), no⟩, ⟨no, (.st 1 (.t 33) (.t 30)), no⟩]) (.seq 
 (.reg [⟨some 34, (.mv (.t 1)), no⟩, ⟨some 35, (.bin .add (.t 34) (.k (.int .i64 1))), no⟩, ⟨some 1, (.mv (.t 35)), no⟩]) 
 (.reg [⟨some 36, (.mv (.t 0)), no⟩, ⟨some 37, (.mv (.t 5)), no⟩, ⟨some 38, (.ixa 4 (.t 36) (.t 37)), no⟩, ⟨some 39, (.fld 2 (.t 38)), no⟩, ⟨some 40, (.fld 1 (.t 39)), no⟩, ⟨some 41, (.ld false 1 (.t 40)), no⟩, ⟨some 42, (.mv (.t 1)), no⟩, ⟨some 43, (.call (.k (.fn (.func 84) [] [])) [(.t 41), (.t 42)]), no⟩, ⟨some 1, (.mv (.t 43)), no⟩]))))))) 
 (.reg [⟨some 10, (.mv (.t 5)), no⟩, ⟨some 11, (.bin .add (.t 10) (.k (.int .i64 1))), no⟩, ⟨some 5, (.mv (.t 11)), no⟩])))))) (.seq 
 (.reg [⟨some 44, (.mv (.t 1)), no⟩, ⟨some 4, (.mv (.t 44)), no⟩]) .ret)))⟩
theorem a56_ok : compFn Try.prog Try.f56 = some a56 := by kernel_rfl

def a21 : AFn :=
⟨10, [(.t 4)], (.seq 
 (.reg [⟨some 2, (.boxv (.t 0)), no⟩, ⟨some 4, (.mv (.k (.int .i64 0))), no⟩]) (.seq 
 (.reg [⟨some 5, (.fld 1 (.t 2)), no⟩, ⟨some 6, (.ld false 1 (.t 5)), no⟩, ⟨some 7, (.mv (.t 1)), no⟩, ⟨some 8, (.call (.k (.fn (.func 84) [] [])) [(.t 6), (.t 7)]), no⟩, ⟨some 1, (.mv (.t 8)), no⟩]) (.seq 
 (.reg [⟨some 9, (.mv (.t 1)), no⟩, ⟨some 4, (.mv (.t 9)), no⟩]) .ret)))⟩
theorem a21_ok : compFn Try.prog Try.f21 = some a21 := by kernel_rfl

def a23 : AFn :=
⟨12, [(.t 4)], (.seq 
 (.reg [⟨some 2, (.boxv (.t 0)), no⟩, ⟨some 4, (.mv (.k (.int .i64 0))), no⟩]) (.seq 
 (.reg [⟨some 5, (.fld 1 (.t 2)), no⟩, ⟨some 6, (.ld false 1 (.t 5)), no⟩, ⟨some 7, (.mv (.t 1)), no⟩, ⟨some 8, (.call (.k (.fn (.func 85) [] [])) [(.t 6), (.t 7)]), no⟩, ⟨some 1, (.mv (.t 8)), no⟩]) (.seq (.seq 
 (.reg [⟨some 9, (.mv (.t 1)), no⟩, ⟨some 10, (.bin .lss (.t 9) (.k (.int .i64 0))), no⟩]) (.cond (.t 10) (.seq 
 (.reg [⟨some 4, (.mv (.k (.int .i64 (-1)))), no⟩]) .ret) .skip)) (.seq 
 (.reg [⟨some 11, (.mv (.t 1)), no⟩, ⟨some 4, (.mv (.t 11)), no⟩]) .ret))))⟩
theorem a23_ok : compFn Try.prog Try.f23 = some a23 := by kernel_rfl

def a106 : AFn :=
⟨10, [(.t 4)], (.seq 
 (.reg [⟨some 2, (.boxv (.t 0)), no⟩, ⟨some 4, (.mv (.k (.int .i64 0))), no⟩]) (.seq 
 (.reg [⟨some 5, (.fld 1 (.t 2)), no⟩, ⟨some 6, (.ld false 1 (.t 5)), no⟩, ⟨some 7, (.mv (.t 1)), no⟩, ⟨some 8, (.call (.k (.fn (.func 22) [] [])) [(.t 6), (.t 7)]), no⟩, ⟨some 1, (.mv (.t 8)), no⟩]) (.seq 
 (.reg [⟨some 9, (.mv (.t 1)), no⟩, ⟨some 4, (.mv (.t 9)), no⟩]) .ret)))⟩
theorem a106_ok : compFn Try.prog Try.f106 = some a106 := by kernel_rfl

def a34 : AFn :=
⟨22, [(.t 4)], (.seq 
 (.reg [⟨some 2, (.boxv (.t 0)), no⟩, ⟨some 4, (.mv (.k (.int .i64 0))), no⟩]) (.seq 
 (.reg [⟨some 5, (.fld 0 (.t 2)), no⟩, ⟨some 6, (.ld true 2 (.t 5)), no⟩, ⟨some 7, (.mv (.t 1)), no⟩, ⟨some 8, (.call (.k (.fn (.func 106) [] [])) [(.t 6), (.t 7)]), no⟩, ⟨some 1, (.mv (.t 8)), no⟩]) (.seq 
 (.reg [⟨some 9, (.fld 2 (.t 2)), no⟩, ⟨some 10, (.ld false 1 (.t 9)), no⟩, ⟨some 11, (.mv (.t 1)), no⟩, ⟨some 12, (.call (.k (.fn (.func 22) [] [])) [(.t 10), (.t 11)]), no⟩, ⟨some 1, (.mv (.t 12)), no⟩]) (.seq 
 (.reg [⟨some 13, (.fld 3 (.t 2)), no⟩, ⟨some 14, (.ld false 1 (.t 13)), no⟩, ⟨some 15, (.mv (.t 1)), no⟩, ⟨some 16, (.call (.k (.fn (.func 107) [] [])) [(.t 14), (.t 15)]), no⟩, ⟨some 1, (.mv (.t 16)), no⟩]) (.seq 
 (.reg [⟨some 17, (.fld 4 (.t 2)), no⟩, ⟨some 18, (.ld true 2 (.t 17)), no⟩, ⟨some 19, (.mv (.t 1)), no⟩, ⟨some 20, (.call (.k (.fn (.func 21) [] [])) [(.t 18), (.t 19)]), no⟩, ⟨some 1, (.mv (.t 20)), no⟩]) (.seq 
 (.reg [⟨some 21, (.mv (.t 1)), no⟩, ⟨some 4, (.mv (.t 21)), no⟩]) .ret))))))⟩
theorem a34_ok : compFn Try.prog Try.f34 = some a34 := by kernel_rfl


set_option maxRecDepth 20000 in
set_option maxHeartbeats 1000000 in
theorem m_markIntS (l : List Int) (k : Int) (h0 : 0 ≤ k ∧ k + cIntS l ≤ 4611686018427387904) : Marks Try.prog 84 (.us 1 (intsR l)) k (.us 1 (intsR (mkIntS l k))) (k + cIntS l) := by
  intro h n a I K hT hI hn hK
  obtain ⟨id, rows0, I0, rfl, _, hB, _⟩ := TR_us hT
  simp only [intsR, List.length_map] at hT hB hK ⊢
  refine acall_len Try.func84 rfl rfl (by rw [hB]; simp) fun hlim => ?_
  refine acall_body Try.func84 a84_ok rfl (by simp [a84]) ?_
  simp [a84]
  unfold cIntS at *
  refine rL_forO [0] 5 l.length (fun i s h1 n1 => MJ (fun _ k => k) (fun _ => 1) (fun n => [i64 n]) 1 h n id I l k i (s 1) h1 n1) hlim (by simp) (by simpa using MJ.start hT) ?_ ?_
  · rintro i s h1 n1 R hi hg hk s5 hw hJ hR hret _
    simp at hk
    obtain ⟨x, ki, rows, cells, I2, s1, hki, hki2, hlen, hc0, hnd, hI2, hstart, hclose⟩ := hJ.step2 hI hn hi
    obtain ⟨_, rfl, hc1⟩ := TRl_int.1 hc0
    obtain ⟨rfl, rfl⟩ := TRl_nil.1 hc1
    have S := hstart _ Kids.nil
    have e := S.e
    have w0 : IntKind.i64.wrap (ki + 1) = ki + 1 := wrap64 (by omega)
    simp [hk, s5, hi, hw, s1, e, hlen, w0]
    intro _
    refine hR _ _ _ (by simp [hk]) (by simp) (hclose _ _ [.int .i64 (ki)] _ _ S.store (TRl_int.2 ⟨_, rfl, (TRl_nil.2 ⟨rfl, rfl⟩)⟩) (by simp [i64]; try omega))
  · rintro s h1 n1 R hk s5 hJ hret hX
    simp at hk
    obtain ⟨s1, hn1, hf, ht⟩ := hJ.fin
    simp [hk, s5, s1]
    refine ⟨TR_some ht, fun _ => ?_⟩
    refine hX _ _ _ _ ?_
    simp [hk, s5, s1]
    exact hK _ _ hn1 hf ht

set_option maxRecDepth 20000 in
set_option maxHeartbeats 1000000 in
theorem k_heldIntS (l : List Int) (k : Int) (h0 : 0 ≤ k ∧ k + cIntS l ≤ 4611686018427387904) : Holds Try.prog 85 [.sl 1 (intsR (mkIntS l k)), i64 k] (fun r => r = i64 (k + cIntS l)) := by
  refine holds_of_lim Try.func85 rfl rfl fun hlim => ?_
  simp at hlim
  generalize hM : mkIntS l k = M at *
  refine holds_of_run Try.func85 a85_ok rfl (by simp [a85]) ?_
  simp [a85]
  unfold cIntS at *
  refine rL_forO [0] 5 M.length (fun i s h1 n1 => HJ (fun _ k => k) (fun _ => 1) M l k i (s 1)) hlim (by simp) (by rw [← hM]; simp; exact HJ.start) ?_ ?_
  · rintro i s h1 n1 R hi hg hk s5 hw hJ hR hret _
    simp at hk
    obtain ⟨x, ki, s1, hki, hki2, hx, hclose⟩ := hJ.step hi
    have w0 : IntKind.i64.wrap (ki + 1) = ki + 1 := wrap64 (by omega)
    simp [hk, s5, hi, hw, s1, hx, w0]
    intro _
    first | done | refine hR _ _ _ (by simp [hk]) (by simp) (hclose _ (by simp [i64]; try omega))
  · rintro s h1 n1 R hk s5 hJ hret hX
    simp at hk
    have s1 := hJ.fin (Nat.le_refl _)
    simp [hk, s5, s1]
    first | refine hX _ _ _ _ ?_ | (intro _; refine hX _ _ _ _ ?_)
    simp [hk, s5, s1]

set_option maxRecDepth 20000 in
set_option maxHeartbeats 1000000 in
theorem m_markLinS (l : List DLin) (k : Int) (h0 : 0 ≤ k ∧ k + cLinS l ≤ 4611686018427387904) : Marks Try.prog 22 (.us 2 (l.map rULin)) k (.us 2 ((mkLinS l k).map rULin)) (k + cLinS l) := by
  intro h n a I K hT hI hn hK
  obtain ⟨id, rows0, I0, rfl, _, hB, _⟩ := TR_us hT
  simp only [List.length_map] at hT hB hK ⊢
  refine acall_len Try.func22 rfl rfl (by rw [hB]; simp) fun hlim => ?_
  refine acall_body Try.func22 a22_ok rfl (by simp [a22]) ?_
  simp [a22]
  unfold cLinS at *
  refine rL_forO [0] 5 l.length (fun i s h1 n1 => MJ mkrLin crLin rULin 2 h n id I l k i (s 1) h1 n1) hlim (by simp) (by simpa using MJ.start hT) ?_ ?_
  · rintro i s h1 n1 R hi hg hk s5 hw hJ hR hret _
    simp at hk
    obtain ⟨x, ki, rows, cells, I2, s1, hki, hki2, hlen, hc0, hnd, hI2, hstart, hclose⟩ := hJ.step2 hI hn hi
    simp only [rULin] at hc0
    simp only [crLin] at hki2
    obtain ⟨_, rfl, hc1⟩ := TRl_int.1 hc0
    obtain ⟨d1, len1, _, J1, _, rfl, rfl, hl1, ht1, hc2⟩ := TRl_us hc1
    have hq1 : len1 = (x.Coeffs).length := by simpa using hl1
    subst hq1
    obtain ⟨rfl, rfl⟩ := TRl_nil.1 hc2
    have S := hstart _ (Kids.cons ht1 hnd hI2 fun hnd hI2 => Kids.nil)
    have e := S.e
    have w0 : IntKind.i64.wrap (ki + 1) = ki + 1 := wrap64 (by omega)
    simp [hk, s5, hi, hw, s1, e, hlen, w0]
    intro _
    refine RS.mark (T1 := []) (m_markIntS _ _ (by omega)) S.store ?_
    clear S e
    intro h2 n2 S
    have e := S.e
    simp [hk, s5, hi, hw, s1, e, hlen, w0]
    refine hR _ _ _ (by simp [hk]) (by simp) (hclose _ _ [.int .i64 (ki), .ref d1 0 (x.Coeffs).length] _ _ S (TRl_int.2 ⟨_, rfl, (TRl_cons (S.live.ids (_, .ref d1 0 _, J1) (by simp [mkrLin])).1 (TRl_nil.2 ⟨rfl, rfl⟩))⟩) (by simp [i64, crLin]; try omega))
  · rintro s h1 n1 R hk s5 hJ hret hX
    simp at hk
    obtain ⟨s1, hn1, hf, ht⟩ := hJ.fin
    simp [hk, s5, s1]
    refine ⟨TR_some ht, fun _ => ?_⟩
    refine hX _ _ _ _ ?_
    simp [hk, s5, s1]
    exact hK _ _ hn1 hf ht

set_option maxRecDepth 20000 in
set_option maxHeartbeats 1000000 in
theorem k_heldLinS (l : List DLin) (k : Int) (h0 : 0 ≤ k ∧ k + cLinS l ≤ 4611686018427387904) : Holds Try.prog 143 [.sl 2 ((mkLinS l k).map rALin), i64 k] (fun r => r = i64 (k + cLinS l)) := by
  refine holds_of_lim Try.func143 rfl rfl fun hlim => ?_
  simp at hlim
  generalize hM : mkLinS l k = M at *
  refine holds_of_run Try.func143 a143_ok rfl (by simp [a143]) ?_
  simp [a143]
  unfold cLinS at *
  refine rL_forO [0] 5 M.length (fun i s h1 n1 => HJ mkrLin crLin M l k i (s 1)) hlim (by simp) (by rw [← hM]; simp; exact HJ.start) ?_ ?_
  · rintro i s h1 n1 R hi hg hk s5 hw hJ hR hret _
    simp at hk
    obtain ⟨x, ki, s1, hki, hki2, hx, hclose⟩ := hJ.step hi
    simp only [crLin] at hki2
    have w0 : IntKind.i64.wrap (ki + 1) = ki + 1 := wrap64 (by omega)
    simp [hk, s5, hi, hw, s1, hx, mkrLin, w0]
    intro _
    first | refine callD_of (k_heldIntS (x.Coeffs) (ki + 1) (by omega)) (by simp [hk, s5, hi, hw, s1, hx, mkrLin, w0]) ?_ | refine call_of (k_heldIntS (x.Coeffs) (ki + 1) (by omega)) (by simp [hk, s5, hi, hw, s1, hx, mkrLin, w0]) ?_
    rintro r rfl
    have g1 : ¬ ki + 1 + (cIntS x.Coeffs : Int) < 0 := by omega
    simp [hk, s5, hi, hw, s1, hx, mkrLin, w0, g1]
    first | done | refine hR _ _ _ (by simp [hk]) (by simp) (hclose _ (by simp [i64, crLin]; try omega))
  · rintro s h1 n1 R hk s5 hJ hret hX
    simp at hk
    have s1 := hJ.fin (Nat.le_refl _)
    simp [hk, s5, s1]
    first | refine hX _ _ _ _ ?_ | (intro _; refine hX _ _ _ _ ?_)
    simp [hk, s5, s1]

set_option maxRecDepth 20000 in
set_option maxHeartbeats 1000000 in
theorem m_markFarkasS (l : List DFarkas) (k : Int) (h0 : 0 ≤ k ∧ k + cFarkasS l ≤ 4611686018427387904) : Marks Try.prog 57 (.us 2 (l.map rUFarkas)) k (.us 2 ((mkFarkasS l k).map rUFarkas)) (k + cFarkasS l) := by
  intro h n a I K hT hI hn hK
  obtain ⟨id, rows0, I0, rfl, _, hB, _⟩ := TR_us hT
  simp only [List.length_map] at hT hB hK ⊢
  refine acall_len Try.func57 rfl rfl (by rw [hB]; simp) fun hlim => ?_
  refine acall_body Try.func57 a57_ok rfl (by simp [a57]) ?_
  simp [a57]
  unfold cFarkasS at *
  refine rL_forO [0] 5 l.length (fun i s h1 n1 => MJ mkrFarkas crFarkas rUFarkas 2 h n id I l k i (s 1) h1 n1) hlim (by simp) (by simpa using MJ.start hT) ?_ ?_
  · rintro i s h1 n1 R hi hg hk s5 hw hJ hR hret _
    simp at hk
    obtain ⟨x, ki, rows, cells, I2, s1, hki, hki2, hlen, hc0, hnd, hI2, hstart, hclose⟩ := hJ.step2 hI hn hi
    simp only [rUFarkas] at hc0
    simp only [crFarkas] at hki2
    obtain ⟨_, rfl, hc1⟩ := TRl_int.1 hc0
    obtain ⟨d1, len1, _, J1, _, rfl, rfl, hl1, ht1, hc2⟩ := TRl_us hc1
    have hq1 : len1 = (x.Mult).length := by simpa using hl1
    subst hq1
    obtain ⟨rfl, rfl⟩ := TRl_nil.1 hc2
    have S := hstart _ (Kids.cons ht1 hnd hI2 fun hnd hI2 => Kids.nil)
    have e := S.e
    have w0 : IntKind.i64.wrap (ki + 1) = ki + 1 := wrap64 (by omega)
    simp [hk, s5, hi, hw, s1, e, hlen, w0]
    intro _
    refine RS.mark (T1 := []) (m_markIntS _ _ (by omega)) S.store ?_
    clear S e
    intro h2 n2 S
    have e := S.e
    simp [hk, s5, hi, hw, s1, e, hlen, w0]
    refine hR _ _ _ (by simp [hk]) (by simp) (hclose _ _ [.int .i64 (ki), .ref d1 0 (x.Mult).length] _ _ S (TRl_int.2 ⟨_, rfl, (TRl_cons (S.live.ids (_, .ref d1 0 _, J1) (by simp [mkrFarkas])).1 (TRl_nil.2 ⟨rfl, rfl⟩))⟩) (by simp [i64, crFarkas]; try omega))
  · rintro s h1 n1 R hk s5 hJ hret hX
    simp at hk
    obtain ⟨s1, hn1, hf, ht⟩ := hJ.fin
    simp [hk, s5, s1]
    refine ⟨TR_some ht, fun _ => ?_⟩
    refine hX _ _ _ _ ?_
    simp [hk, s5, s1]
    exact hK _ _ hn1 hf ht

set_option maxRecDepth 20000 in
set_option maxHeartbeats 1000000 in
theorem k_heldFarkasS (l : List DFarkas) (k : Int) (h0 : 0 ≤ k ∧ k + cFarkasS l ≤ 4611686018427387904) : Holds Try.prog 58 [.sl 2 ((mkFarkasS l k).map rAFarkas), i64 k] (fun r => r = i64 (k + cFarkasS l)) := by
  refine holds_of_lim Try.func58 rfl rfl fun hlim => ?_
  simp at hlim
  generalize hM : mkFarkasS l k = M at *
  refine holds_of_run Try.func58 a58_ok rfl (by simp [a58]) ?_
  simp [a58]
  unfold cFarkasS at *
  refine rL_forO [0] 5 M.length (fun i s h1 n1 => HJ mkrFarkas crFarkas M l k i (s 1)) hlim (by simp) (by rw [← hM]; simp; exact HJ.start) ?_ ?_
  · rintro i s h1 n1 R hi hg hk s5 hw hJ hR hret _
    simp at hk
    obtain ⟨x, ki, s1, hki, hki2, hx, hclose⟩ := hJ.step hi
    simp only [crFarkas] at hki2
    have w0 : IntKind.i64.wrap (ki + 1) = ki + 1 := wrap64 (by omega)
    simp [hk, s5, hi, hw, s1, hx, mkrFarkas, w0]
    intro _
    first | refine callD_of (k_heldIntS (x.Mult) (ki + 1) (by omega)) (by simp [hk, s5, hi, hw, s1, hx, mkrFarkas, w0]) ?_ | refine call_of (k_heldIntS (x.Mult) (ki + 1) (by omega)) (by simp [hk, s5, hi, hw, s1, hx, mkrFarkas, w0]) ?_
    rintro r rfl
    have g1 : ¬ ki + 1 + (cIntS x.Mult : Int) < 0 := by omega
    simp [hk, s5, hi, hw, s1, hx, mkrFarkas, w0, g1]
    first | done | refine hR _ _ _ (by simp [hk]) (by simp) (hclose _ (by simp [i64, crFarkas]; try omega))
  · rintro s h1 n1 R hk s5 hJ hret hX
    simp at hk
    have s1 := hJ.fin (Nat.le_refl _)
    simp [hk, s5, s1]
    first | refine hX _ _ _ _ ?_ | (intro _; refine hX _ _ _ _ ?_)
    simp [hk, s5, s1]

set_option maxRecDepth 20000 in
set_option maxHeartbeats 1000000 in
theorem m_markStringS (l : List Str) (k : Int) (h0 : 0 ≤ k ∧ k + cStringS l ≤ 4611686018427387904) : Marks Try.prog 52 (.us 1 (strsR l)) k (.us 1 (strsR (mkStringS l k))) (k + cStringS l) := by
  intro h n a I K hT hI hn hK
  obtain ⟨id, rows0, I0, rfl, _, hB, _⟩ := TR_us hT
  simp only [strsR, List.length_map] at hT hB hK ⊢
  refine acall_len Try.func52 rfl rfl (by rw [hB]; simp) fun hlim => ?_
  refine acall_body Try.func52 a52_ok rfl (by simp [a52]) ?_
  simp [a52]
  unfold cStringS at *
  refine rL_forO [0] 5 l.length (fun i s h1 n1 => MJ (fun _ k => mtx k) (fun _ => 1) (fun s => [.str s]) 1 h n id I l k i (s 1) h1 n1) hlim (by simp) (by simpa using MJ.start hT) ?_ ?_
  · rintro i s h1 n1 R hi hg hk s5 hw hJ hR hret _
    simp at hk
    obtain ⟨x, ki, rows, cells, I2, s1, hki, hki2, hlen, hc0, hnd, hI2, hstart, hclose⟩ := hJ.step2 hI hn hi
    obtain ⟨_, rfl, hc1⟩ := TRl_str.1 hc0
    obtain ⟨rfl, rfl⟩ := TRl_nil.1 hc1
    have S := hstart _ Kids.nil
    have e := S.e
    have w0 : IntKind.i64.wrap (ki + 1) = ki + 1 := wrap64 (by omega)
    simp [hk, s5, hi, hw, s1, e, hlen, w0]
    intro _
    first | refine callD_of (k_markText (ki) (by omega)) (by simp) ?_ | refine call_of (k_markText (ki) (by omega)) (by simp) ?_
    rintro r rfl
    simp [hk, s5, hi, hw, s1, e, hlen, w0]
    refine hR _ _ _ (by simp [hk]) (by simp) (hclose _ _ [.str (mtx (ki))] _ _ S.store (TRl_str.2 ⟨_, rfl, (TRl_nil.2 ⟨rfl, rfl⟩)⟩) (by simp [i64]; try omega))
  · rintro s h1 n1 R hk s5 hJ hret hX
    simp at hk
    obtain ⟨s1, hn1, hf, ht⟩ := hJ.fin
    simp [hk, s5, s1]
    refine ⟨TR_some ht, fun _ => ?_⟩
    refine hX _ _ _ _ ?_
    simp [hk, s5, s1]
    exact hK _ _ hn1 hf ht

set_option maxRecDepth 20000 in
set_option maxHeartbeats 1000000 in
theorem k_heldStringS (l : List Str) (k : Int) (h0 : 0 ≤ k ∧ k + cStringS l ≤ 4611686018427387904) : Holds Try.prog 53 [.sl 1 (strsR (mkStringS l k)), i64 k] (fun r => r = i64 (k + cStringS l)) := by
  refine holds_of_lim Try.func53 rfl rfl fun hlim => ?_
  simp at hlim
  generalize hM : mkStringS l k = M at *
  refine holds_of_run Try.func53 a53_ok rfl (by simp [a53]) ?_
  simp [a53]
  unfold cStringS at *
  refine rL_forO [0] 5 M.length (fun i s h1 n1 => HJ (fun _ k => mtx k) (fun _ => 1) M l k i (s 1)) hlim (by simp) (by rw [← hM]; simp; exact HJ.start) ?_ ?_
  · rintro i s h1 n1 R hi hg hk s5 hw hJ hR hret _
    simp at hk
    obtain ⟨x, ki, s1, hki, hki2, hx, hclose⟩ := hJ.step hi
    have w0 : IntKind.i64.wrap (ki + 1) = ki + 1 := wrap64 (by omega)
    simp [hk, s5, hi, hw, s1, hx, w0]
    intro _
    first | refine callD_of (k_markText (ki) (by omega)) (by simp) ?_ | refine call_of (k_markText (ki) (by omega)) (by simp) ?_
    rintro r rfl
    simp [hk, s5, hi, hw, s1, hx, w0]
    first | done | refine hR _ _ _ (by simp [hk]) (by simp) (hclose _ (by simp [i64]; try omega))
  · rintro s h1 n1 R hk s5 hJ hret hX
    simp at hk
    have s1 := hJ.fin (Nat.le_refl _)
    simp [hk, s5, s1]
    first | refine hX _ _ _ _ ?_ | (intro _; refine hX _ _ _ _ ?_)
    simp [hk, s5, s1]

set_option maxRecDepth 20000 in
set_option maxHeartbeats 1000000 in
theorem m_markLinSS (l : List (List DLin)) (k : Int) (h0 : 0 ≤ k ∧ k + cLinSS l ≤ 4611686018427387904) : Marks Try.prog 107 (.us 1 (l.map rULinS)) k (.us 1 ((mkLinSS l k).map rULinS)) (k + cLinSS l) := by
  intro h n a I K hT hI hn hK
  obtain ⟨id, rows0, I0, rfl, _, hB, _⟩ := TR_us hT
  simp only [List.length_map] at hT hB hK ⊢
  refine acall_len Try.func107 rfl rfl (by rw [hB]; simp) fun hlim => ?_
  refine acall_body Try.func107 a107_ok rfl (by simp [a107]) ?_
  simp [a107]
  unfold cLinSS at *
  refine rL_forO [0] 5 l.length (fun i s h1 n1 => MJ mkLinS cLinS rULinS 1 h n id I l k i (s 1) h1 n1) hlim (by simp) (by simpa using MJ.start hT) ?_ ?_
  · rintro i s h1 n1 R hi hg hk s5 hw hJ hR hret _
    simp at hk
    obtain ⟨x, ki, rows, cells, I2, s1, hki, hki2, hlen, hc0, hnd, hI2, hstart, hclose⟩ := hJ.step2 hI hn hi
    simp only [rULinS] at hc0
    obtain ⟨d0, len0, _, J0, _, rfl, rfl, hl0, ht0, hc1⟩ := TRl_us hc0
    have hq0 : len0 = (x).length := by simpa using hl0
    subst hq0
    obtain ⟨rfl, rfl⟩ := TRl_nil.1 hc1
    have S := hstart _ (Kids.cons ht0 hnd hI2 fun hnd hI2 => Kids.nil)
    have e := S.e
    simp [hk, s5, hi, hw, s1, e, hlen]
    intro _
    refine RS.mark (T1 := []) (m_markLinS _ _ (by omega)) S ?_
    clear S e
    intro h2 n2 S
    have e := S.e
    simp [hk, s5, hi, hw, s1, e, hlen]
    refine hR _ _ _ (by simp [hk]) (by simp) (hclose _ _ [.ref d0 0 (x).length] _ _ S (TRl_cons (S.live.ids (_, .ref d0 0 _, J0) (by simp)).1 (TRl_nil.2 ⟨rfl, rfl⟩)) (by simp [i64]; try omega))
  · rintro s h1 n1 R hk s5 hJ hret hX
    simp at hk
    obtain ⟨s1, hn1, hf, ht⟩ := hJ.fin
    simp [hk, s5, s1]
    refine ⟨TR_some ht, fun _ => ?_⟩
    refine hX _ _ _ _ ?_
    simp [hk, s5, s1]
    exact hK _ _ hn1 hf ht

set_option maxRecDepth 20000 in
set_option maxHeartbeats 1000000 in
theorem m_markObligationS (l : List DObligation) (k : Int) (h0 : 0 ≤ k ∧ k + cObligationS l ≤ 4611686018427387904) : Marks Try.prog 56 (.us 4 (l.map rUObligation)) k (.us 4 ((mkObligationS l k).map rUObligation)) (k + cObligationS l) := by
  intro h n a I K hT hI hn hK
  obtain ⟨id, rows0, I0, rfl, _, hB, _⟩ := TR_us hT
  simp only [List.length_map] at hT hB hK ⊢
  refine acall_len Try.func56 rfl rfl (by rw [hB]; simp) fun hlim => ?_
  refine acall_body Try.func56 a56_ok rfl (by simp [a56]) ?_
  simp [a56]
  unfold cObligationS at *
  refine rL_forO [0] 5 l.length (fun i s h1 n1 => MJ mkrObligation crObligation rUObligation 4 h n id I l k i (s 1) h1 n1) hlim (by simp) (by simpa using MJ.start hT) ?_ ?_
  · rintro i s h1 n1 R hi hg hk s5 hw hJ hR hret _
    simp at hk
    obtain ⟨x, ki, rows, cells, I2, s1, hki, hki2, hlen, hc0, hnd, hI2, hstart, hclose⟩ := hJ.step2 hI hn hi
    simp only [rUObligation] at hc0
    simp only [crObligation] at hki2
    obtain ⟨_, rfl, hc1⟩ := TRl_int.1 hc0
    obtain ⟨d1, len1, _, J1, _, rfl, rfl, hl1, ht1, hc2⟩ := TRl_us hc1
    have hq1 : len1 = (x.System.Rows).length := by simpa using hl1
    subst hq1
    obtain ⟨_, rfl, hc3⟩ := TRl_int.1 hc2
    obtain ⟨d3, len3, _, J3, _, rfl, rfl, hl3, ht3, hc4⟩ := TRl_us hc3
    have hq3 : len3 = (x.Target.Coeffs).length := by simpa using hl3
    subst hq3
    obtain ⟨rfl, rfl⟩ := TRl_nil.1 hc4
    have S := hstart _ (Kids.cons ht1 hnd hI2 fun hnd hI2 => (Kids.cons ht3 hnd hI2 fun hnd hI2 => Kids.nil))
    have e := S.e
    have w0 : IntKind.i64.wrap (ki + 1) = ki + 1 := wrap64 (by omega)
    have w1 : IntKind.i64.wrap (ki + 1 + cLinS x.System.Rows + 1) = ki + 1 + cLinS x.System.Rows + 1 := wrap64 (by omega)
    simp [hk, s5, hi, hw, s1, e, hlen, w0, w1]
    intro _
    refine RS.mark (T1 := []) (m_markLinS _ _ (by omega)) S.store ?_
    clear S e
    intro h2 n2 S
    have e := S.e
    simp [hk, s5, hi, hw, s1, e, hlen, w0, w1]
    refine RS.mark (T1 := [_]) (m_markIntS _ _ (by omega)) S.store ?_
    clear S e
    intro h2 n2 S
    have e := S.e
    simp [hk, s5, hi, hw, s1, e, hlen, w0, w1]
    refine hR _ _ _ (by simp [hk]) (by simp) (hclose _ _ [.int .i64 (ki), .ref d1 0 (x.System.Rows).length, .int .i64 (ki + 1 + cLinS x.System.Rows), .ref d3 0 (x.Target.Coeffs).length] _ _ S (TRl_int.2 ⟨_, rfl, (TRl_cons (S.live.ids (_, .ref d1 0 _, J1) (by simp [mkrObligation])).1 (TRl_int.2 ⟨_, rfl, (TRl_cons (S.live.ids (_, .ref d3 0 _, J3) (by simp [mkrObligation])).1 (TRl_nil.2 ⟨rfl, rfl⟩))⟩))⟩) (by simp [i64, crObligation]; try omega))
  · rintro s h1 n1 R hk s5 hJ hret hX
    simp at hk
    obtain ⟨s1, hn1, hf, ht⟩ := hJ.fin
    simp [hk, s5, s1]
    refine ⟨TR_some ht, fun _ => ?_⟩
    refine hX _ _ _ _ ?_
    simp [hk, s5, s1]
    exact hK _ _ hn1 hf ht

set_option maxRecDepth 20000 in
set_option maxHeartbeats 1000000 in
theorem m_markLin (x : DLin) (k : Int) (h0 : 0 ≤ k ∧ k + cLin x ≤ 4611686018427387904) : Marks Try.prog 21 (.agg (rULin x)) k (.agg (rULin (mkLin x k))) (k + cLin x) := by
  intro h n a I K hT hI hn hK
  obtain ⟨cs, rfl, hc0⟩ := TR_agg.1 hT
  simp only [cLin] at h0
  obtain ⟨_, rfl, hc1⟩ := TRl_int.1 hc0
  obtain ⟨d1, len1, _, J1, _, rfl, rfl, hl1, ht1, hc2⟩ := TRl_us hc1
  have hq1 : len1 = (x.Coeffs).length := by simpa using hl1
  subst hq1
  obtain ⟨rfl, rfl⟩ := TRl_nil.1 hc2
  refine acall_body Try.func21 a21_ok rfl (by simp [a21]) ?_
  simp [a21]
  have S := RS.box (sz := 2) (cells := [.int .i64 (x.Const), .ref d1 0 (x.Coeffs).length]) (Kids.cons (ht1) hI hn fun hI hn => Kids.nil) hn
  refine RS.mark (T1 := []) (m_markIntS x.Coeffs (k) (by omega)) S ?_
  clear S
  intro h2 n2 S
  have e := S.e
  simp [e]
  have hb := S.unbox
  have ht : TR h2 (.agg (rULin (mkLin x k))) _ _ := TR_aggs.2 (TRl_int.2 ⟨_, rfl, (TRl_cons (S.live.ids (.us 1 (intsR (mkIntS x.Coeffs (k))), .ref d1 0 (x.Coeffs).length, J1) (by simp)).1 (TRl_nil.2 ⟨rfl, rfl⟩))⟩)
  have hk := hK _ _ hb.1 hb.2 ht
  simp only [cLin] at hk
  refine cast ?_ hk
  congr 2
  first | done | (simp; try omega)

set_option maxRecDepth 20000 in
set_option maxHeartbeats 1000000 in
theorem k_heldLin (x : DLin) (k : Int) (h0 : 0 ≤ k ∧ k + cLin x ≤ 4611686018427387904) : Holds Try.prog 23 [.agg (rALin (mkLin x k)), i64 k] (fun r => r = i64 (k + cLin x)) := by
  refine holds_of_run Try.func23 a23_ok rfl (by simp [a23]) ?_
  simp [a23, rALin, mkLin]
  simp only [cLin] at h0
  first | refine callD_of (k_heldIntS x.Coeffs (k) (by omega)) (by simp [rALin, mkLin]) ?_ | refine call_of (k_heldIntS x.Coeffs (k) (by omega)) (by simp [rALin, mkLin]) ?_
  rintro r rfl
  have g1 : ¬ k + (cIntS x.Coeffs : Int) < 0 := by omega
  simp [g1]
  first | done | (simp [cLin]; try omega)

set_option maxRecDepth 20000 in
set_option maxHeartbeats 1000000 in
theorem m_markSystem (x : DSystem) (k : Int) (h0 : 0 ≤ k ∧ k + cSystem x ≤ 4611686018427387904) : Marks Try.prog 106 (.agg (rUSystem x)) k (.agg (rUSystem (mkSystem x k))) (k + cSystem x) := by
  intro h n a I K hT hI hn hK
  obtain ⟨cs, rfl, hc0⟩ := TR_agg.1 hT
  simp only [cSystem] at h0
  obtain ⟨_, rfl, hc1⟩ := TRl_int.1 hc0
  obtain ⟨d1, len1, _, J1, _, rfl, rfl, hl1, ht1, hc2⟩ := TRl_us hc1
  have hq1 : len1 = (x.Rows).length := by simpa using hl1
  subst hq1
  obtain ⟨rfl, rfl⟩ := TRl_nil.1 hc2
  refine acall_body Try.func106 a106_ok rfl (by simp [a106]) ?_
  simp [a106]
  have S := RS.box (sz := 2) (cells := [.int .i64 (x.N), .ref d1 0 (x.Rows).length]) (Kids.cons (ht1) hI hn fun hI hn => Kids.nil) hn
  refine RS.mark (T1 := []) (m_markLinS x.Rows (k) (by omega)) S ?_
  clear S
  intro h2 n2 S
  have e := S.e
  simp [e]
  have hb := S.unbox
  have ht : TR h2 (.agg (rUSystem (mkSystem x k))) _ _ := TR_aggs.2 (TRl_int.2 ⟨_, rfl, (TRl_cons (S.live.ids (.us 2 ((mkLinS x.Rows (k)).map rULin), .ref d1 0 (x.Rows).length, J1) (by simp)).1 (TRl_nil.2 ⟨rfl, rfl⟩))⟩)
  have hk := hK _ _ hb.1 hb.2 ht
  simp only [cSystem] at hk
  refine cast ?_ hk
  congr 2
  first | done | (simp; try omega)

set_option maxRecDepth 20000 in
set_option maxHeartbeats 1000000 in
theorem m_markModel (x : DModel) (k : Int) (h0 : 0 ≤ k ∧ k + cModel x ≤ 4611686018427387904) : Marks Try.prog 34 (.agg (rUModel x)) k (.agg (rUModel (mkModel x k))) (k + cModel x) := by
  intro h n a I K hT hI hn hK
  obtain ⟨cs, rfl, hc0⟩ := TR_agg.1 hT
  simp only [cModel] at h0
  obtain ⟨as0, _, J0, _, rfl, rfl, hg0, hc1⟩ := TRl_app (A := rUSystem x.System) (B := [.us 2 (x.Params.map rULin), .us 1 (x.Args.map rULinS), i64 x.Result.Const, .us 1 (intsR x.Result.Coeffs)]) hc0
  have hs0_0 := hg0
  simp only [rUSystem] at hs0_0
  obtain ⟨_, rfl, hs0_1⟩ := TRl_int.1 hs0_0
  obtain ⟨d0_1, len0_1, _, J0_1, _, rfl, rfl, hl0_1, _, hs0_2⟩ := TRl_us hs0_1
  have hq0_1 : len0_1 = (x.System.Rows).length := by simpa using hl0_1
  subst hq0_1
  obtain ⟨rfl, rfl⟩ := TRl_nil.1 hs0_2
  obtain ⟨d1, len1, _, J1, _, rfl, rfl, hl1, ht1, hc2⟩ := TRl_us hc1
  have hq1 : len1 = (x.Params).length := by simpa using hl1
  subst hq1
  obtain ⟨d2, len2, _, J2, _, rfl, rfl, hl2, ht2, hc3⟩ := TRl_us hc2
  have hq2 : len2 = (x.Args).length := by simpa using hl2
  subst hq2
  obtain ⟨as3, _, J3, _, rfl, rfl, hg3, hc4⟩ := TRl_app (A := rULin x.Result) (B := []) hc3
  have hs3_0 := hg3
  simp only [rULin] at hs3_0
  obtain ⟨_, rfl, hs3_1⟩ := TRl_int.1 hs3_0
  obtain ⟨d3_1, len3_1, _, J3_1, _, rfl, rfl, hl3_1, _, hs3_2⟩ := TRl_us hs3_1
  have hq3_1 : len3_1 = (x.Result.Coeffs).length := by simpa using hl3_1
  subst hq3_1
  obtain ⟨rfl, rfl⟩ := TRl_nil.1 hs3_2
  obtain ⟨rfl, rfl⟩ := TRl_nil.1 hc4
  refine acall_body Try.func34 a34_ok rfl (by simp [a34]) ?_
  simp [a34]
  have S := RS.box (sz := 6) (cells := [.int .i64 (x.System.N), .ref d0_1 0 (x.System.Rows).length, .ref d1 0 (x.Params).length, .ref d2 0 (x.Args).length, .int .i64 (x.Result.Const), .ref d3_1 0 (x.Result.Coeffs).length]) (Kids.cons (TR_aggs.2 hg0) hI hn fun hI hn => (Kids.cons (ht1) hI hn fun hI hn => (Kids.cons (ht2) hI hn fun hI hn => (Kids.cons (TR_aggs.2 hg3) hI hn fun hI hn => Kids.nil)))) hn
  refine RS.mark (T1 := []) (m_markSystem x.System (k) (by omega)) S ?_
  clear S
  intro h2 n2 S
  have e := S.e
  simp [e]
  refine RS.mark (T1 := [_]) (m_markLinS x.Params (k + cSystem x.System) (by omega)) S ?_
  clear S
  intro h2 n2 S
  have e := S.e
  simp [e]
  refine RS.mark (T1 := [_, _]) (m_markLinSS x.Args (k + cSystem x.System + cLinS x.Params) (by omega)) S ?_
  clear S
  intro h2 n2 S
  have e := S.e
  simp [e]
  refine RS.mark (T1 := [_, _, _]) (m_markLin x.Result (k + cSystem x.System + cLinS x.Params + cLinSS x.Args) (by omega)) S ?_
  clear S
  intro h2 n2 S
  have e := S.e
  simp [e]
  have hb := S.unbox
  have ht : TR h2 (.agg (rUModel (mkModel x k))) _ _ := TR_aggs.2 (TRl_app_mk (A := rUSystem (mkSystem x.System (k))) (TR_aggs.1 (S.live.ids (.agg (rUSystem (mkSystem x.System (k))), .agg [.int .i64 (x.System.N), .ref d0_1 0 (x.System.Rows).length], J0_1 ++ ([])) (by simp)).1) (TRl_cons (S.live.ids (.us 2 ((mkLinS x.Params (k + cSystem x.System)).map rULin), .ref d1 0 (x.Params).length, J1) (by simp)).1 (TRl_cons (S.live.ids (.us 1 ((mkLinSS x.Args (k + cSystem x.System + cLinS x.Params)).map rULinS), .ref d2 0 (x.Args).length, J2) (by simp)).1 (TRl_app_mk (A := rULin (mkLin x.Result (k + cSystem x.System + cLinS x.Params + cLinSS x.Args))) (TR_aggs.1 (S.live.ids (.agg (rULin (mkLin x.Result (k + cSystem x.System + cLinS x.Params + cLinSS x.Args))), .agg [.int .i64 (x.Result.Const), .ref d3_1 0 (x.Result.Coeffs).length], J3_1 ++ ([])) (by simp)).1) (TRl_nil.2 ⟨rfl, rfl⟩)))))
  have hk := hK _ _ hb.1 hb.2 ht
  simp only [cModel] at hk
  refine cast ?_ hk
  congr 2
  first | done | (simp; try omega)

end Go.Proofs.Ytlbdgpkgmheikaa

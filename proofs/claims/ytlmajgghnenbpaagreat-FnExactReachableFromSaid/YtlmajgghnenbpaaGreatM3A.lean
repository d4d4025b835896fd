/- Contracts of the marks. -/
import Derived.Test.YtlmajgghnenbpaaGreatM2
namespace Go.Proofs.YtlmajgghnenbpaaGreat
set_option linter.all false
open Go Go.RowKit Go.Proofs
def a127 : AFn :=
⟨19, [(.t 4)], (.seq 
 (.reg [⟨some 4, (.mv (.k (.int .i64 0))), no⟩]) (.seq (.seq 
 (.reg [⟨some 5, (.mv (.k (.int .i64 0))), no⟩]) (.blk 0 (.loop (.seq (.seq 
 (.reg [⟨some 6, (.mv (.t 5)), no⟩, ⟨some 7, (.mv (.t 0)), no⟩, ⟨some 8, (.len false (.t 7)), no⟩, ⟨some 9, (.bin .lss (.t 6) (.t 8)), no⟩]) (.cond (.t 9) .skip (.exit 0))) (.seq (.blk 1 (.seq 
 (.reg [⟨some 12, (.mv (.t 0)), no⟩, ⟨some 13, (.mv (.t 5)), no⟩, ⟨some 14, (.mv (.t 1)), no⟩, ⟨some 15, (.ixa 1 (.t 12) (.t 13)), no⟩, ⟨no, (.st 1 (.t 15) (.t 14)), no⟩]) 
 (.reg [⟨some 16, (.mv (.t 1)), no⟩, ⟨some 17, (.bin .add (.t 16) (.k (.int .i64 1))), no⟩, ⟨some 1, (.mv (.t 17)), no⟩]))) 
 (.reg [⟨some 10, (.mv (.t 5)), no⟩, ⟨some 11, (.bin .add (.t 10) (.k (.int .i64 1))), no⟩, ⟨some 5, (.mv (.t 11)), no⟩])))))) (.seq 
 (.reg [⟨some 18, (.mv (.t 1)), no⟩, ⟨some 4, (.mv (.t 18)), no⟩]) .ret)))⟩
theorem a127_ok : compFn Tryz.prog Tryz.f127 = some a127 := by kernel_rfl

def a151 : AFn :=
⟨21, [(.t 4)], (.seq 
 (.reg [⟨some 4, (.mv (.k (.int .i64 0))), no⟩]) (.seq (.seq 
 (.reg [⟨some 5, (.mv (.k (.int .i64 0))), no⟩]) (.blk 0 (.loop (.seq (.seq 
 (.reg [⟨some 6, (.mv (.t 5)), no⟩, ⟨some 7, (.mv (.t 0)), no⟩, ⟨some 8, (.len false (.t 7)), no⟩, ⟨some 9, (.bin .lss (.t 6) (.t 8)), no⟩]) (.cond (.t 9) .skip (.exit 0))) (.seq (.blk 1 (.seq (.seq 
 (.reg [⟨some 12, (.mv (.t 0)), no⟩, ⟨some 13, (.mv (.t 5)), no⟩, ⟨some 14, (.ixa 1 (.t 12) (.t 13)), no⟩, ⟨some 15, (.ld false 1 (.t 14)), no⟩, ⟨some 16, (.mv (.t 1)), no⟩, ⟨some 17, (.bin .neq (.t 15) (.t 16)), no⟩]) (.cond (.t 17) (.seq 
 (.reg [⟨some 4, (.mv (.k (.int .i64 (-1)))), no⟩]) .ret) .skip)) 
 (.reg [⟨some 18, (.mv (.t 1)), no⟩, ⟨some 19, (.bin .add (.t 18) (.k (.int .i64 1))), no⟩, ⟨some 1, (.mv (.t 19)), no⟩]))) 
 (.reg [⟨some 10, (.mv (.t 5)), no⟩, ⟨some 11, (.bin .add (.t 10) (.k (.int .i64 1))), no⟩, ⟨some 5, (.mv (.t 11)), no⟩])))))) (.seq 
 (.reg [⟨some 20, (.mv (.t 1)), no⟩, ⟨some 4, (.mv (.t 20)), no⟩]) .ret)))⟩
theorem a151_ok : compFn Tryz.prog Tryz.f151 = some a151 := by kernel_rfl

def a115 : AFn :=
⟨27, [(.t 4)], (.seq 
 (.reg [⟨some 4, (.mv (.k (.int .i64 0))), no⟩]) (.seq (.seq 
 (.reg [⟨some 5, (.mv (.k (.int .i64 0))), no⟩]) (.blk 0 (.loop (.seq (.seq 
 (.reg [⟨some 6, (.mv (.t 5)), no⟩, ⟨some 7, (.mv (.t 0)), no⟩, ⟨some 8, (.len false (.t 7)), no⟩, ⟨some 9, (.bin .lss (.t 6) (.t 8)), no⟩]) (.cond (.t 9) .skip (.exit 0))) (.seq (.blk 1 (.seq 
 (.reg [⟨some 12, (.mv (.t 0)), no⟩, ⟨some 13, (.mv (.t 5)), no⟩, ⟨some 14, (.mv (.t 1)), no⟩, ⟨some 15, (.ixa 2 (.t 12) (.t 13)), no⟩, ⟨some 16, (.fld 0 (.t 15)), no⟩, ⟨no, (.st 1 (.t 16) (.t 14)), no⟩]) (.seq 
 (.reg [⟨some 17, (.mv (.t 1)), no⟩, ⟨some 18, (.bin .add (.t 17) (.k (.int .i64 1))), no⟩, ⟨some 1, (.mv (.t 18)), no⟩]) 
 (.reg [⟨some 19, (.mv (.t 0)), no⟩, ⟨some 20, (.mv (.t 5)), no⟩, ⟨some 21, (.ixa 2 (.t 19) (.t 20)), no⟩, ⟨some 22, (.fld 1 (.t 21)), no⟩, ⟨some 23, (.ld false 1 (.t 22)), no⟩, ⟨some 24, (.mv (.t 1)), no⟩, ⟨some 25, (.call (.k (.fn (.func 127) [] [])) [(.t 23), (.t 24)]), no⟩, ⟨some 1, (.mv (.t 25)), no⟩])))) 
 (.reg [⟨some 10, (.mv (.t 5)), no⟩, ⟨some 11, (.bin .add (.t 10) (.k (.int .i64 1))), no⟩, ⟨some 5, (.mv (.t 11)), no⟩])))))) (.seq 
 (.reg [⟨some 26, (.mv (.t 1)), no⟩, ⟨some 4, (.mv (.t 26)), no⟩]) .ret)))⟩
theorem a115_ok : compFn Tryz.prog Tryz.f115 = some a115 := by kernel_rfl

def a116 : AFn :=
⟨31, [(.t 4)], (.seq 
 (.reg [⟨some 4, (.mv (.k (.int .i64 0))), no⟩]) (.seq (.seq 
 (.reg [⟨some 5, (.mv (.k (.int .i64 0))), no⟩]) (.blk 0 (.loop (.seq (.seq 
 (.reg [⟨some 6, (.mv (.t 5)), no⟩, ⟨some 7, (.mv (.t 0)), no⟩, ⟨some 8, (.len false (.t 7)), no⟩, ⟨some 9, (.bin .lss (.t 6) (.t 8)), no⟩]) (.cond (.t 9) .skip (.exit 0))) (.seq (.blk 1 (.seq (.seq 
 (.reg [⟨some 12, (.mv (.t 0)), no⟩, ⟨some 13, (.mv (.t 5)), no⟩, ⟨some 14, (.ixa 2 (.t 12) (.t 13)), no⟩, ⟨some 15, (.fld 0 (.t 14)), no⟩, ⟨some 16, (.ld false 1 (.t 15)), no⟩, ⟨some 17, (.mv (.t 1)), no⟩, ⟨some 18, (.bin .neq (.t 16) (.t 17)), no⟩]) (.cond (.t 18) (.seq 
 (.reg [⟨some 4, (.mv (.k (.int .i64 (-1)))), no⟩]) .ret) .skip)) (.seq 
 (.reg [⟨some 19, (.mv (.t 1)), no⟩, ⟨some 20, (.bin .add (.t 19) (.k (.int .i64 1))), no⟩, ⟨some 1, (.mv (.t 20)), no⟩]) (.seq 
 (.reg [⟨some 21, (.mv (.t 0)), no⟩, ⟨some 22, (.mv (.t 5)), no⟩, ⟨some 23, (.ixa 2 (.t 21) (.t 22)), no⟩, ⟨some 24, (.fld 1 (.t 23)), no⟩, ⟨some 25, (.ld false 1 (.t 24)), no⟩, ⟨some 26, (.mv (.t 1)), no⟩, ⟨some 27, (.call (.k (.fn (.func 151) [] [])) [(.t 25), (.t 26)]), no⟩, ⟨some 1, (.mv (.t 27)), no⟩]) (.seq 
 (.reg [⟨some 28, (.mv (.t 1)), no⟩, ⟨some 29, (.bin .lss (.t 28) (.k (.int .i64 0))), no⟩]) (.cond (.t 29) (.seq 
 (.reg [⟨some 4, (.mv (.k (.int .i64 (-1)))), no⟩]) .ret) .skip)))))) 
 (.reg [⟨some 10, (.mv (.t 5)), no⟩, ⟨some 11, (.bin .add (.t 10) (.k (.int .i64 1))), no⟩, ⟨some 5, (.mv (.t 11)), no⟩])))))) (.seq 
 (.reg [⟨some 30, (.mv (.t 1)), no⟩, ⟨some 4, (.mv (.t 30)), no⟩]) .ret)))⟩
theorem a116_ok : compFn Tryz.prog Tryz.f116 = some a116 := by kernel_rfl

def a37 : AFn :=
⟨20, [(.t 4)], (.seq 
 (.reg [⟨some 4, (.mv (.k (.int .i64 0))), no⟩]) (.seq (.seq 
 (.reg [⟨some 5, (.mv (.k (.int .i64 0))), no⟩]) (.blk 0 (.loop (.seq (.seq 
 (.reg [⟨some 6, (.mv (.t 5)), no⟩, ⟨some 7, (.mv (.t 0)), no⟩, ⟨some 8, (.len false (.t 7)), no⟩, ⟨some 9, (.bin .lss (.t 6) (.t 8)), no⟩]) (.cond (.t 9) .skip (.exit 0))) (.seq (.blk 1 (.seq 
 (.reg [⟨some 12, (.mv (.t 0)), no⟩, ⟨some 13, (.mv (.t 5)), no⟩, ⟨some 14, (.mv (.t 1)), no⟩, ⟨some 15, (.call (.k (.fn (.func 110) [] [])) [(.t 14)]), no⟩, ⟨some 16, (.ixa 1 (.t 12) (.t 13)), no⟩, ⟨no, (.st 1 (.t 16) (.t 15)), no⟩]) 
 (.reg [⟨some 17, (.mv (.t 1)), no⟩, ⟨some 18, (.bin .add (.t 17) (.k (.int .i64 1))), no⟩, ⟨some 1, (.mv (.t 18)), no⟩]))) 
 (.reg [⟨some 10, (.mv (.t 5)), no⟩, ⟨some 11, (.bin .add (.t 10) (.k (.int .i64 1))), no⟩, ⟨some 5, (.mv (.t 11)), no⟩])))))) (.seq 
 (.reg [⟨some 19, (.mv (.t 1)), no⟩, ⟨some 4, (.mv (.t 19)), no⟩]) .ret)))⟩
theorem a37_ok : compFn Tryz.prog Tryz.f37 = some a37 := by kernel_rfl

def a38 : AFn :=
⟨22, [(.t 4)], (.seq 
 (.reg [⟨some 4, (.mv (.k (.int .i64 0))), no⟩]) (.seq (.seq 
 (.reg [⟨some 5, (.mv (.k (.int .i64 0))), no⟩]) (.blk 0 (.loop (.seq (.seq 
 (.reg [⟨some 6, (.mv (.t 5)), no⟩, ⟨some 7, (.mv (.t 0)), no⟩, ⟨some 8, (.len false (.t 7)), no⟩, ⟨some 9, (.bin .lss (.t 6) (.t 8)), no⟩]) (.cond (.t 9) .skip (.exit 0))) (.seq (.blk 1 (.seq (.seq (.draw (.op ⟨some 12, (.mv (.t 0)), no⟩ (.op ⟨some 13, (.mv (.t 5)), no⟩ (.op ⟨some 14, (.ixa 1 (.t 12) (.t 13)), no⟩ (.op ⟨some 15, (.ld false 1 (.t 14)), no⟩ (.op ⟨some 16, (.mv (.t 1)), no⟩ (.op ⟨some 17, (.call (.k (.fn (.func 110) [] [])) [(.t 16)]), no⟩ (.op ⟨some 18, (.bin .neq (.t 15) (.t 17)), no⟩ .fin)))))))) (.cond (.t 18) (.seq 
 (.reg [⟨some 4, (.mv (.k (.int .i64 (-1)))), no⟩]) .ret) .skip)) 
 (.reg [⟨some 19, (.mv (.t 1)), no⟩, ⟨some 20, (.bin .add (.t 19) (.k (.int .i64 1))), no⟩, ⟨some 1, (.mv (.t 20)), no⟩]))) 
 (.reg [⟨some 10, (.mv (.t 5)), no⟩, ⟨some 11, (.bin .add (.t 10) (.k (.int .i64 1))), no⟩, ⟨some 5, (.mv (.t 11)), no⟩])))))) (.seq 
 (.reg [⟨some 21, (.mv (.t 1)), no⟩, ⟨some 4, (.mv (.t 21)), no⟩]) .ret)))⟩
theorem a38_ok : compFn Tryz.prog Tryz.f38 = some a38 := by kernel_rfl

def a68 : AFn :=
⟨45, [(.t 4)], (.seq 
 (.reg [⟨some 4, (.mv (.k (.int .i64 0))), no⟩]) (.seq (.seq 
 (.reg [⟨some 5, (.mv (.k (.int .i64 0))), no⟩]) (.blk 0 (.loop (.seq (.seq 
 (.reg [⟨some 6, (.mv (.t 5)), no⟩, ⟨some 7, (.mv (.t 0)), no⟩, ⟨some 8, (.len false (.t 7)), no⟩, ⟨some 9, (.bin .lss (.t 6) (.t 8)), no⟩]) (.cond (.t 9) .skip (.exit 0))) (.seq (.blk 1 (.seq 
 (.reg [⟨some 12, (.mv (.t 0)), no⟩, ⟨some 13, (.mv (.t 5)), no⟩, ⟨some 14, (.mv (.t 1)), no⟩, ⟨some 15, (.ixa 4 (.t 12) (.t 13)), no⟩, ⟨some 16, (.fld 0 (.t 15)), no⟩, ⟨some 17, (.fld 0 (.t 16)), no⟩, ⟨no, (.st 1 (.t 17) (.t 14)), no⟩]) (.seq 
 (.reg [⟨some 18, (.mv (.t 1)), no⟩, ⟨some 19, (.bin .add (.t 18) (.k (.int .i64 1))), no⟩, ⟨some 1, (.mv (.t 19)), no⟩]) (.seq 
 (.reg [⟨some 20, (.mv (.t 0)), no⟩, ⟨some 21, (.mv (.t 5)), no⟩, ⟨some 22, (.ixa 4 (.t 20) (.t 21)), no⟩, ⟨some 23, (.fld 0 (.t 22)), no⟩, ⟨some 24, (.fld 1 (.t 23)), no⟩, ⟨some 25, (.ld false 1 (.t 24)), no⟩, ⟨some 26, (.mv (.t 1)), no⟩, ⟨some 27, (.call (.k (.fn (.func 115) [] [])) [(.t 25), (.t 26)]), no⟩, ⟨some 1, (.mv (.t 27)), no⟩]) (.seq 
 (.reg [⟨some 28, (.mv (.t 0)), no⟩, ⟨some 29, (.mv (.t 5)), no⟩, ⟨some 30, (.mv (.t 1)), no⟩, ⟨some 31, (.ixa 4 (.t 28) (.t 29)), no⟩, ⟨some 32, (.fld 2 (.t 31)), no⟩, ⟨some 33, (.fld 0 (.t 32)), no⟩, ⟨no, (.st 1 (.t 33) (.t 30)), no⟩]) (.seq 
 (.reg [⟨some 34, (.mv (.t 1)), no⟩, ⟨some 35, (.bin .add (.t 34) (.k (.int .i64 1))), no⟩, ⟨some 1, (.mv (.t 35)), no⟩]) 
 (.reg [⟨some 36, (.mv (.t 0)), no⟩, ⟨some 37, (.mv (.t 5)), no⟩, ⟨some 38, (.ixa 4 (.t 36) (.t 37)), no⟩, ⟨some 39, (.fld 2 (.t 38)), no⟩, ⟨some 40, (.fld 1 (.t 39)), no⟩, ⟨some 41, (.ld false 1 (.t 40)), no⟩, ⟨some 42, (.mv (.t 1)), no⟩, ⟨some 43, (.call (.k (.fn (.func 127) [] [])) [(.t 41), (.t 42)]), no⟩, ⟨some 1, (.mv (.t 43)), no⟩]))))))) 
 (.reg [⟨some 10, (.mv (.t 5)), no⟩, ⟨some 11, (.bin .add (.t 10) (.k (.int .i64 1))), no⟩, ⟨some 5, (.mv (.t 11)), no⟩])))))) (.seq 
 (.reg [⟨some 44, (.mv (.t 1)), no⟩, ⟨some 4, (.mv (.t 44)), no⟩]) .ret)))⟩
theorem a68_ok : compFn Tryz.prog Tryz.f68 = some a68 := by kernel_rfl

def a69 : AFn :=
⟨53, [(.t 4)], (.seq 
 (.reg [⟨some 4, (.mv (.k (.int .i64 0))), no⟩]) (.seq (.seq 
 (.reg [⟨some 5, (.mv (.k (.int .i64 0))), no⟩]) (.blk 0 (.loop (.seq (.seq 
 (.reg [⟨some 6, (.mv (.t 5)), no⟩, ⟨some 7, (.mv (.t 0)), no⟩, ⟨some 8, (.len false (.t 7)), no⟩, ⟨some 9, (.bin .lss (.t 6) (.t 8)), no⟩]) (.cond (.t 9) .skip (.exit 0))) (.seq (.blk 1 (.seq (.seq 
 (.reg [⟨some 12, (.mv (.t 0)), no⟩, ⟨some 13, (.mv (.t 5)), no⟩, ⟨some 14, (.ixa 4 (.t 12) (.t 13)), no⟩, ⟨some 15, (.fld 0 (.t 14)), no⟩, ⟨some 16, (.fld 0 (.t 15)), no⟩, ⟨some 17, (.ld false 1 (.t 16)), no⟩, ⟨some 18, (.mv (.t 1)), no⟩, ⟨some 19, (.bin .neq (.t 17) (.t 18)), no⟩]) (.cond (.t 19) (.seq 
 (.reg [⟨some 4, (.mv (.k (.int .i64 (-1)))), no⟩]) .ret) .skip)) (.seq 
 (.reg [⟨some 20, (.mv (.t 1)), no⟩, ⟨some 21, (.bin .add (.t 20) (.k (.int .i64 1))), no⟩, ⟨some 1, (.mv (.t 21)), no⟩]) (.seq 
 (.reg [⟨some 22, (.mv (.t 0)), no⟩, ⟨some 23, (.mv (.t 5)), no⟩, ⟨some 24, (.ixa 4 (.t 22) (.t 23)), no⟩, ⟨some 25, (.fld 0 (.t 24)), no⟩, ⟨some 26, (.fld 1 (.t 25)), no⟩, ⟨some 27, (.ld false 1 (.t 26)), no⟩, ⟨some 28, (.mv (.t 1)), no⟩, ⟨some 29, (.call (.k (.fn (.func 116) [] [])) [(.t 27), (.t 28)]), no⟩, ⟨some 1, (.mv (.t 29)), no⟩]) (.seq (.seq 
 (.reg [⟨some 30, (.mv (.t 1)), no⟩, ⟨some 31, (.bin .lss (.t 30) (.k (.int .i64 0))), no⟩]) (.cond (.t 31) (.seq 
 (.reg [⟨some 4, (.mv (.k (.int .i64 (-1)))), no⟩]) .ret) .skip)) (.seq (.seq 
 (.reg [⟨some 32, (.mv (.t 0)), no⟩, ⟨some 33, (.mv (.t 5)), no⟩, ⟨some 34, (.ixa 4 (.t 32) (.t 33)), no⟩, ⟨some 35, (.fld 2 (.t 34)), no⟩, ⟨some 36, (.fld 0 (.t 35)), no⟩, ⟨some 37, (.ld false 1 (.t 36)), no⟩, ⟨some 38, (.mv (.t 1)), no⟩, ⟨some 39, (.bin .neq (.t 37) (.t 38)), no⟩]) (.cond (.t 39) (.seq 
 (.reg [⟨some 4, (.mv (.k (.int .i64 (-1)))), no⟩]) .ret) .skip)) (.seq 
 (.reg [⟨some 40, (.mv (.t 1)), no⟩, ⟨some 41, (.bin .add (.t 40) (.k (.int .i64 1))), no⟩, ⟨some 1, (.mv (.t 41)), no⟩]) (.seq 
 (.reg [⟨some 42, (.mv (.t 0)), no⟩, ⟨some 43, (.mv (.t 5)), no⟩, ⟨some 44, (.ixa 4 (.t 42) (.t 43)), no⟩, ⟨some 45, (.fld 2 (.t 44)), no⟩, ⟨some 46, (.fld 1 (.t 45)), no⟩, ⟨some 47, (.ld false 1 (.t 46)), no⟩, ⟨some 48, (.mv (.t 1)), no⟩, ⟨some 49, (.call (.k (.fn (.func 151) [] [])) [(.t 47), (.t 48)]), no⟩, ⟨some 1, (.mv (.t 49)), no⟩]) (.seq 
 (.reg [⟨some 50, (.mv (.t 1)), no⟩, ⟨some 51, (.bin .lss (.t 50) (.k (.int .i64 0))), no⟩]) (.cond (.t 51) (.seq 
 (.reg [⟨some 4, (.mv (.k (.int .i64 (-1)))), no⟩]) .ret) .skip)))))))))) 
 (.reg [⟨some 10, (.mv (.t 5)), no⟩, ⟨some 11, (.bin .add (.t 10) (.k (.int .i64 1))), no⟩, ⟨some 5, (.mv (.t 11)), no⟩])))))) (.seq 
 (.reg [⟨some 52, (.mv (.t 1)), no⟩, ⟨some 4, (.mv (.t 52)), no⟩]) .ret)))⟩
theorem a69_ok : compFn Tryz.prog Tryz.f69 = some a69 := by kernel_rfl

def a58 : AFn :=
⟨10, [(.t 4)], (.seq 
 (.reg [⟨some 2, (.boxv (.t 0)), no⟩, ⟨some 4, (.mv (.k (.int .i64 0))), no⟩]) (.seq 
 (.reg [⟨some 5, (.fld 1 (.t 2)), no⟩, ⟨some 6, (.ld false 1 (.t 5)), no⟩, ⟨some 7, (.mv (.t 1)), no⟩, ⟨some 8, (.call (.k (.fn (.func 127) [] [])) [(.t 6), (.t 7)]), no⟩, ⟨some 1, (.mv (.t 8)), no⟩]) (.seq 
 (.reg [⟨some 9, (.mv (.t 1)), no⟩, ⟨some 4, (.mv (.t 9)), no⟩]) .ret)))⟩
theorem a58_ok : compFn Tryz.prog Tryz.f58 = some a58 := by kernel_rfl

def a144 : AFn :=
⟨12, [(.t 4)], (.seq 
 (.reg [⟨some 2, (.boxv (.t 0)), no⟩, ⟨some 4, (.mv (.k (.int .i64 0))), no⟩]) (.seq 
 (.reg [⟨some 5, (.fld 1 (.t 2)), no⟩, ⟨some 6, (.ld false 1 (.t 5)), no⟩, ⟨some 7, (.mv (.t 1)), no⟩, ⟨some 8, (.call (.k (.fn (.func 151) [] [])) [(.t 6), (.t 7)]), no⟩, ⟨some 1, (.mv (.t 8)), no⟩]) (.seq (.seq 
 (.reg [⟨some 9, (.mv (.t 1)), no⟩, ⟨some 10, (.bin .lss (.t 9) (.k (.int .i64 0))), no⟩]) (.cond (.t 10) (.seq 
 (.reg [⟨some 4, (.mv (.k (.int .i64 (-1)))), no⟩]) .ret) .skip)) (.seq 
 (.reg [⟨some 11, (.mv (.t 1)), no⟩, ⟨some 4, (.mv (.t 11)), no⟩]) .ret))))⟩
theorem a144_ok : compFn Tryz.prog Tryz.f144 = some a144 := by kernel_rfl

def a46 : AFn :=
⟨10, [(.t 4)], (.seq 
 (.reg [⟨some 2, (.boxv (.t 0)), no⟩, ⟨some 4, (.mv (.k (.int .i64 0))), no⟩]) (.seq 
 (.reg [⟨some 5, (.fld 1 (.t 2)), no⟩, ⟨some 6, (.ld false 1 (.t 5)), no⟩, ⟨some 7, (.mv (.t 1)), no⟩, ⟨some 8, (.call (.k (.fn (.func 115) [] [])) [(.t 6), (.t 7)]), no⟩, ⟨some 1, (.mv (.t 8)), no⟩]) (.seq 
 (.reg [⟨some 9, (.mv (.t 1)), no⟩, ⟨some 4, (.mv (.t 9)), no⟩]) .ret)))⟩
theorem a46_ok : compFn Tryz.prog Tryz.f46 = some a46 := by kernel_rfl

def a47 : AFn :=
⟨12, [(.t 4)], (.seq 
 (.reg [⟨some 2, (.boxv (.t 0)), no⟩, ⟨some 4, (.mv (.k (.int .i64 0))), no⟩]) (.seq 
 (.reg [⟨some 5, (.fld 1 (.t 2)), no⟩, ⟨some 6, (.ld false 1 (.t 5)), no⟩, ⟨some 7, (.mv (.t 1)), no⟩, ⟨some 8, (.call (.k (.fn (.func 116) [] [])) [(.t 6), (.t 7)]), no⟩, ⟨some 1, (.mv (.t 8)), no⟩]) (.seq (.seq 
 (.reg [⟨some 9, (.mv (.t 1)), no⟩, ⟨some 10, (.bin .lss (.t 9) (.k (.int .i64 0))), no⟩]) (.cond (.t 10) (.seq 
 (.reg [⟨some 4, (.mv (.k (.int .i64 (-1)))), no⟩]) .ret) .skip)) (.seq 
 (.reg [⟨some 11, (.mv (.t 1)), no⟩, ⟨some 4, (.mv (.t 11)), no⟩]) .ret))))⟩
theorem a47_ok : compFn Tryz.prog Tryz.f47 = some a47 := by kernel_rfl


set_option maxRecDepth 20000 in
set_option maxHeartbeats 1000000 in
theorem m_markIntS (l : List Int) (k : Int) (h0 : 0 ≤ k ∧ k + cIntS l ≤ 4611686018427387904) : Marks Tryz.prog 127 (.us 1 (intsR l)) k (.us 1 (intsR (mkIntS l k))) (k + cIntS l) := by
  intro h n a I K hT hI hn hK
  obtain ⟨id, rows0, I0, rfl, _, hB, _⟩ := TR_us hT
  simp only [intsR, List.length_map] at hT hB hK ⊢
  refine acall_len Tryz.func127 rfl rfl (by rw [hB]; simp) fun hlim => ?_
  refine acall_body Tryz.func127 a127_ok rfl (by simp [a127]) ?_
  simp [a127]
  unfold cIntS at *
  refine rL_forO [0] 5 l.length (fun i s h1 n1 => MJ (fun _ k => k) (fun _ => 1) (fun n => [i64 n]) 1 h n id I l k i (s 1) h1 n1) hlim (by simp) (by simpa using MJ.start hT) ?_ ?_
  · rintro i s h1 n1 R hi hg hk s5 hw hJ hR hret _
    simp at hk
    obtain ⟨x, ki, rows, cells, I2, s1, hki, hki2, hlen, hc0, hnd, hI2, hstart, hclose⟩ := hJ.step2 hI hn hi
    obtain ⟨_, rfl, hc1⟩ := TRl_int.1 hc0
    obtain ⟨rfl, rfl⟩ := TRl_nil.1 hc1
    have S := hstart _ Kids.nil
    have e := S.e
    have w0 : IntKind.i64.wrap (ki + 1) = ki + 1 := wrap64 (by omega)
    simp [hk, s5, hi, hw, s1, e, hlen, w0]
    intro _
    refine hR _ _ _ (by simp [hk]) (by simp) (hclose _ _ [.int .i64 (ki)] _ _ S.store (TRl_int.2 ⟨_, rfl, (TRl_nil.2 ⟨rfl, rfl⟩)⟩) (by simp [i64]; try omega))
  · rintro s h1 n1 R hk s5 hJ hret hX
    simp at hk
    obtain ⟨s1, hn1, hf, ht⟩ := hJ.fin
    simp [hk, s5, s1]
    refine ⟨TR_some ht, fun _ => ?_⟩
    refine hX _ _ _ _ ?_
    simp [hk, s5, s1]
    exact hK _ _ hn1 hf ht

set_option maxRecDepth 20000 in
set_option maxHeartbeats 1000000 in
theorem k_heldIntS (l : List Int) (k : Int) (h0 : 0 ≤ k ∧ k + cIntS l ≤ 4611686018427387904) : Holds Tryz.prog 151 [.sl 1 (intsR (mkIntS l k)), i64 k] (fun r => r = i64 (k + cIntS l)) := by
  refine holds_of_lim Tryz.func151 rfl rfl fun hlim => ?_
  simp at hlim
  generalize hM : mkIntS l k = M at *
  refine holds_of_run Tryz.func151 a151_ok rfl (by simp [a151]) ?_
  simp [a151]
  unfold cIntS at *
  refine rL_forO [0] 5 M.length (fun i s h1 n1 => HJ (fun _ k => k) (fun _ => 1) M l k i (s 1)) hlim (by simp) (by rw [← hM]; simp; exact HJ.start) ?_ ?_
  · rintro i s h1 n1 R hi hg hk s5 hw hJ hR hret _
    simp at hk
    obtain ⟨x, ki, s1, hki, hki2, hx, hclose⟩ := hJ.step hi
    have w0 : IntKind.i64.wrap (ki + 1) = ki + 1 := wrap64 (by omega)
    simp [hk, s5, hi, hw, s1, hx, w0]
    intro _
    first | done | refine hR _ _ _ (by simp [hk]) (by simp) (hclose _ (by simp [i64]; try omega))
  · rintro s h1 n1 R hk s5 hJ hret hX
    simp at hk
    have s1 := hJ.fin (Nat.le_refl _)
    simp [hk, s5, s1]
    first | refine hX _ _ _ _ ?_ | (intro _; refine hX _ _ _ _ ?_)
    simp [hk, s5, s1]

set_option maxRecDepth 20000 in
set_option maxHeartbeats 1000000 in
theorem m_markLinS (l : List DLin) (k : Int) (h0 : 0 ≤ k ∧ k + cLinS l ≤ 4611686018427387904) : Marks Tryz.prog 115 (.us 2 (l.map rULin)) k (.us 2 ((mkLinS l k).map rULin)) (k + cLinS l) := by
  intro h n a I K hT hI hn hK
  obtain ⟨id, rows0, I0, rfl, _, hB, _⟩ := TR_us hT
  simp only [List.length_map] at hT hB hK ⊢
  refine acall_len Tryz.func115 rfl rfl (by rw [hB]; simp) fun hlim => ?_
  refine acall_body Tryz.func115 a115_ok rfl (by simp [a115]) ?_
  simp [a115]
  unfold cLinS at *
  refine rL_forO [0] 5 l.length (fun i s h1 n1 => MJ mkrLin crLin rULin 2 h n id I l k i (s 1) h1 n1) hlim (by simp) (by simpa using MJ.start hT) ?_ ?_
  · rintro i s h1 n1 R hi hg hk s5 hw hJ hR hret _
    simp at hk
    obtain ⟨x, ki, rows, cells, I2, s1, hki, hki2, hlen, hc0, hnd, hI2, hstart, hclose⟩ := hJ.step2 hI hn hi
    simp only [rULin] at hc0
    simp only [crLin] at hki2
    obtain ⟨_, rfl, hc1⟩ := TRl_int.1 hc0
    obtain ⟨d1, len1, _, J1, _, rfl, rfl, hl1, ht1, hc2⟩ := TRl_us hc1
    have hq1 : len1 = (x.Coeffs).length := by simpa using hl1
    subst hq1
    obtain ⟨rfl, rfl⟩ := TRl_nil.1 hc2
    have S := hstart _ (Kids.cons ht1 hnd hI2 fun hnd hI2 => Kids.nil)
    have e := S.e
    have w0 : IntKind.i64.wrap (ki + 1) = ki + 1 := wrap64 (by omega)
    simp [hk, s5, hi, hw, s1, e, hlen, w0]
    intro _
    refine RS.mark (T1 := []) (m_markIntS _ _ (by omega)) S.store ?_
    clear S e
    intro h2 n2 S
    have e := S.e
    simp [hk, s5, hi, hw, s1, e, hlen, w0]
    refine hR _ _ _ (by simp [hk]) (by simp) (hclose _ _ [.int .i64 (ki), .ref d1 0 (x.Coeffs).length] _ _ S (TRl_int.2 ⟨_, rfl, (TRl_cons (S.live.ids (_, .ref d1 0 _, J1) (by simp [mkrLin])).1 (TRl_nil.2 ⟨rfl, rfl⟩))⟩) (by simp [i64, crLin]; try omega))
  · rintro s h1 n1 R hk s5 hJ hret hX
    simp at hk
    obtain ⟨s1, hn1, hf, ht⟩ := hJ.fin
    simp [hk, s5, s1]
    refine ⟨TR_some ht, fun _ => ?_⟩
    refine hX _ _ _ _ ?_
    simp [hk, s5, s1]
    exact hK _ _ hn1 hf ht

set_option maxRecDepth 20000 in
set_option maxHeartbeats 1000000 in
theorem k_heldLinS (l : List DLin) (k : Int) (h0 : 0 ≤ k ∧ k + cLinS l ≤ 4611686018427387904) : Holds Tryz.prog 116 [.sl 2 ((mkLinS l k).map rALin), i64 k] (fun r => r = i64 (k + cLinS l)) := by
  refine holds_of_lim Tryz.func116 rfl rfl fun hlim => ?_
  simp at hlim
  generalize hM : mkLinS l k = M at *
  refine holds_of_run Tryz.func116 a116_ok rfl (by simp [a116]) ?_
  simp [a116]
  unfold cLinS at *
  refine rL_forO [0] 5 M.length (fun i s h1 n1 => HJ mkrLin crLin M l k i (s 1)) hlim (by simp) (by rw [← hM]; simp; exact HJ.start) ?_ ?_
  · rintro i s h1 n1 R hi hg hk s5 hw hJ hR hret _
    simp at hk
    obtain ⟨x, ki, s1, hki, hki2, hx, hclose⟩ := hJ.step hi
    simp only [crLin] at hki2
    have w0 : IntKind.i64.wrap (ki + 1) = ki + 1 := wrap64 (by omega)
    simp [hk, s5, hi, hw, s1, hx, mkrLin, w0]
    intro _
    first | refine callD_of (k_heldIntS (x.Coeffs) (ki + 1) (by omega)) (by simp [hk, s5, hi, hw, s1, hx, mkrLin, w0]) ?_ | refine call_of (k_heldIntS (x.Coeffs) (ki + 1) (by omega)) (by simp [hk, s5, hi, hw, s1, hx, mkrLin, w0]) ?_
    rintro r rfl
    have g1 : ¬ ki + 1 + (cIntS x.Coeffs : Int) < 0 := by omega
    simp [hk, s5, hi, hw, s1, hx, mkrLin, w0, g1]
    first | done | refine hR _ _ _ (by simp [hk]) (by simp) (hclose _ (by simp [i64, crLin]; try omega))
  · rintro s h1 n1 R hk s5 hJ hret hX
    simp at hk
    have s1 := hJ.fin (Nat.le_refl _)
    simp [hk, s5, s1]
    first | refine hX _ _ _ _ ?_ | (intro _; refine hX _ _ _ _ ?_)
    simp [hk, s5, s1]

set_option maxRecDepth 20000 in
set_option maxHeartbeats 1000000 in
theorem m_markStringS (l : List Str) (k : Int) (h0 : 0 ≤ k ∧ k + cStringS l ≤ 4611686018427387904) : Marks Tryz.prog 37 (.us 1 (strsR l)) k (.us 1 (strsR (mkStringS l k))) (k + cStringS l) := by
  intro h n a I K hT hI hn hK
  obtain ⟨id, rows0, I0, rfl, _, hB, _⟩ := TR_us hT
  simp only [strsR, List.length_map] at hT hB hK ⊢
  refine acall_len Tryz.func37 rfl rfl (by rw [hB]; simp) fun hlim => ?_
  refine acall_body Tryz.func37 a37_ok rfl (by simp [a37]) ?_
  simp [a37]
  unfold cStringS at *
  refine rL_forO [0] 5 l.length (fun i s h1 n1 => MJ (fun _ k => mtx k) (fun _ => 1) (fun s => [.str s]) 1 h n id I l k i (s 1) h1 n1) hlim (by simp) (by simpa using MJ.start hT) ?_ ?_
  · rintro i s h1 n1 R hi hg hk s5 hw hJ hR hret _
    simp at hk
    obtain ⟨x, ki, rows, cells, I2, s1, hki, hki2, hlen, hc0, hnd, hI2, hstart, hclose⟩ := hJ.step2 hI hn hi
    obtain ⟨_, rfl, hc1⟩ := TRl_str.1 hc0
    obtain ⟨rfl, rfl⟩ := TRl_nil.1 hc1
    have S := hstart _ Kids.nil
    have e := S.e
    have w0 : IntKind.i64.wrap (ki + 1) = ki + 1 := wrap64 (by omega)
    simp [hk, s5, hi, hw, s1, e, hlen, w0]
    intro _
    first | refine callD_of (k_markText (ki) (by omega)) (by simp) ?_ | refine call_of (k_markText (ki) (by omega)) (by simp) ?_
    rintro r rfl
    simp [hk, s5, hi, hw, s1, e, hlen, w0]
    refine hR _ _ _ (by simp [hk]) (by simp) (hclose _ _ [.str (mtx (ki))] _ _ S.store (TRl_str.2 ⟨_, rfl, (TRl_nil.2 ⟨rfl, rfl⟩)⟩) (by simp [i64]; try omega))
  · rintro s h1 n1 R hk s5 hJ hret hX
    simp at hk
    obtain ⟨s1, hn1, hf, ht⟩ := hJ.fin
    simp [hk, s5, s1]
    refine ⟨TR_some ht, fun _ => ?_⟩
    refine hX _ _ _ _ ?_
    simp [hk, s5, s1]
    exact hK _ _ hn1 hf ht

set_option maxRecDepth 20000 in
set_option maxHeartbeats 1000000 in
theorem k_heldStringS (l : List Str) (k : Int) (h0 : 0 ≤ k ∧ k + cStringS l ≤ 4611686018427387904) : Holds Tryz.prog 38 [.sl 1 (strsR (mkStringS l k)), i64 k] (fun r => r = i64 (k + cStringS l)) := by
  refine holds_of_lim Tryz.func38 rfl rfl fun hlim => ?_
  simp at hlim
  generalize hM : mkStringS l k = M at *
  refine holds_of_run Tryz.func38 a38_ok rfl (by simp [a38]) ?_
  simp [a38]
  unfold cStringS at *
  refine rL_forO [0] 5 M.length (fun i s h1 n1 => HJ (fun _ k => mtx k) (fun _ => 1) M l k i (s 1)) hlim (by simp) (by rw [← hM]; simp; exact HJ.start) ?_ ?_
  · rintro i s h1 n1 R hi hg hk s5 hw hJ hR hret _
    simp at hk
    obtain ⟨x, ki, s1, hki, hki2, hx, hclose⟩ := hJ.step hi
    have w0 : IntKind.i64.wrap (ki + 1) = ki + 1 := wrap64 (by omega)
    simp [hk, s5, hi, hw, s1, hx, w0]
    intro _
    first | refine callD_of (k_markText (ki) (by omega)) (by simp) ?_ | refine call_of (k_markText (ki) (by omega)) (by simp) ?_
    rintro r rfl
    simp [hk, s5, hi, hw, s1, hx, w0]
    first | done | refine hR _ _ _ (by simp [hk]) (by simp) (hclose _ (by simp [i64]; try omega))
  · rintro s h1 n1 R hk s5 hJ hret hX
    simp at hk
    have s1 := hJ.fin (Nat.le_refl _)
    simp [hk, s5, s1]
    first | refine hX _ _ _ _ ?_ | (intro _; refine hX _ _ _ _ ?_)
    simp [hk, s5, s1]

set_option maxRecDepth 20000 in
set_option maxHeartbeats 1000000 in
theorem m_markObligationS (l : List DObligation) (k : Int) (h0 : 0 ≤ k ∧ k + cObligationS l ≤ 4611686018427387904) : Marks Tryz.prog 68 (.us 4 (l.map rUObligation)) k (.us 4 ((mkObligationS l k).map rUObligation)) (k + cObligationS l) := by
  intro h n a I K hT hI hn hK
  obtain ⟨id, rows0, I0, rfl, _, hB, _⟩ := TR_us hT
  simp only [List.length_map] at hT hB hK ⊢
  refine acall_len Tryz.func68 rfl rfl (by rw [hB]; simp) fun hlim => ?_
  refine acall_body Tryz.func68 a68_ok rfl (by simp [a68]) ?_
  simp [a68]
  unfold cObligationS at *
  refine rL_forO [0] 5 l.length (fun i s h1 n1 => MJ mkrObligation crObligation rUObligation 4 h n id I l k i (s 1) h1 n1) hlim (by simp) (by simpa using MJ.start hT) ?_ ?_
  · rintro i s h1 n1 R hi hg hk s5 hw hJ hR hret _
    simp at hk
    obtain ⟨x, ki, rows, cells, I2, s1, hki, hki2, hlen, hc0, hnd, hI2, hstart, hclose⟩ := hJ.step2 hI hn hi
    simp only [rUObligation] at hc0
    simp only [crObligation] at hki2
    obtain ⟨_, rfl, hc1⟩ := TRl_int.1 hc0
    obtain ⟨d1, len1, _, J1, _, rfl, rfl, hl1, ht1, hc2⟩ := TRl_us hc1
    have hq1 : len1 = (x.System.Rows).length := by simpa using hl1
    subst hq1
    obtain ⟨_, rfl, hc3⟩ := TRl_int.1 hc2
    obtain ⟨d3, len3, _, J3, _, rfl, rfl, hl3, ht3, hc4⟩ := TRl_us hc3
    have hq3 : len3 = (x.Target.Coeffs).length := by simpa using hl3
    subst hq3
    obtain ⟨rfl, rfl⟩ := TRl_nil.1 hc4
    have S := hstart _ (Kids.cons ht1 hnd hI2 fun hnd hI2 => (Kids.cons ht3 hnd hI2 fun hnd hI2 => Kids.nil))
    have e := S.e
    have w0 : IntKind.i64.wrap (ki + 1) = ki + 1 := wrap64 (by omega)
    have w1 : IntKind.i64.wrap (ki + 1 + cLinS x.System.Rows + 1) = ki + 1 + cLinS x.System.Rows + 1 := wrap64 (by omega)
    simp [hk, s5, hi, hw, s1, e, hlen, w0, w1]
    intro _
    refine RS.mark (T1 := []) (m_markLinS _ _ (by omega)) S.store ?_
    clear S e
    intro h2 n2 S
    have e := S.e
    simp [hk, s5, hi, hw, s1, e, hlen, w0, w1]
    refine RS.mark (T1 := [_]) (m_markIntS _ _ (by omega)) S.store ?_
    clear S e
    intro h2 n2 S
    have e := S.e
    simp [hk, s5, hi, hw, s1, e, hlen, w0, w1]
    refine hR _ _ _ (by simp [hk]) (by simp) (hclose _ _ [.int .i64 (ki), .ref d1 0 (x.System.Rows).length, .int .i64 (ki + 1 + cLinS x.System.Rows), .ref d3 0 (x.Target.Coeffs).length] _ _ S (TRl_int.2 ⟨_, rfl, (TRl_cons (S.live.ids (_, .ref d1 0 _, J1) (by simp [mkrObligation])).1 (TRl_int.2 ⟨_, rfl, (TRl_cons (S.live.ids (_, .ref d3 0 _, J3) (by simp [mkrObligation])).1 (TRl_nil.2 ⟨rfl, rfl⟩))⟩))⟩) (by simp [i64, crObligation]; try omega))
  · rintro s h1 n1 R hk s5 hJ hret hX
    simp at hk
    obtain ⟨s1, hn1, hf, ht⟩ := hJ.fin
    simp [hk, s5, s1]
    refine ⟨TR_some ht, fun _ => ?_⟩
    refine hX _ _ _ _ ?_
    simp [hk, s5, s1]
    exact hK _ _ hn1 hf ht

set_option maxRecDepth 20000 in
set_option maxHeartbeats 1000000 in
theorem k_heldObligationS (l : List DObligation) (k : Int) (h0 : 0 ≤ k ∧ k + cObligationS l ≤ 4611686018427387904) : Holds Tryz.prog 69 [.sl 4 ((mkObligationS l k).map rAObligation), i64 k] (fun r => r = i64 (k + cObligationS l)) := by
  refine holds_of_lim Tryz.func69 rfl rfl fun hlim => ?_
  simp at hlim
  generalize hM : mkObligationS l k = M at *
  refine holds_of_run Tryz.func69 a69_ok rfl (by simp [a69]) ?_
  simp [a69]
  unfold cObligationS at *
  refine rL_forO [0] 5 M.length (fun i s h1 n1 => HJ mkrObligation crObligation M l k i (s 1)) hlim (by simp) (by rw [← hM]; simp; exact HJ.start) ?_ ?_
  · rintro i s h1 n1 R hi hg hk s5 hw hJ hR hret _
    simp at hk
    obtain ⟨x, ki, s1, hki, hki2, hx, hclose⟩ := hJ.step hi
    simp only [crObligation] at hki2
    have w0 : IntKind.i64.wrap (ki + 1) = ki + 1 := wrap64 (by omega)
    have w1 : IntKind.i64.wrap (ki + 1 + cLinS x.System.Rows + 1) = ki + 1 + cLinS x.System.Rows + 1 := wrap64 (by omega)
    simp [hk, s5, hi, hw, s1, hx, mkrObligation, w0, w1]
    intro _
    first | refine callD_of (k_heldLinS (x.System.Rows) (ki + 1) (by omega)) (by simp [hk, s5, hi, hw, s1, hx, mkrObligation, w0, w1]) ?_ | refine call_of (k_heldLinS (x.System.Rows) (ki + 1) (by omega)) (by simp [hk, s5, hi, hw, s1, hx, mkrObligation, w0, w1]) ?_
    rintro r rfl
    have g1 : ¬ ki + 1 + (cLinS x.System.Rows : Int) < 0 := by omega
    simp [hk, s5, hi, hw, s1, hx, mkrObligation, w0, w1, g1]
    first | refine callD_of (k_heldIntS (x.Target.Coeffs) (ki + 1 + cLinS x.System.Rows + 1) (by omega)) (by simp [hk, s5, hi, hw, s1, hx, mkrObligation, w0, w1]) ?_ | refine call_of (k_heldIntS (x.Target.Coeffs) (ki + 1 + cLinS x.System.Rows + 1) (by omega)) (by simp [hk, s5, hi, hw, s1, hx, mkrObligation, w0, w1]) ?_
    rintro r rfl
    have g3 : ¬ ki + 1 + cLinS x.System.Rows + 1 + (cIntS x.Target.Coeffs : Int) < 0 := by omega
    simp [hk, s5, hi, hw, s1, hx, mkrObligation, w0, w1, g3]
    first | done | refine hR _ _ _ (by simp [hk]) (by simp) (hclose _ (by simp [i64, crObligation]; try omega))
  · rintro s h1 n1 R hk s5 hJ hret hX
    simp at hk
    have s1 := hJ.fin (Nat.le_refl _)
    simp [hk, s5, s1]
    first | refine hX _ _ _ _ ?_ | (intro _; refine hX _ _ _ _ ?_)
    simp [hk, s5, s1]

set_option maxRecDepth 20000 in
set_option maxHeartbeats 1000000 in
theorem m_markLin (x : DLin) (k : Int) (h0 : 0 ≤ k ∧ k + cLin x ≤ 4611686018427387904) : Marks Tryz.prog 58 (.agg (rULin x)) k (.agg (rULin (mkLin x k))) (k + cLin x) := by
  intro h n a I K hT hI hn hK
  obtain ⟨cs, rfl, hc0⟩ := TR_agg.1 hT
  simp only [cLin] at h0
  obtain ⟨_, rfl, hc1⟩ := TRl_int.1 hc0
  obtain ⟨d1, len1, _, J1, _, rfl, rfl, hl1, ht1, hc2⟩ := TRl_us hc1
  have hq1 : len1 = (x.Coeffs).length := by simpa using hl1
  subst hq1
  obtain ⟨rfl, rfl⟩ := TRl_nil.1 hc2
  refine acall_body Tryz.func58 a58_ok rfl (by simp [a58]) ?_
  simp [a58]
  have S := RS.box (sz := 2) (cells := [.int .i64 (x.Const), .ref d1 0 (x.Coeffs).length]) (Kids.cons (ht1) hI hn fun hI hn => Kids.nil) hn
  refine RS.mark (T1 := []) (m_markIntS x.Coeffs (k) (by omega)) S ?_
  clear S
  intro h2 n2 S
  have e := S.e
  simp [e]
  have hb := S.unbox
  have ht : TR h2 (.agg (rULin (mkLin x k))) _ _ := TR_aggs.2 (TRl_int.2 ⟨_, rfl, (TRl_cons (S.live.ids (.us 1 (intsR (mkIntS x.Coeffs (k))), .ref d1 0 (x.Coeffs).length, J1) (by simp)).1 (TRl_nil.2 ⟨rfl, rfl⟩))⟩)
  have hk := hK _ _ hb.1 hb.2 ht
  simp only [cLin] at hk
  refine cast ?_ hk
  congr 2
  first | done | (simp; try omega)

set_option maxRecDepth 20000 in
set_option maxHeartbeats 1000000 in
theorem k_heldLin (x : DLin) (k : Int) (h0 : 0 ≤ k ∧ k + cLin x ≤ 4611686018427387904) : Holds Tryz.prog 144 [.agg (rALin (mkLin x k)), i64 k] (fun r => r = i64 (k + cLin x)) := by
  refine holds_of_run Tryz.func144 a144_ok rfl (by simp [a144]) ?_
  simp [a144, rALin, mkLin]
  simp only [cLin] at h0
  first | refine callD_of (k_heldIntS x.Coeffs (k) (by omega)) (by simp [rALin, mkLin]) ?_ | refine call_of (k_heldIntS x.Coeffs (k) (by omega)) (by simp [rALin, mkLin]) ?_
  rintro r rfl
  have g1 : ¬ k + (cIntS x.Coeffs : Int) < 0 := by omega
  simp [g1]
  first | done | (simp [cLin]; try omega)

set_option maxRecDepth 20000 in
set_option maxHeartbeats 1000000 in
theorem m_markSystem (x : DSystem) (k : Int) (h0 : 0 ≤ k ∧ k + cSystem x ≤ 4611686018427387904) : Marks Tryz.prog 46 (.agg (rUSystem x)) k (.agg (rUSystem (mkSystem x k))) (k + cSystem x) := by
  intro h n a I K hT hI hn hK
  obtain ⟨cs, rfl, hc0⟩ := TR_agg.1 hT
  simp only [cSystem] at h0
  obtain ⟨_, rfl, hc1⟩ := TRl_int.1 hc0
  obtain ⟨d1, len1, _, J1, _, rfl, rfl, hl1, ht1, hc2⟩ := TRl_us hc1
  have hq1 : len1 = (x.Rows).length := by simpa using hl1
  subst hq1
  obtain ⟨rfl, rfl⟩ := TRl_nil.1 hc2
  refine acall_body Tryz.func46 a46_ok rfl (by simp [a46]) ?_
  simp [a46]
  have S := RS.box (sz := 2) (cells := [.int .i64 (x.N), .ref d1 0 (x.Rows).length]) (Kids.cons (ht1) hI hn fun hI hn => Kids.nil) hn
  refine RS.mark (T1 := []) (m_markLinS x.Rows (k) (by omega)) S ?_
  clear S
  intro h2 n2 S
  have e := S.e
  simp [e]
  have hb := S.unbox
  have ht : TR h2 (.agg (rUSystem (mkSystem x k))) _ _ := TR_aggs.2 (TRl_int.2 ⟨_, rfl, (TRl_cons (S.live.ids (.us 2 ((mkLinS x.Rows (k)).map rULin), .ref d1 0 (x.Rows).length, J1) (by simp)).1 (TRl_nil.2 ⟨rfl, rfl⟩))⟩)
  have hk := hK _ _ hb.1 hb.2 ht
  simp only [cSystem] at hk
  refine cast ?_ hk
  congr 2
  first | done | (simp; try omega)

set_option maxRecDepth 20000 in
set_option maxHeartbeats 1000000 in
theorem k_heldSystem (x : DSystem) (k : Int) (h0 : 0 ≤ k ∧ k + cSystem x ≤ 4611686018427387904) : Holds Tryz.prog 47 [.agg (rASystem (mkSystem x k)), i64 k] (fun r => r = i64 (k + cSystem x)) := by
  refine holds_of_run Tryz.func47 a47_ok rfl (by simp [a47]) ?_
  simp [a47, rASystem, mkSystem]
  simp only [cSystem] at h0
  first | refine callD_of (k_heldLinS x.Rows (k) (by omega)) (by simp [rASystem, mkSystem]) ?_ | refine call_of (k_heldLinS x.Rows (k) (by omega)) (by simp [rASystem, mkSystem]) ?_
  rintro r rfl
  have g1 : ¬ k + (cLinS x.Rows : Int) < 0 := by omega
  simp [g1]
  first | done | (simp [cSystem]; try omega)

end Go.Proofs.YtlmajgghnenbpaaGreat

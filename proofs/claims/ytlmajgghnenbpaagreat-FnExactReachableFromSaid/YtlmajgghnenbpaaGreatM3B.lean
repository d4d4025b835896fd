/- Contracts of the marks. -/
import Derived.Test.YtlmajgghnenbpaaGreatM3A
namespace Go.Proofs.YtlmajgghnenbpaaGreat
set_option linter.all false
open Go Go.RowKit Go.Proofs
def a256 : AFn :=
⟨28, [(.t 4)], (.seq 
 (.reg [⟨some 4, (.mv (.k (.int .i64 0))), no⟩]) (.seq (.seq 
 (.reg [⟨some 5, (.mv (.k (.int .i64 0))), no⟩]) (.blk 0 (.loop (.seq (.seq 
 (.reg [⟨some 6, (.mv (.t 5)), no⟩, ⟨some 7, (.mv (.t 0)), no⟩, ⟨some 8, (.len false (.t 7)), no⟩, ⟨some 9, (.bin .lss (.t 6) (.t 8)), no⟩]) (.cond (.t 9) .skip (.exit 0))) (.seq (.blk 1 (.seq 
 (.reg [⟨some 12, (.mv (.t 0)), no⟩, ⟨some 13, (.mv (.t 5)), no⟩, ⟨some 14, (.mv (.t 1)), no⟩, ⟨some 15, (.ixa 2 (.t 12) (.t 13)), no⟩, ⟨some 16, (.fld 0 (.t 15)), no⟩, ⟨no, (.st 1 (.t 16) (.t 14)), no⟩]) (.seq 
 (.reg [⟨some 17, (.mv (.t 1)), no⟩, ⟨some 18, (.bin .add (.t 17) (.k (.int .i64 1))), no⟩, ⟨some 1, (.mv (.t 18)), no⟩]) (.seq 
 (.reg [⟨some 19, (.mv (.t 0)), no⟩, ⟨some 20, (.mv (.t 5)), no⟩, ⟨some 21, (.mv (.t 1)), no⟩, ⟨some 22, (.call (.k (.fn (.func 110) [] [])) [(.t 21)]), no⟩, ⟨some 23, (.ixa 2 (.t 19) (.t 20)), no⟩, ⟨some 24, (.fld 1 (.t 23)), no⟩, ⟨no, (.st 1 (.t 24) (.t 22)), no⟩]) 
 (.reg [⟨some 25, (.mv (.t 1)), no⟩, ⟨some 26, (.bin .add (.t 25) (.k (.int .i64 1))), no⟩, ⟨some 1, (.mv (.t 26)), no⟩]))))) 
 (.reg [⟨some 10, (.mv (.t 5)), no⟩, ⟨some 11, (.bin .add (.t 10) (.k (.int .i64 1))), no⟩, ⟨some 5, (.mv (.t 11)), no⟩])))))) (.seq 
 (.reg [⟨some 27, (.mv (.t 1)), no⟩, ⟨some 4, (.mv (.t 27)), no⟩]) .ret)))⟩
theorem a256_ok : compFn Tryz.prog Tryz.f256 = some a256 := by kernel_rfl

def a268 : AFn :=
⟨32, [(.t 4)], (.seq 
 (.reg [⟨some 4, (.mv (.k (.int .i64 0))), no⟩]) (.seq (.seq 
 (.reg [⟨some 5, (.mv (.k (.int .i64 0))), no⟩]) (.blk 0 (.loop (.seq (.seq 
 (.reg [⟨some 6, (.mv (.t 5)), no⟩, ⟨some 7, (.mv (.t 0)), no⟩, ⟨some 8, (.len false (.t 7)), no⟩, ⟨some 9, (.bin .lss (.t 6) (.t 8)), no⟩]) (.cond (.t 9) .skip (.exit 0))) (.seq (.blk 1 (.seq (.seq 
 (.reg [⟨some 12, (.mv (.t 0)), no⟩, ⟨some 13, (.mv (.t 5)), no⟩, ⟨some 14, (.ixa 2 (.t 12) (.t 13)), no⟩, ⟨some 15, (.fld 0 (.t 14)), no⟩, ⟨some 16, (.ld false 1 (.t 15)), no⟩, ⟨some 17, (.mv (.t 1)), no⟩, ⟨some 18, (.bin .neq (.t 16) (.t 17)), no⟩]) (.cond (.t 18) (.seq 
 (.reg [⟨some 4, (.mv (.k (.int .i64 (-1)))), no⟩]) .ret) .skip)) (.seq 
 (.reg [⟨some 19, (.mv (.t 1)), no⟩, ⟨some 20, (.bin .add (.t 19) (.k (.int .i64 1))), no⟩, ⟨some 1, (.mv (.t 20)), no⟩]) (.seq (.seq (.draw (.op ⟨some 21, (.mv (.t 0)), no⟩ (.op ⟨some 22, (.mv (.t 5)), no⟩ (.op ⟨some 23, (.ixa 2 (.t 21) (.t 22)), no⟩ (.op ⟨some 24, (.fld 1 (.t 23)), no⟩ (.op ⟨some 25, (.ld false 1 (.t 24)), no⟩ (.op ⟨some 26, (.mv (.t 1)), no⟩ (.op ⟨some 27, (.call (.k (.fn (.func 110) [] [])) [(.t 26)]), no⟩ (.op ⟨some 28, (.bin .neq (.t 25) (.t 27)), no⟩ .fin))))))))) (.cond (.t 28) (.seq 
 (.reg [⟨some 4, (.mv (.k (.int .i64 (-1)))), no⟩]) .ret) .skip)) 
 (.reg [⟨some 29, (.mv (.t 1)), no⟩, ⟨some 30, (.bin .add (.t 29) (.k (.int .i64 1))), no⟩, ⟨some 1, (.mv (.t 30)), no⟩]))))) 
 (.reg [⟨some 10, (.mv (.t 5)), no⟩, ⟨some 11, (.bin .add (.t 10) (.k (.int .i64 1))), no⟩, ⟨some 5, (.mv (.t 11)), no⟩])))))) (.seq 
 (.reg [⟨some 31, (.mv (.t 1)), no⟩, ⟨some 4, (.mv (.t 31)), no⟩]) .ret)))⟩
theorem a268_ok : compFn Tryz.prog Tryz.f268 = some a268 := by kernel_rfl

def a183 : AFn :=
⟨27, [(.t 4)], (.seq 
 (.reg [⟨some 4, (.mv (.k (.int .i64 0))), no⟩]) (.seq (.seq 
 (.reg [⟨some 5, (.mv (.k (.int .i64 0))), no⟩]) (.blk 0 (.loop (.seq (.seq 
 (.reg [⟨some 6, (.mv (.t 5)), no⟩, ⟨some 7, (.mv (.t 0)), no⟩, ⟨some 8, (.len false (.t 7)), no⟩, ⟨some 9, (.bin .lss (.t 6) (.t 8)), no⟩]) (.cond (.t 9) .skip (.exit 0))) (.seq (.blk 1 (.seq 
 (.reg [⟨some 12, (.mv (.t 0)), no⟩, ⟨some 13, (.mv (.t 5)), no⟩, ⟨some 14, (.mv (.t 1)), no⟩, ⟨some 15, (.ixa 2 (.t 12) (.t 13)), no⟩, ⟨some 16, (.fld 0 (.t 15)), no⟩, ⟨no, (.st 1 (.t 16) (.t 14)), no⟩]) (.seq 
 (.reg [⟨some 17, (.mv (.t 1)), no⟩, ⟨some 18, (.bin .add (.t 17) (.k (.int .i64 1))), no⟩, ⟨some 1, (.mv (.t 18)), no⟩]) 
 (.reg [⟨some 19, (.mv (.t 0)), no⟩, ⟨some 20, (.mv (.t 5)), no⟩, ⟨some 21, (.ixa 2 (.t 19) (.t 20)), no⟩, ⟨some 22, (.fld 1 (.t 21)), no⟩, ⟨some 23, (.ld false 1 (.t 22)), no⟩, ⟨some 24, (.mv (.t 1)), no⟩, ⟨some 25, (.call (.k (.fn (.func 256) [] [])) [(.t 23), (.t 24)]), no⟩, ⟨some 1, (.mv (.t 25)), no⟩])))) 
 (.reg [⟨some 10, (.mv (.t 5)), no⟩, ⟨some 11, (.bin .add (.t 10) (.k (.int .i64 1))), no⟩, ⟨some 5, (.mv (.t 11)), no⟩])))))) (.seq 
 (.reg [⟨some 26, (.mv (.t 1)), no⟩, ⟨some 4, (.mv (.t 26)), no⟩]) .ret)))⟩
theorem a183_ok : compFn Tryz.prog Tryz.f183 = some a183 := by kernel_rfl

def a205 : AFn :=
⟨31, [(.t 4)], (.seq 
 (.reg [⟨some 4, (.mv (.k (.int .i64 0))), no⟩]) (.seq (.seq 
 (.reg [⟨some 5, (.mv (.k (.int .i64 0))), no⟩]) (.blk 0 (.loop (.seq (.seq 
 (.reg [⟨some 6, (.mv (.t 5)), no⟩, ⟨some 7, (.mv (.t 0)), no⟩, ⟨some 8, (.len false (.t 7)), no⟩, ⟨some 9, (.bin .lss (.t 6) (.t 8)), no⟩]) (.cond (.t 9) .skip (.exit 0))) (.seq (.blk 1 (.seq (.seq 
 (.reg [⟨some 12, (.mv (.t 0)), no⟩, ⟨some 13, (.mv (.t 5)), no⟩, ⟨some 14, (.ixa 2 (.t 12) (.t 13)), no⟩, ⟨some 15, (.fld 0 (.t 14)), no⟩, ⟨some 16, (.ld false 1 (.t 15)), no⟩, ⟨some 17, (.mv (.t 1)), no⟩, ⟨some 18, (.bin .neq (.t 16) (.t 17)), no⟩]) (.cond (.t 18) (.seq 
 (.reg [⟨some 4, (.mv (.k (.int .i64 (-1)))), no⟩]) .ret) .skip)) (.seq 
 (.reg [⟨some 19, (.mv (.t 1)), no⟩, ⟨some 20, (.bin .add (.t 19) (.k (.int .i64 1))), no⟩, ⟨some 1, (.mv (.t 20)), no⟩]) (.seq 
 (.reg [⟨some 21, (.mv (.t 0)), no⟩, ⟨some 22, (.mv (.t 5)), no⟩, ⟨some 23, (.ixa 2 (.t 21) (.t 22)), no⟩, ⟨some 24, (.fld 1 (.t 23)), no⟩, ⟨some 25, (.ld false 1 (.t 24)), no⟩, ⟨some 26, (.mv (.t 1)), no⟩, ⟨some 27, (.call (.k (.fn (.func 268) [] [])) [(.t 25), (.t 26)]), no⟩, ⟨some 1, (.mv (.t 27)), no⟩]) (.seq 
 (.reg [⟨some 28, (.mv (.t 1)), no⟩, ⟨some 29, (.bin .lss (.t 28) (.k (.int .i64 0))), no⟩]) (.cond (.t 29) (.seq 
 (.reg [⟨some 4, (.mv (.k (.int .i64 (-1)))), no⟩]) .ret) .skip)))))) 
 (.reg [⟨some 10, (.mv (.t 5)), no⟩, ⟨some 11, (.bin .add (.t 10) (.k (.int .i64 1))), no⟩, ⟨some 5, (.mv (.t 11)), no⟩])))))) (.seq 
 (.reg [⟨some 30, (.mv (.t 1)), no⟩, ⟨some 4, (.mv (.t 30)), no⟩]) .ret)))⟩
theorem a205_ok : compFn Tryz.prog Tryz.f205 = some a205 := by kernel_rfl

def a257 : AFn :=
⟨37, [(.t 4)], (.seq 
 (.reg [⟨some 4, (.mv (.k (.int .i64 0))), no⟩]) (.seq (.seq 
 (.reg [⟨some 5, (.mv (.k (.int .i64 0))), no⟩]) (.blk 0 (.loop (.seq (.seq 
 (.reg [⟨some 6, (.mv (.t 5)), no⟩, ⟨some 7, (.mv (.t 0)), no⟩, ⟨some 8, (.len false (.t 7)), no⟩, ⟨some 9, (.bin .lss (.t 6) (.t 8)), no⟩]) (.cond (.t 9) .skip (.exit 0))) (.seq (.blk 1 (.seq 
 (.reg [⟨some 12, (.mv (.t 0)), no⟩, ⟨some 13, (.mv (.t 5)), no⟩, ⟨some 14, (.mv (.t 1)), no⟩, ⟨some 15, (.bin .rem (.t 14) (.k (.int .i64 3))), no⟩, ⟨some 16, (.bin .eql (.t 15) (.k (.int .i64 0))), no⟩, ⟨some 17, (.ixa 3 (.t 12) (.t 13)), no⟩, ⟨some 18, (.fld 0 (.t 17)), no⟩, ⟨no, (.st 1 (.t 18) (.t 16)), no⟩]) (.seq 
 (.reg [⟨some 19, (.mv (.t 1)), no⟩, ⟨some 20, (.bin .add (.t 19) (.k (.int .i64 1))), no⟩, ⟨some 1, (.mv (.t 20)), no⟩]) (.seq 
 (.reg [⟨some 21, (.mv (.t 0)), no⟩, ⟨some 22, (.mv (.t 5)), no⟩, ⟨some 23, (.ixa 3 (.t 21) (.t 22)), no⟩, ⟨some 24, (.fld 1 (.t 23)), no⟩, ⟨some 25, (.ld false 1 (.t 24)), no⟩, ⟨some 26, (.mv (.t 1)), no⟩, ⟨some 27, (.call (.k (.fn (.func 183) [] [])) [(.t 25), (.t 26)]), no⟩, ⟨some 1, (.mv (.t 27)), no⟩]) (.seq 
 (.reg [⟨some 28, (.mv (.t 0)), no⟩, ⟨some 29, (.mv (.t 5)), no⟩, ⟨some 30, (.mv (.t 1)), no⟩, ⟨some 31, (.call (.k (.fn (.func 110) [] [])) [(.t 30)]), no⟩, ⟨some 32, (.ixa 3 (.t 28) (.t 29)), no⟩, ⟨some 33, (.fld 2 (.t 32)), no⟩, ⟨no, (.st 1 (.t 33) (.t 31)), no⟩]) 
 (.reg [⟨some 34, (.mv (.t 1)), no⟩, ⟨some 35, (.bin .add (.t 34) (.k (.int .i64 1))), no⟩, ⟨some 1, (.mv (.t 35)), no⟩])))))) 
 (.reg [⟨some 10, (.mv (.t 5)), no⟩, ⟨some 11, (.bin .add (.t 10) (.k (.int .i64 1))), no⟩, ⟨some 5, (.mv (.t 11)), no⟩])))))) (.seq 
 (.reg [⟨some 36, (.mv (.t 1)), no⟩, ⟨some 4, (.mv (.t 36)), no⟩]) .ret)))⟩
theorem a257_ok : compFn Tryz.prog Tryz.f257 = some a257 := by kernel_rfl

def a269 : AFn :=
⟨43, [(.t 4)], (.seq 
 (.reg [⟨some 4, (.mv (.k (.int .i64 0))), no⟩]) (.seq (.seq 
 (.reg [⟨some 5, (.mv (.k (.int .i64 0))), no⟩]) (.blk 0 (.loop (.seq (.seq 
 (.reg [⟨some 6, (.mv (.t 5)), no⟩, ⟨some 7, (.mv (.t 0)), no⟩, ⟨some 8, (.len false (.t 7)), no⟩, ⟨some 9, (.bin .lss (.t 6) (.t 8)), no⟩]) (.cond (.t 9) .skip (.exit 0))) (.seq (.blk 1 (.seq (.seq 
 (.reg [⟨some 12, (.mv (.t 0)), no⟩, ⟨some 13, (.mv (.t 5)), no⟩, ⟨some 14, (.ixa 3 (.t 12) (.t 13)), no⟩, ⟨some 15, (.fld 0 (.t 14)), no⟩, ⟨some 16, (.ld false 1 (.t 15)), no⟩, ⟨some 17, (.mv (.t 1)), no⟩, ⟨some 18, (.bin .rem (.t 17) (.k (.int .i64 3))), no⟩, ⟨some 19, (.bin .eql (.t 18) (.k (.int .i64 0))), no⟩, ⟨some 20, (.beq true (.t 16) (.t 19)), no⟩]) (.cond (.t 20) (.seq 
 (.reg [⟨some 4, (.mv (.k (.int .i64 (-1)))), no⟩]) .ret) .skip)) (.seq 
 (.reg [⟨some 21, (.mv (.t 1)), no⟩, ⟨some 22, (.bin .add (.t 21) (.k (.int .i64 1))), no⟩, ⟨some 1, (.mv (.t 22)), no⟩]) (.seq 
 (.reg [⟨some 23, (.mv (.t 0)), no⟩, ⟨some 24, (.mv (.t 5)), no⟩, ⟨some 25, (.ixa 3 (.t 23) (.t 24)), no⟩, ⟨some 26, (.fld 1 (.t 25)), no⟩, ⟨some 27, (.ld false 1 (.t 26)), no⟩, ⟨some 28, (.mv (.t 1)), no⟩, ⟨some 29, (.call (.k (.fn (.func 205) [] [])) [(.t 27), (.t 28)]), no⟩, ⟨some 1, (.mv (.t 29)), no⟩]) (.seq (.seq 
 (.reg [⟨some 30, (.mv (.t 1)), no⟩, ⟨some 31, (.bin .lss (.t 30) (.k (.int .i64 0))), no⟩]) (.cond (.t 31) (.seq 
 (.reg [⟨some 4, (.mv (.k (.int .i64 (-1)))), no⟩]) .ret) .skip)) (.seq (.seq (.draw (.op ⟨some 32, (.mv (.t 0)), no⟩ (.op ⟨some 33, (.mv (.t 5)), no⟩ (.op ⟨some 34, (.ixa 3 (.t 32) (.t 33)), no⟩ (.op ⟨some 35, (.fld 2 (.t 34)), no⟩ (.op ⟨some 36, (.ld false 1 (.t 35)), no⟩ (.op ⟨some 37, (.mv (.t 1)), no⟩ (.op ⟨some 38, (.call (.k (.fn (.func 110) [] [])) [(.t 37)]), no⟩ (.op ⟨some 39, (.bin .neq (.t 36) (.t 38)), no⟩ .fin))))))))) (.cond (.t 39) (.seq 
 (.reg [⟨some 4, (.mv (.k (.int .i64 (-1)))), no⟩]) .ret) .skip)) 
 (.reg [⟨some 40, (.mv (.t 1)), no⟩, ⟨some 41, (.bin .add (.t 40) (.k (.int .i64 1))), no⟩, ⟨some 1, (.mv (.t 41)), no⟩]))))))) 
 (.reg [⟨some 10, (.mv (.t 5)), no⟩, ⟨some 11, (.bin .add (.t 10) (.k (.int .i64 1))), no⟩, ⟨some 5, (.mv (.t 11)), no⟩])))))) (.seq 
 (.reg [⟨some 42, (.mv (.t 1)), no⟩, ⟨some 4, (.mv (.t 42)), no⟩]) .ret)))⟩
theorem a269_ok : compFn Tryz.prog Tryz.f269 = some a269 := by kernel_rfl

def a93 : AFn :=
⟨44, [(.t 4)], (.seq 
 (.reg [⟨some 4, (.mv (.k (.int .i64 0))), no⟩]) (.seq (.seq 
 (.reg [⟨some 5, (.mv (.k (.int .i64 0))), no⟩]) (.blk 0 (.loop (.seq (.seq 
 (.reg [⟨some 6, (.mv (.t 5)), no⟩, ⟨some 7, (.mv (.t 0)), no⟩, ⟨some 8, (.len false (.t 7)), no⟩, ⟨some 9, (.bin .lss (.t 6) (.t 8)), no⟩]) (.cond (.t 9) .skip (.exit 0))) (.seq (.blk 1 (.seq 
 (.reg [⟨some 12, (.mv (.t 0)), no⟩, ⟨some 13, (.mv (.t 5)), no⟩, ⟨some 14, (.mv (.t 1)), no⟩, ⟨some 15, (.call (.k (.fn (.func 110) [] [])) [(.t 14)]), no⟩, ⟨some 16, (.ixa 4 (.t 12) (.t 13)), no⟩, ⟨some 17, (.fld 0 (.t 16)), no⟩, ⟨no, (.st 1 (.t 17) (.t 15)), no⟩]) (.seq 
 (.reg [⟨some 18, (.mv (.t 1)), no⟩, ⟨some 19, (.bin .add (.t 18) (.k (.int .i64 1))), no⟩, ⟨some 1, (.mv (.t 19)), no⟩]) (.seq 
 (.reg [⟨some 20, (.mv (.t 0)), no⟩, ⟨some 21, (.mv (.t 5)), no⟩, ⟨some 22, (.ixa 4 (.t 20) (.t 21)), no⟩, ⟨some 23, (.fld 1 (.t 22)), no⟩, ⟨some 24, (.ld false 1 (.t 23)), no⟩, ⟨some 25, (.mv (.t 1)), no⟩, ⟨some 26, (.call (.k (.fn (.func 37) [] [])) [(.t 24), (.t 25)]), no⟩, ⟨some 1, (.mv (.t 26)), no⟩]) (.seq 
 (.reg [⟨some 27, (.mv (.t 0)), no⟩, ⟨some 28, (.mv (.t 5)), no⟩, ⟨some 29, (.mv (.t 1)), no⟩, ⟨some 30, (.bin .rem (.t 29) (.k (.int .i64 3))), no⟩, ⟨some 31, (.bin .eql (.t 30) (.k (.int .i64 0))), no⟩, ⟨some 32, (.ixa 4 (.t 27) (.t 28)), no⟩, ⟨some 33, (.fld 2 (.t 32)), no⟩, ⟨no, (.st 1 (.t 33) (.t 31)), no⟩]) (.seq 
 (.reg [⟨some 34, (.mv (.t 1)), no⟩, ⟨some 35, (.bin .add (.t 34) (.k (.int .i64 1))), no⟩, ⟨some 1, (.mv (.t 35)), no⟩]) 
 (.reg [⟨some 36, (.mv (.t 0)), no⟩, ⟨some 37, (.mv (.t 5)), no⟩, ⟨some 38, (.ixa 4 (.t 36) (.t 37)), no⟩, ⟨some 39, (.fld 3 (.t 38)), no⟩, ⟨some 40, (.ld false 1 (.t 39)), no⟩, ⟨some 41, (.mv (.t 1)), no⟩, ⟨some 42, (.call (.k (.fn (.func 115) [] [])) [(.t 40), (.t 41)]), no⟩, ⟨some 1, (.mv (.t 42)), no⟩]))))))) 
 (.reg [⟨some 10, (.mv (.t 5)), no⟩, ⟨some 11, (.bin .add (.t 10) (.k (.int .i64 1))), no⟩, ⟨some 5, (.mv (.t 11)), no⟩])))))) (.seq 
 (.reg [⟨some 43, (.mv (.t 1)), no⟩, ⟨some 4, (.mv (.t 43)), no⟩]) .ret)))⟩
theorem a93_ok : compFn Tryz.prog Tryz.f93 = some a93 := by kernel_rfl

def a128 : AFn :=
⟨52, [(.t 4)], (.seq 
 (.reg [⟨some 4, (.mv (.k (.int .i64 0))), no⟩]) (.seq (.seq 
 (.reg [⟨some 5, (.mv (.k (.int .i64 0))), no⟩]) (.blk 0 (.loop (.seq (.seq 
 (.reg [⟨some 6, (.mv (.t 5)), no⟩, ⟨some 7, (.mv (.t 0)), no⟩, ⟨some 8, (.len false (.t 7)), no⟩, ⟨some 9, (.bin .lss (.t 6) (.t 8)), no⟩]) (.cond (.t 9) .skip (.exit 0))) (.seq (.blk 1 (.seq (.seq (.draw (.op ⟨some 12, (.mv (.t 0)), no⟩ (.op ⟨some 13, (.mv (.t 5)), no⟩ (.op ⟨some 14, (.ixa 4 (.t 12) (.t 13)), no⟩ (.op ⟨some 15, (.fld 0 (.t 14)), no⟩ (.op ⟨some 16, (.ld false 1 (.t 15)), no⟩ (.op ⟨some 17, (.mv (.t 1)), no⟩ (.op ⟨some 18, (.call (.k (.fn (.func 110) [] [])) [(.t 17)]), no⟩ (.op ⟨some 19, (.bin .neq (.t 16) (.t 18)), no⟩ .fin))))))))) (.cond (.t 19) (.seq 
 (.reg [⟨some 4, (.mv (.k (.int .i64 (-1)))), no⟩]) .ret) .skip)) (.seq 
 (.reg [⟨some 20, (.mv (.t 1)), no⟩, ⟨some 21, (.bin .add (.t 20) (.k (.int .i64 1))), no⟩, ⟨some 1, (.mv (.t 21)), no⟩]) (.seq 
 (.reg [⟨some 22, (.mv (.t 0)), no⟩, ⟨some 23, (.mv (.t 5)), no⟩, ⟨some 24, (.ixa 4 (.t 22) (.t 23)), no⟩, ⟨some 25, (.fld 1 (.t 24)), no⟩, ⟨some 26, (.ld false 1 (.t 25)), no⟩, ⟨some 27, (.mv (.t 1)), no⟩, ⟨some 28, (.call (.k (.fn (.func 38) [] [])) [(.t 26), (.t 27)]), no⟩, ⟨some 1, (.mv (.t 28)), no⟩]) (.seq (.seq 
 (.reg [⟨some 29, (.mv (.t 1)), no⟩, ⟨some 30, (.bin .lss (.t 29) (.k (.int .i64 0))), no⟩]) (.cond (.t 30) (.seq 
 (.reg [⟨some 4, (.mv (.k (.int .i64 (-1)))), no⟩]) .ret) .skip)) (.seq (.seq 
 (.reg [⟨some 31, (.mv (.t 0)), no⟩, ⟨some 32, (.mv (.t 5)), no⟩, ⟨some 33, (.ixa 4 (.t 31) (.t 32)), no⟩, ⟨some 34, (.fld 2 (.t 33)), no⟩, ⟨some 35, (.ld false 1 (.t 34)), no⟩, ⟨some 36, (.mv (.t 1)), no⟩, ⟨some 37, (.bin .rem (.t 36) (.k (.int .i64 3))), no⟩, ⟨some 38, (.bin .eql (.t 37) (.k (.int .i64 0))), no⟩, ⟨some 39, (.beq true (.t 35) (.t 38)), no⟩]) (.cond (.t 39) (.seq 
 (.reg [⟨some 4, (.mv (.k (.int .i64 (-1)))), no⟩]) .ret) .skip)) (.seq 
 (.reg [⟨some 40, (.mv (.t 1)), no⟩, ⟨some 41, (.bin .add (.t 40) (.k (.int .i64 1))), no⟩, ⟨some 1, (.mv (.t 41)), no⟩]) (.seq 
 (.reg [⟨some 42, (.mv (.t 0)), no⟩, ⟨some 43, (.mv (.t 5)), no⟩, ⟨some 44, (.ixa 4 (.t 42) (.t 43)), no⟩, ⟨some 45, (.fld 3 (.t 44)), no⟩, ⟨some 46, (.ld false 1 (.t 45)), no⟩, ⟨some 47, (.mv (.t 1)), no⟩, ⟨some 48, (.call (.k (.fn (.func 116) [] [])) [(.t 46), (.t 47)]), no⟩, ⟨some 1, (.mv (.t 48)), no⟩]) (.seq 
 (.reg [⟨some 49, (.mv (.t 1)), no⟩, ⟨some 50, (.bin .lss (.t 49) (.k (.int .i64 0))), no⟩]) (.cond (.t 50) (.seq 
 (.reg [⟨some 4, (.mv (.k (.int .i64 (-1)))), no⟩]) .ret) .skip)))))))))) 
 (.reg [⟨some 10, (.mv (.t 5)), no⟩, ⟨some 11, (.bin .add (.t 10) (.k (.int .i64 1))), no⟩, ⟨some 5, (.mv (.t 11)), no⟩])))))) (.seq 
 (.reg [⟨some 51, (.mv (.t 1)), no⟩, ⟨some 4, (.mv (.t 51)), no⟩]) .ret)))⟩
theorem a128_ok : compFn Tryz.prog Tryz.f128 = some a128 := by kernel_rfl

def a182 : AFn :=
⟨46, [(.t 4)], (.seq 
 (.reg [⟨some 4, (.mv (.k (.int .i64 0))), no⟩]) (.seq (.seq 
 (.reg [⟨some 5, (.mv (.k (.int .i64 0))), no⟩]) (.blk 0 (.loop (.seq (.seq 
 (.reg [⟨some 6, (.mv (.t 5)), no⟩, ⟨some 7, (.mv (.t 0)), no⟩, ⟨some 8, (.len false (.t 7)), no⟩, ⟨some 9, (.bin .lss (.t 6) (.t 8)), no⟩]) (.cond (.t 9) .skip (.exit 0))) (.seq (.blk 1 (.seq 
 (.reg [⟨some 12, (.mv (.t 0)), no⟩, ⟨some 13, (.mv (.t 5)), no⟩, ⟨some 14, (.mv (.t 1)), no⟩, ⟨some 15, (.call (.k (.fn (.func 110) [] [])) [(.t 14)]), no⟩, ⟨some 16, (.ixa 4 (.t 12) (.t 13)), no⟩, ⟨some 17, (.fld 0 (.t 16)), no⟩, ⟨no, (.st 1 (.t 17) (.t 15)), no⟩]) (.seq 
 (.reg [⟨some 18, (.mv (.t 1)), no⟩, ⟨some 19, (.bin .add (.t 18) (.k (.int .i64 1))), no⟩, ⟨some 1, (.mv (.t 19)), no⟩]) (.seq 
 (.reg [⟨some 20, (.mv (.t 0)), no⟩, ⟨some 21, (.mv (.t 5)), no⟩, ⟨some 22, (.mv (.t 1)), no⟩, ⟨some 23, (.bin .rem (.t 22) (.k (.int .i64 3))), no⟩, ⟨some 24, (.bin .eql (.t 23) (.k (.int .i64 0))), no⟩, ⟨some 25, (.ixa 4 (.t 20) (.t 21)), no⟩, ⟨some 26, (.fld 1 (.t 25)), no⟩, ⟨no, (.st 1 (.t 26) (.t 24)), no⟩]) (.seq 
 (.reg [⟨some 27, (.mv (.t 1)), no⟩, ⟨some 28, (.bin .add (.t 27) (.k (.int .i64 1))), no⟩, ⟨some 1, (.mv (.t 28)), no⟩]) (.seq 
 (.reg [⟨some 29, (.mv (.t 0)), no⟩, ⟨some 30, (.mv (.t 5)), no⟩, ⟨some 31, (.mv (.t 1)), no⟩, ⟨some 32, (.call (.k (.fn (.func 110) [] [])) [(.t 31)]), no⟩, ⟨some 33, (.ixa 4 (.t 29) (.t 30)), no⟩, ⟨some 34, (.fld 2 (.t 33)), no⟩, ⟨no, (.st 1 (.t 34) (.t 32)), no⟩]) (.seq 
 (.reg [⟨some 35, (.mv (.t 1)), no⟩, ⟨some 36, (.bin .add (.t 35) (.k (.int .i64 1))), no⟩, ⟨some 1, (.mv (.t 36)), no⟩]) (.seq 
 (.reg [⟨some 37, (.mv (.t 0)), no⟩, ⟨some 38, (.mv (.t 5)), no⟩, ⟨some 39, (.mv (.t 1)), no⟩, ⟨some 40, (.call (.k (.fn (.func 110) [] [])) [(.t 39)]), no⟩, ⟨some 41, (.ixa 4 (.t 37) (.t 38)), no⟩, ⟨some 42, (.fld 3 (.t 41)), no⟩, ⟨no, (.st 1 (.t 42) (.t 40)), no⟩]) 
 (.reg [⟨some 43, (.mv (.t 1)), no⟩, ⟨some 44, (.bin .add (.t 43) (.k (.int .i64 1))), no⟩, ⟨some 1, (.mv (.t 44)), no⟩]))))))))) 
 (.reg [⟨some 10, (.mv (.t 5)), no⟩, ⟨some 11, (.bin .add (.t 10) (.k (.int .i64 1))), no⟩, ⟨some 5, (.mv (.t 11)), no⟩])))))) (.seq 
 (.reg [⟨some 45, (.mv (.t 1)), no⟩, ⟨some 4, (.mv (.t 45)), no⟩]) .ret)))⟩
theorem a182_ok : compFn Tryz.prog Tryz.f182 = some a182 := by kernel_rfl

def a204 : AFn :=
⟨54, [(.t 4)], (.seq 
 (.reg [⟨some 4, (.mv (.k (.int .i64 0))), no⟩]) (.seq (.seq 
 (.reg [⟨some 5, (.mv (.k (.int .i64 0))), no⟩]) (.blk 0 (.loop (.seq (.seq 
 (.reg [⟨some 6, (.mv (.t 5)), no⟩, ⟨some 7, (.mv (.t 0)), no⟩, ⟨some 8, (.len false (.t 7)), no⟩, ⟨some 9, (.bin .lss (.t 6) (.t 8)), no⟩]) (.cond (.t 9) .skip (.exit 0))) (.seq (.blk 1 (.seq (.seq (.draw (.op ⟨some 12, (.mv (.t 0)), no⟩ (.op ⟨some 13, (.mv (.t 5)), no⟩ (.op ⟨some 14, (.ixa 4 (.t 12) (.t 13)), no⟩ (.op ⟨some 15, (.fld 0 (.t 14)), no⟩ (.op ⟨some 16, (.ld false 1 (.t 15)), no⟩ (.op ⟨some 17, (.mv (.t 1)), no⟩ (.op ⟨some 18, (.call (.k (.fn (.func 110) [] [])) [(.t 17)]), no⟩ (.op ⟨some 19, (.bin .neq (.t 16) (.t 18)), no⟩ .fin))))))))) (.cond (.t 19) (.seq 
 (.reg [⟨some 4, (.mv (.k (.int .i64 (-1)))), no⟩]) .ret) .skip)) (.seq 
 (.reg [⟨some 20, (.mv (.t 1)), no⟩, ⟨some 21, (.bin .add (.t 20) (.k (.int .i64 1))), no⟩, ⟨some 1, (.mv (.t 21)), no⟩]) (.seq (.seq 
 (.reg [⟨some 22, (.mv (.t 0)), no⟩, ⟨some 23, (.mv (.t 5)), no⟩, ⟨some 24, (.ixa 4 (.t 22) (.t 23)), no⟩, ⟨some 25, (.fld 1 (.t 24)), no⟩, ⟨some 26, (.ld false 1 (.t 25)), no⟩, ⟨some 27, (.mv (.t 1)), no⟩, ⟨some 28, (.bin .rem (.t 27) (.k (.int .i64 3))), no⟩, ⟨some 29, (.bin .eql (.t 28) (.k (.int .i64 0))), no⟩, ⟨some 30, (.beq true (.t 26) (.t 29)), no⟩]) (.cond (.t 30) (.seq 
 (.reg [⟨some 4, (.mv (.k (.int .i64 (-1)))), no⟩]) .ret) .skip)) (.seq 
 (.reg [⟨some 31, (.mv (.t 1)), no⟩, ⟨some 32, (.bin .add (.t 31) (.k (.int .i64 1))), no⟩, ⟨some 1, (.mv (.t 32)), no⟩]) (.seq (.seq (.draw (.op ⟨some 33, (.mv (.t 0)), no⟩ (.op ⟨some 34, (.mv (.t 5)), no⟩ (.op ⟨some 35, (.ixa 4 (.t 33) (.t 34)), no⟩ (.op ⟨some 36, (.fld 2 (.t 35)), no⟩ (.op ⟨some 37, (.ld false 1 (.t 36)), no⟩ (.op ⟨some 38, (.mv (.t 1)), no⟩ (.op ⟨some 39, (.call (.k (.fn (.func 110) [] [])) [(.t 38)]), no⟩ (.op ⟨some 40, (.bin .neq (.t 37) (.t 39)), no⟩ .fin))))))))) (.cond (.t 40) (.seq 
 (.reg [⟨some 4, (.mv (.k (.int .i64 (-1)))), no⟩]) .ret) .skip)) (.seq 
 (.reg [⟨some 41, (.mv (.t 1)), no⟩, ⟨some 42, (.bin .add (.t 41) (.k (.int .i64 1))), no⟩, ⟨some 1, (.mv (.t 42)), no⟩]) (.seq (.seq (.draw (.op ⟨some 43, (.mv (.t 0)), no⟩ (.op ⟨some 44, (.mv (.t 5)), no⟩ (.op ⟨some 45, (.ixa 4 (.t 43) (.t 44)), no⟩ (.op ⟨some 46, (.fld 3 (.t 45)), no⟩ (.op ⟨some 47, (.ld false 1 (.t 46)), no⟩ (.op ⟨some 48, (.mv (.t 1)), no⟩ (.op ⟨some 49, (.call (.k (.fn (.func 110) [] [])) [(.t 48)]), no⟩ (.op ⟨some 50, (.bin .neq (.t 47) (.t 49)), no⟩ .fin))))))))) (.cond (.t 50) (.seq 
 (.reg [⟨some 4, (.mv (.k (.int .i64 (-1)))), no⟩]) .ret) .skip)) 
 (.reg [⟨some 51, (.mv (.t 1)), no⟩, ⟨some 52, (.bin .add (.t 51) (.k (.int .i64 1))), no⟩, ⟨some 1, (.mv (.t 52)), no⟩]))))))))) 
 (.reg [⟨some 10, (.mv (.t 5)), no⟩, ⟨some 11, (.bin .add (.t 10) (.k (.int .i64 1))), no⟩, ⟨some 5, (.mv (.t 11)), no⟩])))))) (.seq 
 (.reg [⟨some 53, (.mv (.t 1)), no⟩, ⟨some 4, (.mv (.t 53)), no⟩]) .ret)))⟩
theorem a204_ok : compFn Tryz.prog Tryz.f204 = some a204 := by kernel_rfl

def a184 : AFn :=
⟨36, [(.t 4)], (.seq 
 (.reg [⟨some 4, (.mv (.k (.int .i64 0))), no⟩]) (.seq (.seq 
 (.reg [⟨some 5, (.mv (.k (.int .i64 0))), no⟩]) (.blk 0 (.loop (.seq (.seq 
 (.reg [⟨some 6, (.mv (.t 5)), no⟩, ⟨some 7, (.mv (.t 0)), no⟩, ⟨some 8, (.len false (.t 7)), no⟩, ⟨some 9, (.bin .lss (.t 6) (.t 8)), no⟩]) (.cond (.t 9) .skip (.exit 0))) (.seq (.blk 1 (.seq 
 (.reg [⟨some 12, (.mv (.t 0)), no⟩, ⟨some 13, (.mv (.t 5)), no⟩, ⟨some 14, (.mv (.t 1)), no⟩, ⟨some 15, (.call (.k (.fn (.func 110) [] [])) [(.t 14)]), no⟩, ⟨some 16, (.ixa 3 (.t 12) (.t 13)), no⟩, ⟨some 17, (.fld 0 (.t 16)), no⟩, ⟨no, (.st 1 (.t 17) (.t 15)), no⟩]) (.seq 
 (.reg [⟨some 18, (.mv (.t 1)), no⟩, ⟨some 19, (.bin .add (.t 18) (.k (.int .i64 1))), no⟩, ⟨some 1, (.mv (.t 19)), no⟩]) (.seq 
 (.reg [⟨some 20, (.mv (.t 0)), no⟩, ⟨some 21, (.mv (.t 5)), no⟩, ⟨some 22, (.mv (.t 1)), no⟩, ⟨some 23, (.call (.k (.fn (.func 110) [] [])) [(.t 22)]), no⟩, ⟨some 24, (.ixa 3 (.t 20) (.t 21)), no⟩, ⟨some 25, (.fld 1 (.t 24)), no⟩, ⟨no, (.st 1 (.t 25) (.t 23)), no⟩]) (.seq 
 (.reg [⟨some 26, (.mv (.t 1)), no⟩, ⟨some 27, (.bin .add (.t 26) (.k (.int .i64 1))), no⟩, ⟨some 1, (.mv (.t 27)), no⟩]) 
 (.reg [⟨some 28, (.mv (.t 0)), no⟩, ⟨some 29, (.mv (.t 5)), no⟩, ⟨some 30, (.ixa 3 (.t 28) (.t 29)), no⟩, ⟨some 31, (.fld 2 (.t 30)), no⟩, ⟨some 32, (.ld false 1 (.t 31)), no⟩, ⟨some 33, (.mv (.t 1)), no⟩, ⟨some 34, (.call (.k (.fn (.func 257) [] [])) [(.t 32), (.t 33)]), no⟩, ⟨some 1, (.mv (.t 34)), no⟩])))))) 
 (.reg [⟨some 10, (.mv (.t 5)), no⟩, ⟨some 11, (.bin .add (.t 10) (.k (.int .i64 1))), no⟩, ⟨some 5, (.mv (.t 11)), no⟩])))))) (.seq 
 (.reg [⟨some 35, (.mv (.t 1)), no⟩, ⟨some 4, (.mv (.t 35)), no⟩]) .ret)))⟩
theorem a184_ok : compFn Tryz.prog Tryz.f184 = some a184 := by kernel_rfl

def a206 : AFn :=
⟨42, [(.t 4)], (.seq 
 (.reg [⟨some 4, (.mv (.k (.int .i64 0))), no⟩]) (.seq (.seq 
 (.reg [⟨some 5, (.mv (.k (.int .i64 0))), no⟩]) (.blk 0 (.loop (.seq (.seq 
 (.reg [⟨some 6, (.mv (.t 5)), no⟩, ⟨some 7, (.mv (.t 0)), no⟩, ⟨some 8, (.len false (.t 7)), no⟩, ⟨some 9, (.bin .lss (.t 6) (.t 8)), no⟩]) (.cond (.t 9) .skip (.exit 0))) (.seq (.blk 1 (.seq (.seq (.draw (.op ⟨some 12, (.mv (.t 0)), no⟩ (.op ⟨some 13, (.mv (.t 5)), no⟩ (.op ⟨some 14, (.ixa 3 (.t 12) (.t 13)), no⟩ (.op ⟨some 15, (.fld 0 (.t 14)), no⟩ (.op ⟨some 16, (.ld false 1 (.t 15)), no⟩ (.op ⟨some 17, (.mv (.t 1)), no⟩ (.op ⟨some 18, (.call (.k (.fn (.func 110) [] [])) [(.t 17)]), no⟩ (.op ⟨some 19, (.bin .neq (.t 16) (.t 18)), no⟩ .fin))))))))) (.cond (.t 19) (.seq 
 (.reg [⟨some 4, (.mv (.k (.int .i64 (-1)))), no⟩]) .ret) .skip)) (.seq 
 (.reg [⟨some 20, (.mv (.t 1)), no⟩, ⟨some 21, (.bin .add (.t 20) (.k (.int .i64 1))), no⟩, ⟨some 1, (.mv (.t 21)), no⟩]) (.seq (.seq (.draw (.op ⟨some 22, (.mv (.t 0)), no⟩ (.op ⟨some 23, (.mv (.t 5)), no⟩ (.op ⟨some 24, (.ixa 3 (.t 22) (.t 23)), no⟩ (.op ⟨some 25, (.fld 1 (.t 24)), no⟩ (.op ⟨some 26, (.ld false 1 (.t 25)), no⟩ (.op ⟨some 27, (.mv (.t 1)), no⟩ (.op ⟨some 28, (.call (.k (.fn (.func 110) [] [])) [(.t 27)]), no⟩ (.op ⟨some 29, (.bin .neq (.t 26) (.t 28)), no⟩ .fin))))))))) (.cond (.t 29) (.seq 
 (.reg [⟨some 4, (.mv (.k (.int .i64 (-1)))), no⟩]) .ret) .skip)) (.seq 
 (.reg [⟨some 30, (.mv (.t 1)), no⟩, ⟨some 31, (.bin .add (.t 30) (.k (.int .i64 1))), no⟩, ⟨some 1, (.mv (.t 31)), no⟩]) (.seq 
 (.reg [⟨some 32, (.mv (.t 0)), no⟩, ⟨some 33, (.mv (.t 5)), no⟩, ⟨some 34, (.ixa 3 (.t 32) (.t 33)), no⟩, ⟨some 35, (.fld 2 (.t 34)), no⟩, ⟨some 36, (.ld false 1 (.t 35)), no⟩, ⟨some 37, (.mv (.t 1)), no⟩, ⟨some 38, (.call (.k (.fn (.func 269) [] [])) [(.t 36), (.t 37)]), no⟩, ⟨some 1, (.mv (.t 38)), no⟩]) (.seq 
 (.reg [⟨some 39, (.mv (.t 1)), no⟩, ⟨some 40, (.bin .lss (.t 39) (.k (.int .i64 0))), no⟩]) (.cond (.t 40) (.seq 
 (.reg [⟨some 4, (.mv (.k (.int .i64 (-1)))), no⟩]) .ret) .skip)))))))) 
 (.reg [⟨some 10, (.mv (.t 5)), no⟩, ⟨some 11, (.bin .add (.t 10) (.k (.int .i64 1))), no⟩, ⟨some 5, (.mv (.t 11)), no⟩])))))) (.seq 
 (.reg [⟨some 41, (.mv (.t 1)), no⟩, ⟨some 4, (.mv (.t 41)), no⟩]) .ret)))⟩
theorem a206_ok : compFn Tryz.prog Tryz.f206 = some a206 := by kernel_rfl

def a94 : AFn :=
⟨69, [(.t 4)], (.seq 
 (.reg [⟨some 4, (.mv (.k (.int .i64 0))), no⟩]) (.seq (.seq 
 (.reg [⟨some 5, (.mv (.k (.int .i64 0))), no⟩]) (.blk 0 (.loop (.seq (.seq 
 (.reg [⟨some 6, (.mv (.t 5)), no⟩, ⟨some 7, (.mv (.t 0)), no⟩, ⟨some 8, (.len false (.t 7)), no⟩, ⟨some 9, (.bin .lss (.t 6) (.t 8)), no⟩]) (.cond (.t 9) .skip (.exit 0))) (.seq (.blk 1 (.seq 
 (.reg [⟨some 12, (.mv (.t 0)), no⟩, ⟨some 13, (.mv (.t 5)), no⟩, ⟨some 14, (.mv (.t 1)), no⟩, ⟨some 15, (.call (.k (.fn (.func 110) [] [])) [(.t 14)]), no⟩, ⟨some 16, (.ixa 7 (.t 12) (.t 13)), no⟩, ⟨some 17, (.fld 0 (.t 16)), no⟩, ⟨no, (.st 1 (.t 17) (.t 15)), no⟩]) (.seq 
 (.reg [⟨some 18, (.mv (.t 1)), no⟩, ⟨some 19, (.bin .add (.t 18) (.k (.int .i64 1))), no⟩, ⟨some 1, (.mv (.t 19)), no⟩]) (.seq 
 (.reg [⟨some 20, (.mv (.t 0)), no⟩, ⟨some 21, (.mv (.t 5)), no⟩, ⟨some 22, (.ixa 7 (.t 20) (.t 21)), no⟩, ⟨some 23, (.fld 1 (.t 22)), no⟩, ⟨some 24, (.ld false 1 (.t 23)), no⟩, ⟨some 25, (.mv (.t 1)), no⟩, ⟨some 26, (.call (.k (.fn (.func 182) [] [])) [(.t 24), (.t 25)]), no⟩, ⟨some 1, (.mv (.t 26)), no⟩]) (.seq 
 (.reg [⟨some 27, (.mv (.t 0)), no⟩, ⟨some 28, (.mv (.t 5)), no⟩, ⟨some 29, (.ixa 7 (.t 27) (.t 28)), no⟩, ⟨some 30, (.fld 2 (.t 29)), no⟩, ⟨some 31, (.ld false 1 (.t 30)), no⟩, ⟨some 32, (.mv (.t 1)), no⟩, ⟨some 33, (.call (.k (.fn (.func 183) [] [])) [(.t 31), (.t 32)]), no⟩, ⟨some 1, (.mv (.t 33)), no⟩]) (.seq 
 (.reg [⟨some 34, (.mv (.t 0)), no⟩, ⟨some 35, (.mv (.t 5)), no⟩, ⟨some 36, (.ixa 7 (.t 34) (.t 35)), no⟩, ⟨some 37, (.fld 3 (.t 36)), no⟩, ⟨some 38, (.ld false 1 (.t 37)), no⟩, ⟨some 39, (.mv (.t 1)), no⟩, ⟨some 40, (.call (.k (.fn (.func 184) [] [])) [(.t 38), (.t 39)]), no⟩, ⟨some 1, (.mv (.t 40)), no⟩]) (.seq 
 (.reg [⟨some 41, (.mv (.t 0)), no⟩, ⟨some 42, (.mv (.t 5)), no⟩, ⟨some 43, (.mv (.t 1)), no⟩, ⟨some 44, (.bin .rem (.t 43) (.k (.int .i64 3))), no⟩, ⟨some 45, (.bin .eql (.t 44) (.k (.int .i64 0))), no⟩, ⟨some 46, (.ixa 7 (.t 41) (.t 42)), no⟩, ⟨some 47, (.fld 4 (.t 46)), no⟩, ⟨some 48, (.fld 0 (.t 47)), no⟩, ⟨no, (.st 1 (.t 48) (.t 45)), no⟩]) (.seq 
 (.reg [⟨some 49, (.mv (.t 1)), no⟩, ⟨some 50, (.bin .add (.t 49) (.k (.int .i64 1))), no⟩, ⟨some 1, (.mv (.t 50)), no⟩]) (.seq 
 (.reg [⟨some 51, (.mv (.t 0)), no⟩, ⟨some 52, (.mv (.t 5)), no⟩, ⟨some 53, (.ixa 7 (.t 51) (.t 52)), no⟩, ⟨some 54, (.fld 4 (.t 53)), no⟩, ⟨some 55, (.fld 1 (.t 54)), no⟩, ⟨some 56, (.ld false 1 (.t 55)), no⟩, ⟨some 57, (.mv (.t 1)), no⟩, ⟨some 58, (.call (.k (.fn (.func 183) [] [])) [(.t 56), (.t 57)]), no⟩, ⟨some 1, (.mv (.t 58)), no⟩]) (.seq 
 (.reg [⟨some 59, (.mv (.t 0)), no⟩, ⟨some 60, (.mv (.t 5)), no⟩, ⟨some 61, (.mv (.t 1)), no⟩, ⟨some 62, (.call (.k (.fn (.func 110) [] [])) [(.t 61)]), no⟩, ⟨some 63, (.ixa 7 (.t 59) (.t 60)), no⟩, ⟨some 64, (.fld 4 (.t 63)), no⟩, ⟨some 65, (.fld 2 (.t 64)), no⟩, ⟨no, (.st 1 (.t 65) (.t 62)), no⟩]) 
 (.reg [⟨some 66, (.mv (.t 1)), no⟩, ⟨some 67, (.bin .add (.t 66) (.k (.int .i64 1))), no⟩, ⟨some 1, (.mv (.t 67)), no⟩]))))))))))) 
 (.reg [⟨some 10, (.mv (.t 5)), no⟩, ⟨some 11, (.bin .add (.t 10) (.k (.int .i64 1))), no⟩, ⟨some 5, (.mv (.t 11)), no⟩])))))) (.seq 
 (.reg [⟨some 68, (.mv (.t 1)), no⟩, ⟨some 4, (.mv (.t 68)), no⟩]) .ret)))⟩
theorem a94_ok : compFn Tryz.prog Tryz.f94 = some a94 := by kernel_rfl

def a129 : AFn :=
⟨83, [(.t 4)], (.seq 
 (.reg [⟨some 4, (.mv (.k (.int .i64 0))), no⟩]) (.seq (.seq 
 (.reg [⟨some 5, (.mv (.k (.int .i64 0))), no⟩]) (.blk 0 (.loop (.seq (.seq 
 (.reg [⟨some 6, (.mv (.t 5)), no⟩, ⟨some 7, (.mv (.t 0)), no⟩, ⟨some 8, (.len false (.t 7)), no⟩, ⟨some 9, (.bin .lss (.t 6) (.t 8)), no⟩]) (.cond (.t 9) .skip (.exit 0))) (.seq (.blk 1 (.seq (.seq (.draw (.op ⟨some 12, (.mv (.t 0)), no⟩ (.op ⟨some 13, (.mv (.t 5)), no⟩ (.op ⟨some 14, (.ixa 7 (.t 12) (.t 13)), no⟩ (.op ⟨some 15, (.fld 0 (.t 14)), no⟩ (.op ⟨some 16, (.ld false 1 (.t 15)), no⟩ (.op ⟨some 17, (.mv (.t 1)), no⟩ (.op ⟨some 18, (.call (.k (.fn (.func 110) [] [])) [(.t 17)]), no⟩ (.op ⟨some 19, (.bin .neq (.t 16) (.t 18)), no⟩ .fin))))))))) (.cond (.t 19) (.seq 
 (.reg [⟨some 4, (.mv (.k (.int .i64 (-1)))), no⟩]) .ret) .skip)) (.seq 
 (.reg [⟨some 20, (.mv (.t 1)), no⟩, ⟨some 21, (.bin .add (.t 20) (.k (.int .i64 1))), no⟩, ⟨some 1, (.mv (.t 21)), no⟩]) (.seq 
 (.reg [⟨some 22, (.mv (.t 0)), no⟩, ⟨some 23, (.mv (.t 5)), no⟩, ⟨some 24, (.ixa 7 (.t 22) (.t 23)), no⟩, ⟨some 25, (.fld 1 (.t 24)), no⟩, ⟨some 26, (.ld false 1 (.t 25)), no⟩, ⟨some 27, (.mv (.t 1)), no⟩, ⟨some 28, (.call (.k (.fn (.func 204) [] [])) [(.t 26), (.t 27)]), no⟩, ⟨some 1, (.mv (.t 28)), no⟩]) (.seq (.seq 
 (.reg [⟨some 29, (.mv (.t 1)), no⟩, ⟨some 30, (.bin .lss (.t 29) (.k (.int .i64 0))), no⟩]) (.cond (.t 30) (.seq 
 (.reg [⟨some 4, (.mv (.k (.int .i64 (-1)))), no⟩]) .ret) .skip)) (.seq 
 (.reg [⟨some 31, (.mv (.t 0)), no⟩, ⟨some 32, (.mv (.t 5)), no⟩, ⟨some 33, (.ixa 7 (.t 31) (.t 32)), no⟩, ⟨some 34, (.fld 2 (.t 33)), no⟩, ⟨some 35, (.ld false 1 (.t 34)), no⟩, ⟨some 36, (.mv (.t 1)), no⟩, ⟨some 37, (.call (.k (.fn (.func 205) [] [])) [(.t 35), (.t 36)]), no⟩, ⟨some 1, (.mv (.t 37)), no⟩]) (.seq (.seq 
 (.reg [⟨some 38, (.mv (.t 1)), no⟩, ⟨some 39, (.bin .lss (.t 38) (.k (.int .i64 0))), no⟩]) (.cond (.t 39) (.seq 
 (.reg [⟨some 4, (.mv (.k (.int .i64 (-1)))), no⟩]) .ret) .skip)) (.seq 
 (.reg [⟨some 40, (.mv (.t 0)), no⟩, ⟨some 41, (.mv (.t 5)), no⟩, ⟨some 42, (.ixa 7 (.t 40) (.t 41)), no⟩, ⟨some 43, (.fld 3 (.t 42)), no⟩, ⟨some 44, (.ld false 1 (.t 43)), no⟩, ⟨some 45, (.mv (.t 1)), no⟩, ⟨some 46, (.call (.k (.fn (.func 206) [] [])) [(.t 44), (.t 45)]), no⟩, ⟨some 1, (.mv (.t 46)), no⟩]) (.seq (.seq 
 (.reg [⟨some 47, (.mv (.t 1)), no⟩, ⟨some 48, (.bin .lss (.t 47) (.k (.int .i64 0))), no⟩]) (.cond (.t 48) (.seq 
 (.reg [⟨some 4, (.mv (.k (.int .i64 (-1)))), no⟩]) .ret) .skip)) (.seq (.seq 
 (.reg [⟨some 49, (.mv (.t 0)), no⟩, ⟨some 50, (.mv (.t 5)), no⟩, ⟨some 51, (.ixa 7 (.t 49) (.t 50)), no⟩, ⟨some 52, (.fld 4 (.t 51)), no⟩, ⟨some 53, (.fld 0 (.t 52)), no⟩, ⟨some 54, (.ld false 1 (.t 53)), no⟩, ⟨some 55, (.mv (.t 1)), no⟩, ⟨some 56, (.bin .rem (.t 55) (.k (.int .i64 3))), no⟩, ⟨some 57, (.bin .eql (.t 56) (.k (.int .i64 0))), no⟩, ⟨some 58, (.beq true (.t 54) (.t 57)), no⟩]) (.cond (.t 58) (.seq 
 (.reg [⟨some 4, (.mv (.k (.int .i64 (-1)))), no⟩]) .ret) .skip)) (.seq 
 (.reg [⟨some 59, (.mv (.t 1)), no⟩, ⟨some 60, (.bin .add (.t 59) (.k (.int .i64 1))), no⟩, ⟨some 1, (.mv (.t 60)), no⟩]) (.seq 
 (.reg [⟨some 61, (.mv (.t 0)), no⟩, ⟨some 62, (.mv (.t 5)), no⟩, ⟨some 63, (.ixa 7 (.t 61) (.t 62)), no⟩, ⟨some 64, (.fld 4 (.t 63)), no⟩, ⟨some 65, (.fld 1 (.t 64)), no⟩, ⟨some 66, (.ld false 1 (.t 65)), no⟩, ⟨some 67, (.mv (.t 1)), no⟩, ⟨some 68, (.call (.k (.fn (.func 205) [] [])) [(.t 66), (.t 67)]), no⟩, ⟨some 1, (.mv (.t 68)), no⟩]) (.seq (.seq 
 (.reg [⟨some 69, (.mv (.t 1)), no⟩, ⟨some 70, (.bin .lss (.t 69) (.k (.int .i64 0))), no⟩]) (.cond (.t 70) (.seq 
 (.reg [⟨some 4, (.mv (.k (.int .i64 (-1)))), no⟩]) .ret) .skip)) (.seq (.seq (.draw (.op ⟨some 71, (.mv (.t 0)), no⟩ (.op ⟨some 72, (.mv (.t 5)), no⟩ (.op ⟨some 73, (.ixa 7 (.t 71) (.t 72)), no⟩ (.op ⟨some 74, (.fld 4 (.t 73)), no⟩ (.op ⟨some 75, (.fld 2 (.t 74)), no⟩ (.op ⟨some 76, (.ld false 1 (.t 75)), no⟩ (.op ⟨some 77, (.mv (.t 1)), no⟩ (.op ⟨some 78, (.call (.k (.fn (.func 110) [] [])) [(.t 77)]), no⟩ (.op ⟨some 79, (.bin .neq (.t 76) (.t 78)), no⟩ .fin)))))))))) (.cond (.t 79) (.seq 
 (.reg [⟨some 4, (.mv (.k (.int .i64 (-1)))), no⟩]) .ret) .skip)) 
 (.reg [⟨some 80, (.mv (.t 1)), no⟩, ⟨some 81, (.bin .add (.t 80) (.k (.int .i64 1))), no⟩, ⟨some 1, (.mv (.t 81)), no⟩]))))))))))))))) 
 (.reg [⟨some 10, (.mv (.t 5)), no⟩, ⟨some 11, (.bin .add (.t 10) (.k (.int .i64 1))), no⟩, ⟨some 5, (.mv (.t 11)), no⟩])))))) (.seq 
 (.reg [⟨some 82, (.mv (.t 1)), no⟩, ⟨some 4, (.mv (.t 82)), no⟩]) .ret)))⟩
theorem a129_ok : compFn Tryz.prog Tryz.f129 = some a129 := by kernel_rfl

def a27 : AFn :=
⟨27, [(.t 4)], (.seq 
 (.reg [⟨some 4, (.mv (.k (.int .i64 0))), no⟩]) (.seq (.seq 
 (.reg [⟨some 5, (.mv (.k (.int .i64 0))), no⟩]) (.blk 0 (.loop (.seq (.seq 
 (.reg [⟨some 6, (.mv (.t 5)), no⟩, ⟨some 7, (.mv (.t 0)), no⟩, ⟨some 8, (.len false (.t 7)), no⟩, ⟨some 9, (.bin .lss (.t 6) (.t 8)), no⟩]) (.cond (.t 9) .skip (.exit 0))) (.seq (.blk 1 (.seq 
 (.reg [⟨some 12, (.mv (.t 0)), no⟩, ⟨some 13, (.mv (.t 5)), no⟩, ⟨some 14, (.mv (.t 1)), no⟩, ⟨some 15, (.ixa 2 (.t 12) (.t 13)), no⟩, ⟨some 16, (.fld 0 (.t 15)), no⟩, ⟨no, (.st 1 (.t 16) (.t 14)), no⟩]) (.seq 
 (.reg [⟨some 17, (.mv (.t 1)), no⟩, ⟨some 18, (.bin .add (.t 17) (.k (.int .i64 1))), no⟩, ⟨some 1, (.mv (.t 18)), no⟩]) (.seq 
 (.reg [⟨some 19, (.mv (.t 0)), no⟩, ⟨some 20, (.mv (.t 5)), no⟩, ⟨some 21, (.mv (.t 1)), no⟩, ⟨some 22, (.ixa 2 (.t 19) (.t 20)), no⟩, ⟨some 23, (.fld 1 (.t 22)), no⟩, ⟨no, (.st 1 (.t 23) (.t 21)), no⟩]) 
 (.reg [⟨some 24, (.mv (.t 1)), no⟩, ⟨some 25, (.bin .add (.t 24) (.k (.int .i64 1))), no⟩, ⟨some 1, (.mv (.t 25)), no⟩]))))) 
 (.reg [⟨some 10, (.mv (.t 5)), no⟩, ⟨some 11, (.bin .add (.t 10) (.k (.int .i64 1))), no⟩, ⟨some 5, (.mv (.t 11)), no⟩])))))) (.seq 
 (.reg [⟨some 26, (.mv (.t 1)), no⟩, ⟨some 4, (.mv (.t 26)), no⟩]) .ret)))⟩
theorem a27_ok : compFn Tryz.prog Tryz.f27 = some a27 := by kernel_rfl

def a28 : AFn :=
⟨31, [(.t 4)], (.seq 
 (.reg [⟨some 4, (.mv (.k (.int .i64 0))), no⟩]) (.seq (.seq 
 (.reg [⟨some 5, (.mv (.k (.int .i64 0))), no⟩]) (.blk 0 (.loop (.seq (.seq 
 (.reg [⟨some 6, (.mv (.t 5)), no⟩, ⟨some 7, (.mv (.t 0)), no⟩, ⟨some 8, (.len false (.t 7)), no⟩, ⟨some 9, (.bin .lss (.t 6) (.t 8)), no⟩]) (.cond (.t 9) .skip (.exit 0))) (.seq (.blk 1 (.seq (.seq 
 (.reg [⟨some 12, (.mv (.t 0)), no⟩, ⟨some 13, (.mv (.t 5)), no⟩, ⟨some 14, (.ixa 2 (.t 12) (.t 13)), no⟩, ⟨some 15, (.fld 0 (.t 14)), no⟩, ⟨some 16, (.ld false 1 (.t 15)), no⟩, ⟨some 17, (.mv (.t 1)), no⟩, ⟨some 18, (.bin .neq (.t 16) (.t 17)), no⟩]) (.cond (.t 18) (.seq 
 (.reg [⟨some 4, (.mv (.k (.int .i64 (-1)))), no⟩]) .ret) .skip)) (.seq 
 (.reg [⟨some 19, (.mv (.t 1)), no⟩, ⟨some 20, (.bin .add (.t 19) (.k (.int .i64 1))), no⟩, ⟨some 1, (.mv (.t 20)), no⟩]) (.seq (.seq 
 (.reg [⟨some 21, (.mv (.t 0)), no⟩, ⟨some 22, (.mv (.t 5)), no⟩, ⟨some 23, (.ixa 2 (.t 21) (.t 22)), no⟩, ⟨some 24, (.fld 1 (.t 23)), no⟩, ⟨some 25, (.ld false 1 (.t 24)), no⟩, ⟨some 26, (.mv (.t 1)), no⟩, ⟨some 27, (.bin .neq (.t 25) (.t 26)), no⟩]) (.cond (.t 27) (.seq 
 (.reg [⟨some 4, (.mv (.k (.int .i64 (-1)))), no⟩]) .ret) .skip)) 
 (.reg [⟨some 28, (.mv (.t 1)), no⟩, ⟨some 29, (.bin .add (.t 28) (.k (.int .i64 1))), no⟩, ⟨some 1, (.mv (.t 29)), no⟩]))))) 
 (.reg [⟨some 10, (.mv (.t 5)), no⟩, ⟨some 11, (.bin .add (.t 10) (.k (.int .i64 1))), no⟩, ⟨some 5, (.mv (.t 11)), no⟩])))))) (.seq 
 (.reg [⟨some 30, (.mv (.t 1)), no⟩, ⟨some 4, (.mv (.t 30)), no⟩]) .ret)))⟩
theorem a28_ok : compFn Tryz.prog Tryz.f28 = some a28 := by kernel_rfl

def a26 : AFn :=
⟨14, [(.t 4)], (.seq 
 (.reg [⟨some 2, (.boxv (.t 0)), no⟩, ⟨some 4, (.mv (.k (.int .i64 0))), no⟩]) (.seq 
 (.reg [⟨some 5, (.fld 0 (.t 2)), no⟩, ⟨some 6, (.ld false 1 (.t 5)), no⟩, ⟨some 7, (.mv (.t 1)), no⟩, ⟨some 8, (.call (.k (.fn (.func 93) [] [])) [(.t 6), (.t 7)]), no⟩, ⟨some 1, (.mv (.t 8)), no⟩]) (.seq 
 (.reg [⟨some 9, (.fld 1 (.t 2)), no⟩, ⟨some 10, (.ld false 1 (.t 9)), no⟩, ⟨some 11, (.mv (.t 1)), no⟩, ⟨some 12, (.call (.k (.fn (.func 94) [] [])) [(.t 10), (.t 11)]), no⟩, ⟨some 1, (.mv (.t 12)), no⟩]) (.seq 
 (.reg [⟨some 13, (.mv (.t 1)), no⟩, ⟨some 4, (.mv (.t 13)), no⟩]) .ret))))⟩
theorem a26_ok : compFn Tryz.prog Tryz.f26 = some a26 := by kernel_rfl

def a59 : AFn :=
⟨18, [(.t 4)], (.seq 
 (.reg [⟨some 2, (.boxv (.t 0)), no⟩, ⟨some 4, (.mv (.k (.int .i64 0))), no⟩]) (.seq 
 (.reg [⟨some 5, (.fld 0 (.t 2)), no⟩, ⟨some 6, (.ld false 1 (.t 5)), no⟩, ⟨some 7, (.mv (.t 1)), no⟩, ⟨some 8, (.call (.k (.fn (.func 128) [] [])) [(.t 6), (.t 7)]), no⟩, ⟨some 1, (.mv (.t 8)), no⟩]) (.seq (.seq 
 (.reg [⟨some 9, (.mv (.t 1)), no⟩, ⟨some 10, (.bin .lss (.t 9) (.k (.int .i64 0))), no⟩]) (.cond (.t 10) (.seq 
 (.reg [⟨some 4, (.mv (.k (.int .i64 (-1)))), no⟩]) .ret) .skip)) (.seq 
 (.reg [⟨some 11, (.fld 1 (.t 2)), no⟩, ⟨some 12, (.ld false 1 (.t 11)), no⟩, ⟨some 13, (.mv (.t 1)), no⟩, ⟨some 14, (.call (.k (.fn (.func 129) [] [])) [(.t 12), (.t 13)]), no⟩, ⟨some 1, (.mv (.t 14)), no⟩]) (.seq (.seq 
 (.reg [⟨some 15, (.mv (.t 1)), no⟩, ⟨some 16, (.bin .lss (.t 15) (.k (.int .i64 0))), no⟩]) (.cond (.t 16) (.seq 
 (.reg [⟨some 4, (.mv (.k (.int .i64 (-1)))), no⟩]) .ret) .skip)) (.seq 
 (.reg [⟨some 17, (.mv (.t 1)), no⟩, ⟨some 4, (.mv (.t 17)), no⟩]) .ret))))))⟩
theorem a59_ok : compFn Tryz.prog Tryz.f59 = some a59 := by kernel_rfl

def a75 : AFn :=
⟨10, [(.t 4)], (.seq 
 (.reg [⟨some 2, (.boxv (.t 0)), no⟩, ⟨some 4, (.mv (.k (.int .i64 0))), no⟩]) (.seq 
 (.reg [⟨some 5, (.fld 1 (.t 2)), no⟩, ⟨some 6, (.ld false 1 (.t 5)), no⟩, ⟨some 7, (.mv (.t 1)), no⟩, ⟨some 8, (.call (.k (.fn (.func 115) [] [])) [(.t 6), (.t 7)]), no⟩, ⟨some 1, (.mv (.t 8)), no⟩]) (.seq 
 (.reg [⟨some 9, (.mv (.t 1)), no⟩, ⟨some 4, (.mv (.t 9)), no⟩]) .ret)))⟩
theorem a75_ok : compFn Tryz.prog Tryz.f75 = some a75 := by kernel_rfl


set_option maxRecDepth 20000 in
set_option maxHeartbeats 1000000 in
theorem m_markTermS (l : List DTerm) (k : Int) (h0 : 0 ≤ k ∧ k + cTermS l ≤ 4611686018427387904) : Marks Tryz.prog 256 (.us 2 (l.map rUTerm)) k (.us 2 ((mkTermS l k).map rUTerm)) (k + cTermS l) := by
  intro h n a I K hT hI hn hK
  obtain ⟨id, rows0, I0, rfl, _, hB, _⟩ := TR_us hT
  simp only [List.length_map] at hT hB hK ⊢
  refine acall_len Tryz.func256 rfl rfl (by rw [hB]; simp) fun hlim => ?_
  refine acall_body Tryz.func256 a256_ok rfl (by simp [a256]) ?_
  simp [a256]
  unfold cTermS at *
  refine rL_forO [0] 5 l.length (fun i s h1 n1 => MJ mkrTerm crTerm rUTerm 2 h n id I l k i (s 1) h1 n1) hlim (by simp) (by simpa using MJ.start hT) ?_ ?_
  · rintro i s h1 n1 R hi hg hk s5 hw hJ hR hret _
    simp at hk
    obtain ⟨x, ki, rows, cells, I2, s1, hki, hki2, hlen, hc0, hnd, hI2, hstart, hclose⟩ := hJ.step2 hI hn hi
    simp only [rUTerm] at hc0
    simp only [crTerm] at hki2
    obtain ⟨_, rfl, hc1⟩ := TRl_int.1 hc0
    obtain ⟨_, rfl, hc2⟩ := TRl_str.1 hc1
    obtain ⟨rfl, rfl⟩ := TRl_nil.1 hc2
    have S := hstart _ Kids.nil
    have e := S.e
    have w0 : IntKind.i64.wrap (ki + 1) = ki + 1 := wrap64 (by omega)
    have w1 : IntKind.i64.wrap (ki + 1 + 1) = ki + 1 + 1 := wrap64 (by omega)
    simp [hk, s5, hi, hw, s1, e, hlen, w0, w1]
    intro _
    first | refine callD_of (k_markText (ki + 1) (by omega)) (by simp) ?_ | refine call_of (k_markText (ki + 1) (by omega)) (by simp) ?_
    rintro r rfl
    simp [hk, s5, hi, hw, s1, e, hlen, w0, w1]
    refine hR _ _ _ (by simp [hk]) (by simp) (hclose _ _ [.int .i64 (ki), .str (mtx (ki + 1))] _ _ S.store (TRl_int.2 ⟨_, rfl, (TRl_str.2 ⟨_, rfl, (TRl_nil.2 ⟨rfl, rfl⟩)⟩)⟩) (by simp [i64, crTerm]; try omega))
  · rintro s h1 n1 R hk s5 hJ hret hX
    simp at hk
    obtain ⟨s1, hn1, hf, ht⟩ := hJ.fin
    simp [hk, s5, s1]
    refine ⟨TR_some ht, fun _ => ?_⟩
    refine hX _ _ _ _ ?_
    simp [hk, s5, s1]
    exact hK _ _ hn1 hf ht

set_option maxRecDepth 20000 in
set_option maxHeartbeats 1000000 in
theorem k_heldTermS (l : List DTerm) (k : Int) (h0 : 0 ≤ k ∧ k + cTermS l ≤ 4611686018427387904) : Holds Tryz.prog 268 [.sl 2 ((mkTermS l k).map rATerm), i64 k] (fun r => r = i64 (k + cTermS l)) := by
  refine holds_of_lim Tryz.func268 rfl rfl fun hlim => ?_
  simp at hlim
  generalize hM : mkTermS l k = M at *
  refine holds_of_run Tryz.func268 a268_ok rfl (by simp [a268]) ?_
  simp [a268]
  unfold cTermS at *
  refine rL_forO [0] 5 M.length (fun i s h1 n1 => HJ mkrTerm crTerm M l k i (s 1)) hlim (by simp) (by rw [← hM]; simp; exact HJ.start) ?_ ?_
  · rintro i s h1 n1 R hi hg hk s5 hw hJ hR hret _
    simp at hk
    obtain ⟨x, ki, s1, hki, hki2, hx, hclose⟩ := hJ.step hi
    simp only [crTerm] at hki2
    have w0 : IntKind.i64.wrap (ki + 1) = ki + 1 := wrap64 (by omega)
    have w1 : IntKind.i64.wrap (ki + 1 + 1) = ki + 1 + 1 := wrap64 (by omega)
    simp [hk, s5, hi, hw, s1, hx, mkrTerm, w0, w1]
    intro _
    first | refine callD_of (k_markText (ki + 1) (by omega)) (by simp) ?_ | refine call_of (k_markText (ki + 1) (by omega)) (by simp) ?_
    rintro r rfl
    simp [hk, s5, hi, hw, s1, hx, mkrTerm, w0, w1]
    first | done | refine hR _ _ _ (by simp [hk]) (by simp) (hclose _ (by simp [i64, crTerm]; try omega))
  · rintro s h1 n1 R hk s5 hJ hret hX
    simp at hk
    have s1 := hJ.fin (Nat.le_refl _)
    simp [hk, s5, s1]
    first | refine hX _ _ _ _ ?_ | (intro _; refine hX _ _ _ _ ?_)
    simp [hk, s5, s1]

set_option maxRecDepth 20000 in
set_option maxHeartbeats 1000000 in
theorem m_markSumS (l : List DSum) (k : Int) (h0 : 0 ≤ k ∧ k + cSumS l ≤ 4611686018427387904) : Marks Tryz.prog 183 (.us 2 (l.map rUSum)) k (.us 2 ((mkSumS l k).map rUSum)) (k + cSumS l) := by
  intro h n a I K hT hI hn hK
  obtain ⟨id, rows0, I0, rfl, _, hB, _⟩ := TR_us hT
  simp only [List.length_map] at hT hB hK ⊢
  refine acall_len Tryz.func183 rfl rfl (by rw [hB]; simp) fun hlim => ?_
  refine acall_body Tryz.func183 a183_ok rfl (by simp [a183]) ?_
  simp [a183]
  unfold cSumS at *
  refine rL_forO [0] 5 l.length (fun i s h1 n1 => MJ mkrSum crSum rUSum 2 h n id I l k i (s 1) h1 n1) hlim (by simp) (by simpa using MJ.start hT) ?_ ?_
  · rintro i s h1 n1 R hi hg hk s5 hw hJ hR hret _
    simp at hk
    obtain ⟨x, ki, rows, cells, I2, s1, hki, hki2, hlen, hc0, hnd, hI2, hstart, hclose⟩ := hJ.step2 hI hn hi
    simp only [rUSum] at hc0
    simp only [crSum] at hki2
    obtain ⟨_, rfl, hc1⟩ := TRl_int.1 hc0
    obtain ⟨d1, len1, _, J1, _, rfl, rfl, hl1, ht1, hc2⟩ := TRl_us hc1
    have hq1 : len1 = (x.Terms).length := by simpa using hl1
    subst hq1
    obtain ⟨rfl, rfl⟩ := TRl_nil.1 hc2
    have S := hstart _ (Kids.cons ht1 hnd hI2 fun hnd hI2 => Kids.nil)
    have e := S.e
    have w0 : IntKind.i64.wrap (ki + 1) = ki + 1 := wrap64 (by omega)
    simp [hk, s5, hi, hw, s1, e, hlen, w0]
    intro _
    refine RS.mark (T1 := []) (m_markTermS _ _ (by omega)) S.store ?_
    clear S e
    intro h2 n2 S
    have e := S.e
    simp [hk, s5, hi, hw, s1, e, hlen, w0]
    refine hR _ _ _ (by simp [hk]) (by simp) (hclose _ _ [.int .i64 (ki), .ref d1 0 (x.Terms).length] _ _ S (TRl_int.2 ⟨_, rfl, (TRl_cons (S.live.ids (_, .ref d1 0 _, J1) (by simp [mkrSum])).1 (TRl_nil.2 ⟨rfl, rfl⟩))⟩) (by simp [i64, crSum]; try omega))
  · rintro s h1 n1 R hk s5 hJ hret hX
    simp at hk
    obtain ⟨s1, hn1, hf, ht⟩ := hJ.fin
    simp [hk, s5, s1]
    refine ⟨TR_some ht, fun _ => ?_⟩
    refine hX _ _ _ _ ?_
    simp [hk, s5, s1]
    exact hK _ _ hn1 hf ht

set_option maxRecDepth 20000 in
set_option maxHeartbeats 1000000 in
theorem k_heldSumS (l : List DSum) (k : Int) (h0 : 0 ≤ k ∧ k + cSumS l ≤ 4611686018427387904) : Holds Tryz.prog 205 [.sl 2 ((mkSumS l k).map rASum), i64 k] (fun r => r = i64 (k + cSumS l)) := by
  refine holds_of_lim Tryz.func205 rfl rfl fun hlim => ?_
  simp at hlim
  generalize hM : mkSumS l k = M at *
  refine holds_of_run Tryz.func205 a205_ok rfl (by simp [a205]) ?_
  simp [a205]
  unfold cSumS at *
  refine rL_forO [0] 5 M.length (fun i s h1 n1 => HJ mkrSum crSum M l k i (s 1)) hlim (by simp) (by rw [← hM]; simp; exact HJ.start) ?_ ?_
  · rintro i s h1 n1 R hi hg hk s5 hw hJ hR hret _
    simp at hk
    obtain ⟨x, ki, s1, hki, hki2, hx, hclose⟩ := hJ.step hi
    simp only [crSum] at hki2
    have w0 : IntKind.i64.wrap (ki + 1) = ki + 1 := wrap64 (by omega)
    simp [hk, s5, hi, hw, s1, hx, mkrSum, w0]
    intro _
    first | refine callD_of (k_heldTermS (x.Terms) (ki + 1) (by omega)) (by simp [hk, s5, hi, hw, s1, hx, mkrSum, w0]) ?_ | refine call_of (k_heldTermS (x.Terms) (ki + 1) (by omega)) (by simp [hk, s5, hi, hw, s1, hx, mkrSum, w0]) ?_
    rintro r rfl
    have g1 : ¬ ki + 1 + (cTermS x.Terms : Int) < 0 := by omega
    simp [hk, s5, hi, hw, s1, hx, mkrSum, w0, g1]
    first | done | refine hR _ _ _ (by simp [hk]) (by simp) (hclose _ (by simp [i64, crSum]; try omega))
  · rintro s h1 n1 R hk s5 hJ hret hX
    simp at hk
    have s1 := hJ.fin (Nat.le_refl _)
    simp [hk, s5, s1]
    first | refine hX _ _ _ _ ?_ | (intro _; refine hX _ _ _ _ ?_)
    simp [hk, s5, s1]

set_option maxRecDepth 20000 in
set_option maxHeartbeats 1000000 in
theorem m_markArgS (l : List DArg) (k : Int) (h0 : 0 ≤ k ∧ k + cArgS l ≤ 4611686018427387904) : Marks Tryz.prog 257 (.us 3 (l.map rUArg)) k (.us 3 ((mkArgS l k).map rUArg)) (k + cArgS l) := by
  intro h n a I K hT hI hn hK
  obtain ⟨id, rows0, I0, rfl, _, hB, _⟩ := TR_us hT
  simp only [List.length_map] at hT hB hK ⊢
  refine acall_len Tryz.func257 rfl rfl (by rw [hB]; simp) fun hlim => ?_
  refine acall_body Tryz.func257 a257_ok rfl (by simp [a257]) ?_
  simp [a257]
  unfold cArgS at *
  refine rL_forO [0] 5 l.length (fun i s h1 n1 => MJ mkrArg crArg rUArg 3 h n id I l k i (s 1) h1 n1) hlim (by simp) (by simpa using MJ.start hT) ?_ ?_
  · rintro i s h1 n1 R hi hg hk s5 hw hJ hR hret _
    simp at hk
    obtain ⟨x, ki, rows, cells, I2, s1, hki, hki2, hlen, hc0, hnd, hI2, hstart, hclose⟩ := hJ.step2 hI hn hi
    simp only [rUArg] at hc0
    simp only [crArg] at hki2
    obtain ⟨_, rfl, hc1⟩ := TRl_bool.1 hc0
    obtain ⟨d1, len1, _, J1, _, rfl, rfl, hl1, ht1, hc2⟩ := TRl_us hc1
    have hq1 : len1 = (x.Heads).length := by simpa using hl1
    subst hq1
    obtain ⟨_, rfl, hc3⟩ := TRl_str.1 hc2
    obtain ⟨rfl, rfl⟩ := TRl_nil.1 hc3
    have S := hstart _ (Kids.cons ht1 hnd hI2 fun hnd hI2 => Kids.nil)
    have e := S.e
    have w0 : IntKind.i64.wrap (ki + 1) = ki + 1 := wrap64 (by omega)
    have w1 : IntKind.i64.wrap (ki + 1 + cSumS x.Heads + 1) = ki + 1 + cSumS x.Heads + 1 := wrap64 (by omega)
    simp [hk, s5, hi, hw, s1, e, hlen, w0, w1]
    intro _
    refine RS.mark (T1 := []) (m_markSumS _ _ (by omega)) S.store ?_
    clear S e
    intro h2 n2 S
    have e := S.e
    simp [hk, s5, hi, hw, s1, e, hlen, w0, w1]
    first | refine callD_of (k_markText (ki + 1 + cSumS x.Heads) (by omega)) (by simp) ?_ | refine call_of (k_markText (ki + 1 + cSumS x.Heads) (by omega)) (by simp) ?_
    rintro r rfl
    simp [hk, s5, hi, hw, s1, e, hlen, w0, w1]
    have S := S.store (cells' := [.bool ((ki).tmod 3 == 0), .ref d1 0 (x.Heads).length, .str (mtx (ki + 1 + cSumS x.Heads))])
    refine hR _ _ _ (by simp [hk]) (by simp) (hclose _ _ [.bool ((ki).tmod 3 == 0), .ref d1 0 (x.Heads).length, .str (mtx (ki + 1 + cSumS x.Heads))] _ _ S (TRl_bool.2 ⟨_, rfl, (TRl_cons (S.live.ids (_, .ref d1 0 _, J1) (by simp [mkrArg])).1 (TRl_str.2 ⟨_, rfl, (TRl_nil.2 ⟨rfl, rfl⟩)⟩))⟩) (by simp [i64, crArg]; try omega))
  · rintro s h1 n1 R hk s5 hJ hret hX
    simp at hk
    obtain ⟨s1, hn1, hf, ht⟩ := hJ.fin
    simp [hk, s5, s1]
    refine ⟨TR_some ht, fun _ => ?_⟩
    refine hX _ _ _ _ ?_
    simp [hk, s5, s1]
    exact hK _ _ hn1 hf ht

set_option maxRecDepth 20000 in
set_option maxHeartbeats 1000000 in
theorem k_heldArgS (l : List DArg) (k : Int) (h0 : 0 ≤ k ∧ k + cArgS l ≤ 4611686018427387904) : Holds Tryz.prog 269 [.sl 3 ((mkArgS l k).map rAArg), i64 k] (fun r => r = i64 (k + cArgS l)) := by
  refine holds_of_lim Tryz.func269 rfl rfl fun hlim => ?_
  simp at hlim
  generalize hM : mkArgS l k = M at *
  refine holds_of_run Tryz.func269 a269_ok rfl (by simp [a269]) ?_
  simp [a269]
  unfold cArgS at *
  refine rL_forO [0] 5 M.length (fun i s h1 n1 => HJ mkrArg crArg M l k i (s 1)) hlim (by simp) (by rw [← hM]; simp; exact HJ.start) ?_ ?_
  · rintro i s h1 n1 R hi hg hk s5 hw hJ hR hret _
    simp at hk
    obtain ⟨x, ki, s1, hki, hki2, hx, hclose⟩ := hJ.step hi
    simp only [crArg] at hki2
    have w0 : IntKind.i64.wrap (ki + 1) = ki + 1 := wrap64 (by omega)
    have w1 : IntKind.i64.wrap (ki + 1 + cSumS x.Heads + 1) = ki + 1 + cSumS x.Heads + 1 := wrap64 (by omega)
    simp [hk, s5, hi, hw, s1, hx, mkrArg, w0, w1]
    intro _
    first | refine callD_of (k_heldSumS (x.Heads) (ki + 1) (by omega)) (by simp [hk, s5, hi, hw, s1, hx, mkrArg, w0, w1]) ?_ | refine call_of (k_heldSumS (x.Heads) (ki + 1) (by omega)) (by simp [hk, s5, hi, hw, s1, hx, mkrArg, w0, w1]) ?_
    rintro r rfl
    have g1 : ¬ ki + 1 + (cSumS x.Heads : Int) < 0 := by omega
    simp [hk, s5, hi, hw, s1, hx, mkrArg, w0, w1, g1]
    first | refine callD_of (k_markText (ki + 1 + cSumS x.Heads) (by omega)) (by simp) ?_ | refine call_of (k_markText (ki + 1 + cSumS x.Heads) (by omega)) (by simp) ?_
    rintro r rfl
    simp [hk, s5, hi, hw, s1, hx, mkrArg, w0, w1]
    first | done | refine hR _ _ _ (by simp [hk]) (by simp) (hclose _ (by simp [i64, crArg]; try omega))
  · rintro s h1 n1 R hk s5 hJ hret hX
    simp at hk
    have s1 := hJ.fin (Nat.le_refl _)
    simp [hk, s5, s1]
    first | refine hX _ _ _ _ ?_ | (intro _; refine hX _ _ _ _ ?_)
    simp [hk, s5, s1]

set_option maxRecDepth 20000 in
set_option maxHeartbeats 1000000 in
theorem m_markFunctionS (l : List DFunction) (k : Int) (h0 : 0 ≤ k ∧ k + cFunctionS l ≤ 4611686018427387904) : Marks Tryz.prog 93 (.us 4 (l.map rUFunction)) k (.us 4 ((mkFunctionS l k).map rUFunction)) (k + cFunctionS l) := by
  intro h n a I K hT hI hn hK
  obtain ⟨id, rows0, I0, rfl, _, hB, _⟩ := TR_us hT
  simp only [List.length_map] at hT hB hK ⊢
  refine acall_len Tryz.func93 rfl rfl (by rw [hB]; simp) fun hlim => ?_
  refine acall_body Tryz.func93 a93_ok rfl (by simp [a93]) ?_
  simp [a93]
  unfold cFunctionS at *
  refine rL_forO [0] 5 l.length (fun i s h1 n1 => MJ mkrFunction crFunction rUFunction 4 h n id I l k i (s 1) h1 n1) hlim (by simp) (by simpa using MJ.start hT) ?_ ?_
  · rintro i s h1 n1 R hi hg hk s5 hw hJ hR hret _
    simp at hk
    obtain ⟨x, ki, rows, cells, I2, s1, hki, hki2, hlen, hc0, hnd, hI2, hstart, hclose⟩ := hJ.step2 hI hn hi
    simp only [rUFunction] at hc0
    simp only [crFunction] at hki2
    obtain ⟨_, rfl, hc1⟩ := TRl_str.1 hc0
    obtain ⟨d1, len1, _, J1, _, rfl, rfl, hl1, ht1, hc2⟩ := TRl_us hc1
    have hq1 : len1 = (x.Params).length := by simpa using hl1
    subst hq1
    obtain ⟨_, rfl, hc3⟩ := TRl_bool.1 hc2
    obtain ⟨d3, len3, _, J3, _, rfl, rfl, hl3, ht3, hc4⟩ := TRl_us hc3
    have hq3 : len3 = (x.Pre).length := by simpa using hl3
    subst hq3
    obtain ⟨rfl, rfl⟩ := TRl_nil.1 hc4
    have S := hstart _ (Kids.cons ht1 hnd hI2 fun hnd hI2 => (Kids.cons ht3 hnd hI2 fun hnd hI2 => Kids.nil))
    have e := S.e
    have w0 : IntKind.i64.wrap (ki + 1) = ki + 1 := wrap64 (by omega)
    have w1 : IntKind.i64.wrap (ki + 1 + cStringS x.Params + 1) = ki + 1 + cStringS x.Params + 1 := wrap64 (by omega)
    simp [hk, s5, hi, hw, s1, e, hlen, w0, w1]
    intro _
    first | refine callD_of (k_markText (ki) (by omega)) (by simp) ?_ | refine call_of (k_markText (ki) (by omega)) (by simp) ?_
    rintro r rfl
    simp [hk, s5, hi, hw, s1, e, hlen, w0, w1]
    refine RS.mark (T1 := []) (m_markStringS _ _ (by omega)) S.store ?_
    clear S e
    intro h2 n2 S
    have e := S.e
    simp [hk, s5, hi, hw, s1, e, hlen, w0, w1]
    refine RS.mark (T1 := [_]) (m_markLinS _ _ (by omega)) S.store ?_
    clear S e
    intro h2 n2 S
    have e := S.e
    simp [hk, s5, hi, hw, s1, e, hlen, w0, w1]
    refine hR _ _ _ (by simp [hk]) (by simp) (hclose _ _ [.str (mtx (ki)), .ref d1 0 (x.Params).length, .bool ((ki + 1 + cStringS x.Params).tmod 3 == 0), .ref d3 0 (x.Pre).length] _ _ S (TRl_str.2 ⟨_, rfl, (TRl_cons (S.live.ids (_, .ref d1 0 _, J1) (by simp [mkrFunction])).1 (TRl_bool.2 ⟨_, rfl, (TRl_cons (S.live.ids (_, .ref d3 0 _, J3) (by simp [mkrFunction])).1 (TRl_nil.2 ⟨rfl, rfl⟩))⟩))⟩) (by simp [i64, crFunction]; try omega))
  · rintro s h1 n1 R hk s5 hJ hret hX
    simp at hk
    obtain ⟨s1, hn1, hf, ht⟩ := hJ.fin
    simp [hk, s5, s1]
    refine ⟨TR_some ht, fun _ => ?_⟩
    refine hX _ _ _ _ ?_
    simp [hk, s5, s1]
    exact hK _ _ hn1 hf ht

set_option maxRecDepth 20000 in
set_option maxHeartbeats 1000000 in
theorem k_heldFunctionS (l : List DFunction) (k : Int) (h0 : 0 ≤ k ∧ k + cFunctionS l ≤ 4611686018427387904) : Holds Tryz.prog 128 [.sl 4 ((mkFunctionS l k).map rAFunction), i64 k] (fun r => r = i64 (k + cFunctionS l)) := by
  refine holds_of_lim Tryz.func128 rfl rfl fun hlim => ?_
  simp at hlim
  generalize hM : mkFunctionS l k = M at *
  refine holds_of_run Tryz.func128 a128_ok rfl (by simp [a128]) ?_
  simp [a128]
  unfold cFunctionS at *
  refine rL_forO [0] 5 M.length (fun i s h1 n1 => HJ mkrFunction crFunction M l k i (s 1)) hlim (by simp) (by rw [← hM]; simp; exact HJ.start) ?_ ?_
  · rintro i s h1 n1 R hi hg hk s5 hw hJ hR hret _
    simp at hk
    obtain ⟨x, ki, s1, hki, hki2, hx, hclose⟩ := hJ.step hi
    simp only [crFunction] at hki2
    have w0 : IntKind.i64.wrap (ki + 1) = ki + 1 := wrap64 (by omega)
    have w1 : IntKind.i64.wrap (ki + 1 + cStringS x.Params + 1) = ki + 1 + cStringS x.Params + 1 := wrap64 (by omega)
    simp [hk, s5, hi, hw, s1, hx, mkrFunction, w0, w1]
    intro _
    first | refine callD_of (k_markText (ki) (by omega)) (by simp) ?_ | refine call_of (k_markText (ki) (by omega)) (by simp) ?_
    rintro r rfl
    simp [hk, s5, hi, hw, s1, hx, mkrFunction, w0, w1]
    first | refine callD_of (k_heldStringS (x.Params) (ki + 1) (by omega)) (by simp [hk, s5, hi, hw, s1, hx, mkrFunction, w0, w1]) ?_ | refine call_of (k_heldStringS (x.Params) (ki + 1) (by omega)) (by simp [hk, s5, hi, hw, s1, hx, mkrFunction, w0, w1]) ?_
    rintro r rfl
    have g1 : ¬ ki + 1 + (cStringS x.Params : Int) < 0 := by omega
    simp [hk, s5, hi, hw, s1, hx, mkrFunction, w0, w1, g1]
    first | refine callD_of (k_heldLinS (x.Pre) (ki + 1 + cStringS x.Params + 1) (by omega)) (by simp [hk, s5, hi, hw, s1, hx, mkrFunction, w0, w1]) ?_ | refine call_of (k_heldLinS (x.Pre) (ki + 1 + cStringS x.Params + 1) (by omega)) (by simp [hk, s5, hi, hw, s1, hx, mkrFunction, w0, w1]) ?_
    rintro r rfl
    have g3 : ¬ ki + 1 + cStringS x.Params + 1 + (cLinS x.Pre : Int) < 0 := by omega
    simp [hk, s5, hi, hw, s1, hx, mkrFunction, w0, w1, g3]
    first | done | refine hR _ _ _ (by simp [hk]) (by simp) (hclose _ (by simp [i64, crFunction]; try omega))
  · rintro s h1 n1 R hk s5 hJ hret hX
    simp at hk
    have s1 := hJ.fin (Nat.le_refl _)
    simp [hk, s5, s1]
    first | refine hX _ _ _ _ ?_ | (intro _; refine hX _ _ _ _ ?_)
    simp [hk, s5, s1]

set_option maxRecDepth 20000 in
set_option maxHeartbeats 1000000 in
theorem m_markPatternS (l : List DPattern) (k : Int) (h0 : 0 ≤ k ∧ k + cPatternS l ≤ 4611686018427387904) : Marks Tryz.prog 182 (.us 4 (l.map rUPattern)) k (.us 4 ((mkPatternS l k).map rUPattern)) (k + cPatternS l) := by
  intro h n a I K hT hI hn hK
  obtain ⟨id, rows0, I0, rfl, _, hB, _⟩ := TR_us hT
  simp only [List.length_map] at hT hB hK ⊢
  refine acall_len Tryz.func182 rfl rfl (by rw [hB]; simp) fun hlim => ?_
  refine acall_body Tryz.func182 a182_ok rfl (by simp [a182]) ?_
  simp [a182]
  unfold cPatternS at *
  refine rL_forO [0] 5 l.length (fun i s h1 n1 => MJ mkrPattern crPattern rUPattern 4 h n id I l k i (s 1) h1 n1) hlim (by simp) (by simpa using MJ.start hT) ?_ ?_
  · rintro i s h1 n1 R hi hg hk s5 hw hJ hR hret _
    simp at hk
    obtain ⟨x, ki, rows, cells, I2, s1, hki, hki2, hlen, hc0, hnd, hI2, hstart, hclose⟩ := hJ.step2 hI hn hi
    simp only [rUPattern] at hc0
    simp only [crPattern] at hki2
    obtain ⟨_, rfl, hc1⟩ := TRl_str.1 hc0
    obtain ⟨_, rfl, hc2⟩ := TRl_bool.1 hc1
    obtain ⟨_, rfl, hc3⟩ := TRl_str.1 hc2
    obtain ⟨_, rfl, hc4⟩ := TRl_str.1 hc3
    obtain ⟨rfl, rfl⟩ := TRl_nil.1 hc4
    have S := hstart _ Kids.nil
    have e := S.e
    have w0 : IntKind.i64.wrap (ki + 1) = ki + 1 := wrap64 (by omega)
    have w1 : IntKind.i64.wrap (ki + 1 + 1) = ki + 1 + 1 := wrap64 (by omega)
    have w2 : IntKind.i64.wrap (ki + 1 + 1 + 1) = ki + 1 + 1 + 1 := wrap64 (by omega)
    have w3 : IntKind.i64.wrap (ki + 1 + 1 + 1 + 1) = ki + 1 + 1 + 1 + 1 := wrap64 (by omega)
    simp [hk, s5, hi, hw, s1, e, hlen, w0, w1, w2, w3]
    intro _
    first | refine callD_of (k_markText (ki) (by omega)) (by simp) ?_ | refine call_of (k_markText (ki) (by omega)) (by simp) ?_
    rintro r rfl
    simp [hk, s5, hi, hw, s1, e, hlen, w0, w1, w2, w3]
    first | refine callD_of (k_markText (ki + 1 + 1) (by omega)) (by simp) ?_ | refine call_of (k_markText (ki + 1 + 1) (by omega)) (by simp) ?_
    rintro r rfl
    simp [hk, s5, hi, hw, s1, e, hlen, w0, w1, w2, w3]
    first | refine callD_of (k_markText (ki + 1 + 1 + 1) (by omega)) (by simp) ?_ | refine call_of (k_markText (ki + 1 + 1 + 1) (by omega)) (by simp) ?_
    rintro r rfl
    simp [hk, s5, hi, hw, s1, e, hlen, w0, w1, w2, w3]
    refine hR _ _ _ (by simp [hk]) (by simp) (hclose _ _ [.str (mtx (ki)), .bool ((ki + 1).tmod 3 == 0), .str (mtx (ki + 1 + 1)), .str (mtx (ki + 1 + 1 + 1))] _ _ S.store (TRl_str.2 ⟨_, rfl, (TRl_bool.2 ⟨_, rfl, (TRl_str.2 ⟨_, rfl, (TRl_str.2 ⟨_, rfl, (TRl_nil.2 ⟨rfl, rfl⟩)⟩)⟩)⟩)⟩) (by simp [i64, crPattern]; try omega))
  · rintro s h1 n1 R hk s5 hJ hret hX
    simp at hk
    obtain ⟨s1, hn1, hf, ht⟩ := hJ.fin
    simp [hk, s5, s1]
    refine ⟨TR_some ht, fun _ => ?_⟩
    refine hX _ _ _ _ ?_
    simp [hk, s5, s1]
    exact hK _ _ hn1 hf ht

set_option maxRecDepth 20000 in
set_option maxHeartbeats 1000000 in
theorem k_heldPatternS (l : List DPattern) (k : Int) (h0 : 0 ≤ k ∧ k + cPatternS l ≤ 4611686018427387904) : Holds Tryz.prog 204 [.sl 4 ((mkPatternS l k).map rAPattern), i64 k] (fun r => r = i64 (k + cPatternS l)) := by
  refine holds_of_lim Tryz.func204 rfl rfl fun hlim => ?_
  simp at hlim
  generalize hM : mkPatternS l k = M at *
  refine holds_of_run Tryz.func204 a204_ok rfl (by simp [a204]) ?_
  simp [a204]
  unfold cPatternS at *
  refine rL_forO [0] 5 M.length (fun i s h1 n1 => HJ mkrPattern crPattern M l k i (s 1)) hlim (by simp) (by rw [← hM]; simp; exact HJ.start) ?_ ?_
  · rintro i s h1 n1 R hi hg hk s5 hw hJ hR hret _
    simp at hk
    obtain ⟨x, ki, s1, hki, hki2, hx, hclose⟩ := hJ.step hi
    simp only [crPattern] at hki2
    have w0 : IntKind.i64.wrap (ki + 1) = ki + 1 := wrap64 (by omega)
    have w1 : IntKind.i64.wrap (ki + 1 + 1) = ki + 1 + 1 := wrap64 (by omega)
    have w2 : IntKind.i64.wrap (ki + 1 + 1 + 1) = ki + 1 + 1 + 1 := wrap64 (by omega)
    have w3 : IntKind.i64.wrap (ki + 1 + 1 + 1 + 1) = ki + 1 + 1 + 1 + 1 := wrap64 (by omega)
    simp [hk, s5, hi, hw, s1, hx, mkrPattern, w0, w1, w2, w3]
    intro _
    first | refine callD_of (k_markText (ki) (by omega)) (by simp) ?_ | refine call_of (k_markText (ki) (by omega)) (by simp) ?_
    rintro r rfl
    simp [hk, s5, hi, hw, s1, hx, mkrPattern, w0, w1, w2, w3]
    first | refine callD_of (k_markText (ki + 1 + 1) (by omega)) (by simp) ?_ | refine call_of (k_markText (ki + 1 + 1) (by omega)) (by simp) ?_
    rintro r rfl
    simp [hk, s5, hi, hw, s1, hx, mkrPattern, w0, w1, w2, w3]
    first | refine callD_of (k_markText (ki + 1 + 1 + 1) (by omega)) (by simp) ?_ | refine call_of (k_markText (ki + 1 + 1 + 1) (by omega)) (by simp) ?_
    rintro r rfl
    simp [hk, s5, hi, hw, s1, hx, mkrPattern, w0, w1, w2, w3]
    first | done | refine hR _ _ _ (by simp [hk]) (by simp) (hclose _ (by simp [i64, crPattern]; try omega))
  · rintro s h1 n1 R hk s5 hJ hret hX
    simp at hk
    have s1 := hJ.fin (Nat.le_refl _)
    simp [hk, s5, s1]
    first | refine hX _ _ _ _ ?_ | (intro _; refine hX _ _ _ _ ?_)
    simp [hk, s5, s1]

set_option maxRecDepth 20000 in
set_option maxHeartbeats 1000000 in
theorem m_markCallS (l : List DCall) (k : Int) (h0 : 0 ≤ k ∧ k + cCallS l ≤ 4611686018427387904) : Marks Tryz.prog 184 (.us 3 (l.map rUCall)) k (.us 3 ((mkCallS l k).map rUCall)) (k + cCallS l) := by
  intro h n a I K hT hI hn hK
  obtain ⟨id, rows0, I0, rfl, _, hB, _⟩ := TR_us hT
  simp only [List.length_map] at hT hB hK ⊢
  refine acall_len Tryz.func184 rfl rfl (by rw [hB]; simp) fun hlim => ?_
  refine acall_body Tryz.func184 a184_ok rfl (by simp [a184]) ?_
  simp [a184]
  unfold cCallS at *
  refine rL_forO [0] 5 l.length (fun i s h1 n1 => MJ mkrCall crCall rUCall 3 h n id I l k i (s 1) h1 n1) hlim (by simp) (by simpa using MJ.start hT) ?_ ?_
  · rintro i s h1 n1 R hi hg hk s5 hw hJ hR hret _
    simp at hk
    obtain ⟨x, ki, rows, cells, I2, s1, hki, hki2, hlen, hc0, hnd, hI2, hstart, hclose⟩ := hJ.step2 hI hn hi
    simp only [rUCall] at hc0
    simp only [crCall] at hki2
    obtain ⟨_, rfl, hc1⟩ := TRl_str.1 hc0
    obtain ⟨_, rfl, hc2⟩ := TRl_str.1 hc1
    obtain ⟨d2, len2, _, J2, _, rfl, rfl, hl2, ht2, hc3⟩ := TRl_us hc2
    have hq2 : len2 = (x.Args).length := by simpa using hl2
    subst hq2
    obtain ⟨rfl, rfl⟩ := TRl_nil.1 hc3
    have S := hstart _ (Kids.cons ht2 hnd hI2 fun hnd hI2 => Kids.nil)
    have e := S.e
    have w0 : IntKind.i64.wrap (ki + 1) = ki + 1 := wrap64 (by omega)
    have w1 : IntKind.i64.wrap (ki + 1 + 1) = ki + 1 + 1 := wrap64 (by omega)
    simp [hk, s5, hi, hw, s1, e, hlen, w0, w1]
    intro _
    first | refine callD_of (k_markText (ki) (by omega)) (by simp) ?_ | refine call_of (k_markText (ki) (by omega)) (by simp) ?_
    rintro r rfl
    simp [hk, s5, hi, hw, s1, e, hlen, w0, w1]
    first | refine callD_of (k_markText (ki + 1) (by omega)) (by simp) ?_ | refine call_of (k_markText (ki + 1) (by omega)) (by simp) ?_
    rintro r rfl
    simp [hk, s5, hi, hw, s1, e, hlen, w0, w1]
    refine RS.mark (T1 := []) (m_markArgS _ _ (by omega)) S.store ?_
    clear S e
    intro h2 n2 S
    have e := S.e
    simp [hk, s5, hi, hw, s1, e, hlen, w0, w1]
    refine hR _ _ _ (by simp [hk]) (by simp) (hclose _ _ [.str (mtx (ki)), .str (mtx (ki + 1)), .ref d2 0 (x.Args).length] _ _ S (TRl_str.2 ⟨_, rfl, (TRl_str.2 ⟨_, rfl, (TRl_cons (S.live.ids (_, .ref d2 0 _, J2) (by simp [mkrCall])).1 (TRl_nil.2 ⟨rfl, rfl⟩))⟩)⟩) (by simp [i64, crCall]; try omega))
  · rintro s h1 n1 R hk s5 hJ hret hX
    simp at hk
    obtain ⟨s1, hn1, hf, ht⟩ := hJ.fin
    simp [hk, s5, s1]
    refine ⟨TR_some ht, fun _ => ?_⟩
    refine hX _ _ _ _ ?_
    simp [hk, s5, s1]
    exact hK _ _ hn1 hf ht

set_option maxRecDepth 20000 in
set_option maxHeartbeats 1000000 in
theorem k_heldCallS (l : List DCall) (k : Int) (h0 : 0 ≤ k ∧ k + cCallS l ≤ 4611686018427387904) : Holds Tryz.prog 206 [.sl 3 ((mkCallS l k).map rACall), i64 k] (fun r => r = i64 (k + cCallS l)) := by
  refine holds_of_lim Tryz.func206 rfl rfl fun hlim => ?_
  simp at hlim
  generalize hM : mkCallS l k = M at *
  refine holds_of_run Tryz.func206 a206_ok rfl (by simp [a206]) ?_
  simp [a206]
  unfold cCallS at *
  refine rL_forO [0] 5 M.length (fun i s h1 n1 => HJ mkrCall crCall M l k i (s 1)) hlim (by simp) (by rw [← hM]; simp; exact HJ.start) ?_ ?_
  · rintro i s h1 n1 R hi hg hk s5 hw hJ hR hret _
    simp at hk
    obtain ⟨x, ki, s1, hki, hki2, hx, hclose⟩ := hJ.step hi
    simp only [crCall] at hki2
    have w0 : IntKind.i64.wrap (ki + 1) = ki + 1 := wrap64 (by omega)
    have w1 : IntKind.i64.wrap (ki + 1 + 1) = ki + 1 + 1 := wrap64 (by omega)
    simp [hk, s5, hi, hw, s1, hx, mkrCall, w0, w1]
    intro _
    first | refine callD_of (k_markText (ki) (by omega)) (by simp) ?_ | refine call_of (k_markText (ki) (by omega)) (by simp) ?_
    rintro r rfl
    simp [hk, s5, hi, hw, s1, hx, mkrCall, w0, w1]
    first | refine callD_of (k_markText (ki + 1) (by omega)) (by simp) ?_ | refine call_of (k_markText (ki + 1) (by omega)) (by simp) ?_
    rintro r rfl
    simp [hk, s5, hi, hw, s1, hx, mkrCall, w0, w1]
    first | refine callD_of (k_heldArgS (x.Args) (ki + 1 + 1) (by omega)) (by simp [hk, s5, hi, hw, s1, hx, mkrCall, w0, w1]) ?_ | refine call_of (k_heldArgS (x.Args) (ki + 1 + 1) (by omega)) (by simp [hk, s5, hi, hw, s1, hx, mkrCall, w0, w1]) ?_
    rintro r rfl
    have g2 : ¬ ki + 1 + 1 + (cArgS x.Args : Int) < 0 := by omega
    simp [hk, s5, hi, hw, s1, hx, mkrCall, w0, w1, g2]
    first | done | refine hR _ _ _ (by simp [hk]) (by simp) (hclose _ (by simp [i64, crCall]; try omega))
  · rintro s h1 n1 R hk s5 hJ hret hX
    simp at hk
    have s1 := hJ.fin (Nat.le_refl _)
    simp [hk, s5, s1]
    first | refine hX _ _ _ _ ?_ | (intro _; refine hX _ _ _ _ ?_)
    simp [hk, s5, s1]

set_option maxRecDepth 20000 in
set_option maxHeartbeats 1000000 in
theorem m_markRuleS (l : List DRule) (k : Int) (h0 : 0 ≤ k ∧ k + cRuleS l ≤ 4611686018427387904) : Marks Tryz.prog 94 (.us 7 (l.map rURule)) k (.us 7 ((mkRuleS l k).map rURule)) (k + cRuleS l) := by
  intro h n a I K hT hI hn hK
  obtain ⟨id, rows0, I0, rfl, _, hB, _⟩ := TR_us hT
  simp only [List.length_map] at hT hB hK ⊢
  refine acall_len Tryz.func94 rfl rfl (by rw [hB]; simp) fun hlim => ?_
  refine acall_body Tryz.func94 a94_ok rfl (by simp [a94]) ?_
  simp [a94]
  unfold cRuleS at *
  refine rL_forO [0] 5 l.length (fun i s h1 n1 => MJ mkrRule crRule rURule 7 h n id I l k i (s 1) h1 n1) hlim (by simp) (by simpa using MJ.start hT) ?_ ?_
  · rintro i s h1 n1 R hi hg hk s5 hw hJ hR hret _
    simp at hk
    obtain ⟨x, ki, rows, cells, I2, s1, hki, hki2, hlen, hc0, hnd, hI2, hstart, hclose⟩ := hJ.step2 hI hn hi
    simp only [rURule] at hc0
    simp only [crRule] at hki2
    obtain ⟨_, rfl, hc1⟩ := TRl_str.1 hc0
    obtain ⟨d1, len1, _, J1, _, rfl, rfl, hl1, ht1, hc2⟩ := TRl_us hc1
    have hq1 : len1 = (x.Patterns).length := by simpa using hl1
    subst hq1
    obtain ⟨d2, len2, _, J2, _, rfl, rfl, hl2, ht2, hc3⟩ := TRl_us hc2
    have hq2 : len2 = (x.Guards).length := by simpa using hl2
    subst hq2
    obtain ⟨d3, len3, _, J3, _, rfl, rfl, hl3, ht3, hc4⟩ := TRl_us hc3
    have hq3 : len3 = (x.Calls).length := by simpa using hl3
    subst hq3
    obtain ⟨_, rfl, hc5⟩ := TRl_bool.1 hc4
    obtain ⟨d5, len5, _, J5, _, rfl, rfl, hl5, ht5, hc6⟩ := TRl_us hc5
    have hq5 : len5 = (x.Result.Heads).length := by simpa using hl5
    subst hq5
    obtain ⟨_, rfl, hc7⟩ := TRl_str.1 hc6
    obtain ⟨rfl, rfl⟩ := TRl_nil.1 hc7
    have S := hstart _ (Kids.cons ht1 hnd hI2 fun hnd hI2 => (Kids.cons ht2 hnd hI2 fun hnd hI2 => (Kids.cons ht3 hnd hI2 fun hnd hI2 => (Kids.cons ht5 hnd hI2 fun hnd hI2 => Kids.nil))))
    have e := S.e
    have w0 : IntKind.i64.wrap (ki + 1) = ki + 1 := wrap64 (by omega)
    have w1 : IntKind.i64.wrap (ki + 1 + cPatternS x.Patterns + cSumS x.Guards + cCallS x.Calls + 1) = ki + 1 + cPatternS x.Patterns + cSumS x.Guards + cCallS x.Calls + 1 := wrap64 (by omega)
    have w2 : IntKind.i64.wrap (ki + 1 + cPatternS x.Patterns + cSumS x.Guards + cCallS x.Calls + 1 + cSumS x.Result.Heads + 1) = ki + 1 + cPatternS x.Patterns + cSumS x.Guards + cCallS x.Calls + 1 + cSumS x.Result.Heads + 1 := wrap64 (by omega)
    simp [hk, s5, hi, hw, s1, e, hlen, w0, w1, w2]
    intro _
    first | refine callD_of (k_markText (ki) (by omega)) (by simp) ?_ | refine call_of (k_markText (ki) (by omega)) (by simp) ?_
    rintro r rfl
    simp [hk, s5, hi, hw, s1, e, hlen, w0, w1, w2]
    refine RS.mark (T1 := []) (m_markPatternS _ _ (by omega)) S.store ?_
    clear S e
    intro h2 n2 S
    have e := S.e
    simp [hk, s5, hi, hw, s1, e, hlen, w0, w1, w2]
    refine RS.mark (T1 := [_]) (m_markSumS _ _ (by omega)) S ?_
    clear S e
    intro h2 n2 S
    have e := S.e
    simp [hk, s5, hi, hw, s1, e, hlen, w0, w1, w2]
    refine RS.mark (T1 := [_, _]) (m_markCallS _ _ (by omega)) S ?_
    clear S e
    intro h2 n2 S
    have e := S.e
    simp [hk, s5, hi, hw, s1, e, hlen, w0, w1, w2]
    refine RS.mark (T1 := [_, _, _]) (m_markSumS _ _ (by omega)) S.store ?_
    clear S e
    intro h2 n2 S
    have e := S.e
    simp [hk, s5, hi, hw, s1, e, hlen, w0, w1, w2]
    first | refine callD_of (k_markText (ki + 1 + cPatternS x.Patterns + cSumS x.Guards + cCallS x.Calls + 1 + cSumS x.Result.Heads) (by omega)) (by simp) ?_ | refine call_of (k_markText (ki + 1 + cPatternS x.Patterns + cSumS x.Guards + cCallS x.Calls + 1 + cSumS x.Result.Heads) (by omega)) (by simp) ?_
    rintro r rfl
    simp [hk, s5, hi, hw, s1, e, hlen, w0, w1, w2]
    have S := S.store (cells' := [.str (mtx (ki)), .ref d1 0 (x.Patterns).length, .ref d2 0 (x.Guards).length, .ref d3 0 (x.Calls).length, .bool ((ki + 1 + cPatternS x.Patterns + cSumS x.Guards + cCallS x.Calls).tmod 3 == 0), .ref d5 0 (x.Result.Heads).length, .str (mtx (ki + 1 + cPatternS x.Patterns + cSumS x.Guards + cCallS x.Calls + 1 + cSumS x.Result.Heads))])
    refine hR _ _ _ (by simp [hk]) (by simp) (hclose _ _ [.str (mtx (ki)), .ref d1 0 (x.Patterns).length, .ref d2 0 (x.Guards).length, .ref d3 0 (x.Calls).length, .bool ((ki + 1 + cPatternS x.Patterns + cSumS x.Guards + cCallS x.Calls).tmod 3 == 0), .ref d5 0 (x.Result.Heads).length, .str (mtx (ki + 1 + cPatternS x.Patterns + cSumS x.Guards + cCallS x.Calls + 1 + cSumS x.Result.Heads))] _ _ S (TRl_str.2 ⟨_, rfl, (TRl_cons (S.live.ids (_, .ref d1 0 _, J1) (by simp [mkrRule])).1 (TRl_cons (S.live.ids (_, .ref d2 0 _, J2) (by simp [mkrRule])).1 (TRl_cons (S.live.ids (_, .ref d3 0 _, J3) (by simp [mkrRule])).1 (TRl_bool.2 ⟨_, rfl, (TRl_cons (S.live.ids (_, .ref d5 0 _, J5) (by simp [mkrRule])).1 (TRl_str.2 ⟨_, rfl, (TRl_nil.2 ⟨rfl, rfl⟩)⟩))⟩))))⟩) (by simp [i64, crRule]; try omega))
  · rintro s h1 n1 R hk s5 hJ hret hX
    simp at hk
    obtain ⟨s1, hn1, hf, ht⟩ := hJ.fin
    simp [hk, s5, s1]
    refine ⟨TR_some ht, fun _ => ?_⟩
    refine hX _ _ _ _ ?_
    simp [hk, s5, s1]
    exact hK _ _ hn1 hf ht

set_option maxRecDepth 20000 in
set_option maxHeartbeats 1000000 in
theorem k_heldRuleS (l : List DRule) (k : Int) (h0 : 0 ≤ k ∧ k + cRuleS l ≤ 4611686018427387904) : Holds Tryz.prog 129 [.sl 7 ((mkRuleS l k).map rARule), i64 k] (fun r => r = i64 (k + cRuleS l)) := by
  refine holds_of_lim Tryz.func129 rfl rfl fun hlim => ?_
  simp at hlim
  generalize hM : mkRuleS l k = M at *
  refine holds_of_run Tryz.func129 a129_ok rfl (by simp [a129]) ?_
  simp [a129]
  unfold cRuleS at *
  refine rL_forO [0] 5 M.length (fun i s h1 n1 => HJ mkrRule crRule M l k i (s 1)) hlim (by simp) (by rw [← hM]; simp; exact HJ.start) ?_ ?_
  · rintro i s h1 n1 R hi hg hk s5 hw hJ hR hret _
    simp at hk
    obtain ⟨x, ki, s1, hki, hki2, hx, hclose⟩ := hJ.step hi
    simp only [crRule] at hki2
    have w0 : IntKind.i64.wrap (ki + 1) = ki + 1 := wrap64 (by omega)
    have w1 : IntKind.i64.wrap (ki + 1 + cPatternS x.Patterns + cSumS x.Guards + cCallS x.Calls + 1) = ki + 1 + cPatternS x.Patterns + cSumS x.Guards + cCallS x.Calls + 1 := wrap64 (by omega)
    have w2 : IntKind.i64.wrap (ki + 1 + cPatternS x.Patterns + cSumS x.Guards + cCallS x.Calls + 1 + cSumS x.Result.Heads + 1) = ki + 1 + cPatternS x.Patterns + cSumS x.Guards + cCallS x.Calls + 1 + cSumS x.Result.Heads + 1 := wrap64 (by omega)
    simp [hk, s5, hi, hw, s1, hx, mkrRule, w0, w1, w2]
    intro _
    first | refine callD_of (k_markText (ki) (by omega)) (by simp) ?_ | refine call_of (k_markText (ki) (by omega)) (by simp) ?_
    rintro r rfl
    simp [hk, s5, hi, hw, s1, hx, mkrRule, w0, w1, w2]
    first | refine callD_of (k_heldPatternS (x.Patterns) (ki + 1) (by omega)) (by simp [hk, s5, hi, hw, s1, hx, mkrRule, w0, w1, w2]) ?_ | refine call_of (k_heldPatternS (x.Patterns) (ki + 1) (by omega)) (by simp [hk, s5, hi, hw, s1, hx, mkrRule, w0, w1, w2]) ?_
    rintro r rfl
    have g1 : ¬ ki + 1 + (cPatternS x.Patterns : Int) < 0 := by omega
    simp [hk, s5, hi, hw, s1, hx, mkrRule, w0, w1, w2, g1]
    first | refine callD_of (k_heldSumS (x.Guards) (ki + 1 + cPatternS x.Patterns) (by omega)) (by simp [hk, s5, hi, hw, s1, hx, mkrRule, w0, w1, w2]) ?_ | refine call_of (k_heldSumS (x.Guards) (ki + 1 + cPatternS x.Patterns) (by omega)) (by simp [hk, s5, hi, hw, s1, hx, mkrRule, w0, w1, w2]) ?_
    rintro r rfl
    have g2 : ¬ ki + 1 + cPatternS x.Patterns + (cSumS x.Guards : Int) < 0 := by omega
    simp [hk, s5, hi, hw, s1, hx, mkrRule, w0, w1, w2, g2]
    first | refine callD_of (k_heldCallS (x.Calls) (ki + 1 + cPatternS x.Patterns + cSumS x.Guards) (by omega)) (by simp [hk, s5, hi, hw, s1, hx, mkrRule, w0, w1, w2]) ?_ | refine call_of (k_heldCallS (x.Calls) (ki + 1 + cPatternS x.Patterns + cSumS x.Guards) (by omega)) (by simp [hk, s5, hi, hw, s1, hx, mkrRule, w0, w1, w2]) ?_
    rintro r rfl
    have g3 : ¬ ki + 1 + cPatternS x.Patterns + cSumS x.Guards + (cCallS x.Calls : Int) < 0 := by omega
    simp [hk, s5, hi, hw, s1, hx, mkrRule, w0, w1, w2, g3]
    first | refine callD_of (k_heldSumS (x.Result.Heads) (ki + 1 + cPatternS x.Patterns + cSumS x.Guards + cCallS x.Calls + 1) (by omega)) (by simp [hk, s5, hi, hw, s1, hx, mkrRule, w0, w1, w2]) ?_ | refine call_of (k_heldSumS (x.Result.Heads) (ki + 1 + cPatternS x.Patterns + cSumS x.Guards + cCallS x.Calls + 1) (by omega)) (by simp [hk, s5, hi, hw, s1, hx, mkrRule, w0, w1, w2]) ?_
    rintro r rfl
    have g5 : ¬ ki + 1 + cPatternS x.Patterns + cSumS x.Guards + cCallS x.Calls + 1 + (cSumS x.Result.Heads : Int) < 0 := by omega
    simp [hk, s5, hi, hw, s1, hx, mkrRule, w0, w1, w2, g5]
    first | refine callD_of (k_markText (ki + 1 + cPatternS x.Patterns + cSumS x.Guards + cCallS x.Calls + 1 + cSumS x.Result.Heads) (by omega)) (by simp) ?_ | refine call_of (k_markText (ki + 1 + cPatternS x.Patterns + cSumS x.Guards + cCallS x.Calls + 1 + cSumS x.Result.Heads) (by omega)) (by simp) ?_
    rintro r rfl
    simp [hk, s5, hi, hw, s1, hx, mkrRule, w0, w1, w2]
    first | done | refine hR _ _ _ (by simp [hk]) (by simp) (hclose _ (by simp [i64, crRule]; try omega))
  · rintro s h1 n1 R hk s5 hJ hret hX
    simp at hk
    have s1 := hJ.fin (Nat.le_refl _)
    simp [hk, s5, s1]
    first | refine hX _ _ _ _ ?_ | (intro _; refine hX _ _ _ _ ?_)
    simp [hk, s5, s1]

set_option maxRecDepth 20000 in
set_option maxHeartbeats 1000000 in
theorem m_markEdgeS (l : List DEdge) (k : Int) (h0 : 0 ≤ k ∧ k + cEdgeS l ≤ 4611686018427387904) : Marks Tryz.prog 27 (.us 2 (l.map rUEdge)) k (.us 2 ((mkEdgeS l k).map rUEdge)) (k + cEdgeS l) := by
  intro h n a I K hT hI hn hK
  obtain ⟨id, rows0, I0, rfl, _, hB, _⟩ := TR_us hT
  simp only [List.length_map] at hT hB hK ⊢
  refine acall_len Tryz.func27 rfl rfl (by rw [hB]; simp) fun hlim => ?_
  refine acall_body Tryz.func27 a27_ok rfl (by simp [a27]) ?_
  simp [a27]
  unfold cEdgeS at *
  refine rL_forO [0] 5 l.length (fun i s h1 n1 => MJ mkrEdge crEdge rUEdge 2 h n id I l k i (s 1) h1 n1) hlim (by simp) (by simpa using MJ.start hT) ?_ ?_
  · rintro i s h1 n1 R hi hg hk s5 hw hJ hR hret _
    simp at hk
    obtain ⟨x, ki, rows, cells, I2, s1, hki, hki2, hlen, hc0, hnd, hI2, hstart, hclose⟩ := hJ.step2 hI hn hi
    simp only [rUEdge] at hc0
    simp only [crEdge] at hki2
    obtain ⟨_, rfl, hc1⟩ := TRl_int.1 hc0
    obtain ⟨_, rfl, hc2⟩ := TRl_int.1 hc1
    obtain ⟨rfl, rfl⟩ := TRl_nil.1 hc2
    have S := hstart _ Kids.nil
    have e := S.e
    have w0 : IntKind.i64.wrap (ki + 1) = ki + 1 := wrap64 (by omega)
    have w1 : IntKind.i64.wrap (ki + 1 + 1) = ki + 1 + 1 := wrap64 (by omega)
    simp [hk, s5, hi, hw, s1, e, hlen, w0, w1]
    intro _
    refine hR _ _ _ (by simp [hk]) (by simp) (hclose _ _ [.int .i64 (ki), .int .i64 (ki + 1)] _ _ S.store (TRl_int.2 ⟨_, rfl, (TRl_int.2 ⟨_, rfl, (TRl_nil.2 ⟨rfl, rfl⟩)⟩)⟩) (by simp [i64, crEdge]; try omega))
  · rintro s h1 n1 R hk s5 hJ hret hX
    simp at hk
    obtain ⟨s1, hn1, hf, ht⟩ := hJ.fin
    simp [hk, s5, s1]
    refine ⟨TR_some ht, fun _ => ?_⟩
    refine hX _ _ _ _ ?_
    simp [hk, s5, s1]
    exact hK _ _ hn1 hf ht

set_option maxRecDepth 20000 in
set_option maxHeartbeats 1000000 in
theorem k_heldEdgeS (l : List DEdge) (k : Int) (h0 : 0 ≤ k ∧ k + cEdgeS l ≤ 4611686018427387904) : Holds Tryz.prog 28 [.sl 2 ((mkEdgeS l k).map rAEdge), i64 k] (fun r => r = i64 (k + cEdgeS l)) := by
  refine holds_of_lim Tryz.func28 rfl rfl fun hlim => ?_
  simp at hlim
  generalize hM : mkEdgeS l k = M at *
  refine holds_of_run Tryz.func28 a28_ok rfl (by simp [a28]) ?_
  simp [a28]
  unfold cEdgeS at *
  refine rL_forO [0] 5 M.length (fun i s h1 n1 => HJ mkrEdge crEdge M l k i (s 1)) hlim (by simp) (by rw [← hM]; simp; exact HJ.start) ?_ ?_
  · rintro i s h1 n1 R hi hg hk s5 hw hJ hR hret _
    simp at hk
    obtain ⟨x, ki, s1, hki, hki2, hx, hclose⟩ := hJ.step hi
    simp only [crEdge] at hki2
    have w0 : IntKind.i64.wrap (ki + 1) = ki + 1 := wrap64 (by omega)
    have w1 : IntKind.i64.wrap (ki + 1 + 1) = ki + 1 + 1 := wrap64 (by omega)
    simp [hk, s5, hi, hw, s1, hx, mkrEdge, w0, w1]
    intro _
    first | done | refine hR _ _ _ (by simp [hk]) (by simp) (hclose _ (by simp [i64, crEdge]; try omega))
  · rintro s h1 n1 R hk s5 hJ hret hX
    simp at hk
    have s1 := hJ.fin (Nat.le_refl _)
    simp [hk, s5, s1]
    first | refine hX _ _ _ _ ?_ | (intro _; refine hX _ _ _ _ ?_)
    simp [hk, s5, s1]

set_option maxRecDepth 20000 in
set_option maxHeartbeats 1000000 in
theorem m_markProgram (x : DProgram) (k : Int) (h0 : 0 ≤ k ∧ k + cProgram x ≤ 4611686018427387904) : Marks Tryz.prog 26 (.agg (rUProgram x)) k (.agg (rUProgram (mkProgram x k))) (k + cProgram x) := by
  intro h n a I K hT hI hn hK
  obtain ⟨cs, rfl, hc0⟩ := TR_agg.1 hT
  simp only [cProgram] at h0
  obtain ⟨d0, len0, _, J0, _, rfl, rfl, hl0, ht0, hc1⟩ := TRl_us hc0
  have hq0 : len0 = (x.Functions).length := by simpa using hl0
  subst hq0
  obtain ⟨d1, len1, _, J1, _, rfl, rfl, hl1, ht1, hc2⟩ := TRl_us hc1
  have hq1 : len1 = (x.Rules).length := by simpa using hl1
  subst hq1
  obtain ⟨rfl, rfl⟩ := TRl_nil.1 hc2
  refine acall_body Tryz.func26 a26_ok rfl (by simp [a26]) ?_
  simp [a26]
  have S := RS.box (sz := 2) (cells := [.ref d0 0 (x.Functions).length, .ref d1 0 (x.Rules).length]) (Kids.cons (ht0) hI hn fun hI hn => (Kids.cons (ht1) hI hn fun hI hn => Kids.nil)) hn
  refine RS.mark (T1 := []) (m_markFunctionS x.Functions (k) (by omega)) S ?_
  clear S
  intro h2 n2 S
  have e := S.e
  simp [e]
  refine RS.mark (T1 := [_]) (m_markRuleS x.Rules (k + cFunctionS x.Functions) (by omega)) S ?_
  clear S
  intro h2 n2 S
  have e := S.e
  simp [e]
  have hb := S.unbox
  have ht : TR h2 (.agg (rUProgram (mkProgram x k))) _ _ := TR_aggs.2 (TRl_cons (S.live.ids (.us 4 ((mkFunctionS x.Functions (k)).map rUFunction), .ref d0 0 (x.Functions).length, J0) (by simp)).1 (TRl_cons (S.live.ids (.us 7 ((mkRuleS x.Rules (k + cFunctionS x.Functions)).map rURule), .ref d1 0 (x.Rules).length, J1) (by simp)).1 (TRl_nil.2 ⟨rfl, rfl⟩)))
  have hk := hK _ _ hb.1 hb.2 ht
  simp only [cProgram] at hk
  refine cast ?_ hk
  congr 2
  first | done | (simp; try omega)

set_option maxRecDepth 20000 in
set_option maxHeartbeats 1000000 in
theorem k_heldProgram (x : DProgram) (k : Int) (h0 : 0 ≤ k ∧ k + cProgram x ≤ 4611686018427387904) : Holds Tryz.prog 59 [.agg (rAProgram (mkProgram x k)), i64 k] (fun r => r = i64 (k + cProgram x)) := by
  refine holds_of_run Tryz.func59 a59_ok rfl (by simp [a59]) ?_
  simp [a59, rAProgram, mkProgram]
  simp only [cProgram] at h0
  first | refine callD_of (k_heldFunctionS x.Functions (k) (by omega)) (by simp [rAProgram, mkProgram]) ?_ | refine call_of (k_heldFunctionS x.Functions (k) (by omega)) (by simp [rAProgram, mkProgram]) ?_
  rintro r rfl
  have g0 : ¬ k + (cFunctionS x.Functions : Int) < 0 := by omega
  simp [g0]
  first | refine callD_of (k_heldRuleS x.Rules (k + cFunctionS x.Functions) (by omega)) (by simp [rAProgram, mkProgram]) ?_ | refine call_of (k_heldRuleS x.Rules (k + cFunctionS x.Functions) (by omega)) (by simp [rAProgram, mkProgram]) ?_
  rintro r rfl
  have g1 : ¬ k + cFunctionS x.Functions + (cRuleS x.Rules : Int) < 0 := by omega
  simp [g1]
  first | done | (simp [cProgram]; try omega)

set_option maxRecDepth 20000 in
set_option maxHeartbeats 1000000 in
theorem m_markBounds (x : DBounds) (k : Int) (h0 : 0 ≤ k ∧ k + cBounds x ≤ 4611686018427387904) : Marks Tryz.prog 75 (.agg (rUBounds x)) k (.agg (rUBounds (mkBounds x k))) (k + cBounds x) := by
  intro h n a I K hT hI hn hK
  obtain ⟨cs, rfl, hc0⟩ := TR_agg.1 hT
  simp only [cBounds] at h0
  obtain ⟨_, rfl, hc1⟩ := TRl_int.1 hc0
  obtain ⟨d1, len1, _, J1, _, rfl, rfl, hl1, ht1, hc2⟩ := TRl_us hc1
  have hq1 : len1 = (x.Lins).length := by simpa using hl1
  subst hq1
  obtain ⟨rfl, rfl⟩ := TRl_nil.1 hc2
  refine acall_body Tryz.func75 a75_ok rfl (by simp [a75]) ?_
  simp [a75]
  have S := RS.box (sz := 2) (cells := [.int .i64 (x.Kind), .ref d1 0 (x.Lins).length]) (Kids.cons (ht1) hI hn fun hI hn => Kids.nil) hn
  refine RS.mark (T1 := []) (m_markLinS x.Lins (k) (by omega)) S ?_
  clear S
  intro h2 n2 S
  have e := S.e
  simp [e]
  have hb := S.unbox
  have ht : TR h2 (.agg (rUBounds (mkBounds x k))) _ _ := TR_aggs.2 (TRl_int.2 ⟨_, rfl, (TRl_cons (S.live.ids (.us 2 ((mkLinS x.Lins (k)).map rULin), .ref d1 0 (x.Lins).length, J1) (by simp)).1 (TRl_nil.2 ⟨rfl, rfl⟩))⟩)
  have hk := hK _ _ hb.1 hb.2 ht
  simp only [cBounds] at hk
  refine cast ?_ hk
  congr 2
  first | done | (simp; try omega)

end Go.Proofs.YtlmajgghnenbpaaGreat

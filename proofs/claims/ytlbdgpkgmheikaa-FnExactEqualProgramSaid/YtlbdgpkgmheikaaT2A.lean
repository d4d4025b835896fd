/- Contracts of the laws' functions over the types. -/
import Derived.Test.YtlbdgpkgmheikaaT1
import Derived.Test.YtlbdgpkgmheikaaR31
import Derived.Test.YtlbdgpkgmheikaaProg
namespace Go.Proofs.Ytlbdgpkgmheikaa
set_option linter.all false
open Go Go.RowKit Go.Proofs
def a73 : AFn :=
⟨12, [(.t 4)], (.seq 
 (.reg [⟨some 4, (.mv (.k (.int .i64 0))), no⟩]) (.seq 
 (.reg [⟨some 5, (.mv (.t 1)), no⟩, ⟨some 6, (.mv (.t 0)), no⟩, ⟨some 7, (.len false (.t 6)), no⟩, ⟨some 8, (.bin .sub (.t 5) (.t 7)), no⟩, ⟨some 1, (.mv (.t 8)), no⟩]) (.seq (.seq 
 (.reg [⟨some 9, (.mv (.t 1)), no⟩, ⟨some 10, (.bin .lss (.t 9) (.k (.int .i64 0))), no⟩]) (.cond (.t 10) (.seq 
 (.reg [⟨some 4, (.mv (.k (.int .i64 (-1)))), no⟩]) .ret) .skip)) (.seq 
 (.reg [⟨some 11, (.mv (.t 1)), no⟩, ⟨some 4, (.mv (.t 11)), no⟩]) .ret))))⟩
theorem a73_ok : compFn Try.prog Try.f73 = some a73 := by kernel_rfl

def a77 : AFn :=
⟨22, [(.t 2)], (.seq 
 (.reg [⟨some 2, (.mv (.k (.nil 1))), no⟩]) (.seq 
 (.reg [⟨some 5, (.mv (.t 0)), no⟩, ⟨some 6, (.len false (.t 5)), no⟩, ⟨some 7, (.mks 8 [(.int .i64 0)] (.t 6) (.t 6)), no⟩, ⟨some 3, (.mv (.t 7)), no⟩]) (.seq (.seq 
 (.reg [⟨some 4, (.mv (.k (.int .i64 0))), no⟩]) (.blk 0 (.loop (.seq (.seq 
 (.reg [⟨some 8, (.mv (.t 4)), no⟩, ⟨some 9, (.mv (.t 0)), no⟩, ⟨some 10, (.len false (.t 9)), no⟩, ⟨some 11, (.bin .lss (.t 8) (.t 10)), no⟩]) (.cond (.t 11) .skip (.exit 0))) (.seq (.blk 1 
 (.reg [⟨some 14, (.mv (.t 3)), no⟩, ⟨some 15, (.mv (.t 4)), no⟩, ⟨some 16, (.mv (.t 0)), no⟩, ⟨some 17, (.mv (.t 4)), no⟩, ⟨some 18, (.ixa 1 (.t 16) (.t 17)), no⟩, ⟨some 19, (.ld false 1 (.t 18)), no⟩, ⟨some 20, (.ixa 1 (.t 14) (.t 15)), no⟩, ⟨no, (.st 1 (.t 20) (.t 19)), no⟩])) 
 (.reg [⟨some 12, (.mv (.t 4)), no⟩, ⟨some 13, (.bin .add (.t 12) (.k (.int .i64 1))), no⟩, ⟨some 4, (.mv (.t 13)), no⟩])))))) (.seq 
 (.reg [⟨some 21, (.mv (.t 3)), no⟩, ⟨some 2, (.mv (.t 21)), no⟩]) .ret))))⟩
theorem a77_ok : compFn Try.prog Try.f77 = some a77 := by kernel_rfl

def a83 : AFn :=
⟨26, [(.t 4)], (.seq 
 (.reg [⟨some 4, (.mv (.k (.bool false))), no⟩]) (.seq (.seq 
 (.reg [⟨some 6, (.mv (.t 0)), no⟩, ⟨some 7, (.len false (.t 6)), no⟩, ⟨some 8, (.mv (.t 1)), no⟩, ⟨some 9, (.len false (.t 8)), no⟩, ⟨some 10, (.bin .neq (.t 7) (.t 9)), no⟩]) (.cond (.t 10) (.seq 
 (.reg [⟨some 4, (.mv (.k (.bool false))), no⟩]) .ret) .skip)) (.seq (.seq 
 (.reg [⟨some 5, (.mv (.k (.int .i64 0))), no⟩]) (.blk 0 (.loop (.seq (.seq 
 (.reg [⟨some 11, (.mv (.t 5)), no⟩, ⟨some 12, (.mv (.t 0)), no⟩, ⟨some 13, (.len false (.t 12)), no⟩, ⟨some 14, (.bin .lss (.t 11) (.t 13)), no⟩]) (.cond (.t 14) .skip (.exit 0))) (.seq (.blk 1 (.seq (.draw (.op ⟨some 17, (.mv (.t 0)), no⟩ (.op ⟨some 18, (.mv (.t 5)), no⟩ (.op ⟨some 19, (.ixa 1 (.t 17) (.t 18)), no⟩ (.op ⟨some 20, (.ld false 1 (.t 19)), no⟩ (.op ⟨some 21, (.mv (.t 1)), no⟩ (.op ⟨some 22, (.mv (.t 5)), no⟩ (.op ⟨some 23, (.ixa 1 (.t 21) (.t 22)), no⟩ (.op ⟨some 24, (.ld false 1 (.t 23)), no⟩ (.op ⟨some 25, (.bin .neq (.t 20) (.t 24)), no⟩ .fin)))))))))) (.cond (.t 25) (.seq 
 (.reg [⟨some 4, (.mv (.k (.bool false))), no⟩]) .ret) .skip))) 
 (.reg [⟨some 15, (.mv (.t 5)), no⟩, ⟨some 16, (.bin .add (.t 15) (.k (.int .i64 1))), no⟩, ⟨some 5, (.mv (.t 16)), no⟩])))))) (.seq 
 (.reg [⟨some 4, (.mv (.k (.bool true))), no⟩]) .ret))))⟩
theorem a83_ok : compFn Try.prog Try.f83 = some a83 := by kernel_rfl

def a211 : AFn :=
⟨28, [(.t 4)], (.seq 
 (.reg [⟨some 4, (.mv (.k (.int .i64 0))), no⟩]) (.seq 
 (.reg [⟨some 6, (.mv (.t 1)), no⟩, ⟨some 7, (.mv (.t 0)), no⟩, ⟨some 8, (.len false (.t 7)), no⟩, ⟨some 9, (.bin .sub (.t 6) (.t 8)), no⟩, ⟨some 1, (.mv (.t 9)), no⟩]) (.seq (.seq 
 (.reg [⟨some 10, (.mv (.t 1)), no⟩, ⟨some 11, (.bin .lss (.t 10) (.k (.int .i64 0))), no⟩]) (.cond (.t 11) (.seq 
 (.reg [⟨some 4, (.mv (.k (.int .i64 (-1)))), no⟩]) .ret) .skip)) (.seq (.seq 
 (.reg [⟨some 5, (.mv (.k (.int .i64 0))), no⟩]) (.blk 0 (.loop (.seq (.seq 
 (.reg [⟨some 12, (.mv (.t 5)), no⟩, ⟨some 13, (.mv (.t 0)), no⟩, ⟨some 14, (.len false (.t 13)), no⟩, ⟨some 15, (.bin .lss (.t 12) (.t 14)), no⟩]) (.cond (.t 15) .skip (.exit 0))) (.seq (.blk 1 (.seq 
 (.reg [⟨some 18, (.mv (.t 1)), no⟩, ⟨some 19, (.mv (.t 0)), no⟩, ⟨some 20, (.mv (.t 5)), no⟩, ⟨some 21, (.ixa 1 (.t 19) (.t 20)), no⟩, ⟨some 22, (.ld false 1 (.t 21)), no⟩, ⟨some 23, (.len true (.t 22)), no⟩, ⟨some 24, (.bin .sub (.t 18) (.t 23)), no⟩, ⟨some 1, (.mv (.t 24)), no⟩]) (.seq 
 (.reg [⟨some 25, (.mv (.t 1)), no⟩, ⟨some 26, (.bin .lss (.t 25) (.k (.int .i64 0))), no⟩]) (.cond (.t 26) (.seq 
 (.reg [⟨some 4, (.mv (.k (.int .i64 (-1)))), no⟩]) .ret) .skip)))) 
 (.reg [⟨some 16, (.mv (.t 5)), no⟩, ⟨some 17, (.bin .add (.t 16) (.k (.int .i64 1))), no⟩, ⟨some 5, (.mv (.t 17)), no⟩])))))) (.seq 
 (.reg [⟨some 27, (.mv (.t 1)), no⟩, ⟨some 4, (.mv (.t 27)), no⟩]) .ret)))))⟩
theorem a211_ok : compFn Try.prog Try.f211 = some a211 := by kernel_rfl

def a213 : AFn :=
⟨22, [(.t 2)], (.seq 
 (.reg [⟨some 2, (.mv (.k (.nil 1))), no⟩]) (.seq 
 (.reg [⟨some 5, (.mv (.t 0)), no⟩, ⟨some 6, (.len false (.t 5)), no⟩, ⟨some 7, (.mks 16 [(.str [])] (.t 6) (.t 6)), no⟩, ⟨some 3, (.mv (.t 7)), no⟩]) (.seq (.seq 
 (.reg [⟨some 4, (.mv (.k (.int .i64 0))), no⟩]) (.blk 0 (.loop (.seq (.seq 
 (.reg [⟨some 8, (.mv (.t 4)), no⟩, ⟨some 9, (.mv (.t 0)), no⟩, ⟨some 10, (.len false (.t 9)), no⟩, ⟨some 11, (.bin .lss (.t 8) (.t 10)), no⟩]) (.cond (.t 11) .skip (.exit 0))) (.seq (.blk 1 
 (.reg [⟨some 14, (.mv (.t 3)), no⟩, ⟨some 15, (.mv (.t 4)), no⟩, ⟨some 16, (.mv (.t 0)), no⟩, ⟨some 17, (.mv (.t 4)), no⟩, ⟨some 18, (.ixa 1 (.t 16) (.t 17)), no⟩, ⟨some 19, (.ld false 1 (.t 18)), no⟩, ⟨some 20, (.ixa 1 (.t 14) (.t 15)), no⟩, ⟨no, (.st 1 (.t 20) (.t 19)), no⟩])) 
 (.reg [⟨some 12, (.mv (.t 4)), no⟩, ⟨some 13, (.bin .add (.t 12) (.k (.int .i64 1))), no⟩, ⟨some 4, (.mv (.t 13)), no⟩])))))) (.seq 
 (.reg [⟨some 21, (.mv (.t 3)), no⟩, ⟨some 2, (.mv (.t 21)), no⟩]) .ret))))⟩
theorem a213_ok : compFn Try.prog Try.f213 = some a213 := by kernel_rfl

def a49 : AFn :=
⟨26, [(.t 4)], (.seq 
 (.reg [⟨some 4, (.mv (.k (.bool false))), no⟩]) (.seq (.seq 
 (.reg [⟨some 6, (.mv (.t 0)), no⟩, ⟨some 7, (.len false (.t 6)), no⟩, ⟨some 8, (.mv (.t 1)), no⟩, ⟨some 9, (.len false (.t 8)), no⟩, ⟨some 10, (.bin .neq (.t 7) (.t 9)), no⟩]) (.cond (.t 10) (.seq 
 (.reg [⟨some 4, (.mv (.k (.bool false))), no⟩]) .ret) .skip)) (.seq (.seq 
 (.reg [⟨some 5, (.mv (.k (.int .i64 0))), no⟩]) (.blk 0 (.loop (.seq (.seq 
 (.reg [⟨some 11, (.mv (.t 5)), no⟩, ⟨some 12, (.mv (.t 0)), no⟩, ⟨some 13, (.len false (.t 12)), no⟩, ⟨some 14, (.bin .lss (.t 11) (.t 13)), no⟩]) (.cond (.t 14) .skip (.exit 0))) (.seq (.blk 1 (.seq (.draw (.op ⟨some 17, (.mv (.t 0)), no⟩ (.op ⟨some 18, (.mv (.t 5)), no⟩ (.op ⟨some 19, (.ixa 1 (.t 17) (.t 18)), no⟩ (.op ⟨some 20, (.ld false 1 (.t 19)), no⟩ (.op ⟨some 21, (.mv (.t 1)), no⟩ (.op ⟨some 22, (.mv (.t 5)), no⟩ (.op ⟨some 23, (.ixa 1 (.t 21) (.t 22)), no⟩ (.op ⟨some 24, (.ld false 1 (.t 23)), no⟩ (.op ⟨some 25, (.bin .neq (.t 20) (.t 24)), no⟩ .fin)))))))))) (.cond (.t 25) (.seq 
 (.reg [⟨some 4, (.mv (.k (.bool false))), no⟩]) .ret) .skip))) 
 (.reg [⟨some 15, (.mv (.t 5)), no⟩, ⟨some 16, (.bin .add (.t 15) (.k (.int .i64 1))), no⟩, ⟨some 5, (.mv (.t 16)), no⟩])))))) (.seq 
 (.reg [⟨some 4, (.mv (.k (.bool true))), no⟩]) .ret))))⟩
theorem a49_ok : compFn Try.prog Try.f49 = some a49 := by kernel_rfl

def a13 : AFn :=
⟨12, [(.t 4)], (.seq 
 (.reg [⟨some 2, (.boxv (.t 0)), no⟩, ⟨some 4, (.mv (.k (.int .i64 0))), no⟩]) (.seq 
 (.reg [⟨some 5, (.fld 1 (.t 2)), no⟩, ⟨some 6, (.ld false 1 (.t 5)), no⟩, ⟨some 7, (.mv (.t 1)), no⟩, ⟨some 8, (.call (.k (.fn (.func 73) [] [])) [(.t 6), (.t 7)]), no⟩, ⟨some 1, (.mv (.t 8)), no⟩]) (.seq (.seq 
 (.reg [⟨some 9, (.mv (.t 1)), no⟩, ⟨some 10, (.bin .lss (.t 9) (.k (.int .i64 0))), no⟩]) (.cond (.t 10) (.seq 
 (.reg [⟨some 4, (.mv (.k (.int .i64 (-1)))), no⟩]) .ret) .skip)) (.seq 
 (.reg [⟨some 11, (.mv (.t 1)), no⟩, ⟨some 4, (.mv (.t 11)), no⟩]) .ret))))⟩
theorem a13_ok : compFn Try.prog Try.f13 = some a13 := by kernel_rfl

def a16 : AFn :=
⟨12, [(.c 2 true 2)], (.seq 
 (.reg [⟨some 1, (.boxv (.t 0)), no⟩, ⟨some 2, (.box [(.int .i64 0), (.nil 1)]), no⟩]) (.seq 
 (.reg [⟨some 3, (.box [(.int .i64 0), (.nil 1)]), no⟩]) (.seq 
 (.reg [⟨some 4, (.fld 0 (.t 1)), no⟩, ⟨some 5, (.ld false 1 (.t 4)), no⟩, ⟨some 6, (.fld 0 (.t 3)), no⟩, ⟨no, (.st 1 (.t 6) (.t 5)), no⟩]) (.seq 
 (.reg [⟨some 7, (.fld 1 (.t 1)), no⟩, ⟨some 8, (.ld false 1 (.t 7)), no⟩, ⟨some 9, (.call (.k (.fn (.func 77) [] [])) [(.t 8)]), no⟩, ⟨some 10, (.fld 1 (.t 3)), no⟩, ⟨no, (.st 1 (.t 10) (.t 9)), no⟩]) (.seq 
 (.reg [⟨some 11, (.ld true 2 (.t 3)), no⟩, ⟨no, (.st 2 (.t 2) (.t 11)), no⟩]) .ret)))))⟩
theorem a16_ok : compFn Try.prog Try.f16 = some a16 := by kernel_rfl

def a19 : AFn :=
⟨16, [(.t 4)], (.seq 
 (.reg [⟨some 2, (.boxv (.t 0)), no⟩, ⟨some 3, (.boxv (.t 1)), no⟩, ⟨some 4, (.mv (.k (.bool false))), no⟩]) (.seq (.seq 
 (.reg [⟨some 5, (.fld 0 (.t 2)), no⟩, ⟨some 6, (.ld false 1 (.t 5)), no⟩, ⟨some 7, (.fld 0 (.t 3)), no⟩, ⟨some 8, (.ld false 1 (.t 7)), no⟩, ⟨some 9, (.bin .neq (.t 6) (.t 8)), no⟩]) (.cond (.t 9) (.seq 
 (.reg [⟨some 4, (.mv (.k (.bool false))), no⟩]) .ret) .skip)) (.seq (.seq 
 (.reg [⟨some 10, (.fld 1 (.t 2)), no⟩, ⟨some 11, (.ld false 1 (.t 10)), no⟩, ⟨some 12, (.fld 1 (.t 3)), no⟩, ⟨some 13, (.ld false 1 (.t 12)), no⟩, ⟨some 14, (.call (.k (.fn (.func 83) [] [])) [(.t 11), (.t 13)]), no⟩, ⟨some 15, (.un .not (.t 14)), no⟩]) (.cond (.t 15) (.seq 
 (.reg [⟨some 4, (.mv (.k (.bool false))), no⟩]) .ret) .skip)) (.seq 
 (.reg [⟨some 4, (.mv (.k (.bool true))), no⟩]) .ret))))⟩
theorem a19_ok : compFn Try.prog Try.f19 = some a19 := by kernel_rfl

def a96 : AFn :=
⟨12, [(.t 4)], (.seq 
 (.reg [⟨some 2, (.boxv (.t 0)), no⟩, ⟨some 4, (.mv (.k (.int .i64 0))), no⟩]) (.seq 
 (.reg [⟨some 5, (.fld 1 (.t 2)), no⟩, ⟨some 6, (.ld false 1 (.t 5)), no⟩, ⟨some 7, (.mv (.t 1)), no⟩, ⟨some 8, (.call (.k (.fn (.func 14) [] [])) [(.t 6), (.t 7)]), no⟩, ⟨some 1, (.mv (.t 8)), no⟩]) (.seq (.seq 
 (.reg [⟨some 9, (.mv (.t 1)), no⟩, ⟨some 10, (.bin .lss (.t 9) (.k (.int .i64 0))), no⟩]) (.cond (.t 10) (.seq 
 (.reg [⟨some 4, (.mv (.k (.int .i64 (-1)))), no⟩]) .ret) .skip)) (.seq 
 (.reg [⟨some 11, (.mv (.t 1)), no⟩, ⟨some 4, (.mv (.t 11)), no⟩]) .ret))))⟩
theorem a96_ok : compFn Try.prog Try.f96 = some a96 := by kernel_rfl

def a100 : AFn :=
⟨12, [(.c 2 true 2)], (.seq 
 (.reg [⟨some 1, (.boxv (.t 0)), no⟩, ⟨some 2, (.box [(.int .i64 0), (.nil 2)]), no⟩]) (.seq 
 (.reg [⟨some 3, (.box [(.int .i64 0), (.nil 2)]), no⟩]) (.seq 
 (.reg [⟨some 4, (.fld 0 (.t 1)), no⟩, ⟨some 5, (.ld false 1 (.t 4)), no⟩, ⟨some 6, (.fld 0 (.t 3)), no⟩, ⟨no, (.st 1 (.t 6) (.t 5)), no⟩]) (.seq 
 (.reg [⟨some 7, (.fld 1 (.t 1)), no⟩, ⟨some 8, (.ld false 1 (.t 7)), no⟩, ⟨some 9, (.call (.k (.fn (.func 17) [] [])) [(.t 8)]), no⟩, ⟨some 10, (.fld 1 (.t 3)), no⟩, ⟨no, (.st 1 (.t 10) (.t 9)), no⟩]) (.seq 
 (.reg [⟨some 11, (.ld true 2 (.t 3)), no⟩, ⟨no, (.st 2 (.t 2) (.t 11)), no⟩]) .ret)))))⟩
theorem a100_ok : compFn Try.prog Try.f100 = some a100 := by kernel_rfl

def a104 : AFn :=
⟨16, [(.t 4)], (.seq 
 (.reg [⟨some 2, (.boxv (.t 0)), no⟩, ⟨some 3, (.boxv (.t 1)), no⟩, ⟨some 4, (.mv (.k (.bool false))), no⟩]) (.seq (.seq 
 (.reg [⟨some 5, (.fld 0 (.t 2)), no⟩, ⟨some 6, (.ld false 1 (.t 5)), no⟩, ⟨some 7, (.fld 0 (.t 3)), no⟩, ⟨some 8, (.ld false 1 (.t 7)), no⟩, ⟨some 9, (.bin .neq (.t 6) (.t 8)), no⟩]) (.cond (.t 9) (.seq 
 (.reg [⟨some 4, (.mv (.k (.bool false))), no⟩]) .ret) .skip)) (.seq (.seq 
 (.reg [⟨some 10, (.fld 1 (.t 2)), no⟩, ⟨some 11, (.ld false 1 (.t 10)), no⟩, ⟨some 12, (.fld 1 (.t 3)), no⟩, ⟨some 13, (.ld false 1 (.t 12)), no⟩, ⟨some 14, (.call (.k (.fn (.func 20) [] [])) [(.t 11), (.t 13)]), no⟩, ⟨some 15, (.un .not (.t 14)), no⟩]) (.cond (.t 15) (.seq 
 (.reg [⟨some 4, (.mv (.k (.bool false))), no⟩]) .ret) .skip)) (.seq 
 (.reg [⟨some 4, (.mv (.k (.bool true))), no⟩]) .ret))))⟩
theorem a104_ok : compFn Try.prog Try.f104 = some a104 := by kernel_rfl

def a29 : AFn :=
⟨30, [(.t 4)], (.seq 
 (.reg [⟨some 2, (.boxv (.t 0)), no⟩, ⟨some 4, (.mv (.k (.int .i64 0))), no⟩]) (.seq 
 (.reg [⟨some 5, (.fld 0 (.t 2)), no⟩, ⟨some 6, (.ld true 2 (.t 5)), no⟩, ⟨some 7, (.mv (.t 1)), no⟩, ⟨some 8, (.call (.k (.fn (.func 96) [] [])) [(.t 6), (.t 7)]), no⟩, ⟨some 1, (.mv (.t 8)), no⟩]) (.seq (.seq 
 (.reg [⟨some 9, (.mv (.t 1)), no⟩, ⟨some 10, (.bin .lss (.t 9) (.k (.int .i64 0))), no⟩]) (.cond (.t 10) (.seq 
 (.reg [⟨some 4, (.mv (.k (.int .i64 (-1)))), no⟩]) .ret) .skip)) (.seq 
 (.reg [⟨some 11, (.fld 2 (.t 2)), no⟩, ⟨some 12, (.ld false 1 (.t 11)), no⟩, ⟨some 13, (.mv (.t 1)), no⟩, ⟨some 14, (.call (.k (.fn (.func 14) [] [])) [(.t 12), (.t 13)]), no⟩, ⟨some 1, (.mv (.t 14)), no⟩]) (.seq (.seq 
 (.reg [⟨some 15, (.mv (.t 1)), no⟩, ⟨some 16, (.bin .lss (.t 15) (.k (.int .i64 0))), no⟩]) (.cond (.t 16) (.seq 
 (.reg [⟨some 4, (.mv (.k (.int .i64 (-1)))), no⟩]) .ret) .skip)) (.seq 
 (.reg [⟨some 17, (.fld 3 (.t 2)), no⟩, ⟨some 18, (.ld false 1 (.t 17)), no⟩, ⟨some 19, (.mv (.t 1)), no⟩, ⟨some 20, (.call (.k (.fn (.func 97) [] [])) [(.t 18), (.t 19)]), no⟩, ⟨some 1, (.mv (.t 20)), no⟩]) (.seq (.seq 
 (.reg [⟨some 21, (.mv (.t 1)), no⟩, ⟨some 22, (.bin .lss (.t 21) (.k (.int .i64 0))), no⟩]) (.cond (.t 22) (.seq 
 (.reg [⟨some 4, (.mv (.k (.int .i64 (-1)))), no⟩]) .ret) .skip)) (.seq 
 (.reg [⟨some 23, (.fld 4 (.t 2)), no⟩, ⟨some 24, (.ld true 2 (.t 23)), no⟩, ⟨some 25, (.mv (.t 1)), no⟩, ⟨some 26, (.call (.k (.fn (.func 13) [] [])) [(.t 24), (.t 25)]), no⟩, ⟨some 1, (.mv (.t 26)), no⟩]) (.seq (.seq 
 (.reg [⟨some 27, (.mv (.t 1)), no⟩, ⟨some 28, (.bin .lss (.t 27) (.k (.int .i64 0))), no⟩]) (.cond (.t 28) (.seq 
 (.reg [⟨some 4, (.mv (.k (.int .i64 (-1)))), no⟩]) .ret) .skip)) (.seq 
 (.reg [⟨some 29, (.mv (.t 1)), no⟩, ⟨some 4, (.mv (.t 29)), no⟩]) .ret))))))))))⟩
theorem a29_ok : compFn Try.prog Try.f29 = some a29 := by kernel_rfl

def a31 : AFn :=
⟨21, [(.c 2 true 6)], (.seq 
 (.reg [⟨some 1, (.boxv (.t 0)), no⟩, ⟨some 2, (.box [(.int .i64 0), (.nil 2), (.nil 2), (.nil 1), (.int .i64 0), (.nil 1)]), no⟩]) (.seq 
 (.reg [⟨some 3, (.box [(.int .i64 0), (.nil 2), (.nil 2), (.nil 1), (.int .i64 0), (.nil 1)]), no⟩]) (.seq 
 (.reg [⟨some 4, (.fld 0 (.t 1)), no⟩, ⟨some 5, (.ld true 2 (.t 4)), no⟩, ⟨some 6, (.call (.k (.fn (.func 100) [] [])) [(.t 5)]), no⟩, ⟨some 7, (.fld 0 (.t 3)), no⟩, ⟨no, (.st 2 (.t 7) (.t 6)), no⟩]) (.seq 
 (.reg [⟨some 8, (.fld 2 (.t 1)), no⟩, ⟨some 9, (.ld false 1 (.t 8)), no⟩, ⟨some 10, (.call (.k (.fn (.func 17) [] [])) [(.t 9)]), no⟩, ⟨some 11, (.fld 2 (.t 3)), no⟩, ⟨no, (.st 1 (.t 11) (.t 10)), no⟩]) (.seq 
 (.reg [⟨some 12, (.fld 3 (.t 1)), no⟩, ⟨some 13, (.ld false 1 (.t 12)), no⟩, ⟨some 14, (.call (.k (.fn (.func 101) [] [])) [(.t 13)]), no⟩, ⟨some 15, (.fld 3 (.t 3)), no⟩, ⟨no, (.st 1 (.t 15) (.t 14)), no⟩]) (.seq 
 (.reg [⟨some 16, (.fld 4 (.t 1)), no⟩, ⟨some 17, (.ld true 2 (.t 16)), no⟩, ⟨some 18, (.call (.k (.fn (.func 16) [] [])) [(.t 17)]), no⟩, ⟨some 19, (.fld 4 (.t 3)), no⟩, ⟨no, (.st 2 (.t 19) (.t 18)), no⟩]) (.seq 
 (.reg [⟨some 20, (.ld true 6 (.t 3)), no⟩, ⟨no, (.st 6 (.t 2) (.t 20)), no⟩]) .ret)))))))⟩
theorem a31_ok : compFn Try.prog Try.f31 = some a31 := by kernel_rfl

def a33 : AFn :=
⟨29, [(.t 4)], (.seq 
 (.reg [⟨some 2, (.boxv (.t 0)), no⟩, ⟨some 3, (.boxv (.t 1)), no⟩, ⟨some 4, (.mv (.k (.bool false))), no⟩]) (.seq (.seq 
 (.reg [⟨some 5, (.fld 0 (.t 2)), no⟩, ⟨some 6, (.ld true 2 (.t 5)), no⟩, ⟨some 7, (.fld 0 (.t 3)), no⟩, ⟨some 8, (.ld true 2 (.t 7)), no⟩, ⟨some 9, (.call (.k (.fn (.func 104) [] [])) [(.t 6), (.t 8)]), no⟩, ⟨some 10, (.un .not (.t 9)), no⟩]) (.cond (.t 10) (.seq 
 (.reg [⟨some 4, (.mv (.k (.bool false))), no⟩]) .ret) .skip)) (.seq (.seq 
 (.reg [⟨some 11, (.fld 2 (.t 2)), no⟩, ⟨some 12, (.ld false 1 (.t 11)), no⟩, ⟨some 13, (.fld 2 (.t 3)), no⟩, ⟨some 14, (.ld false 1 (.t 13)), no⟩, ⟨some 15, (.call (.k (.fn (.func 20) [] [])) [(.t 12), (.t 14)]), no⟩, ⟨some 16, (.un .not (.t 15)), no⟩]) (.cond (.t 16) (.seq 
 (.reg [⟨some 4, (.mv (.k (.bool false))), no⟩]) .ret) .skip)) (.seq (.seq 
 (.reg [⟨some 17, (.fld 3 (.t 2)), no⟩, ⟨some 18, (.ld false 1 (.t 17)), no⟩, ⟨some 19, (.fld 3 (.t 3)), no⟩, ⟨some 20, (.ld false 1 (.t 19)), no⟩, ⟨some 21, (.call (.k (.fn (.func 105) [] [])) [(.t 18), (.t 20)]), no⟩, ⟨some 22, (.un .not (.t 21)), no⟩]) (.cond (.t 22) (.seq 
 (.reg [⟨some 4, (.mv (.k (.bool false))), no⟩]) .ret) .skip)) (.seq (.seq 
 (.reg [⟨some 23, (.fld 4 (.t 2)), no⟩, ⟨some 24, (.ld true 2 (.t 23)), no⟩, ⟨some 25, (.fld 4 (.t 3)), no⟩, ⟨some 26, (.ld true 2 (.t 25)), no⟩, ⟨some 27, (.call (.k (.fn (.func 19) [] [])) [(.t 24), (.t 26)]), no⟩, ⟨some 28, (.un .not (.t 27)), no⟩]) (.cond (.t 28) (.seq 
 (.reg [⟨some 4, (.mv (.k (.bool false))), no⟩]) .ret) .skip)) (.seq 
 (.reg [⟨some 4, (.mv (.k (.bool true))), no⟩]) .ret))))))⟩
theorem a33_ok : compFn Try.prog Try.f33 = some a33 := by kernel_rfl

def a109 : AFn :=
⟨12, [(.t 4)], (.seq 
 (.reg [⟨some 2, (.boxv (.t 0)), no⟩, ⟨some 4, (.mv (.k (.int .i64 0))), no⟩]) (.seq 
 (.reg [⟨some 5, (.fld 1 (.t 2)), no⟩, ⟨some 6, (.ld false 1 (.t 5)), no⟩, ⟨some 7, (.mv (.t 1)), no⟩, ⟨some 8, (.call (.k (.fn (.func 73) [] [])) [(.t 6), (.t 7)]), no⟩, ⟨some 1, (.mv (.t 8)), no⟩]) (.seq (.seq 
 (.reg [⟨some 9, (.mv (.t 1)), no⟩, ⟨some 10, (.bin .lss (.t 9) (.k (.int .i64 0))), no⟩]) (.cond (.t 10) (.seq 
 (.reg [⟨some 4, (.mv (.k (.int .i64 (-1)))), no⟩]) .ret) .skip)) (.seq 
 (.reg [⟨some 11, (.mv (.t 1)), no⟩, ⟨some 4, (.mv (.t 11)), no⟩]) .ret))))⟩
theorem a109_ok : compFn Try.prog Try.f109 = some a109 := by kernel_rfl

def a112 : AFn :=
⟨12, [(.c 2 true 2)], (.seq 
 (.reg [⟨some 1, (.boxv (.t 0)), no⟩, ⟨some 2, (.box [(.int .i64 0), (.nil 1)]), no⟩]) (.seq 
 (.reg [⟨some 3, (.box [(.int .i64 0), (.nil 1)]), no⟩]) (.seq 
 (.reg [⟨some 4, (.fld 0 (.t 1)), no⟩, ⟨some 5, (.ld false 1 (.t 4)), no⟩, ⟨some 6, (.fld 0 (.t 3)), no⟩, ⟨no, (.st 1 (.t 6) (.t 5)), no⟩]) (.seq 
 (.reg [⟨some 7, (.fld 1 (.t 1)), no⟩, ⟨some 8, (.ld false 1 (.t 7)), no⟩, ⟨some 9, (.call (.k (.fn (.func 77) [] [])) [(.t 8)]), no⟩, ⟨some 10, (.fld 1 (.t 3)), no⟩, ⟨no, (.st 1 (.t 10) (.t 9)), no⟩]) (.seq 
 (.reg [⟨some 11, (.ld true 2 (.t 3)), no⟩, ⟨no, (.st 2 (.t 2) (.t 11)), no⟩]) .ret)))))⟩
theorem a112_ok : compFn Try.prog Try.f112 = some a112 := by kernel_rfl

def a115 : AFn :=
⟨16, [(.t 4)], (.seq 
 (.reg [⟨some 2, (.boxv (.t 0)), no⟩, ⟨some 3, (.boxv (.t 1)), no⟩, ⟨some 4, (.mv (.k (.bool false))), no⟩]) (.seq (.seq 
 (.reg [⟨some 5, (.fld 0 (.t 2)), no⟩, ⟨some 6, (.ld false 1 (.t 5)), no⟩, ⟨some 7, (.fld 0 (.t 3)), no⟩, ⟨some 8, (.ld false 1 (.t 7)), no⟩, ⟨some 9, (.bin .neq (.t 6) (.t 8)), no⟩]) (.cond (.t 9) (.seq 
 (.reg [⟨some 4, (.mv (.k (.bool false))), no⟩]) .ret) .skip)) (.seq (.seq 
 (.reg [⟨some 10, (.fld 1 (.t 2)), no⟩, ⟨some 11, (.ld false 1 (.t 10)), no⟩, ⟨some 12, (.fld 1 (.t 3)), no⟩, ⟨some 13, (.ld false 1 (.t 12)), no⟩, ⟨some 14, (.call (.k (.fn (.func 83) [] [])) [(.t 11), (.t 13)]), no⟩, ⟨some 15, (.un .not (.t 14)), no⟩]) (.cond (.t 15) (.seq 
 (.reg [⟨some 4, (.mv (.k (.bool false))), no⟩]) .ret) .skip)) (.seq 
 (.reg [⟨some 4, (.mv (.k (.bool true))), no⟩]) .ret))))⟩
theorem a115_ok : compFn Try.prog Try.f115 = some a115 := by kernel_rfl

def a108 : AFn :=
⟨18, [(.t 4)], (.seq 
 (.reg [⟨some 2, (.boxv (.t 0)), no⟩, ⟨some 4, (.mv (.k (.int .i64 0))), no⟩]) (.seq 
 (.reg [⟨some 5, (.fld 0 (.t 2)), no⟩, ⟨some 6, (.ld true 2 (.t 5)), no⟩, ⟨some 7, (.mv (.t 1)), no⟩, ⟨some 8, (.call (.k (.fn (.func 96) [] [])) [(.t 6), (.t 7)]), no⟩, ⟨some 1, (.mv (.t 8)), no⟩]) (.seq (.seq 
 (.reg [⟨some 9, (.mv (.t 1)), no⟩, ⟨some 10, (.bin .lss (.t 9) (.k (.int .i64 0))), no⟩]) (.cond (.t 10) (.seq 
 (.reg [⟨some 4, (.mv (.k (.int .i64 (-1)))), no⟩]) .ret) .skip)) (.seq 
 (.reg [⟨some 11, (.fld 2 (.t 2)), no⟩, ⟨some 12, (.ld true 2 (.t 11)), no⟩, ⟨some 13, (.mv (.t 1)), no⟩, ⟨some 14, (.call (.k (.fn (.func 13) [] [])) [(.t 12), (.t 13)]), no⟩, ⟨some 1, (.mv (.t 14)), no⟩]) (.seq (.seq 
 (.reg [⟨some 15, (.mv (.t 1)), no⟩, ⟨some 16, (.bin .lss (.t 15) (.k (.int .i64 0))), no⟩]) (.cond (.t 16) (.seq 
 (.reg [⟨some 4, (.mv (.k (.int .i64 (-1)))), no⟩]) .ret) .skip)) (.seq 
 (.reg [⟨some 17, (.mv (.t 1)), no⟩, ⟨some 4, (.mv (.t 17)), no⟩]) .ret))))))⟩
theorem a108_ok : compFn Try.prog Try.f108 = some a108 := by kernel_rfl

def a111 : AFn :=
⟨13, [(.c 2 true 4)], (.seq 
 (.reg [⟨some 1, (.boxv (.t 0)), no⟩, ⟨some 2, (.box [(.int .i64 0), (.nil 2), (.int .i64 0), (.nil 1)]), no⟩]) (.seq 
 (.reg [⟨some 3, (.box [(.int .i64 0), (.nil 2), (.int .i64 0), (.nil 1)]), no⟩]) (.seq 
 (.reg [⟨some 4, (.fld 0 (.t 1)), no⟩, ⟨some 5, (.ld true 2 (.t 4)), no⟩, ⟨some 6, (.call (.k (.fn (.func 100) [] [])) [(.t 5)]), no⟩, ⟨some 7, (.fld 0 (.t 3)), no⟩, ⟨no, (.st 2 (.t 7) (.t 6)), no⟩]) (.seq 
 (.reg [⟨some 8, (.fld 2 (.t 1)), no⟩, ⟨some 9, (.ld true 2 (.t 8)), no⟩, ⟨some 10, (.call (.k (.fn (.func 16) [] [])) [(.t 9)]), no⟩, ⟨some 11, (.fld 2 (.t 3)), no⟩, ⟨no, (.st 2 (.t 11) (.t 10)), no⟩]) (.seq 
 (.reg [⟨some 12, (.ld true 4 (.t 3)), no⟩, ⟨no, (.st 4 (.t 2) (.t 12)), no⟩]) .ret)))))⟩
theorem a111_ok : compFn Try.prog Try.f111 = some a111 := by kernel_rfl

def a114 : AFn :=
⟨17, [(.t 4)], (.seq 
 (.reg [⟨some 2, (.boxv (.t 0)), no⟩, ⟨some 3, (.boxv (.t 1)), no⟩, ⟨some 4, (.mv (.k (.bool false))), no⟩]) (.seq (.seq 
 (.reg [⟨some 5, (.fld 0 (.t 2)), no⟩, ⟨some 6, (.ld true 2 (.t 5)), no⟩, ⟨some 7, (.fld 0 (.t 3)), no⟩, ⟨some 8, (.ld true 2 (.t 7)), no⟩, ⟨some 9, (.call (.k (.fn (.func 104) [] [])) [(.t 6), (.t 8)]), no⟩, ⟨some 10, (.un .not (.t 9)), no⟩]) (.cond (.t 10) (.seq 
 (.reg [⟨some 4, (.mv (.k (.bool false))), no⟩]) .ret) .skip)) (.seq (.seq 
 (.reg [⟨some 11, (.fld 2 (.t 2)), no⟩, ⟨some 12, (.ld true 2 (.t 11)), no⟩, ⟨some 13, (.fld 2 (.t 3)), no⟩, ⟨some 14, (.ld true 2 (.t 13)), no⟩, ⟨some 15, (.call (.k (.fn (.func 19) [] [])) [(.t 12), (.t 14)]), no⟩, ⟨some 16, (.un .not (.t 15)), no⟩]) (.cond (.t 16) (.seq 
 (.reg [⟨some 4, (.mv (.k (.bool false))), no⟩]) .ret) .skip)) (.seq 
 (.reg [⟨some 4, (.mv (.k (.bool true))), no⟩]) .ret))))⟩
theorem a114_ok : compFn Try.prog Try.f114 = some a114 := by kernel_rfl



theorem k_szIntS (l : List Int) (left : Int) (h0 : 0 ≤ left ∧ left ≤ 4611686018427387904) : Holds Try.prog 73 [.sl 1 (intsR l), i64 left] (fun r => r = i64 (sub1 left (wIntS l))) := by
  refine holds_of_run Try.func73 a73_ok rfl (by simp [a73]) ?_
  simp [a73]
  unfold LIM
  intro h1
  rw [wrap64 (by omega)]
  unfold sub1 wIntS
  exact ⟨fun h => by rw [if_pos h], fun h => by rw [if_neg (by omega)]⟩

theorem k_toIntS (a : List Int) (hw : wIntS a ≤ 1048576) : Holds Try.prog 77 [.sl 1 (intsR a)] (fun r => r = .us 1 (intsR a)) := by
  unfold wIntS at hw
  refine holds_of_run Try.func77 a77_ok rfl (by simp [a77]) ?_
  simp [a77]
  intro h1
  refine ⟨by unfold LIM; omega, rL_of (fun k s h n => ∃ (i : Nat) (rows : List (List AV)), k = a.length - i ∧ i ≤ a.length ∧ s 0 = ints a ∧ s 3 = .ref 0 0 a.length ∧ s 4 = i64 i ∧ h = upd noHeap 0 (some ⟨false, 1, rows⟩) ∧ n = 1 ∧
    rows.length = a.length ∧ (∀ j, j < i → rows[j]? = (intsR a)[j]?) ∧ (∀ j (hj : j < rows.length), rows[j].length = 1)) a.length ⟨0, List.replicate a.length [i64 0], by simp⟩ ?_⟩
  rintro k s h n ⟨i, rows, rfl, hi, s0, s3, s4, rfl, rfl, hr, hj, hc⟩
  by_cases hlt : i < a.length
  · have hm := hc i (by omega)
    have htl : rows[i].tail = [] := List.eq_nil_of_length_eq_zero (by simp [hm])
    simp [s0, s3, s4, hlt, hr, hm]
    intro _
    refine ⟨a.length - (i + 1), by omega, i + 1, rfl, by omega, by rw [wrap64 (by omega)]; rfl, rows.set i [i64 a[i]], by simp [htl], by simp [hr], fun j hj' => ?_, fun j hj' => ?_⟩
    · rw [List.getElem?_set]
      by_cases hji : i = j
      · subst hji; simp [hr, hlt]
      · rw [if_neg hji]; simpa using hj j (by omega)
    · rw [List.getElem_set]
      split
      · rfl
      · exact hc j (by simpa using hj')
  · simp [s0, s3, s4, hlt, hr]
    intro _
    have : rows = intsR a := List.ext_getElem? fun j => by
      by_cases hji : j < i
      · exact hj j hji
      · rw [List.getElem?_eq_none (by omega), List.getElem?_eq_none (by simp; omega)]
    subst this
    simp [List.take_of_length_le]

theorem k_eqIntS (a b : List Int) : Holds Try.prog 83 [.sl 1 (intsR a), .sl 1 (intsR b)] (fun r => r = .bool (decide (a = b))) := by
  refine holds_of_run Try.func83 a83_ok rfl (by simp [a83]) ?_
  simp [a83]
  intro h1 h2
  refine ⟨fun h e => h (by rw [e]), fun hl => rL_of (fun k s h n => ∃ i : Nat, k = a.length - i ∧ i ≤ a.length ∧ s 0 = ints a ∧ s 1 = ints b ∧ s 5 = i64 i ∧ (∀ j, j < i → a[j]? = b[j]?) ∧ h = noHeap ∧ n = 0) a.length ⟨0, by simp⟩ ?_⟩
  rintro k s h n ⟨i, rfl, hi, s0, s1, s5, hj, rfl, rfl⟩
  have hl : a.length = b.length := by omega
  by_cases hlt : i < a.length
  · have hlt' : i < b.length := by omega
    unfold LIM at h1
    simp [s0, s1, s5, hlt, hlt']
    intro _
    refine ⟨fun h e => h (by subst e; rfl), fun e => ⟨a.length - (i + 1), by omega, i + 1, rfl, by omega, by rw [wrap64 (by omega)]; rfl, fun j hj' => ?_⟩⟩
    by_cases hji : j = i
    · subst hji; simp [hlt, hlt', e]
    · exact hj j (by omega)
  · simp [s0, s1, s5, hlt]
    intro _
    refine List.ext_getElem? fun j => ?_
    by_cases hji : j < i
    · exact hj j hji
    · rw [List.getElem?_eq_none (by omega), List.getElem?_eq_none (by omega)]

theorem k_szStringS (l : List Str) (left : Int) (h0 : 0 ≤ left ∧ left ≤ 4611686018427387904) : Holds Try.prog 211 [.sl 1 (strsR l), i64 left] (fun r => r = i64 (sub1 left (wStringS l))) := by
  rw [show wStringS l = wL List.length l from rfl, ← szL_sub1 (w := List.length) (g := fun x lf => sub1 lf x.length) (fun _ _ _ => rfl) l left h0.1]
  refine holds_of_run Try.func211 a211_ok rfl (by simp [a211]) ?_
  simp [a211]
  intro h1
  unfold LIM at h1
  unfold szL
  rw [wrap64 (by omega)]
  refine ⟨fun h => by rw [if_pos (by omega)], fun h => rL_of (fun k s h n => ∃ (i : Nat) (lf : Int), k = l.length - i ∧ i ≤ l.length ∧ s 0 = strs l ∧ s 1 = i64 lf ∧ s 5 = i64 i ∧ 0 ≤ lf ∧ lf ≤ left ∧ szLoop (fun (x : Str) lf => sub1 lf x.length) (l.drop i) lf = szLoop (fun (x : Str) lf => sub1 lf x.length) l (left - l.length) ∧ h = noHeap ∧ n = 0) l.length ⟨0, left - l.length, by simp; omega⟩ ?_⟩
  rintro k s h n ⟨i, lf, rfl, hi, s0, s1, s5, hf, hlf, hj, rfl, rfl⟩
  rw [if_neg (by omega), ← hj]
  by_cases hlt : i < l.length
  · rw [List.drop_eq_getElem_cons hlt] at hj ⊢
    simp only [szLoop] at hj ⊢
    simp [s0, s1, s5, hlt]
    intro _ h2
    unfold LIM at h2
    rw [wrap64 (by omega)]
    by_cases hx : lf - (l[i].length : Int) < 0
    · rw [sub1_neg hx]
      simp; exact fun h => by omega
    · rw [sub1_pos hx] at hj ⊢
      rw [if_neg hx] at hj ⊢
      refine ⟨fun h => by omega, fun _ => ⟨l.length - (i + 1), by omega, i + 1, rfl, by omega, by rw [wrap64 (by omega)]; rfl, by omega, by omega, rfl⟩⟩
  · rw [List.drop_eq_nil_of_le (by omega)] at hj ⊢
    simp [s0, s1, s5, hlt, szLoop]

theorem k_toStringS (a : List Str) (hw : wStringS a ≤ 1048576) : Holds Try.prog 213 [.sl 1 (strsR a)] (fun r => r = .us 1 (strsR a)) := by
  have hw := Nat.le_trans (wL_len _ _) hw
  refine holds_of_run Try.func213 a213_ok rfl (by simp [a213]) ?_
  simp [a213]
  intro h1
  refine ⟨by unfold LIM; omega, rL_of (fun k s h n => ∃ (i : Nat) (rows : List (List AV)), k = a.length - i ∧ i ≤ a.length ∧ s 0 = strs a ∧ s 3 = .ref 0 0 a.length ∧ s 4 = i64 i ∧ h = upd noHeap 0 (some ⟨false, 1, rows⟩) ∧ n = 1 ∧
    rows.length = a.length ∧ (∀ j, j < i → rows[j]? = (strsR a)[j]?) ∧ (∀ j (hj : j < rows.length), rows[j].length = 1)) a.length ⟨0, List.replicate a.length [.str []], by simp⟩ ?_⟩
  rintro k s h n ⟨i, rows, rfl, hi, s0, s3, s4, rfl, rfl, hr, hj, hc⟩
  by_cases hlt : i < a.length
  · have hm := hc i (by omega)
    have htl : rows[i].tail = [] := List.eq_nil_of_length_eq_zero (by simp [hm])
    simp [s0, s3, s4, hlt, hr, hm]
    intro _
    refine ⟨a.length - (i + 1), by omega, i + 1, rfl, by omega, by rw [wrap64 (by omega)]; rfl, rows.set i [.str a[i]], by simp [htl], by simp [hr], fun j hj' => ?_, fun j hj' => ?_⟩
    · rw [List.getElem?_set]
      by_cases hji : i = j
      · subst hji; simp [hr, hlt]
      · rw [if_neg hji]; simpa using hj j (by omega)
    · rw [List.getElem_set]
      split
      · rfl
      · exact hc j (by simpa using hj')
  · simp [s0, s3, s4, hlt, hr]
    intro _
    have : rows = strsR a := List.ext_getElem? fun j => by
      by_cases hji : j < i
      · exact hj j hji
      · rw [List.getElem?_eq_none (by omega), List.getElem?_eq_none (by simp; omega)]
    subst this
    simp [List.take_of_length_le]

theorem k_eqStringS (a b : List Str) : Holds Try.prog 49 [.sl 1 (strsR a), .sl 1 (strsR b)] (fun r => r = .bool (decide (a = b))) := by
  refine holds_of_run Try.func49 a49_ok rfl (by simp [a49]) ?_
  simp [a49]
  intro h1 h2
  refine ⟨fun h e => h (by rw [e]), fun hl => rL_of (fun k s h n => ∃ i : Nat, k = a.length - i ∧ i ≤ a.length ∧ s 0 = strs a ∧ s 1 = strs b ∧ s 5 = i64 i ∧ (∀ j, j < i → a[j]? = b[j]?) ∧ h = noHeap ∧ n = 0) a.length ⟨0, by simp⟩ ?_⟩
  rintro k s h n ⟨i, rfl, hi, s0, s1, s5, hj, rfl, rfl⟩
  have hl : a.length = b.length := by omega
  by_cases hlt : i < a.length
  · have hlt' : i < b.length := by omega
    unfold LIM at h1
    simp [s0, s1, s5, hlt, hlt']
    intro _
    refine ⟨fun h e => h (by subst e; rfl), fun e => ⟨a.length - (i + 1), by omega, i + 1, rfl, by omega, by rw [wrap64 (by omega)]; rfl, fun j hj' => ?_⟩⟩
    by_cases hji : j = i
    · subst hji; simp [hlt, hlt', e]
    · exact hj j (by omega)
  · simp [s0, s1, s5, hlt]
    intro _
    refine List.ext_getElem? fun j => ?_
    by_cases hji : j < i
    · exact hj j hji
    · rw [List.getElem?_eq_none (by omega), List.getElem?_eq_none (by omega)]

theorem k_szLin (x : DLin) (left : Int) (h0 : 0 ≤ left ∧ left ≤ 4611686018427387904) : Holds Try.prog 13 [.agg (rALin x), i64 left] (fun r => r = i64 (sub1 left (wLin x))) := by
  refine holds_of_run Try.func13 a13_ok rfl (by simp [a13]) ?_
  simp [a13, rALin]
  have e0 : wLin x = wLin x := rfl
  conv at e0 => rhs; unfold wLin
  refine call_of (k_szIntS x.Coeffs left (by omega)) (by simp) ?_
  rintro r rfl
  by_cases h1 : left - (wIntS x.Coeffs : Nat) < 0
  case pos =>
    have q : left - (wLin x : Int) < 0 := by omega
    simp [sub1, h1, q]
    try first | omega | (constructor <;> intros <;> omega)
  simp [sub1, h1]
  try (rw [if_neg (by omega)]; omega)

theorem k_toLin (x : DLin) (_hw : wLin x ≤ 1048576) : Holds Try.prog 16 [.agg (rALin x)] (fun r => r = .agg (rULin x)) := by
  have hw := _hw; unfold wLin at hw
  refine holds_of_run Try.func16 a16_ok rfl (by simp [a16]) ?_
  simp [a16, rALin]
  refine call_of (k_toIntS x.Coeffs (by omega)) (by simp []) ?_
  rintro r rfl
  simp []
  try simp [rULin]

theorem k_eqLin (x y : DLin) : Holds Try.prog 19 [.agg (rALin x), .agg (rALin y)] (fun r => r = .bool (decide (x = y))) := by
  refine holds_of_run Try.func19 a19_ok rfl (by simp [a19]) ?_
  simp [a19, rALin]
  by_cases h0 : x.Const = y.Const
  case neg => simp [h0]; try exact fun e => h0 (by rw [e])
  simp [h0]
  refine call_of (k_eqIntS x.Coeffs y.Coeffs) (by simp []) ?_
  rintro r rfl
  by_cases h1 : x.Coeffs = y.Coeffs
  case neg => simp [h1]; try exact fun e => h1 (by rw [e])
  simp [h1]
  cases x; cases y; simp_all

theorem a14_ok : compFn Try.prog Try.f14 = some (tSz true 2 13) := by kernel_rfl

theorem k_szLinS (l : List DLin) (left : Int) (h0 : 0 ≤ left ∧ left ≤ 4611686018427387904) : Holds Try.prog 14 [.sl 2 (l.map rALin), i64 left] (fun r => r = i64 (sub1 left (wLinS l))) := by
  rw [show wLinS l = wL wLin l from rfl, ← szL_sub1 (w := wLin) (g := fun x lf => sub1 lf (wLin x)) (fun _ _ _ => rfl) l left h0.1]
  exact holds_tSz Try.func14 a14_ok rfl (rowOf := rALin) (eltOf := (fun x => .agg (rALin x))) (fun x => by simp [rALin]) (fun x h => by simp [rALin]) (fun x lf h => sub1_le h) l left h0 (fun x lf _ hl => k_szLin x lf hl)

theorem a17_ok : compFn Try.prog Try.f17 = some (tTo true 2 32 16 [.int .i64 0, .nil 1]) := by kernel_rfl

theorem k_toLinS (l : List DLin) (hw : wLinS l ≤ 1048576) : Holds Try.prog 17 [.sl 2 (l.map rALin)] (fun r => r = .us 2 (l.map rULin)) :=
  holds_tTo Try.func17 a17_ok rfl (rowOf := rALin) (eltOf := (fun x => .agg (rALin x))) (eltU := (fun x => .agg (rULin x))) (fun x => by simp [rALin]) (fun x h => by simp [rALin]) (fun x => by simp) (fun x => by simp [rULin]) (fun x => by simp [rULin]) rfl l (by have := wL_len wLin l; unfold wLinS at hw; unfold LIM; omega) (fun x h => k_toLin x (by have := wL_mem (w := wLin) h; unfold wLinS at hw; omega))

theorem a20_ok : compFn Try.prog Try.f20 = some (tEq true 2 19) := by kernel_rfl

theorem k_eqLinS (l m : List DLin) : Holds Try.prog 20 [.sl 2 (l.map rALin), .sl 2 (m.map rALin)] (fun r => r = .bool (decide (l = m))) := by
  rw [← eqL_dec]
  exact holds_tEq Try.func20 a20_ok rfl (rowOf := rALin) (eltOf := (fun x => .agg (rALin x))) (fun x => by simp [rALin]) (fun x h => by simp [rALin]) l m (fun x y _ _ => k_eqLin x y)

theorem a97_ok : compFn Try.prog Try.f97 = some (tSz false 1 14) := by kernel_rfl

theorem k_szLinSS (l : List (List DLin)) (left : Int) (h0 : 0 ≤ left ∧ left ≤ 4611686018427387904) : Holds Try.prog 97 [.sl 1 (l.map rALinS), i64 left] (fun r => r = i64 (sub1 left (wLinSS l))) := by
  rw [show wLinSS l = wL wLinS l from rfl, ← szL_sub1 (w := wLinS) (g := fun x lf => sub1 lf (wLinS x)) (fun _ _ _ => rfl) l left h0.1]
  exact holds_tSz Try.func97 a97_ok rfl (rowOf := rALinS) (eltOf := (fun x => .sl 2 (x.map rALin))) (fun x => by simp [rALinS]) (fun x h => by simp [rALinS]) (fun x lf h => sub1_le h) l left h0 (fun x lf _ hl => k_szLinS x lf hl)

theorem a101_ok : compFn Try.prog Try.f101 = some (tTo false 1 24 17 [.nil 2]) := by kernel_rfl

theorem k_toLinSS (l : List (List DLin)) (hw : wLinSS l ≤ 1048576) : Holds Try.prog 101 [.sl 1 (l.map rALinS)] (fun r => r = .us 1 (l.map rULinS)) :=
  holds_tTo Try.func101 a101_ok rfl (rowOf := rALinS) (eltOf := (fun x => .sl 2 (x.map rALin))) (eltU := (fun x => .us 2 (x.map rULin))) (fun x => by simp [rALinS]) (fun x h => by simp [rALinS]) (fun x => by simp) (fun x => by simp [rULinS]) (fun x => by simp [rULinS]) rfl l (by have := wL_len wLinS l; unfold wLinSS at hw; unfold LIM; omega) (fun x h => k_toLinS x (by have := wL_mem (w := wLinS) h; unfold wLinSS at hw; omega))

theorem a105_ok : compFn Try.prog Try.f105 = some (tEq false 1 20) := by kernel_rfl

theorem k_eqLinSS (l m : List (List DLin)) : Holds Try.prog 105 [.sl 1 (l.map rALinS), .sl 1 (m.map rALinS)] (fun r => r = .bool (decide (l = m))) := by
  rw [← eqL_dec]
  exact holds_tEq Try.func105 a105_ok rfl (rowOf := rALinS) (eltOf := (fun x => .sl 2 (x.map rALin))) (fun x => by simp [rALinS]) (fun x h => by simp [rALinS]) l m (fun x y _ _ => k_eqLinS x y)

theorem k_szSystem (x : DSystem) (left : Int) (h0 : 0 ≤ left ∧ left ≤ 4611686018427387904) : Holds Try.prog 96 [.agg (rASystem x), i64 left] (fun r => r = i64 (sub1 left (wSystem x))) := by
  refine holds_of_run Try.func96 a96_ok rfl (by simp [a96]) ?_
  simp [a96, rASystem]
  have e0 : wSystem x = wSystem x := rfl
  conv at e0 => rhs; unfold wSystem
  refine call_of (k_szLinS x.Rows left (by omega)) (by simp) ?_
  rintro r rfl
  by_cases h1 : left - (wLinS x.Rows : Nat) < 0
  case pos =>
    have q : left - (wSystem x : Int) < 0 := by omega
    simp [sub1, h1, q]
    try first | omega | (constructor <;> intros <;> omega)
  simp [sub1, h1]
  try (rw [if_neg (by omega)]; omega)

theorem k_toSystem (x : DSystem) (_hw : wSystem x ≤ 1048576) : Holds Try.prog 100 [.agg (rASystem x)] (fun r => r = .agg (rUSystem x)) := by
  have hw := _hw; unfold wSystem at hw
  refine holds_of_run Try.func100 a100_ok rfl (by simp [a100]) ?_
  simp [a100, rASystem]
  refine call_of (k_toLinS x.Rows (by omega)) (by simp []) ?_
  rintro r rfl
  simp []
  try simp [rUSystem]

theorem k_eqSystem (x y : DSystem) : Holds Try.prog 104 [.agg (rASystem x), .agg (rASystem y)] (fun r => r = .bool (decide (x = y))) := by
  refine holds_of_run Try.func104 a104_ok rfl (by simp [a104]) ?_
  simp [a104, rASystem]
  by_cases h0 : x.N = y.N
  case neg => simp [h0]; try exact fun e => h0 (by rw [e])
  simp [h0]
  refine call_of (k_eqLinS x.Rows y.Rows) (by simp []) ?_
  rintro r rfl
  by_cases h1 : x.Rows = y.Rows
  case neg => simp [h1]; try exact fun e => h1 (by rw [e])
  simp [h1]
  cases x; cases y; simp_all

theorem k_szModel (x : DModel) (left : Int) (h0 : 0 ≤ left ∧ left ≤ 4611686018427387904) : Holds Try.prog 29 [.agg (rAModel x), i64 left] (fun r => r = i64 (sub1 left (wModel x))) := by
  refine holds_of_run Try.func29 a29_ok rfl (by simp [a29]) ?_
  simp [a29, rAModel]
  have e0 : wModel x = wModel x := rfl
  conv at e0 => rhs; unfold wModel
  refine call_of (k_szSystem x.System left (by omega)) (by simp [rASystem]) ?_
  rintro r rfl
  by_cases h1 : left - (wSystem x.System : Nat) < 0
  case pos =>
    have q : left - (wModel x : Int) < 0 := by omega
    simp [sub1, h1, q]
    try first | omega | (constructor <;> intros <;> omega)
  simp [sub1, h1]
  refine call_of (k_szLinS x.Params (left - (wSystem x.System : Nat)) (by omega)) (by simp) ?_
  rintro r rfl
  by_cases h2 : (left - (wSystem x.System : Nat)) - (wLinS x.Params : Nat) < 0
  case pos =>
    have q : left - (wModel x : Int) < 0 := by omega
    simp [sub1, h2, q]
    try first | omega | (constructor <;> intros <;> omega)
  simp [sub1, h2]
  refine call_of (k_szLinSS x.Args (left - (wSystem x.System : Nat) - (wLinS x.Params : Nat)) (by omega)) (by simp) ?_
  rintro r rfl
  by_cases h3 : (left - (wSystem x.System : Nat) - (wLinS x.Params : Nat)) - (wLinSS x.Args : Nat) < 0
  case pos =>
    have q : left - (wModel x : Int) < 0 := by omega
    simp [sub1, h3, q]
    try first | omega | (constructor <;> intros <;> omega)
  simp [sub1, h3]
  refine call_of (k_szLin x.Result (left - (wSystem x.System : Nat) - (wLinS x.Params : Nat) - (wLinSS x.Args : Nat)) (by omega)) (by simp [rALin]) ?_
  rintro r rfl
  by_cases h4 : (left - (wSystem x.System : Nat) - (wLinS x.Params : Nat) - (wLinSS x.Args : Nat)) - (wLin x.Result : Nat) < 0
  case pos =>
    have q : left - (wModel x : Int) < 0 := by omega
    simp [sub1, h4, q]
    try first | omega | (constructor <;> intros <;> omega)
  simp [sub1, h4]
  try (rw [if_neg (by omega)]; omega)

theorem k_toModel (x : DModel) (_hw : wModel x ≤ 1048576) : Holds Try.prog 31 [.agg (rAModel x)] (fun r => r = .agg (rUModel x)) := by
  have hw := _hw; unfold wModel at hw
  refine holds_of_run Try.func31 a31_ok rfl (by simp [a31]) ?_
  simp [a31, rAModel]
  refine call_of (k_toSystem x.System (by omega)) (by simp [rASystem]) ?_
  rintro r rfl
  simp [rUSystem]
  refine call_of (k_toLinS x.Params (by omega)) (by simp []) ?_
  rintro r rfl
  simp []
  refine call_of (k_toLinSS x.Args (by omega)) (by simp []) ?_
  rintro r rfl
  simp []
  refine call_of (k_toLin x.Result (by omega)) (by simp [rALin]) ?_
  rintro r rfl
  simp [rULin]
  try simp [rUModel]

theorem k_eqModel (x y : DModel) : Holds Try.prog 33 [.agg (rAModel x), .agg (rAModel y)] (fun r => r = .bool (decide (x = y))) := by
  refine holds_of_run Try.func33 a33_ok rfl (by simp [a33]) ?_
  simp [a33, rAModel]
  refine call_of (k_eqSystem x.System y.System) (by simp [rASystem]) ?_
  rintro r rfl
  by_cases h0 : x.System = y.System
  case neg => simp [h0]; try exact fun e => h0 (by rw [e])
  simp [h0]
  refine call_of (k_eqLinS x.Params y.Params) (by simp []) ?_
  rintro r rfl
  by_cases h1 : x.Params = y.Params
  case neg => simp [h1]; try exact fun e => h1 (by rw [e])
  simp [h1]
  refine call_of (k_eqLinSS x.Args y.Args) (by simp []) ?_
  rintro r rfl
  by_cases h2 : x.Args = y.Args
  case neg => simp [h2]; try exact fun e => h2 (by rw [e])
  simp [h2]
  refine call_of (k_eqLin x.Result y.Result) (by simp [rALin]) ?_
  rintro r rfl
  by_cases h3 : x.Result = y.Result
  case neg => simp [h3]; try exact fun e => h3 (by rw [e])
  simp [h3]
  cases x; cases y; simp_all

theorem k_szFarkas (x : DFarkas) (left : Int) (h0 : 0 ≤ left ∧ left ≤ 4611686018427387904) : Holds Try.prog 109 [.agg (rAFarkas x), i64 left] (fun r => r = i64 (sub1 left (wFarkas x))) := by
  refine holds_of_run Try.func109 a109_ok rfl (by simp [a109]) ?_
  simp [a109, rAFarkas]
  have e0 : wFarkas x = wFarkas x := rfl
  conv at e0 => rhs; unfold wFarkas
  refine call_of (k_szIntS x.Mult left (by omega)) (by simp) ?_
  rintro r rfl
  by_cases h1 : left - (wIntS x.Mult : Nat) < 0
  case pos =>
    have q : left - (wFarkas x : Int) < 0 := by omega
    simp [sub1, h1, q]
    try first | omega | (constructor <;> intros <;> omega)
  simp [sub1, h1]
  try (rw [if_neg (by omega)]; omega)

theorem k_toFarkas (x : DFarkas) (_hw : wFarkas x ≤ 1048576) : Holds Try.prog 112 [.agg (rAFarkas x)] (fun r => r = .agg (rUFarkas x)) := by
  have hw := _hw; unfold wFarkas at hw
  refine holds_of_run Try.func112 a112_ok rfl (by simp [a112]) ?_
  simp [a112, rAFarkas]
  refine call_of (k_toIntS x.Mult (by omega)) (by simp []) ?_
  rintro r rfl
  simp []
  try simp [rUFarkas]

theorem k_eqFarkas (x y : DFarkas) : Holds Try.prog 115 [.agg (rAFarkas x), .agg (rAFarkas y)] (fun r => r = .bool (decide (x = y))) := by
  refine holds_of_run Try.func115 a115_ok rfl (by simp [a115]) ?_
  simp [a115, rAFarkas]
  by_cases h0 : x.Scale = y.Scale
  case neg => simp [h0]; try exact fun e => h0 (by rw [e])
  simp [h0]
  refine call_of (k_eqIntS x.Mult y.Mult) (by simp []) ?_
  rintro r rfl
  by_cases h1 : x.Mult = y.Mult
  case neg => simp [h1]; try exact fun e => h1 (by rw [e])
  simp [h1]
  cases x; cases y; simp_all

theorem a36_ok : compFn Try.prog Try.f36 = some (tSz true 2 109) := by kernel_rfl

theorem k_szFarkasS (l : List DFarkas) (left : Int) (h0 : 0 ≤ left ∧ left ≤ 4611686018427387904) : Holds Try.prog 36 [.sl 2 (l.map rAFarkas), i64 left] (fun r => r = i64 (sub1 left (wFarkasS l))) := by
  rw [show wFarkasS l = wL wFarkas l from rfl, ← szL_sub1 (w := wFarkas) (g := fun x lf => sub1 lf (wFarkas x)) (fun _ _ _ => rfl) l left h0.1]
  exact holds_tSz Try.func36 a36_ok rfl (rowOf := rAFarkas) (eltOf := (fun x => .agg (rAFarkas x))) (fun x => by simp [rAFarkas]) (fun x h => by simp [rAFarkas]) (fun x lf h => sub1_le h) l left h0 (fun x lf _ hl => k_szFarkas x lf hl)

theorem a39_ok : compFn Try.prog Try.f39 = some (tTo true 2 32 112 [.int .i64 0, .nil 1]) := by kernel_rfl

theorem k_toFarkasS (l : List DFarkas) (hw : wFarkasS l ≤ 1048576) : Holds Try.prog 39 [.sl 2 (l.map rAFarkas)] (fun r => r = .us 2 (l.map rUFarkas)) :=
  holds_tTo Try.func39 a39_ok rfl (rowOf := rAFarkas) (eltOf := (fun x => .agg (rAFarkas x))) (eltU := (fun x => .agg (rUFarkas x))) (fun x => by simp [rAFarkas]) (fun x h => by simp [rAFarkas]) (fun x => by simp) (fun x => by simp [rUFarkas]) (fun x => by simp [rUFarkas]) rfl l (by have := wL_len wFarkas l; unfold wFarkasS at hw; unfold LIM; omega) (fun x h => k_toFarkas x (by have := wL_mem (w := wFarkas) h; unfold wFarkasS at hw; omega))

theorem a42_ok : compFn Try.prog Try.f42 = some (tEq true 2 115) := by kernel_rfl

theorem k_eqFarkasS (l m : List DFarkas) : Holds Try.prog 42 [.sl 2 (l.map rAFarkas), .sl 2 (m.map rAFarkas)] (fun r => r = .bool (decide (l = m))) := by
  rw [← eqL_dec]
  exact holds_tEq Try.func42 a42_ok rfl (rowOf := rAFarkas) (eltOf := (fun x => .agg (rAFarkas x))) (fun x => by simp [rAFarkas]) (fun x h => by simp [rAFarkas]) l m (fun x y _ _ => k_eqFarkas x y)

theorem k_szObligation (x : DObligation) (left : Int) (h0 : 0 ≤ left ∧ left ≤ 4611686018427387904) : Holds Try.prog 108 [.agg (rAObligation x), i64 left] (fun r => r = i64 (sub1 left (wObligation x))) := by
  refine holds_of_run Try.func108 a108_ok rfl (by simp [a108]) ?_
  simp [a108, rAObligation]
  have e0 : wObligation x = wObligation x := rfl
  conv at e0 => rhs; unfold wObligation
  refine call_of (k_szSystem x.System left (by omega)) (by simp [rASystem]) ?_
  rintro r rfl
  by_cases h1 : left - (wSystem x.System : Nat) < 0
  case pos =>
    have q : left - (wObligation x : Int) < 0 := by omega
    simp [sub1, h1, q]
    try first | omega | (constructor <;> intros <;> omega)
  simp [sub1, h1]
  refine call_of (k_szLin x.Target (left - (wSystem x.System : Nat)) (by omega)) (by simp [rALin]) ?_
  rintro r rfl
  by_cases h2 : (left - (wSystem x.System : Nat)) - (wLin x.Target : Nat) < 0
  case pos =>
    have q : left - (wObligation x : Int) < 0 := by omega
    simp [sub1, h2, q]
    try first | omega | (constructor <;> intros <;> omega)
  simp [sub1, h2]
  try (rw [if_neg (by omega)]; omega)

theorem k_toObligation (x : DObligation) (_hw : wObligation x ≤ 1048576) : Holds Try.prog 111 [.agg (rAObligation x)] (fun r => r = .agg (rUObligation x)) := by
  have hw := _hw; unfold wObligation at hw
  refine holds_of_run Try.func111 a111_ok rfl (by simp [a111]) ?_
  simp [a111, rAObligation]
  refine call_of (k_toSystem x.System (by omega)) (by simp [rASystem]) ?_
  rintro r rfl
  simp [rUSystem]
  refine call_of (k_toLin x.Target (by omega)) (by simp [rALin]) ?_
  rintro r rfl
  simp [rULin]
  try simp [rUObligation]

theorem k_eqObligation (x y : DObligation) : Holds Try.prog 114 [.agg (rAObligation x), .agg (rAObligation y)] (fun r => r = .bool (decide (x = y))) := by
  refine holds_of_run Try.func114 a114_ok rfl (by simp [a114]) ?_
  simp [a114, rAObligation]
  refine call_of (k_eqSystem x.System y.System) (by simp [rASystem]) ?_
  rintro r rfl
  by_cases h0 : x.System = y.System
  case neg => simp [h0]; try exact fun e => h0 (by rw [e])
  simp [h0]
  refine call_of (k_eqLin x.Target y.Target) (by simp [rALin]) ?_
  rintro r rfl
  by_cases h1 : x.Target = y.Target
  case neg => simp [h1]; try exact fun e => h1 (by rw [e])
  simp [h1]
  cases x; cases y; simp_all

theorem a35_ok : compFn Try.prog Try.f35 = some (tSz true 4 108) := by kernel_rfl

theorem k_szObligationS (l : List DObligation) (left : Int) (h0 : 0 ≤ left ∧ left ≤ 4611686018427387904) : Holds Try.prog 35 [.sl 4 (l.map rAObligation), i64 left] (fun r => r = i64 (sub1 left (wObligationS l))) := by
  rw [show wObligationS l = wL wObligation l from rfl, ← szL_sub1 (w := wObligation) (g := fun x lf => sub1 lf (wObligation x)) (fun _ _ _ => rfl) l left h0.1]
  exact holds_tSz Try.func35 a35_ok rfl (rowOf := rAObligation) (eltOf := (fun x => .agg (rAObligation x))) (fun x => by simp [rAObligation]) (fun x h => by simp [rAObligation]) (fun x lf h => sub1_le h) l left h0 (fun x lf _ hl => k_szObligation x lf hl)

theorem a38_ok : compFn Try.prog Try.f38 = some (tTo true 4 64 111 [.int .i64 0, .nil 2, .int .i64 0, .nil 1]) := by kernel_rfl

theorem k_toObligationS (l : List DObligation) (hw : wObligationS l ≤ 1048576) : Holds Try.prog 38 [.sl 4 (l.map rAObligation)] (fun r => r = .us 4 (l.map rUObligation)) :=
  holds_tTo Try.func38 a38_ok rfl (rowOf := rAObligation) (eltOf := (fun x => .agg (rAObligation x))) (eltU := (fun x => .agg (rUObligation x))) (fun x => by simp [rAObligation]) (fun x h => by simp [rAObligation]) (fun x => by simp) (fun x => by simp [rUObligation]) (fun x => by simp [rUObligation]) rfl l (by have := wL_len wObligation l; unfold wObligationS at hw; unfold LIM; omega) (fun x h => k_toObligation x (by have := wL_mem (w := wObligation) h; unfold wObligationS at hw; omega))

theorem a41_ok : compFn Try.prog Try.f41 = some (tEq true 4 114) := by kernel_rfl

theorem k_eqObligationS (l m : List DObligation) : Holds Try.prog 41 [.sl 4 (l.map rAObligation), .sl 4 (m.map rAObligation)] (fun r => r = .bool (decide (l = m))) := by
  rw [← eqL_dec]
  exact holds_tEq Try.func41 a41_ok rfl (rowOf := rAObligation) (eltOf := (fun x => .agg (rAObligation x))) (fun x => by simp [rAObligation]) (fun x h => by simp [rAObligation]) l m (fun x y _ _ => k_eqObligation x y)

end Go.Proofs.Ytlbdgpkgmheikaa

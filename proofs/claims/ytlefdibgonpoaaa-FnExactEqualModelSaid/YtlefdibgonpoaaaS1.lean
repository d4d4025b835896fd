/- Functions read as abstract code. -/
import Derived.Test.YtlefdibgonpoaaaR28
import Derived.Test.YtlefdibgonpoaaaRows
namespace Go.Proofs.Ytlefdibgonpoaaa
open Go Go.RowKit Go.Proofs
def a46 : AFn :=
⟨12, [(.t 4)], (.seq 
 (.reg [⟨some 4, (.mv (.k (.int .i64 0))), no⟩]) (.seq 
 (.reg [⟨some 5, (.mv (.t 1)), no⟩, ⟨some 6, (.mv (.t 0)), no⟩, ⟨some 7, (.len false (.t 6)), no⟩, ⟨some 8, (.bin .sub (.t 5) (.t 7)), no⟩, ⟨some 1, (.mv (.t 8)), no⟩]) (.seq (.seq 
 (.reg [⟨some 9, (.mv (.t 1)), no⟩, ⟨some 10, (.bin .lss (.t 9) (.k (.int .i64 0))), no⟩]) (.cond (.t 10) (.seq 
 (.reg [⟨some 4, (.mv (.k (.int .i64 (-1)))), no⟩]) .ret) .skip)) (.seq 
 (.reg [⟨some 11, (.mv (.t 1)), no⟩, ⟨some 4, (.mv (.t 11)), no⟩]) .ret))))⟩
theorem a46_ok : compFn Try.prog Try.f46 = some a46 := by kernel_rfl

def a47 : AFn :=
⟨22, [(.t 2)], (.seq 
 (.reg [⟨some 2, (.mv (.k (.nil 1))), no⟩]) (.seq 
 (.reg [⟨some 5, (.mv (.t 0)), no⟩, ⟨some 6, (.len false (.t 5)), no⟩, ⟨some 7, (.mks 8 [(.int .i64 0)] (.t 6) (.t 6)), no⟩, ⟨some 3, (.mv (.t 7)), no⟩]) (.seq (.seq 
 (.reg [⟨some 4, (.mv (.k (.int .i64 0))), no⟩]) (.blk 0 (.loop (.seq (.seq 
 (.reg [⟨some 8, (.mv (.t 4)), no⟩, ⟨some 9, (.mv (.t 0)), no⟩, ⟨some 10, (.len false (.t 9)), no⟩, ⟨some 11, (.bin .lss (.t 8) (.t 10)), no⟩]) (.cond (.t 11) .skip (.exit 0))) (.seq (.blk 1 
 (.reg [⟨some 14, (.mv (.t 3)), no⟩, ⟨some 15, (.mv (.t 4)), no⟩, ⟨some 16, (.mv (.t 0)), no⟩, ⟨some 17, (.mv (.t 4)), no⟩, ⟨some 18, (.ixa 1 (.t 16) (.t 17)), no⟩, ⟨some 19, (.ld false 1 (.t 18)), no⟩, ⟨some 20, (.ixa 1 (.t 14) (.t 15)), no⟩, ⟨no, (.st 1 (.t 20) (.t 19)), no⟩])) 
 (.reg [⟨some 12, (.mv (.t 4)), no⟩, ⟨some 13, (.bin .add (.t 12) (.k (.int .i64 1))), no⟩, ⟨some 4, (.mv (.t 13)), no⟩])))))) (.seq 
 (.reg [⟨some 21, (.mv (.t 3)), no⟩, ⟨some 2, (.mv (.t 21)), no⟩]) .ret))))⟩
theorem a47_ok : compFn Try.prog Try.f47 = some a47 := by kernel_rfl

def a48 : AFn :=
⟨26, [(.t 4)], (.seq 
 (.reg [⟨some 4, (.mv (.k (.bool false))), no⟩]) (.seq (.seq 
 (.reg [⟨some 6, (.mv (.t 0)), no⟩, ⟨some 7, (.len false (.t 6)), no⟩, ⟨some 8, (.mv (.t 1)), no⟩, ⟨some 9, (.len false (.t 8)), no⟩, ⟨some 10, (.bin .neq (.t 7) (.t 9)), no⟩]) (.cond (.t 10) (.seq 
 (.reg [⟨some 4, (.mv (.k (.bool false))), no⟩]) .ret) .skip)) (.seq (.seq 
 (.reg [⟨some 5, (.mv (.k (.int .i64 0))), no⟩]) (.blk 0 (.loop (.seq (.seq 
 (.reg [⟨some 11, (.mv (.t 5)), no⟩, ⟨some 12, (.mv (.t 0)), no⟩, ⟨some 13, (.len false (.t 12)), no⟩, ⟨some 14, (.bin .lss (.t 11) (.t 13)), no⟩]) (.cond (.t 14) .skip (.exit 0))) (.seq (.blk 1 (.seq (.draw (.op ⟨some 17, (.mv (.t 0)), no⟩ (.op ⟨some 18, (.mv (.t 5)), no⟩ (.op ⟨some 19, (.ixa 1 (.t 17) (.t 18)), no⟩ (.op ⟨some 20, (.ld false 1 (.t 19)), no⟩ (.op ⟨some 21, (.mv (.t 1)), no⟩ (.op ⟨some 22, (.mv (.t 5)), no⟩ (.op ⟨some 23, (.ixa 1 (.t 21) (.t 22)), no⟩ (.op ⟨some 24, (.ld false 1 (.t 23)), no⟩ (.op ⟨some 25, (.bin .neq (.t 20) (.t 24)), no⟩ .fin)))))))))) (.cond (.t 25) (.seq 
 (.reg [⟨some 4, (.mv (.k (.bool false))), no⟩]) .ret) .skip))) 
 (.reg [⟨some 15, (.mv (.t 5)), no⟩, ⟨some 16, (.bin .add (.t 15) (.k (.int .i64 1))), no⟩, ⟨some 5, (.mv (.t 16)), no⟩])))))) (.seq 
 (.reg [⟨some 4, (.mv (.k (.bool true))), no⟩]) .ret))))⟩
theorem a48_ok : compFn Try.prog Try.f48 = some a48 := by kernel_rfl

def a10 : AFn :=
⟨12, [(.t 4)], (.seq 
 (.reg [⟨some 2, (.boxv (.t 0)), no⟩, ⟨some 4, (.mv (.k (.int .i64 0))), no⟩]) (.seq 
 (.reg [⟨some 5, (.fld 2 (.t 2)), no⟩, ⟨some 6, (.ld false 1 (.t 5)), no⟩, ⟨some 7, (.mv (.t 1)), no⟩, ⟨some 8, (.call (.k (.fn (.func 46) [] [])) [(.t 6), (.t 7)]), no⟩, ⟨some 1, (.mv (.t 8)), no⟩]) (.seq (.seq 
 (.reg [⟨some 9, (.mv (.t 1)), no⟩, ⟨some 10, (.bin .lss (.t 9) (.k (.int .i64 0))), no⟩]) (.cond (.t 10) (.seq 
 (.reg [⟨some 4, (.mv (.k (.int .i64 (-1)))), no⟩]) .ret) .skip)) (.seq 
 (.reg [⟨some 11, (.mv (.t 1)), no⟩, ⟨some 4, (.mv (.t 11)), no⟩]) .ret))))⟩
theorem a10_ok : compFn Try.prog Try.f10 = some a10 := by kernel_rfl

def a11 : AFn :=
⟨10, [(.t 2)], (.seq 
 (.reg [⟨some 1, (.boxv (.t 0)), no⟩, ⟨some 2, (.mv (.k (.int .i64 0))), no⟩]) (.seq (.seq 
 (.reg [⟨some 3, (.fld 0 (.t 1)), no⟩, ⟨some 4, (.ld false 1 (.t 3)), no⟩]) (.cond (.t 4) (.seq 
 (.reg [⟨some 5, (.fld 2 (.t 1)), no⟩, ⟨some 6, (.ld false 1 (.t 5)), no⟩, ⟨some 7, (.len false (.t 6)), no⟩, ⟨some 2, (.mv (.t 7)), no⟩]) .ret) .skip)) (.seq 
 (.reg [⟨some 8, (.fld 1 (.t 1)), no⟩, ⟨some 9, (.ld false 1 (.t 8)), no⟩, ⟨some 2, (.mv (.t 9)), no⟩]) .ret)))⟩
theorem a11_ok : compFn Try.prog Try.f11 = some a11 := by kernel_rfl

def a12 : AFn :=
⟨15, [(.c 2 true 3)], (.seq 
 (.reg [⟨some 1, (.boxv (.t 0)), no⟩, ⟨some 2, (.box [(.bool false), (.int .i64 0), (.nil 1)]), no⟩]) (.seq 
 (.reg [⟨some 3, (.box [(.bool false), (.int .i64 0), (.nil 1)]), no⟩]) (.seq 
 (.reg [⟨some 4, (.fld 0 (.t 1)), no⟩, ⟨some 5, (.ld false 1 (.t 4)), no⟩, ⟨some 6, (.fld 0 (.t 3)), no⟩, ⟨no, (.st 1 (.t 6) (.t 5)), no⟩]) (.seq 
 (.reg [⟨some 7, (.fld 1 (.t 1)), no⟩, ⟨some 8, (.ld false 1 (.t 7)), no⟩, ⟨some 9, (.fld 1 (.t 3)), no⟩, ⟨no, (.st 1 (.t 9) (.t 8)), no⟩]) (.seq 
 (.reg [⟨some 10, (.fld 2 (.t 1)), no⟩, ⟨some 11, (.ld false 1 (.t 10)), no⟩, ⟨some 12, (.call (.k (.fn (.func 47) [] [])) [(.t 11)]), no⟩, ⟨some 13, (.fld 2 (.t 3)), no⟩, ⟨no, (.st 1 (.t 13) (.t 12)), no⟩]) (.seq 
 (.reg [⟨some 14, (.ld true 3 (.t 3)), no⟩, ⟨no, (.st 3 (.t 2) (.t 14)), no⟩]) .ret))))))⟩
theorem a12_ok : compFn Try.prog Try.f12 = some a12 := by kernel_rfl

def a13 : AFn :=
⟨10, [(.t 2)], (.seq 
 (.reg [⟨some 1, (.boxv (.t 0)), no⟩, ⟨some 2, (.mv (.k (.int .i64 0))), no⟩]) (.seq (.seq 
 (.reg [⟨some 3, (.fld 0 (.t 1)), no⟩, ⟨some 4, (.ld false 1 (.t 3)), no⟩]) (.cond (.t 4) (.seq 
 (.reg [⟨some 5, (.fld 2 (.t 1)), no⟩, ⟨some 6, (.ld false 1 (.t 5)), no⟩, ⟨some 7, (.len false (.t 6)), no⟩, ⟨some 2, (.mv (.t 7)), no⟩]) .ret) .skip)) (.seq 
 (.reg [⟨some 8, (.fld 1 (.t 1)), no⟩, ⟨some 9, (.ld false 1 (.t 8)), no⟩, ⟨some 2, (.mv (.t 9)), no⟩]) .ret)))⟩
theorem a13_ok : compFn Try.prog Try.f13 = some a13 := by kernel_rfl

def a14 : AFn :=
⟨21, [(.t 4)], (.seq 
 (.reg [⟨some 2, (.boxv (.t 0)), no⟩, ⟨some 3, (.boxv (.t 1)), no⟩, ⟨some 4, (.mv (.k (.bool false))), no⟩]) (.seq (.seq 
 (.reg [⟨some 5, (.fld 0 (.t 2)), no⟩, ⟨some 6, (.ld false 1 (.t 5)), no⟩, ⟨some 7, (.fld 0 (.t 3)), no⟩, ⟨some 8, (.ld false 1 (.t 7)), no⟩, ⟨some 9, (.beq true (.t 6) (.t 8)), no⟩]) (.cond (.t 9) (.seq 
 (.reg [⟨some 4, (.mv (.k (.bool false))), no⟩]) .ret) .skip)) (.seq (.seq 
 (.reg [⟨some 10, (.fld 1 (.t 2)), no⟩, ⟨some 11, (.ld false 1 (.t 10)), no⟩, ⟨some 12, (.fld 1 (.t 3)), no⟩, ⟨some 13, (.ld false 1 (.t 12)), no⟩, ⟨some 14, (.bin .neq (.t 11) (.t 13)), no⟩]) (.cond (.t 14) (.seq 
 (.reg [⟨some 4, (.mv (.k (.bool false))), no⟩]) .ret) .skip)) (.seq (.seq 
 (.reg [⟨some 15, (.fld 2 (.t 2)), no⟩, ⟨some 16, (.ld false 1 (.t 15)), no⟩, ⟨some 17, (.fld 2 (.t 3)), no⟩, ⟨some 18, (.ld false 1 (.t 17)), no⟩, ⟨some 19, (.call (.k (.fn (.func 48) [] [])) [(.t 16), (.t 18)]), no⟩, ⟨some 20, (.un .not (.t 19)), no⟩]) (.cond (.t 20) (.seq 
 (.reg [⟨some 4, (.mv (.k (.bool false))), no⟩]) .ret) .skip)) (.seq 
 (.reg [⟨some 4, (.mv (.k (.bool true))), no⟩]) .ret)))))⟩
theorem a14_ok : compFn Try.prog Try.f14 = some a14 := by kernel_rfl

def a3 : AFn :=
⟨27, [(.t 2)], (.seq 
 (.reg [⟨some 1, (.boxv (.t 0)), no⟩, ⟨some 2, (.mv (.k (.bool false))), no⟩]) (.seq 
 (.reg [⟨some 3, (.mv (.k (.int .i64 1048576))), no⟩]) (.seq 
 (.reg [⟨some 7, (.ld true 3 (.t 1)), no⟩, ⟨some 8, (.mv (.t 3)), no⟩, ⟨some 9, (.call (.k (.fn (.func 10) [] [])) [(.t 7), (.t 8)]), no⟩, ⟨some 3, (.mv (.t 9)), no⟩]) (.seq (.seq 
 (.reg [⟨some 10, (.mv (.t 3)), no⟩, ⟨some 11, (.bin .lss (.t 10) (.k (.int .i64 0))), no⟩]) (.cond (.t 11) (.seq 
 (.reg [⟨some 2, (.mv (.k (.bool true))), no⟩]) .ret) .skip)) (.seq 
 (.reg [⟨some 12, (.ld true 3 (.t 1)), no⟩, ⟨some 13, (.call (.k (.fn (.func 12) [] [])) [(.t 12)]), no⟩, ⟨some 14, (.call (.k (.fn (.func 11) [] [])) [(.t 13)]), no⟩, ⟨some 4, (.mv (.t 14)), no⟩]) (.seq 
 (.reg [⟨some 15, (.ld true 3 (.t 1)), no⟩, ⟨some 16, (.call (.k (.fn (.func 12) [] [])) [(.t 15)]), no⟩, ⟨some 5, (.box [(.bool false), (.int .i64 0), (.nil 1)]), no⟩, ⟨no, (.st 3 (.t 5) (.t 16)), no⟩]) (.seq 
 (.reg [⟨some 17, (.ld true 3 (.t 5)), no⟩, ⟨some 18, (.call (.k (.fn (.func 13) [] [])) [(.t 17)]), no⟩, ⟨some 6, (.mv (.t 18)), no⟩]) (.seq (.seq 
 (.reg [⟨some 19, (.mv (.t 6)), no⟩, ⟨some 20, (.mv (.t 4)), no⟩, ⟨some 21, (.bin .neq (.t 19) (.t 20)), no⟩]) (.cond (.t 21) (.seq 
 (.reg [⟨some 2, (.mv (.k (.bool false))), no⟩]) .ret) .skip)) (.seq (.seq (.draw (.op ⟨some 22, (.ld true 3 (.t 5)), no⟩ (.op ⟨some 23, (.ld true 3 (.t 1)), no⟩ (.op ⟨some 24, (.call (.k (.fn (.func 12) [] [])) [(.t 23)]), no⟩ (.op ⟨some 25, (.call (.k (.fn (.func 14) [] [])) [(.t 22), (.t 24)]), no⟩ (.op ⟨some 26, (.un .not (.t 25)), no⟩ .fin)))))) (.cond (.t 26) (.seq 
 (.reg [⟨some 2, (.mv (.k (.bool false))), no⟩]) .ret) .skip)) (.seq 
 (.reg [⟨some 2, (.mv (.k (.bool true))), no⟩]) .ret))))))))))⟩
theorem a3_ok : compFn Try.prog Try.f3 = some a3 := by kernel_rfl


end Go.Proofs.Ytlefdibgonpoaaa

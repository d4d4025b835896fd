/- Contracts: EqualProgram of the reference. -/
import Derived.Test.YtlbdgpkgmheikaaC15
namespace Go.Proofs.Ytlbdgpkgmheikaa
set_option linter.all false
open Go Go.RowKit Go.Proofs
def a236 : AFn :=
⟨26, [(.t 4)], (.seq 
 (.reg [⟨some 4, (.mv (.k (.bool false))), no⟩]) (.seq (.seq 
 (.reg [⟨some 6, (.mv (.t 0)), no⟩, ⟨some 7, (.len false (.t 6)), no⟩, ⟨some 8, (.mv (.t 1)), no⟩, ⟨some 9, (.len false (.t 8)), no⟩, ⟨some 10, (.bin .neq (.t 7) (.t 9)), no⟩]) (.cond (.t 10) (.seq 
 (.reg [⟨some 4, (.mv (.k (.bool false))), no⟩]) .ret) .skip)) (.seq (.seq 
 (.reg [⟨some 5, (.mv (.k (.int .i64 0))), no⟩]) (.blk 0 (.loop (.seq (.seq 
 (.reg [⟨some 11, (.mv (.t 5)), no⟩, ⟨some 12, (.mv (.t 0)), no⟩, ⟨some 13, (.len false (.t 12)), no⟩, ⟨some 14, (.bin .lss (.t 11) (.t 13)), no⟩]) (.cond (.t 14) .skip (.exit 0))) (.seq (.blk 1 (.seq (.draw (.op ⟨some 17, (.mv (.t 0)), no⟩ (.op ⟨some 18, (.mv (.t 5)), no⟩ (.op ⟨some 19, (.ixa 1 (.t 17) (.t 18)), no⟩ (.op ⟨some 20, (.ld false 1 (.t 19)), no⟩ (.op ⟨some 21, (.mv (.t 1)), no⟩ (.op ⟨some 22, (.mv (.t 5)), no⟩ (.op ⟨some 23, (.ixa 1 (.t 21) (.t 22)), no⟩ (.op ⟨some 24, (.ld false 1 (.t 23)), no⟩ (.op ⟨some 25, (.bin .neq (.t 20) (.t 24)), no⟩ .fin)))))))))) (.cond (.t 25) (.seq 
 (.reg [⟨some 4, (.mv (.k (.bool false))), no⟩]) .ret) .skip))) 
 (.reg [⟨some 15, (.mv (.t 5)), no⟩, ⟨some 16, (.bin .add (.t 15) (.k (.int .i64 1))), no⟩, ⟨some 5, (.mv (.t 16)), no⟩])))))) (.seq 
 (.reg [⟨some 4, (.mv (.k (.bool true))), no⟩]) .ret))))⟩
theorem a236_ok : compFn Try.prog Try.f236 = some a236 := by kernel_rfl

def a127 : AFn :=
⟨26, [(.t 4)], (.seq 
 (.reg [⟨some 4, (.mv (.k (.bool false))), no⟩]) (.seq (.seq 
 (.reg [⟨some 6, (.mv (.t 0)), no⟩, ⟨some 7, (.len false (.t 6)), no⟩, ⟨some 8, (.mv (.t 1)), no⟩, ⟨some 9, (.len false (.t 8)), no⟩, ⟨some 10, (.bin .neq (.t 7) (.t 9)), no⟩]) (.cond (.t 10) (.seq 
 (.reg [⟨some 4, (.mv (.k (.bool false))), no⟩]) .ret) .skip)) (.seq (.seq 
 (.reg [⟨some 5, (.mv (.k (.int .i64 0))), no⟩]) (.blk 0 (.loop (.seq (.seq 
 (.reg [⟨some 11, (.mv (.t 5)), no⟩, ⟨some 12, (.mv (.t 0)), no⟩, ⟨some 13, (.len false (.t 12)), no⟩, ⟨some 14, (.bin .lss (.t 11) (.t 13)), no⟩]) (.cond (.t 14) .skip (.exit 0))) (.seq (.blk 1 (.seq (.draw (.op ⟨some 17, (.mv (.t 0)), no⟩ (.op ⟨some 18, (.mv (.t 5)), no⟩ (.op ⟨some 19, (.ixa 1 (.t 17) (.t 18)), no⟩ (.op ⟨some 20, (.ld false 1 (.t 19)), no⟩ (.op ⟨some 21, (.mv (.t 1)), no⟩ (.op ⟨some 22, (.mv (.t 5)), no⟩ (.op ⟨some 23, (.ixa 1 (.t 21) (.t 22)), no⟩ (.op ⟨some 24, (.ld false 1 (.t 23)), no⟩ (.op ⟨some 25, (.bin .neq (.t 20) (.t 24)), no⟩ .fin)))))))))) (.cond (.t 25) (.seq 
 (.reg [⟨some 4, (.mv (.k (.bool false))), no⟩]) .ret) .skip))) 
 (.reg [⟨some 15, (.mv (.t 5)), no⟩, ⟨some 16, (.bin .add (.t 15) (.k (.int .i64 1))), no⟩, ⟨some 5, (.mv (.t 16)), no⟩])))))) (.seq 
 (.reg [⟨some 4, (.mv (.k (.bool true))), no⟩]) .ret))))⟩
theorem a127_ok : compFn Try.prog Try.f127 = some a127 := by kernel_rfl

def a212 : AFn :=
⟨17, [(.t 4)], (.seq 
 (.reg [⟨some 2, (.boxv (.t 0)), no⟩, ⟨some 3, (.boxv (.t 1)), no⟩, ⟨some 4, (.mv (.k (.bool false))), no⟩]) (.seq 
 (.reg [⟨some 5, (.fld 0 (.t 2)), no⟩, ⟨some 6, (.ld false 1 (.t 5)), no⟩, ⟨some 7, (.fld 0 (.t 3)), no⟩, ⟨some 8, (.ld false 1 (.t 7)), no⟩, ⟨some 9, (.bin .eql (.t 6) (.t 8)), no⟩, ⟨some 10, (.mv (.t 9)), no⟩, ⟨some 11, (.fld 1 (.t 2)), (some (10, true))⟩, ⟨some 12, (.ld false 1 (.t 11)), (some (10, true))⟩, ⟨some 13, (.fld 1 (.t 3)), (some (10, true))⟩, ⟨some 14, (.ld false 1 (.t 13)), (some (10, true))⟩, ⟨some 15, (.call (.k (.fn (.func 236) [] [])) [(.t 12), (.t 14)]), (some (10, true))⟩, ⟨some 16, (.pick (.t 10) (.t 15) (.k (.bool false))), no⟩, ⟨some 4, (.mv (.t 16)), no⟩]) .ret))⟩
theorem a212_ok : compFn Try.prog Try.f212 = some a212 := by kernel_rfl

def a176 : AFn :=
⟨39, [(.t 4)], (.seq 
 (.reg [⟨some 2, (.boxv (.t 0)), no⟩, ⟨some 3, (.boxv (.t 1)), no⟩, ⟨some 4, (.mv (.k (.bool false))), no⟩]) (.seq (.seq 
 (.reg [⟨some 6, (.fld 0 (.t 2)), no⟩, ⟨some 7, (.ld false 1 (.t 6)), no⟩, ⟨some 8, (.fld 0 (.t 3)), no⟩, ⟨some 9, (.ld false 1 (.t 8)), no⟩, ⟨some 10, (.bin .neq (.t 7) (.t 9)), no⟩, ⟨some 11, (.mv (.t 10)), no⟩, ⟨some 12, (.fld 1 (.t 2)), (some (11, false))⟩, ⟨some 13, (.ld false 1 (.t 12)), (some (11, false))⟩, ⟨some 14, (.len false (.t 13)), (some (11, false))⟩, ⟨some 15, (.fld 1 (.t 3)), (some (11, false))⟩, ⟨some 16, (.ld false 1 (.t 15)), (some (11, false))⟩, ⟨some 17, (.len false (.t 16)), (some (11, false))⟩, ⟨some 18, (.bin .neq (.t 14) (.t 17)), (some (11, false))⟩, ⟨some 19, (.pick (.t 11) (.k (.bool true)) (.t 18)), no⟩]) (.cond (.t 19) (.seq 
 (.reg [⟨some 4, (.mv (.k (.bool false))), no⟩]) .ret) .skip)) (.seq (.seq 
 (.reg [⟨some 5, (.mv (.k (.int .i64 0))), no⟩]) (.blk 0 (.loop (.seq (.seq 
 (.reg [⟨some 20, (.mv (.t 5)), no⟩, ⟨some 21, (.fld 1 (.t 2)), no⟩, ⟨some 22, (.ld false 1 (.t 21)), no⟩, ⟨some 23, (.len false (.t 22)), no⟩, ⟨some 24, (.bin .lss (.t 20) (.t 23)), no⟩]) (.cond (.t 24) .skip (.exit 0))) (.seq (.blk 1 (.seq (.draw (.op ⟨some 27, (.fld 1 (.t 2)), no⟩ (.op ⟨some 28, (.ld false 1 (.t 27)), no⟩ (.op ⟨some 29, (.mv (.t 5)), no⟩ (.op ⟨some 30, (.ixa 2 (.t 28) (.t 29)), no⟩ (.op ⟨some 31, (.ld true 2 (.t 30)), no⟩ (.op ⟨some 32, (.fld 1 (.t 3)), no⟩ (.op ⟨some 33, (.ld false 1 (.t 32)), no⟩ (.op ⟨some 34, (.mv (.t 5)), no⟩ (.op ⟨some 35, (.ixa 2 (.t 33) (.t 34)), no⟩ (.op ⟨some 36, (.ld true 2 (.t 35)), no⟩ (.op ⟨some 37, (.call (.k (.fn (.func 212) [] [])) [(.t 31), (.t 36)]), no⟩ (.op ⟨some 38, (.un .not (.t 37)), no⟩ .fin))))))))))))) (.cond (.t 38) (.seq 
 (.reg [⟨some 4, (.mv (.k (.bool false))), no⟩]) .ret) .skip))) 
 (.reg [⟨some 25, (.mv (.t 5)), no⟩, ⟨some 26, (.bin .add (.t 25) (.k (.int .i64 1))), no⟩, ⟨some 5, (.mv (.t 26)), no⟩])))))) (.seq 
 (.reg [⟨some 4, (.mv (.k (.bool true))), no⟩]) .ret))))⟩
theorem a176_ok : compFn Try.prog Try.f176 = some a176 := by kernel_rfl

def a128 : AFn :=
⟨10, [(.t 4)], (.seq 
 (.reg [⟨some 4, (.mv (.k (.bool false))), no⟩]) (.seq 
 (.reg [⟨some 5, (.mv (.t 0)), no⟩, ⟨some 6, (.build [(.int .i64 0), (.nil 2)] [(1, (1, (.t 5)))]), no⟩, ⟨some 7, (.mv (.t 1)), no⟩, ⟨some 8, (.build [(.int .i64 0), (.nil 2)] [(1, (1, (.t 7)))]), no⟩, ⟨some 9, (.call (.k (.fn (.func 176) [] [])) [(.t 6), (.t 8)]), no⟩, ⟨some 4, (.mv (.t 9)), no⟩]) .ret))⟩
theorem a128_ok : compFn Try.prog Try.f128 = some a128 := by kernel_rfl

def a178 : AFn :=
⟨38, [(.t 4)], (.seq 
 (.reg [⟨some 2, (.boxv (.t 0)), no⟩, ⟨some 3, (.boxv (.t 1)), no⟩, ⟨some 4, (.mv (.k (.bool false))), no⟩]) (.seq (.seq 
 (.reg [⟨some 6, (.fld 0 (.t 2)), no⟩, ⟨some 7, (.ld false 1 (.t 6)), no⟩, ⟨some 8, (.fld 0 (.t 3)), no⟩, ⟨some 9, (.ld false 1 (.t 8)), no⟩, ⟨some 10, (.bin .neq (.t 7) (.t 9)), no⟩, ⟨some 11, (.mv (.t 10)), no⟩, ⟨some 12, (.fld 1 (.t 2)), (some (11, false))⟩, ⟨some 13, (.ld false 1 (.t 12)), (some (11, false))⟩, ⟨some 14, (.len false (.t 13)), (some (11, false))⟩, ⟨some 15, (.fld 1 (.t 3)), (some (11, false))⟩, ⟨some 16, (.ld false 1 (.t 15)), (some (11, false))⟩, ⟨some 17, (.len false (.t 16)), (some (11, false))⟩, ⟨some 18, (.bin .neq (.t 14) (.t 17)), (some (11, false))⟩, ⟨some 19, (.pick (.t 11) (.k (.bool true)) (.t 18)), no⟩]) (.cond (.t 19) (.seq 
 (.reg [⟨some 4, (.mv (.k (.bool false))), no⟩]) .ret) .skip)) (.seq (.seq 
 (.reg [⟨some 5, (.mv (.k (.int .i64 0))), no⟩]) (.blk 0 (.loop (.seq (.seq 
 (.reg [⟨some 20, (.mv (.t 5)), no⟩, ⟨some 21, (.fld 1 (.t 2)), no⟩, ⟨some 22, (.ld false 1 (.t 21)), no⟩, ⟨some 23, (.len false (.t 22)), no⟩, ⟨some 24, (.bin .lss (.t 20) (.t 23)), no⟩]) (.cond (.t 24) .skip (.exit 0))) (.seq (.blk 1 (.seq (.draw (.op ⟨some 27, (.fld 1 (.t 2)), no⟩ (.op ⟨some 28, (.ld false 1 (.t 27)), no⟩ (.op ⟨some 29, (.mv (.t 5)), no⟩ (.op ⟨some 30, (.ixa 2 (.t 28) (.t 29)), no⟩ (.op ⟨some 31, (.ld true 2 (.t 30)), no⟩ (.op ⟨some 32, (.fld 1 (.t 3)), no⟩ (.op ⟨some 33, (.ld false 1 (.t 32)), no⟩ (.op ⟨some 34, (.mv (.t 5)), no⟩ (.op ⟨some 35, (.ixa 2 (.t 33) (.t 34)), no⟩ (.op ⟨some 36, (.ld true 2 (.t 35)), no⟩ (.op ⟨some 37, (.aeq true [0, 1] (.t 31) (.t 36)), no⟩ .fin)))))))))))) (.cond (.t 37) (.seq 
 (.reg [⟨some 4, (.mv (.k (.bool false))), no⟩]) .ret) .skip))) 
 (.reg [⟨some 25, (.mv (.t 5)), no⟩, ⟨some 26, (.bin .add (.t 25) (.k (.int .i64 1))), no⟩, ⟨some 5, (.mv (.t 26)), no⟩])))))) (.seq 
 (.reg [⟨some 4, (.mv (.k (.bool true))), no⟩]) .ret))))⟩
theorem a178_ok : compFn Try.prog Try.f178 = some a178 := by kernel_rfl

def a177 : AFn :=
⟨46, [(.t 4)], (.seq 
 (.reg [⟨some 2, (.boxv (.t 0)), no⟩, ⟨some 3, (.boxv (.t 1)), no⟩, ⟨some 4, (.mv (.k (.bool false))), no⟩]) (.seq (.seq 
 (.reg [⟨some 6, (.fld 0 (.t 2)), no⟩, ⟨some 7, (.ld false 1 (.t 6)), no⟩, ⟨some 8, (.fld 0 (.t 3)), no⟩, ⟨some 9, (.ld false 1 (.t 8)), no⟩, ⟨some 10, (.beq true (.t 7) (.t 9)), no⟩, ⟨some 11, (.mv (.t 10)), no⟩, ⟨some 12, (.fld 2 (.t 2)), (some (11, false))⟩, ⟨some 13, (.ld false 1 (.t 12)), (some (11, false))⟩, ⟨some 14, (.fld 2 (.t 3)), (some (11, false))⟩, ⟨some 15, (.ld false 1 (.t 14)), (some (11, false))⟩, ⟨some 16, (.bin .neq (.t 13) (.t 15)), (some (11, false))⟩, ⟨some 17, (.pick (.t 11) (.k (.bool true)) (.t 16)), no⟩, ⟨some 18, (.mv (.t 17)), no⟩, ⟨some 19, (.fld 1 (.t 2)), (some (18, false))⟩, ⟨some 20, (.ld false 1 (.t 19)), (some (18, false))⟩, ⟨some 21, (.len false (.t 20)), (some (18, false))⟩, ⟨some 22, (.fld 1 (.t 3)), (some (18, false))⟩, ⟨some 23, (.ld false 1 (.t 22)), (some (18, false))⟩, ⟨some 24, (.len false (.t 23)), (some (18, false))⟩, ⟨some 25, (.bin .neq (.t 21) (.t 24)), (some (18, false))⟩, ⟨some 26, (.pick (.t 18) (.k (.bool true)) (.t 25)), no⟩]) (.cond (.t 26) (.seq 
 (.reg [⟨some 4, (.mv (.k (.bool false))), no⟩]) .ret) .skip)) (.seq (.seq 
 (.reg [⟨some 5, (.mv (.k (.int .i64 0))), no⟩]) (.blk 0 (.loop (.seq (.seq 
 (.reg [⟨some 27, (.mv (.t 5)), no⟩, ⟨some 28, (.fld 1 (.t 2)), no⟩, ⟨some 29, (.ld false 1 (.t 28)), no⟩, ⟨some 30, (.len false (.t 29)), no⟩, ⟨some 31, (.bin .lss (.t 27) (.t 30)), no⟩]) (.cond (.t 31) .skip (.exit 0))) (.seq (.blk 1 (.seq (.draw (.op ⟨some 34, (.fld 1 (.t 2)), no⟩ (.op ⟨some 35, (.ld false 1 (.t 34)), no⟩ (.op ⟨some 36, (.mv (.t 5)), no⟩ (.op ⟨some 37, (.ixa 2 (.t 35) (.t 36)), no⟩ (.op ⟨some 38, (.ld true 2 (.t 37)), no⟩ (.op ⟨some 39, (.fld 1 (.t 3)), no⟩ (.op ⟨some 40, (.ld false 1 (.t 39)), no⟩ (.op ⟨some 41, (.mv (.t 5)), no⟩ (.op ⟨some 42, (.ixa 2 (.t 40) (.t 41)), no⟩ (.op ⟨some 43, (.ld true 2 (.t 42)), no⟩ (.op ⟨some 44, (.call (.k (.fn (.func 178) [] [])) [(.t 38), (.t 43)]), no⟩ (.op ⟨some 45, (.un .not (.t 44)), no⟩ .fin))))))))))))) (.cond (.t 45) (.seq 
 (.reg [⟨some 4, (.mv (.k (.bool false))), no⟩]) .ret) .skip))) 
 (.reg [⟨some 32, (.mv (.t 5)), no⟩, ⟨some 33, (.bin .add (.t 32) (.k (.int .i64 1))), no⟩, ⟨some 5, (.mv (.t 33)), no⟩])))))) (.seq 
 (.reg [⟨some 4, (.mv (.k (.bool true))), no⟩]) .ret))))⟩
theorem a177_ok : compFn Try.prog Try.f177 = some a177 := by kernel_rfl

def a129 : AFn :=
⟨145, [(.t 4)], (.seq 
 (.reg [⟨some 2, (.boxv (.t 0)), no⟩, ⟨some 3, (.boxv (.t 1)), no⟩, ⟨some 4, (.mv (.k (.bool false))), no⟩]) (.seq (.seq 
 (.reg [⟨some 11, (.fld 0 (.t 2)), no⟩, ⟨some 12, (.ld false 1 (.t 11)), no⟩, ⟨some 13, (.fld 0 (.t 3)), no⟩, ⟨some 14, (.ld false 1 (.t 13)), no⟩, ⟨some 15, (.bin .neq (.t 12) (.t 14)), no⟩, ⟨some 16, (.mv (.t 15)), no⟩, ⟨some 17, (.fld 1 (.t 2)), (some (16, false))⟩, ⟨some 18, (.ld false 1 (.t 17)), (some (16, false))⟩, ⟨some 19, (.len false (.t 18)), (some (16, false))⟩, ⟨some 20, (.fld 1 (.t 3)), (some (16, false))⟩, ⟨some 21, (.ld false 1 (.t 20)), (some (16, false))⟩, ⟨some 22, (.len false (.t 21)), (some (16, false))⟩, ⟨some 23, (.bin .neq (.t 19) (.t 22)), (some (16, false))⟩, ⟨some 24, (.pick (.t 16) (.k (.bool true)) (.t 23)), no⟩, ⟨some 25, (.mv (.t 24)), no⟩, ⟨some 26, (.fld 2 (.t 2)), (some (25, false))⟩, ⟨some 27, (.ld false 1 (.t 26)), (some (25, false))⟩, ⟨some 28, (.len false (.t 27)), (some (25, false))⟩, ⟨some 29, (.fld 2 (.t 3)), (some (25, false))⟩, ⟨some 30, (.ld false 1 (.t 29)), (some (25, false))⟩, ⟨some 31, (.len false (.t 30)), (some (25, false))⟩, ⟨some 32, (.bin .neq (.t 28) (.t 31)), (some (25, false))⟩, ⟨some 33, (.pick (.t 25) (.k (.bool true)) (.t 32)), no⟩, ⟨some 34, (.mv (.t 33)), no⟩, ⟨some 35, (.fld 3 (.t 2)), (some (34, false))⟩, ⟨some 36, (.ld false 1 (.t 35)), (some (34, false))⟩, ⟨some 37, (.len false (.t 36)), (some (34, false))⟩, ⟨some 38, (.fld 3 (.t 3)), (some (34, false))⟩, ⟨some 39, (.ld false 1 (.t 38)), (some (34, false))⟩, ⟨some 40, (.len false (.t 39)), (some (34, false))⟩, ⟨some 41, (.bin .neq (.t 37) (.t 40)), (some (34, false))⟩, ⟨some 42, (.pick (.t 34) (.k (.bool true)) (.t 41)), no⟩, ⟨some 43, (.mv (.t 42)), no⟩, ⟨some 44, (.fld 4 (.t 2)), (some (43, false))⟩, ⟨some 45, (.ld true 3 (.t 44)), (some (43, false))⟩, ⟨some 46, (.fld 4 (.t 3)), (some (43, false))⟩, ⟨some 47, (.ld true 3 (.t 46)), (some (43, false))⟩, ⟨some 48, (.call (.k (.fn (.func 177) [] [])) [(.t 45), (.t 47)]), (some (43, false))⟩, ⟨some 49, (.un .not (.t 48)), (some (43, false))⟩, ⟨some 50, (.pick (.t 43) (.k (.bool true)) (.t 49)), no⟩]) (.cond (.t 50) (.seq 
 (.reg [⟨some 4, (.mv (.k (.bool false))), no⟩]) .ret) .skip)) (.seq (.seq 
 (.reg [⟨some 5, (.mv (.k (.int .i64 0))), no⟩]) (.blk 0 (.loop (.seq (.seq 
 (.reg [⟨some 51, (.mv (.t 5)), no⟩, ⟨some 52, (.fld 1 (.t 2)), no⟩, ⟨some 53, (.ld false 1 (.t 52)), no⟩, ⟨some 54, (.len false (.t 53)), no⟩, ⟨some 55, (.bin .lss (.t 51) (.t 54)), no⟩]) (.cond (.t 55) .skip (.exit 0))) (.seq (.blk 1 (.seq (.draw (.op ⟨some 58, (.fld 1 (.t 2)), no⟩ (.op ⟨some 59, (.ld false 1 (.t 58)), no⟩ (.op ⟨some 60, (.mv (.t 5)), no⟩ (.op ⟨some 61, (.ixa 4 (.t 59) (.t 60)), no⟩ (.op ⟨some 62, (.ld true 4 (.t 61)), no⟩ (.op ⟨some 63, (.fld 1 (.t 3)), no⟩ (.op ⟨some 64, (.ld false 1 (.t 63)), no⟩ (.op ⟨some 65, (.mv (.t 5)), no⟩ (.op ⟨some 66, (.ixa 4 (.t 64) (.t 65)), no⟩ (.op ⟨some 67, (.ld true 4 (.t 66)), no⟩ (.op ⟨some 68, (.aeq true [1, 2, 1, 1] (.t 62) (.t 67)), no⟩ .fin)))))))))))) (.cond (.t 68) (.seq 
 (.reg [⟨some 4, (.mv (.k (.bool false))), no⟩]) .ret) .skip))) 
 (.reg [⟨some 56, (.mv (.t 5)), no⟩, ⟨some 57, (.bin .add (.t 56) (.k (.int .i64 1))), no⟩, ⟨some 5, (.mv (.t 57)), no⟩])))))) (.seq (.seq 
 (.reg [⟨some 6, (.mv (.k (.int .i64 0))), no⟩]) (.blk 2 (.loop (.seq (.seq 
 (.reg [⟨some 69, (.mv (.t 6)), no⟩, ⟨some 70, (.fld 2 (.t 2)), no⟩, ⟨some 71, (.ld false 1 (.t 70)), no⟩, ⟨some 72, (.len false (.t 71)), no⟩, ⟨some 73, (.bin .lss (.t 69) (.t 72)), no⟩]) (.cond (.t 73) .skip (.exit 2))) (.seq (.blk 3 (.seq (.draw (.op ⟨some 76, (.fld 2 (.t 2)), no⟩ (.op ⟨some 77, (.ld false 1 (.t 76)), no⟩ (.op ⟨some 78, (.mv (.t 6)), no⟩ (.op ⟨some 79, (.ixa 2 (.t 77) (.t 78)), no⟩ (.op ⟨some 80, (.ld true 2 (.t 79)), no⟩ (.op ⟨some 81, (.fld 2 (.t 3)), no⟩ (.op ⟨some 82, (.ld false 1 (.t 81)), no⟩ (.op ⟨some 83, (.mv (.t 6)), no⟩ (.op ⟨some 84, (.ixa 2 (.t 82) (.t 83)), no⟩ (.op ⟨some 85, (.ld true 2 (.t 84)), no⟩ (.op ⟨some 86, (.call (.k (.fn (.func 178) [] [])) [(.t 80), (.t 85)]), no⟩ (.op ⟨some 87, (.un .not (.t 86)), no⟩ .fin))))))))))))) (.cond (.t 87) (.seq 
 (.reg [⟨some 4, (.mv (.k (.bool false))), no⟩]) .ret) .skip))) 
 (.reg [⟨some 74, (.mv (.t 6)), no⟩, ⟨some 75, (.bin .add (.t 74) (.k (.int .i64 1))), no⟩, ⟨some 6, (.mv (.t 75)), no⟩])))))) (.seq (.seq 
 (.reg [⟨some 7, (.mv (.k (.int .i64 0))), no⟩]) (.blk 4 (.loop (.seq (.seq 
 (.reg [⟨some 88, (.mv (.t 7)), no⟩, ⟨some 89, (.fld 3 (.t 2)), no⟩, ⟨some 90, (.ld false 1 (.t 89)), no⟩, ⟨some 91, (.len false (.t 90)), no⟩, ⟨some 92, (.bin .lss (.t 88) (.t 91)), no⟩]) (.cond (.t 92) .skip (.exit 4))) (.seq (.blk 5 (.seq 
 (.reg [⟨some 95, (.fld 3 (.t 2)), no⟩, ⟨some 96, (.ld false 1 (.t 95)), no⟩, ⟨some 97, (.mv (.t 7)), no⟩, ⟨some 98, (.ixa 3 (.t 96) (.t 97)), no⟩, ⟨some 99, (.ld true 3 (.t 98)), no⟩, ⟨some 8, (.box [(.str []), (.str []), (.nil 3)]), no⟩, ⟨no, (.st 3 (.t 8) (.t 99)), no⟩]) (.seq 
 (.reg [⟨some 100, (.fld 3 (.t 3)), no⟩, ⟨some 101, (.ld false 1 (.t 100)), no⟩, ⟨some 102, (.mv (.t 7)), no⟩, ⟨some 103, (.ixa 3 (.t 101) (.t 102)), no⟩, ⟨some 104, (.ld true 3 (.t 103)), no⟩, ⟨some 9, (.box [(.str []), (.str []), (.nil 3)]), no⟩, ⟨no, (.st 3 (.t 9) (.t 104)), no⟩]) (.seq (.seq 
 (.reg [⟨some 105, (.fld 0 (.t 8)), no⟩, ⟨some 106, (.ld false 1 (.t 105)), no⟩, ⟨some 107, (.fld 0 (.t 9)), no⟩, ⟨some 108, (.ld false 1 (.t 107)), no⟩, ⟨some 109, (.bin .neq (.t 106) (.t 108)), no⟩, ⟨some 110, (.mv (.t 109)), no⟩, ⟨some 111, (.fld 1 (.t 8)), (some (110, false))⟩, ⟨some 112, (.ld false 1 (.t 111)), (some (110, false))⟩, ⟨some 113, (.fld 1 (.t 9)), (some (110, false))⟩, ⟨some 114, (.ld false 1 (.t 113)), (some (110, false))⟩, ⟨some 115, (.bin .neq (.t 112) (.t 114)), (some (110, false))⟩, ⟨some 116, (.pick (.t 110) (.k (.bool true)) (.t 115)), no⟩, ⟨some 117, (.mv (.t 116)), no⟩, ⟨some 118, (.fld 2 (.t 8)), (some (117, false))⟩, ⟨some 119, (.ld false 1 (.t 118)), (some (117, false))⟩, ⟨some 120, (.len false (.t 119)), (some (117, false))⟩, ⟨some 121, (.fld 2 (.t 9)), (some (117, false))⟩, ⟨some 122, (.ld false 1 (.t 121)), (some (117, false))⟩, ⟨some 123, (.len false (.t 122)), (some (117, false))⟩, ⟨some 124, (.bin .neq (.t 120) (.t 123)), (some (117, false))⟩, ⟨some 125, (.pick (.t 117) (.k (.bool true)) (.t 124)), no⟩]) (.cond (.t 125) (.seq 
 (.reg [⟨some 4, (.mv (.k (.bool false))), no⟩]) .ret) .skip)) (.seq 
 (.reg [⟨some 10, (.mv (.k (.int .i64 0))), no⟩]) (.blk 6 (.loop (.seq (.seq 
 (.reg [⟨some 126, (.mv (.t 10)), no⟩, ⟨some 127, (.fld 2 (.t 8)), no⟩, ⟨some 128, (.ld false 1 (.t 127)), no⟩, ⟨some 129, (.len false (.t 128)), no⟩, ⟨some 130, (.bin .lss (.t 126) (.t 129)), no⟩]) (.cond (.t 130) .skip (.exit 6))) (.seq (.blk 7 (.seq (.draw (.op ⟨some 133, (.fld 2 (.t 8)), no⟩ (.op ⟨some 134, (.ld false 1 (.t 133)), no⟩ (.op ⟨some 135, (.mv (.t 10)), no⟩ (.op ⟨some 136, (.ixa 3 (.t 134) (.t 135)), no⟩ (.op ⟨some 137, (.ld true 3 (.t 136)), no⟩ (.op ⟨some 138, (.fld 2 (.t 9)), no⟩ (.op ⟨some 139, (.ld false 1 (.t 138)), no⟩ (.op ⟨some 140, (.mv (.t 10)), no⟩ (.op ⟨some 141, (.ixa 3 (.t 139) (.t 140)), no⟩ (.op ⟨some 142, (.ld true 3 (.t 141)), no⟩ (.op ⟨some 143, (.call (.k (.fn (.func 177) [] [])) [(.t 137), (.t 142)]), no⟩ (.op ⟨some 144, (.un .not (.t 143)), no⟩ .fin))))))))))))) (.cond (.t 144) (.seq 
 (.reg [⟨some 4, (.mv (.k (.bool false))), no⟩]) .ret) .skip))) 
 (.reg [⟨some 131, (.mv (.t 10)), no⟩, ⟨some 132, (.bin .add (.t 131) (.k (.int .i64 1))), no⟩, ⟨some 10, (.mv (.t 132)), no⟩])))))))))) 
 (.reg [⟨some 93, (.mv (.t 7)), no⟩, ⟨some 94, (.bin .add (.t 93) (.k (.int .i64 1))), no⟩, ⟨some 7, (.mv (.t 94)), no⟩])))))) (.seq 
 (.reg [⟨some 4, (.mv (.k (.bool true))), no⟩]) .ret))))))⟩
theorem a129_ok : compFn Try.prog Try.f129 = some a129 := by kernel_rfl


theorem neT (x y : DTerm) : (!x.Coeff == y.Coeff || !x.Name == y.Name) = !decide (x = y) := by
  cases x; cases y; simp [bqd]
theorem neP (x y : DPattern) : (!x.Lst == y.Lst || (!x.Cons == y.Cons || (!x.Head == y.Head || !x.Tail == y.Tail))) = !decide (x = y) := by
  cases x; cases y; simp [bqd]
abbrev eqD {α : Type} [DecidableEq α] (a b : List α) : Bool := eqL (fun x y => decide (x = y)) a b

set_option maxRecDepth 20000 in
set_option maxHeartbeats 4000000 in
theorem ks_l1Ints (a b : List Int) : Holds Try.prog 236 [.sl 1 (intsR a), .sl 1 (intsR b)] (fun r => r = .bool (decide (a = b))) := by
  rw [← eqL_dec]
  refine holds_of_run Try.func236 a236_ok rfl (by simp [a236]) ?_
  simp [a236]
  intro hl1 hl2
  by_cases hl : a.length = b.length
  case neg => rw [eqL_length hl]; simp; exact fun h => absurd (by omega) hl
  refine ⟨fun h => absurd (by omega) h, fun _ => ?_⟩
  refine rL_forS [0, 1] 5 a.length (fun i _ => eqD (a.drop i) (b.drop i) = eqD a b) hl1 (by simp) (by simp) ?_ ?_
  · rintro i s h R hi hg hk s5 hw hJ hh hR hret _
    simp at hk
    have hib : i < b.length := by omega
    rw [List.drop_eq_getElem_cons hi, List.drop_eq_getElem_cons hib] at hJ
    simp only [eqD, eqL] at hJ
    by_cases he : a[i] = b[i]
    · simp only [he, decide_true, Bool.true_and] at hJ
      simp [hk, s5, hi, hg, hib, he, hw]
      intro _
      exact hR _ (by simp [hk]) (by simp) hJ
    · simp only [he, decide_false, Bool.false_and] at hJ
      simp [hk, s5, hi, hg, hib, he]
      intro _
      refine hret _ _ _ ?_
      simp [← hJ]
  · rintro s h R hk s5 hJ hh hret hX
    simp at hk
    rw [List.drop_eq_nil_of_le (Nat.le_refl _), List.drop_eq_nil_of_le (by omega)] at hJ
    simp only [eqD, eqL] at hJ
    simp [hk, s5]
    intro _
    refine hX _ _ ?_
    simp [← hJ]

set_option maxRecDepth 20000 in
set_option maxHeartbeats 4000000 in
theorem ks_l11Texts (a b : List Str) : Holds Try.prog 127 [.sl 1 (strsR a), .sl 1 (strsR b)] (fun r => r = .bool (decide (a = b))) := by
  rw [← eqL_dec]
  refine holds_of_run Try.func127 a127_ok rfl (by simp [a127]) ?_
  simp [a127]
  intro hl1 hl2
  by_cases hl : a.length = b.length
  case neg => rw [eqL_length hl]; simp; exact fun h => absurd (by omega) hl
  refine ⟨fun h => absurd (by omega) h, fun _ => ?_⟩
  refine rL_forS [0, 1] 5 a.length (fun i _ => eqD (a.drop i) (b.drop i) = eqD a b) hl1 (by simp) (by simp) ?_ ?_
  · rintro i s h R hi hg hk s5 hw hJ hh hR hret _
    simp at hk
    have hib : i < b.length := by omega
    rw [List.drop_eq_getElem_cons hi, List.drop_eq_getElem_cons hib] at hJ
    simp only [eqD, eqL] at hJ
    by_cases he : a[i] = b[i]
    · simp only [he, decide_true, Bool.true_and] at hJ
      simp [hk, s5, hi, hg, hib, he, hw]
      intro _
      exact hR _ (by simp [hk]) (by simp) hJ
    · simp only [he, decide_false, Bool.false_and] at hJ
      simp [hk, s5, hi, hg, hib, he]
      intro _
      refine hret _ _ _ ?_
      simp [← hJ]
  · rintro s h R hk s5 hJ hh hret hX
    simp at hk
    rw [List.drop_eq_nil_of_le (Nat.le_refl _), List.drop_eq_nil_of_le (by omega)] at hJ
    simp only [eqD, eqL] at hJ
    simp [hk, s5]
    intro _
    refine hX _ _ ?_
    simp [← hJ]

set_option maxRecDepth 20000 in
set_option maxHeartbeats 4000000 in
theorem ks_EqualLin (x y : DLin) : Holds Try.prog 212 [.agg (rALin x), .agg (rALin y)] (fun r => r = .bool (decide (x = y))) := by
  by_cases h0 : x.Const = y.Const
  case neg =>
    refine holds_of_run Try.func212 a212_ok rfl (by simp [a212]) ?_
    simp [a212, rALin, h0]
    try exact fun e => h0 (by rw [e])
  refine holds_of_run Try.func212 a212_ok rfl (by simp [a212]) ?_
  simp [a212, rALin, h0]
  first | refine callD_of (ks_l1Ints x.Coeffs y.Coeffs) (by simp) ?_ | refine call_of (ks_l1Ints x.Coeffs y.Coeffs) (by simp) ?_ | refine callD_of (ks_l1Ints x.Coeffs y.Coeffs) rfl ?_ | refine call_of (ks_l1Ints x.Coeffs y.Coeffs) rfl ?_
  rintro r rfl
  by_cases h1 : x.Coeffs = y.Coeffs
  case neg => simp [h1]; try exact fun e => h1 (by rw [e])
  simp [h1]
  cases x; cases y; simp_all

set_option maxRecDepth 20000 in
set_option maxHeartbeats 4000000 in
theorem ks_EqualSystem (x y : DSystem) : Holds Try.prog 176 [.agg (rASystem x), .agg (rASystem y)] (fun r => r = .bool (decide (x = y))) := by
  by_cases h0 : x.N = y.N
  case neg =>
    refine holds_of_run Try.func176 a176_ok rfl (by simp [a176]) ?_
    simp [a176, rASystem, h0]
    try exact fun e => h0 (by rw [e])
  by_cases hl : x.Rows.length = y.Rows.length
  case neg =>
    have hli : ¬ (x.Rows.length : Int) = y.Rows.length := by omega
    refine holds_of_run Try.func176 a176_ok rfl (by simp [a176]) ?_
    simp [a176, rASystem, h0, hl, hli]
    have hne : ¬ x = y := fun e => hl (by rw [e])
    intros
    first | exact hne | contradiction
  have hT : decide (x = y) = eqD x.Rows y.Rows := by rw [eqD, eqL_dec]; cases x; cases y; simp_all
  rw [hT]
  refine holds_of_run Try.func176 a176_ok rfl (by simp [a176]) ?_
  simp [a176, rASystem, h0, hl]
  intro hl1
  refine rL_forS [2, 3] 5 y.Rows.length (fun i _ => eqD (x.Rows.drop i) (y.Rows.drop i) = eqD x.Rows y.Rows) hl1 (by simp) (by simp) ?_ ?_
  · rintro i s h R hi hg hk s5 hw hJ hh hR hret _
    simp at hk hh
    have hix : i < x.Rows.length := by omega
    rw [List.drop_eq_getElem_cons hix, List.drop_eq_getElem_cons hi] at hJ
    simp only [eqD, eqL] at hJ
    simp [hk, s5, hi, hg, hix, hl, hh]
    intro _
    first | refine callD_of (ks_EqualLin (x.Rows[i]'hix) (y.Rows[i]'hi)) (by simp [rALin]) ?_ | refine call_of (ks_EqualLin (x.Rows[i]'hix) (y.Rows[i]'hi)) (by simp [rALin]) ?_ | refine callD_of (ks_EqualLin (x.Rows[i]'hix) (y.Rows[i]'hi)) rfl ?_ | refine call_of (ks_EqualLin (x.Rows[i]'hix) (y.Rows[i]'hi)) rfl ?_
    rintro r rfl
    by_cases he : x.Rows[i] = y.Rows[i]
    · simp only [he, decide_true, Bool.true_and] at hJ
      simp [hk, s5, he, hw]
      exact hR _ (by simp [hk]) (by simp) hJ
    · simp only [he, decide_false, Bool.false_and] at hJ
      simp [hk, s5, he]
      refine hret _ _ _ ?_
      simp [← hJ]
  · rintro s h R hk s5 hJ hh hret hX
    simp at hk hh
    rw [List.drop_eq_nil_of_le (Nat.le_of_eq hl), List.drop_eq_nil_of_le (Nat.le_refl _)] at hJ
    simp only [eqD, eqL] at hJ
    simp [hk, s5, hl, hh]
    intro _
    refine hX _ _ ?_
    simp [← hJ]

theorem ks_l11Lins (a b : List DLin) : Holds Try.prog 128 [.sl 2 (a.map rALin), .sl 2 (b.map rALin)] (fun r => r = .bool (decide (a = b))) := by
  refine holds_of_run Try.func128 a128_ok rfl (by simp [a128]) ?_
  simp [a128]
  first | refine callD_of (ks_EqualSystem ⟨0, a⟩ ⟨0, b⟩) (by simp [rASystem]) ?_ | refine call_of (ks_EqualSystem ⟨0, a⟩ ⟨0, b⟩) (by simp [rASystem]) ?_ | refine callD_of (ks_EqualSystem ⟨0, a⟩ ⟨0, b⟩) rfl ?_ | refine call_of (ks_EqualSystem ⟨0, a⟩ ⟨0, b⟩) rfl ?_
  rintro r rfl
  simp

set_option maxRecDepth 20000 in
set_option maxHeartbeats 4000000 in
theorem ks_l9Same (x y : DSum) : Holds Try.prog 178 [.agg (rASum x), .agg (rASum y)] (fun r => r = .bool (decide (x = y))) := by
  by_cases h0 : x.Const = y.Const
  case neg =>
    refine holds_of_run Try.func178 a178_ok rfl (by simp [a178]) ?_
    simp [a178, rASum, h0]
    try exact fun e => h0 (by rw [e])
  by_cases hl : x.Terms.length = y.Terms.length
  case neg =>
    have hli : ¬ (x.Terms.length : Int) = y.Terms.length := by omega
    refine holds_of_run Try.func178 a178_ok rfl (by simp [a178]) ?_
    simp [a178, rASum, h0, hl, hli]
    have hne : ¬ x = y := fun e => hl (by rw [e])
    intros
    first | exact hne | contradiction
  have hT : decide (x = y) = eqD x.Terms y.Terms := by rw [eqD, eqL_dec]; cases x; cases y; simp_all
  rw [hT]
  refine holds_of_run Try.func178 a178_ok rfl (by simp [a178]) ?_
  simp [a178, rASum, h0, hl]
  intro hl1
  refine rL_forS [2, 3] 5 y.Terms.length (fun i _ => eqD (x.Terms.drop i) (y.Terms.drop i) = eqD x.Terms y.Terms) hl1 (by simp) (by simp) ?_ ?_
  · rintro i s h R hi hg hk s5 hw hJ hh hR hret _
    simp at hk hh
    have hix : i < x.Terms.length := by omega
    rw [List.drop_eq_getElem_cons hix, List.drop_eq_getElem_cons hi] at hJ
    simp only [eqD, eqL] at hJ
    by_cases he : x.Terms[i] = y.Terms[i]
    · simp only [he, decide_true, Bool.true_and] at hJ
      simp [hk, s5, hi, hg, hix, hl, hh, he, hw, eqK, rATerm, neT]
      intro _
      exact hR _ (by simp [hk]) (by simp) hJ
    · simp only [he, decide_false, Bool.false_and] at hJ
      simp [hk, s5, hi, hg, hix, hl, hh, eqK, rATerm, neT, he]
      intro _
      refine hret _ _ _ ?_
      simp [← hJ]
  · rintro s h R hk s5 hJ hh hret hX
    simp at hk hh
    rw [List.drop_eq_nil_of_le (Nat.le_of_eq hl), List.drop_eq_nil_of_le (Nat.le_refl _)] at hJ
    simp only [eqD, eqL] at hJ
    simp [hk, s5, hl, hh]
    intro _
    refine hX _ _ ?_
    simp [← hJ]

set_option maxRecDepth 20000 in
set_option maxHeartbeats 4000000 in
theorem ks_EqualArg (x y : DArg) : Holds Try.prog 177 [.agg (rAArg x), .agg (rAArg y)] (fun r => r = .bool (decide (x = y))) := by
  by_cases h0 : x.Lst = y.Lst
  case neg =>
    refine holds_of_run Try.func177 a177_ok rfl (by simp [a177]) ?_
    simp [a177, rAArg, h0]
    try exact fun e => h0 (by rw [e])
  by_cases h1 : x.Base = y.Base
  case neg =>
    refine holds_of_run Try.func177 a177_ok rfl (by simp [a177]) ?_
    simp [a177, rAArg, h0, h1]
    try exact fun e => h1 (by rw [e])
  by_cases hl : x.Heads.length = y.Heads.length
  case neg =>
    have hli : ¬ (x.Heads.length : Int) = y.Heads.length := by omega
    refine holds_of_run Try.func177 a177_ok rfl (by simp [a177]) ?_
    simp [a177, rAArg, h0, h1, hl, hli]
    have hne : ¬ x = y := fun e => hl (by rw [e])
    intros
    first | exact hne | contradiction
  have hT : decide (x = y) = eqD x.Heads y.Heads := by rw [eqD, eqL_dec]; cases x; cases y; simp_all
  rw [hT]
  refine holds_of_run Try.func177 a177_ok rfl (by simp [a177]) ?_
  simp [a177, rAArg, h0, h1, hl]
  intro hl1
  refine rL_forS [2, 3] 5 y.Heads.length (fun i _ => eqD (x.Heads.drop i) (y.Heads.drop i) = eqD x.Heads y.Heads) hl1 (by simp) (by simp) ?_ ?_
  · rintro i s h R hi hg hk s5 hw hJ hh hR hret _
    simp at hk hh
    have hix : i < x.Heads.length := by omega
    rw [List.drop_eq_getElem_cons hix, List.drop_eq_getElem_cons hi] at hJ
    simp only [eqD, eqL] at hJ
    simp [hk, s5, hi, hg, hix, hl, hh]
    intro _
    first | refine callD_of (ks_l9Same (x.Heads[i]'hix) (y.Heads[i]'hi)) (by simp [rASum]) ?_ | refine call_of (ks_l9Same (x.Heads[i]'hix) (y.Heads[i]'hi)) (by simp [rASum]) ?_ | refine callD_of (ks_l9Same (x.Heads[i]'hix) (y.Heads[i]'hi)) rfl ?_ | refine call_of (ks_l9Same (x.Heads[i]'hix) (y.Heads[i]'hi)) rfl ?_
    rintro r rfl
    by_cases he : x.Heads[i] = y.Heads[i]
    · simp only [he, decide_true, Bool.true_and] at hJ
      simp [hk, s5, he, hw]
      exact hR _ (by simp [hk]) (by simp) hJ
    · simp only [he, decide_false, Bool.false_and] at hJ
      simp [hk, s5, he]
      refine hret _ _ _ ?_
      simp [← hJ]
  · rintro s h R hk s5 hJ hh hret hX
    simp at hk hh
    rw [List.drop_eq_nil_of_le (Nat.le_of_eq hl), List.drop_eq_nil_of_le (Nat.le_refl _)] at hJ
    simp only [eqD, eqL] at hJ
    simp [hk, s5, hl, hh]
    intro _
    refine hX _ _ ?_
    simp [← hJ]

theorem eqD_iff {α : Type} [DecidableEq α] {a b : List α} : eqD a b = decide (a = b) := eqL_dec a b

set_option maxRecDepth 20000 in
set_option maxHeartbeats 4000000 in
theorem ks_l11SameRule (x y : DRule) : Holds Try.prog 129 [.agg (rARule x), .agg (rARule y)] (fun r => r = .bool (decide (x = y))) := by
  by_cases h0 : x.Func = y.Func
  case neg =>
    refine holds_of_run Try.func129 a129_ok rfl (by simp [a129]) ?_
    simp [a129, rARule, h0]
    try exact fun e => h0 (by rw [e])
  by_cases h1 : x.Patterns.length = y.Patterns.length
  case neg =>
    have hli : ¬ (x.Patterns.length : Int) = y.Patterns.length := by omega
    refine holds_of_run Try.func129 a129_ok rfl (by simp [a129]) ?_
    simp [a129, rARule, h0, h1, hli]
    have hne : ¬ x = y := fun e => h1 (by rw [e])
    intros
    first | exact hne | contradiction
  by_cases h2 : x.Guards.length = y.Guards.length
  case neg =>
    have hli : ¬ (x.Guards.length : Int) = y.Guards.length := by omega
    refine holds_of_run Try.func129 a129_ok rfl (by simp [a129]) ?_
    simp [a129, rARule, h0, h1, h2, hli]
    have hne : ¬ x = y := fun e => h2 (by rw [e])
    intros
    first | exact hne | contradiction
  by_cases h3 : x.Calls.length = y.Calls.length
  case neg =>
    have hli : ¬ (x.Calls.length : Int) = y.Calls.length := by omega
    refine holds_of_run Try.func129 a129_ok rfl (by simp [a129]) ?_
    simp [a129, rARule, h0, h1, h2, h3, hli]
    have hne : ¬ x = y := fun e => h3 (by rw [e])
    intros
    first | exact hne | contradiction
  refine holds_of_run Try.func129 a129_ok rfl (by simp [a129]) ?_
  simp [a129, rARule, h0, h1, h2, h3]
  intro hl1 hl2 hl3
  first | refine callD_of (ks_EqualArg x.Result y.Result) (by simp [rAArg]) ?_ | refine call_of (ks_EqualArg x.Result y.Result) (by simp [rAArg]) ?_ | refine callD_of (ks_EqualArg x.Result y.Result) rfl ?_ | refine call_of (ks_EqualArg x.Result y.Result) rfl ?_
  rintro r rfl
  by_cases h4 : x.Result = y.Result
  case neg =>
    simp [h4]
    try exact fun e => h4 (by rw [e])
  simp [h4]
  refine rL_forS [2, 3] 5 y.Patterns.length (fun i _ => eqD (x.Patterns.drop i) (y.Patterns.drop i) = eqD x.Patterns y.Patterns) hl1 (by simp) (by simp) ?_ ?_
  · rintro i s h R hi hg hk s5 hw hJ hh hR hret _
    simp at hk hh
    have hix : i < x.Patterns.length := by omega
    rw [List.drop_eq_getElem_cons hix, List.drop_eq_getElem_cons hi] at hJ
    simp only [eqD, eqL] at hJ
    by_cases he : x.Patterns[i] = y.Patterns[i]
    · simp only [he, decide_true, Bool.true_and] at hJ
      simp [hk, s5, hi, hg, hix, h1, hh, he, hw, eqK, rAPattern, neP]
      intro _
      exact hR _ (by simp [hk]) (by simp) hJ
    · simp only [he, decide_false, Bool.false_and] at hJ
      simp [hk, s5, hi, hg, hix, h1, hh, eqK, rAPattern, neP, he]
      intro _
      refine hret _ _ _ ?_
      have hne : ¬ x = y := fun e => by rw [e, eqL_dec] at hJ; simp at hJ
      simp [hne]
  rintro s h R hk s5 hJ hh hret hX
  simp at hk hh
  rw [List.drop_eq_nil_of_le (Nat.le_of_eq h1), List.drop_eq_nil_of_le (Nat.le_refl _)] at hJ
  have hP : x.Patterns = y.Patterns := by simp only [eqD, eqL_dec] at hJ; simpa using hJ.symm
  simp [hk, s5, h1, hh]
  intro _
  refine hX _ _ ?_
  simp [hk, hh]
  refine rL_forS [2, 3] 6 y.Guards.length (fun i _ => eqD (x.Guards.drop i) (y.Guards.drop i) = eqD x.Guards y.Guards) hl2 (by simp) (by simp) ?_ ?_
  · rintro i s2 h2' R hi hg hk2 s6 hw hJ hh2 hR hret _
    simp at hk2 hh2
    have hix : i < x.Guards.length := by omega
    rw [List.drop_eq_getElem_cons hix, List.drop_eq_getElem_cons hi] at hJ
    simp only [eqD, eqL] at hJ
    simp [hk2, hk, s6, hi, hg, hix, h2, hh2, hh]
    intro _
    first | refine callD_of (ks_l9Same (x.Guards[i]'hix) (y.Guards[i]'hi)) (by simp [rASum]) ?_ | refine call_of (ks_l9Same (x.Guards[i]'hix) (y.Guards[i]'hi)) (by simp [rASum]) ?_ | refine callD_of (ks_l9Same (x.Guards[i]'hix) (y.Guards[i]'hi)) rfl ?_ | refine call_of (ks_l9Same (x.Guards[i]'hix) (y.Guards[i]'hi)) rfl ?_
    rintro r rfl
    by_cases he : x.Guards[i] = y.Guards[i]
    · simp only [he, decide_true, Bool.true_and] at hJ
      simp [hk2, hk, s6, he, hw]
      exact hR _ (by simp [hk2, hk]) (by simp) hJ
    · simp only [he, decide_false, Bool.false_and] at hJ
      simp [hk2, hk, s6, he]
      refine hret _ _ _ ?_
      have hne : ¬ x = y := fun e => by rw [e, eqL_dec] at hJ; simp at hJ
      simp [hne]
  rintro s2 h2' R2 hk2 s6 hJ hh2 hret2 hX2
  simp at hk2 hh2
  rw [List.drop_eq_nil_of_le (Nat.le_of_eq h2), List.drop_eq_nil_of_le (Nat.le_refl _)] at hJ
  have hG : x.Guards = y.Guards := by simp only [eqD, eqL_dec] at hJ; simpa using hJ.symm
  simp [hk2, hk, s6, h2, hh2, hh]
  intro _
  refine hX2 _ _ ?_
  simp [hk2, hk, hh2, hh]
  refine rL_forO [2, 3] 7 y.Calls.length (fun i s h n => h 0 = some ⟨true, 7, [rARule x]⟩ ∧ h 1 = some ⟨true, 7, [rARule y]⟩ ∧ 1 < n ∧ eqD (x.Calls.drop i) (y.Calls.drop i) = eqD x.Calls y.Calls) hl3 (by simp) ⟨by simp [hh2, hh, rARule, h0, h4], by simp [hh2, hh, rARule], by simp, by simp⟩ ?_ ?_
  · rintro i s3 h3' n3 R3 hi hg hk3 s7 hw ⟨e0, e1, hn, hJ⟩ hR hret3 _
    simp at hk3
    have hix : i < x.Calls.length := by omega
    rw [List.drop_eq_getElem_cons hix, List.drop_eq_getElem_cons hi] at hJ
    simp only [eqD, eqL] at hJ
    have hcn : ¬ x.Calls[i] = y.Calls[i] → ¬ x = y := fun hc e => by
      simp only [hc, decide_false, Bool.false_and] at hJ
      rw [e, eqL_dec] at hJ; simp at hJ
    have n0 : ¬ 0 = n3 := by omega
    have n1 : ¬ 1 = n3 := by omega
    have n2 : ¬ n3 = 0 := by omega
    have n4 : ¬ n3 = 1 := by omega
    by_cases b0 : (x.Calls[i]).Bind = (y.Calls[i]).Bind
    case neg =>
      simp [hk3, hk2, hk, s7, hi, hg, hix, h3, e0, e1, rARule, rACall, n0, n1, n2, n4, b0]
      intros
      refine hret3 _ _ _ ?_
      have hne : ¬ x = y := hcn fun e => b0 (by rw [e])
      simp [hne]
    by_cases b1 : (x.Calls[i]).Func = (y.Calls[i]).Func
    case neg =>
      simp [hk3, hk2, hk, s7, hi, hg, hix, h3, e0, e1, rARule, rACall, n0, n1, n2, n4, b0, b1]
      intros
      refine hret3 _ _ _ ?_
      have hne : ¬ x = y := hcn fun e => b1 (by rw [e])
      simp [hne]
    by_cases b2 : (x.Calls[i]).Args.length = (y.Calls[i]).Args.length
    case neg =>
      have b2i : ¬ ((x.Calls[i]).Args.length : Int) = (y.Calls[i]).Args.length := by omega
      simp [hk3, hk2, hk, s7, hi, hg, hix, h3, e0, e1, rARule, rACall, n0, n1, n2, n4, b0, b1, b2, b2i]
      intros
      refine hret3 _ _ _ ?_
      have hne : ¬ x = y := hcn fun e => b2 (by rw [e])
      simp [hne]
    simp [hk3, hk2, hk, s7, hi, hg, hix, h3, e0, e1, rARule, rACall, n0, n1, n2, n4, b0, b1, b2]
    intro _ hla
    refine rL_forS [2, 3, 7, 8, 9] 10 (y.Calls[i]).Args.length (fun j _ => eqD ((x.Calls[i]).Args.drop j) ((y.Calls[i]).Args.drop j) = eqD (x.Calls[i]).Args (y.Calls[i]).Args) hla (by simp) (by simp) ?_ ?_
    · rintro j s4 h4' R4 hj hgj hk4 s10 hw4 hJ4 hh4 hR4 hret4 _
      simp at hk4 hh4
      have hjx : j < (x.Calls[i]).Args.length := by omega
      rw [List.drop_eq_getElem_cons hjx, List.drop_eq_getElem_cons hj] at hJ4
      simp only [eqD, eqL] at hJ4
      simp [hk4, hk3, hk2, hk, s7, s10, hj, hgj, hjx, b2, hh4, n0, n1, n2, n4, rACall]
      intro _
      first | refine callD_of (ks_EqualArg ((x.Calls[i]).Args[j]'hjx) ((y.Calls[i]).Args[j]'hj)) (by simp [rAArg]) ?_ | refine call_of (ks_EqualArg ((x.Calls[i]).Args[j]'hjx) ((y.Calls[i]).Args[j]'hj)) (by simp [rAArg]) ?_ | refine callD_of (ks_EqualArg ((x.Calls[i]).Args[j]'hjx) ((y.Calls[i]).Args[j]'hj)) rfl ?_ | refine call_of (ks_EqualArg ((x.Calls[i]).Args[j]'hjx) ((y.Calls[i]).Args[j]'hj)) rfl ?_
      rintro r rfl
      by_cases he : (x.Calls[i]).Args[j] = (y.Calls[i]).Args[j]
      · simp only [he, decide_true, Bool.true_and] at hJ4
        simp [hk4, hk3, hk2, hk, s7, s10, he, hw4]
        exact hR4 _ (by simp [hk4, hk3, hk2, hk, s7]) (by simp) hJ4
      · simp only [he, decide_false, Bool.false_and] at hJ4
        simp [hk4, hk3, hk2, hk, s7, s10, he]
        refine hret4 _ _ _ ?_
        have hne : ¬ x = y := hcn fun e => by rw [e, eqL_dec] at hJ4; simp at hJ4
        simp
        refine hret3 _ _ _ ?_
        simp [hne]
    rintro s4 h4' R4 hk4 s10 hJ4 hh4 hret4 hX4
    simp at hk4 hh4
    rw [List.drop_eq_nil_of_le (Nat.le_of_eq b2), List.drop_eq_nil_of_le (Nat.le_refl _)] at hJ4
    have hA : (x.Calls[i]).Args = (y.Calls[i]).Args := by simp only [eqD, eqL_dec] at hJ4; simpa using hJ4.symm
    have hce : x.Calls[i] = y.Calls[i] := by
      generalize x.Calls[i] = u at *
      generalize y.Calls[i] = v at *
      cases u; cases v; simp_all
    simp only [hce, decide_true, Bool.true_and] at hJ
    simp [hk4, hk3, hk2, hk, s7, s10, b2, hh4, n0, n1, n2, n4, rACall]
    intro _
    refine hX4 _ _ ?_
    simp [hk4, hk3, hk2, hk, s7, hw]
    exact hR _ _ _ (by simp [hk4, hk3, hk2, hk]) (by simp) ⟨by simp [hh4, e0, n0, n1], by simp [hh4, e1, n0, n1, n2, n4], by omega, hJ⟩
  rintro s3 h3' n3 R3 hk3 s7 ⟨e0, e1, hn, hJ⟩ hret3 hX3
  simp at hk3
  rw [List.drop_eq_nil_of_le (Nat.le_of_eq h3), List.drop_eq_nil_of_le (Nat.le_refl _)] at hJ
  have hC : x.Calls = y.Calls := by simp only [eqD, eqL_dec] at hJ; simpa using hJ.symm
  simp [hk3, hk2, hk, s7, h3, e0, e1, rARule]
  intro _
  refine hX3 _ _ _ _ ?_
  have hxy : x = y := by cases x; cases y; simp_all
  simp [hxy]


end Go.Proofs.Ytlbdgpkgmheikaa

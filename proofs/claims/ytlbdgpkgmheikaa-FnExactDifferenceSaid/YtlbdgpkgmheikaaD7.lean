/- The body of FnExactDifference. -/
import Derived.Test.YtlbdgpkgmheikaaC10
import Derived.Test.YtlbdgpkgmheikaaM3A
import Derived.Test.YtlbdgpkgmheikaaRE
import Derived.Test.YtlbdgpkgmheikaaT2A
namespace Go.Proofs.Ytlbdgpkgmheikaa
set_option linter.all false
open Go Go.RowKit Go.Proofs
def a7 : AFn :=
⟨152, [(.t 10)], (.seq 
 (.reg [⟨some 5, (.boxv (.t 0)), no⟩, ⟨some 6, (.boxv (.t 1)), no⟩, ⟨some 8, (.boxv (.t 3)), no⟩, ⟨some 10, (.mv (.k (.bool false))), no⟩]) (.seq 
 (.reg [⟨some 11, (.mv (.k (.int .i64 1048576))), no⟩]) (.seq 
 (.reg [⟨some 24, (.ld true 6 (.t 5)), no⟩, ⟨some 25, (.mv (.t 11)), no⟩, ⟨some 26, (.call (.k (.fn (.func 29) [] [])) [(.t 24), (.t 25)]), no⟩, ⟨some 11, (.mv (.t 26)), no⟩]) (.seq (.seq 
 (.reg [⟨some 27, (.mv (.t 11)), no⟩, ⟨some 28, (.bin .lss (.t 27) (.k (.int .i64 0))), no⟩]) (.cond (.t 28) (.seq 
 (.reg [⟨some 10, (.mv (.k (.bool true))), no⟩]) .ret) .skip)) (.seq 
 (.reg [⟨some 29, (.ld true 2 (.t 6)), no⟩, ⟨some 30, (.mv (.t 11)), no⟩, ⟨some 31, (.call (.k (.fn (.func 13) [] [])) [(.t 29), (.t 30)]), no⟩, ⟨some 11, (.mv (.t 31)), no⟩]) (.seq (.seq 
 (.reg [⟨some 32, (.mv (.t 11)), no⟩, ⟨some 33, (.bin .lss (.t 32) (.k (.int .i64 0))), no⟩]) (.cond (.t 33) (.seq 
 (.reg [⟨some 10, (.mv (.k (.bool true))), no⟩]) .ret) .skip)) (.seq 
 (.reg [⟨some 34, (.ld true 2 (.t 8)), no⟩, ⟨some 35, (.mv (.t 11)), no⟩, ⟨some 36, (.call (.k (.fn (.func 13) [] [])) [(.t 34), (.t 35)]), no⟩, ⟨some 11, (.mv (.t 36)), no⟩]) (.seq (.seq 
 (.reg [⟨some 37, (.mv (.t 11)), no⟩, ⟨some 38, (.bin .lss (.t 37) (.k (.int .i64 0))), no⟩]) (.cond (.t 38) (.seq 
 (.reg [⟨some 10, (.mv (.k (.bool true))), no⟩]) .ret) .skip)) (.seq (.draw (.op ⟨some 40, (.ld true 6 (.t 5)), no⟩ (.op ⟨some 42, (.ld true 2 (.t 6)), no⟩ (.op ⟨some 44, (.mv (.t 2)), no⟩ (.op ⟨some 45, (.ld true 2 (.t 8)), no⟩ (.op ⟨some 47, (.mv (.t 4)), no⟩ (.both (.op ⟨some 41, (.call (.k (.fn (.func 31) [] [])) [(.t 40)]), no⟩ (.both (.op ⟨some 43, (.call (.k (.fn (.func 16) [] [])) [(.t 42)]), no⟩ (.both (.op ⟨some 46, (.call (.k (.fn (.func 16) [] [])) [(.t 45)]), no⟩ (.both (.op ⟨some 48, (.call (.k (.fn (.func 43) [] [])) [(.t 41), (.t 43), (.t 44), (.t 46), (.t 47)]), no⟩ (.op ⟨some 39, (.mv (.t 48)), no⟩ (.op ⟨some 49, (.ext (.t 39) 0), no⟩ (.op ⟨some 50, (.ext (.t 39) 1), no⟩ (.op ⟨some 12, (.box [(.int .i64 0), (.nil 1)]), no⟩ (.hop ⟨no, (.st 2 (.t 12) (.t 49)), no⟩ [] (.op ⟨some 13, (.mv (.t 50)), no⟩ .fin))))))) (.op ⟨some 12, (.box [(.int .i64 0), (.nil 1)]), no⟩ (.op ⟨some 48, (.call (.k (.fn (.func 43) [] [])) [(.t 41), (.t 43), (.t 44), (.t 46), (.t 47)]), no⟩ (.op ⟨some 39, (.mv (.t 48)), no⟩ (.op ⟨some 49, (.ext (.t 39) 0), no⟩ (.op ⟨some 50, (.ext (.t 39) 1), no⟩ (.hop ⟨no, (.st 2 (.t 12) (.t 49)), no⟩ [] (.op ⟨some 13, (.mv (.t 50)), no⟩ .fin))))))))) (.op ⟨some 12, (.box [(.int .i64 0), (.nil 1)]), no⟩ (.op ⟨some 46, (.call (.k (.fn (.func 16) [] [])) [(.t 45)]), no⟩ (.op ⟨some 48, (.call (.k (.fn (.func 43) [] [])) [(.t 41), (.t 43), (.t 44), (.t 46), (.t 47)]), no⟩ (.op ⟨some 39, (.mv (.t 48)), no⟩ (.op ⟨some 49, (.ext (.t 39) 0), no⟩ (.op ⟨some 50, (.ext (.t 39) 1), no⟩ (.hop ⟨no, (.st 2 (.t 12) (.t 49)), no⟩ [] (.op ⟨some 13, (.mv (.t 50)), no⟩ .fin)))))))))) (.op ⟨some 12, (.box [(.int .i64 0), (.nil 1)]), no⟩ (.op ⟨some 43, (.call (.k (.fn (.func 16) [] [])) [(.t 42)]), no⟩ (.op ⟨some 46, (.call (.k (.fn (.func 16) [] [])) [(.t 45)]), no⟩ (.op ⟨some 48, (.call (.k (.fn (.func 43) [] [])) [(.t 41), (.t 43), (.t 44), (.t 46), (.t 47)]), no⟩ (.op ⟨some 39, (.mv (.t 48)), no⟩ (.op ⟨some 49, (.ext (.t 39) 0), no⟩ (.op ⟨some 50, (.ext (.t 39) 1), no⟩ (.hop ⟨no, (.st 2 (.t 12) (.t 49)), no⟩ [] (.op ⟨some 13, (.mv (.t 50)), no⟩ .fin))))))))))) (.op ⟨some 12, (.box [(.int .i64 0), (.nil 1)]), no⟩ (.op ⟨some 41, (.call (.k (.fn (.func 31) [] [])) [(.t 40)]), no⟩ (.op ⟨some 43, (.call (.k (.fn (.func 16) [] [])) [(.t 42)]), no⟩ (.op ⟨some 46, (.call (.k (.fn (.func 16) [] [])) [(.t 45)]), no⟩ (.op ⟨some 48, (.call (.k (.fn (.func 43) [] [])) [(.t 41), (.t 43), (.t 44), (.t 46), (.t 47)]), no⟩ (.op ⟨some 39, (.mv (.t 48)), no⟩ (.op ⟨some 49, (.ext (.t 39) 0), no⟩ (.op ⟨some 50, (.ext (.t 39) 1), no⟩ (.hop ⟨no, (.st 2 (.t 12) (.t 49)), no⟩ [] (.op ⟨some 13, (.mv (.t 50)), no⟩ .fin))))))))))))))))) (.seq 
 (.reg [⟨some 51, (.ld true 6 (.t 5)), no⟩, ⟨some 52, (.call (.k (.fn (.func 31) [] [])) [(.t 51)]), no⟩, ⟨some 14, (.box [(.int .i64 0), (.nil 2), (.nil 2), (.nil 1), (.int .i64 0), (.nil 1)]), no⟩, ⟨no, (.st 6 (.t 14) (.t 52)), no⟩]) (.seq 
 (.reg [⟨some 53, (.ld true 2 (.t 6)), no⟩, ⟨some 54, (.call (.k (.fn (.func 16) [] [])) [(.t 53)]), no⟩, ⟨some 15, (.box [(.int .i64 0), (.nil 1)]), no⟩, ⟨no, (.st 2 (.t 15) (.t 54)), no⟩]) (.seq 
 (.reg [⟨some 55, (.ld true 2 (.t 8)), no⟩, ⟨some 56, (.call (.k (.fn (.func 16) [] [])) [(.t 55)]), no⟩, ⟨some 16, (.box [(.int .i64 0), (.nil 1)]), no⟩, ⟨no, (.st 2 (.t 16) (.t 56)), no⟩]) (.seq 
 (.reg [⟨some 58, (.ld true 6 (.t 14)), no⟩, ⟨some 59, (.ld true 2 (.t 15)), no⟩, ⟨some 60, (.mv (.t 2)), no⟩, ⟨some 61, (.ld true 2 (.t 16)), no⟩, ⟨some 62, (.mv (.t 4)), no⟩, ⟨some 63, (.call (.k (.fn (.func 44) [] [])) [(.t 58), (.t 59), (.t 60), (.t 61), (.t 62)]), no⟩, ⟨some 57, (.mv (.t 63)), no⟩, ⟨some 64, (.ext (.t 57) 0), no⟩, ⟨some 65, (.ext (.t 57) 1), no⟩, ⟨some 17, (.box [(.int .i64 0), (.nil 1)]), no⟩, ⟨no, (.st 2 (.t 17) (.t 64)), no⟩, ⟨some 18, (.mv (.t 65)), no⟩]) (.seq (.seq 
 (.reg [⟨some 66, (.ld true 2 (.t 17)), no⟩, ⟨some 67, (.ld true 2 (.t 12)), no⟩, ⟨some 68, (.call (.k (.fn (.func 19) [] [])) [(.t 66), (.t 67)]), no⟩, ⟨some 69, (.un .not (.t 68)), no⟩, ⟨some 70, (.mv (.t 69)), no⟩, ⟨some 71, (.mv (.t 18)), (some (70, false))⟩, ⟨some 72, (.mv (.t 13)), (some (70, false))⟩, ⟨some 73, (.beq true (.t 71) (.t 72)), (some (70, false))⟩, ⟨some 74, (.pick (.t 70) (.k (.bool true)) (.t 73)), no⟩]) (.cond (.t 74) (.seq 
 (.reg [⟨some 10, (.mv (.k (.bool false))), no⟩]) .ret) .skip)) (.seq (.seq (.draw (.op ⟨some 75, (.ld true 6 (.t 14)), no⟩ (.op ⟨some 76, (.ld true 6 (.t 5)), no⟩ (.op ⟨some 77, (.call (.k (.fn (.func 31) [] [])) [(.t 76)]), no⟩ (.op ⟨some 78, (.call (.k (.fn (.func 33) [] [])) [(.t 75), (.t 77)]), no⟩ (.op ⟨some 79, (.un .not (.t 78)), no⟩ .fin)))))) (.cond (.t 79) (.seq 
 (.reg [⟨some 10, (.mv (.k (.bool false))), no⟩]) .ret) .skip)) (.seq (.seq (.draw (.op ⟨some 80, (.ld true 2 (.t 15)), no⟩ (.op ⟨some 81, (.ld true 2 (.t 6)), no⟩ (.op ⟨some 82, (.call (.k (.fn (.func 16) [] [])) [(.t 81)]), no⟩ (.op ⟨some 83, (.call (.k (.fn (.func 19) [] [])) [(.t 80), (.t 82)]), no⟩ (.op ⟨some 84, (.un .not (.t 83)), no⟩ .fin)))))) (.cond (.t 84) (.seq 
 (.reg [⟨some 10, (.mv (.k (.bool false))), no⟩]) .ret) .skip)) (.seq (.seq (.draw (.op ⟨some 85, (.ld true 2 (.t 16)), no⟩ (.op ⟨some 86, (.ld true 2 (.t 8)), no⟩ (.op ⟨some 87, (.call (.k (.fn (.func 16) [] [])) [(.t 86)]), no⟩ (.op ⟨some 88, (.call (.k (.fn (.func 19) [] [])) [(.t 85), (.t 87)]), no⟩ (.op ⟨some 89, (.un .not (.t 88)), no⟩ .fin)))))) (.cond (.t 89) (.seq 
 (.reg [⟨some 10, (.mv (.k (.bool false))), no⟩]) .ret) .skip)) (.seq 
 (.reg [⟨some 19, (.mv (.k (.int .i64 1))), no⟩]) (.seq 
 (.reg [⟨some 90, (.ld true 6 (.t 14)), no⟩, ⟨some 91, (.mv (.t 19)), no⟩, ⟨some 92, (.call (.k (.fn (.func 34) [] [])) [(.t 90), (.t 91)]), no⟩, ⟨some 19, (.mv (.t 92)), no⟩]) (.seq 
 (.reg [⟨some 93, (.ld true 2 (.t 15)), no⟩, ⟨some 94, (.mv (.t 19)), no⟩, ⟨some 95, (.call (.k (.fn (.func 21) [] [])) [(.t 93), (.t 94)]), no⟩, ⟨some 19, (.mv (.t 95)), no⟩]) (.seq 
 (.reg [⟨some 96, (.ld true 2 (.t 16)), no⟩, ⟨some 97, (.mv (.t 19)), no⟩, ⟨some 98, (.call (.k (.fn (.func 21) [] [])) [(.t 96), (.t 97)]), no⟩, ⟨some 19, (.mv (.t 98)), no⟩]) (.seq (.seq 
 (.reg [⟨some 99, (.mv (.t 19)), no⟩, ⟨some 100, (.bin .lss (.t 99) (.k (.int .i64 0))), no⟩, ⟨some 101, (.mv (.t 100)), no⟩, ⟨some 102, (.ld true 2 (.t 17)), (some (101, false))⟩, ⟨some 103, (.ld true 2 (.t 12)), (some (101, false))⟩, ⟨some 104, (.call (.k (.fn (.func 19) [] [])) [(.t 102), (.t 103)]), (some (101, false))⟩, ⟨some 105, (.un .not (.t 104)), (some (101, false))⟩, ⟨some 106, (.pick (.t 101) (.k (.bool true)) (.t 105)), no⟩, ⟨some 107, (.mv (.t 106)), no⟩, ⟨some 108, (.mv (.t 18)), (some (107, false))⟩, ⟨some 109, (.mv (.t 13)), (some (107, false))⟩, ⟨some 110, (.beq true (.t 108) (.t 109)), (some (107, false))⟩, ⟨some 111, (.pick (.t 107) (.k (.bool true)) (.t 110)), no⟩]) (.cond (.t 111) (.seq 
 (.reg [⟨some 10, (.mv (.k (.bool false))), no⟩]) .ret) .skip)) (.seq 
 (.reg [⟨some 20, (.mv (.k (.int .i64 1))), no⟩]) (.seq 
 (.reg [⟨some 112, (.ld true 2 (.t 17)), no⟩, ⟨some 113, (.mv (.t 20)), no⟩, ⟨some 114, (.call (.k (.fn (.func 21) [] [])) [(.t 112), (.t 113)]), no⟩, ⟨some 20, (.mv (.t 114)), no⟩]) (.seq 
 (.reg [⟨some 21, (.mv (.k (.int .i64 1))), no⟩]) (.seq 
 (.reg [⟨some 115, (.ld true 2 (.t 17)), no⟩, ⟨some 116, (.mv (.t 21)), no⟩, ⟨some 117, (.call (.k (.fn (.func 23) [] [])) [(.t 115), (.t 116)]), no⟩, ⟨some 21, (.mv (.t 117)), no⟩]) (.seq (.seq 
 (.reg [⟨some 118, (.mv (.t 21)), no⟩, ⟨some 119, (.bin .lss (.t 118) (.k (.int .i64 0))), no⟩]) (.cond (.t 119) (.seq 
 (.reg [⟨some 10, (.mv (.k (.bool false))), no⟩]) .ret) .skip)) (.seq (.seq 
 (.reg [⟨some 120, (.mv (.t 21)), no⟩, ⟨some 121, (.mv (.t 20)), no⟩, ⟨some 122, (.bin .neq (.t 120) (.t 121)), no⟩]) (.cond (.t 122) (.seq 
 (.reg [⟨some 10, (.mv (.k (.bool false))), no⟩]) .ret) .skip)) (.seq (.draw (.op ⟨some 124, (.ld true 6 (.t 5)), no⟩ (.op ⟨some 126, (.ld true 2 (.t 6)), no⟩ (.op ⟨some 128, (.mv (.t 2)), no⟩ (.op ⟨some 129, (.ld true 2 (.t 8)), no⟩ (.op ⟨some 131, (.mv (.t 4)), no⟩ (.both (.op ⟨some 125, (.call (.k (.fn (.func 31) [] [])) [(.t 124)]), no⟩ (.both (.op ⟨some 127, (.call (.k (.fn (.func 16) [] [])) [(.t 126)]), no⟩ (.both (.op ⟨some 130, (.call (.k (.fn (.func 16) [] [])) [(.t 129)]), no⟩ (.both (.op ⟨some 132, (.call (.k (.fn (.func 44) [] [])) [(.t 125), (.t 127), (.t 128), (.t 130), (.t 131)]), no⟩ (.op ⟨some 123, (.mv (.t 132)), no⟩ (.op ⟨some 133, (.ext (.t 123) 0), no⟩ (.op ⟨some 134, (.ext (.t 123) 1), no⟩ (.op ⟨some 22, (.box [(.int .i64 0), (.nil 1)]), no⟩ (.hop ⟨no, (.st 2 (.t 22) (.t 133)), no⟩ [] (.op ⟨some 23, (.mv (.t 134)), no⟩ .fin))))))) (.op ⟨some 22, (.box [(.int .i64 0), (.nil 1)]), no⟩ (.op ⟨some 132, (.call (.k (.fn (.func 44) [] [])) [(.t 125), (.t 127), (.t 128), (.t 130), (.t 131)]), no⟩ (.op ⟨some 123, (.mv (.t 132)), no⟩ (.op ⟨some 133, (.ext (.t 123) 0), no⟩ (.op ⟨some 134, (.ext (.t 123) 1), no⟩ (.hop ⟨no, (.st 2 (.t 22) (.t 133)), no⟩ [] (.op ⟨some 23, (.mv (.t 134)), no⟩ .fin))))))))) (.op ⟨some 22, (.box [(.int .i64 0), (.nil 1)]), no⟩ (.op ⟨some 130, (.call (.k (.fn (.func 16) [] [])) [(.t 129)]), no⟩ (.op ⟨some 132, (.call (.k (.fn (.func 44) [] [])) [(.t 125), (.t 127), (.t 128), (.t 130), (.t 131)]), no⟩ (.op ⟨some 123, (.mv (.t 132)), no⟩ (.op ⟨some 133, (.ext (.t 123) 0), no⟩ (.op ⟨some 134, (.ext (.t 123) 1), no⟩ (.hop ⟨no, (.st 2 (.t 22) (.t 133)), no⟩ [] (.op ⟨some 23, (.mv (.t 134)), no⟩ .fin)))))))))) (.op ⟨some 22, (.box [(.int .i64 0), (.nil 1)]), no⟩ (.op ⟨some 127, (.call (.k (.fn (.func 16) [] [])) [(.t 126)]), no⟩ (.op ⟨some 130, (.call (.k (.fn (.func 16) [] [])) [(.t 129)]), no⟩ (.op ⟨some 132, (.call (.k (.fn (.func 44) [] [])) [(.t 125), (.t 127), (.t 128), (.t 130), (.t 131)]), no⟩ (.op ⟨some 123, (.mv (.t 132)), no⟩ (.op ⟨some 133, (.ext (.t 123) 0), no⟩ (.op ⟨some 134, (.ext (.t 123) 1), no⟩ (.hop ⟨no, (.st 2 (.t 22) (.t 133)), no⟩ [] (.op ⟨some 23, (.mv (.t 134)), no⟩ .fin))))))))))) (.op ⟨some 22, (.box [(.int .i64 0), (.nil 1)]), no⟩ (.op ⟨some 125, (.call (.k (.fn (.func 31) [] [])) [(.t 124)]), no⟩ (.op ⟨some 127, (.call (.k (.fn (.func 16) [] [])) [(.t 126)]), no⟩ (.op ⟨some 130, (.call (.k (.fn (.func 16) [] [])) [(.t 129)]), no⟩ (.op ⟨some 132, (.call (.k (.fn (.func 44) [] [])) [(.t 125), (.t 127), (.t 128), (.t 130), (.t 131)]), no⟩ (.op ⟨some 123, (.mv (.t 132)), no⟩ (.op ⟨some 133, (.ext (.t 123) 0), no⟩ (.op ⟨some 134, (.ext (.t 123) 1), no⟩ (.hop ⟨no, (.st 2 (.t 22) (.t 133)), no⟩ [] (.op ⟨some 23, (.mv (.t 134)), no⟩ .fin))))))))))))))))) (.seq (.seq 
 (.reg [⟨some 135, (.ld true 2 (.t 22)), no⟩, ⟨some 136, (.ld true 2 (.t 12)), no⟩, ⟨some 137, (.call (.k (.fn (.func 19) [] [])) [(.t 135), (.t 136)]), no⟩, ⟨some 138, (.un .not (.t 137)), no⟩, ⟨some 139, (.mv (.t 138)), no⟩, ⟨some 140, (.mv (.t 23)), (some (139, false))⟩, ⟨some 141, (.mv (.t 13)), (some (139, false))⟩, ⟨some 142, (.beq true (.t 140) (.t 141)), (some (139, false))⟩, ⟨some 143, (.pick (.t 139) (.k (.bool true)) (.t 142)), no⟩]) (.cond (.t 143) (.seq 
 (.reg [⟨some 10, (.mv (.k (.bool false))), no⟩]) .ret) .skip)) (.seq 
 (.reg [⟨some 21, (.mv (.k (.int .i64 1))), no⟩]) (.seq 
 (.reg [⟨some 144, (.ld true 2 (.t 17)), no⟩, ⟨some 145, (.mv (.t 21)), no⟩, ⟨some 146, (.call (.k (.fn (.func 23) [] [])) [(.t 144), (.t 145)]), no⟩, ⟨some 21, (.mv (.t 146)), no⟩]) (.seq (.seq 
 (.reg [⟨some 147, (.mv (.t 21)), no⟩, ⟨some 148, (.bin .lss (.t 147) (.k (.int .i64 0))), no⟩]) (.cond (.t 148) (.seq 
 (.reg [⟨some 10, (.mv (.k (.bool false))), no⟩]) .ret) .skip)) (.seq (.seq 
 (.reg [⟨some 149, (.mv (.t 21)), no⟩, ⟨some 150, (.mv (.t 20)), no⟩, ⟨some 151, (.bin .neq (.t 149) (.t 150)), no⟩]) (.cond (.t 151) (.seq 
 (.reg [⟨some 10, (.mv (.k (.bool false))), no⟩]) .ret) .skip)) (.seq 
 (.reg [⟨some 10, (.mv (.k (.bool true))), no⟩]) .ret)))))))))))))))))))))))))))))))))))⟩
theorem a7_ok : compFn Try.prog Try.f7 = some a7 := by kernel_rfl


theorem k_Difference_o (aM : DModel) (aA : DLin) (aCall : Int) (aB : DLin) (aK : Int) : Holds Try.prog 44 [.agg (rAModel aM), .agg (rALin aA), i64 aCall, .agg (rALin aB), i64 aK] (fun r => r = .tup [.agg (rULin ((diffL aM aA aCall aB aK).getD lin0)), .bool (diffL aM aA aCall aB aK).isSome]) := by
  have h := k_Difference aM aA aCall aB aK
  rw [optLin_eq] at h
  exact h
theorem ks_Difference_o (aM : DModel) (aA : DLin) (aCall : Int) (aB : DLin) (aK : Int) : Holds Try.prog 43 [.agg (rAModel aM), .agg (rALin aA), i64 aCall, .agg (rALin aB), i64 aK] (fun r => r = .tup [.agg (rULin ((diffL aM aA aCall aB aK).getD lin0)), .bool (diffL aM aA aCall aB aK).isSome]) := by
  have h := ks_Difference aM aA aCall aB aK
  rw [optLin_eq] at h
  exact h

set_option maxRecDepth 40000 in
set_option maxHeartbeats 4000000 in
theorem law_Difference (aM : DModel) (aA : DLin) (aCall : Int) (aB : DLin) (aK : Int) : Holds Try.prog 7 [.agg (rAModel aM), .agg (rALin aA), i64 aCall, .agg (rALin aB), i64 aK] (fun x => x = .bool true) := by
  refine holds_of_run Try.func7 a7_ok rfl (by simp [a7]) ?_
  simp [a7]
  first | refine callD_of (k_szModel aM 1048576 (by omega)) (by simp) ?_ | refine call_of (k_szModel aM 1048576 (by omega)) (by simp) ?_ | refine callD_of (k_szModel aM 1048576 (by omega)) rfl ?_ | refine call_of (k_szModel aM 1048576 (by omega)) rfl ?_
  rintro r rfl
  by_cases h1 : 1048576 - (wModel aM : Int) < 0
  · simp [sub1, h1]
  simp [sub1, h1]
  first | refine callD_of (k_szLin aA (1048576 - (wModel aM : Int)) (by omega)) (by simp) ?_ | refine call_of (k_szLin aA (1048576 - (wModel aM : Int)) (by omega)) (by simp) ?_ | refine callD_of (k_szLin aA (1048576 - (wModel aM : Int)) (by omega)) rfl ?_ | refine call_of (k_szLin aA (1048576 - (wModel aM : Int)) (by omega)) rfl ?_
  rintro r rfl
  by_cases h2 : 1048576 - (wModel aM : Int) - (wLin aA : Int) < 0
  · simp [sub1, h2]
  simp [sub1, h2]
  first | refine callD_of (k_szLin aB (1048576 - (wModel aM : Int) - (wLin aA : Int)) (by omega)) (by simp) ?_ | refine call_of (k_szLin aB (1048576 - (wModel aM : Int) - (wLin aA : Int)) (by omega)) (by simp) ?_ | refine callD_of (k_szLin aB (1048576 - (wModel aM : Int) - (wLin aA : Int)) (by omega)) rfl ?_ | refine call_of (k_szLin aB (1048576 - (wModel aM : Int) - (wLin aA : Int)) (by omega)) rfl ?_
  rintro r rfl
  by_cases h3 : 1048576 - (wModel aM : Int) - (wLin aA : Int) - (wLin aB : Int) < 0
  · simp [sub1, h3]
  simp [sub1, h3]
  have hw_aM : wModel aM ≤ 1048576 := by omega
  have hw_aA : wLin aA ≤ 1048576 := by omega
  have hw_aB : wLin aB ≤ 1048576 := by omega
  have hb_aM := cw_Model aM
  have hb_aA := cw_Lin aA
  have hb_aB := cw_Lin aB
  refine cut_law2 ((((LS.start).push).push).push) [2, 4, 5, 6, 8] 12 2 (rULin ((diffL aM aA aCall aB aK).getD lin0)) [(13, .bool ((diffL aM aA aCall aB aK).isSome))] ?_ ?_ ?_
  · skip
    first | refine lsD_agg (k_toModel aM hw_aM) ((((LS.start).push).push).push) (by simp) ⟨.inl (fun h => by first | rfl | simp), trivial⟩ ?_ | refine ls_agg (k_toModel aM hw_aM) ((((LS.start).push).push).push) (by simp) ⟨.inl (fun h => by first | rfl | simp), trivial⟩ ?_
    intro c0 h0x n0 J0 S0 hl0 hc0
    have e := S0.eqs; have ne := S0.nes; simp only [bxE, bxN, Nat.zero_add, Nat.reduceAdd] at e ne; simp only [len_UModel] at hl0
    have ht0 : List.take 6 c0 = c0 := List.take_of_length_le (by omega)
    simp [e, ne, hl0, ht0, hc0]
    refine ⟨?_, ?_⟩
    · skip
      first | refine lsD_agg (k_toLin aA hw_aA) (S0) (by simp) ⟨.inl (fun h => by first | rfl | simp), trivial⟩ ?_ | refine ls_agg (k_toLin aA hw_aA) (S0) (by simp) ⟨.inl (fun h => by first | rfl | simp), trivial⟩ ?_
      intro c1 h1x n1 J1 S1 hl1 hc1
      have e := S1.eqs; have ne := S1.nes; simp only [bxE, bxN, Nat.zero_add, Nat.reduceAdd] at e ne; simp only [len_ULin] at hl1
      have ht1 : List.take 2 c1 = c1 := List.take_of_length_le (by omega)
      simp [e, ne, hl0, ht0, hl1, ht1, hc1]
      refine ⟨?_, ?_⟩
      · skip
        first | refine lsD_agg (k_toLin aB hw_aB) (S1) (by simp) ⟨.inl (fun h => by first | rfl | simp), trivial⟩ ?_ | refine ls_agg (k_toLin aB hw_aB) (S1) (by simp) ⟨.inl (fun h => by first | rfl | simp), trivial⟩ ?_
        intro c2 h2x n2 J2 S2 hl2 hc2
        have e := S2.eqs; have ne := S2.nes; simp only [bxE, bxN, Nat.zero_add, Nat.reduceAdd] at e ne; simp only [len_ULin] at hl2
        have ht2 : List.take 2 c2 = c2 := List.take_of_length_le (by omega)
        simp [e, ne, hl0, ht0, hl1, ht1, hl2, ht2, hc2]
        refine ⟨?_, ?_⟩
        · skip
          first | refine lsD_agg2 (ks_Difference_o aM aA aCall aB aK) (S2) rfl (by simp) ⟨.inr ⟨_, .tail _ (.tail _ (.head _)), rfl, by simp [dr]⟩, .inr ⟨_, .tail _ (.head _), rfl, by simp [dr]⟩, .inl (fun h => by first | rfl | simp), .inr ⟨_, .head _, rfl, by simp [dr]⟩, .inl (fun h => by first | rfl | simp), trivial⟩ ?_ | refine ls_agg2 (ks_Difference_o aM aA aCall aB aK) (S2) rfl (by simp) ⟨.inr ⟨_, .tail _ (.tail _ (.head _)), rfl, by simp [dr]⟩, .inr ⟨_, .tail _ (.head _), rfl, by simp [dr]⟩, .inl (fun h => by first | rfl | simp), .inr ⟨_, .head _, rfl, by simp [dr]⟩, .inl (fun h => by first | rfl | simp), trivial⟩ ?_
          intro c3 h3x n3 J3 S3 hl3 hc3
          have e := S3.eqs; have ne := S3.nes; simp only [bxE, bxN, Nat.zero_add, Nat.reduceAdd] at e ne; simp only [len_ULin] at hl3
          have ht3 : List.take 2 c3 = c3 := List.take_of_length_le (by omega)
          simp [e, ne, hl0, ht0, hl1, ht1, hl2, ht2, hl3, ht3, hc3]
          refine ⟨c3, J3, _, hl3, ((S3).push).sub (.cons₂ _ (.cons _ (.cons _ (.cons _ (.slnil))))), ?_⟩
          simp [e, ne, hl0, ht0, hl1, ht1, hl2, ht2, hl3, ht3]
        · skip
          first | refine lsD_agg2 (ks_Difference_o aM aA aCall aB aK) ((S2).push) rfl (by simp) ⟨.inr ⟨_, .tail _ (.tail _ (.head _)), rfl, by simp [dr]⟩, .inr ⟨_, .tail _ (.head _), rfl, by simp [dr]⟩, .inl (fun h => by first | rfl | simp), .inr ⟨_, .head _, rfl, by simp [dr]⟩, .inl (fun h => by first | rfl | simp), trivial⟩ ?_ | refine ls_agg2 (ks_Difference_o aM aA aCall aB aK) ((S2).push) rfl (by simp) ⟨.inr ⟨_, .tail _ (.tail _ (.head _)), rfl, by simp [dr]⟩, .inr ⟨_, .tail _ (.head _), rfl, by simp [dr]⟩, .inl (fun h => by first | rfl | simp), .inr ⟨_, .head _, rfl, by simp [dr]⟩, .inl (fun h => by first | rfl | simp), trivial⟩ ?_
          intro c4 h4x n4 J4 S4 hl4 hc4
          have e := S4.eqs; have ne := S4.nes; simp only [bxE, bxN, Nat.zero_add, Nat.reduceAdd] at e ne; simp only [len_ULin] at hl4
          have ht4 : List.take 2 c4 = c4 := List.take_of_length_le (by omega)
          simp [e, ne, hl0, ht0, hl1, ht1, hl2, ht2, hl4, ht4, hc4]
          refine ⟨c4, J4, _, hl4, ((S4).set).sub (.cons₂ _ (.cons _ (.cons _ (.cons _ (.slnil))))), ?_⟩
          simp [e, ne, hl0, ht0, hl1, ht1, hl2, ht2, hl4, ht4]
      · skip
        first | refine lsD_agg (k_toLin aB hw_aB) ((S1).push) (by simp) ⟨.inl (fun h => by first | rfl | simp), trivial⟩ ?_ | refine ls_agg (k_toLin aB hw_aB) ((S1).push) (by simp) ⟨.inl (fun h => by first | rfl | simp), trivial⟩ ?_
        intro c5 h5x n5 J5 S5 hl5 hc5
        have e := S5.eqs; have ne := S5.nes; simp only [bxE, bxN, Nat.zero_add, Nat.reduceAdd] at e ne; simp only [len_ULin] at hl5
        have ht5 : List.take 2 c5 = c5 := List.take_of_length_le (by omega)
        simp [e, ne, hl0, ht0, hl1, ht1, hl5, ht5, hc5]
        first | refine lsD_agg2 (ks_Difference_o aM aA aCall aB aK) (S5) rfl (by simp) ⟨.inr ⟨_, .tail _ (.tail _ (.head _)), rfl, by simp [dr]⟩, .inr ⟨_, .tail _ (.head _), rfl, by simp [dr]⟩, .inl (fun h => by first | rfl | simp), .inr ⟨_, .head _, rfl, by simp [dr]⟩, .inl (fun h => by first | rfl | simp), trivial⟩ ?_ | refine ls_agg2 (ks_Difference_o aM aA aCall aB aK) (S5) rfl (by simp) ⟨.inr ⟨_, .tail _ (.tail _ (.head _)), rfl, by simp [dr]⟩, .inr ⟨_, .tail _ (.head _), rfl, by simp [dr]⟩, .inl (fun h => by first | rfl | simp), .inr ⟨_, .head _, rfl, by simp [dr]⟩, .inl (fun h => by first | rfl | simp), trivial⟩ ?_
        intro c6 h6x n6 J6 S6 hl6 hc6
        have e := S6.eqs; have ne := S6.nes; simp only [bxE, bxN, Nat.zero_add, Nat.reduceAdd] at e ne; simp only [len_ULin] at hl6
        have ht6 : List.take 2 c6 = c6 := List.take_of_length_le (by omega)
        simp [e, ne, hl0, ht0, hl1, ht1, hl5, ht5, hl6, ht6, hc6]
        refine ⟨c6, J6, _, hl6, ((S6).set).sub (.cons₂ _ (.cons _ (.cons _ (.cons _ (.slnil))))), ?_⟩
        simp [e, ne, hl0, ht0, hl1, ht1, hl5, ht5, hl6, ht6]
    · skip
      first | refine lsD_agg (k_toLin aA hw_aA) ((S0).push) (by simp) ⟨.inl (fun h => by first | rfl | simp), trivial⟩ ?_ | refine ls_agg (k_toLin aA hw_aA) ((S0).push) (by simp) ⟨.inl (fun h => by first | rfl | simp), trivial⟩ ?_
      intro c7 h7x n7 J7 S7 hl7 hc7
      have e := S7.eqs; have ne := S7.nes; simp only [bxE, bxN, Nat.zero_add, Nat.reduceAdd] at e ne; simp only [len_ULin] at hl7
      have ht7 : List.take 2 c7 = c7 := List.take_of_length_le (by omega)
      simp [e, ne, hl0, ht0, hl7, ht7, hc7]
      first | refine lsD_agg (k_toLin aB hw_aB) (S7) (by simp) ⟨.inl (fun h => by first | rfl | simp), trivial⟩ ?_ | refine ls_agg (k_toLin aB hw_aB) (S7) (by simp) ⟨.inl (fun h => by first | rfl | simp), trivial⟩ ?_
      intro c8 h8x n8 J8 S8 hl8 hc8
      have e := S8.eqs; have ne := S8.nes; simp only [bxE, bxN, Nat.zero_add, Nat.reduceAdd] at e ne; simp only [len_ULin] at hl8
      have ht8 : List.take 2 c8 = c8 := List.take_of_length_le (by omega)
      simp [e, ne, hl0, ht0, hl7, ht7, hl8, ht8, hc8]
      first | refine lsD_agg2 (ks_Difference_o aM aA aCall aB aK) (S8) rfl (by simp) ⟨.inr ⟨_, .tail _ (.tail _ (.head _)), rfl, by simp [dr]⟩, .inr ⟨_, .tail _ (.head _), rfl, by simp [dr]⟩, .inl (fun h => by first | rfl | simp), .inr ⟨_, .head _, rfl, by simp [dr]⟩, .inl (fun h => by first | rfl | simp), trivial⟩ ?_ | refine ls_agg2 (ks_Difference_o aM aA aCall aB aK) (S8) rfl (by simp) ⟨.inr ⟨_, .tail _ (.tail _ (.head _)), rfl, by simp [dr]⟩, .inr ⟨_, .tail _ (.head _), rfl, by simp [dr]⟩, .inl (fun h => by first | rfl | simp), .inr ⟨_, .head _, rfl, by simp [dr]⟩, .inl (fun h => by first | rfl | simp), trivial⟩ ?_
      intro c9 h9x n9 J9 S9 hl9 hc9
      have e := S9.eqs; have ne := S9.nes; simp only [bxE, bxN, Nat.zero_add, Nat.reduceAdd] at e ne; simp only [len_ULin] at hl9
      have ht9 : List.take 2 c9 = c9 := List.take_of_length_le (by omega)
      simp [e, ne, hl0, ht0, hl7, ht7, hl8, ht8, hl9, ht9, hc9]
      refine ⟨c9, J9, _, hl9, ((S9).set).sub (.cons₂ _ (.cons _ (.cons _ (.cons _ (.slnil))))), ?_⟩
      simp [e, ne, hl0, ht0, hl7, ht7, hl8, ht8, hl9, ht9]
  · skip
    first | refine lsD_agg (k_toModel aM hw_aM) (((((LS.start).push).push).push).push) (by simp) ⟨.inl (fun h => by first | rfl | simp), trivial⟩ ?_ | refine ls_agg (k_toModel aM hw_aM) (((((LS.start).push).push).push).push) (by simp) ⟨.inl (fun h => by first | rfl | simp), trivial⟩ ?_
    intro c10 h10x n10 J10 S10 hl10 hc10
    have e := S10.eqs; have ne := S10.nes; simp only [bxE, bxN, Nat.zero_add, Nat.reduceAdd] at e ne; simp only [len_UModel] at hl10
    have ht10 : List.take 6 c10 = c10 := List.take_of_length_le (by omega)
    simp [e, ne, hl10, ht10, hc10]
    first | refine lsD_agg (k_toLin aA hw_aA) (S10) (by simp) ⟨.inl (fun h => by first | rfl | simp), trivial⟩ ?_ | refine ls_agg (k_toLin aA hw_aA) (S10) (by simp) ⟨.inl (fun h => by first | rfl | simp), trivial⟩ ?_
    intro c11 h11x n11 J11 S11 hl11 hc11
    have e := S11.eqs; have ne := S11.nes; simp only [bxE, bxN, Nat.zero_add, Nat.reduceAdd] at e ne; simp only [len_ULin] at hl11
    have ht11 : List.take 2 c11 = c11 := List.take_of_length_le (by omega)
    simp [e, ne, hl10, ht10, hl11, ht11, hc11]
    first | refine lsD_agg (k_toLin aB hw_aB) (S11) (by simp) ⟨.inl (fun h => by first | rfl | simp), trivial⟩ ?_ | refine ls_agg (k_toLin aB hw_aB) (S11) (by simp) ⟨.inl (fun h => by first | rfl | simp), trivial⟩ ?_
    intro c12 h12x n12 J12 S12 hl12 hc12
    have e := S12.eqs; have ne := S12.nes; simp only [bxE, bxN, Nat.zero_add, Nat.reduceAdd] at e ne; simp only [len_ULin] at hl12
    have ht12 : List.take 2 c12 = c12 := List.take_of_length_le (by omega)
    simp [e, ne, hl10, ht10, hl11, ht11, hl12, ht12, hc12]
    first | refine lsD_agg2 (ks_Difference_o aM aA aCall aB aK) (S12) rfl (by simp) ⟨.inr ⟨_, .tail _ (.tail _ (.head _)), rfl, by simp [dr]⟩, .inr ⟨_, .tail _ (.head _), rfl, by simp [dr]⟩, .inl (fun h => by first | rfl | simp), .inr ⟨_, .head _, rfl, by simp [dr]⟩, .inl (fun h => by first | rfl | simp), trivial⟩ ?_ | refine ls_agg2 (ks_Difference_o aM aA aCall aB aK) (S12) rfl (by simp) ⟨.inr ⟨_, .tail _ (.tail _ (.head _)), rfl, by simp [dr]⟩, .inr ⟨_, .tail _ (.head _), rfl, by simp [dr]⟩, .inl (fun h => by first | rfl | simp), .inr ⟨_, .head _, rfl, by simp [dr]⟩, .inl (fun h => by first | rfl | simp), trivial⟩ ?_
    intro c13 h13x n13 J13 S13 hl13 hc13
    have e := S13.eqs; have ne := S13.nes; simp only [bxE, bxN, Nat.zero_add, Nat.reduceAdd] at e ne; simp only [len_ULin] at hl13
    have ht13 : List.take 2 c13 = c13 := List.take_of_length_le (by omega)
    simp [e, ne, hl10, ht10, hl11, ht11, hl12, ht12, hl13, ht13, hc13]
    refine ⟨c13, J13, _, hl13, ((S13).set).sub (.cons₂ _ (.cons _ (.cons _ (.cons _ (.slnil))))), ?_⟩
    simp [e, ne, hl10, ht10, hl11, ht11, hl12, ht12, hl13, ht13]
  rintro s1x h14x n14 ⟨c14, J14, b14, hl14, S14, hb1, hf1, hk1⟩
  have e := S14.eqs; have ne := S14.nes; simp only [bxE, bxN, Nat.zero_add, Nat.reduceAdd] at e ne
  have ht14 : List.take 2 c14 = c14 := List.take_of_length_le (by omega)
  simp at hf1 hk1
  simp [e, ne, hb1, hf1, hk1, hl14, ht14]
  first | refine lsD_agg (k_toModel aM hw_aM) (S14) (by simp) ⟨.inl (fun h => by first | rfl | simp), trivial⟩ ?_ | refine ls_agg (k_toModel aM hw_aM) (S14) (by simp) ⟨.inl (fun h => by first | rfl | simp), trivial⟩ ?_
  intro c15 h15x n15 J15 S15 hl15 hc15
  have e := S15.eqs; have ne := S15.nes; simp only [bxE, bxN, Nat.zero_add, Nat.reduceAdd] at e ne; simp only [len_UModel] at hl15
  have ht15 : List.take 6 c15 = c15 := List.take_of_length_le (by omega)
  simp [e, ne, hb1, hf1, hk1, hl14, ht14, hl15, ht15, hc15]
  first | refine lsD_agg (k_toLin aA hw_aA) ((S15).push) (by simp) ⟨.inl (fun h => by first | rfl | simp), trivial⟩ ?_ | refine ls_agg (k_toLin aA hw_aA) ((S15).push) (by simp) ⟨.inl (fun h => by first | rfl | simp), trivial⟩ ?_
  intro c16 h16x n16 J16 S16 hl16 hc16
  have e := S16.eqs; have ne := S16.nes; simp only [bxE, bxN, Nat.zero_add, Nat.reduceAdd] at e ne; simp only [len_ULin] at hl16
  have ht16 : List.take 2 c16 = c16 := List.take_of_length_le (by omega)
  simp [e, ne, hb1, hf1, hk1, hl14, ht14, hl15, ht15, hl16, ht16, hc16]
  first | refine lsD_agg (k_toLin aB hw_aB) ((S16).push) (by simp) ⟨.inl (fun h => by first | rfl | simp), trivial⟩ ?_ | refine ls_agg (k_toLin aB hw_aB) ((S16).push) (by simp) ⟨.inl (fun h => by first | rfl | simp), trivial⟩ ?_
  intro c17 h17x n17 J17 S17 hl17 hc17
  have e := S17.eqs; have ne := S17.nes; simp only [bxE, bxN, Nat.zero_add, Nat.reduceAdd] at e ne; simp only [len_ULin] at hl17
  have ht17 : List.take 2 c17 = c17 := List.take_of_length_le (by omega)
  simp [e, ne, hb1, hf1, hk1, hl14, ht14, hl15, ht15, hl16, ht16, hl17, ht17, hc17]
  first | refine lsD_agg2 (k_Difference_o aM aA aCall aB aK) ((S17).push) rfl (by simp) ⟨.inr ⟨_, .tail _ (.tail _ (.head _)), rfl, by simp [dr]⟩, .inr ⟨_, .tail _ (.head _), rfl, by simp [dr]⟩, .inl (fun h => by first | rfl | simp), .inr ⟨_, .head _, rfl, by simp [dr]⟩, .inl (fun h => by first | rfl | simp), trivial⟩ ?_ | refine ls_agg2 (k_Difference_o aM aA aCall aB aK) ((S17).push) rfl (by simp) ⟨.inr ⟨_, .tail _ (.tail _ (.head _)), rfl, by simp [dr]⟩, .inr ⟨_, .tail _ (.head _), rfl, by simp [dr]⟩, .inl (fun h => by first | rfl | simp), .inr ⟨_, .head _, rfl, by simp [dr]⟩, .inl (fun h => by first | rfl | simp), trivial⟩ ?_
  intro c18 h18x n18 J18 S18 hl18 hc18
  have e := S18.eqs; have ne := S18.nes; simp only [bxE, bxN, Nat.zero_add, Nat.reduceAdd] at e ne; simp only [len_ULin] at hl18
  have ht18 : List.take 2 c18 = c18 := List.take_of_length_le (by omega)
  simp [e, ne, hb1, hf1, hk1, hl14, ht14, hl15, ht15, hl16, ht16, hl17, ht17, hl18, ht18, hc18]
  first | refine lsD_scal (k_eqLin ((diffL aM aA aCall aB aK).getD lin0) ((diffL aM aA aCall aB aK).getD lin0)) ((S18).push) rfl ⟨.inr ⟨_, .head _, rfl, by simp [dr]⟩, .inr ⟨_, .tail _ (.tail _ (.tail _ (.tail _ (.head _)))), rfl, by simp [dr]⟩, trivial⟩ ?_ | refine ls_scal (k_eqLin ((diffL aM aA aCall aB aK).getD lin0) ((diffL aM aA aCall aB aK).getD lin0)) ((S18).push) rfl ⟨.inr ⟨_, .head _, rfl, by simp [dr]⟩, .inr ⟨_, .tail _ (.tail _ (.tail _ (.tail _ (.head _)))), rfl, by simp [dr]⟩, trivial⟩ ?_
  simp [e, ne, hb1, hf1, hk1, hl14, ht14, hl15, ht15, hl16, ht16, hl17, ht17, hl18, ht18]
  first | refine lsD_agg (k_toModel aM hw_aM) ((S18).push) (by simp) ⟨.inl (fun h => by first | rfl | simp), trivial⟩ ?_ | refine ls_agg (k_toModel aM hw_aM) ((S18).push) (by simp) ⟨.inl (fun h => by first | rfl | simp), trivial⟩ ?_
  intro c19 h19x n19 J19 S19 hl19 hc19
  have e := S19.eqs; have ne := S19.nes; simp only [bxE, bxN, Nat.zero_add, Nat.reduceAdd] at e ne; simp only [len_UModel] at hl19
  have ht19 : List.take 6 c19 = c19 := List.take_of_length_le (by omega)
  simp [e, ne, hb1, hf1, hk1, hl14, ht14, hl15, ht15, hl16, ht16, hl17, ht17, hl18, ht18, hl19, ht19, hc19]
  first | refine lsD_scal (k_eqModel (aM) (aM)) (S19) rfl ⟨.inr ⟨_, .tail _ (.tail _ (.tail _ (.tail _ (.head _)))), rfl, by simp [dr]⟩, .inr ⟨_, .head _, rfl, by simp [dr]⟩, trivial⟩ ?_ | refine ls_scal (k_eqModel (aM) (aM)) (S19) rfl ⟨.inr ⟨_, .tail _ (.tail _ (.tail _ (.tail _ (.head _)))), rfl, by simp [dr]⟩, .inr ⟨_, .head _, rfl, by simp [dr]⟩, trivial⟩ ?_
  simp [e, ne, hb1, hf1, hk1, hl14, ht14, hl15, ht15, hl16, ht16, hl17, ht17, hl18, ht18, hl19, ht19]
  first | refine lsD_agg (k_toLin aA hw_aA) (S19) (by simp) ⟨.inl (fun h => by first | rfl | simp), trivial⟩ ?_ | refine ls_agg (k_toLin aA hw_aA) (S19) (by simp) ⟨.inl (fun h => by first | rfl | simp), trivial⟩ ?_
  intro c20 h20x n20 J20 S20 hl20 hc20
  have e := S20.eqs; have ne := S20.nes; simp only [bxE, bxN, Nat.zero_add, Nat.reduceAdd] at e ne; simp only [len_ULin] at hl20
  have ht20 : List.take 2 c20 = c20 := List.take_of_length_le (by omega)
  simp [e, ne, hb1, hf1, hk1, hl14, ht14, hl15, ht15, hl16, ht16, hl17, ht17, hl18, ht18, hl19, ht19, hl20, ht20, hc20]
  first | refine lsD_scal (k_eqLin (aA) (aA)) (S20) rfl ⟨.inr ⟨_, .tail _ (.tail _ (.tail _ (.tail _ (.head _)))), rfl, by simp [dr]⟩, .inr ⟨_, .head _, rfl, by simp [dr]⟩, trivial⟩ ?_ | refine ls_scal (k_eqLin (aA) (aA)) (S20) rfl ⟨.inr ⟨_, .tail _ (.tail _ (.tail _ (.tail _ (.head _)))), rfl, by simp [dr]⟩, .inr ⟨_, .head _, rfl, by simp [dr]⟩, trivial⟩ ?_
  simp [e, ne, hb1, hf1, hk1, hl14, ht14, hl15, ht15, hl16, ht16, hl17, ht17, hl18, ht18, hl19, ht19, hl20, ht20]
  first | refine lsD_agg (k_toLin aB hw_aB) (S20) (by simp) ⟨.inl (fun h => by first | rfl | simp), trivial⟩ ?_ | refine ls_agg (k_toLin aB hw_aB) (S20) (by simp) ⟨.inl (fun h => by first | rfl | simp), trivial⟩ ?_
  intro c21 h21x n21 J21 S21 hl21 hc21
  have e := S21.eqs; have ne := S21.nes; simp only [bxE, bxN, Nat.zero_add, Nat.reduceAdd] at e ne; simp only [len_ULin] at hl21
  have ht21 : List.take 2 c21 = c21 := List.take_of_length_le (by omega)
  simp [e, ne, hb1, hf1, hk1, hl14, ht14, hl15, ht15, hl16, ht16, hl17, ht17, hl18, ht18, hl19, ht19, hl20, ht20, hl21, ht21, hc21]
  first | refine lsD_scal (k_eqLin (aB) (aB)) (S21) rfl ⟨.inr ⟨_, .tail _ (.tail _ (.tail _ (.tail _ (.head _)))), rfl, by simp [dr]⟩, .inr ⟨_, .head _, rfl, by simp [dr]⟩, trivial⟩ ?_ | refine ls_scal (k_eqLin (aB) (aB)) (S21) rfl ⟨.inr ⟨_, .tail _ (.tail _ (.tail _ (.tail _ (.head _)))), rfl, by simp [dr]⟩, .inr ⟨_, .head _, rfl, by simp [dr]⟩, trivial⟩ ?_
  simp [e, ne, hb1, hf1, hk1, hl14, ht14, hl15, ht15, hl16, ht16, hl17, ht17, hl18, ht18, hl19, ht19, hl20, ht20, hl21, ht21]
  refine ls_mark (T1 := [_, _, _, _, _, _]) (m_markModel (aM) (1) (by omega)) (S21) ?_
  intro h22x n22 S22
  have e := S22.eqs; have ne := S22.nes; simp only [bxE, bxN, Nat.zero_add, Nat.reduceAdd] at e ne
  have hq1 : ¬ 1 + cModel aM < (0 : Int) := by omega
  simp [e, ne, hb1, hf1, hk1, hl14, ht14, hl15, ht15, hl16, ht16, hl17, ht17, hl18, ht18, hl19, ht19, hl20, ht20, hl21, ht21, hq1]
  refine ls_mark (T1 := [_, _, _, _, _]) (m_markLin (aA) (1 + cModel aM) (by omega)) (S22) ?_
  intro h23x n23 S23
  have e := S23.eqs; have ne := S23.nes; simp only [bxE, bxN, Nat.zero_add, Nat.reduceAdd] at e ne
  have hq2 : ¬ 1 + cModel aM + cLin aA < (0 : Int) := by omega
  simp [e, ne, hb1, hf1, hk1, hl14, ht14, hl15, ht15, hl16, ht16, hl17, ht17, hl18, ht18, hl19, ht19, hl20, ht20, hl21, ht21, hq2]
  refine ls_mark (T1 := [_, _, _, _]) (m_markLin (aB) (1 + cModel aM + cLin aA) (by omega)) (S23) ?_
  intro h24x n24 S24
  have e := S24.eqs; have ne := S24.nes; simp only [bxE, bxN, Nat.zero_add, Nat.reduceAdd] at e ne
  have hq3 : ¬ 1 + cModel aM + cLin aA + cLin aB < (0 : Int) := by omega
  simp [e, ne, hb1, hf1, hk1, hl14, ht14, hl15, ht15, hl16, ht16, hl17, ht17, hl18, ht18, hl19, ht19, hl20, ht20, hl21, ht21, hq3]
  first | refine lsD_scal (k_eqLin ((diffL aM aA aCall aB aK).getD lin0) ((diffL aM aA aCall aB aK).getD lin0)) (S24) rfl ⟨.inr ⟨_, .tail _ (.tail _ (.tail _ (.head _))), rfl, by simp [dr]⟩, .inr ⟨_, .tail _ (.tail _ (.tail _ (.tail _ (.tail _ (.tail _ (.tail _ (.head _))))))), rfl, by simp [dr]⟩, trivial⟩ ?_ | refine ls_scal (k_eqLin ((diffL aM aA aCall aB aK).getD lin0) ((diffL aM aA aCall aB aK).getD lin0)) (S24) rfl ⟨.inr ⟨_, .tail _ (.tail _ (.tail _ (.head _))), rfl, by simp [dr]⟩, .inr ⟨_, .tail _ (.tail _ (.tail _ (.tail _ (.tail _ (.tail _ (.tail _ (.head _))))))), rfl, by simp [dr]⟩, trivial⟩ ?_
  simp [e, ne, hb1, hf1, hk1, hl14, ht14, hl15, ht15, hl16, ht16, hl17, ht17, hl18, ht18, hl19, ht19, hl20, ht20, hl21, ht21]
  have hg := diffL_c aM aA aCall aB aK
  have hm : ¬ 1 + (cLin ((diffL aM aA aCall aB aK).getD lin0) : Int) < 0 := by omega
  refine ls_mark (T1 := [_, _, _]) (m_markLin ((diffL aM aA aCall aB aK).getD lin0) (1) (by omega)) (S24) ?_
  intro h25x n25 S25
  have e := S25.eqs; have ne := S25.nes; simp only [bxE, bxN, Nat.zero_add, Nat.reduceAdd] at e ne
  have hq4 : ¬ 1 + cLin ((diffL aM aA aCall aB aK).getD lin0) < (0 : Int) := by omega
  simp [e, ne, hb1, hf1, hk1, hl14, ht14, hl15, ht15, hl16, ht16, hl17, ht17, hl18, ht18, hl19, ht19, hl20, ht20, hl21, ht21, hq4]
  first | refine lsD_scal (k_heldLin ((diffL aM aA aCall aB aK).getD lin0) (1) (by omega)) (S25) rfl ⟨.inr ⟨_, .tail _ (.tail _ (.tail _ (.head _))), rfl, by simp [dr]⟩, .inl (fun h => by first | rfl | simp), trivial⟩ ?_ | refine ls_scal (k_heldLin ((diffL aM aA aCall aB aK).getD lin0) (1) (by omega)) (S25) rfl ⟨.inr ⟨_, .tail _ (.tail _ (.tail _ (.head _))), rfl, by simp [dr]⟩, .inl (fun h => by first | rfl | simp), trivial⟩ ?_
  simp [e, ne, hb1, hf1, hk1, hl14, ht14, hl15, ht15, hl16, ht16, hl17, ht17, hl18, ht18, hl19, ht19, hl20, ht20, hl21, ht21, hm]
  refine cut_law2 (S25) [12, 13, 17, 20, 21] 22 2 (rULin ((diffL aM aA aCall aB aK).getD lin0)) [(23, .bool ((diffL aM aA aCall aB aK).isSome))] ?_ ?_ ?_
  · skip
    first | refine lsD_agg (k_toModel aM hw_aM) (S25) (by simp) ⟨.inl (fun h => by first | rfl | simp), trivial⟩ ?_ | refine ls_agg (k_toModel aM hw_aM) (S25) (by simp) ⟨.inl (fun h => by first | rfl | simp), trivial⟩ ?_
    intro c26 h26x n26 J26 S26 hl26 hc26
    have e := S26.eqs; have ne := S26.nes; simp only [bxE, bxN, Nat.zero_add, Nat.reduceAdd] at e ne; simp only [len_UModel] at hl26
    have ht26 : List.take 6 c26 = c26 := List.take_of_length_le (by omega)
    simp [e, ne, hb1, hf1, hk1, hl14, ht14, hl15, ht15, hl16, ht16, hl17, ht17, hl18, ht18, hl19, ht19, hl20, ht20, hl21, ht21, hl26, ht26, hc26]
    refine ⟨?_, ?_⟩
    · skip
      first | refine lsD_agg (k_toLin aA hw_aA) (S26) (by simp) ⟨.inl (fun h => by first | rfl | simp), trivial⟩ ?_ | refine ls_agg (k_toLin aA hw_aA) (S26) (by simp) ⟨.inl (fun h => by first | rfl | simp), trivial⟩ ?_
      intro c27 h27x n27 J27 S27 hl27 hc27
      have e := S27.eqs; have ne := S27.nes; simp only [bxE, bxN, Nat.zero_add, Nat.reduceAdd] at e ne; simp only [len_ULin] at hl27
      have ht27 : List.take 2 c27 = c27 := List.take_of_length_le (by omega)
      simp [e, ne, hb1, hf1, hk1, hl14, ht14, hl15, ht15, hl16, ht16, hl17, ht17, hl18, ht18, hl19, ht19, hl20, ht20, hl21, ht21, hl26, ht26, hl27, ht27, hc27]
      refine ⟨?_, ?_⟩
      · skip
        first | refine lsD_agg (k_toLin aB hw_aB) (S27) (by simp) ⟨.inl (fun h => by first | rfl | simp), trivial⟩ ?_ | refine ls_agg (k_toLin aB hw_aB) (S27) (by simp) ⟨.inl (fun h => by first | rfl | simp), trivial⟩ ?_
        intro c28 h28x n28 J28 S28 hl28 hc28
        have e := S28.eqs; have ne := S28.nes; simp only [bxE, bxN, Nat.zero_add, Nat.reduceAdd] at e ne; simp only [len_ULin] at hl28
        have ht28 : List.take 2 c28 = c28 := List.take_of_length_le (by omega)
        simp [e, ne, hb1, hf1, hk1, hl14, ht14, hl15, ht15, hl16, ht16, hl17, ht17, hl18, ht18, hl19, ht19, hl20, ht20, hl21, ht21, hl26, ht26, hl27, ht27, hl28, ht28, hc28]
        refine ⟨?_, ?_⟩
        · skip
          first | refine lsD_agg2 (k_Difference_o aM aA aCall aB aK) (S28) rfl (by simp) ⟨.inr ⟨_, .tail _ (.tail _ (.head _)), rfl, by simp [dr]⟩, .inr ⟨_, .tail _ (.head _), rfl, by simp [dr]⟩, .inl (fun h => by first | rfl | simp), .inr ⟨_, .head _, rfl, by simp [dr]⟩, .inl (fun h => by first | rfl | simp), trivial⟩ ?_ | refine ls_agg2 (k_Difference_o aM aA aCall aB aK) (S28) rfl (by simp) ⟨.inr ⟨_, .tail _ (.tail _ (.head _)), rfl, by simp [dr]⟩, .inr ⟨_, .tail _ (.head _), rfl, by simp [dr]⟩, .inl (fun h => by first | rfl | simp), .inr ⟨_, .head _, rfl, by simp [dr]⟩, .inl (fun h => by first | rfl | simp), trivial⟩ ?_
          intro c29 h29x n29 J29 S29 hl29 hc29
          have e := S29.eqs; have ne := S29.nes; simp only [bxE, bxN, Nat.zero_add, Nat.reduceAdd] at e ne; simp only [len_ULin] at hl29
          have ht29 : List.take 2 c29 = c29 := List.take_of_length_le (by omega)
          simp [e, ne, hb1, hf1, hk1, hl14, ht14, hl15, ht15, hl16, ht16, hl17, ht17, hl18, ht18, hl19, ht19, hl20, ht20, hl21, ht21, hl26, ht26, hl27, ht27, hl28, ht28, hl29, ht29, hc29]
          refine ⟨c29, J29, _, hl29, ((S29).push).sub (.cons₂ _ (.cons _ (.cons _ (.cons _ (.cons₂ _ (.cons₂ _ (.cons₂ _ (.cons₂ _ (.cons₂ _ (.cons₂ _ (.cons₂ _ (.cons₂ _ (.slnil))))))))))))), ?_⟩
          simp [e, ne, hb1, hf1, hk1, hl14, ht14, hl15, ht15, hl16, ht16, hl17, ht17, hl18, ht18, hl19, ht19, hl20, ht20, hl21, ht21, hl26, ht26, hl27, ht27, hl28, ht28, hl29, ht29]
        · skip
          first | refine lsD_agg2 (k_Difference_o aM aA aCall aB aK) ((S28).push) rfl (by simp) ⟨.inr ⟨_, .tail _ (.tail _ (.head _)), rfl, by simp [dr]⟩, .inr ⟨_, .tail _ (.head _), rfl, by simp [dr]⟩, .inl (fun h => by first | rfl | simp), .inr ⟨_, .head _, rfl, by simp [dr]⟩, .inl (fun h => by first | rfl | simp), trivial⟩ ?_ | refine ls_agg2 (k_Difference_o aM aA aCall aB aK) ((S28).push) rfl (by simp) ⟨.inr ⟨_, .tail _ (.tail _ (.head _)), rfl, by simp [dr]⟩, .inr ⟨_, .tail _ (.head _), rfl, by simp [dr]⟩, .inl (fun h => by first | rfl | simp), .inr ⟨_, .head _, rfl, by simp [dr]⟩, .inl (fun h => by first | rfl | simp), trivial⟩ ?_
          intro c30 h30x n30 J30 S30 hl30 hc30
          have e := S30.eqs; have ne := S30.nes; simp only [bxE, bxN, Nat.zero_add, Nat.reduceAdd] at e ne; simp only [len_ULin] at hl30
          have ht30 : List.take 2 c30 = c30 := List.take_of_length_le (by omega)
          simp [e, ne, hb1, hf1, hk1, hl14, ht14, hl15, ht15, hl16, ht16, hl17, ht17, hl18, ht18, hl19, ht19, hl20, ht20, hl21, ht21, hl26, ht26, hl27, ht27, hl28, ht28, hl30, ht30, hc30]
          refine ⟨c30, J30, _, hl30, ((S30).set).sub (.cons₂ _ (.cons _ (.cons _ (.cons _ (.cons₂ _ (.cons₂ _ (.cons₂ _ (.cons₂ _ (.cons₂ _ (.cons₂ _ (.cons₂ _ (.cons₂ _ (.slnil))))))))))))), ?_⟩
          simp [e, ne, hb1, hf1, hk1, hl14, ht14, hl15, ht15, hl16, ht16, hl17, ht17, hl18, ht18, hl19, ht19, hl20, ht20, hl21, ht21, hl26, ht26, hl27, ht27, hl28, ht28, hl30, ht30]
      · skip
        first | refine lsD_agg (k_toLin aB hw_aB) ((S27).push) (by simp) ⟨.inl (fun h => by first | rfl | simp), trivial⟩ ?_ | refine ls_agg (k_toLin aB hw_aB) ((S27).push) (by simp) ⟨.inl (fun h => by first | rfl | simp), trivial⟩ ?_
        intro c31 h31x n31 J31 S31 hl31 hc31
        have e := S31.eqs; have ne := S31.nes; simp only [bxE, bxN, Nat.zero_add, Nat.reduceAdd] at e ne; simp only [len_ULin] at hl31
        have ht31 : List.take 2 c31 = c31 := List.take_of_length_le (by omega)
        simp [e, ne, hb1, hf1, hk1, hl14, ht14, hl15, ht15, hl16, ht16, hl17, ht17, hl18, ht18, hl19, ht19, hl20, ht20, hl21, ht21, hl26, ht26, hl27, ht27, hl31, ht31, hc31]
        first | refine lsD_agg2 (k_Difference_o aM aA aCall aB aK) (S31) rfl (by simp) ⟨.inr ⟨_, .tail _ (.tail _ (.head _)), rfl, by simp [dr]⟩, .inr ⟨_, .tail _ (.head _), rfl, by simp [dr]⟩, .inl (fun h => by first | rfl | simp), .inr ⟨_, .head _, rfl, by simp [dr]⟩, .inl (fun h => by first | rfl | simp), trivial⟩ ?_ | refine ls_agg2 (k_Difference_o aM aA aCall aB aK) (S31) rfl (by simp) ⟨.inr ⟨_, .tail _ (.tail _ (.head _)), rfl, by simp [dr]⟩, .inr ⟨_, .tail _ (.head _), rfl, by simp [dr]⟩, .inl (fun h => by first | rfl | simp), .inr ⟨_, .head _, rfl, by simp [dr]⟩, .inl (fun h => by first | rfl | simp), trivial⟩ ?_
        intro c32 h32x n32 J32 S32 hl32 hc32
        have e := S32.eqs; have ne := S32.nes; simp only [bxE, bxN, Nat.zero_add, Nat.reduceAdd] at e ne; simp only [len_ULin] at hl32
        have ht32 : List.take 2 c32 = c32 := List.take_of_length_le (by omega)
        simp [e, ne, hb1, hf1, hk1, hl14, ht14, hl15, ht15, hl16, ht16, hl17, ht17, hl18, ht18, hl19, ht19, hl20, ht20, hl21, ht21, hl26, ht26, hl27, ht27, hl31, ht31, hl32, ht32, hc32]
        refine ⟨c32, J32, _, hl32, ((S32).set).sub (.cons₂ _ (.cons _ (.cons _ (.cons _ (.cons₂ _ (.cons₂ _ (.cons₂ _ (.cons₂ _ (.cons₂ _ (.cons₂ _ (.cons₂ _ (.cons₂ _ (.slnil))))))))))))), ?_⟩
        simp [e, ne, hb1, hf1, hk1, hl14, ht14, hl15, ht15, hl16, ht16, hl17, ht17, hl18, ht18, hl19, ht19, hl20, ht20, hl21, ht21, hl26, ht26, hl27, ht27, hl31, ht31, hl32, ht32]
    · skip
      first | refine lsD_agg (k_toLin aA hw_aA) ((S26).push) (by simp) ⟨.inl (fun h => by first | rfl | simp), trivial⟩ ?_ | refine ls_agg (k_toLin aA hw_aA) ((S26).push) (by simp) ⟨.inl (fun h => by first | rfl | simp), trivial⟩ ?_
      intro c33 h33x n33 J33 S33 hl33 hc33
      have e := S33.eqs; have ne := S33.nes; simp only [bxE, bxN, Nat.zero_add, Nat.reduceAdd] at e ne; simp only [len_ULin] at hl33
      have ht33 : List.take 2 c33 = c33 := List.take_of_length_le (by omega)
      simp [e, ne, hb1, hf1, hk1, hl14, ht14, hl15, ht15, hl16, ht16, hl17, ht17, hl18, ht18, hl19, ht19, hl20, ht20, hl21, ht21, hl26, ht26, hl33, ht33, hc33]
      first | refine lsD_agg (k_toLin aB hw_aB) (S33) (by simp) ⟨.inl (fun h => by first | rfl | simp), trivial⟩ ?_ | refine ls_agg (k_toLin aB hw_aB) (S33) (by simp) ⟨.inl (fun h => by first | rfl | simp), trivial⟩ ?_
      intro c34 h34x n34 J34 S34 hl34 hc34
      have e := S34.eqs; have ne := S34.nes; simp only [bxE, bxN, Nat.zero_add, Nat.reduceAdd] at e ne; simp only [len_ULin] at hl34
      have ht34 : List.take 2 c34 = c34 := List.take_of_length_le (by omega)
      simp [e, ne, hb1, hf1, hk1, hl14, ht14, hl15, ht15, hl16, ht16, hl17, ht17, hl18, ht18, hl19, ht19, hl20, ht20, hl21, ht21, hl26, ht26, hl33, ht33, hl34, ht34, hc34]
      first | refine lsD_agg2 (k_Difference_o aM aA aCall aB aK) (S34) rfl (by simp) ⟨.inr ⟨_, .tail _ (.tail _ (.head _)), rfl, by simp [dr]⟩, .inr ⟨_, .tail _ (.head _), rfl, by simp [dr]⟩, .inl (fun h => by first | rfl | simp), .inr ⟨_, .head _, rfl, by simp [dr]⟩, .inl (fun h => by first | rfl | simp), trivial⟩ ?_ | refine ls_agg2 (k_Difference_o aM aA aCall aB aK) (S34) rfl (by simp) ⟨.inr ⟨_, .tail _ (.tail _ (.head _)), rfl, by simp [dr]⟩, .inr ⟨_, .tail _ (.head _), rfl, by simp [dr]⟩, .inl (fun h => by first | rfl | simp), .inr ⟨_, .head _, rfl, by simp [dr]⟩, .inl (fun h => by first | rfl | simp), trivial⟩ ?_
      intro c35 h35x n35 J35 S35 hl35 hc35
      have e := S35.eqs; have ne := S35.nes; simp only [bxE, bxN, Nat.zero_add, Nat.reduceAdd] at e ne; simp only [len_ULin] at hl35
      have ht35 : List.take 2 c35 = c35 := List.take_of_length_le (by omega)
      simp [e, ne, hb1, hf1, hk1, hl14, ht14, hl15, ht15, hl16, ht16, hl17, ht17, hl18, ht18, hl19, ht19, hl20, ht20, hl21, ht21, hl26, ht26, hl33, ht33, hl34, ht34, hl35, ht35, hc35]
      refine ⟨c35, J35, _, hl35, ((S35).set).sub (.cons₂ _ (.cons _ (.cons _ (.cons _ (.cons₂ _ (.cons₂ _ (.cons₂ _ (.cons₂ _ (.cons₂ _ (.cons₂ _ (.cons₂ _ (.cons₂ _ (.slnil))))))))))))), ?_⟩
      simp [e, ne, hb1, hf1, hk1, hl14, ht14, hl15, ht15, hl16, ht16, hl17, ht17, hl18, ht18, hl19, ht19, hl20, ht20, hl21, ht21, hl26, ht26, hl33, ht33, hl34, ht34, hl35, ht35]
  · skip
    first | refine lsD_agg (k_toModel aM hw_aM) ((S25).push) (by simp) ⟨.inl (fun h => by first | rfl | simp), trivial⟩ ?_ | refine ls_agg (k_toModel aM hw_aM) ((S25).push) (by simp) ⟨.inl (fun h => by first | rfl | simp), trivial⟩ ?_
    intro c36 h36x n36 J36 S36 hl36 hc36
    have e := S36.eqs; have ne := S36.nes; simp only [bxE, bxN, Nat.zero_add, Nat.reduceAdd] at e ne; simp only [len_UModel] at hl36
    have ht36 : List.take 6 c36 = c36 := List.take_of_length_le (by omega)
    simp [e, ne, hb1, hf1, hk1, hl14, ht14, hl15, ht15, hl16, ht16, hl17, ht17, hl18, ht18, hl19, ht19, hl20, ht20, hl21, ht21, hl36, ht36, hc36]
    first | refine lsD_agg (k_toLin aA hw_aA) (S36) (by simp) ⟨.inl (fun h => by first | rfl | simp), trivial⟩ ?_ | refine ls_agg (k_toLin aA hw_aA) (S36) (by simp) ⟨.inl (fun h => by first | rfl | simp), trivial⟩ ?_
    intro c37 h37x n37 J37 S37 hl37 hc37
    have e := S37.eqs; have ne := S37.nes; simp only [bxE, bxN, Nat.zero_add, Nat.reduceAdd] at e ne; simp only [len_ULin] at hl37
    have ht37 : List.take 2 c37 = c37 := List.take_of_length_le (by omega)
    simp [e, ne, hb1, hf1, hk1, hl14, ht14, hl15, ht15, hl16, ht16, hl17, ht17, hl18, ht18, hl19, ht19, hl20, ht20, hl21, ht21, hl36, ht36, hl37, ht37, hc37]
    first | refine lsD_agg (k_toLin aB hw_aB) (S37) (by simp) ⟨.inl (fun h => by first | rfl | simp), trivial⟩ ?_ | refine ls_agg (k_toLin aB hw_aB) (S37) (by simp) ⟨.inl (fun h => by first | rfl | simp), trivial⟩ ?_
    intro c38 h38x n38 J38 S38 hl38 hc38
    have e := S38.eqs; have ne := S38.nes; simp only [bxE, bxN, Nat.zero_add, Nat.reduceAdd] at e ne; simp only [len_ULin] at hl38
    have ht38 : List.take 2 c38 = c38 := List.take_of_length_le (by omega)
    simp [e, ne, hb1, hf1, hk1, hl14, ht14, hl15, ht15, hl16, ht16, hl17, ht17, hl18, ht18, hl19, ht19, hl20, ht20, hl21, ht21, hl36, ht36, hl37, ht37, hl38, ht38, hc38]
    first | refine lsD_agg2 (k_Difference_o aM aA aCall aB aK) (S38) rfl (by simp) ⟨.inr ⟨_, .tail _ (.tail _ (.head _)), rfl, by simp [dr]⟩, .inr ⟨_, .tail _ (.head _), rfl, by simp [dr]⟩, .inl (fun h => by first | rfl | simp), .inr ⟨_, .head _, rfl, by simp [dr]⟩, .inl (fun h => by first | rfl | simp), trivial⟩ ?_ | refine ls_agg2 (k_Difference_o aM aA aCall aB aK) (S38) rfl (by simp) ⟨.inr ⟨_, .tail _ (.tail _ (.head _)), rfl, by simp [dr]⟩, .inr ⟨_, .tail _ (.head _), rfl, by simp [dr]⟩, .inl (fun h => by first | rfl | simp), .inr ⟨_, .head _, rfl, by simp [dr]⟩, .inl (fun h => by first | rfl | simp), trivial⟩ ?_
    intro c39 h39x n39 J39 S39 hl39 hc39
    have e := S39.eqs; have ne := S39.nes; simp only [bxE, bxN, Nat.zero_add, Nat.reduceAdd] at e ne; simp only [len_ULin] at hl39
    have ht39 : List.take 2 c39 = c39 := List.take_of_length_le (by omega)
    simp [e, ne, hb1, hf1, hk1, hl14, ht14, hl15, ht15, hl16, ht16, hl17, ht17, hl18, ht18, hl19, ht19, hl20, ht20, hl21, ht21, hl36, ht36, hl37, ht37, hl38, ht38, hl39, ht39, hc39]
    refine ⟨c39, J39, _, hl39, ((S39).set).sub (.cons₂ _ (.cons _ (.cons _ (.cons _ (.cons₂ _ (.cons₂ _ (.cons₂ _ (.cons₂ _ (.cons₂ _ (.cons₂ _ (.cons₂ _ (.cons₂ _ (.slnil))))))))))))), ?_⟩
    simp [e, ne, hb1, hf1, hk1, hl14, ht14, hl15, ht15, hl16, ht16, hl17, ht17, hl18, ht18, hl19, ht19, hl20, ht20, hl21, ht21, hl36, ht36, hl37, ht37, hl38, ht38, hl39, ht39]
  rintro s2x h40x n40 ⟨c40, J40, b40, hl40, S40, hb2, hf2, hk2⟩
  have e := S40.eqs; have ne := S40.nes; simp only [bxE, bxN, Nat.zero_add, Nat.reduceAdd] at e ne
  have ht40 : List.take 2 c40 = c40 := List.take_of_length_le (by omega)
  simp [hb1, hf1, hk1] at hf2 hk2
  simp [e, ne, hb2, hf2, hk2, hl14, ht14, hl15, ht15, hl16, ht16, hl17, ht17, hl18, ht18, hl19, ht19, hl20, ht20, hl21, ht21, hl40, ht40]
  first | refine lsD_scal (k_eqLin ((diffL aM aA aCall aB aK).getD lin0) ((diffL aM aA aCall aB aK).getD lin0)) (S40) rfl ⟨.inr ⟨_, .head _, rfl, by simp [dr]⟩, .inr ⟨_, .tail _ (.tail _ (.tail _ (.tail _ (.tail _ (.tail _ (.tail _ (.tail _ (.head _)))))))), rfl, by simp [dr]⟩, trivial⟩ ?_ | refine ls_scal (k_eqLin ((diffL aM aA aCall aB aK).getD lin0) ((diffL aM aA aCall aB aK).getD lin0)) (S40) rfl ⟨.inr ⟨_, .head _, rfl, by simp [dr]⟩, .inr ⟨_, .tail _ (.tail _ (.tail _ (.tail _ (.tail _ (.tail _ (.tail _ (.tail _ (.head _)))))))), rfl, by simp [dr]⟩, trivial⟩ ?_
  simp [e, ne, hb2, hf2, hk2, hl14, ht14, hl15, ht15, hl16, ht16, hl17, ht17, hl18, ht18, hl19, ht19, hl20, ht20, hl21, ht21, hl40, ht40]
  first | refine lsD_scal (k_heldLin ((diffL aM aA aCall aB aK).getD lin0) (1) (by omega)) (S40) rfl ⟨.inr ⟨_, .tail _ (.tail _ (.tail _ (.tail _ (.head _)))), rfl, by simp [dr]⟩, .inl (fun h => by first | rfl | simp), trivial⟩ ?_ | refine ls_scal (k_heldLin ((diffL aM aA aCall aB aK).getD lin0) (1) (by omega)) (S40) rfl ⟨.inr ⟨_, .tail _ (.tail _ (.tail _ (.tail _ (.head _)))), rfl, by simp [dr]⟩, .inl (fun h => by first | rfl | simp), trivial⟩ ?_
  simp [e, ne, hb2, hf2, hk2, hl14, ht14, hl15, ht15, hl16, ht16, hl17, ht17, hl18, ht18, hl19, ht19, hl20, ht20, hl21, ht21, hl40, ht40, hm]
end Go.Proofs.Ytlbdgpkgmheikaa

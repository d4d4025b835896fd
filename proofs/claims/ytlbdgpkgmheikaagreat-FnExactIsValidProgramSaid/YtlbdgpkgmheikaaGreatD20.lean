/- The body of FnExactIsValidProgram. -/
import Derived.Test.YtlbdgpkgmheikaaGreatV8S
import Derived.Test.YtlbdgpkgmheikaaGreatT2B
namespace Go.Proofs.YtlbdgpkgmheikaaGreat
set_option linter.all false
open Go Go.RowKit Go.Proofs
def a4 : AFn :=
⟨27, [(.t 2)], (.seq 
 (.reg [⟨some 1, (.boxv (.t 0)), no⟩, ⟨some 2, (.mv (.k (.bool false))), no⟩]) (.seq 
 (.reg [⟨some 3, (.mv (.k (.int .i64 1048576))), no⟩]) (.seq 
 (.reg [⟨some 7, (.ld true 2 (.t 1)), no⟩, ⟨some 8, (.mv (.t 3)), no⟩, ⟨some 9, (.call (.k (.fn (.func 5) [] [])) [(.t 7), (.t 8)]), no⟩, ⟨some 3, (.mv (.t 9)), no⟩]) (.seq (.seq 
 (.reg [⟨some 10, (.mv (.t 3)), no⟩, ⟨some 11, (.bin .lss (.t 10) (.k (.int .i64 0))), no⟩]) (.cond (.t 11) (.seq 
 (.reg [⟨some 2, (.mv (.k (.bool true))), no⟩]) .ret) .skip)) (.seq 
 (.reg [⟨some 12, (.ld true 2 (.t 1)), no⟩, ⟨some 13, (.call (.k (.fn (.func 8) [] [])) [(.t 12)]), no⟩, ⟨some 14, (.call (.k (.fn (.func 13) [] [])) [(.t 13)]), no⟩, ⟨some 4, (.mv (.t 14)), no⟩]) (.seq 
 (.reg [⟨some 15, (.ld true 2 (.t 1)), no⟩, ⟨some 16, (.call (.k (.fn (.func 8) [] [])) [(.t 15)]), no⟩, ⟨some 5, (.box [(.nil 4), (.nil 7)]), no⟩, ⟨no, (.st 2 (.t 5) (.t 16)), no⟩]) (.seq 
 (.reg [⟨some 17, (.ld true 2 (.t 5)), no⟩, ⟨some 18, (.call (.k (.fn (.func 14) [] [])) [(.t 17)]), no⟩, ⟨some 6, (.mv (.t 18)), no⟩]) (.seq (.seq 
 (.reg [⟨some 19, (.mv (.t 6)), no⟩, ⟨some 20, (.mv (.t 4)), no⟩, ⟨some 21, (.beq true (.t 19) (.t 20)), no⟩]) (.cond (.t 21) (.seq 
 (.reg [⟨some 2, (.mv (.k (.bool false))), no⟩]) .ret) .skip)) (.seq (.seq (.draw (.op ⟨some 22, (.ld true 2 (.t 5)), no⟩ (.op ⟨some 23, (.ld true 2 (.t 1)), no⟩ (.op ⟨some 24, (.call (.k (.fn (.func 8) [] [])) [(.t 23)]), no⟩ (.op ⟨some 25, (.call (.k (.fn (.func 11) [] [])) [(.t 22), (.t 24)]), no⟩ (.op ⟨some 26, (.un .not (.t 25)), no⟩ .fin)))))) (.cond (.t 26) (.seq 
 (.reg [⟨some 2, (.mv (.k (.bool false))), no⟩]) .ret) .skip)) (.seq 
 (.reg [⟨some 2, (.mv (.k (.bool true))), no⟩]) .ret))))))))))⟩
theorem a4_ok : compFn Tryz.prog Tryz.f4 = some a4 := by kernel_rfl



set_option maxRecDepth 20000 in
set_option maxHeartbeats 2000000 in
theorem law_IsValidProgram (p : DProgram) : Holds Tryz.prog 4 [.agg (rAProgram p)] (fun x => x = .bool true) := by
  refine holds_of_run Tryz.func4 a4_ok rfl (by simp [a4]) ?_
  simp [a4, rAProgram]
  first | refine callD_of (k_szProgram p 1048576 (by omega)) (by simp [rAProgram]) ?_ | refine call_of (k_szProgram p 1048576 (by omega)) (by simp [rAProgram]) ?_ | refine callD_of (k_szProgram p 1048576 (by omega)) rfl ?_ | refine call_of (k_szProgram p 1048576 (by omega)) rfl ?_
  rintro r rfl
  by_cases h1 : 1048576 - (wProgram p : Int) < 0
  · simp [sub1, h1]
  simp [sub1, h1]
  have hw1 : wProgram p ≤ 1048576 := by omega
  first | refine callD_of (k_toProgram p hw1) (by simp [rAProgram, rUProgram]) ?_ | refine call_of (k_toProgram p hw1) (by simp [rAProgram, rUProgram]) ?_ | refine callD_of (k_toProgram p hw1) rfl ?_ | refine call_of (k_toProgram p hw1) rfl ?_
  rintro r rfl
  simp [rAProgram, rUProgram]
  first | refine callD_of (ks_IsValidProgram p hw1) (by simp [rAProgram, rUProgram]) ?_ | refine call_of (ks_IsValidProgram p hw1) (by simp [rAProgram, rUProgram]) ?_ | refine callD_of (ks_IsValidProgram p hw1) rfl ?_ | refine call_of (ks_IsValidProgram p hw1) rfl ?_
  rintro r rfl
  simp [rAProgram, rUProgram]
  first | refine callD_of (k_toProgram p hw1) (by simp [rAProgram, rUProgram]) ?_ | refine call_of (k_toProgram p hw1) (by simp [rAProgram, rUProgram]) ?_ | refine callD_of (k_toProgram p hw1) rfl ?_ | refine call_of (k_toProgram p hw1) rfl ?_
  rintro r rfl
  simp [rAProgram, rUProgram]
  first | refine callD_of (k_IsValidProgram p hw1) (by simp [rAProgram, rUProgram]) ?_ | refine call_of (k_IsValidProgram p hw1) (by simp [rAProgram, rUProgram]) ?_ | refine callD_of (k_IsValidProgram p hw1) rfl ?_ | refine call_of (k_IsValidProgram p hw1) rfl ?_
  rintro r rfl
  simp [rAProgram, rUProgram]
  first | refine callD_of (k_toProgram p hw1) (by simp [rAProgram, rUProgram]) ?_ | refine call_of (k_toProgram p hw1) (by simp [rAProgram, rUProgram]) ?_ | refine callD_of (k_toProgram p hw1) rfl ?_ | refine call_of (k_toProgram p hw1) rfl ?_
  rintro r rfl
  simp [rAProgram, rUProgram]
  first | refine callD_of (k_eqProgram p p) (by simp [rAProgram, rUProgram]) ?_ | refine call_of (k_eqProgram p p) (by simp [rAProgram, rUProgram]) ?_ | refine callD_of (k_eqProgram p p) rfl ?_ | refine call_of (k_eqProgram p p) rfl ?_
  rintro r rfl
  simp [rAProgram, rUProgram]
end Go.Proofs.YtlbdgpkgmheikaaGreat

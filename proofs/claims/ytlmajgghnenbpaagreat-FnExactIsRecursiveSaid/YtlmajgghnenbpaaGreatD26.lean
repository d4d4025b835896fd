/- The body of FnExactIsRecursive. -/
import Derived.Test.YtlmajgghnenbpaaGreatE6
import Derived.Test.YtlmajgghnenbpaaGreatT2B
namespace Go.Proofs.YtlmajgghnenbpaaGreat
set_option linter.all false
open Go Go.RowKit Go.Proofs
def a4 : AFn :=
⟨34, [(.t 4)], (.seq 
 (.reg [⟨some 2, (.boxv (.t 0)), no⟩, ⟨some 4, (.mv (.k (.bool false))), no⟩]) (.seq (.seq 
 (.reg [⟨some 9, (.mv (.t 1)), no⟩, ⟨some 10, (.len true (.t 9)), no⟩, ⟨some 11, (.bin .gtr (.t 10) (.k (.int .i64 1048576))), no⟩]) (.cond (.t 11) (.seq 
 (.reg [⟨some 4, (.mv (.k (.bool true))), no⟩]) .ret) .skip)) (.seq 
 (.reg [⟨some 5, (.mv (.k (.int .i64 1048576))), no⟩]) (.seq 
 (.reg [⟨some 12, (.ld true 2 (.t 2)), no⟩, ⟨some 13, (.mv (.t 5)), no⟩, ⟨some 14, (.call (.k (.fn (.func 15) [] [])) [(.t 12), (.t 13)]), no⟩, ⟨some 5, (.mv (.t 14)), no⟩]) (.seq (.seq 
 (.reg [⟨some 15, (.mv (.t 5)), no⟩, ⟨some 16, (.bin .lss (.t 15) (.k (.int .i64 0))), no⟩]) (.cond (.t 16) (.seq 
 (.reg [⟨some 4, (.mv (.k (.bool true))), no⟩]) .ret) .skip)) (.seq 
 (.reg [⟨some 17, (.ld true 2 (.t 2)), no⟩, ⟨some 18, (.call (.k (.fn (.func 17) [] [])) [(.t 17)]), no⟩, ⟨some 19, (.mv (.t 1)), no⟩, ⟨some 20, (.call (.k (.fn (.func 21) [] [])) [(.t 18), (.t 19)]), no⟩, ⟨some 6, (.mv (.t 20)), no⟩]) (.seq 
 (.reg [⟨some 21, (.ld true 2 (.t 2)), no⟩, ⟨some 22, (.call (.k (.fn (.func 17) [] [])) [(.t 21)]), no⟩, ⟨some 7, (.box [(.nil 4), (.nil 7)]), no⟩, ⟨no, (.st 2 (.t 7) (.t 22)), no⟩]) (.seq 
 (.reg [⟨some 23, (.ld true 2 (.t 7)), no⟩, ⟨some 24, (.mv (.t 1)), no⟩, ⟨some 25, (.call (.k (.fn (.func 22) [] [])) [(.t 23), (.t 24)]), no⟩, ⟨some 8, (.mv (.t 25)), no⟩]) (.seq (.seq 
 (.reg [⟨some 26, (.mv (.t 8)), no⟩, ⟨some 27, (.mv (.t 6)), no⟩, ⟨some 28, (.beq true (.t 26) (.t 27)), no⟩]) (.cond (.t 28) (.seq 
 (.reg [⟨some 4, (.mv (.k (.bool false))), no⟩]) .ret) .skip)) (.seq (.seq (.draw (.op ⟨some 29, (.ld true 2 (.t 7)), no⟩ (.op ⟨some 30, (.ld true 2 (.t 2)), no⟩ (.op ⟨some 31, (.call (.k (.fn (.func 17) [] [])) [(.t 30)]), no⟩ (.op ⟨some 32, (.call (.k (.fn (.func 20) [] [])) [(.t 29), (.t 31)]), no⟩ (.op ⟨some 33, (.un .not (.t 32)), no⟩ .fin)))))) (.cond (.t 33) (.seq 
 (.reg [⟨some 4, (.mv (.k (.bool false))), no⟩]) .ret) .skip)) (.seq 
 (.reg [⟨some 4, (.mv (.k (.bool true))), no⟩]) .ret)))))))))))⟩
theorem a4_ok : compFn Tryz.prog Tryz.f4 = some a4 := by kernel_rfl



set_option maxRecDepth 20000 in
set_option maxHeartbeats 2000000 in
theorem law_IsRecursive (p : DProgram) (name : Str) : Holds Tryz.prog 4 [.agg (rAProgram p), .str name] (fun x => x = .bool true) := by
  refine holds_of_run Tryz.func4 a4_ok rfl (by simp [a4]) ?_
  simp [a4, rAProgram]
  intro _ _
  first | refine callD_of (k_szProgram p 1048576 (by omega)) (by simp [rAProgram]) ?_ | refine call_of (k_szProgram p 1048576 (by omega)) (by simp [rAProgram]) ?_ | refine callD_of (k_szProgram p 1048576 (by omega)) rfl ?_ | refine call_of (k_szProgram p 1048576 (by omega)) rfl ?_
  rintro r rfl
  by_cases h1 : 1048576 - (wProgram p : Int) < 0
  · simp [sub1, h1]
  simp [sub1, h1]
  have hw1 : wProgram p ≤ 1048576 := by omega
  first | refine callD_of (k_toProgram p hw1) (by simp [rAProgram, rUProgram]) ?_ | refine call_of (k_toProgram p hw1) (by simp [rAProgram, rUProgram]) ?_ | refine callD_of (k_toProgram p hw1) rfl ?_ | refine call_of (k_toProgram p hw1) rfl ?_
  rintro r rfl
  simp [rAProgram, rUProgram]
  first | refine callD_of (ks_IsRecursive p hw1 name) (by simp [rAProgram, rUProgram]) ?_ | refine call_of (ks_IsRecursive p hw1 name) (by simp [rAProgram, rUProgram]) ?_ | refine callD_of (ks_IsRecursive p hw1 name) rfl ?_ | refine call_of (ks_IsRecursive p hw1 name) rfl ?_
  rintro r rfl
  simp [rAProgram, rUProgram]
  first | refine callD_of (k_toProgram p hw1) (by simp [rAProgram, rUProgram]) ?_ | refine call_of (k_toProgram p hw1) (by simp [rAProgram, rUProgram]) ?_ | refine callD_of (k_toProgram p hw1) rfl ?_ | refine call_of (k_toProgram p hw1) rfl ?_
  rintro r rfl
  simp [rAProgram, rUProgram]
  first | refine callD_of (k_IsRecursive p hw1 name) (by simp [rAProgram, rUProgram]) ?_ | refine call_of (k_IsRecursive p hw1 name) (by simp [rAProgram, rUProgram]) ?_ | refine callD_of (k_IsRecursive p hw1 name) rfl ?_ | refine call_of (k_IsRecursive p hw1 name) rfl ?_
  rintro r rfl
  simp [rAProgram, rUProgram]
  first | refine callD_of (k_toProgram p hw1) (by simp [rAProgram, rUProgram]) ?_ | refine call_of (k_toProgram p hw1) (by simp [rAProgram, rUProgram]) ?_ | refine callD_of (k_toProgram p hw1) rfl ?_ | refine call_of (k_toProgram p hw1) rfl ?_
  rintro r rfl
  simp [rAProgram, rUProgram]
  first | refine callD_of (k_eqProgram p p) (by simp [rAProgram, rUProgram]) ?_ | refine call_of (k_eqProgram p p) (by simp [rAProgram, rUProgram]) ?_ | refine callD_of (k_eqProgram p p) rfl ?_ | refine call_of (k_eqProgram p p) rfl ?_
  rintro r rfl
  simp [rAProgram, rUProgram]
end Go.Proofs.YtlmajgghnenbpaaGreat

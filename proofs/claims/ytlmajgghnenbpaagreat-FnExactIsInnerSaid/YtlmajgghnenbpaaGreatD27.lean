/- The body of FnExactIsInner. -/
import Derived.Test.YtlmajgghnenbpaaGreatE7
import Derived.Test.YtlmajgghnenbpaaGreatT2B
import Derived.Test.YtlmajgghnenbpaaGreatT2C
namespace Go.Proofs.YtlmajgghnenbpaaGreat
set_option linter.all false
open Go Go.RowKit Go.Proofs
def a3 : AFn :=
⟨33, [(.t 4)], (.seq 
 (.reg [⟨some 2, (.boxv (.t 0)), no⟩, ⟨some 3, (.boxv (.t 1)), no⟩, ⟨some 4, (.mv (.k (.bool false))), no⟩]) (.seq 
 (.reg [⟨some 5, (.mv (.k (.int .i64 1048576))), no⟩]) (.seq 
 (.reg [⟨some 9, (.ld true 2 (.t 2)), no⟩, ⟨some 10, (.mv (.t 5)), no⟩, ⟨some 11, (.call (.k (.fn (.func 15) [] [])) [(.t 9), (.t 10)]), no⟩, ⟨some 5, (.mv (.t 11)), no⟩]) (.seq (.seq 
 (.reg [⟨some 12, (.mv (.t 5)), no⟩, ⟨some 13, (.bin .lss (.t 12) (.k (.int .i64 0))), no⟩]) (.cond (.t 13) (.seq 
 (.reg [⟨some 4, (.mv (.k (.bool true))), no⟩]) .ret) .skip)) (.seq (.draw (.op ⟨some 14, (.ld true 2 (.t 2)), no⟩ (.op ⟨some 16, (.ld true 2 (.t 3)), no⟩ (.op ⟨some 15, (.call (.k (.fn (.func 17) [] [])) [(.t 14)]), no⟩ (.op ⟨some 17, (.call (.k (.fn (.func 18) [] [])) [(.t 16)]), no⟩ (.op ⟨some 18, (.call (.k (.fn (.func 16) [] [])) [(.t 15), (.t 17)]), no⟩ (.op ⟨some 6, (.mv (.t 18)), no⟩ .fin))))))) (.seq 
 (.reg [⟨some 19, (.ld true 2 (.t 2)), no⟩, ⟨some 20, (.call (.k (.fn (.func 17) [] [])) [(.t 19)]), no⟩, ⟨some 7, (.box [(.nil 4), (.nil 7)]), no⟩, ⟨no, (.st 2 (.t 7) (.t 20)), no⟩]) (.seq (.draw (.op ⟨some 21, (.ld true 2 (.t 7)), no⟩ (.op ⟨some 22, (.ld true 2 (.t 3)), no⟩ (.op ⟨some 23, (.call (.k (.fn (.func 18) [] [])) [(.t 22)]), no⟩ (.op ⟨some 24, (.call (.k (.fn (.func 19) [] [])) [(.t 21), (.t 23)]), no⟩ (.op ⟨some 8, (.mv (.t 24)), no⟩ .fin)))))) (.seq (.seq 
 (.reg [⟨some 25, (.mv (.t 8)), no⟩, ⟨some 26, (.mv (.t 6)), no⟩, ⟨some 27, (.beq true (.t 25) (.t 26)), no⟩]) (.cond (.t 27) (.seq 
 (.reg [⟨some 4, (.mv (.k (.bool false))), no⟩]) .ret) .skip)) (.seq (.seq (.draw (.op ⟨some 28, (.ld true 2 (.t 7)), no⟩ (.op ⟨some 29, (.ld true 2 (.t 2)), no⟩ (.op ⟨some 30, (.call (.k (.fn (.func 17) [] [])) [(.t 29)]), no⟩ (.op ⟨some 31, (.call (.k (.fn (.func 20) [] [])) [(.t 28), (.t 30)]), no⟩ (.op ⟨some 32, (.un .not (.t 31)), no⟩ .fin)))))) (.cond (.t 32) (.seq 
 (.reg [⟨some 4, (.mv (.k (.bool false))), no⟩]) .ret) .skip)) (.seq 
 (.reg [⟨some 4, (.mv (.k (.bool true))), no⟩]) .ret))))))))))⟩
theorem a3_ok : compFn Tryz.prog Tryz.f3 = some a3 := by kernel_rfl



set_option maxRecDepth 20000 in
set_option maxHeartbeats 2000000 in
theorem law_IsInner (p : DProgram) (e : DEdge) : Holds Tryz.prog 3 [.agg (rAProgram p), .agg (rAEdge e)] (fun x => x = .bool true) := by
  have hwe : wEdge e ≤ 1048576 := by unfold wEdge; omega
  refine holds_of_run Tryz.func3 a3_ok rfl (by simp [a3]) ?_
  simp [a3, rAProgram, rAEdge]
  first | refine callD_of (k_szProgram p 1048576 (by omega)) (by simp [rAProgram]) ?_ | refine call_of (k_szProgram p 1048576 (by omega)) (by simp [rAProgram]) ?_ | refine callD_of (k_szProgram p 1048576 (by omega)) rfl ?_ | refine call_of (k_szProgram p 1048576 (by omega)) rfl ?_
  rintro r rfl
  by_cases h1 : 1048576 - (wProgram p : Int) < 0
  · simp [sub1, h1]
  simp [sub1, h1]
  have hw1 : wProgram p ≤ 1048576 := by omega
  first | refine callD_of (k_toProgram p hw1) (by simp [rAProgram, rUProgram]) ?_ | refine call_of (k_toProgram p hw1) (by simp [rAProgram, rUProgram]) ?_ | refine callD_of (k_toProgram p hw1) rfl ?_ | refine call_of (k_toProgram p hw1) rfl ?_
  rintro r rfl
  simp [rAProgram, rUProgram]
  first | refine callD_of (k_toEdge e hwe) (by simp [rAEdge, rUEdge]) ?_ | refine call_of (k_toEdge e hwe) (by simp [rAEdge, rUEdge]) ?_ | refine callD_of (k_toEdge e hwe) rfl ?_ | refine call_of (k_toEdge e hwe) rfl ?_
  rintro r rfl
  simp [rAEdge, rUEdge]
  first | refine callD_of (ks_IsInner p hw1 e) (by simp [rAProgram, rUProgram, rAEdge, rUEdge]) ?_ | refine call_of (ks_IsInner p hw1 e) (by simp [rAProgram, rUProgram, rAEdge, rUEdge]) ?_ | refine callD_of (ks_IsInner p hw1 e) rfl ?_ | refine call_of (ks_IsInner p hw1 e) rfl ?_
  rintro r rfl
  simp [rAProgram, rUProgram, rAEdge, rUEdge]
  first | refine callD_of (k_toProgram p hw1) (by simp [rAProgram, rUProgram]) ?_ | refine call_of (k_toProgram p hw1) (by simp [rAProgram, rUProgram]) ?_ | refine callD_of (k_toProgram p hw1) rfl ?_ | refine call_of (k_toProgram p hw1) rfl ?_
  rintro r rfl
  simp [rAProgram, rUProgram]
  first | refine callD_of (k_toEdge e hwe) (by simp [rAEdge, rUEdge]) ?_ | refine call_of (k_toEdge e hwe) (by simp [rAEdge, rUEdge]) ?_ | refine callD_of (k_toEdge e hwe) rfl ?_ | refine call_of (k_toEdge e hwe) rfl ?_
  rintro r rfl
  simp [rAEdge, rUEdge]
  first | refine callD_of (k_IsInner p hw1 e) (by simp [rAProgram, rUProgram, rAEdge, rUEdge]) ?_ | refine call_of (k_IsInner p hw1 e) (by simp [rAProgram, rUProgram, rAEdge, rUEdge]) ?_ | refine callD_of (k_IsInner p hw1 e) rfl ?_ | refine call_of (k_IsInner p hw1 e) rfl ?_
  rintro r rfl
  simp [rAProgram, rUProgram, rAEdge, rUEdge]
  first | refine callD_of (k_toProgram p hw1) (by simp [rAProgram, rUProgram]) ?_ | refine call_of (k_toProgram p hw1) (by simp [rAProgram, rUProgram]) ?_ | refine callD_of (k_toProgram p hw1) rfl ?_ | refine call_of (k_toProgram p hw1) rfl ?_
  rintro r rfl
  simp [rAProgram, rUProgram]
  first | refine callD_of (k_eqProgram p p) (by simp [rAProgram, rUProgram]) ?_ | refine call_of (k_eqProgram p p) (by simp [rAProgram, rUProgram]) ?_ | refine callD_of (k_eqProgram p p) rfl ?_ | refine call_of (k_eqProgram p p) rfl ?_
  rintro r rfl
  simp [rAProgram, rUProgram]
end Go.Proofs.YtlmajgghnenbpaaGreat

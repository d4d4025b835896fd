/- The body of FnExactIsValidRule. -/
import Derived.Test.YtlbdgpkgmheikaaGreatV7S
import Derived.Test.YtlbdgpkgmheikaaGreatT2B
namespace Go.Proofs.YtlbdgpkgmheikaaGreat
set_option linter.all false
open Go Go.RowKit Go.Proofs
def a3 : AFn :=
⟨45, [(.t 4)], (.seq 
 (.reg [⟨some 2, (.boxv (.t 0)), no⟩, ⟨some 3, (.boxv (.t 1)), no⟩, ⟨some 4, (.mv (.k (.bool false))), no⟩]) (.seq 
 (.reg [⟨some 5, (.mv (.k (.int .i64 1048576))), no⟩]) (.seq 
 (.reg [⟨some 10, (.ld true 2 (.t 2)), no⟩, ⟨some 11, (.mv (.t 5)), no⟩, ⟨some 12, (.call (.k (.fn (.func 5) [] [])) [(.t 10), (.t 11)]), no⟩, ⟨some 5, (.mv (.t 12)), no⟩]) (.seq (.seq 
 (.reg [⟨some 13, (.mv (.t 5)), no⟩, ⟨some 14, (.bin .lss (.t 13) (.k (.int .i64 0))), no⟩]) (.cond (.t 14) (.seq 
 (.reg [⟨some 4, (.mv (.k (.bool true))), no⟩]) .ret) .skip)) (.seq 
 (.reg [⟨some 15, (.ld true 7 (.t 3)), no⟩, ⟨some 16, (.mv (.t 5)), no⟩, ⟨some 17, (.call (.k (.fn (.func 6) [] [])) [(.t 15), (.t 16)]), no⟩, ⟨some 5, (.mv (.t 17)), no⟩]) (.seq (.seq 
 (.reg [⟨some 18, (.mv (.t 5)), no⟩, ⟨some 19, (.bin .lss (.t 18) (.k (.int .i64 0))), no⟩]) (.cond (.t 19) (.seq 
 (.reg [⟨some 4, (.mv (.k (.bool true))), no⟩]) .ret) .skip)) (.seq (.draw (.op ⟨some 20, (.ld true 2 (.t 2)), no⟩ (.op ⟨some 22, (.ld true 7 (.t 3)), no⟩ (.op ⟨some 21, (.call (.k (.fn (.func 8) [] [])) [(.t 20)]), no⟩ (.op ⟨some 23, (.call (.k (.fn (.func 9) [] [])) [(.t 22)]), no⟩ (.op ⟨some 24, (.call (.k (.fn (.func 7) [] [])) [(.t 21), (.t 23)]), no⟩ (.op ⟨some 6, (.mv (.t 24)), no⟩ .fin))))))) (.seq 
 (.reg [⟨some 25, (.ld true 2 (.t 2)), no⟩, ⟨some 26, (.call (.k (.fn (.func 8) [] [])) [(.t 25)]), no⟩, ⟨some 7, (.box [(.nil 4), (.nil 7)]), no⟩, ⟨no, (.st 2 (.t 7) (.t 26)), no⟩]) (.seq 
 (.reg [⟨some 27, (.ld true 7 (.t 3)), no⟩, ⟨some 28, (.call (.k (.fn (.func 9) [] [])) [(.t 27)]), no⟩, ⟨some 8, (.box [(.str []), (.nil 4), (.nil 2), (.nil 3), (.bool false), (.nil 2), (.str [])]), no⟩, ⟨no, (.st 7 (.t 8) (.t 28)), no⟩]) (.seq 
 (.reg [⟨some 29, (.ld true 2 (.t 7)), no⟩, ⟨some 30, (.ld true 7 (.t 8)), no⟩, ⟨some 31, (.call (.k (.fn (.func 10) [] [])) [(.t 29), (.t 30)]), no⟩, ⟨some 9, (.mv (.t 31)), no⟩]) (.seq (.seq 
 (.reg [⟨some 32, (.mv (.t 9)), no⟩, ⟨some 33, (.mv (.t 6)), no⟩, ⟨some 34, (.beq true (.t 32) (.t 33)), no⟩]) (.cond (.t 34) (.seq 
 (.reg [⟨some 4, (.mv (.k (.bool false))), no⟩]) .ret) .skip)) (.seq (.seq (.draw (.op ⟨some 35, (.ld true 2 (.t 7)), no⟩ (.op ⟨some 36, (.ld true 2 (.t 2)), no⟩ (.op ⟨some 37, (.call (.k (.fn (.func 8) [] [])) [(.t 36)]), no⟩ (.op ⟨some 38, (.call (.k (.fn (.func 11) [] [])) [(.t 35), (.t 37)]), no⟩ (.op ⟨some 39, (.un .not (.t 38)), no⟩ .fin)))))) (.cond (.t 39) (.seq 
 (.reg [⟨some 4, (.mv (.k (.bool false))), no⟩]) .ret) .skip)) (.seq (.seq (.draw (.op ⟨some 40, (.ld true 7 (.t 8)), no⟩ (.op ⟨some 41, (.ld true 7 (.t 3)), no⟩ (.op ⟨some 42, (.call (.k (.fn (.func 9) [] [])) [(.t 41)]), no⟩ (.op ⟨some 43, (.call (.k (.fn (.func 12) [] [])) [(.t 40), (.t 42)]), no⟩ (.op ⟨some 44, (.un .not (.t 43)), no⟩ .fin)))))) (.cond (.t 44) (.seq 
 (.reg [⟨some 4, (.mv (.k (.bool false))), no⟩]) .ret) .skip)) (.seq 
 (.reg [⟨some 4, (.mv (.k (.bool true))), no⟩]) .ret))))))))))))))⟩
theorem a3_ok : compFn Tryz.prog Tryz.f3 = some a3 := by kernel_rfl



set_option maxRecDepth 20000 in
set_option maxHeartbeats 2000000 in
theorem law_IsValidRule (p : DProgram) (r : DRule) : Holds Tryz.prog 3 [.agg (rAProgram p), .agg (rARule r)] (fun x => x = .bool true) := by
  refine holds_of_run Tryz.func3 a3_ok rfl (by simp [a3]) ?_
  simp [a3, rAProgram, rARule]
  first | refine callD_of (k_szProgram p 1048576 (by omega)) (by simp [rAProgram]) ?_ | refine call_of (k_szProgram p 1048576 (by omega)) (by simp [rAProgram]) ?_ | refine callD_of (k_szProgram p 1048576 (by omega)) rfl ?_ | refine call_of (k_szProgram p 1048576 (by omega)) rfl ?_
  rintro r rfl
  by_cases h1 : 1048576 - (wProgram p : Int) < 0
  · simp [sub1, h1]
  simp [sub1, h1]
  first | refine callD_of (k_szRule r (1048576 - (wProgram p : Int)) (by omega)) (by simp [rARule]) ?_ | refine call_of (k_szRule r (1048576 - (wProgram p : Int)) (by omega)) (by simp [rARule]) ?_ | refine callD_of (k_szRule r (1048576 - (wProgram p : Int)) (by omega)) rfl ?_ | refine call_of (k_szRule r (1048576 - (wProgram p : Int)) (by omega)) rfl ?_
  rintro r rfl
  by_cases h2 : 1048576 - (wProgram p : Int) - (wRule r : Int) < 0
  · simp [sub1, h2]
  simp [sub1, h2]
  have hw1 : wProgram p ≤ 1048576 := by omega
  have hw2 : wRule r ≤ 1048576 := by omega
  first | refine callD_of (k_toProgram p hw1) (by simp [rAProgram, rUProgram]) ?_ | refine call_of (k_toProgram p hw1) (by simp [rAProgram, rUProgram]) ?_ | refine callD_of (k_toProgram p hw1) rfl ?_ | refine call_of (k_toProgram p hw1) rfl ?_
  rintro r rfl
  simp [rAProgram, rUProgram]
  first | refine callD_of (k_toRule r hw2) (by simp [rARule, rURule]) ?_ | refine call_of (k_toRule r hw2) (by simp [rARule, rURule]) ?_ | refine callD_of (k_toRule r hw2) rfl ?_ | refine call_of (k_toRule r hw2) rfl ?_
  rintro r rfl
  simp [rARule, rURule]
  first | refine callD_of (ks_IsValidRule p r hw1 hw2) (by simp [rAProgram, rUProgram, rARule, rURule]) ?_ | refine call_of (ks_IsValidRule p r hw1 hw2) (by simp [rAProgram, rUProgram, rARule, rURule]) ?_ | refine callD_of (ks_IsValidRule p r hw1 hw2) rfl ?_ | refine call_of (ks_IsValidRule p r hw1 hw2) rfl ?_
  rintro r rfl
  simp [rAProgram, rUProgram, rARule, rURule]
  first | refine callD_of (k_toProgram p hw1) (by simp [rAProgram, rUProgram]) ?_ | refine call_of (k_toProgram p hw1) (by simp [rAProgram, rUProgram]) ?_ | refine callD_of (k_toProgram p hw1) rfl ?_ | refine call_of (k_toProgram p hw1) rfl ?_
  rintro r rfl
  simp [rAProgram, rUProgram]
  first | refine callD_of (k_toRule r hw2) (by simp [rARule, rURule]) ?_ | refine call_of (k_toRule r hw2) (by simp [rARule, rURule]) ?_ | refine callD_of (k_toRule r hw2) rfl ?_ | refine call_of (k_toRule r hw2) rfl ?_
  rintro r rfl
  simp [rARule, rURule]
  first | refine callD_of (k_IsValidRule p r hw1 hw2) (by simp [rAProgram, rUProgram, rARule, rURule]) ?_ | refine call_of (k_IsValidRule p r hw1 hw2) (by simp [rAProgram, rUProgram, rARule, rURule]) ?_ | refine callD_of (k_IsValidRule p r hw1 hw2) rfl ?_ | refine call_of (k_IsValidRule p r hw1 hw2) rfl ?_
  rintro r rfl
  simp [rAProgram, rUProgram, rARule, rURule]
  first | refine callD_of (k_toProgram p hw1) (by simp [rAProgram, rUProgram]) ?_ | refine call_of (k_toProgram p hw1) (by simp [rAProgram, rUProgram]) ?_ | refine callD_of (k_toProgram p hw1) rfl ?_ | refine call_of (k_toProgram p hw1) rfl ?_
  rintro r rfl
  simp [rAProgram, rUProgram]
  first | refine callD_of (k_eqProgram p p) (by simp [rAProgram, rUProgram]) ?_ | refine call_of (k_eqProgram p p) (by simp [rAProgram, rUProgram]) ?_ | refine callD_of (k_eqProgram p p) rfl ?_ | refine call_of (k_eqProgram p p) rfl ?_
  rintro r rfl
  simp [rAProgram, rUProgram]
  first | refine callD_of (k_toRule r hw2) (by simp [rARule, rURule]) ?_ | refine call_of (k_toRule r hw2) (by simp [rARule, rURule]) ?_ | refine callD_of (k_toRule r hw2) rfl ?_ | refine call_of (k_toRule r hw2) rfl ?_
  rintro r rfl
  simp [rARule, rURule]
  first | refine callD_of (k_eqRule r r) (by simp [rARule, rURule]) ?_ | refine call_of (k_eqRule r r) (by simp [rARule, rURule]) ?_ | refine callD_of (k_eqRule r r) rfl ?_ | refine call_of (k_eqRule r r) rfl ?_
  rintro r rfl
  simp [rARule, rURule]
end Go.Proofs.YtlbdgpkgmheikaaGreat

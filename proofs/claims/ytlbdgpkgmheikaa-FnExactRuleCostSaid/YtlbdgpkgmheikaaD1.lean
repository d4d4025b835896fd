/- The body of FnExactRuleCost. -/
import Derived.Test.YtlbdgpkgmheikaaT2
import Derived.Test.YtlbdgpkgmheikaaC2
namespace Go.Proofs.Ytlbdgpkgmheikaa
open Go Go.RowKit Go.Proofs
def a4 : AFn :=
⟨31, [(.t 4)], (.seq 
 (.reg [⟨some 2, (.boxv (.t 0)), no⟩, ⟨some 4, (.mv (.k (.bool false))), no⟩]) (.seq 
 (.reg [⟨some 5, (.mv (.k (.int .i64 1048576))), no⟩]) (.seq 
 (.reg [⟨some 9, (.ld true 7 (.t 2)), no⟩, ⟨some 10, (.mv (.t 5)), no⟩, ⟨some 11, (.call (.k (.fn (.func 24) [] [])) [(.t 9), (.t 10)]), no⟩, ⟨some 5, (.mv (.t 11)), no⟩]) (.seq (.seq 
 (.reg [⟨some 12, (.mv (.t 5)), no⟩, ⟨some 13, (.bin .lss (.t 12) (.k (.int .i64 0))), no⟩]) (.cond (.t 13) (.seq 
 (.reg [⟨some 4, (.mv (.k (.bool true))), no⟩]) .ret) .skip)) (.seq 
 (.reg [⟨some 14, (.ld true 7 (.t 2)), no⟩, ⟨some 15, (.call (.k (.fn (.func 26) [] [])) [(.t 14)]), no⟩, ⟨some 16, (.mv (.t 1)), no⟩, ⟨some 17, (.call (.k (.fn (.func 25) [] [])) [(.t 15), (.t 16)]), no⟩, ⟨some 6, (.mv (.t 17)), no⟩]) (.seq 
 (.reg [⟨some 18, (.ld true 7 (.t 2)), no⟩, ⟨some 19, (.call (.k (.fn (.func 26) [] [])) [(.t 18)]), no⟩, ⟨some 7, (.box [(.str []), (.nil 4), (.nil 2), (.nil 3), (.bool false), (.nil 2), (.str [])]), no⟩, ⟨no, (.st 7 (.t 7) (.t 19)), no⟩]) (.seq 
 (.reg [⟨some 20, (.ld true 7 (.t 7)), no⟩, ⟨some 21, (.mv (.t 1)), no⟩, ⟨some 22, (.call (.k (.fn (.func 27) [] [])) [(.t 20), (.t 21)]), no⟩, ⟨some 8, (.mv (.t 22)), no⟩]) (.seq (.seq 
 (.reg [⟨some 23, (.mv (.t 8)), no⟩, ⟨some 24, (.mv (.t 6)), no⟩, ⟨some 25, (.bin .neq (.t 23) (.t 24)), no⟩]) (.cond (.t 25) (.seq 
 (.reg [⟨some 4, (.mv (.k (.bool false))), no⟩]) .ret) .skip)) (.seq (.seq (.draw (.op ⟨some 26, (.ld true 7 (.t 7)), no⟩ (.op ⟨some 27, (.ld true 7 (.t 2)), no⟩ (.op ⟨some 28, (.call (.k (.fn (.func 26) [] [])) [(.t 27)]), no⟩ (.op ⟨some 29, (.call (.k (.fn (.func 28) [] [])) [(.t 26), (.t 28)]), no⟩ (.op ⟨some 30, (.un .not (.t 29)), no⟩ .fin)))))) (.cond (.t 30) (.seq 
 (.reg [⟨some 4, (.mv (.k (.bool false))), no⟩]) .ret) .skip)) (.seq 
 (.reg [⟨some 4, (.mv (.k (.bool true))), no⟩]) .ret))))))))))⟩
theorem a4_ok : compFn Try.prog Try.f4 = some a4 := by kernel_rfl



theorem sub_small {w : Nat} (h : ¬ (1048576 - (w : Int) < 0)) : w ≤ 1048576 := by omega

set_option maxRecDepth 20000 in
theorem law_RuleCost (r : DRule) (kind : Int) : Holds Try.prog 4 [.agg (rARule r), i64 kind] (fun x => x = .bool true) := by
  refine holds_of_run Try.func4 a4_ok rfl (by simp [a4]) ?_
  simp [a4, rARule]
  first | refine callD_of (k_szRule r 1048576 (by omega)) (by simp [rARule]) ?_ | refine call_of (k_szRule r 1048576 (by omega)) (by simp [rARule]) ?_ | refine callD_of (k_szRule r 1048576 (by omega)) rfl ?_ | refine call_of (k_szRule r 1048576 (by omega)) rfl ?_
  rintro r rfl
  by_cases h1 : 1048576 - (wRule r : Int) < 0
  · simp [sub1, h1]
  have hw : wRule r ≤ 1048576 := by omega
  simp [sub1, h1]
  first | refine callD_of (k_toRule r hw) (by simp [rARule, rURule]) ?_ | refine call_of (k_toRule r hw) (by simp [rARule, rURule]) ?_ | refine callD_of (k_toRule r hw) rfl ?_ | refine call_of (k_toRule r hw) rfl ?_
  rintro r rfl
  simp [rARule, rURule]
  first | refine callD_of (ks_RuleCost r kind hw) (by simp [rARule]) ?_ | refine call_of (ks_RuleCost r kind hw) (by simp [rARule]) ?_ | refine callD_of (ks_RuleCost r kind hw) rfl ?_ | refine call_of (ks_RuleCost r kind hw) rfl ?_
  rintro r rfl
  simp [rARule]
  first | refine callD_of (k_toRule r hw) (by simp [rARule, rURule]) ?_ | refine call_of (k_toRule r hw) (by simp [rARule, rURule]) ?_ | refine callD_of (k_toRule r hw) rfl ?_ | refine call_of (k_toRule r hw) rfl ?_
  rintro r rfl
  simp [rARule, rURule]
  first | refine callD_of (k_RuleCost r kind hw) (by simp [rARule]) ?_ | refine call_of (k_RuleCost r kind hw) (by simp [rARule]) ?_ | refine callD_of (k_RuleCost r kind hw) rfl ?_ | refine call_of (k_RuleCost r kind hw) rfl ?_
  rintro r rfl
  simp [rARule]
  first | refine callD_of (k_toRule r hw) (by simp [rARule, rURule]) ?_ | refine call_of (k_toRule r hw) (by simp [rARule, rURule]) ?_ | refine callD_of (k_toRule r hw) rfl ?_ | refine call_of (k_toRule r hw) rfl ?_
  rintro r rfl
  simp [rARule, rURule]
  first | refine callD_of (k_eqRule r r) (by simp [rARule]) ?_ | refine call_of (k_eqRule r r) (by simp [rARule]) ?_ | refine callD_of (k_eqRule r r) rfl ?_ | refine call_of (k_eqRule r r) rfl ?_
  rintro r rfl
  simp [rARule]
end Go.Proofs.Ytlbdgpkgmheikaa

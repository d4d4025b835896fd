/- The body of FnExactMeetsPre. -/
import Derived.Test.YtlmajgghnenbpaaGreatP3
import Derived.Test.YtlmajgghnenbpaaGreatT2B
import Derived.Test.YtlmajgghnenbpaaGreatT2C
namespace Go.Proofs.YtlmajgghnenbpaaGreat
set_option linter.all false
open Go Go.RowKit Go.Proofs
def a6 : AFn :=
⟨52, [(.t 6)], (.seq 
 (.reg [⟨some 3, (.boxv (.t 0)), no⟩, ⟨some 6, (.mv (.k (.bool false))), no⟩]) (.seq (.seq 
 (.reg [⟨some 12, (.mv (.t 1)), no⟩, ⟨some 13, (.len true (.t 12)), no⟩, ⟨some 14, (.bin .gtr (.t 13) (.k (.int .i64 1048576))), no⟩]) (.cond (.t 14) (.seq 
 (.reg [⟨some 6, (.mv (.k (.bool true))), no⟩]) .ret) .skip)) (.seq 
 (.reg [⟨some 7, (.mv (.k (.int .i64 1048576))), no⟩]) (.seq 
 (.reg [⟨some 15, (.ld true 2 (.t 3)), no⟩, ⟨some 16, (.mv (.t 7)), no⟩, ⟨some 17, (.call (.k (.fn (.func 15) [] [])) [(.t 15), (.t 16)]), no⟩, ⟨some 7, (.mv (.t 17)), no⟩]) (.seq (.seq 
 (.reg [⟨some 18, (.mv (.t 7)), no⟩, ⟨some 19, (.bin .lss (.t 18) (.k (.int .i64 0))), no⟩]) (.cond (.t 19) (.seq 
 (.reg [⟨some 6, (.mv (.k (.bool true))), no⟩]) .ret) .skip)) (.seq 
 (.reg [⟨some 20, (.mv (.t 2)), no⟩, ⟨some 21, (.mv (.t 7)), no⟩, ⟨some 22, (.call (.k (.fn (.func 29) [] [])) [(.t 20), (.t 21)]), no⟩, ⟨some 7, (.mv (.t 22)), no⟩]) (.seq (.seq 
 (.reg [⟨some 23, (.mv (.t 7)), no⟩, ⟨some 24, (.bin .lss (.t 23) (.k (.int .i64 0))), no⟩]) (.cond (.t 24) (.seq 
 (.reg [⟨some 6, (.mv (.k (.bool true))), no⟩]) .ret) .skip)) (.seq 
 (.reg [⟨some 25, (.ld true 2 (.t 3)), no⟩, ⟨some 26, (.call (.k (.fn (.func 17) [] [])) [(.t 25)]), no⟩, ⟨some 27, (.mv (.t 1)), no⟩, ⟨some 28, (.mv (.t 2)), no⟩, ⟨some 29, (.call (.k (.fn (.func 31) [] [])) [(.t 28)]), no⟩, ⟨some 30, (.call (.k (.fn (.func 30) [] [])) [(.t 26), (.t 27), (.t 29)]), no⟩, ⟨some 8, (.mv (.t 30)), no⟩]) (.seq 
 (.reg [⟨some 31, (.ld true 2 (.t 3)), no⟩, ⟨some 32, (.call (.k (.fn (.func 17) [] [])) [(.t 31)]), no⟩, ⟨some 9, (.box [(.nil 4), (.nil 7)]), no⟩, ⟨no, (.st 2 (.t 9) (.t 32)), no⟩]) (.seq 
 (.reg [⟨some 33, (.mv (.t 2)), no⟩, ⟨some 34, (.call (.k (.fn (.func 31) [] [])) [(.t 33)]), no⟩, ⟨some 10, (.mv (.t 34)), no⟩]) (.seq 
 (.reg [⟨some 35, (.ld true 2 (.t 9)), no⟩, ⟨some 36, (.mv (.t 1)), no⟩, ⟨some 37, (.mv (.t 10)), no⟩, ⟨some 38, (.call (.k (.fn (.func 32) [] [])) [(.t 35), (.t 36), (.t 37)]), no⟩, ⟨some 11, (.mv (.t 38)), no⟩]) (.seq (.seq 
 (.reg [⟨some 39, (.mv (.t 11)), no⟩, ⟨some 40, (.mv (.t 8)), no⟩, ⟨some 41, (.beq true (.t 39) (.t 40)), no⟩]) (.cond (.t 41) (.seq 
 (.reg [⟨some 6, (.mv (.k (.bool false))), no⟩]) .ret) .skip)) (.seq (.seq (.draw (.op ⟨some 42, (.ld true 2 (.t 9)), no⟩ (.op ⟨some 43, (.ld true 2 (.t 3)), no⟩ (.op ⟨some 44, (.call (.k (.fn (.func 17) [] [])) [(.t 43)]), no⟩ (.op ⟨some 45, (.call (.k (.fn (.func 20) [] [])) [(.t 42), (.t 44)]), no⟩ (.op ⟨some 46, (.un .not (.t 45)), no⟩ .fin)))))) (.cond (.t 46) (.seq 
 (.reg [⟨some 6, (.mv (.k (.bool false))), no⟩]) .ret) .skip)) (.seq (.seq 
 (.reg [⟨some 47, (.mv (.t 10)), no⟩, ⟨some 48, (.mv (.t 2)), no⟩, ⟨some 49, (.call (.k (.fn (.func 31) [] [])) [(.t 48)]), no⟩, ⟨some 50, (.call (.k (.fn (.func 33) [] [])) [(.t 47), (.t 49)]), no⟩, ⟨some 51, (.un .not (.t 50)), no⟩]) (.cond (.t 51) (.seq 
 (.reg [⟨some 6, (.mv (.k (.bool false))), no⟩]) .ret) .skip)) (.seq 
 (.reg [⟨some 6, (.mv (.k (.bool true))), no⟩]) .ret)))))))))))))))⟩
theorem a6_ok : compFn Tryz.prog Tryz.f6 = some a6 := by kernel_rfl



set_option maxRecDepth 20000 in
set_option maxHeartbeats 2000000 in
theorem law_MeetsPre (p : DProgram) (name : Str) (vs : List DValue) : Holds Tryz.prog 6 [.agg (rAProgram p), .str name, .sl 3 (vs.map rAValue)] (fun x => x = .bool true) := by
  refine holds_of_run Tryz.func6 a6_ok rfl (by simp [a6]) ?_
  simp [a6, rAProgram]
  intro _ _
  first | refine callD_of (k_szProgram p 1048576 (by omega)) (by simp [rAProgram]) ?_ | refine call_of (k_szProgram p 1048576 (by omega)) (by simp [rAProgram]) ?_ | refine callD_of (k_szProgram p 1048576 (by omega)) rfl ?_ | refine call_of (k_szProgram p 1048576 (by omega)) rfl ?_
  rintro r rfl
  by_cases h1 : 1048576 - (wProgram p : Int) < 0
  · simp [sub1, h1]
  simp [sub1, h1]
  first | refine callD_of (k_szValueS vs (1048576 - (wProgram p : Int)) (by omega)) (by simp) ?_ | refine call_of (k_szValueS vs (1048576 - (wProgram p : Int)) (by omega)) (by simp) ?_ | refine callD_of (k_szValueS vs (1048576 - (wProgram p : Int)) (by omega)) rfl ?_ | refine call_of (k_szValueS vs (1048576 - (wProgram p : Int)) (by omega)) rfl ?_
  rintro r rfl
  by_cases h2 : 1048576 - (wProgram p : Int) - (wValueS vs : Int) < 0
  · simp [sub1, h2]
  simp [sub1, h2]
  have hw1 : wProgram p ≤ 1048576 := by omega
  have hw2 : wValueS vs ≤ 1048576 := by omega
  have hl : vs.length ≤ 1048576 := by have := wL_len wValue vs; unfold wValueS at hw2; omega
  first | refine callD_of (k_toProgram p hw1) (by simp [rAProgram, rUProgram]) ?_ | refine call_of (k_toProgram p hw1) (by simp [rAProgram, rUProgram]) ?_ | refine callD_of (k_toProgram p hw1) rfl ?_ | refine call_of (k_toProgram p hw1) rfl ?_
  rintro r rfl
  simp [rAProgram, rUProgram]
  first | refine callD_of (k_toValueS vs hw2) (by simp) ?_ | refine call_of (k_toValueS vs hw2) (by simp) ?_ | refine callD_of (k_toValueS vs hw2) rfl ?_ | refine call_of (k_toValueS vs hw2) rfl ?_
  rintro r rfl
  simp
  first | refine callD_of (ks_MeetsPre p hw1 name vs hl) (by simp [rAProgram, rUProgram]) ?_ | refine call_of (ks_MeetsPre p hw1 name vs hl) (by simp [rAProgram, rUProgram]) ?_ | refine callD_of (ks_MeetsPre p hw1 name vs hl) rfl ?_ | refine call_of (ks_MeetsPre p hw1 name vs hl) rfl ?_
  rintro r rfl
  simp [rAProgram, rUProgram]
  first | refine callD_of (k_toProgram p hw1) (by simp [rAProgram, rUProgram]) ?_ | refine call_of (k_toProgram p hw1) (by simp [rAProgram, rUProgram]) ?_ | refine callD_of (k_toProgram p hw1) rfl ?_ | refine call_of (k_toProgram p hw1) rfl ?_
  rintro r rfl
  simp [rAProgram, rUProgram]
  first | refine callD_of (k_toValueS vs hw2) (by simp) ?_ | refine call_of (k_toValueS vs hw2) (by simp) ?_ | refine callD_of (k_toValueS vs hw2) rfl ?_ | refine call_of (k_toValueS vs hw2) rfl ?_
  rintro r rfl
  simp
  first | refine callD_of (k_MeetsPre p hw1 name vs hl) (by simp [rAProgram, rUProgram]) ?_ | refine call_of (k_MeetsPre p hw1 name vs hl) (by simp [rAProgram, rUProgram]) ?_ | refine callD_of (k_MeetsPre p hw1 name vs hl) rfl ?_ | refine call_of (k_MeetsPre p hw1 name vs hl) rfl ?_
  rintro r rfl
  simp [rAProgram, rUProgram]
  first | refine callD_of (k_toProgram p hw1) (by simp [rAProgram, rUProgram]) ?_ | refine call_of (k_toProgram p hw1) (by simp [rAProgram, rUProgram]) ?_ | refine callD_of (k_toProgram p hw1) rfl ?_ | refine call_of (k_toProgram p hw1) rfl ?_
  rintro r rfl
  simp [rAProgram, rUProgram]
  first | refine callD_of (k_eqProgram p p) (by simp [rAProgram, rUProgram]) ?_ | refine call_of (k_eqProgram p p) (by simp [rAProgram, rUProgram]) ?_ | refine callD_of (k_eqProgram p p) rfl ?_ | refine call_of (k_eqProgram p p) rfl ?_
  rintro r rfl
  simp [rAProgram, rUProgram]
  first | refine callD_of (k_toValueS vs hw2) (by simp) ?_ | refine call_of (k_toValueS vs hw2) (by simp) ?_ | refine callD_of (k_toValueS vs hw2) rfl ?_ | refine call_of (k_toValueS vs hw2) rfl ?_
  rintro r rfl
  simp
  first | refine callD_of (k_eqValueS vs vs) (by simp) ?_ | refine call_of (k_eqValueS vs vs) (by simp) ?_ | refine callD_of (k_eqValueS vs vs) rfl ?_ | refine call_of (k_eqValueS vs vs) rfl ?_
  rintro r rfl
  simp
end Go.Proofs.YtlmajgghnenbpaaGreat

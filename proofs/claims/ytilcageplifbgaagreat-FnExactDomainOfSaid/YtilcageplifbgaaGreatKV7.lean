/- Contracts: rules. -/
import Derived.Test.YtilcageplifbgaaGreatKV6S
namespace Go.Proofs.YtilcageplifbgaaGreat
set_option linter.all false
open Go Go.RowKit Go.Proofs
def a158 : AFn :=
⟨105, [(.t 4)], (.seq
 (.reg [⟨some 2, (.boxv (.t 0)), no⟩, ⟨some 3, (.boxv (.t 1)), no⟩, ⟨some 4, (.mv (.k (.bool false))), no⟩]) (.seq
 (.reg [⟨some 13, (.ld true 2 (.t 2)), no⟩, ⟨some 14, (.fld 0 (.t 3)), no⟩, ⟨some 15, (.ld false 1 (.t 14)), no⟩, ⟨some 16, (.call (.k (.fn (.func 62) [] [])) [(.t 13), (.t 15)]), no⟩, ⟨some 12, (.mv (.t 16)), no⟩, ⟨some 17, (.ext (.t 12) 0), no⟩, ⟨some 18, (.ext (.t 12) 1), no⟩, ⟨some 5, (.box [(.str []), (.nil 1), (.bool false), (.nil 2)]), no⟩, ⟨no, (.st 4 (.t 5) (.t 17)), no⟩, ⟨some 6, (.mv (.t 18)), no⟩]) (.seq (.seq
 (.reg [⟨some 19, (.mv (.t 6)), no⟩, ⟨some 20, (.un .not (.t 19)), no⟩, ⟨some 21, (.mv (.t 20)), no⟩, ⟨some 22, (.ld true 4 (.t 5)), (some (21, false))⟩, ⟨some 23, (.fld 1 (.t 3)), (some (21, false))⟩, ⟨some 24, (.ld false 1 (.t 23)), (some (21, false))⟩, ⟨some 25, (.call (.k (.fn (.func 224) [] [])) [(.t 22), (.t 24)]), (some (21, false))⟩, ⟨some 26, (.un .not (.t 25)), (some (21, false))⟩, ⟨some 27, (.pick (.t 21) (.k (.bool true)) (.t 26)), no⟩, ⟨some 28, (.mv (.t 27)), no⟩, ⟨some 29, (.fld 2 (.t 3)), (some (28, false))⟩, ⟨some 30, (.ld false 1 (.t 29)), (some (28, false))⟩, ⟨some 31, (.len false (.t 30)), (some (28, false))⟩, ⟨some 32, (.bin .gtr (.t 31) (.k (.int .i64 2))), (some (28, false))⟩, ⟨some 33, (.pick (.t 28) (.k (.bool true)) (.t 32)), no⟩, ⟨some 34, (.mv (.t 33)), no⟩, ⟨some 35, (.fld 3 (.t 3)), (some (34, false))⟩, ⟨some 36, (.ld false 1 (.t 35)), (some (34, false))⟩, ⟨some 37, (.len false (.t 36)), (some (34, false))⟩, ⟨some 38, (.bin .gtr (.t 37) (.k (.int .i64 2))), (some (34, false))⟩, ⟨some 39, (.pick (.t 34) (.k (.bool true)) (.t 38)), no⟩]) (.cond (.t 39) (.seq
 (.reg [⟨some 4, (.mv (.k (.bool false))), no⟩]) .ret) .skip)) (.seq (.seq
 (.reg [⟨some 40, (.fld 2 (.t 3)), no⟩, ⟨some 41, (.ld false 1 (.t 40)), no⟩, ⟨some 42, (.len false (.t 41)), no⟩, ⟨some 43, (.mv (.k (.int .i64 0))), no⟩]) (.blk 0 (.loop (.seq
 (.reg [⟨some 44, (.bin .lss (.t 43) (.t 42)), no⟩]) (.seq (.cond (.t 44) .skip (.exit 0)) (.seq (.blk 1 (.seq
 (.reg [⟨some 45, (.ixa 2 (.t 41) (.t 43)), no⟩, ⟨some 46, (.ld true 2 (.t 45)), no⟩, ⟨some 8, (.box [(.int .i64 0), (.nil 2)]), no⟩, ⟨no, (.st 2 (.t 8) (.t 46)), no⟩]) (.seq (.draw (.op ⟨some 47, (.ld true 2 (.t 8)), no⟩ (.op ⟨some 48, (.call (.k (.fn (.func 225) [] [])) [(.t 47)]), no⟩ (.op ⟨some 49, (.un .not (.t 48)), no⟩ (.op ⟨some 50, (.mv (.t 49)), no⟩ (.op ⟨some 51, (.ld true 2 (.t 8)), (some (50, false))⟩ (.op ⟨some 53, (.ld true 2 (.t 2)), (some (50, false))⟩ (.op ⟨some 54, (.ld true 7 (.t 3)), (some (50, false))⟩ (.op ⟨some 52, (.call (.k (.fn (.func 227) [] [])) [(.t 51)]), (some (50, false))⟩ (.op ⟨some 55, (.call (.k (.fn (.func 228) [] [])) [(.t 53), (.t 54), (.k (.int .i64 0))]), (some (50, false))⟩ (.op ⟨some 56, (.call (.k (.fn (.func 226) [] [])) [(.t 52), (.t 55)]), (some (50, false))⟩ (.op ⟨some 57, (.un .not (.t 56)), (some (50, false))⟩ (.op ⟨some 58, (.pick (.t 50) (.k (.bool true)) (.t 57)), no⟩ .fin))))))))))))) (.cond (.t 58) (.seq
 (.reg [⟨some 4, (.mv (.k (.bool false))), no⟩]) .ret) .skip))))
 (.reg [⟨some 59, (.bin .add (.t 43) (.k (.int .i64 1))), no⟩, ⟨some 43, (.mv (.t 59)), no⟩]))))))) (.seq (.seq
 (.reg [⟨some 60, (.fld 3 (.t 3)), no⟩, ⟨some 61, (.ld false 1 (.t 60)), no⟩, ⟨some 62, (.len false (.t 61)), no⟩, ⟨some 63, (.mv (.k (.int .i64 0))), no⟩]) (.blk 2 (.loop (.seq
 (.reg [⟨some 64, (.bin .lss (.t 63) (.t 62)), no⟩]) (.seq (.cond (.t 64) .skip (.exit 2)) (.seq (.blk 3 (.seq
 (.reg [⟨some 65, (.mv (.t 63)), no⟩, ⟨some 66, (.ixa 3 (.t 61) (.t 63)), no⟩, ⟨some 67, (.ld true 3 (.t 66)), no⟩, ⟨some 10, (.box [(.str []), (.str []), (.nil 3)]), no⟩, ⟨some 9, (.mv (.t 65)), no⟩, ⟨no, (.st 3 (.t 10) (.t 67)), no⟩]) (.seq (.draw (.op ⟨some 68, (.ld true 2 (.t 2)), no⟩ (.op ⟨some 69, (.ld true 3 (.t 10)), no⟩ (.op ⟨some 70, (.ld true 2 (.t 2)), no⟩ (.op ⟨some 71, (.ld true 7 (.t 3)), no⟩ (.op ⟨some 72, (.mv (.t 9)), no⟩ (.op ⟨some 73, (.call (.k (.fn (.func 228) [] [])) [(.t 70), (.t 71), (.t 72)]), no⟩ (.op ⟨some 74, (.call (.k (.fn (.func 229) [] [])) [(.t 68), (.t 69), (.t 73)]), no⟩ (.op ⟨some 75, (.un .not (.t 74)), no⟩ .fin))))))))) (.cond (.t 75) (.seq
 (.reg [⟨some 4, (.mv (.k (.bool false))), no⟩]) .ret) .skip))))
 (.reg [⟨some 76, (.bin .add (.t 63) (.k (.int .i64 1))), no⟩, ⟨some 63, (.mv (.t 76)), no⟩]))))))) (.seq
 (.reg [⟨some 77, (.ld true 2 (.t 2)), no⟩, ⟨some 78, (.ld true 7 (.t 3)), no⟩, ⟨some 79, (.fld 3 (.t 3)), no⟩, ⟨some 80, (.ld false 1 (.t 79)), no⟩, ⟨some 81, (.len false (.t 80)), no⟩, ⟨some 82, (.call (.k (.fn (.func 228) [] [])) [(.t 77), (.t 78), (.t 81)]), no⟩, ⟨some 11, (.mv (.t 82)), no⟩]) (.seq
 (.reg [⟨some 83, (.fld 4 (.t 3)), no⟩, ⟨some 84, (.ld true 3 (.t 83)), no⟩, ⟨some 85, (.call (.k (.fn (.func 230) [] [])) [(.t 84)]), no⟩, ⟨some 86, (.mv (.t 85)), no⟩, ⟨some 87, (.fld 4 (.t 3)), (some (86, true))⟩, ⟨some 88, (.fld 0 (.t 87)), (some (86, true))⟩, ⟨some 89, (.ld false 1 (.t 88)), (some (86, true))⟩, ⟨some 90, (.fld 2 (.t 5)), (some (86, true))⟩, ⟨some 91, (.ld false 1 (.t 90)), (some (86, true))⟩, ⟨some 92, (.beq false (.t 89) (.t 91)), (some (86, true))⟩, ⟨some 93, (.pick (.t 86) (.t 92) (.k (.bool false))), no⟩, ⟨some 94, (.mv (.t 93)), no⟩, ⟨some 95, (.fld 4 (.t 3)), (some (94, true))⟩, ⟨some 96, (.ld true 3 (.t 95)), (some (94, true))⟩, ⟨some 97, (.call (.k (.fn (.func 231) [] [])) [(.t 96)]), (some (94, true))⟩, ⟨some 98, (.mv (.t 11)), (some (94, true))⟩, ⟨some 99, (.call (.k (.fn (.func 226) [] [])) [(.t 97), (.t 98)]), (some (94, true))⟩, ⟨some 100, (.pick (.t 94) (.t 99) (.k (.bool false))), no⟩, ⟨some 101, (.mv (.t 100)), no⟩, ⟨some 102, (.mv (.t 11)), (some (101, true))⟩, ⟨some 103, (.call (.k (.fn (.func 150) [] [])) [(.t 102)]), (some (101, true))⟩, ⟨some 104, (.pick (.t 101) (.t 103) (.k (.bool false))), no⟩, ⟨some 4, (.mv (.t 104)), no⟩]) .ret)))))))⟩
theorem a158_ok : compFn Tryz.prog Tryz.f158 = some a158 := by kernel_rfl
theorem wRule_parts {r : DRule} (hr : wRule r ≤ 1048576) : (∀ g ∈ r.Guards, g.Terms.length ≤ 1048576) ∧ (∀ c ∈ r.Calls, wCall c ≤ 1048576) ∧ wArg r.Result ≤ 1048576 ∧ r.Guards.length ≤ 1048576 ∧ r.Calls.length ≤ 1048576 ∧ r.Patterns.length ≤ 1048576 ∧ wSumS r.Guards ≤ 1048576 := by
  have h1 := wL_len wSum r.Guards
  have h2 := wL_len wCall r.Calls
  have h3 := wL_len wPattern r.Patterns
  unfold wRule wPatternS wSumS wCallS at hr
  refine ⟨fun g hg => ?_, fun c hc => ?_, by omega, by omega, by omega, by omega, by unfold wSumS; omega⟩
  · have h4 := wL_mem (w := wSum) hg
    have h5 := wL_len wTerm g.Terms
    rw [show wSum g = wL wTerm g.Terms from rfl] at h4
    omega
  · have h4 := wL_mem (w := wCall) hc
    omega
theorem callsFrom_drop {p : DProgram} {r : DRule} {i : Nat} (hi : i < r.Calls.length) : callsFrom p r i (r.Calls.drop i) = (callB p r.Calls[i] (scopeOf p r i) && callsFrom p r (i + 1) (r.Calls.drop (i + 1))) := by
  rw [List.drop_eq_getElem_cons hi]; rfl
set_option maxRecDepth 20000 in
set_option maxHeartbeats 2000000 in
theorem k_IsValidRule (p : DProgram) (r : DRule) (hp : wProgram p ≤ 1048576) (hr : wRule r ≤ 1048576) : Holds Tryz.prog 158 [.agg (rAProgram p), .agg (rARule r)] (fun x => x = .bool (ruleOk p r)) := by
  obtain ⟨wg, wc, wa, lg, lc, lp, _⟩ := wRule_parts hr
  refine holds_of_run Tryz.func158 a158_ok rfl (by simp [a158]) ?_
  simp [a158, rAProgram, rARule]
  first | refine callD_of (k_FindFunction p r.Func hp) (by simp [rAProgram]) ?_ | refine call_of (k_FindFunction p r.Func hp) (by simp [rAProgram]) ?_ | refine callD_of (k_FindFunction p r.Func hp) rfl ?_ | refine call_of (k_FindFunction p r.Func hp) rfl ?_
  rintro r rfl
  unfold ruleOk
  generalize hG : (findFn p.Functions r.Func).getD fn0 = G
  simp only [optFn, hG]
  generalize hb1 : (findFn p.Functions r.Func).isSome = b1
  simp [rUFunction]
  cases b1
  · simp
  simp
  first | refine callD_of (k_patternsOk G r.Patterns) (by simp [rAFunction]) ?_ | refine call_of (k_patternsOk G r.Patterns) (by simp [rAFunction]) ?_ | refine callD_of (k_patternsOk G r.Patterns) rfl ?_ | refine call_of (k_patternsOk G r.Patterns) rfl ?_
  rintro r rfl
  cases h1 : patsFrom G.Params [] r.Patterns
  · simp
  simp
  intro _
  have hdg : decide (r.Guards.length ≤ 2) = decide ((r.Guards.length : Int) ≤ 2) := by rw [decide_eq_decide]; omega
  have hdc : decide (r.Calls.length ≤ 2) = decide ((r.Calls.length : Int) ≤ 2) := by rw [decide_eq_decide]; omega
  by_cases h2 : (r.Guards.length : Int) ≤ 2
  case neg =>
    have h2n : ¬ r.Guards.length ≤ 2 := by omega
    simp [h2, h2n, Int.not_le.1 h2]
  have h2n : r.Guards.length ≤ 2 := by omega
  simp [h2, h2n, Int.not_lt.2 h2]
  intro _
  by_cases h3 : (r.Calls.length : Int) ≤ 2
  case neg =>
    have h3n : ¬ r.Calls.length ≤ 2 := by omega
    simp [h3, h3n, Int.not_le.1 h3]
  have h3n : r.Calls.length ≤ 2 := by omega
  simp [h3, h3n, Int.not_lt.2 h3]
  intro _
  generalize hB1 : r.Guards.all (guardOk (scopeOf p r 0)) = B1
  refine rL_forO [2, 3, 5, 41, 42] 43 r.Guards.length (fun i s h n => 4 < n ∧ h 0 = some ⟨true, 2, [rAProgram p]⟩ ∧ h 1 = some ⟨true, 7, [rARule r]⟩ ∧ h 4 = some ⟨true, 4, [[.str G.Name, .ref 2 0 G.Params.length, .bool G.ListResult, .ref 3 0 G.Pre.length]]⟩ ∧ (r.Guards.drop i).all (guardOk (scopeOf p r 0)) = B1) (by unfold LIM; omega) (by simp) ⟨by simp, by simp [rAProgram], by simp [rARule], by simp, by simpa using hB1⟩ ?_ ?_
  · rintro i st h n R hi hg hk s43 hw ⟨hn, e0, e1, e4, hJ⟩ hR hret _
    simp at hk
    rw [List.drop_eq_getElem_cons hi, List.all_cons] at hJ
    have z0 : ¬ 0 = n := by omega
    have z1 : ¬ 1 = n := by omega
    have z4 : ¬ 4 = n := by omega
    have y0 : ¬ 0 = n + 1 := by omega
    have y1 : ¬ 1 = n + 1 := by omega
    have y4 : ¬ 4 = n + 1 := by omega
    have x0 : ¬ 0 = n + 1 + 1 := by omega
    have x1 : ¬ 1 = n + 1 + 1 := by omega
    have x4 : ¬ 4 = n + 1 + 1 := by omega
    have v0 : ¬ n + 1 = n + 1 + 1 := by omega
    have v1 : ¬ n + 1 + 1 = n + 1 := by omega
    have v4 : ¬ n + 1 = n := by omega
    have q0 : ¬ n = 0 := by omega
    have q1 : ¬ n = 1 := by omega
    have q3 : ¬ n = 3 := by omega
    have q4 : ¬ n = 4 := by omega
    refine rC_cut [2, 3, 5, 41, 42, 43] (fun s => s 44 = .bool true) (by simp [hk, s43, hi]) ?_
    intro st1 hk1 s44
    simp at hk1
    refine rC_pass s44 (rC_seqI (rC_blkI ?_))
    refine rC_cutH [2, 3, 5, 41, 42, 43] (fun s h' n' => s 8 = .ptr n 0 0 ∧ n' = n + 1 ∧ h' n = some ⟨true, 2, [rASum r.Guards[i]]⟩ ∧ h' 0 = some ⟨true, 2, [rAProgram p]⟩ ∧ h' 1 = some ⟨true, 7, [rARule r]⟩ ∧ h' 4 = some ⟨true, 4, [[.str G.Name, .ref 2 0 G.Params.length, .bool G.ListResult, .ref 3 0 G.Pre.length]]⟩) (by simp [hk, hk1, s43, hi, rASum, e0, e1, e4, z0, z1, z4, q0, q1, q4]) ?_
    rintro st2 h2' n2 hk2 ⟨s8, rfl, en, e0', e1', e4'⟩
    simp at hk2
    refine rC_cutH [2, 3, 5, 41, 42, 43] (fun s h' n' => n < n' ∧ s 58 = .bool (!guardOk (scopeOf p r 0) r.Guards[i]) ∧ h' 0 = some ⟨true, 2, [rAProgram p]⟩ ∧ h' 1 = some ⟨true, 7, [rARule r]⟩ ∧ h' 4 = some ⟨true, 4, [[.str G.Name, .ref 2 0 G.Params.length, .bool G.ListResult, .ref 3 0 G.Pre.length]]⟩) ?_ ?_
    · simp [hk, hk1, hk2, s8, en]
      first | refine callD_of (k_IsValidSum (r.Guards[i]'hi)) (by simp) ?_ | refine call_of (k_IsValidSum (r.Guards[i]'hi)) (by simp) ?_ | refine callD_of (k_IsValidSum (r.Guards[i]'hi)) rfl ?_ | refine call_of (k_IsValidSum (r.Guards[i]'hi)) rfl ?_
      rintro r rfl
      unfold guardOk
      cases g1 : okSum r.Guards[i]
      · simp [e0', e1', e4']
      simp [hk, hk1, hk2, s8, en, e0', e1', e4', rAProgram, rARule]
      first | refine callD_of (k_sumNames (r.Guards[i]'hi) (wg _ (List.getElem_mem hi))) (by simp [rAProgram, rARule]) ?_ | refine call_of (k_sumNames (r.Guards[i]'hi) (wg _ (List.getElem_mem hi))) (by simp [rAProgram, rARule]) ?_ | refine callD_of (k_sumNames (r.Guards[i]'hi) (wg _ (List.getElem_mem hi))) rfl ?_ | refine call_of (k_sumNames (r.Guards[i]'hi) (wg _ (List.getElem_mem hi))) rfl ?_
      rintro r rfl
      simp [hk, hk1, hk2, s8, en, e0', e1', e4', rAProgram, rARule, z0, z1, z4, y0, y1, y4, x0, x1, x4, v0, v1, v4, q0, q1, q3, q4]
      first | refine callD_of (k_ScopeOf p r 0 hp hr) (by simp [rAProgram, rARule]) ?_ | refine call_of (k_ScopeOf p r 0 hp hr) (by simp [rAProgram, rARule]) ?_ | refine callD_of (k_ScopeOf p r 0 hp hr) rfl ?_ | refine call_of (k_ScopeOf p r 0 hp hr) rfl ?_
      rintro r rfl
      simp [hk, hk1, hk2, s8, en, e0', e1', e4', rAProgram, rARule, z0, z1, z4, y0, y1, y4, x0, x1, x4, v0, v1, v4, q0, q1, q3, q4]
      first | refine callD_of (k_allIn (termN (r.Guards[i]'hi)) (scopeOf p r 0)) (by simp [z0, z1, z4, y0, y1, y4, x0, x1, x4, v0, v1, v4, q0, q1, q3, q4]) ?_ | refine call_of (k_allIn (termN (r.Guards[i]'hi)) (scopeOf p r 0)) (by simp [z0, z1, z4, y0, y1, y4, x0, x1, x4, v0, v1, v4, q0, q1, q3, q4]) ?_ | refine callD_of (k_allIn (termN (r.Guards[i]'hi)) (scopeOf p r 0)) rfl ?_ | refine call_of (k_allIn (termN (r.Guards[i]'hi)) (scopeOf p r 0)) rfl ?_
      rintro r rfl
      simp [e0', e1', e4', rAProgram, rARule, z0, z1, z4, y0, y1, y4, x0, x1, x4, v0, v1, v4, q0, q1, q3, q4]
    rintro st3 h3' n3 hk3 ⟨hn3, s58, e0'', e1'', e4''⟩
    simp at hk3
    generalize guardOk (scopeOf p r 0) r.Guards[i] = D at *
    cases D
    · rw [Bool.false_and] at hJ
      subst hJ
      simp [s58]
      refine hret _ _ _ ?_
      simp
    · rw [Bool.true_and] at hJ
      simp [hk, hk1, hk2, hk3, s58, s43, hw]
      exact hR _ _ _ (by simp [hk, hk1, hk2, hk3]) (by simp) ⟨by omega, e0'', e1'', e4'', hJ⟩
  rintro st h n R hk s43 ⟨hn, e0, e1, e4, hJ⟩ hret hX
  simp at hk
  rw [List.drop_eq_nil_of_le (by omega)] at hJ
  refine rC_cut [2, 3, 5, 41, 42, 43] (fun s => s 44 = .bool false) (by simp [hk, s43]) ?_
  intro st1 hk1 s44
  simp at hk1
  refine rC_stop s44 ?_
  refine hX _ _ _ _ ?_
  simp at hJ
  subst hJ
  clear hX hret hB1
  simp [hk, hk1, e1, rARule]
  intro _
  generalize hB2 : callsFrom p r 0 r.Calls = B2
  refine rL_forO [2, 3, 5, 61, 62] 63 r.Calls.length (fun i s h n => 4 < n ∧ h 0 = some ⟨true, 2, [rAProgram p]⟩ ∧ h 1 = some ⟨true, 7, [rARule r]⟩ ∧ h 4 = some ⟨true, 4, [[.str G.Name, .ref 2 0 G.Params.length, .bool G.ListResult, .ref 3 0 G.Pre.length]]⟩ ∧ callsFrom p r i (r.Calls.drop i) = B2) (by unfold LIM; omega) (by simp) ⟨hn, e0, e1, e4, by simpa using hB2⟩ ?_ ?_
  · rintro i st h n R hi hg hkk s63 hw ⟨hn, e0, e1, e4, hJ⟩ hR hret _
    simp at hkk
    rw [callsFrom_drop hi] at hJ
    have z0 : ¬ 0 = n := by omega
    have z1 : ¬ 1 = n := by omega
    have z4 : ¬ 4 = n := by omega
    have y0 : ¬ 0 = n + 1 := by omega
    have y1 : ¬ 1 = n + 1 := by omega
    have y4 : ¬ 4 = n + 1 := by omega
    have x0 : ¬ 0 = n + 1 + 1 := by omega
    have x1 : ¬ 1 = n + 1 + 1 := by omega
    have x4 : ¬ 4 = n + 1 + 1 := by omega
    have v0 : ¬ n + 1 = n + 1 + 1 := by omega
    have v1 : ¬ n + 1 + 1 = n + 1 := by omega
    have v4 : ¬ n + 1 = n := by omega
    have q0 : ¬ n = 0 := by omega
    have q1 : ¬ n = 1 := by omega
    have q3 : ¬ n = 3 := by omega
    have q4 : ¬ n = 4 := by omega
    refine rC_cut [2, 3, 5, 61, 62, 63] (fun s => s 64 = .bool true) (by simp [hkk, s63, hi]) ?_
    intro stb hkb s64
    simp at hkb
    refine rC_pass s64 (rC_seqI (rC_blkI ?_))
    refine rC_cutH [2, 3, 5, 61, 62, 63] (fun s h' n' => s 9 = .int .i64 i ∧ s 10 = .ptr n 0 0 ∧ n' = n + 1 ∧ h' n = some ⟨true, 3, [rACall r.Calls[i]]⟩ ∧ h' 0 = some ⟨true, 2, [rAProgram p]⟩ ∧ h' 1 = some ⟨true, 7, [rARule r]⟩ ∧ h' 4 = some ⟨true, 4, [[.str G.Name, .ref 2 0 G.Params.length, .bool G.ListResult, .ref 3 0 G.Pre.length]]⟩) (by simp [hk, hkk, hk1, hkb, s63, hi, rACall, e0, e1, e4, z0, z1, z4, q0, q1, q4]) ?_
    rintro st2 h2' n2 hk2 ⟨s9, s10, rfl, en, e0', e1', e4'⟩
    simp at hk2
    refine rC_cutH [2, 3, 5, 61, 62, 63] (fun s h' n' => n < n' ∧ s 75 = .bool (!callB p r.Calls[i] (scopeOf p r i)) ∧ h' 0 = some ⟨true, 2, [rAProgram p]⟩ ∧ h' 1 = some ⟨true, 7, [rARule r]⟩ ∧ h' 4 = some ⟨true, 4, [[.str G.Name, .ref 2 0 G.Params.length, .bool G.ListResult, .ref 3 0 G.Pre.length]]⟩) ?_ ?_
    · simp [hk, hkk, hk1, hkb, hk2, s9, s10, en, e0', e1', e4', rAProgram, rARule]
      first | refine callD_of (k_ScopeOf p r i hp hr) (by simp [rAProgram, rARule]) ?_ | refine call_of (k_ScopeOf p r i hp hr) (by simp [rAProgram, rARule]) ?_ | refine callD_of (k_ScopeOf p r i hp hr) rfl ?_ | refine call_of (k_ScopeOf p r i hp hr) rfl ?_
      rintro r rfl
      simp [hk, hkk, hk1, hkb, hk2, s9, s10, en, e0', e1', e4', rAProgram, rARule, z0, z1, z4, y0, y1, y4, x0, x1, x4, v0, v1, v4, q0, q1, q3, q4]
      first | refine callD_of (k_callOk p (r.Calls[i]'hi) (scopeOf p r i) hp (wc _ (List.getElem_mem hi))) (by simp [rAProgram, z0, z1, z4, y0, y1, y4, x0, x1, x4, v0, v1, v4, q0, q1, q3, q4]) ?_ | refine call_of (k_callOk p (r.Calls[i]'hi) (scopeOf p r i) hp (wc _ (List.getElem_mem hi))) (by simp [rAProgram, z0, z1, z4, y0, y1, y4, x0, x1, x4, v0, v1, v4, q0, q1, q3, q4]) ?_ | refine callD_of (k_callOk p (r.Calls[i]'hi) (scopeOf p r i) hp (wc _ (List.getElem_mem hi))) rfl ?_ | refine call_of (k_callOk p (r.Calls[i]'hi) (scopeOf p r i) hp (wc _ (List.getElem_mem hi))) rfl ?_
      rintro r rfl
      simp [e0', e1', e4', rAProgram, rARule, z0, z1, z4, y0, y1, y4, x0, x1, x4, v0, v1, v4, q0, q1, q3, q4]
    rintro st3 h3' n3 hk3 ⟨hn3, s75, e0'', e1'', e4''⟩
    simp at hk3
    generalize callB p r.Calls[i] (scopeOf p r i) = D at *
    cases D
    · rw [Bool.false_and] at hJ
      subst hJ
      simp [s75]
      refine hret _ _ _ ?_
      simp
    · rw [Bool.true_and] at hJ
      simp [hk, hkk, hk1, hkb, hk2, hk3, s75, s63, hw]
      exact hR _ _ _ (by simp [hk, hkk, hk1, hkb, hk2, hk3]) (by simp) ⟨by omega, e0'', e1'', e4'', hJ⟩
  rintro st h n R hkk s63 ⟨hn, e0, e1, e4, hJ⟩ hret hX
  simp at hkk
  rw [List.drop_eq_nil_of_le (by omega)] at hJ
  refine rC_cut [2, 3, 5, 61, 62, 63] (fun s => s 64 = .bool false) (by simp [hkk, s63]) ?_
  intro st1 hk1' s64
  simp at hk1'
  refine rC_stop s64 ?_
  refine hX _ _ _ _ ?_
  simp [callsFrom] at hJ
  subst hJ
  clear hX hret hB2
  have z0 : ¬ 0 = n := by omega
  have z1 : ¬ 1 = n := by omega
  have z4 : ¬ 4 = n := by omega
  have y0 : ¬ 0 = n + 1 := by omega
  have y1 : ¬ 1 = n + 1 := by omega
  have y4 : ¬ 4 = n + 1 := by omega
  have x0 : ¬ 0 = n + 1 + 1 := by omega
  have x1 : ¬ 1 = n + 1 + 1 := by omega
  have x4 : ¬ 4 = n + 1 + 1 := by omega
  have v0 : ¬ n + 1 = n + 1 + 1 := by omega
  have v1 : ¬ n + 1 + 1 = n + 1 := by omega
  have v4 : ¬ n + 1 = n := by omega
  have q0 : ¬ n = 0 := by omega
  have q1 : ¬ n = 1 := by omega
  have q3 : ¬ n = 3 := by omega
  have q4 : ¬ n = 4 := by omega
  simp [hk, hk1, hkk, hk1', e0, e1, rARule, rAProgram]
  intro _
  first | refine callD_of (k_ScopeOf p r r.Calls.length hp hr) (by simp [rAProgram, rARule]) ?_ | refine call_of (k_ScopeOf p r r.Calls.length hp hr) (by simp [rAProgram, rARule]) ?_ | refine callD_of (k_ScopeOf p r r.Calls.length hp hr) rfl ?_ | refine call_of (k_ScopeOf p r r.Calls.length hp hr) rfl ?_
  rintro r rfl
  simp [hk, hk1, hkk, hk1', e0, e1, e4, rARule, rAProgram, z0, z1, z4, y0, y1, y4, x0, x1, x4, v0, v1, v4, q0, q1, q3, q4]
  first | refine callD_of (k_IsValidArg r.Result) (by simp [rAArg]) ?_ | refine call_of (k_IsValidArg r.Result) (by simp [rAArg]) ?_ | refine callD_of (k_IsValidArg r.Result) rfl ?_ | refine call_of (k_IsValidArg r.Result) rfl ?_
  rintro r rfl
  unfold argOk
  cases g1 : okArg r.Result
  · simp
  simp [hk, hk1, hkk, hk1', e0, e1, e4, rARule, rAProgram, z0, z1, z4, y0, y1, y4, x0, x1, x4, v0, v1, v4, q0, q1, q3, q4]
  cases g2 : (r.Result.Lst == G.ListResult)
  · have g2' : ¬ r.Result.Lst = G.ListResult := by simpa using g2
    simp [g2']
  have g2' : r.Result.Lst = G.ListResult := by simpa using g2
  simp [hk, hk1, hkk, hk1', e0, e1, e4, rARule, rAProgram, z0, z1, z4, y0, y1, y4, x0, x1, x4, v0, v1, v4, q0, q1, q3, q4, g2']
  first | refine callD_of (k_NamesOf r.Result wa) (by simp [rAArg, g2']) ?_ | refine call_of (k_NamesOf r.Result wa) (by simp [rAArg, g2']) ?_ | refine callD_of (k_NamesOf r.Result wa) rfl ?_ | refine call_of (k_NamesOf r.Result wa) rfl ?_
  rintro r rfl
  simp [hk, hk1, hkk, hk1', e0, e1, e4, rARule, rAProgram, z0, z1, z4, y0, y1, y4, x0, x1, x4, v0, v1, v4, q0, q1, q3, q4, g2']
  first | refine callD_of (k_allIn (snames (argN0 r.Result)) (scopeOf p r r.Calls.length)) (by simp [z0, z1, z4, y0, y1, y4, x0, x1, x4, v0, v1, v4, q0, q1, q3, q4]) ?_ | refine call_of (k_allIn (snames (argN0 r.Result)) (scopeOf p r r.Calls.length)) (by simp [z0, z1, z4, y0, y1, y4, x0, x1, x4, v0, v1, v4, q0, q1, q3, q4]) ?_ | refine callD_of (k_allIn (snames (argN0 r.Result)) (scopeOf p r r.Calls.length)) rfl ?_ | refine call_of (k_allIn (snames (argN0 r.Result)) (scopeOf p r r.Calls.length)) rfl ?_
  rintro r rfl
  cases g3 : allS (snames (argN0 r.Result)) (scopeOf p r r.Calls.length)
  · simp
  simp [z0, z1, z4, y0, y1, y4, x0, x1, x4, v0, v1, v4, q0, q1, q3, q4]
  first | refine callD_of (k_AllDistinct (scopeOf p r r.Calls.length)) (by simp [z0, z1, z4, y0, y1, y4, x0, x1, x4, v0, v1, v4, q0, q1, q3, q4]) ?_ | refine call_of (k_AllDistinct (scopeOf p r r.Calls.length)) (by simp [z0, z1, z4, y0, y1, y4, x0, x1, x4, v0, v1, v4, q0, q1, q3, q4]) ?_ | refine callD_of (k_AllDistinct (scopeOf p r r.Calls.length)) rfl ?_ | refine call_of (k_AllDistinct (scopeOf p r r.Calls.length)) rfl ?_
  rintro r rfl
  simp
end Go.Proofs.YtilcageplifbgaaGreat

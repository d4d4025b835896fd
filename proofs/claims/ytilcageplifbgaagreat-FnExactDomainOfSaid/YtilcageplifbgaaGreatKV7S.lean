/- Contracts: rules, of the reference. -/
import Derived.Test.YtilcageplifbgaaGreatKV7
namespace Go.Proofs.YtilcageplifbgaaGreat
set_option linter.all false
open Go Go.RowKit Go.Proofs
def a142 : AFn :=
⟨75, [(.t 4)], (.seq
 (.reg [⟨some 2, (.boxv (.t 0)), no⟩, ⟨some 3, (.boxv (.t 1)), no⟩, ⟨some 4, (.mv (.k (.bool false))), no⟩]) (.seq
 (.reg [⟨some 10, (.ld true 2 (.t 2)), no⟩, ⟨some 11, (.fld 0 (.t 3)), no⟩, ⟨some 12, (.ld false 1 (.t 11)), no⟩, ⟨some 13, (.call (.k (.fn (.func 57) [] [])) [(.t 10), (.t 12)]), no⟩, ⟨some 9, (.mv (.t 13)), no⟩, ⟨some 14, (.ext (.t 9) 0), no⟩, ⟨some 15, (.ext (.t 9) 1), no⟩, ⟨some 5, (.box [(.str []), (.nil 1), (.bool false), (.nil 2)]), no⟩, ⟨no, (.st 4 (.t 5) (.t 14)), no⟩, ⟨some 6, (.mv (.t 15)), no⟩]) (.seq (.seq (.draw (.op ⟨some 16, (.mv (.t 6)), no⟩ (.op ⟨some 17, (.un .not (.t 16)), no⟩ (.op ⟨some 18, (.mv (.t 17)), no⟩ (.op ⟨some 19, (.ld true 4 (.t 5)), (some (18, false))⟩ (.op ⟨some 20, (.fld 1 (.t 3)), (some (18, false))⟩ (.op ⟨some 21, (.ld false 1 (.t 20)), (some (18, false))⟩ (.op ⟨some 22, (.call (.k (.fn (.func 207) [] [])) [(.t 19), (.t 21)]), (some (18, false))⟩ (.op ⟨some 23, (.un .not (.t 22)), (some (18, false))⟩ (.op ⟨some 24, (.pick (.t 18) (.k (.bool true)) (.t 23)), no⟩ (.op ⟨some 25, (.mv (.t 24)), no⟩ (.op ⟨some 26, (.fld 2 (.t 3)), (some (25, false))⟩ (.op ⟨some 27, (.ld false 1 (.t 26)), (some (25, false))⟩ (.op ⟨some 28, (.ld true 2 (.t 2)), (some (25, false))⟩ (.op ⟨some 29, (.ld true 7 (.t 3)), (some (25, false))⟩ (.op ⟨some 30, (.call (.k (.fn (.func 209) [] [])) [(.t 28), (.t 29), (.k (.int .i64 0))]), (some (25, false))⟩ (.op ⟨some 31, (.call (.k (.fn (.func 208) [] [])) [(.t 27), (.t 30)]), (some (25, false))⟩ (.op ⟨some 32, (.un .not (.t 31)), (some (25, false))⟩ (.op ⟨some 33, (.pick (.t 25) (.k (.bool true)) (.t 32)), no⟩ (.op ⟨some 34, (.mv (.t 33)), no⟩ (.op ⟨some 35, (.fld 3 (.t 3)), (some (34, false))⟩ (.op ⟨some 36, (.ld false 1 (.t 35)), (some (34, false))⟩ (.op ⟨some 37, (.len false (.t 36)), (some (34, false))⟩ (.op ⟨some 38, (.bin .gtr (.t 37) (.k (.int .i64 2))), (some (34, false))⟩ (.op ⟨some 39, (.pick (.t 34) (.k (.bool true)) (.t 38)), no⟩ .fin))))))))))))))))))))))))) (.cond (.t 39) (.seq
 (.reg [⟨some 4, (.mv (.k (.bool false))), no⟩]) .ret) .skip)) (.seq (.seq
 (.reg [⟨some 7, (.mv (.k (.int .i64 0))), no⟩]) (.blk 0 (.loop (.seq (.seq
 (.reg [⟨some 40, (.mv (.t 7)), no⟩, ⟨some 41, (.fld 3 (.t 3)), no⟩, ⟨some 42, (.ld false 1 (.t 41)), no⟩, ⟨some 43, (.len false (.t 42)), no⟩, ⟨some 44, (.bin .lss (.t 40) (.t 43)), no⟩]) (.cond (.t 44) .skip (.exit 0))) (.seq (.blk 1 (.seq (.draw (.op ⟨some 47, (.ld true 2 (.t 2)), no⟩ (.op ⟨some 48, (.fld 3 (.t 3)), no⟩ (.op ⟨some 49, (.ld false 1 (.t 48)), no⟩ (.op ⟨some 50, (.mv (.t 7)), no⟩ (.op ⟨some 51, (.ixa 3 (.t 49) (.t 50)), no⟩ (.op ⟨some 52, (.ld true 3 (.t 51)), no⟩ (.op ⟨some 53, (.ld true 2 (.t 2)), no⟩ (.op ⟨some 54, (.ld true 7 (.t 3)), no⟩ (.op ⟨some 55, (.mv (.t 7)), no⟩ (.op ⟨some 56, (.call (.k (.fn (.func 209) [] [])) [(.t 53), (.t 54), (.t 55)]), no⟩ (.op ⟨some 57, (.call (.k (.fn (.func 210) [] [])) [(.t 47), (.t 52), (.t 56)]), no⟩ (.op ⟨some 58, (.un .not (.t 57)), no⟩ .fin))))))))))))) (.cond (.t 58) (.seq
 (.reg [⟨some 4, (.mv (.k (.bool false))), no⟩]) .ret) .skip)))
 (.reg [⟨some 45, (.mv (.t 7)), no⟩, ⟨some 46, (.bin .add (.t 45) (.k (.int .i64 1))), no⟩, ⟨some 7, (.mv (.t 46)), no⟩])))))) (.seq
 (.reg [⟨some 59, (.ld true 2 (.t 2)), no⟩, ⟨some 60, (.ld true 7 (.t 3)), no⟩, ⟨some 61, (.fld 3 (.t 3)), no⟩, ⟨some 62, (.ld false 1 (.t 61)), no⟩, ⟨some 63, (.len false (.t 62)), no⟩, ⟨some 64, (.call (.k (.fn (.func 209) [] [])) [(.t 59), (.t 60), (.t 63)]), no⟩, ⟨some 8, (.mv (.t 64)), no⟩]) (.seq
 (.reg [⟨some 65, (.fld 4 (.t 3)), no⟩, ⟨some 66, (.ld true 3 (.t 65)), no⟩, ⟨some 67, (.fld 2 (.t 5)), no⟩, ⟨some 68, (.ld false 1 (.t 67)), no⟩, ⟨some 69, (.mv (.t 8)), no⟩, ⟨some 70, (.call (.k (.fn (.func 211) [] [])) [(.t 66), (.t 68), (.t 69)]), no⟩, ⟨some 71, (.mv (.t 70)), no⟩, ⟨some 72, (.mv (.t 8)), (some (71, true))⟩, ⟨some 73, (.call (.k (.fn (.func 206) [] [])) [(.t 72)]), (some (71, true))⟩, ⟨some 74, (.pick (.t 71) (.t 73) (.k (.bool false))), no⟩, ⟨some 4, (.mv (.t 74)), no⟩]) .ret))))))⟩
theorem a142_ok : compFn Tryz.prog Tryz.f142 = some a142 := by kernel_rfl
set_option maxRecDepth 20000 in
set_option maxHeartbeats 2000000 in
theorem ks_IsValidRule (p : DProgram) (r : DRule) (hp : wProgram p ≤ 1048576) (hr : wRule r ≤ 1048576) : Holds Tryz.prog 142 [.agg (rAProgram p), .agg (rARule r)] (fun x => x = .bool (ruleOk p r)) := by
  obtain ⟨wg, wc, wa, lg, lc, lp, wgs⟩ := wRule_parts hr
  refine holds_of_run Tryz.func142 a142_ok rfl (by simp [a142]) ?_
  simp [a142, rAProgram, rARule]
  first | refine callD_of (ks_FindFunction p r.Func hp) (by simp [rAProgram]) ?_ | refine call_of (ks_FindFunction p r.Func hp) (by simp [rAProgram]) ?_ | refine callD_of (ks_FindFunction p r.Func hp) rfl ?_ | refine call_of (ks_FindFunction p r.Func hp) rfl ?_
  rintro r rfl
  unfold ruleOk
  generalize hG : (findFn p.Functions r.Func).getD fn0 = G
  simp only [optFn, hG]
  generalize hb1 : (findFn p.Functions r.Func).isSome = b1
  simp [rUFunction]
  cases b1
  · simp
  simp
  first | refine callD_of (ks_l10Patterns G r.Patterns lp) (by simp [rAFunction]) ?_ | refine call_of (ks_l10Patterns G r.Patterns lp) (by simp [rAFunction]) ?_ | refine callD_of (ks_l10Patterns G r.Patterns lp) rfl ?_ | refine call_of (ks_l10Patterns G r.Patterns lp) rfl ?_
  rintro r rfl
  cases h1 : patsFrom G.Params [] r.Patterns
  · simp
  simp
  first | refine callD_of (ks_ScopeOf p r 0 hp hr) (by simp [rAProgram, rARule]) ?_ | refine call_of (ks_ScopeOf p r 0 hp hr) (by simp [rAProgram, rARule]) ?_ | refine callD_of (ks_ScopeOf p r 0 hp hr) rfl ?_ | refine call_of (ks_ScopeOf p r 0 hp hr) rfl ?_
  rintro r rfl
  simp
  first | refine callD_of (ks_l10Guards r.Guards (scopeOf p r 0) wgs) (by simp) ?_ | refine call_of (ks_l10Guards r.Guards (scopeOf p r 0) wgs) (by simp) ?_ | refine callD_of (ks_l10Guards r.Guards (scopeOf p r 0) wgs) rfl ?_ | refine call_of (ks_l10Guards r.Guards (scopeOf p r 0) wgs) rfl ?_
  rintro r rfl
  generalize hB1 : r.Guards.all (guardOk (scopeOf p r 0)) = B1
  cases B1
  · simp
  have hdg : decide (r.Guards.length ≤ 2) = decide ((r.Guards.length : Int) ≤ 2) := by rw [decide_eq_decide]; omega
  by_cases h2n : r.Guards.length ≤ 2
  case neg => simp [h2n]
  simp [h2n]
  by_cases h3 : (r.Calls.length : Int) ≤ 2
  case neg =>
    have h3n : ¬ r.Calls.length ≤ 2 := by omega
    simp [h3, h3n, Int.not_le.1 h3]
  have h3n : r.Calls.length ≤ 2 := by omega
  simp [h3, h3n, Int.not_lt.2 h3]
  generalize hB2 : callsFrom p r 0 r.Calls = B2
  refine rL_forO [2, 3, 5] 7 r.Calls.length (fun i s h n => 4 < n ∧ h 0 = some ⟨true, 2, [rAProgram p]⟩ ∧ h 1 = some ⟨true, 7, [rARule r]⟩ ∧ h 4 = some ⟨true, 4, [[.str G.Name, .ref 2 0 G.Params.length, .bool G.ListResult, .ref 3 0 G.Pre.length]]⟩ ∧ callsFrom p r i (r.Calls.drop i) = B2) (by unfold LIM; omega) (by simp) ⟨by simp, by simp [rAProgram], by simp [rARule], by simp, by simpa using hB2⟩ ?_ ?_
  · rintro i st h n R hi hg hk s7 hw ⟨hn, e0, e1, e4, hJ⟩ hR hret _
    simp at hk
    rw [callsFrom_drop hi] at hJ
    have z0 : ¬ 0 = n := by omega
    have z1 : ¬ 1 = n := by omega
    have z4 : ¬ 4 = n := by omega
    have y0 : ¬ 0 = n + 1 := by omega
    have y1 : ¬ 1 = n + 1 := by omega
    have y4 : ¬ 4 = n + 1 := by omega
    have x0 : ¬ 0 = n + 1 + 1 := by omega
    have x1 : ¬ 1 = n + 1 + 1 := by omega
    have x4 : ¬ 4 = n + 1 + 1 := by omega
    have v0 : ¬ n + 1 = n + 1 + 1 := by omega
    have v1 : ¬ n + 1 + 1 = n + 1 := by omega
    have v4 : ¬ n + 1 = n := by omega
    have q0 : ¬ n = 0 := by omega
    have q1 : ¬ n = 1 := by omega
    have q3 : ¬ n = 3 := by omega
    have q4 : ¬ n = 4 := by omega
    refine rC_seqI (rC_cut [2, 3, 5, 7] (fun s => s 44 = .bool true) (by simp [hk, s7, hi, e1, rARule]) ?_)
    intro st1 hk1 s44
    simp at hk1
    refine rC_pass1 s44 (rC_seqI (rC_blkI ?_))
    refine rC_cutH [2, 3, 5, 7] (fun s h' n' => 4 < n' ∧ s 58 = .bool (!callB p r.Calls[i] (scopeOf p r i)) ∧ h' 0 = some ⟨true, 2, [rAProgram p]⟩ ∧ h' 1 = some ⟨true, 7, [rARule r]⟩ ∧ h' 4 = some ⟨true, 4, [[.str G.Name, .ref 2 0 G.Params.length, .bool G.ListResult, .ref 3 0 G.Pre.length]]⟩) ?_ ?_
    · simp [hk, hk1, s7, hi, hg, e0, e1, e4, rAProgram, rARule, z0, z1, z4, y0, y1, y4, x0, x1, x4, v0, v1, v4, q0, q1, q3, q4]
      first | refine callD_of (ks_ScopeOf p r i hp hr) (by simp [rAProgram, rARule]) ?_ | refine call_of (ks_ScopeOf p r i hp hr) (by simp [rAProgram, rARule]) ?_ | refine callD_of (ks_ScopeOf p r i hp hr) rfl ?_ | refine call_of (ks_ScopeOf p r i hp hr) rfl ?_
      rintro r rfl
      simp [hk, hk1, s7, hi, e0, e1, e4, rAProgram, rARule, z0, z1, z4, y0, y1, y4, x0, x1, x4, v0, v1, v4, q0, q1, q3, q4]
      first | refine callD_of (ks_l10Call p (r.Calls[i]'hi) (scopeOf p r i) hp (wc _ (List.getElem_mem hi))) (by simp [rAProgram, z0, z1, z4, y0, y1, y4, x0, x1, x4, v0, v1, v4, q0, q1, q3, q4]) ?_ | refine call_of (ks_l10Call p (r.Calls[i]'hi) (scopeOf p r i) hp (wc _ (List.getElem_mem hi))) (by simp [rAProgram, z0, z1, z4, y0, y1, y4, x0, x1, x4, v0, v1, v4, q0, q1, q3, q4]) ?_ | refine callD_of (ks_l10Call p (r.Calls[i]'hi) (scopeOf p r i) hp (wc _ (List.getElem_mem hi))) rfl ?_ | refine call_of (ks_l10Call p (r.Calls[i]'hi) (scopeOf p r i) hp (wc _ (List.getElem_mem hi))) rfl ?_
      rintro r rfl
      simp [e0, e1, e4, rAProgram, rARule, z0, z1, z4, y0, y1, y4, x0, x1, x4, v0, v1, v4, q0, q1, q3, q4]
      omega
    rintro st3 h3' n3 hk3 ⟨hn3, s58, e0'', e1'', e4''⟩
    simp at hk3
    generalize callB p r.Calls[i] (scopeOf p r i) = D at *
    cases D
    · rw [Bool.false_and] at hJ
      subst hJ
      simp [s58]
      refine hret _ _ _ ?_
      simp
    · rw [Bool.true_and] at hJ
      simp [hk, hk1, hk3, s58, s7, hw]
      exact hR _ _ _ (by simp [hk, hk1, hk3]) (by simp) ⟨hn3, e0'', e1'', e4'', hJ⟩
  rintro st h n R hk s7 ⟨hn, e0, e1, e4, hJ⟩ hret hX
  simp at hk
  rw [List.drop_eq_nil_of_le (by omega)] at hJ
  refine rC_seqI (rC_cut [2, 3, 5] (fun s => s 44 = .bool false) (by simp [hk, s7, e1, rARule]) ?_)
  intro st1 hk1 s44
  simp at hk1
  refine rC_stop1 s44 ?_
  refine hX _ _ _ _ ?_
  simp [callsFrom] at hJ
  subst hJ
  clear hX hret hB2
  have z0 : ¬ 0 = n := by omega
  have z1 : ¬ 1 = n := by omega
  have z4 : ¬ 4 = n := by omega
  have y0 : ¬ 0 = n + 1 := by omega
  have y1 : ¬ 1 = n + 1 := by omega
  have y4 : ¬ 4 = n + 1 := by omega
  have x0 : ¬ 0 = n + 1 + 1 := by omega
  have x1 : ¬ 1 = n + 1 + 1 := by omega
  have x4 : ¬ 4 = n + 1 + 1 := by omega
  have v0 : ¬ n + 1 = n + 1 + 1 := by omega
  have v1 : ¬ n + 1 + 1 = n + 1 := by omega
  have v4 : ¬ n + 1 = n := by omega
  have q0 : ¬ n = 0 := by omega
  have q1 : ¬ n = 1 := by omega
  have q3 : ¬ n = 3 := by omega
  have q4 : ¬ n = 4 := by omega
  simp [hk, hk1, e0, e1, rARule, rAProgram]
  intro _
  first | refine callD_of (ks_ScopeOf p r r.Calls.length hp hr) (by simp [rAProgram, rARule]) ?_ | refine call_of (ks_ScopeOf p r r.Calls.length hp hr) (by simp [rAProgram, rARule]) ?_ | refine callD_of (ks_ScopeOf p r r.Calls.length hp hr) rfl ?_ | refine call_of (ks_ScopeOf p r r.Calls.length hp hr) rfl ?_
  rintro r rfl
  simp [hk, hk1, e0, e1, e4, rARule, rAProgram, z0, z1, z4, y0, y1, y4, x0, x1, x4, v0, v1, v4, q0, q1, q3, q4]
  first | refine callD_of (ks_l10Arg r.Result G.ListResult (scopeOf p r r.Calls.length) wa) (by simp [rAArg, z0, z1, z4, y0, y1, y4, x0, x1, x4, v0, v1, v4, q0, q1, q3, q4]) ?_ | refine call_of (ks_l10Arg r.Result G.ListResult (scopeOf p r r.Calls.length) wa) (by simp [rAArg, z0, z1, z4, y0, y1, y4, x0, x1, x4, v0, v1, v4, q0, q1, q3, q4]) ?_ | refine callD_of (ks_l10Arg r.Result G.ListResult (scopeOf p r r.Calls.length) wa) rfl ?_ | refine call_of (ks_l10Arg r.Result G.ListResult (scopeOf p r r.Calls.length) wa) rfl ?_
  rintro r rfl
  cases g1 : argOk r.Result G.ListResult (scopeOf p r r.Calls.length)
  · simp
  simp [z0, z1, z4, y0, y1, y4, x0, x1, x4, v0, v1, v4, q0, q1, q3, q4]
  first | refine callD_of (ks_AllDistinct (scopeOf p r r.Calls.length)) (by simp [z0, z1, z4, y0, y1, y4, x0, x1, x4, v0, v1, v4, q0, q1, q3, q4]) ?_ | refine call_of (ks_AllDistinct (scopeOf p r r.Calls.length)) (by simp [z0, z1, z4, y0, y1, y4, x0, x1, x4, v0, v1, v4, q0, q1, q3, q4]) ?_ | refine callD_of (ks_AllDistinct (scopeOf p r r.Calls.length)) rfl ?_ | refine call_of (ks_AllDistinct (scopeOf p r r.Calls.length)) rfl ?_
  rintro r rfl
  simp
end Go.Proofs.YtilcageplifbgaaGreat

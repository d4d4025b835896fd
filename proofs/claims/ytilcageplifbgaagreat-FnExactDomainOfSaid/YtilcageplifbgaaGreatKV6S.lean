/- Contracts: calls, of the reference. -/
import Derived.Test.YtilcageplifbgaaGreatKV6
namespace Go.Proofs.YtilcageplifbgaaGreat
set_option linter.all false
open Go Go.RowKit Go.Proofs
def a210 : AFn :=
⟨70, [(.t 6)], (.seq
 (.reg [⟨some 3, (.boxv (.t 0)), no⟩, ⟨some 4, (.boxv (.t 1)), no⟩, ⟨some 6, (.mv (.k (.bool false))), no⟩]) (.seq
 (.reg [⟨some 11, (.ld true 2 (.t 3)), no⟩, ⟨some 12, (.fld 1 (.t 4)), no⟩, ⟨some 13, (.ld false 1 (.t 12)), no⟩, ⟨some 14, (.call (.k (.fn (.func 57) [] [])) [(.t 11), (.t 13)]), no⟩, ⟨some 10, (.mv (.t 14)), no⟩, ⟨some 15, (.ext (.t 10) 0), no⟩, ⟨some 16, (.ext (.t 10) 1), no⟩, ⟨some 7, (.box [(.str []), (.nil 1), (.bool false), (.nil 2)]), no⟩, ⟨no, (.st 4 (.t 7) (.t 15)), no⟩, ⟨some 8, (.mv (.t 16)), no⟩]) (.seq (.seq
 (.reg [⟨some 17, (.mv (.t 8)), no⟩, ⟨some 18, (.un .not (.t 17)), no⟩, ⟨some 19, (.mv (.t 18)), no⟩, ⟨some 20, (.fld 2 (.t 4)), (some (19, false))⟩, ⟨some 21, (.ld false 1 (.t 20)), (some (19, false))⟩, ⟨some 22, (.len false (.t 21)), (some (19, false))⟩, ⟨some 23, (.fld 1 (.t 7)), (some (19, false))⟩, ⟨some 24, (.ld false 1 (.t 23)), (some (19, false))⟩, ⟨some 25, (.len false (.t 24)), (some (19, false))⟩, ⟨some 26, (.bin .neq (.t 22) (.t 25)), (some (19, false))⟩, ⟨some 27, (.pick (.t 19) (.k (.bool true)) (.t 26)), no⟩, ⟨some 28, (.mv (.t 27)), no⟩, ⟨some 29, (.fld 2 (.t 7)), (some (28, false))⟩, ⟨some 30, (.ld false 1 (.t 29)), (some (28, false))⟩, ⟨some 31, (.mv (.t 30)), (some (28, false))⟩, ⟨some 32, (.fld 0 (.t 4)), (some (31, true))⟩, ⟨some 33, (.ld false 1 (.t 32)), (some (31, true))⟩, ⟨some 34, (.call (.k (.fn (.func 143) [] [])) [(.t 33)]), (some (31, true))⟩, ⟨some 35, (.un .not (.t 34)), (some (31, true))⟩, ⟨some 36, (.pick (.t 31) (.t 35) (.k (.bool false))), (some (28, false))⟩, ⟨some 37, (.pick (.t 28) (.k (.bool true)) (.t 36)), no⟩, ⟨some 38, (.mv (.t 37)), no⟩, ⟨some 39, (.fld 2 (.t 7)), (some (38, false))⟩, ⟨some 40, (.ld false 1 (.t 39)), (some (38, false))⟩, ⟨some 41, (.un .not (.t 40)), (some (38, false))⟩, ⟨some 42, (.mv (.t 41)), (some (38, false))⟩, ⟨some 43, (.fld 0 (.t 4)), (some (42, true))⟩, ⟨some 44, (.ld false 1 (.t 43)), (some (42, true))⟩, ⟨some 45, (.call (.k (.fn (.func 204) [] [])) [(.t 44)]), (some (42, true))⟩, ⟨some 46, (.un .not (.t 45)), (some (42, true))⟩, ⟨some 47, (.pick (.t 42) (.t 46) (.k (.bool false))), (some (38, false))⟩, ⟨some 48, (.pick (.t 38) (.k (.bool true)) (.t 47)), no⟩]) (.cond (.t 48) (.seq
 (.reg [⟨some 6, (.mv (.k (.bool false))), no⟩]) .ret) .skip)) (.seq (.seq
 (.reg [⟨some 9, (.mv (.k (.int .i64 0))), no⟩]) (.blk 0 (.loop (.seq (.seq
 (.reg [⟨some 49, (.mv (.t 9)), no⟩, ⟨some 50, (.fld 2 (.t 4)), no⟩, ⟨some 51, (.ld false 1 (.t 50)), no⟩, ⟨some 52, (.len false (.t 51)), no⟩, ⟨some 53, (.bin .lss (.t 49) (.t 52)), no⟩]) (.cond (.t 53) .skip (.exit 0))) (.seq (.blk 1 (.seq (.draw (.op ⟨some 56, (.fld 2 (.t 4)), no⟩ (.op ⟨some 57, (.ld false 1 (.t 56)), no⟩ (.op ⟨some 58, (.mv (.t 9)), no⟩ (.op ⟨some 59, (.ixa 3 (.t 57) (.t 58)), no⟩ (.op ⟨some 60, (.ld true 3 (.t 59)), no⟩ (.op ⟨some 61, (.fld 1 (.t 7)), no⟩ (.op ⟨some 62, (.ld false 1 (.t 61)), no⟩ (.op ⟨some 63, (.mv (.t 9)), no⟩ (.op ⟨some 64, (.ixa 1 (.t 62) (.t 63)), no⟩ (.op ⟨some 65, (.ld false 1 (.t 64)), no⟩ (.op ⟨some 67, (.mv (.t 2)), no⟩ (.op ⟨some 66, (.call (.k (.fn (.func 143) [] [])) [(.t 65)]), no⟩ (.op ⟨some 68, (.call (.k (.fn (.func 211) [] [])) [(.t 60), (.t 66), (.t 67)]), no⟩ (.op ⟨some 69, (.un .not (.t 68)), no⟩ .fin))))))))))))))) (.cond (.t 69) (.seq
 (.reg [⟨some 6, (.mv (.k (.bool false))), no⟩]) .ret) .skip)))
 (.reg [⟨some 54, (.mv (.t 9)), no⟩, ⟨some 55, (.bin .add (.t 54) (.k (.int .i64 1))), no⟩, ⟨some 9, (.mv (.t 55)), no⟩])))))) (.seq
 (.reg [⟨some 6, (.mv (.k (.bool true))), no⟩]) .ret)))))⟩
theorem a210_ok : compFn Tryz.prog Tryz.f210 = some a210 := by kernel_rfl
set_option maxRecDepth 20000 in
set_option maxHeartbeats 1000000 in
theorem ks_l10Call (p : DProgram) (c : DCall) (scope : List Str) (hp : wProgram p ≤ 1048576) (hc : wCall c ≤ 1048576) : Holds Tryz.prog 210 [.agg (rAProgram p), .agg (rACall c), .sl 1 (strsR scope)] (fun r => r = .bool (callB p c scope)) := by
  have hal : c.Args.length ≤ 1048576 := by have := wL_len wArg c.Args; unfold wCall wArgS at hc; omega
  refine holds_of_run Tryz.func210 a210_ok rfl (by simp [a210]) ?_
  simp [a210, rAProgram, rACall]
  first | refine callD_of (ks_FindFunction p c.Func hp) (by simp [rAProgram]) ?_ | refine call_of (ks_FindFunction p c.Func hp) (by simp [rAProgram]) ?_ | refine callD_of (ks_FindFunction p c.Func hp) rfl ?_ | refine call_of (ks_FindFunction p c.Func hp) rfl ?_
  rintro r rfl
  unfold callB
  generalize hG : (findFn p.Functions c.Func).getD fn0 = G
  simp only [optFn, hG]
  generalize hb1 : (findFn p.Functions c.Func).isSome = b1
  simp [rUFunction]
  cases b1
  · simp
  simp
  intro _ _
  have hd : decide (c.Args.length = G.Params.length) = decide ((c.Args.length : Int) = G.Params.length) := by rw [decide_eq_decide]; omega
  by_cases h1 : (c.Args.length : Int) = G.Params.length
  case neg =>
    have h1n : ¬ c.Args.length = G.Params.length := by omega
    simp [h1, h1n]
  have h1n : c.Args.length = G.Params.length := by omega
  simp [h1, h1n]
  generalize hB : argsOk scope c.Args G.Params = B
  cases hL : G.ListResult
  · simp
    first | refine callD_of (ks_l10IntName c.Bind) (by simp) ?_ | refine call_of (ks_l10IntName c.Bind) (by simp) ?_ | refine callD_of (ks_l10IntName c.Bind) rfl ?_ | refine call_of (ks_l10IntName c.Bind) rfl ?_
    rintro r rfl
    cases hn : intName c.Bind
    · simp
    simp [hL]
    refine rL_forO [2, 4, 7] 9 c.Args.length (fun i s h n => 4 < n ∧ h 1 = some ⟨true, 3, [[.str c.Bind, .str c.Func, .sl 3 (c.Args.map rAArg)]]⟩ ∧ h 4 = some ⟨true, 4, [[.str G.Name, .ref 2 0 G.Params.length, .bool false, .ref 3 0 G.Pre.length]]⟩ ∧ h 2 = some ⟨false, 1, strsR G.Params⟩ ∧ argsOk scope (c.Args.drop i) (G.Params.drop i) = B) (by unfold LIM; omega) (by simp) ⟨by simp, by simp, by simp, by simp, by simpa using hB⟩ ?_ ?_
    · rintro i st h n R hi hg hk s9 hw ⟨hn, e1, e4, e2, hJ⟩ hR hret _
      simp at hk
      have hip : i < G.Params.length := by omega
      rw [argsOk_drop hi hip] at hJ
      refine rC_seqI (rC_cut [2, 4, 7, 9] (fun s => s 53 = .bool true) (by simp [hk, s9, hi, hip, e1, h1n]) ?_)
      intro st1 hk1 s53
      simp at hk1
      refine rC_pass1 s53 (rC_seqI (rC_blkI ?_))
      refine rC_cutH [2, 4, 7, 9] (fun s h' n' => 4 < n' ∧ s 69 = .bool (!argOk c.Args[i] (listName G.Params[i]) scope) ∧ h' 1 = some ⟨true, 3, [[.str c.Bind, .str c.Func, .sl 3 (c.Args.map rAArg)]]⟩ ∧ h' 4 = some ⟨true, 4, [[.str G.Name, .ref 2 0 G.Params.length, .bool false, .ref 3 0 G.Pre.length]]⟩ ∧ h' 2 = some ⟨false, 1, strsR G.Params⟩) ?_ ?_
      · simp [hk, hk1, s9, e1, e4, e2, hi, hip, hg]
        first | refine callD_of (ks_IsListName (G.Params[i]'hip)) (by simp) ?_ | refine call_of (ks_IsListName (G.Params[i]'hip)) (by simp) ?_ | refine callD_of (ks_IsListName (G.Params[i]'hip)) rfl ?_ | refine call_of (ks_IsListName (G.Params[i]'hip)) rfl ?_
        rintro r rfl
        simp [hk, hk1, s9, e1, e4, e2, hi, hip, rAArg]
        first | refine callD_of (ks_l10Arg (c.Args[i]'hi) (listName (G.Params[i]'hip)) scope (wCall_arg hi hc)) (by simp [rAArg]) ?_ | refine call_of (ks_l10Arg (c.Args[i]'hi) (listName (G.Params[i]'hip)) scope (wCall_arg hi hc)) (by simp [rAArg]) ?_ | refine callD_of (ks_l10Arg (c.Args[i]'hi) (listName (G.Params[i]'hip)) scope (wCall_arg hi hc)) rfl ?_ | refine call_of (ks_l10Arg (c.Args[i]'hi) (listName (G.Params[i]'hip)) scope (wCall_arg hi hc)) rfl ?_
        rintro r rfl
        simp [e1, e4, e2, hn]
      rintro st3 h3 n3 hk3 ⟨hn3, s69, e1'', e4'', e2''⟩
      simp at hk3
      generalize argOk c.Args[i] (listName G.Params[i]) scope = D at *
      cases D
      · rw [Bool.false_and] at hJ
        subst hJ
        simp [s69]
        refine hret _ _ _ ?_
        simp
      · rw [Bool.true_and] at hJ
        simp [hk, hk1, hk3, s69, s9, hw]
        exact hR _ _ _ (by simp [hk, hk1, hk3]) (by simp) ⟨by omega, by simp [e1''], by simp [e4''], by simp [e2''], hJ⟩
    · rintro st h n R hk s9 ⟨hn, e1, e4, e2, hJ⟩ hret hX
      simp at hk
      rw [List.drop_eq_nil_of_le (by omega), argsOk_end] at hJ
      refine rC_seqI (rC_cut [2] (fun s => s 53 = .bool false) (by simp [hk, s9, e1, h1n]) ?_)
      intro st1 hk1 s53
      refine rC_stop1 s53 ?_
      simp
      refine hX _ _ _ _ ?_
      simp [← hJ]
  · simp
    first | refine callD_of (ks_IsListName c.Bind) (by simp) ?_ | refine call_of (ks_IsListName c.Bind) (by simp) ?_ | refine callD_of (ks_IsListName c.Bind) rfl ?_ | refine call_of (ks_IsListName c.Bind) rfl ?_
    rintro r rfl
    cases hn : listName c.Bind
    · simp
    simp [hL]
    refine rL_forO [2, 4, 7] 9 c.Args.length (fun i s h n => 4 < n ∧ h 1 = some ⟨true, 3, [[.str c.Bind, .str c.Func, .sl 3 (c.Args.map rAArg)]]⟩ ∧ h 4 = some ⟨true, 4, [[.str G.Name, .ref 2 0 G.Params.length, .bool true, .ref 3 0 G.Pre.length]]⟩ ∧ h 2 = some ⟨false, 1, strsR G.Params⟩ ∧ argsOk scope (c.Args.drop i) (G.Params.drop i) = B) (by unfold LIM; omega) (by simp) ⟨by simp, by simp, by simp, by simp, by simpa using hB⟩ ?_ ?_
    · rintro i st h n R hi hg hk s9 hw ⟨hn, e1, e4, e2, hJ⟩ hR hret _
      simp at hk
      have hip : i < G.Params.length := by omega
      rw [argsOk_drop hi hip] at hJ
      refine rC_seqI (rC_cut [2, 4, 7, 9] (fun s => s 53 = .bool true) (by simp [hk, s9, hi, hip, e1, h1n]) ?_)
      intro st1 hk1 s53
      simp at hk1
      refine rC_pass1 s53 (rC_seqI (rC_blkI ?_))
      refine rC_cutH [2, 4, 7, 9] (fun s h' n' => 4 < n' ∧ s 69 = .bool (!argOk c.Args[i] (listName G.Params[i]) scope) ∧ h' 1 = some ⟨true, 3, [[.str c.Bind, .str c.Func, .sl 3 (c.Args.map rAArg)]]⟩ ∧ h' 4 = some ⟨true, 4, [[.str G.Name, .ref 2 0 G.Params.length, .bool true, .ref 3 0 G.Pre.length]]⟩ ∧ h' 2 = some ⟨false, 1, strsR G.Params⟩) ?_ ?_
      · simp [hk, hk1, s9, e1, e4, e2, hi, hip, hg]
        first | refine callD_of (ks_IsListName (G.Params[i]'hip)) (by simp) ?_ | refine call_of (ks_IsListName (G.Params[i]'hip)) (by simp) ?_ | refine callD_of (ks_IsListName (G.Params[i]'hip)) rfl ?_ | refine call_of (ks_IsListName (G.Params[i]'hip)) rfl ?_
        rintro r rfl
        simp [hk, hk1, s9, e1, e4, e2, hi, hip, rAArg]
        first | refine callD_of (ks_l10Arg (c.Args[i]'hi) (listName (G.Params[i]'hip)) scope (wCall_arg hi hc)) (by simp [rAArg]) ?_ | refine call_of (ks_l10Arg (c.Args[i]'hi) (listName (G.Params[i]'hip)) scope (wCall_arg hi hc)) (by simp [rAArg]) ?_ | refine callD_of (ks_l10Arg (c.Args[i]'hi) (listName (G.Params[i]'hip)) scope (wCall_arg hi hc)) rfl ?_ | refine call_of (ks_l10Arg (c.Args[i]'hi) (listName (G.Params[i]'hip)) scope (wCall_arg hi hc)) rfl ?_
        rintro r rfl
        simp [e1, e4, e2, hn]
      rintro st3 h3 n3 hk3 ⟨hn3, s69, e1'', e4'', e2''⟩
      simp at hk3
      generalize argOk c.Args[i] (listName G.Params[i]) scope = D at *
      cases D
      · rw [Bool.false_and] at hJ
        subst hJ
        simp [s69]
        refine hret _ _ _ ?_
        simp
      · rw [Bool.true_and] at hJ
        simp [hk, hk1, hk3, s69, s9, hw]
        exact hR _ _ _ (by simp [hk, hk1, hk3]) (by simp) ⟨by omega, by simp [e1''], by simp [e4''], by simp [e2''], hJ⟩
    · rintro st h n R hk s9 ⟨hn, e1, e4, e2, hJ⟩ hret hX
      simp at hk
      rw [List.drop_eq_nil_of_le (by omega), argsOk_end] at hJ
      refine rC_seqI (rC_cut [2] (fun s => s 53 = .bool false) (by simp [hk, s9, e1, h1n]) ?_)
      intro st1 hk1 s53
      refine rC_stop1 s53 ?_
      simp
      refine hX _ _ _ _ ?_
      simp [← hJ]
end Go.Proofs.YtilcageplifbgaaGreat

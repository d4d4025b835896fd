/- Contracts: calls. -/
import Derived.Test.YtilcageplifbgaaGreatKV5
namespace Go.Proofs.YtilcageplifbgaaGreat
set_option linter.all false
open Go Go.RowKit Go.Proofs
def a229 : AFn :=
⟨78, [(.t 6)], (.seq
 (.reg [⟨some 3, (.boxv (.t 0)), no⟩, ⟨some 4, (.boxv (.t 1)), no⟩, ⟨some 6, (.mv (.k (.bool false))), no⟩]) (.seq
 (.reg [⟨some 12, (.ld true 2 (.t 3)), no⟩, ⟨some 13, (.fld 1 (.t 4)), no⟩, ⟨some 14, (.ld false 1 (.t 13)), no⟩, ⟨some 15, (.call (.k (.fn (.func 62) [] [])) [(.t 12), (.t 14)]), no⟩, ⟨some 11, (.mv (.t 15)), no⟩, ⟨some 16, (.ext (.t 11) 0), no⟩, ⟨some 17, (.ext (.t 11) 1), no⟩, ⟨some 7, (.box [(.str []), (.nil 1), (.bool false), (.nil 2)]), no⟩, ⟨no, (.st 4 (.t 7) (.t 16)), no⟩, ⟨some 8, (.mv (.t 17)), no⟩]) (.seq (.seq
 (.reg [⟨some 18, (.mv (.t 8)), no⟩, ⟨some 19, (.un .not (.t 18)), no⟩, ⟨some 20, (.mv (.t 19)), no⟩, ⟨some 21, (.fld 2 (.t 4)), (some (20, false))⟩, ⟨some 22, (.ld false 1 (.t 21)), (some (20, false))⟩, ⟨some 23, (.len false (.t 22)), (some (20, false))⟩, ⟨some 24, (.fld 1 (.t 7)), (some (20, false))⟩, ⟨some 25, (.ld false 1 (.t 24)), (some (20, false))⟩, ⟨some 26, (.len false (.t 25)), (some (20, false))⟩, ⟨some 27, (.bin .neq (.t 23) (.t 26)), (some (20, false))⟩, ⟨some 28, (.pick (.t 20) (.k (.bool true)) (.t 27)), no⟩]) (.cond (.t 28) (.seq
 (.reg [⟨some 6, (.mv (.k (.bool false))), no⟩]) .ret) .skip)) (.seq (.seq
 (.reg [⟨some 29, (.fld 2 (.t 7)), no⟩, ⟨some 30, (.ld false 1 (.t 29)), no⟩, ⟨some 31, (.mv (.t 30)), no⟩, ⟨some 32, (.fld 0 (.t 4)), (some (31, true))⟩, ⟨some 33, (.ld false 1 (.t 32)), (some (31, true))⟩, ⟨some 34, (.call (.k (.fn (.func 64) [] [])) [(.t 33)]), (some (31, true))⟩, ⟨some 35, (.un .not (.t 34)), (some (31, true))⟩, ⟨some 36, (.pick (.t 31) (.t 35) (.k (.bool false))), no⟩, ⟨some 37, (.mv (.t 36)), no⟩, ⟨some 38, (.fld 2 (.t 7)), (some (37, false))⟩, ⟨some 39, (.ld false 1 (.t 38)), (some (37, false))⟩, ⟨some 40, (.un .not (.t 39)), (some (37, false))⟩, ⟨some 41, (.mv (.t 40)), (some (37, false))⟩, ⟨some 42, (.fld 0 (.t 4)), (some (41, true))⟩, ⟨some 43, (.ld false 1 (.t 42)), (some (41, true))⟩, ⟨some 44, (.call (.k (.fn (.func 149) [] [])) [(.t 43)]), (some (41, true))⟩, ⟨some 45, (.un .not (.t 44)), (some (41, true))⟩, ⟨some 46, (.pick (.t 41) (.t 45) (.k (.bool false))), (some (37, false))⟩, ⟨some 47, (.pick (.t 37) (.k (.bool true)) (.t 46)), no⟩]) (.cond (.t 47) (.seq
 (.reg [⟨some 6, (.mv (.k (.bool false))), no⟩]) .ret) .skip)) (.seq (.seq
 (.reg [⟨some 48, (.fld 2 (.t 4)), no⟩, ⟨some 49, (.ld false 1 (.t 48)), no⟩, ⟨some 50, (.len false (.t 49)), no⟩, ⟨some 51, (.mv (.k (.int .i64 0))), no⟩]) (.blk 0 (.loop (.seq
 (.reg [⟨some 52, (.bin .lss (.t 51) (.t 50)), no⟩]) (.seq (.cond (.t 52) .skip (.exit 0)) (.seq (.blk 1 (.seq
 (.reg [⟨some 53, (.mv (.t 51)), no⟩, ⟨some 54, (.ixa 3 (.t 49) (.t 51)), no⟩, ⟨some 55, (.ld true 3 (.t 54)), no⟩, ⟨some 10, (.box [(.bool false), (.nil 2), (.str [])]), no⟩, ⟨some 9, (.mv (.t 53)), no⟩, ⟨no, (.st 3 (.t 10) (.t 55)), no⟩]) (.seq (.draw (.op ⟨some 56, (.ld true 3 (.t 10)), no⟩ (.op ⟨some 57, (.call (.k (.fn (.func 230) [] [])) [(.t 56)]), no⟩ (.op ⟨some 58, (.un .not (.t 57)), no⟩ (.op ⟨some 59, (.mv (.t 58)), no⟩ (.op ⟨some 60, (.fld 0 (.t 10)), (some (59, false))⟩ (.op ⟨some 61, (.ld false 1 (.t 60)), (some (59, false))⟩ (.op ⟨some 62, (.fld 1 (.t 7)), (some (59, false))⟩ (.op ⟨some 63, (.ld false 1 (.t 62)), (some (59, false))⟩ (.op ⟨some 64, (.mv (.t 9)), (some (59, false))⟩ (.op ⟨some 65, (.ixa 1 (.t 63) (.t 64)), (some (59, false))⟩ (.op ⟨some 66, (.ld false 1 (.t 65)), (some (59, false))⟩ (.op ⟨some 67, (.call (.k (.fn (.func 64) [] [])) [(.t 66)]), (some (59, false))⟩ (.op ⟨some 68, (.beq true (.t 61) (.t 67)), (some (59, false))⟩ (.op ⟨some 69, (.pick (.t 59) (.k (.bool true)) (.t 68)), no⟩ (.op ⟨some 70, (.mv (.t 69)), no⟩ (.op ⟨some 71, (.ld true 3 (.t 10)), (some (70, false))⟩ (.op ⟨some 73, (.mv (.t 2)), (some (70, false))⟩ (.op ⟨some 72, (.call (.k (.fn (.func 231) [] [])) [(.t 71)]), (some (70, false))⟩ (.op ⟨some 74, (.call (.k (.fn (.func 226) [] [])) [(.t 72), (.t 73)]), (some (70, false))⟩ (.op ⟨some 75, (.un .not (.t 74)), (some (70, false))⟩ (.op ⟨some 76, (.pick (.t 70) (.k (.bool true)) (.t 75)), no⟩ .fin)))))))))))))))))))))) (.cond (.t 76) (.seq
 (.reg [⟨some 6, (.mv (.k (.bool false))), no⟩]) .ret) .skip))))
 (.reg [⟨some 77, (.bin .add (.t 51) (.k (.int .i64 1))), no⟩, ⟨some 51, (.mv (.t 77)), no⟩]))))))) (.seq
 (.reg [⟨some 6, (.mv (.k (.bool true))), no⟩]) .ret))))))⟩
theorem a229_ok : compFn Tryz.prog Tryz.f229 = some a229 := by kernel_rfl
theorem argsOk_drop {scope : List Str} {l : List DArg} {m : List Str} {i : Nat} (h1 : i < l.length) (h2 : i < m.length) : argsOk scope (l.drop i) (m.drop i) = (argOk l[i] (listName m[i]) scope && argsOk scope (l.drop (i + 1)) (m.drop (i + 1))) := by
  rw [List.drop_eq_getElem_cons h1, List.drop_eq_getElem_cons h2]; rfl
theorem argsOk_end (scope : List Str) (m : List Str) : argsOk scope [] m = true := by cases m <;> rfl
theorem wCall_arg {c : DCall} {i : Nat} (hi : i < c.Args.length) (hw : wCall c ≤ 1048576) : wArg c.Args[i] ≤ 1048576 := by
  have := wL_mem (w := wArg) (List.getElem_mem hi)
  unfold wCall wArgS at hw
  omega
set_option maxRecDepth 20000 in
set_option maxHeartbeats 1000000 in
theorem k_callOk (p : DProgram) (c : DCall) (scope : List Str) (hp : wProgram p ≤ 1048576) (hc : wCall c ≤ 1048576) : Holds Tryz.prog 229 [.agg (rAProgram p), .agg (rACall c), .sl 1 (strsR scope)] (fun r => r = .bool (callB p c scope)) := by
  have hal : c.Args.length ≤ 1048576 := by have := wL_len wArg c.Args; unfold wCall wArgS at hc; omega
  refine holds_of_run Tryz.func229 a229_ok rfl (by simp [a229]) ?_
  simp [a229, rAProgram, rACall]
  first | refine callD_of (k_FindFunction p c.Func hp) (by simp [rAProgram]) ?_ | refine call_of (k_FindFunction p c.Func hp) (by simp [rAProgram]) ?_ | refine callD_of (k_FindFunction p c.Func hp) rfl ?_ | refine call_of (k_FindFunction p c.Func hp) rfl ?_
  rintro r rfl
  unfold callB
  generalize hG : (findFn p.Functions c.Func).getD fn0 = G
  simp only [optFn, hG]
  generalize hb1 : (findFn p.Functions c.Func).isSome = b1
  simp [rUFunction]
  cases b1
  · simp
  simp
  intro _ _
  have hd : decide (c.Args.length = G.Params.length) = decide ((c.Args.length : Int) = G.Params.length) := by rw [decide_eq_decide]; omega
  by_cases h1 : (c.Args.length : Int) = G.Params.length
  case neg =>
    have h1n : ¬ c.Args.length = G.Params.length := by omega
    simp [h1, h1n]
  have h1n : c.Args.length = G.Params.length := by omega
  simp [h1, h1n]
  generalize hB : argsOk scope c.Args G.Params = B
  cases hL : G.ListResult
  · simp
    first | refine callD_of (k_isIntName c.Bind) (by simp) ?_ | refine call_of (k_isIntName c.Bind) (by simp) ?_ | refine callD_of (k_isIntName c.Bind) rfl ?_ | refine call_of (k_isIntName c.Bind) rfl ?_
    rintro r rfl
    cases hn : intName c.Bind
    · simp
    simp [hL]
    intro _
    refine rL_forO [2, 7, 49, 50] 51 c.Args.length (fun i s h n => 4 < n ∧ h 4 = some ⟨true, 4, [[.str G.Name, .ref 2 0 G.Params.length, .bool false, .ref 3 0 G.Pre.length]]⟩ ∧ h 2 = some ⟨false, 1, strsR G.Params⟩ ∧ argsOk scope (c.Args.drop i) (G.Params.drop i) = B) (by unfold LIM; omega) (by simp) ⟨by simp, by simp, by simp, by simpa using hB⟩ ?_ ?_
    · rintro i st h n R hi hg hk s51 hw ⟨hn, e4, e2, hJ⟩ hR hret _
      simp at hk
      have hip : i < G.Params.length := by omega
      rw [argsOk_drop hi hip] at hJ
      have z2 : ¬ 2 = n := by omega
      have z4 : ¬ 4 = n := by omega
      have y2 : ¬ 2 = n + 1 := by omega
      have y4 : ¬ 4 = n + 1 := by omega
      refine rC_cut [2, 7, 49, 50, 51] (fun s => s 52 = .bool true) (by simp [hk, s51, hi, ← h1n]) ?_
      intro st1 hk1 s52
      simp at hk1
      refine rC_pass s52 (rC_seqI (rC_blkI ?_))
      refine rC_cutH [2, 7, 49, 50, 51] (fun s h' n' => s 9 = .int .i64 i ∧ s 10 = .ptr n 0 0 ∧ n' = n + 1 ∧ h' n = some ⟨true, 3, [rAArg c.Args[i]]⟩ ∧ h' 4 = some ⟨true, 4, [[.str G.Name, .ref 2 0 G.Params.length, .bool false, .ref 3 0 G.Pre.length]]⟩ ∧ h' 2 = some ⟨false, 1, strsR G.Params⟩) (by simp [hk, hk1, s51, hi, rAArg, e4, e2, z2, z4]) ?_
      rintro st2 h2 n2 hk2 ⟨s9, s10, rfl, en, e4', e2'⟩
      simp at hk2
      refine rC_cutH [2, 7, 49, 50, 51] (fun s h' n' => n < n' ∧ s 76 = .bool (!argOk c.Args[i] (listName G.Params[i]) scope) ∧ h' 4 = some ⟨true, 4, [[.str G.Name, .ref 2 0 G.Params.length, .bool false, .ref 3 0 G.Pre.length]]⟩ ∧ h' 2 = some ⟨false, 1, strsR G.Params⟩) ?_ ?_
      · simp [hk, hk1, hk2, s10, en]
        first | refine callD_of (k_IsValidArg (c.Args[i]'hi)) (by simp) ?_ | refine call_of (k_IsValidArg (c.Args[i]'hi)) (by simp) ?_ | refine callD_of (k_IsValidArg (c.Args[i]'hi)) rfl ?_ | refine call_of (k_IsValidArg (c.Args[i]'hi)) rfl ?_
        rintro r rfl
        unfold argOk
        cases g1 : okArg c.Args[i]
        · simp [e4', e2']
        simp [hk, hk1, hk2, s9, s10, en, e4', e2', hip, rAArg]
        first | refine callD_of (k_IsListName (G.Params[i]'hip)) (by simp) ?_ | refine call_of (k_IsListName (G.Params[i]'hip)) (by simp) ?_ | refine callD_of (k_IsListName (G.Params[i]'hip)) rfl ?_ | refine call_of (k_IsListName (G.Params[i]'hip)) rfl ?_
        rintro r rfl
        cases g2 : ((c.Args[i]).Lst == listName G.Params[i])
        · have g2' : ¬ (c.Args[i]).Lst = listName G.Params[i] := by simpa using g2
          simp [g2', e4', e2']
        have g2' : (c.Args[i]).Lst = listName G.Params[i] := by simpa using g2
        simp [g2', hk, hk1, hk2, s9, s10, en, e4', e2', hip, rAArg]
        first | refine callD_of (k_NamesOf (c.Args[i]'hi) (wCall_arg hi hc)) (by simp [rAArg, g2']) ?_ | refine call_of (k_NamesOf (c.Args[i]'hi) (wCall_arg hi hc)) (by simp [rAArg, g2']) ?_ | refine callD_of (k_NamesOf (c.Args[i]'hi) (wCall_arg hi hc)) rfl ?_ | refine call_of (k_NamesOf (c.Args[i]'hi) (wCall_arg hi hc)) rfl ?_
        rintro r rfl
        simp [g2', hk, hk1, hk2, s9, s10, en, e4', e2', hip, rAArg, y2, y4]
        first | refine callD_of (k_allIn (snames (argN0 (c.Args[i]'hi))) scope) (by simp) ?_ | refine call_of (k_allIn (snames (argN0 (c.Args[i]'hi))) scope) (by simp) ?_ | refine callD_of (k_allIn (snames (argN0 (c.Args[i]'hi))) scope) rfl ?_ | refine call_of (k_allIn (snames (argN0 (c.Args[i]'hi))) scope) rfl ?_
        rintro r rfl
        simp [e4', e2', y2, y4]
      rintro st3 h3 n3 hk3 ⟨hn3, s76, e4'', e2''⟩
      simp at hk3
      generalize argOk c.Args[i] (listName G.Params[i]) scope = D at *
      cases D
      · rw [Bool.false_and] at hJ
        subst hJ
        simp [s76]
        refine hret _ _ _ ?_
        simp
      · rw [Bool.true_and] at hJ
        simp [hk, hk1, hk2, hk3, s76, s51, hw]
        exact hR _ _ _ (by simp [hk, hk1, hk2, hk3]) (by simp) ⟨by omega, by simp [e4''], by simp [e2''], hJ⟩
    · rintro st h n R hk s51 ⟨hn, e4, e2, hJ⟩ hret hX
      simp at hk
      rw [List.drop_eq_nil_of_le (by omega), argsOk_end] at hJ
      refine rC_cut [2] (fun s => s 52 = .bool false) (by simp [hk, s51, ← h1n]) ?_
      intro st1 hk1 s52
      refine rC_stop s52 ?_
      simp
      refine hX _ _ _ _ ?_
      simp [← hJ]
  · simp
    first | refine callD_of (k_IsListName c.Bind) (by simp) ?_ | refine call_of (k_IsListName c.Bind) (by simp) ?_ | refine callD_of (k_IsListName c.Bind) rfl ?_ | refine call_of (k_IsListName c.Bind) rfl ?_
    rintro r rfl
    cases hn : listName c.Bind
    · simp
    simp [hL]
    intro _
    refine rL_forO [2, 7, 49, 50] 51 c.Args.length (fun i s h n => 4 < n ∧ h 4 = some ⟨true, 4, [[.str G.Name, .ref 2 0 G.Params.length, .bool true, .ref 3 0 G.Pre.length]]⟩ ∧ h 2 = some ⟨false, 1, strsR G.Params⟩ ∧ argsOk scope (c.Args.drop i) (G.Params.drop i) = B) (by unfold LIM; omega) (by simp) ⟨by simp, by simp, by simp, by simpa using hB⟩ ?_ ?_
    · rintro i st h n R hi hg hk s51 hw ⟨hn, e4, e2, hJ⟩ hR hret _
      simp at hk
      have hip : i < G.Params.length := by omega
      rw [argsOk_drop hi hip] at hJ
      have z2 : ¬ 2 = n := by omega
      have z4 : ¬ 4 = n := by omega
      have y2 : ¬ 2 = n + 1 := by omega
      have y4 : ¬ 4 = n + 1 := by omega
      refine rC_cut [2, 7, 49, 50, 51] (fun s => s 52 = .bool true) (by simp [hk, s51, hi, ← h1n]) ?_
      intro st1 hk1 s52
      simp at hk1
      refine rC_pass s52 (rC_seqI (rC_blkI ?_))
      refine rC_cutH [2, 7, 49, 50, 51] (fun s h' n' => s 9 = .int .i64 i ∧ s 10 = .ptr n 0 0 ∧ n' = n + 1 ∧ h' n = some ⟨true, 3, [rAArg c.Args[i]]⟩ ∧ h' 4 = some ⟨true, 4, [[.str G.Name, .ref 2 0 G.Params.length, .bool true, .ref 3 0 G.Pre.length]]⟩ ∧ h' 2 = some ⟨false, 1, strsR G.Params⟩) (by simp [hk, hk1, s51, hi, rAArg, e4, e2, z2, z4]) ?_
      rintro st2 h2 n2 hk2 ⟨s9, s10, rfl, en, e4', e2'⟩
      simp at hk2
      refine rC_cutH [2, 7, 49, 50, 51] (fun s h' n' => n < n' ∧ s 76 = .bool (!argOk c.Args[i] (listName G.Params[i]) scope) ∧ h' 4 = some ⟨true, 4, [[.str G.Name, .ref 2 0 G.Params.length, .bool true, .ref 3 0 G.Pre.length]]⟩ ∧ h' 2 = some ⟨false, 1, strsR G.Params⟩) ?_ ?_
      · simp [hk, hk1, hk2, s10, en]
        first | refine callD_of (k_IsValidArg (c.Args[i]'hi)) (by simp) ?_ | refine call_of (k_IsValidArg (c.Args[i]'hi)) (by simp) ?_ | refine callD_of (k_IsValidArg (c.Args[i]'hi)) rfl ?_ | refine call_of (k_IsValidArg (c.Args[i]'hi)) rfl ?_
        rintro r rfl
        unfold argOk
        cases g1 : okArg c.Args[i]
        · simp [e4', e2']
        simp [hk, hk1, hk2, s9, s10, en, e4', e2', hip, rAArg]
        first | refine callD_of (k_IsListName (G.Params[i]'hip)) (by simp) ?_ | refine call_of (k_IsListName (G.Params[i]'hip)) (by simp) ?_ | refine callD_of (k_IsListName (G.Params[i]'hip)) rfl ?_ | refine call_of (k_IsListName (G.Params[i]'hip)) rfl ?_
        rintro r rfl
        cases g2 : ((c.Args[i]).Lst == listName G.Params[i])
        · have g2' : ¬ (c.Args[i]).Lst = listName G.Params[i] := by simpa using g2
          simp [g2', e4', e2']
        have g2' : (c.Args[i]).Lst = listName G.Params[i] := by simpa using g2
        simp [g2', hk, hk1, hk2, s9, s10, en, e4', e2', hip, rAArg]
        first | refine callD_of (k_NamesOf (c.Args[i]'hi) (wCall_arg hi hc)) (by simp [rAArg, g2']) ?_ | refine call_of (k_NamesOf (c.Args[i]'hi) (wCall_arg hi hc)) (by simp [rAArg, g2']) ?_ | refine callD_of (k_NamesOf (c.Args[i]'hi) (wCall_arg hi hc)) rfl ?_ | refine call_of (k_NamesOf (c.Args[i]'hi) (wCall_arg hi hc)) rfl ?_
        rintro r rfl
        simp [g2', hk, hk1, hk2, s9, s10, en, e4', e2', hip, rAArg, y2, y4]
        first | refine callD_of (k_allIn (snames (argN0 (c.Args[i]'hi))) scope) (by simp) ?_ | refine call_of (k_allIn (snames (argN0 (c.Args[i]'hi))) scope) (by simp) ?_ | refine callD_of (k_allIn (snames (argN0 (c.Args[i]'hi))) scope) rfl ?_ | refine call_of (k_allIn (snames (argN0 (c.Args[i]'hi))) scope) rfl ?_
        rintro r rfl
        simp [e4', e2', y2, y4]
      rintro st3 h3 n3 hk3 ⟨hn3, s76, e4'', e2''⟩
      simp at hk3
      generalize argOk c.Args[i] (listName G.Params[i]) scope = D at *
      cases D
      · rw [Bool.false_and] at hJ
        subst hJ
        simp [s76]
        refine hret _ _ _ ?_
        simp
      · rw [Bool.true_and] at hJ
        simp [hk, hk1, hk2, hk3, s76, s51, hw]
        exact hR _ _ _ (by simp [hk, hk1, hk2, hk3]) (by simp) ⟨by omega, by simp [e4''], by simp [e2''], hJ⟩
    · rintro st h n R hk s51 ⟨hn, e4, e2, hJ⟩ hret hX
      simp at hk
      rw [List.drop_eq_nil_of_le (by omega), argsOk_end] at hJ
      refine rC_cut [2] (fun s => s 52 = .bool false) (by simp [hk, s51, ← h1n]) ?_
      intro st1 hk1 s52
      refine rC_stop s52 ?_
      simp
      refine hX _ _ _ _ ?_
      simp [← hJ]
end Go.Proofs.YtilcageplifbgaaGreat

/- Contracts: InnerEdges of both. -/
import Derived.Test.YtlmajgghnenbpaaGreatE2A
namespace Go.Proofs.YtlmajgghnenbpaaGreat
set_option linter.all false
open Go Go.RowKit Go.Proofs
def a42 : AFn :=
⟨37, [(.t 4)], (.seq 
 (.reg [⟨some 2, (.boxv (.t 0)), no⟩, ⟨some 4, (.mv (.k (.nil 2))), no⟩]) (.seq 
 (.reg [⟨some 5, (.mv (.k (.nil 2))), no⟩]) (.seq (.seq 
 (.reg [⟨some 10, (.ld true 2 (.t 2)), no⟩, ⟨some 11, (.call (.k (.fn (.func 24) [] [])) [(.t 10)]), no⟩, ⟨some 12, (.len false (.t 11)), no⟩, ⟨some 13, (.mv (.k (.int .i64 0))), no⟩]) (.blk 0 (.loop (.seq 
 (.reg [⟨some 14, (.bin .lss (.t 13) (.t 12)), no⟩]) (.seq (.cond (.t 14) .skip (.exit 0)) (.seq (.blk 1 (.seq 
 (.reg [⟨some 15, (.ixa 2 (.t 11) (.t 13)), no⟩, ⟨some 16, (.ld true 2 (.t 15)), no⟩, ⟨some 7, (.box [(.int .i64 0), (.int .i64 0)]), no⟩, ⟨no, (.st 2 (.t 7) (.t 16)), no⟩]) (.seq 
 (.reg [⟨some 18, (.ld true 2 (.t 2)), no⟩, ⟨some 19, (.ld true 2 (.t 7)), no⟩, ⟨some 20, (.call (.k (.fn (.func 82) [] [])) [(.t 18), (.t 19)]), no⟩, ⟨some 17, (.mv (.t 20)), no⟩, ⟨some 21, (.ext (.t 17) 0), no⟩, ⟨some 22, (.ext (.t 17) 1), no⟩, ⟨some 8, (.mv (.t 21)), no⟩, ⟨some 9, (.mv (.t 22)), no⟩]) (.seq 
 (.reg [⟨some 23, (.mv (.t 1)), no⟩, ⟨some 24, (.mv (.t 8)), no⟩, ⟨some 25, (.call (.k (.fn (.func 83) [] [])) [(.t 23), (.t 24)]), no⟩, ⟨some 26, (.mv (.t 25)), no⟩, ⟨some 27, (.mv (.t 1)), (some (26, true))⟩, ⟨some 28, (.mv (.t 9)), (some (26, true))⟩, ⟨some 29, (.call (.k (.fn (.func 83) [] [])) [(.t 27), (.t 28)]), (some (26, true))⟩, ⟨some 30, (.pick (.t 26) (.t 29) (.k (.bool false))), no⟩]) (.cond (.t 30) 
 (.reg [⟨some 31, (.mv (.t 5)), no⟩, ⟨some 32, (.ld true 2 (.t 7)), no⟩, ⟨some 33, (.bsl 2 [(.t 32)]), no⟩, ⟨some 34, (.app 16 2 (.t 31) (.t 33)), no⟩, ⟨some 5, (.mv (.t 34)), no⟩]) .skip))))) 
 (.reg [⟨some 35, (.bin .add (.t 13) (.k (.int .i64 1))), no⟩, ⟨some 13, (.mv (.t 35)), no⟩]))))))) (.seq 
 (.reg [⟨some 36, (.mv (.t 5)), no⟩, ⟨some 4, (.mv (.t 36)), no⟩]) .ret))))⟩
theorem a42_ok : compFn Tryz.prog Tryz.f42 = some a42 := by kernel_rfl

def a40 : AFn :=
⟨45, [(.t 4)], (.seq 
 (.reg [⟨some 2, (.boxv (.t 0)), no⟩, ⟨some 4, (.mv (.k (.nil 2))), no⟩]) (.seq 
 (.reg [⟨some 8, (.bsl 2 []), no⟩, ⟨some 5, (.mv (.t 8)), no⟩]) (.seq 
 (.reg [⟨some 9, (.ld true 2 (.t 2)), no⟩, ⟨some 10, (.call (.k (.fn (.func 23) [] [])) [(.t 9)]), no⟩, ⟨some 6, (.mv (.t 10)), no⟩]) (.seq (.seq 
 (.reg [⟨some 7, (.mv (.k (.int .i64 0))), no⟩]) (.blk 0 (.loop (.seq (.seq 
 (.reg [⟨some 11, (.mv (.t 7)), no⟩, ⟨some 12, (.mv (.t 6)), no⟩, ⟨some 13, (.len false (.t 12)), no⟩, ⟨some 14, (.bin .lss (.t 11) (.t 13)), no⟩]) (.cond (.t 14) .skip (.exit 0))) (.seq (.blk 1 (.seq (.draw (.op ⟨some 17, (.mv (.t 1)), no⟩ (.op ⟨some 18, (.ld true 2 (.t 2)), no⟩ (.op ⟨some 19, (.mv (.t 6)), no⟩ (.op ⟨some 20, (.mv (.t 7)), no⟩ (.op ⟨some 21, (.ixa 2 (.t 19) (.t 20)), no⟩ (.op ⟨some 22, (.ld true 2 (.t 21)), no⟩ (.op ⟨some 23, (.call (.k (.fn (.func 108) [] [])) [(.t 18), (.t 22)]), no⟩ (.op ⟨some 24, (.call (.k (.fn (.func 107) [] [])) [(.t 17), (.t 23)]), no⟩ (.op ⟨some 25, (.bin .geq (.t 24) (.k (.int .i64 0))), no⟩ (.op ⟨some 26, (.mv (.t 25)), no⟩ (.op ⟨some 27, (.mv (.t 1)), (some (26, true))⟩ (.op ⟨some 28, (.ld true 2 (.t 2)), (some (26, true))⟩ (.op ⟨some 29, (.mv (.t 6)), (some (26, true))⟩ (.op ⟨some 30, (.mv (.t 7)), (some (26, true))⟩ (.op ⟨some 31, (.ixa 2 (.t 29) (.t 30)), (some (26, true))⟩ (.op ⟨some 32, (.ld true 2 (.t 31)), (some (26, true))⟩ (.op ⟨some 33, (.call (.k (.fn (.func 109) [] [])) [(.t 28), (.t 32)]), (some (26, true))⟩ (.op ⟨some 34, (.call (.k (.fn (.func 107) [] [])) [(.t 27), (.t 33)]), (some (26, true))⟩ (.op ⟨some 35, (.bin .geq (.t 34) (.k (.int .i64 0))), (some (26, true))⟩ (.op ⟨some 36, (.pick (.t 26) (.t 35) (.k (.bool false))), no⟩ .fin))))))))))))))))))))) (.cond (.t 36) 
 (.reg [⟨some 37, (.mv (.t 5)), no⟩, ⟨some 38, (.mv (.t 6)), no⟩, ⟨some 39, (.mv (.t 7)), no⟩, ⟨some 40, (.ixa 2 (.t 38) (.t 39)), no⟩, ⟨some 41, (.ld true 2 (.t 40)), no⟩, ⟨some 42, (.bsl 2 [(.t 41)]), no⟩, ⟨some 43, (.app 16 2 (.t 37) (.t 42)), no⟩, ⟨some 5, (.mv (.t 43)), no⟩]) .skip))) 
 (.reg [⟨some 15, (.mv (.t 7)), no⟩, ⟨some 16, (.bin .add (.t 15) (.k (.int .i64 1))), no⟩, ⟨some 7, (.mv (.t 16)), no⟩])))))) (.seq 
 (.reg [⟨some 44, (.mv (.t 5)), no⟩, ⟨some 4, (.mv (.t 44)), no⟩]) .ret)))))⟩
theorem a40_ok : compFn Tryz.prog Tryz.f40 = some a40 := by kernel_rfl



set_option maxRecDepth 20000
set_option maxHeartbeats 2000000
def inE (p : DProgram) (list : List Str) (e : DEdge) : Bool := hasS list (fromE p e) && hasS list (toE p e)
theorem innerE_def (p : DProgram) (list : List Str) : innerE p list = (edgesOf p).filter (inE p list) := rfl

theorem k_InnerEdges (p : DProgram) (hp : wProgram p ≤ 1048576) (list : List Str) : Holds Tryz.prog 42 [.agg (rAProgram p), .sl 1 (strsR list)] (fun x => x = .us 2 ((innerE p list).map rUEdge)) := by
  have hel := edgesOf_len p hp
  refine holds_of_run Tryz.func42 a42_ok rfl (by simp [a42]) ?_
  simp [a42, rAProgram]
  first | refine callD_of (k_EdgesOf p hp) (by simp [rAProgram]) ?_ | refine call_of (k_EdgesOf p hp) (by simp [rAProgram]) ?_ | refine callD_of (k_EdgesOf p hp) rfl ?_ | refine call_of (k_EdgesOf p hp) rfl ?_
  rintro r rfl
  simp
  intro hlr
  rw [innerE_def]
  generalize hT : (edgesOf p).filter (inE p list) = T at *
  have hTl : T.length ≤ 1048576 := by rw [← hT]; exact Nat.le_trans (List.length_filter_le _ _) hel
  refine rL_forO [1, 2, 11, 12] 13 (edgesOf p).length (fun i s h n => 1 < n ∧ h 0 = some ⟨true, 2, [rAProgram p]⟩ ∧ h 1 = some ⟨false, 2, (edgesOf p).map rUEdge⟩ ∧ ∃ acc : List DEdge, acc ++ ((edgesOf p).drop i).filter (inE p list) = T ∧ AccB 1 2 (acc.map rUEdge) (s 5) h n) hlr (by simp) ⟨by simp, by simp [rAProgram], by simp, [], by simpa using hT, .inl (by simp)⟩ ?_ ?_
  · rintro i st h n R hi hg hk s13 hw ⟨hn, e0, e1, acc, hJ, hA⟩ hR hret _
    simp at hk
    obtain ⟨a, b, ha, hb, he, hf, ht⟩ := edgesOf_at hi
    rw [List.drop_eq_getElem_cons hi, List.filter_cons, he, inE, hf, ht] at hJ
    refine rC_cut [1, 2, 5, 11, 12, 13] (fun s => s 14 = .bool true) (by simp [hk, s13, hi]) ?_
    intro st1 hk1 s14
    simp at hk1
    have z0 : ¬ 0 = n := by omega
    have z1 : ¬ 1 = n := by omega
    have z2 : ¬ n = 0 := by omega
    have z3 : ¬ n = 1 := by omega
    refine rC_pass s14 (rC_seqI (rC_blkI ?_))
    refine rC_cutH [1, 2, 5, 11, 12, 13] (fun s h' n' => s 7 = .ptr n 0 0 ∧ n' = n + 1 ∧ h' n = some ⟨true, 2, [rUEdge ⟨a, b⟩]⟩ ∧ h' 0 = some ⟨true, 2, [rAProgram p]⟩ ∧ h' 1 = some ⟨false, 2, (edgesOf p).map rUEdge⟩ ∧ AccB 1 2 (acc.map rUEdge) (st1 5) h' n) ?_ ?_
    · simp [hk, hk1, s13, hi, e1, he, rUEdge, z0, z1, z2, z3, e0]
      rcases hA with ⟨hz, hv⟩ | ⟨id, hid, hid', hv, hc⟩
      · exact .inl ⟨by simpa using hz, hv⟩
      · have z4 : ¬ id = n := by omega
        exact .inr ⟨id, hid, by omega, by simpa using hv, by simp [hc, z4]⟩
    rintro st2 h2 n2 hk2 ⟨s7, rfl, en, e0, e1, hA⟩
    simp at hk2
    simp [hk, hk1, hk2, s7, en, e0, rAProgram, rUEdge]
    first | refine callD_of (k_ends p ha hb) (by simp [rAProgram, rAEdge]) ?_ | refine call_of (k_ends p ha hb) (by simp [rAProgram, rAEdge]) ?_ | refine callD_of (k_ends p ha hb) rfl ?_ | refine call_of (k_ends p ha hb) rfl ?_
    rintro r rfl
    simp [hk, hk1, hk2]
    first | refine callD_of (k_Contains list (p.Rules[a]).Func) (by simp) ?_ | refine call_of (k_Contains list (p.Rules[a]).Func) (by simp) ?_ | refine callD_of (k_Contains list (p.Rules[a]).Func) rfl ?_ | refine call_of (k_Contains list (p.Rules[a]).Func) rfl ?_
    rintro r rfl
    cases c1 : hasS list (p.Rules[a]).Func
    · rw [c1] at hJ
      simp at hJ
      simp [hk, hk1, hk2, s13, hw]
      exact hR _ _ _ (by simp [hk, hk1, hk2]) (by simp) ⟨by omega, e0, e1, acc, hJ, by simpa [hk1, hk2] using hA.mono (Nat.le_succ n)⟩
    simp [hk, hk1, hk2]
    first | refine callD_of (k_Contains list ((p.Rules[a]).Calls[b]).Func) (by simp) ?_ | refine call_of (k_Contains list ((p.Rules[a]).Calls[b]).Func) (by simp) ?_ | refine callD_of (k_Contains list ((p.Rules[a]).Calls[b]).Func) rfl ?_ | refine call_of (k_Contains list ((p.Rules[a]).Calls[b]).Func) rfl ?_
    rintro r rfl
    cases c2 : hasS list ((p.Rules[a]).Calls[b]).Func
    · rw [c1, c2] at hJ
      simp at hJ
      simp [hk, hk1, hk2, s13, hw]
      exact hR _ _ _ (by simp [hk, hk1, hk2]) (by simp) ⟨by omega, e0, e1, acc, hJ, by simpa [hk1, hk2] using hA.mono (Nat.le_succ n)⟩
    rw [c1, c2] at hJ
    simp only [Bool.and_self, if_true] at hJ
    have hal := congrArg List.length hJ
    simp at hal
    rcases hA with ⟨hz, hv⟩ | ⟨id, hid, hid', hv, hc⟩
    · simp at hz
      subst hz
      have hv1 : st 5 = .nil 2 := by simpa [hk1] using hv
      simp [hk, hk1, hk2, s7, en, hv1, s13, hw, rUEdge]
      refine ⟨by unfold LIM; omega, ?_⟩
      have y0 : ¬ 0 = n + 1 := by omega
      have y1 : ¬ 1 = n + 1 := by omega
      have y2 : ¬ 0 = n + 1 + 1 := by omega
      have y3 : ¬ 1 = n + 1 + 1 := by omega
      exact hR _ _ _ (by simp [hk, hk1, hk2]) (by simp) ⟨by omega, by simp [e0, y0, y1, y2, y3, z0, z1, z2, z3, rAProgram], by simp [e1, y0, y1, y2, y3, z0, z1, z2, z3], [⟨a, b⟩], by simpa using hJ, .inr ⟨n + 1 + 1, by omega, by omega, by simp, by simp [rUEdge]⟩⟩
    · simp at hv
      have hv1 : st 5 = .ref id 0 acc.length := by simpa [hk1] using hv
      have x0 : ¬ id = n := by omega
      have x1 : ¬ id = n + 1 := by omega
      have x2 : ¬ n + 1 = id := by omega
      have x3 : ¬ n = id := by omega
      simp [hk, hk1, hk2, s7, en, hv1, hc, s13, hw, rUEdge, x0, x1, x2, x3]
      refine ⟨by unfold LIM; omega, ?_⟩
      have y0 : ¬ 0 = n + 1 := by omega
      have y1 : ¬ 1 = n + 1 := by omega
      have y2 : ¬ 0 = n + 1 + 1 := by omega
      have y3 : ¬ 1 = n + 1 + 1 := by omega
      have y4 : ¬ 0 = id := by omega
      have y5 : ¬ 1 = id := by omega
      exact hR _ _ _ (by simp [hk, hk1, hk2]) (by simp) ⟨by omega, by simp [e0, y0, y1, y2, y3, z0, z1, z2, z3, y4, y5, rAProgram], by simp [e1, y0, y1, y2, y3, z0, z1, z2, z3, y4, y5], acc ++ [⟨a, b⟩], by simpa using hJ, .inr ⟨n + 1 + 1, by omega, by omega, by simp, by simp [rUEdge, List.take_of_length_le]⟩⟩
  rintro st h n R hk s13 ⟨hn, e0, e1, acc, hJ, hA⟩ hret hX
  simp at hk
  rw [List.drop_eq_nil_of_le (by omega)] at hJ
  simp at hJ
  subst hJ
  refine rC_cut [5] (fun s => s 14 = .bool false) (by simp [hk, s13]) ?_
  intro st1 hk1 s14
  simp at hk1
  refine rC_stop s14 ?_
  refine hX _ _ _ _ ?_
  rcases hA with ⟨hz, hv⟩ | ⟨id, hid, hid', hv, hc⟩
  · simp at hz
    simp [hk1, hv, hz]
  · simp at hv
    simp [hk1, hv, hc]

theorem ks_InnerEdges (p : DProgram) (hp : wProgram p ≤ 1048576) (list : List Str) : Holds Tryz.prog 40 [.agg (rAProgram p), .sl 1 (strsR list)] (fun x => x = .us 2 ((innerE p list).map rUEdge)) := by
  have hel := edgesOf_len p hp
  refine holds_of_run Tryz.func40 a40_ok rfl (by simp [a40]) ?_
  simp [a40, rAProgram]
  first | refine callD_of (ks_EdgesOf p hp) (by simp [rAProgram]) ?_ | refine call_of (ks_EdgesOf p hp) (by simp [rAProgram]) ?_ | refine callD_of (ks_EdgesOf p hp) rfl ?_ | refine call_of (ks_EdgesOf p hp) rfl ?_
  rintro r rfl
  simp
  rw [innerE_def]
  generalize hT : (edgesOf p).filter (inE p list) = T at *
  have hTl : T.length ≤ 1048576 := by rw [← hT]; exact Nat.le_trans (List.length_filter_le _ _) hel
  refine rL_forO [1, 2, 6] 7 (edgesOf p).length (fun i s h n => 2 < n ∧ h 0 = some ⟨true, 2, [rAProgram p]⟩ ∧ h 2 = some ⟨false, 2, (edgesOf p).map rUEdge⟩ ∧ ∃ (acc : List DEdge) (id : Nat), acc ++ ((edgesOf p).drop i).filter (inE p list) = T ∧ id ≠ 0 ∧ id ≠ 2 ∧ id < n ∧ s 5 = .ref id 0 acc.length ∧ h id = some ⟨false, 2, acc.map rUEdge⟩) (by unfold LIM; omega) (by simp) ⟨by simp, by simp [rAProgram], by simp, [], 1, by simpa using hT, by simp, by simp, by simp, by simp, by simp⟩ ?_ ?_
  · rintro i st h n R hi hg hk s7 hw ⟨hn, e0, e2, acc, id, hJ, hid0, hid2, hid, s5, eid⟩ hR hret _
    simp at hk
    obtain ⟨a, b, ha, hb, he, hf, ht⟩ := edgesOf_at hi
    rw [List.drop_eq_getElem_cons hi, List.filter_cons, he, inE, hf, ht] at hJ
    refine rC_seqI (rC_cut [1, 2, 5, 6, 7] (fun s => s 14 = .bool true) (by simp [hk, s7, hi, e2]) ?_)
    intro st1 hk1 s14
    simp at hk1
    refine rC_pass1 s14 (rC_seqI (rC_blkI ?_))
    refine rC_cut [1, 2, 5, 6, 7] (fun s => s 36 = .bool (hasS list (p.Rules[a]).Func && hasS list ((p.Rules[a]).Calls[b]).Func)) ?_ ?_
    · simp [hk, hk1, s7, hi, e0, e2, he, rUEdge, rAProgram]
      first | refine callD_of (ks_l13From p ha (k := b)) (by simp [rAProgram, rAEdge]) ?_ | refine call_of (ks_l13From p ha (k := b)) (by simp [rAProgram, rAEdge]) ?_ | refine callD_of (ks_l13From p ha (k := b)) rfl ?_ | refine call_of (ks_l13From p ha (k := b)) rfl ?_
      rintro r rfl
      simp [hk, hk1]
      first | refine callD_of (ks_IndexOf list (p.Rules[a]).Func) (by simp) ?_ | refine call_of (ks_IndexOf list (p.Rules[a]).Func) (by simp) ?_ | refine callD_of (ks_IndexOf list (p.Rules[a]).Func) rfl ?_ | refine call_of (ks_IndexOf list (p.Rules[a]).Func) rfl ?_
      rintro r rfl
      have g1 := idx_has list (p.Rules[a]).Func
      cases c1 : hasS list (p.Rules[a]).Func
      · rw [c1] at g1
        simp [hk, hk1, g1]
      rw [c1] at g1
      simp [hk, hk1, g1, s7, hi, e0, e2, he, rUEdge, rAProgram]
      first | refine callD_of (ks_l13To p ha hb) (by simp [rAProgram, rAEdge]) ?_ | refine call_of (ks_l13To p ha hb) (by simp [rAProgram, rAEdge]) ?_ | refine callD_of (ks_l13To p ha hb) rfl ?_ | refine call_of (ks_l13To p ha hb) rfl ?_
      rintro r rfl
      simp [hk, hk1]
      first | refine callD_of (ks_IndexOf list ((p.Rules[a]).Calls[b]).Func) (by simp) ?_ | refine call_of (ks_IndexOf list ((p.Rules[a]).Calls[b]).Func) (by simp) ?_ | refine callD_of (ks_IndexOf list ((p.Rules[a]).Calls[b]).Func) rfl ?_ | refine call_of (ks_IndexOf list ((p.Rules[a]).Calls[b]).Func) rfl ?_
      rintro r rfl
      have g2 := idx_has list ((p.Rules[a]).Calls[b]).Func
      simp [g2]
    intro st2 hk2 s36
    simp at hk2
    have z0 : ¬ 0 = n := by omega
    have z1 : ¬ n = 0 := by omega
    have z2 : ¬ 2 = n := by omega
    have z3 : ¬ n = 2 := by omega
    have z4 : ¬ 0 = n + 1 := by omega
    have z5 : ¬ 2 = n + 1 := by omega
    have z6 : ¬ n + 1 = 2 := by omega
    have z7 : ¬ n = 1 := by omega
    have z8 : ¬ 1 = n := by omega
    have z9 : ¬ id = n := by omega
    have x0 : ¬ n = id := by omega
    have x1 : ¬ id = n + 1 := by omega
    have x2 : ¬ n + 1 = id := by omega
    have x3 : ¬ 0 = id := fun e => hid0 e.symm
    have x4 : ¬ 2 = id := fun e => hid2 e.symm
    cases c1 : (hasS list (p.Rules[a]).Func && hasS list ((p.Rules[a]).Calls[b]).Func)
    · rw [c1] at s36 hJ
      simp at hJ
      simp [hk, hk1, hk2, s36, s7, hw]
      exact hR _ _ _ (by simp [hk, hk1, hk2]) (by simp) ⟨hn, e0, e2, acc, id, hJ, hid0, hid2, hid, by simpa [hk1, hk2] using s5, eid⟩
    rw [c1] at s36 hJ
    simp only [if_true] at hJ
    have hal := congrArg List.length hJ
    simp at hal
    simp [hk, hk1, hk2, s36, s7, hi, s5, eid, e0, e2, he, rUEdge, hw, z0, z1, z2, z3, z4, z5, z6, z7, z8, z9, x0, x1, x2, x3, x4, hid0, hid2]
    refine ⟨by unfold LIM; omega, ?_⟩
    exact hR _ _ _ (by simp [hk, hk1, hk2]) (by simp) ⟨by omega, by simp [e0, z0, z1, z2, z3, z4, z5, z6, z7, z8, x3], by simp [e2, z0, z1, z2, z3, z4, z5, z6, z7, z8, x4], acc ++ [⟨a, b⟩], n + 1, by simpa using hJ, by omega, by omega, by omega, by simp, by simp [rUEdge, List.take_of_length_le]⟩
  rintro st h n R hk s7 ⟨hn, e0, e2, acc, id, hJ, hid0, hid2, hid, s5, eid⟩ hret hX
  simp at hk
  rw [List.drop_eq_nil_of_le (by omega)] at hJ
  simp at hJ
  subst hJ
  refine rC_seqI (rC_cut [5] (fun s => s 14 = .bool false) (by simp [hk, s7, e2]) ?_)
  intro st1 hk1 s14
  simp at hk1
  refine rC_stop1 s14 ?_
  refine hX _ _ _ _ ?_
  simp [hk1, s5, eid]
end Go.Proofs.YtlmajgghnenbpaaGreat

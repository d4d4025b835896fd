/- Contracts: the component of a function (reference), IsRecursive of both. -/
import Derived.Test.YtlmajgghnenbpaaGreatE5
import Derived.Test.YtlmajgghnenbpaaGreatE2
namespace Go.Proofs.YtlmajgghnenbpaaGreat
set_option linter.all false
open Go Go.RowKit Go.Proofs
def a87 : AFn :=
⟨35, [(.t 4)], (.seq 
 (.reg [⟨some 2, (.boxv (.t 0)), no⟩, ⟨some 4, (.mv (.k (.nil 1))), no⟩]) (.seq 
 (.reg [⟨some 8, (.bsl 1 []), no⟩, ⟨some 5, (.mv (.t 8)), no⟩]) (.seq 
 (.reg [⟨some 9, (.ld true 2 (.t 2)), no⟩, ⟨some 10, (.mv (.t 1)), no⟩, ⟨some 11, (.call (.k (.fn (.func 34) [] [])) [(.t 9), (.t 10)]), no⟩, ⟨some 6, (.mv (.t 11)), no⟩]) (.seq (.seq 
 (.reg [⟨some 7, (.mv (.k (.int .i64 0))), no⟩]) (.blk 0 (.loop (.seq (.seq 
 (.reg [⟨some 12, (.mv (.t 7)), no⟩, ⟨some 13, (.mv (.t 6)), no⟩, ⟨some 14, (.len false (.t 13)), no⟩, ⟨some 15, (.bin .lss (.t 12) (.t 14)), no⟩]) (.cond (.t 15) .skip (.exit 0))) (.seq (.blk 1 (.seq (.draw (.op ⟨some 18, (.ld true 2 (.t 2)), no⟩ (.op ⟨some 19, (.mv (.t 6)), no⟩ (.op ⟨some 20, (.mv (.t 7)), no⟩ (.op ⟨some 21, (.ixa 1 (.t 19) (.t 20)), no⟩ (.op ⟨some 22, (.ld false 1 (.t 21)), no⟩ (.op ⟨some 24, (.mv (.t 1)), no⟩ (.op ⟨some 23, (.call (.k (.fn (.func 34) [] [])) [(.t 18), (.t 22)]), no⟩ (.op ⟨some 25, (.call (.k (.fn (.func 107) [] [])) [(.t 23), (.t 24)]), no⟩ (.op ⟨some 26, (.bin .geq (.t 25) (.k (.int .i64 0))), no⟩ .fin)))))))))) (.cond (.t 26) 
 (.reg [⟨some 27, (.mv (.t 5)), no⟩, ⟨some 28, (.mv (.t 6)), no⟩, ⟨some 29, (.mv (.t 7)), no⟩, ⟨some 30, (.ixa 1 (.t 28) (.t 29)), no⟩, ⟨some 31, (.ld false 1 (.t 30)), no⟩, ⟨some 32, (.bsl 1 [(.t 31)]), no⟩, ⟨some 33, (.app 16 1 (.t 27) (.t 32)), no⟩, ⟨some 5, (.mv (.t 33)), no⟩]) .skip))) 
 (.reg [⟨some 16, (.mv (.t 7)), no⟩, ⟨some 17, (.bin .add (.t 16) (.k (.int .i64 1))), no⟩, ⟨some 7, (.mv (.t 17)), no⟩])))))) (.seq 
 (.reg [⟨some 34, (.mv (.t 5)), no⟩, ⟨some 4, (.mv (.t 34)), no⟩]) .ret)))))⟩
theorem a87_ok : compFn Tryz.prog Tryz.f87 = some a87 := by kernel_rfl

def a21 : AFn :=
⟨12, [(.t 4)], (.seq 
 (.reg [⟨some 2, (.boxv (.t 0)), no⟩, ⟨some 4, (.mv (.k (.bool false))), no⟩]) (.seq (.draw (.op ⟨some 5, (.ld true 2 (.t 2)), no⟩ (.op ⟨some 6, (.ld true 2 (.t 2)), no⟩ (.op ⟨some 7, (.mv (.t 1)), no⟩ (.op ⟨some 8, (.call (.k (.fn (.func 87) [] [])) [(.t 6), (.t 7)]), no⟩ (.op ⟨some 9, (.call (.k (.fn (.func 40) [] [])) [(.t 5), (.t 8)]), no⟩ (.op ⟨some 10, (.len false (.t 9)), no⟩ (.op ⟨some 11, (.bin .gtr (.t 10) (.k (.int .i64 0))), no⟩ (.op ⟨some 4, (.mv (.t 11)), no⟩ .fin))))))))) .ret))⟩
theorem a21_ok : compFn Tryz.prog Tryz.f21 = some a21 := by kernel_rfl

def a22 : AFn :=
⟨21, [(.t 4)], (.seq 
 (.reg [⟨some 2, (.boxv (.t 0)), no⟩, ⟨some 4, (.mv (.k (.bool false))), no⟩]) (.seq (.seq 
 (.reg [⟨some 5, (.ld true 2 (.t 2)), no⟩, ⟨some 6, (.call (.k (.fn (.func 88) [] [])) [(.t 5)]), no⟩, ⟨some 7, (.un .not (.t 6)), no⟩, ⟨some 8, (.mv (.t 7)), no⟩, ⟨some 9, (.ld true 2 (.t 2)), (some (8, false))⟩, ⟨some 10, (.mv (.t 1)), (some (8, false))⟩, ⟨some 11, (.call (.k (.fn (.func 89) [] [])) [(.t 9), (.t 10)]), (some (8, false))⟩, ⟨some 12, (.bin .lss (.t 11) (.k (.int .i64 0))), (some (8, false))⟩, ⟨some 13, (.pick (.t 8) (.k (.bool true)) (.t 12)), no⟩]) (.cond (.t 13) (.seq 
 (.reg [⟨some 4, (.mv (.k (.bool false))), no⟩]) .ret) .skip)) (.seq (.draw (.op ⟨some 14, (.ld true 2 (.t 2)), no⟩ (.op ⟨some 15, (.ld true 2 (.t 2)), no⟩ (.op ⟨some 16, (.mv (.t 1)), no⟩ (.op ⟨some 17, (.call (.k (.fn (.func 84) [] [])) [(.t 15), (.t 16)]), no⟩ (.op ⟨some 18, (.call (.k (.fn (.func 42) [] [])) [(.t 14), (.t 17)]), no⟩ (.op ⟨some 19, (.len false (.t 18)), no⟩ (.op ⟨some 20, (.bin .gtr (.t 19) (.k (.int .i64 0))), no⟩ (.op ⟨some 4, (.mv (.t 20)), no⟩ .fin))))))))) .ret)))⟩
theorem a22_ok : compFn Tryz.prog Tryz.f22 = some a22 := by kernel_rfl



set_option maxRecDepth 20000
set_option maxHeartbeats 2000000
theorem ks_l13Component (p : DProgram) (hp : wProgram p ≤ 1048576) (name : Str) : Holds Tryz.prog 87 [.agg (rAProgram p), .str name] (fun x => x = .us 1 (strsR (compP p name))) := by
  have hrl := reachP_len p name hp
  refine holds_of_run Tryz.func87 a87_ok rfl (by simp [a87]) ?_
  simp [a87, rAProgram]
  first | refine callD_of (ks_ReachableFrom p hp name) (by simp [rAProgram]) ?_ | refine call_of (ks_ReachableFrom p hp name) (by simp [rAProgram]) ?_ | refine callD_of (ks_ReachableFrom p hp name) rfl ?_ | refine call_of (ks_ReachableFrom p hp name) rfl ?_
  rintro r rfl
  simp
  rw [compP_def]
  generalize hT : (reachP p name).filter (backs p name) = T
  have hTl : T.length ≤ 1048576 := by rw [← hT]; exact Nat.le_trans (List.length_filter_le _ _) hrl
  refine rL_forO [1, 2, 6] 7 (reachP p name).length (fun i s h n => 2 < n ∧ h 0 = some ⟨true, 2, [rAProgram p]⟩ ∧ h 2 = some ⟨false, 1, strsR (reachP p name)⟩ ∧ ∃ (acc : List Str) (id : Nat), acc ++ ((reachP p name).drop i).filter (backs p name) = T ∧ id ≠ 0 ∧ id ≠ 2 ∧ id < n ∧ s 5 = .ref id 0 acc.length ∧ h id = some ⟨false, 1, strsR acc⟩) (by unfold LIM; omega) (by simp) ⟨by simp, by simp [rAProgram], by simp, [], 1, by simpa using hT, by simp, by simp, by simp, by simp, by simp [strsR]⟩ ?_ ?_
  · rintro i st h n R hi hg hk s7 hw ⟨hn, e0, e2, acc, id, hJ, hid0, hid2, hid, s5, eid⟩ hR hret _
    simp at hk
    rw [List.drop_eq_getElem_cons hi, List.filter_cons, backs] at hJ
    have z0 : ¬ 0 = n := by omega
    have z1 : ¬ 2 = n := by omega
    have z2 : ¬ n = 0 := by omega
    have z3 : ¬ n = 2 := by omega
    have z4 : ¬ id = n := by omega
    have z5 : ¬ n = id := by omega
    refine rC_seqI (rC_cut [1, 2, 5, 6, 7] (fun s => s 15 = .bool true) (by simp [hk, s7, hi, e2]) ?_)
    intro st1 hk1 s15
    simp at hk1
    refine rC_pass1 s15 (rC_seqI (rC_blkI ?_))
    have ht : List.take (reachP p (reachP p name)[i]).length (strsR (reachP p (reachP p name)[i])) = strsR (reachP p (reachP p name)[i]) := List.take_of_length_le (by simp [strsR])
    refine rC_cutH [1, 2, 5, 6, 7] (fun s h' n' => n' = n + 1 ∧ s 26 = .bool (hasS (reachP p (reachP p name)[i]) name) ∧ h' 0 = some ⟨true, 2, [rAProgram p]⟩ ∧ h' 2 = some ⟨false, 1, strsR (reachP p name)⟩ ∧ h' id = some ⟨false, 1, strsR acc⟩) ?_ ?_
    · simp [hk1, hk, e0, e2, s7, hi, rAProgram]
      first | refine callD_of (ks_ReachableFrom p hp ((reachP p name)[i]'hi)) (by simp [rAProgram]) ?_ | refine call_of (ks_ReachableFrom p hp ((reachP p name)[i]'hi)) (by simp [rAProgram]) ?_ | refine callD_of (ks_ReachableFrom p hp ((reachP p name)[i]'hi)) rfl ?_ | refine call_of (ks_ReachableFrom p hp ((reachP p name)[i]'hi)) rfl ?_
      rintro r rfl
      simp [hk1, hk, s7]
      first | refine callD_of (ks_IndexOf (reachP p ((reachP p name)[i]'hi)) name) (by simp [ht]) ?_ | refine call_of (ks_IndexOf (reachP p ((reachP p name)[i]'hi)) name) (by simp [ht]) ?_ | refine callD_of (ks_IndexOf (reachP p ((reachP p name)[i]'hi)) name) rfl ?_ | refine call_of (ks_IndexOf (reachP p ((reachP p name)[i]'hi)) name) rfl ?_
      rintro r rfl
      have g3 := idx_has (reachP p ((reachP p name)[i]'hi)) name
      simp [g3, hk1, hk, s7, e0, e2, eid, z0, z1, z2, z3, z4, z5, rAProgram]
    rintro st3 h3 n3 hk3 ⟨rfl, s26, e0', e2', eid'⟩
    simp at hk3
    have y0 : ¬ 0 = n + 1 := by omega
    have y1 : ¬ 2 = n + 1 := by omega
    have y2 : ¬ 0 = n + 1 + 1 := by omega
    have y3 : ¬ 2 = n + 1 + 1 := by omega
    have y4 : ¬ id = n + 1 := by omega
    have y5 : ¬ id = n + 1 + 1 := by omega
    have y6 : ¬ n + 1 = id := by omega
    have y7 : ¬ n + 1 + 1 = id := by omega
    have y8 : ¬ n = 1 := by omega
    have x4 : ¬ 2 = id := fun e => hid2 e.symm
    have x5 : ¬ 0 = id := fun e => hid0 e.symm
    cases c1 : hasS (reachP p (reachP p name)[i]) name
    · rw [c1] at hJ s26
      simp only [Bool.false_eq_true, if_false] at hJ
      simp [hk3, hk1, hk, s26, s7, hw]
      exact hR _ _ _ (by simp [hk3, hk1, hk]) (by simp) ⟨by omega, e0', e2', acc, id, hJ, hid0, hid2, by omega, by simp [hk3, hk1, s5], eid'⟩
    rw [c1] at hJ s26
    simp only [if_true] at hJ
    have hal := congrArg List.length hJ
    simp only [List.length_append, List.length_cons] at hal
    simp [hk3, hk1, hk, s5, eid', e2', s26, s7, hi, hw, y0, y1, y2, y3, y4, y5, y6, y7, y8, z0, z1, z2, z3, z4, z5]
    refine ⟨by unfold LIM; omega, ?_⟩
    exact hR _ _ _ (by simp [hk3, hk1, hk]) (by simp) ⟨by omega, by simp [e0', y0, y1, y2, y3, y8, z0, z1, z2, z3, x5], by simp [e2', y0, y1, y2, y3, y8, z0, z1, z2, z3, x4], acc ++ [(reachP p name)[i]], n + 1 + 1, by simpa using hJ, by omega, by omega, by omega, by simp, by simp [strsR, List.take_of_length_le]⟩
  rintro st h n R hk s7 ⟨hn, e0, e2, acc, id, hJ, hid0, hid2, hid, s5, eid⟩ hret hX
  simp at hk
  rw [List.drop_eq_nil_of_le (by omega)] at hJ
  simp at hJ
  subst hJ
  refine rC_seqI (rC_cut [5] (fun s => s 15 = .bool false) (by simp [hk, s7, e2]) ?_)
  intro st1 hk1 s15
  simp at hk1
  refine rC_stop1 s15 ?_
  refine hX _ _ _ _ ?_
  simp [hk1, s5, eid]

theorem isRec_nil {p : DProgram} {name : Str} (h : reachP p name = []) : isRec p name = false := by
  unfold isRec compP innerE
  rw [h]
  simp [hasS]
theorem ks_IsRecursive (p : DProgram) (hp : wProgram p ≤ 1048576) (name : Str) : Holds Tryz.prog 21 [.agg (rAProgram p), .str name] (fun x => x = .bool (isRec p name)) := by
  have ht : List.take (compP p name).length (strsR (compP p name)) = strsR (compP p name) := List.take_of_length_le (by simp [strsR])
  refine holds_of_run Tryz.func21 a21_ok rfl (by simp [a21]) ?_
  simp [a21, rAProgram]
  first | refine callD_of (ks_l13Component p hp name) (by simp [rAProgram]) ?_ | refine call_of (ks_l13Component p hp name) (by simp [rAProgram]) ?_ | refine callD_of (ks_l13Component p hp name) rfl ?_ | refine call_of (ks_l13Component p hp name) rfl ?_
  rintro r rfl
  simp
  first | refine callD_of (ks_InnerEdges p hp (compP p name)) (by simp [rAProgram, ht]) ?_ | refine call_of (ks_InnerEdges p hp (compP p name)) (by simp [rAProgram, ht]) ?_ | refine callD_of (ks_InnerEdges p hp (compP p name)) rfl ?_ | refine call_of (ks_InnerEdges p hp (compP p name)) rfl ?_
  rintro r rfl
  simp [isRec]
theorem k_IsRecursive (p : DProgram) (hp : wProgram p ≤ 1048576) (name : Str) : Holds Tryz.prog 22 [.agg (rAProgram p), .str name] (fun x => x = .bool (isRec p name)) := by
  have ht : List.take (compP p name).length (strsR (compP p name)) = strsR (compP p name) := List.take_of_length_le (by simp [strsR])
  refine holds_of_run Tryz.func22 a22_ok rfl (by simp [a22]) ?_
  simp [a22, rAProgram]
  first | refine callD_of (k_IsValidProgram p hp) (by simp [rAProgram]) ?_ | refine call_of (k_IsValidProgram p hp) (by simp [rAProgram]) ?_ | refine callD_of (k_IsValidProgram p hp) rfl ?_ | refine call_of (k_IsValidProgram p hp) rfl ?_
  rintro r rfl
  cases h1 : progOk p
  · have := isRec_nil (p := p) (name := name) (by unfold reachP; rw [h1]; rfl)
    simp [this]
  simp
  first | refine callD_of (k_functionAt p name) (by simp [rAProgram]) ?_ | refine call_of (k_functionAt p name) (by simp [rAProgram]) ?_ | refine callD_of (k_functionAt p name) rfl ?_ | refine call_of (k_functionAt p name) rfl ?_
  rintro r rfl
  have g1 := idx_names p name
  cases h2 : hasS (namesP p) name
  · rw [h2] at g1
    simp at g1
    have := isRec_nil (p := p) (name := name) (by unfold reachP; rw [h1, h2]; rfl)
    simp [g1, this]
  rw [h2] at g1
  simp at g1
  have g2 : ¬ idxFrom (fun f : DFunction => f.Name == name) p.Functions 0 < 0 := by omega
  simp [g1, g2]
  first | refine callD_of (k_componentOf p hp name) (by simp [rAProgram]) ?_ | refine call_of (k_componentOf p hp name) (by simp [rAProgram]) ?_ | refine callD_of (k_componentOf p hp name) rfl ?_ | refine call_of (k_componentOf p hp name) rfl ?_
  rintro r rfl
  simp
  first | refine callD_of (k_InnerEdges p hp (compP p name)) (by simp [rAProgram, ht]) ?_ | refine call_of (k_InnerEdges p hp (compP p name)) (by simp [rAProgram, ht]) ?_ | refine callD_of (k_InnerEdges p hp (compP p name)) rfl ?_ | refine call_of (k_InnerEdges p hp (compP p name)) rfl ?_
  rintro r rfl
  simp [isRec]
end Go.Proofs.YtlmajgghnenbpaaGreat

/- Contracts: the component of a function. -/
import Derived.Test.YtlmajgghnenbpaaGreatE4
namespace Go.Proofs.YtlmajgghnenbpaaGreat
set_option linter.all false
open Go Go.RowKit Go.Proofs
def a84 : AFn :=
⟨27, [(.t 4)], (.seq 
 (.reg [⟨some 2, (.boxv (.t 0)), no⟩, ⟨some 4, (.mv (.k (.nil 1))), no⟩]) (.seq 
 (.reg [⟨some 5, (.mv (.k (.nil 1))), no⟩]) (.seq (.seq 
 (.reg [⟨some 8, (.ld true 2 (.t 2)), no⟩, ⟨some 9, (.mv (.t 1)), no⟩, ⟨some 10, (.call (.k (.fn (.func 35) [] [])) [(.t 8), (.t 9)]), no⟩, ⟨some 11, (.len false (.t 10)), no⟩, ⟨some 12, (.mv (.k (.int .i64 0))), no⟩]) (.blk 0 (.loop (.seq 
 (.reg [⟨some 13, (.bin .lss (.t 12) (.t 11)), no⟩]) (.seq (.cond (.t 13) .skip (.exit 0)) (.seq (.blk 1 (.seq 
 (.reg [⟨some 14, (.ixa 1 (.t 10) (.t 12)), no⟩, ⟨some 15, (.ld false 1 (.t 14)), no⟩, ⟨some 7, (.mv (.t 15)), no⟩]) (.seq 
 (.reg [⟨some 16, (.ld true 2 (.t 2)), no⟩, ⟨some 17, (.mv (.t 7)), no⟩, ⟨some 18, (.call (.k (.fn (.func 35) [] [])) [(.t 16), (.t 17)]), no⟩, ⟨some 19, (.mv (.t 1)), no⟩, ⟨some 20, (.call (.k (.fn (.func 83) [] [])) [(.t 18), (.t 19)]), no⟩]) (.cond (.t 20) 
 (.reg [⟨some 21, (.mv (.t 5)), no⟩, ⟨some 22, (.mv (.t 7)), no⟩, ⟨some 23, (.bsl 1 [(.t 22)]), no⟩, ⟨some 24, (.app 16 1 (.t 21) (.t 23)), no⟩, ⟨some 5, (.mv (.t 24)), no⟩]) .skip)))) 
 (.reg [⟨some 25, (.bin .add (.t 12) (.k (.int .i64 1))), no⟩, ⟨some 12, (.mv (.t 25)), no⟩]))))))) (.seq 
 (.reg [⟨some 26, (.mv (.t 5)), no⟩, ⟨some 4, (.mv (.t 26)), no⟩]) .ret))))⟩
theorem a84_ok : compFn Tryz.prog Tryz.f84 = some a84 := by kernel_rfl



theorem reachP_len (p : DProgram) (name : Str) (hp : wProgram p ≤ 1048576) : (reachP p name).length ≤ 1048576 := by
  have hfl : p.Functions.length ≤ 1048576 := by have := wL_len wFunction p.Functions; unfold wProgram wFunctionS at hp; omega
  unfold reachP
  split
  · have h2 : (reachN (pairsE p) (namesP p) name).length ≤ (namesP p).length := List.length_filter_le _ _
    have h3 : (namesP p).length = p.Functions.length := by simp [namesP]
    omega
  · simp
def backs (p : DProgram) (name g : Str) : Bool := hasS (reachP p g) name
theorem compP_def (p : DProgram) (name : Str) : compP p name = (reachP p name).filter (backs p name) := rfl

set_option maxRecDepth 20000
set_option maxHeartbeats 2000000
theorem k_componentOf (p : DProgram) (hp : wProgram p ≤ 1048576) (name : Str) : Holds Tryz.prog 84 [.agg (rAProgram p), .str name] (fun x => x = .us 1 (strsR (compP p name))) := by
  have hrl := reachP_len p name hp
  refine holds_of_run Tryz.func84 a84_ok rfl (by simp [a84]) ?_
  simp [a84, rAProgram]
  first | refine callD_of (k_ReachableFrom p hp name) (by simp [rAProgram]) ?_ | refine call_of (k_ReachableFrom p hp name) (by simp [rAProgram]) ?_ | refine callD_of (k_ReachableFrom p hp name) rfl ?_ | refine call_of (k_ReachableFrom p hp name) rfl ?_
  rintro r rfl
  simp
  intro _
  rw [compP_def]
  generalize hT : (reachP p name).filter (backs p name) = T
  have hTl : T.length ≤ 1048576 := by rw [← hT]; exact Nat.le_trans (List.length_filter_le _ _) hrl
  refine rL_forO [1, 2, 10, 11] 12 (reachP p name).length (fun i s h n => 1 < n ∧ h 0 = some ⟨true, 2, [rAProgram p]⟩ ∧ h 1 = some ⟨false, 1, strsR (reachP p name)⟩ ∧ ∃ acc : List Str, acc ++ ((reachP p name).drop i).filter (backs p name) = T ∧ AccB 1 1 (strsR acc) (s 5) h n) (by unfold LIM; omega) (by simp) ⟨by simp, by simp [rAProgram], by simp, [], by simpa using hT, .inl (by simp [strsR])⟩ ?_ ?_
  · rintro i st h n R hi hg hk s12 hw ⟨hn, e0, e1, acc, hJ, hA⟩ hR hret _
    simp at hk
    rw [List.drop_eq_getElem_cons hi, List.filter_cons, backs] at hJ
    have z0 : ¬ 0 = n := by omega
    have z1 : ¬ 1 = n := by omega
    have z2 : ¬ n = 0 := by omega
    have z3 : ¬ n = 1 := by omega
    refine rC_cut [1, 2, 5, 10, 11, 12] (fun s => s 13 = .bool true) (by simp [hk, s12, hi]) ?_
    intro st1 hk1 s13
    simp at hk1
    refine rC_pass s13 (rC_seqI (rC_blkI ?_))
    refine rC_cut [1, 2, 5, 10, 11, 12] (fun s => s 7 = .str (reachP p name)[i]) (by simp [hk, hk1, s12, hi, e1]) ?_
    intro st2 hk2 s7
    simp at hk2
    generalize (reachP p name)[i] = g at *
    have ht : List.take (reachP p g).length (strsR (reachP p g)) = strsR (reachP p g) := List.take_of_length_le (by simp [strsR])
    refine rC_cutH [1, 2, 5, 7, 10, 11, 12] (fun s h' n' => n' = n + 1 ∧ s 20 = .bool (hasS (reachP p g) name) ∧ h' 0 = some ⟨true, 2, [rAProgram p]⟩ ∧ h' 1 = some ⟨false, 1, strsR (reachP p name)⟩ ∧ AccB 1 1 (strsR acc) (st 5) h' n) ?_ ?_
    · simp [hk2, hk1, hk, e0, s7, rAProgram]
      first | refine callD_of (k_ReachableFrom p hp g) (by simp [rAProgram]) ?_ | refine call_of (k_ReachableFrom p hp g) (by simp [rAProgram]) ?_ | refine callD_of (k_ReachableFrom p hp g) rfl ?_ | refine call_of (k_ReachableFrom p hp g) rfl ?_
      rintro r rfl
      simp [hk2, hk1, hk, s7]
      first | refine callD_of (k_Contains (reachP p g) name) (by simp [ht]) ?_ | refine call_of (k_Contains (reachP p g) name) (by simp [ht]) ?_ | refine callD_of (k_Contains (reachP p g) name) rfl ?_ | refine call_of (k_Contains (reachP p g) name) rfl ?_
      rintro r rfl
      simp [hk2, hk1, hk, s7, e0, e1, z0, z1, z2, z3, rAProgram]
      exact hA.keep _
    rintro st3 h3 n3 hk3 ⟨rfl, s20, e0', e1', hA'⟩
    simp at hk3
    have y0 : ¬ 0 = n + 1 := by omega
    have y1 : ¬ 1 = n + 1 := by omega
    have y2 : ¬ 0 = n + 1 + 1 := by omega
    have y3 : ¬ 1 = n + 1 + 1 := by omega
    cases c1 : hasS (reachP p g) name
    · rw [c1] at hJ s20
      simp only [Bool.false_eq_true, if_false] at hJ
      simp [hk3, hk2, hk1, hk, s20, s12, hw]
      exact hR _ _ _ (by simp [hk3, hk2, hk1, hk]) (by simp) ⟨by omega, e0', e1', acc, hJ, by simpa [hk3, hk2, hk1] using hA'.mono (Nat.le_succ n)⟩
    rw [c1] at hJ s20
    simp only [if_true] at hJ
    have hal := congrArg List.length hJ
    simp only [List.length_append, List.length_cons] at hal
    rcases hA' with ⟨hz, hv⟩ | ⟨id, hid, hid', hv, hc⟩
    · have hz' : acc = [] := by simpa [strsR] using hz
      subst hz'
      simp [hk3, hk2, hk1, hk, hv, s7, s20, s12, hw, y0, y1, y2, y3, z0, z1, z2, z3]
      refine ⟨by unfold LIM; omega, ?_⟩
      exact hR _ _ _ (by simp [hk3, hk2, hk1, hk]) (by simp) ⟨by omega, by simp [e0', y0, y1, y2, y3, z0, z1, z2, z3], by simp [e1', y0, y1, y2, y3, z0, z1, z2, z3], [g], by simpa using hJ, .inr ⟨n + 1 + 1, by omega, by omega, by simp [strsR], by simp [strsR]⟩⟩
    · simp [strsR] at hv
      have x0 : ¬ id = n := by omega
      have x1 : ¬ id = n + 1 := by omega
      have x2 : ¬ n + 1 = id := by omega
      have x3 : ¬ n = id := by omega
      have x4 : ¬ 1 = id := by omega
      have x5 : ¬ 0 = id := by omega
      simp [hk3, hk2, hk1, hk, hv, hc, s7, s20, s12, hw, y0, y1, y2, y3, z0, z1, z2, z3, x0, x1, x2, x3]
      refine ⟨by unfold LIM; omega, ?_⟩
      exact hR _ _ _ (by simp [hk3, hk2, hk1, hk]) (by simp) ⟨by omega, by simp [e0', y0, y1, y2, y3, z0, z1, z2, z3, x4, x5], by simp [e1', y0, y1, y2, y3, z0, z1, z2, z3, x4, x5], acc ++ [g], by simpa using hJ, .inr ⟨n + 1 + 1, by omega, by omega, by simp [strsR], by simp [strsR, List.take_of_length_le]⟩⟩
  rintro st h n R hk s12 ⟨hn, e0, e1, acc, hJ, hA⟩ hret hX
  simp at hk
  rw [List.drop_eq_nil_of_le (by omega)] at hJ
  simp at hJ
  subst hJ
  refine rC_cut [5] (fun s => s 13 = .bool false) (by simp [hk, s12]) ?_
  intro st1 hk1 s13
  simp at hk1
  refine rC_stop s13 ?_
  refine hX _ _ _ _ ?_
  rcases hA with ⟨hz, hv⟩ | ⟨id, hid, hid', hv, hc⟩
  · simp [hk1, hv, hz]
  · simp at hv
    simp [hk1, hv, hc]
end Go.Proofs.YtlmajgghnenbpaaGreat

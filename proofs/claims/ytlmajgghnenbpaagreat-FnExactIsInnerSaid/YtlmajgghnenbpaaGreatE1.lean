/- Contracts: edges. -/
import Derived.Test.YtlmajgghnenbpaaGreatV8S
import Derived.Test.YtlmajgghnenbpaaGreatG2
namespace Go.Proofs.YtlmajgghnenbpaaGreat
set_option linter.all false
open Go Go.RowKit Go.Proofs
def a91 : AFn :=
⟨30, [(.t 2)], (.seq 
 (.reg [⟨some 1, (.boxv (.t 0)), no⟩, ⟨some 2, (.mv (.k (.nil 2))), no⟩]) (.seq 
 (.reg [⟨some 3, (.mv (.k (.nil 2))), no⟩]) (.seq (.seq 
 (.reg [⟨some 7, (.fld 1 (.t 1)), no⟩, ⟨some 8, (.ld false 1 (.t 7)), no⟩, ⟨some 9, (.len false (.t 8)), no⟩, ⟨some 10, (.mv (.k (.int .i64 0))), no⟩]) (.blk 0 (.loop (.seq 
 (.reg [⟨some 11, (.bin .lss (.t 10) (.t 9)), no⟩]) (.seq (.cond (.t 11) .skip (.exit 0)) (.seq (.blk 1 (.seq 
 (.reg [⟨some 12, (.mv (.t 10)), no⟩, ⟨some 13, (.ixa 7 (.t 8) (.t 10)), no⟩, ⟨some 14, (.ld true 7 (.t 13)), no⟩, ⟨some 5, (.box [(.str []), (.nil 4), (.nil 2), (.nil 3), (.bool false), (.nil 2), (.str [])]), no⟩, ⟨some 4, (.mv (.t 12)), no⟩, ⟨no, (.st 7 (.t 5) (.t 14)), no⟩]) (.seq 
 (.reg [⟨some 15, (.fld 3 (.t 5)), no⟩, ⟨some 16, (.ld false 1 (.t 15)), no⟩, ⟨some 17, (.len false (.t 16)), no⟩, ⟨some 18, (.mv (.k (.int .i64 0))), no⟩]) (.blk 2 (.loop (.seq 
 (.reg [⟨some 19, (.bin .lss (.t 18) (.t 17)), no⟩]) (.seq (.cond (.t 19) .skip (.exit 2)) (.seq (.blk 3 (.seq 
 (.reg [⟨some 20, (.mv (.t 18)), no⟩, ⟨some 6, (.mv (.t 20)), no⟩]) 
 (.reg [⟨some 21, (.mv (.t 3)), no⟩, ⟨some 22, (.mv (.t 4)), no⟩, ⟨some 23, (.mv (.t 6)), no⟩, ⟨some 24, (.build [(.int .i64 0), (.int .i64 0)] [(0, (1, (.t 22))), (1, (1, (.t 23)))]), no⟩, ⟨some 25, (.bsl 2 [(.t 24)]), no⟩, ⟨some 26, (.app 16 2 (.t 21) (.t 25)), no⟩, ⟨some 3, (.mv (.t 26)), no⟩]))) 
 (.reg [⟨some 27, (.bin .add (.t 18) (.k (.int .i64 1))), no⟩, ⟨some 18, (.mv (.t 27)), no⟩]))))))))) 
 (.reg [⟨some 28, (.bin .add (.t 10) (.k (.int .i64 1))), no⟩, ⟨some 10, (.mv (.t 28)), no⟩]))))))) (.seq 
 (.reg [⟨some 29, (.mv (.t 3)), no⟩, ⟨some 2, (.mv (.t 29)), no⟩]) .ret))))⟩
theorem a91_ok : compFn Tryz.prog Tryz.f91 = some a91 := by kernel_rfl

def a24 : AFn :=
⟨8, [(.t 2)], (.seq 
 (.reg [⟨some 1, (.boxv (.t 0)), no⟩, ⟨some 2, (.mv (.k (.nil 2))), no⟩]) (.seq (.seq 
 (.reg [⟨some 3, (.ld true 2 (.t 1)), no⟩, ⟨some 4, (.call (.k (.fn (.func 88) [] [])) [(.t 3)]), no⟩, ⟨some 5, (.un .not (.t 4)), no⟩]) (.cond (.t 5) (.seq 
 (.reg [⟨some 2, (.mv (.k (.nil 2))), no⟩]) .ret) .skip)) (.seq 
 (.reg [⟨some 6, (.ld true 2 (.t 1)), no⟩, ⟨some 7, (.call (.k (.fn (.func 91) [] [])) [(.t 6)]), no⟩, ⟨some 2, (.mv (.t 7)), no⟩]) .ret)))⟩
theorem a24_ok : compFn Tryz.prog Tryz.f24 = some a24 := by kernel_rfl

def a23 : AFn :=
⟨36, [(.t 2)], (.seq 
 (.reg [⟨some 1, (.boxv (.t 0)), no⟩, ⟨some 2, (.mv (.k (.nil 2))), no⟩]) (.seq 
 (.reg [⟨some 6, (.bsl 2 []), no⟩, ⟨some 3, (.mv (.t 6)), no⟩]) (.seq (.seq 
 (.reg [⟨some 7, (.ld true 2 (.t 1)), no⟩, ⟨some 8, (.call (.k (.fn (.func 90) [] [])) [(.t 7)]), no⟩, ⟨some 9, (.un .not (.t 8)), no⟩]) (.cond (.t 9) (.seq 
 (.reg [⟨some 10, (.mv (.t 3)), no⟩, ⟨some 2, (.mv (.t 10)), no⟩]) .ret) .skip)) (.seq (.seq 
 (.reg [⟨some 4, (.mv (.k (.int .i64 0))), no⟩]) (.blk 0 (.loop (.seq (.seq 
 (.reg [⟨some 11, (.mv (.t 4)), no⟩, ⟨some 12, (.fld 1 (.t 1)), no⟩, ⟨some 13, (.ld false 1 (.t 12)), no⟩, ⟨some 14, (.len false (.t 13)), no⟩, ⟨some 15, (.bin .lss (.t 11) (.t 14)), no⟩]) (.cond (.t 15) .skip (.exit 0))) (.seq (.blk 1 (.seq 
 (.reg [⟨some 5, (.mv (.k (.int .i64 0))), no⟩]) (.blk 2 (.loop (.seq (.seq 
 (.reg [⟨some 18, (.mv (.t 5)), no⟩, ⟨some 19, (.fld 1 (.t 1)), no⟩, ⟨some 20, (.ld false 1 (.t 19)), no⟩, ⟨some 21, (.mv (.t 4)), no⟩, ⟨some 22, (.ixa 7 (.t 20) (.t 21)), no⟩, ⟨some 23, (.fld 3 (.t 22)), no⟩, ⟨some 24, (.ld false 1 (.t 23)), no⟩, ⟨some 25, (.len false (.t 24)), no⟩, ⟨some 26, (.bin .lss (.t 18) (.t 25)), no⟩]) (.cond (.t 26) .skip (.exit 2))) (.seq (.blk 3 
 (.reg [⟨some 29, (.mv (.t 3)), no⟩, ⟨some 30, (.mv (.t 4)), no⟩, ⟨some 31, (.mv (.t 5)), no⟩, ⟨some 32, (.build [(.int .i64 0), (.int .i64 0)] [(0, (1, (.t 30))), (1, (1, (.t 31)))]), no⟩, ⟨some 33, (.bsl 2 [(.t 32)]), no⟩, ⟨some 34, (.app 16 2 (.t 29) (.t 33)), no⟩, ⟨some 3, (.mv (.t 34)), no⟩])) 
 (.reg [⟨some 27, (.mv (.t 5)), no⟩, ⟨some 28, (.bin .add (.t 27) (.k (.int .i64 1))), no⟩, ⟨some 5, (.mv (.t 28)), no⟩]))))))) 
 (.reg [⟨some 16, (.mv (.t 4)), no⟩, ⟨some 17, (.bin .add (.t 16) (.k (.int .i64 1))), no⟩, ⟨some 4, (.mv (.t 17)), no⟩])))))) (.seq 
 (.reg [⟨some 35, (.mv (.t 3)), no⟩, ⟨some 2, (.mv (.t 35)), no⟩]) .ret)))))⟩
theorem a23_ok : compFn Tryz.prog Tryz.f23 = some a23 := by kernel_rfl



/-- A slice that is being built: nothing yet, or a block of its own. -/
def Acc (z : Nat) (rows : List (List AV)) (v : AV) (h : Heap) (n : Nat) : Prop := (rows = [] ∧ v = .nil z) ∨ ∃ id, id < n ∧ v = .ref id 0 rows.length ∧ h id = some ⟨false, z, rows⟩

theorem edgesFrom_drop {l : List DRule} {i k : Nat} (hi : i < l.length) : edgesFrom k (l.drop i) = ruleEdges k l[i] ++ edgesFrom (k + 1) (l.drop (i + 1)) := by rw [List.drop_eq_getElem_cons hi]; rfl
theorem ruleEdges_drop {r : DRule} {i j : Nat} (hj : j < r.Calls.length) : (ruleEdges i r).drop j = edgeAt i j :: (ruleEdges i r).drop (j + 1) := by
  rw [List.drop_eq_getElem_cons (by simp [ruleEdges, hj])]
  simp [ruleEdges]
theorem ruleEdges_len (i : Nat) (r : DRule) : (ruleEdges i r).length = r.Calls.length := by simp [ruleEdges]

set_option maxRecDepth 20000 in
set_option maxHeartbeats 2000000 in
theorem k_edgesOf (p : DProgram) (hp : wProgram p ≤ 1048576) : Holds Tryz.prog 91 [.agg (rAProgram p)] (fun x => x = .us 2 ((edgesL p).map rUEdge)) := by
  have hTl := edgesL_len p hp
  refine holds_of_run Tryz.func91 a91_ok rfl (by simp [a91]) ?_
  simp [a91, rAProgram]
  intro hlr
  unfold edgesL at *
  generalize hT : edgesFrom 0 p.Rules = T at *
  refine rL_forO [8, 9] 10 p.Rules.length (fun i s h n => ∃ acc : List DEdge, acc ++ edgesFrom i (p.Rules.drop i) = T ∧ Acc 2 (acc.map rUEdge) (s 3) h n) hlr (by simp) ⟨[], by simpa using hT, .inl (by simp)⟩ ?_ ?_
  · rintro i st h n R hi hg hk s10 hw ⟨acc, hJ, hA⟩ hR hret _
    simp at hk
    rw [edgesFrom_drop hi] at hJ
    refine rC_cut [3, 8, 9, 10] (fun s => s 11 = .bool true) (by simp [hk, s10, hi]) ?_
    intro st1 hk1 s11
    simp at hk1
    refine rC_pass s11 (rC_seqI (rC_blkI ?_))
    refine rC_cutH [3, 8, 9, 10] (fun s h' n' => s 4 = .int .i64 i ∧ s 5 = .ptr n 0 0 ∧ n' = n + 1 ∧ h' n = some ⟨true, 7, [rARule p.Rules[i]]⟩ ∧ Acc 2 (acc.map rUEdge) (s 3) h' n') ?_ ?_
    · simp [hk, hk1, s10, hi, rARule]
      rcases hA with ⟨ha, hv⟩ | ⟨id, hid, hv, he⟩
      · exact .inl ⟨ha, hv⟩
      · have z0 : ¬ id = n := by omega
        exact .inr ⟨id, by omega, hv, by simp [he, z0]⟩
    rintro st2 h2 n2 hk2 ⟨s4, s5, rfl, en, hA⟩
    simp at hk2
    refine rC_seqI ?_
    simp [hk, hk1, hk2, s5, en, rARule]
    intro hlc
    refine rL_forO [4, 8, 9, 10, 17] 18 (p.Rules[i]).Calls.length (fun j s h n => ∃ acc : List DEdge, acc ++ ((ruleEdges i p.Rules[i]).drop j ++ edgesFrom (i + 1) (p.Rules.drop (i + 1))) = T ∧ Acc 2 (acc.map rUEdge) (s 3) h n) hlc (by simp) ⟨acc, by simpa using hJ, by simpa using hA⟩ ?_ ?_
    · rintro j stj hj nj Rj hji hjg hkj s18 hwj ⟨accj, hJj, hAj⟩ hRj hretj _
      simp at hkj
      rw [ruleEdges_drop hji] at hJj
      have hal := congrArg List.length hJj
      simp at hal
      rcases hAj with ⟨ha, hv⟩ | ⟨id, hid, hv, he⟩
      · simp at ha
        subst ha
        simp [hkj, hk2, hk1, s4, s18, hji, hv, hwj]
        refine ⟨by unfold LIM; omega, ?_⟩
        refine hRj _ _ _ (by simp [hkj]) (by simp) ⟨[edgeAt i j], by simpa using hJj, .inr ⟨nj + 1, by omega, by simp, by simp [rUEdge, edgeAt]⟩⟩
      · simp at hv
        have z0 : ¬ id = nj := by omega
        have z1 : ¬ id = nj + 1 := by omega
        have z2 : ¬ nj + 1 = id := by omega
        have z3 : ¬ nj = id := by omega
        simp [hkj, hk2, hk1, s4, s18, hji, hv, he, z0, z1, z2, z3, hwj]
        refine ⟨by unfold LIM; omega, ?_⟩
        refine hRj _ _ _ (by simp [hkj]) (by simp) ⟨accj ++ [edgeAt i j], by simpa using hJj, .inr ⟨nj + 1, by omega, by simp, by simp [rUEdge, edgeAt, List.take_of_length_le]⟩⟩
    rintro stj hj nj Rj hkj s18 ⟨accj, hJj, hAj⟩ hretj hXj
    simp at hkj
    rw [List.drop_eq_nil_of_le (by rw [ruleEdges_len]; omega), List.nil_append] at hJj
    refine rC_cut [3, 4, 8, 9, 10, 17] (fun s => s 19 = .bool false) (by simp [hkj, s18]) ?_
    intro stk hkk s19
    simp at hkk
    refine rC_stop s19 ?_
    refine hXj _ _ _ _ ?_
    simp [hk, hk1, hk2, hkj, hkk, s10, hw]
    exact hR _ _ _ (by simp [hk, hk1, hk2, hkj, hkk]) (by simp) ⟨accj, hJj, by simpa [hkk] using hAj⟩
  rintro st h n R hk s10 ⟨acc, hJ, hA⟩ hret hX
  simp at hk
  rw [List.drop_eq_nil_of_le (by omega)] at hJ
  simp [edgesFrom] at hJ
  subst hJ
  refine rC_cut [3] (fun s => s 11 = .bool false) (by simp [hk, s10]) ?_
  intro st1 hk1 s11
  simp at hk1
  refine rC_stop s11 ?_
  refine hX _ _ _ _ ?_
  rcases hA with ⟨ha, hv⟩ | ⟨id, hid, hv, he⟩
  · simp at ha
    simp [hk1, hv, ha]
  · simp at hv
    simp [hk1, hv, he]

theorem k_EdgesOf (p : DProgram) (hp : wProgram p ≤ 1048576) : Holds Tryz.prog 24 [.agg (rAProgram p)] (fun x => x = .us 2 ((edgesOf p).map rUEdge)) := by
  refine holds_of_run Tryz.func24 a24_ok rfl (by simp [a24]) ?_
  simp [a24, rAProgram]
  first | refine callD_of (k_IsValidProgram p hp) (by simp [rAProgram]) ?_ | refine call_of (k_IsValidProgram p hp) (by simp [rAProgram]) ?_ | refine callD_of (k_IsValidProgram p hp) rfl ?_ | refine call_of (k_IsValidProgram p hp) rfl ?_
  rintro r rfl
  unfold edgesOf
  cases h1 : progOk p
  · simp
  simp
  first | refine callD_of (k_edgesOf p hp) (by simp [rAProgram]) ?_ | refine call_of (k_edgesOf p hp) (by simp [rAProgram]) ?_ | refine callD_of (k_edgesOf p hp) rfl ?_ | refine call_of (k_edgesOf p hp) rfl ?_
  rintro r rfl
  simp

set_option maxRecDepth 20000 in
set_option maxHeartbeats 2000000 in
theorem ks_EdgesOf (p : DProgram) (hp : wProgram p ≤ 1048576) : Holds Tryz.prog 23 [.agg (rAProgram p)] (fun x => x = .us 2 ((edgesOf p).map rUEdge)) := by
  have hTl := edgesL_len p hp
  have hlr : p.Rules.length ≤ 1048576 := by have := wL_len wRule p.Rules; unfold wProgram wRuleS at hp; omega
  have hlc : ∀ i, ∀ hi : i < p.Rules.length, (p.Rules[i]).Calls.length ≤ 1048576 := fun i hi => by
    have h1 := wRule_of hp _ (List.getElem_mem hi)
    exact (wRule_parts h1).2.2.2.2.1
  refine holds_of_run Tryz.func23 a23_ok rfl (by simp [a23]) ?_
  simp [a23, rAProgram]
  first | refine callD_of (ks_IsValidProgram p hp) (by simp [rAProgram]) ?_ | refine call_of (ks_IsValidProgram p hp) (by simp [rAProgram]) ?_ | refine callD_of (ks_IsValidProgram p hp) rfl ?_ | refine call_of (ks_IsValidProgram p hp) rfl ?_
  rintro r rfl
  unfold edgesOf
  cases h1 : progOk p
  · simp
  simp
  unfold edgesL at *
  generalize hT : edgesFrom 0 p.Rules = T at *
  refine rL_forO [1] 4 p.Rules.length (fun i s h n => 0 < n ∧ h 0 = some ⟨true, 2, [rAProgram p]⟩ ∧ ∃ (acc : List DEdge) (id : Nat), acc ++ edgesFrom i (p.Rules.drop i) = T ∧ 0 < id ∧ id < n ∧ s 3 = .ref id 0 acc.length ∧ h id = some ⟨false, 2, acc.map rUEdge⟩) (by unfold LIM; omega) (by simp) ⟨by simp, by simp [rAProgram], [], 1, by simpa using hT, by omega, by omega, by simp, by simp⟩ ?_ ?_
  · rintro i st h n R hi hg hk s4 hw ⟨hn, e0, acc, id, hJ, hid0, hid, s3, eid⟩ hR hret _
    simp at hk
    rw [edgesFrom_drop hi] at hJ
    refine rC_seqI (rC_cut [1, 3, 4] (fun s => s 15 = .bool true) (by simp [hk, s4, hi, e0, rAProgram]) ?_)
    intro st1 hk1 s15
    simp at hk1
    refine rC_pass1 s15 (rC_seqI (rC_blkI (rC_seqI ?_)))
    simp [hk, hk1]
    refine rL_forO [1, 4] 5 (p.Rules[i]).Calls.length (fun j s h n => 0 < n ∧ h 0 = some ⟨true, 2, [rAProgram p]⟩ ∧ ∃ (acc : List DEdge) (id : Nat), acc ++ ((ruleEdges i p.Rules[i]).drop j ++ edgesFrom (i + 1) (p.Rules.drop (i + 1))) = T ∧ 0 < id ∧ id < n ∧ s 3 = .ref id 0 acc.length ∧ h id = some ⟨false, 2, acc.map rUEdge⟩) (by have := hlc i hi; unfold LIM; omega) (by simp) ⟨hn, by simpa using e0, acc, id, by simpa using hJ, hid0, hid, by simp [hk1, s3], by simpa using eid⟩ ?_ ?_
    · rintro j stj hj nj Rj hji hjg hkj s5 hwj ⟨hnj, e0j, accj, idj, hJj, hid0j, hidj, s3j, eidj⟩ hRj hretj _
      simp at hkj
      rw [ruleEdges_drop hji] at hJj
      have hal := congrArg List.length hJj
      simp at hal
      have z0 : ¬ idj = nj := by omega
      have z1 : ¬ idj = nj + 1 := by omega
      have z2 : ¬ nj + 1 = idj := by omega
      have z3 : ¬ nj = idj := by omega
      have z4 : ¬ 0 = idj := by omega
      have z5 : ¬ 0 = nj := by omega
      have z6 : ¬ 0 = nj + 1 := by omega
      have z7 : ¬ idj = 0 := by omega
      have z8 : ¬ nj = 0 := by omega
      refine rC_seqI (rC_cut [1, 3, 4, 5] (fun s => s 26 = .bool true) (by simp [hk, hkj, hk1, s4, s5, hi, hji, e0j, rAProgram, rARule]) ?_)
      intro stk hkk s26
      simp at hkk
      refine rC_pass1 s26 ?_
      simp [hk, hkj, hk1, hkk, s4, s5, s3j, eidj, e0j, z0, z1, z2, z3, z4, z5, z6, z7, z8, hwj]
      refine ⟨by unfold LIM; omega, ?_⟩
      exact hRj _ _ _ (by simp [hkj, hkk]) (by simp) ⟨by omega, by simp [e0j, z4, z5, z6, z8], accj ++ [edgeAt i j], nj + 1, by simpa using hJj, by omega, by omega, by simp, by simp [rUEdge, edgeAt, List.take_of_length_le]⟩
    rintro stj hj nj Rj hkj s5 ⟨hnj, e0j, accj, idj, hJj, hid0j, hidj, s3j, eidj⟩ hretj hXj
    simp at hkj
    rw [List.drop_eq_nil_of_le (by rw [ruleEdges_len]; omega), List.nil_append] at hJj
    refine rC_seqI (rC_cut [1, 3, 4] (fun s => s 26 = .bool false) (by simp [hk, hkj, hk1, s4, s5, hi, e0j, rAProgram, rARule]) ?_)
    intro stk hkk s26
    simp at hkk
    refine rC_stop1 s26 ?_
    simp
    refine hXj _ _ _ _ ?_
    simp [hk, hk1, hkj, hkk, s4, hw]
    exact hR _ _ _ (by simp [hk, hk1, hkj, hkk]) (by simp) ⟨hnj, e0j, accj, idj, hJj, hid0j, hidj, by simp [hkk, s3j], eidj⟩
  rintro st h n R hk s4 ⟨hn, e0, acc, id, hJ, hid0, hid, s3, eid⟩ hret hX
  simp at hk
  rw [List.drop_eq_nil_of_le (by omega)] at hJ
  simp [edgesFrom] at hJ
  subst hJ
  refine rC_seqI (rC_cut [3] (fun s => s 15 = .bool false) (by simp [hk, s4, e0, rAProgram]) ?_)
  intro st1 hk1 s15
  simp at hk1
  refine rC_stop1 s15 ?_
  refine hX _ _ _ _ ?_
  simp [hk1, s3, eid]
end Go.Proofs.YtlmajgghnenbpaaGreat

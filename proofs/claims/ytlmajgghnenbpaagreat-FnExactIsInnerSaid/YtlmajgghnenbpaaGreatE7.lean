/- Contracts: IsInner of both. -/
import Derived.Test.YtlmajgghnenbpaaGreatE5
namespace Go.Proofs.YtlmajgghnenbpaaGreat
set_option linter.all false
open Go Go.RowKit Go.Proofs
def a164 : AFn :=
⟨19, [(.t 4)], (.seq 
 (.reg [⟨some 3, (.boxv (.t 1)), no⟩, ⟨some 4, (.mv (.k (.int .i64 0))), no⟩]) (.seq (.seq 
 (.reg [⟨some 6, (.mv (.t 0)), no⟩, ⟨some 7, (.len false (.t 6)), no⟩, ⟨some 8, (.mv (.k (.int .i64 0))), no⟩]) (.blk 0 (.loop (.seq 
 (.reg [⟨some 9, (.bin .lss (.t 8) (.t 7)), no⟩]) (.seq (.cond (.t 9) .skip (.exit 0)) (.seq (.blk 1 (.seq 
 (.reg [⟨some 10, (.mv (.t 8)), no⟩, ⟨some 5, (.mv (.t 10)), no⟩]) (.seq (.draw (.op ⟨some 11, (.ld true 2 (.t 3)), no⟩ (.op ⟨some 12, (.mv (.t 0)), no⟩ (.op ⟨some 13, (.mv (.t 5)), no⟩ (.op ⟨some 14, (.ixa 2 (.t 12) (.t 13)), no⟩ (.op ⟨some 15, (.ld true 2 (.t 14)), no⟩ (.op ⟨some 16, (.aeq false [0, 0] (.t 11) (.t 15)), no⟩ .fin))))))) (.cond (.t 16) (.seq 
 (.reg [⟨some 17, (.mv (.t 5)), no⟩, ⟨some 4, (.mv (.t 17)), no⟩]) .ret) .skip)))) 
 (.reg [⟨some 18, (.bin .add (.t 8) (.k (.int .i64 1))), no⟩, ⟨some 8, (.mv (.t 18)), no⟩]))))))) (.seq 
 (.reg [⟨some 4, (.mv (.k (.int .i64 (-1)))), no⟩]) .ret)))⟩
theorem a164_ok : compFn Tryz.prog Tryz.f164 = some a164 := by kernel_rfl

def a81 : AFn :=
⟨9, [(.t 4)], (.seq 
 (.reg [⟨some 3, (.boxv (.t 1)), no⟩, ⟨some 4, (.mv (.k (.bool false))), no⟩]) (.seq 
 (.reg [⟨some 5, (.mv (.t 0)), no⟩, ⟨some 6, (.ld true 2 (.t 3)), no⟩, ⟨some 7, (.call (.k (.fn (.func 164) [] [])) [(.t 5), (.t 6)]), no⟩, ⟨some 8, (.bin .geq (.t 7) (.k (.int .i64 0))), no⟩, ⟨some 4, (.mv (.t 8)), no⟩]) .ret))⟩
theorem a81_ok : compFn Tryz.prog Tryz.f81 = some a81 := by kernel_rfl

def a78 : AFn :=
⟨15, [(.t 4)], (.seq 
 (.reg [⟨some 2, (.boxv (.t 0)), no⟩, ⟨some 3, (.boxv (.t 1)), no⟩, ⟨some 4, (.mv (.k (.bool false))), no⟩]) (.seq (.draw (.op ⟨some 5, (.ld true 2 (.t 2)), no⟩ (.op ⟨some 6, (.ld true 2 (.t 2)), no⟩ (.op ⟨some 7, (.ld true 2 (.t 3)), no⟩ (.op ⟨some 10, (.ld true 2 (.t 2)), no⟩ (.op ⟨some 11, (.ld true 2 (.t 3)), no⟩ (.op ⟨some 8, (.call (.k (.fn (.func 109) [] [])) [(.t 6), (.t 7)]), no⟩ (.op ⟨some 9, (.call (.k (.fn (.func 34) [] [])) [(.t 5), (.t 8)]), no⟩ (.op ⟨some 12, (.call (.k (.fn (.func 108) [] [])) [(.t 10), (.t 11)]), no⟩ (.op ⟨some 13, (.call (.k (.fn (.func 107) [] [])) [(.t 9), (.t 12)]), no⟩ (.op ⟨some 14, (.bin .geq (.t 13) (.k (.int .i64 0))), no⟩ (.op ⟨some 4, (.mv (.t 14)), no⟩ .fin)))))))))))) .ret))⟩
theorem a78_ok : compFn Tryz.prog Tryz.f78 = some a78 := by kernel_rfl

def a16 : AFn :=
⟨24, [(.t 4)], (.seq 
 (.reg [⟨some 2, (.boxv (.t 0)), no⟩, ⟨some 3, (.boxv (.t 1)), no⟩, ⟨some 4, (.mv (.k (.bool false))), no⟩]) (.seq 
 (.reg [⟨some 7, (.ld true 2 (.t 2)), no⟩, ⟨some 8, (.call (.k (.fn (.func 23) [] [])) [(.t 7)]), no⟩, ⟨some 5, (.mv (.t 8)), no⟩]) (.seq (.seq 
 (.reg [⟨some 6, (.mv (.k (.int .i64 0))), no⟩]) (.blk 0 (.loop (.seq (.seq 
 (.reg [⟨some 9, (.mv (.t 6)), no⟩, ⟨some 10, (.mv (.t 5)), no⟩, ⟨some 11, (.len false (.t 10)), no⟩, ⟨some 12, (.bin .lss (.t 9) (.t 11)), no⟩]) (.cond (.t 12) .skip (.exit 0))) (.seq (.blk 1 (.seq (.draw (.op ⟨some 15, (.mv (.t 5)), no⟩ (.op ⟨some 16, (.mv (.t 6)), no⟩ (.op ⟨some 17, (.ixa 2 (.t 15) (.t 16)), no⟩ (.op ⟨some 18, (.ld true 2 (.t 17)), no⟩ (.op ⟨some 19, (.ld true 2 (.t 3)), no⟩ (.op ⟨some 20, (.aeq false [0, 0] (.t 18) (.t 19)), no⟩ .fin))))))) (.cond (.t 20) (.seq 
 (.reg [⟨some 21, (.ld true 2 (.t 2)), no⟩, ⟨some 22, (.ld true 2 (.t 3)), no⟩, ⟨some 23, (.call (.k (.fn (.func 78) [] [])) [(.t 21), (.t 22)]), no⟩, ⟨some 4, (.mv (.t 23)), no⟩]) .ret) .skip))) 
 (.reg [⟨some 13, (.mv (.t 6)), no⟩, ⟨some 14, (.bin .add (.t 13) (.k (.int .i64 1))), no⟩, ⟨some 6, (.mv (.t 14)), no⟩])))))) (.seq 
 (.reg [⟨some 4, (.mv (.k (.bool false))), no⟩]) .ret))))⟩
theorem a16_ok : compFn Tryz.prog Tryz.f16 = some a16 := by kernel_rfl

def a19 : AFn :=
⟨23, [(.t 4)], (.seq 
 (.reg [⟨some 2, (.boxv (.t 0)), no⟩, ⟨some 3, (.boxv (.t 1)), no⟩, ⟨some 4, (.mv (.k (.bool false))), no⟩]) (.seq (.seq (.draw (.op ⟨some 7, (.ld true 2 (.t 2)), no⟩ (.op ⟨some 9, (.ld true 2 (.t 3)), no⟩ (.op ⟨some 8, (.call (.k (.fn (.func 24) [] [])) [(.t 7)]), no⟩ (.op ⟨some 10, (.call (.k (.fn (.func 81) [] [])) [(.t 8), (.t 9)]), no⟩ (.op ⟨some 11, (.un .not (.t 10)), no⟩ .fin)))))) (.cond (.t 11) (.seq 
 (.reg [⟨some 4, (.mv (.k (.bool false))), no⟩]) .ret) .skip)) (.seq 
 (.reg [⟨some 13, (.ld true 2 (.t 2)), no⟩, ⟨some 14, (.ld true 2 (.t 3)), no⟩, ⟨some 15, (.call (.k (.fn (.func 82) [] [])) [(.t 13), (.t 14)]), no⟩, ⟨some 12, (.mv (.t 15)), no⟩, ⟨some 16, (.ext (.t 12) 0), no⟩, ⟨some 17, (.ext (.t 12) 1), no⟩, ⟨some 5, (.mv (.t 16)), no⟩, ⟨some 6, (.mv (.t 17)), no⟩]) (.seq 
 (.reg [⟨some 18, (.ld true 2 (.t 2)), no⟩, ⟨some 19, (.mv (.t 5)), no⟩, ⟨some 20, (.call (.k (.fn (.func 84) [] [])) [(.t 18), (.t 19)]), no⟩, ⟨some 21, (.mv (.t 6)), no⟩, ⟨some 22, (.call (.k (.fn (.func 83) [] [])) [(.t 20), (.t 21)]), no⟩, ⟨some 4, (.mv (.t 22)), no⟩]) .ret))))⟩
theorem a19_ok : compFn Tryz.prog Tryz.f19 = some a19 := by kernel_rfl



theorem inner_comp {p : DProgram} (h : progOk p = true) {e : DEdge} (he : e ∈ edgesOf p) : hasS (compP p (fromE p e)) (toE p e) = inner1 p e := by
  obtain ⟨f1, f2, f3, f4⟩ := progOk_facts h
  have hE2 : ∀ e ∈ pairsE p, e.2 ∈ namesP p := fun e he => (f2 e he).2
  have hm : (fromE p e, toE p e) ∈ pairsE p := by
    rw [pairsE_def]
    unfold edgesOf at he
    rw [h] at he
    exact List.mem_map.2 ⟨e, he, rfl⟩
  have hF := (f2 _ hm).1
  have hT := (f2 _ hm).2
  have hr : reachP p (toE p e) = reachN (pairsE p) (namesP p) (toE p e) := by unfold reachP; rw [h, hasS_iff.2 hT]; rfl
  unfold inner1
  rw [hr, compP_eq h hF, Bool.eq_iff_iff, hasS_iff, hasS_iff, compN_iff hE2 hF, reachN_iff hE2 hT]
  exact ⟨fun ⟨_, _, g⟩ => ⟨hF, g⟩, fun ⟨_, g⟩ => ⟨hT, (RT.refl _).step hm, g⟩⟩

set_option maxRecDepth 20000
set_option maxHeartbeats 2000000
theorem k_IndexE (l : List DEdge) (e : DEdge) : Holds Tryz.prog 164 [.sl 2 (l.map rAEdge), .agg (rAEdge e)] (fun r => r = i64 (idxFrom (fun x => decide (x = e)) l 0)) := by
  refine holds_of_lim Tryz.func164 rfl rfl fun hl => ?_
  simp at hl
  refine holds_of_run Tryz.func164 a164_ok rfl (by simp [a164]) ?_
  simp [a164, rAEdge]
  intro _
  generalize hB : idxFrom (fun x => decide (x = e)) l 0 = B
  refine rL_forO [0, 3, 7] 8 l.length (fun i s h n => 0 < n ∧ h 0 = some ⟨true, 2, [rAEdge e]⟩ ∧ idxFrom (fun x => decide (x = e)) (l.drop i) i = B) (by first | exact hl | exact hl.1) (by simp) ⟨by simp, by simp [rAEdge], by simpa using hB⟩ ?_ ?_
  · rintro i st h n R hi hg hk s8 hw ⟨hn, e0, hJ⟩ hR hret _
    simp at hk
    rw [List.drop_eq_getElem_cons hi] at hJ
    simp only [idxFrom] at hJ
    by_cases hx : l[i] = e
    · rw [if_pos (by simp [hx])] at hJ
      simp [hk, s8, hi, e0, rAEdge, hx]
      refine hret _ _ _ ?_
      simp [hJ]
    · rw [if_neg (by simpa using hx)] at hJ
      simp [hk, s8, hi, e0, rAEdge]
      refine ⟨fun g1 g2 => (hx ?_).elim, fun _ => ?_⟩
      · generalize l[i] = q at g1 g2
        cases q; cases e; simp_all
      simp [hk, s8, hw]
      exact hR _ _ _ (by simp [hk]) (by simp) ⟨hn, e0, hJ⟩
  rintro st h n R hk s8 ⟨hn, e0, hJ⟩ hret hX
  simp at hk
  rw [List.drop_eq_nil_of_le (by omega)] at hJ
  simp [hk, s8]
  refine hX _ _ _ _ ?_
  simp [← hJ, idxFrom]
theorem k_ContainsE (l : List DEdge) (e : DEdge) : Holds Tryz.prog 81 [.sl 2 (l.map rAEdge), .agg (rAEdge e)] (fun r => r = .bool (decide (e ∈ l))) := by
  refine holds_of_run Tryz.func81 a81_ok rfl (by simp [a81]) ?_
  simp [a81, rAEdge]
  first | refine callD_of (k_IndexE l e) (by simp [rAEdge]) ?_ | refine call_of (k_IndexE l e) (by simp [rAEdge]) ?_ | refine callD_of (k_IndexE l e) rfl ?_ | refine call_of (k_IndexE l e) rfl ?_
  rintro r rfl
  have := idxFrom_any (p := fun x => decide (x = e)) (l := l) (i := 0)
  simp only [ge_iff_le] at this
  simp [this]
  rw [Bool.eq_iff_iff]
  simp
theorem ks_l19Inner (p : DProgram) (hp : wProgram p ≤ 1048576) {a b : Nat} (ha : a < p.Rules.length) (hb : b < (p.Rules[a]).Calls.length) : Holds Tryz.prog 78 [.agg (rAProgram p), .agg (rAEdge ⟨a, b⟩)] (fun r => r = .bool (inner1 p ⟨a, b⟩)) := by
  refine holds_of_run Tryz.func78 a78_ok rfl (by simp [a78]) ?_
  simp [a78, rAProgram, rAEdge]
  first | refine callD_of (ks_l13To p ha hb) (by simp [rAProgram, rAEdge]) ?_ | refine call_of (ks_l13To p ha hb) (by simp [rAProgram, rAEdge]) ?_ | refine callD_of (ks_l13To p ha hb) rfl ?_ | refine call_of (ks_l13To p ha hb) rfl ?_
  rintro r rfl
  simp
  first | refine callD_of (ks_ReachableFrom p hp ((p.Rules[a]).Calls[b]).Func) (by simp [rAProgram]) ?_ | refine call_of (ks_ReachableFrom p hp ((p.Rules[a]).Calls[b]).Func) (by simp [rAProgram]) ?_ | refine callD_of (ks_ReachableFrom p hp ((p.Rules[a]).Calls[b]).Func) rfl ?_ | refine call_of (ks_ReachableFrom p hp ((p.Rules[a]).Calls[b]).Func) rfl ?_
  rintro r rfl
  simp
  first | refine callD_of (ks_l13From p ha (k := b)) (by simp [rAProgram, rAEdge]) ?_ | refine call_of (ks_l13From p ha (k := b)) (by simp [rAProgram, rAEdge]) ?_ | refine callD_of (ks_l13From p ha (k := b)) rfl ?_ | refine call_of (ks_l13From p ha (k := b)) rfl ?_
  rintro r rfl
  simp
  have ht : ∀ l : List Str, List.take l.length (strsR l) = strsR l := fun l => List.take_of_length_le (by simp [strsR])
  first | refine callD_of (ks_IndexOf (reachP p ((p.Rules[a]).Calls[b]).Func) (p.Rules[a]).Func) (by simp [ht]) ?_ | refine call_of (ks_IndexOf (reachP p ((p.Rules[a]).Calls[b]).Func) (p.Rules[a]).Func) (by simp [ht]) ?_ | refine callD_of (ks_IndexOf (reachP p ((p.Rules[a]).Calls[b]).Func) (p.Rules[a]).Func) rfl ?_ | refine call_of (ks_IndexOf (reachP p ((p.Rules[a]).Calls[b]).Func) (p.Rules[a]).Func) rfl ?_
  rintro r rfl
  have g := idx_has (reachP p ((p.Rules[a]).Calls[b]).Func) (p.Rules[a]).Func
  simp [g, inner1, fromE_at ha, toE_at ha hb]

theorem ks_IsInner (p : DProgram) (hp : wProgram p ≤ 1048576) (e : DEdge) : Holds Tryz.prog 16 [.agg (rAProgram p), .agg (rAEdge e)] (fun r => r = .bool (isInner p e)) := by
  have hel := edgesOf_len p hp
  refine holds_of_run Tryz.func16 a16_ok rfl (by simp [a16]) ?_
  simp [a16, rAProgram, rAEdge]
  first | refine callD_of (ks_EdgesOf p hp) (by simp [rAProgram]) ?_ | refine call_of (ks_EdgesOf p hp) (by simp [rAProgram]) ?_ | refine callD_of (ks_EdgesOf p hp) rfl ?_ | refine call_of (ks_EdgesOf p hp) rfl ?_
  rintro r rfl
  simp
  generalize hB : isInner p e = B
  refine rL_forO [2, 3, 5] 6 (edgesOf p).length (fun i s h n => 2 < n ∧ h 0 = some ⟨true, 2, [rAProgram p]⟩ ∧ h 1 = some ⟨true, 2, [rAEdge e]⟩ ∧ h 2 = some ⟨false, 2, (edgesOf p).map rUEdge⟩ ∧ (decide (e ∈ (edgesOf p).drop i) && inner1 p e) = B) (by unfold LIM; omega) (by simp) ⟨by simp, by simp [rAProgram], by simp [rAEdge], by simp, by rw [← hB]; rfl⟩ ?_ ?_
  · rintro i st h n R hi hg hk s6 hw ⟨hn, e0, e1, e2, hJ⟩ hR hret _
    simp at hk
    rw [List.drop_eq_getElem_cons hi] at hJ
    refine rC_seqI (rC_cut [2, 3, 5, 6] (fun s => s 12 = .bool true) (by simp [hk, s6, hi, e2]) ?_)
    intro st1 hk1 s12
    simp at hk1
    refine rC_pass1 s12 (rC_seqI (rC_blkI ?_))
    obtain ⟨a, b, ha, hb, he, hf, ht0⟩ := edgesOf_at hi
    by_cases hx : e = (edgesOf p)[i]
    · have hJ' : inner1 p e = B := by
        have hmem : e ∈ (edgesOf p)[i] :: (edgesOf p).drop (i + 1) := by rw [← hx]; exact List.mem_cons_self
        rw [decide_eq_true hmem, Bool.true_and] at hJ
        exact hJ
      rw [he] at hx
      subst hx
      simp [hk1, hk, s6, hi, e0, e1, e2, he, rUEdge, rAEdge, rAProgram]
      first | refine callD_of (ks_l19Inner p hp ha hb) (by simp [rAProgram, rAEdge]) ?_ | refine call_of (ks_l19Inner p hp ha hb) (by simp [rAProgram, rAEdge]) ?_ | refine callD_of (ks_l19Inner p hp ha hb) rfl ?_ | refine call_of (ks_l19Inner p hp ha hb) rfl ?_
      rintro r rfl
      simp
      refine hret _ _ _ ?_
      simp [hJ']
    · have hJ' : (decide (e ∈ (edgesOf p).drop (i + 1)) && inner1 p e) = B := by
        rw [← hJ]
        congr 1
        rw [decide_eq_decide]
        exact ⟨fun h => List.mem_cons_of_mem _ h, fun h => (List.mem_cons.1 h).resolve_left hx⟩
      have hne : ¬ ((a : Int) = e.Rule ∧ (b : Int) = e.Call) := fun g => hx (by rw [he]; cases e; simp_all)
      refine rC_cut [2, 3, 5, 6] (fun s => s 20 = .bool false) ?_ ?_
      · simp [hk1, hk, s6, hi, e0, e1, e2, he, rUEdge, rAEdge, rAProgram]
        simpa using hne
      intro st2 hk2 s20
      simp at hk2
      simp [s20, hk2, hk1, hk, s6, hw]
      exact hR _ _ _ (by simp [hk2, hk1, hk]) (by simp) ⟨hn, e0, e1, e2, hJ'⟩
  rintro st h n R hk s6 ⟨hn, e0, e1, e2, hJ⟩ hret hX
  simp at hk
  rw [List.drop_eq_nil_of_le (by omega)] at hJ
  simp at hJ
  subst hJ
  refine rC_seqI (rC_cut [] (fun s => s 12 = .bool false) (by simp [hk, s6, e2]) ?_)
  intro st1 hk1 s12
  refine rC_stop1 s12 ?_
  refine hX _ _ _ _ ?_
  simp

theorem k_IsInner (p : DProgram) (hp : wProgram p ≤ 1048576) (e : DEdge) : Holds Tryz.prog 19 [.agg (rAProgram p), .agg (rAEdge e)] (fun r => r = .bool (isInner p e)) := by
  refine holds_of_run Tryz.func19 a19_ok rfl (by simp [a19]) ?_
  simp [a19, rAProgram, rAEdge]
  first | refine callD_of (k_EdgesOf p hp) (by simp [rAProgram]) ?_ | refine call_of (k_EdgesOf p hp) (by simp [rAProgram]) ?_ | refine callD_of (k_EdgesOf p hp) rfl ?_ | refine call_of (k_EdgesOf p hp) rfl ?_
  rintro r rfl
  have ht : List.take (edgesOf p).length ((edgesOf p).map rUEdge) = (edgesOf p).map rUEdge := List.take_of_length_le (by simp)
  simp
  first | refine callD_of (k_ContainsE (edgesOf p) e) (by simp [rAEdge, ht]) ?_ | refine call_of (k_ContainsE (edgesOf p) e) (by simp [rAEdge, ht]) ?_ | refine callD_of (k_ContainsE (edgesOf p) e) rfl ?_ | refine call_of (k_ContainsE (edgesOf p) e) rfl ?_
  rintro r rfl
  unfold isInner
  by_cases hm : e ∈ edgesOf p
  case neg => simp [hm]
  have hpo : progOk p = true := by
    unfold edgesOf at hm
    split at hm
    · assumption
    · cases hm
  obtain ⟨i, hi, rfl⟩ := List.getElem_of_mem hm
  obtain ⟨a, b, ha, hb, he, hf, ht0⟩ := edgesOf_at hi
  have hin := inner_comp hpo hm
  rw [he] at hm hin ⊢
  rw [hf, ht0] at hin
  simp [hm]
  first | refine callD_of (k_ends p ha hb) (by simp [rAProgram, rAEdge]) ?_ | refine call_of (k_ends p ha hb) (by simp [rAProgram, rAEdge]) ?_ | refine callD_of (k_ends p ha hb) rfl ?_ | refine call_of (k_ends p ha hb) rfl ?_
  rintro r rfl
  simp
  have ht1 : List.take (compP p (p.Rules[a]).Func).length (strsR (compP p (p.Rules[a]).Func)) = strsR (compP p (p.Rules[a]).Func) := List.take_of_length_le (by simp [strsR])
  first | refine callD_of (k_componentOf p hp (p.Rules[a]).Func) (by simp [rAProgram]) ?_ | refine call_of (k_componentOf p hp (p.Rules[a]).Func) (by simp [rAProgram]) ?_ | refine callD_of (k_componentOf p hp (p.Rules[a]).Func) rfl ?_ | refine call_of (k_componentOf p hp (p.Rules[a]).Func) rfl ?_
  rintro r rfl
  simp
  first | refine callD_of (k_Contains (compP p (p.Rules[a]).Func) ((p.Rules[a]).Calls[b]).Func) (by simp [ht1]) ?_ | refine call_of (k_Contains (compP p (p.Rules[a]).Func) ((p.Rules[a]).Calls[b]).Func) (by simp [ht1]) ?_ | refine callD_of (k_Contains (compP p (p.Rules[a]).Func) ((p.Rules[a]).Calls[b]).Func) rfl ?_ | refine call_of (k_Contains (compP p (p.Rules[a]).Func) ((p.Rules[a]).Calls[b]).Func) rfl ?_
  rintro r rfl
  simp [hin]
end Go.Proofs.YtlmajgghnenbpaaGreat

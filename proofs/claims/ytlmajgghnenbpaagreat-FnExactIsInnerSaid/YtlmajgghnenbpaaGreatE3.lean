/- Contracts: ReachableFrom of the program. -/
import Derived.Test.YtlmajgghnenbpaaGreatE2A
namespace Go.Proofs.YtlmajgghnenbpaaGreat
set_option linter.all false
open Go Go.RowKit Go.Proofs
def a35 : AFn :=
⟨68, [(.t 4)], (.seq 
 (.reg [⟨some 2, (.boxv (.t 0)), no⟩, ⟨some 4, (.mv (.k (.nil 1))), no⟩]) (.seq (.seq 
 (.reg [⟨some 13, (.ld true 2 (.t 2)), no⟩, ⟨some 14, (.call (.k (.fn (.func 88) [] [])) [(.t 13)]), no⟩, ⟨some 15, (.un .not (.t 14)), no⟩, ⟨some 16, (.mv (.t 15)), no⟩, ⟨some 17, (.ld true 2 (.t 2)), (some (16, false))⟩, ⟨some 18, (.mv (.t 1)), (some (16, false))⟩, ⟨some 19, (.call (.k (.fn (.func 89) [] [])) [(.t 17), (.t 18)]), (some (16, false))⟩, ⟨some 20, (.bin .lss (.t 19) (.k (.int .i64 0))), (some (16, false))⟩, ⟨some 21, (.pick (.t 16) (.k (.bool true)) (.t 20)), no⟩]) (.cond (.t 21) (.seq 
 (.reg [⟨some 4, (.mv (.k (.nil 1))), no⟩]) .ret) .skip)) (.seq 
 (.reg [⟨some 22, .mmk, no⟩, ⟨some 23, (.mv (.t 1)), no⟩, ⟨no, (.mput (.t 22) (.t 23) (.k (.bool true))), no⟩, ⟨some 24, (.mv (.t 22)), no⟩, ⟨some 5, (.mv (.t 24)), no⟩]) (.seq (.seq 
 (.reg [⟨some 25, (.fld 0 (.t 2)), no⟩, ⟨some 26, (.ld false 1 (.t 25)), no⟩, ⟨some 27, (.len false (.t 26)), no⟩, ⟨some 28, (.mv (.k (.int .i64 0))), no⟩]) (.blk 0 (.loop (.seq 
 (.reg [⟨some 29, (.bin .lss (.t 28) (.t 27)), no⟩]) (.seq (.cond (.t 29) .skip (.exit 0)) (.seq (.blk 1 (.seq 
 (.reg [⟨some 30, (.ld true 2 (.t 2)), no⟩, ⟨some 31, (.call (.k (.fn (.func 91) [] [])) [(.t 30)]), no⟩, ⟨some 32, (.len false (.t 31)), no⟩, ⟨some 33, (.mv (.k (.int .i64 0))), no⟩]) (.blk 2 (.loop (.seq 
 (.reg [⟨some 34, (.bin .lss (.t 33) (.t 32)), no⟩]) (.seq (.cond (.t 34) .skip (.exit 2)) (.seq (.blk 3 (.seq 
 (.reg [⟨some 35, (.ixa 2 (.t 31) (.t 33)), no⟩, ⟨some 36, (.ld true 2 (.t 35)), no⟩, ⟨some 7, (.box [(.int .i64 0), (.int .i64 0)]), no⟩, ⟨no, (.st 2 (.t 7) (.t 36)), no⟩]) (.seq 
 (.reg [⟨some 38, (.ld true 2 (.t 2)), no⟩, ⟨some 39, (.ld true 2 (.t 7)), no⟩, ⟨some 40, (.call (.k (.fn (.func 82) [] [])) [(.t 38), (.t 39)]), no⟩, ⟨some 37, (.mv (.t 40)), no⟩, ⟨some 41, (.ext (.t 37) 0), no⟩, ⟨some 42, (.ext (.t 37) 1), no⟩, ⟨some 8, (.mv (.t 41)), no⟩, ⟨some 9, (.mv (.t 42)), no⟩]) (.seq 
 (.reg [⟨some 43, (.mv (.t 5)), no⟩, ⟨some 44, (.mv (.t 8)), no⟩, ⟨some 45, (.mget (.bool false) (.t 43) (.t 44)), no⟩]) (.cond (.t 45) 
 (.reg [⟨some 46, (.mv (.t 5)), no⟩, ⟨some 47, (.mv (.t 9)), no⟩, ⟨no, (.mput (.t 46) (.t 47) (.k (.bool true))), no⟩]) .skip))))) 
 (.reg [⟨some 48, (.bin .add (.t 33) (.k (.int .i64 1))), no⟩, ⟨some 33, (.mv (.t 48)), no⟩])))))))) 
 (.reg [⟨some 49, (.bin .add (.t 28) (.k (.int .i64 1))), no⟩, ⟨some 28, (.mv (.t 49)), no⟩]))))))) (.seq 
 (.reg [⟨some 10, (.mv (.k (.nil 1))), no⟩]) (.seq (.seq 
 (.reg [⟨some 50, (.fld 0 (.t 2)), no⟩, ⟨some 51, (.ld false 1 (.t 50)), no⟩, ⟨some 52, (.len false (.t 51)), no⟩, ⟨some 53, (.mv (.k (.int .i64 0))), no⟩]) (.blk 4 (.loop (.seq 
 (.reg [⟨some 54, (.bin .lss (.t 53) (.t 52)), no⟩]) (.seq (.cond (.t 54) .skip (.exit 4)) (.seq (.blk 5 (.seq 
 (.reg [⟨some 55, (.ixa 4 (.t 51) (.t 53)), no⟩, ⟨some 56, (.ld true 4 (.t 55)), no⟩, ⟨some 12, (.box [(.str []), (.nil 1), (.bool false), (.nil 2)]), no⟩, ⟨no, (.st 4 (.t 12) (.t 56)), no⟩]) (.seq 
 (.reg [⟨some 57, (.mv (.t 5)), no⟩, ⟨some 58, (.fld 0 (.t 12)), no⟩, ⟨some 59, (.ld false 1 (.t 58)), no⟩, ⟨some 60, (.mget (.bool false) (.t 57) (.t 59)), no⟩]) (.cond (.t 60) 
 (.reg [⟨some 61, (.mv (.t 10)), no⟩, ⟨some 62, (.fld 0 (.t 12)), no⟩, ⟨some 63, (.ld false 1 (.t 62)), no⟩, ⟨some 64, (.bsl 1 [(.t 63)]), no⟩, ⟨some 65, (.app 16 1 (.t 61) (.t 64)), no⟩, ⟨some 10, (.mv (.t 65)), no⟩]) .skip)))) 
 (.reg [⟨some 66, (.bin .add (.t 53) (.k (.int .i64 1))), no⟩, ⟨some 53, (.mv (.t 66)), no⟩]))))))) (.seq 
 (.reg [⟨some 67, (.mv (.t 10)), no⟩, ⟨some 4, (.mv (.t 67)), no⟩]) .ret)))))))⟩
theorem a35_ok : compFn Tryz.prog Tryz.f35 = some a35 := by kernel_rfl



def mapR (M : List Str) : List (List AV) := M.map fun k => [.str k, .bool true]
theorem mfind_mapR : ∀ (M : List Str) (key : Str), (mfind (mapR M) key).getD (.bool false) = .bool (hasS M key)
  | [], key => rfl
  | k :: M, key => by
    have ih := mfind_mapR M key
    by_cases h : k = key
    · simp [mapR, mfind, h, hasS]
    · unfold mapR hasS at *
      simp only [List.map_cons, mfind, if_neg h, List.any_cons]
      rw [ih]
      simp [h]
theorem mset_mapR : ∀ (M : List Str) (key : Str), mset (mapR M) key (.bool true) = mapR (if hasS M key then M else M ++ [key])
  | [], key => rfl
  | k :: M, key => by
    have ih := mset_mapR M key
    by_cases h : k = key
    · simp [mapR, mset, h, hasS]
    · have hh : hasS (k :: M) key = hasS M key := by simp [hasS, h]
      rw [hh]
      simp only [mapR, List.map_cons, mset, if_neg h] at *
      rw [ih]
      split <;> simp
theorem idx_names (p : DProgram) (name : Str) : decide (idxFrom (fun f => f.Name == name) p.Functions 0 < 0) = !hasS (namesP p) name := by
  have := idxFrom_any (p := fun f : DFunction => f.Name == name) (l := p.Functions) (i := 0)
  have h2 : hasS (namesP p) name = p.Functions.any (fun f => f.Name == name) := by simp [hasS, namesP, List.any_map, Function.comp_def]
  rw [h2, ← this]
  by_cases h : idxFrom (fun f : DFunction => f.Name == name) p.Functions 0 < 0
  · have h3 : ¬ (idxFrom (fun f : DFunction => f.Name == name) p.Functions 0 ≥ 0) := by omega
    simp [h, h3]
  · have h3 : idxFrom (fun f : DFunction => f.Name == name) p.Functions 0 ≥ 0 := by omega
    simp [h, h3]

theorem AccB.keep {b z : Nat} {rows : List (List AV)} {v : AV} {h : Heap} {n : Nat} (a : AccB b z rows v h n) (x : Option Blk) : AccB b z rows v (upd h n x) n := a.imp id fun ⟨i, h1, h2, h3, h4⟩ => ⟨i, h1, h2, h3, by rw [upd_n (by omega)]; exact h4⟩

def pairE (p : DProgram) (e : DEdge) : Str × Str := (fromE p e, toE p e)
theorem pairsE_def (p : DProgram) : pairsE p = (edgesL p).map (pairE p) := rfl
theorem edgesL_at {p : DProgram} {j : Nat} (hj : j < (edgesL p).length) : ∃ i k : Nat, ∃ hi : i < p.Rules.length, ∃ hk : k < (p.Rules[i]).Calls.length, (edgesL p)[j] = ⟨(i : Int), (k : Int)⟩ ∧ fromE p ⟨(i : Int), (k : Int)⟩ = (p.Rules[i]).Func ∧ toE p ⟨(i : Int), (k : Int)⟩ = ((p.Rules[i]).Calls[k]).Func := by
  obtain ⟨i, k, hi, hk, he⟩ := edgesL_mem (List.getElem_mem hj)
  exact ⟨i, k, hi, hk, he, fromE_at hi, toE_at hi hk⟩

set_option maxRecDepth 20000
set_option maxHeartbeats 2000000
theorem k_ReachableFrom (p : DProgram) (hp : wProgram p ≤ 1048576) (name : Str) : Holds Tryz.prog 35 [.agg (rAProgram p), .str name] (fun x => x = .us 1 (strsR (reachP p name))) := by
  have hTl := edgesL_len p hp
  have hfl : p.Functions.length ≤ 1048576 := by have := wL_len wFunction p.Functions; unfold wProgram wFunctionS at hp; omega
  refine holds_of_run Tryz.func35 a35_ok rfl (by simp [a35]) ?_
  simp [a35, rAProgram]
  first | refine callD_of (k_IsValidProgram p hp) (by simp [rAProgram]) ?_ | refine call_of (k_IsValidProgram p hp) (by simp [rAProgram]) ?_ | refine callD_of (k_IsValidProgram p hp) rfl ?_ | refine call_of (k_IsValidProgram p hp) rfl ?_
  rintro r rfl
  unfold reachP
  cases h1 : progOk p
  · simp [strsR]
  simp
  first | refine callD_of (k_functionAt p name) (by simp [rAProgram]) ?_ | refine call_of (k_functionAt p name) (by simp [rAProgram]) ?_ | refine callD_of (k_functionAt p name) rfl ?_ | refine call_of (k_functionAt p name) rfl ?_
  rintro r rfl
  have g1 := idx_names p name
  cases h2 : hasS (namesP p) name
  · rw [h2] at g1
    simp at g1
    simp [g1, strsR]
  rw [h2] at g1
  simp at g1
  have g2 : ¬ idxFrom (fun f : DFunction => f.Name == name) p.Functions 0 < 0 := by omega
  simp [g1, g2, mset]
  intro _
  generalize hS : seeN (pairsE p) p.Functions.length [name] = S
  have hre : reachN (pairsE p) (namesP p) name = (namesP p).filter (hasS S) := by
    unfold reachN
    rw [show (namesP p).length = p.Functions.length by simp [namesP], hS]
  rw [hre]
  refine rL_forO [2, 5, 27] 28 p.Functions.length (fun i s h n => 1 < n ∧ h 0 = some ⟨true, 2, [rAProgram p]⟩ ∧ ∃ M : List Str, h 1 = some ⟨true, 0, mapR M⟩ ∧ seeN (pairsE p) (p.Functions.length - i) M = S) (by unfold LIM; omega) (by simp) ⟨by simp, by simp [rAProgram], [name], by simp [mapR], by simpa using hS⟩ ?_ ?_
  · rintro i st h n R hi hg hk s28 hw ⟨hn, e0, M, e1, hJ⟩ hR hret _
    simp at hk
    refine rC_cut [2, 5, 27, 28] (fun s => s 29 = .bool true) (by simp [hk, s28, hi]) ?_
    intro st1 hk1 s29
    simp at hk1
    refine rC_pass s29 (rC_seqI (rC_blkI ?_))
    simp [hk, hk1, e0, rAProgram]
    first | refine callD_of (k_edgesOf p hp) (by simp [rAProgram]) ?_ | refine call_of (k_edgesOf p hp) (by simp [rAProgram]) ?_ | refine callD_of (k_edgesOf p hp) rfl ?_ | refine call_of (k_edgesOf p hp) rfl ?_
    rintro r rfl
    simp
    intro hle
    have z0 : ¬ 0 = n := by omega
    have z1 : ¬ 1 = n := by omega
    have z2 : ¬ n = 0 := by omega
    have hJ' : seeN (pairsE p) (p.Functions.length - (i + 1)) (seeR (pairsE p) M) = S := by
      rw [← hJ, show p.Functions.length - i = (p.Functions.length - (i + 1)) + 1 by omega]
      rfl
    generalize hM2 : seeR (pairsE p) M = M2 at hJ'
    refine rL_forO [2, 5, 27, 28, 31, 32] 33 (edgesL p).length (fun j s h' n' => n < n' ∧ h' 0 = some ⟨true, 2, [rAProgram p]⟩ ∧ h' n = some ⟨false, 2, (edgesL p).map rUEdge⟩ ∧ ∃ X : List Str, h' 1 = some ⟨true, 0, mapR X⟩ ∧ (((edgesL p).drop j).map (pairE p)).foldl seeE X = M2) hle (by simp) ⟨by omega, by simp [e0, z0, z2, rAProgram], by simp, M, by simp [e1, z1], by rw [← hM2, pairsE_def]; simp [seeR]⟩ ?_ ?_
    · rintro j st2 h2 n2 R2 hj hjg hk2 s33 hw2 ⟨hn2, f0, fn, X, f1, hX⟩ hR2 hret2 _
      simp at hk2
      obtain ⟨a, b, ha, hb, he, hf, ht⟩ := edgesL_at hj
      rw [List.drop_eq_getElem_cons hj, List.map_cons, List.foldl_cons, he, pairE, hf, ht] at hX
      have y0 : ¬ 0 = n2 := by omega
      have y1 : ¬ 1 = n2 := by omega
      have y2 : ¬ n = n2 := by omega
      have y3 : ¬ n2 = n := by omega
      have y4 : ¬ n2 = 1 := by omega
      have y5 : ¬ n2 = 0 := by omega
      have y6 : ¬ n = 1 := by omega
      refine rC_cut [2, 5, 27, 28, 31, 32, 33] (fun s => s 34 = .bool true) (by simp [hk2, s33, hj]) ?_
      intro st3 hk3 s34
      simp at hk3
      refine rC_pass s34 (rC_seqI (rC_blkI ?_))
      simp [hk2, hk3, hk1, hk, s33, hj, f0, fn, f1, he, rUEdge, rAProgram, y0, y1, y2, y3, y4, y5, y6, z0, z1, z2]
      first | refine callD_of (k_ends p ha hb) (by simp [rAProgram, rAEdge]) ?_ | refine call_of (k_ends p ha hb) (by simp [rAProgram, rAEdge]) ?_ | refine callD_of (k_ends p ha hb) rfl ?_ | refine call_of (k_ends p ha hb) rfl ?_
      rintro r rfl
      simp [hk2, hk3, hk1, hk, f0, fn, f1, mfind_mapR, y0, y1, y2, y3, y4, y5, y6]
      cases c1 : hasS X (p.Rules[a]).Func
      · rw [seeE, c1] at hX
        simp at hX
        simp [hk2, hk3, hk1, hk, s33, hw2]
        exact hR2 _ _ _ (by simp [hk2, hk3, hk1, hk]) (by simp) ⟨by omega, by simp [f0, y0, y5, rAProgram], by simp [fn, y2, y3], X, by simp [f1, y1, y4], by simpa using hX⟩
      · rw [seeE, c1] at hX
        simp only [if_true] at hX
        simp [hk2, hk3, hk1, hk, f1, s33, hw2, mset_mapR, y0, y1, y2, y3, y4, y5, y6]
        exact hR2 _ _ _ (by simp [hk2, hk3, hk1, hk]) (by simp) ⟨by omega, by simp [f0, y0, y5, rAProgram], by simp [fn, y2, y3, y6], (if hasS X ((p.Rules[a]).Calls[b]).Func then X else X ++ [((p.Rules[a]).Calls[b]).Func]), by simp, by simpa using hX⟩
    rintro st2 h2 n2 R2 hk2 s33 ⟨hn2, f0, fn, X, f1, hX⟩ hret2 hX2
    simp at hk2
    rw [List.drop_eq_nil_of_le (by omega)] at hX
    simp at hX
    subst hX
    refine rC_cut [2, 5, 27, 28] (fun s => s 34 = .bool false) (by simp [hk2, s33]) ?_
    intro st3 hk3 s34
    simp at hk3
    refine rC_stop s34 ?_
    refine hX2 _ _ _ _ ?_
    simp [hk, hk1, hk2, hk3, s28, hw]
    exact hR _ _ _ (by simp [hk, hk1, hk2, hk3]) (by simp) ⟨by omega, f0, X, f1, hJ'⟩
  rintro st h n R hk s28 ⟨hn, e0, M, e1, hJ⟩ hret hX
  simp at hk
  rw [Nat.sub_self] at hJ
  simp only [seeN] at hJ
  subst hJ
  refine rC_cut [2, 5] (fun s => s 29 = .bool false) (by simp [hk, s28]) ?_
  intro st1 hk1 s29
  simp at hk1
  refine rC_stop s29 ?_
  refine hX _ _ _ _ ?_
  simp [hk, hk1, e0, rAProgram]
  intro _
  generalize hT : (namesP p).filter (hasS M) = T
  have hTn : T.length ≤ p.Functions.length := by rw [← hT]; refine Nat.le_trans (List.length_filter_le _ _) (by simp [namesP])
  refine rL_forO [5, 51, 52] 53 p.Functions.length (fun i s h n => 1 < n ∧ h 1 = some ⟨true, 0, mapR M⟩ ∧ ∃ acc : List Str, acc ++ ((namesP p).drop i).filter (hasS M) = T ∧ AccB 1 1 (strsR acc) (s 10) h n) (by unfold LIM; omega) (by simp) ⟨hn, by simpa using e1, [], by simpa using hT, .inl (by simp [strsR])⟩ ?_ ?_
  · rintro i st2 h2 n2 R2 hi hg hk2 s53 hw ⟨hn2, f1, acc, hJ, hA⟩ hR2 hret2 _
    simp at hk2
    have hin : i < (namesP p).length := by simpa [namesP] using hi
    have hni : (namesP p)[i] = (p.Functions[i]).Name := by simp [namesP]
    rw [List.drop_eq_getElem_cons hin, List.filter_cons, hni] at hJ
    have y0 : ¬ 1 = n2 := by omega
    have y1 : ¬ n2 = 1 := by omega
    have y2 : ¬ 1 = n2 + 1 := by omega
    have y3 : ¬ 1 = n2 + 1 + 1 := by omega
    have y4 : ¬ n2 = 0 := by omega
    refine rC_cut [5, 10, 51, 52, 53] (fun s => s 54 = .bool true) (by simp [hk2, s53, hi]) ?_
    intro st3 hk3 s54
    simp at hk3
    refine rC_pass s54 (rC_seqI (rC_blkI ?_))
    refine rC_cutH [5, 10, 51, 52, 53] (fun s h' n' => s 12 = .ptr n2 0 0 ∧ n' = n2 + 1 ∧ h' n2 = some ⟨true, 4, [rAFunction p.Functions[i]]⟩ ∧ h' 1 = some ⟨true, 0, mapR M⟩ ∧ AccB 1 1 (strsR acc) (st2 10) h' n2) ?_ ?_
    · simp [hk2, hk3, hk1, hk, s53, hi, rAFunction, f1, y0, y1, y4]
      exact hA.keep _
    rintro st4 h4 n4 hk4 ⟨s12, rfl, en, f1', hA'⟩
    simp at hk4
    refine rC_cut [5, 10, 12, 51, 52, 53] (fun s => s 60 = .bool (hasS M (p.Functions[i]).Name)) ?_ ?_
    · simp [hk4, hk2, hk3, hk1, hk, s12, en, rAFunction, f1', mfind_mapR]
    intro st5 hk5 s60
    simp at hk5
    cases c1 : hasS M (p.Functions[i]).Name
    · rw [c1] at hJ s60
      simp only [Bool.false_eq_true, if_false] at hJ
      simp [hk5, hk4, hk2, hk3, hk1, hk, s53, s60, hw]
      exact hR2 _ _ _ (by simp [hk5, hk4, hk2, hk3, hk1, hk]) (by simp) ⟨by omega, f1', acc, hJ, by simpa [hk5, hk4, hk3] using hA'.mono (Nat.le_succ _)⟩
    rw [c1] at hJ s60
    simp only [if_true] at hJ
    have hal := congrArg List.length hJ
    simp only [List.length_append, List.length_cons] at hal
    rcases hA' with ⟨hz, hv⟩ | ⟨id, hid, hid', hv, hc⟩
    · have hz' : acc = [] := by simpa [strsR] using hz
      subst hz'
      simp [hk5, hk4, hk2, hk3, hk1, hk, hv, s12, s60, en, rAFunction, s53, hw, y0, y1, y2, y3, y4]
      refine ⟨by unfold LIM; omega, ?_⟩
      exact hR2 _ _ _ (by simp [hk5, hk4, hk2, hk3, hk1, hk]) (by simp) ⟨by omega, by simp [f1', y0, y1, y2, y3, y4], [(p.Functions[i]).Name], by simpa using hJ, .inr ⟨n2 + 1 + 1, by omega, by omega, by simp [strsR], by simp [strsR]⟩⟩
    · simp [strsR] at hv
      have x0 : ¬ id = n2 := by omega
      have x1 : ¬ id = n2 + 1 := by omega
      have x2 : ¬ n2 + 1 = id := by omega
      have x3 : ¬ n2 = id := by omega
      have x4 : ¬ 1 = id := by omega
      simp [hk5, hk4, hk2, hk3, hk1, hk, hv, hc, s12, s60, en, rAFunction, s53, hw, y0, y1, y2, y3, y4, x0, x1, x2, x3, x4]
      refine ⟨by unfold LIM; omega, ?_⟩
      exact hR2 _ _ _ (by simp [hk5, hk4, hk2, hk3, hk1, hk]) (by simp) ⟨by omega, by simp [f1', y0, y1, y2, y3, y4, x4], acc ++ [(p.Functions[i]).Name], by simpa using hJ, .inr ⟨n2 + 1 + 1, by omega, by omega, by simp [strsR], by simp [strsR, List.take_of_length_le]⟩⟩
  rintro st2 h2 n2 R2 hk2 s53 ⟨hn2, f1, acc, hJ, hA⟩ hret2 hX2
  simp at hk2
  rw [List.drop_eq_nil_of_le (by simp [namesP])] at hJ
  simp at hJ
  subst hJ
  refine rC_cut [10] (fun s => s 54 = .bool false) (by simp [hk2, s53]) ?_
  intro st3 hk3 s54
  simp at hk3
  refine rC_stop s54 ?_
  refine hX2 _ _ _ _ ?_
  rcases hA with ⟨hz, hv⟩ | ⟨id, hid, hid', hv, hc⟩
  · simp [hk3, hv, hz]
  · simp at hv
    simp [hk3, hv, hc]
end Go.Proofs.YtlmajgghnenbpaaGreat

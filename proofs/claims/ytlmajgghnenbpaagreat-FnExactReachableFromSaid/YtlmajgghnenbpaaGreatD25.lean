/- The body of FnExactReachableFrom. -/
import Derived.Test.YtlmajgghnenbpaaGreatE4
import Derived.Test.YtlmajgghnenbpaaGreatM3B
import Derived.Test.YtlmajgghnenbpaaGreatRE
import Derived.Test.YtlmajgghnenbpaaGreatT2B
namespace Go.Proofs.YtlmajgghnenbpaaGreat
set_option linter.all false
open Go Go.RowKit Go.Proofs
def a7 : AFn :=
⟨77, [(.t 4)], (.seq 
 (.reg [⟨some 2, (.boxv (.t 0)), no⟩, ⟨some 4, (.mv (.k (.bool false))), no⟩]) (.seq (.seq 
 (.reg [⟨some 13, (.mv (.t 1)), no⟩, ⟨some 14, (.len true (.t 13)), no⟩, ⟨some 15, (.bin .gtr (.t 14) (.k (.int .i64 1048576))), no⟩]) (.cond (.t 15) (.seq 
 (.reg [⟨some 4, (.mv (.k (.bool true))), no⟩]) .ret) .skip)) (.seq 
 (.reg [⟨some 5, (.mv (.k (.int .i64 1048576))), no⟩]) (.seq 
 (.reg [⟨some 16, (.ld true 2 (.t 2)), no⟩, ⟨some 17, (.mv (.t 5)), no⟩, ⟨some 18, (.call (.k (.fn (.func 15) [] [])) [(.t 16), (.t 17)]), no⟩, ⟨some 5, (.mv (.t 18)), no⟩]) (.seq (.seq 
 (.reg [⟨some 19, (.mv (.t 5)), no⟩, ⟨some 20, (.bin .lss (.t 19) (.k (.int .i64 0))), no⟩]) (.cond (.t 20) (.seq 
 (.reg [⟨some 4, (.mv (.k (.bool true))), no⟩]) .ret) .skip)) (.seq 
 (.reg [⟨some 21, (.ld true 2 (.t 2)), no⟩, ⟨some 22, (.call (.k (.fn (.func 17) [] [])) [(.t 21)]), no⟩, ⟨some 23, (.mv (.t 1)), no⟩, ⟨some 24, (.call (.k (.fn (.func 34) [] [])) [(.t 22), (.t 23)]), no⟩, ⟨some 6, (.mv (.t 24)), no⟩]) (.seq 
 (.reg [⟨some 25, (.ld true 2 (.t 2)), no⟩, ⟨some 26, (.call (.k (.fn (.func 17) [] [])) [(.t 25)]), no⟩, ⟨some 7, (.box [(.nil 4), (.nil 7)]), no⟩, ⟨no, (.st 2 (.t 7) (.t 26)), no⟩]) (.seq 
 (.reg [⟨some 27, (.ld true 2 (.t 7)), no⟩, ⟨some 28, (.mv (.t 1)), no⟩, ⟨some 29, (.call (.k (.fn (.func 35) [] [])) [(.t 27), (.t 28)]), no⟩, ⟨some 8, (.mv (.t 29)), no⟩]) (.seq (.seq 
 (.reg [⟨some 30, (.mv (.t 8)), no⟩, ⟨some 31, (.mv (.t 6)), no⟩, ⟨some 32, (.call (.k (.fn (.func 36) [] [])) [(.t 30), (.t 31)]), no⟩, ⟨some 33, (.un .not (.t 32)), no⟩]) (.cond (.t 33) (.seq 
 (.reg [⟨some 4, (.mv (.k (.bool false))), no⟩]) .ret) .skip)) (.seq (.seq (.draw (.op ⟨some 34, (.ld true 2 (.t 7)), no⟩ (.op ⟨some 35, (.ld true 2 (.t 2)), no⟩ (.op ⟨some 36, (.call (.k (.fn (.func 17) [] [])) [(.t 35)]), no⟩ (.op ⟨some 37, (.call (.k (.fn (.func 20) [] [])) [(.t 34), (.t 36)]), no⟩ (.op ⟨some 38, (.un .not (.t 37)), no⟩ .fin)))))) (.cond (.t 38) (.seq 
 (.reg [⟨some 4, (.mv (.k (.bool false))), no⟩]) .ret) .skip)) (.seq 
 (.reg [⟨some 9, (.mv (.k (.int .i64 1))), no⟩]) (.seq 
 (.reg [⟨some 39, (.ld true 2 (.t 7)), no⟩, ⟨some 40, (.mv (.t 9)), no⟩, ⟨some 41, (.call (.k (.fn (.func 26) [] [])) [(.t 39), (.t 40)]), no⟩, ⟨some 9, (.mv (.t 41)), no⟩]) (.seq (.seq 
 (.reg [⟨some 42, (.mv (.t 9)), no⟩, ⟨some 43, (.bin .lss (.t 42) (.k (.int .i64 0))), no⟩, ⟨some 44, (.mv (.t 43)), no⟩, ⟨some 45, (.mv (.t 8)), (some (44, false))⟩, ⟨some 46, (.mv (.t 6)), (some (44, false))⟩, ⟨some 47, (.call (.k (.fn (.func 36) [] [])) [(.t 45), (.t 46)]), (some (44, false))⟩, ⟨some 48, (.un .not (.t 47)), (some (44, false))⟩, ⟨some 49, (.pick (.t 44) (.k (.bool true)) (.t 48)), no⟩]) (.cond (.t 49) (.seq 
 (.reg [⟨some 4, (.mv (.k (.bool false))), no⟩]) .ret) .skip)) (.seq 
 (.reg [⟨some 10, (.mv (.k (.int .i64 1))), no⟩]) (.seq 
 (.reg [⟨some 50, (.mv (.t 8)), no⟩, ⟨some 51, (.mv (.t 10)), no⟩, ⟨some 52, (.call (.k (.fn (.func 37) [] [])) [(.t 50), (.t 51)]), no⟩, ⟨some 10, (.mv (.t 52)), no⟩]) (.seq 
 (.reg [⟨some 11, (.mv (.k (.int .i64 1))), no⟩]) (.seq 
 (.reg [⟨some 53, (.mv (.t 8)), no⟩, ⟨some 54, (.mv (.t 11)), no⟩, ⟨some 55, (.call (.k (.fn (.func 38) [] [])) [(.t 53), (.t 54)]), no⟩, ⟨some 11, (.mv (.t 55)), no⟩]) (.seq (.seq 
 (.reg [⟨some 56, (.mv (.t 11)), no⟩, ⟨some 57, (.bin .lss (.t 56) (.k (.int .i64 0))), no⟩]) (.cond (.t 57) (.seq 
 (.reg [⟨some 4, (.mv (.k (.bool false))), no⟩]) .ret) .skip)) (.seq (.seq 
 (.reg [⟨some 58, (.mv (.t 11)), no⟩, ⟨some 59, (.mv (.t 10)), no⟩, ⟨some 60, (.bin .neq (.t 58) (.t 59)), no⟩]) (.cond (.t 60) (.seq 
 (.reg [⟨some 4, (.mv (.k (.bool false))), no⟩]) .ret) .skip)) (.seq 
 (.reg [⟨some 61, (.ld true 2 (.t 2)), no⟩, ⟨some 62, (.call (.k (.fn (.func 17) [] [])) [(.t 61)]), no⟩, ⟨some 63, (.mv (.t 1)), no⟩, ⟨some 64, (.call (.k (.fn (.func 35) [] [])) [(.t 62), (.t 63)]), no⟩, ⟨some 12, (.mv (.t 64)), no⟩]) (.seq (.seq 
 (.reg [⟨some 65, (.mv (.t 12)), no⟩, ⟨some 66, (.mv (.t 6)), no⟩, ⟨some 67, (.call (.k (.fn (.func 36) [] [])) [(.t 65), (.t 66)]), no⟩, ⟨some 68, (.un .not (.t 67)), no⟩]) (.cond (.t 68) (.seq 
 (.reg [⟨some 4, (.mv (.k (.bool false))), no⟩]) .ret) .skip)) (.seq 
 (.reg [⟨some 11, (.mv (.k (.int .i64 1))), no⟩]) (.seq 
 (.reg [⟨some 69, (.mv (.t 8)), no⟩, ⟨some 70, (.mv (.t 11)), no⟩, ⟨some 71, (.call (.k (.fn (.func 38) [] [])) [(.t 69), (.t 70)]), no⟩, ⟨some 11, (.mv (.t 71)), no⟩]) (.seq (.seq 
 (.reg [⟨some 72, (.mv (.t 11)), no⟩, ⟨some 73, (.bin .lss (.t 72) (.k (.int .i64 0))), no⟩]) (.cond (.t 73) (.seq 
 (.reg [⟨some 4, (.mv (.k (.bool false))), no⟩]) .ret) .skip)) (.seq (.seq 
 (.reg [⟨some 74, (.mv (.t 11)), no⟩, ⟨some 75, (.mv (.t 10)), no⟩, ⟨some 76, (.bin .neq (.t 74) (.t 75)), no⟩]) (.cond (.t 76) (.seq 
 (.reg [⟨some 4, (.mv (.k (.bool false))), no⟩]) .ret) .skip)) (.seq 
 (.reg [⟨some 4, (.mv (.k (.bool true))), no⟩]) .ret))))))))))))))))))))))))))⟩
theorem a7_ok : compFn Tryz.prog Tryz.f7 = some a7 := by kernel_rfl


theorem reachP_c (p : DProgram) (name : Str) (hp : wProgram p ≤ 1048576) : cStringS (reachP p name) ≤ 8388608 := by
  have hfl : p.Functions.length ≤ 1048576 := by have := wL_len wFunction p.Functions; unfold wProgram wFunctionS at hp; omega
  rw [cStringS_len]
  unfold reachP
  split
  · have h2 : (reachN (pairsE p) (namesP p) name).length ≤ (namesP p).length := List.length_filter_le _ _
    have h3 : (namesP p).length = p.Functions.length := by simp [namesP]
    omega
  · simp

set_option maxRecDepth 40000 in
set_option maxHeartbeats 4000000 in
theorem law_ReachableFrom (aP : DProgram) (aName : Str) : Holds Tryz.prog 7 [.agg (rAProgram aP), .str aName] (fun x => x = .bool true) := by
  refine holds_of_run Tryz.func7 a7_ok rfl (by simp [a7]) ?_
  simp [a7]
  intro _ hs_aName
  first | refine callD_of (k_szProgram aP 1048576 (by omega)) (by simp) ?_ | refine call_of (k_szProgram aP 1048576 (by omega)) (by simp) ?_ | refine callD_of (k_szProgram aP 1048576 (by omega)) rfl ?_ | refine call_of (k_szProgram aP 1048576 (by omega)) rfl ?_
  rintro r rfl
  by_cases h1 : 1048576 - (wProgram aP : Int) < 0
  · simp [sub1, h1]
  simp [sub1, h1]
  have hw_aP : wProgram aP ≤ 1048576 := by omega
  have hb_aP := cw_Program aP
  first | refine lsD_agg (k_toProgram aP hw_aP) ((LS.start).push) (by simp) ⟨.inl (fun h => by first | rfl | simp), trivial⟩ ?_ | refine ls_agg (k_toProgram aP hw_aP) ((LS.start).push) (by simp) ⟨.inl (fun h => by first | rfl | simp), trivial⟩ ?_
  intro c0 h0x n0 J0 S0 hl0 hc0
  have e := S0.eqs; have ne := S0.nes; simp only [bxE, bxN, Nat.zero_add, Nat.reduceAdd] at e ne; simp only [len_UProgram] at hl0
  have ht0 : List.take 2 c0 = c0 := List.take_of_length_le (by omega)
  simp [e, ne, hl0, ht0, hc0]
  first | refine lsD_us (len := ((reachP aP aName)).length) (ks_ReachableFrom aP hw_aP aName) (S0) (by simp) ⟨.inr ⟨_, .head _, rfl, by simp [dr]⟩, .inl (fun h => by first | rfl | simp), trivial⟩ ?_ | refine ls_us (len := ((reachP aP aName)).length) (ks_ReachableFrom aP hw_aP aName) (S0) (by simp) ⟨.inr ⟨_, .head _, rfl, by simp [dr]⟩, .inl (fun h => by first | rfl | simp), trivial⟩ ?_
  intro d1 h1x n1 J1 S1
  have e := S1.eqs; have ne := S1.nes; simp only [bxE, bxN, Nat.zero_add, Nat.reduceAdd] at e ne
  simp [e, ne, hl0, ht0]
  first | refine lsD_agg (k_toProgram aP hw_aP) (S1) (by simp) ⟨.inl (fun h => by first | rfl | simp), trivial⟩ ?_ | refine ls_agg (k_toProgram aP hw_aP) (S1) (by simp) ⟨.inl (fun h => by first | rfl | simp), trivial⟩ ?_
  intro c2 h2x n2 J2 S2 hl2 hc2
  have e := S2.eqs; have ne := S2.nes; simp only [bxE, bxN, Nat.zero_add, Nat.reduceAdd] at e ne; simp only [len_UProgram] at hl2
  have ht2 : List.take 2 c2 = c2 := List.take_of_length_le (by omega)
  simp [e, ne, hl0, ht0, hl2, ht2, hc2]
  first | refine lsD_us (len := ((reachP aP aName)).length) (k_ReachableFrom aP hw_aP aName) ((S2).push) (by simp) ⟨.inr ⟨_, .head _, rfl, by simp [dr]⟩, .inl (fun h => by first | rfl | simp), trivial⟩ ?_ | refine ls_us (len := ((reachP aP aName)).length) (k_ReachableFrom aP hw_aP aName) ((S2).push) (by simp) ⟨.inr ⟨_, .head _, rfl, by simp [dr]⟩, .inl (fun h => by first | rfl | simp), trivial⟩ ?_
  intro d3 h3x n3 J3 S3
  have e := S3.eqs; have ne := S3.nes; simp only [bxE, bxN, Nat.zero_add, Nat.reduceAdd] at e ne
  simp [e, ne, hl0, ht0, hl2, ht2]
  first | refine lsD_scal (k_eqStringS ((reachP aP aName)) ((reachP aP aName))) (S3) rfl ⟨.inr ⟨_, .head _, rfl, by simp [dr]⟩, .inr ⟨_, .tail _ (.tail _ (.head _)), rfl, by simp [dr]⟩, trivial⟩ ?_ | refine ls_scal (k_eqStringS ((reachP aP aName)) ((reachP aP aName))) (S3) rfl ⟨.inr ⟨_, .head _, rfl, by simp [dr]⟩, .inr ⟨_, .tail _ (.tail _ (.head _)), rfl, by simp [dr]⟩, trivial⟩ ?_
  simp [e, ne, hl0, ht0, hl2, ht2]
  first | refine lsD_agg (k_toProgram aP hw_aP) (S3) (by simp) ⟨.inl (fun h => by first | rfl | simp), trivial⟩ ?_ | refine ls_agg (k_toProgram aP hw_aP) (S3) (by simp) ⟨.inl (fun h => by first | rfl | simp), trivial⟩ ?_
  intro c4 h4x n4 J4 S4 hl4 hc4
  have e := S4.eqs; have ne := S4.nes; simp only [bxE, bxN, Nat.zero_add, Nat.reduceAdd] at e ne; simp only [len_UProgram] at hl4
  have ht4 : List.take 2 c4 = c4 := List.take_of_length_le (by omega)
  simp [e, ne, hl0, ht0, hl2, ht2, hl4, ht4, hc4]
  first | refine lsD_scal (k_eqProgram (aP) (aP)) (S4) rfl ⟨.inr ⟨_, .tail _ (.tail _ (.head _)), rfl, by simp [dr]⟩, .inr ⟨_, .head _, rfl, by simp [dr]⟩, trivial⟩ ?_ | refine ls_scal (k_eqProgram (aP) (aP)) (S4) rfl ⟨.inr ⟨_, .tail _ (.tail _ (.head _)), rfl, by simp [dr]⟩, .inr ⟨_, .head _, rfl, by simp [dr]⟩, trivial⟩ ?_
  simp [e, ne, hl0, ht0, hl2, ht2, hl4, ht4]
  refine ls_mark (T1 := [_, _]) (m_markProgram (aP) (1) (by omega)) (S4) ?_
  intro h5x n5 S5
  have e := S5.eqs; have ne := S5.nes; simp only [bxE, bxN, Nat.zero_add, Nat.reduceAdd] at e ne
  have hq1 : ¬ 1 + cProgram aP < (0 : Int) := by omega
  simp [e, ne, hl0, ht0, hl2, ht2, hl4, ht4, hq1]
  first | refine lsD_scal (k_eqStringS ((reachP aP aName)) ((reachP aP aName))) (S5) rfl ⟨.inr ⟨_, .tail _ (.head _), rfl, by simp [dr]⟩, .inr ⟨_, .tail _ (.tail _ (.tail _ (.head _))), rfl, by simp [dr]⟩, trivial⟩ ?_ | refine ls_scal (k_eqStringS ((reachP aP aName)) ((reachP aP aName))) (S5) rfl ⟨.inr ⟨_, .tail _ (.head _), rfl, by simp [dr]⟩, .inr ⟨_, .tail _ (.tail _ (.tail _ (.head _))), rfl, by simp [dr]⟩, trivial⟩ ?_
  simp [e, ne, hl0, ht0, hl2, ht2, hl4, ht4]
  have hg := reachP_c aP aName hw_aP
  have hm : ¬ 1 + (cStringS ((reachP aP aName)) : Int) < 0 := by omega
  refine ls_mark (T1 := [_]) (m_markStringS ((reachP aP aName)) (1) (by omega)) (S5) ?_
  intro h6x n6 S6
  have e := S6.eqs; have ne := S6.nes; simp only [bxE, bxN, Nat.zero_add, Nat.reduceAdd] at e ne
  have hq2 : ¬ 1 + cStringS ((reachP aP aName)) < (0 : Int) := by omega
  simp [e, ne, hl0, ht0, hl2, ht2, hl4, ht4, hq2]
  first | refine lsD_scal (k_heldStringS ((reachP aP aName)) (1) (by omega)) (S6) rfl ⟨.inr ⟨_, .tail _ (.head _), rfl, by simp [dr]⟩, .inl (fun h => by first | rfl | simp), trivial⟩ ?_ | refine ls_scal (k_heldStringS ((reachP aP aName)) (1) (by omega)) (S6) rfl ⟨.inr ⟨_, .tail _ (.head _), rfl, by simp [dr]⟩, .inl (fun h => by first | rfl | simp), trivial⟩ ?_
  simp [e, ne, hl0, ht0, hl2, ht2, hl4, ht4, hm]
  first | refine lsD_agg (k_toProgram aP hw_aP) (S6) (by simp) ⟨.inl (fun h => by first | rfl | simp), trivial⟩ ?_ | refine ls_agg (k_toProgram aP hw_aP) (S6) (by simp) ⟨.inl (fun h => by first | rfl | simp), trivial⟩ ?_
  intro c7 h7x n7 J7 S7 hl7 hc7
  have e := S7.eqs; have ne := S7.nes; simp only [bxE, bxN, Nat.zero_add, Nat.reduceAdd] at e ne; simp only [len_UProgram] at hl7
  have ht7 : List.take 2 c7 = c7 := List.take_of_length_le (by omega)
  simp [e, ne, hl0, ht0, hl2, ht2, hl4, ht4, hl7, ht7, hc7]
  first | refine lsD_us (len := ((reachP aP aName)).length) (k_ReachableFrom aP hw_aP aName) (S7) (by simp) ⟨.inr ⟨_, .head _, rfl, by simp [dr]⟩, .inl (fun h => by first | rfl | simp), trivial⟩ ?_ | refine ls_us (len := ((reachP aP aName)).length) (k_ReachableFrom aP hw_aP aName) (S7) (by simp) ⟨.inr ⟨_, .head _, rfl, by simp [dr]⟩, .inl (fun h => by first | rfl | simp), trivial⟩ ?_
  intro d8 h8x n8 J8 S8
  have e := S8.eqs; have ne := S8.nes; simp only [bxE, bxN, Nat.zero_add, Nat.reduceAdd] at e ne
  simp [e, ne, hl0, ht0, hl2, ht2, hl4, ht4, hl7, ht7]
  first | refine lsD_scal (k_eqStringS ((reachP aP aName)) ((reachP aP aName))) (S8) rfl ⟨.inr ⟨_, .head _, rfl, by simp [dr]⟩, .inr ⟨_, .tail _ (.tail _ (.tail _ (.tail _ (.tail _ (.head _))))), rfl, by simp [dr]⟩, trivial⟩ ?_ | refine ls_scal (k_eqStringS ((reachP aP aName)) ((reachP aP aName))) (S8) rfl ⟨.inr ⟨_, .head _, rfl, by simp [dr]⟩, .inr ⟨_, .tail _ (.tail _ (.tail _ (.tail _ (.tail _ (.head _))))), rfl, by simp [dr]⟩, trivial⟩ ?_
  simp [e, ne, hl0, ht0, hl2, ht2, hl4, ht4, hl7, ht7]
  first | refine lsD_scal (k_heldStringS ((reachP aP aName)) (1) (by omega)) (S8) rfl ⟨.inr ⟨_, .tail _ (.tail _ (.tail _ (.head _))), rfl, by simp [dr]⟩, .inl (fun h => by first | rfl | simp), trivial⟩ ?_ | refine ls_scal (k_heldStringS ((reachP aP aName)) (1) (by omega)) (S8) rfl ⟨.inr ⟨_, .tail _ (.tail _ (.tail _ (.head _))), rfl, by simp [dr]⟩, .inl (fun h => by first | rfl | simp), trivial⟩ ?_
  simp [e, ne, hl0, ht0, hl2, ht2, hl4, ht4, hl7, ht7, hm]
end Go.Proofs.YtlmajgghnenbpaaGreat

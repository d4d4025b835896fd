/- The body of FnExactEdgesOf. -/
import Derived.Test.YtlmajgghnenbpaaGreatE1
import Derived.Test.YtlmajgghnenbpaaGreatM3B
import Derived.Test.YtlmajgghnenbpaaGreatRE
import Derived.Test.YtlmajgghnenbpaaGreatT2B
import Derived.Test.YtlmajgghnenbpaaGreatT2C
namespace Go.Proofs.YtlmajgghnenbpaaGreat
set_option linter.all false
open Go Go.RowKit Go.Proofs
def a5 : AFn :=
⟨69, [(.t 2)], (.seq 
 (.reg [⟨some 1, (.boxv (.t 0)), no⟩, ⟨some 2, (.mv (.k (.bool false))), no⟩]) (.seq 
 (.reg [⟨some 3, (.mv (.k (.int .i64 1048576))), no⟩]) (.seq 
 (.reg [⟨some 11, (.ld true 2 (.t 1)), no⟩, ⟨some 12, (.mv (.t 3)), no⟩, ⟨some 13, (.call (.k (.fn (.func 15) [] [])) [(.t 11), (.t 12)]), no⟩, ⟨some 3, (.mv (.t 13)), no⟩]) (.seq (.seq 
 (.reg [⟨some 14, (.mv (.t 3)), no⟩, ⟨some 15, (.bin .lss (.t 14) (.k (.int .i64 0))), no⟩]) (.cond (.t 15) (.seq 
 (.reg [⟨some 2, (.mv (.k (.bool true))), no⟩]) .ret) .skip)) (.seq 
 (.reg [⟨some 16, (.ld true 2 (.t 1)), no⟩, ⟨some 17, (.call (.k (.fn (.func 17) [] [])) [(.t 16)]), no⟩, ⟨some 18, (.call (.k (.fn (.func 23) [] [])) [(.t 17)]), no⟩, ⟨some 4, (.mv (.t 18)), no⟩]) (.seq 
 (.reg [⟨some 19, (.ld true 2 (.t 1)), no⟩, ⟨some 20, (.call (.k (.fn (.func 17) [] [])) [(.t 19)]), no⟩, ⟨some 5, (.box [(.nil 4), (.nil 7)]), no⟩, ⟨no, (.st 2 (.t 5) (.t 20)), no⟩]) (.seq 
 (.reg [⟨some 21, (.ld true 2 (.t 5)), no⟩, ⟨some 22, (.call (.k (.fn (.func 24) [] [])) [(.t 21)]), no⟩, ⟨some 6, (.mv (.t 22)), no⟩]) (.seq (.seq 
 (.reg [⟨some 23, (.mv (.t 6)), no⟩, ⟨some 24, (.mv (.t 4)), no⟩, ⟨some 25, (.call (.k (.fn (.func 25) [] [])) [(.t 23), (.t 24)]), no⟩, ⟨some 26, (.un .not (.t 25)), no⟩]) (.cond (.t 26) (.seq 
 (.reg [⟨some 2, (.mv (.k (.bool false))), no⟩]) .ret) .skip)) (.seq (.seq (.draw (.op ⟨some 27, (.ld true 2 (.t 5)), no⟩ (.op ⟨some 28, (.ld true 2 (.t 1)), no⟩ (.op ⟨some 29, (.call (.k (.fn (.func 17) [] [])) [(.t 28)]), no⟩ (.op ⟨some 30, (.call (.k (.fn (.func 20) [] [])) [(.t 27), (.t 29)]), no⟩ (.op ⟨some 31, (.un .not (.t 30)), no⟩ .fin)))))) (.cond (.t 31) (.seq 
 (.reg [⟨some 2, (.mv (.k (.bool false))), no⟩]) .ret) .skip)) (.seq 
 (.reg [⟨some 7, (.mv (.k (.int .i64 1))), no⟩]) (.seq 
 (.reg [⟨some 32, (.ld true 2 (.t 5)), no⟩, ⟨some 33, (.mv (.t 7)), no⟩, ⟨some 34, (.call (.k (.fn (.func 26) [] [])) [(.t 32), (.t 33)]), no⟩, ⟨some 7, (.mv (.t 34)), no⟩]) (.seq (.seq 
 (.reg [⟨some 35, (.mv (.t 7)), no⟩, ⟨some 36, (.bin .lss (.t 35) (.k (.int .i64 0))), no⟩, ⟨some 37, (.mv (.t 36)), no⟩, ⟨some 38, (.mv (.t 6)), (some (37, false))⟩, ⟨some 39, (.mv (.t 4)), (some (37, false))⟩, ⟨some 40, (.call (.k (.fn (.func 25) [] [])) [(.t 38), (.t 39)]), (some (37, false))⟩, ⟨some 41, (.un .not (.t 40)), (some (37, false))⟩, ⟨some 42, (.pick (.t 37) (.k (.bool true)) (.t 41)), no⟩]) (.cond (.t 42) (.seq 
 (.reg [⟨some 2, (.mv (.k (.bool false))), no⟩]) .ret) .skip)) (.seq 
 (.reg [⟨some 8, (.mv (.k (.int .i64 1))), no⟩]) (.seq 
 (.reg [⟨some 43, (.mv (.t 6)), no⟩, ⟨some 44, (.mv (.t 8)), no⟩, ⟨some 45, (.call (.k (.fn (.func 27) [] [])) [(.t 43), (.t 44)]), no⟩, ⟨some 8, (.mv (.t 45)), no⟩]) (.seq 
 (.reg [⟨some 9, (.mv (.k (.int .i64 1))), no⟩]) (.seq 
 (.reg [⟨some 46, (.mv (.t 6)), no⟩, ⟨some 47, (.mv (.t 9)), no⟩, ⟨some 48, (.call (.k (.fn (.func 28) [] [])) [(.t 46), (.t 47)]), no⟩, ⟨some 9, (.mv (.t 48)), no⟩]) (.seq (.seq 
 (.reg [⟨some 49, (.mv (.t 9)), no⟩, ⟨some 50, (.bin .lss (.t 49) (.k (.int .i64 0))), no⟩]) (.cond (.t 50) (.seq 
 (.reg [⟨some 2, (.mv (.k (.bool false))), no⟩]) .ret) .skip)) (.seq (.seq 
 (.reg [⟨some 51, (.mv (.t 9)), no⟩, ⟨some 52, (.mv (.t 8)), no⟩, ⟨some 53, (.bin .neq (.t 51) (.t 52)), no⟩]) (.cond (.t 53) (.seq 
 (.reg [⟨some 2, (.mv (.k (.bool false))), no⟩]) .ret) .skip)) (.seq 
 (.reg [⟨some 54, (.ld true 2 (.t 1)), no⟩, ⟨some 55, (.call (.k (.fn (.func 17) [] [])) [(.t 54)]), no⟩, ⟨some 56, (.call (.k (.fn (.func 24) [] [])) [(.t 55)]), no⟩, ⟨some 10, (.mv (.t 56)), no⟩]) (.seq (.seq 
 (.reg [⟨some 57, (.mv (.t 10)), no⟩, ⟨some 58, (.mv (.t 4)), no⟩, ⟨some 59, (.call (.k (.fn (.func 25) [] [])) [(.t 57), (.t 58)]), no⟩, ⟨some 60, (.un .not (.t 59)), no⟩]) (.cond (.t 60) (.seq 
 (.reg [⟨some 2, (.mv (.k (.bool false))), no⟩]) .ret) .skip)) (.seq 
 (.reg [⟨some 9, (.mv (.k (.int .i64 1))), no⟩]) (.seq 
 (.reg [⟨some 61, (.mv (.t 6)), no⟩, ⟨some 62, (.mv (.t 9)), no⟩, ⟨some 63, (.call (.k (.fn (.func 28) [] [])) [(.t 61), (.t 62)]), no⟩, ⟨some 9, (.mv (.t 63)), no⟩]) (.seq (.seq 
 (.reg [⟨some 64, (.mv (.t 9)), no⟩, ⟨some 65, (.bin .lss (.t 64) (.k (.int .i64 0))), no⟩]) (.cond (.t 65) (.seq 
 (.reg [⟨some 2, (.mv (.k (.bool false))), no⟩]) .ret) .skip)) (.seq (.seq 
 (.reg [⟨some 66, (.mv (.t 9)), no⟩, ⟨some 67, (.mv (.t 8)), no⟩, ⟨some 68, (.bin .neq (.t 66) (.t 67)), no⟩]) (.cond (.t 68) (.seq 
 (.reg [⟨some 2, (.mv (.k (.bool false))), no⟩]) .ret) .skip)) (.seq 
 (.reg [⟨some 2, (.mv (.k (.bool true))), no⟩]) .ret)))))))))))))))))))))))))⟩
theorem a5_ok : compFn Tryz.prog Tryz.f5 = some a5 := by kernel_rfl


theorem cEdgeS_len (l : List DEdge) : cEdgeS l = 2 * l.length := by
  unfold cEdgeS
  induction l with
  | nil => rfl
  | cons a t ih => simp [cL, crEdge, ih]; omega
theorem edgesOf_c (p : DProgram) (hp : wProgram p ≤ 1048576) : cEdgeS (edgesOf p) ≤ 8388608 := by
  have := edgesL_len p hp
  rw [cEdgeS_len]
  unfold edgesOf
  split <;> simp <;> omega

set_option maxRecDepth 40000 in
set_option maxHeartbeats 4000000 in
theorem law_EdgesOf (aP : DProgram) : Holds Tryz.prog 5 [.agg (rAProgram aP)] (fun x => x = .bool true) := by
  refine holds_of_run Tryz.func5 a5_ok rfl (by simp [a5]) ?_
  simp [a5]
  first | refine callD_of (k_szProgram aP 1048576 (by omega)) (by simp) ?_ | refine call_of (k_szProgram aP 1048576 (by omega)) (by simp) ?_ | refine callD_of (k_szProgram aP 1048576 (by omega)) rfl ?_ | refine call_of (k_szProgram aP 1048576 (by omega)) rfl ?_
  rintro r rfl
  by_cases h1 : 1048576 - (wProgram aP : Int) < 0
  · simp [sub1, h1]
  simp [sub1, h1]
  have hw_aP : wProgram aP ≤ 1048576 := by omega
  have hb_aP := cw_Program aP
  first | refine lsD_agg (k_toProgram aP hw_aP) ((LS.start).push) (by simp) ⟨.inl (fun h => by first | rfl | simp), trivial⟩ ?_ | refine ls_agg (k_toProgram aP hw_aP) ((LS.start).push) (by simp) ⟨.inl (fun h => by first | rfl | simp), trivial⟩ ?_
  intro c0 h0x n0 J0 S0 hl0 hc0
  have e := S0.eqs; have ne := S0.nes; simp only [bxE, bxN, Nat.zero_add, Nat.reduceAdd] at e ne; simp only [len_UProgram] at hl0
  have ht0 : List.take 2 c0 = c0 := List.take_of_length_le (by omega)
  simp [e, ne, hl0, ht0, hc0]
  first | refine lsD_us (len := ((edgesOf aP)).length) (ks_EdgesOf aP hw_aP) (S0) (by simp) ⟨.inr ⟨_, .head _, rfl, by simp [dr]⟩, trivial⟩ ?_ | refine ls_us (len := ((edgesOf aP)).length) (ks_EdgesOf aP hw_aP) (S0) (by simp) ⟨.inr ⟨_, .head _, rfl, by simp [dr]⟩, trivial⟩ ?_
  intro d1 h1x n1 J1 S1
  have e := S1.eqs; have ne := S1.nes; simp only [bxE, bxN, Nat.zero_add, Nat.reduceAdd] at e ne
  simp [e, ne, hl0, ht0]
  first | refine lsD_agg (k_toProgram aP hw_aP) (S1) (by simp) ⟨.inl (fun h => by first | rfl | simp), trivial⟩ ?_ | refine ls_agg (k_toProgram aP hw_aP) (S1) (by simp) ⟨.inl (fun h => by first | rfl | simp), trivial⟩ ?_
  intro c2 h2x n2 J2 S2 hl2 hc2
  have e := S2.eqs; have ne := S2.nes; simp only [bxE, bxN, Nat.zero_add, Nat.reduceAdd] at e ne; simp only [len_UProgram] at hl2
  have ht2 : List.take 2 c2 = c2 := List.take_of_length_le (by omega)
  simp [e, ne, hl0, ht0, hl2, ht2, hc2]
  first | refine lsD_us (len := ((edgesOf aP)).length) (k_EdgesOf aP hw_aP) ((S2).push) (by simp) ⟨.inr ⟨_, .head _, rfl, by simp [dr]⟩, trivial⟩ ?_ | refine ls_us (len := ((edgesOf aP)).length) (k_EdgesOf aP hw_aP) ((S2).push) (by simp) ⟨.inr ⟨_, .head _, rfl, by simp [dr]⟩, trivial⟩ ?_
  intro d3 h3x n3 J3 S3
  have e := S3.eqs; have ne := S3.nes; simp only [bxE, bxN, Nat.zero_add, Nat.reduceAdd] at e ne
  simp [e, ne, hl0, ht0, hl2, ht2]
  first | refine lsD_scal (k_eqEdgeS ((edgesOf aP)) ((edgesOf aP))) (S3) rfl ⟨.inr ⟨_, .head _, rfl, by simp [dr]⟩, .inr ⟨_, .tail _ (.tail _ (.head _)), rfl, by simp [dr]⟩, trivial⟩ ?_ | refine ls_scal (k_eqEdgeS ((edgesOf aP)) ((edgesOf aP))) (S3) rfl ⟨.inr ⟨_, .head _, rfl, by simp [dr]⟩, .inr ⟨_, .tail _ (.tail _ (.head _)), rfl, by simp [dr]⟩, trivial⟩ ?_
  simp [e, ne, hl0, ht0, hl2, ht2]
  first | refine lsD_agg (k_toProgram aP hw_aP) (S3) (by simp) ⟨.inl (fun h => by first | rfl | simp), trivial⟩ ?_ | refine ls_agg (k_toProgram aP hw_aP) (S3) (by simp) ⟨.inl (fun h => by first | rfl | simp), trivial⟩ ?_
  intro c4 h4x n4 J4 S4 hl4 hc4
  have e := S4.eqs; have ne := S4.nes; simp only [bxE, bxN, Nat.zero_add, Nat.reduceAdd] at e ne; simp only [len_UProgram] at hl4
  have ht4 : List.take 2 c4 = c4 := List.take_of_length_le (by omega)
  simp [e, ne, hl0, ht0, hl2, ht2, hl4, ht4, hc4]
  first | refine lsD_scal (k_eqProgram (aP) (aP)) (S4) rfl ⟨.inr ⟨_, .tail _ (.tail _ (.head _)), rfl, by simp [dr]⟩, .inr ⟨_, .head _, rfl, by simp [dr]⟩, trivial⟩ ?_ | refine ls_scal (k_eqProgram (aP) (aP)) (S4) rfl ⟨.inr ⟨_, .tail _ (.tail _ (.head _)), rfl, by simp [dr]⟩, .inr ⟨_, .head _, rfl, by simp [dr]⟩, trivial⟩ ?_
  simp [e, ne, hl0, ht0, hl2, ht2, hl4, ht4]
  refine ls_mark (T1 := [_, _]) (m_markProgram (aP) (1) (by omega)) (S4) ?_
  intro h5x n5 S5
  have e := S5.eqs; have ne := S5.nes; simp only [bxE, bxN, Nat.zero_add, Nat.reduceAdd] at e ne
  have hq1 : ¬ 1 + cProgram aP < (0 : Int) := by omega
  simp [e, ne, hl0, ht0, hl2, ht2, hl4, ht4, hq1]
  first | refine lsD_scal (k_eqEdgeS ((edgesOf aP)) ((edgesOf aP))) (S5) rfl ⟨.inr ⟨_, .tail _ (.head _), rfl, by simp [dr]⟩, .inr ⟨_, .tail _ (.tail _ (.tail _ (.head _))), rfl, by simp [dr]⟩, trivial⟩ ?_ | refine ls_scal (k_eqEdgeS ((edgesOf aP)) ((edgesOf aP))) (S5) rfl ⟨.inr ⟨_, .tail _ (.head _), rfl, by simp [dr]⟩, .inr ⟨_, .tail _ (.tail _ (.tail _ (.head _))), rfl, by simp [dr]⟩, trivial⟩ ?_
  simp [e, ne, hl0, ht0, hl2, ht2, hl4, ht4]
  have hg := edgesOf_c aP hw_aP
  have hm : ¬ 1 + (cEdgeS ((edgesOf aP)) : Int) < 0 := by omega
  refine ls_mark (T1 := [_]) (m_markEdgeS ((edgesOf aP)) (1) (by omega)) (S5) ?_
  intro h6x n6 S6
  have e := S6.eqs; have ne := S6.nes; simp only [bxE, bxN, Nat.zero_add, Nat.reduceAdd] at e ne
  have hq2 : ¬ 1 + cEdgeS ((edgesOf aP)) < (0 : Int) := by omega
  simp [e, ne, hl0, ht0, hl2, ht2, hl4, ht4, hq2]
  first | refine lsD_scal (k_heldEdgeS ((edgesOf aP)) (1) (by omega)) (S6) rfl ⟨.inr ⟨_, .tail _ (.head _), rfl, by simp [dr]⟩, .inl (fun h => by first | rfl | simp), trivial⟩ ?_ | refine ls_scal (k_heldEdgeS ((edgesOf aP)) (1) (by omega)) (S6) rfl ⟨.inr ⟨_, .tail _ (.head _), rfl, by simp [dr]⟩, .inl (fun h => by first | rfl | simp), trivial⟩ ?_
  simp [e, ne, hl0, ht0, hl2, ht2, hl4, ht4, hm]
  first | refine lsD_agg (k_toProgram aP hw_aP) (S6) (by simp) ⟨.inl (fun h => by first | rfl | simp), trivial⟩ ?_ | refine ls_agg (k_toProgram aP hw_aP) (S6) (by simp) ⟨.inl (fun h => by first | rfl | simp), trivial⟩ ?_
  intro c7 h7x n7 J7 S7 hl7 hc7
  have e := S7.eqs; have ne := S7.nes; simp only [bxE, bxN, Nat.zero_add, Nat.reduceAdd] at e ne; simp only [len_UProgram] at hl7
  have ht7 : List.take 2 c7 = c7 := List.take_of_length_le (by omega)
  simp [e, ne, hl0, ht0, hl2, ht2, hl4, ht4, hl7, ht7, hc7]
  first | refine lsD_us (len := ((edgesOf aP)).length) (k_EdgesOf aP hw_aP) (S7) (by simp) ⟨.inr ⟨_, .head _, rfl, by simp [dr]⟩, trivial⟩ ?_ | refine ls_us (len := ((edgesOf aP)).length) (k_EdgesOf aP hw_aP) (S7) (by simp) ⟨.inr ⟨_, .head _, rfl, by simp [dr]⟩, trivial⟩ ?_
  intro d8 h8x n8 J8 S8
  have e := S8.eqs; have ne := S8.nes; simp only [bxE, bxN, Nat.zero_add, Nat.reduceAdd] at e ne
  simp [e, ne, hl0, ht0, hl2, ht2, hl4, ht4, hl7, ht7]
  first | refine lsD_scal (k_eqEdgeS ((edgesOf aP)) ((edgesOf aP))) (S8) rfl ⟨.inr ⟨_, .head _, rfl, by simp [dr]⟩, .inr ⟨_, .tail _ (.tail _ (.tail _ (.tail _ (.tail _ (.head _))))), rfl, by simp [dr]⟩, trivial⟩ ?_ | refine ls_scal (k_eqEdgeS ((edgesOf aP)) ((edgesOf aP))) (S8) rfl ⟨.inr ⟨_, .head _, rfl, by simp [dr]⟩, .inr ⟨_, .tail _ (.tail _ (.tail _ (.tail _ (.tail _ (.head _))))), rfl, by simp [dr]⟩, trivial⟩ ?_
  simp [e, ne, hl0, ht0, hl2, ht2, hl4, ht4, hl7, ht7]
  first | refine lsD_scal (k_heldEdgeS ((edgesOf aP)) (1) (by omega)) (S8) rfl ⟨.inr ⟨_, .tail _ (.tail _ (.tail _ (.head _))), rfl, by simp [dr]⟩, .inl (fun h => by first | rfl | simp), trivial⟩ ?_ | refine ls_scal (k_heldEdgeS ((edgesOf aP)) (1) (by omega)) (S8) rfl ⟨.inr ⟨_, .tail _ (.tail _ (.tail _ (.head _))), rfl, by simp [dr]⟩, .inl (fun h => by first | rfl | simp), trivial⟩ ?_
  simp [e, ne, hl0, ht0, hl2, ht2, hl4, ht4, hl7, ht7, hm]
end Go.Proofs.YtlmajgghnenbpaaGreat

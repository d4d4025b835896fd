/- The body of FnExactInnerEdges. -/
import Derived.Test.YtlmajgghnenbpaaGreatE2
import Derived.Test.YtlmajgghnenbpaaGreatM3B
import Derived.Test.YtlmajgghnenbpaaGreatRE
import Derived.Test.YtlmajgghnenbpaaGreatT2B
import Derived.Test.YtlmajgghnenbpaaGreatT2C
namespace Go.Proofs.YtlmajgghnenbpaaGreat
set_option linter.all false
open Go Go.RowKit Go.Proofs
def a8 : AFn :=
⟨92, [(.t 4)], (.seq 
 (.reg [⟨some 2, (.boxv (.t 0)), no⟩, ⟨some 4, (.mv (.k (.bool false))), no⟩]) (.seq 
 (.reg [⟨some 5, (.mv (.k (.int .i64 1048576))), no⟩]) (.seq 
 (.reg [⟨some 14, (.ld true 2 (.t 2)), no⟩, ⟨some 15, (.mv (.t 5)), no⟩, ⟨some 16, (.call (.k (.fn (.func 15) [] [])) [(.t 14), (.t 15)]), no⟩, ⟨some 5, (.mv (.t 16)), no⟩]) (.seq (.seq 
 (.reg [⟨some 17, (.mv (.t 5)), no⟩, ⟨some 18, (.bin .lss (.t 17) (.k (.int .i64 0))), no⟩]) (.cond (.t 18) (.seq 
 (.reg [⟨some 4, (.mv (.k (.bool true))), no⟩]) .ret) .skip)) (.seq 
 (.reg [⟨some 19, (.mv (.t 1)), no⟩, ⟨some 20, (.mv (.t 5)), no⟩, ⟨some 21, (.call (.k (.fn (.func 39) [] [])) [(.t 19), (.t 20)]), no⟩, ⟨some 5, (.mv (.t 21)), no⟩]) (.seq (.seq 
 (.reg [⟨some 22, (.mv (.t 5)), no⟩, ⟨some 23, (.bin .lss (.t 22) (.k (.int .i64 0))), no⟩]) (.cond (.t 23) (.seq 
 (.reg [⟨some 4, (.mv (.k (.bool true))), no⟩]) .ret) .skip)) (.seq 
 (.reg [⟨some 24, (.ld true 2 (.t 2)), no⟩, ⟨some 25, (.call (.k (.fn (.func 17) [] [])) [(.t 24)]), no⟩, ⟨some 26, (.mv (.t 1)), no⟩, ⟨some 27, (.call (.k (.fn (.func 41) [] [])) [(.t 26)]), no⟩, ⟨some 28, (.call (.k (.fn (.func 40) [] [])) [(.t 25), (.t 27)]), no⟩, ⟨some 6, (.mv (.t 28)), no⟩]) (.seq 
 (.reg [⟨some 29, (.ld true 2 (.t 2)), no⟩, ⟨some 30, (.call (.k (.fn (.func 17) [] [])) [(.t 29)]), no⟩, ⟨some 7, (.box [(.nil 4), (.nil 7)]), no⟩, ⟨no, (.st 2 (.t 7) (.t 30)), no⟩]) (.seq 
 (.reg [⟨some 31, (.mv (.t 1)), no⟩, ⟨some 32, (.call (.k (.fn (.func 41) [] [])) [(.t 31)]), no⟩, ⟨some 8, (.mv (.t 32)), no⟩]) (.seq 
 (.reg [⟨some 33, (.ld true 2 (.t 7)), no⟩, ⟨some 34, (.mv (.t 8)), no⟩, ⟨some 35, (.call (.k (.fn (.func 42) [] [])) [(.t 33), (.t 34)]), no⟩, ⟨some 9, (.mv (.t 35)), no⟩]) (.seq (.seq 
 (.reg [⟨some 36, (.mv (.t 9)), no⟩, ⟨some 37, (.mv (.t 6)), no⟩, ⟨some 38, (.call (.k (.fn (.func 25) [] [])) [(.t 36), (.t 37)]), no⟩, ⟨some 39, (.un .not (.t 38)), no⟩]) (.cond (.t 39) (.seq 
 (.reg [⟨some 4, (.mv (.k (.bool false))), no⟩]) .ret) .skip)) (.seq (.seq (.draw (.op ⟨some 40, (.ld true 2 (.t 7)), no⟩ (.op ⟨some 41, (.ld true 2 (.t 2)), no⟩ (.op ⟨some 42, (.call (.k (.fn (.func 17) [] [])) [(.t 41)]), no⟩ (.op ⟨some 43, (.call (.k (.fn (.func 20) [] [])) [(.t 40), (.t 42)]), no⟩ (.op ⟨some 44, (.un .not (.t 43)), no⟩ .fin)))))) (.cond (.t 44) (.seq 
 (.reg [⟨some 4, (.mv (.k (.bool false))), no⟩]) .ret) .skip)) (.seq (.seq 
 (.reg [⟨some 45, (.mv (.t 8)), no⟩, ⟨some 46, (.mv (.t 1)), no⟩, ⟨some 47, (.call (.k (.fn (.func 41) [] [])) [(.t 46)]), no⟩, ⟨some 48, (.call (.k (.fn (.func 36) [] [])) [(.t 45), (.t 47)]), no⟩, ⟨some 49, (.un .not (.t 48)), no⟩]) (.cond (.t 49) (.seq 
 (.reg [⟨some 4, (.mv (.k (.bool false))), no⟩]) .ret) .skip)) (.seq 
 (.reg [⟨some 10, (.mv (.k (.int .i64 1))), no⟩]) (.seq 
 (.reg [⟨some 50, (.ld true 2 (.t 7)), no⟩, ⟨some 51, (.mv (.t 10)), no⟩, ⟨some 52, (.call (.k (.fn (.func 26) [] [])) [(.t 50), (.t 51)]), no⟩, ⟨some 10, (.mv (.t 52)), no⟩]) (.seq 
 (.reg [⟨some 53, (.mv (.t 8)), no⟩, ⟨some 54, (.mv (.t 10)), no⟩, ⟨some 55, (.call (.k (.fn (.func 37) [] [])) [(.t 53), (.t 54)]), no⟩, ⟨some 10, (.mv (.t 55)), no⟩]) (.seq (.seq 
 (.reg [⟨some 56, (.mv (.t 10)), no⟩, ⟨some 57, (.bin .lss (.t 56) (.k (.int .i64 0))), no⟩, ⟨some 58, (.mv (.t 57)), no⟩, ⟨some 59, (.mv (.t 9)), (some (58, false))⟩, ⟨some 60, (.mv (.t 6)), (some (58, false))⟩, ⟨some 61, (.call (.k (.fn (.func 25) [] [])) [(.t 59), (.t 60)]), (some (58, false))⟩, ⟨some 62, (.un .not (.t 61)), (some (58, false))⟩, ⟨some 63, (.pick (.t 58) (.k (.bool true)) (.t 62)), no⟩]) (.cond (.t 63) (.seq 
 (.reg [⟨some 4, (.mv (.k (.bool false))), no⟩]) .ret) .skip)) (.seq 
 (.reg [⟨some 11, (.mv (.k (.int .i64 1))), no⟩]) (.seq 
 (.reg [⟨some 64, (.mv (.t 9)), no⟩, ⟨some 65, (.mv (.t 11)), no⟩, ⟨some 66, (.call (.k (.fn (.func 27) [] [])) [(.t 64), (.t 65)]), no⟩, ⟨some 11, (.mv (.t 66)), no⟩]) (.seq 
 (.reg [⟨some 12, (.mv (.k (.int .i64 1))), no⟩]) (.seq 
 (.reg [⟨some 67, (.mv (.t 9)), no⟩, ⟨some 68, (.mv (.t 12)), no⟩, ⟨some 69, (.call (.k (.fn (.func 28) [] [])) [(.t 67), (.t 68)]), no⟩, ⟨some 12, (.mv (.t 69)), no⟩]) (.seq (.seq 
 (.reg [⟨some 70, (.mv (.t 12)), no⟩, ⟨some 71, (.bin .lss (.t 70) (.k (.int .i64 0))), no⟩]) (.cond (.t 71) (.seq 
 (.reg [⟨some 4, (.mv (.k (.bool false))), no⟩]) .ret) .skip)) (.seq (.seq 
 (.reg [⟨some 72, (.mv (.t 12)), no⟩, ⟨some 73, (.mv (.t 11)), no⟩, ⟨some 74, (.bin .neq (.t 72) (.t 73)), no⟩]) (.cond (.t 74) (.seq 
 (.reg [⟨some 4, (.mv (.k (.bool false))), no⟩]) .ret) .skip)) (.seq 
 (.reg [⟨some 75, (.ld true 2 (.t 2)), no⟩, ⟨some 76, (.call (.k (.fn (.func 17) [] [])) [(.t 75)]), no⟩, ⟨some 77, (.mv (.t 1)), no⟩, ⟨some 78, (.call (.k (.fn (.func 41) [] [])) [(.t 77)]), no⟩, ⟨some 79, (.call (.k (.fn (.func 42) [] [])) [(.t 76), (.t 78)]), no⟩, ⟨some 13, (.mv (.t 79)), no⟩]) (.seq (.seq 
 (.reg [⟨some 80, (.mv (.t 13)), no⟩, ⟨some 81, (.mv (.t 6)), no⟩, ⟨some 82, (.call (.k (.fn (.func 25) [] [])) [(.t 80), (.t 81)]), no⟩, ⟨some 83, (.un .not (.t 82)), no⟩]) (.cond (.t 83) (.seq 
 (.reg [⟨some 4, (.mv (.k (.bool false))), no⟩]) .ret) .skip)) (.seq 
 (.reg [⟨some 12, (.mv (.k (.int .i64 1))), no⟩]) (.seq 
 (.reg [⟨some 84, (.mv (.t 9)), no⟩, ⟨some 85, (.mv (.t 12)), no⟩, ⟨some 86, (.call (.k (.fn (.func 28) [] [])) [(.t 84), (.t 85)]), no⟩, ⟨some 12, (.mv (.t 86)), no⟩]) (.seq (.seq 
 (.reg [⟨some 87, (.mv (.t 12)), no⟩, ⟨some 88, (.bin .lss (.t 87) (.k (.int .i64 0))), no⟩]) (.cond (.t 88) (.seq 
 (.reg [⟨some 4, (.mv (.k (.bool false))), no⟩]) .ret) .skip)) (.seq (.seq 
 (.reg [⟨some 89, (.mv (.t 12)), no⟩, ⟨some 90, (.mv (.t 11)), no⟩, ⟨some 91, (.bin .neq (.t 89) (.t 90)), no⟩]) (.cond (.t 91) (.seq 
 (.reg [⟨some 4, (.mv (.k (.bool false))), no⟩]) .ret) .skip)) (.seq 
 (.reg [⟨some 4, (.mv (.k (.bool true))), no⟩]) .ret))))))))))))))))))))))))))))))⟩
theorem a8_ok : compFn Tryz.prog Tryz.f8 = some a8 := by kernel_rfl


theorem innerE_c (p : DProgram) (list : List Str) (hp : wProgram p ≤ 1048576) : cEdgeS (innerE p list) ≤ 8388608 := by
  have h1 := edgesOf_len p hp
  have h2 : (innerE p list).length ≤ (edgesOf p).length := List.length_filter_le _ _
  have h3 : ∀ l : List DEdge, cEdgeS l = 2 * l.length := fun l => by
    unfold cEdgeS
    induction l with
    | nil => rfl
    | cons a t ih => simp [cL, crEdge, ih]; omega
  rw [h3]
  omega

set_option maxRecDepth 40000 in
set_option maxHeartbeats 4000000 in
theorem law_InnerEdges (aP : DProgram) (aL : List Str) : Holds Tryz.prog 8 [.agg (rAProgram aP), .sl 1 (strsR aL)] (fun x => x = .bool true) := by
  refine holds_of_run Tryz.func8 a8_ok rfl (by simp [a8]) ?_
  simp [a8]
  first | refine callD_of (k_szProgram aP 1048576 (by omega)) (by simp) ?_ | refine call_of (k_szProgram aP 1048576 (by omega)) (by simp) ?_ | refine callD_of (k_szProgram aP 1048576 (by omega)) rfl ?_ | refine call_of (k_szProgram aP 1048576 (by omega)) rfl ?_
  rintro r rfl
  by_cases h1 : 1048576 - (wProgram aP : Int) < 0
  · simp [sub1, h1]
  simp [sub1, h1]
  first | refine callD_of (k_szStringS aL (1048576 - (wProgram aP : Int)) (by omega)) (by simp) ?_ | refine call_of (k_szStringS aL (1048576 - (wProgram aP : Int)) (by omega)) (by simp) ?_ | refine callD_of (k_szStringS aL (1048576 - (wProgram aP : Int)) (by omega)) rfl ?_ | refine call_of (k_szStringS aL (1048576 - (wProgram aP : Int)) (by omega)) rfl ?_
  rintro r rfl
  by_cases h2 : 1048576 - (wProgram aP : Int) - (wStringS aL : Int) < 0
  · simp [sub1, h2]
  simp [sub1, h2]
  have hw_aP : wProgram aP ≤ 1048576 := by omega
  have hw_aL : wStringS aL ≤ 1048576 := by omega
  have hb_aP := cw_Program aP
  have hb_aL := cw_StringS aL
  first | refine lsD_agg (k_toProgram aP hw_aP) ((LS.start).push) (by simp) ⟨.inl (fun h => by first | rfl | simp), trivial⟩ ?_ | refine ls_agg (k_toProgram aP hw_aP) ((LS.start).push) (by simp) ⟨.inl (fun h => by first | rfl | simp), trivial⟩ ?_
  intro c0 h0x n0 J0 S0 hl0 hc0
  have e := S0.eqs; have ne := S0.nes; simp only [bxE, bxN, Nat.zero_add, Nat.reduceAdd] at e ne; simp only [len_UProgram] at hl0
  have ht0 : List.take 2 c0 = c0 := List.take_of_length_le (by omega)
  simp [e, ne, hl0, ht0, hc0]
  first | refine lsD_us (len := (aL).length) (k_toStringS aL hw_aL) (S0) (by simp) ⟨.inl (fun h => by first | rfl | simp), trivial⟩ ?_ | refine ls_us (len := (aL).length) (k_toStringS aL hw_aL) (S0) (by simp) ⟨.inl (fun h => by first | rfl | simp), trivial⟩ ?_
  intro d1 h1x n1 J1 S1
  have e := S1.eqs; have ne := S1.nes; simp only [bxE, bxN, Nat.zero_add, Nat.reduceAdd] at e ne
  simp [e, ne, hl0, ht0]
  first | refine lsD_us (len := ((innerE aP aL)).length) (ks_InnerEdges aP hw_aP aL) (S1) (by simp) ⟨.inr ⟨_, .tail _ (.head _), rfl, by simp [dr]⟩, .inr ⟨_, .head _, rfl, by simp [dr]⟩, trivial⟩ ?_ | refine ls_us (len := ((innerE aP aL)).length) (ks_InnerEdges aP hw_aP aL) (S1) (by simp) ⟨.inr ⟨_, .tail _ (.head _), rfl, by simp [dr]⟩, .inr ⟨_, .head _, rfl, by simp [dr]⟩, trivial⟩ ?_
  intro d2 h2x n2 J2 S2
  have e := S2.eqs; have ne := S2.nes; simp only [bxE, bxN, Nat.zero_add, Nat.reduceAdd] at e ne
  simp [e, ne, hl0, ht0]
  first | refine lsD_agg (k_toProgram aP hw_aP) (S2) (by simp) ⟨.inl (fun h => by first | rfl | simp), trivial⟩ ?_ | refine ls_agg (k_toProgram aP hw_aP) (S2) (by simp) ⟨.inl (fun h => by first | rfl | simp), trivial⟩ ?_
  intro c3 h3x n3 J3 S3 hl3 hc3
  have e := S3.eqs; have ne := S3.nes; simp only [bxE, bxN, Nat.zero_add, Nat.reduceAdd] at e ne; simp only [len_UProgram] at hl3
  have ht3 : List.take 2 c3 = c3 := List.take_of_length_le (by omega)
  simp [e, ne, hl0, ht0, hl3, ht3, hc3]
  first | refine lsD_us (len := (aL).length) (k_toStringS aL hw_aL) ((S3).push) (by simp) ⟨.inl (fun h => by first | rfl | simp), trivial⟩ ?_ | refine ls_us (len := (aL).length) (k_toStringS aL hw_aL) ((S3).push) (by simp) ⟨.inl (fun h => by first | rfl | simp), trivial⟩ ?_
  intro d4 h4x n4 J4 S4
  have e := S4.eqs; have ne := S4.nes; simp only [bxE, bxN, Nat.zero_add, Nat.reduceAdd] at e ne
  simp [e, ne, hl0, ht0, hl3, ht3]
  first | refine lsD_us (len := ((innerE aP aL)).length) (k_InnerEdges aP hw_aP aL) (S4) (by simp) ⟨.inr ⟨_, .tail _ (.head _), rfl, by simp [dr]⟩, .inr ⟨_, .head _, rfl, by simp [dr]⟩, trivial⟩ ?_ | refine ls_us (len := ((innerE aP aL)).length) (k_InnerEdges aP hw_aP aL) (S4) (by simp) ⟨.inr ⟨_, .tail _ (.head _), rfl, by simp [dr]⟩, .inr ⟨_, .head _, rfl, by simp [dr]⟩, trivial⟩ ?_
  intro d5 h5x n5 J5 S5
  have e := S5.eqs; have ne := S5.nes; simp only [bxE, bxN, Nat.zero_add, Nat.reduceAdd] at e ne
  simp [e, ne, hl0, ht0, hl3, ht3]
  first | refine lsD_scal (k_eqEdgeS ((innerE aP aL)) ((innerE aP aL))) (S5) rfl ⟨.inr ⟨_, .head _, rfl, by simp [dr]⟩, .inr ⟨_, .tail _ (.tail _ (.tail _ (.head _))), rfl, by simp [dr]⟩, trivial⟩ ?_ | refine ls_scal (k_eqEdgeS ((innerE aP aL)) ((innerE aP aL))) (S5) rfl ⟨.inr ⟨_, .head _, rfl, by simp [dr]⟩, .inr ⟨_, .tail _ (.tail _ (.tail _ (.head _))), rfl, by simp [dr]⟩, trivial⟩ ?_
  simp [e, ne, hl0, ht0, hl3, ht3]
  first | refine lsD_agg (k_toProgram aP hw_aP) (S5) (by simp) ⟨.inl (fun h => by first | rfl | simp), trivial⟩ ?_ | refine ls_agg (k_toProgram aP hw_aP) (S5) (by simp) ⟨.inl (fun h => by first | rfl | simp), trivial⟩ ?_
  intro c6 h6x n6 J6 S6 hl6 hc6
  have e := S6.eqs; have ne := S6.nes; simp only [bxE, bxN, Nat.zero_add, Nat.reduceAdd] at e ne; simp only [len_UProgram] at hl6
  have ht6 : List.take 2 c6 = c6 := List.take_of_length_le (by omega)
  simp [e, ne, hl0, ht0, hl3, ht3, hl6, ht6, hc6]
  first | refine lsD_scal (k_eqProgram (aP) (aP)) (S6) rfl ⟨.inr ⟨_, .tail _ (.tail _ (.tail _ (.head _))), rfl, by simp [dr]⟩, .inr ⟨_, .head _, rfl, by simp [dr]⟩, trivial⟩ ?_ | refine ls_scal (k_eqProgram (aP) (aP)) (S6) rfl ⟨.inr ⟨_, .tail _ (.tail _ (.tail _ (.head _))), rfl, by simp [dr]⟩, .inr ⟨_, .head _, rfl, by simp [dr]⟩, trivial⟩ ?_
  simp [e, ne, hl0, ht0, hl3, ht3, hl6, ht6]
  first | refine lsD_us (len := (aL).length) (k_toStringS aL hw_aL) (S6) (by simp) ⟨.inl (fun h => by first | rfl | simp), trivial⟩ ?_ | refine ls_us (len := (aL).length) (k_toStringS aL hw_aL) (S6) (by simp) ⟨.inl (fun h => by first | rfl | simp), trivial⟩ ?_
  intro d7 h7x n7 J7 S7
  have e := S7.eqs; have ne := S7.nes; simp only [bxE, bxN, Nat.zero_add, Nat.reduceAdd] at e ne
  simp [e, ne, hl0, ht0, hl3, ht3, hl6, ht6]
  first | refine lsD_scal (k_eqStringS (aL) (aL)) (S7) rfl ⟨.inr ⟨_, .tail _ (.tail _ (.tail _ (.head _))), rfl, by simp [dr]⟩, .inr ⟨_, .head _, rfl, by simp [dr]⟩, trivial⟩ ?_ | refine ls_scal (k_eqStringS (aL) (aL)) (S7) rfl ⟨.inr ⟨_, .tail _ (.tail _ (.tail _ (.head _))), rfl, by simp [dr]⟩, .inr ⟨_, .head _, rfl, by simp [dr]⟩, trivial⟩ ?_
  simp [e, ne, hl0, ht0, hl3, ht3, hl6, ht6]
  refine ls_mark (T1 := [_, _, _, _]) (m_markProgram (aP) (1) (by omega)) (S7) ?_
  intro h8x n8 S8
  have e := S8.eqs; have ne := S8.nes; simp only [bxE, bxN, Nat.zero_add, Nat.reduceAdd] at e ne
  have hq1 : ¬ 1 + cProgram aP < (0 : Int) := by omega
  simp [e, ne, hl0, ht0, hl3, ht3, hl6, ht6, hq1]
  refine ls_mark (T1 := [_, _, _]) (m_markStringS (aL) (1 + cProgram aP) (by omega)) (S8) ?_
  intro h9x n9 S9
  have e := S9.eqs; have ne := S9.nes; simp only [bxE, bxN, Nat.zero_add, Nat.reduceAdd] at e ne
  have hq2 : ¬ 1 + cProgram aP + cStringS aL < (0 : Int) := by omega
  simp [e, ne, hl0, ht0, hl3, ht3, hl6, ht6, hq2]
  first | refine lsD_scal (k_eqEdgeS ((innerE aP aL)) ((innerE aP aL))) (S9) rfl ⟨.inr ⟨_, .tail _ (.tail _ (.head _)), rfl, by simp [dr]⟩, .inr ⟨_, .tail _ (.tail _ (.tail _ (.tail _ (.tail _ (.head _))))), rfl, by simp [dr]⟩, trivial⟩ ?_ | refine ls_scal (k_eqEdgeS ((innerE aP aL)) ((innerE aP aL))) (S9) rfl ⟨.inr ⟨_, .tail _ (.tail _ (.head _)), rfl, by simp [dr]⟩, .inr ⟨_, .tail _ (.tail _ (.tail _ (.tail _ (.tail _ (.head _))))), rfl, by simp [dr]⟩, trivial⟩ ?_
  simp [e, ne, hl0, ht0, hl3, ht3, hl6, ht6]
  have hg := innerE_c aP aL hw_aP
  have hm : ¬ 1 + (cEdgeS ((innerE aP aL)) : Int) < 0 := by omega
  refine ls_mark (T1 := [_, _]) (m_markEdgeS ((innerE aP aL)) (1) (by omega)) (S9) ?_
  intro h10x n10 S10
  have e := S10.eqs; have ne := S10.nes; simp only [bxE, bxN, Nat.zero_add, Nat.reduceAdd] at e ne
  have hq3 : ¬ 1 + cEdgeS ((innerE aP aL)) < (0 : Int) := by omega
  simp [e, ne, hl0, ht0, hl3, ht3, hl6, ht6, hq3]
  first | refine lsD_scal (k_heldEdgeS ((innerE aP aL)) (1) (by omega)) (S10) rfl ⟨.inr ⟨_, .tail _ (.tail _ (.head _)), rfl, by simp [dr]⟩, .inl (fun h => by first | rfl | simp), trivial⟩ ?_ | refine ls_scal (k_heldEdgeS ((innerE aP aL)) (1) (by omega)) (S10) rfl ⟨.inr ⟨_, .tail _ (.tail _ (.head _)), rfl, by simp [dr]⟩, .inl (fun h => by first | rfl | simp), trivial⟩ ?_
  simp [e, ne, hl0, ht0, hl3, ht3, hl6, ht6, hm]
  first | refine lsD_agg (k_toProgram aP hw_aP) (S10) (by simp) ⟨.inl (fun h => by first | rfl | simp), trivial⟩ ?_ | refine ls_agg (k_toProgram aP hw_aP) (S10) (by simp) ⟨.inl (fun h => by first | rfl | simp), trivial⟩ ?_
  intro c11 h11x n11 J11 S11 hl11 hc11
  have e := S11.eqs; have ne := S11.nes; simp only [bxE, bxN, Nat.zero_add, Nat.reduceAdd] at e ne; simp only [len_UProgram] at hl11
  have ht11 : List.take 2 c11 = c11 := List.take_of_length_le (by omega)
  simp [e, ne, hl0, ht0, hl3, ht3, hl6, ht6, hl11, ht11, hc11]
  first | refine lsD_us (len := (aL).length) (k_toStringS aL hw_aL) (S11) (by simp) ⟨.inl (fun h => by first | rfl | simp), trivial⟩ ?_ | refine ls_us (len := (aL).length) (k_toStringS aL hw_aL) (S11) (by simp) ⟨.inl (fun h => by first | rfl | simp), trivial⟩ ?_
  intro d12 h12x n12 J12 S12
  have e := S12.eqs; have ne := S12.nes; simp only [bxE, bxN, Nat.zero_add, Nat.reduceAdd] at e ne
  simp [e, ne, hl0, ht0, hl3, ht3, hl6, ht6, hl11, ht11]
  first | refine lsD_us (len := ((innerE aP aL)).length) (k_InnerEdges aP hw_aP aL) (S12) (by simp) ⟨.inr ⟨_, .tail _ (.head _), rfl, by simp [dr]⟩, .inr ⟨_, .head _, rfl, by simp [dr]⟩, trivial⟩ ?_ | refine ls_us (len := ((innerE aP aL)).length) (k_InnerEdges aP hw_aP aL) (S12) (by simp) ⟨.inr ⟨_, .tail _ (.head _), rfl, by simp [dr]⟩, .inr ⟨_, .head _, rfl, by simp [dr]⟩, trivial⟩ ?_
  intro d13 h13x n13 J13 S13
  have e := S13.eqs; have ne := S13.nes; simp only [bxE, bxN, Nat.zero_add, Nat.reduceAdd] at e ne
  simp [e, ne, hl0, ht0, hl3, ht3, hl6, ht6, hl11, ht11]
  first | refine lsD_scal (k_eqEdgeS ((innerE aP aL)) ((innerE aP aL))) (S13) rfl ⟨.inr ⟨_, .head _, rfl, by simp [dr]⟩, .inr ⟨_, .tail _ (.tail _ (.tail _ (.tail _ (.tail _ (.tail _ (.tail _ (.tail _ (.head _)))))))), rfl, by simp [dr]⟩, trivial⟩ ?_ | refine ls_scal (k_eqEdgeS ((innerE aP aL)) ((innerE aP aL))) (S13) rfl ⟨.inr ⟨_, .head _, rfl, by simp [dr]⟩, .inr ⟨_, .tail _ (.tail _ (.tail _ (.tail _ (.tail _ (.tail _ (.tail _ (.tail _ (.head _)))))))), rfl, by simp [dr]⟩, trivial⟩ ?_
  simp [e, ne, hl0, ht0, hl3, ht3, hl6, ht6, hl11, ht11]
  first | refine lsD_scal (k_heldEdgeS ((innerE aP aL)) (1) (by omega)) (S13) rfl ⟨.inr ⟨_, .tail _ (.tail _ (.tail _ (.tail _ (.tail _ (.head _))))), rfl, by simp [dr]⟩, .inl (fun h => by first | rfl | simp), trivial⟩ ?_ | refine ls_scal (k_heldEdgeS ((innerE aP aL)) (1) (by omega)) (S13) rfl ⟨.inr ⟨_, .tail _ (.tail _ (.tail _ (.tail _ (.tail _ (.head _))))), rfl, by simp [dr]⟩, .inl (fun h => by first | rfl | simp), trivial⟩ ?_
  simp [e, ne, hl0, ht0, hl3, ht3, hl6, ht6, hl11, ht11, hm]
end Go.Proofs.YtlmajgghnenbpaaGreat

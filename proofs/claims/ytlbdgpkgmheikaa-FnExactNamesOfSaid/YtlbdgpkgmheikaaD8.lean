/- The body of FnExactNamesOf. -/
import Derived.Test.YtlbdgpkgmheikaaC14
import Derived.Test.YtlbdgpkgmheikaaM3B
import Derived.Test.YtlbdgpkgmheikaaRE
import Derived.Test.YtlbdgpkgmheikaaT2B
namespace Go.Proofs.Ytlbdgpkgmheikaa
set_option linter.all false
open Go Go.RowKit Go.Proofs
def a8 : AFn :=
⟨69, [(.t 2)], (.seq 
 (.reg [⟨some 1, (.boxv (.t 0)), no⟩, ⟨some 2, (.mv (.k (.bool false))), no⟩]) (.seq 
 (.reg [⟨some 3, (.mv (.k (.int .i64 1048576))), no⟩]) (.seq 
 (.reg [⟨some 11, (.ld true 3 (.t 1)), no⟩, ⟨some 12, (.mv (.t 3)), no⟩, ⟨some 13, (.call (.k (.fn (.func 45) [] [])) [(.t 11), (.t 12)]), no⟩, ⟨some 3, (.mv (.t 13)), no⟩]) (.seq (.seq 
 (.reg [⟨some 14, (.mv (.t 3)), no⟩, ⟨some 15, (.bin .lss (.t 14) (.k (.int .i64 0))), no⟩]) (.cond (.t 15) (.seq 
 (.reg [⟨some 2, (.mv (.k (.bool true))), no⟩]) .ret) .skip)) (.seq 
 (.reg [⟨some 16, (.ld true 3 (.t 1)), no⟩, ⟨some 17, (.call (.k (.fn (.func 47) [] [])) [(.t 16)]), no⟩, ⟨some 18, (.call (.k (.fn (.func 46) [] [])) [(.t 17)]), no⟩, ⟨some 4, (.mv (.t 18)), no⟩]) (.seq 
 (.reg [⟨some 19, (.ld true 3 (.t 1)), no⟩, ⟨some 20, (.call (.k (.fn (.func 47) [] [])) [(.t 19)]), no⟩, ⟨some 5, (.box [(.bool false), (.nil 2), (.str [])]), no⟩, ⟨no, (.st 3 (.t 5) (.t 20)), no⟩]) (.seq 
 (.reg [⟨some 21, (.ld true 3 (.t 5)), no⟩, ⟨some 22, (.call (.k (.fn (.func 48) [] [])) [(.t 21)]), no⟩, ⟨some 6, (.mv (.t 22)), no⟩]) (.seq (.seq 
 (.reg [⟨some 23, (.mv (.t 6)), no⟩, ⟨some 24, (.mv (.t 4)), no⟩, ⟨some 25, (.call (.k (.fn (.func 49) [] [])) [(.t 23), (.t 24)]), no⟩, ⟨some 26, (.un .not (.t 25)), no⟩]) (.cond (.t 26) (.seq 
 (.reg [⟨some 2, (.mv (.k (.bool false))), no⟩]) .ret) .skip)) (.seq (.seq (.draw (.op ⟨some 27, (.ld true 3 (.t 5)), no⟩ (.op ⟨some 28, (.ld true 3 (.t 1)), no⟩ (.op ⟨some 29, (.call (.k (.fn (.func 47) [] [])) [(.t 28)]), no⟩ (.op ⟨some 30, (.call (.k (.fn (.func 50) [] [])) [(.t 27), (.t 29)]), no⟩ (.op ⟨some 31, (.un .not (.t 30)), no⟩ .fin)))))) (.cond (.t 31) (.seq 
 (.reg [⟨some 2, (.mv (.k (.bool false))), no⟩]) .ret) .skip)) (.seq 
 (.reg [⟨some 7, (.mv (.k (.int .i64 1))), no⟩]) (.seq 
 (.reg [⟨some 32, (.ld true 3 (.t 5)), no⟩, ⟨some 33, (.mv (.t 7)), no⟩, ⟨some 34, (.call (.k (.fn (.func 51) [] [])) [(.t 32), (.t 33)]), no⟩, ⟨some 7, (.mv (.t 34)), no⟩]) (.seq (.seq 
 (.reg [⟨some 35, (.mv (.t 7)), no⟩, ⟨some 36, (.bin .lss (.t 35) (.k (.int .i64 0))), no⟩, ⟨some 37, (.mv (.t 36)), no⟩, ⟨some 38, (.mv (.t 6)), (some (37, false))⟩, ⟨some 39, (.mv (.t 4)), (some (37, false))⟩, ⟨some 40, (.call (.k (.fn (.func 49) [] [])) [(.t 38), (.t 39)]), (some (37, false))⟩, ⟨some 41, (.un .not (.t 40)), (some (37, false))⟩, ⟨some 42, (.pick (.t 37) (.k (.bool true)) (.t 41)), no⟩]) (.cond (.t 42) (.seq 
 (.reg [⟨some 2, (.mv (.k (.bool false))), no⟩]) .ret) .skip)) (.seq 
 (.reg [⟨some 8, (.mv (.k (.int .i64 1))), no⟩]) (.seq 
 (.reg [⟨some 43, (.mv (.t 6)), no⟩, ⟨some 44, (.mv (.t 8)), no⟩, ⟨some 45, (.call (.k (.fn (.func 52) [] [])) [(.t 43), (.t 44)]), no⟩, ⟨some 8, (.mv (.t 45)), no⟩]) (.seq 
 (.reg [⟨some 9, (.mv (.k (.int .i64 1))), no⟩]) (.seq 
 (.reg [⟨some 46, (.mv (.t 6)), no⟩, ⟨some 47, (.mv (.t 9)), no⟩, ⟨some 48, (.call (.k (.fn (.func 53) [] [])) [(.t 46), (.t 47)]), no⟩, ⟨some 9, (.mv (.t 48)), no⟩]) (.seq (.seq 
 (.reg [⟨some 49, (.mv (.t 9)), no⟩, ⟨some 50, (.bin .lss (.t 49) (.k (.int .i64 0))), no⟩]) (.cond (.t 50) (.seq 
 (.reg [⟨some 2, (.mv (.k (.bool false))), no⟩]) .ret) .skip)) (.seq (.seq 
 (.reg [⟨some 51, (.mv (.t 9)), no⟩, ⟨some 52, (.mv (.t 8)), no⟩, ⟨some 53, (.bin .neq (.t 51) (.t 52)), no⟩]) (.cond (.t 53) (.seq 
 (.reg [⟨some 2, (.mv (.k (.bool false))), no⟩]) .ret) .skip)) (.seq 
 (.reg [⟨some 54, (.ld true 3 (.t 1)), no⟩, ⟨some 55, (.call (.k (.fn (.func 47) [] [])) [(.t 54)]), no⟩, ⟨some 56, (.call (.k (.fn (.func 48) [] [])) [(.t 55)]), no⟩, ⟨some 10, (.mv (.t 56)), no⟩]) (.seq (.seq 
 (.reg [⟨some 57, (.mv (.t 10)), no⟩, ⟨some 58, (.mv (.t 4)), no⟩, ⟨some 59, (.call (.k (.fn (.func 49) [] [])) [(.t 57), (.t 58)]), no⟩, ⟨some 60, (.un .not (.t 59)), no⟩]) (.cond (.t 60) (.seq 
 (.reg [⟨some 2, (.mv (.k (.bool false))), no⟩]) .ret) .skip)) (.seq 
 (.reg [⟨some 9, (.mv (.k (.int .i64 1))), no⟩]) (.seq 
 (.reg [⟨some 61, (.mv (.t 6)), no⟩, ⟨some 62, (.mv (.t 9)), no⟩, ⟨some 63, (.call (.k (.fn (.func 53) [] [])) [(.t 61), (.t 62)]), no⟩, ⟨some 9, (.mv (.t 63)), no⟩]) (.seq (.seq 
 (.reg [⟨some 64, (.mv (.t 9)), no⟩, ⟨some 65, (.bin .lss (.t 64) (.k (.int .i64 0))), no⟩]) (.cond (.t 65) (.seq 
 (.reg [⟨some 2, (.mv (.k (.bool false))), no⟩]) .ret) .skip)) (.seq (.seq 
 (.reg [⟨some 66, (.mv (.t 9)), no⟩, ⟨some 67, (.mv (.t 8)), no⟩, ⟨some 68, (.bin .neq (.t 66) (.t 67)), no⟩]) (.cond (.t 68) (.seq 
 (.reg [⟨some 2, (.mv (.k (.bool false))), no⟩]) .ret) .skip)) (.seq 
 (.reg [⟨some 2, (.mv (.k (.bool true))), no⟩]) .ret)))))))))))))))))))))))))⟩
theorem a8_ok : compFn Try.prog Try.f8 = some a8 := by kernel_rfl



set_option maxRecDepth 40000 in
set_option maxHeartbeats 4000000 in
theorem law_NamesOf (aA : DArg) : Holds Try.prog 8 [.agg (rAArg aA)] (fun x => x = .bool true) := by
  refine holds_of_run Try.func8 a8_ok rfl (by simp [a8]) ?_
  simp [a8]
  first | refine callD_of (k_szArg aA 1048576 (by omega)) (by simp) ?_ | refine call_of (k_szArg aA 1048576 (by omega)) (by simp) ?_ | refine callD_of (k_szArg aA 1048576 (by omega)) rfl ?_ | refine call_of (k_szArg aA 1048576 (by omega)) rfl ?_
  rintro r rfl
  by_cases h1 : 1048576 - (wArg aA : Int) < 0
  · simp [sub1, h1]
  simp [sub1, h1]
  have hw_aA : wArg aA ≤ 1048576 := by omega
  have hb_aA := cw_Arg aA
  first | refine lsD_agg (k_toArg aA hw_aA) ((LS.start).push) (by simp) ⟨.inl (fun h => by first | rfl | simp), trivial⟩ ?_ | refine ls_agg (k_toArg aA hw_aA) ((LS.start).push) (by simp) ⟨.inl (fun h => by first | rfl | simp), trivial⟩ ?_
  intro c0 h0x n0 J0 S0 hl0 hc0
  have e := S0.eqs; have ne := S0.nes; simp only [bxE, bxN, Nat.zero_add, Nat.reduceAdd] at e ne; simp only [len_UArg] at hl0
  have ht0 : List.take 3 c0 = c0 := List.take_of_length_le (by omega)
  simp [e, ne, hl0, ht0, hc0]
  first | refine lsD_us (len := ((snames (argN0 aA))).length) (ks_NamesOf aA hw_aA) (S0) (by simp) ⟨.inr ⟨_, .head _, rfl, by simp [dr]⟩, trivial⟩ ?_ | refine ls_us (len := ((snames (argN0 aA))).length) (ks_NamesOf aA hw_aA) (S0) (by simp) ⟨.inr ⟨_, .head _, rfl, by simp [dr]⟩, trivial⟩ ?_
  intro d1 h1x n1 J1 S1
  have e := S1.eqs; have ne := S1.nes; simp only [bxE, bxN, Nat.zero_add, Nat.reduceAdd] at e ne
  simp [e, ne, hl0, ht0]
  first | refine lsD_agg (k_toArg aA hw_aA) (S1) (by simp) ⟨.inl (fun h => by first | rfl | simp), trivial⟩ ?_ | refine ls_agg (k_toArg aA hw_aA) (S1) (by simp) ⟨.inl (fun h => by first | rfl | simp), trivial⟩ ?_
  intro c2 h2x n2 J2 S2 hl2 hc2
  have e := S2.eqs; have ne := S2.nes; simp only [bxE, bxN, Nat.zero_add, Nat.reduceAdd] at e ne; simp only [len_UArg] at hl2
  have ht2 : List.take 3 c2 = c2 := List.take_of_length_le (by omega)
  simp [e, ne, hl0, ht0, hl2, ht2, hc2]
  first | refine lsD_us (len := ((snames (argN0 aA))).length) (k_NamesOf aA hw_aA) ((S2).push) (by simp) ⟨.inr ⟨_, .head _, rfl, by simp [dr]⟩, trivial⟩ ?_ | refine ls_us (len := ((snames (argN0 aA))).length) (k_NamesOf aA hw_aA) ((S2).push) (by simp) ⟨.inr ⟨_, .head _, rfl, by simp [dr]⟩, trivial⟩ ?_
  intro d3 h3x n3 J3 S3
  have e := S3.eqs; have ne := S3.nes; simp only [bxE, bxN, Nat.zero_add, Nat.reduceAdd] at e ne
  simp [e, ne, hl0, ht0, hl2, ht2]
  first | refine lsD_scal (k_eqStringS ((snames (argN0 aA))) ((snames (argN0 aA)))) (S3) rfl ⟨.inr ⟨_, .head _, rfl, by simp [dr]⟩, .inr ⟨_, .tail _ (.tail _ (.head _)), rfl, by simp [dr]⟩, trivial⟩ ?_ | refine ls_scal (k_eqStringS ((snames (argN0 aA))) ((snames (argN0 aA)))) (S3) rfl ⟨.inr ⟨_, .head _, rfl, by simp [dr]⟩, .inr ⟨_, .tail _ (.tail _ (.head _)), rfl, by simp [dr]⟩, trivial⟩ ?_
  simp [e, ne, hl0, ht0, hl2, ht2]
  first | refine lsD_agg (k_toArg aA hw_aA) (S3) (by simp) ⟨.inl (fun h => by first | rfl | simp), trivial⟩ ?_ | refine ls_agg (k_toArg aA hw_aA) (S3) (by simp) ⟨.inl (fun h => by first | rfl | simp), trivial⟩ ?_
  intro c4 h4x n4 J4 S4 hl4 hc4
  have e := S4.eqs; have ne := S4.nes; simp only [bxE, bxN, Nat.zero_add, Nat.reduceAdd] at e ne; simp only [len_UArg] at hl4
  have ht4 : List.take 3 c4 = c4 := List.take_of_length_le (by omega)
  simp [e, ne, hl0, ht0, hl2, ht2, hl4, ht4, hc4]
  first | refine lsD_scal (k_eqArg (aA) (aA)) (S4) rfl ⟨.inr ⟨_, .tail _ (.tail _ (.head _)), rfl, by simp [dr]⟩, .inr ⟨_, .head _, rfl, by simp [dr]⟩, trivial⟩ ?_ | refine ls_scal (k_eqArg (aA) (aA)) (S4) rfl ⟨.inr ⟨_, .tail _ (.tail _ (.head _)), rfl, by simp [dr]⟩, .inr ⟨_, .head _, rfl, by simp [dr]⟩, trivial⟩ ?_
  simp [e, ne, hl0, ht0, hl2, ht2, hl4, ht4]
  refine ls_mark (T1 := [_, _]) (m_markArg (aA) (1) (by omega)) (S4) ?_
  intro h5x n5 S5
  have e := S5.eqs; have ne := S5.nes; simp only [bxE, bxN, Nat.zero_add, Nat.reduceAdd] at e ne
  have hq1 : ¬ 1 + cArg aA < (0 : Int) := by omega
  simp [e, ne, hl0, ht0, hl2, ht2, hl4, ht4, hq1]
  first | refine lsD_scal (k_eqStringS ((snames (argN0 aA))) ((snames (argN0 aA)))) (S5) rfl ⟨.inr ⟨_, .tail _ (.head _), rfl, by simp [dr]⟩, .inr ⟨_, .tail _ (.tail _ (.tail _ (.head _))), rfl, by simp [dr]⟩, trivial⟩ ?_ | refine ls_scal (k_eqStringS ((snames (argN0 aA))) ((snames (argN0 aA)))) (S5) rfl ⟨.inr ⟨_, .tail _ (.head _), rfl, by simp [dr]⟩, .inr ⟨_, .tail _ (.tail _ (.tail _ (.head _))), rfl, by simp [dr]⟩, trivial⟩ ?_
  simp [e, ne, hl0, ht0, hl2, ht2, hl4, ht4]
  have hg := names_c aA hw_aA
  have hm : ¬ 1 + (cStringS ((snames (argN0 aA))) : Int) < 0 := by omega
  refine ls_mark (T1 := [_]) (m_markStringS ((snames (argN0 aA))) (1) (by omega)) (S5) ?_
  intro h6x n6 S6
  have e := S6.eqs; have ne := S6.nes; simp only [bxE, bxN, Nat.zero_add, Nat.reduceAdd] at e ne
  have hq2 : ¬ 1 + cStringS ((snames (argN0 aA))) < (0 : Int) := by omega
  simp [e, ne, hl0, ht0, hl2, ht2, hl4, ht4, hq2]
  first | refine lsD_scal (k_heldStringS ((snames (argN0 aA))) (1) (by omega)) (S6) rfl ⟨.inr ⟨_, .tail _ (.head _), rfl, by simp [dr]⟩, .inl (fun h => by first | rfl | simp), trivial⟩ ?_ | refine ls_scal (k_heldStringS ((snames (argN0 aA))) (1) (by omega)) (S6) rfl ⟨.inr ⟨_, .tail _ (.head _), rfl, by simp [dr]⟩, .inl (fun h => by first | rfl | simp), trivial⟩ ?_
  simp [e, ne, hl0, ht0, hl2, ht2, hl4, ht4, hm]
  first | refine lsD_agg (k_toArg aA hw_aA) (S6) (by simp) ⟨.inl (fun h => by first | rfl | simp), trivial⟩ ?_ | refine ls_agg (k_toArg aA hw_aA) (S6) (by simp) ⟨.inl (fun h => by first | rfl | simp), trivial⟩ ?_
  intro c7 h7x n7 J7 S7 hl7 hc7
  have e := S7.eqs; have ne := S7.nes; simp only [bxE, bxN, Nat.zero_add, Nat.reduceAdd] at e ne; simp only [len_UArg] at hl7
  have ht7 : List.take 3 c7 = c7 := List.take_of_length_le (by omega)
  simp [e, ne, hl0, ht0, hl2, ht2, hl4, ht4, hl7, ht7, hc7]
  first | refine lsD_us (len := ((snames (argN0 aA))).length) (k_NamesOf aA hw_aA) (S7) (by simp) ⟨.inr ⟨_, .head _, rfl, by simp [dr]⟩, trivial⟩ ?_ | refine ls_us (len := ((snames (argN0 aA))).length) (k_NamesOf aA hw_aA) (S7) (by simp) ⟨.inr ⟨_, .head _, rfl, by simp [dr]⟩, trivial⟩ ?_
  intro d8 h8x n8 J8 S8
  have e := S8.eqs; have ne := S8.nes; simp only [bxE, bxN, Nat.zero_add, Nat.reduceAdd] at e ne
  simp [e, ne, hl0, ht0, hl2, ht2, hl4, ht4, hl7, ht7]
  first | refine lsD_scal (k_eqStringS ((snames (argN0 aA))) ((snames (argN0 aA)))) (S8) rfl ⟨.inr ⟨_, .head _, rfl, by simp [dr]⟩, .inr ⟨_, .tail _ (.tail _ (.tail _ (.tail _ (.tail _ (.head _))))), rfl, by simp [dr]⟩, trivial⟩ ?_ | refine ls_scal (k_eqStringS ((snames (argN0 aA))) ((snames (argN0 aA)))) (S8) rfl ⟨.inr ⟨_, .head _, rfl, by simp [dr]⟩, .inr ⟨_, .tail _ (.tail _ (.tail _ (.tail _ (.tail _ (.head _))))), rfl, by simp [dr]⟩, trivial⟩ ?_
  simp [e, ne, hl0, ht0, hl2, ht2, hl4, ht4, hl7, ht7]
  first | refine lsD_scal (k_heldStringS ((snames (argN0 aA))) (1) (by omega)) (S8) rfl ⟨.inr ⟨_, .tail _ (.tail _ (.tail _ (.head _))), rfl, by simp [dr]⟩, .inl (fun h => by first | rfl | simp), trivial⟩ ?_ | refine ls_scal (k_heldStringS ((snames (argN0 aA))) (1) (by omega)) (S8) rfl ⟨.inr ⟨_, .tail _ (.tail _ (.tail _ (.head _))), rfl, by simp [dr]⟩, .inl (fun h => by first | rfl | simp), trivial⟩ ?_
  simp [e, ne, hl0, ht0, hl2, ht2, hl4, ht4, hl7, ht7, hm]
end Go.Proofs.Ytlbdgpkgmheikaa

/- The body of FnExactScopeOf. -/
import Derived.Test.YtlbdgpkgmheikaaC12
import Derived.Test.YtlbdgpkgmheikaaM3B
import Derived.Test.YtlbdgpkgmheikaaRE
import Derived.Test.YtlbdgpkgmheikaaT2B
namespace Go.Proofs.Ytlbdgpkgmheikaa
set_option linter.all false
open Go Go.RowKit Go.Proofs
def a12 : AFn :=
⟨97, [(.t 6)], (.seq 
 (.reg [⟨some 3, (.boxv (.t 0)), no⟩, ⟨some 4, (.boxv (.t 1)), no⟩, ⟨some 6, (.mv (.k (.bool false))), no⟩]) (.seq 
 (.reg [⟨some 7, (.mv (.k (.int .i64 1048576))), no⟩]) (.seq 
 (.reg [⟨some 16, (.ld true 2 (.t 3)), no⟩, ⟨some 17, (.mv (.t 7)), no⟩, ⟨some 18, (.call (.k (.fn (.func 59) [] [])) [(.t 16), (.t 17)]), no⟩, ⟨some 7, (.mv (.t 18)), no⟩]) (.seq (.seq 
 (.reg [⟨some 19, (.mv (.t 7)), no⟩, ⟨some 20, (.bin .lss (.t 19) (.k (.int .i64 0))), no⟩]) (.cond (.t 20) (.seq 
 (.reg [⟨some 6, (.mv (.k (.bool true))), no⟩]) .ret) .skip)) (.seq 
 (.reg [⟨some 21, (.ld true 7 (.t 4)), no⟩, ⟨some 22, (.mv (.t 7)), no⟩, ⟨some 23, (.call (.k (.fn (.func 24) [] [])) [(.t 21), (.t 22)]), no⟩, ⟨some 7, (.mv (.t 23)), no⟩]) (.seq (.seq 
 (.reg [⟨some 24, (.mv (.t 7)), no⟩, ⟨some 25, (.bin .lss (.t 24) (.k (.int .i64 0))), no⟩]) (.cond (.t 25) (.seq 
 (.reg [⟨some 6, (.mv (.k (.bool true))), no⟩]) .ret) .skip)) (.seq (.draw (.op ⟨some 26, (.ld true 2 (.t 3)), no⟩ (.op ⟨some 28, (.ld true 7 (.t 4)), no⟩ (.op ⟨some 30, (.mv (.t 2)), no⟩ (.op ⟨some 27, (.call (.k (.fn (.func 61) [] [])) [(.t 26)]), no⟩ (.op ⟨some 29, (.call (.k (.fn (.func 26) [] [])) [(.t 28)]), no⟩ (.op ⟨some 31, (.call (.k (.fn (.func 70) [] [])) [(.t 27), (.t 29), (.t 30)]), no⟩ (.op ⟨some 8, (.mv (.t 31)), no⟩ .fin)))))))) (.seq 
 (.reg [⟨some 32, (.ld true 2 (.t 3)), no⟩, ⟨some 33, (.call (.k (.fn (.func 61) [] [])) [(.t 32)]), no⟩, ⟨some 9, (.box [(.nil 4), (.nil 7)]), no⟩, ⟨no, (.st 2 (.t 9) (.t 33)), no⟩]) (.seq 
 (.reg [⟨some 34, (.ld true 7 (.t 4)), no⟩, ⟨some 35, (.call (.k (.fn (.func 26) [] [])) [(.t 34)]), no⟩, ⟨some 10, (.box [(.str []), (.nil 4), (.nil 2), (.nil 3), (.bool false), (.nil 2), (.str [])]), no⟩, ⟨no, (.st 7 (.t 10) (.t 35)), no⟩]) (.seq 
 (.reg [⟨some 36, (.ld true 2 (.t 9)), no⟩, ⟨some 37, (.ld true 7 (.t 10)), no⟩, ⟨some 38, (.mv (.t 2)), no⟩, ⟨some 39, (.call (.k (.fn (.func 71) [] [])) [(.t 36), (.t 37), (.t 38)]), no⟩, ⟨some 11, (.mv (.t 39)), no⟩]) (.seq (.seq 
 (.reg [⟨some 40, (.mv (.t 11)), no⟩, ⟨some 41, (.mv (.t 8)), no⟩, ⟨some 42, (.call (.k (.fn (.func 49) [] [])) [(.t 40), (.t 41)]), no⟩, ⟨some 43, (.un .not (.t 42)), no⟩]) (.cond (.t 43) (.seq 
 (.reg [⟨some 6, (.mv (.k (.bool false))), no⟩]) .ret) .skip)) (.seq (.seq (.draw (.op ⟨some 44, (.ld true 2 (.t 9)), no⟩ (.op ⟨some 45, (.ld true 2 (.t 3)), no⟩ (.op ⟨some 46, (.call (.k (.fn (.func 61) [] [])) [(.t 45)]), no⟩ (.op ⟨some 47, (.call (.k (.fn (.func 63) [] [])) [(.t 44), (.t 46)]), no⟩ (.op ⟨some 48, (.un .not (.t 47)), no⟩ .fin)))))) (.cond (.t 48) (.seq 
 (.reg [⟨some 6, (.mv (.k (.bool false))), no⟩]) .ret) .skip)) (.seq (.seq (.draw (.op ⟨some 49, (.ld true 7 (.t 10)), no⟩ (.op ⟨some 50, (.ld true 7 (.t 4)), no⟩ (.op ⟨some 51, (.call (.k (.fn (.func 26) [] [])) [(.t 50)]), no⟩ (.op ⟨some 52, (.call (.k (.fn (.func 28) [] [])) [(.t 49), (.t 51)]), no⟩ (.op ⟨some 53, (.un .not (.t 52)), no⟩ .fin)))))) (.cond (.t 53) (.seq 
 (.reg [⟨some 6, (.mv (.k (.bool false))), no⟩]) .ret) .skip)) (.seq 
 (.reg [⟨some 12, (.mv (.k (.int .i64 1))), no⟩]) (.seq 
 (.reg [⟨some 54, (.ld true 2 (.t 9)), no⟩, ⟨some 55, (.mv (.t 12)), no⟩, ⟨some 56, (.call (.k (.fn (.func 67) [] [])) [(.t 54), (.t 55)]), no⟩, ⟨some 12, (.mv (.t 56)), no⟩]) (.seq 
 (.reg [⟨some 57, (.ld true 7 (.t 10)), no⟩, ⟨some 58, (.mv (.t 12)), no⟩, ⟨some 59, (.call (.k (.fn (.func 72) [] [])) [(.t 57), (.t 58)]), no⟩, ⟨some 12, (.mv (.t 59)), no⟩]) (.seq (.seq 
 (.reg [⟨some 60, (.mv (.t 12)), no⟩, ⟨some 61, (.bin .lss (.t 60) (.k (.int .i64 0))), no⟩, ⟨some 62, (.mv (.t 61)), no⟩, ⟨some 63, (.mv (.t 11)), (some (62, false))⟩, ⟨some 64, (.mv (.t 8)), (some (62, false))⟩, ⟨some 65, (.call (.k (.fn (.func 49) [] [])) [(.t 63), (.t 64)]), (some (62, false))⟩, ⟨some 66, (.un .not (.t 65)), (some (62, false))⟩, ⟨some 67, (.pick (.t 62) (.k (.bool true)) (.t 66)), no⟩]) (.cond (.t 67) (.seq 
 (.reg [⟨some 6, (.mv (.k (.bool false))), no⟩]) .ret) .skip)) (.seq 
 (.reg [⟨some 13, (.mv (.k (.int .i64 1))), no⟩]) (.seq 
 (.reg [⟨some 68, (.mv (.t 11)), no⟩, ⟨some 69, (.mv (.t 13)), no⟩, ⟨some 70, (.call (.k (.fn (.func 52) [] [])) [(.t 68), (.t 69)]), no⟩, ⟨some 13, (.mv (.t 70)), no⟩]) (.seq 
 (.reg [⟨some 14, (.mv (.k (.int .i64 1))), no⟩]) (.seq 
 (.reg [⟨some 71, (.mv (.t 11)), no⟩, ⟨some 72, (.mv (.t 14)), no⟩, ⟨some 73, (.call (.k (.fn (.func 53) [] [])) [(.t 71), (.t 72)]), no⟩, ⟨some 14, (.mv (.t 73)), no⟩]) (.seq (.seq 
 (.reg [⟨some 74, (.mv (.t 14)), no⟩, ⟨some 75, (.bin .lss (.t 74) (.k (.int .i64 0))), no⟩]) (.cond (.t 75) (.seq 
 (.reg [⟨some 6, (.mv (.k (.bool false))), no⟩]) .ret) .skip)) (.seq (.seq 
 (.reg [⟨some 76, (.mv (.t 14)), no⟩, ⟨some 77, (.mv (.t 13)), no⟩, ⟨some 78, (.bin .neq (.t 76) (.t 77)), no⟩]) (.cond (.t 78) (.seq 
 (.reg [⟨some 6, (.mv (.k (.bool false))), no⟩]) .ret) .skip)) (.seq (.draw (.op ⟨some 79, (.ld true 2 (.t 3)), no⟩ (.op ⟨some 81, (.ld true 7 (.t 4)), no⟩ (.op ⟨some 83, (.mv (.t 2)), no⟩ (.op ⟨some 80, (.call (.k (.fn (.func 61) [] [])) [(.t 79)]), no⟩ (.op ⟨some 82, (.call (.k (.fn (.func 26) [] [])) [(.t 81)]), no⟩ (.op ⟨some 84, (.call (.k (.fn (.func 71) [] [])) [(.t 80), (.t 82), (.t 83)]), no⟩ (.op ⟨some 15, (.mv (.t 84)), no⟩ .fin)))))))) (.seq (.seq 
 (.reg [⟨some 85, (.mv (.t 15)), no⟩, ⟨some 86, (.mv (.t 8)), no⟩, ⟨some 87, (.call (.k (.fn (.func 49) [] [])) [(.t 85), (.t 86)]), no⟩, ⟨some 88, (.un .not (.t 87)), no⟩]) (.cond (.t 88) (.seq 
 (.reg [⟨some 6, (.mv (.k (.bool false))), no⟩]) .ret) .skip)) (.seq 
 (.reg [⟨some 14, (.mv (.k (.int .i64 1))), no⟩]) (.seq 
 (.reg [⟨some 89, (.mv (.t 11)), no⟩, ⟨some 90, (.mv (.t 14)), no⟩, ⟨some 91, (.call (.k (.fn (.func 53) [] [])) [(.t 89), (.t 90)]), no⟩, ⟨some 14, (.mv (.t 91)), no⟩]) (.seq (.seq 
 (.reg [⟨some 92, (.mv (.t 14)), no⟩, ⟨some 93, (.bin .lss (.t 92) (.k (.int .i64 0))), no⟩]) (.cond (.t 93) (.seq 
 (.reg [⟨some 6, (.mv (.k (.bool false))), no⟩]) .ret) .skip)) (.seq (.seq 
 (.reg [⟨some 94, (.mv (.t 14)), no⟩, ⟨some 95, (.mv (.t 13)), no⟩, ⟨some 96, (.bin .neq (.t 94) (.t 95)), no⟩]) (.cond (.t 96) (.seq 
 (.reg [⟨some 6, (.mv (.k (.bool false))), no⟩]) .ret) .skip)) (.seq 
 (.reg [⟨some 6, (.mv (.k (.bool true))), no⟩]) .ret))))))))))))))))))))))))))))))⟩
theorem a12_ok : compFn Try.prog Try.f12 = some a12 := by kernel_rfl



set_option maxRecDepth 40000 in
set_option maxHeartbeats 4000000 in
theorem law_ScopeOf (aP : DProgram) (aR : DRule) (aN : Int) : Holds Try.prog 12 [.agg (rAProgram aP), .agg (rARule aR), i64 aN] (fun x => x = .bool true) := by
  refine holds_of_run Try.func12 a12_ok rfl (by simp [a12]) ?_
  simp [a12]
  first | refine callD_of (k_szProgram aP 1048576 (by omega)) (by simp) ?_ | refine call_of (k_szProgram aP 1048576 (by omega)) (by simp) ?_ | refine callD_of (k_szProgram aP 1048576 (by omega)) rfl ?_ | refine call_of (k_szProgram aP 1048576 (by omega)) rfl ?_
  rintro r rfl
  by_cases h1 : 1048576 - (wProgram aP : Int) < 0
  · simp [sub1, h1]
  simp [sub1, h1]
  first | refine callD_of (k_szRule aR (1048576 - (wProgram aP : Int)) (by omega)) (by simp) ?_ | refine call_of (k_szRule aR (1048576 - (wProgram aP : Int)) (by omega)) (by simp) ?_ | refine callD_of (k_szRule aR (1048576 - (wProgram aP : Int)) (by omega)) rfl ?_ | refine call_of (k_szRule aR (1048576 - (wProgram aP : Int)) (by omega)) rfl ?_
  rintro r rfl
  by_cases h2 : 1048576 - (wProgram aP : Int) - (wRule aR : Int) < 0
  · simp [sub1, h2]
  simp [sub1, h2]
  have hw_aP : wProgram aP ≤ 1048576 := by omega
  have hw_aR : wRule aR ≤ 1048576 := by omega
  have hb_aP := cw_Program aP
  have hb_aR := cw_Rule aR
  first | refine lsD_agg (k_toProgram aP hw_aP) (((LS.start).push).push) (by simp) ⟨.inl (fun h => by first | rfl | simp), trivial⟩ ?_ | refine ls_agg (k_toProgram aP hw_aP) (((LS.start).push).push) (by simp) ⟨.inl (fun h => by first | rfl | simp), trivial⟩ ?_
  intro c0 h0x n0 J0 S0 hl0 hc0
  have e := S0.eqs; have ne := S0.nes; simp only [bxE, bxN, Nat.zero_add, Nat.reduceAdd] at e ne; simp only [len_UProgram] at hl0
  have ht0 : List.take 2 c0 = c0 := List.take_of_length_le (by omega)
  simp [e, ne, hl0, ht0, hc0]
  first | refine lsD_agg (k_toRule aR hw_aR) (S0) (by simp) ⟨.inl (fun h => by first | rfl | simp), trivial⟩ ?_ | refine ls_agg (k_toRule aR hw_aR) (S0) (by simp) ⟨.inl (fun h => by first | rfl | simp), trivial⟩ ?_
  intro c1 h1x n1 J1 S1 hl1 hc1
  have e := S1.eqs; have ne := S1.nes; simp only [bxE, bxN, Nat.zero_add, Nat.reduceAdd] at e ne; simp only [len_URule] at hl1
  have ht1 : List.take 7 c1 = c1 := List.take_of_length_le (by omega)
  simp [e, ne, hl0, ht0, hl1, ht1, hc1]
  first | refine lsD_us (len := ((scopeOf aP aR aN)).length) (ks_ScopeOf aP aR aN hw_aP hw_aR) (S1) (by simp) ⟨.inr ⟨_, .tail _ (.head _), rfl, by simp [dr]⟩, .inr ⟨_, .head _, rfl, by simp [dr]⟩, .inl (fun h => by first | rfl | simp), trivial⟩ ?_ | refine ls_us (len := ((scopeOf aP aR aN)).length) (ks_ScopeOf aP aR aN hw_aP hw_aR) (S1) (by simp) ⟨.inr ⟨_, .tail _ (.head _), rfl, by simp [dr]⟩, .inr ⟨_, .head _, rfl, by simp [dr]⟩, .inl (fun h => by first | rfl | simp), trivial⟩ ?_
  intro d2 h2x n2 J2 S2
  have e := S2.eqs; have ne := S2.nes; simp only [bxE, bxN, Nat.zero_add, Nat.reduceAdd] at e ne
  simp [e, ne, hl0, ht0, hl1, ht1]
  first | refine lsD_agg (k_toProgram aP hw_aP) (S2) (by simp) ⟨.inl (fun h => by first | rfl | simp), trivial⟩ ?_ | refine ls_agg (k_toProgram aP hw_aP) (S2) (by simp) ⟨.inl (fun h => by first | rfl | simp), trivial⟩ ?_
  intro c3 h3x n3 J3 S3 hl3 hc3
  have e := S3.eqs; have ne := S3.nes; simp only [bxE, bxN, Nat.zero_add, Nat.reduceAdd] at e ne; simp only [len_UProgram] at hl3
  have ht3 : List.take 2 c3 = c3 := List.take_of_length_le (by omega)
  simp [e, ne, hl0, ht0, hl1, ht1, hl3, ht3, hc3]
  first | refine lsD_agg (k_toRule aR hw_aR) ((S3).push) (by simp) ⟨.inl (fun h => by first | rfl | simp), trivial⟩ ?_ | refine ls_agg (k_toRule aR hw_aR) ((S3).push) (by simp) ⟨.inl (fun h => by first | rfl | simp), trivial⟩ ?_
  intro c4 h4x n4 J4 S4 hl4 hc4
  have e := S4.eqs; have ne := S4.nes; simp only [bxE, bxN, Nat.zero_add, Nat.reduceAdd] at e ne; simp only [len_URule] at hl4
  have ht4 : List.take 7 c4 = c4 := List.take_of_length_le (by omega)
  simp [e, ne, hl0, ht0, hl1, ht1, hl3, ht3, hl4, ht4, hc4]
  first | refine lsD_us (len := ((scopeOf aP aR aN)).length) (k_ScopeOf aP aR aN hw_aP hw_aR) ((S4).push) (by simp) ⟨.inr ⟨_, .tail _ (.head _), rfl, by simp [dr]⟩, .inr ⟨_, .head _, rfl, by simp [dr]⟩, .inl (fun h => by first | rfl | simp), trivial⟩ ?_ | refine ls_us (len := ((scopeOf aP aR aN)).length) (k_ScopeOf aP aR aN hw_aP hw_aR) ((S4).push) (by simp) ⟨.inr ⟨_, .tail _ (.head _), rfl, by simp [dr]⟩, .inr ⟨_, .head _, rfl, by simp [dr]⟩, .inl (fun h => by first | rfl | simp), trivial⟩ ?_
  intro d5 h5x n5 J5 S5
  have e := S5.eqs; have ne := S5.nes; simp only [bxE, bxN, Nat.zero_add, Nat.reduceAdd] at e ne
  simp [e, ne, hl0, ht0, hl1, ht1, hl3, ht3, hl4, ht4]
  first | refine lsD_scal (k_eqStringS ((scopeOf aP aR aN)) ((scopeOf aP aR aN))) (S5) rfl ⟨.inr ⟨_, .head _, rfl, by simp [dr]⟩, .inr ⟨_, .tail _ (.tail _ (.tail _ (.head _))), rfl, by simp [dr]⟩, trivial⟩ ?_ | refine ls_scal (k_eqStringS ((scopeOf aP aR aN)) ((scopeOf aP aR aN))) (S5) rfl ⟨.inr ⟨_, .head _, rfl, by simp [dr]⟩, .inr ⟨_, .tail _ (.tail _ (.tail _ (.head _))), rfl, by simp [dr]⟩, trivial⟩ ?_
  simp [e, ne, hl0, ht0, hl1, ht1, hl3, ht3, hl4, ht4]
  first | refine lsD_agg (k_toProgram aP hw_aP) (S5) (by simp) ⟨.inl (fun h => by first | rfl | simp), trivial⟩ ?_ | refine ls_agg (k_toProgram aP hw_aP) (S5) (by simp) ⟨.inl (fun h => by first | rfl | simp), trivial⟩ ?_
  intro c6 h6x n6 J6 S6 hl6 hc6
  have e := S6.eqs; have ne := S6.nes; simp only [bxE, bxN, Nat.zero_add, Nat.reduceAdd] at e ne; simp only [len_UProgram] at hl6
  have ht6 : List.take 2 c6 = c6 := List.take_of_length_le (by omega)
  simp [e, ne, hl0, ht0, hl1, ht1, hl3, ht3, hl4, ht4, hl6, ht6, hc6]
  first | refine lsD_scal (k_eqProgram (aP) (aP)) (S6) rfl ⟨.inr ⟨_, .tail _ (.tail _ (.tail _ (.head _))), rfl, by simp [dr]⟩, .inr ⟨_, .head _, rfl, by simp [dr]⟩, trivial⟩ ?_ | refine ls_scal (k_eqProgram (aP) (aP)) (S6) rfl ⟨.inr ⟨_, .tail _ (.tail _ (.tail _ (.head _))), rfl, by simp [dr]⟩, .inr ⟨_, .head _, rfl, by simp [dr]⟩, trivial⟩ ?_
  simp [e, ne, hl0, ht0, hl1, ht1, hl3, ht3, hl4, ht4, hl6, ht6]
  first | refine lsD_agg (k_toRule aR hw_aR) (S6) (by simp) ⟨.inl (fun h => by first | rfl | simp), trivial⟩ ?_ | refine ls_agg (k_toRule aR hw_aR) (S6) (by simp) ⟨.inl (fun h => by first | rfl | simp), trivial⟩ ?_
  intro c7 h7x n7 J7 S7 hl7 hc7
  have e := S7.eqs; have ne := S7.nes; simp only [bxE, bxN, Nat.zero_add, Nat.reduceAdd] at e ne; simp only [len_URule] at hl7
  have ht7 : List.take 7 c7 = c7 := List.take_of_length_le (by omega)
  simp [e, ne, hl0, ht0, hl1, ht1, hl3, ht3, hl4, ht4, hl6, ht6, hl7, ht7, hc7]
  first | refine lsD_scal (k_eqRule (aR) (aR)) (S7) rfl ⟨.inr ⟨_, .tail _ (.tail _ (.tail _ (.head _))), rfl, by simp [dr]⟩, .inr ⟨_, .head _, rfl, by simp [dr]⟩, trivial⟩ ?_ | refine ls_scal (k_eqRule (aR) (aR)) (S7) rfl ⟨.inr ⟨_, .tail _ (.tail _ (.tail _ (.head _))), rfl, by simp [dr]⟩, .inr ⟨_, .head _, rfl, by simp [dr]⟩, trivial⟩ ?_
  simp [e, ne, hl0, ht0, hl1, ht1, hl3, ht3, hl4, ht4, hl6, ht6, hl7, ht7]
  refine ls_mark (T1 := [_, _, _, _]) (m_markProgram (aP) (1) (by omega)) (S7) ?_
  intro h8x n8 S8
  have e := S8.eqs; have ne := S8.nes; simp only [bxE, bxN, Nat.zero_add, Nat.reduceAdd] at e ne
  have hq1 : ¬ 1 + cProgram aP < (0 : Int) := by omega
  simp [e, ne, hl0, ht0, hl1, ht1, hl3, ht3, hl4, ht4, hl6, ht6, hl7, ht7, hq1]
  refine ls_mark (T1 := [_, _, _]) (m_markRule (aR) (1 + cProgram aP) (by omega)) (S8) ?_
  intro h9x n9 S9
  have e := S9.eqs; have ne := S9.nes; simp only [bxE, bxN, Nat.zero_add, Nat.reduceAdd] at e ne
  have hq2 : ¬ 1 + cProgram aP + cRule aR < (0 : Int) := by omega
  simp [e, ne, hl0, ht0, hl1, ht1, hl3, ht3, hl4, ht4, hl6, ht6, hl7, ht7, hq2]
  first | refine lsD_scal (k_eqStringS ((scopeOf aP aR aN)) ((scopeOf aP aR aN))) (S9) rfl ⟨.inr ⟨_, .tail _ (.tail _ (.head _)), rfl, by simp [dr]⟩, .inr ⟨_, .tail _ (.tail _ (.tail _ (.tail _ (.tail _ (.head _))))), rfl, by simp [dr]⟩, trivial⟩ ?_ | refine ls_scal (k_eqStringS ((scopeOf aP aR aN)) ((scopeOf aP aR aN))) (S9) rfl ⟨.inr ⟨_, .tail _ (.tail _ (.head _)), rfl, by simp [dr]⟩, .inr ⟨_, .tail _ (.tail _ (.tail _ (.tail _ (.tail _ (.head _))))), rfl, by simp [dr]⟩, trivial⟩ ?_
  simp [e, ne, hl0, ht0, hl1, ht1, hl3, ht3, hl4, ht4, hl6, ht6, hl7, ht7]
  have hg := scopeOf_c aP aR aN hw_aP hw_aR
  have hm : ¬ 1 + (cStringS ((scopeOf aP aR aN)) : Int) < 0 := by omega
  refine ls_mark (T1 := [_, _]) (m_markStringS ((scopeOf aP aR aN)) (1) (by omega)) (S9) ?_
  intro h10x n10 S10
  have e := S10.eqs; have ne := S10.nes; simp only [bxE, bxN, Nat.zero_add, Nat.reduceAdd] at e ne
  have hq3 : ¬ 1 + cStringS ((scopeOf aP aR aN)) < (0 : Int) := by omega
  simp [e, ne, hl0, ht0, hl1, ht1, hl3, ht3, hl4, ht4, hl6, ht6, hl7, ht7, hq3]
  first | refine lsD_scal (k_heldStringS ((scopeOf aP aR aN)) (1) (by omega)) (S10) rfl ⟨.inr ⟨_, .tail _ (.tail _ (.head _)), rfl, by simp [dr]⟩, .inl (fun h => by first | rfl | simp), trivial⟩ ?_ | refine ls_scal (k_heldStringS ((scopeOf aP aR aN)) (1) (by omega)) (S10) rfl ⟨.inr ⟨_, .tail _ (.tail _ (.head _)), rfl, by simp [dr]⟩, .inl (fun h => by first | rfl | simp), trivial⟩ ?_
  simp [e, ne, hl0, ht0, hl1, ht1, hl3, ht3, hl4, ht4, hl6, ht6, hl7, ht7, hm]
  first | refine lsD_agg (k_toProgram aP hw_aP) (S10) (by simp) ⟨.inl (fun h => by first | rfl | simp), trivial⟩ ?_ | refine ls_agg (k_toProgram aP hw_aP) (S10) (by simp) ⟨.inl (fun h => by first | rfl | simp), trivial⟩ ?_
  intro c11 h11x n11 J11 S11 hl11 hc11
  have e := S11.eqs; have ne := S11.nes; simp only [bxE, bxN, Nat.zero_add, Nat.reduceAdd] at e ne; simp only [len_UProgram] at hl11
  have ht11 : List.take 2 c11 = c11 := List.take_of_length_le (by omega)
  simp [e, ne, hl0, ht0, hl1, ht1, hl3, ht3, hl4, ht4, hl6, ht6, hl7, ht7, hl11, ht11, hc11]
  first | refine lsD_agg (k_toRule aR hw_aR) (S11) (by simp) ⟨.inl (fun h => by first | rfl | simp), trivial⟩ ?_ | refine ls_agg (k_toRule aR hw_aR) (S11) (by simp) ⟨.inl (fun h => by first | rfl | simp), trivial⟩ ?_
  intro c12 h12x n12 J12 S12 hl12 hc12
  have e := S12.eqs; have ne := S12.nes; simp only [bxE, bxN, Nat.zero_add, Nat.reduceAdd] at e ne; simp only [len_URule] at hl12
  have ht12 : List.take 7 c12 = c12 := List.take_of_length_le (by omega)
  simp [e, ne, hl0, ht0, hl1, ht1, hl3, ht3, hl4, ht4, hl6, ht6, hl7, ht7, hl11, ht11, hl12, ht12, hc12]
  first | refine lsD_us (len := ((scopeOf aP aR aN)).length) (k_ScopeOf aP aR aN hw_aP hw_aR) (S12) (by simp) ⟨.inr ⟨_, .tail _ (.head _), rfl, by simp [dr]⟩, .inr ⟨_, .head _, rfl, by simp [dr]⟩, .inl (fun h => by first | rfl | simp), trivial⟩ ?_ | refine ls_us (len := ((scopeOf aP aR aN)).length) (k_ScopeOf aP aR aN hw_aP hw_aR) (S12) (by simp) ⟨.inr ⟨_, .tail _ (.head _), rfl, by simp [dr]⟩, .inr ⟨_, .head _, rfl, by simp [dr]⟩, .inl (fun h => by first | rfl | simp), trivial⟩ ?_
  intro d13 h13x n13 J13 S13
  have e := S13.eqs; have ne := S13.nes; simp only [bxE, bxN, Nat.zero_add, Nat.reduceAdd] at e ne
  simp [e, ne, hl0, ht0, hl1, ht1, hl3, ht3, hl4, ht4, hl6, ht6, hl7, ht7, hl11, ht11, hl12, ht12]
  first | refine lsD_scal (k_eqStringS ((scopeOf aP aR aN)) ((scopeOf aP aR aN))) (S13) rfl ⟨.inr ⟨_, .head _, rfl, by simp [dr]⟩, .inr ⟨_, .tail _ (.tail _ (.tail _ (.tail _ (.tail _ (.tail _ (.tail _ (.tail _ (.head _)))))))), rfl, by simp [dr]⟩, trivial⟩ ?_ | refine ls_scal (k_eqStringS ((scopeOf aP aR aN)) ((scopeOf aP aR aN))) (S13) rfl ⟨.inr ⟨_, .head _, rfl, by simp [dr]⟩, .inr ⟨_, .tail _ (.tail _ (.tail _ (.tail _ (.tail _ (.tail _ (.tail _ (.tail _ (.head _)))))))), rfl, by simp [dr]⟩, trivial⟩ ?_
  simp [e, ne, hl0, ht0, hl1, ht1, hl3, ht3, hl4, ht4, hl6, ht6, hl7, ht7, hl11, ht11, hl12, ht12]
  first | refine lsD_scal (k_heldStringS ((scopeOf aP aR aN)) (1) (by omega)) (S13) rfl ⟨.inr ⟨_, .tail _ (.tail _ (.tail _ (.tail _ (.tail _ (.head _))))), rfl, by simp [dr]⟩, .inl (fun h => by first | rfl | simp), trivial⟩ ?_ | refine ls_scal (k_heldStringS ((scopeOf aP aR aN)) (1) (by omega)) (S13) rfl ⟨.inr ⟨_, .tail _ (.tail _ (.tail _ (.tail _ (.tail _ (.head _))))), rfl, by simp [dr]⟩, .inl (fun h => by first | rfl | simp), trivial⟩ ?_
  simp [e, ne, hl0, ht0, hl1, ht1, hl3, ht3, hl4, ht4, hl6, ht6, hl7, ht7, hl11, ht11, hl12, ht12, hm]
end Go.Proofs.Ytlbdgpkgmheikaa

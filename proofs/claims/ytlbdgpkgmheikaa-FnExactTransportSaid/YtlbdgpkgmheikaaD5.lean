/- The body of FnExactTransport. -/
import Derived.Test.YtlbdgpkgmheikaaC9
import Derived.Test.YtlbdgpkgmheikaaM3A
import Derived.Test.YtlbdgpkgmheikaaRE
import Derived.Test.YtlbdgpkgmheikaaT2A
namespace Go.Proofs.Ytlbdgpkgmheikaa
set_option linter.all false
open Go Go.RowKit Go.Proofs
def a5 : AFn :=
⟨124, [(.t 6)], (.seq 
 (.reg [⟨some 3, (.boxv (.t 0)), no⟩, ⟨some 4, (.boxv (.t 1)), no⟩, ⟨some 6, (.mv (.k (.bool false))), no⟩]) (.seq 
 (.reg [⟨some 7, (.mv (.k (.int .i64 1048576))), no⟩]) (.seq 
 (.reg [⟨some 19, (.ld true 6 (.t 3)), no⟩, ⟨some 20, (.mv (.t 7)), no⟩, ⟨some 21, (.call (.k (.fn (.func 29) [] [])) [(.t 19), (.t 20)]), no⟩, ⟨some 7, (.mv (.t 21)), no⟩]) (.seq (.seq 
 (.reg [⟨some 22, (.mv (.t 7)), no⟩, ⟨some 23, (.bin .lss (.t 22) (.k (.int .i64 0))), no⟩]) (.cond (.t 23) (.seq 
 (.reg [⟨some 6, (.mv (.k (.bool true))), no⟩]) .ret) .skip)) (.seq 
 (.reg [⟨some 24, (.ld true 2 (.t 4)), no⟩, ⟨some 25, (.mv (.t 7)), no⟩, ⟨some 26, (.call (.k (.fn (.func 13) [] [])) [(.t 24), (.t 25)]), no⟩, ⟨some 7, (.mv (.t 26)), no⟩]) (.seq (.seq 
 (.reg [⟨some 27, (.mv (.t 7)), no⟩, ⟨some 28, (.bin .lss (.t 27) (.k (.int .i64 0))), no⟩]) (.cond (.t 28) (.seq 
 (.reg [⟨some 6, (.mv (.k (.bool true))), no⟩]) .ret) .skip)) (.seq (.draw (.op ⟨some 30, (.ld true 6 (.t 3)), no⟩ (.op ⟨some 32, (.ld true 2 (.t 4)), no⟩ (.op ⟨some 34, (.mv (.t 2)), no⟩ (.both (.op ⟨some 31, (.call (.k (.fn (.func 31) [] [])) [(.t 30)]), no⟩ (.both (.op ⟨some 33, (.call (.k (.fn (.func 16) [] [])) [(.t 32)]), no⟩ (.both (.op ⟨some 35, (.call (.k (.fn (.func 30) [] [])) [(.t 31), (.t 33), (.t 34)]), no⟩ (.op ⟨some 29, (.mv (.t 35)), no⟩ (.op ⟨some 36, (.ext (.t 29) 0), no⟩ (.op ⟨some 37, (.ext (.t 29) 1), no⟩ (.op ⟨some 8, (.box [(.int .i64 0), (.nil 1)]), no⟩ (.hop ⟨no, (.st 2 (.t 8) (.t 36)), no⟩ [] (.op ⟨some 9, (.mv (.t 37)), no⟩ .fin))))))) (.op ⟨some 8, (.box [(.int .i64 0), (.nil 1)]), no⟩ (.op ⟨some 35, (.call (.k (.fn (.func 30) [] [])) [(.t 31), (.t 33), (.t 34)]), no⟩ (.op ⟨some 29, (.mv (.t 35)), no⟩ (.op ⟨some 36, (.ext (.t 29) 0), no⟩ (.op ⟨some 37, (.ext (.t 29) 1), no⟩ (.hop ⟨no, (.st 2 (.t 8) (.t 36)), no⟩ [] (.op ⟨some 9, (.mv (.t 37)), no⟩ .fin))))))))) (.op ⟨some 8, (.box [(.int .i64 0), (.nil 1)]), no⟩ (.op ⟨some 33, (.call (.k (.fn (.func 16) [] [])) [(.t 32)]), no⟩ (.op ⟨some 35, (.call (.k (.fn (.func 30) [] [])) [(.t 31), (.t 33), (.t 34)]), no⟩ (.op ⟨some 29, (.mv (.t 35)), no⟩ (.op ⟨some 36, (.ext (.t 29) 0), no⟩ (.op ⟨some 37, (.ext (.t 29) 1), no⟩ (.hop ⟨no, (.st 2 (.t 8) (.t 36)), no⟩ [] (.op ⟨some 9, (.mv (.t 37)), no⟩ .fin)))))))))) (.op ⟨some 8, (.box [(.int .i64 0), (.nil 1)]), no⟩ (.op ⟨some 31, (.call (.k (.fn (.func 31) [] [])) [(.t 30)]), no⟩ (.op ⟨some 33, (.call (.k (.fn (.func 16) [] [])) [(.t 32)]), no⟩ (.op ⟨some 35, (.call (.k (.fn (.func 30) [] [])) [(.t 31), (.t 33), (.t 34)]), no⟩ (.op ⟨some 29, (.mv (.t 35)), no⟩ (.op ⟨some 36, (.ext (.t 29) 0), no⟩ (.op ⟨some 37, (.ext (.t 29) 1), no⟩ (.hop ⟨no, (.st 2 (.t 8) (.t 36)), no⟩ [] (.op ⟨some 9, (.mv (.t 37)), no⟩ .fin)))))))))))))) (.seq 
 (.reg [⟨some 38, (.ld true 6 (.t 3)), no⟩, ⟨some 39, (.call (.k (.fn (.func 31) [] [])) [(.t 38)]), no⟩, ⟨some 10, (.box [(.int .i64 0), (.nil 2), (.nil 2), (.nil 1), (.int .i64 0), (.nil 1)]), no⟩, ⟨no, (.st 6 (.t 10) (.t 39)), no⟩]) (.seq 
 (.reg [⟨some 40, (.ld true 2 (.t 4)), no⟩, ⟨some 41, (.call (.k (.fn (.func 16) [] [])) [(.t 40)]), no⟩, ⟨some 11, (.box [(.int .i64 0), (.nil 1)]), no⟩, ⟨no, (.st 2 (.t 11) (.t 41)), no⟩]) (.seq 
 (.reg [⟨some 43, (.ld true 6 (.t 10)), no⟩, ⟨some 44, (.ld true 2 (.t 11)), no⟩, ⟨some 45, (.mv (.t 2)), no⟩, ⟨some 46, (.call (.k (.fn (.func 32) [] [])) [(.t 43), (.t 44), (.t 45)]), no⟩, ⟨some 42, (.mv (.t 46)), no⟩, ⟨some 47, (.ext (.t 42) 0), no⟩, ⟨some 48, (.ext (.t 42) 1), no⟩, ⟨some 12, (.box [(.int .i64 0), (.nil 1)]), no⟩, ⟨no, (.st 2 (.t 12) (.t 47)), no⟩, ⟨some 13, (.mv (.t 48)), no⟩]) (.seq (.seq 
 (.reg [⟨some 49, (.ld true 2 (.t 12)), no⟩, ⟨some 50, (.ld true 2 (.t 8)), no⟩, ⟨some 51, (.call (.k (.fn (.func 19) [] [])) [(.t 49), (.t 50)]), no⟩, ⟨some 52, (.un .not (.t 51)), no⟩, ⟨some 53, (.mv (.t 52)), no⟩, ⟨some 54, (.mv (.t 13)), (some (53, false))⟩, ⟨some 55, (.mv (.t 9)), (some (53, false))⟩, ⟨some 56, (.beq true (.t 54) (.t 55)), (some (53, false))⟩, ⟨some 57, (.pick (.t 53) (.k (.bool true)) (.t 56)), no⟩]) (.cond (.t 57) (.seq 
 (.reg [⟨some 6, (.mv (.k (.bool false))), no⟩]) .ret) .skip)) (.seq (.seq (.draw (.op ⟨some 58, (.ld true 6 (.t 10)), no⟩ (.op ⟨some 59, (.ld true 6 (.t 3)), no⟩ (.op ⟨some 60, (.call (.k (.fn (.func 31) [] [])) [(.t 59)]), no⟩ (.op ⟨some 61, (.call (.k (.fn (.func 33) [] [])) [(.t 58), (.t 60)]), no⟩ (.op ⟨some 62, (.un .not (.t 61)), no⟩ .fin)))))) (.cond (.t 62) (.seq 
 (.reg [⟨some 6, (.mv (.k (.bool false))), no⟩]) .ret) .skip)) (.seq (.seq (.draw (.op ⟨some 63, (.ld true 2 (.t 11)), no⟩ (.op ⟨some 64, (.ld true 2 (.t 4)), no⟩ (.op ⟨some 65, (.call (.k (.fn (.func 16) [] [])) [(.t 64)]), no⟩ (.op ⟨some 66, (.call (.k (.fn (.func 19) [] [])) [(.t 63), (.t 65)]), no⟩ (.op ⟨some 67, (.un .not (.t 66)), no⟩ .fin)))))) (.cond (.t 67) (.seq 
 (.reg [⟨some 6, (.mv (.k (.bool false))), no⟩]) .ret) .skip)) (.seq 
 (.reg [⟨some 14, (.mv (.k (.int .i64 1))), no⟩]) (.seq 
 (.reg [⟨some 68, (.ld true 6 (.t 10)), no⟩, ⟨some 69, (.mv (.t 14)), no⟩, ⟨some 70, (.call (.k (.fn (.func 34) [] [])) [(.t 68), (.t 69)]), no⟩, ⟨some 14, (.mv (.t 70)), no⟩]) (.seq 
 (.reg [⟨some 71, (.ld true 2 (.t 11)), no⟩, ⟨some 72, (.mv (.t 14)), no⟩, ⟨some 73, (.call (.k (.fn (.func 21) [] [])) [(.t 71), (.t 72)]), no⟩, ⟨some 14, (.mv (.t 73)), no⟩]) (.seq (.seq 
 (.reg [⟨some 74, (.mv (.t 14)), no⟩, ⟨some 75, (.bin .lss (.t 74) (.k (.int .i64 0))), no⟩, ⟨some 76, (.mv (.t 75)), no⟩, ⟨some 77, (.ld true 2 (.t 12)), (some (76, false))⟩, ⟨some 78, (.ld true 2 (.t 8)), (some (76, false))⟩, ⟨some 79, (.call (.k (.fn (.func 19) [] [])) [(.t 77), (.t 78)]), (some (76, false))⟩, ⟨some 80, (.un .not (.t 79)), (some (76, false))⟩, ⟨some 81, (.pick (.t 76) (.k (.bool true)) (.t 80)), no⟩, ⟨some 82, (.mv (.t 81)), no⟩, ⟨some 83, (.mv (.t 13)), (some (82, false))⟩, ⟨some 84, (.mv (.t 9)), (some (82, false))⟩, ⟨some 85, (.beq true (.t 83) (.t 84)), (some (82, false))⟩, ⟨some 86, (.pick (.t 82) (.k (.bool true)) (.t 85)), no⟩]) (.cond (.t 86) (.seq 
 (.reg [⟨some 6, (.mv (.k (.bool false))), no⟩]) .ret) .skip)) (.seq 
 (.reg [⟨some 15, (.mv (.k (.int .i64 1))), no⟩]) (.seq 
 (.reg [⟨some 87, (.ld true 2 (.t 12)), no⟩, ⟨some 88, (.mv (.t 15)), no⟩, ⟨some 89, (.call (.k (.fn (.func 21) [] [])) [(.t 87), (.t 88)]), no⟩, ⟨some 15, (.mv (.t 89)), no⟩]) (.seq 
 (.reg [⟨some 16, (.mv (.k (.int .i64 1))), no⟩]) (.seq 
 (.reg [⟨some 90, (.ld true 2 (.t 12)), no⟩, ⟨some 91, (.mv (.t 16)), no⟩, ⟨some 92, (.call (.k (.fn (.func 23) [] [])) [(.t 90), (.t 91)]), no⟩, ⟨some 16, (.mv (.t 92)), no⟩]) (.seq (.seq 
 (.reg [⟨some 93, (.mv (.t 16)), no⟩, ⟨some 94, (.bin .lss (.t 93) (.k (.int .i64 0))), no⟩]) (.cond (.t 94) (.seq 
 (.reg [⟨some 6, (.mv (.k (.bool false))), no⟩]) .ret) .skip)) (.seq (.seq 
 (.reg [⟨some 95, (.mv (.t 16)), no⟩, ⟨some 96, (.mv (.t 15)), no⟩, ⟨some 97, (.bin .neq (.t 95) (.t 96)), no⟩]) (.cond (.t 97) (.seq 
 (.reg [⟨some 6, (.mv (.k (.bool false))), no⟩]) .ret) .skip)) (.seq (.draw (.op ⟨some 99, (.ld true 6 (.t 3)), no⟩ (.op ⟨some 101, (.ld true 2 (.t 4)), no⟩ (.op ⟨some 103, (.mv (.t 2)), no⟩ (.both (.op ⟨some 100, (.call (.k (.fn (.func 31) [] [])) [(.t 99)]), no⟩ (.both (.op ⟨some 102, (.call (.k (.fn (.func 16) [] [])) [(.t 101)]), no⟩ (.both (.op ⟨some 104, (.call (.k (.fn (.func 32) [] [])) [(.t 100), (.t 102), (.t 103)]), no⟩ (.op ⟨some 98, (.mv (.t 104)), no⟩ (.op ⟨some 105, (.ext (.t 98) 0), no⟩ (.op ⟨some 106, (.ext (.t 98) 1), no⟩ (.op ⟨some 17, (.box [(.int .i64 0), (.nil 1)]), no⟩ (.hop ⟨no, (.st 2 (.t 17) (.t 105)), no⟩ [] (.op ⟨some 18, (.mv (.t 106)), no⟩ .fin))))))) (.op ⟨some 17, (.box [(.int .i64 0), (.nil 1)]), no⟩ (.op ⟨some 104, (.call (.k (.fn (.func 32) [] [])) [(.t 100), (.t 102), (.t 103)]), no⟩ (.op ⟨some 98, (.mv (.t 104)), no⟩ (.op ⟨some 105, (.ext (.t 98) 0), no⟩ (.op ⟨some 106, (.ext (.t 98) 1), no⟩ (.hop ⟨no, (.st 2 (.t 17) (.t 105)), no⟩ [] (.op ⟨some 18, (.mv (.t 106)), no⟩ .fin))))))))) (.op ⟨some 17, (.box [(.int .i64 0), (.nil 1)]), no⟩ (.op ⟨some 102, (.call (.k (.fn (.func 16) [] [])) [(.t 101)]), no⟩ (.op ⟨some 104, (.call (.k (.fn (.func 32) [] [])) [(.t 100), (.t 102), (.t 103)]), no⟩ (.op ⟨some 98, (.mv (.t 104)), no⟩ (.op ⟨some 105, (.ext (.t 98) 0), no⟩ (.op ⟨some 106, (.ext (.t 98) 1), no⟩ (.hop ⟨no, (.st 2 (.t 17) (.t 105)), no⟩ [] (.op ⟨some 18, (.mv (.t 106)), no⟩ .fin)))))))))) (.op ⟨some 17, (.box [(.int .i64 0), (.nil 1)]), no⟩ (.op ⟨some 100, (.call (.k (.fn (.func 31) [] [])) [(.t 99)]), no⟩ (.op ⟨some 102, (.call (.k (.fn (.func 16) [] [])) [(.t 101)]), no⟩ (.op ⟨some 104, (.call (.k (.fn (.func 32) [] [])) [(.t 100), (.t 102), (.t 103)]), no⟩ (.op ⟨some 98, (.mv (.t 104)), no⟩ (.op ⟨some 105, (.ext (.t 98) 0), no⟩ (.op ⟨some 106, (.ext (.t 98) 1), no⟩ (.hop ⟨no, (.st 2 (.t 17) (.t 105)), no⟩ [] (.op ⟨some 18, (.mv (.t 106)), no⟩ .fin)))))))))))))) (.seq (.seq 
 (.reg [⟨some 107, (.ld true 2 (.t 17)), no⟩, ⟨some 108, (.ld true 2 (.t 8)), no⟩, ⟨some 109, (.call (.k (.fn (.func 19) [] [])) [(.t 107), (.t 108)]), no⟩, ⟨some 110, (.un .not (.t 109)), no⟩, ⟨some 111, (.mv (.t 110)), no⟩, ⟨some 112, (.mv (.t 18)), (some (111, false))⟩, ⟨some 113, (.mv (.t 9)), (some (111, false))⟩, ⟨some 114, (.beq true (.t 112) (.t 113)), (some (111, false))⟩, ⟨some 115, (.pick (.t 111) (.k (.bool true)) (.t 114)), no⟩]) (.cond (.t 115) (.seq 
 (.reg [⟨some 6, (.mv (.k (.bool false))), no⟩]) .ret) .skip)) (.seq 
 (.reg [⟨some 16, (.mv (.k (.int .i64 1))), no⟩]) (.seq 
 (.reg [⟨some 116, (.ld true 2 (.t 12)), no⟩, ⟨some 117, (.mv (.t 16)), no⟩, ⟨some 118, (.call (.k (.fn (.func 23) [] [])) [(.t 116), (.t 117)]), no⟩, ⟨some 16, (.mv (.t 118)), no⟩]) (.seq (.seq 
 (.reg [⟨some 119, (.mv (.t 16)), no⟩, ⟨some 120, (.bin .lss (.t 119) (.k (.int .i64 0))), no⟩]) (.cond (.t 120) (.seq 
 (.reg [⟨some 6, (.mv (.k (.bool false))), no⟩]) .ret) .skip)) (.seq (.seq 
 (.reg [⟨some 121, (.mv (.t 16)), no⟩, ⟨some 122, (.mv (.t 15)), no⟩, ⟨some 123, (.bin .neq (.t 121) (.t 122)), no⟩]) (.cond (.t 123) (.seq 
 (.reg [⟨some 6, (.mv (.k (.bool false))), no⟩]) .ret) .skip)) (.seq 
 (.reg [⟨some 6, (.mv (.k (.bool true))), no⟩]) .ret))))))))))))))))))))))))))))))⟩
theorem a5_ok : compFn Try.prog Try.f5 = some a5 := by kernel_rfl


theorem k_Transport_o (aM : DModel) (aL : DLin) (aCall : Int) : Holds Try.prog 32 [.agg (rAModel aM), .agg (rALin aL), i64 aCall] (fun r => r = .tup [.agg (rULin ((transp aM aL aCall).getD lin0)), .bool (transp aM aL aCall).isSome]) := by
  have h := k_Transport aM aL aCall
  rw [optLin_eq] at h
  exact h
theorem ks_Transport_o (aM : DModel) (aL : DLin) (aCall : Int) : Holds Try.prog 30 [.agg (rAModel aM), .agg (rALin aL), i64 aCall] (fun r => r = .tup [.agg (rULin ((transp aM aL aCall).getD lin0)), .bool (transp aM aL aCall).isSome]) := by
  have h := ks_Transport aM aL aCall
  rw [optLin_eq] at h
  exact h

set_option maxRecDepth 40000 in
set_option maxHeartbeats 4000000 in
theorem law_Transport (aM : DModel) (aL : DLin) (aCall : Int) : Holds Try.prog 5 [.agg (rAModel aM), .agg (rALin aL), i64 aCall] (fun x => x = .bool true) := by
  refine holds_of_run Try.func5 a5_ok rfl (by simp [a5]) ?_
  simp [a5]
  first | refine callD_of (k_szModel aM 1048576 (by omega)) (by simp) ?_ | refine call_of (k_szModel aM 1048576 (by omega)) (by simp) ?_ | refine callD_of (k_szModel aM 1048576 (by omega)) rfl ?_ | refine call_of (k_szModel aM 1048576 (by omega)) rfl ?_
  rintro r rfl
  by_cases h1 : 1048576 - (wModel aM : Int) < 0
  · simp [sub1, h1]
  simp [sub1, h1]
  first | refine callD_of (k_szLin aL (1048576 - (wModel aM : Int)) (by omega)) (by simp) ?_ | refine call_of (k_szLin aL (1048576 - (wModel aM : Int)) (by omega)) (by simp) ?_ | refine callD_of (k_szLin aL (1048576 - (wModel aM : Int)) (by omega)) rfl ?_ | refine call_of (k_szLin aL (1048576 - (wModel aM : Int)) (by omega)) rfl ?_
  rintro r rfl
  by_cases h2 : 1048576 - (wModel aM : Int) - (wLin aL : Int) < 0
  · simp [sub1, h2]
  simp [sub1, h2]
  have hw_aM : wModel aM ≤ 1048576 := by omega
  have hw_aL : wLin aL ≤ 1048576 := by omega
  have hb_aM := cw_Model aM
  have hb_aL := cw_Lin aL
  refine cut_law2 (((LS.start).push).push) [2, 3, 4] 8 2 (rULin ((transp aM aL aCall).getD lin0)) [(9, .bool ((transp aM aL aCall).isSome))] ?_ ?_ ?_
  · skip
    first | refine lsD_agg (k_toModel aM hw_aM) (((LS.start).push).push) (by simp) ⟨.inl (fun h => by first | rfl | simp), trivial⟩ ?_ | refine ls_agg (k_toModel aM hw_aM) (((LS.start).push).push) (by simp) ⟨.inl (fun h => by first | rfl | simp), trivial⟩ ?_
    intro c0 h0x n0 J0 S0 hl0 hc0
    have e := S0.eqs; have ne := S0.nes; simp only [bxE, bxN, Nat.zero_add, Nat.reduceAdd] at e ne; simp only [len_UModel] at hl0
    have ht0 : List.take 6 c0 = c0 := List.take_of_length_le (by omega)
    simp [e, ne, hl0, ht0, hc0]
    refine ⟨?_, ?_⟩
    · skip
      first | refine lsD_agg (k_toLin aL hw_aL) (S0) (by simp) ⟨.inl (fun h => by first | rfl | simp), trivial⟩ ?_ | refine ls_agg (k_toLin aL hw_aL) (S0) (by simp) ⟨.inl (fun h => by first | rfl | simp), trivial⟩ ?_
      intro c1 h1x n1 J1 S1 hl1 hc1
      have e := S1.eqs; have ne := S1.nes; simp only [bxE, bxN, Nat.zero_add, Nat.reduceAdd] at e ne; simp only [len_ULin] at hl1
      have ht1 : List.take 2 c1 = c1 := List.take_of_length_le (by omega)
      simp [e, ne, hl0, ht0, hl1, ht1, hc1]
      refine ⟨?_, ?_⟩
      · skip
        first | refine lsD_agg2 (ks_Transport_o aM aL aCall) (S1) rfl (by simp) ⟨.inr ⟨_, .tail _ (.head _), rfl, by simp [dr]⟩, .inr ⟨_, .head _, rfl, by simp [dr]⟩, .inl (fun h => by first | rfl | simp), trivial⟩ ?_ | refine ls_agg2 (ks_Transport_o aM aL aCall) (S1) rfl (by simp) ⟨.inr ⟨_, .tail _ (.head _), rfl, by simp [dr]⟩, .inr ⟨_, .head _, rfl, by simp [dr]⟩, .inl (fun h => by first | rfl | simp), trivial⟩ ?_
        intro c2 h2x n2 J2 S2 hl2 hc2
        have e := S2.eqs; have ne := S2.nes; simp only [bxE, bxN, Nat.zero_add, Nat.reduceAdd] at e ne; simp only [len_ULin] at hl2
        have ht2 : List.take 2 c2 = c2 := List.take_of_length_le (by omega)
        simp [e, ne, hl0, ht0, hl1, ht1, hl2, ht2, hc2]
        refine ⟨c2, J2, _, hl2, ((S2).push).sub (.cons₂ _ (.cons _ (.cons _ (.slnil)))), ?_⟩
        simp [e, ne, hl0, ht0, hl1, ht1, hl2, ht2]
      · skip
        first | refine lsD_agg2 (ks_Transport_o aM aL aCall) ((S1).push) rfl (by simp) ⟨.inr ⟨_, .tail _ (.head _), rfl, by simp [dr]⟩, .inr ⟨_, .head _, rfl, by simp [dr]⟩, .inl (fun h => by first | rfl | simp), trivial⟩ ?_ | refine ls_agg2 (ks_Transport_o aM aL aCall) ((S1).push) rfl (by simp) ⟨.inr ⟨_, .tail _ (.head _), rfl, by simp [dr]⟩, .inr ⟨_, .head _, rfl, by simp [dr]⟩, .inl (fun h => by first | rfl | simp), trivial⟩ ?_
        intro c3 h3x n3 J3 S3 hl3 hc3
        have e := S3.eqs; have ne := S3.nes; simp only [bxE, bxN, Nat.zero_add, Nat.reduceAdd] at e ne; simp only [len_ULin] at hl3
        have ht3 : List.take 2 c3 = c3 := List.take_of_length_le (by omega)
        simp [e, ne, hl0, ht0, hl1, ht1, hl3, ht3, hc3]
        refine ⟨c3, J3, _, hl3, ((S3).set).sub (.cons₂ _ (.cons _ (.cons _ (.slnil)))), ?_⟩
        simp [e, ne, hl0, ht0, hl1, ht1, hl3, ht3]
    · skip
      first | refine lsD_agg (k_toLin aL hw_aL) ((S0).push) (by simp) ⟨.inl (fun h => by first | rfl | simp), trivial⟩ ?_ | refine ls_agg (k_toLin aL hw_aL) ((S0).push) (by simp) ⟨.inl (fun h => by first | rfl | simp), trivial⟩ ?_
      intro c4 h4x n4 J4 S4 hl4 hc4
      have e := S4.eqs; have ne := S4.nes; simp only [bxE, bxN, Nat.zero_add, Nat.reduceAdd] at e ne; simp only [len_ULin] at hl4
      have ht4 : List.take 2 c4 = c4 := List.take_of_length_le (by omega)
      simp [e, ne, hl0, ht0, hl4, ht4, hc4]
      first | refine lsD_agg2 (ks_Transport_o aM aL aCall) (S4) rfl (by simp) ⟨.inr ⟨_, .tail _ (.head _), rfl, by simp [dr]⟩, .inr ⟨_, .head _, rfl, by simp [dr]⟩, .inl (fun h => by first | rfl | simp), trivial⟩ ?_ | refine ls_agg2 (ks_Transport_o aM aL aCall) (S4) rfl (by simp) ⟨.inr ⟨_, .tail _ (.head _), rfl, by simp [dr]⟩, .inr ⟨_, .head _, rfl, by simp [dr]⟩, .inl (fun h => by first | rfl | simp), trivial⟩ ?_
      intro c5 h5x n5 J5 S5 hl5 hc5
      have e := S5.eqs; have ne := S5.nes; simp only [bxE, bxN, Nat.zero_add, Nat.reduceAdd] at e ne; simp only [len_ULin] at hl5
      have ht5 : List.take 2 c5 = c5 := List.take_of_length_le (by omega)
      simp [e, ne, hl0, ht0, hl4, ht4, hl5, ht5, hc5]
      refine ⟨c5, J5, _, hl5, ((S5).set).sub (.cons₂ _ (.cons _ (.cons _ (.slnil)))), ?_⟩
      simp [e, ne, hl0, ht0, hl4, ht4, hl5, ht5]
  · skip
    first | refine lsD_agg (k_toModel aM hw_aM) ((((LS.start).push).push).push) (by simp) ⟨.inl (fun h => by first | rfl | simp), trivial⟩ ?_ | refine ls_agg (k_toModel aM hw_aM) ((((LS.start).push).push).push) (by simp) ⟨.inl (fun h => by first | rfl | simp), trivial⟩ ?_
    intro c6 h6x n6 J6 S6 hl6 hc6
    have e := S6.eqs; have ne := S6.nes; simp only [bxE, bxN, Nat.zero_add, Nat.reduceAdd] at e ne; simp only [len_UModel] at hl6
    have ht6 : List.take 6 c6 = c6 := List.take_of_length_le (by omega)
    simp [e, ne, hl6, ht6, hc6]
    first | refine lsD_agg (k_toLin aL hw_aL) (S6) (by simp) ⟨.inl (fun h => by first | rfl | simp), trivial⟩ ?_ | refine ls_agg (k_toLin aL hw_aL) (S6) (by simp) ⟨.inl (fun h => by first | rfl | simp), trivial⟩ ?_
    intro c7 h7x n7 J7 S7 hl7 hc7
    have e := S7.eqs; have ne := S7.nes; simp only [bxE, bxN, Nat.zero_add, Nat.reduceAdd] at e ne; simp only [len_ULin] at hl7
    have ht7 : List.take 2 c7 = c7 := List.take_of_length_le (by omega)
    simp [e, ne, hl6, ht6, hl7, ht7, hc7]
    first | refine lsD_agg2 (ks_Transport_o aM aL aCall) (S7) rfl (by simp) ⟨.inr ⟨_, .tail _ (.head _), rfl, by simp [dr]⟩, .inr ⟨_, .head _, rfl, by simp [dr]⟩, .inl (fun h => by first | rfl | simp), trivial⟩ ?_ | refine ls_agg2 (ks_Transport_o aM aL aCall) (S7) rfl (by simp) ⟨.inr ⟨_, .tail _ (.head _), rfl, by simp [dr]⟩, .inr ⟨_, .head _, rfl, by simp [dr]⟩, .inl (fun h => by first | rfl | simp), trivial⟩ ?_
    intro c8 h8x n8 J8 S8 hl8 hc8
    have e := S8.eqs; have ne := S8.nes; simp only [bxE, bxN, Nat.zero_add, Nat.reduceAdd] at e ne; simp only [len_ULin] at hl8
    have ht8 : List.take 2 c8 = c8 := List.take_of_length_le (by omega)
    simp [e, ne, hl6, ht6, hl7, ht7, hl8, ht8, hc8]
    refine ⟨c8, J8, _, hl8, ((S8).set).sub (.cons₂ _ (.cons _ (.cons _ (.slnil)))), ?_⟩
    simp [e, ne, hl6, ht6, hl7, ht7, hl8, ht8]
  rintro s1x h9x n9 ⟨c9, J9, b9, hl9, S9, hb1, hf1, hk1⟩
  have e := S9.eqs; have ne := S9.nes; simp only [bxE, bxN, Nat.zero_add, Nat.reduceAdd] at e ne
  have ht9 : List.take 2 c9 = c9 := List.take_of_length_le (by omega)
  simp at hf1 hk1
  simp [e, ne, hb1, hf1, hk1, hl9, ht9]
  first | refine lsD_agg (k_toModel aM hw_aM) (S9) (by simp) ⟨.inl (fun h => by first | rfl | simp), trivial⟩ ?_ | refine ls_agg (k_toModel aM hw_aM) (S9) (by simp) ⟨.inl (fun h => by first | rfl | simp), trivial⟩ ?_
  intro c10 h10x n10 J10 S10 hl10 hc10
  have e := S10.eqs; have ne := S10.nes; simp only [bxE, bxN, Nat.zero_add, Nat.reduceAdd] at e ne; simp only [len_UModel] at hl10
  have ht10 : List.take 6 c10 = c10 := List.take_of_length_le (by omega)
  simp [e, ne, hb1, hf1, hk1, hl9, ht9, hl10, ht10, hc10]
  first | refine lsD_agg (k_toLin aL hw_aL) ((S10).push) (by simp) ⟨.inl (fun h => by first | rfl | simp), trivial⟩ ?_ | refine ls_agg (k_toLin aL hw_aL) ((S10).push) (by simp) ⟨.inl (fun h => by first | rfl | simp), trivial⟩ ?_
  intro c11 h11x n11 J11 S11 hl11 hc11
  have e := S11.eqs; have ne := S11.nes; simp only [bxE, bxN, Nat.zero_add, Nat.reduceAdd] at e ne; simp only [len_ULin] at hl11
  have ht11 : List.take 2 c11 = c11 := List.take_of_length_le (by omega)
  simp [e, ne, hb1, hf1, hk1, hl9, ht9, hl10, ht10, hl11, ht11, hc11]
  first | refine lsD_agg2 (k_Transport_o aM aL aCall) ((S11).push) rfl (by simp) ⟨.inr ⟨_, .tail _ (.head _), rfl, by simp [dr]⟩, .inr ⟨_, .head _, rfl, by simp [dr]⟩, .inl (fun h => by first | rfl | simp), trivial⟩ ?_ | refine ls_agg2 (k_Transport_o aM aL aCall) ((S11).push) rfl (by simp) ⟨.inr ⟨_, .tail _ (.head _), rfl, by simp [dr]⟩, .inr ⟨_, .head _, rfl, by simp [dr]⟩, .inl (fun h => by first | rfl | simp), trivial⟩ ?_
  intro c12 h12x n12 J12 S12 hl12 hc12
  have e := S12.eqs; have ne := S12.nes; simp only [bxE, bxN, Nat.zero_add, Nat.reduceAdd] at e ne; simp only [len_ULin] at hl12
  have ht12 : List.take 2 c12 = c12 := List.take_of_length_le (by omega)
  simp [e, ne, hb1, hf1, hk1, hl9, ht9, hl10, ht10, hl11, ht11, hl12, ht12, hc12]
  first | refine lsD_scal (k_eqLin ((transp aM aL aCall).getD lin0) ((transp aM aL aCall).getD lin0)) ((S12).push) rfl ⟨.inr ⟨_, .head _, rfl, by simp [dr]⟩, .inr ⟨_, .tail _ (.tail _ (.tail _ (.head _))), rfl, by simp [dr]⟩, trivial⟩ ?_ | refine ls_scal (k_eqLin ((transp aM aL aCall).getD lin0) ((transp aM aL aCall).getD lin0)) ((S12).push) rfl ⟨.inr ⟨_, .head _, rfl, by simp [dr]⟩, .inr ⟨_, .tail _ (.tail _ (.tail _ (.head _))), rfl, by simp [dr]⟩, trivial⟩ ?_
  simp [e, ne, hb1, hf1, hk1, hl9, ht9, hl10, ht10, hl11, ht11, hl12, ht12]
  first | refine lsD_agg (k_toModel aM hw_aM) ((S12).push) (by simp) ⟨.inl (fun h => by first | rfl | simp), trivial⟩ ?_ | refine ls_agg (k_toModel aM hw_aM) ((S12).push) (by simp) ⟨.inl (fun h => by first | rfl | simp), trivial⟩ ?_
  intro c13 h13x n13 J13 S13 hl13 hc13
  have e := S13.eqs; have ne := S13.nes; simp only [bxE, bxN, Nat.zero_add, Nat.reduceAdd] at e ne; simp only [len_UModel] at hl13
  have ht13 : List.take 6 c13 = c13 := List.take_of_length_le (by omega)
  simp [e, ne, hb1, hf1, hk1, hl9, ht9, hl10, ht10, hl11, ht11, hl12, ht12, hl13, ht13, hc13]
  first | refine lsD_scal (k_eqModel (aM) (aM)) (S13) rfl ⟨.inr ⟨_, .tail _ (.tail _ (.tail _ (.head _))), rfl, by simp [dr]⟩, .inr ⟨_, .head _, rfl, by simp [dr]⟩, trivial⟩ ?_ | refine ls_scal (k_eqModel (aM) (aM)) (S13) rfl ⟨.inr ⟨_, .tail _ (.tail _ (.tail _ (.head _))), rfl, by simp [dr]⟩, .inr ⟨_, .head _, rfl, by simp [dr]⟩, trivial⟩ ?_
  simp [e, ne, hb1, hf1, hk1, hl9, ht9, hl10, ht10, hl11, ht11, hl12, ht12, hl13, ht13]
  first | refine lsD_agg (k_toLin aL hw_aL) (S13) (by simp) ⟨.inl (fun h => by first | rfl | simp), trivial⟩ ?_ | refine ls_agg (k_toLin aL hw_aL) (S13) (by simp) ⟨.inl (fun h => by first | rfl | simp), trivial⟩ ?_
  intro c14 h14x n14 J14 S14 hl14 hc14
  have e := S14.eqs; have ne := S14.nes; simp only [bxE, bxN, Nat.zero_add, Nat.reduceAdd] at e ne; simp only [len_ULin] at hl14
  have ht14 : List.take 2 c14 = c14 := List.take_of_length_le (by omega)
  simp [e, ne, hb1, hf1, hk1, hl9, ht9, hl10, ht10, hl11, ht11, hl12, ht12, hl13, ht13, hl14, ht14, hc14]
  first | refine lsD_scal (k_eqLin (aL) (aL)) (S14) rfl ⟨.inr ⟨_, .tail _ (.tail _ (.tail _ (.head _))), rfl, by simp [dr]⟩, .inr ⟨_, .head _, rfl, by simp [dr]⟩, trivial⟩ ?_ | refine ls_scal (k_eqLin (aL) (aL)) (S14) rfl ⟨.inr ⟨_, .tail _ (.tail _ (.tail _ (.head _))), rfl, by simp [dr]⟩, .inr ⟨_, .head _, rfl, by simp [dr]⟩, trivial⟩ ?_
  simp [e, ne, hb1, hf1, hk1, hl9, ht9, hl10, ht10, hl11, ht11, hl12, ht12, hl13, ht13, hl14, ht14]
  refine ls_mark (T1 := [_, _, _, _]) (m_markModel (aM) (1) (by omega)) (S14) ?_
  intro h15x n15 S15
  have e := S15.eqs; have ne := S15.nes; simp only [bxE, bxN, Nat.zero_add, Nat.reduceAdd] at e ne
  have hq1 : ¬ 1 + cModel aM < (0 : Int) := by omega
  simp [e, ne, hb1, hf1, hk1, hl9, ht9, hl10, ht10, hl11, ht11, hl12, ht12, hl13, ht13, hl14, ht14, hq1]
  refine ls_mark (T1 := [_, _, _]) (m_markLin (aL) (1 + cModel aM) (by omega)) (S15) ?_
  intro h16x n16 S16
  have e := S16.eqs; have ne := S16.nes; simp only [bxE, bxN, Nat.zero_add, Nat.reduceAdd] at e ne
  have hq2 : ¬ 1 + cModel aM + cLin aL < (0 : Int) := by omega
  simp [e, ne, hb1, hf1, hk1, hl9, ht9, hl10, ht10, hl11, ht11, hl12, ht12, hl13, ht13, hl14, ht14, hq2]
  first | refine lsD_scal (k_eqLin ((transp aM aL aCall).getD lin0) ((transp aM aL aCall).getD lin0)) (S16) rfl ⟨.inr ⟨_, .tail _ (.tail _ (.head _)), rfl, by simp [dr]⟩, .inr ⟨_, .tail _ (.tail _ (.tail _ (.tail _ (.tail _ (.head _))))), rfl, by simp [dr]⟩, trivial⟩ ?_ | refine ls_scal (k_eqLin ((transp aM aL aCall).getD lin0) ((transp aM aL aCall).getD lin0)) (S16) rfl ⟨.inr ⟨_, .tail _ (.tail _ (.head _)), rfl, by simp [dr]⟩, .inr ⟨_, .tail _ (.tail _ (.tail _ (.tail _ (.tail _ (.head _))))), rfl, by simp [dr]⟩, trivial⟩ ?_
  simp [e, ne, hb1, hf1, hk1, hl9, ht9, hl10, ht10, hl11, ht11, hl12, ht12, hl13, ht13, hl14, ht14]
  have hg := transp_c aM aL aCall
  have hm : ¬ 1 + (cLin ((transp aM aL aCall).getD lin0) : Int) < 0 := by omega
  refine ls_mark (T1 := [_, _]) (m_markLin ((transp aM aL aCall).getD lin0) (1) (by omega)) (S16) ?_
  intro h17x n17 S17
  have e := S17.eqs; have ne := S17.nes; simp only [bxE, bxN, Nat.zero_add, Nat.reduceAdd] at e ne
  have hq3 : ¬ 1 + cLin ((transp aM aL aCall).getD lin0) < (0 : Int) := by omega
  simp [e, ne, hb1, hf1, hk1, hl9, ht9, hl10, ht10, hl11, ht11, hl12, ht12, hl13, ht13, hl14, ht14, hq3]
  first | refine lsD_scal (k_heldLin ((transp aM aL aCall).getD lin0) (1) (by omega)) (S17) rfl ⟨.inr ⟨_, .tail _ (.tail _ (.head _)), rfl, by simp [dr]⟩, .inl (fun h => by first | rfl | simp), trivial⟩ ?_ | refine ls_scal (k_heldLin ((transp aM aL aCall).getD lin0) (1) (by omega)) (S17) rfl ⟨.inr ⟨_, .tail _ (.tail _ (.head _)), rfl, by simp [dr]⟩, .inl (fun h => by first | rfl | simp), trivial⟩ ?_
  simp [e, ne, hb1, hf1, hk1, hl9, ht9, hl10, ht10, hl11, ht11, hl12, ht12, hl13, ht13, hl14, ht14, hm]
  refine cut_law2 (S17) [8, 9, 12, 15, 16] 17 2 (rULin ((transp aM aL aCall).getD lin0)) [(18, .bool ((transp aM aL aCall).isSome))] ?_ ?_ ?_
  · skip
    first | refine lsD_agg (k_toModel aM hw_aM) (S17) (by simp) ⟨.inl (fun h => by first | rfl | simp), trivial⟩ ?_ | refine ls_agg (k_toModel aM hw_aM) (S17) (by simp) ⟨.inl (fun h => by first | rfl | simp), trivial⟩ ?_
    intro c18 h18x n18 J18 S18 hl18 hc18
    have e := S18.eqs; have ne := S18.nes; simp only [bxE, bxN, Nat.zero_add, Nat.reduceAdd] at e ne; simp only [len_UModel] at hl18
    have ht18 : List.take 6 c18 = c18 := List.take_of_length_le (by omega)
    simp [e, ne, hb1, hf1, hk1, hl9, ht9, hl10, ht10, hl11, ht11, hl12, ht12, hl13, ht13, hl14, ht14, hl18, ht18, hc18]
    refine ⟨?_, ?_⟩
    · skip
      first | refine lsD_agg (k_toLin aL hw_aL) (S18) (by simp) ⟨.inl (fun h => by first | rfl | simp), trivial⟩ ?_ | refine ls_agg (k_toLin aL hw_aL) (S18) (by simp) ⟨.inl (fun h => by first | rfl | simp), trivial⟩ ?_
      intro c19 h19x n19 J19 S19 hl19 hc19
      have e := S19.eqs; have ne := S19.nes; simp only [bxE, bxN, Nat.zero_add, Nat.reduceAdd] at e ne; simp only [len_ULin] at hl19
      have ht19 : List.take 2 c19 = c19 := List.take_of_length_le (by omega)
      simp [e, ne, hb1, hf1, hk1, hl9, ht9, hl10, ht10, hl11, ht11, hl12, ht12, hl13, ht13, hl14, ht14, hl18, ht18, hl19, ht19, hc19]
      refine ⟨?_, ?_⟩
      · skip
        first | refine lsD_agg2 (k_Transport_o aM aL aCall) (S19) rfl (by simp) ⟨.inr ⟨_, .tail _ (.head _), rfl, by simp [dr]⟩, .inr ⟨_, .head _, rfl, by simp [dr]⟩, .inl (fun h => by first | rfl | simp), trivial⟩ ?_ | refine ls_agg2 (k_Transport_o aM aL aCall) (S19) rfl (by simp) ⟨.inr ⟨_, .tail _ (.head _), rfl, by simp [dr]⟩, .inr ⟨_, .head _, rfl, by simp [dr]⟩, .inl (fun h => by first | rfl | simp), trivial⟩ ?_
        intro c20 h20x n20 J20 S20 hl20 hc20
        have e := S20.eqs; have ne := S20.nes; simp only [bxE, bxN, Nat.zero_add, Nat.reduceAdd] at e ne; simp only [len_ULin] at hl20
        have ht20 : List.take 2 c20 = c20 := List.take_of_length_le (by omega)
        simp [e, ne, hb1, hf1, hk1, hl9, ht9, hl10, ht10, hl11, ht11, hl12, ht12, hl13, ht13, hl14, ht14, hl18, ht18, hl19, ht19, hl20, ht20, hc20]
        refine ⟨c20, J20, _, hl20, ((S20).push).sub (.cons₂ _ (.cons _ (.cons _ (.cons₂ _ (.cons₂ _ (.cons₂ _ (.cons₂ _ (.cons₂ _ (.cons₂ _ (.slnil)))))))))), ?_⟩
        simp [e, ne, hb1, hf1, hk1, hl9, ht9, hl10, ht10, hl11, ht11, hl12, ht12, hl13, ht13, hl14, ht14, hl18, ht18, hl19, ht19, hl20, ht20]
      · skip
        first | refine lsD_agg2 (k_Transport_o aM aL aCall) ((S19).push) rfl (by simp) ⟨.inr ⟨_, .tail _ (.head _), rfl, by simp [dr]⟩, .inr ⟨_, .head _, rfl, by simp [dr]⟩, .inl (fun h => by first | rfl | simp), trivial⟩ ?_ | refine ls_agg2 (k_Transport_o aM aL aCall) ((S19).push) rfl (by simp) ⟨.inr ⟨_, .tail _ (.head _), rfl, by simp [dr]⟩, .inr ⟨_, .head _, rfl, by simp [dr]⟩, .inl (fun h => by first | rfl | simp), trivial⟩ ?_
        intro c21 h21x n21 J21 S21 hl21 hc21
        have e := S21.eqs; have ne := S21.nes; simp only [bxE, bxN, Nat.zero_add, Nat.reduceAdd] at e ne; simp only [len_ULin] at hl21
        have ht21 : List.take 2 c21 = c21 := List.take_of_length_le (by omega)
        simp [e, ne, hb1, hf1, hk1, hl9, ht9, hl10, ht10, hl11, ht11, hl12, ht12, hl13, ht13, hl14, ht14, hl18, ht18, hl19, ht19, hl21, ht21, hc21]
        refine ⟨c21, J21, _, hl21, ((S21).set).sub (.cons₂ _ (.cons _ (.cons _ (.cons₂ _ (.cons₂ _ (.cons₂ _ (.cons₂ _ (.cons₂ _ (.cons₂ _ (.slnil)))))))))), ?_⟩
        simp [e, ne, hb1, hf1, hk1, hl9, ht9, hl10, ht10, hl11, ht11, hl12, ht12, hl13, ht13, hl14, ht14, hl18, ht18, hl19, ht19, hl21, ht21]
    · skip
      first | refine lsD_agg (k_toLin aL hw_aL) ((S18).push) (by simp) ⟨.inl (fun h => by first | rfl | simp), trivial⟩ ?_ | refine ls_agg (k_toLin aL hw_aL) ((S18).push) (by simp) ⟨.inl (fun h => by first | rfl | simp), trivial⟩ ?_
      intro c22 h22x n22 J22 S22 hl22 hc22
      have e := S22.eqs; have ne := S22.nes; simp only [bxE, bxN, Nat.zero_add, Nat.reduceAdd] at e ne; simp only [len_ULin] at hl22
      have ht22 : List.take 2 c22 = c22 := List.take_of_length_le (by omega)
      simp [e, ne, hb1, hf1, hk1, hl9, ht9, hl10, ht10, hl11, ht11, hl12, ht12, hl13, ht13, hl14, ht14, hl18, ht18, hl22, ht22, hc22]
      first | refine lsD_agg2 (k_Transport_o aM aL aCall) (S22) rfl (by simp) ⟨.inr ⟨_, .tail _ (.head _), rfl, by simp [dr]⟩, .inr ⟨_, .head _, rfl, by simp [dr]⟩, .inl (fun h => by first | rfl | simp), trivial⟩ ?_ | refine ls_agg2 (k_Transport_o aM aL aCall) (S22) rfl (by simp) ⟨.inr ⟨_, .tail _ (.head _), rfl, by simp [dr]⟩, .inr ⟨_, .head _, rfl, by simp [dr]⟩, .inl (fun h => by first | rfl | simp), trivial⟩ ?_
      intro c23 h23x n23 J23 S23 hl23 hc23
      have e := S23.eqs; have ne := S23.nes; simp only [bxE, bxN, Nat.zero_add, Nat.reduceAdd] at e ne; simp only [len_ULin] at hl23
      have ht23 : List.take 2 c23 = c23 := List.take_of_length_le (by omega)
      simp [e, ne, hb1, hf1, hk1, hl9, ht9, hl10, ht10, hl11, ht11, hl12, ht12, hl13, ht13, hl14, ht14, hl18, ht18, hl22, ht22, hl23, ht23, hc23]
      refine ⟨c23, J23, _, hl23, ((S23).set).sub (.cons₂ _ (.cons _ (.cons _ (.cons₂ _ (.cons₂ _ (.cons₂ _ (.cons₂ _ (.cons₂ _ (.cons₂ _ (.slnil)))))))))), ?_⟩
      simp [e, ne, hb1, hf1, hk1, hl9, ht9, hl10, ht10, hl11, ht11, hl12, ht12, hl13, ht13, hl14, ht14, hl18, ht18, hl22, ht22, hl23, ht23]
  · skip
    first | refine lsD_agg (k_toModel aM hw_aM) ((S17).push) (by simp) ⟨.inl (fun h => by first | rfl | simp), trivial⟩ ?_ | refine ls_agg (k_toModel aM hw_aM) ((S17).push) (by simp) ⟨.inl (fun h => by first | rfl | simp), trivial⟩ ?_
    intro c24 h24x n24 J24 S24 hl24 hc24
    have e := S24.eqs; have ne := S24.nes; simp only [bxE, bxN, Nat.zero_add, Nat.reduceAdd] at e ne; simp only [len_UModel] at hl24
    have ht24 : List.take 6 c24 = c24 := List.take_of_length_le (by omega)
    simp [e, ne, hb1, hf1, hk1, hl9, ht9, hl10, ht10, hl11, ht11, hl12, ht12, hl13, ht13, hl14, ht14, hl24, ht24, hc24]
    first | refine lsD_agg (k_toLin aL hw_aL) (S24) (by simp) ⟨.inl (fun h => by first | rfl | simp), trivial⟩ ?_ | refine ls_agg (k_toLin aL hw_aL) (S24) (by simp) ⟨.inl (fun h => by first | rfl | simp), trivial⟩ ?_
    intro c25 h25x n25 J25 S25 hl25 hc25
    have e := S25.eqs; have ne := S25.nes; simp only [bxE, bxN, Nat.zero_add, Nat.reduceAdd] at e ne; simp only [len_ULin] at hl25
    have ht25 : List.take 2 c25 = c25 := List.take_of_length_le (by omega)
    simp [e, ne, hb1, hf1, hk1, hl9, ht9, hl10, ht10, hl11, ht11, hl12, ht12, hl13, ht13, hl14, ht14, hl24, ht24, hl25, ht25, hc25]
    first | refine lsD_agg2 (k_Transport_o aM aL aCall) (S25) rfl (by simp) ⟨.inr ⟨_, .tail _ (.head _), rfl, by simp [dr]⟩, .inr ⟨_, .head _, rfl, by simp [dr]⟩, .inl (fun h => by first | rfl | simp), trivial⟩ ?_ | refine ls_agg2 (k_Transport_o aM aL aCall) (S25) rfl (by simp) ⟨.inr ⟨_, .tail _ (.head _), rfl, by simp [dr]⟩, .inr ⟨_, .head _, rfl, by simp [dr]⟩, .inl (fun h => by first | rfl | simp), trivial⟩ ?_
    intro c26 h26x n26 J26 S26 hl26 hc26
    have e := S26.eqs; have ne := S26.nes; simp only [bxE, bxN, Nat.zero_add, Nat.reduceAdd] at e ne; simp only [len_ULin] at hl26
    have ht26 : List.take 2 c26 = c26 := List.take_of_length_le (by omega)
    simp [e, ne, hb1, hf1, hk1, hl9, ht9, hl10, ht10, hl11, ht11, hl12, ht12, hl13, ht13, hl14, ht14, hl24, ht24, hl25, ht25, hl26, ht26, hc26]
    refine ⟨c26, J26, _, hl26, ((S26).set).sub (.cons₂ _ (.cons _ (.cons _ (.cons₂ _ (.cons₂ _ (.cons₂ _ (.cons₂ _ (.cons₂ _ (.cons₂ _ (.slnil)))))))))), ?_⟩
    simp [e, ne, hb1, hf1, hk1, hl9, ht9, hl10, ht10, hl11, ht11, hl12, ht12, hl13, ht13, hl14, ht14, hl24, ht24, hl25, ht25, hl26, ht26]
  rintro s2x h27x n27 ⟨c27, J27, b27, hl27, S27, hb2, hf2, hk2⟩
  have e := S27.eqs; have ne := S27.nes; simp only [bxE, bxN, Nat.zero_add, Nat.reduceAdd] at e ne
  have ht27 : List.take 2 c27 = c27 := List.take_of_length_le (by omega)
  simp [hb1, hf1, hk1] at hf2 hk2
  simp [e, ne, hb2, hf2, hk2, hl9, ht9, hl10, ht10, hl11, ht11, hl12, ht12, hl13, ht13, hl14, ht14, hl27, ht27]
  first | refine lsD_scal (k_eqLin ((transp aM aL aCall).getD lin0) ((transp aM aL aCall).getD lin0)) (S27) rfl ⟨.inr ⟨_, .head _, rfl, by simp [dr]⟩, .inr ⟨_, .tail _ (.tail _ (.tail _ (.tail _ (.tail _ (.tail _ (.head _)))))), rfl, by simp [dr]⟩, trivial⟩ ?_ | refine ls_scal (k_eqLin ((transp aM aL aCall).getD lin0) ((transp aM aL aCall).getD lin0)) (S27) rfl ⟨.inr ⟨_, .head _, rfl, by simp [dr]⟩, .inr ⟨_, .tail _ (.tail _ (.tail _ (.tail _ (.tail _ (.tail _ (.head _)))))), rfl, by simp [dr]⟩, trivial⟩ ?_
  simp [e, ne, hb2, hf2, hk2, hl9, ht9, hl10, ht10, hl11, ht11, hl12, ht12, hl13, ht13, hl14, ht14, hl27, ht27]
  first | refine lsD_scal (k_heldLin ((transp aM aL aCall).getD lin0) (1) (by omega)) (S27) rfl ⟨.inr ⟨_, .tail _ (.tail _ (.tail _ (.head _))), rfl, by simp [dr]⟩, .inl (fun h => by first | rfl | simp), trivial⟩ ?_ | refine ls_scal (k_heldLin ((transp aM aL aCall).getD lin0) (1) (by omega)) (S27) rfl ⟨.inr ⟨_, .tail _ (.tail _ (.tail _ (.head _))), rfl, by simp [dr]⟩, .inl (fun h => by first | rfl | simp), trivial⟩ ?_
  simp [e, ne, hb2, hf2, hk2, hl9, ht9, hl10, ht10, hl11, ht11, hl12, ht12, hl13, ht13, hl14, ht14, hl27, ht27, hm]
end Go.Proofs.Ytlbdgpkgmheikaa

/- The body of FnExactInstantiateLin. -/
import Derived.Test.YtlbdgpkgmheikaaC8
import Derived.Test.YtlbdgpkgmheikaaM3A
import Derived.Test.YtlbdgpkgmheikaaRE
import Derived.Test.YtlbdgpkgmheikaaT2A
namespace Go.Proofs.Ytlbdgpkgmheikaa
set_option linter.all false
open Go Go.RowKit Go.Proofs
def a3 : AFn :=
⟨119, [(.t 4)], (.seq 
 (.reg [⟨some 2, (.boxv (.t 0)), no⟩, ⟨some 4, (.mv (.k (.bool false))), no⟩]) (.seq 
 (.reg [⟨some 5, (.mv (.k (.int .i64 1048576))), no⟩]) (.seq 
 (.reg [⟨some 17, (.ld true 2 (.t 2)), no⟩, ⟨some 18, (.mv (.t 5)), no⟩, ⟨some 19, (.call (.k (.fn (.func 13) [] [])) [(.t 17), (.t 18)]), no⟩, ⟨some 5, (.mv (.t 19)), no⟩]) (.seq (.seq 
 (.reg [⟨some 20, (.mv (.t 5)), no⟩, ⟨some 21, (.bin .lss (.t 20) (.k (.int .i64 0))), no⟩]) (.cond (.t 21) (.seq 
 (.reg [⟨some 4, (.mv (.k (.bool true))), no⟩]) .ret) .skip)) (.seq 
 (.reg [⟨some 22, (.mv (.t 1)), no⟩, ⟨some 23, (.mv (.t 5)), no⟩, ⟨some 24, (.call (.k (.fn (.func 14) [] [])) [(.t 22), (.t 23)]), no⟩, ⟨some 5, (.mv (.t 24)), no⟩]) (.seq (.seq 
 (.reg [⟨some 25, (.mv (.t 5)), no⟩, ⟨some 26, (.bin .lss (.t 25) (.k (.int .i64 0))), no⟩]) (.cond (.t 26) (.seq 
 (.reg [⟨some 4, (.mv (.k (.bool true))), no⟩]) .ret) .skip)) (.seq 
 (.reg [⟨some 28, (.ld true 2 (.t 2)), no⟩, ⟨some 29, (.call (.k (.fn (.func 16) [] [])) [(.t 28)]), no⟩, ⟨some 30, (.mv (.t 1)), no⟩, ⟨some 31, (.call (.k (.fn (.func 17) [] [])) [(.t 30)]), no⟩, ⟨some 32, (.call (.k (.fn (.func 15) [] [])) [(.t 29), (.t 31)]), no⟩, ⟨some 27, (.mv (.t 32)), no⟩, ⟨some 33, (.ext (.t 27) 0), no⟩, ⟨some 34, (.ext (.t 27) 1), no⟩, ⟨some 6, (.box [(.int .i64 0), (.nil 1)]), no⟩, ⟨no, (.st 2 (.t 6) (.t 33)), no⟩, ⟨some 7, (.mv (.t 34)), no⟩]) (.seq 
 (.reg [⟨some 35, (.ld true 2 (.t 2)), no⟩, ⟨some 36, (.call (.k (.fn (.func 16) [] [])) [(.t 35)]), no⟩, ⟨some 8, (.box [(.int .i64 0), (.nil 1)]), no⟩, ⟨no, (.st 2 (.t 8) (.t 36)), no⟩]) (.seq 
 (.reg [⟨some 37, (.mv (.t 1)), no⟩, ⟨some 38, (.call (.k (.fn (.func 17) [] [])) [(.t 37)]), no⟩, ⟨some 9, (.mv (.t 38)), no⟩]) (.seq 
 (.reg [⟨some 40, (.ld true 2 (.t 8)), no⟩, ⟨some 41, (.mv (.t 9)), no⟩, ⟨some 42, (.call (.k (.fn (.func 18) [] [])) [(.t 40), (.t 41)]), no⟩, ⟨some 39, (.mv (.t 42)), no⟩, ⟨some 43, (.ext (.t 39) 0), no⟩, ⟨some 44, (.ext (.t 39) 1), no⟩, ⟨some 10, (.box [(.int .i64 0), (.nil 1)]), no⟩, ⟨no, (.st 2 (.t 10) (.t 43)), no⟩, ⟨some 11, (.mv (.t 44)), no⟩]) (.seq (.seq 
 (.reg [⟨some 45, (.ld true 2 (.t 10)), no⟩, ⟨some 46, (.ld true 2 (.t 6)), no⟩, ⟨some 47, (.call (.k (.fn (.func 19) [] [])) [(.t 45), (.t 46)]), no⟩, ⟨some 48, (.un .not (.t 47)), no⟩, ⟨some 49, (.mv (.t 48)), no⟩, ⟨some 50, (.mv (.t 11)), (some (49, false))⟩, ⟨some 51, (.mv (.t 7)), (some (49, false))⟩, ⟨some 52, (.beq true (.t 50) (.t 51)), (some (49, false))⟩, ⟨some 53, (.pick (.t 49) (.k (.bool true)) (.t 52)), no⟩]) (.cond (.t 53) (.seq 
 (.reg [⟨some 4, (.mv (.k (.bool false))), no⟩]) .ret) .skip)) (.seq (.seq (.draw (.op ⟨some 54, (.ld true 2 (.t 8)), no⟩ (.op ⟨some 55, (.ld true 2 (.t 2)), no⟩ (.op ⟨some 56, (.call (.k (.fn (.func 16) [] [])) [(.t 55)]), no⟩ (.op ⟨some 57, (.call (.k (.fn (.func 19) [] [])) [(.t 54), (.t 56)]), no⟩ (.op ⟨some 58, (.un .not (.t 57)), no⟩ .fin)))))) (.cond (.t 58) (.seq 
 (.reg [⟨some 4, (.mv (.k (.bool false))), no⟩]) .ret) .skip)) (.seq (.seq 
 (.reg [⟨some 59, (.mv (.t 9)), no⟩, ⟨some 60, (.mv (.t 1)), no⟩, ⟨some 61, (.call (.k (.fn (.func 17) [] [])) [(.t 60)]), no⟩, ⟨some 62, (.call (.k (.fn (.func 20) [] [])) [(.t 59), (.t 61)]), no⟩, ⟨some 63, (.un .not (.t 62)), no⟩]) (.cond (.t 63) (.seq 
 (.reg [⟨some 4, (.mv (.k (.bool false))), no⟩]) .ret) .skip)) (.seq 
 (.reg [⟨some 12, (.mv (.k (.int .i64 1))), no⟩]) (.seq 
 (.reg [⟨some 64, (.ld true 2 (.t 8)), no⟩, ⟨some 65, (.mv (.t 12)), no⟩, ⟨some 66, (.call (.k (.fn (.func 21) [] [])) [(.t 64), (.t 65)]), no⟩, ⟨some 12, (.mv (.t 66)), no⟩]) (.seq 
 (.reg [⟨some 67, (.mv (.t 9)), no⟩, ⟨some 68, (.mv (.t 12)), no⟩, ⟨some 69, (.call (.k (.fn (.func 22) [] [])) [(.t 67), (.t 68)]), no⟩, ⟨some 12, (.mv (.t 69)), no⟩]) (.seq (.seq 
 (.reg [⟨some 70, (.mv (.t 12)), no⟩, ⟨some 71, (.bin .lss (.t 70) (.k (.int .i64 0))), no⟩, ⟨some 72, (.mv (.t 71)), no⟩, ⟨some 73, (.ld true 2 (.t 10)), (some (72, false))⟩, ⟨some 74, (.ld true 2 (.t 6)), (some (72, false))⟩, ⟨some 75, (.call (.k (.fn (.func 19) [] [])) [(.t 73), (.t 74)]), (some (72, false))⟩, ⟨some 76, (.un .not (.t 75)), (some (72, false))⟩, ⟨some 77, (.pick (.t 72) (.k (.bool true)) (.t 76)), no⟩, ⟨some 78, (.mv (.t 77)), no⟩, ⟨some 79, (.mv (.t 11)), (some (78, false))⟩, ⟨some 80, (.mv (.t 7)), (some (78, false))⟩, ⟨some 81, (.beq true (.t 79) (.t 80)), (some (78, false))⟩, ⟨some 82, (.pick (.t 78) (.k (.bool true)) (.t 81)), no⟩]) (.cond (.t 82) (.seq 
 (.reg [⟨some 4, (.mv (.k (.bool false))), no⟩]) .ret) .skip)) (.seq 
 (.reg [⟨some 13, (.mv (.k (.int .i64 1))), no⟩]) (.seq 
 (.reg [⟨some 83, (.ld true 2 (.t 10)), no⟩, ⟨some 84, (.mv (.t 13)), no⟩, ⟨some 85, (.call (.k (.fn (.func 21) [] [])) [(.t 83), (.t 84)]), no⟩, ⟨some 13, (.mv (.t 85)), no⟩]) (.seq 
 (.reg [⟨some 14, (.mv (.k (.int .i64 1))), no⟩]) (.seq 
 (.reg [⟨some 86, (.ld true 2 (.t 10)), no⟩, ⟨some 87, (.mv (.t 14)), no⟩, ⟨some 88, (.call (.k (.fn (.func 23) [] [])) [(.t 86), (.t 87)]), no⟩, ⟨some 14, (.mv (.t 88)), no⟩]) (.seq (.seq 
 (.reg [⟨some 89, (.mv (.t 14)), no⟩, ⟨some 90, (.bin .lss (.t 89) (.k (.int .i64 0))), no⟩]) (.cond (.t 90) (.seq 
 (.reg [⟨some 4, (.mv (.k (.bool false))), no⟩]) .ret) .skip)) (.seq (.seq 
 (.reg [⟨some 91, (.mv (.t 14)), no⟩, ⟨some 92, (.mv (.t 13)), no⟩, ⟨some 93, (.bin .neq (.t 91) (.t 92)), no⟩]) (.cond (.t 93) (.seq 
 (.reg [⟨some 4, (.mv (.k (.bool false))), no⟩]) .ret) .skip)) (.seq 
 (.reg [⟨some 95, (.ld true 2 (.t 2)), no⟩, ⟨some 96, (.call (.k (.fn (.func 16) [] [])) [(.t 95)]), no⟩, ⟨some 97, (.mv (.t 1)), no⟩, ⟨some 98, (.call (.k (.fn (.func 17) [] [])) [(.t 97)]), no⟩, ⟨some 99, (.call (.k (.fn (.func 18) [] [])) [(.t 96), (.t 98)]), no⟩, ⟨some 94, (.mv (.t 99)), no⟩, ⟨some 100, (.ext (.t 94) 0), no⟩, ⟨some 101, (.ext (.t 94) 1), no⟩, ⟨some 15, (.box [(.int .i64 0), (.nil 1)]), no⟩, ⟨no, (.st 2 (.t 15) (.t 100)), no⟩, ⟨some 16, (.mv (.t 101)), no⟩]) (.seq (.seq 
 (.reg [⟨some 102, (.ld true 2 (.t 15)), no⟩, ⟨some 103, (.ld true 2 (.t 6)), no⟩, ⟨some 104, (.call (.k (.fn (.func 19) [] [])) [(.t 102), (.t 103)]), no⟩, ⟨some 105, (.un .not (.t 104)), no⟩, ⟨some 106, (.mv (.t 105)), no⟩, ⟨some 107, (.mv (.t 16)), (some (106, false))⟩, ⟨some 108, (.mv (.t 7)), (some (106, false))⟩, ⟨some 109, (.beq true (.t 107) (.t 108)), (some (106, false))⟩, ⟨some 110, (.pick (.t 106) (.k (.bool true)) (.t 109)), no⟩]) (.cond (.t 110) (.seq 
 (.reg [⟨some 4, (.mv (.k (.bool false))), no⟩]) .ret) .skip)) (.seq 
 (.reg [⟨some 14, (.mv (.k (.int .i64 1))), no⟩]) (.seq 
 (.reg [⟨some 111, (.ld true 2 (.t 10)), no⟩, ⟨some 112, (.mv (.t 14)), no⟩, ⟨some 113, (.call (.k (.fn (.func 23) [] [])) [(.t 111), (.t 112)]), no⟩, ⟨some 14, (.mv (.t 113)), no⟩]) (.seq (.seq 
 (.reg [⟨some 114, (.mv (.t 14)), no⟩, ⟨some 115, (.bin .lss (.t 114) (.k (.int .i64 0))), no⟩]) (.cond (.t 115) (.seq 
 (.reg [⟨some 4, (.mv (.k (.bool false))), no⟩]) .ret) .skip)) (.seq (.seq 
 (.reg [⟨some 116, (.mv (.t 14)), no⟩, ⟨some 117, (.mv (.t 13)), no⟩, ⟨some 118, (.bin .neq (.t 116) (.t 117)), no⟩]) (.cond (.t 118) (.seq 
 (.reg [⟨some 4, (.mv (.k (.bool false))), no⟩]) .ret) .skip)) (.seq 
 (.reg [⟨some 4, (.mv (.k (.bool true))), no⟩]) .ret))))))))))))))))))))))))))))))⟩
theorem a3_ok : compFn Try.prog Try.f3 = some a3 := by kernel_rfl


theorem k_InstantiateLin_o (aL : DLin) (aArgs : List DLin) : Holds Try.prog 18 [.agg (rALin aL), .sl 2 (aArgs.map rALin)] (fun r => r = .tup [.agg (rULin ((instLin aL aArgs).getD lin0)), .bool (instLin aL aArgs).isSome]) := by
  have h := k_InstantiateLin aL aArgs
  rw [optLin_eq] at h
  exact h
theorem ks_InstantiateLin_o (aL : DLin) (aArgs : List DLin) : Holds Try.prog 15 [.agg (rALin aL), .sl 2 (aArgs.map rALin)] (fun r => r = .tup [.agg (rULin ((instLin aL aArgs).getD lin0)), .bool (instLin aL aArgs).isSome]) := by
  have h := ks_InstantiateLin aL aArgs
  rw [optLin_eq] at h
  exact h
theorem goInst_len : ∀ (l : List (Int × DLin)) (o r : DLin), goInst l o = some r → r.Coeffs.length = o.Coeffs.length
  | [], o, r, h => by cases h; rfl
  | p :: l, o, r, h => by
    simp only [goInst] at h
    split at h
    · rename_i o' ho
      rw [goInst_len l o' r h, (addScaled_some ho).1]
    · cases h
theorem constLin_len (c : Int) (n : Int) : (constLin c n).Coeffs.length ≤ 8 := by
  unfold constLin
  split
  · rename_i h
    simp [inR] at h
    simp; omega
  · simp
theorem instLin_c (l : DLin) (args : List DLin) : cLin ((instLin l args).getD lin0) ≤ 8 := by
  unfold cLin
  rw [cIntS_len]
  cases h : instLin l args with
  | none => simp [lin0]
  | some r =>
    unfold instLin at h
    split at h
    · simp [goInst_len _ _ _ h, constLin_len]
    · cases h

set_option maxRecDepth 40000 in
set_option maxHeartbeats 4000000 in
theorem law_InstantiateLin (aL : DLin) (aArgs : List DLin) : Holds Try.prog 3 [.agg (rALin aL), .sl 2 (aArgs.map rALin)] (fun x => x = .bool true) := by
  refine holds_of_run Try.func3 a3_ok rfl (by simp [a3]) ?_
  simp [a3]
  first | refine callD_of (k_szLin aL 1048576 (by omega)) (by simp) ?_ | refine call_of (k_szLin aL 1048576 (by omega)) (by simp) ?_ | refine callD_of (k_szLin aL 1048576 (by omega)) rfl ?_ | refine call_of (k_szLin aL 1048576 (by omega)) rfl ?_
  rintro r rfl
  by_cases h1 : 1048576 - (wLin aL : Int) < 0
  · simp [sub1, h1]
  simp [sub1, h1]
  first | refine callD_of (k_szLinS aArgs (1048576 - (wLin aL : Int)) (by omega)) (by simp) ?_ | refine call_of (k_szLinS aArgs (1048576 - (wLin aL : Int)) (by omega)) (by simp) ?_ | refine callD_of (k_szLinS aArgs (1048576 - (wLin aL : Int)) (by omega)) rfl ?_ | refine call_of (k_szLinS aArgs (1048576 - (wLin aL : Int)) (by omega)) rfl ?_
  rintro r rfl
  by_cases h2 : 1048576 - (wLin aL : Int) - (wLinS aArgs : Int) < 0
  · simp [sub1, h2]
  simp [sub1, h2]
  have hw_aL : wLin aL ≤ 1048576 := by omega
  have hw_aArgs : wLinS aArgs ≤ 1048576 := by omega
  first | refine lsD_agg (k_toLin aL hw_aL) ((LS.start).push) (by simp) ⟨.inl (fun h => by first | rfl | simp), trivial⟩ ?_ | refine ls_agg (k_toLin aL hw_aL) ((LS.start).push) (by simp) ⟨.inl (fun h => by first | rfl | simp), trivial⟩ ?_
  intro c0 h0x n0 J0 S0 hl0 hc0
  have e := S0.eqs; have ne := S0.nes; simp only [bxE, bxN] at e ne; simp only [len_ULin] at hl0
  have ht0 : List.take 2 c0 = c0 := List.take_of_length_le (by omega)
  simp [e, ne, hl0, ht0, hc0]
  first | refine lsD_us (len := (aArgs).length) (k_toLinS aArgs hw_aArgs) (S0) (by simp) ⟨.inl (fun h => by first | rfl | simp), trivial⟩ ?_ | refine ls_us (len := (aArgs).length) (k_toLinS aArgs hw_aArgs) (S0) (by simp) ⟨.inl (fun h => by first | rfl | simp), trivial⟩ ?_
  intro d1 h1x n1 J1 S1
  have e := S1.eqs; have ne := S1.nes; simp only [bxE, bxN] at e ne
  simp [e, ne, hl0, ht0]
  refine ls_agg2 (ks_InstantiateLin_o aL aArgs) (S1) rfl (by simp) ⟨.inr ⟨_, .tail _ (.head _), rfl, by simp [dr]⟩, .inr ⟨_, .head _, rfl, by simp [dr]⟩, trivial⟩ ?_
  intro c2 h2x n2 J2 S2 hl2 hc2
  have e := S2.eqs; have ne := S2.nes; simp only [bxE, bxN] at e ne; simp only [len_ULin] at hl2
  have ht2 : List.take 2 c2 = c2 := List.take_of_length_le (by omega)
  simp [e, ne, hl0, ht0, hl2, ht2, hc2]
  first | refine lsD_agg (k_toLin aL hw_aL) ((S2).push) (by simp) ⟨.inl (fun h => by first | rfl | simp), trivial⟩ ?_ | refine ls_agg (k_toLin aL hw_aL) ((S2).push) (by simp) ⟨.inl (fun h => by first | rfl | simp), trivial⟩ ?_
  intro c3 h3x n3 J3 S3 hl3 hc3
  have e := S3.eqs; have ne := S3.nes; simp only [bxE, bxN] at e ne; simp only [len_ULin] at hl3
  have ht3 : List.take 2 c3 = c3 := List.take_of_length_le (by omega)
  simp [e, ne, hl0, ht0, hl2, ht2, hl3, ht3, hc3]
  first | refine lsD_us (len := (aArgs).length) (k_toLinS aArgs hw_aArgs) ((S3).push) (by simp) ⟨.inl (fun h => by first | rfl | simp), trivial⟩ ?_ | refine ls_us (len := (aArgs).length) (k_toLinS aArgs hw_aArgs) ((S3).push) (by simp) ⟨.inl (fun h => by first | rfl | simp), trivial⟩ ?_
  intro d4 h4x n4 J4 S4
  have e := S4.eqs; have ne := S4.nes; simp only [bxE, bxN] at e ne
  simp [e, ne, hl0, ht0, hl2, ht2, hl3, ht3]
  refine ls_agg2 (k_InstantiateLin_o aL aArgs) (S4) rfl (by simp) ⟨.inr ⟨_, .tail _ (.head _), rfl, by simp [dr]⟩, .inr ⟨_, .head _, rfl, by simp [dr]⟩, trivial⟩ ?_
  intro c5 h5x n5 J5 S5 hl5 hc5
  have e := S5.eqs; have ne := S5.nes; simp only [bxE, bxN] at e ne; simp only [len_ULin] at hl5
  have ht5 : List.take 2 c5 = c5 := List.take_of_length_le (by omega)
  simp [e, ne, hl0, ht0, hl2, ht2, hl3, ht3, hl5, ht5, hc5]
  first | refine lsD_scal (k_eqLin ((instLin aL aArgs).getD lin0) ((instLin aL aArgs).getD lin0)) ((S5).push) rfl ⟨.inr ⟨_, .head _, rfl, by simp [dr]⟩, .inr ⟨_, .tail _ (.tail _ (.tail _ (.head _))), rfl, by simp [dr]⟩, trivial⟩ ?_ | refine ls_scal (k_eqLin ((instLin aL aArgs).getD lin0) ((instLin aL aArgs).getD lin0)) ((S5).push) rfl ⟨.inr ⟨_, .head _, rfl, by simp [dr]⟩, .inr ⟨_, .tail _ (.tail _ (.tail _ (.head _))), rfl, by simp [dr]⟩, trivial⟩ ?_
  simp [e, ne, hl0, ht0, hl2, ht2, hl3, ht3, hl5, ht5]
  first | refine lsD_agg (k_toLin aL hw_aL) ((S5).push) (by simp) ⟨.inl (fun h => by first | rfl | simp), trivial⟩ ?_ | refine ls_agg (k_toLin aL hw_aL) ((S5).push) (by simp) ⟨.inl (fun h => by first | rfl | simp), trivial⟩ ?_
  intro c6 h6x n6 J6 S6 hl6 hc6
  have e := S6.eqs; have ne := S6.nes; simp only [bxE, bxN] at e ne; simp only [len_ULin] at hl6
  have ht6 : List.take 2 c6 = c6 := List.take_of_length_le (by omega)
  simp [e, ne, hl0, ht0, hl2, ht2, hl3, ht3, hl5, ht5, hl6, ht6, hc6]
  first | refine lsD_scal (k_eqLin aL aL) (S6) rfl ⟨.inr ⟨_, .tail _ (.tail _ (.tail _ (.head _))), rfl, by simp [dr]⟩, .inr ⟨_, .head _, rfl, by simp [dr]⟩, trivial⟩ ?_ | refine ls_scal (k_eqLin aL aL) (S6) rfl ⟨.inr ⟨_, .tail _ (.tail _ (.tail _ (.head _))), rfl, by simp [dr]⟩, .inr ⟨_, .head _, rfl, by simp [dr]⟩, trivial⟩ ?_
  simp [e, ne, hl0, ht0, hl2, ht2, hl3, ht3, hl5, ht5, hl6, ht6]
  first | refine lsD_us (len := (aArgs).length) (k_toLinS aArgs hw_aArgs) (S6) (by simp) ⟨.inl (fun h => by first | rfl | simp), trivial⟩ ?_ | refine ls_us (len := (aArgs).length) (k_toLinS aArgs hw_aArgs) (S6) (by simp) ⟨.inl (fun h => by first | rfl | simp), trivial⟩ ?_
  intro d7 h7x n7 J7 S7
  have e := S7.eqs; have ne := S7.nes; simp only [bxE, bxN] at e ne
  simp [e, ne, hl0, ht0, hl2, ht2, hl3, ht3, hl5, ht5, hl6, ht6]
  first | refine lsD_scal (k_eqLinS aArgs aArgs) (S7) rfl ⟨.inr ⟨_, .tail _ (.tail _ (.tail _ (.head _))), rfl, by simp [dr]⟩, .inr ⟨_, .head _, rfl, by simp [dr]⟩, trivial⟩ ?_ | refine ls_scal (k_eqLinS aArgs aArgs) (S7) rfl ⟨.inr ⟨_, .tail _ (.tail _ (.tail _ (.head _))), rfl, by simp [dr]⟩, .inr ⟨_, .head _, rfl, by simp [dr]⟩, trivial⟩ ?_
  simp [e, ne, hl0, ht0, hl2, ht2, hl3, ht3, hl5, ht5, hl6, ht6]
  have hb_aL := cw_Lin aL
  have hb_aArgs := cw_LinS aArgs
  refine ls_mark (T1 := [_, _, _, _]) (m_markLin aL 1 (by omega)) (S7) ?_
  intro h8x n8 S8
  have e := S8.eqs; have ne := S8.nes; simp only [bxE, bxN] at e ne
  simp [e, ne, hl0, ht0, hl2, ht2, hl3, ht3, hl5, ht5, hl6, ht6]
  refine ls_mark (T1 := [_, _, _]) (m_markLinS aArgs (1 + cLin aL) (by omega)) (S8) ?_
  intro h9x n9 S9
  have e := S9.eqs; have ne := S9.nes; simp only [bxE, bxN] at e ne
  have hk : ¬ 1 + cLin aL + cLinS aArgs < (0 : Int) := by omega
  simp [e, ne, hl0, ht0, hl2, ht2, hl3, ht3, hl5, ht5, hl6, ht6, hk]
  first | refine lsD_scal (k_eqLin ((instLin aL aArgs).getD lin0) ((instLin aL aArgs).getD lin0)) (S9) rfl ⟨.inr ⟨_, .tail _ (.tail _ (.head _)), rfl, by simp [dr]⟩, .inr ⟨_, .tail _ (.tail _ (.tail _ (.tail _ (.tail _ (.head _))))), rfl, by simp [dr]⟩, trivial⟩ ?_ | refine ls_scal (k_eqLin ((instLin aL aArgs).getD lin0) ((instLin aL aArgs).getD lin0)) (S9) rfl ⟨.inr ⟨_, .tail _ (.tail _ (.head _)), rfl, by simp [dr]⟩, .inr ⟨_, .tail _ (.tail _ (.tail _ (.tail _ (.tail _ (.head _))))), rfl, by simp [dr]⟩, trivial⟩ ?_
  simp [e, ne, hl0, ht0, hl2, ht2, hl3, ht3, hl5, ht5, hl6, ht6]
  have hg := instLin_c aL aArgs
  have hm : ¬ 1 + (cLin ((instLin aL aArgs).getD lin0) : Int) < 0 := by omega
  refine ls_mark (T1 := [_, _]) (m_markLin ((instLin aL aArgs).getD lin0) 1 (by omega)) (S9) ?_
  intro h10x n10 S10
  have e := S10.eqs; have ne := S10.nes; simp only [bxE, bxN] at e ne
  simp [e, ne, hl0, ht0, hl2, ht2, hl3, ht3, hl5, ht5, hl6, ht6]
  first | refine lsD_scal (k_heldLin ((instLin aL aArgs).getD lin0) 1 (by omega)) (S10) rfl ⟨.inr ⟨_, .tail _ (.tail _ (.head _)), rfl, by simp [dr]⟩, .inl (fun h => by first | rfl | simp), trivial⟩ ?_ | refine ls_scal (k_heldLin ((instLin aL aArgs).getD lin0) 1 (by omega)) (S10) rfl ⟨.inr ⟨_, .tail _ (.tail _ (.head _)), rfl, by simp [dr]⟩, .inl (fun h => by first | rfl | simp), trivial⟩ ?_
  simp [e, ne, hl0, ht0, hl2, ht2, hl3, ht3, hl5, ht5, hl6, ht6, hm]
  first | refine lsD_agg (k_toLin aL hw_aL) (S10) (by simp) ⟨.inl (fun h => by first | rfl | simp), trivial⟩ ?_ | refine ls_agg (k_toLin aL hw_aL) (S10) (by simp) ⟨.inl (fun h => by first | rfl | simp), trivial⟩ ?_
  intro c11 h11x n11 J11 S11 hl11 hc11
  have e := S11.eqs; have ne := S11.nes; simp only [bxE, bxN] at e ne; simp only [len_ULin] at hl11
  have ht11 : List.take 2 c11 = c11 := List.take_of_length_le (by omega)
  simp [e, ne, hl0, ht0, hl2, ht2, hl3, ht3, hl5, ht5, hl6, ht6, hl11, ht11, hc11]
  first | refine lsD_us (len := (aArgs).length) (k_toLinS aArgs hw_aArgs) (S11) (by simp) ⟨.inl (fun h => by first | rfl | simp), trivial⟩ ?_ | refine ls_us (len := (aArgs).length) (k_toLinS aArgs hw_aArgs) (S11) (by simp) ⟨.inl (fun h => by first | rfl | simp), trivial⟩ ?_
  intro d12 h12x n12 J12 S12
  have e := S12.eqs; have ne := S12.nes; simp only [bxE, bxN] at e ne
  simp [e, ne, hl0, ht0, hl2, ht2, hl3, ht3, hl5, ht5, hl6, ht6, hl11, ht11]
  refine ls_agg2 (k_InstantiateLin_o aL aArgs) (S12) rfl (by simp) ⟨.inr ⟨_, .tail _ (.head _), rfl, by simp [dr]⟩, .inr ⟨_, .head _, rfl, by simp [dr]⟩, trivial⟩ ?_
  intro c13 h13x n13 J13 S13 hl13 hc13
  have e := S13.eqs; have ne := S13.nes; simp only [bxE, bxN] at e ne; simp only [len_ULin] at hl13
  have ht13 : List.take 2 c13 = c13 := List.take_of_length_le (by omega)
  simp [e, ne, hl0, ht0, hl2, ht2, hl3, ht3, hl5, ht5, hl6, ht6, hl11, ht11, hl13, ht13, hc13]
  first | refine lsD_scal (k_eqLin ((instLin aL aArgs).getD lin0) ((instLin aL aArgs).getD lin0)) ((S13).push) rfl ⟨.inr ⟨_, .head _, rfl, by simp [dr]⟩, .inr ⟨_, .tail _ (.tail _ (.tail _ (.tail _ (.tail _ (.tail _ (.tail _ (.tail _ (.head _)))))))), rfl, by simp [dr]⟩, trivial⟩ ?_ | refine ls_scal (k_eqLin ((instLin aL aArgs).getD lin0) ((instLin aL aArgs).getD lin0)) ((S13).push) rfl ⟨.inr ⟨_, .head _, rfl, by simp [dr]⟩, .inr ⟨_, .tail _ (.tail _ (.tail _ (.tail _ (.tail _ (.tail _ (.tail _ (.tail _ (.head _)))))))), rfl, by simp [dr]⟩, trivial⟩ ?_
  simp [e, ne, hl0, ht0, hl2, ht2, hl3, ht3, hl5, ht5, hl6, ht6, hl11, ht11, hl13, ht13]
  first | refine lsD_scal (k_heldLin ((instLin aL aArgs).getD lin0) 1 (by omega)) ((S13).push) rfl ⟨.inr ⟨_, .tail _ (.tail _ (.tail _ (.tail _ (.tail _ (.head _))))), rfl, by simp [dr]⟩, .inl (fun h => by first | rfl | simp), trivial⟩ ?_ | refine ls_scal (k_heldLin ((instLin aL aArgs).getD lin0) 1 (by omega)) ((S13).push) rfl ⟨.inr ⟨_, .tail _ (.tail _ (.tail _ (.tail _ (.tail _ (.head _))))), rfl, by simp [dr]⟩, .inl (fun h => by first | rfl | simp), trivial⟩ ?_
  simp [e, ne, hl0, ht0, hl2, ht2, hl3, ht3, hl5, ht5, hl6, ht6, hl11, ht11, hl13, ht13, hm]
end Go.Proofs.Ytlbdgpkgmheikaa

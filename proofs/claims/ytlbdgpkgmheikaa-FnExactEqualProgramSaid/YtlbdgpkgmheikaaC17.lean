/- Contracts: EqualProgram of the reference. -/
import Derived.Test.YtlbdgpkgmheikaaC16
namespace Go.Proofs.Ytlbdgpkgmheikaa
set_option linter.all false
open Go Go.RowKit Go.Proofs
def a60 : AFn :=
⟨89, [(.t 4)], (.seq 
 (.reg [⟨some 2, (.boxv (.t 0)), no⟩, ⟨some 3, (.boxv (.t 1)), no⟩, ⟨some 4, (.mv (.k (.bool false))), no⟩]) (.seq (.seq 
 (.reg [⟨some 9, (.fld 0 (.t 2)), no⟩, ⟨some 10, (.ld false 1 (.t 9)), no⟩, ⟨some 11, (.len false (.t 10)), no⟩, ⟨some 12, (.fld 0 (.t 3)), no⟩, ⟨some 13, (.ld false 1 (.t 12)), no⟩, ⟨some 14, (.len false (.t 13)), no⟩, ⟨some 15, (.bin .neq (.t 11) (.t 14)), no⟩, ⟨some 16, (.mv (.t 15)), no⟩, ⟨some 17, (.fld 1 (.t 2)), (some (16, false))⟩, ⟨some 18, (.ld false 1 (.t 17)), (some (16, false))⟩, ⟨some 19, (.len false (.t 18)), (some (16, false))⟩, ⟨some 20, (.fld 1 (.t 3)), (some (16, false))⟩, ⟨some 21, (.ld false 1 (.t 20)), (some (16, false))⟩, ⟨some 22, (.len false (.t 21)), (some (16, false))⟩, ⟨some 23, (.bin .neq (.t 19) (.t 22)), (some (16, false))⟩, ⟨some 24, (.pick (.t 16) (.k (.bool true)) (.t 23)), no⟩]) (.cond (.t 24) (.seq 
 (.reg [⟨some 4, (.mv (.k (.bool false))), no⟩]) .ret) .skip)) (.seq (.seq 
 (.reg [⟨some 5, (.mv (.k (.int .i64 0))), no⟩]) (.blk 0 (.loop (.seq (.seq 
 (.reg [⟨some 25, (.mv (.t 5)), no⟩, ⟨some 26, (.fld 0 (.t 2)), no⟩, ⟨some 27, (.ld false 1 (.t 26)), no⟩, ⟨some 28, (.len false (.t 27)), no⟩, ⟨some 29, (.bin .lss (.t 25) (.t 28)), no⟩]) (.cond (.t 29) .skip (.exit 0))) (.seq (.blk 1 (.seq 
 (.reg [⟨some 32, (.fld 0 (.t 2)), no⟩, ⟨some 33, (.ld false 1 (.t 32)), no⟩, ⟨some 34, (.mv (.t 5)), no⟩, ⟨some 35, (.ixa 4 (.t 33) (.t 34)), no⟩, ⟨some 36, (.ld true 4 (.t 35)), no⟩, ⟨some 6, (.box [(.str []), (.nil 1), (.bool false), (.nil 2)]), no⟩, ⟨no, (.st 4 (.t 6) (.t 36)), no⟩]) (.seq 
 (.reg [⟨some 37, (.fld 0 (.t 3)), no⟩, ⟨some 38, (.ld false 1 (.t 37)), no⟩, ⟨some 39, (.mv (.t 5)), no⟩, ⟨some 40, (.ixa 4 (.t 38) (.t 39)), no⟩, ⟨some 41, (.ld true 4 (.t 40)), no⟩, ⟨some 7, (.box [(.str []), (.nil 1), (.bool false), (.nil 2)]), no⟩, ⟨no, (.st 4 (.t 7) (.t 41)), no⟩]) (.seq 
 (.reg [⟨some 42, (.fld 0 (.t 6)), no⟩, ⟨some 43, (.ld false 1 (.t 42)), no⟩, ⟨some 44, (.fld 0 (.t 7)), no⟩, ⟨some 45, (.ld false 1 (.t 44)), no⟩, ⟨some 46, (.bin .neq (.t 43) (.t 45)), no⟩, ⟨some 47, (.mv (.t 46)), no⟩, ⟨some 48, (.fld 2 (.t 6)), (some (47, false))⟩, ⟨some 49, (.ld false 1 (.t 48)), (some (47, false))⟩, ⟨some 50, (.fld 2 (.t 7)), (some (47, false))⟩, ⟨some 51, (.ld false 1 (.t 50)), (some (47, false))⟩, ⟨some 52, (.beq true (.t 49) (.t 51)), (some (47, false))⟩, ⟨some 53, (.pick (.t 47) (.k (.bool true)) (.t 52)), no⟩, ⟨some 54, (.mv (.t 53)), no⟩, ⟨some 55, (.fld 1 (.t 6)), (some (54, false))⟩, ⟨some 56, (.ld false 1 (.t 55)), (some (54, false))⟩, ⟨some 57, (.fld 1 (.t 7)), (some (54, false))⟩, ⟨some 58, (.ld false 1 (.t 57)), (some (54, false))⟩, ⟨some 59, (.call (.k (.fn (.func 127) [] [])) [(.t 56), (.t 58)]), (some (54, false))⟩, ⟨some 60, (.un .not (.t 59)), (some (54, false))⟩, ⟨some 61, (.pick (.t 54) (.k (.bool true)) (.t 60)), no⟩, ⟨some 62, (.mv (.t 61)), no⟩, ⟨some 63, (.fld 3 (.t 6)), (some (62, false))⟩, ⟨some 64, (.ld false 1 (.t 63)), (some (62, false))⟩, ⟨some 65, (.fld 3 (.t 7)), (some (62, false))⟩, ⟨some 66, (.ld false 1 (.t 65)), (some (62, false))⟩, ⟨some 67, (.call (.k (.fn (.func 128) [] [])) [(.t 64), (.t 66)]), (some (62, false))⟩, ⟨some 68, (.un .not (.t 67)), (some (62, false))⟩, ⟨some 69, (.pick (.t 62) (.k (.bool true)) (.t 68)), no⟩]) (.cond (.t 69) (.seq 
 (.reg [⟨some 4, (.mv (.k (.bool false))), no⟩]) .ret) .skip))))) 
 (.reg [⟨some 30, (.mv (.t 5)), no⟩, ⟨some 31, (.bin .add (.t 30) (.k (.int .i64 1))), no⟩, ⟨some 5, (.mv (.t 31)), no⟩])))))) (.seq (.seq 
 (.reg [⟨some 8, (.mv (.k (.int .i64 0))), no⟩]) (.blk 2 (.loop (.seq (.seq 
 (.reg [⟨some 70, (.mv (.t 8)), no⟩, ⟨some 71, (.fld 1 (.t 2)), no⟩, ⟨some 72, (.ld false 1 (.t 71)), no⟩, ⟨some 73, (.len false (.t 72)), no⟩, ⟨some 74, (.bin .lss (.t 70) (.t 73)), no⟩]) (.cond (.t 74) .skip (.exit 2))) (.seq (.blk 3 (.seq (.draw (.op ⟨some 77, (.fld 1 (.t 2)), no⟩ (.op ⟨some 78, (.ld false 1 (.t 77)), no⟩ (.op ⟨some 79, (.mv (.t 8)), no⟩ (.op ⟨some 80, (.ixa 7 (.t 78) (.t 79)), no⟩ (.op ⟨some 81, (.ld true 7 (.t 80)), no⟩ (.op ⟨some 82, (.fld 1 (.t 3)), no⟩ (.op ⟨some 83, (.ld false 1 (.t 82)), no⟩ (.op ⟨some 84, (.mv (.t 8)), no⟩ (.op ⟨some 85, (.ixa 7 (.t 83) (.t 84)), no⟩ (.op ⟨some 86, (.ld true 7 (.t 85)), no⟩ (.op ⟨some 87, (.call (.k (.fn (.func 129) [] [])) [(.t 81), (.t 86)]), no⟩ (.op ⟨some 88, (.un .not (.t 87)), no⟩ .fin))))))))))))) (.cond (.t 88) (.seq 
 (.reg [⟨some 4, (.mv (.k (.bool false))), no⟩]) .ret) .skip))) 
 (.reg [⟨some 75, (.mv (.t 8)), no⟩, ⟨some 76, (.bin .add (.t 75) (.k (.int .i64 1))), no⟩, ⟨some 8, (.mv (.t 76)), no⟩])))))) (.seq 
 (.reg [⟨some 4, (.mv (.k (.bool true))), no⟩]) .ret)))))⟩
theorem a60_ok : compFn Try.prog Try.f60 = some a60 := by kernel_rfl


theorem function_ext {u v : DFunction} (h0 : u.Name = v.Name) (h1 : u.Params = v.Params) (h2 : u.ListResult = v.ListResult) (h3 : u.Pre = v.Pre) : u = v := by
  cases u; cases v; simp_all

set_option maxRecDepth 20000 in
set_option maxHeartbeats 4000000 in
theorem ks_EqualProgram (x y : DProgram) : Holds Try.prog 60 [.agg (rAProgram x), .agg (rAProgram y)] (fun r => r = .bool (decide (x = y))) := by
  by_cases h1 : x.Functions.length = y.Functions.length
  case neg =>
    have hli : ¬ (x.Functions.length : Int) = y.Functions.length := by omega
    refine holds_of_run Try.func60 a60_ok rfl (by simp [a60]) ?_
    simp [a60, rAProgram, h1, hli]
    have hne : ¬ x = y := fun e => h1 (by rw [e])
    intros
    first | exact hne | contradiction
  by_cases h2 : x.Rules.length = y.Rules.length
  case neg =>
    have hli : ¬ (x.Rules.length : Int) = y.Rules.length := by omega
    refine holds_of_run Try.func60 a60_ok rfl (by simp [a60]) ?_
    simp [a60, rAProgram, h1, h2, hli]
    have hne : ¬ x = y := fun e => h2 (by rw [e])
    intros
    first | exact hne | contradiction
  refine holds_of_run Try.func60 a60_ok rfl (by simp [a60]) ?_
  simp [a60, rAProgram, h1, h2]
  intro hl1 hl2
  refine rL_forO [2, 3] 5 y.Functions.length (fun i s h n => h 0 = some ⟨true, 2, [rAProgram x]⟩ ∧ h 1 = some ⟨true, 2, [rAProgram y]⟩ ∧ 1 < n ∧ eqD (x.Functions.drop i) (y.Functions.drop i) = eqD x.Functions y.Functions) hl1 (by simp) ⟨by simp [rAProgram], by simp [rAProgram], by simp, by simp⟩ ?_ ?_
  · rintro i s3 h3' n3 R3 hi hg hk3 s5 hw ⟨e0, e1, hn, hJ⟩ hR hret3 _
    simp at hk3
    have hix : i < x.Functions.length := by omega
    rw [List.drop_eq_getElem_cons hix, List.drop_eq_getElem_cons hi] at hJ
    simp only [eqD, eqL] at hJ
    have hcn : ¬ x.Functions[i] = y.Functions[i] → ¬ x = y := fun hc e => by
      simp only [hc, decide_false, Bool.false_and] at hJ
      rw [e, eqL_dec] at hJ; simp at hJ
    have n0 : ¬ 0 = n3 := by omega
    have n1 : ¬ 1 = n3 := by omega
    have n2 : ¬ n3 = 0 := by omega
    have n4 : ¬ n3 = 1 := by omega
    by_cases b0 : (x.Functions[i]).Name = (y.Functions[i]).Name
    case neg =>
      simp [hk3, s5, hi, hg, hix, h1, e0, e1, rAProgram, rAFunction, n0, n1, n2, n4, b0]
      intros
      refine hret3 _ _ _ ?_
      have hne : ¬ x = y := hcn fun e => b0 (by rw [e])
      simp [hne]
    by_cases b1 : (x.Functions[i]).ListResult = (y.Functions[i]).ListResult
    case neg =>
      simp [hk3, s5, hi, hg, hix, h1, e0, e1, rAProgram, rAFunction, n0, n1, n2, n4, b0, b1]
      intros
      refine hret3 _ _ _ ?_
      have hne : ¬ x = y := hcn fun e => b1 (by rw [e])
      simp [hne]
    simp [hk3, s5, hi, hg, hix, h1, e0, e1, rAProgram, rAFunction, n0, n1, n2, n4, b0, b1]
    intro _
    first | refine callD_of (ks_l11Texts (x.Functions[i]).Params (y.Functions[i]).Params) (by simp) ?_ | refine call_of (ks_l11Texts (x.Functions[i]).Params (y.Functions[i]).Params) (by simp) ?_ | refine callD_of (ks_l11Texts (x.Functions[i]).Params (y.Functions[i]).Params) rfl ?_ | refine call_of (ks_l11Texts (x.Functions[i]).Params (y.Functions[i]).Params) rfl ?_
    rintro r rfl
    by_cases b2 : (x.Functions[i]).Params = (y.Functions[i]).Params
    case neg =>
      simp [hk3, s5, b2]
      refine hret3 _ _ _ ?_
      have hne : ¬ x = y := hcn fun e => b2 (by rw [e])
      simp [hne]
    simp [hk3, s5, n0, n1, n2, n4, b2]
    first | refine callD_of (ks_l11Lins (x.Functions[i]).Pre (y.Functions[i]).Pre) (by simp) ?_ | refine call_of (ks_l11Lins (x.Functions[i]).Pre (y.Functions[i]).Pre) (by simp) ?_ | refine callD_of (ks_l11Lins (x.Functions[i]).Pre (y.Functions[i]).Pre) rfl ?_ | refine call_of (ks_l11Lins (x.Functions[i]).Pre (y.Functions[i]).Pre) rfl ?_
    rintro r rfl
    by_cases b3 : (x.Functions[i]).Pre = (y.Functions[i]).Pre
    case neg =>
      simp [hk3, s5, b3]
      refine hret3 _ _ _ ?_
      have hne : ¬ x = y := hcn fun e => b3 (by rw [e])
      simp [hne]
    have hce : x.Functions[i] = y.Functions[i] := function_ext b0 b2 b1 b3
    simp only [hce, decide_true, Bool.true_and] at hJ
    simp [hk3, s5, b3, hw]
    exact hR _ _ _ (by simp [hk3]) (by simp) ⟨by simp [e0, n0, n1, n2, n4, rAProgram], by simp [e1, n0, n1, n2, n4, rAProgram], by omega, hJ⟩
  rintro s3 h3' n3 R3 hk3 s5 ⟨e0, e1, hn, hJ⟩ hret3 hX3
  simp at hk3
  rw [List.drop_eq_nil_of_le (Nat.le_of_eq h1), List.drop_eq_nil_of_le (Nat.le_refl _)] at hJ
  have hF : x.Functions = y.Functions := by simp only [eqD, eqL_dec] at hJ; simpa using hJ.symm
  simp [hk3, s5, h1, e0, e1, rAProgram]
  intro _
  refine hX3 _ _ _ _ ?_
  simp [hk3]
  refine rL_forS [2, 3] 8 y.Rules.length (fun i _ => eqD (x.Rules.drop i) (y.Rules.drop i) = eqD x.Rules y.Rules) hl2 (by simp) (by simp) ?_ ?_
  · rintro i s2 h2' R hi hg hk2 s8 hw hJ hh2 hR hret _
    simp at hk2 hh2
    have hix : i < x.Rules.length := by omega
    rw [List.drop_eq_getElem_cons hix, List.drop_eq_getElem_cons hi] at hJ
    simp only [eqD, eqL] at hJ
    simp [hk2, hk3, s8, hi, hg, hix, h2, hh2, e0, e1, rAProgram]
    intro _
    first | refine callD_of (ks_l11SameRule (x.Rules[i]'hix) (y.Rules[i]'hi)) (by simp) ?_ | refine call_of (ks_l11SameRule (x.Rules[i]'hix) (y.Rules[i]'hi)) (by simp) ?_ | refine callD_of (ks_l11SameRule (x.Rules[i]'hix) (y.Rules[i]'hi)) rfl ?_ | refine call_of (ks_l11SameRule (x.Rules[i]'hix) (y.Rules[i]'hi)) rfl ?_
    rintro r rfl
    by_cases he : x.Rules[i] = y.Rules[i]
    · simp only [he, decide_true, Bool.true_and] at hJ
      simp [hk2, hk3, s8, he, hw]
      exact hR _ (by simp [hk2, hk3]) (by simp) hJ
    · simp only [he, decide_false, Bool.false_and] at hJ
      simp [hk2, hk3, s8, he]
      refine hret _ _ _ ?_
      have hne : ¬ x = y := fun e => by rw [e, eqL_dec] at hJ; simp at hJ
      simp [hne]
  rintro s2 h2' R2 hk2 s8 hJ hh2 hret2 hX2
  simp at hk2 hh2
  rw [List.drop_eq_nil_of_le (Nat.le_of_eq h2), List.drop_eq_nil_of_le (Nat.le_refl _)] at hJ
  have hR : x.Rules = y.Rules := by simp only [eqD, eqL_dec] at hJ; simpa using hJ.symm
  simp [hk2, hk3, s8, h2, hh2, e0, e1, rAProgram]
  intro _
  refine hX2 _ _ ?_
  have hxy : x = y := by cases x; cases y; simp_all
  simp [hxy]
end Go.Proofs.Ytlbdgpkgmheikaa

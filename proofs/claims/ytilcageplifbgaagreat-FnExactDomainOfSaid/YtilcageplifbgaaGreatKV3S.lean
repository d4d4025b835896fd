/- Contracts: valid sums, of the reference. -/
import Derived.Test.YtilcageplifbgaaGreatKV3
namespace Go.Proofs.YtilcageplifbgaaGreat
set_option linter.all false
open Go Go.RowKit Go.Proofs
def a267 : AFn :=
⟨62, [(.t 2)], (.seq
 (.reg [⟨some 1, (.boxv (.t 0)), no⟩, ⟨some 2, (.mv (.k (.bool false))), no⟩]) (.seq (.seq
 (.reg [⟨some 3, (.mv (.k (.int .i64 0))), no⟩]) (.blk 0 (.loop (.seq (.seq
 (.reg [⟨some 5, (.mv (.t 3)), no⟩, ⟨some 6, (.fld 1 (.t 1)), no⟩, ⟨some 7, (.ld false 1 (.t 6)), no⟩, ⟨some 8, (.len false (.t 7)), no⟩, ⟨some 9, (.bin .lss (.t 5) (.t 8)), no⟩]) (.cond (.t 9) .skip (.exit 0))) (.seq (.blk 1 (.seq
 (.reg [⟨some 12, (.fld 1 (.t 1)), no⟩, ⟨some 13, (.ld false 1 (.t 12)), no⟩, ⟨some 14, (.mv (.t 3)), no⟩, ⟨some 15, (.ixa 2 (.t 13) (.t 14)), no⟩, ⟨some 16, (.ld true 2 (.t 15)), no⟩, ⟨some 4, (.box [(.int .i64 0), (.str [])]), no⟩, ⟨no, (.st 2 (.t 4) (.t 16)), no⟩]) (.seq (.draw (.op ⟨some 17, (.fld 0 (.t 4)), no⟩ (.op ⟨some 18, (.ld false 1 (.t 17)), no⟩ (.op ⟨some 19, (.bin .eql (.t 18) (.k (.int .i64 0))), no⟩ (.op ⟨some 20, (.mv (.t 19)), no⟩ (.op ⟨some 21, (.fld 0 (.t 4)), (some (20, false))⟩ (.op ⟨some 22, (.ld false 1 (.t 21)), (some (20, false))⟩ (.op ⟨some 23, (.call (.k (.fn (.func 293) [] [])) [(.t 22)]), (some (20, false))⟩ (.op ⟨some 24, (.un .not (.t 23)), (some (20, false))⟩ (.op ⟨some 25, (.pick (.t 20) (.k (.bool true)) (.t 24)), no⟩ (.op ⟨some 26, (.mv (.t 25)), no⟩ (.op ⟨some 27, (.fld 1 (.t 4)), (some (26, false))⟩ (.op ⟨some 28, (.ld false 1 (.t 27)), (some (26, false))⟩ (.op ⟨some 29, (.call (.k (.fn (.func 212) [] [])) [(.t 28)]), (some (26, false))⟩ (.op ⟨some 30, (.un .not (.t 29)), (some (26, false))⟩ (.op ⟨some 31, (.pick (.t 26) (.k (.bool true)) (.t 30)), no⟩ (.op ⟨some 32, (.mv (.t 31)), no⟩ (.op ⟨some 33, (.fld 1 (.t 4)), (some (32, false))⟩ (.op ⟨some 34, (.ld false 1 (.t 33)), (some (32, false))⟩ (.op ⟨some 35, (.call (.k (.fn (.func 143) [] [])) [(.t 34)]), (some (32, false))⟩ (.op ⟨some 36, (.pick (.t 32) (.k (.bool true)) (.t 35)), no⟩ (.op ⟨some 37, (.mv (.t 36)), no⟩ (.op ⟨some 38, (.mv (.t 3)), (some (37, false))⟩ (.op ⟨some 39, (.bin .gtr (.t 38) (.k (.int .i64 0))), (some (37, false))⟩ (.op ⟨some 40, (.mv (.t 39)), (some (37, false))⟩ (.op ⟨some 41, (.fld 1 (.t 1)), (some (40, true))⟩ (.op ⟨some 42, (.ld false 1 (.t 41)), (some (40, true))⟩ (.op ⟨some 43, (.mv (.t 3)), (some (40, true))⟩ (.op ⟨some 44, (.bin .sub (.t 43) (.k (.int .i64 1))), (some (40, true))⟩ (.op ⟨some 45, (.ixa 2 (.t 42) (.t 44)), (some (40, true))⟩ (.op ⟨some 46, (.fld 1 (.t 45)), (some (40, true))⟩ (.op ⟨some 47, (.ld false 1 (.t 46)), (some (40, true))⟩ (.op ⟨some 48, (.fld 1 (.t 4)), (some (40, true))⟩ (.op ⟨some 49, (.ld false 1 (.t 48)), (some (40, true))⟩ (.op ⟨some 50, (.bin .geq (.t 47) (.t 49)), (some (40, true))⟩ (.op ⟨some 51, (.pick (.t 40) (.t 50) (.k (.bool false))), (some (37, false))⟩ (.op ⟨some 52, (.pick (.t 37) (.k (.bool true)) (.t 51)), no⟩ .fin))))))))))))))))))))))))))))))))))))) (.cond (.t 52) (.seq
 (.reg [⟨some 2, (.mv (.k (.bool false))), no⟩]) .ret) .skip))))
 (.reg [⟨some 10, (.mv (.t 3)), no⟩, ⟨some 11, (.bin .add (.t 10) (.k (.int .i64 1))), no⟩, ⟨some 3, (.mv (.t 11)), no⟩])))))) (.seq
 (.reg [⟨some 53, (.fld 0 (.t 1)), no⟩, ⟨some 54, (.ld false 1 (.t 53)), no⟩, ⟨some 55, (.call (.k (.fn (.func 293) [] [])) [(.t 54)]), no⟩, ⟨some 56, (.mv (.t 55)), no⟩, ⟨some 57, (.fld 1 (.t 1)), (some (56, true))⟩, ⟨some 58, (.ld false 1 (.t 57)), (some (56, true))⟩, ⟨some 59, (.len false (.t 58)), (some (56, true))⟩, ⟨some 60, (.bin .leq (.t 59) (.k (.int .i64 4))), (some (56, true))⟩, ⟨some 61, (.pick (.t 56) (.t 60) (.k (.bool false))), no⟩, ⟨some 2, (.mv (.t 61)), no⟩]) .ret)))⟩
theorem a267_ok : compFn Tryz.prog Tryz.f267 = some a267 := by kernel_rfl
set_option maxRecDepth 20000 in
set_option maxHeartbeats 1000000 in
theorem ks_IsValidSum (x : DSum) : Holds Tryz.prog 267 [.agg (rASum x)] (fun r => r = .bool (okSum x)) := by
  refine holds_of_lim Tryz.func267 rfl rfl fun hl => ?_
  simp [rASum] at hl
  refine holds_of_run Tryz.func267 a267_ok rfl (by simp [a267]) ?_
  simp [a267, rASum]
  unfold okSum
  generalize hB : termsOk Option.none x.Terms = B
  refine rL_forO [1] 3 x.Terms.length (fun i s h n => 0 < n ∧ h 0 = some ⟨true, 2, [[i64 x.Const, .sl 2 (x.Terms.map rATerm)]]⟩ ∧ termsOk (prevN x.Terms i) (x.Terms.drop i) = B) hl (by simp) ⟨by simp, by simp, by simpa [prevN] using hB⟩ ?_ ?_
  · rintro i st h n R hi hg hk s3x hw ⟨hn, e0, hJ⟩ hR hret _
    simp at hk
    rw [List.drop_eq_getElem_cons hi] at hJ
    simp only [termsOk] at hJ
    have z0 : ¬ 0 = n := by omega
    refine rC_seqI ?_
    refine rC_cut [1, 3] (fun s => s 9 = .bool true) (by simp [hk, s3x, hi, e0]) ?_
    intro st1 hk1 s9
    simp at hk1
    refine rC_pass1 s9 (rC_seqI (rC_blkI ?_))
    refine rC_cutH [1, 3] (fun s h' n' => s 4 = .ptr n 0 0 ∧ n' = n + 1 ∧ h' n = some ⟨true, 2, [rATerm x.Terms[i]]⟩ ∧ h' 0 = some ⟨true, 2, [[i64 x.Const, .sl 2 (x.Terms.map rATerm)]]⟩) (by simp [hk, hk1, s3x, hi, rATerm, e0, z0]) ?_
    rintro st2 h2 n2 hk2 ⟨s4, rfl, en, e0'⟩
    simp at hk2
    obtain ⟨bad, hbad⟩ : ∃ bad, bad = (((x.Terms[i]).Coeff == 0 || !fits (x.Terms[i]).Coeff || !intName (x.Terms[i]).Name) || (match prevN x.Terms i with | Option.none => false | some q => !(Op.bytesLess q (x.Terms[i]).Name))) := ⟨_, rfl⟩
    refine rC_cut [1, 3] (fun s => s 52 = .bool bad) ?_ ?_
    · subst hbad
      by_cases c0 : (x.Terms[i]).Coeff = 0
      · simp (maxSteps := 1000000) [hk, hk1, hk2, s3x, hi, rATerm, e0', en, z0, s4, c0]
      simp (maxSteps := 1000000) [hk, hk1, hk2, s3x, hi, rATerm, e0', en, z0, s4, c0]
      first | refine callD_of (ks_Fits (x.Terms[i]'hi).Coeff) (by simp) ?_ | refine call_of (ks_Fits (x.Terms[i]'hi).Coeff) (by simp) ?_ | refine callD_of (ks_Fits (x.Terms[i]'hi).Coeff) rfl ?_ | refine call_of (ks_Fits (x.Terms[i]'hi).Coeff) rfl ?_
      rintro r rfl
      cases c1 : fits (x.Terms[i]).Coeff
      · simp (maxSteps := 1000000) [hk, hk1, hk2, s3x, hi, rATerm, e0', en, z0, s4]
      simp (maxSteps := 1000000) [hk, hk1, hk2, s3x, hi, rATerm, e0', en, z0, s4]
      first | refine callD_of (ks_IsValidName (x.Terms[i]'hi).Name) (by simp) ?_ | refine call_of (ks_IsValidName (x.Terms[i]'hi).Name) (by simp) ?_ | refine callD_of (ks_IsValidName (x.Terms[i]'hi).Name) rfl ?_ | refine call_of (ks_IsValidName (x.Terms[i]'hi).Name) rfl ?_
      rintro r rfl
      unfold intName
      cases c2 : okName (x.Terms[i]).Name
      · simp (maxSteps := 1000000) [hk, hk1, hk2, s3x, hi, rATerm, e0', en, z0, s4]
      simp (maxSteps := 1000000) [hk, hk1, hk2, s3x, hi, rATerm, e0', en, z0, s4]
      first | refine callD_of (ks_IsListName (x.Terms[i]'hi).Name) (by simp) ?_ | refine call_of (ks_IsListName (x.Terms[i]'hi).Name) (by simp) ?_ | refine callD_of (ks_IsListName (x.Terms[i]'hi).Name) rfl ?_ | refine call_of (ks_IsListName (x.Terms[i]'hi).Name) rfl ?_
      rintro r rfl
      cases c3 : listName (x.Terms[i]).Name
      case true => simp (maxSteps := 1000000) [hk, hk1, hk2, s3x, hi, rATerm, e0', en, z0, s4]
      cases i with
      | zero => simp (maxSteps := 1000000) [hk, hk1, hk2, s3x, hi, rATerm, e0', en, z0, s4, prevN, c0, c1, c2]
      | succ i =>
        have hi' : i < x.Terms.length := by omega
        have hwr : IntKind.i64.wrap (i : Int) = i := wrap64 (by unfold LIM at hl; omega)
        simp (maxSteps := 1000000) [hk, hk1, hk2, s3x, hi, hi', rATerm, e0', en, z0, s4, prevN_succ hi', hwr, c0, c1, c2]
    intro st3 hk3 s52
    simp at hk3
    have hJ' : (!bad && termsOk (some (x.Terms[i]).Name) (x.Terms.drop (i + 1))) = B := by
      rw [← hJ, hbad]
      cases ((x.Terms[i]).Coeff == 0) <;> cases (fits (x.Terms[i]).Coeff) <;> cases (intName (x.Terms[i]).Name) <;> cases (prevN x.Terms i) <;> simp
    rw [← prevN_succ hi] at hJ'
    clear hJ hbad
    cases bad
    · simp (maxSteps := 1000000) [hk, hk1, hk2, hk3, s3x, s52, hw]
      exact hR _ _ _ (by simp [hk, hk1, hk2, hk3]) (by simp) ⟨by omega, by simp [e0'], by simpa using hJ'⟩
    · simp (maxSteps := 1000000) [hk, hk1, hk2, hk3, s3x, s52, hw]
      simp at hJ'
      refine hret _ _ _ ?_
      simp [hJ']
  · rintro st h n R hk s3 ⟨hn, e0, hJ⟩ hret hX
    simp at hk
    rw [List.drop_eq_nil_of_le (by omega)] at hJ
    refine rC_seqI ?_
    refine rC_cut [1, 3] (fun s => s 9 = .bool false) (by simp [hk, s3, e0]) ?_
    intro st1 hk1 s9
    simp at hk1
    refine rC_stop1 s9 ?_
    simp
    refine hX _ _ _ _ ?_
    simp [termsOk] at hJ
    subst hJ
    simp [hk, hk1, e0]
    first | refine callD_of (ks_Fits x.Const) (by simp) ?_ | refine call_of (ks_Fits x.Const) (by simp) ?_ | refine callD_of (ks_Fits x.Const) rfl ?_ | refine call_of (ks_Fits x.Const) rfl ?_
    rintro r rfl
    cases h1 : fits x.Const
    · simp
    have hd : decide (x.Terms.length ≤ 4) = decide ((x.Terms.length : Int) ≤ 4) := by rw [decide_eq_decide]; omega
    simp [hk, hk1, e0, hd]
end Go.Proofs.YtilcageplifbgaaGreat

/- Contracts: valid sums, valid arguments. -/
import Derived.Test.YtilcageplifbgaaGreatKV2
namespace Go.Proofs.YtilcageplifbgaaGreat
set_option linter.all false
open Go Go.RowKit Go.Proofs
def a225 : AFn :=
⟨55, [(.t 2)], (.seq
 (.reg [⟨some 1, (.boxv (.t 0)), no⟩, ⟨some 2, (.mv (.k (.bool false))), no⟩]) (.seq (.seq
 (.reg [⟨some 5, (.fld 0 (.t 1)), no⟩, ⟨some 6, (.ld false 1 (.t 5)), no⟩, ⟨some 7, (.call (.k (.fn (.func 278) [] [])) [(.t 6)]), no⟩, ⟨some 8, (.un .not (.t 7)), no⟩, ⟨some 9, (.mv (.t 8)), no⟩, ⟨some 10, (.fld 1 (.t 1)), (some (9, false))⟩, ⟨some 11, (.ld false 1 (.t 10)), (some (9, false))⟩, ⟨some 12, (.len false (.t 11)), (some (9, false))⟩, ⟨some 13, (.bin .gtr (.t 12) (.k (.int .i64 4))), (some (9, false))⟩, ⟨some 14, (.pick (.t 9) (.k (.bool true)) (.t 13)), no⟩]) (.cond (.t 14) (.seq
 (.reg [⟨some 2, (.mv (.k (.bool false))), no⟩]) .ret) .skip)) (.seq (.seq
 (.reg [⟨some 15, (.fld 1 (.t 1)), no⟩, ⟨some 16, (.ld false 1 (.t 15)), no⟩, ⟨some 17, (.len false (.t 16)), no⟩, ⟨some 18, (.mv (.k (.int .i64 0))), no⟩]) (.blk 0 (.loop (.seq
 (.reg [⟨some 19, (.bin .lss (.t 18) (.t 17)), no⟩]) (.seq (.cond (.t 19) .skip (.exit 0)) (.seq (.blk 1 (.seq
 (.reg [⟨some 20, (.mv (.t 18)), no⟩, ⟨some 21, (.ixa 2 (.t 16) (.t 18)), no⟩, ⟨some 22, (.ld true 2 (.t 21)), no⟩, ⟨some 4, (.box [(.int .i64 0), (.str [])]), no⟩, ⟨some 3, (.mv (.t 20)), no⟩, ⟨no, (.st 2 (.t 4) (.t 22)), no⟩]) (.seq (.draw (.op ⟨some 23, (.fld 0 (.t 4)), no⟩ (.op ⟨some 24, (.ld false 1 (.t 23)), no⟩ (.op ⟨some 25, (.bin .eql (.t 24) (.k (.int .i64 0))), no⟩ (.op ⟨some 26, (.mv (.t 25)), no⟩ (.op ⟨some 27, (.fld 0 (.t 4)), (some (26, false))⟩ (.op ⟨some 28, (.ld false 1 (.t 27)), (some (26, false))⟩ (.op ⟨some 29, (.call (.k (.fn (.func 278) [] [])) [(.t 28)]), (some (26, false))⟩ (.op ⟨some 30, (.un .not (.t 29)), (some (26, false))⟩ (.op ⟨some 31, (.pick (.t 26) (.k (.bool true)) (.t 30)), no⟩ (.op ⟨some 32, (.mv (.t 31)), no⟩ (.op ⟨some 33, (.fld 1 (.t 4)), (some (32, false))⟩ (.op ⟨some 34, (.ld false 1 (.t 33)), (some (32, false))⟩ (.op ⟨some 35, (.call (.k (.fn (.func 149) [] [])) [(.t 34)]), (some (32, false))⟩ (.op ⟨some 36, (.un .not (.t 35)), (some (32, false))⟩ (.op ⟨some 37, (.pick (.t 32) (.k (.bool true)) (.t 36)), no⟩ (.op ⟨some 38, (.mv (.t 37)), no⟩ (.op ⟨some 39, (.mv (.t 3)), (some (38, false))⟩ (.op ⟨some 40, (.bin .gtr (.t 39) (.k (.int .i64 0))), (some (38, false))⟩ (.op ⟨some 41, (.mv (.t 40)), (some (38, false))⟩ (.op ⟨some 42, (.fld 1 (.t 1)), (some (41, true))⟩ (.op ⟨some 43, (.ld false 1 (.t 42)), (some (41, true))⟩ (.op ⟨some 44, (.mv (.t 3)), (some (41, true))⟩ (.op ⟨some 45, (.bin .sub (.t 44) (.k (.int .i64 1))), (some (41, true))⟩ (.op ⟨some 46, (.ixa 2 (.t 43) (.t 45)), (some (41, true))⟩ (.op ⟨some 47, (.fld 1 (.t 46)), (some (41, true))⟩ (.op ⟨some 48, (.ld false 1 (.t 47)), (some (41, true))⟩ (.op ⟨some 49, (.fld 1 (.t 4)), (some (41, true))⟩ (.op ⟨some 50, (.ld false 1 (.t 49)), (some (41, true))⟩ (.op ⟨some 51, (.bin .geq (.t 48) (.t 50)), (some (41, true))⟩ (.op ⟨some 52, (.pick (.t 41) (.t 51) (.k (.bool false))), (some (38, false))⟩ (.op ⟨some 53, (.pick (.t 38) (.k (.bool true)) (.t 52)), no⟩ .fin)))))))))))))))))))))))))))))))) (.cond (.t 53) (.seq
 (.reg [⟨some 2, (.mv (.k (.bool false))), no⟩]) .ret) .skip))))
 (.reg [⟨some 54, (.bin .add (.t 18) (.k (.int .i64 1))), no⟩, ⟨some 18, (.mv (.t 54)), no⟩]))))))) (.seq
 (.reg [⟨some 2, (.mv (.k (.bool true))), no⟩]) .ret))))⟩
theorem a225_ok : compFn Tryz.prog Tryz.f225 = some a225 := by kernel_rfl
def prevN (l : List DTerm) (i : Nat) : Option Str := if i = 0 then Option.none else (l[i - 1]?).map (·.Name)
theorem prevN_succ {l : List DTerm} {i : Nat} (hi : i < l.length) : prevN l (i + 1) = some (l[i]).Name := by simp [prevN, hi]
set_option maxRecDepth 20000 in
set_option maxHeartbeats 1000000 in
theorem k_IsValidSum (x : DSum) : Holds Tryz.prog 225 [.agg (rASum x)] (fun r => r = .bool (okSum x)) := by
  refine holds_of_run Tryz.func225 a225_ok rfl (by simp [a225]) ?_
  simp [a225, rASum]
  first | refine callD_of (k_Fits x.Const) (by simp) ?_ | refine call_of (k_Fits x.Const) (by simp) ?_ | refine callD_of (k_Fits x.Const) rfl ?_ | refine call_of (k_Fits x.Const) rfl ?_
  rintro r rfl
  unfold okSum
  cases h1 : fits x.Const
  · simp
  simp
  intro hl
  have hd : decide (x.Terms.length ≤ 4) = decide ((x.Terms.length : Int) ≤ 4) := by rw [decide_eq_decide]; omega
  rw [hd]
  by_cases h2 : (x.Terms.length : Int) ≤ 4
  case neg =>
    have h2n : ¬ x.Terms.length ≤ 4 := by omega
    simp [h2, h2n, Int.not_le.1 h2]
  simp [h2, Int.not_lt.2 h2]
  intro _
  generalize hB : termsOk Option.none x.Terms = B
  refine rL_forO [1, 16, 17] 18 x.Terms.length (fun i s h n => 0 < n ∧ h 0 = some ⟨true, 2, [[i64 x.Const, .sl 2 (x.Terms.map rATerm)]]⟩ ∧ termsOk (prevN x.Terms i) (x.Terms.drop i) = B) hl (by simp) ⟨by simp, by simp, by simpa [prevN] using hB⟩ ?_ ?_
  · rintro i st h n R hi hg hk s18 hw ⟨hn, e0, hJ⟩ hR hret _
    simp at hk
    rw [List.drop_eq_getElem_cons hi] at hJ
    simp only [termsOk] at hJ
    have z0 : ¬ 0 = n := by omega
    refine rC_cut [1, 16, 17, 18] (fun s => s 19 = .bool true) (by simp [hk, s18, hi]) ?_
    intro st1 hk1 s19
    simp at hk1
    refine rC_pass s19 (rC_seqI (rC_blkI ?_))
    refine rC_cutH [1, 16, 17, 18] (fun s h' n' => s 3 = .int .i64 i ∧ s 4 = .ptr n 0 0 ∧ n' = n + 1 ∧ h' n = some ⟨true, 2, [rATerm x.Terms[i]]⟩ ∧ h' 0 = some ⟨true, 2, [[i64 x.Const, .sl 2 (x.Terms.map rATerm)]]⟩) (by simp [hk, hk1, s18, hi, rATerm, e0, z0]) ?_
    rintro st2 h2 n2 hk2 ⟨s3, s4, rfl, en, e0'⟩
    simp at hk2
    obtain ⟨bad, hbad⟩ : ∃ bad, bad = (((x.Terms[i]).Coeff == 0 || !fits (x.Terms[i]).Coeff || !intName (x.Terms[i]).Name) || (match prevN x.Terms i with | Option.none => false | some q => !(Op.bytesLess q (x.Terms[i]).Name))) := ⟨_, rfl⟩
    refine rC_cut [1, 16, 17, 18] (fun s => s 53 = .bool bad) ?_ ?_
    · subst hbad
      by_cases c0 : (x.Terms[i]).Coeff = 0
      · simp [hk, hk1, hk2, s18, hi, rATerm, e0', en, z0, s3, s4, c0]
      simp [hk, hk1, hk2, s18, hi, rATerm, e0', en, z0, s3, s4, c0]
      first | refine callD_of (k_Fits (x.Terms[i]'hi).Coeff) (by simp) ?_ | refine call_of (k_Fits (x.Terms[i]'hi).Coeff) (by simp) ?_ | refine callD_of (k_Fits (x.Terms[i]'hi).Coeff) rfl ?_ | refine call_of (k_Fits (x.Terms[i]'hi).Coeff) rfl ?_
      rintro r rfl
      cases c1 : fits (x.Terms[i]).Coeff
      · simp [hk, hk1, hk2, s18, hi, rATerm, e0', en, z0, s3, s4]
      simp [hk, hk1, hk2, s18, hi, rATerm, e0', en, z0, s3, s4]
      first | refine callD_of (k_isIntName (x.Terms[i]'hi).Name) (by simp) ?_ | refine call_of (k_isIntName (x.Terms[i]'hi).Name) (by simp) ?_ | refine callD_of (k_isIntName (x.Terms[i]'hi).Name) rfl ?_ | refine call_of (k_isIntName (x.Terms[i]'hi).Name) rfl ?_
      rintro r rfl
      cases c2 : intName (x.Terms[i]).Name
      · simp [hk, hk1, hk2, s18, hi, rATerm, e0', en, z0, s3, s4]
      cases i with
      | zero => simp [hk, hk1, hk2, s18, hi, rATerm, e0', en, z0, s3, s4, prevN, c0, c1, c2]
      | succ i =>
        have hi' : i < x.Terms.length := by omega
        have hwr : IntKind.i64.wrap (i : Int) = i := wrap64 (by unfold LIM at hl; omega)
        simp [hk, hk1, hk2, s18, hi, hi', rATerm, e0', en, z0, s3, s4, prevN_succ hi', hwr, c0, c1, c2]
    intro st3 hk3 s53
    simp at hk3
    have hJ' : (!bad && termsOk (some (x.Terms[i]).Name) (x.Terms.drop (i + 1))) = B := by
      rw [← hJ, hbad]
      cases ((x.Terms[i]).Coeff == 0) <;> cases (fits (x.Terms[i]).Coeff) <;> cases (intName (x.Terms[i]).Name) <;> cases (prevN x.Terms i) <;> simp
    rw [← prevN_succ hi] at hJ'
    clear hJ hbad
    cases bad
    · simp [hk, hk1, hk2, hk3, s18, s53, hw]
      exact hR _ _ _ (by simp [hk, hk1, hk2, hk3]) (by simp) ⟨by omega, by simp [e0'], by simpa using hJ'⟩
    · simp [hk, hk1, hk2, hk3, s18, s53, hw]
      simp at hJ'
      refine hret _ _ _ ?_
      simp [hJ']
  · rintro st h n R hk s18 ⟨hn, e0, hJ⟩ hret hX
    simp at hk
    rw [List.drop_eq_nil_of_le (by omega)] at hJ
    refine rC_cut [1, 16, 17, 18] (fun s => s 19 = .bool false) (by simp [hk, s18]) ?_
    intro st1 hk1 s19
    simp at hk1
    refine rC_stop s19 ?_
    simp
    refine hX _ _ _ _ ?_
    simp [← hJ, termsOk]
end Go.Proofs.YtilcageplifbgaaGreat

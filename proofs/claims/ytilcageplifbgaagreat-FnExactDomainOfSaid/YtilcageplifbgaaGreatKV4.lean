/- Contracts: valid arguments. -/
import Derived.Test.YtilcageplifbgaaGreatKV3
import Derived.Test.YtilcageplifbgaaGreatKV3S
namespace Go.Proofs.YtilcageplifbgaaGreat
set_option linter.all false
open Go Go.RowKit Go.Proofs
def a281 : AFn :=
⟨6, [(.t 2)], (.seq
 (.reg [⟨some 1, (.boxv (.t 0)), no⟩, ⟨some 2, (.mv (.k (.bool false))), no⟩]) (.seq
 (.reg [⟨some 3, (.ld true 2 (.t 1)), no⟩, ⟨some 4, (.call (.k (.fn (.func 225) [] [])) [(.t 3)]), no⟩, ⟨some 5, (.un .not (.t 4)), no⟩, ⟨some 2, (.mv (.t 5)), no⟩]) .ret))⟩
theorem a281_ok : compFn Tryz.prog Tryz.f281 = some a281 := by kernel_rfl
def a230 : AFn :=
⟨32, [(.t 2)], (.seq
 (.reg [⟨some 1, (.boxv (.t 0)), no⟩, ⟨some 2, (.mv (.k (.bool false))), no⟩]) (.seq (.seq
 (.reg [⟨some 3, (.fld 1 (.t 1)), no⟩, ⟨some 4, (.ld false 1 (.t 3)), no⟩, ⟨some 5, (.call (.k (.fn (.func 280) [] [])) [(.t 4), (.k (.fn (.func 281) [] []))]), no⟩]) (.cond (.t 5) (.seq
 (.reg [⟨some 2, (.mv (.k (.bool false))), no⟩]) .ret) .skip)) (.seq (.seq
 (.reg [⟨some 6, (.fld 0 (.t 1)), no⟩, ⟨some 7, (.ld false 1 (.t 6)), no⟩, ⟨some 8, (.un .not (.t 7)), no⟩]) (.cond (.t 8) (.seq
 (.reg [⟨some 9, (.fld 1 (.t 1)), no⟩, ⟨some 10, (.ld false 1 (.t 9)), no⟩, ⟨some 11, (.len false (.t 10)), no⟩, ⟨some 12, (.bin .eql (.t 11) (.k (.int .i64 1))), no⟩, ⟨some 13, (.mv (.t 12)), no⟩, ⟨some 14, (.fld 2 (.t 1)), (some (13, true))⟩, ⟨some 15, (.ld false 1 (.t 14)), (some (13, true))⟩, ⟨some 16, (.bin .eql (.t 15) (.k (.str []))), (some (13, true))⟩, ⟨some 17, (.pick (.t 13) (.t 16) (.k (.bool false))), no⟩, ⟨some 2, (.mv (.t 17)), no⟩]) .ret) .skip)) (.seq
 (.reg [⟨some 18, (.fld 1 (.t 1)), no⟩, ⟨some 19, (.ld false 1 (.t 18)), no⟩, ⟨some 20, (.len false (.t 19)), no⟩, ⟨some 21, (.bin .leq (.t 20) (.k (.int .i64 3))), no⟩, ⟨some 22, (.mv (.t 21)), no⟩, ⟨some 23, (.fld 2 (.t 1)), (some (22, true))⟩, ⟨some 24, (.ld false 1 (.t 23)), (some (22, true))⟩, ⟨some 25, (.bin .eql (.t 24) (.k (.str []))), (some (22, true))⟩, ⟨some 26, (.mv (.t 25)), (some (22, true))⟩, ⟨some 27, (.fld 2 (.t 1)), (some (26, false))⟩, ⟨some 28, (.ld false 1 (.t 27)), (some (26, false))⟩, ⟨some 29, (.call (.k (.fn (.func 64) [] [])) [(.t 28)]), (some (26, false))⟩, ⟨some 30, (.pick (.t 26) (.k (.bool true)) (.t 29)), (some (22, true))⟩, ⟨some 31, (.pick (.t 22) (.t 30) (.k (.bool false))), no⟩, ⟨some 2, (.mv (.t 31)), no⟩]) .ret))))⟩
theorem a230_ok : compFn Tryz.prog Tryz.f230 = some a230 := by kernel_rfl
def a268 : AFn :=
⟨44, [(.t 2)], (.seq
 (.reg [⟨some 1, (.boxv (.t 0)), no⟩, ⟨some 2, (.mv (.k (.bool false))), no⟩]) (.seq (.seq
 (.reg [⟨some 3, (.mv (.k (.int .i64 0))), no⟩]) (.blk 0 (.loop (.seq (.seq
 (.reg [⟨some 4, (.mv (.t 3)), no⟩, ⟨some 5, (.fld 1 (.t 1)), no⟩, ⟨some 6, (.ld false 1 (.t 5)), no⟩, ⟨some 7, (.len false (.t 6)), no⟩, ⟨some 8, (.bin .lss (.t 4) (.t 7)), no⟩]) (.cond (.t 8) .skip (.exit 0))) (.seq (.blk 1 (.seq
 (.reg [⟨some 11, (.fld 1 (.t 1)), no⟩, ⟨some 12, (.ld false 1 (.t 11)), no⟩, ⟨some 13, (.mv (.t 3)), no⟩, ⟨some 14, (.ixa 2 (.t 12) (.t 13)), no⟩, ⟨some 15, (.ld true 2 (.t 14)), no⟩, ⟨some 16, (.call (.k (.fn (.func 267) [] [])) [(.t 15)]), no⟩, ⟨some 17, (.un .not (.t 16)), no⟩]) (.cond (.t 17) (.seq
 (.reg [⟨some 2, (.mv (.k (.bool false))), no⟩]) .ret) .skip)))
 (.reg [⟨some 9, (.mv (.t 3)), no⟩, ⟨some 10, (.bin .add (.t 9) (.k (.int .i64 1))), no⟩, ⟨some 3, (.mv (.t 10)), no⟩])))))) (.seq (.seq
 (.reg [⟨some 18, (.fld 0 (.t 1)), no⟩, ⟨some 19, (.ld false 1 (.t 18)), no⟩, ⟨some 20, (.un .not (.t 19)), no⟩]) (.cond (.t 20) (.seq
 (.reg [⟨some 21, (.fld 1 (.t 1)), no⟩, ⟨some 22, (.ld false 1 (.t 21)), no⟩, ⟨some 23, (.len false (.t 22)), no⟩, ⟨some 24, (.bin .eql (.t 23) (.k (.int .i64 1))), no⟩, ⟨some 25, (.mv (.t 24)), no⟩, ⟨some 26, (.fld 2 (.t 1)), (some (25, true))⟩, ⟨some 27, (.ld false 1 (.t 26)), (some (25, true))⟩, ⟨some 28, (.bin .eql (.t 27) (.k (.str []))), (some (25, true))⟩, ⟨some 29, (.pick (.t 25) (.t 28) (.k (.bool false))), no⟩, ⟨some 2, (.mv (.t 29)), no⟩]) .ret) .skip)) (.seq
 (.reg [⟨some 30, (.fld 1 (.t 1)), no⟩, ⟨some 31, (.ld false 1 (.t 30)), no⟩, ⟨some 32, (.len false (.t 31)), no⟩, ⟨some 33, (.bin .leq (.t 32) (.k (.int .i64 3))), no⟩, ⟨some 34, (.mv (.t 33)), no⟩, ⟨some 35, (.fld 2 (.t 1)), (some (34, true))⟩, ⟨some 36, (.ld false 1 (.t 35)), (some (34, true))⟩, ⟨some 37, (.bin .eql (.t 36) (.k (.str []))), (some (34, true))⟩, ⟨some 38, (.mv (.t 37)), (some (34, true))⟩, ⟨some 39, (.fld 2 (.t 1)), (some (38, false))⟩, ⟨some 40, (.ld false 1 (.t 39)), (some (38, false))⟩, ⟨some 41, (.call (.k (.fn (.func 143) [] [])) [(.t 40)]), (some (38, false))⟩, ⟨some 42, (.pick (.t 38) (.k (.bool true)) (.t 41)), (some (34, true))⟩, ⟨some 43, (.pick (.t 34) (.t 42) (.k (.bool false))), no⟩, ⟨some 2, (.mv (.t 43)), no⟩]) .ret))))⟩
theorem a268_ok : compFn Tryz.prog Tryz.f268 = some a268 := by kernel_rfl
def a211 : AFn :=
⟨23, [(.t 6)], (.seq
 (.reg [⟨some 3, (.boxv (.t 0)), no⟩, ⟨some 6, (.mv (.k (.bool false))), no⟩]) (.seq
 (.reg [⟨some 7, (.ld true 3 (.t 3)), no⟩, ⟨some 8, (.call (.k (.fn (.func 268) [] [])) [(.t 7)]), no⟩, ⟨some 9, (.mv (.t 8)), no⟩, ⟨some 10, (.fld 0 (.t 3)), (some (9, true))⟩, ⟨some 11, (.ld false 1 (.t 10)), (some (9, true))⟩, ⟨some 12, (.mv (.t 1)), (some (9, true))⟩, ⟨some 13, (.beq false (.t 11) (.t 12)), (some (9, true))⟩, ⟨some 14, (.pick (.t 9) (.t 13) (.k (.bool false))), no⟩, ⟨some 15, (.mv (.t 14)), no⟩, ⟨some 16, (.ld true 3 (.t 3)), (some (15, true))⟩, ⟨some 17, (.call (.k (.fn (.func 269) [] [])) [(.t 16)]), (some (15, true))⟩, ⟨some 18, (.mv (.t 2)), (some (15, true))⟩, ⟨some 19, (.call (.k (.fn (.func 166) [] [])) [(.t 17), (.t 18)]), (some (15, true))⟩, ⟨some 20, (.len false (.t 19)), (some (15, true))⟩, ⟨some 21, (.bin .eql (.t 20) (.k (.int .i64 0))), (some (15, true))⟩, ⟨some 22, (.pick (.t 15) (.t 21) (.k (.bool false))), no⟩, ⟨some 6, (.mv (.t 22)), no⟩]) .ret))⟩
theorem a211_ok : compFn Tryz.prog Tryz.f211 = some a211 := by kernel_rfl
theorem k_Arg1 (s : DSum) : Holds Tryz.prog 281 [.agg (rASum s)] (fun r => r = .bool (!okSum s)) := by
  refine holds_of_run Tryz.func281 a281_ok rfl (by simp [a281]) ?_
  simp [a281, rASum]
  first | refine callD_of (k_IsValidSum s) (by simp [rASum]) ?_ | refine call_of (k_IsValidSum s) (by simp [rASum]) ?_ | refine callD_of (k_IsValidSum s) rfl ?_ | refine call_of (k_IsValidSum s) rfl ?_
  rintro r rfl
  simp
theorem k_IsValidArg (x : DArg) : Holds Tryz.prog 230 [.agg (rAArg x)] (fun r => r = .bool (okArg x)) := by
  refine holds_of_run Tryz.func230 a230_ok rfl (by simp [a230]) ?_
  simp [a230, rAArg]
  refine acall_tContainsFunc (p := fun s => !okSum s) (rowOf := rASum) (eltOf := fun s => .agg (rASum s)) Tryz.func280 a280_ok rfl Tryz.func299 a299_ok rfl (fun x => by simp) x.Heads
    (fun s _ => pure1_of_holds (k_Arg1 s) (by simp) rfl) ?_
  rw [any_not]
  unfold okArg
  cases h1 : x.Heads.all okSum
  · simp
  simp
  cases h2 : x.Lst
  · simp
    intro _
    by_cases h3 : (x.Heads.length : Int) = 1
    · have h3n : x.Heads.length = 1 := by omega
      simp [h3, h3n]
    · have h3n : ¬ x.Heads.length = 1 := by omega
      simp [h3, h3n]
  · simp
    intro _
    by_cases h3 : (x.Heads.length : Int) ≤ 3
    · have h3n : x.Heads.length ≤ 3 := by omega
      simp [h3, h3n, Int.not_lt.2 h3]
      by_cases h4 : x.Base = []
      · simp [h4]
      simp [h4]
      first | refine callD_of (k_IsListName x.Base) (by simp) ?_ | refine call_of (k_IsListName x.Base) (by simp) ?_ | refine callD_of (k_IsListName x.Base) rfl ?_ | refine call_of (k_IsListName x.Base) rfl ?_
      rintro r rfl
      simp [h4]
    · have h3n : ¬ x.Heads.length ≤ 3 := by omega
      simp [h3, h3n]
theorem ks_IsValidArg (x : DArg) : Holds Tryz.prog 268 [.agg (rAArg x)] (fun r => r = .bool (okArg x)) := by
  refine holds_of_lim Tryz.func268 rfl rfl fun hl => ?_
  simp [rAArg] at hl
  refine holds_of_run Tryz.func268 a268_ok rfl (by simp [a268]) ?_
  simp [a268, rAArg]
  unfold okArg
  generalize hB : x.Heads.all okSum = B
  refine rL_forS [1] 3 x.Heads.length (fun i _ => (x.Heads.drop i).all okSum = B) hl.1 (by simp) (by simpa using hB) ?_ ?_
  · rintro i st h R hi hg hk s3 hw hJ hh hR hret _
    simp at hk
    rw [List.drop_eq_getElem_cons hi, List.all_cons] at hJ
    have e0 := hh 0
    simp at e0
    simp [hk, s3, hi, hg, e0]
    intro _
    first | refine callD_of (ks_IsValidSum (x.Heads[i]'hi)) (by simp) ?_ | refine call_of (ks_IsValidSum (x.Heads[i]'hi)) (by simp) ?_ | refine callD_of (ks_IsValidSum (x.Heads[i]'hi)) rfl ?_ | refine call_of (ks_IsValidSum (x.Heads[i]'hi)) rfl ?_
    rintro r rfl
    cases hc : okSum x.Heads[i]
    · rw [hc, Bool.false_and] at hJ
      subst hJ
      simp
      refine hret _ _ _ ?_
      simp
    · rw [hc, Bool.true_and] at hJ
      simp [hk, s3, hw]
      exact hR _ (by simp [hk]) (by simp) hJ
  · rintro st h R hk s3 hJ hh _ hX
    simp at hk
    rw [List.drop_eq_nil_of_le (by omega)] at hJ
    have e0 := hh 0
    simp at e0
    simp [hk, s3, e0]
    intro _
    refine hX _ _ ?_
    simp at hJ
    subst hJ
    simp [hk]
    cases h2 : x.Lst
    · simp [hk]
      intro _
      by_cases h3 : (x.Heads.length : Int) = 1
      · have h3n : x.Heads.length = 1 := by omega
        simp [h3, h3n, hk]
      · have h3n : ¬ x.Heads.length = 1 := by omega
        simp [h3, h3n]
    · simp [hk]
      intro _
      by_cases h3 : (x.Heads.length : Int) ≤ 3
      · have h3n : x.Heads.length ≤ 3 := by omega
        simp [h3, h3n, Int.not_lt.2 h3, hk]
        by_cases h4 : x.Base = []
        · simp [h4]
        simp [h4, hk]
        first | refine callD_of (ks_IsListName x.Base) (by simp) ?_ | refine call_of (ks_IsListName x.Base) (by simp) ?_ | refine callD_of (ks_IsListName x.Base) rfl ?_ | refine call_of (ks_IsListName x.Base) rfl ?_
        rintro r rfl
        simp [h4]
      · have h3n : ¬ x.Heads.length ≤ 3 := by omega
        simp [h3, h3n]
theorem ks_l10Arg (x : DArg) (b : Bool) (scope : List Str) (hw : wArg x ≤ 1048576) : Holds Tryz.prog 211 [.agg (rAArg x), .bool b, .sl 1 (strsR scope)] (fun r => r = .bool (argOk x b scope)) := by
  refine holds_of_run Tryz.func211 a211_ok rfl (by simp [a211]) ?_
  simp [a211, rAArg]
  first | refine callD_of (ks_IsValidArg x) (by simp [rAArg]) ?_ | refine call_of (ks_IsValidArg x) (by simp [rAArg]) ?_ | refine callD_of (ks_IsValidArg x) rfl ?_ | refine call_of (ks_IsValidArg x) rfl ?_
  rintro r rfl
  unfold argOk
  cases h1 : okArg x
  · simp
  simp
  by_cases hb : x.Lst = b
  case neg => simp [hb]
  simp [hb]
  subst hb
  first | refine callD_of (ks_NamesOf x hw) (by simp [rAArg]) ?_ | refine call_of (ks_NamesOf x hw) (by simp [rAArg]) ?_ | refine callD_of (ks_NamesOf x hw) rfl ?_ | refine call_of (ks_NamesOf x hw) rfl ?_
  rintro r rfl
  simp
  have hl : (snames (argN0 x)).length ≤ 1048576 := Nat.le_trans (snames_len _) (argN0_len x hw)
  first | refine callD_of (ks_Without (snames (argN0 x)) scope hl) (by simp) ?_ | refine call_of (ks_Without (snames (argN0 x)) scope hl) (by simp) ?_ | refine callD_of (ks_Without (snames (argN0 x)) scope hl) rfl ?_ | refine call_of (ks_Without (snames (argN0 x)) scope hl) rfl ?_
  rintro r rfl
  simp
  intro _
  rw [← withoutL_nil]
  rw [Bool.eq_iff_iff]
  simp
end Go.Proofs.YtilcageplifbgaaGreat

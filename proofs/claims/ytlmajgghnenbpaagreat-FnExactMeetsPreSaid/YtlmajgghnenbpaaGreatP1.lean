/- Contracts: values, evaluation. -/
import Derived.Test.YtlmajgghnenbpaaGreatV2
namespace Go.Proofs.YtlmajgghnenbpaaGreat
set_option linter.all false
open Go Go.RowKit Go.Proofs
def a103 : AFn :=
⟨10, [(.t 2)], (.seq 
 (.reg [⟨some 1, (.boxv (.t 0)), no⟩, ⟨some 2, (.mv (.k (.int .i64 0))), no⟩]) (.seq (.seq 
 (.reg [⟨some 3, (.fld 0 (.t 1)), no⟩, ⟨some 4, (.ld false 1 (.t 3)), no⟩]) (.cond (.t 4) (.seq 
 (.reg [⟨some 5, (.fld 2 (.t 1)), no⟩, ⟨some 6, (.ld false 1 (.t 5)), no⟩, ⟨some 7, (.len false (.t 6)), no⟩, ⟨some 2, (.mv (.t 7)), no⟩]) .ret) .skip)) (.seq 
 (.reg [⟨some 8, (.fld 1 (.t 1)), no⟩, ⟨some 9, (.ld false 1 (.t 8)), no⟩, ⟨some 2, (.mv (.t 9)), no⟩]) .ret)))⟩
theorem a103_ok : compFn Tryz.prog Tryz.f103 = some a103 := by kernel_rfl

def a191 : AFn :=
⟨10, [(.t 2)], (.seq 
 (.reg [⟨some 1, (.boxv (.t 0)), no⟩, ⟨some 2, (.mv (.k (.int .i64 0))), no⟩]) (.seq (.seq 
 (.reg [⟨some 3, (.fld 0 (.t 1)), no⟩, ⟨some 4, (.ld false 1 (.t 3)), no⟩]) (.cond (.t 4) (.seq 
 (.reg [⟨some 5, (.fld 2 (.t 1)), no⟩, ⟨some 6, (.ld false 1 (.t 5)), no⟩, ⟨some 7, (.len false (.t 6)), no⟩, ⟨some 2, (.mv (.t 7)), no⟩]) .ret) .skip)) (.seq 
 (.reg [⟨some 8, (.fld 1 (.t 1)), no⟩, ⟨some 9, (.ld false 1 (.t 8)), no⟩, ⟨some 2, (.mv (.t 9)), no⟩]) .ret)))⟩
theorem a191_ok : compFn Tryz.prog Tryz.f191 = some a191 := by kernel_rfl

def a259 : AFn :=
⟨6, [(.t 2)], (.seq 
 (.reg [⟨some 2, (.mv (.k (.bool false))), no⟩]) (.seq 
 (.reg [⟨some 3, (.mv (.t 0)), no⟩, ⟨some 4, (.call (.k (.fn (.func 196) [] [])) [(.t 3)]), no⟩, ⟨some 5, (.un .not (.t 4)), no⟩, ⟨some 2, (.mv (.t 5)), no⟩]) .ret))⟩
theorem a259_ok : compFn Tryz.prog Tryz.f259 = some a259 := by kernel_rfl

def a195 : AFn :=
⟨6, [(.t 2)], (.seq 
 (.reg [⟨some 2, (.mv (.k (.bool false))), no⟩]) (.seq 
 (.reg [⟨some 3, (.mv (.t 0)), no⟩, ⟨some 4, (.call (.k (.fn (.func 196) [] [])) [(.t 3)]), no⟩, ⟨some 5, (.un .not (.t 4)), no⟩, ⟨some 2, (.mv (.t 5)), no⟩]) .ret))⟩
theorem a195_ok : compFn Tryz.prog Tryz.f195 = some a195 := by kernel_rfl

def a192 : AFn :=
⟨30, [(.t 2)], (.seq 
 (.reg [⟨some 1, (.boxv (.t 0)), no⟩, ⟨some 2, (.mv (.k (.bool false))), no⟩]) (.seq (.seq 
 (.reg [⟨some 3, (.fld 0 (.t 1)), no⟩, ⟨some 4, (.ld false 1 (.t 3)), no⟩, ⟨some 5, (.un .not (.t 4)), no⟩]) (.cond (.t 5) (.seq 
 (.reg [⟨some 6, (.fld 1 (.t 1)), no⟩, ⟨some 7, (.ld false 1 (.t 6)), no⟩, ⟨some 8, (.call (.k (.fn (.func 196) [] [])) [(.t 7)]), no⟩, ⟨some 9, (.mv (.t 8)), no⟩, ⟨some 10, (.fld 2 (.t 1)), (some (9, true))⟩, ⟨some 11, (.ld false 1 (.t 10)), (some (9, true))⟩, ⟨some 12, (.len false (.t 11)), (some (9, true))⟩, ⟨some 13, (.bin .eql (.t 12) (.k (.int .i64 0))), (some (9, true))⟩, ⟨some 14, (.pick (.t 9) (.t 13) (.k (.bool false))), no⟩, ⟨some 2, (.mv (.t 14)), no⟩]) .ret) .skip)) (.seq 
 (.reg [⟨some 15, (.fld 1 (.t 1)), no⟩, ⟨some 16, (.ld false 1 (.t 15)), no⟩, ⟨some 17, (.bin .eql (.t 16) (.k (.int .i64 0))), no⟩, ⟨some 18, (.mv (.t 17)), no⟩, ⟨some 19, (.fld 2 (.t 1)), (some (18, true))⟩, ⟨some 20, (.ld false 1 (.t 19)), (some (18, true))⟩, ⟨some 21, (.len false (.t 20)), (some (18, true))⟩, ⟨some 22, (.bin .leq (.t 21) (.k (.int .i64 40))), (some (18, true))⟩, ⟨some 23, (.pick (.t 18) (.t 22) (.k (.bool false))), no⟩, ⟨some 24, (.mv (.t 23)), no⟩, ⟨some 25, (.fld 2 (.t 1)), (some (24, true))⟩, ⟨some 26, (.ld false 1 (.t 25)), (some (24, true))⟩, ⟨some 27, (.call (.k (.fn (.func 194) [] [])) [(.t 26), (.k (.fn (.func 259) [] []))]), (some (24, true))⟩, ⟨some 28, (.un .not (.t 27)), (some (24, true))⟩, ⟨some 29, (.pick (.t 24) (.t 28) (.k (.bool false))), no⟩, ⟨some 2, (.mv (.t 29)), no⟩]) .ret)))⟩
theorem a192_ok : compFn Tryz.prog Tryz.f192 = some a192 := by kernel_rfl

def a185 : AFn :=
⟨38, [(.t 2)], (.seq 
 (.reg [⟨some 1, (.boxv (.t 0)), no⟩, ⟨some 2, (.mv (.k (.bool false))), no⟩]) (.seq (.seq 
 (.reg [⟨some 3, (.mv (.k (.int .i64 0))), no⟩]) (.blk 0 (.loop (.seq (.seq 
 (.reg [⟨some 4, (.mv (.t 3)), no⟩, ⟨some 5, (.fld 2 (.t 1)), no⟩, ⟨some 6, (.ld false 1 (.t 5)), no⟩, ⟨some 7, (.len false (.t 6)), no⟩, ⟨some 8, (.bin .lss (.t 4) (.t 7)), no⟩]) (.cond (.t 8) .skip (.exit 0))) (.seq (.blk 1 (.seq 
 (.reg [⟨some 11, (.fld 2 (.t 1)), no⟩, ⟨some 12, (.ld false 1 (.t 11)), no⟩, ⟨some 13, (.mv (.t 3)), no⟩, ⟨some 14, (.ixa 1 (.t 12) (.t 13)), no⟩, ⟨some 15, (.ld false 1 (.t 14)), no⟩, ⟨some 16, (.call (.k (.fn (.func 188) [] [])) [(.t 15)]), no⟩, ⟨some 17, (.un .not (.t 16)), no⟩]) (.cond (.t 17) (.seq 
 (.reg [⟨some 2, (.mv (.k (.bool false))), no⟩]) .ret) .skip))) 
 (.reg [⟨some 9, (.mv (.t 3)), no⟩, ⟨some 10, (.bin .add (.t 9) (.k (.int .i64 1))), no⟩, ⟨some 3, (.mv (.t 10)), no⟩])))))) (.seq (.seq 
 (.reg [⟨some 18, (.fld 0 (.t 1)), no⟩, ⟨some 19, (.ld false 1 (.t 18)), no⟩]) (.cond (.t 19) (.seq 
 (.reg [⟨some 20, (.fld 1 (.t 1)), no⟩, ⟨some 21, (.ld false 1 (.t 20)), no⟩, ⟨some 22, (.bin .eql (.t 21) (.k (.int .i64 0))), no⟩, ⟨some 23, (.mv (.t 22)), no⟩, ⟨some 24, (.fld 2 (.t 1)), (some (23, true))⟩, ⟨some 25, (.ld false 1 (.t 24)), (some (23, true))⟩, ⟨some 26, (.len false (.t 25)), (some (23, true))⟩, ⟨some 27, (.bin .leq (.t 26) (.k (.int .i64 40))), (some (23, true))⟩, ⟨some 28, (.pick (.t 23) (.t 27) (.k (.bool false))), no⟩, ⟨some 2, (.mv (.t 28)), no⟩]) .ret) .skip)) (.seq 
 (.reg [⟨some 29, (.fld 1 (.t 1)), no⟩, ⟨some 30, (.ld false 1 (.t 29)), no⟩, ⟨some 31, (.call (.k (.fn (.func 188) [] [])) [(.t 30)]), no⟩, ⟨some 32, (.mv (.t 31)), no⟩, ⟨some 33, (.fld 2 (.t 1)), (some (32, true))⟩, ⟨some 34, (.ld false 1 (.t 33)), (some (32, true))⟩, ⟨some 35, (.len false (.t 34)), (some (32, true))⟩, ⟨some 36, (.bin .eql (.t 35) (.k (.int .i64 0))), (some (32, true))⟩, ⟨some 37, (.pick (.t 32) (.t 36) (.k (.bool false))), no⟩, ⟨some 2, (.mv (.t 37)), no⟩]) .ret))))⟩
theorem a185_ok : compFn Tryz.prog Tryz.f185 = some a185 := by kernel_rfl


def okVal (v : DValue) : Bool := if v.Lst then decide (v.N = 0) && decide ((v.Items.length : Int) ≤ 40) && v.Items.all fits else fits v.N && decide (v.Items.length = 0)
def sizeV (v : DValue) : Int := if v.Lst then v.Items.length else v.N
theorem okVal_fits {v : DValue} (h : okVal v = true) : fits (sizeV v) = true := by
  unfold okVal sizeV at *
  split at h
  · simp at h
    simp [fits, inR]
    omega
  · simp at h
    rename_i hl
    rw [if_neg hl]
    exact h.1

theorem k_SizeOf (v : DValue) : Holds Tryz.prog 103 [.agg (rAValue v)] (fun r => r = i64 (sizeV v)) := by
  refine holds_of_run Tryz.func103 a103_ok rfl (by simp [a103]) ?_
  simp [a103, rAValue]
  unfold sizeV
  cases v.Lst <;> simp
theorem ks_SizeOf (v : DValue) : Holds Tryz.prog 191 [.agg (rAValue v)] (fun r => r = i64 (sizeV v)) := by
  refine holds_of_run Tryz.func191 a191_ok rfl (by simp [a191]) ?_
  simp [a191, rAValue]
  unfold sizeV
  cases v.Lst <;> simp

theorem k_notFitsV (n : Int) : Holds Tryz.prog 259 [i64 n] (fun r => r = .bool (!fits n)) := by
  refine holds_of_run Tryz.func259 a259_ok rfl (by simp [a259]) ?_
  simp [a259]
  first | refine callD_of (k_Fits n) (by simp) ?_ | refine call_of (k_Fits n) (by simp) ?_ | refine callD_of (k_Fits n) rfl ?_ | refine call_of (k_Fits n) rfl ?_
  rintro r rfl
  simp
theorem k_notFitsE (n : Int) : Holds Tryz.prog 195 [i64 n] (fun r => r = .bool (!fits n)) := by
  refine holds_of_run Tryz.func195 a195_ok rfl (by simp [a195]) ?_
  simp [a195]
  first | refine callD_of (k_Fits n) (by simp) ?_ | refine call_of (k_Fits n) (by simp) ?_ | refine callD_of (k_Fits n) rfl ?_ | refine call_of (k_Fits n) rfl ?_
  rintro r rfl
  simp
theorem a_anyFitsV {h : Heap} {n : Nat} {K : AV → Heap → Nat → Prop} (l : List Int) (hK : K (.bool (!l.all fits)) h n) : ACall Tryz.prog 194 [.sl 1 (intsR l), .fn (.func 259) [] []] h n K :=
  acall_tContainsFunc (p := fun n => !fits n) (rowOf := fun n => [i64 n]) (eltOf := i64) Tryz.func194 a194_ok rfl Tryz.func261 a261_ok rfl (fun x => by simp) l
    (fun x _ => pure1_of_holds (k_notFitsV x) rfl rfl) (by rw [any_not]; exact hK)

theorem a_anyFitsE {h : Heap} {n : Nat} {K : AV → Heap → Nat → Prop} (l : List Int) (hK : K (.bool (!l.all fits)) h n) : ACall Tryz.prog 194 [.sl 1 (intsR l), .fn (.func 195) [] []] h n K :=
  acall_tContainsFunc (p := fun n => !fits n) (rowOf := fun n => [i64 n]) (eltOf := i64) Tryz.func194 a194_ok rfl Tryz.func261 a261_ok rfl (fun x => by simp) l
    (fun x _ => pure1_of_holds (k_notFitsE x) rfl rfl) (by rw [any_not]; exact hK)

theorem k_IsValidValue (v : DValue) : Holds Tryz.prog 192 [.agg (rAValue v)] (fun r => r = .bool (okVal v)) := by
  refine holds_of_run Tryz.func192 a192_ok rfl (by simp [a192]) ?_
  simp [a192, rAValue]
  unfold okVal
  cases v.Lst
  · simp
    first | refine callD_of (k_Fits v.N) (by simp) ?_ | refine call_of (k_Fits v.N) (by simp) ?_ | refine callD_of (k_Fits v.N) rfl ?_ | refine call_of (k_Fits v.N) rfl ?_
    rintro r rfl
    cases fits v.N <;> simp
    intro _
    rw [Bool.eq_iff_iff]
    simp
  simp
  by_cases h1 : v.N = 0
  case neg => simp [h1]
  simp [h1]
  intro _
  by_cases h2 : (v.Items.length : Int) ≤ 40
  case neg => simp [h2, Int.not_le.1 h2]
  have h2' : ¬ 40 < (v.Items.length : Int) := by omega
  simp [h2, h2']
  refine a_anyFitsV v.Items ?_
  simp
theorem ks_IsValidValue (v : DValue) : Holds Tryz.prog 185 [.agg (rAValue v)] (fun r => r = .bool (okVal v)) := by
  refine holds_of_lim Tryz.func185 rfl rfl fun hl => ?_
  simp [rAValue] at hl
  unfold okVal
  generalize hB : v.Items.all fits = B
  refine holds_of_run Tryz.func185 a185_ok rfl (by simp [a185]) ?_
  simp [a185, rAValue]
  refine rL_forO [1] 3 v.Items.length (fun i s h n => 0 < n ∧ h 0 = some ⟨true, 3, [rAValue v]⟩ ∧ (v.Items.drop i).all fits = B) hl (by simp) ⟨by simp, by simp [rAValue], by rw [← hB]; rfl⟩ ?_ ?_
  · rintro i st h n R hi hg hk s3 hw ⟨hn, e0, hJ⟩ hR hret _
    simp at hk
    rw [List.drop_eq_getElem_cons hi, List.all_cons] at hJ
    simp [hk, s3, hi, e0, rAValue]
    intro _
    first | refine callD_of (ks_Fits (v.Items[i]'hi)) (by simp) ?_ | refine call_of (ks_Fits (v.Items[i]'hi)) (by simp) ?_ | refine callD_of (ks_Fits (v.Items[i]'hi)) rfl ?_ | refine call_of (ks_Fits (v.Items[i]'hi)) rfl ?_
    rintro r rfl
    cases h1 : fits v.Items[i]
    · have hJ : B = false := by rw [← hJ, h1]; rfl
      simp
      refine hret _ _ _ ?_
      subst hJ
      cases v.Lst <;> simp
      intro _ he
      rw [he] at hi
      simp at hi
    · rw [h1, Bool.true_and] at hJ
      simp [hk, s3, hw]
      exact hR _ _ _ (by simp [hk]) (by simp) ⟨hn, e0, hJ⟩
  rintro st h n R hk s3 ⟨hn, e0, hJ⟩ hret hX
  simp at hk
  rw [List.drop_eq_nil_of_le (by omega)] at hJ
  simp only [List.all_nil] at hJ
  subst hJ
  simp [hk, s3, e0, rAValue]
  intro _
  refine hX _ _ _ _ ?_
  simp [hk, e0, rAValue]
  cases v.Lst
  · simp [hk, e0, rAValue]
    first | refine callD_of (ks_Fits v.N) (by simp) ?_ | refine call_of (ks_Fits v.N) (by simp) ?_ | refine callD_of (ks_Fits v.N) rfl ?_ | refine call_of (ks_Fits v.N) rfl ?_
    rintro r rfl
    cases fits v.N <;> simp [hk, e0, rAValue]
    intro _
    rw [Bool.eq_iff_iff]
    simp
  simp [hk, e0, rAValue]
  by_cases h1 : v.N = 0
  case neg => simp [h1]
  simp [h1, hk, e0, rAValue]
end Go.Proofs.YtlmajgghnenbpaaGreat

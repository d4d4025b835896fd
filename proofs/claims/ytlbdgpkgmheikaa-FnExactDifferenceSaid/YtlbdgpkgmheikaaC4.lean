/- Contracts: constants added, constant expressions, systems. -/
import Derived.Test.YtlbdgpkgmheikaaC3
namespace Go.Proofs.Ytlbdgpkgmheikaa
set_option linter.all false
open Go Go.RowKit Go.Proofs
def a117 : AFn :=
⟨32, [(.c 4 true 2), (.t 5)], (.seq 
 (.reg [⟨some 2, (.boxv (.t 0)), no⟩, ⟨some 4, (.box [(.int .i64 0), (.nil 1)]), no⟩, ⟨some 5, (.mv (.k (.bool false))), no⟩]) (.seq 
 (.reg [⟨some 10, (.fld 0 (.t 2)), no⟩, ⟨some 11, (.ld false 1 (.t 10)), no⟩, ⟨some 12, (.mv (.t 1)), no⟩, ⟨some 13, (.call (.k (.fn (.func 166) [] [])) [(.t 11), (.t 12)]), no⟩, ⟨some 9, (.mv (.t 13)), no⟩, ⟨some 14, (.ext (.t 9) 0), no⟩, ⟨some 15, (.ext (.t 9) 1), no⟩, ⟨some 6, (.mv (.t 14)), no⟩, ⟨some 7, (.mv (.t 15)), no⟩]) (.seq (.seq 
 (.reg [⟨some 16, (.mv (.t 7)), no⟩, ⟨some 17, (.un .not (.t 16)), no⟩, ⟨some 18, (.mv (.t 17)), no⟩, ⟨some 19, (.ld true 2 (.t 2)), (some (18, false))⟩, ⟨some 20, (.fld 1 (.t 2)), (some (18, false))⟩, ⟨some 21, (.ld false 1 (.t 20)), (some (18, false))⟩, ⟨some 22, (.len false (.t 21)), (some (18, false))⟩, ⟨some 23, (.call (.k (.fn (.func 78) [] [])) [(.t 19), (.t 22)]), (some (18, false))⟩, ⟨some 24, (.un .not (.t 23)), (some (18, false))⟩, ⟨some 25, (.pick (.t 18) (.k (.bool true)) (.t 24)), no⟩]) (.cond (.t 25) (.seq 
 (.reg [⟨some 26, (.build [(.int .i64 0), (.nil 1)] []), no⟩, ⟨no, (.st 2 (.t 4) (.t 26)), no⟩, ⟨some 5, (.mv (.k (.bool false))), no⟩]) .ret) .skip)) (.seq 
 (.reg [⟨some 27, (.ld true 2 (.t 2)), no⟩, ⟨some 28, (.call (.k (.fn (.func 167) [] [])) [(.t 27)]), no⟩, ⟨some 8, (.box [(.int .i64 0), (.nil 1)]), no⟩, ⟨no, (.st 2 (.t 8) (.t 28)), no⟩]) (.seq 
 (.reg [⟨some 29, (.mv (.t 6)), no⟩, ⟨some 30, (.fld 0 (.t 8)), no⟩, ⟨no, (.st 1 (.t 30) (.t 29)), no⟩]) (.seq 
 (.reg [⟨some 31, (.ld true 2 (.t 8)), no⟩, ⟨no, (.st 2 (.t 4) (.t 31)), no⟩, ⟨some 5, (.mv (.k (.bool true))), no⟩]) .ret))))))⟩
theorem a117_ok : compFn Try.prog Try.f117 = some a117 := by kernel_rfl

def a204 : AFn :=
⟨5, [(.t 2)], (.seq 
 (.reg [⟨some 2, (.mv (.k (.bool false))), no⟩]) (.seq 
 (.reg [⟨some 3, (.mv (.t 0)), no⟩, ⟨some 4, (.bin .neq (.t 3) (.k (.int .i64 0))), no⟩, ⟨some 2, (.mv (.t 4)), no⟩]) .ret))⟩
theorem a204_ok : compFn Try.prog Try.f204 = some a204 := by kernel_rfl

def a165 : AFn :=
⟨7, [(.t 2)], (.seq 
 (.reg [⟨some 1, (.boxv (.t 0)), no⟩, ⟨some 2, (.mv (.k (.bool false))), no⟩]) (.seq 
 (.reg [⟨some 3, (.fld 1 (.t 1)), no⟩, ⟨some 4, (.ld false 1 (.t 3)), no⟩, ⟨some 5, (.call (.k (.fn (.func 148) [] [])) [(.t 4), (.k (.fn (.func 204) [] []))]), no⟩, ⟨some 6, (.un .not (.t 5)), no⟩, ⟨some 2, (.mv (.t 6)), no⟩]) .ret))⟩
theorem a165_ok : compFn Try.prog Try.f165 = some a165 := by kernel_rfl

def a162 : AFn :=
⟨17, [(.t 2)], (.seq 
 (.reg [⟨some 1, (.boxv (.t 0)), no⟩, ⟨some 2, (.mv (.k (.bool false))), no⟩]) (.seq (.seq 
 (.reg [⟨some 3, (.mv (.k (.int .i64 0))), no⟩]) (.blk 0 (.loop (.seq (.seq 
 (.reg [⟨some 4, (.mv (.t 3)), no⟩, ⟨some 5, (.fld 1 (.t 1)), no⟩, ⟨some 6, (.ld false 1 (.t 5)), no⟩, ⟨some 7, (.len false (.t 6)), no⟩, ⟨some 8, (.bin .lss (.t 4) (.t 7)), no⟩]) (.cond (.t 8) .skip (.exit 0))) (.seq (.blk 1 (.seq 
 (.reg [⟨some 11, (.fld 1 (.t 1)), no⟩, ⟨some 12, (.ld false 1 (.t 11)), no⟩, ⟨some 13, (.mv (.t 3)), no⟩, ⟨some 14, (.ixa 1 (.t 12) (.t 13)), no⟩, ⟨some 15, (.ld false 1 (.t 14)), no⟩, ⟨some 16, (.bin .neq (.t 15) (.k (.int .i64 0))), no⟩]) (.cond (.t 16) (.seq 
 (.reg [⟨some 2, (.mv (.k (.bool false))), no⟩]) .ret) .skip))) 
 (.reg [⟨some 9, (.mv (.t 3)), no⟩, ⟨some 10, (.bin .add (.t 9) (.k (.int .i64 1))), no⟩, ⟨some 3, (.mv (.t 10)), no⟩])))))) (.seq 
 (.reg [⟨some 2, (.mv (.k (.bool true))), no⟩]) .ret)))⟩
theorem a162_ok : compFn Try.prog Try.f162 = some a162 := by kernel_rfl

def a163 : AFn :=
⟨28, [(.t 2)], (.seq 
 (.reg [⟨some 1, (.boxv (.t 0)), no⟩, ⟨some 2, (.mv (.k (.bool false))), no⟩]) (.seq (.seq 
 (.reg [⟨some 5, (.fld 0 (.t 1)), no⟩, ⟨some 6, (.ld false 1 (.t 5)), no⟩, ⟨some 7, (.call (.k (.fn (.func 102) [] [])) [(.t 6), (.k (.int .i64 0)), (.k (.int .i64 8))]), no⟩, ⟨some 8, (.un .not (.t 7)), no⟩, ⟨some 9, (.mv (.t 8)), no⟩, ⟨some 10, (.fld 1 (.t 1)), (some (9, false))⟩, ⟨some 11, (.ld false 1 (.t 10)), (some (9, false))⟩, ⟨some 12, (.len false (.t 11)), (some (9, false))⟩, ⟨some 13, (.bin .gtr (.t 12) (.k (.int .i64 20))), (some (9, false))⟩, ⟨some 14, (.pick (.t 9) (.k (.bool true)) (.t 13)), no⟩]) (.cond (.t 14) (.seq 
 (.reg [⟨some 2, (.mv (.k (.bool false))), no⟩]) .ret) .skip)) (.seq (.seq 
 (.reg [⟨some 15, (.fld 1 (.t 1)), no⟩, ⟨some 16, (.ld false 1 (.t 15)), no⟩, ⟨some 17, (.len false (.t 16)), no⟩, ⟨some 18, (.mv (.k (.int .i64 0))), no⟩]) (.blk 0 (.loop (.seq 
 (.reg [⟨some 19, (.bin .lss (.t 18) (.t 17)), no⟩]) (.seq (.cond (.t 19) .skip (.exit 0)) (.seq (.blk 1 (.seq 
 (.reg [⟨some 20, (.ixa 2 (.t 16) (.t 18)), no⟩, ⟨some 21, (.ld true 2 (.t 20)), no⟩, ⟨some 4, (.box [(.int .i64 0), (.nil 1)]), no⟩, ⟨no, (.st 2 (.t 4) (.t 21)), no⟩]) (.seq 
 (.reg [⟨some 22, (.ld true 2 (.t 4)), no⟩, ⟨some 23, (.fld 0 (.t 1)), no⟩, ⟨some 24, (.ld false 1 (.t 23)), no⟩, ⟨some 25, (.call (.k (.fn (.func 78) [] [])) [(.t 22), (.t 24)]), no⟩, ⟨some 26, (.un .not (.t 25)), no⟩]) (.cond (.t 26) (.seq 
 (.reg [⟨some 2, (.mv (.k (.bool false))), no⟩]) .ret) .skip)))) 
 (.reg [⟨some 27, (.bin .add (.t 18) (.k (.int .i64 1))), no⟩, ⟨some 18, (.mv (.t 27)), no⟩]))))))) (.seq 
 (.reg [⟨some 2, (.mv (.k (.bool true))), no⟩]) .ret))))⟩
theorem a163_ok : compFn Try.prog Try.f163 = some a163 := by kernel_rfl

def a172 : AFn :=
⟨29, [(.t 2)], (.seq 
 (.reg [⟨some 1, (.boxv (.t 0)), no⟩, ⟨some 2, (.mv (.k (.bool false))), no⟩]) (.seq (.seq 
 (.reg [⟨some 3, (.mv (.k (.int .i64 0))), no⟩]) (.blk 0 (.loop (.seq (.seq 
 (.reg [⟨some 4, (.mv (.t 3)), no⟩, ⟨some 5, (.fld 1 (.t 1)), no⟩, ⟨some 6, (.ld false 1 (.t 5)), no⟩, ⟨some 7, (.len false (.t 6)), no⟩, ⟨some 8, (.bin .lss (.t 4) (.t 7)), no⟩]) (.cond (.t 8) .skip (.exit 0))) (.seq (.blk 1 (.seq (.draw (.op ⟨some 11, (.fld 1 (.t 1)), no⟩ (.op ⟨some 12, (.ld false 1 (.t 11)), no⟩ (.op ⟨some 13, (.mv (.t 3)), no⟩ (.op ⟨some 14, (.ixa 2 (.t 12) (.t 13)), no⟩ (.op ⟨some 15, (.ld true 2 (.t 14)), no⟩ (.op ⟨some 16, (.fld 0 (.t 1)), no⟩ (.op ⟨some 17, (.ld false 1 (.t 16)), no⟩ (.op ⟨some 18, (.call (.k (.fn (.func 75) [] [])) [(.t 15), (.t 17)]), no⟩ (.op ⟨some 19, (.un .not (.t 18)), no⟩ .fin)))))))))) (.cond (.t 19) (.seq 
 (.reg [⟨some 2, (.mv (.k (.bool false))), no⟩]) .ret) .skip))) 
 (.reg [⟨some 9, (.mv (.t 3)), no⟩, ⟨some 10, (.bin .add (.t 9) (.k (.int .i64 1))), no⟩, ⟨some 3, (.mv (.t 10)), no⟩])))))) (.seq 
 (.reg [⟨some 20, (.fld 0 (.t 1)), no⟩, ⟨some 21, (.ld false 1 (.t 20)), no⟩, ⟨some 22, (.call (.k (.fn (.func 98) [] [])) [(.t 21), (.k (.int .i64 0)), (.k (.int .i64 8))]), no⟩, ⟨some 23, (.mv (.t 22)), no⟩, ⟨some 24, (.fld 1 (.t 1)), (some (23, true))⟩, ⟨some 25, (.ld false 1 (.t 24)), (some (23, true))⟩, ⟨some 26, (.len false (.t 25)), (some (23, true))⟩, ⟨some 27, (.bin .leq (.t 26) (.k (.int .i64 20))), (some (23, true))⟩, ⟨some 28, (.pick (.t 23) (.t 27) (.k (.bool false))), no⟩, ⟨some 2, (.mv (.t 28)), no⟩]) .ret)))⟩
theorem a172_ok : compFn Try.prog Try.f172 = some a172 := by kernel_rfl



/-- An expression plus a constant. -/
def plusL (l : DLin) (k : Int) : Option DLin := if (addL l.Const k).2 && okLin l l.Coeffs.length then some ⟨(addL l.Const k).1, l.Coeffs⟩ else Option.none

theorem k_plus (l : DLin) (k : Int) : Holds Try.prog 117 [.agg (rALin l), i64 k] (fun r => r = optLin (plusL l k)) := by
  refine holds_of_run Try.func117 a117_ok rfl (by simp [a117]) ?_
  simp [a117, rALin]
  first | refine callD_of (k_AddLimited l.Const k) (by simp) ?_ | refine call_of (k_AddLimited l.Const k) (by simp) ?_ | refine callD_of (k_AddLimited l.Const k) rfl ?_ | refine call_of (k_AddLimited l.Const k) rfl ?_
  rintro r rfl
  simp [pairA]
  unfold plusL
  cases h1 : (addL l.Const k).2
  · simp [optLin, lin0, rULin, intsR]
  simp
  intro _
  first | refine callD_of (k_IsValidLin l l.Coeffs.length) (by simp [rALin]) ?_ | refine call_of (k_IsValidLin l l.Coeffs.length) (by simp [rALin]) ?_ | refine callD_of (k_IsValidLin l l.Coeffs.length) rfl ?_ | refine call_of (k_IsValidLin l l.Coeffs.length) rfl ?_
  rintro r rfl
  cases h2 : okLin l l.Coeffs.length
  · simp [optLin, lin0, rULin, intsR]
  simp
  have hl := okLin_len h2
  first | refine callD_of (k_copyLin l (by omega)) (by simp [rALin, rULin, optLin]) ?_ | refine call_of (k_copyLin l (by omega)) (by simp [rALin, rULin, optLin]) ?_ | refine callD_of (k_copyLin l (by omega)) rfl ?_ | refine call_of (k_copyLin l (by omega)) rfl ?_
  rintro r rfl
  simp [rALin, rULin, optLin]

def isConst (l : DLin) : Bool := l.Coeffs.all (· == 0)

theorem k_IsConstant1 (n : Int) : Holds Try.prog 204 [i64 n] (fun r => r = .bool (!(n == 0))) := by
  refine holds_of_run Try.func204 a204_ok rfl (by simp [a204]) ?_
  simp [a204]
  rfl

theorem k_IsConstant (l : DLin) : Holds Try.prog 165 [.agg (rALin l)] (fun r => r = .bool (isConst l)) := by
  refine holds_of_run Try.func165 a165_ok rfl (by simp [a165]) ?_
  simp [a165, rALin]
  refine acall_tContainsFunc (p := fun n => !(n == 0)) (rowOf := fun n => [i64 n]) (eltOf := i64) Try.func148 a148_ok rfl Try.func195 a195_ok rfl (fun x => by simp) l.Coeffs
    (fun x _ => pure1_of_holds (k_IsConstant1 x) rfl rfl) ?_
  rw [any_not (fun n : Int => n == 0)]
  simp [isConst]

theorem ks_IsConstant (l : DLin) : Holds Try.prog 162 [.agg (rALin l)] (fun r => r = .bool (isConst l)) := by
  refine holds_of_lim Try.func162 rfl rfl fun hl => ?_
  simp [rALin] at hl
  refine holds_of_run Try.func162 a162_ok rfl (by simp [a162]) ?_
  simp [a162, rALin]
  refine rL_forS [1] 3 l.Coeffs.length (fun i _ => (l.Coeffs.drop i).all (· == 0) = isConst l) hl (by simp) rfl ?_ ?_
  · rintro i s h R hi hg hk s3 hw hJ hh hR hret _
    simp at hk hh
    rw [List.drop_eq_getElem_cons hi, List.all_cons] at hJ
    simp [hk, s3, hi, hg, hh, hw]
    intro _
    by_cases h0 : l.Coeffs[i] = 0
    · simp [h0] at hJ ⊢
      exact hR _ (by simp [hk]) (by simp) (by simpa using hJ)
    · have hJ : isConst l = false := by rw [← hJ]; simp [h0]
      simp [h0]
      refine hret _ _ _ ?_
      simp [hJ]
  · rintro s h R hk s3 hJ hh _ hX
    simp at hk hh
    simp at hJ
    simp [hk, s3, hh]
    intro _
    refine hX _ _ ?_
    simp [← hJ]

def okSys (s : DSystem) : Bool := inR s.N 0 8 && decide (s.Rows.length ≤ 20) && s.Rows.all fun r => okLin r s.N

theorem k_IsValidSystem (x : DSystem) : Holds Try.prog 163 [.agg (rASystem x)] (fun r => r = .bool (okSys x)) := by
  refine holds_of_run Try.func163 a163_ok rfl (by simp [a163]) ?_
  simp [a163, rASystem]
  first | refine callD_of (k_within x.N 0 8) (by simp) ?_ | refine call_of (k_within x.N 0 8) (by simp) ?_ | refine callD_of (k_within x.N 0 8) rfl ?_ | refine call_of (k_within x.N 0 8) rfl ?_
  rintro r rfl
  unfold okSys
  cases h1 : inR x.N 0 8
  · simp
  simp
  intro hl
  by_cases h2 : x.Rows.length ≤ 20
  case neg => simp [h2]; omega
  simp [h2]
  refine ⟨fun h => by omega, fun _ _ => ?_⟩
  refine rL_forO [1, 16, 17] 18 x.Rows.length (fun i s h n => 0 < n ∧ h 0 = some ⟨true, 2, [[.int .i64 x.N, .sl 2 (x.Rows.map rALin)]]⟩ ∧ (x.Rows.drop i).all (fun r => okLin r x.N) = x.Rows.all (fun r => okLin r x.N)) hl (by simp) ⟨by simp, by simp, rfl⟩ ?_ ?_
  · rintro i s h n R hi hg hk s18 hw ⟨hn, e0, hJ⟩ hR hret _
    simp at hk
    rw [List.drop_eq_getElem_cons hi, List.all_cons] at hJ
    have hn' : ¬ 0 = n := by omega
    simp [hk, s18, hi, hg, hw, e0, hn', rALin]
    first | refine callD_of (k_IsValidLin _ _) (by simp [rALin]) ?_ | refine call_of (k_IsValidLin _ _) (by simp [rALin]) ?_ | refine callD_of (k_IsValidLin _ _) rfl ?_ | refine call_of (k_IsValidLin _ _) rfl ?_
    rintro r rfl
    cases h0 : okLin x.Rows[i] x.N
    · rw [h0] at hJ
      have hJ : x.Rows.all (fun r => okLin r x.N) = false := by rw [← hJ]; rfl
      simp
      refine hret _ _ _ ?_
      simp [hJ]
    · rw [h0, Bool.true_and] at hJ
      simp [hk, s18, hi, hg, hw]
      exact hR _ _ _ (by simp [hk]) (by simp) ⟨by omega, by simp [hn', e0], hJ⟩
  · rintro s h n R hk s18 ⟨hn, e0, hJ⟩ hret hX
    simp at hk
    rw [List.drop_eq_nil_of_le (Nat.le_refl _)] at hJ
    simp [hk, s18]
    refine hX _ _ _ _ ?_
    rw [← hJ]
    simp

theorem ks_IsValidSystem (x : DSystem) : Holds Try.prog 172 [.agg (rASystem x)] (fun r => r = .bool (okSys x)) := by
  refine holds_of_lim Try.func172 rfl rfl fun hl => ?_
  simp [rASystem] at hl
  refine holds_of_run Try.func172 a172_ok rfl (by simp [a172]) ?_
  simp [a172, rASystem]
  refine rL_forS [1] 3 x.Rows.length (fun i _ => (x.Rows.drop i).all (fun r => okLin r x.N) = x.Rows.all (fun r => okLin r x.N)) hl (by simp) rfl ?_ ?_
  · rintro i s h R hi hg hk s3 hw hJ hh hR hret _
    simp at hk hh
    rw [List.drop_eq_getElem_cons hi, List.all_cons] at hJ
    simp [hk, s3, hi, hg, hh, hw]
    intro _
    first | refine callD_of (ks_IsValidLin _ _) (by simp [rALin]) ?_ | refine call_of (ks_IsValidLin _ _) (by simp [rALin]) ?_ | refine callD_of (ks_IsValidLin _ _) rfl ?_ | refine call_of (ks_IsValidLin _ _) rfl ?_
    rintro r rfl
    cases h0 : okLin x.Rows[i] x.N
    · rw [h0] at hJ
      have hJ : x.Rows.all (fun r => okLin r x.N) = false := by rw [← hJ]; rfl
      simp
      refine hret _ _ _ ?_
      simp [okSys, hJ]
    · rw [h0, Bool.true_and] at hJ
      simp [hk, s3, hi, hg, hh, hw]
      exact hR _ (by simp [hk]) (by simp) hJ
  · rintro s h R hk s3 hJ hh _ hX
    simp at hk hh
    rw [List.drop_eq_nil_of_le (Nat.le_refl _)] at hJ
    simp [hk, s3, hh]
    intro _
    refine hX _ _ ?_
    simp [hk, hh]
    first | refine callD_of (k_l1In x.N 0 8) (by simp) ?_ | refine call_of (k_l1In x.N 0 8) (by simp) ?_ | refine callD_of (k_l1In x.N 0 8) rfl ?_ | refine call_of (k_l1In x.N 0 8) rfl ?_
    rintro r rfl
    unfold okSys
    rw [← hJ]
    cases h1 : inR x.N 0 8
    · simp
    simp [hk]
    intro _
    omega
end Go.Proofs.Ytlbdgpkgmheikaa

/- Contracts: constants added, constant expressions, systems. -/
import Derived.Test.YtlmajgghnenbpaaGreatC3
namespace Go.Proofs.YtlmajgghnenbpaaGreat
set_option linter.all false
open Go Go.RowKit Go.Proofs
def a138 : AFn :=
⟨32, [(.c 4 true 2), (.t 5)], (.seq 
 (.reg [⟨some 2, (.boxv (.t 0)), no⟩, ⟨some 4, (.box [(.int .i64 0), (.nil 1)]), no⟩, ⟨some 5, (.mv (.k (.bool false))), no⟩]) (.seq 
 (.reg [⟨some 10, (.fld 0 (.t 2)), no⟩, ⟨some 11, (.ld false 1 (.t 10)), no⟩, ⟨some 12, (.mv (.t 1)), no⟩, ⟨some 13, (.call (.k (.fn (.func 214) [] [])) [(.t 11), (.t 12)]), no⟩, ⟨some 9, (.mv (.t 13)), no⟩, ⟨some 14, (.ext (.t 9) 0), no⟩, ⟨some 15, (.ext (.t 9) 1), no⟩, ⟨some 6, (.mv (.t 14)), no⟩, ⟨some 7, (.mv (.t 15)), no⟩]) (.seq (.seq 
 (.reg [⟨some 16, (.mv (.t 7)), no⟩, ⟨some 17, (.un .not (.t 16)), no⟩, ⟨some 18, (.mv (.t 17)), no⟩, ⟨some 19, (.ld true 2 (.t 2)), (some (18, false))⟩, ⟨some 20, (.fld 1 (.t 2)), (some (18, false))⟩, ⟨some 21, (.ld false 1 (.t 20)), (some (18, false))⟩, ⟨some 22, (.len false (.t 21)), (some (18, false))⟩, ⟨some 23, (.call (.k (.fn (.func 174) [] [])) [(.t 19), (.t 22)]), (some (18, false))⟩, ⟨some 24, (.un .not (.t 23)), (some (18, false))⟩, ⟨some 25, (.pick (.t 18) (.k (.bool true)) (.t 24)), no⟩]) (.cond (.t 25) (.seq 
 (.reg [⟨some 26, (.build [(.int .i64 0), (.nil 1)] []), no⟩, ⟨no, (.st 2 (.t 4) (.t 26)), no⟩, ⟨some 5, (.mv (.k (.bool false))), no⟩]) .ret) .skip)) (.seq 
 (.reg [⟨some 27, (.ld true 2 (.t 2)), no⟩, ⟨some 28, (.call (.k (.fn (.func 125) [] [])) [(.t 27)]), no⟩, ⟨some 8, (.box [(.int .i64 0), (.nil 1)]), no⟩, ⟨no, (.st 2 (.t 8) (.t 28)), no⟩]) (.seq 
 (.reg [⟨some 29, (.mv (.t 6)), no⟩, ⟨some 30, (.fld 0 (.t 8)), no⟩, ⟨no, (.st 1 (.t 30) (.t 29)), no⟩]) (.seq 
 (.reg [⟨some 31, (.ld true 2 (.t 8)), no⟩, ⟨no, (.st 2 (.t 4) (.t 31)), no⟩, ⟨some 5, (.mv (.k (.bool true))), no⟩]) .ret))))))⟩
theorem a138_ok : compFn Tryz.prog Tryz.f138 = some a138 := by kernel_rfl

def a189 : AFn :=
⟨29, [(.t 2)], (.seq 
 (.reg [⟨some 1, (.boxv (.t 0)), no⟩, ⟨some 2, (.mv (.k (.bool false))), no⟩]) (.seq (.seq 
 (.reg [⟨some 3, (.mv (.k (.int .i64 0))), no⟩]) (.blk 0 (.loop (.seq (.seq 
 (.reg [⟨some 4, (.mv (.t 3)), no⟩, ⟨some 5, (.fld 1 (.t 1)), no⟩, ⟨some 6, (.ld false 1 (.t 5)), no⟩, ⟨some 7, (.len false (.t 6)), no⟩, ⟨some 8, (.bin .lss (.t 4) (.t 7)), no⟩]) (.cond (.t 8) .skip (.exit 0))) (.seq (.blk 1 (.seq (.draw (.op ⟨some 11, (.fld 1 (.t 1)), no⟩ (.op ⟨some 12, (.ld false 1 (.t 11)), no⟩ (.op ⟨some 13, (.mv (.t 3)), no⟩ (.op ⟨some 14, (.ixa 2 (.t 12) (.t 13)), no⟩ (.op ⟨some 15, (.ld true 2 (.t 14)), no⟩ (.op ⟨some 16, (.fld 0 (.t 1)), no⟩ (.op ⟨some 17, (.ld false 1 (.t 16)), no⟩ (.op ⟨some 18, (.call (.k (.fn (.func 218) [] [])) [(.t 15), (.t 17)]), no⟩ (.op ⟨some 19, (.un .not (.t 18)), no⟩ .fin)))))))))) (.cond (.t 19) (.seq 
 (.reg [⟨some 2, (.mv (.k (.bool false))), no⟩]) .ret) .skip))) 
 (.reg [⟨some 9, (.mv (.t 3)), no⟩, ⟨some 10, (.bin .add (.t 9) (.k (.int .i64 1))), no⟩, ⟨some 3, (.mv (.t 10)), no⟩])))))) (.seq 
 (.reg [⟨some 20, (.fld 0 (.t 1)), no⟩, ⟨some 21, (.ld false 1 (.t 20)), no⟩, ⟨some 22, (.call (.k (.fn (.func 130) [] [])) [(.t 21), (.k (.int .i64 0)), (.k (.int .i64 8))]), no⟩, ⟨some 23, (.mv (.t 22)), no⟩, ⟨some 24, (.fld 1 (.t 1)), (some (23, true))⟩, ⟨some 25, (.ld false 1 (.t 24)), (some (23, true))⟩, ⟨some 26, (.len false (.t 25)), (some (23, true))⟩, ⟨some 27, (.bin .leq (.t 26) (.k (.int .i64 20))), (some (23, true))⟩, ⟨some 28, (.pick (.t 23) (.t 27) (.k (.bool false))), no⟩, ⟨some 2, (.mv (.t 28)), no⟩]) .ret)))⟩
theorem a189_ok : compFn Tryz.prog Tryz.f189 = some a189 := by kernel_rfl



/-- An expression plus a constant. -/
def plusL (l : DLin) (k : Int) : Option DLin := if (addL l.Const k).2 && okLin l l.Coeffs.length then some ⟨(addL l.Const k).1, l.Coeffs⟩ else Option.none

theorem k_plus (l : DLin) (k : Int) : Holds Tryz.prog 138 [.agg (rALin l), i64 k] (fun r => r = optLin (plusL l k)) := by
  refine holds_of_run Tryz.func138 a138_ok rfl (by simp [a138]) ?_
  simp [a138, rALin]
  first | refine callD_of (k_AddLimited l.Const k) (by simp) ?_ | refine call_of (k_AddLimited l.Const k) (by simp) ?_ | refine callD_of (k_AddLimited l.Const k) rfl ?_ | refine call_of (k_AddLimited l.Const k) rfl ?_
  rintro r rfl
  simp [pairA]
  unfold plusL
  cases h1 : (addL l.Const k).2
  · simp [optLin, lin0, rULin, intsR]
  simp
  intro _
  first | refine callD_of (k_IsValidLin l l.Coeffs.length) (by simp [rALin]) ?_ | refine call_of (k_IsValidLin l l.Coeffs.length) (by simp [rALin]) ?_ | refine callD_of (k_IsValidLin l l.Coeffs.length) rfl ?_ | refine call_of (k_IsValidLin l l.Coeffs.length) rfl ?_
  rintro r rfl
  cases h2 : okLin l l.Coeffs.length
  · simp [optLin, lin0, rULin, intsR]
  simp
  have hl := okLin_len h2
  first | refine callD_of (k_copyLin l (by omega)) (by simp [rALin, rULin, optLin]) ?_ | refine call_of (k_copyLin l (by omega)) (by simp [rALin, rULin, optLin]) ?_ | refine callD_of (k_copyLin l (by omega)) rfl ?_ | refine call_of (k_copyLin l (by omega)) rfl ?_
  rintro r rfl
  simp [rALin, rULin, optLin]

def isConst (l : DLin) : Bool := l.Coeffs.all (· == 0)

def okSys (s : DSystem) : Bool := inR s.N 0 8 && decide (s.Rows.length ≤ 20) && s.Rows.all fun r => okLin r s.N

theorem ks_IsValidSystem (x : DSystem) : Holds Tryz.prog 189 [.agg (rASystem x)] (fun r => r = .bool (okSys x)) := by
  refine holds_of_lim Tryz.func189 rfl rfl fun hl => ?_
  simp [rASystem] at hl
  refine holds_of_run Tryz.func189 a189_ok rfl (by simp [a189]) ?_
  simp [a189, rASystem]
  refine rL_forS [1] 3 x.Rows.length (fun i _ => (x.Rows.drop i).all (fun r => okLin r x.N) = x.Rows.all (fun r => okLin r x.N)) hl (by simp) rfl ?_ ?_
  · rintro i s h R hi hg hk s3 hw hJ hh hR hret _
    simp at hk hh
    rw [List.drop_eq_getElem_cons hi, List.all_cons] at hJ
    simp [hk, s3, hi, hg, hh, hw]
    intro _
    first | refine callD_of (ks_IsValidLin _ _) (by simp [rALin]) ?_ | refine call_of (ks_IsValidLin _ _) (by simp [rALin]) ?_ | refine callD_of (ks_IsValidLin _ _) rfl ?_ | refine call_of (ks_IsValidLin _ _) rfl ?_
    rintro r rfl
    cases h0 : okLin x.Rows[i] x.N
    · rw [h0] at hJ
      have hJ : x.Rows.all (fun r => okLin r x.N) = false := by rw [← hJ]; rfl
      simp
      refine hret _ _ _ ?_
      simp [okSys, hJ]
    · rw [h0, Bool.true_and] at hJ
      simp [hk, s3, hi, hg, hh, hw]
      exact hR _ (by simp [hk]) (by simp) hJ
  · rintro s h R hk s3 hJ hh _ hX
    simp at hk hh
    rw [List.drop_eq_nil_of_le (Nat.le_refl _)] at hJ
    simp [hk, s3, hh]
    intro _
    refine hX _ _ ?_
    simp [hk, hh]
    first | refine callD_of (k_l1In x.N 0 8) (by simp) ?_ | refine call_of (k_l1In x.N 0 8) (by simp) ?_ | refine callD_of (k_l1In x.N 0 8) rfl ?_ | refine call_of (k_l1In x.N 0 8) rfl ?_
    rintro r rfl
    unfold okSys
    rw [← hJ]
    cases h1 : inR x.N 0 8
    · simp
    simp [hk]
    intro _
    omega
end Go.Proofs.YtlmajgghnenbpaaGreat

/- Contracts: whole numbers within limits, linear expressions. -/
import Derived.Test.YtilcageplifbgaaGreatKT1
import Derived.Test.YtilcageplifbgaaGreatKR31
import Derived.Test.YtilcageplifbgaaGreatProg
namespace Go.Proofs.YtilcageplifbgaaGreat
set_option linter.all false
open Go Go.RowKit Go.Proofs
def a98 : AFn :=
⟨15, [(.t 6)], (.seq
 (.reg [⟨some 6, (.mv (.k (.bool false))), no⟩]) (.seq
 (.reg [⟨some 7, (.mv (.t 0)), no⟩, ⟨some 8, (.mv (.t 1)), no⟩, ⟨some 9, (.bin .geq (.t 7) (.t 8)), no⟩, ⟨some 10, (.mv (.t 9)), no⟩, ⟨some 11, (.mv (.t 0)), (some (10, true))⟩, ⟨some 12, (.mv (.t 2)), (some (10, true))⟩, ⟨some 13, (.bin .leq (.t 11) (.t 12)), (some (10, true))⟩, ⟨some 14, (.pick (.t 10) (.t 13) (.k (.bool false))), no⟩, ⟨some 6, (.mv (.t 14)), no⟩]) .ret))⟩
theorem a98_ok : compFn Tryz.prog Tryz.f98 = some a98 := by kernel_rfl
def a183 : AFn :=
⟨5, [(.t 2)], (.seq
 (.reg [⟨some 2, (.mv (.k (.bool false))), no⟩]) (.seq
 (.reg [⟨some 3, (.mv (.t 0)), no⟩, ⟨some 4, (.call (.k (.fn (.func 98) [] [])) [(.t 3), (.k (.int .i64 (-1000000000))), (.k (.int .i64 1000000000))]), no⟩, ⟨some 2, (.mv (.t 4)), no⟩]) .ret))⟩
theorem a183_ok : compFn Tryz.prog Tryz.f183 = some a183 := by kernel_rfl
def a96 : AFn :=
⟨15, [(.t 6)], (.seq
 (.reg [⟨some 6, (.mv (.k (.bool false))), no⟩]) (.seq
 (.reg [⟨some 7, (.mv (.t 0)), no⟩, ⟨some 8, (.mv (.t 1)), no⟩, ⟨some 9, (.bin .geq (.t 7) (.t 8)), no⟩, ⟨some 10, (.mv (.t 9)), no⟩, ⟨some 11, (.mv (.t 0)), (some (10, true))⟩, ⟨some 12, (.mv (.t 2)), (some (10, true))⟩, ⟨some 13, (.bin .leq (.t 11) (.t 12)), (some (10, true))⟩, ⟨some 14, (.pick (.t 10) (.t 13) (.k (.bool false))), no⟩, ⟨some 6, (.mv (.t 14)), no⟩]) .ret))⟩
theorem a96_ok : compFn Tryz.prog Tryz.f96 = some a96 := by kernel_rfl
def a187 : AFn :=
⟨5, [(.t 2)], (.seq
 (.reg [⟨some 2, (.mv (.k (.bool false))), no⟩]) (.seq
 (.reg [⟨some 3, (.mv (.t 0)), no⟩, ⟨some 4, (.call (.k (.fn (.func 96) [] [])) [(.t 3), (.k (.int .i64 (-1000000000))), (.k (.int .i64 1000000000))]), no⟩, ⟨some 2, (.mv (.t 4)), no⟩]) .ret))⟩
theorem a187_ok : compFn Tryz.prog Tryz.f187 = some a187 := by kernel_rfl
def a222 : AFn :=
⟨6, [(.t 2)], (.seq
 (.reg [⟨some 2, (.mv (.k (.bool false))), no⟩]) (.seq
 (.reg [⟨some 3, (.mv (.t 0)), no⟩, ⟨some 4, (.call (.k (.fn (.func 183) [] [])) [(.t 3)]), no⟩, ⟨some 5, (.un .not (.t 4)), no⟩, ⟨some 2, (.mv (.t 5)), no⟩]) .ret))⟩
theorem a222_ok : compFn Tryz.prog Tryz.f222 = some a222 := by kernel_rfl
def a155 : AFn :=
⟨25, [(.t 4)], (.seq
 (.reg [⟨some 2, (.boxv (.t 0)), no⟩, ⟨some 4, (.mv (.k (.bool false))), no⟩]) (.seq
 (.reg [⟨some 5, (.mv (.t 1)), no⟩, ⟨some 6, (.call (.k (.fn (.func 98) [] [])) [(.t 5), (.k (.int .i64 0)), (.k (.int .i64 8))]), no⟩, ⟨some 7, (.mv (.t 6)), no⟩, ⟨some 8, (.fld 1 (.t 2)), (some (7, true))⟩, ⟨some 9, (.ld false 1 (.t 8)), (some (7, true))⟩, ⟨some 10, (.len false (.t 9)), (some (7, true))⟩, ⟨some 11, (.mv (.t 1)), (some (7, true))⟩, ⟨some 12, (.bin .eql (.t 10) (.t 11)), (some (7, true))⟩, ⟨some 13, (.pick (.t 7) (.t 12) (.k (.bool false))), no⟩, ⟨some 14, (.mv (.t 13)), no⟩, ⟨some 15, (.fld 0 (.t 2)), (some (14, true))⟩, ⟨some 16, (.ld false 1 (.t 15)), (some (14, true))⟩, ⟨some 17, (.call (.k (.fn (.func 183) [] [])) [(.t 16)]), (some (14, true))⟩, ⟨some 18, (.pick (.t 14) (.t 17) (.k (.bool false))), no⟩, ⟨some 19, (.mv (.t 18)), no⟩, ⟨some 20, (.fld 1 (.t 2)), (some (19, true))⟩, ⟨some 21, (.ld false 1 (.t 20)), (some (19, true))⟩, ⟨some 22, (.call (.k (.fn (.func 221) [] [])) [(.t 21), (.k (.fn (.func 222) [] []))]), (some (19, true))⟩, ⟨some 23, (.un .not (.t 22)), (some (19, true))⟩, ⟨some 24, (.pick (.t 19) (.t 23) (.k (.bool false))), no⟩, ⟨some 4, (.mv (.t 24)), no⟩]) .ret))⟩
theorem a155_ok : compFn Tryz.prog Tryz.f155 = some a155 := by kernel_rfl
def a191 : AFn :=
⟨34, [(.t 4)], (.seq
 (.reg [⟨some 2, (.boxv (.t 0)), no⟩, ⟨some 4, (.mv (.k (.bool false))), no⟩]) (.seq (.seq
 (.reg [⟨some 5, (.mv (.k (.int .i64 0))), no⟩]) (.blk 0 (.loop (.seq (.seq
 (.reg [⟨some 6, (.mv (.t 5)), no⟩, ⟨some 7, (.fld 1 (.t 2)), no⟩, ⟨some 8, (.ld false 1 (.t 7)), no⟩, ⟨some 9, (.len false (.t 8)), no⟩, ⟨some 10, (.bin .lss (.t 6) (.t 9)), no⟩]) (.cond (.t 10) .skip (.exit 0))) (.seq (.blk 1 (.seq
 (.reg [⟨some 13, (.fld 1 (.t 2)), no⟩, ⟨some 14, (.ld false 1 (.t 13)), no⟩, ⟨some 15, (.mv (.t 5)), no⟩, ⟨some 16, (.ixa 1 (.t 14) (.t 15)), no⟩, ⟨some 17, (.ld false 1 (.t 16)), no⟩, ⟨some 18, (.call (.k (.fn (.func 187) [] [])) [(.t 17)]), no⟩, ⟨some 19, (.un .not (.t 18)), no⟩]) (.cond (.t 19) (.seq
 (.reg [⟨some 4, (.mv (.k (.bool false))), no⟩]) .ret) .skip)))
 (.reg [⟨some 11, (.mv (.t 5)), no⟩, ⟨some 12, (.bin .add (.t 11) (.k (.int .i64 1))), no⟩, ⟨some 5, (.mv (.t 12)), no⟩])))))) (.seq
 (.reg [⟨some 20, (.mv (.t 1)), no⟩, ⟨some 21, (.call (.k (.fn (.func 96) [] [])) [(.t 20), (.k (.int .i64 0)), (.k (.int .i64 8))]), no⟩, ⟨some 22, (.mv (.t 21)), no⟩, ⟨some 23, (.fld 1 (.t 2)), (some (22, true))⟩, ⟨some 24, (.ld false 1 (.t 23)), (some (22, true))⟩, ⟨some 25, (.len false (.t 24)), (some (22, true))⟩, ⟨some 26, (.mv (.t 1)), (some (22, true))⟩, ⟨some 27, (.bin .eql (.t 25) (.t 26)), (some (22, true))⟩, ⟨some 28, (.pick (.t 22) (.t 27) (.k (.bool false))), no⟩, ⟨some 29, (.mv (.t 28)), no⟩, ⟨some 30, (.fld 0 (.t 2)), (some (29, true))⟩, ⟨some 31, (.ld false 1 (.t 30)), (some (29, true))⟩, ⟨some 32, (.call (.k (.fn (.func 187) [] [])) [(.t 31)]), (some (29, true))⟩, ⟨some 33, (.pick (.t 29) (.t 32) (.k (.bool false))), no⟩, ⟨some 4, (.mv (.t 33)), no⟩]) .ret)))⟩
theorem a191_ok : compFn Tryz.prog Tryz.f191 = some a191 := by kernel_rfl
theorem a221_ok : compFn Tryz.prog Tryz.f221 = some (tContainsFunc 275) := by kernel_rfl
theorem a275_ok : compFn Tryz.prog Tryz.f275 = some (tIndexFunc false 1) := by kernel_rfl
def inR (n lo hi : Int) : Bool := decide (lo ≤ n ∧ n ≤ hi)
def okC (n : Int) : Bool := inR n (-1000000000) 1000000000
theorem k_within (n lo hi : Int) : Holds Tryz.prog 98 [i64 n, i64 lo, i64 hi] (fun r => r = .bool (inR n lo hi)) := by
  refine holds_of_run Tryz.func98 a98_ok rfl (by simp [a98]) ?_
  simp [a98]
  constructor <;> intro h <;> simp [inR] <;> omega
theorem k_coeffOk (n : Int) : Holds Tryz.prog 183 [i64 n] (fun r => r = .bool (okC n)) := by
  refine holds_of_run Tryz.func183 a183_ok rfl (by simp [a183]) ?_
  simp [a183]
  first | refine callD_of (k_within n (-1000000000) 1000000000) (by simp) ?_ | refine call_of (k_within n (-1000000000) 1000000000) (by simp) ?_ | refine callD_of (k_within n (-1000000000) 1000000000) rfl ?_ | refine call_of (k_within n (-1000000000) 1000000000) rfl ?_
  rintro r rfl
  simp
  rfl
theorem k_l1In (n lo hi : Int) : Holds Tryz.prog 96 [i64 n, i64 lo, i64 hi] (fun r => r = .bool (inR n lo hi)) := by
  refine holds_of_run Tryz.func96 a96_ok rfl (by simp [a96]) ?_
  simp [a96]
  constructor <;> intro h <;> simp [inR] <;> omega
theorem k_l3In (n : Int) : Holds Tryz.prog 187 [i64 n] (fun r => r = .bool (okC n)) := by
  refine holds_of_run Tryz.func187 a187_ok rfl (by simp [a187]) ?_
  simp [a187]
  first | refine callD_of (k_l1In n (-1000000000) 1000000000) (by simp) ?_ | refine call_of (k_l1In n (-1000000000) 1000000000) (by simp) ?_ | refine callD_of (k_l1In n (-1000000000) 1000000000) rfl ?_ | refine call_of (k_l1In n (-1000000000) 1000000000) rfl ?_
  rintro r rfl
  simp
  rfl
def addL (x y : Int) : Int × Bool := if okC x && okC y && okC (x + y) then (x + y, true) else (0, false)
def mulL (x y : Int) : Int × Bool := if okC x && okC y && okC (x * y) then (x * y, true) else (0, false)
def scaledO (x k y : Int) : Option Int := if (mulL k y).2 && (addL x (mulL k y).1).2 then some (addL x (mulL k y).1).1 else Option.none
def okLin (l : DLin) (n : Int) : Bool := inR n 0 8 && decide ((l.Coeffs.length : Int) = n) && okC l.Const && l.Coeffs.all okC
theorem k_notC (n : Int) : Holds Tryz.prog 222 [i64 n] (fun r => r = .bool (!okC n)) := by
  refine holds_of_run Tryz.func222 a222_ok rfl (by simp [a222]) ?_
  simp [a222]
  first | refine callD_of (k_coeffOk n) (by simp) ?_ | refine call_of (k_coeffOk n) (by simp) ?_ | refine callD_of (k_coeffOk n) rfl ?_ | refine call_of (k_coeffOk n) rfl ?_
  rintro r rfl
  simp
theorem any_not {α : Type} (p : α → Bool) (l : List α) : l.any (fun x => !p x) = !l.all p := by
  rw [List.all_eq_not_any_not, Bool.not_not]
theorem a_anyNotC {h : Heap} {n : Nat} {K : AV → Heap → Nat → Prop} (l : List Int) (hK : K (.bool (!l.all okC)) h n) : ACall Tryz.prog 221 [.sl 1 (intsR l), .fn (.func 222) [] []] h n K :=
  acall_tContainsFunc (p := fun n => !okC n) (rowOf := fun n => [i64 n]) (eltOf := i64) Tryz.func221 a221_ok rfl Tryz.func275 a275_ok rfl (fun x => by simp) l
    (fun x _ => pure1_of_holds (k_notC x) rfl rfl) (by rw [any_not]; exact hK)
theorem k_IsValidLin (l : DLin) (n : Int) : Holds Tryz.prog 155 [.agg (rALin l), i64 n] (fun r => r = .bool (okLin l n)) := by
  refine holds_of_run Tryz.func155 a155_ok rfl (by simp [a155]) ?_
  simp [a155, rALin]
  first | refine callD_of (k_within n 0 8) (by simp) ?_ | refine call_of (k_within n 0 8) (by simp) ?_ | refine callD_of (k_within n 0 8) rfl ?_ | refine call_of (k_within n 0 8) rfl ?_
  rintro r rfl
  unfold okLin
  cases h1 : inR n 0 8
  · simp
  simp
  intro _
  by_cases h2 : (l.Coeffs.length : Int) = n
  case neg => simp [h2]
  simp [h2]
  first | refine callD_of (k_coeffOk l.Const) (by simp) ?_ | refine call_of (k_coeffOk l.Const) (by simp) ?_ | refine callD_of (k_coeffOk l.Const) rfl ?_ | refine call_of (k_coeffOk l.Const) rfl ?_
  rintro r rfl
  cases h3 : okC l.Const
  · simp
  simp
  refine a_anyNotC l.Coeffs ?_
  simp
theorem ks_IsValidLin (l : DLin) (n : Int) : Holds Tryz.prog 191 [.agg (rALin l), i64 n] (fun r => r = .bool (okLin l n)) := by
  refine holds_of_lim Tryz.func191 rfl rfl fun hl => ?_
  simp [rALin] at hl
  refine holds_of_run Tryz.func191 a191_ok rfl (by simp [a191]) ?_
  simp [a191, rALin]
  refine rL_for [1, 2] 5 l.Coeffs.length (fun i _ => (l.Coeffs.drop i).all okC = l.Coeffs.all okC) hl (by simp) (by simp) ?_ ?_
  · intro i s hi hg hk s5 hw hJ
    simp at hk
    rw [List.drop_eq_getElem_cons hi, List.all_cons] at hJ
    simp [hk, s5, hi, hg]
    intro _
    first | refine callD_of (k_l3In _) (by simp) ?_ | refine call_of (k_l3In _) (by simp) ?_ | refine callD_of (k_l3In _) rfl ?_ | refine call_of (k_l3In _) rfl ?_
    rintro r rfl
    cases h1 : okC l.Coeffs[i]
    · have hJ : l.Coeffs.all okC = false := by rw [← hJ, h1]; rfl
      simp [hk, okLin, hJ]
    · rw [h1, Bool.true_and] at hJ
      simp [hk, s5, hw]
      exact hJ
  · intro s hk s5 hJ
    simp at hk hJ
    simp [hk, s5]
    intro _
    first | refine callD_of (k_l1In n 0 8) (by simp) ?_ | refine call_of (k_l1In n 0 8) (by simp) ?_ | refine callD_of (k_l1In n 0 8) rfl ?_ | refine call_of (k_l1In n 0 8) rfl ?_
    rintro r rfl
    unfold okLin
    cases h1 : inR n 0 8
    · simp
    simp [hk]
    intro _
    by_cases h2 : (l.Coeffs.length : Int) = n
    case neg => simp [h2]
    simp [h2]
    first | refine callD_of (k_l3In l.Const) (by simp) ?_ | refine call_of (k_l3In l.Const) (by simp) ?_ | refine callD_of (k_l3In l.Const) rfl ?_ | refine call_of (k_l3In l.Const) rfl ?_
    rintro r rfl
    cases h3 : okC l.Const <;> simp
    exact hJ
end Go.Proofs.YtilcageplifbgaaGreat

/- Contracts: whole numbers within limits, linear expressions. -/
import Derived.Test.YtlbdgpkgmheikaaGreatT1
import Derived.Test.YtlbdgpkgmheikaaGreatR31
import Derived.Test.YtlbdgpkgmheikaaGreatProg
namespace Go.Proofs.YtlbdgpkgmheikaaGreat
set_option linter.all false
open Go Go.RowKit Go.Proofs
def a51 : AFn :=
⟨15, [(.t 6)], (.seq 
 (.reg [⟨some 6, (.mv (.k (.bool false))), no⟩]) (.seq 
 (.reg [⟨some 7, (.mv (.t 0)), no⟩, ⟨some 8, (.mv (.t 1)), no⟩, ⟨some 9, (.bin .geq (.t 7) (.t 8)), no⟩, ⟨some 10, (.mv (.t 9)), no⟩, ⟨some 11, (.mv (.t 0)), (some (10, true))⟩, ⟨some 12, (.mv (.t 2)), (some (10, true))⟩, ⟨some 13, (.bin .leq (.t 11) (.t 12)), (some (10, true))⟩, ⟨some 14, (.pick (.t 10) (.t 13) (.k (.bool false))), no⟩, ⟨some 6, (.mv (.t 14)), no⟩]) .ret))⟩
theorem a51_ok : compFn Tryz.prog Tryz.f51 = some a51 := by kernel_rfl

def a101 : AFn :=
⟨5, [(.t 2)], (.seq 
 (.reg [⟨some 2, (.mv (.k (.bool false))), no⟩]) (.seq 
 (.reg [⟨some 3, (.mv (.t 0)), no⟩, ⟨some 4, (.call (.k (.fn (.func 51) [] [])) [(.t 3), (.k (.int .i64 (-1000000000))), (.k (.int .i64 1000000000))]), no⟩, ⟨some 2, (.mv (.t 4)), no⟩]) .ret))⟩
theorem a101_ok : compFn Tryz.prog Tryz.f101 = some a101 := by kernel_rfl

def a71 : AFn :=
⟨15, [(.t 6)], (.seq 
 (.reg [⟨some 6, (.mv (.k (.bool false))), no⟩]) (.seq 
 (.reg [⟨some 7, (.mv (.t 0)), no⟩, ⟨some 8, (.mv (.t 1)), no⟩, ⟨some 9, (.bin .geq (.t 7) (.t 8)), no⟩, ⟨some 10, (.mv (.t 9)), no⟩, ⟨some 11, (.mv (.t 0)), (some (10, true))⟩, ⟨some 12, (.mv (.t 2)), (some (10, true))⟩, ⟨some 13, (.bin .leq (.t 11) (.t 12)), (some (10, true))⟩, ⟨some 14, (.pick (.t 10) (.t 13) (.k (.bool false))), no⟩, ⟨some 6, (.mv (.t 14)), no⟩]) .ret))⟩
theorem a71_ok : compFn Tryz.prog Tryz.f71 = some a71 := by kernel_rfl

def a128 : AFn :=
⟨5, [(.t 2)], (.seq 
 (.reg [⟨some 2, (.mv (.k (.bool false))), no⟩]) (.seq 
 (.reg [⟨some 3, (.mv (.t 0)), no⟩, ⟨some 4, (.call (.k (.fn (.func 71) [] [])) [(.t 3), (.k (.int .i64 (-1000000000))), (.k (.int .i64 1000000000))]), no⟩, ⟨some 2, (.mv (.t 4)), no⟩]) .ret))⟩
theorem a128_ok : compFn Tryz.prog Tryz.f128 = some a128 := by kernel_rfl

def a103 : AFn :=
⟨6, [(.t 2)], (.seq 
 (.reg [⟨some 2, (.mv (.k (.bool false))), no⟩]) (.seq 
 (.reg [⟨some 3, (.mv (.t 0)), no⟩, ⟨some 4, (.call (.k (.fn (.func 101) [] [])) [(.t 3)]), no⟩, ⟨some 5, (.un .not (.t 4)), no⟩, ⟨some 2, (.mv (.t 5)), no⟩]) .ret))⟩
theorem a103_ok : compFn Tryz.prog Tryz.f103 = some a103 := by kernel_rfl

def a59 : AFn :=
⟨25, [(.t 4)], (.seq 
 (.reg [⟨some 2, (.boxv (.t 0)), no⟩, ⟨some 4, (.mv (.k (.bool false))), no⟩]) (.seq 
 (.reg [⟨some 5, (.mv (.t 1)), no⟩, ⟨some 6, (.call (.k (.fn (.func 51) [] [])) [(.t 5), (.k (.int .i64 0)), (.k (.int .i64 8))]), no⟩, ⟨some 7, (.mv (.t 6)), no⟩, ⟨some 8, (.fld 1 (.t 2)), (some (7, true))⟩, ⟨some 9, (.ld false 1 (.t 8)), (some (7, true))⟩, ⟨some 10, (.len false (.t 9)), (some (7, true))⟩, ⟨some 11, (.mv (.t 1)), (some (7, true))⟩, ⟨some 12, (.bin .eql (.t 10) (.t 11)), (some (7, true))⟩, ⟨some 13, (.pick (.t 7) (.t 12) (.k (.bool false))), no⟩, ⟨some 14, (.mv (.t 13)), no⟩, ⟨some 15, (.fld 0 (.t 2)), (some (14, true))⟩, ⟨some 16, (.ld false 1 (.t 15)), (some (14, true))⟩, ⟨some 17, (.call (.k (.fn (.func 101) [] [])) [(.t 16)]), (some (14, true))⟩, ⟨some 18, (.pick (.t 14) (.t 17) (.k (.bool false))), no⟩, ⟨some 19, (.mv (.t 18)), no⟩, ⟨some 20, (.fld 1 (.t 2)), (some (19, true))⟩, ⟨some 21, (.ld false 1 (.t 20)), (some (19, true))⟩, ⟨some 22, (.call (.k (.fn (.func 102) [] [])) [(.t 21), (.k (.fn (.func 103) [] []))]), (some (19, true))⟩, ⟨some 23, (.un .not (.t 22)), (some (19, true))⟩, ⟨some 24, (.pick (.t 19) (.t 23) (.k (.bool false))), no⟩, ⟨some 4, (.mv (.t 24)), no⟩]) .ret))⟩
theorem a59_ok : compFn Tryz.prog Tryz.f59 = some a59 := by kernel_rfl

def a95 : AFn :=
⟨34, [(.t 4)], (.seq 
 (.reg [⟨some 2, (.boxv (.t 0)), no⟩, ⟨some 4, (.mv (.k (.bool false))), no⟩]) (.seq (.seq 
 (.reg [⟨some 5, (.mv (.k (.int .i64 0))), no⟩]) (.blk 0 (.loop (.seq (.seq 
 (.reg [⟨some 6, (.mv (.t 5)), no⟩, ⟨some 7, (.fld 1 (.t 2)), no⟩, ⟨some 8, (.ld false 1 (.t 7)), no⟩, ⟨some 9, (.len false (.t 8)), no⟩, ⟨some 10, (.bin .lss (.t 6) (.t 9)), no⟩]) (.cond (.t 10) .skip (.exit 0))) (.seq (.blk 1 (.seq 
 (.reg [⟨some 13, (.fld 1 (.t 2)), no⟩, ⟨some 14, (.ld false 1 (.t 13)), no⟩, ⟨some 15, (.mv (.t 5)), no⟩, ⟨some 16, (.ixa 1 (.t 14) (.t 15)), no⟩, ⟨some 17, (.ld false 1 (.t 16)), no⟩, ⟨some 18, (.call (.k (.fn (.func 128) [] [])) [(.t 17)]), no⟩, ⟨some 19, (.un .not (.t 18)), no⟩]) (.cond (.t 19) (.seq 
 (.reg [⟨some 4, (.mv (.k (.bool false))), no⟩]) .ret) .skip))) 
 (.reg [⟨some 11, (.mv (.t 5)), no⟩, ⟨some 12, (.bin .add (.t 11) (.k (.int .i64 1))), no⟩, ⟨some 5, (.mv (.t 12)), no⟩])))))) (.seq 
 (.reg [⟨some 20, (.mv (.t 1)), no⟩, ⟨some 21, (.call (.k (.fn (.func 71) [] [])) [(.t 20), (.k (.int .i64 0)), (.k (.int .i64 8))]), no⟩, ⟨some 22, (.mv (.t 21)), no⟩, ⟨some 23, (.fld 1 (.t 2)), (some (22, true))⟩, ⟨some 24, (.ld false 1 (.t 23)), (some (22, true))⟩, ⟨some 25, (.len false (.t 24)), (some (22, true))⟩, ⟨some 26, (.mv (.t 1)), (some (22, true))⟩, ⟨some 27, (.bin .eql (.t 25) (.t 26)), (some (22, true))⟩, ⟨some 28, (.pick (.t 22) (.t 27) (.k (.bool false))), no⟩, ⟨some 29, (.mv (.t 28)), no⟩, ⟨some 30, (.fld 0 (.t 2)), (some (29, true))⟩, ⟨some 31, (.ld false 1 (.t 30)), (some (29, true))⟩, ⟨some 32, (.call (.k (.fn (.func 128) [] [])) [(.t 31)]), (some (29, true))⟩, ⟨some 33, (.pick (.t 29) (.t 32) (.k (.bool false))), no⟩, ⟨some 4, (.mv (.t 33)), no⟩]) .ret)))⟩
theorem a95_ok : compFn Tryz.prog Tryz.f95 = some a95 := by kernel_rfl


theorem a102_ok : compFn Tryz.prog Tryz.f102 = some (tContainsFunc 129) := by kernel_rfl
theorem a129_ok : compFn Tryz.prog Tryz.f129 = some (tIndexFunc false 1) := by kernel_rfl

def inR (n lo hi : Int) : Bool := decide (lo ≤ n ∧ n ≤ hi)
def okC (n : Int) : Bool := inR n (-1000000000) 1000000000
theorem okC_iff {n : Int} : okC n = true ↔ -1000000000 ≤ n ∧ n ≤ 1000000000 := by simp [okC, inR]
theorem mul_lim {x y : Int} (hx : okC x = true) (hy : okC y = true) : -1000000000000000000 ≤ x * y ∧ x * y ≤ 1000000000000000000 := by
  rw [okC_iff] at hx hy
  have h : (x * y).natAbs ≤ 1000000000 * 1000000000 := by
    rw [Int.natAbs_mul]; exact Nat.mul_le_mul (by omega) (by omega)
  omega

theorem k_within (n lo hi : Int) : Holds Tryz.prog 51 [i64 n, i64 lo, i64 hi] (fun r => r = .bool (inR n lo hi)) := by
  refine holds_of_run Tryz.func51 a51_ok rfl (by simp [a51]) ?_
  simp [a51]
  constructor <;> intro h <;> simp [inR] <;> omega

theorem k_coeffOk (n : Int) : Holds Tryz.prog 101 [i64 n] (fun r => r = .bool (okC n)) := by
  refine holds_of_run Tryz.func101 a101_ok rfl (by simp [a101]) ?_
  simp [a101]
  first | refine callD_of (k_within n (-1000000000) 1000000000) (by simp) ?_ | refine call_of (k_within n (-1000000000) 1000000000) (by simp) ?_ | refine callD_of (k_within n (-1000000000) 1000000000) rfl ?_ | refine call_of (k_within n (-1000000000) 1000000000) rfl ?_
  rintro r rfl
  simp
  rfl

theorem k_l1In (n lo hi : Int) : Holds Tryz.prog 71 [i64 n, i64 lo, i64 hi] (fun r => r = .bool (inR n lo hi)) := by
  refine holds_of_run Tryz.func71 a71_ok rfl (by simp [a71]) ?_
  simp [a71]
  constructor <;> intro h <;> simp [inR] <;> omega

theorem k_l3In (n : Int) : Holds Tryz.prog 128 [i64 n] (fun r => r = .bool (okC n)) := by
  refine holds_of_run Tryz.func128 a128_ok rfl (by simp [a128]) ?_
  simp [a128]
  first | refine callD_of (k_l1In n (-1000000000) 1000000000) (by simp) ?_ | refine call_of (k_l1In n (-1000000000) 1000000000) (by simp) ?_ | refine callD_of (k_l1In n (-1000000000) 1000000000) rfl ?_ | refine call_of (k_l1In n (-1000000000) 1000000000) rfl ?_
  rintro r rfl
  simp
  rfl

/-- A sum, a product within the limits; the flag tells whether there is one. -/
def addL (x y : Int) : Int × Bool := if okC x && okC y && okC (x + y) then (x + y, true) else (0, false)
def mulL (x y : Int) : Int × Bool := if okC x && okC y && okC (x * y) then (x * y, true) else (0, false)
def pairA (p : Int × Bool) : AV := .tup [i64 p.1, .bool p.2]

/-- x + k * y, in limits: the program's and the reference's. -/
def scaledI (x k y : Int) : Int × Bool := ((addL x (mulL k y).1).1, (mulL k y).2 && (addL x (mulL k y).1).2)
def scaledS (x k y : Int) : Int × Bool := if (mulL k y).2 then addL x (mulL k y).1 else (0, false)

/-- What both give, where there is a value. -/
def scaledO (x k y : Int) : Option Int := if (mulL k y).2 && (addL x (mulL k y).1).2 then some (addL x (mulL k y).1).1 else Option.none
theorem scaledI_snd (x k y : Int) : (scaledI x k y).2 = (scaledO x k y).isSome := by unfold scaledI scaledO; split <;> simp_all
theorem scaledS_snd (x k y : Int) : (scaledS x k y).2 = (scaledO x k y).isSome := by unfold scaledS scaledO; cases (mulL k y).2 <;> simp; cases h : (addL x (mulL k y).1).2 <;> simp
theorem scaledI_fst {x k y v : Int} (h : scaledO x k y = some v) : (scaledI x k y).1 = v := by unfold scaledO at h; unfold scaledI; split at h <;> simp_all
theorem scaledS_fst {x k y v : Int} (h : scaledO x k y = some v) : (scaledS x k y).1 = v := by unfold scaledO at h; unfold scaledS; split at h <;> simp_all

/-- Is an expression one of n variables? -/
def okLin (l : DLin) (n : Int) : Bool := inR n 0 8 && decide ((l.Coeffs.length : Int) = n) && okC l.Const && l.Coeffs.all okC

theorem k_notC (n : Int) : Holds Tryz.prog 103 [i64 n] (fun r => r = .bool (!okC n)) := by
  refine holds_of_run Tryz.func103 a103_ok rfl (by simp [a103]) ?_
  simp [a103]
  first | refine callD_of (k_coeffOk n) (by simp) ?_ | refine call_of (k_coeffOk n) (by simp) ?_ | refine callD_of (k_coeffOk n) rfl ?_ | refine call_of (k_coeffOk n) rfl ?_
  rintro r rfl
  simp

theorem any_not {α : Type} (p : α → Bool) (l : List α) : l.any (fun x => !p x) = !l.all p := by
  rw [List.all_eq_not_any_not, Bool.not_not]

theorem a_anyNotC {h : Heap} {n : Nat} {K : AV → Heap → Nat → Prop} (l : List Int) (hK : K (.bool (!l.all okC)) h n) : ACall Tryz.prog 102 [.sl 1 (intsR l), .fn (.func 103) [] []] h n K :=
  acall_tContainsFunc (p := fun n => !okC n) (rowOf := fun n => [i64 n]) (eltOf := i64) Tryz.func102 a102_ok rfl Tryz.func129 a129_ok rfl (fun x => by simp) l
    (fun x _ => pure1_of_holds (k_notC x) rfl rfl) (by rw [any_not]; exact hK)

theorem k_IsValidLin (l : DLin) (n : Int) : Holds Tryz.prog 59 [.agg (rALin l), i64 n] (fun r => r = .bool (okLin l n)) := by
  refine holds_of_run Tryz.func59 a59_ok rfl (by simp [a59]) ?_
  simp [a59, rALin]
  first | refine callD_of (k_within n 0 8) (by simp) ?_ | refine call_of (k_within n 0 8) (by simp) ?_ | refine callD_of (k_within n 0 8) rfl ?_ | refine call_of (k_within n 0 8) rfl ?_
  rintro r rfl
  unfold okLin
  cases h1 : inR n 0 8
  · simp
  simp
  intro _
  by_cases h2 : (l.Coeffs.length : Int) = n
  case neg => simp [h2]
  simp [h2]
  first | refine callD_of (k_coeffOk l.Const) (by simp) ?_ | refine call_of (k_coeffOk l.Const) (by simp) ?_ | refine callD_of (k_coeffOk l.Const) rfl ?_ | refine call_of (k_coeffOk l.Const) rfl ?_
  rintro r rfl
  cases h3 : okC l.Const
  · simp
  simp
  refine a_anyNotC l.Coeffs ?_
  simp

theorem ks_IsValidLin (l : DLin) (n : Int) : Holds Tryz.prog 95 [.agg (rALin l), i64 n] (fun r => r = .bool (okLin l n)) := by
  refine holds_of_lim Tryz.func95 rfl rfl fun hl => ?_
  simp [rALin] at hl
  refine holds_of_run Tryz.func95 a95_ok rfl (by simp [a95]) ?_
  simp [a95, rALin]
  refine rL_for [1, 2] 5 l.Coeffs.length (fun i _ => (l.Coeffs.drop i).all okC = l.Coeffs.all okC) hl (by simp) (by simp) ?_ ?_
  · intro i s hi hg hk s5 hw hJ
    simp at hk
    rw [List.drop_eq_getElem_cons hi, List.all_cons] at hJ
    simp [hk, s5, hi, hg]
    intro _
    first | refine callD_of (k_l3In _) (by simp) ?_ | refine call_of (k_l3In _) (by simp) ?_ | refine callD_of (k_l3In _) rfl ?_ | refine call_of (k_l3In _) rfl ?_
    rintro r rfl
    cases h1 : okC l.Coeffs[i]
    · have hJ : l.Coeffs.all okC = false := by rw [← hJ, h1]; rfl
      simp [hk, okLin, hJ]
    · rw [h1, Bool.true_and] at hJ
      simp [hk, s5, hw]
      exact hJ
  · intro s hk s5 hJ
    simp at hk hJ
    simp [hk, s5]
    intro _
    first | refine callD_of (k_l1In n 0 8) (by simp) ?_ | refine call_of (k_l1In n 0 8) (by simp) ?_ | refine callD_of (k_l1In n 0 8) rfl ?_ | refine call_of (k_l1In n 0 8) rfl ?_
    rintro r rfl
    unfold okLin
    cases h1 : inR n 0 8
    · simp
    simp [hk]
    intro _
    by_cases h2 : (l.Coeffs.length : Int) = n
    case neg => simp [h2]
    simp [h2]
    first | refine callD_of (k_l3In l.Const) (by simp) ?_ | refine call_of (k_l3In l.Const) (by simp) ?_ | refine callD_of (k_l3In l.Const) rfl ?_ | refine call_of (k_l3In l.Const) rfl ?_
    rintro r rfl
    cases h3 : okC l.Const <;> simp
    exact hJ
end Go.Proofs.YtlbdgpkgmheikaaGreat

/- Contracts: whole numbers within limits, linear expressions. -/
import Derived.Test.YtoejpoioleffpaaT1
import Derived.Test.YtoejpoioleffpaaR31
import Derived.Test.YtoejpoioleffpaaProg
namespace Go.Proofs.Ytoejpoioleffpaa
set_option linter.all false
open Go Go.RowKit Go.Proofs
def a37 : AFn :=
⟨15, [(.t 6)], (.seq 
 (.reg [⟨some 6, (.mv (.k (.bool false))), no⟩]) (.seq 
 (.reg [⟨some 7, (.mv (.t 0)), no⟩, ⟨some 8, (.mv (.t 1)), no⟩, ⟨some 9, (.bin .geq (.t 7) (.t 8)), no⟩, ⟨some 10, (.mv (.t 9)), no⟩, ⟨some 11, (.mv (.t 0)), (some (10, true))⟩, ⟨some 12, (.mv (.t 2)), (some (10, true))⟩, ⟨some 13, (.bin .leq (.t 11) (.t 12)), (some (10, true))⟩, ⟨some 14, (.pick (.t 10) (.t 13) (.k (.bool false))), no⟩, ⟨some 6, (.mv (.t 14)), no⟩]) .ret))⟩
theorem a37_ok : compFn Try.prog Try.f37 = some a37 := by kernel_rfl

def a55 : AFn :=
⟨5, [(.t 2)], (.seq 
 (.reg [⟨some 2, (.mv (.k (.bool false))), no⟩]) (.seq 
 (.reg [⟨some 3, (.mv (.t 0)), no⟩, ⟨some 4, (.call (.k (.fn (.func 37) [] [])) [(.t 3), (.k (.int .i64 (-1000000000))), (.k (.int .i64 1000000000))]), no⟩, ⟨some 2, (.mv (.t 4)), no⟩]) .ret))⟩
theorem a55_ok : compFn Try.prog Try.f55 = some a55 := by kernel_rfl

def a35 : AFn :=
⟨15, [(.t 6)], (.seq 
 (.reg [⟨some 6, (.mv (.k (.bool false))), no⟩]) (.seq 
 (.reg [⟨some 7, (.mv (.t 0)), no⟩, ⟨some 8, (.mv (.t 1)), no⟩, ⟨some 9, (.bin .geq (.t 7) (.t 8)), no⟩, ⟨some 10, (.mv (.t 9)), no⟩, ⟨some 11, (.mv (.t 0)), (some (10, true))⟩, ⟨some 12, (.mv (.t 2)), (some (10, true))⟩, ⟨some 13, (.bin .leq (.t 11) (.t 12)), (some (10, true))⟩, ⟨some 14, (.pick (.t 10) (.t 13) (.k (.bool false))), no⟩, ⟨some 6, (.mv (.t 14)), no⟩]) .ret))⟩
theorem a35_ok : compFn Try.prog Try.f35 = some a35 := by kernel_rfl

def a60 : AFn :=
⟨5, [(.t 2)], (.seq 
 (.reg [⟨some 2, (.mv (.k (.bool false))), no⟩]) (.seq 
 (.reg [⟨some 3, (.mv (.t 0)), no⟩, ⟨some 4, (.call (.k (.fn (.func 35) [] [])) [(.t 3), (.k (.int .i64 (-1000000000))), (.k (.int .i64 1000000000))]), no⟩, ⟨some 2, (.mv (.t 4)), no⟩]) .ret))⟩
theorem a60_ok : compFn Try.prog Try.f60 = some a60 := by kernel_rfl

def a69 : AFn :=
⟨24, [(.t 4), (.t 5)], (.seq 
 (.reg [⟨some 4, (.mv (.k (.int .i64 0))), no⟩, ⟨some 5, (.mv (.k (.bool false))), no⟩]) (.seq (.seq 
 (.reg [⟨some 6, (.mv (.t 0)), no⟩, ⟨some 7, (.call (.k (.fn (.func 55) [] [])) [(.t 6)]), no⟩, ⟨some 8, (.un .not (.t 7)), no⟩, ⟨some 9, (.mv (.t 8)), no⟩, ⟨some 10, (.mv (.t 1)), (some (9, false))⟩, ⟨some 11, (.call (.k (.fn (.func 55) [] [])) [(.t 10)]), (some (9, false))⟩, ⟨some 12, (.un .not (.t 11)), (some (9, false))⟩, ⟨some 13, (.pick (.t 9) (.k (.bool true)) (.t 12)), no⟩, ⟨some 14, (.mv (.t 13)), no⟩, ⟨some 15, (.mv (.t 0)), (some (14, false))⟩, ⟨some 16, (.mv (.t 1)), (some (14, false))⟩, ⟨some 17, (.bin .add (.t 15) (.t 16)), (some (14, false))⟩, ⟨some 18, (.call (.k (.fn (.func 55) [] [])) [(.t 17)]), (some (14, false))⟩, ⟨some 19, (.un .not (.t 18)), (some (14, false))⟩, ⟨some 20, (.pick (.t 14) (.k (.bool true)) (.t 19)), no⟩]) (.cond (.t 20) (.seq 
 (.reg [⟨some 4, (.mv (.k (.int .i64 0))), no⟩, ⟨some 5, (.mv (.k (.bool false))), no⟩]) .ret) .skip)) (.seq 
 (.reg [⟨some 21, (.mv (.t 0)), no⟩, ⟨some 22, (.mv (.t 1)), no⟩, ⟨some 23, (.bin .add (.t 21) (.t 22)), no⟩, ⟨some 4, (.mv (.t 23)), no⟩, ⟨some 5, (.mv (.k (.bool true))), no⟩]) .ret)))⟩
theorem a69_ok : compFn Try.prog Try.f69 = some a69 := by kernel_rfl

def a68 : AFn :=
⟨24, [(.t 4), (.t 5)], (.seq 
 (.reg [⟨some 4, (.mv (.k (.int .i64 0))), no⟩, ⟨some 5, (.mv (.k (.bool false))), no⟩]) (.seq (.seq 
 (.reg [⟨some 6, (.mv (.t 0)), no⟩, ⟨some 7, (.call (.k (.fn (.func 55) [] [])) [(.t 6)]), no⟩, ⟨some 8, (.un .not (.t 7)), no⟩, ⟨some 9, (.mv (.t 8)), no⟩, ⟨some 10, (.mv (.t 1)), (some (9, false))⟩, ⟨some 11, (.call (.k (.fn (.func 55) [] [])) [(.t 10)]), (some (9, false))⟩, ⟨some 12, (.un .not (.t 11)), (some (9, false))⟩, ⟨some 13, (.pick (.t 9) (.k (.bool true)) (.t 12)), no⟩, ⟨some 14, (.mv (.t 13)), no⟩, ⟨some 15, (.mv (.t 0)), (some (14, false))⟩, ⟨some 16, (.mv (.t 1)), (some (14, false))⟩, ⟨some 17, (.bin .mul (.t 15) (.t 16)), (some (14, false))⟩, ⟨some 18, (.call (.k (.fn (.func 55) [] [])) [(.t 17)]), (some (14, false))⟩, ⟨some 19, (.un .not (.t 18)), (some (14, false))⟩, ⟨some 20, (.pick (.t 14) (.k (.bool true)) (.t 19)), no⟩]) (.cond (.t 20) (.seq 
 (.reg [⟨some 4, (.mv (.k (.int .i64 0))), no⟩, ⟨some 5, (.mv (.k (.bool false))), no⟩]) .ret) .skip)) (.seq 
 (.reg [⟨some 21, (.mv (.t 0)), no⟩, ⟨some 22, (.mv (.t 1)), no⟩, ⟨some 23, (.bin .mul (.t 21) (.t 22)), no⟩, ⟨some 4, (.mv (.t 23)), no⟩, ⟨some 5, (.mv (.k (.bool true))), no⟩]) .ret)))⟩
theorem a68_ok : compFn Try.prog Try.f68 = some a68 := by kernel_rfl

def a71 : AFn :=
⟨24, [(.t 4), (.t 5)], (.seq 
 (.reg [⟨some 4, (.mv (.k (.int .i64 0))), no⟩, ⟨some 5, (.mv (.k (.bool false))), no⟩]) (.seq (.seq 
 (.reg [⟨some 6, (.mv (.t 0)), no⟩, ⟨some 7, (.call (.k (.fn (.func 60) [] [])) [(.t 6)]), no⟩, ⟨some 8, (.un .not (.t 7)), no⟩, ⟨some 9, (.mv (.t 8)), no⟩, ⟨some 10, (.mv (.t 1)), (some (9, false))⟩, ⟨some 11, (.call (.k (.fn (.func 60) [] [])) [(.t 10)]), (some (9, false))⟩, ⟨some 12, (.un .not (.t 11)), (some (9, false))⟩, ⟨some 13, (.pick (.t 9) (.k (.bool true)) (.t 12)), no⟩, ⟨some 14, (.mv (.t 13)), no⟩, ⟨some 15, (.mv (.t 0)), (some (14, false))⟩, ⟨some 16, (.mv (.t 1)), (some (14, false))⟩, ⟨some 17, (.bin .add (.t 15) (.t 16)), (some (14, false))⟩, ⟨some 18, (.call (.k (.fn (.func 60) [] [])) [(.t 17)]), (some (14, false))⟩, ⟨some 19, (.un .not (.t 18)), (some (14, false))⟩, ⟨some 20, (.pick (.t 14) (.k (.bool true)) (.t 19)), no⟩]) (.cond (.t 20) (.seq 
 (.reg [⟨some 4, (.mv (.k (.int .i64 0))), no⟩, ⟨some 5, (.mv (.k (.bool false))), no⟩]) .ret) .skip)) (.seq 
 (.reg [⟨some 21, (.mv (.t 0)), no⟩, ⟨some 22, (.mv (.t 1)), no⟩, ⟨some 23, (.bin .add (.t 21) (.t 22)), no⟩, ⟨some 4, (.mv (.t 23)), no⟩, ⟨some 5, (.mv (.k (.bool true))), no⟩]) .ret)))⟩
theorem a71_ok : compFn Try.prog Try.f71 = some a71 := by kernel_rfl

def a70 : AFn :=
⟨24, [(.t 4), (.t 5)], (.seq 
 (.reg [⟨some 4, (.mv (.k (.int .i64 0))), no⟩, ⟨some 5, (.mv (.k (.bool false))), no⟩]) (.seq (.seq 
 (.reg [⟨some 6, (.mv (.t 0)), no⟩, ⟨some 7, (.call (.k (.fn (.func 60) [] [])) [(.t 6)]), no⟩, ⟨some 8, (.un .not (.t 7)), no⟩, ⟨some 9, (.mv (.t 8)), no⟩, ⟨some 10, (.mv (.t 1)), (some (9, false))⟩, ⟨some 11, (.call (.k (.fn (.func 60) [] [])) [(.t 10)]), (some (9, false))⟩, ⟨some 12, (.un .not (.t 11)), (some (9, false))⟩, ⟨some 13, (.pick (.t 9) (.k (.bool true)) (.t 12)), no⟩, ⟨some 14, (.mv (.t 13)), no⟩, ⟨some 15, (.mv (.t 0)), (some (14, false))⟩, ⟨some 16, (.mv (.t 1)), (some (14, false))⟩, ⟨some 17, (.bin .mul (.t 15) (.t 16)), (some (14, false))⟩, ⟨some 18, (.call (.k (.fn (.func 60) [] [])) [(.t 17)]), (some (14, false))⟩, ⟨some 19, (.un .not (.t 18)), (some (14, false))⟩, ⟨some 20, (.pick (.t 14) (.k (.bool true)) (.t 19)), no⟩]) (.cond (.t 20) (.seq 
 (.reg [⟨some 4, (.mv (.k (.int .i64 0))), no⟩, ⟨some 5, (.mv (.k (.bool false))), no⟩]) .ret) .skip)) (.seq 
 (.reg [⟨some 21, (.mv (.t 0)), no⟩, ⟨some 22, (.mv (.t 1)), no⟩, ⟨some 23, (.bin .mul (.t 21) (.t 22)), no⟩, ⟨some 4, (.mv (.t 23)), no⟩, ⟨some 5, (.mv (.k (.bool true))), no⟩]) .ret)))⟩
theorem a70_ok : compFn Try.prog Try.f70 = some a70 := by kernel_rfl

def a59 : AFn :=
⟨29, [(.t 6), (.t 7)], (.seq 
 (.reg [⟨some 6, (.mv (.k (.int .i64 0))), no⟩, ⟨some 7, (.mv (.k (.bool false))), no⟩]) (.seq 
 (.reg [⟨some 13, (.mv (.t 1)), no⟩, ⟨some 14, (.mv (.t 2)), no⟩, ⟨some 15, (.call (.k (.fn (.func 68) [] [])) [(.t 13), (.t 14)]), no⟩, ⟨some 12, (.mv (.t 15)), no⟩, ⟨some 16, (.ext (.t 12) 0), no⟩, ⟨some 17, (.ext (.t 12) 1), no⟩, ⟨some 8, (.mv (.t 16)), no⟩, ⟨some 9, (.mv (.t 17)), no⟩]) (.seq 
 (.reg [⟨some 19, (.mv (.t 0)), no⟩, ⟨some 20, (.mv (.t 8)), no⟩, ⟨some 21, (.call (.k (.fn (.func 69) [] [])) [(.t 19), (.t 20)]), no⟩, ⟨some 18, (.mv (.t 21)), no⟩, ⟨some 22, (.ext (.t 18) 0), no⟩, ⟨some 23, (.ext (.t 18) 1), no⟩, ⟨some 10, (.mv (.t 22)), no⟩, ⟨some 11, (.mv (.t 23)), no⟩]) (.seq 
 (.reg [⟨some 24, (.mv (.t 10)), no⟩, ⟨some 25, (.mv (.t 9)), no⟩, ⟨some 26, (.mv (.t 25)), no⟩, ⟨some 27, (.mv (.t 11)), (some (26, true))⟩, ⟨some 28, (.pick (.t 26) (.t 27) (.k (.bool false))), no⟩, ⟨some 6, (.mv (.t 24)), no⟩, ⟨some 7, (.mv (.t 28)), no⟩]) .ret))))⟩
theorem a59_ok : compFn Try.prog Try.f59 = some a59 := by kernel_rfl

def a61 : AFn :=
⟨23, [(.t 6), (.t 7)], (.seq 
 (.reg [⟨some 6, (.mv (.k (.int .i64 0))), no⟩, ⟨some 7, (.mv (.k (.bool false))), no⟩]) (.seq 
 (.reg [⟨some 11, (.mv (.t 1)), no⟩, ⟨some 12, (.mv (.t 2)), no⟩, ⟨some 13, (.call (.k (.fn (.func 70) [] [])) [(.t 11), (.t 12)]), no⟩, ⟨some 10, (.mv (.t 13)), no⟩, ⟨some 14, (.ext (.t 10) 0), no⟩, ⟨some 15, (.ext (.t 10) 1), no⟩, ⟨some 8, (.mv (.t 14)), no⟩, ⟨some 9, (.mv (.t 15)), no⟩]) (.seq (.seq 
 (.reg [⟨some 16, (.mv (.t 9)), no⟩, ⟨some 17, (.un .not (.t 16)), no⟩]) (.cond (.t 17) (.seq 
 (.reg [⟨some 6, (.mv (.k (.int .i64 0))), no⟩, ⟨some 7, (.mv (.k (.bool false))), no⟩]) .ret) .skip)) (.seq 
 (.reg [⟨some 18, (.mv (.t 0)), no⟩, ⟨some 19, (.mv (.t 8)), no⟩, ⟨some 20, (.call (.k (.fn (.func 71) [] [])) [(.t 18), (.t 19)]), no⟩, ⟨some 21, (.ext (.t 20) 0), no⟩, ⟨some 22, (.ext (.t 20) 1), no⟩, ⟨some 6, (.mv (.t 21)), no⟩, ⟨some 7, (.mv (.t 22)), no⟩]) .ret))))⟩
theorem a61_ok : compFn Try.prog Try.f61 = some a61 := by kernel_rfl

def a57 : AFn :=
⟨6, [(.t 2)], (.seq 
 (.reg [⟨some 2, (.mv (.k (.bool false))), no⟩]) (.seq 
 (.reg [⟨some 3, (.mv (.t 0)), no⟩, ⟨some 4, (.call (.k (.fn (.func 55) [] [])) [(.t 3)]), no⟩, ⟨some 5, (.un .not (.t 4)), no⟩, ⟨some 2, (.mv (.t 5)), no⟩]) .ret))⟩
theorem a57_ok : compFn Try.prog Try.f57 = some a57 := by kernel_rfl

def a25 : AFn :=
⟨25, [(.t 4)], (.seq 
 (.reg [⟨some 2, (.boxv (.t 0)), no⟩, ⟨some 4, (.mv (.k (.bool false))), no⟩]) (.seq 
 (.reg [⟨some 5, (.mv (.t 1)), no⟩, ⟨some 6, (.call (.k (.fn (.func 37) [] [])) [(.t 5), (.k (.int .i64 0)), (.k (.int .i64 8))]), no⟩, ⟨some 7, (.mv (.t 6)), no⟩, ⟨some 8, (.fld 1 (.t 2)), (some (7, true))⟩, ⟨some 9, (.ld false 1 (.t 8)), (some (7, true))⟩, ⟨some 10, (.len false (.t 9)), (some (7, true))⟩, ⟨some 11, (.mv (.t 1)), (some (7, true))⟩, ⟨some 12, (.bin .eql (.t 10) (.t 11)), (some (7, true))⟩, ⟨some 13, (.pick (.t 7) (.t 12) (.k (.bool false))), no⟩, ⟨some 14, (.mv (.t 13)), no⟩, ⟨some 15, (.fld 0 (.t 2)), (some (14, true))⟩, ⟨some 16, (.ld false 1 (.t 15)), (some (14, true))⟩, ⟨some 17, (.call (.k (.fn (.func 55) [] [])) [(.t 16)]), (some (14, true))⟩, ⟨some 18, (.pick (.t 14) (.t 17) (.k (.bool false))), no⟩, ⟨some 19, (.mv (.t 18)), no⟩, ⟨some 20, (.fld 1 (.t 2)), (some (19, true))⟩, ⟨some 21, (.ld false 1 (.t 20)), (some (19, true))⟩, ⟨some 22, (.call (.k (.fn (.func 56) [] [])) [(.t 21), (.k (.fn (.func 57) [] []))]), (some (19, true))⟩, ⟨some 23, (.un .not (.t 22)), (some (19, true))⟩, ⟨some 24, (.pick (.t 19) (.t 23) (.k (.bool false))), no⟩, ⟨some 4, (.mv (.t 24)), no⟩]) .ret))⟩
theorem a25_ok : compFn Try.prog Try.f25 = some a25 := by kernel_rfl

def a31 : AFn :=
⟨34, [(.t 4)], (.seq 
 (.reg [⟨some 2, (.boxv (.t 0)), no⟩, ⟨some 4, (.mv (.k (.bool false))), no⟩]) (.seq (.seq 
 (.reg [⟨some 5, (.mv (.k (.int .i64 0))), no⟩]) (.blk 0 (.loop (.seq (.seq 
 (.reg [⟨some 6, (.mv (.t 5)), no⟩, ⟨some 7, (.fld 1 (.t 2)), no⟩, ⟨some 8, (.ld false 1 (.t 7)), no⟩, ⟨some 9, (.len false (.t 8)), no⟩, ⟨some 10, (.bin .lss (.t 6) (.t 9)), no⟩]) (.cond (.t 10) .skip (.exit 0))) (.seq (.blk 1 (.seq 
 (.reg [⟨some 13, (.fld 1 (.t 2)), no⟩, ⟨some 14, (.ld false 1 (.t 13)), no⟩, ⟨some 15, (.mv (.t 5)), no⟩, ⟨some 16, (.ixa 1 (.t 14) (.t 15)), no⟩, ⟨some 17, (.ld false 1 (.t 16)), no⟩, ⟨some 18, (.call (.k (.fn (.func 60) [] [])) [(.t 17)]), no⟩, ⟨some 19, (.un .not (.t 18)), no⟩]) (.cond (.t 19) (.seq 
 (.reg [⟨some 4, (.mv (.k (.bool false))), no⟩]) .ret) .skip))) 
 (.reg [⟨some 11, (.mv (.t 5)), no⟩, ⟨some 12, (.bin .add (.t 11) (.k (.int .i64 1))), no⟩, ⟨some 5, (.mv (.t 12)), no⟩])))))) (.seq 
 (.reg [⟨some 20, (.mv (.t 1)), no⟩, ⟨some 21, (.call (.k (.fn (.func 35) [] [])) [(.t 20), (.k (.int .i64 0)), (.k (.int .i64 8))]), no⟩, ⟨some 22, (.mv (.t 21)), no⟩, ⟨some 23, (.fld 1 (.t 2)), (some (22, true))⟩, ⟨some 24, (.ld false 1 (.t 23)), (some (22, true))⟩, ⟨some 25, (.len false (.t 24)), (some (22, true))⟩, ⟨some 26, (.mv (.t 1)), (some (22, true))⟩, ⟨some 27, (.bin .eql (.t 25) (.t 26)), (some (22, true))⟩, ⟨some 28, (.pick (.t 22) (.t 27) (.k (.bool false))), no⟩, ⟨some 29, (.mv (.t 28)), no⟩, ⟨some 30, (.fld 0 (.t 2)), (some (29, true))⟩, ⟨some 31, (.ld false 1 (.t 30)), (some (29, true))⟩, ⟨some 32, (.call (.k (.fn (.func 60) [] [])) [(.t 31)]), (some (29, true))⟩, ⟨some 33, (.pick (.t 29) (.t 32) (.k (.bool false))), no⟩, ⟨some 4, (.mv (.t 33)), no⟩]) .ret)))⟩
theorem a31_ok : compFn Try.prog Try.f31 = some a31 := by kernel_rfl


theorem a56_ok : compFn Try.prog Try.f56 = some (tContainsFunc 67) := by kernel_rfl
theorem a67_ok : compFn Try.prog Try.f67 = some (tIndexFunc false 1) := by kernel_rfl

def inR (n lo hi : Int) : Bool := decide (lo ≤ n ∧ n ≤ hi)
def okC (n : Int) : Bool := inR n (-1000000000) 1000000000
theorem okC_iff {n : Int} : okC n = true ↔ -1000000000 ≤ n ∧ n ≤ 1000000000 := by simp [okC, inR]
theorem mul_lim {x y : Int} (hx : okC x = true) (hy : okC y = true) : -1000000000000000000 ≤ x * y ∧ x * y ≤ 1000000000000000000 := by
  rw [okC_iff] at hx hy
  have h : (x * y).natAbs ≤ 1000000000 * 1000000000 := by
    rw [Int.natAbs_mul]; exact Nat.mul_le_mul (by omega) (by omega)
  omega

theorem k_within (n lo hi : Int) : Holds Try.prog 37 [i64 n, i64 lo, i64 hi] (fun r => r = .bool (inR n lo hi)) := by
  refine holds_of_run Try.func37 a37_ok rfl (by simp [a37]) ?_
  simp [a37]
  constructor <;> intro h <;> simp [inR] <;> omega

theorem k_coeffOk (n : Int) : Holds Try.prog 55 [i64 n] (fun r => r = .bool (okC n)) := by
  refine holds_of_run Try.func55 a55_ok rfl (by simp [a55]) ?_
  simp [a55]
  first | refine callD_of (k_within n (-1000000000) 1000000000) (by simp) ?_ | refine call_of (k_within n (-1000000000) 1000000000) (by simp) ?_ | refine callD_of (k_within n (-1000000000) 1000000000) rfl ?_ | refine call_of (k_within n (-1000000000) 1000000000) rfl ?_
  rintro r rfl
  simp
  rfl

theorem k_l1In (n lo hi : Int) : Holds Try.prog 35 [i64 n, i64 lo, i64 hi] (fun r => r = .bool (inR n lo hi)) := by
  refine holds_of_run Try.func35 a35_ok rfl (by simp [a35]) ?_
  simp [a35]
  constructor <;> intro h <;> simp [inR] <;> omega

theorem k_l3In (n : Int) : Holds Try.prog 60 [i64 n] (fun r => r = .bool (okC n)) := by
  refine holds_of_run Try.func60 a60_ok rfl (by simp [a60]) ?_
  simp [a60]
  first | refine callD_of (k_l1In n (-1000000000) 1000000000) (by simp) ?_ | refine call_of (k_l1In n (-1000000000) 1000000000) (by simp) ?_ | refine callD_of (k_l1In n (-1000000000) 1000000000) rfl ?_ | refine call_of (k_l1In n (-1000000000) 1000000000) rfl ?_
  rintro r rfl
  simp
  rfl

/-- A sum, a product within the limits; the flag tells whether there is one. -/
def addL (x y : Int) : Int × Bool := if okC x && okC y && okC (x + y) then (x + y, true) else (0, false)
def mulL (x y : Int) : Int × Bool := if okC x && okC y && okC (x * y) then (x * y, true) else (0, false)
def pairA (p : Int × Bool) : AV := .tup [i64 p.1, .bool p.2]

theorem k_AddLimited (x y : Int) : Holds Try.prog 69 [i64 x, i64 y] (fun r => r = pairA (addL x y)) := by
  refine holds_of_run Try.func69 a69_ok rfl (by simp [a69]) ?_
  simp [a69, pairA, addL]
  first | refine callD_of (k_coeffOk x) (by simp) ?_ | refine call_of (k_coeffOk x) (by simp) ?_ | refine callD_of (k_coeffOk x) rfl ?_ | refine call_of (k_coeffOk x) rfl ?_
  rintro r rfl
  cases hx : okC x
  · simp
  simp
  first | refine callD_of (k_coeffOk y) (by simp) ?_ | refine call_of (k_coeffOk y) (by simp) ?_ | refine callD_of (k_coeffOk y) rfl ?_ | refine call_of (k_coeffOk y) rfl ?_
  rintro r rfl
  cases hy : okC y
  · simp
  simp
  rw [okC_iff] at hx hy
  rw [wrap64 (by omega)]
  first | refine callD_of (k_coeffOk (x + y)) (by simp) ?_ | refine call_of (k_coeffOk (x + y)) (by simp) ?_ | refine callD_of (k_coeffOk (x + y)) rfl ?_ | refine call_of (k_coeffOk (x + y)) rfl ?_
  rintro r rfl
  cases hz : okC (x + y)
  · simp
  · simp; exact wrap64 (by omega)

theorem k_MulLimited (x y : Int) : Holds Try.prog 68 [i64 x, i64 y] (fun r => r = pairA (mulL x y)) := by
  refine holds_of_run Try.func68 a68_ok rfl (by simp [a68]) ?_
  simp [a68, pairA, mulL]
  first | refine callD_of (k_coeffOk x) (by simp) ?_ | refine call_of (k_coeffOk x) (by simp) ?_ | refine callD_of (k_coeffOk x) rfl ?_ | refine call_of (k_coeffOk x) rfl ?_
  rintro r rfl
  cases hx : okC x
  · simp
  simp
  first | refine callD_of (k_coeffOk y) (by simp) ?_ | refine call_of (k_coeffOk y) (by simp) ?_ | refine callD_of (k_coeffOk y) rfl ?_ | refine call_of (k_coeffOk y) rfl ?_
  rintro r rfl
  cases hy : okC y
  · simp
  simp
  have := mul_lim hx hy
  rw [wrap64 (by omega)]
  first | refine callD_of (k_coeffOk (x * y)) (by simp) ?_ | refine call_of (k_coeffOk (x * y)) (by simp) ?_ | refine callD_of (k_coeffOk (x * y)) rfl ?_ | refine call_of (k_coeffOk (x * y)) rfl ?_
  rintro r rfl
  cases hz : okC (x * y)
  · simp
  · simp; exact wrap64 (by omega)

theorem ks_AddLimited (x y : Int) : Holds Try.prog 71 [i64 x, i64 y] (fun r => r = pairA (addL x y)) := by
  refine holds_of_run Try.func71 a71_ok rfl (by simp [a71]) ?_
  simp [a71, pairA, addL]
  first | refine callD_of (k_l3In x) (by simp) ?_ | refine call_of (k_l3In x) (by simp) ?_ | refine callD_of (k_l3In x) rfl ?_ | refine call_of (k_l3In x) rfl ?_
  rintro r rfl
  cases hx : okC x
  · simp
  simp
  first | refine callD_of (k_l3In y) (by simp) ?_ | refine call_of (k_l3In y) (by simp) ?_ | refine callD_of (k_l3In y) rfl ?_ | refine call_of (k_l3In y) rfl ?_
  rintro r rfl
  cases hy : okC y
  · simp
  simp
  rw [okC_iff] at hx hy
  rw [wrap64 (by omega)]
  first | refine callD_of (k_l3In (x + y)) (by simp) ?_ | refine call_of (k_l3In (x + y)) (by simp) ?_ | refine callD_of (k_l3In (x + y)) rfl ?_ | refine call_of (k_l3In (x + y)) rfl ?_
  rintro r rfl
  cases hz : okC (x + y)
  · simp
  · simp; exact wrap64 (by omega)

theorem ks_MulLimited (x y : Int) : Holds Try.prog 70 [i64 x, i64 y] (fun r => r = pairA (mulL x y)) := by
  refine holds_of_run Try.func70 a70_ok rfl (by simp [a70]) ?_
  simp [a70, pairA, mulL]
  first | refine callD_of (k_l3In x) (by simp) ?_ | refine call_of (k_l3In x) (by simp) ?_ | refine callD_of (k_l3In x) rfl ?_ | refine call_of (k_l3In x) rfl ?_
  rintro r rfl
  cases hx : okC x
  · simp
  simp
  first | refine callD_of (k_l3In y) (by simp) ?_ | refine call_of (k_l3In y) (by simp) ?_ | refine callD_of (k_l3In y) rfl ?_ | refine call_of (k_l3In y) rfl ?_
  rintro r rfl
  cases hy : okC y
  · simp
  simp
  have := mul_lim hx hy
  rw [wrap64 (by omega)]
  first | refine callD_of (k_l3In (x * y)) (by simp) ?_ | refine call_of (k_l3In (x * y)) (by simp) ?_ | refine callD_of (k_l3In (x * y)) rfl ?_ | refine call_of (k_l3In (x * y)) rfl ?_
  rintro r rfl
  cases hz : okC (x * y)
  · simp
  · simp; exact wrap64 (by omega)

/-- x + k * y, in limits: the program's and the reference's. -/
def scaledI (x k y : Int) : Int × Bool := ((addL x (mulL k y).1).1, (mulL k y).2 && (addL x (mulL k y).1).2)
def scaledS (x k y : Int) : Int × Bool := if (mulL k y).2 then addL x (mulL k y).1 else (0, false)

theorem k_scaled (x k y : Int) : Holds Try.prog 59 [i64 x, i64 k, i64 y] (fun r => r = pairA (scaledI x k y)) := by
  refine holds_of_run Try.func59 a59_ok rfl (by simp [a59]) ?_
  simp [a59]
  first | refine callD_of (k_MulLimited k y) (by simp [pairA]) ?_ | refine call_of (k_MulLimited k y) (by simp [pairA]) ?_ | refine callD_of (k_MulLimited k y) rfl ?_ | refine call_of (k_MulLimited k y) rfl ?_
  rintro r rfl
  simp [pairA]
  first | refine callD_of (k_AddLimited x (mulL k y).1) (by simp [pairA, scaledI]) ?_ | refine call_of (k_AddLimited x (mulL k y).1) (by simp [pairA, scaledI]) ?_ | refine callD_of (k_AddLimited x (mulL k y).1) rfl ?_ | refine call_of (k_AddLimited x (mulL k y).1) rfl ?_
  rintro r rfl
  simp [pairA, scaledI]
  cases (mulL k y).2 <;> simp

theorem ks_l4Sum (x k y : Int) : Holds Try.prog 61 [i64 x, i64 k, i64 y] (fun r => r = pairA (scaledS x k y)) := by
  refine holds_of_run Try.func61 a61_ok rfl (by simp [a61]) ?_
  simp [a61]
  first | refine callD_of (ks_MulLimited k y) (by simp [pairA, scaledS]) ?_ | refine call_of (ks_MulLimited k y) (by simp [pairA, scaledS]) ?_ | refine callD_of (ks_MulLimited k y) rfl ?_ | refine call_of (ks_MulLimited k y) rfl ?_
  rintro r rfl
  simp [pairA, scaledS]
  cases h : (mulL k y).2
  · simp
  simp
  first | refine callD_of (ks_AddLimited x (mulL k y).1) (by simp [pairA]) ?_ | refine call_of (ks_AddLimited x (mulL k y).1) (by simp [pairA]) ?_ | refine callD_of (ks_AddLimited x (mulL k y).1) rfl ?_ | refine call_of (ks_AddLimited x (mulL k y).1) rfl ?_
  rintro r rfl
  simp [pairA]

/-- What both give, where there is a value. -/
def scaledO (x k y : Int) : Option Int := if (mulL k y).2 && (addL x (mulL k y).1).2 then some (addL x (mulL k y).1).1 else Option.none
theorem scaledI_snd (x k y : Int) : (scaledI x k y).2 = (scaledO x k y).isSome := by unfold scaledI scaledO; split <;> simp_all
theorem scaledS_snd (x k y : Int) : (scaledS x k y).2 = (scaledO x k y).isSome := by unfold scaledS scaledO; cases (mulL k y).2 <;> simp; cases h : (addL x (mulL k y).1).2 <;> simp
theorem scaledI_fst {x k y v : Int} (h : scaledO x k y = some v) : (scaledI x k y).1 = v := by unfold scaledO at h; unfold scaledI; split at h <;> simp_all
theorem scaledS_fst {x k y v : Int} (h : scaledO x k y = some v) : (scaledS x k y).1 = v := by unfold scaledO at h; unfold scaledS; split at h <;> simp_all

/-- Is an expression one of n variables? -/
def okLin (l : DLin) (n : Int) : Bool := inR n 0 8 && decide ((l.Coeffs.length : Int) = n) && okC l.Const && l.Coeffs.all okC

theorem k_notC (n : Int) : Holds Try.prog 57 [i64 n] (fun r => r = .bool (!okC n)) := by
  refine holds_of_run Try.func57 a57_ok rfl (by simp [a57]) ?_
  simp [a57]
  first | refine callD_of (k_coeffOk n) (by simp) ?_ | refine call_of (k_coeffOk n) (by simp) ?_ | refine callD_of (k_coeffOk n) rfl ?_ | refine call_of (k_coeffOk n) rfl ?_
  rintro r rfl
  simp

theorem any_not {α : Type} (p : α → Bool) (l : List α) : l.any (fun x => !p x) = !l.all p := by
  rw [List.all_eq_not_any_not, Bool.not_not]

theorem a_anyNotC {h : Heap} {n : Nat} {K : AV → Heap → Nat → Prop} (l : List Int) (hK : K (.bool (!l.all okC)) h n) : ACall Try.prog 56 [.sl 1 (intsR l), .fn (.func 57) [] []] h n K :=
  acall_tContainsFunc (p := fun n => !okC n) (rowOf := fun n => [i64 n]) (eltOf := i64) Try.func56 a56_ok rfl Try.func67 a67_ok rfl (fun x => by simp) l
    (fun x _ => pure1_of_holds (k_notC x) rfl rfl) (by rw [any_not]; exact hK)

theorem k_IsValidLin (l : DLin) (n : Int) : Holds Try.prog 25 [.agg (rALin l), i64 n] (fun r => r = .bool (okLin l n)) := by
  refine holds_of_run Try.func25 a25_ok rfl (by simp [a25]) ?_
  simp [a25, rALin]
  first | refine callD_of (k_within n 0 8) (by simp) ?_ | refine call_of (k_within n 0 8) (by simp) ?_ | refine callD_of (k_within n 0 8) rfl ?_ | refine call_of (k_within n 0 8) rfl ?_
  rintro r rfl
  unfold okLin
  cases h1 : inR n 0 8
  · simp
  simp
  intro _
  by_cases h2 : (l.Coeffs.length : Int) = n
  case neg => simp [h2]
  simp [h2]
  first | refine callD_of (k_coeffOk l.Const) (by simp) ?_ | refine call_of (k_coeffOk l.Const) (by simp) ?_ | refine callD_of (k_coeffOk l.Const) rfl ?_ | refine call_of (k_coeffOk l.Const) rfl ?_
  rintro r rfl
  cases h3 : okC l.Const
  · simp
  simp
  refine a_anyNotC l.Coeffs ?_
  simp

theorem ks_IsValidLin (l : DLin) (n : Int) : Holds Try.prog 31 [.agg (rALin l), i64 n] (fun r => r = .bool (okLin l n)) := by
  refine holds_of_lim Try.func31 rfl rfl fun hl => ?_
  simp [rALin] at hl
  refine holds_of_run Try.func31 a31_ok rfl (by simp [a31]) ?_
  simp [a31, rALin]
  refine rL_for [1, 2] 5 l.Coeffs.length (fun i _ => (l.Coeffs.drop i).all okC = l.Coeffs.all okC) hl (by simp) (by simp) ?_ ?_
  · intro i s hi hg hk s5 hw hJ
    simp at hk
    rw [List.drop_eq_getElem_cons hi, List.all_cons] at hJ
    simp [hk, s5, hi, hg]
    intro _
    first | refine callD_of (k_l3In _) (by simp) ?_ | refine call_of (k_l3In _) (by simp) ?_ | refine callD_of (k_l3In _) rfl ?_ | refine call_of (k_l3In _) rfl ?_
    rintro r rfl
    cases h1 : okC l.Coeffs[i]
    · have hJ : l.Coeffs.all okC = false := by rw [← hJ, h1]; rfl
      simp [hk, okLin, hJ]
    · rw [h1, Bool.true_and] at hJ
      simp [hk, s5, hw]
      exact hJ
  · intro s hk s5 hJ
    simp at hk hJ
    simp [hk, s5]
    intro _
    first | refine callD_of (k_l1In n 0 8) (by simp) ?_ | refine call_of (k_l1In n 0 8) (by simp) ?_ | refine callD_of (k_l1In n 0 8) rfl ?_ | refine call_of (k_l1In n 0 8) rfl ?_
    rintro r rfl
    unfold okLin
    cases h1 : inR n 0 8
    · simp
    simp [hk]
    intro _
    by_cases h2 : (l.Coeffs.length : Int) = n
    case neg => simp [h2]
    simp [h2]
    first | refine callD_of (k_l3In l.Const) (by simp) ?_ | refine call_of (k_l3In l.Const) (by simp) ?_ | refine callD_of (k_l3In l.Const) rfl ?_ | refine call_of (k_l3In l.Const) rfl ?_
    rintro r rfl
    cases h3 : okC l.Const <;> simp
    exact hJ
end Go.Proofs.Ytoejpoioleffpaa

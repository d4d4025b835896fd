/- Contracts: constants, copies, sums of linear expressions. -/
import Derived.Test.YtoejpoioleffpaaC1
namespace Go.Proofs.Ytoejpoioleffpaa
set_option linter.all false
open Go Go.RowKit Go.Proofs
def a28 : AFn :=
⟨18, [(.c 4 true 2)], (.seq 
 (.reg [⟨some 4, (.box [(.int .i64 0), (.nil 1)]), no⟩]) (.seq (.seq 
 (.reg [⟨some 5, (.mv (.t 1)), no⟩, ⟨some 6, (.call (.k (.fn (.func 37) [] [])) [(.t 5), (.k (.int .i64 0)), (.k (.int .i64 8))]), no⟩, ⟨some 7, (.un .not (.t 6)), no⟩, ⟨some 8, (.mv (.t 7)), no⟩, ⟨some 9, (.mv (.t 0)), (some (8, false))⟩, ⟨some 10, (.call (.k (.fn (.func 55) [] [])) [(.t 9)]), (some (8, false))⟩, ⟨some 11, (.un .not (.t 10)), (some (8, false))⟩, ⟨some 12, (.pick (.t 8) (.k (.bool true)) (.t 11)), no⟩]) (.cond (.t 12) (.seq 
 (.reg [⟨some 13, (.build [(.int .i64 0), (.nil 1)] []), no⟩, ⟨no, (.st 2 (.t 4) (.t 13)), no⟩]) .ret) .skip)) (.seq 
 (.reg [⟨some 14, (.mv (.t 0)), no⟩, ⟨some 15, (.mv (.t 1)), no⟩, ⟨some 16, (.mks 8 [(.int .i64 0)] (.t 15) (.t 15)), no⟩, ⟨some 17, (.build [(.int .i64 0), (.nil 1)] [(0, (1, (.t 14))), (1, (1, (.t 16)))]), no⟩, ⟨no, (.st 2 (.t 4) (.t 17)), no⟩]) .ret)))⟩
theorem a28_ok : compFn Try.prog Try.f28 = some a28 := by kernel_rfl

def a30 : AFn :=
⟨18, [(.c 4 true 2)], (.seq 
 (.reg [⟨some 4, (.box [(.int .i64 0), (.nil 1)]), no⟩]) (.seq (.seq 
 (.reg [⟨some 5, (.mv (.t 1)), no⟩, ⟨some 6, (.call (.k (.fn (.func 35) [] [])) [(.t 5), (.k (.int .i64 0)), (.k (.int .i64 8))]), no⟩, ⟨some 7, (.un .not (.t 6)), no⟩, ⟨some 8, (.mv (.t 7)), no⟩, ⟨some 9, (.mv (.t 0)), (some (8, false))⟩, ⟨some 10, (.call (.k (.fn (.func 60) [] [])) [(.t 9)]), (some (8, false))⟩, ⟨some 11, (.un .not (.t 10)), (some (8, false))⟩, ⟨some 12, (.pick (.t 8) (.k (.bool true)) (.t 11)), no⟩]) (.cond (.t 12) (.seq 
 (.reg [⟨some 13, (.build [(.int .i64 0), (.nil 1)] []), no⟩, ⟨no, (.st 2 (.t 4) (.t 13)), no⟩]) .ret) .skip)) (.seq 
 (.reg [⟨some 14, (.mv (.t 0)), no⟩, ⟨some 15, (.mv (.t 1)), no⟩, ⟨some 16, (.mks 8 [(.int .i64 0)] (.t 15) (.t 15)), no⟩, ⟨some 17, (.build [(.int .i64 0), (.nil 1)] [(0, (1, (.t 14))), (1, (1, (.t 16)))]), no⟩, ⟨no, (.st 2 (.t 4) (.t 17)), no⟩]) .ret)))⟩
theorem a30_ok : compFn Try.prog Try.f30 = some a30 := by kernel_rfl

def a45 : AFn :=
⟨8, [(.t 2)], (.seq 
 (.reg [⟨some 2, (.mv (.k (.nil 1))), no⟩]) (.seq (.seq 
 (.reg [⟨some 3, (.mv (.t 0)), no⟩, ⟨some 4, (.inil false (.t 3)), no⟩]) (.cond (.t 4) (.seq 
 (.reg [⟨some 2, (.mv (.k (.nil 1))), no⟩]) .ret) .skip)) (.seq 
 (.reg [⟨some 5, (.bsl 1 []), no⟩, ⟨some 6, (.mv (.t 0)), no⟩, ⟨some 7, (.app 8 1 (.t 5) (.t 6)), no⟩, ⟨some 2, (.mv (.t 7)), no⟩]) .ret)))⟩
theorem a45_ok : compFn Try.prog Try.f45 = some a45 := by kernel_rfl

def a29 : AFn :=
⟨82, [(.c 6 true 2), (.t 7)], (.seq 
 (.reg [⟨some 3, (.boxv (.t 0)), no⟩, ⟨some 5, (.boxv (.t 2)), no⟩, ⟨some 6, (.box [(.int .i64 0), (.nil 1)]), no⟩, ⟨some 7, (.mv (.k (.bool false))), no⟩]) (.seq 
 (.reg [⟨some 15, (.fld 1 (.t 3)), no⟩, ⟨some 16, (.ld false 1 (.t 15)), no⟩, ⟨some 17, (.len false (.t 16)), no⟩, ⟨some 8, (.mv (.t 17)), no⟩]) (.seq (.seq 
 (.reg [⟨some 18, (.ld true 2 (.t 3)), no⟩, ⟨some 19, (.mv (.t 8)), no⟩, ⟨some 20, (.call (.k (.fn (.func 25) [] [])) [(.t 18), (.t 19)]), no⟩, ⟨some 21, (.un .not (.t 20)), no⟩, ⟨some 22, (.mv (.t 21)), no⟩, ⟨some 23, (.ld true 2 (.t 5)), (some (22, false))⟩, ⟨some 24, (.mv (.t 8)), (some (22, false))⟩, ⟨some 25, (.call (.k (.fn (.func 25) [] [])) [(.t 23), (.t 24)]), (some (22, false))⟩, ⟨some 26, (.un .not (.t 25)), (some (22, false))⟩, ⟨some 27, (.pick (.t 22) (.k (.bool true)) (.t 26)), no⟩, ⟨some 28, (.mv (.t 27)), no⟩, ⟨some 29, (.mv (.t 1)), (some (28, false))⟩, ⟨some 30, (.call (.k (.fn (.func 55) [] [])) [(.t 29)]), (some (28, false))⟩, ⟨some 31, (.un .not (.t 30)), (some (28, false))⟩, ⟨some 32, (.pick (.t 28) (.k (.bool true)) (.t 31)), no⟩]) (.cond (.t 32) (.seq 
 (.reg [⟨some 33, (.build [(.int .i64 0), (.nil 1)] []), no⟩, ⟨no, (.st 2 (.t 6) (.t 33)), no⟩, ⟨some 7, (.mv (.k (.bool false))), no⟩]) .ret) .skip)) (.seq 
 (.reg [⟨some 34, (.mv (.t 8)), no⟩, ⟨some 35, (.call (.k (.fn (.func 28) [] [])) [(.k (.int .i64 0)), (.t 34)]), no⟩, ⟨some 9, (.box [(.int .i64 0), (.nil 1)]), no⟩, ⟨no, (.st 2 (.t 9) (.t 35)), no⟩]) (.seq 
 (.reg [⟨some 37, (.fld 0 (.t 3)), no⟩, ⟨some 38, (.ld false 1 (.t 37)), no⟩, ⟨some 39, (.mv (.t 1)), no⟩, ⟨some 40, (.fld 0 (.t 5)), no⟩, ⟨some 41, (.ld false 1 (.t 40)), no⟩, ⟨some 42, (.call (.k (.fn (.func 59) [] [])) [(.t 38), (.t 39), (.t 41)]), no⟩, ⟨some 36, (.mv (.t 42)), no⟩, ⟨some 43, (.ext (.t 36) 0), no⟩, ⟨some 44, (.ext (.t 36) 1), no⟩, ⟨some 10, (.mv (.t 43)), no⟩, ⟨some 11, (.mv (.t 44)), no⟩]) (.seq 
 (.reg [⟨some 45, (.mv (.t 10)), no⟩, ⟨some 46, (.fld 0 (.t 9)), no⟩, ⟨no, (.st 1 (.t 46) (.t 45)), no⟩]) (.seq (.seq 
 (.reg [⟨some 47, (.fld 1 (.t 3)), no⟩, ⟨some 48, (.ld false 1 (.t 47)), no⟩, ⟨some 49, (.len false (.t 48)), no⟩, ⟨some 50, (.mv (.k (.int .i64 0))), no⟩]) (.blk 0 (.loop (.seq 
 (.reg [⟨some 51, (.bin .lss (.t 50) (.t 49)), no⟩]) (.seq (.cond (.t 51) .skip (.exit 0)) (.seq (.blk 1 (.seq 
 (.reg [⟨some 52, (.mv (.t 50)), no⟩, ⟨some 12, (.mv (.t 52)), no⟩]) (.seq (.draw (.op ⟨some 54, (.fld 1 (.t 3)), no⟩ (.op ⟨some 55, (.ld false 1 (.t 54)), no⟩ (.op ⟨some 56, (.mv (.t 12)), no⟩ (.op ⟨some 57, (.ixa 1 (.t 55) (.t 56)), no⟩ (.op ⟨some 58, (.ld false 1 (.t 57)), no⟩ (.op ⟨some 59, (.mv (.t 1)), no⟩ (.op ⟨some 60, (.fld 1 (.t 5)), no⟩ (.op ⟨some 61, (.ld false 1 (.t 60)), no⟩ (.op ⟨some 62, (.mv (.t 12)), no⟩ (.op ⟨some 63, (.ixa 1 (.t 61) (.t 62)), no⟩ (.op ⟨some 64, (.ld false 1 (.t 63)), no⟩ (.op ⟨some 65, (.call (.k (.fn (.func 59) [] [])) [(.t 58), (.t 59), (.t 64)]), no⟩ (.op ⟨some 53, (.mv (.t 65)), no⟩ (.op ⟨some 66, (.ext (.t 53) 0), no⟩ (.op ⟨some 67, (.ext (.t 53) 1), no⟩ (.op ⟨some 13, (.mv (.t 66)), no⟩ (.op ⟨some 14, (.mv (.t 67)), no⟩ .fin)))))))))))))))))) (.seq 
 (.reg [⟨some 68, (.fld 1 (.t 9)), no⟩, ⟨some 69, (.ld false 1 (.t 68)), no⟩, ⟨some 70, (.mv (.t 12)), no⟩, ⟨some 71, (.mv (.t 13)), no⟩, ⟨some 72, (.ixa 1 (.t 69) (.t 70)), no⟩, ⟨no, (.st 1 (.t 72) (.t 71)), no⟩]) 
 (.reg [⟨some 73, (.mv (.t 11)), no⟩, ⟨some 74, (.mv (.t 73)), no⟩, ⟨some 75, (.mv (.t 14)), (some (74, true))⟩, ⟨some 76, (.pick (.t 74) (.t 75) (.k (.bool false))), no⟩, ⟨some 11, (.mv (.t 76)), no⟩]))))) 
 (.reg [⟨some 77, (.bin .add (.t 50) (.k (.int .i64 1))), no⟩, ⟨some 50, (.mv (.t 77)), no⟩]))))))) (.seq (.seq 
 (.reg [⟨some 78, (.mv (.t 11)), no⟩, ⟨some 79, (.un .not (.t 78)), no⟩]) (.cond (.t 79) (.seq 
 (.reg [⟨some 80, (.build [(.int .i64 0), (.nil 1)] []), no⟩, ⟨no, (.st 2 (.t 6) (.t 80)), no⟩, ⟨some 7, (.mv (.k (.bool false))), no⟩]) .ret) .skip)) (.seq 
 (.reg [⟨some 81, (.ld true 2 (.t 9)), no⟩, ⟨no, (.st 2 (.t 6) (.t 81)), no⟩, ⟨some 7, (.mv (.k (.bool true))), no⟩]) .ret)))))))))⟩
theorem a29_ok : compFn Try.prog Try.f29 = some a29 := by kernel_rfl

def a32 : AFn :=
⟨86, [(.c 6 true 2), (.t 7)], (.seq 
 (.reg [⟨some 3, (.boxv (.t 0)), no⟩, ⟨some 5, (.boxv (.t 2)), no⟩, ⟨some 6, (.box [(.int .i64 0), (.nil 1)]), no⟩, ⟨some 7, (.mv (.k (.bool false))), no⟩]) (.seq 
 (.reg [⟨some 16, (.fld 1 (.t 3)), no⟩, ⟨some 17, (.ld false 1 (.t 16)), no⟩, ⟨some 18, (.len false (.t 17)), no⟩, ⟨some 8, (.mv (.t 18)), no⟩]) (.seq (.seq 
 (.reg [⟨some 19, (.ld true 2 (.t 3)), no⟩, ⟨some 20, (.mv (.t 8)), no⟩, ⟨some 21, (.call (.k (.fn (.func 31) [] [])) [(.t 19), (.t 20)]), no⟩, ⟨some 22, (.un .not (.t 21)), no⟩, ⟨some 23, (.mv (.t 22)), no⟩, ⟨some 24, (.ld true 2 (.t 5)), (some (23, false))⟩, ⟨some 25, (.mv (.t 8)), (some (23, false))⟩, ⟨some 26, (.call (.k (.fn (.func 31) [] [])) [(.t 24), (.t 25)]), (some (23, false))⟩, ⟨some 27, (.un .not (.t 26)), (some (23, false))⟩, ⟨some 28, (.pick (.t 23) (.k (.bool true)) (.t 27)), no⟩, ⟨some 29, (.mv (.t 28)), no⟩, ⟨some 30, (.mv (.t 1)), (some (29, false))⟩, ⟨some 31, (.call (.k (.fn (.func 60) [] [])) [(.t 30)]), (some (29, false))⟩, ⟨some 32, (.un .not (.t 31)), (some (29, false))⟩, ⟨some 33, (.pick (.t 29) (.k (.bool true)) (.t 32)), no⟩]) (.cond (.t 33) (.seq 
 (.reg [⟨some 34, (.build [(.int .i64 0), (.nil 1)] []), no⟩, ⟨no, (.st 2 (.t 6) (.t 34)), no⟩, ⟨some 7, (.mv (.k (.bool false))), no⟩]) .ret) .skip)) (.seq 
 (.reg [⟨some 35, (.mv (.t 8)), no⟩, ⟨some 36, (.mks 8 [(.int .i64 0)] (.t 35) (.t 35)), no⟩, ⟨some 37, (.build [(.int .i64 0), (.nil 1)] [(1, (1, (.t 36)))]), no⟩, ⟨some 9, (.box [(.int .i64 0), (.nil 1)]), no⟩, ⟨no, (.st 2 (.t 9) (.t 37)), no⟩]) (.seq 
 (.reg [⟨some 10, (.mv (.k (.bool true))), no⟩]) (.seq (.seq 
 (.reg [⟨some 11, (.mv (.k (.int .i64 0))), no⟩]) (.blk 0 (.loop (.seq (.seq 
 (.reg [⟨some 38, (.mv (.t 11)), no⟩, ⟨some 39, (.mv (.t 8)), no⟩, ⟨some 40, (.bin .lss (.t 38) (.t 39)), no⟩]) (.cond (.t 40) .skip (.exit 0))) (.seq (.blk 1 (.seq (.draw (.op ⟨some 44, (.fld 1 (.t 3)), no⟩ (.op ⟨some 45, (.ld false 1 (.t 44)), no⟩ (.op ⟨some 46, (.mv (.t 11)), no⟩ (.op ⟨some 47, (.ixa 1 (.t 45) (.t 46)), no⟩ (.op ⟨some 48, (.ld false 1 (.t 47)), no⟩ (.op ⟨some 49, (.mv (.t 1)), no⟩ (.op ⟨some 50, (.fld 1 (.t 5)), no⟩ (.op ⟨some 51, (.ld false 1 (.t 50)), no⟩ (.op ⟨some 52, (.mv (.t 11)), no⟩ (.op ⟨some 53, (.ixa 1 (.t 51) (.t 52)), no⟩ (.op ⟨some 54, (.ld false 1 (.t 53)), no⟩ (.op ⟨some 55, (.call (.k (.fn (.func 61) [] [])) [(.t 48), (.t 49), (.t 54)]), no⟩ (.op ⟨some 43, (.mv (.t 55)), no⟩ (.op ⟨some 56, (.ext (.t 43) 0), no⟩ (.op ⟨some 57, (.ext (.t 43) 1), no⟩ (.op ⟨some 12, (.mv (.t 56)), no⟩ (.op ⟨some 13, (.mv (.t 57)), no⟩ .fin)))))))))))))))))) (.seq 
 (.reg [⟨some 58, (.fld 1 (.t 9)), no⟩, ⟨some 59, (.ld false 1 (.t 58)), no⟩, ⟨some 60, (.mv (.t 11)), no⟩, ⟨some 61, (.mv (.t 12)), no⟩, ⟨some 62, (.ixa 1 (.t 59) (.t 60)), no⟩, ⟨no, (.st 1 (.t 62) (.t 61)), no⟩]) 
 (.reg [⟨some 63, (.mv (.t 10)), no⟩, ⟨some 64, (.mv (.t 63)), no⟩, ⟨some 65, (.mv (.t 13)), (some (64, true))⟩, ⟨some 66, (.pick (.t 64) (.t 65) (.k (.bool false))), no⟩, ⟨some 10, (.mv (.t 66)), no⟩])))) 
 (.reg [⟨some 41, (.mv (.t 11)), no⟩, ⟨some 42, (.bin .add (.t 41) (.k (.int .i64 1))), no⟩, ⟨some 11, (.mv (.t 42)), no⟩])))))) (.seq 
 (.reg [⟨some 68, (.fld 0 (.t 3)), no⟩, ⟨some 69, (.ld false 1 (.t 68)), no⟩, ⟨some 70, (.mv (.t 1)), no⟩, ⟨some 71, (.fld 0 (.t 5)), no⟩, ⟨some 72, (.ld false 1 (.t 71)), no⟩, ⟨some 73, (.call (.k (.fn (.func 61) [] [])) [(.t 69), (.t 70), (.t 72)]), no⟩, ⟨some 67, (.mv (.t 73)), no⟩, ⟨some 74, (.ext (.t 67) 0), no⟩, ⟨some 75, (.ext (.t 67) 1), no⟩, ⟨some 14, (.mv (.t 74)), no⟩, ⟨some 15, (.mv (.t 75)), no⟩]) (.seq (.seq 
 (.reg [⟨some 76, (.mv (.t 10)), no⟩, ⟨some 77, (.un .not (.t 76)), no⟩, ⟨some 78, (.mv (.t 77)), no⟩, ⟨some 79, (.mv (.t 15)), (some (78, false))⟩, ⟨some 80, (.un .not (.t 79)), (some (78, false))⟩, ⟨some 81, (.pick (.t 78) (.k (.bool true)) (.t 80)), no⟩]) (.cond (.t 81) (.seq 
 (.reg [⟨some 82, (.build [(.int .i64 0), (.nil 1)] []), no⟩, ⟨no, (.st 2 (.t 6) (.t 82)), no⟩, ⟨some 7, (.mv (.k (.bool false))), no⟩]) .ret) .skip)) (.seq 
 (.reg [⟨some 83, (.mv (.t 14)), no⟩, ⟨some 84, (.fld 0 (.t 9)), no⟩, ⟨no, (.st 1 (.t 84) (.t 83)), no⟩]) (.seq 
 (.reg [⟨some 85, (.ld true 2 (.t 9)), no⟩, ⟨no, (.st 2 (.t 6) (.t 85)), no⟩, ⟨some 7, (.mv (.k (.bool true))), no⟩]) .ret))))))))))⟩
theorem a32_ok : compFn Try.prog Try.f32 = some a32 := by kernel_rfl



def constLin (k n : Int) : DLin := if inR n 0 8 && okC k then ⟨k, List.replicate n.toNat 0⟩ else ⟨0, []⟩
@[simp] theorem intsR_rep (m : Nat) : intsR (List.replicate m 0) = List.replicate m [AV.int .i64 0] := by simp [intsR]

@[simp] theorem clean_rep (m : Nat) : cleanr (List.replicate m [AV.int .i64 0]) = true := by rw [← intsR_rep]; exact clean_intsR _
@[simp] theorem intsR_set (l : List Int) (i : Nat) (v : Int) : (intsR l).set i [AV.int .i64 v] = intsR (l.set i v) := by simp [intsR, List.map_set]

theorem k_ConstLin (k n : Int) : Holds Try.prog 28 [i64 k, i64 n] (fun r => r = .agg (rULin (constLin k n))) := by
  refine holds_of_run Try.func28 a28_ok rfl (by simp [a28]) ?_
  simp [a28]
  first | refine callD_of (k_within n 0 8) (by simp) ?_ | refine call_of (k_within n 0 8) (by simp) ?_ | refine callD_of (k_within n 0 8) rfl ?_ | refine call_of (k_within n 0 8) rfl ?_
  rintro r rfl
  unfold constLin
  cases h1 : inR n 0 8
  · simp [rULin, intsR]
  simp
  first | refine callD_of (k_coeffOk k) (by simp) ?_ | refine call_of (k_coeffOk k) (by simp) ?_ | refine callD_of (k_coeffOk k) rfl ?_ | refine call_of (k_coeffOk k) rfl ?_
  rintro r rfl
  cases h2 : okC k
  · simp [rULin, intsR]
  have hn : 0 ≤ n ∧ n ≤ 8 := by simpa [inR] using h1
  obtain ⟨m, rfl⟩ : ∃ m : Nat, n = m := ⟨n.toNat, by omega⟩
  simp [rULin]
  unfold LIM
  omega

theorem ks_ConstLin (k n : Int) : Holds Try.prog 30 [i64 k, i64 n] (fun r => r = .agg (rULin (constLin k n))) := by
  refine holds_of_run Try.func30 a30_ok rfl (by simp [a30]) ?_
  simp [a30]
  first | refine callD_of (k_l1In n 0 8) (by simp) ?_ | refine call_of (k_l1In n 0 8) (by simp) ?_ | refine callD_of (k_l1In n 0 8) rfl ?_ | refine call_of (k_l1In n 0 8) rfl ?_
  rintro r rfl
  unfold constLin
  cases h1 : inR n 0 8
  · simp [rULin, intsR]
  simp
  first | refine callD_of (k_l3In k) (by simp) ?_ | refine call_of (k_l3In k) (by simp) ?_ | refine callD_of (k_l3In k) rfl ?_ | refine call_of (k_l3In k) rfl ?_
  rintro r rfl
  cases h2 : okC k
  · simp [rULin, intsR]
  have hn : 0 ≤ n ∧ n ≤ 8 := by simpa [inR] using h1
  obtain ⟨m, rfl⟩ : ∃ m : Nat, n = m := ⟨n.toNat, by omega⟩
  simp [rULin]
  unfold LIM
  omega

theorem k_CloneInt (l : List Int) (hl : l.length ≤ 1048576) : Holds Try.prog 45 [.sl 1 (intsR l)] (fun r => r = .us 1 (intsR l)) := by
  refine holds_of_run Try.func45 a45_ok rfl (by simp [a45]) ?_
  simp [a45]
  unfold LIM
  omega

def lin0 : DLin := ⟨0, []⟩
def optLin : Option DLin → AV
  | some l => .tup [.agg (rULin l), .bool true]
  | Option.none => .tup [.agg (rULin lin0), .bool false]
theorem optLin_eq (o : Option DLin) : optLin o = .tup [.agg (rULin (o.getD lin0)), .bool o.isSome] := by cases o <;> rfl
/-- The values of a combination, where there are any. -/
def combZ (a : DLin) (k : Int) (b : DLin) : List (Option Int) := List.zipWith (fun x y => scaledO x k y) a.Coeffs b.Coeffs
def combOk (a : DLin) (k : Int) (b : DLin) : Bool := (combZ a k b).all Option.isSome
def addScaled (a : DLin) (k : Int) (b : DLin) : Option DLin :=
  if okLin a a.Coeffs.length && okLin b a.Coeffs.length && okC k && (scaledO a.Const k b.Const).isSome && combOk a k b then
    some ⟨(scaledO a.Const k b.Const).getD 0, (combZ a k b).map (·.getD 0)⟩
  else Option.none

theorem okLin_len {l : DLin} {n : Int} (h : okLin l n = true) : (l.Coeffs.length : Int) = n ∧ 0 ≤ n ∧ n ≤ 8 := by
  unfold okLin at h
  simp [inR] at h
  omega

theorem comb_vals {a b : DLin} {k : Int} {vs : List Int} (hl : b.Coeffs.length = a.Coeffs.length) (hv : vs.length = a.Coeffs.length) (g : Int → Int → Int → Int) (hg : ∀ x y v, scaledO x k y = some v → g x k y = v)
    (hj : ∀ j (h : j < a.Coeffs.length) (h' : j < b.Coeffs.length), vs[j]? = some (g a.Coeffs[j] k b.Coeffs[j])) (hZ : (combZ a k b).all Option.isSome = true) : vs = (combZ a k b).map (·.getD 0) := by
  refine List.ext_getElem (by simp [combZ, hv, hl]) fun j h1 h2 => ?_
  have h3 : j < a.Coeffs.length := by omega
  have h4 : j < b.Coeffs.length := by omega
  have h5 := hj j h3 h4
  rw [List.getElem?_eq_getElem h1] at h5
  rw [Option.some.inj h5, List.getElem_map]
  have h6 : (combZ a k b)[j]'(by simpa using h2) = scaledO a.Coeffs[j] k b.Coeffs[j] := by simp [combZ]
  rw [h6]
  have h7 := List.all_eq_true.1 hZ _ (List.getElem_mem (by simpa using h2 : j < (combZ a k b).length))
  rw [h6] at h7
  obtain ⟨v, hv'⟩ := Option.isSome_iff_exists.1 h7
  rw [hg _ _ _ hv', hv']; rfl

set_option maxRecDepth 20000 in
set_option maxHeartbeats 1000000 in
theorem k_AddScaled (a : DLin) (k : Int) (b : DLin) : Holds Try.prog 29 [.agg (rALin a), i64 k, .agg (rALin b)] (fun r => r = optLin (addScaled a k b)) := by
  refine holds_of_run Try.func29 a29_ok rfl (by simp [a29]) ?_
  simp [a29, rALin]
  intro hlim
  unfold addScaled
  first | refine callD_of (k_IsValidLin a a.Coeffs.length) (by simp [rALin]) ?_ | refine call_of (k_IsValidLin a a.Coeffs.length) (by simp [rALin]) ?_ | refine callD_of (k_IsValidLin a a.Coeffs.length) rfl ?_ | refine call_of (k_IsValidLin a a.Coeffs.length) rfl ?_
  rintro r rfl
  cases h1 : okLin a a.Coeffs.length
  · simp [optLin, lin0, rULin, intsR]
  simp
  first | refine callD_of (k_IsValidLin b a.Coeffs.length) (by simp [rALin]) ?_ | refine call_of (k_IsValidLin b a.Coeffs.length) (by simp [rALin]) ?_ | refine callD_of (k_IsValidLin b a.Coeffs.length) rfl ?_ | refine call_of (k_IsValidLin b a.Coeffs.length) rfl ?_
  rintro r rfl
  cases h2 : okLin b a.Coeffs.length
  · simp [optLin, lin0, rULin, intsR]
  simp
  first | refine callD_of (k_coeffOk k) (by simp) ?_ | refine call_of (k_coeffOk k) (by simp) ?_ | refine callD_of (k_coeffOk k) rfl ?_ | refine call_of (k_coeffOk k) rfl ?_
  rintro r rfl
  cases h3 : okC k
  · simp [optLin, lin0, rULin, intsR]
  simp
  have hla := okLin_len h1
  have hlb := okLin_len h2
  have hl : b.Coeffs.length = a.Coeffs.length := by omega
  have hc0 : constLin 0 (a.Coeffs.length : Int) = ⟨0, List.replicate a.Coeffs.length 0⟩ := by
    unfold constLin
    rw [if_pos (by simp [inR, okC]; omega)]
    simp
  first | refine callD_of (k_ConstLin 0 a.Coeffs.length) (by simp) ?_ | refine call_of (k_ConstLin 0 a.Coeffs.length) (by simp) ?_ | refine callD_of (k_ConstLin 0 a.Coeffs.length) rfl ?_ | refine call_of (k_ConstLin 0 a.Coeffs.length) rfl ?_
  rintro r rfl
  rw [hc0]
  simp [rULin]
  first | refine callD_of (k_scaled a.Const k b.Const) (by simp [pairA]) ?_ | refine call_of (k_scaled a.Const k b.Const) (by simp [pairA]) ?_ | refine callD_of (k_scaled a.Const k b.Const) rfl ?_ | refine call_of (k_scaled a.Const k b.Const) rfl ?_
  rintro r rfl
  simp [pairA]
  intro _
  have hzl : (combZ a k b).length = a.Coeffs.length := by simp [combZ, hl]
  refine rL_forO [1, 3, 5, 6, 9, 49] 50 a.Coeffs.length (fun i s h n => h 0 = some ⟨true, 2, [[.int .i64 a.Const, .sl 1 (intsR a.Coeffs)]]⟩ ∧ h 1 = some ⟨true, 2, [[.int .i64 b.Const, .sl 1 (intsR b.Coeffs)]]⟩ ∧ h 2 = some ⟨true, 2, [[.int .i64 0, .nil 1]]⟩ ∧
      h 4 = some ⟨true, 2, [[.int .i64 (scaledI a.Const k b.Const).1, .ref 3 0 a.Coeffs.length]]⟩ ∧ ∃ vs : List Int, h 3 = some ⟨false, 1, intsR vs⟩ ∧ vs.length = a.Coeffs.length ∧
      (∀ j (h : j < a.Coeffs.length) (h' : j < b.Coeffs.length), j < i → vs[j]? = some (scaledI a.Coeffs[j] k b.Coeffs[j]).1) ∧ s 11 = .bool ((scaledO a.Const k b.Const).isSome && ((combZ a k b).take i).all Option.isSome))
    hlim (by simp) (by simp; exact ⟨List.replicate a.Coeffs.length 0, by simp, by simp, by simp [scaledI_snd]⟩) ?_ ?_
  · rintro i s h n R hi hg hk s50 hw ⟨e0, e1, e2, e4, vs, e3, hvl, hvs, s11⟩ hR _ _
    simp at hk
    have hib : i < b.Coeffs.length := by omega
    have hiv : i < vs.length := by omega
    have hiz : i < (combZ a k b).length := by omega
    have hZi : (combZ a k b)[i] = scaledO a.Coeffs[i] k b.Coeffs[i] := by simp [combZ]
    have hflag : ((scaledO a.Const k b.Const).isSome && ((combZ a k b).take (i + 1)).all Option.isSome) = (((scaledO a.Const k b.Const).isSome && ((combZ a k b).take i).all Option.isSome) && (scaledI a.Coeffs[i] k b.Coeffs[i]).2) := by
      rw [List.take_succ_eq_append_getElem hiz, List.all_append, hZi, scaledI_snd]
      simp [Bool.and_assoc]
    have hvs' : ∀ j (h : j < a.Coeffs.length) (h' : j < b.Coeffs.length), j < i + 1 → (vs.set i (scaledI a.Coeffs[i] k b.Coeffs[i]).1)[j]? = some (scaledI a.Coeffs[j] k b.Coeffs[j]).1 := by
      intro j h h' hj
      rw [List.getElem?_set]
      by_cases hji : i = j
      · subst hji; simp [hiv]
      · rw [if_neg hji]; exact hvs j h h' (by omega)
    obtain ⟨f, hf⟩ : ∃ f, f = ((scaledO a.Const k b.Const).isSome && ((combZ a k b).take i).all Option.isSome) := ⟨_, rfl⟩
    rw [← hf] at s11 hflag
    cases f
    all_goals
      simp [hk, s50, hi, hg, hw, hib, hiv, e0, e1, e2, e3, e4, s11]
      first | refine callD_of (k_scaled _ _ _) (by simp [pairA]) ?_ | refine call_of (k_scaled _ _ _) (by simp [pairA]) ?_ | refine callD_of (k_scaled _ _ _) rfl ?_ | refine call_of (k_scaled _ _ _) rfl ?_
      rintro r rfl
      simp [hk, s50, hi, hg, hw, hib, hiv, e0, e1, e2, e3, e4, s11, pairA]
      exact hR _ _ _ (by simp [hk]) (by simp) ⟨by simp [e0], by simp [e1], by simp [e2], by simp [e4], _, by simp, by simp [hvl], hvs', by rw [hflag]; simp⟩
  · rintro s h n R hk s50 ⟨e0, e1, e2, e4, vs, e3, hvl, hvs, s11⟩ hret hX
    simp at hk
    rw [List.take_of_length_le (by omega)] at s11
    simp [hk, s50]
    refine hX _ _ _ _ ?_
    cases hc : (scaledO a.Const k b.Const).isSome
    · rw [hc] at s11
      simp at s11
      simp [hk, s11, e2, optLin, lin0, rULin, intsR]
    rw [show (combZ a k b).all Option.isSome = combOk a k b from rfl] at s11
    cases hz : combOk a k b
    · rw [hc, hz] at s11
      simp at s11
      simp [hk, s11, e2, optLin, lin0, rULin, intsR]
    · rw [hc, hz] at s11
      simp at s11
      obtain ⟨v, hv⟩ := Option.isSome_iff_exists.1 hc
      have hval := comb_vals hl hvl (fun x k y => (scaledI x k y).1) (fun x y v h => scaledI_fst h) (fun j h h' => hvs j h h' h) hz
      simp [hk, s11, e2, e3, e4, optLin, rULin, hvl]
      rw [← hval, hv, scaledI_fst hv]
      simp [hvl, List.take_of_length_le]

set_option maxRecDepth 20000 in
set_option maxHeartbeats 1000000 in
theorem ks_AddScaled (a : DLin) (k : Int) (b : DLin) : Holds Try.prog 32 [.agg (rALin a), i64 k, .agg (rALin b)] (fun r => r = optLin (addScaled a k b)) := by
  refine holds_of_run Try.func32 a32_ok rfl (by simp [a32]) ?_
  simp [a32, rALin]
  intro hlim
  unfold addScaled
  first | refine callD_of (ks_IsValidLin a a.Coeffs.length) (by simp [rALin]) ?_ | refine call_of (ks_IsValidLin a a.Coeffs.length) (by simp [rALin]) ?_ | refine callD_of (ks_IsValidLin a a.Coeffs.length) rfl ?_ | refine call_of (ks_IsValidLin a a.Coeffs.length) rfl ?_
  rintro r rfl
  cases h1 : okLin a a.Coeffs.length
  · simp [optLin, lin0, rULin, intsR]
  simp
  first | refine callD_of (ks_IsValidLin b a.Coeffs.length) (by simp [rALin]) ?_ | refine call_of (ks_IsValidLin b a.Coeffs.length) (by simp [rALin]) ?_ | refine callD_of (ks_IsValidLin b a.Coeffs.length) rfl ?_ | refine call_of (ks_IsValidLin b a.Coeffs.length) rfl ?_
  rintro r rfl
  cases h2 : okLin b a.Coeffs.length
  · simp [optLin, lin0, rULin, intsR]
  simp
  first | refine callD_of (k_l3In k) (by simp) ?_ | refine call_of (k_l3In k) (by simp) ?_ | refine callD_of (k_l3In k) rfl ?_ | refine call_of (k_l3In k) rfl ?_
  rintro r rfl
  cases h3 : okC k
  · simp [optLin, lin0, rULin, intsR]
  simp
  have hla := okLin_len h1
  have hlb := okLin_len h2
  have hl : b.Coeffs.length = a.Coeffs.length := by omega
  have hzl : (combZ a k b).length = a.Coeffs.length := by simp [combZ, hl]
  refine ⟨by unfold LIM; omega, ?_⟩
  refine rL_forO [1, 3, 5, 6, 8, 9] 11 a.Coeffs.length (fun i s h n => h 0 = some ⟨true, 2, [[.int .i64 a.Const, .sl 1 (intsR a.Coeffs)]]⟩ ∧ h 1 = some ⟨true, 2, [[.int .i64 b.Const, .sl 1 (intsR b.Coeffs)]]⟩ ∧ h 2 = some ⟨true, 2, [[.int .i64 0, .nil 1]]⟩ ∧
      h 4 = some ⟨true, 2, [[.int .i64 0, .ref 3 0 a.Coeffs.length]]⟩ ∧ ∃ vs : List Int, h 3 = some ⟨false, 1, intsR vs⟩ ∧ vs.length = a.Coeffs.length ∧
      (∀ j (h : j < a.Coeffs.length) (h' : j < b.Coeffs.length), j < i → vs[j]? = some (scaledS a.Coeffs[j] k b.Coeffs[j]).1) ∧ s 10 = .bool (((combZ a k b).take i).all Option.isSome))
    hlim (by simp) (by simp; exact ⟨List.replicate a.Coeffs.length 0, by simp, by simp⟩) ?_ ?_
  · rintro i s h n R hi hg hk s11 hw ⟨e0, e1, e2, e4, vs, e3, hvl, hvs, s10⟩ hR _ _
    simp at hk
    have hib : i < b.Coeffs.length := by omega
    have hiv : i < vs.length := by omega
    have hiz : i < (combZ a k b).length := by omega
    have hZi : (combZ a k b)[i] = scaledO a.Coeffs[i] k b.Coeffs[i] := by simp [combZ]
    have hflag : (((combZ a k b).take (i + 1)).all Option.isSome) = ((((combZ a k b).take i).all Option.isSome) && (scaledS a.Coeffs[i] k b.Coeffs[i]).2) := by
      rw [List.take_succ_eq_append_getElem hiz, List.all_append, hZi, scaledS_snd]
      simp
    have hvs' : ∀ j (h : j < a.Coeffs.length) (h' : j < b.Coeffs.length), j < i + 1 → (vs.set i (scaledS a.Coeffs[i] k b.Coeffs[i]).1)[j]? = some (scaledS a.Coeffs[j] k b.Coeffs[j]).1 := by
      intro j h h' hj
      rw [List.getElem?_set]
      by_cases hji : i = j
      · subst hji; simp [hiv]
      · rw [if_neg hji]; exact hvs j h h' (by omega)
    obtain ⟨f, hf⟩ : ∃ f, f = (((combZ a k b).take i).all Option.isSome) := ⟨_, rfl⟩
    rw [← hf] at s10 hflag
    cases f
    all_goals
      simp [hk, s11, hi, hg, hw, hib, hiv, e0, e1, e2, e3, e4, s10]
      first | refine callD_of (ks_l4Sum _ _ _) (by simp [pairA]) ?_ | refine call_of (ks_l4Sum _ _ _) (by simp [pairA]) ?_ | refine callD_of (ks_l4Sum _ _ _) rfl ?_ | refine call_of (ks_l4Sum _ _ _) rfl ?_
      rintro r rfl
      simp [hk, s11, hi, hg, hw, hib, hiv, e0, e1, e2, e3, e4, s10, pairA]
      exact hR _ _ _ (by simp [hk]) (by simp) ⟨by simp [e0], by simp [e1], by simp [e2], by simp [e4], _, by simp, by simp [hvl], hvs', by rw [hflag]; simp⟩
  · rintro s h n R hk s11 ⟨e0, e1, e2, e4, vs, e3, hvl, hvs, s10⟩ hret hX
    simp at hk
    rw [List.take_of_length_le (by omega), show (combZ a k b).all Option.isSome = combOk a k b from rfl] at s10
    simp [hk, s11]
    refine hX _ _ _ _ ?_
    cases hz : combOk a k b
    · rw [hz] at s10
      simp [hk, s10, e0, e1, e2, e4]
      first | refine callD_of (ks_l4Sum _ _ _) (by simp [pairA]) ?_ | refine call_of (ks_l4Sum _ _ _) (by simp [pairA]) ?_ | refine callD_of (ks_l4Sum _ _ _) rfl ?_ | refine call_of (ks_l4Sum _ _ _) rfl ?_
      rintro r rfl
      simp [hk, s10, e0, e1, e2, e4, pairA, optLin, lin0, rULin, intsR]
    · rw [hz] at s10
      have hval := comb_vals hl hvl (fun x k y => (scaledS x k y).1) (fun x y v h => scaledS_fst h) (fun j h h' => hvs j h h' h) hz
      simp [hk, s10, e0, e1, e2, e4]
      first | refine callD_of (ks_l4Sum _ _ _) (by simp [pairA]) ?_ | refine call_of (ks_l4Sum _ _ _) (by simp [pairA]) ?_ | refine callD_of (ks_l4Sum _ _ _) rfl ?_ | refine call_of (ks_l4Sum _ _ _) rfl ?_
      rintro r rfl
      cases hc : (scaledO a.Const k b.Const).isSome
      · have hc' : (scaledS a.Const k b.Const).2 = false := by rw [scaledS_snd, hc]
        simp [hk, s10, e0, e1, e2, e4, pairA, hc', optLin, lin0, rULin, intsR]
      · have hc' : (scaledS a.Const k b.Const).2 = true := by rw [scaledS_snd, hc]
        obtain ⟨v, hv⟩ := Option.isSome_iff_exists.1 hc
        simp [hk, s10, e0, e1, e2, e3, e4, pairA, hc', optLin, rULin, hvl]
        rw [← hval, hv, scaledS_fst hv]
        simp [hvl, List.take_of_length_le]
end Go.Proofs.Ytoejpoioleffpaa

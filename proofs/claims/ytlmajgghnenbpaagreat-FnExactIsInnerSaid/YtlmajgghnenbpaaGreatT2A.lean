/- Contracts of the laws' functions over the types. -/
import Derived.Test.YtlmajgghnenbpaaGreatT1
import Derived.Test.YtlmajgghnenbpaaGreatR31
import Derived.Test.YtlmajgghnenbpaaGreatProg
namespace Go.Proofs.YtlmajgghnenbpaaGreat
set_option linter.all false
open Go Go.RowKit Go.Proofs
def a120 : AFn :=
⟨12, [(.t 4)], (.seq 
 (.reg [⟨some 4, (.mv (.k (.int .i64 0))), no⟩]) (.seq 
 (.reg [⟨some 5, (.mv (.t 1)), no⟩, ⟨some 6, (.mv (.t 0)), no⟩, ⟨some 7, (.len false (.t 6)), no⟩, ⟨some 8, (.bin .sub (.t 5) (.t 7)), no⟩, ⟨some 1, (.mv (.t 8)), no⟩]) (.seq (.seq 
 (.reg [⟨some 9, (.mv (.t 1)), no⟩, ⟨some 10, (.bin .lss (.t 9) (.k (.int .i64 0))), no⟩]) (.cond (.t 10) (.seq 
 (.reg [⟨some 4, (.mv (.k (.int .i64 (-1)))), no⟩]) .ret) .skip)) (.seq 
 (.reg [⟨some 11, (.mv (.t 1)), no⟩, ⟨some 4, (.mv (.t 11)), no⟩]) .ret))))⟩
theorem a120_ok : compFn Tryz.prog Tryz.f120 = some a120 := by kernel_rfl

def a123 : AFn :=
⟨22, [(.t 2)], (.seq 
 (.reg [⟨some 2, (.mv (.k (.nil 1))), no⟩]) (.seq 
 (.reg [⟨some 5, (.mv (.t 0)), no⟩, ⟨some 6, (.len false (.t 5)), no⟩, ⟨some 7, (.mks 8 [(.int .i64 0)] (.t 6) (.t 6)), no⟩, ⟨some 3, (.mv (.t 7)), no⟩]) (.seq (.seq 
 (.reg [⟨some 4, (.mv (.k (.int .i64 0))), no⟩]) (.blk 0 (.loop (.seq (.seq 
 (.reg [⟨some 8, (.mv (.t 4)), no⟩, ⟨some 9, (.mv (.t 0)), no⟩, ⟨some 10, (.len false (.t 9)), no⟩, ⟨some 11, (.bin .lss (.t 8) (.t 10)), no⟩]) (.cond (.t 11) .skip (.exit 0))) (.seq (.blk 1 
 (.reg [⟨some 14, (.mv (.t 3)), no⟩, ⟨some 15, (.mv (.t 4)), no⟩, ⟨some 16, (.mv (.t 0)), no⟩, ⟨some 17, (.mv (.t 4)), no⟩, ⟨some 18, (.ixa 1 (.t 16) (.t 17)), no⟩, ⟨some 19, (.ld false 1 (.t 18)), no⟩, ⟨some 20, (.ixa 1 (.t 14) (.t 15)), no⟩, ⟨no, (.st 1 (.t 20) (.t 19)), no⟩])) 
 (.reg [⟨some 12, (.mv (.t 4)), no⟩, ⟨some 13, (.bin .add (.t 12) (.k (.int .i64 1))), no⟩, ⟨some 4, (.mv (.t 13)), no⟩])))))) (.seq 
 (.reg [⟨some 21, (.mv (.t 3)), no⟩, ⟨some 2, (.mv (.t 21)), no⟩]) .ret))))⟩
theorem a123_ok : compFn Tryz.prog Tryz.f123 = some a123 := by kernel_rfl

def a126 : AFn :=
⟨26, [(.t 4)], (.seq 
 (.reg [⟨some 4, (.mv (.k (.bool false))), no⟩]) (.seq (.seq 
 (.reg [⟨some 6, (.mv (.t 0)), no⟩, ⟨some 7, (.len false (.t 6)), no⟩, ⟨some 8, (.mv (.t 1)), no⟩, ⟨some 9, (.len false (.t 8)), no⟩, ⟨some 10, (.bin .neq (.t 7) (.t 9)), no⟩]) (.cond (.t 10) (.seq 
 (.reg [⟨some 4, (.mv (.k (.bool false))), no⟩]) .ret) .skip)) (.seq (.seq 
 (.reg [⟨some 5, (.mv (.k (.int .i64 0))), no⟩]) (.blk 0 (.loop (.seq (.seq 
 (.reg [⟨some 11, (.mv (.t 5)), no⟩, ⟨some 12, (.mv (.t 0)), no⟩, ⟨some 13, (.len false (.t 12)), no⟩, ⟨some 14, (.bin .lss (.t 11) (.t 13)), no⟩]) (.cond (.t 14) .skip (.exit 0))) (.seq (.blk 1 (.seq (.draw (.op ⟨some 17, (.mv (.t 0)), no⟩ (.op ⟨some 18, (.mv (.t 5)), no⟩ (.op ⟨some 19, (.ixa 1 (.t 17) (.t 18)), no⟩ (.op ⟨some 20, (.ld false 1 (.t 19)), no⟩ (.op ⟨some 21, (.mv (.t 1)), no⟩ (.op ⟨some 22, (.mv (.t 5)), no⟩ (.op ⟨some 23, (.ixa 1 (.t 21) (.t 22)), no⟩ (.op ⟨some 24, (.ld false 1 (.t 23)), no⟩ (.op ⟨some 25, (.bin .neq (.t 20) (.t 24)), no⟩ .fin)))))))))) (.cond (.t 25) (.seq 
 (.reg [⟨some 4, (.mv (.k (.bool false))), no⟩]) .ret) .skip))) 
 (.reg [⟨some 15, (.mv (.t 5)), no⟩, ⟨some 16, (.bin .add (.t 15) (.k (.int .i64 1))), no⟩, ⟨some 5, (.mv (.t 16)), no⟩])))))) (.seq 
 (.reg [⟨some 4, (.mv (.k (.bool true))), no⟩]) .ret))))⟩
theorem a126_ok : compFn Tryz.prog Tryz.f126 = some a126 := by kernel_rfl

def a39 : AFn :=
⟨28, [(.t 4)], (.seq 
 (.reg [⟨some 4, (.mv (.k (.int .i64 0))), no⟩]) (.seq 
 (.reg [⟨some 6, (.mv (.t 1)), no⟩, ⟨some 7, (.mv (.t 0)), no⟩, ⟨some 8, (.len false (.t 7)), no⟩, ⟨some 9, (.bin .sub (.t 6) (.t 8)), no⟩, ⟨some 1, (.mv (.t 9)), no⟩]) (.seq (.seq 
 (.reg [⟨some 10, (.mv (.t 1)), no⟩, ⟨some 11, (.bin .lss (.t 10) (.k (.int .i64 0))), no⟩]) (.cond (.t 11) (.seq 
 (.reg [⟨some 4, (.mv (.k (.int .i64 (-1)))), no⟩]) .ret) .skip)) (.seq (.seq 
 (.reg [⟨some 5, (.mv (.k (.int .i64 0))), no⟩]) (.blk 0 (.loop (.seq (.seq 
 (.reg [⟨some 12, (.mv (.t 5)), no⟩, ⟨some 13, (.mv (.t 0)), no⟩, ⟨some 14, (.len false (.t 13)), no⟩, ⟨some 15, (.bin .lss (.t 12) (.t 14)), no⟩]) (.cond (.t 15) .skip (.exit 0))) (.seq (.blk 1 (.seq 
 (.reg [⟨some 18, (.mv (.t 1)), no⟩, ⟨some 19, (.mv (.t 0)), no⟩, ⟨some 20, (.mv (.t 5)), no⟩, ⟨some 21, (.ixa 1 (.t 19) (.t 20)), no⟩, ⟨some 22, (.ld false 1 (.t 21)), no⟩, ⟨some 23, (.len true (.t 22)), no⟩, ⟨some 24, (.bin .sub (.t 18) (.t 23)), no⟩, ⟨some 1, (.mv (.t 24)), no⟩]) (.seq 
 (.reg [⟨some 25, (.mv (.t 1)), no⟩, ⟨some 26, (.bin .lss (.t 25) (.k (.int .i64 0))), no⟩]) (.cond (.t 26) (.seq 
 (.reg [⟨some 4, (.mv (.k (.int .i64 (-1)))), no⟩]) .ret) .skip)))) 
 (.reg [⟨some 16, (.mv (.t 5)), no⟩, ⟨some 17, (.bin .add (.t 16) (.k (.int .i64 1))), no⟩, ⟨some 5, (.mv (.t 17)), no⟩])))))) (.seq 
 (.reg [⟨some 27, (.mv (.t 1)), no⟩, ⟨some 4, (.mv (.t 27)), no⟩]) .ret)))))⟩
theorem a39_ok : compFn Tryz.prog Tryz.f39 = some a39 := by kernel_rfl

def a41 : AFn :=
⟨22, [(.t 2)], (.seq 
 (.reg [⟨some 2, (.mv (.k (.nil 1))), no⟩]) (.seq 
 (.reg [⟨some 5, (.mv (.t 0)), no⟩, ⟨some 6, (.len false (.t 5)), no⟩, ⟨some 7, (.mks 16 [(.str [])] (.t 6) (.t 6)), no⟩, ⟨some 3, (.mv (.t 7)), no⟩]) (.seq (.seq 
 (.reg [⟨some 4, (.mv (.k (.int .i64 0))), no⟩]) (.blk 0 (.loop (.seq (.seq 
 (.reg [⟨some 8, (.mv (.t 4)), no⟩, ⟨some 9, (.mv (.t 0)), no⟩, ⟨some 10, (.len false (.t 9)), no⟩, ⟨some 11, (.bin .lss (.t 8) (.t 10)), no⟩]) (.cond (.t 11) .skip (.exit 0))) (.seq (.blk 1 
 (.reg [⟨some 14, (.mv (.t 3)), no⟩, ⟨some 15, (.mv (.t 4)), no⟩, ⟨some 16, (.mv (.t 0)), no⟩, ⟨some 17, (.mv (.t 4)), no⟩, ⟨some 18, (.ixa 1 (.t 16) (.t 17)), no⟩, ⟨some 19, (.ld false 1 (.t 18)), no⟩, ⟨some 20, (.ixa 1 (.t 14) (.t 15)), no⟩, ⟨no, (.st 1 (.t 20) (.t 19)), no⟩])) 
 (.reg [⟨some 12, (.mv (.t 4)), no⟩, ⟨some 13, (.bin .add (.t 12) (.k (.int .i64 1))), no⟩, ⟨some 4, (.mv (.t 13)), no⟩])))))) (.seq 
 (.reg [⟨some 21, (.mv (.t 3)), no⟩, ⟨some 2, (.mv (.t 21)), no⟩]) .ret))))⟩
theorem a41_ok : compFn Tryz.prog Tryz.f41 = some a41 := by kernel_rfl

def a36 : AFn :=
⟨26, [(.t 4)], (.seq 
 (.reg [⟨some 4, (.mv (.k (.bool false))), no⟩]) (.seq (.seq 
 (.reg [⟨some 6, (.mv (.t 0)), no⟩, ⟨some 7, (.len false (.t 6)), no⟩, ⟨some 8, (.mv (.t 1)), no⟩, ⟨some 9, (.len false (.t 8)), no⟩, ⟨some 10, (.bin .neq (.t 7) (.t 9)), no⟩]) (.cond (.t 10) (.seq 
 (.reg [⟨some 4, (.mv (.k (.bool false))), no⟩]) .ret) .skip)) (.seq (.seq 
 (.reg [⟨some 5, (.mv (.k (.int .i64 0))), no⟩]) (.blk 0 (.loop (.seq (.seq 
 (.reg [⟨some 11, (.mv (.t 5)), no⟩, ⟨some 12, (.mv (.t 0)), no⟩, ⟨some 13, (.len false (.t 12)), no⟩, ⟨some 14, (.bin .lss (.t 11) (.t 13)), no⟩]) (.cond (.t 14) .skip (.exit 0))) (.seq (.blk 1 (.seq (.draw (.op ⟨some 17, (.mv (.t 0)), no⟩ (.op ⟨some 18, (.mv (.t 5)), no⟩ (.op ⟨some 19, (.ixa 1 (.t 17) (.t 18)), no⟩ (.op ⟨some 20, (.ld false 1 (.t 19)), no⟩ (.op ⟨some 21, (.mv (.t 1)), no⟩ (.op ⟨some 22, (.mv (.t 5)), no⟩ (.op ⟨some 23, (.ixa 1 (.t 21) (.t 22)), no⟩ (.op ⟨some 24, (.ld false 1 (.t 23)), no⟩ (.op ⟨some 25, (.bin .neq (.t 20) (.t 24)), no⟩ .fin)))))))))) (.cond (.t 25) (.seq 
 (.reg [⟨some 4, (.mv (.k (.bool false))), no⟩]) .ret) .skip))) 
 (.reg [⟨some 15, (.mv (.t 5)), no⟩, ⟨some 16, (.bin .add (.t 15) (.k (.int .i64 1))), no⟩, ⟨some 5, (.mv (.t 16)), no⟩])))))) (.seq 
 (.reg [⟨some 4, (.mv (.k (.bool true))), no⟩]) .ret))))⟩
theorem a36_ok : compFn Tryz.prog Tryz.f36 = some a36 := by kernel_rfl

def a53 : AFn :=
⟨12, [(.t 4)], (.seq 
 (.reg [⟨some 2, (.boxv (.t 0)), no⟩, ⟨some 4, (.mv (.k (.int .i64 0))), no⟩]) (.seq 
 (.reg [⟨some 5, (.fld 1 (.t 2)), no⟩, ⟨some 6, (.ld false 1 (.t 5)), no⟩, ⟨some 7, (.mv (.t 1)), no⟩, ⟨some 8, (.call (.k (.fn (.func 120) [] [])) [(.t 6), (.t 7)]), no⟩, ⟨some 1, (.mv (.t 8)), no⟩]) (.seq (.seq 
 (.reg [⟨some 9, (.mv (.t 1)), no⟩, ⟨some 10, (.bin .lss (.t 9) (.k (.int .i64 0))), no⟩]) (.cond (.t 10) (.seq 
 (.reg [⟨some 4, (.mv (.k (.int .i64 (-1)))), no⟩]) .ret) .skip)) (.seq 
 (.reg [⟨some 11, (.mv (.t 1)), no⟩, ⟨some 4, (.mv (.t 11)), no⟩]) .ret))))⟩
theorem a53_ok : compFn Tryz.prog Tryz.f53 = some a53 := by kernel_rfl

def a55 : AFn :=
⟨12, [(.c 2 true 2)], (.seq 
 (.reg [⟨some 1, (.boxv (.t 0)), no⟩, ⟨some 2, (.box [(.int .i64 0), (.nil 1)]), no⟩]) (.seq 
 (.reg [⟨some 3, (.box [(.int .i64 0), (.nil 1)]), no⟩]) (.seq 
 (.reg [⟨some 4, (.fld 0 (.t 1)), no⟩, ⟨some 5, (.ld false 1 (.t 4)), no⟩, ⟨some 6, (.fld 0 (.t 3)), no⟩, ⟨no, (.st 1 (.t 6) (.t 5)), no⟩]) (.seq 
 (.reg [⟨some 7, (.fld 1 (.t 1)), no⟩, ⟨some 8, (.ld false 1 (.t 7)), no⟩, ⟨some 9, (.call (.k (.fn (.func 123) [] [])) [(.t 8)]), no⟩, ⟨some 10, (.fld 1 (.t 3)), no⟩, ⟨no, (.st 1 (.t 10) (.t 9)), no⟩]) (.seq 
 (.reg [⟨some 11, (.ld true 2 (.t 3)), no⟩, ⟨no, (.st 2 (.t 2) (.t 11)), no⟩]) .ret)))))⟩
theorem a55_ok : compFn Tryz.prog Tryz.f55 = some a55 := by kernel_rfl

def a57 : AFn :=
⟨16, [(.t 4)], (.seq 
 (.reg [⟨some 2, (.boxv (.t 0)), no⟩, ⟨some 3, (.boxv (.t 1)), no⟩, ⟨some 4, (.mv (.k (.bool false))), no⟩]) (.seq (.seq 
 (.reg [⟨some 5, (.fld 0 (.t 2)), no⟩, ⟨some 6, (.ld false 1 (.t 5)), no⟩, ⟨some 7, (.fld 0 (.t 3)), no⟩, ⟨some 8, (.ld false 1 (.t 7)), no⟩, ⟨some 9, (.bin .neq (.t 6) (.t 8)), no⟩]) (.cond (.t 9) (.seq 
 (.reg [⟨some 4, (.mv (.k (.bool false))), no⟩]) .ret) .skip)) (.seq (.seq 
 (.reg [⟨some 10, (.fld 1 (.t 2)), no⟩, ⟨some 11, (.ld false 1 (.t 10)), no⟩, ⟨some 12, (.fld 1 (.t 3)), no⟩, ⟨some 13, (.ld false 1 (.t 12)), no⟩, ⟨some 14, (.call (.k (.fn (.func 126) [] [])) [(.t 11), (.t 13)]), no⟩, ⟨some 15, (.un .not (.t 14)), no⟩]) (.cond (.t 15) (.seq 
 (.reg [⟨some 4, (.mv (.k (.bool false))), no⟩]) .ret) .skip)) (.seq 
 (.reg [⟨some 4, (.mv (.k (.bool true))), no⟩]) .ret))))⟩
theorem a57_ok : compFn Tryz.prog Tryz.f57 = some a57 := by kernel_rfl

def a45 : AFn :=
⟨16, [(.t 4)], (.seq 
 (.reg [⟨some 2, (.boxv (.t 0)), no⟩, ⟨some 3, (.boxv (.t 1)), no⟩, ⟨some 4, (.mv (.k (.bool false))), no⟩]) (.seq (.seq 
 (.reg [⟨some 5, (.fld 0 (.t 2)), no⟩, ⟨some 6, (.ld false 1 (.t 5)), no⟩, ⟨some 7, (.fld 0 (.t 3)), no⟩, ⟨some 8, (.ld false 1 (.t 7)), no⟩, ⟨some 9, (.bin .neq (.t 6) (.t 8)), no⟩]) (.cond (.t 9) (.seq 
 (.reg [⟨some 4, (.mv (.k (.bool false))), no⟩]) .ret) .skip)) (.seq (.seq 
 (.reg [⟨some 10, (.fld 1 (.t 2)), no⟩, ⟨some 11, (.ld false 1 (.t 10)), no⟩, ⟨some 12, (.fld 1 (.t 3)), no⟩, ⟨some 13, (.ld false 1 (.t 12)), no⟩, ⟨some 14, (.call (.k (.fn (.func 114) [] [])) [(.t 11), (.t 13)]), no⟩, ⟨some 15, (.un .not (.t 14)), no⟩]) (.cond (.t 15) (.seq 
 (.reg [⟨some 4, (.mv (.k (.bool false))), no⟩]) .ret) .skip)) (.seq 
 (.reg [⟨some 4, (.mv (.k (.bool true))), no⟩]) .ret))))⟩
theorem a45_ok : compFn Tryz.prog Tryz.f45 = some a45 := by kernel_rfl

def a62 : AFn :=
⟨29, [(.t 4)], (.seq 
 (.reg [⟨some 2, (.boxv (.t 0)), no⟩, ⟨some 3, (.boxv (.t 1)), no⟩, ⟨some 4, (.mv (.k (.bool false))), no⟩]) (.seq (.seq 
 (.reg [⟨some 5, (.fld 0 (.t 2)), no⟩, ⟨some 6, (.ld true 2 (.t 5)), no⟩, ⟨some 7, (.fld 0 (.t 3)), no⟩, ⟨some 8, (.ld true 2 (.t 7)), no⟩, ⟨some 9, (.call (.k (.fn (.func 45) [] [])) [(.t 6), (.t 8)]), no⟩, ⟨some 10, (.un .not (.t 9)), no⟩]) (.cond (.t 10) (.seq 
 (.reg [⟨some 4, (.mv (.k (.bool false))), no⟩]) .ret) .skip)) (.seq (.seq 
 (.reg [⟨some 11, (.fld 2 (.t 2)), no⟩, ⟨some 12, (.ld false 1 (.t 11)), no⟩, ⟨some 13, (.fld 2 (.t 3)), no⟩, ⟨some 14, (.ld false 1 (.t 13)), no⟩, ⟨some 15, (.call (.k (.fn (.func 114) [] [])) [(.t 12), (.t 14)]), no⟩, ⟨some 16, (.un .not (.t 15)), no⟩]) (.cond (.t 16) (.seq 
 (.reg [⟨some 4, (.mv (.k (.bool false))), no⟩]) .ret) .skip)) (.seq (.seq 
 (.reg [⟨some 17, (.fld 3 (.t 2)), no⟩, ⟨some 18, (.ld false 1 (.t 17)), no⟩, ⟨some 19, (.fld 3 (.t 3)), no⟩, ⟨some 20, (.ld false 1 (.t 19)), no⟩, ⟨some 21, (.call (.k (.fn (.func 141) [] [])) [(.t 18), (.t 20)]), no⟩, ⟨some 22, (.un .not (.t 21)), no⟩]) (.cond (.t 22) (.seq 
 (.reg [⟨some 4, (.mv (.k (.bool false))), no⟩]) .ret) .skip)) (.seq (.seq 
 (.reg [⟨some 23, (.fld 4 (.t 2)), no⟩, ⟨some 24, (.ld true 2 (.t 23)), no⟩, ⟨some 25, (.fld 4 (.t 3)), no⟩, ⟨some 26, (.ld true 2 (.t 25)), no⟩, ⟨some 27, (.call (.k (.fn (.func 57) [] [])) [(.t 24), (.t 26)]), no⟩, ⟨some 28, (.un .not (.t 27)), no⟩]) (.cond (.t 28) (.seq 
 (.reg [⟨some 4, (.mv (.k (.bool false))), no⟩]) .ret) .skip)) (.seq 
 (.reg [⟨some 4, (.mv (.k (.bool true))), no⟩]) .ret))))))⟩
theorem a62_ok : compFn Tryz.prog Tryz.f62 = some a62 := by kernel_rfl

def a150 : AFn :=
⟨17, [(.t 4)], (.seq 
 (.reg [⟨some 2, (.boxv (.t 0)), no⟩, ⟨some 3, (.boxv (.t 1)), no⟩, ⟨some 4, (.mv (.k (.bool false))), no⟩]) (.seq (.seq 
 (.reg [⟨some 5, (.fld 0 (.t 2)), no⟩, ⟨some 6, (.ld true 2 (.t 5)), no⟩, ⟨some 7, (.fld 0 (.t 3)), no⟩, ⟨some 8, (.ld true 2 (.t 7)), no⟩, ⟨some 9, (.call (.k (.fn (.func 45) [] [])) [(.t 6), (.t 8)]), no⟩, ⟨some 10, (.un .not (.t 9)), no⟩]) (.cond (.t 10) (.seq 
 (.reg [⟨some 4, (.mv (.k (.bool false))), no⟩]) .ret) .skip)) (.seq (.seq 
 (.reg [⟨some 11, (.fld 2 (.t 2)), no⟩, ⟨some 12, (.ld true 2 (.t 11)), no⟩, ⟨some 13, (.fld 2 (.t 3)), no⟩, ⟨some 14, (.ld true 2 (.t 13)), no⟩, ⟨some 15, (.call (.k (.fn (.func 57) [] [])) [(.t 12), (.t 14)]), no⟩, ⟨some 16, (.un .not (.t 15)), no⟩]) (.cond (.t 16) (.seq 
 (.reg [⟨some 4, (.mv (.k (.bool false))), no⟩]) .ret) .skip)) (.seq 
 (.reg [⟨some 4, (.mv (.k (.bool true))), no⟩]) .ret))))⟩
theorem a150_ok : compFn Tryz.prog Tryz.f150 = some a150 := by kernel_rfl



theorem k_szIntS (l : List Int) (left : Int) (h0 : 0 ≤ left ∧ left ≤ 4611686018427387904) : Holds Tryz.prog 120 [.sl 1 (intsR l), i64 left] (fun r => r = i64 (sub1 left (wIntS l))) := by
  refine holds_of_run Tryz.func120 a120_ok rfl (by simp [a120]) ?_
  simp [a120]
  unfold LIM
  intro h1
  rw [wrap64 (by omega)]
  unfold sub1 wIntS
  exact ⟨fun h => by rw [if_pos h], fun h => by rw [if_neg (by omega)]⟩

theorem k_toIntS (a : List Int) (hw : wIntS a ≤ 1048576) : Holds Tryz.prog 123 [.sl 1 (intsR a)] (fun r => r = .us 1 (intsR a)) := by
  unfold wIntS at hw
  refine holds_of_run Tryz.func123 a123_ok rfl (by simp [a123]) ?_
  simp [a123]
  intro h1
  refine ⟨by unfold LIM; omega, rL_of (fun k s h n => ∃ (i : Nat) (rows : List (List AV)), k = a.length - i ∧ i ≤ a.length ∧ s 0 = ints a ∧ s 3 = .ref 0 0 a.length ∧ s 4 = i64 i ∧ h = upd noHeap 0 (some ⟨false, 1, rows⟩) ∧ n = 1 ∧
    rows.length = a.length ∧ (∀ j, j < i → rows[j]? = (intsR a)[j]?) ∧ (∀ j (hj : j < rows.length), rows[j].length = 1)) a.length ⟨0, List.replicate a.length [i64 0], by simp⟩ ?_⟩
  rintro k s h n ⟨i, rows, rfl, hi, s0, s3, s4, rfl, rfl, hr, hj, hc⟩
  by_cases hlt : i < a.length
  · have hm := hc i (by omega)
    have htl : rows[i].tail = [] := List.eq_nil_of_length_eq_zero (by simp [hm])
    simp [s0, s3, s4, hlt, hr, hm]
    intro _
    refine ⟨a.length - (i + 1), by omega, i + 1, rfl, by omega, by rw [wrap64 (by omega)]; rfl, rows.set i [i64 a[i]], by simp [htl], by simp [hr], fun j hj' => ?_, fun j hj' => ?_⟩
    · rw [List.getElem?_set]
      by_cases hji : i = j
      · subst hji; simp [hr, hlt]
      · rw [if_neg hji]; simpa using hj j (by omega)
    · rw [List.getElem_set]
      split
      · rfl
      · exact hc j (by simpa using hj')
  · simp [s0, s3, s4, hlt, hr]
    intro _
    have : rows = intsR a := List.ext_getElem? fun j => by
      by_cases hji : j < i
      · exact hj j hji
      · rw [List.getElem?_eq_none (by omega), List.getElem?_eq_none (by simp; omega)]
    subst this
    simp [List.take_of_length_le]

theorem k_eqIntS (a b : List Int) : Holds Tryz.prog 126 [.sl 1 (intsR a), .sl 1 (intsR b)] (fun r => r = .bool (decide (a = b))) := by
  refine holds_of_run Tryz.func126 a126_ok rfl (by simp [a126]) ?_
  simp [a126]
  intro h1 h2
  refine ⟨fun h e => h (by rw [e]), fun hl => rL_of (fun k s h n => ∃ i : Nat, k = a.length - i ∧ i ≤ a.length ∧ s 0 = ints a ∧ s 1 = ints b ∧ s 5 = i64 i ∧ (∀ j, j < i → a[j]? = b[j]?) ∧ h = noHeap ∧ n = 0) a.length ⟨0, by simp⟩ ?_⟩
  rintro k s h n ⟨i, rfl, hi, s0, s1, s5, hj, rfl, rfl⟩
  have hl : a.length = b.length := by omega
  by_cases hlt : i < a.length
  · have hlt' : i < b.length := by omega
    unfold LIM at h1
    simp [s0, s1, s5, hlt, hlt']
    intro _
    refine ⟨fun h e => h (by subst e; rfl), fun e => ⟨a.length - (i + 1), by omega, i + 1, rfl, by omega, by rw [wrap64 (by omega)]; rfl, fun j hj' => ?_⟩⟩
    by_cases hji : j = i
    · subst hji; simp [hlt, hlt', e]
    · exact hj j (by omega)
  · simp [s0, s1, s5, hlt]
    intro _
    refine List.ext_getElem? fun j => ?_
    by_cases hji : j < i
    · exact hj j hji
    · rw [List.getElem?_eq_none (by omega), List.getElem?_eq_none (by omega)]

theorem k_szStringS (l : List Str) (left : Int) (h0 : 0 ≤ left ∧ left ≤ 4611686018427387904) : Holds Tryz.prog 39 [.sl 1 (strsR l), i64 left] (fun r => r = i64 (sub1 left (wStringS l))) := by
  rw [show wStringS l = wL List.length l from rfl, ← szL_sub1 (w := List.length) (g := fun x lf => sub1 lf x.length) (fun _ _ _ => rfl) l left h0.1]
  refine holds_of_run Tryz.func39 a39_ok rfl (by simp [a39]) ?_
  simp [a39]
  intro h1
  unfold LIM at h1
  unfold szL
  rw [wrap64 (by omega)]
  refine ⟨fun h => by rw [if_pos (by omega)], fun h => rL_of (fun k s h n => ∃ (i : Nat) (lf : Int), k = l.length - i ∧ i ≤ l.length ∧ s 0 = strs l ∧ s 1 = i64 lf ∧ s 5 = i64 i ∧ 0 ≤ lf ∧ lf ≤ left ∧ szLoop (fun (x : Str) lf => sub1 lf x.length) (l.drop i) lf = szLoop (fun (x : Str) lf => sub1 lf x.length) l (left - l.length) ∧ h = noHeap ∧ n = 0) l.length ⟨0, left - l.length, by simp; omega⟩ ?_⟩
  rintro k s h n ⟨i, lf, rfl, hi, s0, s1, s5, hf, hlf, hj, rfl, rfl⟩
  rw [if_neg (by omega), ← hj]
  by_cases hlt : i < l.length
  · rw [List.drop_eq_getElem_cons hlt] at hj ⊢
    simp only [szLoop] at hj ⊢
    simp [s0, s1, s5, hlt]
    intro _ h2
    unfold LIM at h2
    rw [wrap64 (by omega)]
    by_cases hx : lf - (l[i].length : Int) < 0
    · rw [sub1_neg hx]
      simp; exact fun h => by omega
    · rw [sub1_pos hx] at hj ⊢
      rw [if_neg hx] at hj ⊢
      refine ⟨fun h => by omega, fun _ => ⟨l.length - (i + 1), by omega, i + 1, rfl, by omega, by rw [wrap64 (by omega)]; rfl, by omega, by omega, rfl⟩⟩
  · rw [List.drop_eq_nil_of_le (by omega)] at hj ⊢
    simp [s0, s1, s5, hlt, szLoop]

theorem k_toStringS (a : List Str) (hw : wStringS a ≤ 1048576) : Holds Tryz.prog 41 [.sl 1 (strsR a)] (fun r => r = .us 1 (strsR a)) := by
  have hw := Nat.le_trans (wL_len _ _) hw
  refine holds_of_run Tryz.func41 a41_ok rfl (by simp [a41]) ?_
  simp [a41]
  intro h1
  refine ⟨by unfold LIM; omega, rL_of (fun k s h n => ∃ (i : Nat) (rows : List (List AV)), k = a.length - i ∧ i ≤ a.length ∧ s 0 = strs a ∧ s 3 = .ref 0 0 a.length ∧ s 4 = i64 i ∧ h = upd noHeap 0 (some ⟨false, 1, rows⟩) ∧ n = 1 ∧
    rows.length = a.length ∧ (∀ j, j < i → rows[j]? = (strsR a)[j]?) ∧ (∀ j (hj : j < rows.length), rows[j].length = 1)) a.length ⟨0, List.replicate a.length [.str []], by simp⟩ ?_⟩
  rintro k s h n ⟨i, rows, rfl, hi, s0, s3, s4, rfl, rfl, hr, hj, hc⟩
  by_cases hlt : i < a.length
  · have hm := hc i (by omega)
    have htl : rows[i].tail = [] := List.eq_nil_of_length_eq_zero (by simp [hm])
    simp [s0, s3, s4, hlt, hr, hm]
    intro _
    refine ⟨a.length - (i + 1), by omega, i + 1, rfl, by omega, by rw [wrap64 (by omega)]; rfl, rows.set i [.str a[i]], by simp [htl], by simp [hr], fun j hj' => ?_, fun j hj' => ?_⟩
    · rw [List.getElem?_set]
      by_cases hji : i = j
      · subst hji; simp [hr, hlt]
      · rw [if_neg hji]; simpa using hj j (by omega)
    · rw [List.getElem_set]
      split
      · rfl
      · exact hc j (by simpa using hj')
  · simp [s0, s3, s4, hlt, hr]
    intro _
    have : rows = strsR a := List.ext_getElem? fun j => by
      by_cases hji : j < i
      · exact hj j hji
      · rw [List.getElem?_eq_none (by omega), List.getElem?_eq_none (by simp; omega)]
    subst this
    simp [List.take_of_length_le]

theorem k_eqStringS (a b : List Str) : Holds Tryz.prog 36 [.sl 1 (strsR a), .sl 1 (strsR b)] (fun r => r = .bool (decide (a = b))) := by
  refine holds_of_run Tryz.func36 a36_ok rfl (by simp [a36]) ?_
  simp [a36]
  intro h1 h2
  refine ⟨fun h e => h (by rw [e]), fun hl => rL_of (fun k s h n => ∃ i : Nat, k = a.length - i ∧ i ≤ a.length ∧ s 0 = strs a ∧ s 1 = strs b ∧ s 5 = i64 i ∧ (∀ j, j < i → a[j]? = b[j]?) ∧ h = noHeap ∧ n = 0) a.length ⟨0, by simp⟩ ?_⟩
  rintro k s h n ⟨i, rfl, hi, s0, s1, s5, hj, rfl, rfl⟩
  have hl : a.length = b.length := by omega
  by_cases hlt : i < a.length
  · have hlt' : i < b.length := by omega
    unfold LIM at h1
    simp [s0, s1, s5, hlt, hlt']
    intro _
    refine ⟨fun h e => h (by subst e; rfl), fun e => ⟨a.length - (i + 1), by omega, i + 1, rfl, by omega, by rw [wrap64 (by omega)]; rfl, fun j hj' => ?_⟩⟩
    by_cases hji : j = i
    · subst hji; simp [hlt, hlt', e]
    · exact hj j (by omega)
  · simp [s0, s1, s5, hlt]
    intro _
    refine List.ext_getElem? fun j => ?_
    by_cases hji : j < i
    · exact hj j hji
    · rw [List.getElem?_eq_none (by omega), List.getElem?_eq_none (by omega)]

theorem k_szLin (x : DLin) (left : Int) (h0 : 0 ≤ left ∧ left ≤ 4611686018427387904) : Holds Tryz.prog 53 [.agg (rALin x), i64 left] (fun r => r = i64 (sub1 left (wLin x))) := by
  refine holds_of_run Tryz.func53 a53_ok rfl (by simp [a53]) ?_
  simp [a53, rALin]
  have e0 : wLin x = wLin x := rfl
  conv at e0 => rhs; unfold wLin
  refine call_of (k_szIntS x.Coeffs left (by omega)) (by simp) ?_
  rintro r rfl
  by_cases h1 : left - (wIntS x.Coeffs : Nat) < 0
  case pos =>
    have q : left - (wLin x : Int) < 0 := by omega
    simp [sub1, h1, q]
    try first | omega | (constructor <;> intros <;> omega)
  simp [sub1, h1]
  try (rw [if_neg (by omega)]; omega)

theorem k_toLin (x : DLin) (_hw : wLin x ≤ 1048576) : Holds Tryz.prog 55 [.agg (rALin x)] (fun r => r = .agg (rULin x)) := by
  have hw := _hw; unfold wLin at hw
  refine holds_of_run Tryz.func55 a55_ok rfl (by simp [a55]) ?_
  simp [a55, rALin]
  refine call_of (k_toIntS x.Coeffs (by omega)) (by simp []) ?_
  rintro r rfl
  simp []
  try simp [rULin]

theorem k_eqLin (x y : DLin) : Holds Tryz.prog 57 [.agg (rALin x), .agg (rALin y)] (fun r => r = .bool (decide (x = y))) := by
  refine holds_of_run Tryz.func57 a57_ok rfl (by simp [a57]) ?_
  simp [a57, rALin]
  by_cases h0 : x.Const = y.Const
  case neg => simp [h0]; try exact fun e => h0 (by rw [e])
  simp [h0]
  refine call_of (k_eqIntS x.Coeffs y.Coeffs) (by simp []) ?_
  rintro r rfl
  by_cases h1 : x.Coeffs = y.Coeffs
  case neg => simp [h1]; try exact fun e => h1 (by rw [e])
  simp [h1]
  cases x; cases y; simp_all

theorem a152_ok : compFn Tryz.prog Tryz.f152 = some (tSz true 2 53) := by kernel_rfl

theorem k_szLinS (l : List DLin) (left : Int) (h0 : 0 ≤ left ∧ left ≤ 4611686018427387904) : Holds Tryz.prog 152 [.sl 2 (l.map rALin), i64 left] (fun r => r = i64 (sub1 left (wLinS l))) := by
  rw [show wLinS l = wL wLin l from rfl, ← szL_sub1 (w := wLin) (g := fun x lf => sub1 lf (wLin x)) (fun _ _ _ => rfl) l left h0.1]
  exact holds_tSz Tryz.func152 a152_ok rfl (rowOf := rALin) (eltOf := (fun x => .agg (rALin x))) (fun x => by simp [rALin]) (fun x h => by simp [rALin]) (fun x lf h => sub1_le h) l left h0 (fun x lf _ hl => k_szLin x lf hl)

theorem a156_ok : compFn Tryz.prog Tryz.f156 = some (tTo true 2 32 55 [.int .i64 0, .nil 1]) := by kernel_rfl

theorem k_toLinS (l : List DLin) (hw : wLinS l ≤ 1048576) : Holds Tryz.prog 156 [.sl 2 (l.map rALin)] (fun r => r = .us 2 (l.map rULin)) :=
  holds_tTo Tryz.func156 a156_ok rfl (rowOf := rALin) (eltOf := (fun x => .agg (rALin x))) (eltU := (fun x => .agg (rULin x))) (fun x => by simp [rALin]) (fun x h => by simp [rALin]) (fun x => by simp) (fun x => by simp [rULin]) (fun x => by simp [rULin]) rfl l (by have := wL_len wLin l; unfold wLinS at hw; unfold LIM; omega) (fun x h => k_toLin x (by have := wL_mem (w := wLin) h; unfold wLinS at hw; omega))

theorem a114_ok : compFn Tryz.prog Tryz.f114 = some (tEq true 2 57) := by kernel_rfl

theorem k_eqLinS (l m : List DLin) : Holds Tryz.prog 114 [.sl 2 (l.map rALin), .sl 2 (m.map rALin)] (fun r => r = .bool (decide (l = m))) := by
  rw [← eqL_dec]
  exact holds_tEq Tryz.func114 a114_ok rfl (rowOf := rALin) (eltOf := (fun x => .agg (rALin x))) (fun x => by simp [rALin]) (fun x h => by simp [rALin]) l m (fun x y _ _ => k_eqLin x y)

theorem a141_ok : compFn Tryz.prog Tryz.f141 = some (tEq false 1 114) := by kernel_rfl

theorem k_eqLinSS (l m : List (List DLin)) : Holds Tryz.prog 141 [.sl 1 (l.map rALinS), .sl 1 (m.map rALinS)] (fun r => r = .bool (decide (l = m))) := by
  rw [← eqL_dec]
  exact holds_tEq Tryz.func141 a141_ok rfl (rowOf := rALinS) (eltOf := (fun x => .sl 2 (x.map rALin))) (fun x => by simp [rALinS]) (fun x h => by simp [rALinS]) l m (fun x y _ _ => k_eqLinS x y)

theorem k_eqSystem (x y : DSystem) : Holds Tryz.prog 45 [.agg (rASystem x), .agg (rASystem y)] (fun r => r = .bool (decide (x = y))) := by
  refine holds_of_run Tryz.func45 a45_ok rfl (by simp [a45]) ?_
  simp [a45, rASystem]
  by_cases h0 : x.N = y.N
  case neg => simp [h0]; try exact fun e => h0 (by rw [e])
  simp [h0]
  refine call_of (k_eqLinS x.Rows y.Rows) (by simp []) ?_
  rintro r rfl
  by_cases h1 : x.Rows = y.Rows
  case neg => simp [h1]; try exact fun e => h1 (by rw [e])
  simp [h1]
  cases x; cases y; simp_all

theorem k_eqModel (x y : DModel) : Holds Tryz.prog 62 [.agg (rAModel x), .agg (rAModel y)] (fun r => r = .bool (decide (x = y))) := by
  refine holds_of_run Tryz.func62 a62_ok rfl (by simp [a62]) ?_
  simp [a62, rAModel]
  refine call_of (k_eqSystem x.System y.System) (by simp [rASystem]) ?_
  rintro r rfl
  by_cases h0 : x.System = y.System
  case neg => simp [h0]; try exact fun e => h0 (by rw [e])
  simp [h0]
  refine call_of (k_eqLinS x.Params y.Params) (by simp []) ?_
  rintro r rfl
  by_cases h1 : x.Params = y.Params
  case neg => simp [h1]; try exact fun e => h1 (by rw [e])
  simp [h1]
  refine call_of (k_eqLinSS x.Args y.Args) (by simp []) ?_
  rintro r rfl
  by_cases h2 : x.Args = y.Args
  case neg => simp [h2]; try exact fun e => h2 (by rw [e])
  simp [h2]
  refine call_of (k_eqLin x.Result y.Result) (by simp [rALin]) ?_
  rintro r rfl
  by_cases h3 : x.Result = y.Result
  case neg => simp [h3]; try exact fun e => h3 (by rw [e])
  simp [h3]
  cases x; cases y; simp_all

theorem k_eqObligation (x y : DObligation) : Holds Tryz.prog 150 [.agg (rAObligation x), .agg (rAObligation y)] (fun r => r = .bool (decide (x = y))) := by
  refine holds_of_run Tryz.func150 a150_ok rfl (by simp [a150]) ?_
  simp [a150, rAObligation]
  refine call_of (k_eqSystem x.System y.System) (by simp [rASystem]) ?_
  rintro r rfl
  by_cases h0 : x.System = y.System
  case neg => simp [h0]; try exact fun e => h0 (by rw [e])
  simp [h0]
  refine call_of (k_eqLin x.Target y.Target) (by simp [rALin]) ?_
  rintro r rfl
  by_cases h1 : x.Target = y.Target
  case neg => simp [h1]; try exact fun e => h1 (by rw [e])
  simp [h1]
  cases x; cases y; simp_all

theorem a67_ok : compFn Tryz.prog Tryz.f67 = some (tEq true 4 150) := by kernel_rfl

theorem k_eqObligationS (l m : List DObligation) : Holds Tryz.prog 67 [.sl 4 (l.map rAObligation), .sl 4 (m.map rAObligation)] (fun r => r = .bool (decide (l = m))) := by
  rw [← eqL_dec]
  exact holds_tEq Tryz.func67 a67_ok rfl (rowOf := rAObligation) (eltOf := (fun x => .agg (rAObligation x))) (fun x => by simp [rAObligation]) (fun x h => by simp [rAObligation]) l m (fun x y _ _ => k_eqObligation x y)

end Go.Proofs.YtlmajgghnenbpaaGreat

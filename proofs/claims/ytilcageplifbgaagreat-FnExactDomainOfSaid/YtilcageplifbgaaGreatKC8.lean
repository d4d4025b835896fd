/- Contracts: an expression at the values of its arguments. -/
import Derived.Test.YtilcageplifbgaaGreatKC3
import Derived.Test.YtilcageplifbgaaGreatKM1
namespace Go.Proofs.YtilcageplifbgaaGreat
set_option linter.all false
open Go Go.RowKit Go.Proofs
theorem a153_ok : compFn Tryz.prog Tryz.f153 = some (tContainsFunc 220) := by kernel_rfl
theorem a220_ok : compFn Tryz.prog Tryz.f220 = some (tIndexFunc true 2) := by kernel_rfl
def a182 : AFn :=
⟨57, [(.c 4 true 2), (.t 5)], (.seq
 (.reg [⟨some 2, (.boxv (.t 0)), no⟩, ⟨some 4, (.box [(.int .i64 0), (.nil 1)]), no⟩, ⟨some 5, (.mv (.k (.bool false))), no⟩]) (.seq
 (.reg [⟨some 6, (.box [(.int .i64 0)]), no⟩, ⟨no, (.st 1 (.t 6) (.k (.int .i64 0))), no⟩]) (.seq (.seq
 (.reg [⟨some 11, (.mv (.t 1)), no⟩, ⟨some 12, (.len false (.t 11)), no⟩, ⟨some 13, (.bin .gtr (.t 12) (.k (.int .i64 0))), no⟩]) (.cond (.t 13)
 (.reg [⟨some 14, (.mv (.t 1)), no⟩, ⟨some 15, (.ixa 2 (.t 14) (.k (.int .i64 0))), no⟩, ⟨some 16, (.fld 1 (.t 15)), no⟩, ⟨some 17, (.ld false 1 (.t 16)), no⟩, ⟨some 18, (.len false (.t 17)), no⟩, ⟨no, (.st 1 (.t 6) (.t 18)), no⟩]) .skip)) (.seq (.seq
 (.reg [⟨some 19, (.ld true 2 (.t 2)), no⟩, ⟨some 20, (.mv (.t 1)), no⟩, ⟨some 21, (.len false (.t 20)), no⟩, ⟨some 22, (.call (.k (.fn (.func 155) [] [])) [(.t 19), (.t 21)]), no⟩, ⟨some 23, (.un .not (.t 22)), no⟩, ⟨some 24, (.mv (.t 23)), no⟩, ⟨some 25, (.mv (.t 1)), (some (24, false))⟩, ⟨some 26, (.mkf (.func 249) [] [(.t 6)]), (some (24, false))⟩, ⟨some 27, (.call (.k (.fn (.func 153) [] [])) [(.t 25), (.t 26)]), (some (24, false))⟩, ⟨some 28, (.pick (.t 24) (.k (.bool true)) (.t 27)), no⟩]) (.cond (.t 28) (.seq
 (.reg [⟨some 29, (.build [(.int .i64 0), (.nil 1)] []), no⟩, ⟨no, (.st 2 (.t 4) (.t 29)), no⟩, ⟨some 5, (.mv (.k (.bool false))), no⟩]) .ret) .skip)) (.seq
 (.reg [⟨some 30, (.fld 0 (.t 2)), no⟩, ⟨some 31, (.ld false 1 (.t 30)), no⟩, ⟨some 32, (.ld false 1 (.t 6)), no⟩, ⟨some 33, (.call (.k (.fn (.func 103) [] [])) [(.t 31), (.t 32)]), no⟩, ⟨some 7, (.box [(.int .i64 0), (.nil 1)]), no⟩, ⟨no, (.st 2 (.t 7) (.t 33)), no⟩]) (.seq
 (.reg [⟨some 8, (.mv (.k (.bool true))), no⟩]) (.seq (.seq
 (.reg [⟨some 34, (.mv (.t 1)), no⟩, ⟨some 35, (.len false (.t 34)), no⟩, ⟨some 36, (.mv (.k (.int .i64 0))), no⟩]) (.blk 0 (.loop (.seq
 (.reg [⟨some 37, (.bin .lss (.t 36) (.t 35)), no⟩]) (.seq (.cond (.t 37) .skip (.exit 0)) (.seq (.blk 1 (.seq
 (.reg [⟨some 38, (.mv (.t 36)), no⟩, ⟨some 39, (.ixa 2 (.t 34) (.t 36)), no⟩, ⟨some 40, (.ld true 2 (.t 39)), no⟩, ⟨some 10, (.box [(.int .i64 0), (.nil 1)]), no⟩, ⟨some 9, (.mv (.t 38)), no⟩, ⟨no, (.st 2 (.t 10) (.t 40)), no⟩]) (.seq (.draw (.op ⟨some 42, (.ld true 2 (.t 7)), no⟩ (.op ⟨some 43, (.fld 1 (.t 2)), no⟩ (.op ⟨some 44, (.ld false 1 (.t 43)), no⟩ (.op ⟨some 45, (.mv (.t 9)), no⟩ (.op ⟨some 46, (.ixa 1 (.t 44) (.t 45)), no⟩ (.op ⟨some 47, (.ld false 1 (.t 46)), no⟩ (.op ⟨some 48, (.ld true 2 (.t 10)), no⟩ (.op ⟨some 49, (.call (.k (.fn (.func 102) [] [])) [(.t 42), (.t 47), (.t 48)]), no⟩ (.op ⟨some 41, (.mv (.t 49)), no⟩ (.op ⟨some 50, (.ext (.t 41) 0), no⟩ (.op ⟨some 51, (.ext (.t 41) 1), no⟩ (.hop ⟨no, (.st 2 (.t 7) (.t 50)), no⟩ [] (.op ⟨some 8, (.mv (.t 51)), no⟩ .fin)))))))))))))) (.seq
 (.reg [⟨some 52, (.mv (.t 8)), no⟩, ⟨some 53, (.un .not (.t 52)), no⟩]) (.cond (.t 53) (.seq
 (.reg [⟨some 54, (.build [(.int .i64 0), (.nil 1)] []), no⟩, ⟨no, (.st 2 (.t 4) (.t 54)), no⟩, ⟨some 5, (.mv (.k (.bool false))), no⟩]) .ret) .skip)))))
 (.reg [⟨some 55, (.bin .add (.t 36) (.k (.int .i64 1))), no⟩, ⟨some 36, (.mv (.t 55)), no⟩]))))))) (.seq
 (.reg [⟨some 56, (.ld true 2 (.t 7)), no⟩, ⟨no, (.st 2 (.t 4) (.t 56)), no⟩, ⟨some 5, (.mv (.k (.bool true))), no⟩]) .ret))))))))⟩
theorem constLin_ok {c : Int} {n : Nat} (hc : okC c = true) (hn : (n : Int) ≤ 8) : constLin c n = ⟨c, List.replicate n 0⟩ ∧ okLin (constLin c n) n = true := by
  have h : constLin c n = ⟨c, List.replicate n 0⟩ := by
    unfold constLin
    rw [if_pos (by simp [inR, hc]; omega)]; simp
  refine ⟨h, ?_⟩
  rw [h]
  simp [okLin, inR, hc, hn]
  right; decide
end Go.Proofs.YtilcageplifbgaaGreat

/- Contracts of the marks: whole numbers, texts. -/
import Derived.Test.YtilcageplifbgaaGreatKM1
import Derived.Test.YtilcageplifbgaaGreatProg
namespace Go.Proofs.YtilcageplifbgaaGreat
set_option linter.all false
open Go Go.RowKit Go.Proofs
def a161 : AFn :=
⟨20, [(.t 2)], (.seq
 (.reg [⟨some 2, (.mv (.k (.str []))), no⟩]) (.seq (.seq
 (.reg [⟨some 4, (.mv (.t 0)), no⟩, ⟨some 5, (.bin .leq (.t 4) (.k (.int .i64 0))), no⟩]) (.cond (.t 5) (.seq
 (.reg [⟨some 2, (.mv (.k (.str [109, 48]))), no⟩]) .ret) .skip)) (.seq
 (.reg [⟨some 3, (.mv (.k (.str []))), no⟩]) (.seq (.blk 0 (.loop (.seq (.seq
 (.reg [⟨some 6, (.mv (.t 0)), no⟩, ⟨some 7, (.bin .gtr (.t 6) (.k (.int .i64 0))), no⟩]) (.cond (.t 7) .skip (.exit 0))) (.blk 1 (.seq
 (.reg [⟨some 8, (.mv (.t 0)), no⟩, ⟨some 9, (.bin .rem (.t 8) (.k (.int .i64 10))), no⟩, ⟨some 10, (.bin .add (.k (.int .i64 48)) (.t 9)), no⟩, ⟨some 11, (.cvi .u8 (.t 10)), no⟩, ⟨some 12, (.bsl 1 [(.t 11)]), no⟩, ⟨some 13, (.cvb (.t 12)), no⟩, ⟨some 14, (.mv (.t 3)), no⟩, ⟨some 15, (.bin .add (.t 13) (.t 14)), no⟩, ⟨some 3, (.mv (.t 15)), no⟩])
 (.reg [⟨some 16, (.mv (.t 0)), no⟩, ⟨some 17, (.bin .quo (.t 16) (.k (.int .i64 10))), no⟩, ⟨some 0, (.mv (.t 17)), no⟩])))))) (.seq
 (.reg [⟨some 18, (.mv (.t 3)), no⟩, ⟨some 19, (.bin .add (.k (.str [109])) (.t 18)), no⟩, ⟨some 2, (.mv (.t 19)), no⟩]) .ret)))))⟩
theorem a161_ok : compFn Tryz.prog Tryz.f161 = some a161 := by kernel_rfl
theorem dig_pos {n : Nat} (h : ¬ n = 0) : dig n = dig (n / 10) ++ [UInt8.ofNat (48 + n % 10)] := by
  rw [dig]; simp [h]
theorem dig_zero : dig 0 = [] := by rw [dig]; simp
set_option maxRecDepth 20000 in
theorem k_markText (k : Int) (h0 : 0 ≤ k ∧ k ≤ 4611686018427387904) : Holds Tryz.prog 161 [i64 k] (fun r => r = .str (mtx k)) := by
  refine holds_of_run Tryz.func161 a161_ok rfl (by simp [a161]) ?_
  simp [a161]
  refine ⟨fun h1 => by simp [h1, mtx], fun h1 => ?_⟩
  refine rL_of (fun j s h n => ∃ (l : List UInt8), s 0 = i64 j ∧ s 3 = .str l ∧ dig j ++ l = dig k.toNat ∧ l.length ≤ 20 ∧ j * 10 ^ (l.length) ≤ 4611686018427387904) k.toNat ⟨[], by simp; rw [Int.max_eq_left h0.1], by simp, by simp, by simp, by simp; omega⟩ ?_
  rintro j s h n ⟨l, s0, s3, hd, hl, hb⟩
  by_cases hj : j = 0
  · subst hj
    rw [dig_zero, List.nil_append] at hd
    simp [s0, s3]
    refine ⟨by unfold LIM; omega, ?_⟩
    rw [hd, mtx, if_neg (by omega)]
  · have hj' : 0 < j := by omega
    simp [s0, s3, hj']
    have hj2 : j ≤ 4611686018427387904 := Nat.le_trans (Nat.le_mul_of_pos_right j (Nat.pow_pos (by decide))) hb
    have e1 : ((j : Int)).tmod 10 = ((j % 10 : Nat) : Int) := rfl
    rw [e1, wrap64 (by omega)]
    have e2 : IntKind.u8.wrap (48 + ((j % 10 : Nat) : Int)) = ((48 + j % 10 : Nat) : Int) := by
      have : 48 + j % 10 < 256 := by omega
      unfold IntKind.wrap
      simp [IntKind.bits, IntKind.signed]
      omega
    rw [e2]
    simp [bytesOf]
    have hl20 : l.length < 20 := by
      apply Classical.byContradiction
      intro hc
      have h20 : l.length = 20 := by omega
      rw [h20] at hb
      omega
    refine ⟨by unfold LIM; omega, j / 10, by omega, by rw [wrap64 (by omega)]; omega, ?_, by omega, ?_⟩
    · have e3 : UInt8.ofNat (48 + (j : Int) % 10).toNat = UInt8.ofNat (48 + j % 10) := by congr 1
      rw [← hd, dig_pos hj]; simp [e3]
    · rw [Nat.add_comm, Nat.pow_succ]
      refine Nat.le_trans ?_ hb
      rw [Nat.mul_comm (10 ^ l.length) 10, ← Nat.mul_assoc]
      exact Nat.mul_le_mul_right _ (by omega)
end Go.Proofs.YtilcageplifbgaaGreat

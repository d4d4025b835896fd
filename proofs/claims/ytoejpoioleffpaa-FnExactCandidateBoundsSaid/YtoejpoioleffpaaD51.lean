/- The body of FnExactCandidateBounds. -/
import Derived.Test.YtoejpoioleffpaaZC
import Derived.Test.YtoejpoioleffpaaM3A
import Derived.Test.YtoejpoioleffpaaRE
import Derived.Test.YtoejpoioleffpaaT2A
namespace Go.Proofs.Ytoejpoioleffpaa
set_option linter.all false
open Go Go.RowKit Go.Proofs
def a5 : AFn :=
⟨46, [(.t 4)], (.seq 
 (.reg [⟨some 4, (.mv (.k (.bool false))), no⟩]) (.seq 
 (.reg [⟨some 10, (.mv (.t 0)), no⟩, ⟨some 11, (.mv (.t 1)), no⟩, ⟨some 12, (.call (.k (.fn (.func 18) [] [])) [(.t 10), (.t 11)]), no⟩, ⟨some 5, (.mv (.t 12)), no⟩]) (.seq 
 (.reg [⟨some 13, (.mv (.t 0)), no⟩, ⟨some 14, (.mv (.t 1)), no⟩, ⟨some 15, (.call (.k (.fn (.func 19) [] [])) [(.t 13), (.t 14)]), no⟩, ⟨some 6, (.mv (.t 15)), no⟩]) (.seq (.seq 
 (.reg [⟨some 16, (.mv (.t 6)), no⟩, ⟨some 17, (.mv (.t 5)), no⟩, ⟨some 18, (.call (.k (.fn (.func 15) [] [])) [(.t 16), (.t 17)]), no⟩, ⟨some 19, (.un .not (.t 18)), no⟩]) (.cond (.t 19) (.seq 
 (.reg [⟨some 4, (.mv (.k (.bool false))), no⟩]) .ret) .skip)) (.seq 
 (.reg [⟨some 7, (.mv (.k (.int .i64 1))), no⟩]) (.seq 
 (.reg [⟨some 20, (.mv (.t 6)), no⟩, ⟨some 21, (.mv (.t 7)), no⟩, ⟨some 22, (.call (.k (.fn (.func 16) [] [])) [(.t 20), (.t 21)]), no⟩, ⟨some 7, (.mv (.t 22)), no⟩]) (.seq 
 (.reg [⟨some 8, (.mv (.k (.int .i64 1))), no⟩]) (.seq 
 (.reg [⟨some 23, (.mv (.t 6)), no⟩, ⟨some 24, (.mv (.t 8)), no⟩, ⟨some 25, (.call (.k (.fn (.func 17) [] [])) [(.t 23), (.t 24)]), no⟩, ⟨some 8, (.mv (.t 25)), no⟩]) (.seq (.seq 
 (.reg [⟨some 26, (.mv (.t 8)), no⟩, ⟨some 27, (.bin .lss (.t 26) (.k (.int .i64 0))), no⟩]) (.cond (.t 27) (.seq 
 (.reg [⟨some 4, (.mv (.k (.bool false))), no⟩]) .ret) .skip)) (.seq (.seq 
 (.reg [⟨some 28, (.mv (.t 8)), no⟩, ⟨some 29, (.mv (.t 7)), no⟩, ⟨some 30, (.bin .neq (.t 28) (.t 29)), no⟩]) (.cond (.t 30) (.seq 
 (.reg [⟨some 4, (.mv (.k (.bool false))), no⟩]) .ret) .skip)) (.seq 
 (.reg [⟨some 31, (.mv (.t 0)), no⟩, ⟨some 32, (.mv (.t 1)), no⟩, ⟨some 33, (.call (.k (.fn (.func 19) [] [])) [(.t 31), (.t 32)]), no⟩, ⟨some 9, (.mv (.t 33)), no⟩]) (.seq (.seq 
 (.reg [⟨some 34, (.mv (.t 9)), no⟩, ⟨some 35, (.mv (.t 5)), no⟩, ⟨some 36, (.call (.k (.fn (.func 15) [] [])) [(.t 34), (.t 35)]), no⟩, ⟨some 37, (.un .not (.t 36)), no⟩]) (.cond (.t 37) (.seq 
 (.reg [⟨some 4, (.mv (.k (.bool false))), no⟩]) .ret) .skip)) (.seq 
 (.reg [⟨some 8, (.mv (.k (.int .i64 1))), no⟩]) (.seq 
 (.reg [⟨some 38, (.mv (.t 6)), no⟩, ⟨some 39, (.mv (.t 8)), no⟩, ⟨some 40, (.call (.k (.fn (.func 17) [] [])) [(.t 38), (.t 39)]), no⟩, ⟨some 8, (.mv (.t 40)), no⟩]) (.seq (.seq 
 (.reg [⟨some 41, (.mv (.t 8)), no⟩, ⟨some 42, (.bin .lss (.t 41) (.k (.int .i64 0))), no⟩]) (.cond (.t 42) (.seq 
 (.reg [⟨some 4, (.mv (.k (.bool false))), no⟩]) .ret) .skip)) (.seq (.seq 
 (.reg [⟨some 43, (.mv (.t 8)), no⟩, ⟨some 44, (.mv (.t 7)), no⟩, ⟨some 45, (.bin .neq (.t 43) (.t 44)), no⟩]) (.cond (.t 45) (.seq 
 (.reg [⟨some 4, (.mv (.k (.bool false))), no⟩]) .ret) .skip)) (.seq 
 (.reg [⟨some 4, (.mv (.k (.bool true))), no⟩]) .ret)))))))))))))))))⟩
theorem a5_ok : compFn Try.prog Try.f5 = some a5 := by kernel_rfl


theorem cLinS_le8 : ∀ L : List DLin, (∀ x ∈ L, x.Coeffs.length ≤ 8) → cLinS L ≤ 9 * L.length
  | [], _ => by simp [cLinS, cL]
  | x :: L, h => by
    have h1 := cLinS_le8 L fun y hy => h y (List.mem_cons_of_mem _ hy)
    have h2 := h x List.mem_cons_self
    unfold cLinS at *
    simp only [cL, crLin, cIntS_len, List.length_cons]
    omega
theorem candOf_c (c1 c2 : Int) (S : List (List Int)) (hS : S.length ≤ 9) (hl : ∀ l ∈ S, l.length ≤ 8) : cLinS (candOf c1 c2 S) ≤ 8388608 := by
  have h1 := cLinS_le8 (candOf c1 c2 S) fun x hx => by
    obtain ⟨l, h1, h2⟩ := List.mem_flatMap.1 hx
    have := hl l h1
    simp at h2
    rcases h2 with rfl | rfl <;> exact this
  have h2 := candOf_len c1 c2 S
  omega
theorem candB_c (m q : Int) : cLinS (candB m q) ≤ 8388608 := by
  unfold candB
  split
  · rename_i h1
    simp only [Bool.and_eq_true] at h1
    have hm : 0 ≤ m ∧ m ≤ 2 := by simpa [inR] using h1.1
    obtain ⟨f1, f2, f3, f4, f5, f6⟩ := sorted_facts m.toNat (by omega)
    exact candOf_c _ _ _ f4 f6
  · simp [cLinS, cL]

set_option maxRecDepth 40000 in
set_option maxHeartbeats 4000000 in
theorem law_CandidateBounds (aN : Int) (aLeast : Int) : Holds Try.prog 5 [i64 aN, i64 aLeast] (fun x => x = .bool true) := by
  refine holds_of_run Try.func5 a5_ok rfl (by simp [a5]) ?_
  simp [a5]
  first | refine lsD_us (len := ((candB aN aLeast)).length) (ks_CandidateBounds aN aLeast) (LS.start) (by simp) ⟨.inl (fun h => by first | rfl | simp), .inl (fun h => by first | rfl | simp), trivial⟩ ?_ | refine ls_us (len := ((candB aN aLeast)).length) (ks_CandidateBounds aN aLeast) (LS.start) (by simp) ⟨.inl (fun h => by first | rfl | simp), .inl (fun h => by first | rfl | simp), trivial⟩ ?_
  intro d0 h0x n0 J0 S0
  have e := S0.eqs; have ne := S0.nes; simp only [bxE, bxN, Nat.zero_add, Nat.reduceAdd] at e ne
  simp [e, ne]
  first | refine lsD_us (len := ((candB aN aLeast)).length) (k_CandidateBounds aN aLeast) (S0) (by simp) ⟨.inl (fun h => by first | rfl | simp), .inl (fun h => by first | rfl | simp), trivial⟩ ?_ | refine ls_us (len := ((candB aN aLeast)).length) (k_CandidateBounds aN aLeast) (S0) (by simp) ⟨.inl (fun h => by first | rfl | simp), .inl (fun h => by first | rfl | simp), trivial⟩ ?_
  intro d1 h1x n1 J1 S1
  have e := S1.eqs; have ne := S1.nes; simp only [bxE, bxN, Nat.zero_add, Nat.reduceAdd] at e ne
  simp [e, ne]
  first | refine lsD_scal (k_eqLinS ((candB aN aLeast)) ((candB aN aLeast))) (S1) rfl ⟨.inr ⟨_, .head _, rfl, by simp [dr]⟩, .inr ⟨_, .tail _ (.head _), rfl, by simp [dr]⟩, trivial⟩ ?_ | refine ls_scal (k_eqLinS ((candB aN aLeast)) ((candB aN aLeast))) (S1) rfl ⟨.inr ⟨_, .head _, rfl, by simp [dr]⟩, .inr ⟨_, .tail _ (.head _), rfl, by simp [dr]⟩, trivial⟩ ?_
  simp [e, ne]
  have hg := candB_c aN aLeast
  have hm : ¬ 1 + (cLinS ((candB aN aLeast)) : Int) < 0 := by omega
  refine ls_mark (T1 := []) (m_markLinS ((candB aN aLeast)) (1) (by omega)) (S1) ?_
  intro h2x n2 S2
  have e := S2.eqs; have ne := S2.nes; simp only [bxE, bxN, Nat.zero_add, Nat.reduceAdd] at e ne
  have hq1 : ¬ 1 + cLinS ((candB aN aLeast)) < (0 : Int) := by omega
  simp [e, ne, hq1]
  first | refine lsD_scal (k_heldLinS ((candB aN aLeast)) (1) (by omega)) (S2) rfl ⟨.inr ⟨_, .head _, rfl, by simp [dr]⟩, .inl (fun h => by first | rfl | simp), trivial⟩ ?_ | refine ls_scal (k_heldLinS ((candB aN aLeast)) (1) (by omega)) (S2) rfl ⟨.inr ⟨_, .head _, rfl, by simp [dr]⟩, .inl (fun h => by first | rfl | simp), trivial⟩ ?_
  simp [e, ne, hm]
  first | refine lsD_us (len := ((candB aN aLeast)).length) (k_CandidateBounds aN aLeast) (S2) (by simp) ⟨.inl (fun h => by first | rfl | simp), .inl (fun h => by first | rfl | simp), trivial⟩ ?_ | refine ls_us (len := ((candB aN aLeast)).length) (k_CandidateBounds aN aLeast) (S2) (by simp) ⟨.inl (fun h => by first | rfl | simp), .inl (fun h => by first | rfl | simp), trivial⟩ ?_
  intro d3 h3x n3 J3 S3
  have e := S3.eqs; have ne := S3.nes; simp only [bxE, bxN, Nat.zero_add, Nat.reduceAdd] at e ne
  simp [e, ne]
  first | refine lsD_scal (k_eqLinS ((candB aN aLeast)) ((candB aN aLeast))) (S3) rfl ⟨.inr ⟨_, .head _, rfl, by simp [dr]⟩, .inr ⟨_, .tail _ (.tail _ (.head _)), rfl, by simp [dr]⟩, trivial⟩ ?_ | refine ls_scal (k_eqLinS ((candB aN aLeast)) ((candB aN aLeast))) (S3) rfl ⟨.inr ⟨_, .head _, rfl, by simp [dr]⟩, .inr ⟨_, .tail _ (.tail _ (.head _)), rfl, by simp [dr]⟩, trivial⟩ ?_
  simp [e, ne]
  first | refine lsD_scal (k_heldLinS ((candB aN aLeast)) (1) (by omega)) (S3) rfl ⟨.inr ⟨_, .tail _ (.head _), rfl, by simp [dr]⟩, .inl (fun h => by first | rfl | simp), trivial⟩ ?_ | refine ls_scal (k_heldLinS ((candB aN aLeast)) (1) (by omega)) (S3) rfl ⟨.inr ⟨_, .tail _ (.head _), rfl, by simp [dr]⟩, .inl (fun h => by first | rfl | simp), trivial⟩ ?_
  simp [e, ne, hm]
end Go.Proofs.Ytoejpoioleffpaa

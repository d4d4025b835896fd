/- The body of FnExactCandidateRanks. -/
import Derived.Test.YtoejpoioleffpaaZC
import Derived.Test.YtoejpoioleffpaaM3A
import Derived.Test.YtoejpoioleffpaaRE
import Derived.Test.YtoejpoioleffpaaT2A
namespace Go.Proofs.Ytoejpoioleffpaa
set_option linter.all false
open Go Go.RowKit Go.Proofs
def a4 : AFn :=
⟨41, [(.t 2)], (.seq 
 (.reg [⟨some 2, (.mv (.k (.bool false))), no⟩]) (.seq 
 (.reg [⟨some 8, (.mv (.t 0)), no⟩, ⟨some 9, (.call (.k (.fn (.func 13) [] [])) [(.t 8)]), no⟩, ⟨some 3, (.mv (.t 9)), no⟩]) (.seq 
 (.reg [⟨some 10, (.mv (.t 0)), no⟩, ⟨some 11, (.call (.k (.fn (.func 14) [] [])) [(.t 10)]), no⟩, ⟨some 4, (.mv (.t 11)), no⟩]) (.seq (.seq 
 (.reg [⟨some 12, (.mv (.t 4)), no⟩, ⟨some 13, (.mv (.t 3)), no⟩, ⟨some 14, (.call (.k (.fn (.func 15) [] [])) [(.t 12), (.t 13)]), no⟩, ⟨some 15, (.un .not (.t 14)), no⟩]) (.cond (.t 15) (.seq 
 (.reg [⟨some 2, (.mv (.k (.bool false))), no⟩]) .ret) .skip)) (.seq 
 (.reg [⟨some 5, (.mv (.k (.int .i64 1))), no⟩]) (.seq 
 (.reg [⟨some 16, (.mv (.t 4)), no⟩, ⟨some 17, (.mv (.t 5)), no⟩, ⟨some 18, (.call (.k (.fn (.func 16) [] [])) [(.t 16), (.t 17)]), no⟩, ⟨some 5, (.mv (.t 18)), no⟩]) (.seq 
 (.reg [⟨some 6, (.mv (.k (.int .i64 1))), no⟩]) (.seq 
 (.reg [⟨some 19, (.mv (.t 4)), no⟩, ⟨some 20, (.mv (.t 6)), no⟩, ⟨some 21, (.call (.k (.fn (.func 17) [] [])) [(.t 19), (.t 20)]), no⟩, ⟨some 6, (.mv (.t 21)), no⟩]) (.seq (.seq 
 (.reg [⟨some 22, (.mv (.t 6)), no⟩, ⟨some 23, (.bin .lss (.t 22) (.k (.int .i64 0))), no⟩]) (.cond (.t 23) (.seq 
 (.reg [⟨some 2, (.mv (.k (.bool false))), no⟩]) .ret) .skip)) (.seq (.seq 
 (.reg [⟨some 24, (.mv (.t 6)), no⟩, ⟨some 25, (.mv (.t 5)), no⟩, ⟨some 26, (.bin .neq (.t 24) (.t 25)), no⟩]) (.cond (.t 26) (.seq 
 (.reg [⟨some 2, (.mv (.k (.bool false))), no⟩]) .ret) .skip)) (.seq 
 (.reg [⟨some 27, (.mv (.t 0)), no⟩, ⟨some 28, (.call (.k (.fn (.func 14) [] [])) [(.t 27)]), no⟩, ⟨some 7, (.mv (.t 28)), no⟩]) (.seq (.seq 
 (.reg [⟨some 29, (.mv (.t 7)), no⟩, ⟨some 30, (.mv (.t 3)), no⟩, ⟨some 31, (.call (.k (.fn (.func 15) [] [])) [(.t 29), (.t 30)]), no⟩, ⟨some 32, (.un .not (.t 31)), no⟩]) (.cond (.t 32) (.seq 
 (.reg [⟨some 2, (.mv (.k (.bool false))), no⟩]) .ret) .skip)) (.seq 
 (.reg [⟨some 6, (.mv (.k (.int .i64 1))), no⟩]) (.seq 
 (.reg [⟨some 33, (.mv (.t 4)), no⟩, ⟨some 34, (.mv (.t 6)), no⟩, ⟨some 35, (.call (.k (.fn (.func 17) [] [])) [(.t 33), (.t 34)]), no⟩, ⟨some 6, (.mv (.t 35)), no⟩]) (.seq (.seq 
 (.reg [⟨some 36, (.mv (.t 6)), no⟩, ⟨some 37, (.bin .lss (.t 36) (.k (.int .i64 0))), no⟩]) (.cond (.t 37) (.seq 
 (.reg [⟨some 2, (.mv (.k (.bool false))), no⟩]) .ret) .skip)) (.seq (.seq 
 (.reg [⟨some 38, (.mv (.t 6)), no⟩, ⟨some 39, (.mv (.t 5)), no⟩, ⟨some 40, (.bin .neq (.t 38) (.t 39)), no⟩]) (.cond (.t 40) (.seq 
 (.reg [⟨some 2, (.mv (.k (.bool false))), no⟩]) .ret) .skip)) (.seq 
 (.reg [⟨some 2, (.mv (.k (.bool true))), no⟩]) .ret)))))))))))))))))⟩
theorem a4_ok : compFn Try.prog Try.f4 = some a4 := by kernel_rfl


theorem cLinS_le8 : ∀ L : List DLin, (∀ x ∈ L, x.Coeffs.length ≤ 8) → cLinS L ≤ 9 * L.length
  | [], _ => by simp [cLinS, cL]
  | x :: L, h => by
    have h1 := cLinS_le8 L fun y hy => h y (List.mem_cons_of_mem _ hy)
    have h2 := h x List.mem_cons_self
    unfold cLinS at *
    simp only [cL, crLin, cIntS_len, List.length_cons]
    omega
theorem candOf_c (c1 c2 : Int) (S : List (List Int)) (hS : S.length ≤ 9) (hl : ∀ l ∈ S, l.length ≤ 8) : cLinS (candOf c1 c2 S) ≤ 8388608 := by
  have h1 := cLinS_le8 (candOf c1 c2 S) fun x hx => by
    obtain ⟨l, h1, h2⟩ := List.mem_flatMap.1 hx
    have := hl l h1
    simp at h2
    rcases h2 with rfl | rfl <;> exact this
  have h2 := candOf_len c1 c2 S
  omega
theorem candR_c (m : Int) : cLinS (candR m) ≤ 8388608 := by
  unfold candR
  split
  · rename_i h1
    have hm : 0 ≤ m ∧ m ≤ 2 := by simpa [inR] using h1
    obtain ⟨f1, f2, f3, f4, f5, f6⟩ := sorted_facts m.toNat (by omega)
    exact candOf_c _ _ _ f3 f5
  · simp [cLinS, cL]

set_option maxRecDepth 40000 in
set_option maxHeartbeats 4000000 in
theorem law_CandidateRanks (aN : Int) : Holds Try.prog 4 [i64 aN] (fun x => x = .bool true) := by
  refine holds_of_run Try.func4 a4_ok rfl (by simp [a4]) ?_
  simp [a4]
  first | refine lsD_us (len := ((candR aN)).length) (ks_CandidateRanks aN) (LS.start) (by simp) ⟨.inl (fun h => by first | rfl | simp), trivial⟩ ?_ | refine ls_us (len := ((candR aN)).length) (ks_CandidateRanks aN) (LS.start) (by simp) ⟨.inl (fun h => by first | rfl | simp), trivial⟩ ?_
  intro d0 h0x n0 J0 S0
  have e := S0.eqs; have ne := S0.nes; simp only [bxE, bxN, Nat.zero_add, Nat.reduceAdd] at e ne
  simp [e, ne]
  first | refine lsD_us (len := ((candR aN)).length) (k_CandidateRanks aN) (S0) (by simp) ⟨.inl (fun h => by first | rfl | simp), trivial⟩ ?_ | refine ls_us (len := ((candR aN)).length) (k_CandidateRanks aN) (S0) (by simp) ⟨.inl (fun h => by first | rfl | simp), trivial⟩ ?_
  intro d1 h1x n1 J1 S1
  have e := S1.eqs; have ne := S1.nes; simp only [bxE, bxN, Nat.zero_add, Nat.reduceAdd] at e ne
  simp [e, ne]
  first | refine lsD_scal (k_eqLinS ((candR aN)) ((candR aN))) (S1) rfl ⟨.inr ⟨_, .head _, rfl, by simp [dr]⟩, .inr ⟨_, .tail _ (.head _), rfl, by simp [dr]⟩, trivial⟩ ?_ | refine ls_scal (k_eqLinS ((candR aN)) ((candR aN))) (S1) rfl ⟨.inr ⟨_, .head _, rfl, by simp [dr]⟩, .inr ⟨_, .tail _ (.head _), rfl, by simp [dr]⟩, trivial⟩ ?_
  simp [e, ne]
  have hg := candR_c aN
  have hm : ¬ 1 + (cLinS ((candR aN)) : Int) < 0 := by omega
  refine ls_mark (T1 := []) (m_markLinS ((candR aN)) (1) (by omega)) (S1) ?_
  intro h2x n2 S2
  have e := S2.eqs; have ne := S2.nes; simp only [bxE, bxN, Nat.zero_add, Nat.reduceAdd] at e ne
  have hq1 : ¬ 1 + cLinS ((candR aN)) < (0 : Int) := by omega
  simp [e, ne, hq1]
  first | refine lsD_scal (k_heldLinS ((candR aN)) (1) (by omega)) (S2) rfl ⟨.inr ⟨_, .head _, rfl, by simp [dr]⟩, .inl (fun h => by first | rfl | simp), trivial⟩ ?_ | refine ls_scal (k_heldLinS ((candR aN)) (1) (by omega)) (S2) rfl ⟨.inr ⟨_, .head _, rfl, by simp [dr]⟩, .inl (fun h => by first | rfl | simp), trivial⟩ ?_
  simp [e, ne, hm]
  first | refine lsD_us (len := ((candR aN)).length) (k_CandidateRanks aN) (S2) (by simp) ⟨.inl (fun h => by first | rfl | simp), trivial⟩ ?_ | refine ls_us (len := ((candR aN)).length) (k_CandidateRanks aN) (S2) (by simp) ⟨.inl (fun h => by first | rfl | simp), trivial⟩ ?_
  intro d3 h3x n3 J3 S3
  have e := S3.eqs; have ne := S3.nes; simp only [bxE, bxN, Nat.zero_add, Nat.reduceAdd] at e ne
  simp [e, ne]
  first | refine lsD_scal (k_eqLinS ((candR aN)) ((candR aN))) (S3) rfl ⟨.inr ⟨_, .head _, rfl, by simp [dr]⟩, .inr ⟨_, .tail _ (.tail _ (.head _)), rfl, by simp [dr]⟩, trivial⟩ ?_ | refine ls_scal (k_eqLinS ((candR aN)) ((candR aN))) (S3) rfl ⟨.inr ⟨_, .head _, rfl, by simp [dr]⟩, .inr ⟨_, .tail _ (.tail _ (.head _)), rfl, by simp [dr]⟩, trivial⟩ ?_
  simp [e, ne]
  first | refine lsD_scal (k_heldLinS ((candR aN)) (1) (by omega)) (S3) rfl ⟨.inr ⟨_, .tail _ (.head _), rfl, by simp [dr]⟩, .inl (fun h => by first | rfl | simp), trivial⟩ ?_ | refine ls_scal (k_heldLinS ((candR aN)) (1) (by omega)) (S3) rfl ⟨.inr ⟨_, .tail _ (.head _), rfl, by simp [dr]⟩, .inl (fun h => by first | rfl | simp), trivial⟩ ?_
  simp [e, ne, hm]
end Go.Proofs.Ytoejpoioleffpaa

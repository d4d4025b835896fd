/- Contracts: ends of an edge; slices that are being built. -/
import Derived.Test.YtlmajgghnenbpaaGreatE1
namespace Go.Proofs.YtlmajgghnenbpaaGreat
set_option linter.all false
open Go Go.RowKit Go.Proofs
def a82 : AFn :=
⟨22, [(.t 4), (.t 5)], (.seq 
 (.reg [⟨some 2, (.boxv (.t 0)), no⟩, ⟨some 3, (.boxv (.t 1)), no⟩, ⟨some 4, (.mv (.k (.str []))), no⟩, ⟨some 5, (.mv (.k (.str []))), no⟩]) (.seq 
 (.reg [⟨some 7, (.fld 1 (.t 2)), no⟩, ⟨some 8, (.ld false 1 (.t 7)), no⟩, ⟨some 9, (.fld 0 (.t 3)), no⟩, ⟨some 10, (.ld false 1 (.t 9)), no⟩, ⟨some 11, (.ixa 7 (.t 8) (.t 10)), no⟩, ⟨some 12, (.ld true 7 (.t 11)), no⟩, ⟨some 6, (.box [(.str []), (.nil 4), (.nil 2), (.nil 3), (.bool false), (.nil 2), (.str [])]), no⟩, ⟨no, (.st 7 (.t 6) (.t 12)), no⟩]) (.seq (.draw (.op ⟨some 13, (.fld 0 (.t 6)), no⟩ (.op ⟨some 14, (.ld false 1 (.t 13)), no⟩ (.op ⟨some 15, (.fld 3 (.t 6)), no⟩ (.op ⟨some 16, (.ld false 1 (.t 15)), no⟩ (.op ⟨some 17, (.fld 1 (.t 3)), no⟩ (.op ⟨some 18, (.ld false 1 (.t 17)), no⟩ (.op ⟨some 19, (.ixa 3 (.t 16) (.t 18)), no⟩ (.op ⟨some 20, (.fld 1 (.t 19)), no⟩ (.op ⟨some 21, (.ld false 1 (.t 20)), no⟩ (.op ⟨some 4, (.mv (.t 14)), no⟩ (.op ⟨some 5, (.mv (.t 21)), no⟩ .fin)))))))))))) .ret)))⟩
theorem a82_ok : compFn Tryz.prog Tryz.f82 = some a82 := by kernel_rfl

def a108 : AFn :=
⟨12, [(.t 4)], (.seq 
 (.reg [⟨some 2, (.boxv (.t 0)), no⟩, ⟨some 3, (.boxv (.t 1)), no⟩, ⟨some 4, (.mv (.k (.str []))), no⟩]) (.seq 
 (.reg [⟨some 5, (.fld 1 (.t 2)), no⟩, ⟨some 6, (.ld false 1 (.t 5)), no⟩, ⟨some 7, (.fld 0 (.t 3)), no⟩, ⟨some 8, (.ld false 1 (.t 7)), no⟩, ⟨some 9, (.ixa 7 (.t 6) (.t 8)), no⟩, ⟨some 10, (.fld 0 (.t 9)), no⟩, ⟨some 11, (.ld false 1 (.t 10)), no⟩, ⟨some 4, (.mv (.t 11)), no⟩]) .ret))⟩
theorem a108_ok : compFn Tryz.prog Tryz.f108 = some a108 := by kernel_rfl

def a109 : AFn :=
⟨17, [(.t 4)], (.seq 
 (.reg [⟨some 2, (.boxv (.t 0)), no⟩, ⟨some 3, (.boxv (.t 1)), no⟩, ⟨some 4, (.mv (.k (.str []))), no⟩]) (.seq (.draw (.op ⟨some 5, (.fld 1 (.t 2)), no⟩ (.op ⟨some 6, (.ld false 1 (.t 5)), no⟩ (.op ⟨some 7, (.fld 0 (.t 3)), no⟩ (.op ⟨some 8, (.ld false 1 (.t 7)), no⟩ (.op ⟨some 9, (.ixa 7 (.t 6) (.t 8)), no⟩ (.op ⟨some 10, (.fld 3 (.t 9)), no⟩ (.op ⟨some 11, (.ld false 1 (.t 10)), no⟩ (.op ⟨some 12, (.fld 1 (.t 3)), no⟩ (.op ⟨some 13, (.ld false 1 (.t 12)), no⟩ (.op ⟨some 14, (.ixa 3 (.t 11) (.t 13)), no⟩ (.op ⟨some 15, (.fld 1 (.t 14)), no⟩ (.op ⟨some 16, (.ld false 1 (.t 15)), no⟩ (.op ⟨some 4, (.mv (.t 16)), no⟩ .fin)))))))))))))) .ret))⟩
theorem a109_ok : compFn Tryz.prog Tryz.f109 = some a109 := by kernel_rfl



set_option maxRecDepth 20000
set_option maxHeartbeats 2000000
theorem k_ends (p : DProgram) {i k : Nat} (hi : i < p.Rules.length) (hk : k < (p.Rules[i]).Calls.length) : Holds Tryz.prog 82 [.agg (rAProgram p), .agg (rAEdge ⟨i, k⟩)] (fun x => x = .tup [.str (p.Rules[i]).Func, .str ((p.Rules[i]).Calls[k]).Func]) := by
  refine holds_of_run Tryz.func82 a82_ok rfl (by simp [a82]) ?_
  simp [a82, rAProgram, rAEdge, hi, hk, rARule, rACall]
theorem ks_l13From (p : DProgram) {i k : Nat} (hi : i < p.Rules.length) : Holds Tryz.prog 108 [.agg (rAProgram p), .agg (rAEdge ⟨i, k⟩)] (fun x => x = .str (p.Rules[i]).Func) := by
  refine holds_of_run Tryz.func108 a108_ok rfl (by simp [a108]) ?_
  simp [a108, rAProgram, rAEdge, hi, rARule, rACall]
theorem ks_l13To (p : DProgram) {i k : Nat} (hi : i < p.Rules.length) (hk : k < (p.Rules[i]).Calls.length) : Holds Tryz.prog 109 [.agg (rAProgram p), .agg (rAEdge ⟨i, k⟩)] (fun x => x = .str ((p.Rules[i]).Calls[k]).Func) := by
  refine holds_of_run Tryz.func109 a109_ok rfl (by simp [a109]) ?_
  simp [a109, rAProgram, rAEdge, hi, hk, rARule, rACall]

def AccB (b z : Nat) (rows : List (List AV)) (v : AV) (h : Heap) (n : Nat) : Prop := (rows = [] ∧ v = .nil z) ∨ ∃ id, b < id ∧ id < n ∧ v = .ref id 0 rows.length ∧ h id = some ⟨false, z, rows⟩

theorem AccB.mono {b z : Nat} {rows : List (List AV)} {v : AV} {h : Heap} {n m : Nat} (a : AccB b z rows v h n) (hm : n ≤ m) : AccB b z rows v h m := a.imp id fun ⟨i, h1, h2, h3⟩ => ⟨i, h1, by omega, h3⟩

theorem edgesOf_at {p : DProgram} {j : Nat} (hj : j < (edgesOf p).length) : ∃ i k : Nat, ∃ hi : i < p.Rules.length, ∃ hk : k < (p.Rules[i]).Calls.length, (edgesOf p)[j] = ⟨(i : Int), (k : Int)⟩ ∧ fromE p ⟨(i : Int), (k : Int)⟩ = (p.Rules[i]).Func ∧ toE p ⟨(i : Int), (k : Int)⟩ = ((p.Rules[i]).Calls[k]).Func := by
  have hm : (edgesOf p)[j] ∈ edgesL p := by
    have h0 : (edgesOf p)[j] ∈ edgesOf p := List.getElem_mem hj
    generalize (edgesOf p)[j] = e at h0
    unfold edgesOf at h0
    split at h0
    · exact h0
    · cases h0
  obtain ⟨i, k, hi, hk, he⟩ := edgesL_mem hm
  exact ⟨i, k, hi, hk, he, fromE_at hi, toE_at hi hk⟩
theorem edgesOf_len (p : DProgram) (hp : wProgram p ≤ 1048576) : (edgesOf p).length ≤ 1048576 := by
  have := edgesL_len p hp
  unfold edgesOf
  split
  · exact this
  · simp

theorem idx_has (l : List Str) (s : Str) : decide (0 ≤ idxFrom (fun x => x == s) l 0) = hasS l s := by
  have := idxFrom_any (p := fun x => x == s) (l := l) (i := 0)
  simp only [ge_iff_le] at this
  simp [this, hasS]

end Go.Proofs.YtlmajgghnenbpaaGreat

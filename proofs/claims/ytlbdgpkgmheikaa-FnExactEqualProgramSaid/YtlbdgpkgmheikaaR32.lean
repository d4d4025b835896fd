/- slices.EqualFunc over structs, with any function. -/
import Derived.Test.YtlbdgpkgmheikaaR31
namespace Go.Proofs.Ytlbdgpkgmheikaa
set_option linter.all false
open Go Go.RowKit

def tEqualFunc (sz : Nat) (z : List AV) : AFn :=
⟨32, [(.t 6)], (.seq 
 (.reg [⟨some 6, (.mv (.k (.bool false))), no⟩]) (.seq (.seq 
 (.reg [⟨some 10, (.mv (.t 0)), no⟩, ⟨some 11, (.len false (.t 10)), no⟩, ⟨some 12, (.mv (.t 1)), no⟩, ⟨some 13, (.len false (.t 12)), no⟩, ⟨some 14, (.bin .neq (.t 11) (.t 13)), no⟩]) (.cond (.t 14) (.seq 
 (.reg [⟨some 6, (.mv (.k (.bool false))), no⟩]) .ret) .skip)) (.seq (.seq 
 (.reg [⟨some 15, (.mv (.t 0)), no⟩, ⟨some 16, (.len false (.t 15)), no⟩, ⟨some 17, (.mv (.k (.int .i64 0))), no⟩]) (.blk 0 (.loop (.seq 
 (.reg [⟨some 18, (.bin .lss (.t 17) (.t 16)), no⟩]) (.seq (.cond (.t 18) .skip (.exit 0)) (.seq (.blk 1 (.seq 
 (.reg [⟨some 19, (.mv (.t 17)), no⟩, ⟨some 20, (.ixa sz (.t 15) (.t 17)), no⟩, ⟨some 21, (.ld true sz (.t 20)), no⟩, ⟨some 8, (.box z), no⟩, ⟨some 7, (.mv (.t 19)), no⟩, ⟨no, (.st sz (.t 8) (.t 21)), no⟩]) (.seq 
 (.reg [⟨some 22, (.mv (.t 1)), no⟩, ⟨some 23, (.mv (.t 7)), no⟩, ⟨some 24, (.ixa sz (.t 22) (.t 23)), no⟩, ⟨some 25, (.ld true sz (.t 24)), no⟩, ⟨some 9, (.box z), no⟩, ⟨no, (.st sz (.t 9) (.t 25)), no⟩]) (.seq 
 (.reg [⟨some 26, (.mv (.t 2)), no⟩, ⟨some 27, (.ld true sz (.t 8)), no⟩, ⟨some 28, (.ld true sz (.t 9)), no⟩, ⟨some 29, (.call (.t 26) [(.t 27), (.t 28)]), no⟩, ⟨some 30, (.un .not (.t 29)), no⟩]) (.cond (.t 30) (.seq 
 (.reg [⟨some 6, (.mv (.k (.bool false))), no⟩]) .ret) .skip))))) 
 (.reg [⟨some 31, (.bin .add (.t 17) (.k (.int .i64 1))), no⟩, ⟨some 17, (.mv (.t 31)), no⟩]))))))) (.seq 
 (.reg [⟨some 6, (.mv (.k (.bool true))), no⟩]) .ret))))⟩

theorem holds_tEqualFunc {P : Program} {f : FuncId} {fn : Func} {sz : Nat} {z : List AV} {α : Type} {rowOf : α → List AV} {p : α → α → Bool} {g : FuncId}
    (hf : P.funcs[f]? = some fn) (hc : compFn P fn = some (tEqualFunc sz z)) (hn : (fn.name == "runtime.NumGoroutine") = false) (hz : z.length = sz) (hlen : ∀ x, (rowOf x).length = sz) (hcell : ∀ x, (rowOf x).all isCell = true)
    (hbw : ∀ x h, bwl (rowOf x) h = some (rowOf x)) (a b : List α) (hg : ∀ x y, x ∈ a → y ∈ b → Holds P g [.agg (rowOf x), .agg (rowOf y)] (fun r => r = .bool (p x y))) :
    Holds P f [.sl sz (a.map rowOf), .sl sz (b.map rowOf), .fn (.func g) [] []] (fun r => r = .bool (eqL p a b)) := by
  have hd : List.drop sz z = [] := List.drop_eq_nil_of_le (by omega)
  have ht : ∀ x, List.take sz (rowOf x) = rowOf x := fun x => List.take_of_length_le (by rw [hlen]; omega)
  have hcell' : ∀ x c, c ∈ rowOf x → isCell c = true := fun x => List.all_eq_true.1 (hcell x)
  refine holds_of_run hf hc hn (by simp [tEqualFunc]) ?_
  simp [tEqualFunc, -isCell]
  intro hl1 hl2
  by_cases hl : a.length = b.length
  case neg => rw [eqL_length hl]; simp; exact fun h => absurd (by omega) hl
  refine ⟨fun h => absurd (by omega) h, fun _ _ => ?_⟩
  refine rL_forO [0, 1, 2, 15, 16] 17 a.length (fun i _ _ _ => eqL p (a.drop i) (b.drop i) = eqL p a b) hl1 (by simp) (by simp) ?_ ?_
  · rintro i s h n R hi hgi hk s17 hw hJ hR hret _
    simp at hk
    have hib : i < b.length := by omega
    rw [List.drop_eq_getElem_cons hi, List.drop_eq_getElem_cons hib] at hJ
    simp only [eqL] at hJ
    simp [hk, s17, hi, hgi, hib, hlen, hz, hd, ht, -isCell]
    refine ⟨hcell' _, hcell' _, ?_⟩
    refine call_of (hg a[i] b[i] (List.getElem_mem _) (List.getElem_mem _)) (by simp [hbw]) ?_
    rintro r rfl
    cases hp : p a[i] b[i]
    · rw [hp, Bool.false_and] at hJ
      simp
      refine hret _ _ _ ?_
      simp [← hJ]
    · rw [hp, Bool.true_and] at hJ
      simp [hk, s17, hw]
      exact hR _ _ _ (by simp [hk]) (by simp) hJ
  · rintro s h n R hk s17 hJ hret hX
    simp at hk
    rw [List.drop_eq_nil_of_le (Nat.le_refl _), List.drop_eq_nil_of_le (by omega)] at hJ
    simp only [eqL] at hJ
    simp [hk, s17]
    refine hX _ _ _ _ ?_
    simp [← hJ]
end Go.Proofs.Ytlbdgpkgmheikaa

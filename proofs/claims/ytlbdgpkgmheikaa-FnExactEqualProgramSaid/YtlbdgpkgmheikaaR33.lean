/- slices.Equal, of every element type that is compared by one operation. -/
import Derived.Test.YtlbdgpkgmheikaaR32
namespace Go.Proofs.Ytlbdgpkgmheikaa
set_option linter.all false
open Go Go.RowKit

def tSlEq (agg : Bool) (sz : Nat) (op : AOp) : AFn :=
⟨26, [(.t 4)], (.seq 
 (.reg [⟨some 4, (.mv (.k (.bool false))), no⟩]) (.seq (.seq 
 (.reg [⟨some 6, (.mv (.t 0)), no⟩, ⟨some 7, (.len false (.t 6)), no⟩, ⟨some 8, (.mv (.t 1)), no⟩, ⟨some 9, (.len false (.t 8)), no⟩, ⟨some 10, (.bin .neq (.t 7) (.t 9)), no⟩]) (.cond (.t 10) (.seq 
 (.reg [⟨some 4, (.mv (.k (.bool false))), no⟩]) .ret) .skip)) (.seq (.seq 
 (.reg [⟨some 11, (.mv (.t 0)), no⟩, ⟨some 12, (.len false (.t 11)), no⟩, ⟨some 13, (.mv (.k (.int .i64 0))), no⟩]) (.blk 0 (.loop (.seq 
 (.reg [⟨some 14, (.bin .lss (.t 13) (.t 12)), no⟩]) (.seq (.cond (.t 14) .skip (.exit 0)) (.seq (.blk 1 (.seq 
 (.reg [⟨some 15, (.mv (.t 13)), no⟩, ⟨some 5, (.mv (.t 15)), no⟩]) (.seq (.draw (.op ⟨some 16, (.mv (.t 0)), no⟩ (.op ⟨some 17, (.mv (.t 5)), no⟩ (.op ⟨some 18, (.ixa sz (.t 16) (.t 17)), no⟩ (.op ⟨some 19, (.ld agg sz (.t 18)), no⟩ (.op ⟨some 20, (.mv (.t 1)), no⟩ (.op ⟨some 21, (.mv (.t 5)), no⟩ (.op ⟨some 22, (.ixa sz (.t 20) (.t 21)), no⟩ (.op ⟨some 23, (.ld agg sz (.t 22)), no⟩ (.op ⟨some 24, op, no⟩ .fin)))))))))) (.cond (.t 24) (.seq 
 (.reg [⟨some 4, (.mv (.k (.bool false))), no⟩]) .ret) .skip)))) 
 (.reg [⟨some 25, (.bin .add (.t 13) (.k (.int .i64 1))), no⟩, ⟨some 13, (.mv (.t 25)), no⟩]))))))) (.seq 
 (.reg [⟨some 4, (.mv (.k (.bool true))), no⟩]) .ret))))⟩

theorem holds_tSlEq {P : Program} {f : FuncId} {fn : Func} {agg : Bool} {sz : Nat} {op : AOp} {α : Type} {rowOf : α → List AV} {eltOf : α → AV} {p : α → α → Bool}
    (hf : P.funcs[f]? = some fn) (hc : compFn P fn = some (tSlEq agg sz op)) (hn : (fn.name == "runtime.NumGoroutine") = false) (helt : ∀ x, ldv true agg (rowOf x) 0 sz = some (eltOf x))
    (hop : ∀ (s : Env) (h : Heap) (n : Nat) (K : AV → Heap → Nat → Prop) (x y : α), s 19 = eltOf x → s 23 = eltOf y → K (.bool (!(p x y))) h n → aopD P s h n K op) (a b : List α) :
    Holds P f [.sl sz (a.map rowOf), .sl sz (b.map rowOf)] (fun r => r = .bool (eqL p a b)) := by
  refine holds_of_run hf hc hn (by simp [tSlEq]) ?_
  simp [tSlEq, -ldv]
  intro hl1 hl2
  by_cases hl : a.length = b.length
  case neg => rw [eqL_length hl]; simp; exact fun h => absurd (by omega) hl
  refine ⟨fun h => absurd (by omega) h, fun _ _ => ?_⟩
  refine rL_forS [0, 1, 12] 13 a.length (fun i _ => eqL p (a.drop i) (b.drop i) = eqL p a b) hl1 (by simp) (by simp) ?_ ?_
  · rintro i s h R hi hgi hk s13 hw hJ hh hR hret _
    simp at hk
    have hib : i < b.length := by omega
    rw [List.drop_eq_getElem_cons hi, List.drop_eq_getElem_cons hib] at hJ
    simp only [eqL] at hJ
    simp [hk, s13, hi, hgi, hib, helt, -ldv]
    refine hop _ _ _ _ a[i] b[i] (by simp) (by simp) ?_
    cases hp : p a[i] b[i]
    · rw [hp, Bool.false_and] at hJ
      simp
      refine hret _ _ _ ?_
      simp [← hJ]
    · rw [hp, Bool.true_and] at hJ
      simp [hk, s13, hw]
      exact hR _ (by simp [hk]) (by simp) hJ
  · rintro s h R hk s13 hJ hh hret hX
    simp at hk
    rw [List.drop_eq_nil_of_le (Nat.le_refl _), List.drop_eq_nil_of_le (by omega)] at hJ
    simp only [eqL] at hJ
    simp [hk, s13]
    refine hX _ _ ?_
    simp [← hJ]
end Go.Proofs.Ytlbdgpkgmheikaa

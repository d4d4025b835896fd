/- Contracts: systems and models, second part. -/
import Derived.Test.YtlefdibgonpoaaaS10
namespace Go.Proofs.Ytlefdibgonpoaaa
open Go Go.RowKit Go.Proofs

theorem c63 (a b : List LinD) : Holds Try.prog 63 [linsA a, linsA b] (fun r => r = .bool (decide (a = b))) := by
  refine holds_of_run Try.func63 a63_ok rfl (by simp [a63]) ?_
  simp [a63, linsA]
  refine call_of (c97 a b 65 c65) (by simp [linsA]) ?_
  rintro r rfl
  simp

set_option maxRecDepth 8000 in
theorem c64 (a b : List (List LinD)) (g : FuncId) (hg : ∀ x y, Holds Try.prog g [linsA x, linsA y] (fun r => r = .bool (decide (x = y)))) : Holds Try.prog 64 [linssA a, linssA b, .fn (.func g) [] []] (fun r => r = .bool (decide (a = b))) := by
  refine holds_of_run Try.func64 a64_ok rfl (by simp [a64]) ?_
  simp [a64, linssA]
  intro h1 h2
  refine ⟨fun h e => h (by rw [e]), fun hl => ?_⟩
  refine fun _ => rL_of (fun k s h q => ∃ i : Nat, k = a.length - i ∧ i ≤ a.length ∧ s 1 = linssA b ∧ s 2 = .fn (.func g) [] [] ∧ s 15 = linssA a ∧ s 16 = i64 a.length ∧ s 17 = i64 i ∧ (∀ j, j < i → a[j]? = b[j]?)) a.length ⟨0, by simp [linssA]⟩ ?_
  rintro k s h q ⟨i, rfl, hi, s1, s2, s15, s16, s17, hj⟩
  have hl : a.length = b.length := by omega
  by_cases hlt : i < a.length
  · have hlt' : i < b.length := by omega
    unfold LIM at h1
    simp [s1, s2, s15, s16, s17, hlt, hlt', linssA]
    refine call_of (hg a[i] b[i]) (by simp [linsA]) ?_
    rintro r rfl
    simp [s1, s2, s15, s16, s17]
    refine ⟨fun h e => h (by subst e; rfl), fun e => ⟨a.length - (i + 1), by omega, i + 1, rfl, by omega, by simp [linssA], by simp [linssA], by rw [wrap64 (by omega)]; rfl, fun j hj' => ?_⟩⟩
    by_cases hji : j = i
    · subst hji; rw [List.getElem?_eq_getElem hlt, List.getElem?_eq_getElem hlt', e]
    · exact hj j (by omega)
  · simp [s16, s17, hlt]
    refine List.ext_getElem? fun j => ?_
    by_cases hji : j < i
    · exact hj j hji
    · rw [List.getElem?_eq_none (by omega), List.getElem?_eq_none (by omega)]
end Go.Proofs.Ytlefdibgonpoaaa

/- Contracts: systems and models. -/
import Derived.Test.YtlefdibgonpoaaaS8
namespace Go.Proofs.Ytlefdibgonpoaaa
open Go Go.RowKit Go.Proofs

theorem bw_rows (l : List LinD) : drr (l.map linRow) = l.map linRow := by
  rw [drr_eq, List.map_map]; refine List.map_congr_left fun x _ => ?_; simp

/-- A system: how many variables, and its rows. -/
def sysA (n : Int) (l : List LinD) : AV := .agg [i64 n, linsA l]
def sysU (n : Int) (l : List LinD) : AV := .agg [i64 n, linsU l]

theorem c57 (n : Int) (a : List LinD) (m : Int) (b : List LinD) : Holds Try.prog 57 [sysA n a, sysA m b] (fun r => r = .bool (decide (n = m ∧ a = b))) := by
  refine holds_of_run Try.func57 a57_ok rfl (by simp [a57]) ?_
  simp [a57, sysA, linsA]
  refine ⟨fun hnm h1 h2 => ⟨fun h _ e => h (by rw [e]), fun hl => ?_⟩, fun h e => absurd e h⟩
  subst hnm
  refine rL_of (fun k s h q => ∃ i : Nat, k = a.length - i ∧ i ≤ a.length ∧ s 2 = .ptr 0 0 0 ∧ s 3 = .ptr 1 0 0 ∧ s 5 = i64 i ∧ (∀ j, j < i → a[j]? = b[j]?) ∧ h = upd (upd noHeap 0 (some ⟨true, 2, [[i64 n, linsA a]]⟩)) 1 (some ⟨true, 2, [[i64 n, linsA b]]⟩) ∧ q = 2) a.length ⟨0, by simp [linsA]⟩ ?_
  rintro k s h q ⟨i, rfl, hi, s2, s3, s5, hj, rfl, rfl⟩
  have hl : a.length = b.length := by omega
  by_cases hlt : i < a.length
  · have hlt' : i < b.length := by omega
    unfold LIM at h1
    have hge : ¬ a.length ≤ i := by omega
    simp [s2, s3, s5, hlt, hlt', hge, linsA]
    intro _
    refine callD_of (c31 a[i] b[i]) (by simp) ?_
    rintro r rfl
    simp [s2, s3, s5]
    refine ⟨fun h e => h (by subst e; rfl), fun e => ⟨a.length - (i + 1), by omega, i + 1, rfl, by omega, by rw [wrap64 (by omega)]; rfl, fun j hj' => ?_⟩⟩
    by_cases hji : j = i
    · subst hji; rw [List.getElem?_eq_getElem hlt, List.getElem?_eq_getElem hlt', e]
    · exact hj j (by omega)
  · simp [s2, s3, s5, hlt, linsA]
    intro _
    refine ⟨by omega, fun _ => List.ext_getElem? fun j => ?_⟩
    by_cases hji : j < i
    · exact hj j hji
    · rw [List.getElem?_eq_none (by omega), List.getElem?_eq_none (by omega)]

theorem c58 (a b : List LinD) : Holds Try.prog 58 [linsA a, linsA b] (fun r => r = .bool (decide (a = b))) := by
  refine holds_of_run Try.func58 a58_ok rfl (by simp [a58]) ?_
  simp [a58, linsA, fillA]
  refine call_of (c57 0 a 0 b) (by simp [sysA, linsA]) ?_
  rintro r rfl
  simp
theorem c59 (a b : List (List LinD)) : Holds Try.prog 59 [linssA a, linssA b] (fun r => r = .bool (decide (a = b))) := by
  rw [← eqL_decide]
  exact holds_tEq Try.func59 a59_ok rfl (rowOf := fun x => [linsA x]) (eltOf := linsA) (fun x => by simp) bw_linsA a b (fun x y _ _ => c58 x y)
end Go.Proofs.Ytlefdibgonpoaaa

/- Contracts: outcomes are equal. -/
import Derived.Test.YtlefdibgonpoaaaS4
import Derived.Test.YtlefdibgonpoaaaS5
namespace Go.Proofs.Ytlefdibgonpoaaa
open Go Go.RowKit Go.Proofs

theorem c81 (a b : List Int) : Holds Try.prog 81 [ints a, ints b] (fun r => r = .bool (decide (a = b))) := by
  refine holds_of_run Try.func81 a81_ok rfl (by simp [a81]) ?_
  simp [a81]
  intro h1 h2
  refine ⟨fun h e => h (by rw [e]), fun hl => rL_of (fun k s h n => ∃ i : Nat, k = a.length - i ∧ i ≤ a.length ∧ s 0 = ints a ∧ s 1 = ints b ∧ s 5 = i64 i ∧ (∀ j, j < i → a[j]? = b[j]?) ∧ h = noHeap ∧ n = 0) a.length ⟨0, by simp⟩ ?_⟩
  rintro k s h n ⟨i, rfl, hi, s0, s1, s5, hj, rfl, rfl⟩
  have hl : a.length = b.length := by omega
  by_cases hlt : i < a.length
  · have hlt' : i < b.length := by omega
    unfold LIM at h1
    simp [s0, s1, s5, hlt, hlt']
    intro _
    refine ⟨fun h e => h (by subst e; rfl), fun e => ⟨a.length - (i + 1), by omega, i + 1, rfl, by omega, by rw [wrap64 (by omega)]; rfl, fun j hj' => ?_⟩⟩
    by_cases hji : j = i
    · subst hji; simp [hlt, hlt', e]
    · exact hj j (by omega)
  · simp [s0, s1, s5, hlt]
    intro _
    refine List.ext_getElem? fun j => ?_
    by_cases hji : j < i
    · exact hj j hji
    · rw [List.getElem?_eq_none (by omega), List.getElem?_eq_none (by omega)]

theorem c96 (a b : List Int) : Holds Try.prog 96 [ints a, ints b] (fun r => r = .bool (decide (a = b))) := by
  refine holds_of_run Try.func96 a96_ok rfl (by simp [a96]) ?_
  simp [a96]
  intro h1 h2
  refine ⟨fun h e => h (by rw [e]), fun hl _ => rL_of (fun k s h n => ∃ i : Nat, k = a.length - i ∧ i ≤ a.length ∧ s 0 = ints a ∧ s 1 = ints b ∧ s 12 = i64 a.length ∧ s 13 = i64 i ∧ (∀ j, j < i → a[j]? = b[j]?) ∧ h = noHeap ∧ n = 0) a.length ⟨0, by simp⟩ ?_⟩
  rintro k s h n ⟨i, rfl, hi, s0, s1, s12, s13, hj, rfl, rfl⟩
  have hl : a.length = b.length := by omega
  by_cases hlt : i < a.length
  · have hlt' : i < b.length := by omega
    unfold LIM at h1
    simp [s0, s1, s12, s13, hlt, hlt']
    refine ⟨fun h e => h (by subst e; rfl), fun e => ⟨a.length - (i + 1), by omega, i + 1, rfl, by omega, by rw [wrap64 (by omega)]; rfl, fun j hj' => ?_⟩⟩
    by_cases hji : j = i
    · subst hji; simp [hlt, hlt', e]
    · exact hj j (by omega)
  · simp [s12, s13, hlt]
    refine List.ext_getElem? fun j => ?_
    by_cases hji : j < i
    · exact hj j hji
    · rw [List.getElem?_eq_none (by omega), List.getElem?_eq_none (by omega)]

theorem c54 (b : Bool) (n : Int) (l : List Int) (b' : Bool) (n' : Int) (l' : List Int) : Holds Try.prog 54 [valA b n l, valA b' n' l'] (fun r => r = .bool (decide (b = b' ∧ n = n' ∧ l = l'))) := by
  refine holds_of_run Try.func54 a54_ok rfl (by simp [a54]) ?_
  simp [a54]
  refine ⟨fun hb => ⟨fun hn => ?_, fun hn _ h => absurd h hn⟩, fun hb h => absurd h hb⟩
  subst hb hn
  refine call_of (c96 l l') (by simp) ?_
  rintro r rfl
  simp

def outA (st : Int) (b : Bool) (n : Int) (l : List Int) (ca co : Int) : AV := .agg [i64 st, .bool b, i64 n, ints l, i64 ca, i64 co]
def outU (st : Int) (b : Bool) (n : Int) (l : List Int) (ca co : Int) : AV := .agg [i64 st, .bool b, i64 n, .us 1 (intsR l), i64 ca, i64 co]
attribute [simp] outA outU

theorem c17 (st : Int) (b : Bool) (n : Int) (l : List Int) (ca co left : Int) (hl : -4611686018427387904 ≤ left ∧ left ≤ 4611686018427387904) : Holds Try.prog 17 [outA st b n l ca co, i64 left] (fun r => r = i64 (if left - l.length < 0 then -1 else left - l.length)) := by
  refine holds_of_run Try.func17 a17_ok rfl (by simp [a17]) ?_
  simp [a17]
  refine call_of (c10 b n l left hl) (by simp) ?_
  rintro r rfl
  simp
  split <;> omega

theorem c19 (st : Int) (b : Bool) (n : Int) (l : List Int) (ca co : Int) (hl : l.length ≤ 1048576) : Holds Try.prog 19 [outA st b n l ca co] (fun r => r = outU st b n l ca co) := by
  refine holds_of_run Try.func19 a19_ok rfl (by simp [a19]) ?_
  simp [a19]
  refine call_of (c12 b n l hl) (by simp) ?_
  rintro r rfl
  simp

theorem c21 (st : Int) (b : Bool) (n : Int) (l : List Int) (ca co : Int) (st' : Int) (b' : Bool) (n' : Int) (l' : List Int) (ca' co' : Int) :
    Holds Try.prog 21 [outA st b n l ca co, outA st' b' n' l' ca' co'] (fun r => r = .bool (decide (st = st' ∧ (b = b' ∧ n = n' ∧ l = l') ∧ ca = ca' ∧ co = co'))) := by
  refine holds_of_run Try.func21 a21_ok rfl (by simp [a21]) ?_
  simp [a21]
  refine ⟨fun h h' => absurd h' h, fun h => ?_⟩
  subst h
  refine call_of (c14 b n l b' n' l') (by simp) ?_
  rintro r rfl
  simp
  grind

theorem c20 (st : Int) (b : Bool) (n : Int) (l : List Int) (ca co : Int) (st' : Int) (b' : Bool) (n' : Int) (l' : List Int) (ca' co' : Int) :
    Holds Try.prog 20 [outA st b n l ca co, outA st' b' n' l' ca' co'] (fun r => r = .bool (decide (st = st' ∧ (b = b' ∧ n = n' ∧ l = l') ∧ ca = ca' ∧ co = co'))) := by
  refine holds_of_run Try.func20 a20_ok rfl (by simp [a20]) ?_
  simp [a20]
  refine ⟨fun h => ?_, fun h h' => absurd h' h⟩
  subst h
  refine call_of (c54 b n l b' n' l') (by simp) ?_
  rintro r rfl
  simp
  grind

def vRow (v : Bool × Int × List Int) : List AV := [.bool v.1, i64 v.2.1, ints v.2.2]
def vals (l : List (Bool × Int × List Int)) : AV := .sl 3 (l.map vRow)

set_option maxRecDepth 8000 in
theorem c53 (a b : List (Bool × Int × List Int)) : Holds Try.prog 53 [vals a, vals b] (fun r => r = .bool (decide (a = b))) := by
  refine holds_of_run Try.func53 a53_ok rfl (by simp [a53]) ?_
  simp [a53, vals]
  intro h1 h2
  refine ⟨fun h e => h (by rw [e]), fun hl => rL_of (fun k s h n => ∃ i : Nat, k = a.length - i ∧ i ≤ a.length ∧ s 0 = vals a ∧ s 1 = vals b ∧ s 5 = i64 i ∧ (∀ j, j < i → a[j]? = b[j]?) ∧ h = noHeap ∧ n = 0) a.length ⟨0, by simp [vals]⟩ ?_⟩
  rintro k s h n ⟨i, rfl, hi, s0, s1, s5, hj, rfl, rfl⟩
  have hl : a.length = b.length := by omega
  by_cases hlt : i < a.length
  · have hlt' : i < b.length := by omega
    unfold LIM at h1
    simp [s0, s1, s5, hlt, hlt', vals, vRow]
    intro _
    refine ⟨fun e1 => ⟨fun e2 => ?_, fun e2 e => e2 (by subst e; rfl)⟩, fun e1 e => e1 (by subst e; rfl)⟩
    refine callD_of (c81 a[i].2.2 b[i].2.2) (by simp) ?_
    rintro r rfl
    simp [s0, s1, s5, vals]
    refine ⟨fun h e => h (by subst e; rfl), fun e3 => ⟨a.length - (i + 1), by omega, i + 1, rfl, by omega, by rw [wrap64 (by omega)]; rfl, fun j hj' => ?_⟩⟩
    by_cases hji : j = i
    · subst hji
      rw [List.getElem?_eq_getElem hlt, List.getElem?_eq_getElem hlt']
      exact congrArg some (Prod.ext e1 (Prod.ext e2 e3))
    · exact hj j (by omega)
  · simp [s0, s1, s5, hlt, vals]
    intro _
    refine List.ext_getElem? fun j => ?_
    by_cases hji : j < i
    · exact hj j hji
    · rw [List.getElem?_eq_none (by omega), List.getElem?_eq_none (by omega)]

theorem c18 (st : Int) (b : Bool) (n : Int) (l : List Int) (ca co : Int) (st' : Int) (b' : Bool) (n' : Int) (l' : List Int) (ca' co' : Int) :
    Holds Try.prog 18 [outA st b n l ca co, outA st' b' n' l' ca' co'] (fun r => r = .bool (decide (st = st' ∧ (b = b' ∧ n = n' ∧ l = l') ∧ ca = ca' ∧ co = co'))) := by
  refine holds_of_run Try.func18 a18_ok rfl (by simp [a18]) ?_
  simp [a18]
  refine ⟨fun h1 => ⟨fun h2 => ⟨fun h3 => ?_, fun h3 => by grind⟩, fun h2 => by grind⟩, fun h1 => by grind⟩
  subst h1 h2 h3
  refine call_of (c53 [(b, n, l)] [(b', n', l')]) (by simp [vals, vRow]) ?_
  rintro r rfl
  simp

theorem c5 (st : Int) (b : Bool) (n : Int) (l : List Int) (ca co : Int) (st' : Int) (b' : Bool) (n' : Int) (l' : List Int) (ca' co' : Int) :
    Holds Try.prog 5 [outA st b n l ca co, outA st' b' n' l' ca' co'] (fun r => r = .bool true) := by
  refine holds_of_run Try.func5 a5_ok rfl (by simp [a5]) ?_
  simp [a5]
  refine call_of (c17 st b n l ca co 1048576 (by omega)) (by simp) ?_
  rintro r rfl
  simp
  intro hsz
  have hl : l.length ≤ 1048576 := by split at hsz <;> omega
  rw [if_neg (by omega)]
  clear hsz
  refine call_of (c17 st' b' n' l' ca' co' (1048576 - l.length) (by omega)) (by simp) ?_
  rintro r rfl
  simp
  intro hsz
  have hl' : l'.length ≤ 1048576 := by split at hsz <;> omega
  clear hsz
  refine callD_of (c19 st b n l ca co hl) (by simp) ?_
  rintro r rfl
  simp
  refine callD_of (c19 st' b' n' l' ca' co' hl') (by simp) ?_
  rintro r rfl
  simp
  refine callD_of (c18 st b n l ca co st' b' n' l' ca' co') (by simp) ?_
  rintro r rfl
  simp
  refine call_of (c19 st b n l ca co hl) (by simp) ?_
  rintro r rfl
  simp
  refine call_of (c19 st' b' n' l' ca' co' hl') (by simp) ?_
  rintro r rfl
  simp
  refine call_of (c20 st b n l ca co st' b' n' l' ca' co') (by simp) ?_
  rintro r rfl
  simp
  refine callD_of (c19 st b n l ca co hl) (by simp) ?_
  rintro r rfl
  simp
  refine callD_of (c21 st b n l ca co st b n l ca co) (by simp) ?_
  rintro r rfl
  simp
  refine callD_of (c19 st' b' n' l' ca' co' hl') (by simp) ?_
  rintro r rfl
  simp
  refine callD_of (c21 st' b' n' l' ca' co' st' b' n' l' ca' co') (by simp) ?_
  rintro r rfl
  simp
end Go.Proofs.Ytlefdibgonpoaaa

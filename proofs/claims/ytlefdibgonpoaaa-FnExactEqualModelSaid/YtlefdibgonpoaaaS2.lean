/- Functions of the laws: lists of whole numbers, and values. -/
import Derived.Test.YtlefdibgonpoaaaS1
import Derived.Test.YtlefdibgonpoaaaR22
namespace Go.Proofs.Ytlefdibgonpoaaa
open Go Go.RowKit Go.Proofs

theorem c46 (a : List Int) (left : Int) (hl : -4611686018427387904 ≤ left ∧ left ≤ 4611686018427387904) : Holds Try.prog 46 [ints a, i64 left] (fun r => r = i64 (if left - a.length < 0 then -1 else left - a.length)) := by
  refine holds_of_run Try.func46 a46_ok rfl (by simp [a46]) ?_
  simp [a46]
  unfold LIM
  intro h1
  rw [wrap64 (by omega)]
  exact ⟨fun h h' => by omega, fun h => by rw [if_neg (by omega)]⟩

theorem c47 (a : List Int) (hl : a.length ≤ 1048576) : Holds Try.prog 47 [ints a] (fun r => r = .us 1 (intsR a)) := by
  refine holds_of_run Try.func47 a47_ok rfl (by simp [a47]) ?_
  simp [a47]
  intro h1
  refine ⟨by unfold LIM; omega, rL_of (fun k s h n => ∃ (i : Nat) (rows : List (List AV)), k = a.length - i ∧ i ≤ a.length ∧ s 0 = ints a ∧ s 3 = .ref 0 0 a.length ∧ s 4 = i64 i ∧ h = upd noHeap 0 (some ⟨false, 1, rows⟩) ∧ n = 1 ∧
    rows.length = a.length ∧ (∀ j, j < i → rows[j]? = (intsR a)[j]?) ∧ (∀ j (hj : j < rows.length), rows[j].length = 1)) a.length ⟨0, List.replicate a.length [i64 0], by simp⟩ ?_⟩
  rintro k s h n ⟨i, rows, rfl, hi, s0, s3, s4, rfl, rfl, hr, hj, hc⟩
  by_cases hlt : i < a.length
  · have hm := hc i (by omega)
    have htl : rows[i].tail = [] := List.eq_nil_of_length_eq_zero (by simp [hm])
    simp [s0, s3, s4, hlt, hr, hm]
    intro _
    refine ⟨a.length - (i + 1), by omega, i + 1, rfl, by omega, by rw [wrap64 (by omega)]; rfl, rows.set i [i64 a[i]], by simp [htl], by simp [hr], fun j hj' => ?_, fun j hj' => ?_⟩
    · rw [List.getElem?_set]
      by_cases hji : i = j
      · subst hji; simp [hr, hlt]
      · rw [if_neg hji]; simpa using hj j (by omega)
    · rw [List.getElem_set]
      split
      · rfl
      · exact hc j (by simpa using hj')
  · simp [s0, s3, s4, hlt, hr]
    intro _
    have : rows = intsR a := List.ext_getElem? fun j => by
      by_cases hji : j < i
      · exact hj j hji
      · rw [List.getElem?_eq_none (by omega), List.getElem?_eq_none (by simp; omega)]
    subst this
    simp [List.take_of_length_le]

theorem c48 (a b : List Int) : Holds Try.prog 48 [ints a, ints b] (fun r => r = .bool (decide (a = b))) := by
  refine holds_of_run Try.func48 a48_ok rfl (by simp [a48]) ?_
  simp [a48]
  intro h1 h2
  refine ⟨fun h e => h (by rw [e]), fun hl => rL_of (fun k s h n => ∃ i : Nat, k = a.length - i ∧ i ≤ a.length ∧ s 0 = ints a ∧ s 1 = ints b ∧ s 5 = i64 i ∧ (∀ j, j < i → a[j]? = b[j]?) ∧ h = noHeap ∧ n = 0) a.length ⟨0, by simp⟩ ?_⟩
  rintro k s h n ⟨i, rfl, hi, s0, s1, s5, hj, rfl, rfl⟩
  have hl : a.length = b.length := by omega
  by_cases hlt : i < a.length
  · have hlt' : i < b.length := by omega
    unfold LIM at h1
    simp [s0, s1, s5, hlt, hlt']
    intro _
    refine ⟨fun h e => h (by subst e; rfl), fun e => ⟨a.length - (i + 1), by omega, i + 1, rfl, by omega, by rw [wrap64 (by omega)]; rfl, fun j hj' => ?_⟩⟩
    by_cases hji : j = i
    · subst hji; simp [hlt, hlt', e]
    · exact hj j (by omega)
  · simp [s0, s1, s5, hlt]
    intro _
    refine List.ext_getElem? fun j => ?_
    by_cases hji : j < i
    · exact hj j hji
    · rw [List.getElem?_eq_none (by omega), List.getElem?_eq_none (by omega)]

/-- A value, as it is handed over, and as it is given back. -/
def valA (b : Bool) (n : Int) (l : List Int) : AV := .agg [.bool b, i64 n, ints l]
def valU (b : Bool) (n : Int) (l : List Int) : AV := .agg [.bool b, i64 n, .us 1 (intsR l)]
attribute [simp] valA valU

theorem c10 (b : Bool) (n : Int) (l : List Int) (left : Int) (hl : -4611686018427387904 ≤ left ∧ left ≤ 4611686018427387904) : Holds Try.prog 10 [valA b n l, i64 left] (fun r => r = i64 (if left - l.length < 0 then -1 else left - l.length)) := by
  refine holds_of_run Try.func10 a10_ok rfl (by simp [a10]) ?_
  simp [a10]
  refine call_of (c46 l left hl) (by simp) ?_
  rintro r rfl
  simp
  split <;> omega

theorem c11 (b : Bool) (n : Int) (l : List Int) : Holds Try.prog 11 [valA b n l] (fun r => r = i64 (if b then l.length else n)) := by
  refine holds_of_run Try.func11 a11_ok rfl (by simp [a11]) ?_
  simp [a11]
  exact ⟨fun h _ => by simp [h], fun h h' => by simp [h] at h'⟩

theorem c13 (b : Bool) (n : Int) (l : List Int) : Holds Try.prog 13 [valA b n l] (fun r => r = i64 (if b then l.length else n)) := by
  refine holds_of_run Try.func13 a13_ok rfl (by simp [a13]) ?_
  simp [a13]
  exact ⟨fun h _ => by simp [h], fun h h' => by simp [h] at h'⟩

theorem c12 (b : Bool) (n : Int) (l : List Int) (hl : l.length ≤ 1048576) : Holds Try.prog 12 [valA b n l] (fun r => r = valU b n l) := by
  refine holds_of_run Try.func12 a12_ok rfl (by simp [a12]) ?_
  simp [a12]
  refine call_of (c47 l hl) (by simp) ?_
  rintro r rfl
  simp [List.take_of_length_le]

theorem c14 (b : Bool) (n : Int) (l : List Int) (b' : Bool) (n' : Int) (l' : List Int) : Holds Try.prog 14 [valA b n l, valA b' n' l'] (fun r => r = .bool (decide (b = b' ∧ n = n' ∧ l = l'))) := by
  refine holds_of_run Try.func14 a14_ok rfl (by simp [a14]) ?_
  simp [a14]
  refine ⟨fun h h' => absurd h' h, fun hb => ⟨fun h _ h' => absurd h' h, fun hn => ?_⟩⟩
  subst hb hn
  refine call_of (c48 l l') (by simp) ?_
  rintro r rfl
  simp

theorem c3 (b : Bool) (n : Int) (l : List Int) : Holds Try.prog 3 [valA b n l] (fun r => r = .bool true) := by
  refine holds_of_run Try.func3 a3_ok rfl (by simp [a3]) ?_
  simp [a3]
  refine call_of (c10 b n l 1048576 (by omega)) (by simp) ?_
  rintro r rfl
  simp
  intro hsz
  have hl : l.length ≤ 1048576 := by split at hsz <;> omega
  clear hsz
  refine call_of (c12 b n l hl) (by simp) ?_
  rintro r rfl
  simp
  refine call_of (c11 b n l) (by simp) ?_
  rintro r rfl
  simp
  refine call_of (c12 b n l hl) (by simp) ?_
  rintro r rfl
  simp
  refine call_of (c13 b n l) (by simp) ?_
  rintro r rfl
  simp
  refine callD_of (c12 b n l hl) (by simp) ?_
  rintro r rfl
  simp
  refine callD_of (c14 b n l b n l) (by simp) ?_
  rintro r rfl
  simp

end Go.Proofs.Ytlefdibgonpoaaa

/- Contracts: values are valid. -/
import Derived.Test.YtlefdibgonpoaaaS2
import Derived.Test.YtlefdibgonpoaaaS3
namespace Go.Proofs.Ytlefdibgonpoaaa
open Go Go.RowKit Go.Proofs

theorem len_beq {α : Type} (l : List α) : ((l.length : Int) == 0) = decide (l = []) := by
  cases l with
  | nil => rfl
  | cons a l => simp; omega

theorem c84 (n lo hi : Int) : Holds Try.prog 84 [i64 n, i64 lo, i64 hi] (fun r => r = .bool (decide (lo ≤ n ∧ n ≤ hi))) := by
  refine holds_of_run Try.func84 a84_ok rfl (by simp [a84]) ?_
  simp [a84]
  omega
theorem c86 (n lo hi : Int) : Holds Try.prog 86 [i64 n, i64 lo, i64 hi] (fun r => r = .bool (decide (lo ≤ n ∧ n ≤ hi))) := by
  refine holds_of_run Try.func86 a86_ok rfl (by simp [a86]) ?_
  simp [a86]
  omega
def fits (n : Int) : Bool := decide (-1000000 ≤ n ∧ n ≤ 1000000)
theorem c49 (n : Int) : Holds Try.prog 49 [i64 n] (fun r => r = .bool (fits n)) := by
  refine holds_of_run Try.func49 a49_ok rfl (by simp [a49]) ?_
  simp [a49]
  refine call_of (c84 n (-1000000) 1000000) (by simp) ?_
  rintro r rfl
  simp [fits]
theorem c50 (n : Int) : Holds Try.prog 50 [i64 n] (fun r => r = .bool (fits n)) := by
  refine holds_of_run Try.func50 a50_ok rfl (by simp [a50]) ?_
  simp [a50]
  refine call_of (c86 n (-1000000) 1000000) (by simp) ?_
  rintro r rfl
  simp [fits]
theorem c52 (n : Int) : Holds Try.prog 52 [i64 n] (fun r => r = .bool (!fits n)) := by
  refine holds_of_run Try.func52 a52_ok rfl (by simp [a52]) ?_
  simp [a52]
  refine call_of (c50 n) (by simp) ?_
  rintro r rfl
  simp
/-- slices.IndexFunc over whole numbers. -/
theorem c95 (l : List Int) (g : FuncId) (p : Int → Bool) (hg : ∀ x, Holds Try.prog g [i64 x] (fun r => r = .bool (p x))) :
    Holds Try.prog 95 [ints l, .fn (.func g) [] []] (fun r => ∃ i : Int, r = i64 i ∧ decide (0 ≤ i) = l.any p) := by
  refine holds_of_run Try.func95 a95_ok rfl (by simp [a95]) ?_
  simp [a95]
  intro h1
  refine rL_of (fun k s h n => ∃ i : Nat, k = l.length - i ∧ i ≤ l.length ∧ s 0 = ints l ∧ s 1 = .fn (.func g) [] [] ∧ s 7 = i64 l.length ∧ s 8 = i64 i ∧ (∀ j (hj : j < l.length), j < i → p l[j] = false) ∧ h = noHeap ∧ n = 0) l.length ⟨0, by simp⟩ ?_
  rintro k s h n ⟨i, rfl, hi, s0, s1, s7, s8, hj, rfl, rfl⟩
  by_cases hlt : i < l.length
  · simp [s0, s1, s7, s8, hlt]
    refine call_of (hg l[i]) (by simp) ?_
    rintro r rfl
    simp [s0, s1, s7, s8]
    refine ⟨fun h => ⟨_, List.getElem_mem hlt, h⟩, fun h => ⟨l.length - (i + 1), by omega, i + 1, rfl, by omega, ?_, fun j hj' hji => ?_⟩⟩
    · unfold LIM at h1; rw [wrap64 (by omega)]; rfl
    · by_cases hji' : j = i
      · subst hji'; exact h
      · exact hj j hj' (by omega)
  · simp [s0, s1, s7, s8, hlt]
    intro x hx
    obtain ⟨j, hj', rfl⟩ := List.mem_iff_getElem.1 hx
    exact hj j hj' (by omega)
theorem c51 (l : List Int) (g : FuncId) (p : Int → Bool) (hg : ∀ x, Holds Try.prog g [i64 x] (fun r => r = .bool (p x))) :
    Holds Try.prog 51 [ints l, .fn (.func g) [] []] (fun r => r = .bool (l.any p)) := by
  refine holds_of_run Try.func51 a51_ok rfl (by simp [a51]) ?_
  simp [a51]
  refine call_of (c95 l g p hg) (by simp) ?_
  rintro r ⟨i, rfl, hi⟩
  simp [hi]

def validV (b : Bool) (n : Int) (l : List Int) : Bool := l.all fits && (if b then decide (n = 0) && decide (l.length ≤ 40) else fits n && decide (l.length = 0))

theorem c15 (b : Bool) (n : Int) (l : List Int) : Holds Try.prog 15 [valA b n l] (fun r => r = .bool (validV b n l)) := by
  refine holds_of_run Try.func15 a15_ok rfl (by simp [a15]) ?_
  simp [a15]
  refine rL_of (fun k s h m => ∃ i : Nat, k = l.length - i ∧ i ≤ l.length ∧ s 1 = .ptr 0 0 0 ∧ s 3 = i64 i ∧ (∀ j (hj : j < l.length), j < i → fits l[j] = true) ∧ h = upd noHeap 0 (some ⟨true, 3, [[.bool b, i64 n, ints l]]⟩) ∧ m = 1) l.length ⟨0, by simp⟩ ?_
  rintro k s h m ⟨i, rfl, hi, s1, s3, hj, rfl, rfl⟩
  by_cases hlt : i < l.length
  · have hge : ¬ l.length ≤ i := by omega
    simp [s1, s3, hlt, hge]
    intro h1
    refine call_of (c49 l[i]) (by simp) ?_
    rintro r rfl
    simp [s1, s3]
    refine ⟨fun hf => ?_, fun hf => ⟨l.length - (i + 1), by omega, i + 1, rfl, by omega, ?_, fun j hj' hji => ?_⟩⟩
    · have : l.all fits = false := by
        rw [List.all_eq_false]; exact ⟨_, List.getElem_mem hlt, by simp [hf]⟩
      simp [validV, this]
    · unfold LIM at h1; rw [wrap64 (by omega)]; rfl
    · by_cases hji' : j = i
      · subst hji'; exact hf
      · exact hj j hj' (by omega)
  · have hall : l.all fits = true := List.all_eq_true.2 fun x hx => by
      obtain ⟨j, hj', rfl⟩ := List.mem_iff_getElem.1 hx
      exact hj j hj' (by omega)
    simp [s1, s3, hlt]
    intro h1
    refine ⟨by omega, fun _ => ⟨fun hb => ?_, fun hb => ?_⟩⟩
    · subst hb
      refine ⟨fun hn h2 => ?_, fun hn => ?_⟩
      · simp [validV, hall, hn]; omega
      · simp [validV, hn]
    · subst hb
      refine call_of (c49 n) (by simp) ?_
      rintro r rfl
      simp [s1]
      refine ⟨fun hf _ => ?_, fun hf => ?_⟩
      · simp [validV, hall, hf, len_beq]
      · simp [validV, hf]
theorem c16 (b : Bool) (n : Int) (l : List Int) : Holds Try.prog 16 [valA b n l] (fun r => r = .bool (validV b n l)) := by
  refine holds_of_run Try.func16 a16_ok rfl (by simp [a16]) ?_
  simp [a16]
  refine ⟨fun hb => ?_, fun hb => ?_⟩
  · subst hb
    refine call_of (c50 n) (by simp) ?_
    rintro r rfl
    simp
    refine ⟨fun hf _ => ?_, fun hf => by simp [validV, hf]⟩
    rw [len_beq]
    cases l <;> simp [validV, hf]
  · subst hb
    refine ⟨fun hn hl => ⟨fun h40 => ?_, ?_⟩, ?_⟩
    · refine call_of (c51 l 52 (fun n => !fits n) c52) (by simp) ?_
      rintro r rfl
      simp [List.any_eq_not_all_not, validV, hn]
      omega
    · intro h; simp [validV]; omega
    · intro h; simp [validV, h]

theorem c4 (b : Bool) (n : Int) (l : List Int) : Holds Try.prog 4 [valA b n l] (fun r => r = .bool true) := by
  refine holds_of_run Try.func4 a4_ok rfl (by simp [a4]) ?_
  simp [a4]
  refine call_of (c10 b n l 1048576 (by omega)) (by simp) ?_
  rintro r rfl
  simp
  intro hsz
  have hl : l.length ≤ 1048576 := by split at hsz <;> omega
  clear hsz
  refine call_of (c12 b n l hl) (by simp) ?_
  rintro r rfl
  simp
  refine call_of (c15 b n l) (by simp) ?_
  rintro r rfl
  simp
  refine call_of (c12 b n l hl) (by simp) ?_
  rintro r rfl
  simp
  refine call_of (c16 b n l) (by simp) ?_
  rintro r rfl
  simp
  refine callD_of (c12 b n l hl) (by simp) ?_
  rintro r rfl
  simp
  refine callD_of (c14 b n l b n l) (by simp) ?_
  rintro r rfl
  simp
end Go.Proofs.Ytlefdibgonpoaaa

/- Contracts: systems. -/
import Derived.Test.YtlefdibgonpoaaaS11
namespace Go.Proofs.Ytlefdibgonpoaaa
open Go Go.RowKit Go.Proofs

theorem szLoop_neg {α : Type} {szE : α → Int → Int} : ∀ (a : List α) (left : Int), 0 ≤ left → szLoop szE a left < 0 → szLoop szE a left = -1
  | [], left, h, h' => by simp only [szLoop] at h'; omega
  | x :: a, left, h, h' => by
    simp only [szLoop] at h' ⊢
    split at h' <;> rename_i hx
    · rw [if_pos hx]
    · rw [if_neg hx]; exact szLoop_neg a _ (by omega) h'
theorem szL_neg {α : Type} {szE : α → Int → Int} (a : List α) (left : Int) (h' : szL szE a left < 0) : szL szE a left = -1 := by
  unfold szL at h' ⊢
  split at h' <;> rename_i hx
  · rw [if_pos hx]
  · rw [if_neg hx]; exact szLoop_neg a _ (by omega) h'

theorem c62 (n : Int) (a : List LinD) (m : Int) (b : List LinD) : Holds Try.prog 62 [sysA n a, sysA m b] (fun r => r = .bool (decide (n = m ∧ a = b))) := by
  refine holds_of_run Try.func62 a62_ok rfl (by simp [a62]) ?_
  simp [a62, sysA, linsA]
  refine ⟨fun h => ?_, fun h e => absurd e h⟩
  subst h
  refine call_of (c63 a b) (by simp [linsA]) ?_
  rintro r rfl
  simp

theorem c55 (n : Int) (a : List LinD) (left : Int) (hl : 0 ≤ left ∧ left ≤ 4611686018427387904) : Holds Try.prog 55 [sysA n a, i64 left] (fun r => r = i64 (szLins a left)) := by
  refine holds_of_run Try.func55 a55_ok rfl (by simp [a55]) ?_
  simp [a55, sysA, linsA]
  refine call_of (c35 a left hl) (by simp [linsA]) ?_
  rintro r rfl
  simp
  exact ⟨fun h => (szL_neg a left h).symm, fun _ => rfl⟩

theorem c60 (n : Int) (a : List LinD) (hl : a.length ≤ 1048576) (hx : ∀ x ∈ a, x.2.length ≤ 1048576) : Holds Try.prog 60 [sysA n a] (fun r => r = sysU n a) := by
  refine holds_of_run Try.func60 a60_ok rfl (by simp [a60]) ?_
  simp [a60, sysA, linsA]
  refine call_of (c37 a hl hx) (by simp [linsA]) ?_
  rintro r rfl
  have h1 : List.take a.length (a.map fun x => cellsOf (linU x)) = a.map fun x => cellsOf (linU x) := List.take_of_length_le (by simp)
  have h2 := clean_linsU a
  simp only [linsU, clean] at h2
  simp [linsU] at h1 h2 ⊢
  rw [h1]
  exact ⟨h2, by simp [sysU, linsU]⟩

theorem c66 (n : Int) (a : List LinD) (m : Int) (b : List LinD) : Holds Try.prog 66 [sysA n a, sysA m b] (fun r => r = .bool (decide (n = m ∧ a = b))) := by
  refine holds_of_run Try.func66 a66_ok rfl (by simp [a66]) ?_
  simp [a66, sysA, linsA]
  refine ⟨fun h e => absurd e h, fun h => ?_⟩
  subst h
  refine call_of (c39 a b) (by simp [linsA]) ?_
  rintro r rfl
  simp
end Go.Proofs.Ytlefdibgonpoaaa

/- Which functions are reached from which: plain laws. -/
import Derived.Test.YtilcageplifbgaaGreatKV0
namespace Go.Proofs.YtilcageplifbgaaGreat
set_option linter.all false
open Go Go.RowKit Go.Proofs
theorem hasS_iff {l : List Str} {s : Str} : hasS l s = true ↔ s ∈ l := by simp [hasS]
theorem hasS_not {l : List Str} {s : Str} : hasS l s = false ↔ s ∉ l := by rw [← Bool.not_eq_true, hasS_iff]
end Go.Proofs.YtilcageplifbgaaGreat

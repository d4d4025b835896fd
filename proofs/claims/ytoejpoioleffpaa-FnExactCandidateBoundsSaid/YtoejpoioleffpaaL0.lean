/- The parameters of the laws, opened. -/
import Derived.Test.YtoejpoioleffpaaT1
import Derived.Test.YtoejpoioleffpaaR31
import Derived.Test.YtoejpoioleffpaaProg
namespace Go.Proofs.Ytoejpoioleffpaa
set_option linter.all false
open Go Go.RowKit Go.Proofs Go.ChangeShapes Go.WideShapes

theorem Try.own : ownKnob Try.prog.godebug = none := by kernel_rfl
theorem Try.laidOut : laidOutB Try.prog = true := by kernel_rfl
theorem list_of_rows {α : Type} {P : List AV → Prop} {f : α → List AV} (hP : ∀ r, P r → ∃ x, r = f x) : ∀ {rows : List (List AV)}, (∀ r ∈ rows, P r) → ∃ l : List α, rows = l.map f
  | [], _ => ⟨[], rfl⟩
  | r :: rows, h => by
    obtain ⟨x, rfl⟩ := hP r (h _ List.mem_cons_self)
    obtain ⟨l, rfl⟩ := list_of_rows hP fun r hr => h r (List.mem_cons_of_mem _ hr)
    exact ⟨x :: l, rfl⟩
theorem ArgOf_slice {P : Program} {f : Nat} {t e : TypeId} {a : AV} (hu : P.underlying t = some (.slice e)) (h : ArgOf P f t a) : Row P f t [a] := by simpa only [ArgOf, hu] using h
theorem ArgOf_int {P : Program} {f : Nat} {t : TypeId} {k : IntKind} {a : AV} (hu : P.underlying t = some (.int k)) (h : ArgOf P (f + 1) t a) : ∃ n, a = .int k n ∧ (Lit.int k n).wf = true := by
  have h : Row P (f + 1) t [a] := by simpa only [ArgOf, hu] using h
  obtain ⟨n, h1, h2⟩ := Row_int hu h
  exact ⟨n, by simpa using h1, h2⟩
theorem ArgOf_string {P : Program} {f : Nat} {t : TypeId} {a : AV} (hu : P.underlying t = some .string) (h : ArgOf P (f + 1) t a) : ∃ l : Str, a = .str l ∧ l.length ≤ LIM := by
  have h : Row P (f + 1) t [a] := by simpa only [ArgOf, hu] using h
  obtain ⟨n, h1, h2⟩ := Row_string hu h
  exact ⟨n, by simpa using h1, h2⟩
set_option maxRecDepth 100000

end Go.Proofs.Ytoejpoioleffpaa

/- The parameters of the laws, opened: outcomes. -/
import Derived.Test.YtlefdibgonpoaaaS6
import Derived.Test.YtlefdibgonpoaaaL0
namespace Go.Proofs.Ytlefdibgonpoaaa
open Go Go.RowKit Go.Proofs
set_option maxRecDepth 100000 in
theorem arg33 {a : AV} (h : ArgOf Try.prog 6 33 a) : ∃ st b n l ca co, a = outA st b n l ca co := by
  obtain ⟨row, rfl, h1⟩ := ArgOf_struct Try.underlying33 h
  obtain ⟨parts, rfl, g0⟩ := Row_struct Try.underlying33 h1
  obtain ⟨x, m1, rfl, h0, g1⟩ := All2_cons g0
  obtain ⟨y, m2, rfl, h1', g2⟩ := All2_cons g1
  obtain ⟨z, m3, rfl, h2, g3⟩ := All2_cons g2
  obtain ⟨u, m4, rfl, h3, g4⟩ := All2_cons g3
  cases All2_nil g4
  obtain ⟨st, rfl, _⟩ := Row_int Try.underlying3 h0
  obtain ⟨b, n, l, rfl⟩ := val_of h1'
  obtain ⟨ca, rfl, _⟩ := Row_int Try.underlying3 h2
  obtain ⟨co, rfl, _⟩ := Row_int Try.underlying3 h3
  exact ⟨st, b, n, l, ca, co, rfl⟩
end Go.Proofs.Ytlefdibgonpoaaa

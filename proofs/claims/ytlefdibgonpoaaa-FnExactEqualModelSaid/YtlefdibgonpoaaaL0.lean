/- The parameters of the laws, opened. -/
import Derived.Test.YtlefdibgonpoaaaS2
import Derived.Test.YtlefdibgonpoaaaR24
namespace Go.Proofs.Ytlefdibgonpoaaa
open Go Go.RowKit Go.Proofs Go.ChangeShapes Go.WideShapes

theorem Try.own : ownKnob Try.prog.godebug = none := by kernel_rfl
theorem Try.laidOut : laidOutB Try.prog = true := by kernel_rfl

set_option maxRecDepth 100000 in
theorem val_of {f : Nat} {r : List AV} (h : Row Try.prog (f + 3) 24 r) : ∃ b n l, r = [.bool b, i64 n, ints l] := by
  obtain ⟨parts, rfl, g0⟩ := Row_struct Try.underlying24 h
  obtain ⟨x, m1, rfl, h0, g1⟩ := All2_cons g0
  obtain ⟨y, m2, rfl, h1, g2⟩ := All2_cons g1
  obtain ⟨z, m3, rfl, h2, g3⟩ := All2_cons g2
  cases All2_nil g3
  obtain ⟨b, rfl⟩ := Row_bool Try.underlying4 h0
  obtain ⟨n, rfl, _⟩ := Row_int Try.underlying3 h1
  obtain ⟨l, rfl⟩ := ints_of Try.underlying22 Try.underlying3 (by kernel_rfl) h2
  exact ⟨b, n, l, rfl⟩

set_option maxRecDepth 100000 in
theorem arg24 {a : AV} (h : ArgOf Try.prog 6 24 a) : ∃ b n l, a = valA b n l := by
  obtain ⟨row, rfl, h1⟩ := ArgOf_struct Try.underlying24 h
  obtain ⟨b, n, l, rfl⟩ := val_of h1
  exact ⟨b, n, l, rfl⟩

end Go.Proofs.Ytlefdibgonpoaaa

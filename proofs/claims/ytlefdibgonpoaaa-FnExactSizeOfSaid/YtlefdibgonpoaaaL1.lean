/- FnExactSizeOf: for every value the law returns true; no condition. -/
import Derived.Test.YtlefdibgonpoaaaS2
import Derived.Test.YtlefdibgonpoaaaR24
namespace Go.Proofs.Ytlefdibgonpoaaa
open Go Go.RowKit Go.Proofs Go.ChangeShapes Go.WideShapes

theorem Try.own : ownKnob Try.prog.godebug = none := by kernel_rfl
theorem Try.laidOut : laidOutB Try.prog = true := by kernel_rfl

set_option maxRecDepth 100000 in
theorem val_of {f : Nat} {r : List AV} (h : Row Try.prog (f + 3) 24 r) : ∃ b n l, r = [.bool b, i64 n, ints l] := by
  obtain ⟨parts, rfl, g0⟩ := Row_struct Try.underlying24 h
  obtain ⟨x, m1, rfl, h0, g1⟩ := All2_cons g0
  obtain ⟨y, m2, rfl, h1, g2⟩ := All2_cons g1
  obtain ⟨z, m3, rfl, h2, g3⟩ := All2_cons g2
  cases All2_nil g3
  obtain ⟨b, rfl⟩ := Row_bool Try.underlying4 h0
  obtain ⟨n, rfl, _⟩ := Row_int Try.underlying3 h1
  obtain ⟨l, rfl⟩ := ints_of Try.underlying22 Try.underlying3 (by kernel_rfl) h2
  exact ⟨b, n, l, rfl⟩

set_option maxRecDepth 100000 in
theorem arg24 {a : AV} (h : ArgOf Try.prog 4 24 a) : ∃ b n l, a = valA b n l := by
  obtain ⟨row, rfl, h1⟩ := ArgOf_struct Try.underlying24 h
  obtain ⟨b, n, l, rfl⟩ := val_of h1
  exact ⟨b, n, l, rfl⟩

set_option maxRecDepth 100000 in
theorem f3_lifted (os : Os) (started : os.Started) (H : Type) (enc : TypeId × Value → H) :
    ReturnsInHanded {} Try.checked os 3 .any (Rows.fnExactSizeOfSpec.pre6 enc Try.prog Try.f3 Rows.fnExactSizeOfRow.domain false) (Rows.fnExactSizeOfSpec.post enc Try.prog Try.f3 false true false false) := by
  refine returnsInHanded_of_change_sized (C := Try.checked) Try.own started (by kernel_rfl) Try.func3
    (ChangeSpec.witness6 (enc := enc) (C := Try.checked) false ⟨#[], #[.agg #[.bool false, .int .i64 0, .slice Option.none 0 0]], []⟩ 8 (by kernel_rfl) (by kernel_rfl) (by kernel_rfl) (by kernel_rfl)) ?_
  intro W base args ds gs before hval hW _ hsz _
  refine law_contract (k := 4) (tb := 4) Try.laidOut rfl Try.underlying4 (by kernel_rfl) (by kernel_rfl) rfl ?_ ?_ base args ds gs before hval hW hsz
  · intro ds hl
    match ds, hl with
    | [d], _ => rfl
  · intro xs hx
    match xs, hx with
    | [a], hx =>
      obtain ⟨b, n, l, rfl⟩ := arg24 hx.1
      exact c3 b n l

theorem f3_holds : Rows.FnExactSizeOfSaid :=
  OpenClaim.holds_of_wide 3 Try.f3 rfl rfl rfl rfl rfl rfl rfl ⟨rfl, rfl, rfl, rfl, rfl⟩ rfl rfl rfl rfl rfl (by kernel_rfl) Try.func3 (by kernel_rfl)
    (of_decide_eq_true (by kernel_rfl)) (by unfold Func.isWrapper; first | (rw [if_pos (by decide +kernel)]; kernel_rfl) | (rw [if_neg (by decide +kernel)]; exact ⟨rfl, rfl⟩))
    (fun os started H enc _ => f3_lifted os started H enc)
#print axioms f3_holds
end Go.Proofs.Ytlefdibgonpoaaa

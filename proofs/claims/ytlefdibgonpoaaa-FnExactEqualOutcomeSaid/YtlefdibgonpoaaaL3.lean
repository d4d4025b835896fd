/- FnExactEqualOutcome: for any two outcomes the law returns true; no condition. -/
import Derived.Test.YtlefdibgonpoaaaL0b
namespace Go.Proofs.Ytlefdibgonpoaaa
open Go Go.RowKit Go.Proofs Go.ChangeShapes Go.WideShapes
set_option maxRecDepth 100000 in
theorem f5_lifted (os : Os) (started : os.Started) (H : Type) (enc : TypeId × Value → H) :
    ReturnsInHanded {} Try.checked os 5 .any (Rows.fnExactEqualOutcomeSpec.pre6 enc Try.prog Try.f5 Rows.fnExactEqualOutcomeRow.domain false) (Rows.fnExactEqualOutcomeSpec.post enc Try.prog Try.f5 false true false false) := by
  refine returnsInHanded_of_change_sized (C := Try.checked) Try.own started (by kernel_rfl) Try.func5
    (ChangeSpec.witness6 (enc := enc) (C := Try.checked) false ⟨#[], #[.agg #[.int .i64 0, .bool false, .int .i64 0, .slice Option.none 0 0, .int .i64 0, .int .i64 0], .agg #[.int .i64 0, .bool false, .int .i64 0, .slice Option.none 0 0, .int .i64 0, .int .i64 0]], []⟩ 8 (by kernel_rfl) (by kernel_rfl) (by kernel_rfl) (by kernel_rfl)) ?_
  intro W base args ds gs before hval hW _ hsz _
  refine law_contract (k := 6) (tb := 4) Try.laidOut rfl Try.underlying4 (by kernel_rfl) (by kernel_rfl) rfl ?_ ?_ base args ds gs before hval hW hsz
  · intro ds hl
    match ds, hl with
    | [d, d2], _ => rfl
  · intro xs hx
    match xs, hx with
    | [a, a2], hx =>
      obtain ⟨st, b, n, l, ca, co, rfl⟩ := arg33 hx.1
      obtain ⟨st2, b2, n2, l2, ca2, co2, rfl⟩ := arg33 hx.2.1
      exact c5 st b n l ca co st2 b2 n2 l2 ca2 co2
theorem f5_holds : Rows.FnExactEqualOutcomeSaid :=
  OpenClaim.holds_of_wide 5 Try.f5 rfl rfl rfl rfl rfl rfl rfl ⟨rfl, rfl, rfl, rfl, rfl⟩ rfl rfl rfl rfl rfl (by kernel_rfl) Try.func5 (by kernel_rfl)
    (of_decide_eq_true (by kernel_rfl)) (by unfold Func.isWrapper; first | (rw [if_pos (by decide +kernel)]; kernel_rfl) | (rw [if_neg (by decide +kernel)]; exact ⟨rfl, rfl⟩))
    (fun os started H enc _ => f5_lifted os started H enc)
#print axioms f5_holds
end Go.Proofs.Ytlefdibgonpoaaa

/- FnExactDifference: for all arguments the law returns true; no condition. -/
import Derived.Test.YtlbdgpkgmheikaaD7
import Derived.Test.YtlbdgpkgmheikaaL0
import Derived.Test.YtlbdgpkgmheikaaRows
namespace Go.Proofs.Ytlbdgpkgmheikaa
set_option linter.all false
open Go Go.RowKit Go.Proofs Go.ChangeShapes Go.WideShapes
set_option maxRecDepth 100000 in
theorem f7_lifted (os : Os) (started : os.Started) (H : Type) (enc : TypeId × Value → H) :
    ReturnsInHanded {} Try.checked os 7 .any (Rows.fnExactDifferenceSpec.pre6 enc Try.prog Try.f7 Rows.fnExactDifferenceRow.domain false) (Rows.fnExactDifferenceSpec.post enc Try.prog Try.f7 false true false false) := by
  refine returnsInHanded_of_change_sized (C := Try.checked) Try.own started (by kernel_rfl) Try.func7
    (ChangeSpec.witness6 (enc := enc) (C := Try.checked) false ⟨#[], #[.agg #[.int .i64 0, .slice Option.none 0 0, .slice Option.none 0 0, .slice Option.none 0 0, .int .i64 0, .slice Option.none 0 0], .agg #[.int .i64 0, .slice Option.none 0 0], .int .i64 0, .agg #[.int .i64 0, .slice Option.none 0 0], .int .i64 0], []⟩ 8 (by kernel_rfl) (by kernel_rfl) (by kernel_rfl) (by kernel_rfl)) ?_
  intro W base args ds gs before hval hW _ hsz _
  refine law_contract (k := 7) (tb := 4) Try.laidOut rfl Try.underlying4 (by kernel_rfl) (by kernel_rfl) rfl ?_ ?_ base args ds gs before hval hW hsz
  · intro ds hl
    match ds, hl with
    | [d0, d1, d2, d3, d4], _ => rfl
  · intro xs hx
    have hp : Try.f7.params.toList = [62, 24, 3, 24, 3] := by kernel_rfl
    rw [hp] at hx
    have q : All2 (fun t a => ArgOf Try.prog 7 t a) [62, 24, 3, 24, 3] xs := hx
    obtain ⟨a0, xs, rfl, q0, q⟩ := All2_cons q
    obtain ⟨a1, xs, rfl, q1, q⟩ := All2_cons q
    obtain ⟨a2, xs, rfl, q2, q⟩ := All2_cons q
    obtain ⟨a3, xs, rfl, q3, q⟩ := All2_cons q
    obtain ⟨a4, xs, rfl, q4, q⟩ := All2_cons q
    cases All2_nil q
    obtain ⟨x0, rfl⟩ := arg_Model q0
    obtain ⟨x1, rfl⟩ := arg_Lin q1
    obtain ⟨x2, rfl, w2⟩ := ArgOf_int Try.underlying3 q2
    obtain ⟨x3, rfl⟩ := arg_Lin q3
    obtain ⟨x4, rfl, w4⟩ := ArgOf_int Try.underlying3 q4
    exact law_Difference x0 x1 x2 x3 x4
theorem f7_holds : Rows.FnExactDifferenceSaid :=
  OpenClaim.holds_of_wide 7 Try.f7 rfl rfl rfl rfl rfl rfl rfl ⟨rfl, rfl, rfl, rfl, rfl⟩ rfl rfl rfl rfl rfl (by kernel_rfl) Try.func7 (by kernel_rfl)
    (of_decide_eq_true (by kernel_rfl)) (by unfold Func.isWrapper; first | (rw [if_pos (by decide +kernel)]; kernel_rfl) | (rw [if_neg (by decide +kernel)]; exact ⟨rfl, rfl⟩))
    (fun os started H enc _ => f7_lifted os started H enc)
#print axioms f7_holds
end Go.Proofs.Ytlbdgpkgmheikaa

/- FnExactInstantiateLin: for all arguments the law returns true; no condition. -/
import Derived.Test.YtlbdgpkgmheikaaD3
import Derived.Test.YtlbdgpkgmheikaaL0
import Derived.Test.YtlbdgpkgmheikaaRows
namespace Go.Proofs.Ytlbdgpkgmheikaa
set_option linter.all false
open Go Go.RowKit Go.Proofs Go.ChangeShapes Go.WideShapes
set_option maxRecDepth 100000 in
theorem f3_lifted (os : Os) (started : os.Started) (H : Type) (enc : TypeId × Value → H) :
    ReturnsInHanded {} Try.checked os 3 .any (Rows.fnExactInstantiateLinSpec.pre6 enc Try.prog Try.f3 Rows.fnExactInstantiateLinRow.domain false) (Rows.fnExactInstantiateLinSpec.post enc Try.prog Try.f3 false true false false) := by
  refine returnsInHanded_of_change_sized (C := Try.checked) Try.own started (by kernel_rfl) Try.func3
    (ChangeSpec.witness6 (enc := enc) (C := Try.checked) false ⟨#[], #[.agg #[.int .i64 0, .slice Option.none 0 0], .slice Option.none 0 0], []⟩ 8 (by kernel_rfl) (by kernel_rfl) (by kernel_rfl) (by kernel_rfl)) ?_
  intro W base args ds gs before hval hW _ hsz _
  refine law_contract (k := 5) (tb := 4) Try.laidOut rfl Try.underlying4 (by kernel_rfl) (by kernel_rfl) rfl ?_ ?_ base args ds gs before hval hW hsz
  · intro ds hl
    match ds, hl with
    | [d0, d1], _ => rfl
  · intro xs hx
    have hp : Try.f3.params.toList = [24, 25] := by kernel_rfl
    rw [hp] at hx
    have q : All2 (fun t a => ArgOf Try.prog 5 t a) [24, 25] xs := hx
    obtain ⟨a0, xs, rfl, q0, q⟩ := All2_cons q
    obtain ⟨a1, xs, rfl, q1, q⟩ := All2_cons q
    cases All2_nil q
    obtain ⟨x0, rfl⟩ := arg_Lin q0
    obtain ⟨x1, rfl⟩ := arg_LinS q1
    exact law_InstantiateLin x0 x1
theorem f3_holds : Rows.FnExactInstantiateLinSaid :=
  OpenClaim.holds_of_wide 3 Try.f3 rfl rfl rfl rfl rfl rfl rfl ⟨rfl, rfl, rfl, rfl, rfl⟩ rfl rfl rfl rfl rfl (by kernel_rfl) Try.func3 (by kernel_rfl)
    (of_decide_eq_true (by kernel_rfl)) (by unfold Func.isWrapper; first | (rw [if_pos (by decide +kernel)]; kernel_rfl) | (rw [if_neg (by decide +kernel)]; exact ⟨rfl, rfl⟩))
    (fun os started H enc _ => f3_lifted os started H enc)
#print axioms f3_holds
end Go.Proofs.Ytlbdgpkgmheikaa

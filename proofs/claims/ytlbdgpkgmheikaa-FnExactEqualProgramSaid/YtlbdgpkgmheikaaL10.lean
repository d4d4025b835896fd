/- FnExactEqualProgram: for all arguments the law returns true; no condition. -/
import Derived.Test.YtlbdgpkgmheikaaD10
import Derived.Test.YtlbdgpkgmheikaaL0
import Derived.Test.YtlbdgpkgmheikaaRows
namespace Go.Proofs.Ytlbdgpkgmheikaa
set_option linter.all false
open Go Go.RowKit Go.Proofs Go.ChangeShapes Go.WideShapes
set_option maxRecDepth 100000 in
theorem f10_lifted (os : Os) (started : os.Started) (H : Type) (enc : TypeId × Value → H) :
    ReturnsInHanded {} Try.checked os 10 .any (Rows.fnExactEqualProgramSpec.pre6 enc Try.prog Try.f10 Rows.fnExactEqualProgramRow.domain false) (Rows.fnExactEqualProgramSpec.post enc Try.prog Try.f10 false true false false) := by
  refine returnsInHanded_of_change_sized (C := Try.checked) Try.own started (by kernel_rfl) Try.func10
    (ChangeSpec.witness6 (enc := enc) (C := Try.checked) false ⟨#[], #[.agg #[.slice Option.none 0 0, .slice Option.none 0 0], .agg #[.slice Option.none 0 0, .slice Option.none 0 0]], []⟩ 8 (by kernel_rfl) (by kernel_rfl) (by kernel_rfl) (by kernel_rfl)) ?_
  intro W base args ds gs before hval hW _ hsz _
  refine law_contract (k := 13) (tb := 4) Try.laidOut rfl Try.underlying4 (by kernel_rfl) (by kernel_rfl) rfl ?_ ?_ base args ds gs before hval hW hsz
  · intro ds hl
    match ds, hl with
    | [d0, d1], _ => rfl
  · intro xs hx
    have hp : Try.f10.params.toList = [105, 105] := by kernel_rfl
    rw [hp] at hx
    have q : All2 (fun t a => ArgOf Try.prog 13 t a) [105, 105] xs := hx
    obtain ⟨a0, xs, rfl, q0, q⟩ := All2_cons q
    obtain ⟨a1, xs, rfl, q1, q⟩ := All2_cons q
    cases All2_nil q
    obtain ⟨x0, rfl⟩ := arg_Program q0
    obtain ⟨x1, rfl⟩ := arg_Program q1
    exact law_EqualProgram x0 x1
theorem f10_named : Try.pinned.checked.prog.funcNamed Rows.fnExactEqualProgramRow.func = some 10 := by kernel_rfl
theorem f10_facts : joinedFacts Try.pinned.checked.prog 10 Try.f10 Rows.fnExactEqualProgramSpec Rows.fnExactEqualProgramRow = true := by kernel_rfl
theorem f10_inst : Try.f10.isInstance Try.pinned.checked.prog Rows.fnExactEqualProgramRow.origin Rows.fnExactEqualProgramRow.targs := of_decide_eq_true (by kernel_rfl)
theorem f10_wrap : Try.f10.isWrapper Try.pinned.checked.prog Rows.fnExactEqualProgramRow.wrapper Rows.fnExactEqualProgramRow.mainSum := by
  unfold Func.isWrapper; first | (rw [if_pos (by decide +kernel)]; kernel_rfl) | (rw [if_neg (by decide +kernel)]; exact ⟨rfl, rfl⟩)
theorem f10_holds : Rows.FnExactEqualProgramSaid :=
  OpenClaim.holds_of_wide 10 Try.f10 rfl rfl rfl rfl rfl rfl rfl ⟨rfl, rfl, rfl, rfl, rfl⟩ rfl rfl rfl rfl rfl f10_named Try.func10 f10_facts f10_inst f10_wrap
    (fun os started H enc _ => f10_lifted os started H enc)
#print axioms f10_holds
end Go.Proofs.Ytlbdgpkgmheikaa

/- FnExactFindFunction: for all arguments the law returns true; no condition. -/
import Derived.Test.YtlbdgpkgmheikaaD11
import Derived.Test.YtlbdgpkgmheikaaL0
import Derived.Test.YtlbdgpkgmheikaaRows
namespace Go.Proofs.Ytlbdgpkgmheikaa
set_option linter.all false
open Go Go.RowKit Go.Proofs Go.ChangeShapes Go.WideShapes
set_option maxRecDepth 100000 in
theorem f11_lifted (os : Os) (started : os.Started) (H : Type) (enc : TypeId × Value → H) :
    ReturnsInHanded {} Try.checked os 11 .any (Rows.fnExactFindFunctionSpec.pre6 enc Try.prog Try.f11 Rows.fnExactFindFunctionRow.domain false) (Rows.fnExactFindFunctionSpec.post enc Try.prog Try.f11 false true false false) := by
  refine returnsInHanded_of_change_sized (C := Try.checked) Try.own started (by kernel_rfl) Try.func11
    (ChangeSpec.witness6 (enc := enc) (C := Try.checked) false ⟨#[], #[.agg #[.slice Option.none 0 0, .slice Option.none 0 0], .string (ByteArray.mk #[])], []⟩ 8 (by kernel_rfl) (by kernel_rfl) (by kernel_rfl) (by kernel_rfl)) ?_
  intro W base args ds gs before hval hW _ hsz _
  refine law_contract (k := 13) (tb := 4) Try.laidOut rfl Try.underlying4 (by kernel_rfl) (by kernel_rfl) rfl ?_ ?_ base args ds gs before hval hW hsz
  · intro ds hl
    match ds, hl with
    | [d0, d1], _ => rfl
  · intro xs hx
    have hp : Try.f11.params.toList = [105, 9] := by kernel_rfl
    rw [hp] at hx
    have q : All2 (fun t a => ArgOf Try.prog 13 t a) [105, 9] xs := hx
    obtain ⟨a0, xs, rfl, q0, q⟩ := All2_cons q
    obtain ⟨a1, xs, rfl, q1, q⟩ := All2_cons q
    cases All2_nil q
    obtain ⟨x0, rfl⟩ := arg_Program q0
    obtain ⟨x1, rfl, w1⟩ := ArgOf_string Try.underlying9 q1
    exact law_FindFunction x0 x1
theorem f11_named : Try.pinned.checked.prog.funcNamed Rows.fnExactFindFunctionRow.func = some 11 := by kernel_rfl
theorem f11_facts : joinedFacts Try.pinned.checked.prog 11 Try.f11 Rows.fnExactFindFunctionSpec Rows.fnExactFindFunctionRow = true := by kernel_rfl
theorem f11_inst : Try.f11.isInstance Try.pinned.checked.prog Rows.fnExactFindFunctionRow.origin Rows.fnExactFindFunctionRow.targs := of_decide_eq_true (by kernel_rfl)
theorem f11_wrap : Try.f11.isWrapper Try.pinned.checked.prog Rows.fnExactFindFunctionRow.wrapper Rows.fnExactFindFunctionRow.mainSum := by
  unfold Func.isWrapper; first | (rw [if_pos (by decide +kernel)]; kernel_rfl) | (rw [if_neg (by decide +kernel)]; exact ⟨rfl, rfl⟩)
theorem f11_holds : Rows.FnExactFindFunctionSaid :=
  OpenClaim.holds_of_wide 11 Try.f11 rfl rfl rfl rfl rfl rfl rfl ⟨rfl, rfl, rfl, rfl, rfl⟩ rfl rfl rfl rfl rfl f11_named Try.func11 f11_facts f11_inst f11_wrap
    (fun os started H enc _ => f11_lifted os started H enc)
#print axioms f11_holds
end Go.Proofs.Ytlbdgpkgmheikaa

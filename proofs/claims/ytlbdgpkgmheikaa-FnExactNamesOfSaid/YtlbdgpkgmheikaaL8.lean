/- FnExactNamesOf: for all arguments the law returns true; no condition. -/
import Derived.Test.YtlbdgpkgmheikaaD8
import Derived.Test.YtlbdgpkgmheikaaL0
import Derived.Test.YtlbdgpkgmheikaaRows
namespace Go.Proofs.Ytlbdgpkgmheikaa
set_option linter.all false
open Go Go.RowKit Go.Proofs Go.ChangeShapes Go.WideShapes
set_option maxRecDepth 100000 in
theorem f8_lifted (os : Os) (started : os.Started) (H : Type) (enc : TypeId × Value → H) :
    ReturnsInHanded {} Try.checked os 8 .any (Rows.fnExactNamesOfSpec.pre6 enc Try.prog Try.f8 Rows.fnExactNamesOfRow.domain false) (Rows.fnExactNamesOfSpec.post enc Try.prog Try.f8 false true false false) := by
  refine returnsInHanded_of_change_sized (C := Try.checked) Try.own started (by kernel_rfl) Try.func8
    (ChangeSpec.witness6 (enc := enc) (C := Try.checked) false ⟨#[], #[.agg #[.bool false, .slice Option.none 0 0, .string (ByteArray.mk #[])]], []⟩ 8 (by kernel_rfl) (by kernel_rfl) (by kernel_rfl) (by kernel_rfl)) ?_
  intro W base args ds gs before hval hW _ hsz _
  refine law_contract (k := 7) (tb := 4) Try.laidOut rfl Try.underlying4 (by kernel_rfl) (by kernel_rfl) rfl ?_ ?_ base args ds gs before hval hW hsz
  · intro ds hl
    match ds, hl with
    | [d0], _ => rfl
  · intro xs hx
    have hp : Try.f8.params.toList = [43] := by kernel_rfl
    rw [hp] at hx
    have q : All2 (fun t a => ArgOf Try.prog 7 t a) [43] xs := hx
    obtain ⟨a0, xs, rfl, q0, q⟩ := All2_cons q
    cases All2_nil q
    obtain ⟨x0, rfl⟩ := arg_Arg q0
    exact law_NamesOf x0
theorem f8_named : Try.pinned.checked.prog.funcNamed Rows.fnExactNamesOfRow.func = some 8 := by kernel_rfl
theorem f8_facts : joinedFacts Try.pinned.checked.prog 8 Try.f8 Rows.fnExactNamesOfSpec Rows.fnExactNamesOfRow = true := by kernel_rfl
theorem f8_inst : Try.f8.isInstance Try.pinned.checked.prog Rows.fnExactNamesOfRow.origin Rows.fnExactNamesOfRow.targs := of_decide_eq_true (by kernel_rfl)
theorem f8_wrap : Try.f8.isWrapper Try.pinned.checked.prog Rows.fnExactNamesOfRow.wrapper Rows.fnExactNamesOfRow.mainSum := by
  unfold Func.isWrapper; first | (rw [if_pos (by decide +kernel)]; kernel_rfl) | (rw [if_neg (by decide +kernel)]; exact ⟨rfl, rfl⟩)
theorem f8_holds : Rows.FnExactNamesOfSaid :=
  OpenClaim.holds_of_wide 8 Try.f8 rfl rfl rfl rfl rfl rfl rfl ⟨rfl, rfl, rfl, rfl, rfl⟩ rfl rfl rfl rfl rfl f8_named Try.func8 f8_facts f8_inst f8_wrap
    (fun os started H enc _ => f8_lifted os started H enc)
#print axioms f8_holds
end Go.Proofs.Ytlbdgpkgmheikaa

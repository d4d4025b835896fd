/- FnExactScopeOf: for all arguments the law returns true; no condition. -/
import Derived.Test.YtlbdgpkgmheikaaD12
import Derived.Test.YtlbdgpkgmheikaaL0
import Derived.Test.YtlbdgpkgmheikaaRows
namespace Go.Proofs.Ytlbdgpkgmheikaa
set_option linter.all false
open Go Go.RowKit Go.Proofs Go.ChangeShapes Go.WideShapes
set_option maxRecDepth 100000 in
theorem f12_lifted (os : Os) (started : os.Started) (H : Type) (enc : TypeId × Value → H) :
    ReturnsInHanded {} Try.checked os 12 .any (Rows.fnExactScopeOfSpec.pre6 enc Try.prog Try.f12 Rows.fnExactScopeOfRow.domain false) (Rows.fnExactScopeOfSpec.post enc Try.prog Try.f12 false true false false) := by
  refine returnsInHanded_of_change_sized (C := Try.checked) Try.own started (by kernel_rfl) Try.func12
    (ChangeSpec.witness6 (enc := enc) (C := Try.checked) false ⟨#[], #[.agg #[.slice Option.none 0 0, .slice Option.none 0 0], .agg #[.string (ByteArray.mk #[]), .slice Option.none 0 0, .slice Option.none 0 0, .slice Option.none 0 0, .bool false, .slice Option.none 0 0, .string (ByteArray.mk #[])], .int .i64 0], []⟩ 8 (by kernel_rfl) (by kernel_rfl) (by kernel_rfl) (by kernel_rfl)) ?_
  intro W base args ds gs before hval hW _ hsz _
  refine law_contract (k := 13) (tb := 4) Try.laidOut rfl Try.underlying4 (by kernel_rfl) (by kernel_rfl) rfl ?_ ?_ base args ds gs before hval hW hsz
  · intro ds hl
    match ds, hl with
    | [d0, d1, d2], _ => rfl
  · intro xs hx
    have hp : Try.f12.params.toList = [105, 45, 3] := by kernel_rfl
    rw [hp] at hx
    have q : All2 (fun t a => ArgOf Try.prog 13 t a) [105, 45, 3] xs := hx
    obtain ⟨a0, xs, rfl, q0, q⟩ := All2_cons q
    obtain ⟨a1, xs, rfl, q1, q⟩ := All2_cons q
    obtain ⟨a2, xs, rfl, q2, q⟩ := All2_cons q
    cases All2_nil q
    obtain ⟨x0, rfl⟩ := arg_Program q0
    obtain ⟨x1, rfl⟩ := arg_Rule q1
    obtain ⟨x2, rfl, w2⟩ := ArgOf_int Try.underlying3 q2
    exact law_ScopeOf x0 x1 x2
theorem f12_named : Try.pinned.checked.prog.funcNamed Rows.fnExactScopeOfRow.func = some 12 := by kernel_rfl
theorem f12_facts : joinedFacts Try.pinned.checked.prog 12 Try.f12 Rows.fnExactScopeOfSpec Rows.fnExactScopeOfRow = true := by kernel_rfl
theorem f12_inst : Try.f12.isInstance Try.pinned.checked.prog Rows.fnExactScopeOfRow.origin Rows.fnExactScopeOfRow.targs := of_decide_eq_true (by kernel_rfl)
theorem f12_wrap : Try.f12.isWrapper Try.pinned.checked.prog Rows.fnExactScopeOfRow.wrapper Rows.fnExactScopeOfRow.mainSum := by
  unfold Func.isWrapper; first | (rw [if_pos (by decide +kernel)]; kernel_rfl) | (rw [if_neg (by decide +kernel)]; exact ⟨rfl, rfl⟩)
theorem f12_holds : Rows.FnExactScopeOfSaid :=
  OpenClaim.holds_of_wide 12 Try.f12 rfl rfl rfl rfl rfl rfl rfl ⟨rfl, rfl, rfl, rfl, rfl⟩ rfl rfl rfl rfl rfl f12_named Try.func12 f12_facts f12_inst f12_wrap
    (fun os started H enc _ => f12_lifted os started H enc)
#print axioms f12_holds
end Go.Proofs.Ytlbdgpkgmheikaa

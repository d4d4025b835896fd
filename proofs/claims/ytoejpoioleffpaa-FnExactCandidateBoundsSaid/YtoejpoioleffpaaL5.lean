/- FnExactCandidateBounds: for all arguments the law returns true; no condition. -/
import Derived.Test.YtoejpoioleffpaaD51
import Derived.Test.YtoejpoioleffpaaLJ
import Derived.Test.YtoejpoioleffpaaRows
namespace Go.Proofs.Ytoejpoioleffpaa
set_option linter.all false
open Go Go.RowKit Go.Proofs Go.ChangeShapes Go.WideShapes
set_option maxRecDepth 100000 in
theorem f5_lifted (os : Os) (started : os.Started) (H : Type) (enc : TypeId × Value → H) :
    ReturnsInHanded {} Try.checked os 5 .any (Rows.fnExactCandidateBoundsSpec.pre6 enc Try.prog Try.f5 Rows.fnExactCandidateBoundsRow.domain false) (Rows.fnExactCandidateBoundsSpec.post enc Try.prog Try.f5 false true false false) := by
  refine returnsInHanded_of_change_sized (C := Try.checked) Try.own started (by kernel_rfl) Try.func5
    (ChangeSpec.witness6 (enc := enc) (C := Try.checked) false ⟨#[], #[.int .i64 0, .int .i64 0], []⟩ 8 (by kernel_rfl) (by kernel_rfl) (by kernel_rfl) (by kernel_rfl)) ?_
  intro W base args ds gs before hval hW _ hsz _
  refine law_contract (k := 2) (tb := 4) Try.laidOut rfl Try.underlying4 (by kernel_rfl) (by kernel_rfl) rfl ?_ ?_ base args ds gs before hval hW hsz
  · intro ds hl
    match ds, hl with
    | [d0, d1], _ => rfl
  · intro xs hx
    have hp : Try.f5.params.toList = [3, 3] := by kernel_rfl
    rw [hp] at hx
    have q : All2 (fun t a => ArgOf Try.prog 2 t a) [3, 3] xs := hx
    obtain ⟨a0, xs, rfl, q0, q⟩ := All2_cons q
    obtain ⟨a1, xs, rfl, q1, q⟩ := All2_cons q
    cases All2_nil q
    obtain ⟨x0, rfl, w0⟩ := ArgOf_int Try.underlying3 q0
    obtain ⟨x1, rfl, w1⟩ := ArgOf_int Try.underlying3 q1
    exact law_CandidateBounds x0 x1
theorem f5_named : Try.pinned.checked.prog.funcNamed Rows.fnExactCandidateBoundsRow.func = some 5 := by kernel_rfl
theorem f5_k0 : Rows.fnExactCandidateBoundsRow.wf (OpenSpec.ofChange Rows.fnExactCandidateBoundsSpec) = true := by kernel_rfl
theorem f5_k3 : Try.f5.params.all (Try.pinned.checked.prog.readableRec ·) = true := by kernel_rfl
theorem f5_k4 : namedTie Try.pinned.checked.prog Rows.fnExactCandidateBoundsRow.named Rows.fnExactCandidateBoundsSpec.vars = true := by kernel_rfl
theorem f5_k5 : (Rows.fnExactCandidateBoundsRow.stops == []) = true := by kernel_rfl
theorem f5_k6 : (Try.pinned.checked.prog.stops == []) = true := by kernel_rfl
theorem f5_k7 : (Rows.fnExactCandidateBoundsRow.knobs == []) = true := by kernel_rfl
theorem f5_k8 : (Try.pinned.checked.prog.stopKnobs == []) = true := by kernel_rfl
theorem f5_k9 : (Rows.fnExactCandidateBoundsRow.inPlace == Try.pinned.checked.prog.inPlace 5) = true := by kernel_rfl
theorem f5_k10 : (Rows.fnExactCandidateBoundsRow.unfollowed == Try.pinned.checked.prog.unfollowed 5) = true := by kernel_rfl
theorem f5_k11 : (Rows.fnExactCandidateBoundsRow.recurses == Try.pinned.checked.prog.recurses 5) = true := by kernel_rfl
theorem f5_k12 : (Rows.fnExactCandidateBoundsRow.named == Try.pinned.checked.prog.varsNamed 5) = true := by kernel_rfl
theorem f5_k13 : (Rows.fnExactCandidateBoundsRow.maps == (Try.f5.params.toList ++ Rows.fnExactCandidateBoundsSpec.plain.varTypes Try.pinned.checked.prog).any (Try.pinned.checked.prog.mapsRec ·)) = true := by kernel_rfl
theorem f5_k14 : (Rows.fnExactCandidateBoundsRow.ifaces == (Try.f5.params.toList ++ Rows.fnExactCandidateBoundsSpec.plain.varTypes Try.pinned.checked.prog).any (Try.pinned.checked.prog.ifacesRec ·)) = true := by kernel_rfl
theorem f5_k15 : (Rows.fnExactCandidateBoundsRow.mapsOut == Try.pinned.checked.prog.mapsAmong Try.f5.resultTypes.toList) = true := by kernel_rfl
theorem f5_k16 : (Rows.fnExactCandidateBoundsRow.loops == (Try.f5.params.toList ++ Rows.fnExactCandidateBoundsSpec.plain.varTypes Try.pinned.checked.prog).any (Try.pinned.checked.prog.loopsFrom ·)) = true := by kernel_rfl
theorem f5_k17 : (Rows.fnExactCandidateBoundsRow.wideKeys == (Try.f5.params.toList ++ Rows.fnExactCandidateBoundsSpec.plain.varTypes Try.pinned.checked.prog ++ Try.f5.resultTypes.toList).any (Try.pinned.checked.prog.wideKeysFrom ·)) = true := by kernel_rfl
theorem f5_k18 : Rows.fnExactCandidateBoundsSpec.vars.all (Try.pinned.checked.prog.varReadable ·) = true := by kernel_rfl
theorem f5_k19 : Try.f5.resultTypes.all (fun t => Try.pinned.checked.prog.readableRec t && decide (t < Try.pinned.checked.prog.types.size)) = true := by kernel_rfl
theorem f5_k20 : (Rows.fnExactCandidateBoundsRow.ifacesOut == Try.f5.resultTypes.toList.any (Try.pinned.checked.prog.ifacesRec ·)) = true := by kernel_rfl
theorem f5_k21 : (Rows.fnExactCandidateBoundsRow.loopsOut == Try.f5.resultTypes.toList.any (Try.pinned.checked.prog.loopsFrom ·)) = true := by kernel_rfl
theorem f5_k22 : (Rows.fnExactCandidateBoundsRow.plainKeys == Try.pinned.checked.prog.plainKeys) = true := by kernel_rfl
theorem f5_k23 : Rows.fnExactCandidateBoundsRow.shortTexts.isNone = true := by kernel_rfl
theorem f5_k26 : (Rows.fnExactCandidateBoundsRow.lifted == Try.pinned.checked.prog.liftsFinal) = true := by kernel_rfl
theorem f5_k27 : (Try.pinned.checked.prog.make == some Rows.fnExactCandidateBoundsRow.make) = true := by kernel_rfl
theorem f5_k28 : (Rows.fnExactCandidateBoundsRow.kinds == (if Rows.fnExactCandidateBoundsRow.domain.isEmpty then [] else Try.f5.params.toList.map fun t => match Try.pinned.checked.prog.underlying t with | some (.int k) => some k | _ => none)) = true := by kernel_rfl
theorem f5_k29 : (Rows.fnExactCandidateBoundsRow.pinned == Rows.fnExactCandidateBoundsRow.pinnedBy) = true := by kernel_rfl
theorem f5_k30 : (Rows.fnExactCandidateBoundsRow.veiled == (Try.f5.params.toList ++ Rows.fnExactCandidateBoundsSpec.plain.varTypes Try.pinned.checked.prog ++ Try.f5.resultTypes.toList).any (Try.pinned.checked.prog.veiledRec ·)) = true := by kernel_rfl
theorem f5_k31 : Rows.fnExactCandidateBoundsRow.veiledFits Try.pinned.checked.prog Try.f5.params.toList (Try.f5.params.toList ++ Rows.fnExactCandidateBoundsSpec.plain.varTypes Try.pinned.checked.prog ++ Try.f5.resultTypes.toList) = true := by kernel_rfl
set_option maxRecDepth 100000 in
theorem f5_facts : joinedFacts Try.pinned.checked.prog 5 Try.f5 Rows.fnExactCandidateBoundsSpec Rows.fnExactCandidateBoundsRow = true := joinedFacts_of (P := Try.pinned.checked.prog) (f := 5) (fn := Try.f5) (s := Rows.fnExactCandidateBoundsSpec) (c := Rows.fnExactCandidateBoundsRow) f5_k0 F_laid F_maps f5_k3 f5_k4 f5_k5 f5_k6 f5_k7 f5_k8 f5_k9 f5_k10 f5_k11 f5_k12 f5_k13 f5_k14 f5_k15 f5_k16 f5_k17 f5_k18 f5_k19 f5_k20 f5_k21 f5_k22 f5_k23 F_heard F_enter f5_k26 f5_k27 f5_k28 f5_k29 f5_k30 f5_k31
theorem f5_inst : Try.f5.isInstance Try.pinned.checked.prog Rows.fnExactCandidateBoundsRow.origin Rows.fnExactCandidateBoundsRow.targs := of_decide_eq_true (by kernel_rfl)
theorem f5_wrap : Try.f5.isWrapper Try.pinned.checked.prog Rows.fnExactCandidateBoundsRow.wrapper Rows.fnExactCandidateBoundsRow.mainSum := by
  unfold Func.isWrapper; first | (rw [if_pos (by decide +kernel)]; kernel_rfl) | (rw [if_neg (by decide +kernel)]; exact ⟨rfl, rfl⟩)
theorem f5_holds : Rows.FnExactCandidateBoundsSaid :=
  OpenClaim.holds_of_wide 5 Try.f5 rfl rfl rfl rfl rfl rfl rfl ⟨rfl, rfl, rfl, rfl, rfl⟩ rfl rfl rfl rfl rfl f5_named Try.func5 f5_facts f5_inst f5_wrap
    (fun os started H enc _ => f5_lifted os started H enc)
#print axioms f5_holds
end Go.Proofs.Ytoejpoioleffpaa

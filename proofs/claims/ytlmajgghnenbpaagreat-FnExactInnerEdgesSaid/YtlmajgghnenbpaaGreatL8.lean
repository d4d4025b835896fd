/- FnExactInnerEdges: for all arguments the law returns true; no condition. -/
import Derived.Test.YtlmajgghnenbpaaGreatD23
import Derived.Test.YtlmajgghnenbpaaGreatLJ
import Derived.Test.YtlmajgghnenbpaaGreatRows
namespace Go.Proofs.YtlmajgghnenbpaaGreat
set_option linter.all false
open Go Go.RowKit Go.Proofs Go.ChangeShapes Go.WideShapes
set_option maxRecDepth 100000 in
theorem f8_lifted (os : Os) (started : os.Started) (H : Type) (enc : TypeId × Value → H) :
    ReturnsInHanded {} Tryz.checked os 8 .any (Rows.fnExactInnerEdgesSpec.pre6 enc Tryz.prog Tryz.f8 Rows.fnExactInnerEdgesRow.domain false) (Rows.fnExactInnerEdgesSpec.post enc Tryz.prog Tryz.f8 false true false false) := by
  refine returnsInHanded_of_change_sized (C := Tryz.checked) Tryz.own started (by kernel_rfl) Tryz.func8
    (ChangeSpec.witness6 (enc := enc) (C := Tryz.checked) false ⟨#[], #[.agg #[.slice Option.none 0 0, .slice Option.none 0 0], .slice Option.none 0 0], []⟩ 8 (by kernel_rfl) (by kernel_rfl) (by kernel_rfl) (by kernel_rfl)) ?_
  intro W base args ds gs before hval hW _ hsz _
  refine law_contract (k := 13) (tb := 4) Tryz.laidOut rfl Tryz.underlying4 (by kernel_rfl) (by kernel_rfl) rfl ?_ ?_ base args ds gs before hval hW hsz
  · intro ds hl
    match ds, hl with
    | [d0, d1], _ => rfl
  · intro xs hx
    have hp : Tryz.f8.params.toList = [25, 54] := by kernel_rfl
    rw [hp] at hx
    have q : All2 (fun t a => ArgOf Tryz.prog 13 t a) [25, 54] xs := hx
    obtain ⟨a0, xs, rfl, q0, q⟩ := All2_cons q
    obtain ⟨a1, xs, rfl, q1, q⟩ := All2_cons q
    cases All2_nil q
    obtain ⟨x0, rfl⟩ := arg_Program q0
    obtain ⟨x1, rfl⟩ := arg_StringS q1
    exact law_InnerEdges x0 x1
theorem f8_named : Tryz.pinned.checked.prog.funcNamed Rows.fnExactInnerEdgesRow.func = some 8 := by kernel_rfl
theorem f8_k0 : Rows.fnExactInnerEdgesRow.wf (OpenSpec.ofChange Rows.fnExactInnerEdgesSpec) = true := by kernel_rfl
theorem f8_k3 : Tryz.f8.params.all (Tryz.pinned.checked.prog.readableRec ·) = true := by kernel_rfl
theorem f8_k4 : namedTie Tryz.pinned.checked.prog Rows.fnExactInnerEdgesRow.named Rows.fnExactInnerEdgesSpec.vars = true := by kernel_rfl
theorem f8_k5 : (Rows.fnExactInnerEdgesRow.stops == []) = true := by kernel_rfl
theorem f8_k6 : (Tryz.pinned.checked.prog.stops == []) = true := by kernel_rfl
theorem f8_k7 : (Rows.fnExactInnerEdgesRow.knobs == []) = true := by kernel_rfl
theorem f8_k8 : (Tryz.pinned.checked.prog.stopKnobs == []) = true := by kernel_rfl
theorem f8_k9 : (Rows.fnExactInnerEdgesRow.inPlace == Tryz.pinned.checked.prog.inPlace 8) = true := by kernel_rfl
theorem f8_k10 : (Rows.fnExactInnerEdgesRow.unfollowed == Tryz.pinned.checked.prog.unfollowed 8) = true := by kernel_rfl
theorem f8_k11 : (Rows.fnExactInnerEdgesRow.recurses == Tryz.pinned.checked.prog.recurses 8) = true := by kernel_rfl
theorem f8_k12 : (Rows.fnExactInnerEdgesRow.named == Tryz.pinned.checked.prog.varsNamed 8) = true := by kernel_rfl
theorem f8_k13 : (Rows.fnExactInnerEdgesRow.maps == (Tryz.f8.params.toList ++ Rows.fnExactInnerEdgesSpec.plain.varTypes Tryz.pinned.checked.prog).any (Tryz.pinned.checked.prog.mapsRec ·)) = true := by kernel_rfl
theorem f8_k14 : (Rows.fnExactInnerEdgesRow.ifaces == (Tryz.f8.params.toList ++ Rows.fnExactInnerEdgesSpec.plain.varTypes Tryz.pinned.checked.prog).any (Tryz.pinned.checked.prog.ifacesRec ·)) = true := by kernel_rfl
theorem f8_k15 : (Rows.fnExactInnerEdgesRow.mapsOut == Tryz.pinned.checked.prog.mapsAmong Tryz.f8.resultTypes.toList) = true := by kernel_rfl
theorem f8_k16 : (Rows.fnExactInnerEdgesRow.loops == (Tryz.f8.params.toList ++ Rows.fnExactInnerEdgesSpec.plain.varTypes Tryz.pinned.checked.prog).any (Tryz.pinned.checked.prog.loopsFrom ·)) = true := by kernel_rfl
theorem f8_k17 : (Rows.fnExactInnerEdgesRow.wideKeys == (Tryz.f8.params.toList ++ Rows.fnExactInnerEdgesSpec.plain.varTypes Tryz.pinned.checked.prog ++ Tryz.f8.resultTypes.toList).any (Tryz.pinned.checked.prog.wideKeysFrom ·)) = true := by kernel_rfl
theorem f8_k18 : Rows.fnExactInnerEdgesSpec.vars.all (Tryz.pinned.checked.prog.varReadable ·) = true := by kernel_rfl
theorem f8_k19 : Tryz.f8.resultTypes.all (fun t => Tryz.pinned.checked.prog.readableRec t && decide (t < Tryz.pinned.checked.prog.types.size)) = true := by kernel_rfl
theorem f8_k20 : (Rows.fnExactInnerEdgesRow.ifacesOut == Tryz.f8.resultTypes.toList.any (Tryz.pinned.checked.prog.ifacesRec ·)) = true := by kernel_rfl
theorem f8_k21 : (Rows.fnExactInnerEdgesRow.loopsOut == Tryz.f8.resultTypes.toList.any (Tryz.pinned.checked.prog.loopsFrom ·)) = true := by kernel_rfl
theorem f8_k22 : (Rows.fnExactInnerEdgesRow.plainKeys == Tryz.pinned.checked.prog.plainKeys) = true := by kernel_rfl
theorem f8_k23 : Rows.fnExactInnerEdgesRow.shortTexts.isNone = true := by kernel_rfl
theorem f8_k26 : (Rows.fnExactInnerEdgesRow.lifted == Tryz.pinned.checked.prog.liftsFinal) = true := by kernel_rfl
theorem f8_k27 : (Tryz.pinned.checked.prog.make == some Rows.fnExactInnerEdgesRow.make) = true := by kernel_rfl
theorem f8_k28 : (Rows.fnExactInnerEdgesRow.kinds == (if Rows.fnExactInnerEdgesRow.domain.isEmpty then [] else Tryz.f8.params.toList.map fun t => match Tryz.pinned.checked.prog.underlying t with | some (.int k) => some k | _ => none)) = true := by kernel_rfl
theorem f8_k29 : (Rows.fnExactInnerEdgesRow.pinned == Rows.fnExactInnerEdgesRow.pinnedBy) = true := by kernel_rfl
theorem f8_k30 : (Rows.fnExactInnerEdgesRow.veiled == (Tryz.f8.params.toList ++ Rows.fnExactInnerEdgesSpec.plain.varTypes Tryz.pinned.checked.prog ++ Tryz.f8.resultTypes.toList).any (Tryz.pinned.checked.prog.veiledRec ·)) = true := by kernel_rfl
theorem f8_k31 : Rows.fnExactInnerEdgesRow.veiledFits Tryz.pinned.checked.prog Tryz.f8.params.toList (Tryz.f8.params.toList ++ Rows.fnExactInnerEdgesSpec.plain.varTypes Tryz.pinned.checked.prog ++ Tryz.f8.resultTypes.toList) = true := by kernel_rfl
set_option maxRecDepth 100000 in
theorem f8_facts : joinedFacts Tryz.pinned.checked.prog 8 Tryz.f8 Rows.fnExactInnerEdgesSpec Rows.fnExactInnerEdgesRow = true := joinedFacts_of (P := Tryz.pinned.checked.prog) (f := 8) (fn := Tryz.f8) (s := Rows.fnExactInnerEdgesSpec) (c := Rows.fnExactInnerEdgesRow) f8_k0 F_laid F_maps f8_k3 f8_k4 f8_k5 f8_k6 f8_k7 f8_k8 f8_k9 f8_k10 f8_k11 f8_k12 f8_k13 f8_k14 f8_k15 f8_k16 f8_k17 f8_k18 f8_k19 f8_k20 f8_k21 f8_k22 f8_k23 F_heard F_enter f8_k26 f8_k27 f8_k28 f8_k29 f8_k30 f8_k31
theorem f8_inst : Tryz.f8.isInstance Tryz.pinned.checked.prog Rows.fnExactInnerEdgesRow.origin Rows.fnExactInnerEdgesRow.targs := of_decide_eq_true (by kernel_rfl)
theorem f8_wrap : Tryz.f8.isWrapper Tryz.pinned.checked.prog Rows.fnExactInnerEdgesRow.wrapper Rows.fnExactInnerEdgesRow.mainSum := by
  unfold Func.isWrapper; first | (rw [if_pos (by decide +kernel)]; kernel_rfl) | (rw [if_neg (by decide +kernel)]; exact ⟨rfl, rfl⟩)
theorem f8_holds : Rows.FnExactInnerEdgesSaid :=
  OpenClaim.holds_of_wide 8 Tryz.f8 rfl rfl rfl rfl rfl rfl rfl ⟨rfl, rfl, rfl, rfl, rfl⟩ rfl rfl rfl rfl rfl f8_named Tryz.func8 f8_facts f8_inst f8_wrap
    (fun os started H enc _ => f8_lifted os started H enc)
#print axioms f8_holds
end Go.Proofs.YtlmajgghnenbpaaGreat

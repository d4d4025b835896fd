/- FnExactIsValidProgram: for all arguments the law returns true; no condition. -/
import Derived.Test.YtlbdgpkgmheikaaGreatD20
import Derived.Test.YtlbdgpkgmheikaaGreatLJ
import Derived.Test.YtlbdgpkgmheikaaGreatRows
namespace Go.Proofs.YtlbdgpkgmheikaaGreat
set_option linter.all false
open Go Go.RowKit Go.Proofs Go.ChangeShapes Go.WideShapes
set_option maxRecDepth 100000 in
theorem f4_lifted (os : Os) (started : os.Started) (H : Type) (enc : TypeId × Value → H) :
    ReturnsInHanded {} Tryz.checked os 4 .any (Rows.fnExactIsValidProgramSpec.pre6 enc Tryz.prog Tryz.f4 Rows.fnExactIsValidProgramRow.domain false) (Rows.fnExactIsValidProgramSpec.post enc Tryz.prog Tryz.f4 false true false false) := by
  refine returnsInHanded_of_change_sized (C := Tryz.checked) Tryz.own started (by kernel_rfl) Tryz.func4
    (ChangeSpec.witness6 (enc := enc) (C := Tryz.checked) false ⟨#[], #[.agg #[.slice Option.none 0 0, .slice Option.none 0 0]], []⟩ 8 (by kernel_rfl) (by kernel_rfl) (by kernel_rfl) (by kernel_rfl)) ?_
  intro W base args ds gs before hval hW _ hsz _
  refine law_contract (k := 13) (tb := 4) Tryz.laidOut rfl Tryz.underlying4 (by kernel_rfl) (by kernel_rfl) rfl ?_ ?_ base args ds gs before hval hW hsz
  · intro ds hl
    match ds, hl with
    | [d0], _ => rfl
  · intro xs hx
    have hp : Tryz.f4.params.toList = [25] := by kernel_rfl
    rw [hp] at hx
    have q : All2 (fun t a => ArgOf Tryz.prog 13 t a) [25] xs := hx
    obtain ⟨a0, xs, rfl, q0, q⟩ := All2_cons q
    cases All2_nil q
    obtain ⟨x0, rfl⟩ := arg_Program q0
    exact law_IsValidProgram x0
theorem f4_named : Tryz.pinned.checked.prog.funcNamed Rows.fnExactIsValidProgramRow.func = some 4 := by kernel_rfl
theorem f4_k0 : Rows.fnExactIsValidProgramRow.wf (OpenSpec.ofChange Rows.fnExactIsValidProgramSpec) = true := by kernel_rfl
theorem f4_k3 : Tryz.f4.params.all (Tryz.pinned.checked.prog.readableRec ·) = true := by kernel_rfl
theorem f4_k4 : namedTie Tryz.pinned.checked.prog Rows.fnExactIsValidProgramRow.named Rows.fnExactIsValidProgramSpec.vars = true := by kernel_rfl
theorem f4_k5 : (Rows.fnExactIsValidProgramRow.stops == []) = true := by kernel_rfl
theorem f4_k6 : (Tryz.pinned.checked.prog.stops == []) = true := by kernel_rfl
theorem f4_k7 : (Rows.fnExactIsValidProgramRow.knobs == []) = true := by kernel_rfl
theorem f4_k8 : (Tryz.pinned.checked.prog.stopKnobs == []) = true := by kernel_rfl
theorem f4_k9 : (Rows.fnExactIsValidProgramRow.inPlace == Tryz.pinned.checked.prog.inPlace 4) = true := by kernel_rfl
theorem f4_k10 : (Rows.fnExactIsValidProgramRow.unfollowed == Tryz.pinned.checked.prog.unfollowed 4) = true := by kernel_rfl
theorem f4_k11 : (Rows.fnExactIsValidProgramRow.recurses == Tryz.pinned.checked.prog.recurses 4) = true := by kernel_rfl
theorem f4_k12 : (Rows.fnExactIsValidProgramRow.named == Tryz.pinned.checked.prog.varsNamed 4) = true := by kernel_rfl
theorem f4_k13 : (Rows.fnExactIsValidProgramRow.maps == (Tryz.f4.params.toList ++ Rows.fnExactIsValidProgramSpec.plain.varTypes Tryz.pinned.checked.prog).any (Tryz.pinned.checked.prog.mapsRec ·)) = true := by kernel_rfl
theorem f4_k14 : (Rows.fnExactIsValidProgramRow.ifaces == (Tryz.f4.params.toList ++ Rows.fnExactIsValidProgramSpec.plain.varTypes Tryz.pinned.checked.prog).any (Tryz.pinned.checked.prog.ifacesRec ·)) = true := by kernel_rfl
theorem f4_k15 : (Rows.fnExactIsValidProgramRow.mapsOut == Tryz.pinned.checked.prog.mapsAmong Tryz.f4.resultTypes.toList) = true := by kernel_rfl
theorem f4_k16 : (Rows.fnExactIsValidProgramRow.loops == (Tryz.f4.params.toList ++ Rows.fnExactIsValidProgramSpec.plain.varTypes Tryz.pinned.checked.prog).any (Tryz.pinned.checked.prog.loopsFrom ·)) = true := by kernel_rfl
theorem f4_k17 : (Rows.fnExactIsValidProgramRow.wideKeys == (Tryz.f4.params.toList ++ Rows.fnExactIsValidProgramSpec.plain.varTypes Tryz.pinned.checked.prog ++ Tryz.f4.resultTypes.toList).any (Tryz.pinned.checked.prog.wideKeysFrom ·)) = true := by kernel_rfl
theorem f4_k18 : Rows.fnExactIsValidProgramSpec.vars.all (Tryz.pinned.checked.prog.varReadable ·) = true := by kernel_rfl
theorem f4_k19 : Tryz.f4.resultTypes.all (fun t => Tryz.pinned.checked.prog.readableRec t && decide (t < Tryz.pinned.checked.prog.types.size)) = true := by kernel_rfl
theorem f4_k20 : (Rows.fnExactIsValidProgramRow.ifacesOut == Tryz.f4.resultTypes.toList.any (Tryz.pinned.checked.prog.ifacesRec ·)) = true := by kernel_rfl
theorem f4_k21 : (Rows.fnExactIsValidProgramRow.loopsOut == Tryz.f4.resultTypes.toList.any (Tryz.pinned.checked.prog.loopsFrom ·)) = true := by kernel_rfl
theorem f4_k22 : (Rows.fnExactIsValidProgramRow.plainKeys == Tryz.pinned.checked.prog.plainKeys) = true := by kernel_rfl
theorem f4_k23 : Rows.fnExactIsValidProgramRow.shortTexts.isNone = true := by kernel_rfl
theorem f4_k26 : (Rows.fnExactIsValidProgramRow.lifted == Tryz.pinned.checked.prog.liftsFinal) = true := by kernel_rfl
theorem f4_k27 : (Tryz.pinned.checked.prog.make == some Rows.fnExactIsValidProgramRow.make) = true := by kernel_rfl
theorem f4_k28 : (Rows.fnExactIsValidProgramRow.kinds == (if Rows.fnExactIsValidProgramRow.domain.isEmpty then [] else Tryz.f4.params.toList.map fun t => match Tryz.pinned.checked.prog.underlying t with | some (.int k) => some k | _ => none)) = true := by kernel_rfl
theorem f4_k29 : (Rows.fnExactIsValidProgramRow.pinned == Rows.fnExactIsValidProgramRow.pinnedBy) = true := by kernel_rfl
theorem f4_k30 : (Rows.fnExactIsValidProgramRow.veiled == (Tryz.f4.params.toList ++ Rows.fnExactIsValidProgramSpec.plain.varTypes Tryz.pinned.checked.prog ++ Tryz.f4.resultTypes.toList).any (Tryz.pinned.checked.prog.veiledRec ·)) = true := by kernel_rfl
theorem f4_k31 : Rows.fnExactIsValidProgramRow.veiledFits Tryz.pinned.checked.prog Tryz.f4.params.toList (Tryz.f4.params.toList ++ Rows.fnExactIsValidProgramSpec.plain.varTypes Tryz.pinned.checked.prog ++ Tryz.f4.resultTypes.toList) = true := by kernel_rfl
set_option maxRecDepth 100000 in
theorem f4_facts : joinedFacts Tryz.pinned.checked.prog 4 Tryz.f4 Rows.fnExactIsValidProgramSpec Rows.fnExactIsValidProgramRow = true := joinedFacts_of (P := Tryz.pinned.checked.prog) (f := 4) (fn := Tryz.f4) (s := Rows.fnExactIsValidProgramSpec) (c := Rows.fnExactIsValidProgramRow) f4_k0 F_laid F_maps f4_k3 f4_k4 f4_k5 f4_k6 f4_k7 f4_k8 f4_k9 f4_k10 f4_k11 f4_k12 f4_k13 f4_k14 f4_k15 f4_k16 f4_k17 f4_k18 f4_k19 f4_k20 f4_k21 f4_k22 f4_k23 F_heard F_enter f4_k26 f4_k27 f4_k28 f4_k29 f4_k30 f4_k31
theorem f4_inst : Tryz.f4.isInstance Tryz.pinned.checked.prog Rows.fnExactIsValidProgramRow.origin Rows.fnExactIsValidProgramRow.targs := of_decide_eq_true (by kernel_rfl)
theorem f4_wrap : Tryz.f4.isWrapper Tryz.pinned.checked.prog Rows.fnExactIsValidProgramRow.wrapper Rows.fnExactIsValidProgramRow.mainSum := by
  unfold Func.isWrapper; first | (rw [if_pos (by decide +kernel)]; kernel_rfl) | (rw [if_neg (by decide +kernel)]; exact ⟨rfl, rfl⟩)
theorem f4_holds : Rows.FnExactIsValidProgramSaid :=
  OpenClaim.holds_of_wide 4 Tryz.f4 rfl rfl rfl rfl rfl rfl rfl ⟨rfl, rfl, rfl, rfl, rfl⟩ rfl rfl rfl rfl rfl f4_named Tryz.func4 f4_facts f4_inst f4_wrap
    (fun os started H enc _ => f4_lifted os started H enc)
#print axioms f4_holds
end Go.Proofs.YtlbdgpkgmheikaaGreat

/- FnExactDomainOf: for all arguments the law returns true; no condition. -/
import Derived.Test.YtilcageplifbgaaGreatKD30
import Derived.Test.YtilcageplifbgaaGreatKLJ
import Derived.Test.YtilcageplifbgaaGreatRows
namespace Go.Proofs.YtilcageplifbgaaGreat
set_option linter.all false
open Go Go.RowKit Go.Proofs Go.ChangeShapes Go.WideShapes
set_option maxRecDepth 100000 in
theorem f3_lifted (os : Os) (started : os.Started) (H : Type) (enc : TypeId × Value → H) :
    ReturnsInHanded {} Tryz.checked os 3 .any (Rows.fnExactDomainOfSpec.pre6 enc Tryz.prog Tryz.f3 Rows.fnExactDomainOfRow.domain false) (Rows.fnExactDomainOfSpec.post enc Tryz.prog Tryz.f3 false true false false) := by
  refine returnsInHanded_of_change_sized (C := Tryz.checked) Tryz.own started (by kernel_rfl) Tryz.func3
    (ChangeSpec.witness6 (enc := enc) (C := Tryz.checked) false ⟨#[], #[.agg #[.slice Option.none 0 0, .slice Option.none 0 0], .string (ByteArray.mk #[])], []⟩ 8 (by kernel_rfl) (by kernel_rfl) (by kernel_rfl) (by kernel_rfl)) ?_
  intro W base args ds gs before hval hW _ hsz _
  refine law_contract (k := 13) (tb := 4) Tryz.laidOut rfl Tryz.underlying4 (by kernel_rfl) (by kernel_rfl) rfl ?_ ?_ base args ds gs before hval hW hsz
  · intro ds hl
    match ds, hl with
    | [d0, d1], _ => rfl
  · intro xs hx
    have hp : Tryz.f3.params.toList = [25, 9] := by kernel_rfl
    rw [hp] at hx
    have q : All2 (fun t a => ArgOf Tryz.prog 13 t a) [25, 9] xs := hx
    obtain ⟨a0, xs, rfl, q0, q⟩ := All2_cons q
    obtain ⟨a1, xs, rfl, q1, q⟩ := All2_cons q
    cases All2_nil q
    obtain ⟨x0, rfl⟩ := arg_Program q0
    obtain ⟨x1, rfl, w1⟩ := ArgOf_string Tryz.underlying9 q1
    exact law_DomainOf x0 x1
theorem f3_named : Tryz.pinned.checked.prog.funcNamed Rows.fnExactDomainOfRow.func = some 3 := by kernel_rfl
theorem f3_k0 : Rows.fnExactDomainOfRow.wf (OpenSpec.ofChange Rows.fnExactDomainOfSpec) = true := by kernel_rfl
theorem f3_k3 : Tryz.f3.params.all (Tryz.pinned.checked.prog.readableRec ·) = true := by kernel_rfl
theorem f3_k4 : namedTie Tryz.pinned.checked.prog Rows.fnExactDomainOfRow.named Rows.fnExactDomainOfSpec.vars = true := by kernel_rfl
theorem f3_k5 : (Rows.fnExactDomainOfRow.stops == []) = true := by kernel_rfl
theorem f3_k6 : (Tryz.pinned.checked.prog.stops == []) = true := by kernel_rfl
theorem f3_k7 : (Rows.fnExactDomainOfRow.knobs == []) = true := by kernel_rfl
theorem f3_k8 : (Tryz.pinned.checked.prog.stopKnobs == []) = true := by kernel_rfl
theorem f3_k9 : (Rows.fnExactDomainOfRow.inPlace == Tryz.pinned.checked.prog.inPlace 3) = true := by kernel_rfl
theorem f3_k10 : (Rows.fnExactDomainOfRow.unfollowed == Tryz.pinned.checked.prog.unfollowed 3) = true := by kernel_rfl
theorem f3_k11 : (Rows.fnExactDomainOfRow.recurses == Tryz.pinned.checked.prog.recurses 3) = true := by kernel_rfl
theorem f3_k12 : (Rows.fnExactDomainOfRow.named == Tryz.pinned.checked.prog.varsNamed 3) = true := by kernel_rfl
theorem f3_k13 : (Rows.fnExactDomainOfRow.maps == (Tryz.f3.params.toList ++ Rows.fnExactDomainOfSpec.plain.varTypes Tryz.pinned.checked.prog).any (Tryz.pinned.checked.prog.mapsRec ·)) = true := by kernel_rfl
theorem f3_k14 : (Rows.fnExactDomainOfRow.ifaces == (Tryz.f3.params.toList ++ Rows.fnExactDomainOfSpec.plain.varTypes Tryz.pinned.checked.prog).any (Tryz.pinned.checked.prog.ifacesRec ·)) = true := by kernel_rfl
theorem f3_k15 : (Rows.fnExactDomainOfRow.mapsOut == Tryz.pinned.checked.prog.mapsAmong Tryz.f3.resultTypes.toList) = true := by kernel_rfl
theorem f3_k16 : (Rows.fnExactDomainOfRow.loops == (Tryz.f3.params.toList ++ Rows.fnExactDomainOfSpec.plain.varTypes Tryz.pinned.checked.prog).any (Tryz.pinned.checked.prog.loopsFrom ·)) = true := by kernel_rfl
theorem f3_k17 : (Rows.fnExactDomainOfRow.wideKeys == (Tryz.f3.params.toList ++ Rows.fnExactDomainOfSpec.plain.varTypes Tryz.pinned.checked.prog ++ Tryz.f3.resultTypes.toList).any (Tryz.pinned.checked.prog.wideKeysFrom ·)) = true := by kernel_rfl
theorem f3_k18 : Rows.fnExactDomainOfSpec.vars.all (Tryz.pinned.checked.prog.varReadable ·) = true := by kernel_rfl
theorem f3_k19 : Tryz.f3.resultTypes.all (fun t => Tryz.pinned.checked.prog.readableRec t && decide (t < Tryz.pinned.checked.prog.types.size)) = true := by kernel_rfl
theorem f3_k20 : (Rows.fnExactDomainOfRow.ifacesOut == Tryz.f3.resultTypes.toList.any (Tryz.pinned.checked.prog.ifacesRec ·)) = true := by kernel_rfl
theorem f3_k21 : (Rows.fnExactDomainOfRow.loopsOut == Tryz.f3.resultTypes.toList.any (Tryz.pinned.checked.prog.loopsFrom ·)) = true := by kernel_rfl
theorem f3_k22 : (Rows.fnExactDomainOfRow.plainKeys == Tryz.pinned.checked.prog.plainKeys) = true := by kernel_rfl
theorem f3_k23 : Rows.fnExactDomainOfRow.shortTexts.isNone = true := by kernel_rfl
theorem f3_k26 : (Rows.fnExactDomainOfRow.lifted == Tryz.pinned.checked.prog.liftsFinal) = true := by kernel_rfl
theorem f3_k27 : (Tryz.pinned.checked.prog.make == some Rows.fnExactDomainOfRow.make) = true := by kernel_rfl
theorem f3_k28 : (Rows.fnExactDomainOfRow.kinds == (if Rows.fnExactDomainOfRow.domain.isEmpty then [] else Tryz.f3.params.toList.map fun t => match Tryz.pinned.checked.prog.underlying t with | some (.int k) => some k | _ => none)) = true := by kernel_rfl
theorem f3_k29 : (Rows.fnExactDomainOfRow.pinned == Rows.fnExactDomainOfRow.pinnedBy) = true := by kernel_rfl
theorem f3_k30 : (Rows.fnExactDomainOfRow.veiled == (Tryz.f3.params.toList ++ Rows.fnExactDomainOfSpec.plain.varTypes Tryz.pinned.checked.prog ++ Tryz.f3.resultTypes.toList).any (Tryz.pinned.checked.prog.veiledRec ·)) = true := by kernel_rfl
theorem f3_k31 : Rows.fnExactDomainOfRow.veiledFits Tryz.pinned.checked.prog Tryz.f3.params.toList (Tryz.f3.params.toList ++ Rows.fnExactDomainOfSpec.plain.varTypes Tryz.pinned.checked.prog ++ Tryz.f3.resultTypes.toList) = true := by kernel_rfl
set_option maxRecDepth 100000 in
theorem f3_facts : joinedFacts Tryz.pinned.checked.prog 3 Tryz.f3 Rows.fnExactDomainOfSpec Rows.fnExactDomainOfRow = true := joinedFacts_of (P := Tryz.pinned.checked.prog) (f := 3) (fn := Tryz.f3) (s := Rows.fnExactDomainOfSpec) (c := Rows.fnExactDomainOfRow) f3_k0 F_laid F_maps f3_k3 f3_k4 f3_k5 f3_k6 f3_k7 f3_k8 f3_k9 f3_k10 f3_k11 f3_k12 f3_k13 f3_k14 f3_k15 f3_k16 f3_k17 f3_k18 f3_k19 f3_k20 f3_k21 f3_k22 f3_k23 F_heard F_enter f3_k26 f3_k27 f3_k28 f3_k29 f3_k30 f3_k31
theorem f3_inst : Tryz.f3.isInstance Tryz.pinned.checked.prog Rows.fnExactDomainOfRow.origin Rows.fnExactDomainOfRow.targs := of_decide_eq_true (by kernel_rfl)
theorem f3_wrap : Tryz.f3.isWrapper Tryz.pinned.checked.prog Rows.fnExactDomainOfRow.wrapper Rows.fnExactDomainOfRow.mainSum := by
  unfold Func.isWrapper; first | (rw [if_pos (by decide +kernel)]; kernel_rfl) | (rw [if_neg (by decide +kernel)]; exact ⟨rfl, rfl⟩)
theorem f3_holds : Rows.FnExactDomainOfSaid :=
  OpenClaim.holds_of_wide 3 Tryz.f3 rfl rfl rfl rfl rfl rfl rfl ⟨rfl, rfl, rfl, rfl, rfl⟩ rfl rfl rfl rfl rfl f3_named Tryz.func3 f3_facts f3_inst f3_wrap
    (fun os started H enc _ => f3_lifted os started H enc)
#print axioms f3_holds
end Go.Proofs.YtilcageplifbgaaGreat

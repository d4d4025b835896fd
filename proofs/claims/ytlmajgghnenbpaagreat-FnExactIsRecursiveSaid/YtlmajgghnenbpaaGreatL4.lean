/- FnExactIsRecursive: for all arguments the law returns true; no condition. -/
import Derived.Test.YtlmajgghnenbpaaGreatD26
import Derived.Test.YtlmajgghnenbpaaGreatLJ
import Derived.Test.YtlmajgghnenbpaaGreatRows
namespace Go.Proofs.YtlmajgghnenbpaaGreat
set_option linter.all false
open Go Go.RowKit Go.Proofs Go.ChangeShapes Go.WideShapes
set_option maxRecDepth 100000 in
theorem f4_lifted (os : Os) (started : os.Started) (H : Type) (enc : TypeId × Value → H) :
    ReturnsInHanded {} Tryz.checked os 4 .any (Rows.fnExactIsRecursiveSpec.pre6 enc Tryz.prog Tryz.f4 Rows.fnExactIsRecursiveRow.domain false) (Rows.fnExactIsRecursiveSpec.post enc Tryz.prog Tryz.f4 false true false false) := by
  refine returnsInHanded_of_change_sized (C := Tryz.checked) Tryz.own started (by kernel_rfl) Tryz.func4
    (ChangeSpec.witness6 (enc := enc) (C := Tryz.checked) false ⟨#[], #[.agg #[.slice Option.none 0 0, .slice Option.none 0 0], .string (ByteArray.mk #[])], []⟩ 8 (by kernel_rfl) (by kernel_rfl) (by kernel_rfl) (by kernel_rfl)) ?_
  intro W base args ds gs before hval hW _ hsz _
  refine law_contract (k := 13) (tb := 4) Tryz.laidOut rfl Tryz.underlying4 (by kernel_rfl) (by kernel_rfl) rfl ?_ ?_ base args ds gs before hval hW hsz
  · intro ds hl
    match ds, hl with
    | [d0, d1], _ => rfl
  · intro xs hx
    have hp : Tryz.f4.params.toList = [25, 9] := by kernel_rfl
    rw [hp] at hx
    have q : All2 (fun t a => ArgOf Tryz.prog 13 t a) [25, 9] xs := hx
    obtain ⟨a0, xs, rfl, q0, q⟩ := All2_cons q
    obtain ⟨a1, xs, rfl, q1, q⟩ := All2_cons q
    cases All2_nil q
    obtain ⟨x0, rfl⟩ := arg_Program q0
    obtain ⟨x1, rfl, w1⟩ := ArgOf_string Tryz.underlying9 q1
    exact law_IsRecursive x0 x1
theorem f4_named : Tryz.pinned.checked.prog.funcNamed Rows.fnExactIsRecursiveRow.func = some 4 := by kernel_rfl
theorem f4_k0 : Rows.fnExactIsRecursiveRow.wf (OpenSpec.ofChange Rows.fnExactIsRecursiveSpec) = true := by kernel_rfl
theorem f4_k3 : Tryz.f4.params.all (Tryz.pinned.checked.prog.readableRec ·) = true := by kernel_rfl
theorem f4_k4 : namedTie Tryz.pinned.checked.prog Rows.fnExactIsRecursiveRow.named Rows.fnExactIsRecursiveSpec.vars = true := by kernel_rfl
theorem f4_k5 : (Rows.fnExactIsRecursiveRow.stops == []) = true := by kernel_rfl
theorem f4_k6 : (Tryz.pinned.checked.prog.stops == []) = true := by kernel_rfl
theorem f4_k7 : (Rows.fnExactIsRecursiveRow.knobs == []) = true := by kernel_rfl
theorem f4_k8 : (Tryz.pinned.checked.prog.stopKnobs == []) = true := by kernel_rfl
theorem f4_k9 : (Rows.fnExactIsRecursiveRow.inPlace == Tryz.pinned.checked.prog.inPlace 4) = true := by kernel_rfl
theorem f4_k10 : (Rows.fnExactIsRecursiveRow.unfollowed == Tryz.pinned.checked.prog.unfollowed 4) = true := by kernel_rfl
theorem f4_k11 : (Rows.fnExactIsRecursiveRow.recurses == Tryz.pinned.checked.prog.recurses 4) = true := by kernel_rfl
theorem f4_k12 : (Rows.fnExactIsRecursiveRow.named == Tryz.pinned.checked.prog.varsNamed 4) = true := by kernel_rfl
theorem f4_k13 : (Rows.fnExactIsRecursiveRow.maps == (Tryz.f4.params.toList ++ Rows.fnExactIsRecursiveSpec.plain.varTypes Tryz.pinned.checked.prog).any (Tryz.pinned.checked.prog.mapsRec ·)) = true := by kernel_rfl
theorem f4_k14 : (Rows.fnExactIsRecursiveRow.ifaces == (Tryz.f4.params.toList ++ Rows.fnExactIsRecursiveSpec.plain.varTypes Tryz.pinned.checked.prog).any (Tryz.pinned.checked.prog.ifacesRec ·)) = true := by kernel_rfl
theorem f4_k15 : (Rows.fnExactIsRecursiveRow.mapsOut == Tryz.pinned.checked.prog.mapsAmong Tryz.f4.resultTypes.toList) = true := by kernel_rfl
theorem f4_k16 : (Rows.fnExactIsRecursiveRow.loops == (Tryz.f4.params.toList ++ Rows.fnExactIsRecursiveSpec.plain.varTypes Tryz.pinned.checked.prog).any (Tryz.pinned.checked.prog.loopsFrom ·)) = true := by kernel_rfl
theorem f4_k17 : (Rows.fnExactIsRecursiveRow.wideKeys == (Tryz.f4.params.toList ++ Rows.fnExactIsRecursiveSpec.plain.varTypes Tryz.pinned.checked.prog ++ Tryz.f4.resultTypes.toList).any (Tryz.pinned.checked.prog.wideKeysFrom ·)) = true := by kernel_rfl
theorem f4_k18 : Rows.fnExactIsRecursiveSpec.vars.all (Tryz.pinned.checked.prog.varReadable ·) = true := by kernel_rfl
theorem f4_k19 : Tryz.f4.resultTypes.all (fun t => Tryz.pinned.checked.prog.readableRec t && decide (t < Tryz.pinned.checked.prog.types.size)) = true := by kernel_rfl
theorem f4_k20 : (Rows.fnExactIsRecursiveRow.ifacesOut == Tryz.f4.resultTypes.toList.any (Tryz.pinned.checked.prog.ifacesRec ·)) = true := by kernel_rfl
theorem f4_k21 : (Rows.fnExactIsRecursiveRow.loopsOut == Tryz.f4.resultTypes.toList.any (Tryz.pinned.checked.prog.loopsFrom ·)) = true := by kernel_rfl
theorem f4_k22 : (Rows.fnExactIsRecursiveRow.plainKeys == Tryz.pinned.checked.prog.plainKeys) = true := by kernel_rfl
theorem f4_k23 : Rows.fnExactIsRecursiveRow.shortTexts.isNone = true := by kernel_rfl
theorem f4_k26 : (Rows.fnExactIsRecursiveRow.lifted == Tryz.pinned.checked.prog.liftsFinal) = true := by kernel_rfl
theorem f4_k27 : (Tryz.pinned.checked.prog.make == some Rows.fnExactIsRecursiveRow.make) = true := by kernel_rfl
theorem f4_k28 : (Rows.fnExactIsRecursiveRow.kinds == (if Rows.fnExactIsRecursiveRow.domain.isEmpty then [] else Tryz.f4.params.toList.map fun t => match Tryz.pinned.checked.prog.underlying t with | some (.int k) => some k | _ => none)) = true := by kernel_rfl
theorem f4_k29 : (Rows.fnExactIsRecursiveRow.pinned == Rows.fnExactIsRecursiveRow.pinnedBy) = true := by kernel_rfl
theorem f4_k30 : (Rows.fnExactIsRecursiveRow.veiled == (Tryz.f4.params.toList ++ Rows.fnExactIsRecursiveSpec.plain.varTypes Tryz.pinned.checked.prog ++ Tryz.f4.resultTypes.toList).any (Tryz.pinned.checked.prog.veiledRec ·)) = true := by kernel_rfl
theorem f4_k31 : Rows.fnExactIsRecursiveRow.veiledFits Tryz.pinned.checked.prog Tryz.f4.params.toList (Tryz.f4.params.toList ++ Rows.fnExactIsRecursiveSpec.plain.varTypes Tryz.pinned.checked.prog ++ Tryz.f4.resultTypes.toList) = true := by kernel_rfl
set_option maxRecDepth 100000 in
theorem f4_facts : joinedFacts Tryz.pinned.checked.prog 4 Tryz.f4 Rows.fnExactIsRecursiveSpec Rows.fnExactIsRecursiveRow = true := joinedFacts_of (P := Tryz.pinned.checked.prog) (f := 4) (fn := Tryz.f4) (s := Rows.fnExactIsRecursiveSpec) (c := Rows.fnExactIsRecursiveRow) f4_k0 F_laid F_maps f4_k3 f4_k4 f4_k5 f4_k6 f4_k7 f4_k8 f4_k9 f4_k10 f4_k11 f4_k12 f4_k13 f4_k14 f4_k15 f4_k16 f4_k17 f4_k18 f4_k19 f4_k20 f4_k21 f4_k22 f4_k23 F_heard F_enter f4_k26 f4_k27 f4_k28 f4_k29 f4_k30 f4_k31
theorem f4_inst : Tryz.f4.isInstance Tryz.pinned.checked.prog Rows.fnExactIsRecursiveRow.origin Rows.fnExactIsRecursiveRow.targs := of_decide_eq_true (by kernel_rfl)
theorem f4_wrap : Tryz.f4.isWrapper Tryz.pinned.checked.prog Rows.fnExactIsRecursiveRow.wrapper Rows.fnExactIsRecursiveRow.mainSum := by
  unfold Func.isWrapper; first | (rw [if_pos (by decide +kernel)]; kernel_rfl) | (rw [if_neg (by decide +kernel)]; exact ⟨rfl, rfl⟩)
theorem f4_holds : Rows.FnExactIsRecursiveSaid :=
  OpenClaim.holds_of_wide 4 Tryz.f4 rfl rfl rfl rfl rfl rfl rfl ⟨rfl, rfl, rfl, rfl, rfl⟩ rfl rfl rfl rfl rfl f4_named Tryz.func4 f4_facts f4_inst f4_wrap
    (fun os started H enc _ => f4_lifted os started H enc)
#print axioms f4_holds
end Go.Proofs.YtlmajgghnenbpaaGreat

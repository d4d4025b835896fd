/- FnExactMeetsPre: for all arguments the law returns true; no condition. -/
import Derived.Test.YtlmajgghnenbpaaGreatD24
import Derived.Test.YtlmajgghnenbpaaGreatLJ
import Derived.Test.YtlmajgghnenbpaaGreatRows
namespace Go.Proofs.YtlmajgghnenbpaaGreat
set_option linter.all false
open Go Go.RowKit Go.Proofs Go.ChangeShapes Go.WideShapes
set_option maxRecDepth 100000 in
theorem f6_lifted (os : Os) (started : os.Started) (H : Type) (enc : TypeId × Value → H) :
    ReturnsInHanded {} Tryz.checked os 6 .any (Rows.fnExactMeetsPreSpec.pre6 enc Tryz.prog Tryz.f6 Rows.fnExactMeetsPreRow.domain false) (Rows.fnExactMeetsPreSpec.post enc Tryz.prog Tryz.f6 false true false false) := by
  refine returnsInHanded_of_change_sized (C := Tryz.checked) Tryz.own started (by kernel_rfl) Tryz.func6
    (ChangeSpec.witness6 (enc := enc) (C := Tryz.checked) false ⟨#[], #[.agg #[.slice Option.none 0 0, .slice Option.none 0 0], .string (ByteArray.mk #[]), .slice Option.none 0 0], []⟩ 8 (by kernel_rfl) (by kernel_rfl) (by kernel_rfl) (by kernel_rfl)) ?_
  intro W base args ds gs before hval hW _ hsz _
  refine law_contract (k := 13) (tb := 4) Tryz.laidOut rfl Tryz.underlying4 (by kernel_rfl) (by kernel_rfl) rfl ?_ ?_ base args ds gs before hval hW hsz
  · intro ds hl
    match ds, hl with
    | [d0, d1, d2], _ => rfl
  · intro xs hx
    have hp : Tryz.f6.params.toList = [25, 9, 47] := by kernel_rfl
    rw [hp] at hx
    have q : All2 (fun t a => ArgOf Tryz.prog 13 t a) [25, 9, 47] xs := hx
    obtain ⟨a0, xs, rfl, q0, q⟩ := All2_cons q
    obtain ⟨a1, xs, rfl, q1, q⟩ := All2_cons q
    obtain ⟨a2, xs, rfl, q2, q⟩ := All2_cons q
    cases All2_nil q
    obtain ⟨x0, rfl⟩ := arg_Program q0
    obtain ⟨x1, rfl, w1⟩ := ArgOf_string Tryz.underlying9 q1
    obtain ⟨x2, rfl⟩ := arg_ValueS q2
    exact law_MeetsPre x0 x1 x2
theorem f6_named : Tryz.pinned.checked.prog.funcNamed Rows.fnExactMeetsPreRow.func = some 6 := by kernel_rfl
theorem f6_k0 : Rows.fnExactMeetsPreRow.wf (OpenSpec.ofChange Rows.fnExactMeetsPreSpec) = true := by kernel_rfl
theorem f6_k3 : Tryz.f6.params.all (Tryz.pinned.checked.prog.readableRec ·) = true := by kernel_rfl
theorem f6_k4 : namedTie Tryz.pinned.checked.prog Rows.fnExactMeetsPreRow.named Rows.fnExactMeetsPreSpec.vars = true := by kernel_rfl
theorem f6_k5 : (Rows.fnExactMeetsPreRow.stops == []) = true := by kernel_rfl
theorem f6_k6 : (Tryz.pinned.checked.prog.stops == []) = true := by kernel_rfl
theorem f6_k7 : (Rows.fnExactMeetsPreRow.knobs == []) = true := by kernel_rfl
theorem f6_k8 : (Tryz.pinned.checked.prog.stopKnobs == []) = true := by kernel_rfl
theorem f6_k9 : (Rows.fnExactMeetsPreRow.inPlace == Tryz.pinned.checked.prog.inPlace 6) = true := by kernel_rfl
theorem f6_k10 : (Rows.fnExactMeetsPreRow.unfollowed == Tryz.pinned.checked.prog.unfollowed 6) = true := by kernel_rfl
theorem f6_k11 : (Rows.fnExactMeetsPreRow.recurses == Tryz.pinned.checked.prog.recurses 6) = true := by kernel_rfl
theorem f6_k12 : (Rows.fnExactMeetsPreRow.named == Tryz.pinned.checked.prog.varsNamed 6) = true := by kernel_rfl
theorem f6_k13 : (Rows.fnExactMeetsPreRow.maps == (Tryz.f6.params.toList ++ Rows.fnExactMeetsPreSpec.plain.varTypes Tryz.pinned.checked.prog).any (Tryz.pinned.checked.prog.mapsRec ·)) = true := by kernel_rfl
theorem f6_k14 : (Rows.fnExactMeetsPreRow.ifaces == (Tryz.f6.params.toList ++ Rows.fnExactMeetsPreSpec.plain.varTypes Tryz.pinned.checked.prog).any (Tryz.pinned.checked.prog.ifacesRec ·)) = true := by kernel_rfl
theorem f6_k15 : (Rows.fnExactMeetsPreRow.mapsOut == Tryz.pinned.checked.prog.mapsAmong Tryz.f6.resultTypes.toList) = true := by kernel_rfl
theorem f6_k16 : (Rows.fnExactMeetsPreRow.loops == (Tryz.f6.params.toList ++ Rows.fnExactMeetsPreSpec.plain.varTypes Tryz.pinned.checked.prog).any (Tryz.pinned.checked.prog.loopsFrom ·)) = true := by kernel_rfl
theorem f6_k17 : (Rows.fnExactMeetsPreRow.wideKeys == (Tryz.f6.params.toList ++ Rows.fnExactMeetsPreSpec.plain.varTypes Tryz.pinned.checked.prog ++ Tryz.f6.resultTypes.toList).any (Tryz.pinned.checked.prog.wideKeysFrom ·)) = true := by kernel_rfl
theorem f6_k18 : Rows.fnExactMeetsPreSpec.vars.all (Tryz.pinned.checked.prog.varReadable ·) = true := by kernel_rfl
theorem f6_k19 : Tryz.f6.resultTypes.all (fun t => Tryz.pinned.checked.prog.readableRec t && decide (t < Tryz.pinned.checked.prog.types.size)) = true := by kernel_rfl
theorem f6_k20 : (Rows.fnExactMeetsPreRow.ifacesOut == Tryz.f6.resultTypes.toList.any (Tryz.pinned.checked.prog.ifacesRec ·)) = true := by kernel_rfl
theorem f6_k21 : (Rows.fnExactMeetsPreRow.loopsOut == Tryz.f6.resultTypes.toList.any (Tryz.pinned.checked.prog.loopsFrom ·)) = true := by kernel_rfl
theorem f6_k22 : (Rows.fnExactMeetsPreRow.plainKeys == Tryz.pinned.checked.prog.plainKeys) = true := by kernel_rfl
theorem f6_k23 : Rows.fnExactMeetsPreRow.shortTexts.isNone = true := by kernel_rfl
theorem f6_k26 : (Rows.fnExactMeetsPreRow.lifted == Tryz.pinned.checked.prog.liftsFinal) = true := by kernel_rfl
theorem f6_k27 : (Tryz.pinned.checked.prog.make == some Rows.fnExactMeetsPreRow.make) = true := by kernel_rfl
theorem f6_k28 : (Rows.fnExactMeetsPreRow.kinds == (if Rows.fnExactMeetsPreRow.domain.isEmpty then [] else Tryz.f6.params.toList.map fun t => match Tryz.pinned.checked.prog.underlying t with | some (.int k) => some k | _ => none)) = true := by kernel_rfl
theorem f6_k29 : (Rows.fnExactMeetsPreRow.pinned == Rows.fnExactMeetsPreRow.pinnedBy) = true := by kernel_rfl
theorem f6_k30 : (Rows.fnExactMeetsPreRow.veiled == (Tryz.f6.params.toList ++ Rows.fnExactMeetsPreSpec.plain.varTypes Tryz.pinned.checked.prog ++ Tryz.f6.resultTypes.toList).any (Tryz.pinned.checked.prog.veiledRec ·)) = true := by kernel_rfl
theorem f6_k31 : Rows.fnExactMeetsPreRow.veiledFits Tryz.pinned.checked.prog Tryz.f6.params.toList (Tryz.f6.params.toList ++ Rows.fnExactMeetsPreSpec.plain.varTypes Tryz.pinned.checked.prog ++ Tryz.f6.resultTypes.toList) = true := by kernel_rfl
set_option maxRecDepth 100000 in
theorem f6_facts : joinedFacts Tryz.pinned.checked.prog 6 Tryz.f6 Rows.fnExactMeetsPreSpec Rows.fnExactMeetsPreRow = true := joinedFacts_of (P := Tryz.pinned.checked.prog) (f := 6) (fn := Tryz.f6) (s := Rows.fnExactMeetsPreSpec) (c := Rows.fnExactMeetsPreRow) f6_k0 F_laid F_maps f6_k3 f6_k4 f6_k5 f6_k6 f6_k7 f6_k8 f6_k9 f6_k10 f6_k11 f6_k12 f6_k13 f6_k14 f6_k15 f6_k16 f6_k17 f6_k18 f6_k19 f6_k20 f6_k21 f6_k22 f6_k23 F_heard F_enter f6_k26 f6_k27 f6_k28 f6_k29 f6_k30 f6_k31
theorem f6_inst : Tryz.f6.isInstance Tryz.pinned.checked.prog Rows.fnExactMeetsPreRow.origin Rows.fnExactMeetsPreRow.targs := of_decide_eq_true (by kernel_rfl)
theorem f6_wrap : Tryz.f6.isWrapper Tryz.pinned.checked.prog Rows.fnExactMeetsPreRow.wrapper Rows.fnExactMeetsPreRow.mainSum := by
  unfold Func.isWrapper; first | (rw [if_pos (by decide +kernel)]; kernel_rfl) | (rw [if_neg (by decide +kernel)]; exact ⟨rfl, rfl⟩)
theorem f6_holds : Rows.FnExactMeetsPreSaid :=
  OpenClaim.holds_of_wide 6 Tryz.f6 rfl rfl rfl rfl rfl rfl rfl ⟨rfl, rfl, rfl, rfl, rfl⟩ rfl rfl rfl rfl rfl f6_named Tryz.func6 f6_facts f6_inst f6_wrap
    (fun os started H enc _ => f6_lifted os started H enc)
#print axioms f6_holds
end Go.Proofs.YtlmajgghnenbpaaGreat

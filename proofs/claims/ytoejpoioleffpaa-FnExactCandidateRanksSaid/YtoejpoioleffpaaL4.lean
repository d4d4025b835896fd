/- FnExactCandidateRanks: for all arguments the law returns true; no condition. -/
import Derived.Test.YtoejpoioleffpaaD50
import Derived.Test.YtoejpoioleffpaaLJ
import Derived.Test.YtoejpoioleffpaaRows
namespace Go.Proofs.Ytoejpoioleffpaa
set_option linter.all false
open Go Go.RowKit Go.Proofs Go.ChangeShapes Go.WideShapes
set_option maxRecDepth 100000 in
theorem f4_lifted (os : Os) (started : os.Started) (H : Type) (enc : TypeId × Value → H) :
    ReturnsInHanded {} Try.checked os 4 .any (Rows.fnExactCandidateRanksSpec.pre6 enc Try.prog Try.f4 Rows.fnExactCandidateRanksRow.domain false) (Rows.fnExactCandidateRanksSpec.post enc Try.prog Try.f4 false true false false) := by
  refine returnsInHanded_of_change_sized (C := Try.checked) Try.own started (by kernel_rfl) Try.func4
    (ChangeSpec.witness6 (enc := enc) (C := Try.checked) false ⟨#[], #[.int .i64 0], []⟩ 8 (by kernel_rfl) (by kernel_rfl) (by kernel_rfl) (by kernel_rfl)) ?_
  intro W base args ds gs before hval hW _ hsz _
  refine law_contract (k := 2) (tb := 4) Try.laidOut rfl Try.underlying4 (by kernel_rfl) (by kernel_rfl) rfl ?_ ?_ base args ds gs before hval hW hsz
  · intro ds hl
    match ds, hl with
    | [d0], _ => rfl
  · intro xs hx
    have hp : Try.f4.params.toList = [3] := by kernel_rfl
    rw [hp] at hx
    have q : All2 (fun t a => ArgOf Try.prog 2 t a) [3] xs := hx
    obtain ⟨a0, xs, rfl, q0, q⟩ := All2_cons q
    cases All2_nil q
    obtain ⟨x0, rfl, w0⟩ := ArgOf_int Try.underlying3 q0
    exact law_CandidateRanks x0
theorem f4_named : Try.pinned.checked.prog.funcNamed Rows.fnExactCandidateRanksRow.func = some 4 := by kernel_rfl
theorem f4_k0 : Rows.fnExactCandidateRanksRow.wf (OpenSpec.ofChange Rows.fnExactCandidateRanksSpec) = true := by kernel_rfl
theorem f4_k3 : Try.f4.params.all (Try.pinned.checked.prog.readableRec ·) = true := by kernel_rfl
theorem f4_k4 : namedTie Try.pinned.checked.prog Rows.fnExactCandidateRanksRow.named Rows.fnExactCandidateRanksSpec.vars = true := by kernel_rfl
theorem f4_k5 : (Rows.fnExactCandidateRanksRow.stops == []) = true := by kernel_rfl
theorem f4_k6 : (Try.pinned.checked.prog.stops == []) = true := by kernel_rfl
theorem f4_k7 : (Rows.fnExactCandidateRanksRow.knobs == []) = true := by kernel_rfl
theorem f4_k8 : (Try.pinned.checked.prog.stopKnobs == []) = true := by kernel_rfl
theorem f4_k9 : (Rows.fnExactCandidateRanksRow.inPlace == Try.pinned.checked.prog.inPlace 4) = true := by kernel_rfl
theorem f4_k10 : (Rows.fnExactCandidateRanksRow.unfollowed == Try.pinned.checked.prog.unfollowed 4) = true := by kernel_rfl
theorem f4_k11 : (Rows.fnExactCandidateRanksRow.recurses == Try.pinned.checked.prog.recurses 4) = true := by kernel_rfl
theorem f4_k12 : (Rows.fnExactCandidateRanksRow.named == Try.pinned.checked.prog.varsNamed 4) = true := by kernel_rfl
theorem f4_k13 : (Rows.fnExactCandidateRanksRow.maps == (Try.f4.params.toList ++ Rows.fnExactCandidateRanksSpec.plain.varTypes Try.pinned.checked.prog).any (Try.pinned.checked.prog.mapsRec ·)) = true := by kernel_rfl
theorem f4_k14 : (Rows.fnExactCandidateRanksRow.ifaces == (Try.f4.params.toList ++ Rows.fnExactCandidateRanksSpec.plain.varTypes Try.pinned.checked.prog).any (Try.pinned.checked.prog.ifacesRec ·)) = true := by kernel_rfl
theorem f4_k15 : (Rows.fnExactCandidateRanksRow.mapsOut == Try.pinned.checked.prog.mapsAmong Try.f4.resultTypes.toList) = true := by kernel_rfl
theorem f4_k16 : (Rows.fnExactCandidateRanksRow.loops == (Try.f4.params.toList ++ Rows.fnExactCandidateRanksSpec.plain.varTypes Try.pinned.checked.prog).any (Try.pinned.checked.prog.loopsFrom ·)) = true := by kernel_rfl
theorem f4_k17 : (Rows.fnExactCandidateRanksRow.wideKeys == (Try.f4.params.toList ++ Rows.fnExactCandidateRanksSpec.plain.varTypes Try.pinned.checked.prog ++ Try.f4.resultTypes.toList).any (Try.pinned.checked.prog.wideKeysFrom ·)) = true := by kernel_rfl
theorem f4_k18 : Rows.fnExactCandidateRanksSpec.vars.all (Try.pinned.checked.prog.varReadable ·) = true := by kernel_rfl
theorem f4_k19 : Try.f4.resultTypes.all (fun t => Try.pinned.checked.prog.readableRec t && decide (t < Try.pinned.checked.prog.types.size)) = true := by kernel_rfl
theorem f4_k20 : (Rows.fnExactCandidateRanksRow.ifacesOut == Try.f4.resultTypes.toList.any (Try.pinned.checked.prog.ifacesRec ·)) = true := by kernel_rfl
theorem f4_k21 : (Rows.fnExactCandidateRanksRow.loopsOut == Try.f4.resultTypes.toList.any (Try.pinned.checked.prog.loopsFrom ·)) = true := by kernel_rfl
theorem f4_k22 : (Rows.fnExactCandidateRanksRow.plainKeys == Try.pinned.checked.prog.plainKeys) = true := by kernel_rfl
theorem f4_k23 : Rows.fnExactCandidateRanksRow.shortTexts.isNone = true := by kernel_rfl
theorem f4_k26 : (Rows.fnExactCandidateRanksRow.lifted == Try.pinned.checked.prog.liftsFinal) = true := by kernel_rfl
theorem f4_k27 : (Try.pinned.checked.prog.make == some Rows.fnExactCandidateRanksRow.make) = true := by kernel_rfl
theorem f4_k28 : (Rows.fnExactCandidateRanksRow.kinds == (if Rows.fnExactCandidateRanksRow.domain.isEmpty then [] else Try.f4.params.toList.map fun t => match Try.pinned.checked.prog.underlying t with | some (.int k) => some k | _ => none)) = true := by kernel_rfl
theorem f4_k29 : (Rows.fnExactCandidateRanksRow.pinned == Rows.fnExactCandidateRanksRow.pinnedBy) = true := by kernel_rfl
theorem f4_k30 : (Rows.fnExactCandidateRanksRow.veiled == (Try.f4.params.toList ++ Rows.fnExactCandidateRanksSpec.plain.varTypes Try.pinned.checked.prog ++ Try.f4.resultTypes.toList).any (Try.pinned.checked.prog.veiledRec ·)) = true := by kernel_rfl
theorem f4_k31 : Rows.fnExactCandidateRanksRow.veiledFits Try.pinned.checked.prog Try.f4.params.toList (Try.f4.params.toList ++ Rows.fnExactCandidateRanksSpec.plain.varTypes Try.pinned.checked.prog ++ Try.f4.resultTypes.toList) = true := by kernel_rfl
set_option maxRecDepth 100000 in
theorem f4_facts : joinedFacts Try.pinned.checked.prog 4 Try.f4 Rows.fnExactCandidateRanksSpec Rows.fnExactCandidateRanksRow = true := joinedFacts_of (P := Try.pinned.checked.prog) (f := 4) (fn := Try.f4) (s := Rows.fnExactCandidateRanksSpec) (c := Rows.fnExactCandidateRanksRow) f4_k0 F_laid F_maps f4_k3 f4_k4 f4_k5 f4_k6 f4_k7 f4_k8 f4_k9 f4_k10 f4_k11 f4_k12 f4_k13 f4_k14 f4_k15 f4_k16 f4_k17 f4_k18 f4_k19 f4_k20 f4_k21 f4_k22 f4_k23 F_heard F_enter f4_k26 f4_k27 f4_k28 f4_k29 f4_k30 f4_k31
theorem f4_inst : Try.f4.isInstance Try.pinned.checked.prog Rows.fnExactCandidateRanksRow.origin Rows.fnExactCandidateRanksRow.targs := of_decide_eq_true (by kernel_rfl)
theorem f4_wrap : Try.f4.isWrapper Try.pinned.checked.prog Rows.fnExactCandidateRanksRow.wrapper Rows.fnExactCandidateRanksRow.mainSum := by
  unfold Func.isWrapper; first | (rw [if_pos (by decide +kernel)]; kernel_rfl) | (rw [if_neg (by decide +kernel)]; exact ⟨rfl, rfl⟩)
theorem f4_holds : Rows.FnExactCandidateRanksSaid :=
  OpenClaim.holds_of_wide 4 Try.f4 rfl rfl rfl rfl rfl rfl rfl ⟨rfl, rfl, rfl, rfl, rfl⟩ rfl rfl rfl rfl rfl f4_named Try.func4 f4_facts f4_inst f4_wrap
    (fun os started H enc _ => f4_lifted os started H enc)
#print axioms f4_holds
end Go.Proofs.Ytoejpoioleffpaa

/- FnExactCheckRanking: for all arguments the law returns true; no condition. -/
import Derived.Test.YtoclolkigjbcgaaGreatYT2B
import Derived.Test.YtoclolkigjbcgaaGreatRows
namespace Go.Proofs.YtoclolkigjbcgaaGreat
open Go Go.RowKit Go.Proofs Go.ChangeShapes Go.WideShapes
set_option linter.all false
set_option maxRecDepth 100000 in
theorem f8_lifted (os:Os) (started:os.Started) (H:Type) (enc:TypeId×Value→H) :
 ReturnsInHanded {} Tryz.checked os 8 .any (Rows.fnExactCheckRankingSpec.pre6 enc Tryz.prog Tryz.f8 Rows.fnExactCheckRankingRow.domain false) (Rows.fnExactCheckRankingSpec.post enc Tryz.prog Tryz.f8 false true false false):=by
 refine returnsInHanded_of_change_sized (C:=Tryz.checked) Tryz.own started (by kernel_rfl) Tryz.func8
  (ChangeSpec.witness6 (enc:=enc) (C:=Tryz.checked) false ⟨#[],#[.agg #[.slice Option.none 0 0,.slice Option.none 0 0],.agg #[.slice Option.none 0 0,.slice Option.none 0 0],.slice Option.none 0 0],[]⟩ 8 (by kernel_rfl) (by kernel_rfl) (by kernel_rfl) (by kernel_rfl)) ?_
 intro W base args ds gs before hval hW _ hsz _
 refine Jit (k:=13) (tb:=4) Tryz.laidOut rfl Tryz.underlying4 (by kernel_rfl) (by kernel_rfl) rfl ?_ ?_ base args ds gs before hval hW hsz
 ·intro ds hl
  match ds,hl with
  | [d0,d1,d2],_=>rfl
 ·intro xs hx
  have hp:Tryz.f8.params.toList=[25,76,67]:=by kernel_rfl
  rw [hp] at hx
  have q:Jqw (fun t a=>Jda Tryz.prog 13 t a) [25,76,67] xs:=hx
  obtain ⟨a0,xs,rfl,q0,q⟩:=J1b q
  obtain ⟨a1,xs,rfl,q1,q⟩:=J1b q
  obtain ⟨a2,xs,rfl,q2,q⟩:=J1b q
  cases J53 q
  obtain ⟨x0,rfl⟩:=Jkj q0
  obtain ⟨x1,rfl⟩:=Jla q1
  obtain ⟨x2,rfl⟩:=Jku q2
  exact Jdj x0 x1 x2
theorem f8_named:Tryz.pinned.checked.prog.funcNamed Rows.fnExactCheckRankingRow.func=some 8:=by kernel_rfl
theorem f8_k0:Rows.fnExactCheckRankingRow.wf (OpenSpec.ofChange Rows.fnExactCheckRankingSpec)=true:=by kernel_rfl
theorem f8_k3:Tryz.f8.params.all (Tryz.pinned.checked.prog.readableRec ·)=true:=by kernel_rfl
theorem f8_k4:namedTie Tryz.pinned.checked.prog Rows.fnExactCheckRankingRow.named Rows.fnExactCheckRankingSpec.vars=true:=by kernel_rfl
theorem f8_k5:(Rows.fnExactCheckRankingRow.stops==[])=true:=by kernel_rfl
theorem f8_k6:(Tryz.pinned.checked.prog.stops==[])=true:=by kernel_rfl
theorem f8_k7:(Rows.fnExactCheckRankingRow.knobs==[])=true:=by kernel_rfl
theorem f8_k8:(Tryz.pinned.checked.prog.stopKnobs==[])=true:=by kernel_rfl
theorem f8_k9:(Rows.fnExactCheckRankingRow.inPlace==Tryz.pinned.checked.prog.inPlace 8)=true:=by kernel_rfl
theorem f8_k10:(Rows.fnExactCheckRankingRow.unfollowed==Tryz.pinned.checked.prog.unfollowed 8)=true:=by kernel_rfl
theorem f8_k11:(Rows.fnExactCheckRankingRow.recurses==Tryz.pinned.checked.prog.recurses 8)=true:=by kernel_rfl
theorem f8_k12:(Rows.fnExactCheckRankingRow.named==Tryz.pinned.checked.prog.varsNamed 8)=true:=by kernel_rfl
theorem f8_k13:(Rows.fnExactCheckRankingRow.maps==(Tryz.f8.params.toList++Rows.fnExactCheckRankingSpec.plain.varTypes Tryz.pinned.checked.prog).any (Tryz.pinned.checked.prog.mapsRec ·))=true:=by kernel_rfl
theorem f8_k14:(Rows.fnExactCheckRankingRow.ifaces==(Tryz.f8.params.toList++Rows.fnExactCheckRankingSpec.plain.varTypes Tryz.pinned.checked.prog).any (Tryz.pinned.checked.prog.ifacesRec ·))=true:=by kernel_rfl
theorem f8_k15:(Rows.fnExactCheckRankingRow.mapsOut==Tryz.pinned.checked.prog.mapsAmong Tryz.f8.resultTypes.toList)=true:=by kernel_rfl
theorem f8_k16:(Rows.fnExactCheckRankingRow.loops==(Tryz.f8.params.toList++Rows.fnExactCheckRankingSpec.plain.varTypes Tryz.pinned.checked.prog).any (Tryz.pinned.checked.prog.loopsFrom ·))=true:=by kernel_rfl
theorem f8_k17:(Rows.fnExactCheckRankingRow.wideKeys==(Tryz.f8.params.toList++Rows.fnExactCheckRankingSpec.plain.varTypes Tryz.pinned.checked.prog++Tryz.f8.resultTypes.toList).any (Tryz.pinned.checked.prog.wideKeysFrom ·))=true:=by kernel_rfl
theorem f8_k18:Rows.fnExactCheckRankingSpec.vars.all (Tryz.pinned.checked.prog.varReadable ·)=true:=by kernel_rfl
theorem f8_k19:Tryz.f8.resultTypes.all (fun t=>Tryz.pinned.checked.prog.readableRec t&&decide (t<Tryz.pinned.checked.prog.types.size))=true:=by kernel_rfl
theorem f8_k20:(Rows.fnExactCheckRankingRow.ifacesOut==Tryz.f8.resultTypes.toList.any (Tryz.pinned.checked.prog.ifacesRec ·))=true:=by kernel_rfl
theorem f8_k21:(Rows.fnExactCheckRankingRow.loopsOut==Tryz.f8.resultTypes.toList.any (Tryz.pinned.checked.prog.loopsFrom ·))=true:=by kernel_rfl
theorem f8_k22:(Rows.fnExactCheckRankingRow.plainKeys==Tryz.pinned.checked.prog.plainKeys)=true:=by kernel_rfl
theorem f8_k23:Rows.fnExactCheckRankingRow.shortTexts.isNone=true:=by kernel_rfl
theorem f8_k26:(Rows.fnExactCheckRankingRow.lifted==Tryz.pinned.checked.prog.liftsFinal)=true:=by kernel_rfl
theorem f8_k27:(Tryz.pinned.checked.prog.make==some Rows.fnExactCheckRankingRow.make)=true:=by kernel_rfl
theorem f8_k28:(Rows.fnExactCheckRankingRow.kinds==(if Rows.fnExactCheckRankingRow.domain.isEmpty then [] else Tryz.f8.params.toList.map fun t=>match Tryz.pinned.checked.prog.underlying t with|some (.int k)=>some k|_=>none))=true:=by kernel_rfl
theorem f8_k29:(Rows.fnExactCheckRankingRow.pinned==Rows.fnExactCheckRankingRow.pinnedBy)=true:=by kernel_rfl
theorem f8_k30:(Rows.fnExactCheckRankingRow.veiled==(Tryz.f8.params.toList++Rows.fnExactCheckRankingSpec.plain.varTypes Tryz.pinned.checked.prog++Tryz.f8.resultTypes.toList).any (Tryz.pinned.checked.prog.veiledRec ·))=true:=by kernel_rfl
theorem f8_k31:Rows.fnExactCheckRankingRow.veiledFits Tryz.pinned.checked.prog Tryz.f8.params.toList (Tryz.f8.params.toList++Rows.fnExactCheckRankingSpec.plain.varTypes Tryz.pinned.checked.prog++Tryz.f8.resultTypes.toList)=true:=by kernel_rfl
set_option maxRecDepth 100000 in
theorem f8_facts:joinedFacts Tryz.pinned.checked.prog 8 Tryz.f8 Rows.fnExactCheckRankingSpec Rows.fnExactCheckRankingRow=true:=Jfr (P:=Tryz.pinned.checked.prog) (f:=8) (fn:=Tryz.f8) (s:=Rows.fnExactCheckRankingSpec) (c:=Rows.fnExactCheckRankingRow) f8_k0 K0c K1f f8_k3 f8_k4 f8_k5 f8_k6 f8_k7 f8_k8 f8_k9 f8_k10 f8_k11 f8_k12 f8_k13 f8_k14 f8_k15 f8_k16 f8_k17 f8_k18 f8_k19 f8_k20 f8_k21 f8_k22 f8_k23 Jvh Jyb f8_k26 f8_k27 f8_k28 f8_k29 f8_k30 f8_k31
theorem f8_inst:Tryz.f8.isInstance Tryz.pinned.checked.prog Rows.fnExactCheckRankingRow.origin Rows.fnExactCheckRankingRow.targs:=of_decide_eq_true (by kernel_rfl)
theorem f8_wrap:Tryz.f8.isWrapper Tryz.pinned.checked.prog Rows.fnExactCheckRankingRow.wrapper Rows.fnExactCheckRankingRow.mainSum:=by
 unfold Func.isWrapper;first|(rw [if_pos (by decide +kernel)];kernel_rfl)|(rw [if_neg (by decide +kernel)];exact ⟨rfl,rfl⟩)
theorem f8_holds:Rows.FnExactCheckRankingSaid:=
 OpenClaim.holds_of_wide 8 Tryz.f8 rfl rfl rfl rfl rfl rfl rfl ⟨rfl,rfl,rfl,rfl,rfl⟩ rfl rfl rfl rfl rfl f8_named Tryz.func8 f8_facts f8_inst f8_wrap
  (fun os started H enc _=>f8_lifted os started H enc)
#print axioms f8_holds
end Go.Proofs.YtoclolkigjbcgaaGreat

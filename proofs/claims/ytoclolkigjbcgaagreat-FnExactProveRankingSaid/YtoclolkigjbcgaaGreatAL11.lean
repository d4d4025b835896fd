/- FnExactProveRanking: for all arguments the law returns true; no condition. -/
import Derived.Test.YtoclolkigjbcgaaGreatANA
import Derived.Test.YtoclolkigjbcgaaGreatRows
namespace Go.Proofs.YtoclolkigjbcgaaGreat
open Go.Proofs.Tryz
open Go Go.RowKit Go.Proofs Go.ChangeShapes Go.WideShapes
set_option linter.all false
set_option maxRecDepth 100000 in
theorem f11_lifted(os:Os)(started:os.Started)(H:Type)(enc:TypeId×Value->H) :
 ReturnsInHanded {} Tryz.checked os 11 .any (Rows.fnExactProveRankingSpec.pre6 enc Tryz.prog f11 Rows.fnExactProveRankingRow.domain false) (Rows.fnExactProveRankingSpec.post enc Tryz.prog f11 false true false false):=by
 refine returnsInHanded_of_change_sized (C:=Tryz.checked) Tryz.own started (by kernel_rfl) func11
  (ChangeSpec.witness6 (enc:=enc) (C:=Tryz.checked) false ⟨#[],#[.agg #[.slice Option.none 0 0,.slice Option.none 0 0],.agg #[.slice Option.none 0 0,.slice Option.none 0 0]],[]⟩ 8 (by kernel_rfl) (by kernel_rfl) (by kernel_rfl) (by kernel_rfl)) ?_
 intro W base args ds gs before hval hW _ hsz _;refine J8a (k:=13) (tb:=4) Tryz.laidOut rfl underlying4 (by kernel_rfl) (by kernel_rfl) rfl ?_ ?_ base args ds gs before hval hW hsz
 ·intro ds hl
  match ds,hl with
  | [d0,d1],_=>rfl
 ·intro xs hx;have hp:f11.params.toList=[25,76]:=by kernel_rfl
  rw[hp]at hx;have q:Do (λt a=>E7 Tryz.prog 13 t a) [25,76] xs:=hx;obtain⟨a0,xs,rfl,q0,q⟩:=Uw q;obtain⟨a1,xs,rfl,q1,q⟩:=Uw q;cases Br q;obtain⟨x0,rfl⟩:=J96 q0;obtain⟨x1,rfl⟩:=J98 q1;exact J2p x0 x1
theorem f11_named:Tryz.pinned.checked.prog.funcNamed Rows.fnExactProveRankingRow.func=some 11:=by kernel_rfl
theorem f11_k0:Rows.fnExactProveRankingRow.wf (OpenSpec.ofChange Rows.fnExactProveRankingSpec)=true:=by kernel_rfl
theorem f11_k3:f11.params.all (Tryz.pinned.checked.prog.readableRec ·)=true:=by kernel_rfl
theorem f11_k4:namedTie Tryz.pinned.checked.prog Rows.fnExactProveRankingRow.named Rows.fnExactProveRankingSpec.vars=true:=by kernel_rfl
theorem f11_k5:(Rows.fnExactProveRankingRow.stops==[])=true:=by kernel_rfl
theorem f11_k6:(Tryz.pinned.checked.prog.stops==[])=true:=by kernel_rfl
theorem f11_k7:(Rows.fnExactProveRankingRow.knobs==[])=true:=by kernel_rfl
theorem f11_k8:(Tryz.pinned.checked.prog.stopKnobs==[])=true:=by kernel_rfl
theorem f11_k9:(Rows.fnExactProveRankingRow.inPlace==Tryz.pinned.checked.prog.inPlace 11)=true:=by kernel_rfl
theorem f11_k10:(Rows.fnExactProveRankingRow.unfollowed==Tryz.pinned.checked.prog.unfollowed 11)=true:=by kernel_rfl
theorem f11_k11:(Rows.fnExactProveRankingRow.recurses==Tryz.pinned.checked.prog.recurses 11)=true:=by kernel_rfl
theorem f11_k12:(Rows.fnExactProveRankingRow.named==Tryz.pinned.checked.prog.varsNamed 11)=true:=by kernel_rfl
theorem f11_k13:(Rows.fnExactProveRankingRow.maps==(f11.params.toList++Rows.fnExactProveRankingSpec.plain.varTypes Tryz.pinned.checked.prog).any (Tryz.pinned.checked.prog.mapsRec ·))=true:=by kernel_rfl
theorem f11_k14:(Rows.fnExactProveRankingRow.ifaces==(f11.params.toList++Rows.fnExactProveRankingSpec.plain.varTypes Tryz.pinned.checked.prog).any (Tryz.pinned.checked.prog.ifacesRec ·))=true:=by kernel_rfl
theorem f11_k15:(Rows.fnExactProveRankingRow.mapsOut==Tryz.pinned.checked.prog.mapsAmong f11.resultTypes.toList)=true:=by kernel_rfl
theorem f11_k16:(Rows.fnExactProveRankingRow.loops==(f11.params.toList++Rows.fnExactProveRankingSpec.plain.varTypes Tryz.pinned.checked.prog).any (Tryz.pinned.checked.prog.loopsFrom ·))=true:=by kernel_rfl
theorem f11_k17:(Rows.fnExactProveRankingRow.wideKeys==(f11.params.toList++Rows.fnExactProveRankingSpec.plain.varTypes Tryz.pinned.checked.prog++f11.resultTypes.toList).any (Tryz.pinned.checked.prog.wideKeysFrom ·))=true:=by kernel_rfl
theorem f11_k18:Rows.fnExactProveRankingSpec.vars.all (Tryz.pinned.checked.prog.varReadable ·)=true:=by kernel_rfl
theorem f11_k19:f11.resultTypes.all (λt=>Tryz.pinned.checked.prog.readableRec t&&decide (t<Tryz.pinned.checked.prog.types.size))=true:=by kernel_rfl
theorem f11_k20:(Rows.fnExactProveRankingRow.ifacesOut==f11.resultTypes.toList.any (Tryz.pinned.checked.prog.ifacesRec ·))=true:=by kernel_rfl
theorem f11_k21:(Rows.fnExactProveRankingRow.loopsOut==f11.resultTypes.toList.any (Tryz.pinned.checked.prog.loopsFrom ·))=true:=by kernel_rfl
theorem f11_k22:(Rows.fnExactProveRankingRow.plainKeys==Tryz.pinned.checked.prog.plainKeys)=true:=by kernel_rfl
theorem f11_k23:Rows.fnExactProveRankingRow.shortTexts.isNone=true:=by kernel_rfl
theorem f11_k26:(Rows.fnExactProveRankingRow.lifted==Tryz.pinned.checked.prog.liftsFinal)=true:=by kernel_rfl
theorem f11_k27:(Tryz.pinned.checked.prog.make==some Rows.fnExactProveRankingRow.make)=true:=by kernel_rfl
theorem f11_k28:(Rows.fnExactProveRankingRow.kinds==(if Rows.fnExactProveRankingRow.domain.isEmpty then []else f11.params.toList.map λt=>match Tryz.pinned.checked.prog.underlying t with|some (.int k)=>some k|_=>none))=true:=by kernel_rfl
theorem f11_k29:(Rows.fnExactProveRankingRow.pinned==Rows.fnExactProveRankingRow.pinnedBy)=true:=by kernel_rfl
theorem f11_k30:(Rows.fnExactProveRankingRow.veiled==(f11.params.toList++Rows.fnExactProveRankingSpec.plain.varTypes Tryz.pinned.checked.prog++f11.resultTypes.toList).any (Tryz.pinned.checked.prog.veiledRec ·))=true:=by kernel_rfl
theorem f11_k31:Rows.fnExactProveRankingRow.veiledFits Tryz.pinned.checked.prog f11.params.toList (f11.params.toList++Rows.fnExactProveRankingSpec.plain.varTypes Tryz.pinned.checked.prog++f11.resultTypes.toList)=true:=by kernel_rfl
set_option maxRecDepth 100000 in
theorem f11_facts:joinedFacts Tryz.pinned.checked.prog 11 f11 Rows.fnExactProveRankingSpec Rows.fnExactProveRankingRow=true:=J47 (P:=Tryz.pinned.checked.prog) (f:=11) (fn:=f11) (s:=Rows.fnExactProveRankingSpec) (c:=Rows.fnExactProveRankingRow) f11_k0 Jzl Jx8 f11_k3 f11_k4 f11_k5 f11_k6 f11_k7 f11_k8 f11_k9 f11_k10 f11_k11 f11_k12 f11_k13 f11_k14 f11_k15 f11_k16 f11_k17 f11_k18 f11_k19 f11_k20 f11_k21 f11_k22 f11_k23 Jmf Jpu f11_k26 f11_k27 f11_k28 f11_k29 f11_k30 f11_k31
theorem f11_inst:f11.isInstance Tryz.pinned.checked.prog Rows.fnExactProveRankingRow.origin Rows.fnExactProveRankingRow.targs:=of_decide_eq_true (by kernel_rfl)
theorem f11_wrap:f11.isWrapper Tryz.pinned.checked.prog Rows.fnExactProveRankingRow.wrapper Rows.fnExactProveRankingRow.mainSum:=by unfold Func.isWrapper;first|(rw[if_pos (by decide +kernel)];kernel_rfl)|(rw[if_neg (by decide +kernel)];exact⟨rfl,rfl⟩)
theorem f11_holds:Rows.FnExactProveRankingSaid:=
 OpenClaim.holds_of_wide 11 f11 rfl rfl rfl rfl rfl rfl rfl ⟨rfl,rfl,rfl,rfl,rfl⟩ rfl rfl rfl rfl rfl f11_named func11 f11_facts f11_inst f11_wrap
  (λos started H enc _=>f11_lifted os started H enc)
#print axioms f11_holds
end Go.Proofs.YtoclolkigjbcgaaGreat

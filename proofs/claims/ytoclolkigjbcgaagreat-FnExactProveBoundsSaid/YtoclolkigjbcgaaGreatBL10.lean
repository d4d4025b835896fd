/- FnExactProveBounds: for all arguments the law returns true; no condition. -/
import Derived.Test.YtoclolkigjbcgaaGreatBM3B
import Derived.Test.YtoclolkigjbcgaaGreatRows
namespace Go.Proofs.YtoclolkigjbcgaaGreat
open Go Go.RowKit Go.Proofs Go.ChangeShapes Go.WideShapes
set_option linter.all false
set_option maxRecDepth 100000 in
theorem f10_lifted(os:Os)(started:os.Started)(H:Type)(enc:TypeId×Value->H) :
 ReturnsInHanded {} Tryz.checked os 10 .any (Rows.fnExactProveBoundsSpec.pre6 enc Tryz.prog Tryz.f10 Rows.fnExactProveBoundsRow.domain false) (Rows.fnExactProveBoundsSpec.post enc Tryz.prog Tryz.f10 false true false false):=by
 refine returnsInHanded_of_change_sized (C:=Tryz.checked) Tryz.own started (by kernel_rfl) Tryz.func10
  (ChangeSpec.witness6 (enc:=enc) (C:=Tryz.checked) false ⟨#[],#[.agg #[.slice Option.none 0 0,.slice Option.none 0 0],.agg #[.int .i64 0,.slice Option.none 0 0]],[]⟩ 8 (by kernel_rfl) (by kernel_rfl) (by kernel_rfl) (by kernel_rfl)) ?_
 intro W base args ds gs before hval hW _ hsz _;refine J7b (k:=13) (tb:=4) Tryz.laidOut rfl Tryz.underlying4 (by kernel_rfl) (by kernel_rfl) rfl ?_ ?_ base args ds gs before hval hW hsz
 ·intro ds hl
  match ds,hl with
  | [d0,d1],_=>rfl
 ·intro xs hx;have hp:Tryz.f10.params.toList=[25,53]:=by kernel_rfl
  rw[hp]at hx;have q:Bq (λt a=>Dm Tryz.prog 13 t a) [25,53] xs:=hx;obtain⟨a0,xs,rfl,q0,q⟩:=Uo q;obtain⟨a1,xs,rfl,q1,q⟩:=Uo q;cases Hv q;obtain⟨x0,rfl⟩:=J8e q0;obtain⟨x1,rfl⟩:=Jb1 q1;exact J3r x0 x1
theorem f10_named:Tryz.pinned.checked.prog.funcNamed Rows.fnExactProveBoundsRow.func=some 10:=by kernel_rfl
theorem f10_k0:Rows.fnExactProveBoundsRow.wf (OpenSpec.ofChange Rows.fnExactProveBoundsSpec)=true:=by kernel_rfl
theorem f10_k3:Tryz.f10.params.all (Tryz.pinned.checked.prog.readableRec ·)=true:=by kernel_rfl
theorem f10_k4:namedTie Tryz.pinned.checked.prog Rows.fnExactProveBoundsRow.named Rows.fnExactProveBoundsSpec.vars=true:=by kernel_rfl
theorem f10_k5:(Rows.fnExactProveBoundsRow.stops==[])=true:=by kernel_rfl
theorem f10_k6:(Tryz.pinned.checked.prog.stops==[])=true:=by kernel_rfl
theorem f10_k7:(Rows.fnExactProveBoundsRow.knobs==[])=true:=by kernel_rfl
theorem f10_k8:(Tryz.pinned.checked.prog.stopKnobs==[])=true:=by kernel_rfl
theorem f10_k9:(Rows.fnExactProveBoundsRow.inPlace==Tryz.pinned.checked.prog.inPlace 10)=true:=by kernel_rfl
theorem f10_k10:(Rows.fnExactProveBoundsRow.unfollowed==Tryz.pinned.checked.prog.unfollowed 10)=true:=by kernel_rfl
theorem f10_k11:(Rows.fnExactProveBoundsRow.recurses==Tryz.pinned.checked.prog.recurses 10)=true:=by kernel_rfl
theorem f10_k12:(Rows.fnExactProveBoundsRow.named==Tryz.pinned.checked.prog.varsNamed 10)=true:=by kernel_rfl
theorem f10_k13:(Rows.fnExactProveBoundsRow.maps==(Tryz.f10.params.toList++Rows.fnExactProveBoundsSpec.plain.varTypes Tryz.pinned.checked.prog).any (Tryz.pinned.checked.prog.mapsRec ·))=true:=by kernel_rfl
theorem f10_k14:(Rows.fnExactProveBoundsRow.ifaces==(Tryz.f10.params.toList++Rows.fnExactProveBoundsSpec.plain.varTypes Tryz.pinned.checked.prog).any (Tryz.pinned.checked.prog.ifacesRec ·))=true:=by kernel_rfl
theorem f10_k15:(Rows.fnExactProveBoundsRow.mapsOut==Tryz.pinned.checked.prog.mapsAmong Tryz.f10.resultTypes.toList)=true:=by kernel_rfl
theorem f10_k16:(Rows.fnExactProveBoundsRow.loops==(Tryz.f10.params.toList++Rows.fnExactProveBoundsSpec.plain.varTypes Tryz.pinned.checked.prog).any (Tryz.pinned.checked.prog.loopsFrom ·))=true:=by kernel_rfl
theorem f10_k17:(Rows.fnExactProveBoundsRow.wideKeys==(Tryz.f10.params.toList++Rows.fnExactProveBoundsSpec.plain.varTypes Tryz.pinned.checked.prog++Tryz.f10.resultTypes.toList).any (Tryz.pinned.checked.prog.wideKeysFrom ·))=true:=by kernel_rfl
theorem f10_k18:Rows.fnExactProveBoundsSpec.vars.all (Tryz.pinned.checked.prog.varReadable ·)=true:=by kernel_rfl
theorem f10_k19:Tryz.f10.resultTypes.all (λt=>Tryz.pinned.checked.prog.readableRec t&&decide (t<Tryz.pinned.checked.prog.types.size))=true:=by kernel_rfl
theorem f10_k20:(Rows.fnExactProveBoundsRow.ifacesOut==Tryz.f10.resultTypes.toList.any (Tryz.pinned.checked.prog.ifacesRec ·))=true:=by kernel_rfl
theorem f10_k21:(Rows.fnExactProveBoundsRow.loopsOut==Tryz.f10.resultTypes.toList.any (Tryz.pinned.checked.prog.loopsFrom ·))=true:=by kernel_rfl
theorem f10_k22:(Rows.fnExactProveBoundsRow.plainKeys==Tryz.pinned.checked.prog.plainKeys)=true:=by kernel_rfl
theorem f10_k23:Rows.fnExactProveBoundsRow.shortTexts.isNone=true:=by kernel_rfl
theorem f10_k26:(Rows.fnExactProveBoundsRow.lifted==Tryz.pinned.checked.prog.liftsFinal)=true:=by kernel_rfl
theorem f10_k27:(Tryz.pinned.checked.prog.make==some Rows.fnExactProveBoundsRow.make)=true:=by kernel_rfl
theorem f10_k28:(Rows.fnExactProveBoundsRow.kinds==(if Rows.fnExactProveBoundsRow.domain.isEmpty then []else Tryz.f10.params.toList.map λt=>match Tryz.pinned.checked.prog.underlying t with|some (.int k)=>some k|_=>none))=true:=by kernel_rfl
theorem f10_k29:(Rows.fnExactProveBoundsRow.pinned==Rows.fnExactProveBoundsRow.pinnedBy)=true:=by kernel_rfl
theorem f10_k30:(Rows.fnExactProveBoundsRow.veiled==(Tryz.f10.params.toList++Rows.fnExactProveBoundsSpec.plain.varTypes Tryz.pinned.checked.prog++Tryz.f10.resultTypes.toList).any (Tryz.pinned.checked.prog.veiledRec ·))=true:=by kernel_rfl
theorem f10_k31:Rows.fnExactProveBoundsRow.veiledFits Tryz.pinned.checked.prog Tryz.f10.params.toList (Tryz.f10.params.toList++Rows.fnExactProveBoundsSpec.plain.varTypes Tryz.pinned.checked.prog++Tryz.f10.resultTypes.toList)=true:=by kernel_rfl
set_option maxRecDepth 100000 in
theorem f10_facts:joinedFacts Tryz.pinned.checked.prog 10 Tryz.f10 Rows.fnExactProveBoundsSpec Rows.fnExactProveBoundsRow=true:=J3s (P:=Tryz.pinned.checked.prog) (f:=10) (fn:=Tryz.f10) (s:=Rows.fnExactProveBoundsSpec) (c:=Rows.fnExactProveBoundsRow) f10_k0 Jqf Jr6 f10_k3 f10_k4 f10_k5 f10_k6 f10_k7 f10_k8 f10_k9 f10_k10 f10_k11 f10_k12 f10_k13 f10_k14 f10_k15 f10_k16 f10_k17 f10_k18 f10_k19 f10_k20 f10_k21 f10_k22 f10_k23 Jm1 Jmv f10_k26 f10_k27 f10_k28 f10_k29 f10_k30 f10_k31
theorem f10_inst:Tryz.f10.isInstance Tryz.pinned.checked.prog Rows.fnExactProveBoundsRow.origin Rows.fnExactProveBoundsRow.targs:=of_decide_eq_true (by kernel_rfl)
theorem f10_wrap:Tryz.f10.isWrapper Tryz.pinned.checked.prog Rows.fnExactProveBoundsRow.wrapper Rows.fnExactProveBoundsRow.mainSum:=by unfold Func.isWrapper;first|(rw[if_pos (by decide +kernel)];kernel_rfl)|(rw[if_neg (by decide +kernel)];exact⟨rfl,rfl⟩)
theorem f10_holds:Rows.FnExactProveBoundsSaid:=
 OpenClaim.holds_of_wide 10 Tryz.f10 rfl rfl rfl rfl rfl rfl rfl ⟨rfl,rfl,rfl,rfl,rfl⟩ rfl rfl rfl rfl rfl f10_named Tryz.func10 f10_facts f10_inst f10_wrap
  (λos started H enc _=>f10_lifted os started H enc)
#print axioms f10_holds
end Go.Proofs.YtoclolkigjbcgaaGreat

/- FnExactPreObligations: for all arguments the law returns true; no condition. -/
import Derived.Test.YtilcageplifbgaaGreatJT2B
import Derived.Test.YtilcageplifbgaaGreatRows
namespace Go.Proofs.YtilcageplifbgaaGreat
set_option linter.all false
open Go Go.RowKit Go.Proofs Go.ChangeShapes Go.WideShapes
set_option maxRecDepth 100000 in
theorem f7_lifted (os:Os) (started:os.Started) (H:Type) (enc:TypeId×Value→H) :
   ReturnsInHanded {} Tryz.checked os 7 .any (Rows.fnExactPreObligationsSpec.pre6 enc Tryz.prog Tryz.f7 Rows.fnExactPreObligationsRow.domain false) (Rows.fnExactPreObligationsSpec.post enc Tryz.prog Tryz.f7 false true false false):=by
 refine returnsInHanded_of_change_sized (C:=Tryz.checked) Tryz.own started (by kernel_rfl) Tryz.func7
   (ChangeSpec.witness6 (enc:=enc) (C:=Tryz.checked) false ⟨#[],#[.agg #[.slice Option.none 0 0,.slice Option.none 0 0]],[]⟩ 8 (by kernel_rfl) (by kernel_rfl) (by kernel_rfl) (by kernel_rfl)) ?_
 intro W base args ds gs before hval hW _ hsz _
 refine law_contract (k:=13) (tb:=4) Tryz.laidOut rfl Tryz.underlying4 (by kernel_rfl) (by kernel_rfl) rfl ?_ ?_ base args ds gs before hval hW hsz
 · intro ds hl
   match ds,hl with
   | [d0],_=>rfl
 · intro xs hx
   have hp:Tryz.f7.params.toList=[25]:=by kernel_rfl
   rw [hp] at hx
   have q:All2 (fun t a=>ArgOf Tryz.prog 13 t a) [25] xs:=hx
   obtain ⟨a0,xs,rfl,q0,q⟩:=All2_cons q
   cases All2_nil q
   obtain ⟨x0,rfl⟩:=arg_Program q0
   exact law_PreObligations x0
theorem f7_named:Tryz.pinned.checked.prog.funcNamed Rows.fnExactPreObligationsRow.func=some 7:=by kernel_rfl
theorem f7_k0:Rows.fnExactPreObligationsRow.wf (OpenSpec.ofChange Rows.fnExactPreObligationsSpec)=true:=by kernel_rfl
theorem f7_k3:Tryz.f7.params.all (Tryz.pinned.checked.prog.readableRec ·)=true:=by kernel_rfl
theorem f7_k4:namedTie Tryz.pinned.checked.prog Rows.fnExactPreObligationsRow.named Rows.fnExactPreObligationsSpec.vars=true:=by kernel_rfl
theorem f7_k5:(Rows.fnExactPreObligationsRow.stops==[])=true:=by kernel_rfl
theorem f7_k6:(Tryz.pinned.checked.prog.stops==[])=true:=by kernel_rfl
theorem f7_k7:(Rows.fnExactPreObligationsRow.knobs==[])=true:=by kernel_rfl
theorem f7_k8:(Tryz.pinned.checked.prog.stopKnobs==[])=true:=by kernel_rfl
theorem f7_k9:(Rows.fnExactPreObligationsRow.inPlace==Tryz.pinned.checked.prog.inPlace 7)=true:=by kernel_rfl
theorem f7_k10:(Rows.fnExactPreObligationsRow.unfollowed==Tryz.pinned.checked.prog.unfollowed 7)=true:=by kernel_rfl
theorem f7_k11:(Rows.fnExactPreObligationsRow.recurses==Tryz.pinned.checked.prog.recurses 7)=true:=by kernel_rfl
theorem f7_k12:(Rows.fnExactPreObligationsRow.named==Tryz.pinned.checked.prog.varsNamed 7)=true:=by kernel_rfl
theorem f7_k13:(Rows.fnExactPreObligationsRow.maps==(Tryz.f7.params.toList++Rows.fnExactPreObligationsSpec.plain.varTypes Tryz.pinned.checked.prog).any (Tryz.pinned.checked.prog.mapsRec ·))=true:=by kernel_rfl
theorem f7_k14:(Rows.fnExactPreObligationsRow.ifaces==(Tryz.f7.params.toList++Rows.fnExactPreObligationsSpec.plain.varTypes Tryz.pinned.checked.prog).any (Tryz.pinned.checked.prog.ifacesRec ·))=true:=by kernel_rfl
theorem f7_k15:(Rows.fnExactPreObligationsRow.mapsOut==Tryz.pinned.checked.prog.mapsAmong Tryz.f7.resultTypes.toList)=true:=by kernel_rfl
theorem f7_k16:(Rows.fnExactPreObligationsRow.loops==(Tryz.f7.params.toList++Rows.fnExactPreObligationsSpec.plain.varTypes Tryz.pinned.checked.prog).any (Tryz.pinned.checked.prog.loopsFrom ·))=true:=by kernel_rfl
theorem f7_k17:(Rows.fnExactPreObligationsRow.wideKeys==(Tryz.f7.params.toList++Rows.fnExactPreObligationsSpec.plain.varTypes Tryz.pinned.checked.prog++Tryz.f7.resultTypes.toList).any (Tryz.pinned.checked.prog.wideKeysFrom ·))=true:=by kernel_rfl
theorem f7_k18:Rows.fnExactPreObligationsSpec.vars.all (Tryz.pinned.checked.prog.varReadable ·)=true:=by kernel_rfl
theorem f7_k19:Tryz.f7.resultTypes.all (fun t=>Tryz.pinned.checked.prog.readableRec t&&decide (t<Tryz.pinned.checked.prog.types.size))=true:=by kernel_rfl
theorem f7_k20:(Rows.fnExactPreObligationsRow.ifacesOut==Tryz.f7.resultTypes.toList.any (Tryz.pinned.checked.prog.ifacesRec ·))=true:=by kernel_rfl
theorem f7_k21:(Rows.fnExactPreObligationsRow.loopsOut==Tryz.f7.resultTypes.toList.any (Tryz.pinned.checked.prog.loopsFrom ·))=true:=by kernel_rfl
theorem f7_k22:(Rows.fnExactPreObligationsRow.plainKeys==Tryz.pinned.checked.prog.plainKeys)=true:=by kernel_rfl
theorem f7_k23:Rows.fnExactPreObligationsRow.shortTexts.isNone=true:=by kernel_rfl
theorem f7_k26:(Rows.fnExactPreObligationsRow.lifted==Tryz.pinned.checked.prog.liftsFinal)=true:=by kernel_rfl
theorem f7_k27:(Tryz.pinned.checked.prog.make==some Rows.fnExactPreObligationsRow.make)=true:=by kernel_rfl
theorem f7_k28:(Rows.fnExactPreObligationsRow.kinds==(if Rows.fnExactPreObligationsRow.domain.isEmpty then [] else Tryz.f7.params.toList.map fun t=>match Tryz.pinned.checked.prog.underlying t with | some (.int k)=>some k | _=>none))=true:=by kernel_rfl
theorem f7_k29:(Rows.fnExactPreObligationsRow.pinned==Rows.fnExactPreObligationsRow.pinnedBy)=true:=by kernel_rfl
theorem f7_k30:(Rows.fnExactPreObligationsRow.veiled==(Tryz.f7.params.toList++Rows.fnExactPreObligationsSpec.plain.varTypes Tryz.pinned.checked.prog++Tryz.f7.resultTypes.toList).any (Tryz.pinned.checked.prog.veiledRec ·))=true:=by kernel_rfl
theorem f7_k31:Rows.fnExactPreObligationsRow.veiledFits Tryz.pinned.checked.prog Tryz.f7.params.toList (Tryz.f7.params.toList++Rows.fnExactPreObligationsSpec.plain.varTypes Tryz.pinned.checked.prog++Tryz.f7.resultTypes.toList)=true:=by kernel_rfl
set_option maxRecDepth 100000 in
theorem f7_facts:joinedFacts Tryz.pinned.checked.prog 7 Tryz.f7 Rows.fnExactPreObligationsSpec Rows.fnExactPreObligationsRow=true:=joinedFacts_of (P:=Tryz.pinned.checked.prog) (f:=7) (fn:=Tryz.f7) (s:=Rows.fnExactPreObligationsSpec) (c:=Rows.fnExactPreObligationsRow) f7_k0 F_laid F_maps f7_k3 f7_k4 f7_k5 f7_k6 f7_k7 f7_k8 f7_k9 f7_k10 f7_k11 f7_k12 f7_k13 f7_k14 f7_k15 f7_k16 f7_k17 f7_k18 f7_k19 f7_k20 f7_k21 f7_k22 f7_k23 F_heard F_enter f7_k26 f7_k27 f7_k28 f7_k29 f7_k30 f7_k31
theorem f7_inst:Tryz.f7.isInstance Tryz.pinned.checked.prog Rows.fnExactPreObligationsRow.origin Rows.fnExactPreObligationsRow.targs:=of_decide_eq_true (by kernel_rfl)
theorem f7_wrap:Tryz.f7.isWrapper Tryz.pinned.checked.prog Rows.fnExactPreObligationsRow.wrapper Rows.fnExactPreObligationsRow.mainSum:=by
 unfold Func.isWrapper; first | (rw [if_pos (by decide +kernel)]; kernel_rfl) | (rw [if_neg (by decide +kernel)]; exact ⟨rfl,rfl⟩)
theorem f7_holds:Rows.FnExactPreObligationsSaid:=
 OpenClaim.holds_of_wide 7 Tryz.f7 rfl rfl rfl rfl rfl rfl rfl ⟨rfl,rfl,rfl,rfl,rfl⟩ rfl rfl rfl rfl rfl f7_named Tryz.func7 f7_facts f7_inst f7_wrap
   (fun os started H enc _=>f7_lifted os started H enc)
#print axioms f7_holds
end Go.Proofs.YtilcageplifbgaaGreat

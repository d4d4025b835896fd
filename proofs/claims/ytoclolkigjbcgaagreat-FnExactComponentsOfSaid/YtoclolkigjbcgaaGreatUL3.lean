/- FnExactComponentsOf: for all arguments the law returns true; no condition. -/
import Derived.Test.YtoclolkigjbcgaaGreatUT2B
import Derived.Test.YtoclolkigjbcgaaGreatRows
namespace Go.Proofs.YtoclolkigjbcgaaGreat
open Go Go.RowKit Go.Proofs Go.ChangeShapes Go.WideShapes
set_option linter.all false
set_option maxRecDepth 100000 in
theorem f3_lifted (os:Os) (started:os.Started) (H:Type) (enc:TypeId×Value→H) :
 ReturnsInHanded {} Tryz.checked os 3 .any (Rows.fnExactComponentsOfSpec.pre6 enc Tryz.prog Tryz.f3 Rows.fnExactComponentsOfRow.domain false) (Rows.fnExactComponentsOfSpec.post enc Tryz.prog Tryz.f3 false true false false):=by
 refine returnsInHanded_of_change_sized (C:=Tryz.checked) Tryz.own started (by kernel_rfl) Tryz.func3
  (ChangeSpec.witness6 (enc:=enc) (C:=Tryz.checked) false ⟨#[],#[.agg #[.slice Option.none 0 0,.slice Option.none 0 0]],[]⟩ 8 (by kernel_rfl) (by kernel_rfl) (by kernel_rfl) (by kernel_rfl)) ?_
 intro W base args ds gs before hval hW _ hsz _
 refine Jen (k:=13) (tb:=4) Tryz.laidOut rfl Tryz.underlying4 (by kernel_rfl) (by kernel_rfl) rfl ?_ ?_ base args ds gs before hval hW hsz
 ·intro ds hl
  match ds,hl with
  | [d0],_=>rfl
 ·intro xs hx
  have hp:Tryz.f3.params.toList=[25]:=by kernel_rfl
  rw [hp] at hx
  have q:Jlj (fun t a=>Jf4 Tryz.prog 13 t a) [25] xs:=hx
  obtain ⟨a0,xs,rfl,q0,q⟩:=J0v q
  cases J4r q
  obtain ⟨x0,rfl⟩:=Jgd q0
  exact Jan x0
theorem f3_named:Tryz.pinned.checked.prog.funcNamed Rows.fnExactComponentsOfRow.func=some 3:=by kernel_rfl
theorem f3_k0:Rows.fnExactComponentsOfRow.wf (OpenSpec.ofChange Rows.fnExactComponentsOfSpec)=true:=by kernel_rfl
theorem f3_k3:Tryz.f3.params.all (Tryz.pinned.checked.prog.readableRec ·)=true:=by kernel_rfl
theorem f3_k4:namedTie Tryz.pinned.checked.prog Rows.fnExactComponentsOfRow.named Rows.fnExactComponentsOfSpec.vars=true:=by kernel_rfl
theorem f3_k5:(Rows.fnExactComponentsOfRow.stops==[])=true:=by kernel_rfl
theorem f3_k6:(Tryz.pinned.checked.prog.stops==[])=true:=by kernel_rfl
theorem f3_k7:(Rows.fnExactComponentsOfRow.knobs==[])=true:=by kernel_rfl
theorem f3_k8:(Tryz.pinned.checked.prog.stopKnobs==[])=true:=by kernel_rfl
theorem f3_k9:(Rows.fnExactComponentsOfRow.inPlace==Tryz.pinned.checked.prog.inPlace 3)=true:=by kernel_rfl
theorem f3_k10:(Rows.fnExactComponentsOfRow.unfollowed==Tryz.pinned.checked.prog.unfollowed 3)=true:=by kernel_rfl
theorem f3_k11:(Rows.fnExactComponentsOfRow.recurses==Tryz.pinned.checked.prog.recurses 3)=true:=by kernel_rfl
theorem f3_k12:(Rows.fnExactComponentsOfRow.named==Tryz.pinned.checked.prog.varsNamed 3)=true:=by kernel_rfl
theorem f3_k13:(Rows.fnExactComponentsOfRow.maps==(Tryz.f3.params.toList++Rows.fnExactComponentsOfSpec.plain.varTypes Tryz.pinned.checked.prog).any (Tryz.pinned.checked.prog.mapsRec ·))=true:=by kernel_rfl
theorem f3_k14:(Rows.fnExactComponentsOfRow.ifaces==(Tryz.f3.params.toList++Rows.fnExactComponentsOfSpec.plain.varTypes Tryz.pinned.checked.prog).any (Tryz.pinned.checked.prog.ifacesRec ·))=true:=by kernel_rfl
theorem f3_k15:(Rows.fnExactComponentsOfRow.mapsOut==Tryz.pinned.checked.prog.mapsAmong Tryz.f3.resultTypes.toList)=true:=by kernel_rfl
theorem f3_k16:(Rows.fnExactComponentsOfRow.loops==(Tryz.f3.params.toList++Rows.fnExactComponentsOfSpec.plain.varTypes Tryz.pinned.checked.prog).any (Tryz.pinned.checked.prog.loopsFrom ·))=true:=by kernel_rfl
theorem f3_k17:(Rows.fnExactComponentsOfRow.wideKeys==(Tryz.f3.params.toList++Rows.fnExactComponentsOfSpec.plain.varTypes Tryz.pinned.checked.prog++Tryz.f3.resultTypes.toList).any (Tryz.pinned.checked.prog.wideKeysFrom ·))=true:=by kernel_rfl
theorem f3_k18:Rows.fnExactComponentsOfSpec.vars.all (Tryz.pinned.checked.prog.varReadable ·)=true:=by kernel_rfl
theorem f3_k19:Tryz.f3.resultTypes.all (fun t=>Tryz.pinned.checked.prog.readableRec t&&decide (t<Tryz.pinned.checked.prog.types.size))=true:=by kernel_rfl
theorem f3_k20:(Rows.fnExactComponentsOfRow.ifacesOut==Tryz.f3.resultTypes.toList.any (Tryz.pinned.checked.prog.ifacesRec ·))=true:=by kernel_rfl
theorem f3_k21:(Rows.fnExactComponentsOfRow.loopsOut==Tryz.f3.resultTypes.toList.any (Tryz.pinned.checked.prog.loopsFrom ·))=true:=by kernel_rfl
theorem f3_k22:(Rows.fnExactComponentsOfRow.plainKeys==Tryz.pinned.checked.prog.plainKeys)=true:=by kernel_rfl
theorem f3_k23:Rows.fnExactComponentsOfRow.shortTexts.isNone=true:=by kernel_rfl
theorem f3_k26:(Rows.fnExactComponentsOfRow.lifted==Tryz.pinned.checked.prog.liftsFinal)=true:=by kernel_rfl
theorem f3_k27:(Tryz.pinned.checked.prog.make==some Rows.fnExactComponentsOfRow.make)=true:=by kernel_rfl
theorem f3_k28:(Rows.fnExactComponentsOfRow.kinds==(if Rows.fnExactComponentsOfRow.domain.isEmpty then [] else Tryz.f3.params.toList.map fun t=>match Tryz.pinned.checked.prog.underlying t with|some (.int k)=>some k|_=>none))=true:=by kernel_rfl
theorem f3_k29:(Rows.fnExactComponentsOfRow.pinned==Rows.fnExactComponentsOfRow.pinnedBy)=true:=by kernel_rfl
theorem f3_k30:(Rows.fnExactComponentsOfRow.veiled==(Tryz.f3.params.toList++Rows.fnExactComponentsOfSpec.plain.varTypes Tryz.pinned.checked.prog++Tryz.f3.resultTypes.toList).any (Tryz.pinned.checked.prog.veiledRec ·))=true:=by kernel_rfl
theorem f3_k31:Rows.fnExactComponentsOfRow.veiledFits Tryz.pinned.checked.prog Tryz.f3.params.toList (Tryz.f3.params.toList++Rows.fnExactComponentsOfSpec.plain.varTypes Tryz.pinned.checked.prog++Tryz.f3.resultTypes.toList)=true:=by kernel_rfl
set_option maxRecDepth 100000 in
theorem f3_facts:joinedFacts Tryz.pinned.checked.prog 3 Tryz.f3 Rows.fnExactComponentsOfSpec Rows.fnExactComponentsOfRow=true:=Jcn (P:=Tryz.pinned.checked.prog) (f:=3) (fn:=Tryz.f3) (s:=Rows.fnExactComponentsOfSpec) (c:=Rows.fnExactComponentsOfRow) f3_k0 Jto Jsn f3_k3 f3_k4 f3_k5 f3_k6 f3_k7 f3_k8 f3_k9 f3_k10 f3_k11 f3_k12 f3_k13 f3_k14 f3_k15 f3_k16 f3_k17 f3_k18 f3_k19 f3_k20 f3_k21 f3_k22 f3_k23 Joi Jqg f3_k26 f3_k27 f3_k28 f3_k29 f3_k30 f3_k31
theorem f3_inst:Tryz.f3.isInstance Tryz.pinned.checked.prog Rows.fnExactComponentsOfRow.origin Rows.fnExactComponentsOfRow.targs:=of_decide_eq_true (by kernel_rfl)
theorem f3_wrap:Tryz.f3.isWrapper Tryz.pinned.checked.prog Rows.fnExactComponentsOfRow.wrapper Rows.fnExactComponentsOfRow.mainSum:=by
 unfold Func.isWrapper;first|(rw [if_pos (by decide +kernel)];kernel_rfl)|(rw [if_neg (by decide +kernel)];exact ⟨rfl,rfl⟩)
theorem f3_holds:Rows.FnExactComponentsOfSaid:=
 OpenClaim.holds_of_wide 3 Tryz.f3 rfl rfl rfl rfl rfl rfl rfl ⟨rfl,rfl,rfl,rfl,rfl⟩ rfl rfl rfl rfl rfl f3_named Tryz.func3 f3_facts f3_inst f3_wrap
  (fun os started H enc _=>f3_lifted os started H enc)
#print axioms f3_holds
end Go.Proofs.YtoclolkigjbcgaaGreat

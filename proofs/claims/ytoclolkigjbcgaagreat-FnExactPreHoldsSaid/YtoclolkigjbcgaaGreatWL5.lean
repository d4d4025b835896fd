/- FnExactPreHolds: for all arguments the law returns true; no condition. -/
import Derived.Test.YtoclolkigjbcgaaGreatWD35
import Derived.Test.YtoclolkigjbcgaaGreatRows
namespace Go.Proofs.YtoclolkigjbcgaaGreat
open Go Go.RowKit Go.Proofs Go.ChangeShapes Go.WideShapes
set_option linter.all false
set_option maxRecDepth 100000 in
theorem f5_lifted (os:Os) (started:os.Started) (H:Type) (enc:TypeId×Value→H) :
 ReturnsInHanded {} Tryz.checked os 5 .any (Rows.fnExactPreHoldsSpec.pre6 enc Tryz.prog Tryz.f5 Rows.fnExactPreHoldsRow.domain false) (Rows.fnExactPreHoldsSpec.post enc Tryz.prog Tryz.f5 false true false false):=by
 refine returnsInHanded_of_change_sized (C:=Tryz.checked) Tryz.own started (by kernel_rfl) Tryz.func5
  (ChangeSpec.witness6 (enc:=enc) (C:=Tryz.checked) false ⟨#[],#[.agg #[.slice Option.none 0 0,.slice Option.none 0 0]],[]⟩ 8 (by kernel_rfl) (by kernel_rfl) (by kernel_rfl) (by kernel_rfl)) ?_
 intro W base args ds gs before hval hW _ hsz _
 refine Jih (k:=13) (tb:=4) Tryz.laidOut rfl Tryz.underlying4 (by kernel_rfl) (by kernel_rfl) rfl ?_ ?_ base args ds gs before hval hW hsz
 ·intro ds hl
  match ds,hl with
  | [d0],_=>rfl
 ·intro xs hx
  have hp:Tryz.f5.params.toList=[25]:=by kernel_rfl
  rw [hp] at hx
  have q:Jpi (fun t a=>Jhf Tryz.prog 13 t a) [25] xs:=hx
  obtain ⟨a0,xs,rfl,q0,q⟩:=J1n q
  cases J5s q
  obtain ⟨x0,rfl⟩:=Jix q0
  exact Ji4 x0
theorem f5_named:Tryz.pinned.checked.prog.funcNamed Rows.fnExactPreHoldsRow.func=some 5:=by kernel_rfl
theorem f5_k0:Rows.fnExactPreHoldsRow.wf (OpenSpec.ofChange Rows.fnExactPreHoldsSpec)=true:=by kernel_rfl
theorem f5_k3:Tryz.f5.params.all (Tryz.pinned.checked.prog.readableRec ·)=true:=by kernel_rfl
theorem f5_k4:namedTie Tryz.pinned.checked.prog Rows.fnExactPreHoldsRow.named Rows.fnExactPreHoldsSpec.vars=true:=by kernel_rfl
theorem f5_k5:(Rows.fnExactPreHoldsRow.stops==[])=true:=by kernel_rfl
theorem f5_k6:(Tryz.pinned.checked.prog.stops==[])=true:=by kernel_rfl
theorem f5_k7:(Rows.fnExactPreHoldsRow.knobs==[])=true:=by kernel_rfl
theorem f5_k8:(Tryz.pinned.checked.prog.stopKnobs==[])=true:=by kernel_rfl
theorem f5_k9:(Rows.fnExactPreHoldsRow.inPlace==Tryz.pinned.checked.prog.inPlace 5)=true:=by kernel_rfl
theorem f5_k10:(Rows.fnExactPreHoldsRow.unfollowed==Tryz.pinned.checked.prog.unfollowed 5)=true:=by kernel_rfl
theorem f5_k11:(Rows.fnExactPreHoldsRow.recurses==Tryz.pinned.checked.prog.recurses 5)=true:=by kernel_rfl
theorem f5_k12:(Rows.fnExactPreHoldsRow.named==Tryz.pinned.checked.prog.varsNamed 5)=true:=by kernel_rfl
theorem f5_k13:(Rows.fnExactPreHoldsRow.maps==(Tryz.f5.params.toList++Rows.fnExactPreHoldsSpec.plain.varTypes Tryz.pinned.checked.prog).any (Tryz.pinned.checked.prog.mapsRec ·))=true:=by kernel_rfl
theorem f5_k14:(Rows.fnExactPreHoldsRow.ifaces==(Tryz.f5.params.toList++Rows.fnExactPreHoldsSpec.plain.varTypes Tryz.pinned.checked.prog).any (Tryz.pinned.checked.prog.ifacesRec ·))=true:=by kernel_rfl
theorem f5_k15:(Rows.fnExactPreHoldsRow.mapsOut==Tryz.pinned.checked.prog.mapsAmong Tryz.f5.resultTypes.toList)=true:=by kernel_rfl
theorem f5_k16:(Rows.fnExactPreHoldsRow.loops==(Tryz.f5.params.toList++Rows.fnExactPreHoldsSpec.plain.varTypes Tryz.pinned.checked.prog).any (Tryz.pinned.checked.prog.loopsFrom ·))=true:=by kernel_rfl
theorem f5_k17:(Rows.fnExactPreHoldsRow.wideKeys==(Tryz.f5.params.toList++Rows.fnExactPreHoldsSpec.plain.varTypes Tryz.pinned.checked.prog++Tryz.f5.resultTypes.toList).any (Tryz.pinned.checked.prog.wideKeysFrom ·))=true:=by kernel_rfl
theorem f5_k18:Rows.fnExactPreHoldsSpec.vars.all (Tryz.pinned.checked.prog.varReadable ·)=true:=by kernel_rfl
theorem f5_k19:Tryz.f5.resultTypes.all (fun t=>Tryz.pinned.checked.prog.readableRec t&&decide (t<Tryz.pinned.checked.prog.types.size))=true:=by kernel_rfl
theorem f5_k20:(Rows.fnExactPreHoldsRow.ifacesOut==Tryz.f5.resultTypes.toList.any (Tryz.pinned.checked.prog.ifacesRec ·))=true:=by kernel_rfl
theorem f5_k21:(Rows.fnExactPreHoldsRow.loopsOut==Tryz.f5.resultTypes.toList.any (Tryz.pinned.checked.prog.loopsFrom ·))=true:=by kernel_rfl
theorem f5_k22:(Rows.fnExactPreHoldsRow.plainKeys==Tryz.pinned.checked.prog.plainKeys)=true:=by kernel_rfl
theorem f5_k23:Rows.fnExactPreHoldsRow.shortTexts.isNone=true:=by kernel_rfl
theorem f5_k26:(Rows.fnExactPreHoldsRow.lifted==Tryz.pinned.checked.prog.liftsFinal)=true:=by kernel_rfl
theorem f5_k27:(Tryz.pinned.checked.prog.make==some Rows.fnExactPreHoldsRow.make)=true:=by kernel_rfl
theorem f5_k28:(Rows.fnExactPreHoldsRow.kinds==(if Rows.fnExactPreHoldsRow.domain.isEmpty then [] else Tryz.f5.params.toList.map fun t=>match Tryz.pinned.checked.prog.underlying t with|some (.int k)=>some k|_=>none))=true:=by kernel_rfl
theorem f5_k29:(Rows.fnExactPreHoldsRow.pinned==Rows.fnExactPreHoldsRow.pinnedBy)=true:=by kernel_rfl
theorem f5_k30:(Rows.fnExactPreHoldsRow.veiled==(Tryz.f5.params.toList++Rows.fnExactPreHoldsSpec.plain.varTypes Tryz.pinned.checked.prog++Tryz.f5.resultTypes.toList).any (Tryz.pinned.checked.prog.veiledRec ·))=true:=by kernel_rfl
theorem f5_k31:Rows.fnExactPreHoldsRow.veiledFits Tryz.pinned.checked.prog Tryz.f5.params.toList (Tryz.f5.params.toList++Rows.fnExactPreHoldsSpec.plain.varTypes Tryz.pinned.checked.prog++Tryz.f5.resultTypes.toList)=true:=by kernel_rfl
set_option maxRecDepth 100000 in
theorem f5_facts:joinedFacts Tryz.pinned.checked.prog 5 Tryz.f5 Rows.fnExactPreHoldsSpec Rows.fnExactPreHoldsRow=true:=Jev (P:=Tryz.pinned.checked.prog) (f:=5) (fn:=Tryz.f5) (s:=Rows.fnExactPreHoldsSpec) (c:=Rows.fnExactPreHoldsRow) f5_k0 Jzi K0u f5_k3 f5_k4 f5_k5 f5_k6 f5_k7 f5_k8 f5_k9 f5_k10 f5_k11 f5_k12 f5_k13 f5_k14 f5_k15 f5_k16 f5_k17 f5_k18 f5_k19 f5_k20 f5_k21 f5_k22 f5_k23 Jwv Jvk f5_k26 f5_k27 f5_k28 f5_k29 f5_k30 f5_k31
theorem f5_inst:Tryz.f5.isInstance Tryz.pinned.checked.prog Rows.fnExactPreHoldsRow.origin Rows.fnExactPreHoldsRow.targs:=of_decide_eq_true (by kernel_rfl)
theorem f5_wrap:Tryz.f5.isWrapper Tryz.pinned.checked.prog Rows.fnExactPreHoldsRow.wrapper Rows.fnExactPreHoldsRow.mainSum:=by
 unfold Func.isWrapper;first|(rw [if_pos (by decide +kernel)];kernel_rfl)|(rw [if_neg (by decide +kernel)];exact ⟨rfl,rfl⟩)
theorem f5_holds:Rows.FnExactPreHoldsSaid:=
 OpenClaim.holds_of_wide 5 Tryz.f5 rfl rfl rfl rfl rfl rfl rfl ⟨rfl,rfl,rfl,rfl,rfl⟩ rfl rfl rfl rfl rfl f5_named Tryz.func5 f5_facts f5_inst f5_wrap
  (fun os started H enc _=>f5_lifted os started H enc)
#print axioms f5_holds
end Go.Proofs.YtoclolkigjbcgaaGreat

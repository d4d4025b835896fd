/- FnExactProveAll: for all arguments the law returns true; no condition. -/
import Derived.Test.YtoclolkigjbcgaaKT2A
import Derived.Test.YtoclolkigjbcgaaRows
namespace Go.Proofs.Ytoclolkigjbcgaa
set_option linter.all false
open Go Go.RowKit Go.Proofs Go.ChangeShapes Go.WideShapes
set_option maxRecDepth 100000 in
theorem f3_lifted (os:Os) (started:os.Started) (H:Type) (enc:TypeId×Value→H) :
   ReturnsInHanded {} Try.checked os 3 .any (Rows.fnExactProveAllSpec.pre6 enc Try.prog Try.f3 Rows.fnExactProveAllRow.domain false) (Rows.fnExactProveAllSpec.post enc Try.prog Try.f3 false true false false):=by
 refine returnsInHanded_of_change_sized (C:=Try.checked) Try.own started (by kernel_rfl) Try.func3
   (ChangeSpec.witness6 (enc:=enc) (C:=Try.checked) false ⟨#[],#[.slice Option.none 0 0],[]⟩ 8 (by kernel_rfl) (by kernel_rfl) (by kernel_rfl) (by kernel_rfl)) ?_
 intro W base args ds gs before hval hW _ hsz _
 refine law_contract (k:=8) (tb:=4) Try.laidOut rfl Try.underlying4 (by kernel_rfl) (by kernel_rfl) rfl ?_ ?_ base args ds gs before hval hW hsz
 · intro ds hl
   match ds,hl with
   | [d0],_=>rfl
 · intro xs hx
   have hp:Try.f3.params.toList=[22]:=by kernel_rfl
   rw [hp] at hx
   have q:All2 (fun t a=>ArgOf Try.prog 8 t a) [22] xs:=hx
   obtain ⟨a0,xs,rfl,q0,q⟩:=All2_cons q
   cases All2_nil q
   obtain ⟨x0,rfl⟩:=arg_ObligationS q0
   exact law_ProveAll x0
theorem f3_named:Try.pinned.checked.prog.funcNamed Rows.fnExactProveAllRow.func=some 3:=by kernel_rfl
theorem f3_k0:Rows.fnExactProveAllRow.wf (OpenSpec.ofChange Rows.fnExactProveAllSpec)=true:=by kernel_rfl
theorem f3_k3:Try.f3.params.all (Try.pinned.checked.prog.readableRec ·)=true:=by kernel_rfl
theorem f3_k4:namedTie Try.pinned.checked.prog Rows.fnExactProveAllRow.named Rows.fnExactProveAllSpec.vars=true:=by kernel_rfl
theorem f3_k5:(Rows.fnExactProveAllRow.stops==[])=true:=by kernel_rfl
theorem f3_k6:(Try.pinned.checked.prog.stops==[])=true:=by kernel_rfl
theorem f3_k7:(Rows.fnExactProveAllRow.knobs==[])=true:=by kernel_rfl
theorem f3_k8:(Try.pinned.checked.prog.stopKnobs==[])=true:=by kernel_rfl
theorem f3_k9:(Rows.fnExactProveAllRow.inPlace==Try.pinned.checked.prog.inPlace 3)=true:=by kernel_rfl
theorem f3_k10:(Rows.fnExactProveAllRow.unfollowed==Try.pinned.checked.prog.unfollowed 3)=true:=by kernel_rfl
theorem f3_k11:(Rows.fnExactProveAllRow.recurses==Try.pinned.checked.prog.recurses 3)=true:=by kernel_rfl
theorem f3_k12:(Rows.fnExactProveAllRow.named==Try.pinned.checked.prog.varsNamed 3)=true:=by kernel_rfl
theorem f3_k13:(Rows.fnExactProveAllRow.maps==(Try.f3.params.toList++Rows.fnExactProveAllSpec.plain.varTypes Try.pinned.checked.prog).any (Try.pinned.checked.prog.mapsRec ·))=true:=by kernel_rfl
theorem f3_k14:(Rows.fnExactProveAllRow.ifaces==(Try.f3.params.toList++Rows.fnExactProveAllSpec.plain.varTypes Try.pinned.checked.prog).any (Try.pinned.checked.prog.ifacesRec ·))=true:=by kernel_rfl
theorem f3_k15:(Rows.fnExactProveAllRow.mapsOut==Try.pinned.checked.prog.mapsAmong Try.f3.resultTypes.toList)=true:=by kernel_rfl
theorem f3_k16:(Rows.fnExactProveAllRow.loops==(Try.f3.params.toList++Rows.fnExactProveAllSpec.plain.varTypes Try.pinned.checked.prog).any (Try.pinned.checked.prog.loopsFrom ·))=true:=by kernel_rfl
theorem f3_k17:(Rows.fnExactProveAllRow.wideKeys==(Try.f3.params.toList++Rows.fnExactProveAllSpec.plain.varTypes Try.pinned.checked.prog++Try.f3.resultTypes.toList).any (Try.pinned.checked.prog.wideKeysFrom ·))=true:=by kernel_rfl
theorem f3_k18:Rows.fnExactProveAllSpec.vars.all (Try.pinned.checked.prog.varReadable ·)=true:=by kernel_rfl
theorem f3_k19:Try.f3.resultTypes.all (fun t=>Try.pinned.checked.prog.readableRec t&&decide (t<Try.pinned.checked.prog.types.size))=true:=by kernel_rfl
theorem f3_k20:(Rows.fnExactProveAllRow.ifacesOut==Try.f3.resultTypes.toList.any (Try.pinned.checked.prog.ifacesRec ·))=true:=by kernel_rfl
theorem f3_k21:(Rows.fnExactProveAllRow.loopsOut==Try.f3.resultTypes.toList.any (Try.pinned.checked.prog.loopsFrom ·))=true:=by kernel_rfl
theorem f3_k22:(Rows.fnExactProveAllRow.plainKeys==Try.pinned.checked.prog.plainKeys)=true:=by kernel_rfl
theorem f3_k23:Rows.fnExactProveAllRow.shortTexts.isNone=true:=by kernel_rfl
theorem f3_k26:(Rows.fnExactProveAllRow.lifted==Try.pinned.checked.prog.liftsFinal)=true:=by kernel_rfl
theorem f3_k27:(Try.pinned.checked.prog.make==some Rows.fnExactProveAllRow.make)=true:=by kernel_rfl
theorem f3_k28:(Rows.fnExactProveAllRow.kinds==(if Rows.fnExactProveAllRow.domain.isEmpty then [] else Try.f3.params.toList.map fun t=>match Try.pinned.checked.prog.underlying t with | some (.int k)=>some k | _=>none))=true:=by kernel_rfl
theorem f3_k29:(Rows.fnExactProveAllRow.pinned==Rows.fnExactProveAllRow.pinnedBy)=true:=by kernel_rfl
theorem f3_k30:(Rows.fnExactProveAllRow.veiled==(Try.f3.params.toList++Rows.fnExactProveAllSpec.plain.varTypes Try.pinned.checked.prog++Try.f3.resultTypes.toList).any (Try.pinned.checked.prog.veiledRec ·))=true:=by kernel_rfl
theorem f3_k31:Rows.fnExactProveAllRow.veiledFits Try.pinned.checked.prog Try.f3.params.toList (Try.f3.params.toList++Rows.fnExactProveAllSpec.plain.varTypes Try.pinned.checked.prog++Try.f3.resultTypes.toList)=true:=by kernel_rfl
set_option maxRecDepth 100000 in
theorem f3_facts:joinedFacts Try.pinned.checked.prog 3 Try.f3 Rows.fnExactProveAllSpec Rows.fnExactProveAllRow=true:=joinedFacts_of (P:=Try.pinned.checked.prog) (f:=3) (fn:=Try.f3) (s:=Rows.fnExactProveAllSpec) (c:=Rows.fnExactProveAllRow) f3_k0 F_laid F_maps f3_k3 f3_k4 f3_k5 f3_k6 f3_k7 f3_k8 f3_k9 f3_k10 f3_k11 f3_k12 f3_k13 f3_k14 f3_k15 f3_k16 f3_k17 f3_k18 f3_k19 f3_k20 f3_k21 f3_k22 f3_k23 F_heard F_enter f3_k26 f3_k27 f3_k28 f3_k29 f3_k30 f3_k31
theorem f3_inst:Try.f3.isInstance Try.pinned.checked.prog Rows.fnExactProveAllRow.origin Rows.fnExactProveAllRow.targs:=of_decide_eq_true (by kernel_rfl)
theorem f3_wrap:Try.f3.isWrapper Try.pinned.checked.prog Rows.fnExactProveAllRow.wrapper Rows.fnExactProveAllRow.mainSum:=by
 unfold Func.isWrapper; first | (rw [if_pos (by decide +kernel)]; kernel_rfl) | (rw [if_neg (by decide +kernel)]; exact ⟨rfl,rfl⟩)
theorem f3_holds:Rows.FnExactProveAllSaid:=
 OpenClaim.holds_of_wide 3 Try.f3 rfl rfl rfl rfl rfl rfl rfl ⟨rfl,rfl,rfl,rfl,rfl⟩ rfl rfl rfl rfl rfl f3_named Try.func3 f3_facts f3_inst f3_wrap
   (fun os started H enc _=>f3_lifted os started H enc)
#print axioms f3_holds
end Go.Proofs.Ytoclolkigjbcgaa

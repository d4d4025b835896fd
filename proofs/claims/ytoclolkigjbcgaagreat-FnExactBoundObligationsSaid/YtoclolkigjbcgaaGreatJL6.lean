/- FnExactBoundObligations: for all arguments the law returns true; no condition. -/
import Derived.Test.YtoclolkigjbcgaaGreatJT2B
import Derived.Test.YtoclolkigjbcgaaGreatJLJ
import Derived.Test.YtoclolkigjbcgaaGreatRows
namespace Go.Proofs.YtoclolkigjbcgaaGreat
open Go Go.RowKit Go.Proofs Go.ChangeShapes Go.WideShapes
set_option linter.all false
set_option maxRecDepth 100000 in
theorem f6_lifted (os:Os) (started:os.Started) (H:Type) (enc:TypeId×Value→H) :
 ReturnsInHanded {} Tryz.checked os 6 .any (Rows.fnExactBoundObligationsSpec.pre6 enc Tryz.prog Tryz.f6 Rows.fnExactBoundObligationsRow.domain false) (Rows.fnExactBoundObligationsSpec.post enc Tryz.prog Tryz.f6 false true false false):=by
 refine returnsInHanded_of_change_sized (C:=Tryz.checked) Tryz.own started (by kernel_rfl) Tryz.func6
  (ChangeSpec.witness6 (enc:=enc) (C:=Tryz.checked) false ⟨#[],#[.agg #[.slice Option.none 0 0,.slice Option.none 0 0],.agg #[.int .i64 0,.slice Option.none 0 0]],[]⟩ 8 (by kernel_rfl) (by kernel_rfl) (by kernel_rfl) (by kernel_rfl)) ?_
 intro W base args ds gs before hval hW _ hsz _
 refine Jk8 (k:=13) (tb:=4) Tryz.laidOut rfl Tryz.underlying4 (by kernel_rfl) (by kernel_rfl) rfl ?_ ?_ base args ds gs before hval hW hsz
 ·intro ds hl
  match ds,hl with
  | [d0,d1],_=>rfl
 ·intro xs hx
  have hp:Tryz.f6.params.toList=[25,53]:=by kernel_rfl
  rw [hp] at hx
  have q:Jrz (fun t a=>Jhk Tryz.prog 13 t a) [25,53] xs:=hx
  obtain ⟨a0,xs,rfl,q0,q⟩:=J1b q
  obtain ⟨a1,xs,rfl,q1,q⟩:=J1b q
  cases J5o q
  obtain ⟨x0,rfl⟩:=Jl5 q0
  obtain ⟨x1,rfl⟩:=Jni q1
  exact Jae x0 x1
theorem f6_named:Tryz.pinned.checked.prog.funcNamed Rows.fnExactBoundObligationsRow.func=some 6:=by kernel_rfl
theorem f6_k0:Rows.fnExactBoundObligationsRow.wf (OpenSpec.ofChange Rows.fnExactBoundObligationsSpec)=true:=by kernel_rfl
theorem f6_k3:Tryz.f6.params.all (Tryz.pinned.checked.prog.readableRec ·)=true:=by kernel_rfl
theorem f6_k4:namedTie Tryz.pinned.checked.prog Rows.fnExactBoundObligationsRow.named Rows.fnExactBoundObligationsSpec.vars=true:=by kernel_rfl
theorem f6_k5:(Rows.fnExactBoundObligationsRow.stops==[])=true:=by kernel_rfl
theorem f6_k6:(Tryz.pinned.checked.prog.stops==[])=true:=by kernel_rfl
theorem f6_k7:(Rows.fnExactBoundObligationsRow.knobs==[])=true:=by kernel_rfl
theorem f6_k8:(Tryz.pinned.checked.prog.stopKnobs==[])=true:=by kernel_rfl
theorem f6_k9:(Rows.fnExactBoundObligationsRow.inPlace==Tryz.pinned.checked.prog.inPlace 6)=true:=by kernel_rfl
theorem f6_k10:(Rows.fnExactBoundObligationsRow.unfollowed==Tryz.pinned.checked.prog.unfollowed 6)=true:=by kernel_rfl
theorem f6_k11:(Rows.fnExactBoundObligationsRow.recurses==Tryz.pinned.checked.prog.recurses 6)=true:=by kernel_rfl
theorem f6_k12:(Rows.fnExactBoundObligationsRow.named==Tryz.pinned.checked.prog.varsNamed 6)=true:=by kernel_rfl
theorem f6_k13:(Rows.fnExactBoundObligationsRow.maps==(Tryz.f6.params.toList++Rows.fnExactBoundObligationsSpec.plain.varTypes Tryz.pinned.checked.prog).any (Tryz.pinned.checked.prog.mapsRec ·))=true:=by kernel_rfl
theorem f6_k14:(Rows.fnExactBoundObligationsRow.ifaces==(Tryz.f6.params.toList++Rows.fnExactBoundObligationsSpec.plain.varTypes Tryz.pinned.checked.prog).any (Tryz.pinned.checked.prog.ifacesRec ·))=true:=by kernel_rfl
theorem f6_k15:(Rows.fnExactBoundObligationsRow.mapsOut==Tryz.pinned.checked.prog.mapsAmong Tryz.f6.resultTypes.toList)=true:=by kernel_rfl
theorem f6_k16:(Rows.fnExactBoundObligationsRow.loops==(Tryz.f6.params.toList++Rows.fnExactBoundObligationsSpec.plain.varTypes Tryz.pinned.checked.prog).any (Tryz.pinned.checked.prog.loopsFrom ·))=true:=by kernel_rfl
theorem f6_k17:(Rows.fnExactBoundObligationsRow.wideKeys==(Tryz.f6.params.toList++Rows.fnExactBoundObligationsSpec.plain.varTypes Tryz.pinned.checked.prog++Tryz.f6.resultTypes.toList).any (Tryz.pinned.checked.prog.wideKeysFrom ·))=true:=by kernel_rfl
theorem f6_k18:Rows.fnExactBoundObligationsSpec.vars.all (Tryz.pinned.checked.prog.varReadable ·)=true:=by kernel_rfl
theorem f6_k19:Tryz.f6.resultTypes.all (fun t=>Tryz.pinned.checked.prog.readableRec t&&decide (t<Tryz.pinned.checked.prog.types.size))=true:=by kernel_rfl
theorem f6_k20:(Rows.fnExactBoundObligationsRow.ifacesOut==Tryz.f6.resultTypes.toList.any (Tryz.pinned.checked.prog.ifacesRec ·))=true:=by kernel_rfl
theorem f6_k21:(Rows.fnExactBoundObligationsRow.loopsOut==Tryz.f6.resultTypes.toList.any (Tryz.pinned.checked.prog.loopsFrom ·))=true:=by kernel_rfl
theorem f6_k22:(Rows.fnExactBoundObligationsRow.plainKeys==Tryz.pinned.checked.prog.plainKeys)=true:=by kernel_rfl
theorem f6_k23:Rows.fnExactBoundObligationsRow.shortTexts.isNone=true:=by kernel_rfl
theorem f6_k26:(Rows.fnExactBoundObligationsRow.lifted==Tryz.pinned.checked.prog.liftsFinal)=true:=by kernel_rfl
theorem f6_k27:(Tryz.pinned.checked.prog.make==some Rows.fnExactBoundObligationsRow.make)=true:=by kernel_rfl
theorem f6_k28:(Rows.fnExactBoundObligationsRow.kinds==(if Rows.fnExactBoundObligationsRow.domain.isEmpty then [] else Tryz.f6.params.toList.map fun t=>match Tryz.pinned.checked.prog.underlying t with|some (.int k)=>some k|_=>none))=true:=by kernel_rfl
theorem f6_k29:(Rows.fnExactBoundObligationsRow.pinned==Rows.fnExactBoundObligationsRow.pinnedBy)=true:=by kernel_rfl
theorem f6_k30:(Rows.fnExactBoundObligationsRow.veiled==(Tryz.f6.params.toList++Rows.fnExactBoundObligationsSpec.plain.varTypes Tryz.pinned.checked.prog++Tryz.f6.resultTypes.toList).any (Tryz.pinned.checked.prog.veiledRec ·))=true:=by kernel_rfl
theorem f6_k31:Rows.fnExactBoundObligationsRow.veiledFits Tryz.pinned.checked.prog Tryz.f6.params.toList (Tryz.f6.params.toList++Rows.fnExactBoundObligationsSpec.plain.varTypes Tryz.pinned.checked.prog++Tryz.f6.resultTypes.toList)=true:=by kernel_rfl
set_option maxRecDepth 100000 in
theorem f6_facts:joinedFacts Tryz.pinned.checked.prog 6 Tryz.f6 Rows.fnExactBoundObligationsSpec Rows.fnExactBoundObligationsRow=true:=Jfy (P:=Tryz.pinned.checked.prog) (f:=6) (fn:=Tryz.f6) (s:=Rows.fnExactBoundObligationsSpec) (c:=Rows.fnExactBoundObligationsRow) f6_k0 K3d K1b f6_k3 f6_k4 f6_k5 f6_k6 f6_k7 f6_k8 f6_k9 f6_k10 f6_k11 f6_k12 f6_k13 f6_k14 f6_k15 f6_k16 f6_k17 f6_k18 f6_k19 f6_k20 f6_k21 f6_k22 f6_k23 Jxd Jwa f6_k26 f6_k27 f6_k28 f6_k29 f6_k30 f6_k31
theorem f6_inst:Tryz.f6.isInstance Tryz.pinned.checked.prog Rows.fnExactBoundObligationsRow.origin Rows.fnExactBoundObligationsRow.targs:=of_decide_eq_true (by kernel_rfl)
theorem f6_wrap:Tryz.f6.isWrapper Tryz.pinned.checked.prog Rows.fnExactBoundObligationsRow.wrapper Rows.fnExactBoundObligationsRow.mainSum:=by
 unfold Func.isWrapper;first|(rw [if_pos (by decide +kernel)];kernel_rfl)|(rw [if_neg (by decide +kernel)];exact ⟨rfl,rfl⟩)
theorem f6_holds:Rows.FnExactBoundObligationsSaid:=
 OpenClaim.holds_of_wide 6 Tryz.f6 rfl rfl rfl rfl rfl rfl rfl ⟨rfl,rfl,rfl,rfl,rfl⟩ rfl rfl rfl rfl rfl f6_named Tryz.func6 f6_facts f6_inst f6_wrap
  (fun os started H enc _=>f6_lifted os started H enc)
#print axioms f6_holds
end Go.Proofs.YtoclolkigjbcgaaGreat

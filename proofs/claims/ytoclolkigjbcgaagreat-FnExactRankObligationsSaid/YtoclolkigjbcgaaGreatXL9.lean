/- FnExactRankObligations: for all arguments the law returns true; no condition. -/
import Derived.Test.YtoclolkigjbcgaaGreatXD38
import Derived.Test.YtoclolkigjbcgaaGreatRows
namespace Go.Proofs.YtoclolkigjbcgaaGreat
open Go Go.RowKit Go.Proofs Go.ChangeShapes Go.WideShapes
set_option linter.all false
set_option maxRecDepth 100000 in
theorem f9_lifted (os:Os) (started:os.Started) (H:Type) (enc:TypeId×Value→H) :
 ReturnsInHanded {} Tryz.checked os 9 .any (Rows.fnExactRankObligationsSpec.pre6 enc Tryz.prog Tryz.f9 Rows.fnExactRankObligationsRow.domain false) (Rows.fnExactRankObligationsSpec.post enc Tryz.prog Tryz.f9 false true false false):=by
 refine returnsInHanded_of_change_sized (C:=Tryz.checked) Tryz.own started (by kernel_rfl) Tryz.func9
  (ChangeSpec.witness6 (enc:=enc) (C:=Tryz.checked) false ⟨#[],#[.agg #[.slice Option.none 0 0,.slice Option.none 0 0],.agg #[.slice Option.none 0 0,.slice Option.none 0 0]],[]⟩ 8 (by kernel_rfl) (by kernel_rfl) (by kernel_rfl) (by kernel_rfl)) ?_
 intro W base args ds gs before hval hW _ hsz _
 refine Jl9 (k:=13) (tb:=4) Tryz.laidOut rfl Tryz.underlying4 (by kernel_rfl) (by kernel_rfl) rfl ?_ ?_ base args ds gs before hval hW hsz
 ·intro ds hl
  match ds,hl with
  | [d0,d1],_=>rfl
 ·intro xs hx
  have hp:Tryz.f9.params.toList=[25,76]:=by kernel_rfl
  rw [hp] at hx
  have q:Jth (fun t a=>Jiv Tryz.prog 13 t a) [25,76] xs:=hx
  obtain ⟨a0,xs,rfl,q0,q⟩:=J1i q
  obtain ⟨a1,xs,rfl,q1,q⟩:=J1i q
  cases J5t q
  obtain ⟨x0,rfl⟩:=Jmt q0
  obtain ⟨x1,rfl⟩:=Jmn q1
  exact Jba x0 x1
theorem f9_named:Tryz.pinned.checked.prog.funcNamed Rows.fnExactRankObligationsRow.func=some 9:=by kernel_rfl
theorem f9_k0:Rows.fnExactRankObligationsRow.wf (OpenSpec.ofChange Rows.fnExactRankObligationsSpec)=true:=by kernel_rfl
theorem f9_k3:Tryz.f9.params.all (Tryz.pinned.checked.prog.readableRec ·)=true:=by kernel_rfl
theorem f9_k4:namedTie Tryz.pinned.checked.prog Rows.fnExactRankObligationsRow.named Rows.fnExactRankObligationsSpec.vars=true:=by kernel_rfl
theorem f9_k5:(Rows.fnExactRankObligationsRow.stops==[])=true:=by kernel_rfl
theorem f9_k6:(Tryz.pinned.checked.prog.stops==[])=true:=by kernel_rfl
theorem f9_k7:(Rows.fnExactRankObligationsRow.knobs==[])=true:=by kernel_rfl
theorem f9_k8:(Tryz.pinned.checked.prog.stopKnobs==[])=true:=by kernel_rfl
theorem f9_k9:(Rows.fnExactRankObligationsRow.inPlace==Tryz.pinned.checked.prog.inPlace 9)=true:=by kernel_rfl
theorem f9_k10:(Rows.fnExactRankObligationsRow.unfollowed==Tryz.pinned.checked.prog.unfollowed 9)=true:=by kernel_rfl
theorem f9_k11:(Rows.fnExactRankObligationsRow.recurses==Tryz.pinned.checked.prog.recurses 9)=true:=by kernel_rfl
theorem f9_k12:(Rows.fnExactRankObligationsRow.named==Tryz.pinned.checked.prog.varsNamed 9)=true:=by kernel_rfl
theorem f9_k13:(Rows.fnExactRankObligationsRow.maps==(Tryz.f9.params.toList++Rows.fnExactRankObligationsSpec.plain.varTypes Tryz.pinned.checked.prog).any (Tryz.pinned.checked.prog.mapsRec ·))=true:=by kernel_rfl
theorem f9_k14:(Rows.fnExactRankObligationsRow.ifaces==(Tryz.f9.params.toList++Rows.fnExactRankObligationsSpec.plain.varTypes Tryz.pinned.checked.prog).any (Tryz.pinned.checked.prog.ifacesRec ·))=true:=by kernel_rfl
theorem f9_k15:(Rows.fnExactRankObligationsRow.mapsOut==Tryz.pinned.checked.prog.mapsAmong Tryz.f9.resultTypes.toList)=true:=by kernel_rfl
theorem f9_k16:(Rows.fnExactRankObligationsRow.loops==(Tryz.f9.params.toList++Rows.fnExactRankObligationsSpec.plain.varTypes Tryz.pinned.checked.prog).any (Tryz.pinned.checked.prog.loopsFrom ·))=true:=by kernel_rfl
theorem f9_k17:(Rows.fnExactRankObligationsRow.wideKeys==(Tryz.f9.params.toList++Rows.fnExactRankObligationsSpec.plain.varTypes Tryz.pinned.checked.prog++Tryz.f9.resultTypes.toList).any (Tryz.pinned.checked.prog.wideKeysFrom ·))=true:=by kernel_rfl
theorem f9_k18:Rows.fnExactRankObligationsSpec.vars.all (Tryz.pinned.checked.prog.varReadable ·)=true:=by kernel_rfl
theorem f9_k19:Tryz.f9.resultTypes.all (fun t=>Tryz.pinned.checked.prog.readableRec t&&decide (t<Tryz.pinned.checked.prog.types.size))=true:=by kernel_rfl
theorem f9_k20:(Rows.fnExactRankObligationsRow.ifacesOut==Tryz.f9.resultTypes.toList.any (Tryz.pinned.checked.prog.ifacesRec ·))=true:=by kernel_rfl
theorem f9_k21:(Rows.fnExactRankObligationsRow.loopsOut==Tryz.f9.resultTypes.toList.any (Tryz.pinned.checked.prog.loopsFrom ·))=true:=by kernel_rfl
theorem f9_k22:(Rows.fnExactRankObligationsRow.plainKeys==Tryz.pinned.checked.prog.plainKeys)=true:=by kernel_rfl
theorem f9_k23:Rows.fnExactRankObligationsRow.shortTexts.isNone=true:=by kernel_rfl
theorem f9_k26:(Rows.fnExactRankObligationsRow.lifted==Tryz.pinned.checked.prog.liftsFinal)=true:=by kernel_rfl
theorem f9_k27:(Tryz.pinned.checked.prog.make==some Rows.fnExactRankObligationsRow.make)=true:=by kernel_rfl
theorem f9_k28:(Rows.fnExactRankObligationsRow.kinds==(if Rows.fnExactRankObligationsRow.domain.isEmpty then [] else Tryz.f9.params.toList.map fun t=>match Tryz.pinned.checked.prog.underlying t with|some (.int k)=>some k|_=>none))=true:=by kernel_rfl
theorem f9_k29:(Rows.fnExactRankObligationsRow.pinned==Rows.fnExactRankObligationsRow.pinnedBy)=true:=by kernel_rfl
theorem f9_k30:(Rows.fnExactRankObligationsRow.veiled==(Tryz.f9.params.toList++Rows.fnExactRankObligationsSpec.plain.varTypes Tryz.pinned.checked.prog++Tryz.f9.resultTypes.toList).any (Tryz.pinned.checked.prog.veiledRec ·))=true:=by kernel_rfl
theorem f9_k31:Rows.fnExactRankObligationsRow.veiledFits Tryz.pinned.checked.prog Tryz.f9.params.toList (Tryz.f9.params.toList++Rows.fnExactRankObligationsSpec.plain.varTypes Tryz.pinned.checked.prog++Tryz.f9.resultTypes.toList)=true:=by kernel_rfl
set_option maxRecDepth 100000 in
theorem f9_facts:joinedFacts Tryz.pinned.checked.prog 9 Tryz.f9 Rows.fnExactRankObligationsSpec Rows.fnExactRankObligationsRow=true:=Jgm (P:=Tryz.pinned.checked.prog) (f:=9) (fn:=Tryz.f9) (s:=Rows.fnExactRankObligationsSpec) (c:=Rows.fnExactRankObligationsRow) f9_k0 K5t K3x f9_k3 f9_k4 f9_k5 f9_k6 f9_k7 f9_k8 f9_k9 f9_k10 f9_k11 f9_k12 f9_k13 f9_k14 f9_k15 f9_k16 f9_k17 f9_k18 f9_k19 f9_k20 f9_k21 f9_k22 f9_k23 Jz0 Jz8 f9_k26 f9_k27 f9_k28 f9_k29 f9_k30 f9_k31
theorem f9_inst:Tryz.f9.isInstance Tryz.pinned.checked.prog Rows.fnExactRankObligationsRow.origin Rows.fnExactRankObligationsRow.targs:=of_decide_eq_true (by kernel_rfl)
theorem f9_wrap:Tryz.f9.isWrapper Tryz.pinned.checked.prog Rows.fnExactRankObligationsRow.wrapper Rows.fnExactRankObligationsRow.mainSum:=by
 unfold Func.isWrapper;first|(rw [if_pos (by decide +kernel)];kernel_rfl)|(rw [if_neg (by decide +kernel)];exact ⟨rfl,rfl⟩)
theorem f9_holds:Rows.FnExactRankObligationsSaid:=
 OpenClaim.holds_of_wide 9 Tryz.f9 rfl rfl rfl rfl rfl rfl rfl ⟨rfl,rfl,rfl,rfl,rfl⟩ rfl rfl rfl rfl rfl f9_named Tryz.func9 f9_facts f9_inst f9_wrap
  (fun os started H enc _=>f9_lifted os started H enc)
#print axioms f9_holds
end Go.Proofs.YtoclolkigjbcgaaGreat

/- FnExactModelOf: for all arguments the law returns true; no condition. -/
import Derived.Test.YtilcageplifbgaaGreatKD31
import Derived.Test.YtilcageplifbgaaGreatRows
namespace Go.Proofs.YtilcageplifbgaaGreat
set_option linter.all false
open Go Go.RowKit Go.Proofs Go.ChangeShapes Go.WideShapes
set_option maxRecDepth 100000 in
theorem f6_lifted (os:Os) (started:os.Started) (H:Type) (enc:TypeId×Value→H) :
    ReturnsInHanded {} Tryz.checked os 6 .any (Rows.fnExactModelOfSpec.pre6 enc Tryz.prog Tryz.f6 Rows.fnExactModelOfRow.domain false) (Rows.fnExactModelOfSpec.post enc Tryz.prog Tryz.f6 false true false false):=by
  refine returnsInHanded_of_change_sized (C:=Tryz.checked) Tryz.own started (by kernel_rfl) Tryz.func6
    (ChangeSpec.witness6 (enc:=enc) (C:=Tryz.checked) false ⟨#[],#[.agg #[.slice Option.none 0 0,.slice Option.none 0 0],.int .i64 0],[]⟩ 8 (by kernel_rfl) (by kernel_rfl) (by kernel_rfl) (by kernel_rfl)) ?_
  intro W base args ds gs before hval hW _ hsz _
  refine law_contract (k:=13) (tb:=4) Tryz.laidOut rfl Tryz.underlying4 (by kernel_rfl) (by kernel_rfl) rfl ?_ ?_ base args ds gs before hval hW hsz
  · intro ds hl
    match ds,hl with
    | [d0,d1],_=>rfl
  · intro xs hx
    have hp:Tryz.f6.params.toList=[25,3]:=by kernel_rfl
    rw [hp] at hx
    have q:All2 (fun t a=>ArgOf Tryz.prog 13 t a) [25,3] xs:=hx
    obtain ⟨a0,xs,rfl,q0,q⟩:=All2_cons q
    obtain ⟨a1,xs,rfl,q1,q⟩:=All2_cons q
    cases All2_nil q
    obtain ⟨x0,rfl⟩:=arg_Program q0
    obtain ⟨x1,rfl,w1⟩:=ArgOf_int Tryz.underlying3 q1
    exact law_ModelOf x0 x1
theorem f6_named:Tryz.pinned.checked.prog.funcNamed Rows.fnExactModelOfRow.func=some 6:=by kernel_rfl
theorem f6_k0:Rows.fnExactModelOfRow.wf (OpenSpec.ofChange Rows.fnExactModelOfSpec)=true:=by kernel_rfl
theorem f6_k3:Tryz.f6.params.all (Tryz.pinned.checked.prog.readableRec ·)=true:=by kernel_rfl
theorem f6_k4:namedTie Tryz.pinned.checked.prog Rows.fnExactModelOfRow.named Rows.fnExactModelOfSpec.vars=true:=by kernel_rfl
theorem f6_k5:(Rows.fnExactModelOfRow.stops==[])=true:=by kernel_rfl
theorem f6_k6:(Tryz.pinned.checked.prog.stops==[])=true:=by kernel_rfl
theorem f6_k7:(Rows.fnExactModelOfRow.knobs==[])=true:=by kernel_rfl
theorem f6_k8:(Tryz.pinned.checked.prog.stopKnobs==[])=true:=by kernel_rfl
theorem f6_k9:(Rows.fnExactModelOfRow.inPlace==Tryz.pinned.checked.prog.inPlace 6)=true:=by kernel_rfl
theorem f6_k10:(Rows.fnExactModelOfRow.unfollowed==Tryz.pinned.checked.prog.unfollowed 6)=true:=by kernel_rfl
theorem f6_k11:(Rows.fnExactModelOfRow.recurses==Tryz.pinned.checked.prog.recurses 6)=true:=by kernel_rfl
theorem f6_k12:(Rows.fnExactModelOfRow.named==Tryz.pinned.checked.prog.varsNamed 6)=true:=by kernel_rfl
theorem f6_k13:(Rows.fnExactModelOfRow.maps==(Tryz.f6.params.toList++Rows.fnExactModelOfSpec.plain.varTypes Tryz.pinned.checked.prog).any (Tryz.pinned.checked.prog.mapsRec ·))=true:=by kernel_rfl
theorem f6_k14:(Rows.fnExactModelOfRow.ifaces==(Tryz.f6.params.toList++Rows.fnExactModelOfSpec.plain.varTypes Tryz.pinned.checked.prog).any (Tryz.pinned.checked.prog.ifacesRec ·))=true:=by kernel_rfl
theorem f6_k15:(Rows.fnExactModelOfRow.mapsOut==Tryz.pinned.checked.prog.mapsAmong Tryz.f6.resultTypes.toList)=true:=by kernel_rfl
theorem f6_k16:(Rows.fnExactModelOfRow.loops==(Tryz.f6.params.toList++Rows.fnExactModelOfSpec.plain.varTypes Tryz.pinned.checked.prog).any (Tryz.pinned.checked.prog.loopsFrom ·))=true:=by kernel_rfl
theorem f6_k17:(Rows.fnExactModelOfRow.wideKeys==(Tryz.f6.params.toList++Rows.fnExactModelOfSpec.plain.varTypes Tryz.pinned.checked.prog++Tryz.f6.resultTypes.toList).any (Tryz.pinned.checked.prog.wideKeysFrom ·))=true:=by kernel_rfl
theorem f6_k18:Rows.fnExactModelOfSpec.vars.all (Tryz.pinned.checked.prog.varReadable ·)=true:=by kernel_rfl
theorem f6_k19:Tryz.f6.resultTypes.all (fun t=>Tryz.pinned.checked.prog.readableRec t&&decide (t<Tryz.pinned.checked.prog.types.size))=true:=by kernel_rfl
theorem f6_k20:(Rows.fnExactModelOfRow.ifacesOut==Tryz.f6.resultTypes.toList.any (Tryz.pinned.checked.prog.ifacesRec ·))=true:=by kernel_rfl
theorem f6_k21:(Rows.fnExactModelOfRow.loopsOut==Tryz.f6.resultTypes.toList.any (Tryz.pinned.checked.prog.loopsFrom ·))=true:=by kernel_rfl
theorem f6_k22:(Rows.fnExactModelOfRow.plainKeys==Tryz.pinned.checked.prog.plainKeys)=true:=by kernel_rfl
theorem f6_k23:Rows.fnExactModelOfRow.shortTexts.isNone=true:=by kernel_rfl
theorem f6_k26:(Rows.fnExactModelOfRow.lifted==Tryz.pinned.checked.prog.liftsFinal)=true:=by kernel_rfl
theorem f6_k27:(Tryz.pinned.checked.prog.make==some Rows.fnExactModelOfRow.make)=true:=by kernel_rfl
theorem f6_k28:(Rows.fnExactModelOfRow.kinds==(if Rows.fnExactModelOfRow.domain.isEmpty then [] else Tryz.f6.params.toList.map fun t=>match Tryz.pinned.checked.prog.underlying t with | some (.int k)=>some k | _=>none))=true:=by kernel_rfl
theorem f6_k29:(Rows.fnExactModelOfRow.pinned==Rows.fnExactModelOfRow.pinnedBy)=true:=by kernel_rfl
theorem f6_k30:(Rows.fnExactModelOfRow.veiled==(Tryz.f6.params.toList++Rows.fnExactModelOfSpec.plain.varTypes Tryz.pinned.checked.prog++Tryz.f6.resultTypes.toList).any (Tryz.pinned.checked.prog.veiledRec ·))=true:=by kernel_rfl
theorem f6_k31:Rows.fnExactModelOfRow.veiledFits Tryz.pinned.checked.prog Tryz.f6.params.toList (Tryz.f6.params.toList++Rows.fnExactModelOfSpec.plain.varTypes Tryz.pinned.checked.prog++Tryz.f6.resultTypes.toList)=true:=by kernel_rfl
set_option maxRecDepth 100000 in
theorem f6_facts:joinedFacts Tryz.pinned.checked.prog 6 Tryz.f6 Rows.fnExactModelOfSpec Rows.fnExactModelOfRow=true:=joinedFacts_of (P:=Tryz.pinned.checked.prog) (f:=6) (fn:=Tryz.f6) (s:=Rows.fnExactModelOfSpec) (c:=Rows.fnExactModelOfRow) f6_k0 F_laid F_maps f6_k3 f6_k4 f6_k5 f6_k6 f6_k7 f6_k8 f6_k9 f6_k10 f6_k11 f6_k12 f6_k13 f6_k14 f6_k15 f6_k16 f6_k17 f6_k18 f6_k19 f6_k20 f6_k21 f6_k22 f6_k23 F_heard F_enter f6_k26 f6_k27 f6_k28 f6_k29 f6_k30 f6_k31
theorem f6_inst:Tryz.f6.isInstance Tryz.pinned.checked.prog Rows.fnExactModelOfRow.origin Rows.fnExactModelOfRow.targs:=of_decide_eq_true (by kernel_rfl)
theorem f6_wrap:Tryz.f6.isWrapper Tryz.pinned.checked.prog Rows.fnExactModelOfRow.wrapper Rows.fnExactModelOfRow.mainSum:=by
  unfold Func.isWrapper; first | (rw [if_pos (by decide +kernel)]; kernel_rfl) | (rw [if_neg (by decide +kernel)]; exact ⟨rfl,rfl⟩)
theorem f6_holds:Rows.FnExactModelOfSaid:=
  OpenClaim.holds_of_wide 6 Tryz.f6 rfl rfl rfl rfl rfl rfl rfl ⟨rfl,rfl,rfl,rfl,rfl⟩ rfl rfl rfl rfl rfl f6_named Tryz.func6 f6_facts f6_inst f6_wrap
    (fun os started H enc _=>f6_lifted os started H enc)
#print axioms f6_holds
end Go.Proofs.YtilcageplifbgaaGreat

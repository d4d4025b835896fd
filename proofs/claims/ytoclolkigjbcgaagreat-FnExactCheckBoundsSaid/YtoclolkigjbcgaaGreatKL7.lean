/- FnExactCheckBounds: for all arguments the law returns true; no condition. -/
import Derived.Test.YtoclolkigjbcgaaGreatKT2B
import Derived.Test.YtoclolkigjbcgaaGreatKL0
import Derived.Test.YtoclolkigjbcgaaGreatRows
namespace Go.Proofs.YtoclolkigjbcgaaGreat
open Go Go.RowKit Go.Proofs Go.ChangeShapes Go.WideShapes
set_option linter.all false
set_option maxRecDepth 100000 in
theorem f7_lifted (os:Os) (started:os.Started) (H:Type) (enc:TypeId×Value→H) :
 ReturnsInHanded {} Tryz.checked os 7 .any (Rows.fnExactCheckBoundsSpec.pre6 enc Tryz.prog Tryz.f7 Rows.fnExactCheckBoundsRow.domain false) (Rows.fnExactCheckBoundsSpec.post enc Tryz.prog Tryz.f7 false true false false):=by
 refine returnsInHanded_of_change_sized (C:=Tryz.checked) Tryz.own started (by kernel_rfl) Tryz.func7
  (ChangeSpec.witness6 (enc:=enc) (C:=Tryz.checked) false ⟨#[],#[.agg #[.slice Option.none 0 0,.slice Option.none 0 0],.agg #[.int .i64 0,.slice Option.none 0 0],.slice Option.none 0 0],[]⟩ 8 (by kernel_rfl) (by kernel_rfl) (by kernel_rfl) (by kernel_rfl)) ?_
 intro W base args ds gs before hval hW _ hsz _
 refine Jig (k:=13) (tb:=4) Tryz.laidOut rfl Tryz.underlying4 (by kernel_rfl) (by kernel_rfl) rfl ?_ ?_ base args ds gs before hval hW hsz
 ·intro ds hl
  match ds,hl with
  | [d0,d1,d2],_=>rfl
 ·intro xs hx
  have hp:Tryz.f7.params.toList=[25,53,67]:=by kernel_rfl
  rw [hp] at hx
  have q:Jq6 (fun t a=>Jdc Tryz.prog 13 t a) [25,53,67] xs:=hx
  obtain ⟨a0,xs,rfl,q0,q⟩:=J17 q
  obtain ⟨a1,xs,rfl,q1,q⟩:=J17 q
  obtain ⟨a2,xs,rfl,q2,q⟩:=J17 q
  cases J52 q
  obtain ⟨x0,rfl⟩:=Jk4 q0
  obtain ⟨x1,rfl⟩:=Jml q1
  obtain ⟨x2,rfl⟩:=Jjd q2
  exact Jf3 x0 x1 x2
theorem f7_named:Tryz.pinned.checked.prog.funcNamed Rows.fnExactCheckBoundsRow.func=some 7:=by kernel_rfl
theorem f7_k0:Rows.fnExactCheckBoundsRow.wf (OpenSpec.ofChange Rows.fnExactCheckBoundsSpec)=true:=by kernel_rfl
theorem f7_k3:Tryz.f7.params.all (Tryz.pinned.checked.prog.readableRec ·)=true:=by kernel_rfl
theorem f7_k4:namedTie Tryz.pinned.checked.prog Rows.fnExactCheckBoundsRow.named Rows.fnExactCheckBoundsSpec.vars=true:=by kernel_rfl
theorem f7_k5:(Rows.fnExactCheckBoundsRow.stops==[])=true:=by kernel_rfl
theorem f7_k6:(Tryz.pinned.checked.prog.stops==[])=true:=by kernel_rfl
theorem f7_k7:(Rows.fnExactCheckBoundsRow.knobs==[])=true:=by kernel_rfl
theorem f7_k8:(Tryz.pinned.checked.prog.stopKnobs==[])=true:=by kernel_rfl
theorem f7_k9:(Rows.fnExactCheckBoundsRow.inPlace==Tryz.pinned.checked.prog.inPlace 7)=true:=by kernel_rfl
theorem f7_k10:(Rows.fnExactCheckBoundsRow.unfollowed==Tryz.pinned.checked.prog.unfollowed 7)=true:=by kernel_rfl
theorem f7_k11:(Rows.fnExactCheckBoundsRow.recurses==Tryz.pinned.checked.prog.recurses 7)=true:=by kernel_rfl
theorem f7_k12:(Rows.fnExactCheckBoundsRow.named==Tryz.pinned.checked.prog.varsNamed 7)=true:=by kernel_rfl
theorem f7_k13:(Rows.fnExactCheckBoundsRow.maps==(Tryz.f7.params.toList++Rows.fnExactCheckBoundsSpec.plain.varTypes Tryz.pinned.checked.prog).any (Tryz.pinned.checked.prog.mapsRec ·))=true:=by kernel_rfl
theorem f7_k14:(Rows.fnExactCheckBoundsRow.ifaces==(Tryz.f7.params.toList++Rows.fnExactCheckBoundsSpec.plain.varTypes Tryz.pinned.checked.prog).any (Tryz.pinned.checked.prog.ifacesRec ·))=true:=by kernel_rfl
theorem f7_k15:(Rows.fnExactCheckBoundsRow.mapsOut==Tryz.pinned.checked.prog.mapsAmong Tryz.f7.resultTypes.toList)=true:=by kernel_rfl
theorem f7_k16:(Rows.fnExactCheckBoundsRow.loops==(Tryz.f7.params.toList++Rows.fnExactCheckBoundsSpec.plain.varTypes Tryz.pinned.checked.prog).any (Tryz.pinned.checked.prog.loopsFrom ·))=true:=by kernel_rfl
theorem f7_k17:(Rows.fnExactCheckBoundsRow.wideKeys==(Tryz.f7.params.toList++Rows.fnExactCheckBoundsSpec.plain.varTypes Tryz.pinned.checked.prog++Tryz.f7.resultTypes.toList).any (Tryz.pinned.checked.prog.wideKeysFrom ·))=true:=by kernel_rfl
theorem f7_k18:Rows.fnExactCheckBoundsSpec.vars.all (Tryz.pinned.checked.prog.varReadable ·)=true:=by kernel_rfl
theorem f7_k19:Tryz.f7.resultTypes.all (fun t=>Tryz.pinned.checked.prog.readableRec t&&decide (t<Tryz.pinned.checked.prog.types.size))=true:=by kernel_rfl
theorem f7_k20:(Rows.fnExactCheckBoundsRow.ifacesOut==Tryz.f7.resultTypes.toList.any (Tryz.pinned.checked.prog.ifacesRec ·))=true:=by kernel_rfl
theorem f7_k21:(Rows.fnExactCheckBoundsRow.loopsOut==Tryz.f7.resultTypes.toList.any (Tryz.pinned.checked.prog.loopsFrom ·))=true:=by kernel_rfl
theorem f7_k22:(Rows.fnExactCheckBoundsRow.plainKeys==Tryz.pinned.checked.prog.plainKeys)=true:=by kernel_rfl
theorem f7_k23:Rows.fnExactCheckBoundsRow.shortTexts.isNone=true:=by kernel_rfl
theorem f7_k26:(Rows.fnExactCheckBoundsRow.lifted==Tryz.pinned.checked.prog.liftsFinal)=true:=by kernel_rfl
theorem f7_k27:(Tryz.pinned.checked.prog.make==some Rows.fnExactCheckBoundsRow.make)=true:=by kernel_rfl
theorem f7_k28:(Rows.fnExactCheckBoundsRow.kinds==(if Rows.fnExactCheckBoundsRow.domain.isEmpty then [] else Tryz.f7.params.toList.map fun t=>match Tryz.pinned.checked.prog.underlying t with|some (.int k)=>some k|_=>none))=true:=by kernel_rfl
theorem f7_k29:(Rows.fnExactCheckBoundsRow.pinned==Rows.fnExactCheckBoundsRow.pinnedBy)=true:=by kernel_rfl
theorem f7_k30:(Rows.fnExactCheckBoundsRow.veiled==(Tryz.f7.params.toList++Rows.fnExactCheckBoundsSpec.plain.varTypes Tryz.pinned.checked.prog++Tryz.f7.resultTypes.toList).any (Tryz.pinned.checked.prog.veiledRec ·))=true:=by kernel_rfl
theorem f7_k31:Rows.fnExactCheckBoundsRow.veiledFits Tryz.pinned.checked.prog Tryz.f7.params.toList (Tryz.f7.params.toList++Rows.fnExactCheckBoundsSpec.plain.varTypes Tryz.pinned.checked.prog++Tryz.f7.resultTypes.toList)=true:=by kernel_rfl
set_option maxRecDepth 100000 in
theorem f7_facts:joinedFacts Tryz.pinned.checked.prog 7 Tryz.f7 Rows.fnExactCheckBoundsSpec Rows.fnExactCheckBoundsRow=true:=Jfh (P:=Tryz.pinned.checked.prog) (f:=7) (fn:=Tryz.f7) (s:=Rows.fnExactCheckBoundsSpec) (c:=Rows.fnExactCheckBoundsRow) f7_k0 K1h Jzy f7_k3 f7_k4 f7_k5 f7_k6 f7_k7 f7_k8 f7_k9 f7_k10 f7_k11 f7_k12 f7_k13 f7_k14 f7_k15 f7_k16 f7_k17 f7_k18 f7_k19 f7_k20 f7_k21 f7_k22 f7_k23 Jvw Jx7 f7_k26 f7_k27 f7_k28 f7_k29 f7_k30 f7_k31
theorem f7_inst:Tryz.f7.isInstance Tryz.pinned.checked.prog Rows.fnExactCheckBoundsRow.origin Rows.fnExactCheckBoundsRow.targs:=of_decide_eq_true (by kernel_rfl)
theorem f7_wrap:Tryz.f7.isWrapper Tryz.pinned.checked.prog Rows.fnExactCheckBoundsRow.wrapper Rows.fnExactCheckBoundsRow.mainSum:=by
 unfold Func.isWrapper;first|(rw [if_pos (by decide +kernel)];kernel_rfl)|(rw [if_neg (by decide +kernel)];exact ⟨rfl,rfl⟩)
theorem f7_holds:Rows.FnExactCheckBoundsSaid:=
 OpenClaim.holds_of_wide 7 Tryz.f7 rfl rfl rfl rfl rfl rfl rfl ⟨rfl,rfl,rfl,rfl,rfl⟩ rfl rfl rfl rfl rfl f7_named Tryz.func7 f7_facts f7_inst f7_wrap
  (fun os started H enc _=>f7_lifted os started H enc)
#print axioms f7_holds
end Go.Proofs.YtoclolkigjbcgaaGreat

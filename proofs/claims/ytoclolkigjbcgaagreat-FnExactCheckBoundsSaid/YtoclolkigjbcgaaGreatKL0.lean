/- The parameters of the laws, opened. -/
import Derived.Test.YtoclolkigjbcgaaGreatKT1
import Derived.Test.YtoclolkigjbcgaaGreatProg
import Derived.Test.YtoclolkigjbcgaaGreatRows
namespace Go.Proofs.YtoclolkigjbcgaaGreat
open Go Go.RowKit Go.Proofs Go.ChangeShapes Go.WideShapes
set_option linter.all false
theorem Tryz.own:ownKnob Tryz.prog.godebug=none:=by kernel_rfl
theorem Tryz.laidOut:laidOutB Tryz.prog=true:=by kernel_rfl
theorem J2p {α:Type}{P:List AV→Prop}{f:α→List AV}(hP:∀ r,P r→∃ x,r=f x):∀ {rows:List (List AV)},(∀ r∈rows,P r)→∃ l:List α,rows=l.map f
 | [],_=>⟨[],rfl⟩
 | r::rows,h=>by
  obtain ⟨x,rfl⟩:=hP r (h _ List.mem_cons_self)
  obtain ⟨l,rfl⟩:=J2p hP fun r hr=>h r (List.mem_cons_of_mem _ hr)
  exact ⟨x::l,rfl⟩
theorem Jjp {P:Program}{f:Nat}{t e:TypeId}{a:AV}(hu:P.underlying t=some (.slice e)) (h:Jdc P f t a):Row P f t [a]:=by simpa only [Jdc,hu] using h
set_option maxRecDepth 100000
theorem Jn4 {f:Nat}{r:List AV}(h:Row Tryz.prog (f+2) 39 r):∃ x:List Int,r=[.sl 1 (J0k x)]:=by
 obtain ⟨l,rfl⟩:=Jwm Tryz.underlying39 Tryz.underlying3 (by kernel_rfl) h
 exact ⟨l,rfl⟩
theorem K1g {f:Nat}{r:List AV}(h:Row Tryz.prog (f+3) 41 r):∃ x:DLin,r=J07 x:=by
 obtain ⟨parts,rfl,g0⟩:=J3s Tryz.underlying41 h
 obtain ⟨x0,m1,rfl,h0,g1⟩:=J17 g0
 obtain ⟨x1,m2,rfl,h1,g2⟩:=J17 g1
 cases J52 g2
 obtain ⟨v0,rfl,_⟩:=Jcm Tryz.underlying3 h0
 obtain ⟨v1,rfl⟩:=Jn4 h1
 exact ⟨⟨v0,v1⟩,rfl⟩
theorem Jn6 {f:Nat}{r:List AV}(h:Row Tryz.prog (f+4) 51 r):∃ x:List DLin,r=[.sl 2 (x.map J07)]:=by
 obtain ⟨rows,rfl,_,hr⟩:=J4m Tryz.underlying51 h
 obtain ⟨l,rfl⟩:=J2p (f:=J07) (fun r h=>K1g h) hr
 exact ⟨l,by rw [show Tryz.prog.cellsOf 41=2 by kernel_rfl]⟩
theorem Jou {f:Nat}{r:List AV}(h:Row Tryz.prog (f+3) 143 r):∃ x:DFarkas,r=J0r x:=by
 obtain ⟨parts,rfl,g0⟩:=J3s Tryz.underlying143 h
 obtain ⟨x0,m1,rfl,h0,g1⟩:=J17 g0
 obtain ⟨x1,m2,rfl,h1,g2⟩:=J17 g1
 cases J52 g2
 obtain ⟨v0,rfl,_⟩:=Jcm Tryz.underlying3 h0
 obtain ⟨v1,rfl⟩:=Jn4 h1
 exact ⟨⟨v0,v1⟩,rfl⟩
theorem Jmi {f:Nat}{r:List AV}(h:Row Tryz.prog (f+4) 67 r):∃ x:List DFarkas,r=[.sl 2 (x.map J0r)]:=by
 obtain ⟨rows,rfl,_,hr⟩:=J4m Tryz.underlying67 h
 obtain ⟨l,rfl⟩:=J2p (f:=J0r) (fun r h=>Jou h) hr
 exact ⟨l,by rw [show Tryz.prog.cellsOf 143=2 by kernel_rfl]⟩
theorem Jjd {f:Nat}{a:AV}(h:Jdc Tryz.prog (f+4) 67 a):∃ x:List DFarkas,a = .sl 2 (x.map J0r):=by
 obtain ⟨x,hx⟩:=Jmi (Jjp Tryz.underlying67 h)
 exact ⟨x,by simpa using hx⟩
theorem Jwf {f:Nat}{r:List AV}(h:Row Tryz.prog (f+2) 339 r):∃ x:DTerm,r=J12 x:=by
 obtain ⟨parts,rfl,g0⟩:=J3s Tryz.underlying339 h
 obtain ⟨x0,m1,rfl,h0,g1⟩:=J17 g0
 obtain ⟨x1,m2,rfl,h1,g2⟩:=J17 g1
 cases J52 g2
 obtain ⟨v0,rfl,_⟩:=Jcm Tryz.underlying3 h0
 obtain ⟨v1,rfl,_⟩:=J46 Tryz.underlying9 h1
 exact ⟨⟨v0,v1⟩,rfl⟩
theorem Jrj {f:Nat}{r:List AV}(h:Row Tryz.prog (f+3) 303 r):∃ x:List DTerm,r=[.sl 2 (x.map J12)]:=by
 obtain ⟨rows,rfl,_,hr⟩:=J4m Tryz.underlying303 h
 obtain ⟨l,rfl⟩:=J2p (f:=J12) (fun r h=>Jwf h) hr
 exact ⟨l,by rw [show Tryz.prog.cellsOf 339=2 by kernel_rfl]⟩
theorem K03 {f:Nat}{r:List AV}(h:Row Tryz.prog (f+4) 305 r):∃ x:DSum,r=J1g x:=by
 obtain ⟨parts,rfl,g0⟩:=J3s Tryz.underlying305 h
 obtain ⟨x0,m1,rfl,h0,g1⟩:=J17 g0
 obtain ⟨x1,m2,rfl,h1,g2⟩:=J17 g1
 cases J52 g2
 obtain ⟨v0,rfl,_⟩:=Jcm Tryz.underlying3 h0
 obtain ⟨v1,rfl⟩:=Jrj h1
 exact ⟨⟨v0,v1⟩,rfl⟩
theorem Joq {f:Nat}{r:List AV}(h:Row Tryz.prog (f+5) 170 r):∃ x:List DSum,r=[.sl 2 (x.map J1g)]:=by
 obtain ⟨rows,rfl,_,hr⟩:=J4m Tryz.underlying170 h
 obtain ⟨l,rfl⟩:=J2p (f:=J1g) (fun r h=>K03 h) hr
 exact ⟨l,by rw [show Tryz.prog.cellsOf 305=2 by kernel_rfl]⟩
theorem Jub {f:Nat}{r:List AV}(h:Row Tryz.prog (f+6) 173 r):∃ x:DArg,r=J0v x:=by
 obtain ⟨parts,rfl,g0⟩:=J3s Tryz.underlying173 h
 obtain ⟨x0,m1,rfl,h0,g1⟩:=J17 g0
 obtain ⟨x1,m2,rfl,h1,g2⟩:=J17 g1
 obtain ⟨x2,m3,rfl,h2,g3⟩:=J17 g2
 cases J52 g3
 obtain ⟨v0,rfl⟩:=Jhp Tryz.underlying4 h0
 obtain ⟨v1,rfl⟩:=Joq h1
 obtain ⟨v2,rfl,_⟩:=J46 Tryz.underlying9 h2
 exact ⟨⟨v0,v1,v2⟩,rfl⟩
theorem Jwj {f:Nat}{r:List AV}(h:Row Tryz.prog (f+7) 307 r):∃ x:List DArg,r=[.sl 3 (x.map J0v)]:=by
 obtain ⟨rows,rfl,_,hr⟩:=J4m Tryz.underlying307 h
 obtain ⟨l,rfl⟩:=J2p (f:=J0v) (fun r h=>Jub h) hr
 exact ⟨l,by rw [show Tryz.prog.cellsOf 173=3 by kernel_rfl]⟩
theorem Jmb {f:Nat}{r:List AV}(h:Row Tryz.prog (f+2) 94 r):∃ x:List Str,r=[.sl 1 (J0e x)]:=by
 obtain ⟨rows,rfl,_,hr⟩:=J4m Tryz.underlying94 h
 obtain ⟨l,rfl⟩:=J2p (f:=fun s:Str=>[.str s]) (fun r h=>(J46 Tryz.underlying9 h).elim fun l h=>⟨l,h.1⟩) hr
 exact ⟨l,by rw [show Tryz.prog.cellsOf 9=1 by kernel_rfl];rfl⟩
theorem Jjl {f:Nat}{r:List AV}(h:Row Tryz.prog (f+5) 167 r):∃ x:DFunction,r=J04 x:=by
 obtain ⟨parts,rfl,g0⟩:=J3s Tryz.underlying167 h
 obtain ⟨x0,m1,rfl,h0,g1⟩:=J17 g0
 obtain ⟨x1,m2,rfl,h1,g2⟩:=J17 g1
 obtain ⟨x2,m3,rfl,h2,g3⟩:=J17 g2
 obtain ⟨x3,m4,rfl,h3,g4⟩:=J17 g3
 cases J52 g4
 obtain ⟨v0,rfl,_⟩:=J46 Tryz.underlying9 h0
 obtain ⟨v1,rfl⟩:=Jmb h1
 obtain ⟨v2,rfl⟩:=Jhp Tryz.underlying4 h2
 obtain ⟨v3,rfl⟩:=Jn6 h3
 exact ⟨⟨v0,v1,v2,v3⟩,rfl⟩
theorem Jix {f:Nat}{r:List AV}(h:Row Tryz.prog (f+6) 22 r):∃ x:List DFunction,r=[.sl 4 (x.map J04)]:=by
 obtain ⟨rows,rfl,_,hr⟩:=J4m Tryz.underlying22 h
 obtain ⟨l,rfl⟩:=J2p (f:=J04) (fun r h=>Jjl h) hr
 exact ⟨l,by rw [show Tryz.prog.cellsOf 167=4 by kernel_rfl]⟩
theorem Jmc {f:Nat}{r:List AV}(h:Row Tryz.prog (f+2) 301 r):∃ x:DPattern,r=J09 x:=by
 obtain ⟨parts,rfl,g0⟩:=J3s Tryz.underlying301 h
 obtain ⟨x0,m1,rfl,h0,g1⟩:=J17 g0
 obtain ⟨x1,m2,rfl,h1,g2⟩:=J17 g1
 obtain ⟨x2,m3,rfl,h2,g3⟩:=J17 g2
 obtain ⟨x3,m4,rfl,h3,g4⟩:=J17 g3
 cases J52 g4
 obtain ⟨v0,rfl,_⟩:=J46 Tryz.underlying9 h0
 obtain ⟨v1,rfl⟩:=Jhp Tryz.underlying4 h1
 obtain ⟨v2,rfl,_⟩:=J46 Tryz.underlying9 h2
 obtain ⟨v3,rfl,_⟩:=J46 Tryz.underlying9 h3
 exact ⟨⟨v0,v1,v2,v3⟩,rfl⟩
theorem Jjf {f:Nat}{r:List AV}(h:Row Tryz.prog (f+3) 169 r):∃ x:List DPattern,r=[.sl 4 (x.map J09)]:=by
 obtain ⟨rows,rfl,_,hr⟩:=J4m Tryz.underlying169 h
 obtain ⟨l,rfl⟩:=J2p (f:=J09) (fun r h=>Jmc h) hr
 exact ⟨l,by rw [show Tryz.prog.cellsOf 301=4 by kernel_rfl]⟩
theorem Jw4 {f:Nat}{r:List AV}(h:Row Tryz.prog (f+8) 309 r):∃ x:DCall,r=J0s x:=by
 obtain ⟨parts,rfl,g0⟩:=J3s Tryz.underlying309 h
 obtain ⟨x0,m1,rfl,h0,g1⟩:=J17 g0
 obtain ⟨x1,m2,rfl,h1,g2⟩:=J17 g1
 obtain ⟨x2,m3,rfl,h2,g3⟩:=J17 g2
 cases J52 g3
 obtain ⟨v0,rfl,_⟩:=J46 Tryz.underlying9 h0
 obtain ⟨v1,rfl,_⟩:=J46 Tryz.underlying9 h1
 obtain ⟨v2,rfl⟩:=Jwj h2
 exact ⟨⟨v0,v1,v2⟩,rfl⟩
theorem Jrc {f:Nat}{r:List AV}(h:Row Tryz.prog (f+9) 171 r):∃ x:List DCall,r=[.sl 3 (x.map J0s)]:=by
 obtain ⟨rows,rfl,_,hr⟩:=J4m Tryz.underlying171 h
 obtain ⟨l,rfl⟩:=J2p (f:=J0s) (fun r h=>Jw4 h) hr
 exact ⟨l,by rw [show Tryz.prog.cellsOf 309=3 by kernel_rfl]⟩
theorem Jxf {f:Nat}{r:List AV}(h:Row Tryz.prog (f+10) 175 r):∃ x:DRule,r=J0c x:=by
 obtain ⟨parts,rfl,g0⟩:=J3s Tryz.underlying175 h
 obtain ⟨x0,m1,rfl,h0,g1⟩:=J17 g0
 obtain ⟨x1,m2,rfl,h1,g2⟩:=J17 g1
 obtain ⟨x2,m3,rfl,h2,g3⟩:=J17 g2
 obtain ⟨x3,m4,rfl,h3,g4⟩:=J17 g3
 obtain ⟨x4,m5,rfl,h4,g5⟩:=J17 g4
 cases J52 g5
 obtain ⟨v0,rfl,_⟩:=J46 Tryz.underlying9 h0
 obtain ⟨v1,rfl⟩:=Jjf h1
 obtain ⟨v2,rfl⟩:=Joq h2
 obtain ⟨v3,rfl⟩:=Jrc h3
 obtain ⟨v4,rfl⟩:=Jub h4
 exact ⟨⟨v0,v1,v2,v3,v4⟩,rfl⟩
theorem Js0 {f:Nat}{r:List AV}(h:Row Tryz.prog (f+11) 23 r):∃ x:List DRule,r=[.sl 7 (x.map J0c)]:=by
 obtain ⟨rows,rfl,_,hr⟩:=J4m Tryz.underlying23 h
 obtain ⟨l,rfl⟩:=J2p (f:=J0c) (fun r h=>Jxf h) hr
 exact ⟨l,by rw [show Tryz.prog.cellsOf 175=7 by kernel_rfl]⟩
theorem Jme {f:Nat}{r:List AV}(h:Row Tryz.prog (f+12) 25 r):∃ x:DProgram,r=J01 x:=by
 obtain ⟨parts,rfl,g0⟩:=J3s Tryz.underlying25 h
 obtain ⟨x0,m1,rfl,h0,g1⟩:=J17 g0
 obtain ⟨x1,m2,rfl,h1,g2⟩:=J17 g1
 cases J52 g2
 obtain ⟨v0,rfl⟩:=Jix h0
 obtain ⟨v1,rfl⟩:=Js0 h1
 exact ⟨⟨v0,v1⟩,rfl⟩
theorem Jk4 {f:Nat}{a:AV}(h:Jdc Tryz.prog (f+12) 25 a):∃ x:DProgram,a = .agg (J01 x):=by
 obtain ⟨row,rfl,h1⟩:=Jcz Tryz.underlying25 h
 obtain ⟨x,rfl⟩:=Jme h1
 exact ⟨x,rfl⟩
theorem Jpq {f:Nat}{r:List AV}(h:Row Tryz.prog (f+5) 53 r):∃ x:DBounds,r=J0d x:=by
 obtain ⟨parts,rfl,g0⟩:=J3s Tryz.underlying53 h
 obtain ⟨x0,m1,rfl,h0,g1⟩:=J17 g0
 obtain ⟨x1,m2,rfl,h1,g2⟩:=J17 g1
 cases J52 g2
 obtain ⟨v0,rfl,_⟩:=Jcm Tryz.underlying3 h0
 obtain ⟨v1,rfl⟩:=Jn6 h1
 exact ⟨⟨v0,v1⟩,rfl⟩
theorem Jml {f:Nat}{a:AV}(h:Jdc Tryz.prog (f+5) 53 a):∃ x:DBounds,a = .agg (J0d x):=by
 obtain ⟨row,rfl,h1⟩:=Jcz Tryz.underlying53 h
 obtain ⟨x,rfl⟩:=Jpq h1
 exact ⟨x,rfl⟩
theorem Jfh {P:Program}{f:FuncId}{fn:Func}{s:ChangeSpec}{c:OpenClaim}(k0:c.wf (OpenSpec.ofChange s)=true) (k1:laidOutB P=true) (k2:mapsRowed P=true) (k3:fn.params.all (P.readableRec ·)=true) (k4:namedTie P c.named s.vars=true) (k5:(c.stops==[])=true) (k6:(P.stops==[])=true) (k7:(c.knobs==[])=true) (k8:(P.stopKnobs==[])=true) (k9:(c.inPlace==P.inPlace f)=true) (k10:(c.unfollowed==P.unfollowed f)=true) (k11:(c.recurses==P.recurses f)=true) (k12:(c.named==P.varsNamed f)=true) (k13:(c.maps==(fn.params.toList++s.plain.varTypes P).any (P.mapsRec ·))=true) (k14:(c.ifaces==(fn.params.toList++s.plain.varTypes P).any (P.ifacesRec ·))=true) (k15:(c.mapsOut==P.mapsAmong fn.resultTypes.toList)=true) (k16:(c.loops==(fn.params.toList++s.plain.varTypes P).any (P.loopsFrom ·))=true) (k17:(c.wideKeys==(fn.params.toList++s.plain.varTypes P++fn.resultTypes.toList).any (P.wideKeysFrom ·))=true) (k18:s.vars.all (P.varReadable ·)=true) (k19:fn.resultTypes.all (fun t=>P.readableRec t&&decide (t<P.types.size))=true) (k20:(c.ifacesOut==fn.resultTypes.toList.any (P.ifacesRec ·))=true) (k21:(c.loopsOut==fn.resultTypes.toList.any (P.loopsFrom ·))=true) (k22:(c.plainKeys==P.plainKeys)=true) (k23:c.shortTexts.isNone=true) (k24:P.stopsHeard=true) (k25:P.mayEnter=true) (k26:(c.lifted==P.liftsFinal)=true) (k27:(P.make==some c.make)=true) (k28:(c.kinds==(if c.domain.isEmpty then [] else fn.params.toList.map fun t=>match P.underlying t with|some (.int k)=>some k|_=>none))=true) (k29:(c.pinned==c.pinnedBy)=true) (k30:(c.veiled==(fn.params.toList++s.plain.varTypes P++fn.resultTypes.toList).any (P.veiledRec ·))=true) (k31:c.veiledFits P fn.params.toList (fn.params.toList++s.plain.varTypes P++fn.resultTypes.toList)=true):joinedFacts P f fn s c=true:=by
 simp only [joinedFacts,Bool.and_eq_true]
 and_intros <;> assumption
set_option maxRecDepth 100000
theorem K1h:laidOutB Tryz.pinned.checked.prog=true:=Tryz.laidOut
theorem Jzy:mapsRowed Tryz.pinned.checked.prog=true:=by kernel_rfl
theorem Jvw:Tryz.pinned.checked.prog.stopsHeard=true:=by kernel_rfl
theorem Jx7:Tryz.pinned.checked.prog.mayEnter=true:=by kernel_rfl
end Go.Proofs.YtoclolkigjbcgaaGreat

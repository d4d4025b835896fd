/- The body of FnExactPreHolds. -/
import Derived.Test.YtoclolkigjbcgaaGreatWHE2
import Derived.Test.YtoclolkigjbcgaaGreatWT1
import Derived.Test.YtoclolkigjbcgaaGreatProg
import Derived.Test.YtoclolkigjbcgaaGreatRows
namespace Go.Proofs.YtoclolkigjbcgaaGreat
set_option maxRecDepth 40000
set_option maxHeartbeats 4000000
set_option linter.all false
open Go Go.RowKit Go.Proofs
def a5:AFn:= ⟨27,[.t 2],(.seq (.reg [Zo 1 (.boxv (.t 0)),Zo 2 (.mv (.k (.bool false)))]) (.seq (.reg [Zo 3 (.mv (.k (.int .i64 1048576)))]) (.seq (.reg [Zl 7 true 2 1,Zv 8 3,Zc 9 12 [.t 7,.t 8],Zv 3 9]) (.seq (.seq (.reg [Zv 10 3,Zo 11 (.bin .lss (.t 10) (.k (.int .i64 0)))]) (.cond (.t 11) (.seq (.reg [Zo 2 (.mv (.k (.bool true)))]) .ret) .skip)) (.seq (.reg [Zl 12 true 2 1,Zc 13 14 [.t 12],Zc 14 28 [.t 13],Zv 4 14]) (.seq (.reg [Zl 15 true 2 1,Zc 16 14 [.t 15],Zo 5 (.box [(.nil 4),(.nil 7)]),⟨no,.st 2 (.t 5) (.t 16),no⟩]) (.seq (.reg [Zl 17 true 2 5,Zc 18 29 [.t 17],Zv 6 18]) (.seq (.seq (.reg [Zv 19 6,Zv 20 4,Zo 21 (.beq true (.t 19) (.t 20))]) (.cond (.t 21) (.seq (.reg [Zo 2 (.mv (.k (.bool false)))]) .ret) .skip)) (.seq (.seq (.draw (.op (Zl 22 true 2 5) (.op (Zl 23 true 2 1) (.op (Zc 24 14 [.t 23]) (.op (Zc 25 17 [.t 22,.t 24]) (.op (Zo 26 (.un .not (.t 25))) .fin)))))) (.cond (.t 26) (.seq (.reg [Zo 2 (.mv (.k (.bool false)))]) .ret) .skip)) (.seq (.reg [Zo 2 (.mv (.k (.bool true)))]) .ret))))))))))⟩
theorem a5_ok:J0a Tryz.prog Tryz.f5=some a5:=by kernel_rfl
theorem Ji4 (p:DProgram):Holds Tryz.prog 5 [.agg (J03 p)] (fun x=>x = .bool true):=by
 refine J02 Tryz.func5 a5_ok rfl (by simp [a5]) ?_
 simp [a5,J03]
 first|refine J00 (Jdv p 1048576 (by omega)) (by first|simp [J03];done|rfl) ?_|refine J01 (Jdv p 1048576 (by omega)) (by first|simp [J03];done|rfl) ?_
 rintro r rfl
 by_cases h1:1048576 - (J0r p:Int)<0
 ·simp [J3a,h1]
 simp [J3a,h1]
 have hw1:J0r p≤1048576:=by omega
 first|refine J00 (J5k p hw1) (by first|simp [J03,J1o];done|rfl) ?_|refine J01 (J5k p hw1) (by first|simp [J03,J1o];done|rfl) ?_
 rintro r rfl
 simp [J03,J1o]
 first|refine J00 (Jeh p hw1) (by first|simp [J03,J1o];done|rfl) ?_|refine J01 (Jeh p hw1) (by first|simp [J03,J1o];done|rfl) ?_
 rintro r rfl
 simp [J03,J1o]
 first|refine J00 (J5k p hw1) (by first|simp [J03,J1o];done|rfl) ?_|refine J01 (J5k p hw1) (by first|simp [J03,J1o];done|rfl) ?_
 rintro r rfl
 simp [J03,J1o]
 first|refine J00 (Jfk p hw1) (by first|simp [J03,J1o];done|rfl) ?_|refine J01 (Jfk p hw1) (by first|simp [J03,J1o];done|rfl) ?_
 rintro r rfl
 simp [J03,J1o]
 first|refine J00 (J5k p hw1) (by first|simp [J03,J1o];done|rfl) ?_|refine J01 (J5k p hw1) (by first|simp [J03,J1o];done|rfl) ?_
 rintro r rfl
 simp [J03,J1o]
 first|refine J00 (Jdk p p) (by first|simp [J03,J1o];done|rfl) ?_|refine J01 (Jdk p p) (by first|simp [J03,J1o];done|rfl) ?_
 rintro r rfl
 simp [J03,J1o]
end Go.Proofs.YtoclolkigjbcgaaGreat
namespace Go.Proofs.YtoclolkigjbcgaaGreat
set_option linter.all false
open Go Go.RowKit Go.Proofs Go.ChangeShapes Go.WideShapes
theorem Tryz.own:ownKnob Tryz.prog.godebug=none:=by kernel_rfl
theorem Tryz.laidOut:laidOutB Tryz.prog=true:=by kernel_rfl
theorem J2s {α:Type}{P:List AV→Prop}{f:α→List AV}(hP:∀ r,P r→∃ x,r=f x):∀ {rows:List (List AV)},(∀ r∈rows,P r)→∃ l:List α,rows=l.map f
 | [],_=>⟨[],rfl⟩
 | r::rows,h=>by
  obtain ⟨x,rfl⟩:=hP r (h _ List.mem_cons_self)
  obtain ⟨l,rfl⟩:=J2s hP fun r hr=>h r (List.mem_cons_of_mem _ hr)
  exact ⟨x::l,rfl⟩
set_option maxRecDepth 100000
theorem Jw9 {f:Nat}{r:List AV}(h:Row Tryz.prog (f+2) 39 r):∃ x:List Int,r=[.sl 1 (J0e x)]:=by
 obtain ⟨l,rfl⟩:=Ju8 Tryz.underlying39 Tryz.underlying3 (by kernel_rfl) h
 exact ⟨l,rfl⟩
theorem K18 {f:Nat}{r:List AV}(h:Row Tryz.prog (f+3) 41 r):∃ x:DLin,r=J06 x:=by
 obtain ⟨parts,rfl,g0⟩:=J4h Tryz.underlying41 h
 obtain ⟨x0,m1,rfl,h0,g1⟩:=J1n g0
 obtain ⟨x1,m2,rfl,h1,g2⟩:=J1n g1
 cases J5s g2
 obtain ⟨v0,rfl,_⟩:=Jgw Tryz.underlying3 h0
 obtain ⟨v1,rfl⟩:=Jw9 h1
 exact ⟨⟨v0,v1⟩,rfl⟩
theorem Ju6 {f:Nat}{r:List AV}(h:Row Tryz.prog (f+4) 51 r):∃ x:List DLin,r=[.sl 2 (x.map J06)]:=by
 obtain ⟨rows,rfl,_,hr⟩:=J4p Tryz.underlying51 h
 obtain ⟨l,rfl⟩:=J2s (f:=J06) (fun r h=>K18 h) hr
 exact ⟨l,by rw [show Tryz.prog.cellsOf 41=2 by kernel_rfl]⟩
theorem Jw1 {f:Nat}{r:List AV}(h:Row Tryz.prog (f+2) 339 r):∃ x:DTerm,r=J10 x:=by
 obtain ⟨parts,rfl,g0⟩:=J4h Tryz.underlying339 h
 obtain ⟨x0,m1,rfl,h0,g1⟩:=J1n g0
 obtain ⟨x1,m2,rfl,h1,g2⟩:=J1n g1
 cases J5s g2
 obtain ⟨v0,rfl,_⟩:=Jgw Tryz.underlying3 h0
 obtain ⟨v1,rfl,_⟩:=J3w Tryz.underlying9 h1
 exact ⟨⟨v0,v1⟩,rfl⟩
theorem Jqj {f:Nat}{r:List AV}(h:Row Tryz.prog (f+3) 303 r):∃ x:List DTerm,r=[.sl 2 (x.map J10)]:=by
 obtain ⟨rows,rfl,_,hr⟩:=J4p Tryz.underlying303 h
 obtain ⟨l,rfl⟩:=J2s (f:=J10) (fun r h=>Jw1 h) hr
 exact ⟨l,by rw [show Tryz.prog.cellsOf 339=2 by kernel_rfl]⟩
theorem Jz3 {f:Nat}{r:List AV}(h:Row Tryz.prog (f+4) 305 r):∃ x:DSum,r=J1g x:=by
 obtain ⟨parts,rfl,g0⟩:=J4h Tryz.underlying305 h
 obtain ⟨x0,m1,rfl,h0,g1⟩:=J1n g0
 obtain ⟨x1,m2,rfl,h1,g2⟩:=J1n g1
 cases J5s g2
 obtain ⟨v0,rfl,_⟩:=Jgw Tryz.underlying3 h0
 obtain ⟨v1,rfl⟩:=Jqj h1
 exact ⟨⟨v0,v1⟩,rfl⟩
theorem Jon {f:Nat}{r:List AV}(h:Row Tryz.prog (f+5) 170 r):∃ x:List DSum,r=[.sl 2 (x.map J1g)]:=by
 obtain ⟨rows,rfl,_,hr⟩:=J4p Tryz.underlying170 h
 obtain ⟨l,rfl⟩:=J2s (f:=J1g) (fun r h=>Jz3 h) hr
 exact ⟨l,by rw [show Tryz.prog.cellsOf 305=2 by kernel_rfl]⟩
theorem Jsu {f:Nat}{r:List AV}(h:Row Tryz.prog (f+6) 173 r):∃ x:DArg,r=J0x x:=by
 obtain ⟨parts,rfl,g0⟩:=J4h Tryz.underlying173 h
 obtain ⟨x0,m1,rfl,h0,g1⟩:=J1n g0
 obtain ⟨x1,m2,rfl,h1,g2⟩:=J1n g1
 obtain ⟨x2,m3,rfl,h2,g3⟩:=J1n g2
 cases J5s g3
 obtain ⟨v0,rfl⟩:=Jh9 Tryz.underlying4 h0
 obtain ⟨v1,rfl⟩:=Jon h1
 obtain ⟨v2,rfl,_⟩:=J3w Tryz.underlying9 h2
 exact ⟨⟨v0,v1,v2⟩,rfl⟩
theorem Juy {f:Nat}{r:List AV}(h:Row Tryz.prog (f+7) 307 r):∃ x:List DArg,r=[.sl 3 (x.map J0x)]:=by
 obtain ⟨rows,rfl,_,hr⟩:=J4p Tryz.underlying307 h
 obtain ⟨l,rfl⟩:=J2s (f:=J0x) (fun r h=>Jsu h) hr
 exact ⟨l,by rw [show Tryz.prog.cellsOf 173=3 by kernel_rfl]⟩
theorem Jm2 {f:Nat}{r:List AV}(h:Row Tryz.prog (f+2) 94 r):∃ x:List Str,r=[.sl 1 (J0d x)]:=by
 obtain ⟨rows,rfl,_,hr⟩:=J4p Tryz.underlying94 h
 obtain ⟨l,rfl⟩:=J2s (f:=fun s:Str=>[.str s]) (fun r h=>(J3w Tryz.underlying9 h).elim fun l h=>⟨l,h.1⟩) hr
 exact ⟨l,by rw [show Tryz.prog.cellsOf 9=1 by kernel_rfl];rfl⟩
theorem Jje {f:Nat}{r:List AV}(h:Row Tryz.prog (f+5) 167 r):∃ x:DFunction,r=J05 x:=by
 obtain ⟨parts,rfl,g0⟩:=J4h Tryz.underlying167 h
 obtain ⟨x0,m1,rfl,h0,g1⟩:=J1n g0
 obtain ⟨x1,m2,rfl,h1,g2⟩:=J1n g1
 obtain ⟨x2,m3,rfl,h2,g3⟩:=J1n g2
 obtain ⟨x3,m4,rfl,h3,g4⟩:=J1n g3
 cases J5s g4
 obtain ⟨v0,rfl,_⟩:=J3w Tryz.underlying9 h0
 obtain ⟨v1,rfl⟩:=Jm2 h1
 obtain ⟨v2,rfl⟩:=Jh9 Tryz.underlying4 h2
 obtain ⟨v3,rfl⟩:=Ju6 h3
 exact ⟨⟨v0,v1,v2,v3⟩,rfl⟩
theorem Jil {f:Nat}{r:List AV}(h:Row Tryz.prog (f+6) 22 r):∃ x:List DFunction,r=[.sl 4 (x.map J05)]:=by
 obtain ⟨rows,rfl,_,hr⟩:=J4p Tryz.underlying22 h
 obtain ⟨l,rfl⟩:=J2s (f:=J05) (fun r h=>Jje h) hr
 exact ⟨l,by rw [show Tryz.prog.cellsOf 167=4 by kernel_rfl]⟩
theorem Jls {f:Nat}{r:List AV}(h:Row Tryz.prog (f+2) 301 r):∃ x:DPattern,r=J08 x:=by
 obtain ⟨parts,rfl,g0⟩:=J4h Tryz.underlying301 h
 obtain ⟨x0,m1,rfl,h0,g1⟩:=J1n g0
 obtain ⟨x1,m2,rfl,h1,g2⟩:=J1n g1
 obtain ⟨x2,m3,rfl,h2,g3⟩:=J1n g2
 obtain ⟨x3,m4,rfl,h3,g4⟩:=J1n g3
 cases J5s g4
 obtain ⟨v0,rfl,_⟩:=J3w Tryz.underlying9 h0
 obtain ⟨v1,rfl⟩:=Jh9 Tryz.underlying4 h1
 obtain ⟨v2,rfl,_⟩:=J3w Tryz.underlying9 h2
 obtain ⟨v3,rfl,_⟩:=J3w Tryz.underlying9 h3
 exact ⟨⟨v0,v1,v2,v3⟩,rfl⟩
theorem Jjo {f:Nat}{r:List AV}(h:Row Tryz.prog (f+3) 169 r):∃ x:List DPattern,r=[.sl 4 (x.map J08)]:=by
 obtain ⟨rows,rfl,_,hr⟩:=J4p Tryz.underlying169 h
 obtain ⟨l,rfl⟩:=J2s (f:=J08) (fun r h=>Jls h) hr
 exact ⟨l,by rw [show Tryz.prog.cellsOf 301=4 by kernel_rfl]⟩
theorem Jwq {f:Nat}{r:List AV}(h:Row Tryz.prog (f+8) 309 r):∃ x:DCall,r=J0y x:=by
 obtain ⟨parts,rfl,g0⟩:=J4h Tryz.underlying309 h
 obtain ⟨x0,m1,rfl,h0,g1⟩:=J1n g0
 obtain ⟨x1,m2,rfl,h1,g2⟩:=J1n g1
 obtain ⟨x2,m3,rfl,h2,g3⟩:=J1n g2
 cases J5s g3
 obtain ⟨v0,rfl,_⟩:=J3w Tryz.underlying9 h0
 obtain ⟨v1,rfl,_⟩:=J3w Tryz.underlying9 h1
 obtain ⟨v2,rfl⟩:=Juy h2
 exact ⟨⟨v0,v1,v2⟩,rfl⟩
theorem Jpy {f:Nat}{r:List AV}(h:Row Tryz.prog (f+9) 171 r):∃ x:List DCall,r=[.sl 3 (x.map J0y)]:=by
 obtain ⟨rows,rfl,_,hr⟩:=J4p Tryz.underlying171 h
 obtain ⟨l,rfl⟩:=J2s (f:=J0y) (fun r h=>Jwq h) hr
 exact ⟨l,by rw [show Tryz.prog.cellsOf 309=3 by kernel_rfl]⟩
theorem Jxc {f:Nat}{r:List AV}(h:Row Tryz.prog (f+10) 175 r):∃ x:DRule,r=J0c x:=by
 obtain ⟨parts,rfl,g0⟩:=J4h Tryz.underlying175 h
 obtain ⟨x0,m1,rfl,h0,g1⟩:=J1n g0
 obtain ⟨x1,m2,rfl,h1,g2⟩:=J1n g1
 obtain ⟨x2,m3,rfl,h2,g3⟩:=J1n g2
 obtain ⟨x3,m4,rfl,h3,g4⟩:=J1n g3
 obtain ⟨x4,m5,rfl,h4,g5⟩:=J1n g4
 cases J5s g5
 obtain ⟨v0,rfl,_⟩:=J3w Tryz.underlying9 h0
 obtain ⟨v1,rfl⟩:=Jjo h1
 obtain ⟨v2,rfl⟩:=Jon h2
 obtain ⟨v3,rfl⟩:=Jpy h3
 obtain ⟨v4,rfl⟩:=Jsu h4
 exact ⟨⟨v0,v1,v2,v3,v4⟩,rfl⟩
theorem Jq3 {f:Nat}{r:List AV}(h:Row Tryz.prog (f+11) 23 r):∃ x:List DRule,r=[.sl 7 (x.map J0c)]:=by
 obtain ⟨rows,rfl,_,hr⟩:=J4p Tryz.underlying23 h
 obtain ⟨l,rfl⟩:=J2s (f:=J0c) (fun r h=>Jxc h) hr
 exact ⟨l,by rw [show Tryz.prog.cellsOf 175=7 by kernel_rfl]⟩
theorem Jln {f:Nat}{r:List AV}(h:Row Tryz.prog (f+12) 25 r):∃ x:DProgram,r=J03 x:=by
 obtain ⟨parts,rfl,g0⟩:=J4h Tryz.underlying25 h
 obtain ⟨x0,m1,rfl,h0,g1⟩:=J1n g0
 obtain ⟨x1,m2,rfl,h1,g2⟩:=J1n g1
 cases J5s g2
 obtain ⟨v0,rfl⟩:=Jil h0
 obtain ⟨v1,rfl⟩:=Jq3 h1
 exact ⟨⟨v0,v1⟩,rfl⟩
theorem Jix {f:Nat}{a:AV}(h:Jhf Tryz.prog (f+12) 25 a):∃ x:DProgram,a = .agg (J03 x):=by
 obtain ⟨row,rfl,h1⟩:=Jie Tryz.underlying25 h
 obtain ⟨x,rfl⟩:=Jln h1
 exact ⟨x,rfl⟩
end Go.Proofs.YtoclolkigjbcgaaGreat
namespace Go.Proofs.YtoclolkigjbcgaaGreat
set_option linter.all false
open Go Go.RowKit Go.Proofs Go.ChangeShapes Go.WideShapes
theorem Jev {P:Program}{f:FuncId}{fn:Func}{s:ChangeSpec}{c:OpenClaim}(k0:c.wf (OpenSpec.ofChange s)=true) (k1:laidOutB P=true) (k2:mapsRowed P=true) (k3:fn.params.all (P.readableRec ·)=true) (k4:namedTie P c.named s.vars=true) (k5:(c.stops==[])=true) (k6:(P.stops==[])=true) (k7:(c.knobs==[])=true) (k8:(P.stopKnobs==[])=true) (k9:(c.inPlace==P.inPlace f)=true) (k10:(c.unfollowed==P.unfollowed f)=true) (k11:(c.recurses==P.recurses f)=true) (k12:(c.named==P.varsNamed f)=true) (k13:(c.maps==(fn.params.toList++s.plain.varTypes P).any (P.mapsRec ·))=true) (k14:(c.ifaces==(fn.params.toList++s.plain.varTypes P).any (P.ifacesRec ·))=true) (k15:(c.mapsOut==P.mapsAmong fn.resultTypes.toList)=true) (k16:(c.loops==(fn.params.toList++s.plain.varTypes P).any (P.loopsFrom ·))=true) (k17:(c.wideKeys==(fn.params.toList++s.plain.varTypes P++fn.resultTypes.toList).any (P.wideKeysFrom ·))=true) (k18:s.vars.all (P.varReadable ·)=true) (k19:fn.resultTypes.all (fun t=>P.readableRec t&&decide (t<P.types.size))=true) (k20:(c.ifacesOut==fn.resultTypes.toList.any (P.ifacesRec ·))=true) (k21:(c.loopsOut==fn.resultTypes.toList.any (P.loopsFrom ·))=true) (k22:(c.plainKeys==P.plainKeys)=true) (k23:c.shortTexts.isNone=true) (k24:P.stopsHeard=true) (k25:P.mayEnter=true) (k26:(c.lifted==P.liftsFinal)=true) (k27:(P.make==some c.make)=true) (k28:(c.kinds==(if c.domain.isEmpty then [] else fn.params.toList.map fun t=>match P.underlying t with|some (.int k)=>some k|_=>none))=true) (k29:(c.pinned==c.pinnedBy)=true) (k30:(c.veiled==(fn.params.toList++s.plain.varTypes P++fn.resultTypes.toList).any (P.veiledRec ·))=true) (k31:c.veiledFits P fn.params.toList (fn.params.toList++s.plain.varTypes P++fn.resultTypes.toList)=true):joinedFacts P f fn s c=true:=by
 simp only [joinedFacts,Bool.and_eq_true]
 and_intros <;> assumption
set_option maxRecDepth 100000
theorem Jzi:laidOutB Tryz.pinned.checked.prog=true:=Tryz.laidOut
theorem K0u:mapsRowed Tryz.pinned.checked.prog=true:=by kernel_rfl
theorem Jwv:Tryz.pinned.checked.prog.stopsHeard=true:=by kernel_rfl
theorem Jvk:Tryz.pinned.checked.prog.mayEnter=true:=by kernel_rfl
end Go.Proofs.YtoclolkigjbcgaaGreat

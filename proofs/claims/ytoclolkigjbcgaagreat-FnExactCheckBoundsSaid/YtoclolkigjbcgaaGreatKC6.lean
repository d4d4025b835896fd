/- Contracts: certificates, checked one by one and all. -/
import Derived.Test.YtoclolkigjbcgaaGreatKHB5
import Derived.Test.YtoclolkigjbcgaaGreatKT1
import Derived.Test.YtoclolkigjbcgaaGreatProg
namespace Go.Proofs.YtoclolkigjbcgaaGreat
set_option maxRecDepth 40000
set_option maxHeartbeats 4000000
open Go Go.RowKit Go.Proofs
set_option linter.all false
def a196:AFn:= ⟨66,[.t 6],(.seq (.reg [⟨some 3,.boxv (.t 0),no⟩,⟨some 4,.boxv (.t 1),no⟩,⟨some 5,.boxv (.t 2),no⟩,⟨some 6,.mv (.k (.bool false)),no⟩]) (.seq (.seq (.reg [⟨some 13,.ld true 2 (.t 3),no⟩,⟨some 14,.call (.k (.fn (.func 277) [] [])) [.t 13],no⟩,⟨some 15,.un .not (.t 14),no⟩,⟨some 16,.mv (.t 15),no⟩,⟨some 17,.ld true 2 (.t 4),(some (16,false))⟩,⟨some 18,.fld 0 (.t 3),(some (16,false))⟩,⟨some 19,.ld false 1 (.t 18),(some (16,false))⟩,⟨some 20,.call (.k (.fn (.func 146) [] [])) [.t 17,.t 19],(some (16,false))⟩,⟨some 21,.un .not (.t 20),(some (16,false))⟩,⟨some 22,.pick (.t 16) (.k (.bool true)) (.t 21),no⟩,⟨some 23,.mv (.t 22),no⟩,⟨some 24,.fld 0 (.t 5),(some (23,false))⟩,⟨some 25,.ld false 1 (.t 24),(some (23,false))⟩,⟨some 26,.call (.k (.fn (.func 102) [] [])) [.t 25,(.k (.int .i64 0)),(.k (.int .i64 1000000000))],(some (23,false))⟩,⟨some 27,.un .not (.t 26),(some (23,false))⟩,⟨some 28,.pick (.t 23) (.k (.bool true)) (.t 27),no⟩]) (.cond (.t 28) (.seq (.reg [⟨some 6,.mv (.k (.bool false)),no⟩]) .ret) .skip)) (.seq (.reg [⟨some 30,.ld true 2 (.t 3),no⟩,⟨some 31,.fld 1 (.t 5),no⟩,⟨some 32,.ld false 1 (.t 31),no⟩,⟨some 33,.call (.k (.fn (.func 278) [] [])) [.t 30,.t 32],no⟩,⟨some 29,.mv (.t 33),no⟩,⟨some 34,.ext (.t 29) 0,no⟩,⟨some 35,.ext (.t 29) 1,no⟩,⟨some 7,.box [(.int .i64 0),(.nil 1)],no⟩,⟨no,.st 2 (.t 7) (.t 34),no⟩,⟨some 8,.mv (.t 35),no⟩]) (.seq (.reg [⟨some 37,.ld true 2 (.t 4),no⟩,⟨some 38,.call (.k (.fn (.func 189) [] [])) [.t 37,(.k (.int .i64 1))],no⟩,⟨some 36,.mv (.t 38),no⟩,⟨some 39,.ext (.t 36) 0,no⟩,⟨some 40,.ext (.t 36) 1,no⟩,⟨some 9,.box [(.int .i64 0),(.nil 1)],no⟩,⟨no,.st 2 (.t 9) (.t 39),no⟩,⟨some 10,.mv (.t 40),no⟩]) (.seq (.seq (.reg [⟨some 41,.mv (.t 8),no⟩,⟨some 42,.un .not (.t 41),no⟩,⟨some 43,.mv (.t 42),no⟩,⟨some 44,.mv (.t 10),(some (43,false))⟩,⟨some 45,.un .not (.t 44),(some (43,false))⟩,⟨some 46,.pick (.t 43) (.k (.bool true)) (.t 45),no⟩]) (.cond (.t 46) (.seq (.reg [⟨some 6,.mv (.k (.bool false)),no⟩]) .ret) .skip)) (.seq (.reg [⟨some 48,.ld true 2 (.t 7),no⟩,⟨some 49,.fld 0 (.t 5),no⟩,⟨some 50,.ld false 1 (.t 49),no⟩,⟨some 51,.un .neg (.t 50),no⟩,⟨some 52,.ld true 2 (.t 9),no⟩,⟨some 53,.call (.k (.fn (.func 193) [] [])) [.t 48,.t 51,.t 52],no⟩,⟨some 47,.mv (.t 53),no⟩,⟨some 54,.ext (.t 47) 0,no⟩,⟨some 55,.ext (.t 47) 1,no⟩,⟨some 11,.box [(.int .i64 0),(.nil 1)],no⟩,⟨no,.st 2 (.t 11) (.t 54),no⟩,⟨some 12,.mv (.t 55),no⟩]) (.seq (.reg [⟨some 56,.mv (.t 12),no⟩,⟨some 57,.mv (.t 56),no⟩,⟨some 58,.ld true 2 (.t 11),(some (57,true))⟩,⟨some 59,.call (.k (.fn (.func 279) [] [])) [.t 58],(some (57,true))⟩,⟨some 60,.pick (.t 57) (.t 59) (.k (.bool false)),no⟩,⟨some 61,.mv (.t 60),no⟩,⟨some 62,.fld 0 (.t 11),(some (61,true))⟩,⟨some 63,.ld false 1 (.t 62),(some (61,true))⟩,⟨some 64,.bin .lss (.t 63) (.k (.int .i64 0)),(some (61,true))⟩,⟨some 65,.pick (.t 61) (.t 64) (.k (.bool false)),no⟩,⟨some 6,.mv (.t 65),no⟩]) .ret)))))))⟩
theorem a196_ok:J0a Tryz.prog Tryz.f196=some a196:=by kernel_rfl
def a195:AFn:= ⟨65,[.t 6],(.seq (.reg [⟨some 3,.boxv (.t 0),no⟩,⟨some 4,.boxv (.t 1),no⟩,⟨some 5,.boxv (.t 2),no⟩,⟨some 6,.mv (.k (.bool false)),no⟩]) (.seq (.reg [⟨some 14,.ld true 2 (.t 3),no⟩,⟨some 15,.fld 1 (.t 5),no⟩,⟨some 16,.ld false 1 (.t 15),no⟩,⟨some 17,.call (.k (.fn (.func 275) [] [])) [.t 14,.t 16],no⟩,⟨some 13,.mv (.t 17),no⟩,⟨some 18,.ext (.t 13) 0,no⟩,⟨some 19,.ext (.t 13) 1,no⟩,⟨some 7,.box [(.int .i64 0),(.nil 1)],no⟩,⟨no,.st 2 (.t 7) (.t 18),no⟩,⟨some 8,.mv (.t 19),no⟩]) (.seq (.seq (.reg [⟨some 20,.mv (.t 8),no⟩,⟨some 21,.un .not (.t 20),no⟩,⟨some 22,.mv (.t 21),no⟩,⟨some 23,.ld true 2 (.t 4),(some (22,false))⟩,⟨some 24,.fld 0 (.t 3),(some (22,false))⟩,⟨some 25,.ld false 1 (.t 24),(some (22,false))⟩,⟨some 26,.call (.k (.fn (.func 179) [] [])) [.t 23,.t 25],(some (22,false))⟩,⟨some 27,.un .not (.t 26),(some (22,false))⟩,⟨some 28,.pick (.t 22) (.k (.bool true)) (.t 27),no⟩,⟨some 29,.mv (.t 28),no⟩,⟨some 30,.fld 0 (.t 5),(some (29,false))⟩,⟨some 31,.ld false 1 (.t 30),(some (29,false))⟩,⟨some 32,.call (.k (.fn (.func 183) [] [])) [.t 31,(.k (.int .i64 0)),(.k (.int .i64 1000000000))],(some (29,false))⟩,⟨some 33,.un .not (.t 32),(some (29,false))⟩,⟨some 34,.pick (.t 29) (.k (.bool true)) (.t 33),no⟩]) (.cond (.t 34) (.seq (.reg [⟨some 6,.mv (.k (.bool false)),no⟩]) .ret) .skip)) (.seq (.draw (.op ⟨some 36,.ld true 2 (.t 4),no⟩ (.op ⟨some 37,.fld 0 (.t 3),no⟩ (.op ⟨some 38,.ld false 1 (.t 37),no⟩ (.both (.op ⟨some 39,.call (.k (.fn (.func 99) [] [])) [(.k (.int .i64 1)),.t 38],no⟩ (.both (.op ⟨some 40,.call (.k (.fn (.func 98) [] [])) [.t 36,(.k (.int .i64 1)),.t 39],no⟩ (.op ⟨some 35,.mv (.t 40),no⟩ (.op ⟨some 41,.ext (.t 35) 0,no⟩ (.op ⟨some 42,.ext (.t 35) 1,no⟩ (.op ⟨some 9,.box [(.int .i64 0),(.nil 1)],no⟩ (.hop ⟨no,.st 2 (.t 9) (.t 41),no⟩ [] (.op ⟨some 10,.mv (.t 42),no⟩ .fin))))))) (.op ⟨some 9,.box [(.int .i64 0),(.nil 1)],no⟩ (.op ⟨some 40,.call (.k (.fn (.func 98) [] [])) [.t 36,(.k (.int .i64 1)),.t 39],no⟩ (.op ⟨some 35,.mv (.t 40),no⟩ (.op ⟨some 41,.ext (.t 35) 0,no⟩ (.op ⟨some 42,.ext (.t 35) 1,no⟩ (.hop ⟨no,.st 2 (.t 9) (.t 41),no⟩ [] (.op ⟨some 10,.mv (.t 42),no⟩ .fin))))))))) (.op ⟨some 9,.box [(.int .i64 0),(.nil 1)],no⟩ (.op ⟨some 39,.call (.k (.fn (.func 99) [] [])) [(.k (.int .i64 1)),.t 38],no⟩ (.op ⟨some 40,.call (.k (.fn (.func 98) [] [])) [.t 36,(.k (.int .i64 1)),.t 39],no⟩ (.op ⟨some 35,.mv (.t 40),no⟩ (.op ⟨some 41,.ext (.t 35) 0,no⟩ (.op ⟨some 42,.ext (.t 35) 1,no⟩ (.hop ⟨no,.st 2 (.t 9) (.t 41),no⟩ [] (.op ⟨some 10,.mv (.t 42),no⟩ .fin))))))))))))) (.seq (.reg [⟨some 44,.ld true 2 (.t 7),no⟩,⟨some 45,.fld 0 (.t 5),no⟩,⟨some 46,.ld false 1 (.t 45),no⟩,⟨some 47,.bin .sub (.k (.int .i64 0)) (.t 46),no⟩,⟨some 48,.ld true 2 (.t 9),no⟩,⟨some 49,.call (.k (.fn (.func 98) [] [])) [.t 44,.t 47,.t 48],no⟩,⟨some 43,.mv (.t 49),no⟩,⟨some 50,.ext (.t 43) 0,no⟩,⟨some 51,.ext (.t 43) 1,no⟩,⟨some 11,.box [(.int .i64 0),(.nil 1)],no⟩,⟨no,.st 2 (.t 11) (.t 50),no⟩,⟨some 12,.mv (.t 51),no⟩]) (.seq (.reg [⟨some 52,.mv (.t 10),no⟩,⟨some 53,.mv (.t 52),no⟩,⟨some 54,.mv (.t 12),(some (53,true))⟩,⟨some 55,.pick (.t 53) (.t 54) (.k (.bool false)),no⟩,⟨some 56,.mv (.t 55),no⟩,⟨some 57,.ld true 2 (.t 11),(some (56,true))⟩,⟨some 58,.call (.k (.fn (.func 276) [] [])) [.t 57],(some (56,true))⟩,⟨some 59,.pick (.t 56) (.t 58) (.k (.bool false)),no⟩,⟨some 60,.mv (.t 59),no⟩,⟨some 61,.fld 0 (.t 11),(some (60,true))⟩,⟨some 62,.ld false 1 (.t 61),(some (60,true))⟩,⟨some 63,.bin .lss (.t 62) (.k (.int .i64 0)),(some (60,true))⟩,⟨some 64,.pick (.t 60) (.t 63) (.k (.bool false)),no⟩,⟨some 6,.mv (.t 64),no⟩]) .ret))))))⟩
theorem a195_ok:J0a Tryz.prog Tryz.f195=some a195:=by kernel_rfl
def Jcf (x:DSystem) (t:DLin) (f:DFarkas):Option DLin:=J0j ((J8x x f.Mult).getD J1b) (-f.Scale) ((J4b t 1).getD J1b)
def J9e (x:DSystem) (t:DLin) (f:DFarkas):Bool:=
 (J8x x f.Mult).isSome&&J14 t x.N&&inR f.Scale 0 1000000000&&(J4b t 1).isSome&&(Jcf x t f).isSome&&J93 ((Jcf x t f).getD J1b)&&decide (((Jcf x t f).getD J1b).Const<0)
theorem Jqj {x:DSystem}{m:List Int}(h:(J8x x m).isSome=true):Je6 x=true:=by
 unfold J8x at h
 cases hs:Je6 x
 ·rw [hs] at h;simp at h
 ·rfl
theorem Jsu {t:DLin}{n:Int}(h:J14 t n=true):J0j t 1 (J05 1 n)=J4b t 1:=by
 have hl:=J1u h
 have hc:J05 1 n=⟨1,List.replicate n.toNat 0⟩:=by
  unfold J05
  rw [if_pos (by simp [inR,okC];omega)]
 have hz:∀ c,okC c=true→J20 c 1 0=some c:=fun c hc=>by
  have h0:okC 0=true:=by decide
  have h1:okC 1=true:=by decide
  simp [J20,Jd7,Jdo,h0,h1,hc]
 have h1:J20 t.Const 1 1=if (Jdo t.Const 1).2 then some (Jdo t.Const 1).1 else Option.none:=by
  have h1:okC 1=true:=by decide
  simp [J20,Jd7,h1]
 have hok:J14 t t.Coeffs.length=true:=by rw [hl.1];exact h
 have hok2:J14 (J05 1 n) t.Coeffs.length=true:=by
  rw [hc];unfold J14
  simp [inR]
  exact ⟨⟨⟨by omega,by omega⟩,by decide⟩,.inr (by decide)⟩
 have hall:t.Coeffs.all okC=true:=by
  unfold J14 at h;simp at h;simpa using h.2
 have hZ:J4h t 1 (J05 1 n)=t.Coeffs.map some:=by
  rw [hc]
  unfold J4h
  refine List.ext_getElem (by simp;omega) fun i h1 h2 => ?_
  simp
  exact hz _ (List.all_eq_true.1 hall _ (List.getElem_mem _))
 have hO:Jag t 1 (J05 1 n)=true:=by unfold Jag;rw [hZ];simp
 unfold J0j J4b
 rw [hok,hok2,hO,hZ]
 have hc1:(J05 1 n).Const=1:=by rw [hc]
 rw [hc1,h1]
 have h11:okC 1=true:=by decide
 rw [h11]
 cases (Jdo t.Const 1).2 <;> simp [Function.comp_def]
theorem Jba (x:DSystem) (t:DLin) (f:DFarkas):Holds Tryz.prog 196 [.agg (J0x x),.agg (J07 t),.agg (J0r f)] (fun r=>r = .bool (J9e x t f)):=by
 refine J03 Tryz.func196 a196_ok rfl (by simp [a196]) ?_
 simp [a196,J0x,J07,J0r]
 first|refine J00 (J5d x) (by first|simp [J0x];done|rfl) ?_|refine J02 (J5d x) (by first|simp [J0x];done|rfl) ?_
 rintro r rfl
 unfold J9e
 cases h1:Je6 x
 ·have h1':(J8x x f.Mult).isSome=false:=by
   cases hc:(J8x x f.Mult).isSome
   ·rfl
   ·rw [Jqj hc] at h1;cases h1
  simp [h1']
 simp
 first|refine J00 (J0y t x.N) (by first|simp [J07];done|rfl) ?_|refine J02 (J0y t x.N) (by first|simp [J07];done|rfl) ?_
 rintro r rfl
 cases h2:J14 t x.N
 ·simp
 simp
 first|refine J00 (J1s f.Scale 0 1000000000) (by first|simp;done|rfl) ?_|refine J02 (J1s f.Scale 0 1000000000) (by first|simp;done|rfl) ?_
 rintro r rfl
 cases h3:inR f.Scale 0 1000000000
 ·simp
 have hs:0≤f.Scale∧f.Scale≤1000000000:=by simpa [inR] using h3
 simp
 first|refine J00 (Jbv x f.Mult) (by first|simp [J0x];done|rfl) ?_|refine J02 (Jbv x f.Mult) (by first|simp [J0x];done|rfl) ?_
 rintro r rfl
 rw [J0l]
 generalize hb1:(J8x x f.Mult).isSome=b1
 simp [J08]
 first|refine J00 (J8v t 1) (by first|simp [J07];done|rfl) ?_|refine J02 (J8v t 1) (by first|simp [J07];done|rfl) ?_
 rintro r rfl
 rw [J0l]
 generalize hb2:(J4b t 1).isSome=b2
 cases b1
 ·simp [J08]
 cases b2
 ·simp [J08]
 simp [J08]
 rw [J1e (by omega)]
 first|refine J00 (J1r ((J8x x f.Mult).getD J1b) (-f.Scale) ((J4b t 1).getD J1b)) (by first|simp [J07];done|rfl) ?_|refine J02 (J1r ((J8x x f.Mult).getD J1b) (-f.Scale) ((J4b t 1).getD J1b)) (by first|simp [J07];done|rfl) ?_
 rintro r rfl
 rw [show J0j ((J8x x f.Mult).getD J1b) (-f.Scale) ((J4b t 1).getD J1b)=Jcf x t f from rfl,J0l]
 generalize hb3:(Jcf x t f).isSome=b3
 cases b3
 ·simp [J08]
 simp [J08]
 first|refine J00 (Jcy ((Jcf x t f).getD J1b)) (by first|simp [J07];done|rfl) ?_|refine J02 (Jcy ((Jcf x t f).getD J1b)) (by first|simp [J07];done|rfl) ?_
 rintro r rfl
 cases h7:J93 ((Jcf x t f).getD J1b) <;> simp
theorem Jac (x:DSystem) (t:DLin) (f:DFarkas):Holds Tryz.prog 195 [.agg (J0x x),.agg (J07 t),.agg (J0r f)] (fun r=>r = .bool (J9e x t f)):=by
 refine J03 Tryz.func195 a195_ok rfl (by simp [a195]) ?_
 simp [a195,J0x,J07,J0r]
 first|refine J00 (Ja4 x f.Mult) (by first|simp [J0x];done|rfl) ?_|refine J02 (Ja4 x f.Mult) (by first|simp [J0x];done|rfl) ?_
 rintro r rfl
 rw [J0l]
 unfold J9e
 generalize hb1:(J8x x f.Mult).isSome=b1
 cases b1
 ·simp [J08]
 simp [J08]
 first|refine J00 (J0q t x.N) (by first|simp [J07];done|rfl) ?_|refine J02 (J0q t x.N) (by first|simp [J07];done|rfl) ?_
 rintro r rfl
 cases h2:J14 t x.N
 ·simp
 simp
 first|refine J00 (J4d f.Scale 0 1000000000) (by first|simp;done|rfl) ?_|refine J02 (J4d f.Scale 0 1000000000) (by first|simp;done|rfl) ?_
 rintro r rfl
 cases h3:inR f.Scale 0 1000000000
 ·simp
 have hs:0≤f.Scale∧f.Scale≤1000000000:=by simpa [inR] using h3
 simp
 refine ⟨?_,?_⟩
 all_goals
  first|refine J00 (J13 1 x.N) (by first|simp;done|rfl) ?_|refine J02 (J13 1 x.N) (by first|simp;done|rfl) ?_
  rintro r rfl
  simp [J08]
 refine And.intro ?_ ?_
 all_goals
  first|refine J00 (J0m t 1 (J05 1 x.N)) (by first|simp [J07];done|rfl) ?_|refine J02 (J0m t 1 (J05 1 x.N)) (by first|simp [J07];done|rfl) ?_
  rintro r rfl
  rw [Jsu h2,J0l]
  generalize hb2:(J4b t 1).isSome=b2
  simp [J08]
  rw [J1e (by omega)]
  first|refine J00 (J0m ((J8x x f.Mult).getD J1b) (-f.Scale) ((J4b t 1).getD J1b)) (by first|simp [J07];done|rfl) ?_|refine J02 (J0m ((J8x x f.Mult).getD J1b) (-f.Scale) ((J4b t 1).getD J1b)) (by first|simp [J07];done|rfl) ?_
  rintro r rfl
  rw [show J0j ((J8x x f.Mult).getD J1b) (-f.Scale) ((J4b t 1).getD J1b)=Jcf x t f from rfl,J0l]
  generalize hb3:(Jcf x t f).isSome=b3
  cases b2
  ·simp [J08]
  cases b3
  ·simp [J08]
  simp [J08]
  first|refine J00 (Jbp ((Jcf x t f).getD J1b)) (by first|simp [J07];done|rfl) ?_|refine J02 (Jbp ((Jcf x t f).getD J1b)) (by first|simp [J07];done|rfl) ?_
  rintro r rfl
  cases h7:J93 ((Jcf x t f).getD J1b) <;> simp
def a80:AFn:= ⟨12,[.t 4],(.seq (.reg [⟨some 4,.mv (.k (.int .i64 0)),no⟩]) (.seq (.reg [⟨some 5,.mv (.t 1),no⟩,⟨some 6,.mv (.t 0),no⟩,⟨some 7,.len false (.t 6),no⟩,⟨some 8,.bin .sub (.t 5) (.t 7),no⟩,⟨some 1,.mv (.t 8),no⟩]) (.seq (.seq (.reg [⟨some 9,.mv (.t 1),no⟩,⟨some 10,.bin .lss (.t 9) (.k (.int .i64 0)),no⟩]) (.cond (.t 10) (.seq (.reg [⟨some 4,.mv (.k (.int .i64 (-1))),no⟩]) .ret) .skip)) (.seq (.reg [⟨some 11,.mv (.t 1),no⟩,⟨some 4,.mv (.t 11),no⟩]) .ret))))⟩
theorem a80_ok:J0a Tryz.prog Tryz.f80=some a80:=by kernel_rfl
def a83:AFn:= ⟨22,[.t 2],(.seq (.reg [⟨some 2,.mv (.k (.nil 1)),no⟩]) (.seq (.reg [⟨some 5,.mv (.t 0),no⟩,⟨some 6,.len false (.t 5),no⟩,⟨some 7,.mks 8 [(.int .i64 0)] (.t 6) (.t 6),no⟩,⟨some 3,.mv (.t 7),no⟩]) (.seq (.seq (.reg [⟨some 4,.mv (.k (.int .i64 0)),no⟩]) (.blk 0 (.loop (.seq (.seq (.reg [⟨some 8,.mv (.t 4),no⟩,⟨some 9,.mv (.t 0),no⟩,⟨some 10,.len false (.t 9),no⟩,⟨some 11,.bin .lss (.t 8) (.t 10),no⟩]) (.cond (.t 11) .skip (.exit 0))) (.seq (.blk 1 (.reg [⟨some 14,.mv (.t 3),no⟩,⟨some 15,.mv (.t 4),no⟩,⟨some 16,.mv (.t 0),no⟩,⟨some 17,.mv (.t 4),no⟩,⟨some 18,.ixa 1 (.t 16) (.t 17),no⟩,⟨some 19,.ld false 1 (.t 18),no⟩,⟨some 20,.ixa 1 (.t 14) (.t 15),no⟩,⟨no,.st 1 (.t 20) (.t 19),no⟩])) (.reg [⟨some 12,.mv (.t 4),no⟩,⟨some 13,.bin .add (.t 12) (.k (.int .i64 1)),no⟩,⟨some 4,.mv (.t 13),no⟩])))))) (.seq (.reg [⟨some 21,.mv (.t 3),no⟩,⟨some 2,.mv (.t 21),no⟩]) .ret))))⟩
theorem a83_ok:J0a Tryz.prog Tryz.f83=some a83:=by kernel_rfl
def a87:AFn:= ⟨26,[.t 4],(.seq (.reg [⟨some 4,.mv (.k (.bool false)),no⟩]) (.seq (.seq (.reg [⟨some 6,.mv (.t 0),no⟩,⟨some 7,.len false (.t 6),no⟩,⟨some 8,.mv (.t 1),no⟩,⟨some 9,.len false (.t 8),no⟩,⟨some 10,.bin .neq (.t 7) (.t 9),no⟩]) (.cond (.t 10) (.seq (.reg [⟨some 4,.mv (.k (.bool false)),no⟩]) .ret) .skip)) (.seq (.seq (.reg [⟨some 5,.mv (.k (.int .i64 0)),no⟩]) (.blk 0 (.loop (.seq (.seq (.reg [⟨some 11,.mv (.t 5),no⟩,⟨some 12,.mv (.t 0),no⟩,⟨some 13,.len false (.t 12),no⟩,⟨some 14,.bin .lss (.t 11) (.t 13),no⟩]) (.cond (.t 14) .skip (.exit 0))) (.seq (.blk 1 (.seq (.draw (.op ⟨some 17,.mv (.t 0),no⟩ (.op ⟨some 18,.mv (.t 5),no⟩ (.op ⟨some 19,.ixa 1 (.t 17) (.t 18),no⟩ (.op ⟨some 20,.ld false 1 (.t 19),no⟩ (.op ⟨some 21,.mv (.t 1),no⟩ (.op ⟨some 22,.mv (.t 5),no⟩ (.op ⟨some 23,.ixa 1 (.t 21) (.t 22),no⟩ (.op ⟨some 24,.ld false 1 (.t 23),no⟩ (.op ⟨some 25,.bin .neq (.t 20) (.t 24),no⟩ .fin)))))))))) (.cond (.t 25) (.seq (.reg [⟨some 4,.mv (.k (.bool false)),no⟩]) .ret) .skip))) (.reg [⟨some 15,.mv (.t 5),no⟩,⟨some 16,.bin .add (.t 15) (.k (.int .i64 1)),no⟩,⟨some 5,.mv (.t 16),no⟩])))))) (.seq (.reg [⟨some 4,.mv (.k (.bool true)),no⟩]) .ret))))⟩
theorem a87_ok:J0a Tryz.prog Tryz.f87=some a87:=by kernel_rfl
def a211:AFn:= ⟨28,[.t 4],(.seq (.reg [⟨some 4,.mv (.k (.int .i64 0)),no⟩]) (.seq (.reg [⟨some 6,.mv (.t 1),no⟩,⟨some 7,.mv (.t 0),no⟩,⟨some 8,.len false (.t 7),no⟩,⟨some 9,.bin .sub (.t 6) (.t 8),no⟩,⟨some 1,.mv (.t 9),no⟩]) (.seq (.seq (.reg [⟨some 10,.mv (.t 1),no⟩,⟨some 11,.bin .lss (.t 10) (.k (.int .i64 0)),no⟩]) (.cond (.t 11) (.seq (.reg [⟨some 4,.mv (.k (.int .i64 (-1))),no⟩]) .ret) .skip)) (.seq (.seq (.reg [⟨some 5,.mv (.k (.int .i64 0)),no⟩]) (.blk 0 (.loop (.seq (.seq (.reg [⟨some 12,.mv (.t 5),no⟩,⟨some 13,.mv (.t 0),no⟩,⟨some 14,.len false (.t 13),no⟩,⟨some 15,.bin .lss (.t 12) (.t 14),no⟩]) (.cond (.t 15) .skip (.exit 0))) (.seq (.blk 1 (.seq (.reg [⟨some 18,.mv (.t 1),no⟩,⟨some 19,.mv (.t 0),no⟩,⟨some 20,.mv (.t 5),no⟩,⟨some 21,.ixa 1 (.t 19) (.t 20),no⟩,⟨some 22,.ld false 1 (.t 21),no⟩,⟨some 23,.len true (.t 22),no⟩,⟨some 24,.bin .sub (.t 18) (.t 23),no⟩,⟨some 1,.mv (.t 24),no⟩]) (.seq (.reg [⟨some 25,.mv (.t 1),no⟩,⟨some 26,.bin .lss (.t 25) (.k (.int .i64 0)),no⟩]) (.cond (.t 26) (.seq (.reg [⟨some 4,.mv (.k (.int .i64 (-1))),no⟩]) .ret) .skip)))) (.reg [⟨some 16,.mv (.t 5),no⟩,⟨some 17,.bin .add (.t 16) (.k (.int .i64 1)),no⟩,⟨some 5,.mv (.t 17),no⟩])))))) (.seq (.reg [⟨some 27,.mv (.t 1),no⟩,⟨some 4,.mv (.t 27),no⟩]) .ret)))))⟩
theorem a211_ok:J0a Tryz.prog Tryz.f211=some a211:=by kernel_rfl
def a225:AFn:= ⟨22,[.t 2],(.seq (.reg [⟨some 2,.mv (.k (.nil 1)),no⟩]) (.seq (.reg [⟨some 5,.mv (.t 0),no⟩,⟨some 6,.len false (.t 5),no⟩,⟨some 7,.mks 16 [(.str [])] (.t 6) (.t 6),no⟩,⟨some 3,.mv (.t 7),no⟩]) (.seq (.seq (.reg [⟨some 4,.mv (.k (.int .i64 0)),no⟩]) (.blk 0 (.loop (.seq (.seq (.reg [⟨some 8,.mv (.t 4),no⟩,⟨some 9,.mv (.t 0),no⟩,⟨some 10,.len false (.t 9),no⟩,⟨some 11,.bin .lss (.t 8) (.t 10),no⟩]) (.cond (.t 11) .skip (.exit 0))) (.seq (.blk 1 (.reg [⟨some 14,.mv (.t 3),no⟩,⟨some 15,.mv (.t 4),no⟩,⟨some 16,.mv (.t 0),no⟩,⟨some 17,.mv (.t 4),no⟩,⟨some 18,.ixa 1 (.t 16) (.t 17),no⟩,⟨some 19,.ld false 1 (.t 18),no⟩,⟨some 20,.ixa 1 (.t 14) (.t 15),no⟩,⟨no,.st 1 (.t 20) (.t 19),no⟩])) (.reg [⟨some 12,.mv (.t 4),no⟩,⟨some 13,.bin .add (.t 12) (.k (.int .i64 1)),no⟩,⟨some 4,.mv (.t 13),no⟩])))))) (.seq (.reg [⟨some 21,.mv (.t 3),no⟩,⟨some 2,.mv (.t 21),no⟩]) .ret))))⟩
theorem a225_ok:J0a Tryz.prog Tryz.f225=some a225:=by kernel_rfl
def a73:AFn:= ⟨26,[.t 4],(.seq (.reg [⟨some 4,.mv (.k (.bool false)),no⟩]) (.seq (.seq (.reg [⟨some 6,.mv (.t 0),no⟩,⟨some 7,.len false (.t 6),no⟩,⟨some 8,.mv (.t 1),no⟩,⟨some 9,.len false (.t 8),no⟩,⟨some 10,.bin .neq (.t 7) (.t 9),no⟩]) (.cond (.t 10) (.seq (.reg [⟨some 4,.mv (.k (.bool false)),no⟩]) .ret) .skip)) (.seq (.seq (.reg [⟨some 5,.mv (.k (.int .i64 0)),no⟩]) (.blk 0 (.loop (.seq (.seq (.reg [⟨some 11,.mv (.t 5),no⟩,⟨some 12,.mv (.t 0),no⟩,⟨some 13,.len false (.t 12),no⟩,⟨some 14,.bin .lss (.t 11) (.t 13),no⟩]) (.cond (.t 14) .skip (.exit 0))) (.seq (.blk 1 (.seq (.draw (.op ⟨some 17,.mv (.t 0),no⟩ (.op ⟨some 18,.mv (.t 5),no⟩ (.op ⟨some 19,.ixa 1 (.t 17) (.t 18),no⟩ (.op ⟨some 20,.ld false 1 (.t 19),no⟩ (.op ⟨some 21,.mv (.t 1),no⟩ (.op ⟨some 22,.mv (.t 5),no⟩ (.op ⟨some 23,.ixa 1 (.t 21) (.t 22),no⟩ (.op ⟨some 24,.ld false 1 (.t 23),no⟩ (.op ⟨some 25,.bin .neq (.t 20) (.t 24),no⟩ .fin)))))))))) (.cond (.t 25) (.seq (.reg [⟨some 4,.mv (.k (.bool false)),no⟩]) .ret) .skip))) (.reg [⟨some 15,.mv (.t 5),no⟩,⟨some 16,.bin .add (.t 15) (.k (.int .i64 1)),no⟩,⟨some 5,.mv (.t 16),no⟩])))))) (.seq (.reg [⟨some 4,.mv (.k (.bool true)),no⟩]) .ret))))⟩
theorem a73_ok:J0a Tryz.prog Tryz.f73=some a73:=by kernel_rfl
def a21:AFn:= ⟨12,[.t 4],(.seq (.reg [⟨some 2,.boxv (.t 0),no⟩,⟨some 4,.mv (.k (.int .i64 0)),no⟩]) (.seq (.reg [⟨some 5,.fld 1 (.t 2),no⟩,⟨some 6,.ld false 1 (.t 5),no⟩,⟨some 7,.mv (.t 1),no⟩,⟨some 8,.call (.k (.fn (.func 80) [] [])) [.t 6,.t 7],no⟩,⟨some 1,.mv (.t 8),no⟩]) (.seq (.seq (.reg [⟨some 9,.mv (.t 1),no⟩,⟨some 10,.bin .lss (.t 9) (.k (.int .i64 0)),no⟩]) (.cond (.t 10) (.seq (.reg [⟨some 4,.mv (.k (.int .i64 (-1))),no⟩]) .ret) .skip)) (.seq (.reg [⟨some 11,.mv (.t 1),no⟩,⟨some 4,.mv (.t 11),no⟩]) .ret))))⟩
theorem a21_ok:J0a Tryz.prog Tryz.f21=some a21:=by kernel_rfl
def a23:AFn:= ⟨12,[(.c 2 true 2)],(.seq (.reg [⟨some 1,.boxv (.t 0),no⟩,⟨some 2,.box [(.int .i64 0),(.nil 1)],no⟩]) (.seq (.reg [⟨some 3,.box [(.int .i64 0),(.nil 1)],no⟩]) (.seq (.reg [⟨some 4,.fld 0 (.t 1),no⟩,⟨some 5,.ld false 1 (.t 4),no⟩,⟨some 6,.fld 0 (.t 3),no⟩,⟨no,.st 1 (.t 6) (.t 5),no⟩]) (.seq (.reg [⟨some 7,.fld 1 (.t 1),no⟩,⟨some 8,.ld false 1 (.t 7),no⟩,⟨some 9,.call (.k (.fn (.func 83) [] [])) [.t 8],no⟩,⟨some 10,.fld 1 (.t 3),no⟩,⟨no,.st 1 (.t 10) (.t 9),no⟩]) (.seq (.reg [⟨some 11,.ld true 2 (.t 3),no⟩,⟨no,.st 2 (.t 2) (.t 11),no⟩]) .ret)))))⟩
theorem a23_ok:J0a Tryz.prog Tryz.f23=some a23:=by kernel_rfl
def a25:AFn:= ⟨16,[.t 4],(.seq (.reg [⟨some 2,.boxv (.t 0),no⟩,⟨some 3,.boxv (.t 1),no⟩,⟨some 4,.mv (.k (.bool false)),no⟩]) (.seq (.seq (.reg [⟨some 5,.fld 0 (.t 2),no⟩,⟨some 6,.ld false 1 (.t 5),no⟩,⟨some 7,.fld 0 (.t 3),no⟩,⟨some 8,.ld false 1 (.t 7),no⟩,⟨some 9,.bin .neq (.t 6) (.t 8),no⟩]) (.cond (.t 9) (.seq (.reg [⟨some 4,.mv (.k (.bool false)),no⟩]) .ret) .skip)) (.seq (.seq (.reg [⟨some 10,.fld 1 (.t 2),no⟩,⟨some 11,.ld false 1 (.t 10),no⟩,⟨some 12,.fld 1 (.t 3),no⟩,⟨some 13,.ld false 1 (.t 12),no⟩,⟨some 14,.call (.k (.fn (.func 87) [] [])) [.t 11,.t 13],no⟩,⟨some 15,.un .not (.t 14),no⟩]) (.cond (.t 15) (.seq (.reg [⟨some 4,.mv (.k (.bool false)),no⟩]) .ret) .skip)) (.seq (.reg [⟨some 4,.mv (.k (.bool true)),no⟩]) .ret))))⟩
theorem a25_ok:J0a Tryz.prog Tryz.f25=some a25:=by kernel_rfl
def a111:AFn:= ⟨12,[.t 4],(.seq (.reg [⟨some 2,.boxv (.t 0),no⟩,⟨some 4,.mv (.k (.int .i64 0)),no⟩]) (.seq (.reg [⟨some 5,.fld 1 (.t 2),no⟩,⟨some 6,.ld false 1 (.t 5),no⟩,⟨some 7,.mv (.t 1),no⟩,⟨some 8,.call (.k (.fn (.func 80) [] [])) [.t 6,.t 7],no⟩,⟨some 1,.mv (.t 8),no⟩]) (.seq (.seq (.reg [⟨some 9,.mv (.t 1),no⟩,⟨some 10,.bin .lss (.t 9) (.k (.int .i64 0)),no⟩]) (.cond (.t 10) (.seq (.reg [⟨some 4,.mv (.k (.int .i64 (-1))),no⟩]) .ret) .skip)) (.seq (.reg [⟨some 11,.mv (.t 1),no⟩,⟨some 4,.mv (.t 11),no⟩]) .ret))))⟩
theorem a111_ok:J0a Tryz.prog Tryz.f111=some a111:=by kernel_rfl
def a114:AFn:= ⟨12,[(.c 2 true 2)],(.seq (.reg [⟨some 1,.boxv (.t 0),no⟩,⟨some 2,.box [(.int .i64 0),(.nil 1)],no⟩]) (.seq (.reg [⟨some 3,.box [(.int .i64 0),(.nil 1)],no⟩]) (.seq (.reg [⟨some 4,.fld 0 (.t 1),no⟩,⟨some 5,.ld false 1 (.t 4),no⟩,⟨some 6,.fld 0 (.t 3),no⟩,⟨no,.st 1 (.t 6) (.t 5),no⟩]) (.seq (.reg [⟨some 7,.fld 1 (.t 1),no⟩,⟨some 8,.ld false 1 (.t 7),no⟩,⟨some 9,.call (.k (.fn (.func 83) [] [])) [.t 8],no⟩,⟨some 10,.fld 1 (.t 3),no⟩,⟨no,.st 1 (.t 10) (.t 9),no⟩]) (.seq (.reg [⟨some 11,.ld true 2 (.t 3),no⟩,⟨no,.st 2 (.t 2) (.t 11),no⟩]) .ret)))))⟩
theorem a114_ok:J0a Tryz.prog Tryz.f114=some a114:=by kernel_rfl
def a116:AFn:= ⟨16,[.t 4],(.seq (.reg [⟨some 2,.boxv (.t 0),no⟩,⟨some 3,.boxv (.t 1),no⟩,⟨some 4,.mv (.k (.bool false)),no⟩]) (.seq (.seq (.reg [⟨some 5,.fld 0 (.t 2),no⟩,⟨some 6,.ld false 1 (.t 5),no⟩,⟨some 7,.fld 0 (.t 3),no⟩,⟨some 8,.ld false 1 (.t 7),no⟩,⟨some 9,.bin .neq (.t 6) (.t 8),no⟩]) (.cond (.t 9) (.seq (.reg [⟨some 4,.mv (.k (.bool false)),no⟩]) .ret) .skip)) (.seq (.seq (.reg [⟨some 10,.fld 1 (.t 2),no⟩,⟨some 11,.ld false 1 (.t 10),no⟩,⟨some 12,.fld 1 (.t 3),no⟩,⟨some 13,.ld false 1 (.t 12),no⟩,⟨some 14,.call (.k (.fn (.func 87) [] [])) [.t 11,.t 13],no⟩,⟨some 15,.un .not (.t 14),no⟩]) (.cond (.t 15) (.seq (.reg [⟨some 4,.mv (.k (.bool false)),no⟩]) .ret) .skip)) (.seq (.reg [⟨some 4,.mv (.k (.bool true)),no⟩]) .ret))))⟩
theorem a116_ok:J0a Tryz.prog Tryz.f116=some a116:=by kernel_rfl
theorem Jlz (l:List Int) (left:Int) (h0:0≤left∧left≤4611686018427387904):Holds Tryz.prog 80 [.sl 1 (J0k l),i64 left] (fun r=>r=i64 (J2z left (Jim l))):=by
 refine J03 Tryz.func80 a80_ok rfl (by simp [a80]) ?_
 simp [a80]
 unfold LIM
 intro h1
 rw [J1e (by omega)]
 unfold J2z Jim
 exact ⟨fun h=>by rw [if_pos h],fun h=>by rw [if_neg (by omega)]⟩
theorem Jlr (a:List Int) (hw:Jim a≤1048576):Holds Tryz.prog 83 [.sl 1 (J0k a)] (fun r=>r = .us 1 (J0k a)):=by
 unfold Jim at hw
 refine J03 Tryz.func83 a83_ok rfl (by simp [a83]) ?_
 simp [a83]
 intro h1
 refine ⟨by unfold LIM;omega,Jdx (fun k s h n=>∃ (i:Nat) (rows:List (List AV)),k=a.length - i∧i≤a.length∧s 0=K10 a∧s 3 = .ref 0 0 a.length∧s 4=i64 i∧h=upd J7r 0 (some ⟨false,1,rows⟩)∧n=1 ∧
  rows.length=a.length∧(∀ j,j<i→rows[j]? = (J0k a)[j]?)∧(∀ j (hj:j<rows.length),rows[j].length=1)) a.length ⟨0,List.replicate a.length [i64 0],by simp⟩ ?_⟩
 rintro k s h n ⟨i,rows,rfl,hi,s0,s3,s4,rfl,rfl,hr,hj,hc⟩
 by_cases hlt:i<a.length
 ·have hm:=hc i (by omega)
  have htl:rows[i].tail=[]:=List.eq_nil_of_length_eq_zero (by simp [hm])
  simp [s0,s3,s4,hlt,hr,hm]
  intro _
  refine ⟨a.length - (i+1),by omega,i+1,rfl,by omega,by rw [J1e (by omega)];rfl,rows.set i [i64 a[i]],by simp [htl],by simp [hr],fun j hj' => ?_,fun j hj' => ?_⟩
  ·rw [List.getElem?_set]
   by_cases hji:i=j
   ·subst hji;simp [hr,hlt]
   ·rw [if_neg hji];simpa using hj j (by omega)
  ·rw [List.getElem_set]
   split
   ·rfl
   ·exact hc j (by simpa using hj')
 ·simp [s0,s3,s4,hlt,hr]
  intro _
  have:rows=J0k a:=List.ext_getElem? fun j=>by
   by_cases hji:j<i
   ·exact hj j hji
   ·rw [List.getElem?_eq_none (by omega),List.getElem?_eq_none (by simp;omega)]
  subst this
  simp [List.take_of_length_le]
theorem Jlo (a b:List Int):Holds Tryz.prog 87 [.sl 1 (J0k a),.sl 1 (J0k b)] (fun r=>r = .bool (decide (a=b))):=by
 refine J03 Tryz.func87 a87_ok rfl (by simp [a87]) ?_
 simp [a87]
 intro h1 h2
 refine ⟨fun h e=>h (by rw [e]),fun hl=>Jdx (fun k s h n=>∃ i:Nat,k=a.length - i∧i≤a.length∧s 0=K10 a∧s 1=K10 b∧s 5=i64 i∧(∀ j,j<i→a[j]? = b[j]?)∧h=J7r∧n=0) a.length ⟨0,by simp⟩ ?_⟩
 rintro k s h n ⟨i,rfl,hi,s0,s1,s5,hj,rfl,rfl⟩
 have hl:a.length=b.length:=by omega
 by_cases hlt:i<a.length
 ·have hlt':i<b.length:=by omega
  unfold LIM at h1
  simp [s0,s1,s5,hlt,hlt']
  intro _
  refine ⟨fun h e=>h (by subst e;rfl),fun e=>⟨a.length - (i+1),by omega,i+1,rfl,by omega,by rw [J1e (by omega)];rfl,fun j hj' => ?_⟩⟩
  by_cases hji:j=i
  ·subst hji;simp [hlt,hlt',e]
  ·exact hj j (by omega)
 ·simp [s0,s1,s5,hlt]
  intro _
  refine List.ext_getElem? fun j => ?_
  by_cases hji:j<i
  ·exact hj j hji
  ·rw [List.getElem?_eq_none (by omega),List.getElem?_eq_none (by omega)]
theorem Jjz (l:List Str) (left:Int) (h0:0≤left∧left≤4611686018427387904):Holds Tryz.prog 211 [.sl 1 (J0e l),i64 left] (fun r=>r=i64 (J2z left (J4e l))):=by
 rw [show J4e l=wL List.length l from rfl,←J61 (w:=List.length) (g:=fun x lf=>J2z lf x.length) (fun _ _ _=>rfl) l left h0.1]
 refine J03 Tryz.func211 a211_ok rfl (by simp [a211]) ?_
 simp [a211]
 intro h1
 unfold LIM at h1
 unfold szL
 rw [J1e (by omega)]
 refine ⟨fun h=>by rw [if_pos (by omega)],fun h=>Jdx (fun k s h n=>∃ (i:Nat) (lf:Int),k=l.length - i∧i≤l.length∧s 0=strs l∧s 1=i64 lf∧s 5=i64 i∧0≤lf∧lf≤left∧J7s (fun (x:Str) lf=>J2z lf x.length) (l.drop i) lf=J7s (fun (x:Str) lf=>J2z lf x.length) l (left - l.length)∧h=J7r∧n=0) l.length ⟨0,left - l.length,by simp;omega⟩ ?_⟩
 rintro k s h n ⟨i,lf,rfl,hi,s0,s1,s5,hf,hlf,hj,rfl,rfl⟩
 rw [if_neg (by omega),←hj]
 by_cases hlt:i<l.length
 ·rw [List.drop_eq_getElem_cons hlt] at hj ⊢
  simp only [J7s] at hj ⊢
  simp [s0,s1,s5,hlt]
  intro _ h2
  unfold LIM at h2
  rw [J1e (by omega)]
  by_cases hx:lf - (l[i].length:Int)<0
  ·rw [Jdk hx]
   simp;exact fun h=>by omega
  ·rw [Jm0 hx] at hj ⊢
   rw [if_neg hx] at hj ⊢
   refine ⟨fun h=>by omega,fun _=>⟨l.length - (i+1),by omega,i+1,rfl,by omega,by rw [J1e (by omega)];rfl,by omega,by omega,rfl⟩⟩
 ·rw [List.drop_eq_nil_of_le (by omega)] at hj ⊢
  simp [s0,s1,s5,hlt,J7s]
theorem Jk7 (a:List Str) (hw:J4e a≤1048576):Holds Tryz.prog 225 [.sl 1 (J0e a)] (fun r=>r = .us 1 (J0e a)):=by
 have hw:=Nat.le_trans (J27 _ _) hw
 refine J03 Tryz.func225 a225_ok rfl (by simp [a225]) ?_
 simp [a225]
 intro h1
 refine ⟨by unfold LIM;omega,Jdx (fun k s h n=>∃ (i:Nat) (rows:List (List AV)),k=a.length - i∧i≤a.length∧s 0=strs a∧s 3 = .ref 0 0 a.length∧s 4=i64 i∧h=upd J7r 0 (some ⟨false,1,rows⟩)∧n=1 ∧
  rows.length=a.length∧(∀ j,j<i→rows[j]? = (J0e a)[j]?)∧(∀ j (hj:j<rows.length),rows[j].length=1)) a.length ⟨0,List.replicate a.length [.str []],by simp⟩ ?_⟩
 rintro k s h n ⟨i,rows,rfl,hi,s0,s3,s4,rfl,rfl,hr,hj,hc⟩
 by_cases hlt:i<a.length
 ·have hm:=hc i (by omega)
  have htl:rows[i].tail=[]:=List.eq_nil_of_length_eq_zero (by simp [hm])
  simp [s0,s3,s4,hlt,hr,hm]
  intro _
  refine ⟨a.length - (i+1),by omega,i+1,rfl,by omega,by rw [J1e (by omega)];rfl,rows.set i [.str a[i]],by simp [htl],by simp [hr],fun j hj' => ?_,fun j hj' => ?_⟩
  ·rw [List.getElem?_set]
   by_cases hji:i=j
   ·subst hji;simp [hr,hlt]
   ·rw [if_neg hji];simpa using hj j (by omega)
  ·rw [List.getElem_set]
   split
   ·rfl
   ·exact hc j (by simpa using hj')
 ·simp [s0,s3,s4,hlt,hr]
  intro _
  have:rows=J0e a:=List.ext_getElem? fun j=>by
   by_cases hji:j<i
   ·exact hj j hji
   ·rw [List.getElem?_eq_none (by omega),List.getElem?_eq_none (by simp;omega)]
  subst this
  simp [List.take_of_length_le]
theorem Jjo (a b:List Str):Holds Tryz.prog 73 [.sl 1 (J0e a),.sl 1 (J0e b)] (fun r=>r = .bool (decide (a=b))):=by
 refine J03 Tryz.func73 a73_ok rfl (by simp [a73]) ?_
 simp [a73]
 intro h1 h2
 refine ⟨fun h e=>h (by rw [e]),fun hl=>Jdx (fun k s h n=>∃ i:Nat,k=a.length - i∧i≤a.length∧s 0=strs a∧s 1=strs b∧s 5=i64 i∧(∀ j,j<i→a[j]? = b[j]?)∧h=J7r∧n=0) a.length ⟨0,by simp⟩ ?_⟩
 rintro k s h n ⟨i,rfl,hi,s0,s1,s5,hj,rfl,rfl⟩
 have hl:a.length=b.length:=by omega
 by_cases hlt:i<a.length
 ·have hlt':i<b.length:=by omega
  unfold LIM at h1
  simp [s0,s1,s5,hlt,hlt']
  intro _
  refine ⟨fun h e=>h (by subst e;rfl),fun e=>⟨a.length - (i+1),by omega,i+1,rfl,by omega,by rw [J1e (by omega)];rfl,fun j hj' => ?_⟩⟩
  by_cases hji:j=i
  ·subst hji;simp [hlt,hlt',e]
  ·exact hj j (by omega)
 ·simp [s0,s1,s5,hlt]
  intro _
  refine List.ext_getElem? fun j => ?_
  by_cases hji:j<i
  ·exact hj j hji
  ·rw [List.getElem?_eq_none (by omega),List.getElem?_eq_none (by omega)]
theorem Jup (x:DLin) (left:Int) (h0:0≤left∧left≤4611686018427387904):Holds Tryz.prog 21 [.agg (J07 x),i64 left] (fun r=>r=i64 (J2z left (Jai x))):=by
 refine J03 Tryz.func21 a21_ok rfl (by simp [a21]) ?_
 simp [a21,J07]
 have e0:Jai x=Jai x:=rfl
 conv at e0=>rhs;unfold Jai
 refine J02 (Jlz x.Coeffs left (by omega)) (by simp) ?_
 rintro r rfl
 by_cases h1:left - (Jim x.Coeffs:Nat)<0
 case pos=>
  have q:left - (Jai x:Int)<0:=by omega
  simp [J2z,h1,q]
  try first|omega|(constructor <;> intros <;> omega)
 simp [J2z,h1]
 try (rw [if_neg (by omega)];omega)
theorem Jx3 (x:DLin) (_hw:Jai x≤1048576):Holds Tryz.prog 23 [.agg (J07 x)] (fun r=>r = .agg (J08 x)):=by
 have hw:=_hw;unfold Jai at hw
 refine J03 Tryz.func23 a23_ok rfl (by simp [a23]) ?_
 simp [a23,J07]
 refine J02 (Jlr x.Coeffs (by omega)) (by simp []) ?_
 rintro r rfl
 simp []
 try simp [J08]
theorem Jx9 (x y:DLin):Holds Tryz.prog 25 [.agg (J07 x),.agg (J07 y)] (fun r=>r = .bool (decide (x=y))):=by
 refine J03 Tryz.func25 a25_ok rfl (by simp [a25]) ?_
 simp [a25,J07]
 by_cases h0:x.Const=y.Const
 case neg=>simp [h0];try exact fun e=>h0 (by rw [e])
 simp [h0]
 refine J02 (Jlo x.Coeffs y.Coeffs) (by simp []) ?_
 rintro r rfl
 by_cases h1:x.Coeffs=y.Coeffs
 case neg=>simp [h1];try exact fun e=>h1 (by rw [e])
 simp [h1]
 cases x;cases y;simp_all
theorem a95_ok:J0a Tryz.prog Tryz.f95=some (tSz true 2 21):=by kernel_rfl
theorem Jkx (l:List DLin) (left:Int) (h0:0≤left∧left≤4611686018427387904):Holds Tryz.prog 95 [.sl 2 (l.map J07),i64 left] (fun r=>r=i64 (J2z left (J5n l))):=by
 rw [show J5n l=wL Jai l from rfl,←J61 (w:=Jai) (g:=fun x lf=>J2z lf (Jai x)) (fun _ _ _=>rfl) l left h0.1]
 exact J5c Tryz.func95 a95_ok rfl (rowOf:=J07) (eltOf:=(fun x => .agg (J07 x))) (fun x=>by simp [J07]) (fun x h=>by simp [J07]) (fun x lf h=>J8b h) l left h0 (fun x lf _ hl=>Jup x lf hl)
theorem a101_ok:J0a Tryz.prog Tryz.f101=some (tTo true 2 32 23 [.int .i64 0,.nil 1]):=by kernel_rfl
theorem Jkr (l:List DLin) (hw:J5n l≤1048576):Holds Tryz.prog 101 [.sl 2 (l.map J07)] (fun r=>r = .us 2 (l.map J08)):=
 J5f Tryz.func101 a101_ok rfl (rowOf:=J07) (eltOf:=(fun x => .agg (J07 x))) (eltU:=(fun x => .agg (J08 x))) (fun x=>by simp [J07]) (fun x h=>by simp [J07]) (fun x=>by simp) (fun x=>by simp [J08]) (fun x=>by simp [J08]) rfl l (by have:=J27 Jai l;unfold J5n at hw;unfold LIM;omega) (fun x h=>Jx3 x (by have:=J3d (w:=Jai) h;unfold J5n at hw;omega))
theorem a107_ok:J0a Tryz.prog Tryz.f107=some (tEq true 2 25):=by kernel_rfl
theorem Jle (l m:List DLin):Holds Tryz.prog 107 [.sl 2 (l.map J07),.sl 2 (m.map J07)] (fun r=>r = .bool (decide (l=m))):=by
 rw [←J7m]
 exact J5g Tryz.func107 a107_ok rfl (rowOf:=J07) (eltOf:=(fun x => .agg (J07 x))) (fun x=>by simp [J07]) (fun x h=>by simp [J07]) l m (fun x y _ _=>Jx9 x y)
theorem Jmj (x:DFarkas) (left:Int) (h0:0≤left∧left≤4611686018427387904):Holds Tryz.prog 111 [.agg (J0r x),i64 left] (fun r=>r=i64 (J2z left (J5t x))):=by
 refine J03 Tryz.func111 a111_ok rfl (by simp [a111]) ?_
 simp [a111,J0r]
 have e0:J5t x=J5t x:=rfl
 conv at e0=>rhs;unfold J5t
 refine J02 (Jlz x.Mult left (by omega)) (by simp) ?_
 rintro r rfl
 by_cases h1:left - (Jim x.Mult:Nat)<0
 case pos=>
  have q:left - (J5t x:Int)<0:=by omega
  simp [J2z,h1,q]
  try first|omega|(constructor <;> intros <;> omega)
 simp [J2z,h1]
 try (rw [if_neg (by omega)];omega)
theorem Jmt (x:DFarkas) (_hw:J5t x≤1048576):Holds Tryz.prog 114 [.agg (J0r x)] (fun r=>r = .agg (J32 x)):=by
 have hw:=_hw;unfold J5t at hw
 refine J03 Tryz.func114 a114_ok rfl (by simp [a114]) ?_
 simp [a114,J0r]
 refine J02 (Jlr x.Mult (by omega)) (by simp []) ?_
 rintro r rfl
 simp []
 try simp [J32]
theorem Jmh (x y:DFarkas):Holds Tryz.prog 116 [.agg (J0r x),.agg (J0r y)] (fun r=>r = .bool (decide (x=y))):=by
 refine J03 Tryz.func116 a116_ok rfl (by simp [a116]) ?_
 simp [a116,J0r]
 by_cases h0:x.Scale=y.Scale
 case neg=>simp [h0];try exact fun e=>h0 (by rw [e])
 simp [h0]
 refine J02 (Jlo x.Mult y.Mult) (by simp []) ?_
 rintro r rfl
 by_cases h1:x.Mult=y.Mult
 case neg=>simp [h1];try exact fun e=>h1 (by rw [e])
 simp [h1]
 cases x;cases y;simp_all
theorem a39_ok:J0a Tryz.prog Tryz.f39=some (tSz true 2 111):=by kernel_rfl
theorem Jf7 (l:List DFarkas) (left:Int) (h0:0≤left∧left≤4611686018427387904):Holds Tryz.prog 39 [.sl 2 (l.map J0r),i64 left] (fun r=>r=i64 (J2z left (J8k l))):=by
 rw [show J8k l=wL J5t l from rfl,←J61 (w:=J5t) (g:=fun x lf=>J2z lf (J5t x)) (fun _ _ _=>rfl) l left h0.1]
 exact J5c Tryz.func39 a39_ok rfl (rowOf:=J0r) (eltOf:=(fun x => .agg (J0r x))) (fun x=>by simp [J0r]) (fun x h=>by simp [J0r]) (fun x lf h=>J8b h) l left h0 (fun x lf _ hl=>Jmj x lf hl)
theorem a41_ok:J0a Tryz.prog Tryz.f41=some (tTo true 2 32 114 [.int .i64 0,.nil 1]):=by kernel_rfl
theorem J5v (l:List DFarkas) (hw:J8k l≤1048576):Holds Tryz.prog 41 [.sl 2 (l.map J0r)] (fun r=>r = .us 2 (l.map J32)):=
 J5f Tryz.func41 a41_ok rfl (rowOf:=J0r) (eltOf:=(fun x => .agg (J0r x))) (eltU:=(fun x => .agg (J32 x))) (fun x=>by simp [J0r]) (fun x h=>by simp [J0r]) (fun x=>by simp) (fun x=>by simp [J32]) (fun x=>by simp [J32]) rfl l (by have:=J27 J5t l;unfold J8k at hw;unfold LIM;omega) (fun x h=>Jmt x (by have:=J3d (w:=J5t) h;unfold J8k at hw;omega))
theorem a43_ok:J0a Tryz.prog Tryz.f43=some (tEq true 2 116):=by kernel_rfl
theorem Jec (l m:List DFarkas):Holds Tryz.prog 43 [.sl 2 (l.map J0r),.sl 2 (m.map J0r)] (fun r=>r = .bool (decide (l=m))):=by
 rw [←J7m]
 exact J5g Tryz.func43 a43_ok rfl (rowOf:=J0r) (eltOf:=(fun x => .agg (J0r x))) (fun x=>by simp [J0r]) (fun x h=>by simp [J0r]) l m (fun x y _ _=>Jmh x y)
end Go.Proofs.YtoclolkigjbcgaaGreat

/- Contracts: whole numbers within limits, linear expressions. -/
import Derived.Test.YtoclolkigjbcgaaGreatUT1
import Derived.Test.YtoclolkigjbcgaaGreatProg
import Derived.Test.YtoclolkigjbcgaaGreatUM1
namespace Go.Proofs.YtoclolkigjbcgaaGreat
set_option maxRecDepth 40000
set_option maxHeartbeats 4000000
open Go Go.RowKit Go.Proofs
set_option linter.all false
def a102:AFn:= ⟨15,[.t 6],(.seq (.reg [Zo 6 (.mv (.k (.bool false)))]) (.seq (.reg [Zv 7 0,Zv 8 1,Zo 9 (.bin .geq (.t 7) (.t 8)),Zv 10 9,⟨some 11,.mv (.t 0),(some (10,true))⟩,⟨some 12,.mv (.t 2),(some (10,true))⟩,⟨some 13,.bin .leq (.t 11) (.t 12),(some (10,true))⟩,Zo 14 (.pick (.t 10) (.t 13) (.k (.bool false))),Zv 6 14]) .ret))⟩
theorem a102_ok:J08 Tryz.prog Tryz.f102=some a102:=by kernel_rfl
def a232:AFn:= ⟨5,[.t 2],(.seq (.reg [Zo 2 (.mv (.k (.bool false)))]) (.seq (.reg [Zv 3 0,Zc 4 102 [.t 3,(.k (.int .i64 (-1000000000))),(.k (.int .i64 1000000000))],Zv 2 4]) .ret))⟩
theorem a232_ok:J08 Tryz.prog Tryz.f232=some a232:=by kernel_rfl
def a183:AFn:= ⟨15,[.t 6],(.seq (.reg [Zo 6 (.mv (.k (.bool false)))]) (.seq (.reg [Zv 7 0,Zv 8 1,Zo 9 (.bin .geq (.t 7) (.t 8)),Zv 10 9,⟨some 11,.mv (.t 0),(some (10,true))⟩,⟨some 12,.mv (.t 2),(some (10,true))⟩,⟨some 13,.bin .leq (.t 11) (.t 12),(some (10,true))⟩,Zo 14 (.pick (.t 10) (.t 13) (.k (.bool false))),Zv 6 14]) .ret))⟩
theorem a183_ok:J08 Tryz.prog Tryz.f183=some a183:=by kernel_rfl
def a181:AFn:= ⟨5,[.t 2],(.seq (.reg [Zo 2 (.mv (.k (.bool false)))]) (.seq (.reg [Zv 3 0,Zc 4 183 [.t 3,(.k (.int .i64 (-1000000000))),(.k (.int .i64 1000000000))],Zv 2 4]) .ret))⟩
theorem a181_ok:J08 Tryz.prog Tryz.f181=some a181:=by kernel_rfl
def a182:AFn:= ⟨23,[.t 6,.t 7],(.seq (.reg [Zo 6 (.mv (.k (.int .i64 0))),Zo 7 (.mv (.k (.bool false)))]) (.seq (.reg [Zv 11 1,Zv 12 2,Zc 13 263 [.t 11,.t 12],Zv 10 13,Zo 14 (.ext (.t 10) 0),Zo 15 (.ext (.t 10) 1),Zv 8 14,Zv 9 15]) (.seq (.seq (.reg [Zv 16 9,Zo 17 (.un .not (.t 16))]) (.cond (.t 17) (.seq (.reg [Zo 6 (.mv (.k (.int .i64 0))),Zo 7 (.mv (.k (.bool false)))]) .ret) .skip)) (.seq (.reg [Zv 18 0,Zv 19 8,Zc 20 264 [.t 18,.t 19],Zo 21 (.ext (.t 20) 0),Zo 22 (.ext (.t 20) 1),Zv 6 21,Zv 7 22]) .ret))))⟩
def a234:AFn:= ⟨6,[.t 2],(.seq (.reg [Zo 2 (.mv (.k (.bool false)))]) (.seq (.reg [Zv 3 0,Zc 4 232 [.t 3],Zo 5 (.un .not (.t 4)),Zv 2 5]) .ret))⟩
theorem a234_ok:J08 Tryz.prog Tryz.f234=some a234:=by kernel_rfl
def a146:AFn:= ⟨25,[.t 4],(.seq (.reg [Zo 2 (.boxv (.t 0)),Zo 4 (.mv (.k (.bool false)))]) (.seq (.reg [Zv 5 1,Zc 6 102 [.t 5,(.k (.int .i64 0)),(.k (.int .i64 8))],Zv 7 6,⟨some 8,.fld 1 (.t 2),(some (7,true))⟩,⟨some 9,.ld false 1 (.t 8),(some (7,true))⟩,⟨some 10,.len false (.t 9),(some (7,true))⟩,⟨some 11,.mv (.t 1),(some (7,true))⟩,⟨some 12,.bin .eql (.t 10) (.t 11),(some (7,true))⟩,Zo 13 (.pick (.t 7) (.t 12) (.k (.bool false))),Zv 14 13,⟨some 15,.fld 0 (.t 2),(some (14,true))⟩,⟨some 16,.ld false 1 (.t 15),(some (14,true))⟩,⟨some 17,.call (.k (.fn (.func 232) [] [])) [.t 16],(some (14,true))⟩,Zo 18 (.pick (.t 14) (.t 17) (.k (.bool false))),Zv 19 18,⟨some 20,.fld 1 (.t 2),(some (19,true))⟩,⟨some 21,.ld false 1 (.t 20),(some (19,true))⟩,⟨some 22,.call (.k (.fn (.func 233) [] [])) [.t 21,(.k (.fn (.func 234) [] []))],(some (19,true))⟩,⟨some 23,.un .not (.t 22),(some (19,true))⟩,Zo 24 (.pick (.t 19) (.t 23) (.k (.bool false))),Zv 4 24]) .ret))⟩
theorem a146_ok:J08 Tryz.prog Tryz.f146=some a146:=by kernel_rfl
def a179:AFn:= ⟨34,[.t 4],(.seq (.reg [Zo 2 (.boxv (.t 0)),Zo 4 (.mv (.k (.bool false)))]) (.seq (.seq (.reg [Zo 5 (.mv (.k (.int .i64 0)))]) (.blk 0 (.loop (.seq (.seq (.reg [Zv 6 5,Zf 7 1 2,Zl 8 false 1 7,Zo 9 (.len false (.t 8)),Zo 10 (.bin .lss (.t 6) (.t 9))]) (.cond (.t 10) .skip (.exit 0))) (.seq (.blk 1 (.seq (.reg [Zf 13 1 2,Zl 14 false 1 13,Zv 15 5,Zo 16 (.ixa 1 (.t 14) (.t 15)),Zl 17 false 1 16,Zc 18 181 [.t 17],Zo 19 (.un .not (.t 18))]) (.cond (.t 19) (.seq (.reg [Zo 4 (.mv (.k (.bool false)))]) .ret) .skip))) (.reg [Zv 11 5,Zo 12 (.bin .add (.t 11) (.k (.int .i64 1))),Zv 5 12])))))) (.seq (.reg [Zv 20 1,Zc 21 183 [.t 20,(.k (.int .i64 0)),(.k (.int .i64 8))],Zv 22 21,⟨some 23,.fld 1 (.t 2),(some (22,true))⟩,⟨some 24,.ld false 1 (.t 23),(some (22,true))⟩,⟨some 25,.len false (.t 24),(some (22,true))⟩,⟨some 26,.mv (.t 1),(some (22,true))⟩,⟨some 27,.bin .eql (.t 25) (.t 26),(some (22,true))⟩,Zo 28 (.pick (.t 22) (.t 27) (.k (.bool false))),Zv 29 28,⟨some 30,.fld 0 (.t 2),(some (29,true))⟩,⟨some 31,.ld false 1 (.t 30),(some (29,true))⟩,⟨some 32,.call (.k (.fn (.func 181) [] [])) [.t 31],(some (29,true))⟩,Zo 33 (.pick (.t 29) (.t 32) (.k (.bool false))),Zv 4 33]) .ret)))⟩
theorem a179_ok:J08 Tryz.prog Tryz.f179=some a179:=by kernel_rfl
theorem a233_ok:J08 Tryz.prog Tryz.f233=some (J1z 292):=by kernel_rfl
theorem a292_ok:J08 Tryz.prog Tryz.f292=some (J2r false 1):=by kernel_rfl
def inR (n lo hi:Int):Bool:=decide (lo≤n∧n≤hi)
def okC (n:Int):Bool:=inR n (-1000000000) 1000000000
theorem J3y (n lo hi:Int):Holds Tryz.prog 102 [i64 n,i64 lo,i64 hi] (fun r=>r = .bool (inR n lo hi)):=by
 refine J01 Tryz.func102 a102_ok rfl (by simp [a102]) ?_
 simp [a102]
 constructor <;> intro h <;> simp [inR] <;> omega
theorem J8o (n:Int):Holds Tryz.prog 232 [i64 n] (fun r=>r = .bool (okC n)):=by
 refine J01 Tryz.func232 a232_ok rfl (by simp [a232]) ?_
 simp [a232]
 first|refine J02 (J3y n (-1000000000) 1000000000) (by first|simp;done|rfl) ?_|refine J03 (J3y n (-1000000000) 1000000000) (by first|simp;done|rfl) ?_
 rintro r rfl
 simp
 rfl
theorem J7y (n lo hi:Int):Holds Tryz.prog 183 [i64 n,i64 lo,i64 hi] (fun r=>r = .bool (inR n lo hi)):=by
 refine J01 Tryz.func183 a183_ok rfl (by simp [a183]) ?_
 simp [a183]
 constructor <;> intro h <;> simp [inR] <;> omega
theorem Jcw (n:Int):Holds Tryz.prog 181 [i64 n] (fun r=>r = .bool (okC n)):=by
 refine J01 Tryz.func181 a181_ok rfl (by simp [a181]) ?_
 simp [a181]
 first|refine J02 (J7y n (-1000000000) 1000000000) (by first|simp;done|rfl) ?_|refine J03 (J7y n (-1000000000) 1000000000) (by first|simp;done|rfl) ?_
 rintro r rfl
 simp
 rfl
def Jw4 (x y:Int):Int×Bool:=if okC x&&okC y&&okC (x+y) then (x+y,true) else (0,false)
def Jxa (x y:Int):Int×Bool:=if okC x&&okC y&&okC (x*y) then (x*y,true) else (0,false)
def Jgj (x k y:Int):Option Int:=if (Jxa k y).2&&(Jw4 x (Jxa k y).1).2 then some (Jw4 x (Jxa k y).1).1 else Option.none
def J6i (l:DLin) (n:Int):Bool:=inR n 0 8&&decide ((l.Coeffs.length:Int)=n)&&okC l.Const&&l.Coeffs.all okC
theorem Jsd (n:Int):Holds Tryz.prog 234 [i64 n] (fun r=>r = .bool (!okC n)):=by
 refine J01 Tryz.func234 a234_ok rfl (by simp [a234]) ?_
 simp [a234]
 first|refine J02 (J8o n) (by first|simp;done|rfl) ?_|refine J03 (J8o n) (by first|simp;done|rfl) ?_
 rintro r rfl
 simp
theorem J9o {α:Type}(p:α→Bool) (l:List α):l.any (fun x => !p x) = !l.all p:=by
 rw [List.all_eq_not_any_not,Bool.not_not]
theorem Jku {h:Heap}{n:Nat}{K:AV→Heap→Nat→Prop}(l:List Int) (hK:K (.bool (!l.all okC)) h n):J1u Tryz.prog 233 [.sl 1 (J38 l),.fn (.func 234) [] []] h n K:=
 J15 (p:=fun n => !okC n) (rowOf:=fun n=>[i64 n]) (eltOf:=i64) Tryz.func233 a233_ok rfl Tryz.func292 a292_ok rfl (fun x=>by simp) l
  (fun x _=>J60 (Jsd x) rfl rfl) (by rw [J9o];exact hK)
theorem Ja4 (l:DLin) (n:Int):Holds Tryz.prog 146 [.agg (J12 l),i64 n] (fun r=>r = .bool (J6i l n)):=by
 refine J01 Tryz.func146 a146_ok rfl (by simp [a146]) ?_
 simp [a146,J12]
 first|refine J02 (J3y n 0 8) (by first|simp;done|rfl) ?_|refine J03 (J3y n 0 8) (by first|simp;done|rfl) ?_
 rintro r rfl
 unfold J6i
 cases h1:inR n 0 8
 ·simp
 simp
 intro _
 by_cases h2:(l.Coeffs.length:Int)=n
 case neg=>simp [h2]
 simp [h2]
 first|refine J02 (J8o l.Const) (by first|simp;done|rfl) ?_|refine J03 (J8o l.Const) (by first|simp;done|rfl) ?_
 rintro r rfl
 cases h3:okC l.Const
 ·simp
 simp
 refine Jku l.Coeffs ?_
 simp
theorem J8l (l:DLin) (n:Int):Holds Tryz.prog 179 [.agg (J12 l),i64 n] (fun r=>r = .bool (J6i l n)):=by
 refine J1f Tryz.func179 rfl rfl fun hl => ?_
 simp [J12] at hl
 refine J01 Tryz.func179 a179_ok rfl (by simp [a179]) ?_
 simp [a179,J12]
 refine Jnu [1,2] 5 l.Coeffs.length (fun i _=>(l.Coeffs.drop i).all okC=l.Coeffs.all okC) hl (by simp) (by simp) ?_ ?_
 ·intro i s hi hg hk s5 hw hJ
  simp at hk
  rw [List.drop_eq_getElem_cons hi,List.all_cons] at hJ
  simp [hk,s5,hi,hg]
  intro _
  first|refine J02 (Jcw _) (by simp) ?_|refine J03 (Jcw _) (by simp) ?_|refine J02 (Jcw _) rfl ?_|refine J03 (Jcw _) rfl ?_
  rintro r rfl
  cases h1:okC l.Coeffs[i]
  ·have hJ:l.Coeffs.all okC=false:=by rw [←hJ,h1];rfl
   simp [hk,J6i,hJ]
  ·rw [h1,Bool.true_and] at hJ
   simp [hk,s5,hw]
   exact hJ
 ·intro s hk s5 hJ
  simp at hk hJ
  simp [hk,s5]
  intro _
  first|refine J02 (J7y n 0 8) (by first|simp;done|rfl) ?_|refine J03 (J7y n 0 8) (by first|simp;done|rfl) ?_
  rintro r rfl
  unfold J6i
  cases h1:inR n 0 8
  ·simp
  simp [hk]
  intro _
  by_cases h2:(l.Coeffs.length:Int)=n
  case neg=>simp [h2]
  simp [h2]
  first|refine J02 (Jcw l.Const) (by first|simp;done|rfl) ?_|refine J03 (Jcw l.Const) (by first|simp;done|rfl) ?_
  rintro r rfl
  cases h3:okC l.Const <;> simp
  exact hJ
def a166:AFn:= ⟨8,[.t 2],(.seq (.reg [Zo 2 (.mv (.k (.nil 1)))]) (.seq (.seq (.reg [Zv 3 0,Zo 4 (.inil false (.t 3))]) (.cond (.t 4) (.seq (.reg [Zo 2 (.mv (.k (.nil 1)))]) .ret) .skip)) (.seq (.reg [Zo 5 (.bsl 1 []),Zv 6 0,Zo 7 (.app 8 1 (.t 5) (.t 6)),Zv 2 7]) .ret)))⟩
theorem a166_ok:J08 Tryz.prog Tryz.f166=some a166:=by kernel_rfl
def a86:AFn:= ⟨9,[(.c 2 true 2)],(.seq (.reg [Zo 1 (.boxv (.t 0)),Zo 2 (.box [(.int .i64 0),(.nil 1)])]) (.seq (.draw (.op (Zf 3 0 1) (.op (Zl 4 false 1 3) (.op (Zf 5 1 1) (.op (Zl 6 false 1 5) (.op (Zc 7 166 [.t 6]) (.op (Zo 8 (.build [(.int .i64 0),(.nil 1)] [(0,(1,(.t 4))),(1,(1,(.t 7)))])) (.hop ⟨no,.st 2 (.t 2) (.t 8),no⟩ [] .fin)))))))) .ret))⟩
theorem a86_ok:J08 Tryz.prog Tryz.f86=some a86:=by kernel_rfl
def a82:AFn:= ⟨10,[(.c 2 true 2)],(.seq (.reg [Zo 1 (.boxv (.t 0)),Zo 2 (.box [(.int .i64 0),(.nil 1)])]) (.seq (.draw (.op (Zf 3 0 1) (.op (Zl 4 false 1 3) (.op (Zf 6 1 1) (.op (Zl 7 false 1 6) (.hop (Zo 5 (.bsl 1 [])) [(.ld false 1 (.t 6)),(.fld 1 (.t 1)),(.ld false 1 (.t 3)),(.fld 0 (.t 1))] (.hop (Zo 8 (.app 8 1 (.t 5) (.t 7))) [(.ld false 1 (.t 3)),(.fld 0 (.t 1))] (.op (Zo 9 (.build [(.int .i64 0),(.nil 1)] [(0,(1,(.t 4))),(1,(1,(.t 8)))])) (.hop ⟨no,.st 2 (.t 2) (.t 9),no⟩ [] .fin))))))))) .ret))⟩
theorem a82_ok:J08 Tryz.prog Tryz.f82=some a82:=by kernel_rfl
def Jap (k n:Int):DLin:=if inR n 0 8&&okC k then ⟨k,List.replicate n.toNat 0⟩ else ⟨0,[]⟩
theorem Jdj (l:List Int) (hl:l.length≤1048576):Holds Tryz.prog 166 [.sl 1 (J38 l)] (fun r=>r = .us 1 (J38 l)):=by
 refine J01 Tryz.func166 a166_ok rfl (by simp [a166]) ?_
 simp [a166]
 unfold LIM
 omega
theorem J8k (x:DLin) (hl:x.Coeffs.length≤1048576):Holds Tryz.prog 86 [.agg (J12 x)] (fun r=>r = .agg (J1b x)):=by
 refine J01 Tryz.func86 a86_ok rfl (by simp [a86]) ?_
 simp [a86,J12]
 first|refine J02 (Jdj x.Coeffs hl) (by first|simp [J1b];done|rfl) ?_|refine J03 (Jdj x.Coeffs hl) (by first|simp [J1b];done|rfl) ?_
 rintro r rfl
 simp [J1b]
theorem J2w (x:DLin) (hl:x.Coeffs.length≤1048576):Holds Tryz.prog 82 [.agg (J12 x)] (fun r=>r = .agg (J1b x)):=by
 refine J01 Tryz.func82 a82_ok rfl (by simp [a82]) ?_
 simp [a82,J12,J1b]
 unfold LIM
 omega
def Jq8:DLin:=⟨0,[]⟩
def Jsg (a:DLin) (k:Int) (b:DLin):List (Option Int):=List.zipWith (fun x y=>Jgj x k y) a.Coeffs b.Coeffs
def Jur (a:DLin) (k:Int) (b:DLin):Bool:=(Jsg a k b).all Option.isSome
def Jjk (a:DLin) (k:Int) (b:DLin):Option DLin:=
 if J6i a a.Coeffs.length&&J6i b a.Coeffs.length&&okC k&&(Jgj a.Const k b.Const).isSome&&Jur a k b then
  some ⟨(Jgj a.Const k b.Const).getD 0,(Jsg a k b).map (·.getD 0)⟩
 else Option.none
theorem a162_ok:J08 Tryz.prog Tryz.f162=some (J2r true 4):=by kernel_rfl
def a252:AFn:= ⟨8,[.t 2],(.seq (.reg [Zo 2 (.mv (.k (.nil 1)))]) (.seq (.seq (.reg [Zv 3 0,Zo 4 (.inil false (.t 3))]) (.cond (.t 4) (.seq (.reg [Zo 2 (.mv (.k (.nil 1)))]) .ret) .skip)) (.seq (.reg [Zo 5 (.bsl 1 []),Zv 6 0,Zo 7 (.app 16 1 (.t 5) (.t 6)),Zv 2 7]) .ret)))⟩
theorem a252_ok:J08 Tryz.prog Tryz.f252=some a252:=by kernel_rfl
def a209:AFn:= ⟨19,[.t 2],(.seq (.reg [Zo 2 (.mv (.k (.nil 2)))]) (.seq (.reg [Zo 3 (.mv (.k (.nil 2)))]) (.seq (.seq (.reg [Zv 6 0,Zo 7 (.len false (.t 6)),Zo 8 (.mv (.k (.int .i64 0)))]) (.blk 0 (.loop (.seq (.reg [Zo 9 (.bin .lss (.t 8) (.t 7))]) (.seq (.cond (.t 9) .skip (.exit 0)) (.seq (.blk 1 (.seq (.reg [Zo 10 (.ixa 2 (.t 6) (.t 8)),Zl 11 true 2 10,Zo 5 (.box [(.int .i64 0),(.nil 1)]),⟨no,.st 2 (.t 5) (.t 11),no⟩]) (.reg [Zv 12 3,Zl 13 true 2 5,Zc 14 86 [.t 13],Zo 15 (.bsl 2 [.t 14]),Zo 16 (.app 32 2 (.t 12) (.t 15)),Zv 3 16]))) (.reg [Zo 17 (.bin .add (.t 8) (.k (.int .i64 1))),Zv 8 17]))))))) (.seq (.reg [Zv 18 3,Zv 2 18]) .ret))))⟩
theorem a209_ok:J08 Tryz.prog Tryz.f209=some a209:=by kernel_rfl
def a164:AFn:= ⟨14,[(.c 2 true 4)],(.seq (.reg [Zo 1 (.boxv (.t 0)),Zo 2 (.box [(.str []),(.nil 1),(.bool false),(.nil 2)])]) (.seq (.draw (.op (Zf 3 0 1) (.op (Zl 4 false 1 3) (.op (Zf 5 1 1) (.op (Zl 6 false 1 5) (.op (Zf 8 2 1) (.op (Zl 9 false 1 8) (.op (Zf 10 3 1) (.op (Zl 11 false 1 10) (.op (Zc 7 252 [.t 6]) (.op (Zc 12 209 [.t 11]) (.op (Zo 13 (.build [(.str []),(.nil 1),(.bool false),(.nil 2)] [(0,(1,(.t 4))),(1,(1,(.t 7))),(2,(1,(.t 9))),(3,(1,(.t 12)))])) (.hop ⟨no,.st 4 (.t 2) (.t 13),no⟩ [] .fin))))))))))))) .ret))⟩
theorem a164_ok:J08 Tryz.prog Tryz.f164=some a164:=by kernel_rfl
def a163:AFn:= ⟨8,[.t 3],(.seq (.reg [Zo 2 (.boxv (.t 0)),Zo 3 (.mv (.k (.bool false)))]) (.seq (.reg [Zf 4 0 2,Zl 5 false 1 4,Zl 6 false 1 1,Zo 7 (.bin .eql (.t 5) (.t 6)),Zv 3 7]) .ret))⟩
theorem a163_ok:J08 Tryz.prog Tryz.f163=some a163:=by kernel_rfl
def a84:AFn:= ⟨9,[.t 4],(.seq (.reg [Zo 2 (.boxv (.t 0)),Zo 3 (.boxv (.t 1)),Zo 4 (.mv (.k (.int .i64 0)))]) (.seq (.reg [Zf 5 0 2,Zl 6 false 1 5,Zo 7 (.mkf (.func 163) [] [.t 3]),Zc 8 162 [.t 6,.t 7],Zv 4 8]) .ret))⟩
theorem a84_ok:J08 Tryz.prog Tryz.f84=some a84:=by kernel_rfl
def a176:AFn:= ⟨19,[(.c 4 true 4),.t 5],(.seq (.reg [Zo 2 (.boxv (.t 0)),Zo 4 (.box [(.str []),(.nil 1),(.bool false),(.nil 2)]),Zo 5 (.mv (.k (.bool false)))]) (.seq (.reg [Zl 7 true 2 2,Zv 8 1,Zc 9 84 [.t 7,.t 8],Zv 6 9]) (.seq (.seq (.reg [Zv 10 6,Zo 11 (.bin .lss (.t 10) (.k (.int .i64 0)))]) (.cond (.t 11) (.seq (.reg [Zo 12 (.build [(.str []),(.nil 1),(.bool false),(.nil 2)] []),⟨no,.st 4 (.t 4) (.t 12),no⟩,Zo 5 (.mv (.k (.bool false)))]) .ret) .skip)) (.seq (.reg [Zf 13 0 2,Zl 14 false 1 13,Zv 15 6,Zo 16 (.ixa 4 (.t 14) (.t 15)),Zl 17 true 4 16,Zc 18 164 [.t 17],⟨no,.st 4 (.t 4) (.t 18),no⟩,Zo 5 (.mv (.k (.bool true)))]) .ret))))⟩
theorem a176_ok:J08 Tryz.prog Tryz.f176=some a176:=by kernel_rfl
def a160:AFn:= ⟨33,[(.c 2 true 4)],(.seq (.reg [Zo 1 (.boxv (.t 0)),Zo 2 (.box [(.str []),(.nil 1),(.bool false),(.nil 2)])]) (.seq (.draw (.op (Zf 5 0 1) (.op (Zl 6 false 1 5) (.op (Zf 8 1 1) (.op (Zl 9 false 1 8) (.op (Zf 11 2 1) (.op (Zl 12 false 1 11) (.both (.hop (Zo 7 (.bsl 1 [])) [(.ld false 1 (.t 11)),(.fld 2 (.t 1)),(.ld false 1 (.t 8)),(.fld 1 (.t 1)),(.ld false 1 (.t 5)),(.fld 0 (.t 1))] (.both (.hop (Zo 10 (.app 16 1 (.t 7) (.t 9))) [(.ld false 1 (.t 11)),(.fld 2 (.t 1)),(.ld false 1 (.t 5)),(.fld 0 (.t 1))] (.op (Zo 13 (.build [(.str []),(.nil 1),(.bool false),(.nil 2)] [(0,(1,(.t 6))),(1,(1,(.t 10))),(2,(1,(.t 12)))])) (.op (Zo 3 (.box [(.str []),(.nil 1),(.bool false),(.nil 2)])) (.hop ⟨no,.st 4 (.t 3) (.t 13),no⟩ [] .fin)))) (.op (Zo 3 (.box [(.str []),(.nil 1),(.bool false),(.nil 2)])) (.hop (Zo 10 (.app 16 1 (.t 7) (.t 9))) [(.ld false 1 (.t 11)),(.fld 2 (.t 1)),(.ld false 1 (.t 5)),(.fld 0 (.t 1))] (.op (Zo 13 (.build [(.str []),(.nil 1),(.bool false),(.nil 2)] [(0,(1,(.t 6))),(1,(1,(.t 10))),(2,(1,(.t 12)))])) (.hop ⟨no,.st 4 (.t 3) (.t 13),no⟩ [] .fin)))))) (.op (Zo 3 (.box [(.str []),(.nil 1),(.bool false),(.nil 2)])) (.hop (Zo 7 (.bsl 1 [])) [(.ld false 1 (.t 11)),(.fld 2 (.t 1)),(.ld false 1 (.t 8)),(.fld 1 (.t 1)),(.ld false 1 (.t 5)),(.fld 0 (.t 1))] (.hop (Zo 10 (.app 16 1 (.t 7) (.t 9))) [(.ld false 1 (.t 11)),(.fld 2 (.t 1)),(.ld false 1 (.t 5)),(.fld 0 (.t 1))] (.op (Zo 13 (.build [(.str []),(.nil 1),(.bool false),(.nil 2)] [(0,(1,(.t 6))),(1,(1,(.t 10))),(2,(1,(.t 12)))])) (.hop ⟨no,.st 4 (.t 3) (.t 13),no⟩ [] .fin))))))))))))) (.seq (.seq (.reg [Zo 4 (.mv (.k (.int .i64 0)))]) (.blk 0 (.loop (.seq (.seq (.reg [Zv 14 4,Zf 15 3 1,Zl 16 false 1 15,Zo 17 (.len false (.t 16)),Zo 18 (.bin .lss (.t 14) (.t 17))]) (.cond (.t 18) .skip (.exit 0))) (.seq (.blk 1 (.draw (.op (Zf 21 3 3) (.op (Zl 22 false 1 21) (.op (Zf 23 3 1) (.op (Zl 24 false 1 23) (.op (Zv 25 4) (.op (Zo 26 (.ixa 2 (.t 24) (.t 25))) (.op (Zl 27 true 2 26) (.op (Zc 28 82 [.t 27]) (.hop (Zo 29 (.bsl 2 [.t 28])) [(.ld false 1 (.t 21)),(.fld 3 (.t 3))] (.hop (Zo 30 (.app 32 2 (.t 22) (.t 29))) [] (.op (Zf 31 3 3) (.hop ⟨no,.st 1 (.t 31) (.t 30),no⟩ [] .fin)))))))))))))) (.reg [Zv 19 4,Zo 20 (.bin .add (.t 19) (.k (.int .i64 1))),Zv 4 20])))))) (.seq (.reg [Zl 32 true 4 3,⟨no,.st 4 (.t 2) (.t 32),no⟩]) .ret))))⟩
theorem a160_ok:J08 Tryz.prog Tryz.f160=some a160:=by kernel_rfl
def a172:AFn:= ⟨29,[(.c 4 true 4),.t 5],(.seq (.reg [Zo 2 (.boxv (.t 0)),Zo 4 (.box [(.str []),(.nil 1),(.bool false),(.nil 2)]),Zo 5 (.mv (.k (.bool false)))]) (.seq (.seq (.reg [Zo 6 (.mv (.k (.int .i64 0)))]) (.blk 0 (.loop (.seq (.seq (.reg [Zv 7 6,Zf 8 0 2,Zl 9 false 1 8,Zo 10 (.len false (.t 9)),Zo 11 (.bin .lss (.t 7) (.t 10))]) (.cond (.t 11) .skip (.exit 0))) (.seq (.blk 1 (.seq (.reg [Zf 14 0 2,Zl 15 false 1 14,Zv 16 6,Zo 17 (.ixa 4 (.t 15) (.t 16)),Zf 18 0 17,Zl 19 false 1 18,Zv 20 1,Zo 21 (.bin .eql (.t 19) (.t 20))]) (.cond (.t 21) (.seq (.reg [Zf 22 0 2,Zl 23 false 1 22,Zv 24 6,Zo 25 (.ixa 4 (.t 23) (.t 24)),Zl 26 true 4 25,Zc 27 160 [.t 26],⟨no,.st 4 (.t 4) (.t 27),no⟩,Zo 5 (.mv (.k (.bool true)))]) .ret) .skip))) (.reg [Zv 12 6,Zo 13 (.bin .add (.t 12) (.k (.int .i64 1))),Zv 6 13])))))) (.seq (.reg [Zo 28 (.build [(.str []),(.nil 1),(.bool false),(.nil 2)] []),⟨no,.st 4 (.t 4) (.t 28),no⟩,Zo 5 (.mv (.k (.bool false)))]) .ret)))⟩
theorem a172_ok:J08 Tryz.prog Tryz.f172=some a172:=by kernel_rfl
theorem J7n (l:List Str) (hl:l.length≤1048576):Holds Tryz.prog 252 [.sl 1 (J05 l)] (fun r=>r = .us 1 (J05 l)):=by
 refine J01 Tryz.func252 a252_ok rfl (by simp [a252]) ?_
 simp [a252]
 unfold LIM
 omega
theorem Jcz (l:List DLin) (hw:J90 l≤1048576):Holds Tryz.prog 209 [.sl 2 (l.map J12)] (fun r=>r = .us 2 (l.map J1b)):=by
 have hlen:l.length≤1048576:=Nat.le_trans (J1h Ja7 l) hw
 refine J01 Tryz.func209 a209_ok rfl (by simp [a209]) ?_
 simp [a209]
 intro hlm
 refine J0h [6,7] 8 l.length (fun i s h n=>(i=0∧s 3 = .nil 2)∨∃ id,id<n∧s 3 = .ref id 0 i∧h id=some ⟨false,2,(l.map J1b).take i⟩) hlm (by simp) (by simp) ?_ ?_
 ·rintro i s h n R hi hg hk s8 hw8 hJ hR _ _
  simp at hk
  have hwi:(l[i]).Coeffs.length≤1048576:=by
   have:=J3i (w:=Ja7) (List.getElem_mem hi)
   unfold J90 at hw
   rw [show Ja7 l[i]=(l[i]).Coeffs.length from rfl] at this
   omega
  have htk:(l.map J1b).take (i+1)=(l.map J1b).take i++[J1b l[i]]:=by rw [List.take_succ_eq_append_getElem (by simpa using hi)];simp
  rcases hJ with ⟨rfl,s3⟩|⟨id,hid,s3,eid⟩
  ·simp [hk,s8,hi,hw8,s3,J12]
   first|refine J02 (J8k (l[0]'hi) hwi) (by first|simp [J12];done|rfl) ?_|refine J03 (J8k (l[0]'hi) hwi) (by first|simp [J12];done|rfl) ?_
   rintro r rfl
   simp [hk,s8,hi,hw8,s3,J1b]
   refine ⟨by unfold LIM;omega,?_⟩
   exact hR _ _ _ (by simp [hk]) (by simp;exact J0w (by omega)) (.inr ⟨n+3,by omega,by simp,by simp [htk,J1b]⟩)
  ·have n0:¬id=n:=by omega
   have n1:¬id=n+1:=by omega
   have n2:¬id=n+1+1:=by omega
   have n3:¬n+1+1=id:=by omega
   have n4:¬n+1=id:=by omega
   simp [hk,s8,hi,hw8,s3,J12,eid,n0]
   first|refine J02 (J8k (l[i]'hi) hwi) (by first|simp [J12];done|rfl) ?_|refine J03 (J8k (l[i]'hi) hwi) (by first|simp [J12];done|rfl) ?_
   rintro r rfl
   simp [hk,s8,hi,hw8,s3,J1b,eid,n0,n1,n2,n3,n4]
   refine ⟨by omega,by unfold LIM;omega,?_⟩
   exact hR _ _ _ (by simp [hk]) (by simp) (.inr ⟨n+3,by omega,by simp,by simp [htk,J1b,List.take_take]⟩)
 ·rintro s h n R hk s8 hJ hret hX
  simp at hk
  simp [hk,s8]
  refine hX _ _ _ _ ?_
  rcases hJ with ⟨h0,s3⟩|⟨id,hid,s3,eid⟩
  ·have:l=[]:=List.eq_nil_of_length_eq_zero h0
   subst this
   simp [s3]
  ·simp [s3,eid]
theorem J81 (f:DFunction) (hw:J0j f≤1048576):Holds Tryz.prog 164 [.agg (J04 f)] (fun r=>r = .agg (J0b f)):=by
 have hw':=hw
 unfold J0j at hw'
 have hl:f.Params.length≤1048576:=by have:=J1h List.length f.Params;unfold J33 at hw';omega
 refine J01 Tryz.func164 a164_ok rfl (by simp [a164]) ?_
 simp [a164,J04]
 first|refine J02 (J7n f.Params hl) (by first|simp;done|rfl) ?_|refine J03 (J7n f.Params hl) (by first|simp;done|rfl) ?_
 rintro r rfl
 simp
 first|refine J02 (Jcz f.Pre (by omega)) (by first|simp;done|rfl) ?_|refine J03 (Jcz f.Pre (by omega)) (by first|simp;done|rfl) ?_
 rintro r rfl
 simp [J0b]
def J24 (l:List DFunction) (name:Str):Option DFunction:=l.find? fun f=>f.Name==name
def fn0:DFunction:=⟨[],[],false,[]⟩
def Jbn (o:Option DFunction):AV := .tup [.agg (J0b (o.getD fn0)),.bool o.isSome]
theorem J9z {α:Type}{p:α→Bool} : ∀ {l:List α}{k:Nat},(l.find? p=Option.none∧J0p p l k = -1)∨∃ j:Nat,∃ hj:j<l.length,J0p p l k=(k:Int)+j∧l.find? p=some l[j]
 | [],k => .inl ⟨rfl,rfl⟩
 | x::l,k=>by
  simp only [J0p]
  cases hp:p x
  ·simp only [Bool.false_eq_true,if_false,List.find?_cons,hp]
   rcases J9z (p:=p) (l:=l) (k:=k+1) with ⟨h1,h2⟩|⟨j,hj,h1,h2⟩
   ·exact .inl ⟨h1,h2⟩
   ·exact .inr ⟨j+1,by simp;omega,by rw [h1];omega,by simpa using h2⟩
  ·exact .inr ⟨0,by simp,by simp,by simp [hp]⟩
theorem Jgv {h:Heap}{n id:Nat}{name:Str}(x:DFunction) (hv:h id=some ⟨true,1,[[.str name]]⟩) (hid:id<n):Jce Tryz.prog 163 [] [.ptr id 0 0] h n (.agg (J04 x)) (.bool (x.Name==name)):=by
 intro K hK
 refine J9a ?_
 refine J14 Tryz.func163 a163_ok rfl (by simp [a163]) ?_
 have n1:¬id=n:=by omega
 simp [a163,hv,n1,J04,Jex,hK]
 intro j hj hj'
 omega
theorem J47 (p:DProgram) (name:Str):Holds Tryz.prog 84 [.agg (J00 p),.str name] (fun r=>r=i64 (J0p (fun f=>f.Name==name) p.Functions 0)):=by
 refine J01 Tryz.func84 a84_ok rfl (by simp [a84]) ?_
 simp [a84,J00]
 refine J6x (p:=fun f=>f.Name==name) (rowOf:=J04) (eltOf:=fun x => .agg (J04 x)) Tryz.func162 a162_ok rfl (fun x=>by simp) p.Functions
  (fun x _=>Jgv x (by simp) (by omega)) ?_
 simp
theorem J31 (p:DProgram) (name:Str) (hw:J0d p≤1048576):Holds Tryz.prog 176 [.agg (J00 p),.str name] (fun r=>r=Jbn (J24 p.Functions name)):=by
 have hw':=hw
 unfold J0d J17 at hw'
 refine J01 Tryz.func176 a176_ok rfl (by simp [a176]) ?_
 simp [a176,J00]
 first|refine J02 (J47 p name) (by first|simp [J00];done|rfl) ?_|refine J03 (J47 p name) (by first|simp [J00];done|rfl) ?_
 rintro r rfl
 unfold Jbn J24
 rcases J9z (p:=fun f:DFunction=>f.Name==name) (l:=p.Functions) (k:=0) with ⟨h1,h2⟩|⟨j,hj,h1,h2⟩
 ·rw [h1,h2]
  simp [fn0,J0b,J05]
 ·rw [h1,h2]
  have hwf:J0j p.Functions[j]≤1048576:=by have:=J3i (w:=J0j) (List.getElem_mem hj);omega
  simp [hj]
  first|refine J02 (J81 (p.Functions[j]'hj) hwf) (by first|simp;done|rfl) ?_|refine J03 (J81 (p.Functions[j]'hj) hwf) (by first|simp;done|rfl) ?_
  rintro r rfl
  simp [J0b]
set_option maxHeartbeats 1000000 in
theorem J86 (f:DFunction) (hw:J0j f≤1048576):Holds Tryz.prog 160 [.agg (J04 f)] (fun r=>r = .agg (J0b f)):=by
 have hw':=hw
 unfold J0j J90 at hw'
 have hl:f.Params.length≤1048576:=by have:=J1h List.length f.Params;unfold J33 at hw';omega
 have hlp:f.Pre.length≤1048576:=by have:=J1h Ja7 f.Pre;omega
 refine J01 Tryz.func160 a160_ok rfl (by simp [a160]) ?_
 simp [a160,J04]
 have hA:f.Params.length*16≤LIM:=by unfold LIM;omega
 refine ⟨⟨⟨hA,?_⟩,hA,?_⟩,hA,?_⟩
 ·skip
  refine J0h [1,2] 4 f.Pre.length (fun i s h n=>h 0=some ⟨true,4,[[.str f.Name,.sl 1 (J05 f.Params),.bool f.ListResult,.sl 2 (f.Pre.map J12)]]⟩∧h 1=some ⟨true,4,[[.str [],.nil 1,.bool false,.nil 2]]⟩∧4<n∧s 3 = .ptr 4 0 0 ∧
   h 3=some ⟨false,1,J05 f.Params⟩∧((i=0∧h 4=some ⟨true,4,[[.str f.Name,.ref 3 0 f.Params.length,.bool f.ListResult,.nil 2]]⟩)∨∃ id,4<id∧id<n∧h 4=some ⟨true,4,[[.str f.Name,.ref 3 0 f.Params.length,.bool f.ListResult,.ref id 0 i]]⟩∧h id=some ⟨false,2,(f.Pre.map J1b).take i⟩))
   (by unfold LIM;omega) (by simp) ⟨by simp,by simp,by simp,by simp,by simp,.inl ⟨rfl,by simp⟩⟩ ?_ ?_
  ·rintro i s h n R hi hg hk s4 hw4 ⟨e0,e1,hn,s3,ep,hJ⟩ hR _ _
   simp at hk
   have hwi:(f.Pre[i]).Coeffs.length≤1048576:=by
    have:=J3i (w:=Ja7) (List.getElem_mem hi)
    rw [show Ja7 f.Pre[i]=(f.Pre[i]).Coeffs.length from rfl] at this
    omega
   have htk:(f.Pre.map J1b).take (i+1)=(f.Pre.map J1b).take i++[J1b f.Pre[i]]:=by rw [List.take_succ_eq_append_getElem (by simpa using hi)];simp
   have n0:¬0=n:=by omega
   have n1:¬1=n:=by omega
   have n2:¬4=n:=by omega
   have n3:¬3=n:=by omega
   have m0:¬0=n+1:=by omega
   have m1:¬1=n+1:=by omega
   have m2:¬4=n+1:=by omega
   have m3:¬3=n+1:=by omega
   have q0:¬0=n+1+1:=by omega
   have q1:¬1=n+1+1:=by omega
   have q2:¬4=n+1+1:=by omega
   have q3:¬3=n+1+1:=by omega
   have z0:¬n=0:=by omega
   have z1:¬n=1:=by omega
   have z2:¬n=2:=by omega
   have z3:¬n=3:=by omega
   have z4:¬n=4:=by omega
   rcases hJ with ⟨rfl,eb⟩|⟨id,hid4,hid,eb,eid⟩
   ·simp [hk,s4,s3,hi,hg,hw4,e0,e1,eb,ep]
    intro _
    first|refine J02 (J2w (f.Pre[0]'hi) hwi) (by first|simp;done|rfl) ?_|refine J03 (J2w (f.Pre[0]'hi) hwi) (by first|simp;done|rfl) ?_
    rintro r rfl
    simp [hk,s4,s3,hi,hw4,J1b,e0,e1,eb,ep,n0,n1,n2,n3,m0,m1,m2,m3,q0,q1,q2,q3,z0,z1,z2,z3,z4]
    refine ⟨by unfold LIM;omega,?_⟩
    exact hR _ _ _ (by simp [hk]) (by simp;exact J0w (by omega)) ⟨by simp [e0,n0,n1,n2,n3,m0,m1,m2,m3,q0,q1,q2,q3,z0,z1,z2,z3,z4],by simp [e1,n0,n1,n2,n3,m0,m1,m2,m3,q0,q1,q2,q3,z0,z1,z2,z3,z4],by omega,by simp [s3],by simp [ep,n0,n1,n2,n3,m0,m1,m2,m3,q0,q1,q2,q3,z0,z1,z2,z3,z4],.inr ⟨n+2,by omega,by omega,by simp,by simp [htk,J1b,n0,n1,n2,n3,m0,m1,m2,m3,q0,q1,q2,q3,z0,z1,z2,z3,z4]⟩⟩
   ·have i0:¬0=id:=by omega
    have i1:¬1=id:=by omega
    have i2:¬4=id:=by omega
    have i3:¬3=id:=by omega
    have i4:¬id=n:=by omega
    have i5:¬id=n+1:=by omega
    have i6:¬id=n+1+1:=by omega
    have i7:¬n=id:=by omega
    have i8:¬n+1=id:=by omega
    have i9:¬n+1+1=id:=by omega
    have j2:¬id=2:=by omega
    have j3:¬id=3:=by omega
    have j4:¬id=4:=by omega
    simp [hk,s4,s3,hi,hg,hw4,e0,e1,eb,ep,eid]
    intro _
    first|refine J02 (J2w (f.Pre[i]'hi) hwi) (by first|simp;done|rfl) ?_|refine J03 (J2w (f.Pre[i]'hi) hwi) (by first|simp;done|rfl) ?_
    rintro r rfl
    simp [hk,s4,s3,hi,hw4,J1b,e0,e1,eb,ep,eid,n0,n1,n2,n3,m0,m1,m2,m3,q0,q1,q2,q3,z0,z1,z2,z3,z4,i0,i1,i2,i3,i4,i5,i6,i7,i8,i9,j2,j3,j4]
    refine ⟨by omega,by unfold LIM;omega,?_⟩
    exact hR _ _ _ (by simp [hk]) (by simp) ⟨by simp [e0,n0,n1,n2,n3,m0,m1,m2,m3,q0,q1,q2,q3,z0,z1,z2,z3,z4,i0],by simp [e1,n0,n1,n2,n3,m0,m1,m2,m3,q0,q1,q2,q3,z0,z1,z2,z3,z4,i1],by omega,by simp [s3],by simp [ep,n0,n1,n2,n3,m0,m1,m2,m3,q0,q1,q2,q3,z0,z1,z2,z3,z4,i3],.inr ⟨n+2,by omega,by omega,by simp,by simp [htk,J1b,List.take_take,n0,n1,n2,n3,m0,m1,m2,m3,q0,q1,q2,q3,z0,z1,z2,z3,z4,i4,i5]⟩⟩
  ·rintro s h n R hk s4 ⟨e0,e1,hn,s3,ep,hJ⟩ hret hX
   simp at hk
   simp [hk,s4,e0]
   intro _
   refine hX _ _ _ _ ?_
   rcases hJ with ⟨h0,eb⟩|⟨id,hid4,hid,eb,eid⟩
   ·have:f.Pre=[]:=List.eq_nil_of_length_eq_zero h0
    simp [hk,s3,eb,e1,ep,this,J0b]
   ·have i1:¬1=id:=by omega
    have i3:¬3=id:=by omega
    have i4:¬id=1:=by omega
    have i5:¬id=3:=by omega
    simp [hk,s3,eb,e1,ep,eid,J0b,i1,i3,i4,i5]
 ·skip
  refine J0h [1,2] 4 f.Pre.length (fun i s h n=>h 0=some ⟨true,4,[[.str f.Name,.sl 1 (J05 f.Params),.bool f.ListResult,.sl 2 (f.Pre.map J12)]]⟩∧h 1=some ⟨true,4,[[.str [],.nil 1,.bool false,.nil 2]]⟩∧4<n∧s 3 = .ptr 3 0 0 ∧
   h 4=some ⟨false,1,J05 f.Params⟩∧((i=0∧h 3=some ⟨true,4,[[.str f.Name,.ref 4 0 f.Params.length,.bool f.ListResult,.nil 2]]⟩)∨∃ id,4<id∧id<n∧h 3=some ⟨true,4,[[.str f.Name,.ref 4 0 f.Params.length,.bool f.ListResult,.ref id 0 i]]⟩∧h id=some ⟨false,2,(f.Pre.map J1b).take i⟩))
   (by unfold LIM;omega) (by simp) ⟨by simp,by simp,by simp,by simp,by simp,.inl ⟨rfl,by simp⟩⟩ ?_ ?_
  ·rintro i s h n R hi hg hk s4 hw4 ⟨e0,e1,hn,s3,ep,hJ⟩ hR _ _
   simp at hk
   have hwi:(f.Pre[i]).Coeffs.length≤1048576:=by
    have:=J3i (w:=Ja7) (List.getElem_mem hi)
    rw [show Ja7 f.Pre[i]=(f.Pre[i]).Coeffs.length from rfl] at this
    omega
   have htk:(f.Pre.map J1b).take (i+1)=(f.Pre.map J1b).take i++[J1b f.Pre[i]]:=by rw [List.take_succ_eq_append_getElem (by simpa using hi)];simp
   have n0:¬0=n:=by omega
   have n1:¬1=n:=by omega
   have n2:¬3=n:=by omega
   have n3:¬4=n:=by omega
   have m0:¬0=n+1:=by omega
   have m1:¬1=n+1:=by omega
   have m2:¬3=n+1:=by omega
   have m3:¬4=n+1:=by omega
   have q0:¬0=n+1+1:=by omega
   have q1:¬1=n+1+1:=by omega
   have q2:¬3=n+1+1:=by omega
   have q3:¬4=n+1+1:=by omega
   have z0:¬n=0:=by omega
   have z1:¬n=1:=by omega
   have z2:¬n=2:=by omega
   have z3:¬n=3:=by omega
   have z4:¬n=4:=by omega
   rcases hJ with ⟨rfl,eb⟩|⟨id,hid4,hid,eb,eid⟩
   ·simp [hk,s4,s3,hi,hg,hw4,e0,e1,eb,ep]
    intro _
    first|refine J02 (J2w (f.Pre[0]'hi) hwi) (by first|simp;done|rfl) ?_|refine J03 (J2w (f.Pre[0]'hi) hwi) (by first|simp;done|rfl) ?_
    rintro r rfl
    simp [hk,s4,s3,hi,hw4,J1b,e0,e1,eb,ep,n0,n1,n2,n3,m0,m1,m2,m3,q0,q1,q2,q3,z0,z1,z2,z3,z4]
    refine ⟨by unfold LIM;omega,?_⟩
    exact hR _ _ _ (by simp [hk]) (by simp;exact J0w (by omega)) ⟨by simp [e0,n0,n1,n2,n3,m0,m1,m2,m3,q0,q1,q2,q3,z0,z1,z2,z3,z4],by simp [e1,n0,n1,n2,n3,m0,m1,m2,m3,q0,q1,q2,q3,z0,z1,z2,z3,z4],by omega,by simp [s3],by simp [ep,n0,n1,n2,n3,m0,m1,m2,m3,q0,q1,q2,q3,z0,z1,z2,z3,z4],.inr ⟨n+2,by omega,by omega,by simp,by simp [htk,J1b,n0,n1,n2,n3,m0,m1,m2,m3,q0,q1,q2,q3,z0,z1,z2,z3,z4]⟩⟩
   ·have i0:¬0=id:=by omega
    have i1:¬1=id:=by omega
    have i2:¬3=id:=by omega
    have i3:¬4=id:=by omega
    have i4:¬id=n:=by omega
    have i5:¬id=n+1:=by omega
    have i6:¬id=n+1+1:=by omega
    have i7:¬n=id:=by omega
    have i8:¬n+1=id:=by omega
    have i9:¬n+1+1=id:=by omega
    have j2:¬id=2:=by omega
    have j3:¬id=3:=by omega
    have j4:¬id=4:=by omega
    simp [hk,s4,s3,hi,hg,hw4,e0,e1,eb,ep,eid]
    intro _
    first|refine J02 (J2w (f.Pre[i]'hi) hwi) (by first|simp;done|rfl) ?_|refine J03 (J2w (f.Pre[i]'hi) hwi) (by first|simp;done|rfl) ?_
    rintro r rfl
    simp [hk,s4,s3,hi,hw4,J1b,e0,e1,eb,ep,eid,n0,n1,n2,n3,m0,m1,m2,m3,q0,q1,q2,q3,z0,z1,z2,z3,z4,i0,i1,i2,i3,i4,i5,i6,i7,i8,i9,j2,j3,j4]
    refine ⟨by omega,by unfold LIM;omega,?_⟩
    exact hR _ _ _ (by simp [hk]) (by simp) ⟨by simp [e0,n0,n1,n2,n3,m0,m1,m2,m3,q0,q1,q2,q3,z0,z1,z2,z3,z4,i0],by simp [e1,n0,n1,n2,n3,m0,m1,m2,m3,q0,q1,q2,q3,z0,z1,z2,z3,z4,i1],by omega,by simp [s3],by simp [ep,n0,n1,n2,n3,m0,m1,m2,m3,q0,q1,q2,q3,z0,z1,z2,z3,z4,i3],.inr ⟨n+2,by omega,by omega,by simp,by simp [htk,J1b,List.take_take,n0,n1,n2,n3,m0,m1,m2,m3,q0,q1,q2,q3,z0,z1,z2,z3,z4,i4,i5]⟩⟩
  ·rintro s h n R hk s4 ⟨e0,e1,hn,s3,ep,hJ⟩ hret hX
   simp at hk
   simp [hk,s4,e0]
   intro _
   refine hX _ _ _ _ ?_
   rcases hJ with ⟨h0,eb⟩|⟨id,hid4,hid,eb,eid⟩
   ·have:f.Pre=[]:=List.eq_nil_of_length_eq_zero h0
    simp [hk,s3,eb,e1,ep,this,J0b]
   ·have i1:¬1=id:=by omega
    have i3:¬4=id:=by omega
    have i4:¬id=1:=by omega
    have i5:¬id=4:=by omega
    simp [hk,s3,eb,e1,ep,eid,J0b,i1,i3,i4,i5]
 ·skip
  refine J0h [1,2] 4 f.Pre.length (fun i s h n=>h 0=some ⟨true,4,[[.str f.Name,.sl 1 (J05 f.Params),.bool f.ListResult,.sl 2 (f.Pre.map J12)]]⟩∧h 1=some ⟨true,4,[[.str [],.nil 1,.bool false,.nil 2]]⟩∧4<n∧s 3 = .ptr 2 0 0 ∧
   h 4=some ⟨false,1,J05 f.Params⟩∧((i=0∧h 2=some ⟨true,4,[[.str f.Name,.ref 4 0 f.Params.length,.bool f.ListResult,.nil 2]]⟩)∨∃ id,4<id∧id<n∧h 2=some ⟨true,4,[[.str f.Name,.ref 4 0 f.Params.length,.bool f.ListResult,.ref id 0 i]]⟩∧h id=some ⟨false,2,(f.Pre.map J1b).take i⟩))
   (by unfold LIM;omega) (by simp) ⟨by simp,by simp,by simp,by simp,by simp,.inl ⟨rfl,by simp⟩⟩ ?_ ?_
  ·rintro i s h n R hi hg hk s4 hw4 ⟨e0,e1,hn,s3,ep,hJ⟩ hR _ _
   simp at hk
   have hwi:(f.Pre[i]).Coeffs.length≤1048576:=by
    have:=J3i (w:=Ja7) (List.getElem_mem hi)
    rw [show Ja7 f.Pre[i]=(f.Pre[i]).Coeffs.length from rfl] at this
    omega
   have htk:(f.Pre.map J1b).take (i+1)=(f.Pre.map J1b).take i++[J1b f.Pre[i]]:=by rw [List.take_succ_eq_append_getElem (by simpa using hi)];simp
   have n0:¬0=n:=by omega
   have n1:¬1=n:=by omega
   have n2:¬2=n:=by omega
   have n3:¬4=n:=by omega
   have m0:¬0=n+1:=by omega
   have m1:¬1=n+1:=by omega
   have m2:¬2=n+1:=by omega
   have m3:¬4=n+1:=by omega
   have q0:¬0=n+1+1:=by omega
   have q1:¬1=n+1+1:=by omega
   have q2:¬2=n+1+1:=by omega
   have q3:¬4=n+1+1:=by omega
   have z0:¬n=0:=by omega
   have z1:¬n=1:=by omega
   have z2:¬n=2:=by omega
   have z3:¬n=3:=by omega
   have z4:¬n=4:=by omega
   rcases hJ with ⟨rfl,eb⟩|⟨id,hid4,hid,eb,eid⟩
   ·simp [hk,s4,s3,hi,hg,hw4,e0,e1,eb,ep]
    intro _
    first|refine J02 (J2w (f.Pre[0]'hi) hwi) (by first|simp;done|rfl) ?_|refine J03 (J2w (f.Pre[0]'hi) hwi) (by first|simp;done|rfl) ?_
    rintro r rfl
    simp [hk,s4,s3,hi,hw4,J1b,e0,e1,eb,ep,n0,n1,n2,n3,m0,m1,m2,m3,q0,q1,q2,q3,z0,z1,z2,z3,z4]
    refine ⟨by unfold LIM;omega,?_⟩
    exact hR _ _ _ (by simp [hk]) (by simp;exact J0w (by omega)) ⟨by simp [e0,n0,n1,n2,n3,m0,m1,m2,m3,q0,q1,q2,q3,z0,z1,z2,z3,z4],by simp [e1,n0,n1,n2,n3,m0,m1,m2,m3,q0,q1,q2,q3,z0,z1,z2,z3,z4],by omega,by simp [s3],by simp [ep,n0,n1,n2,n3,m0,m1,m2,m3,q0,q1,q2,q3,z0,z1,z2,z3,z4],.inr ⟨n+2,by omega,by omega,by simp,by simp [htk,J1b,n0,n1,n2,n3,m0,m1,m2,m3,q0,q1,q2,q3,z0,z1,z2,z3,z4]⟩⟩
   ·have i0:¬0=id:=by omega
    have i1:¬1=id:=by omega
    have i2:¬2=id:=by omega
    have i3:¬4=id:=by omega
    have i4:¬id=n:=by omega
    have i5:¬id=n+1:=by omega
    have i6:¬id=n+1+1:=by omega
    have i7:¬n=id:=by omega
    have i8:¬n+1=id:=by omega
    have i9:¬n+1+1=id:=by omega
    have j2:¬id=2:=by omega
    have j3:¬id=3:=by omega
    have j4:¬id=4:=by omega
    simp [hk,s4,s3,hi,hg,hw4,e0,e1,eb,ep,eid]
    intro _
    first|refine J02 (J2w (f.Pre[i]'hi) hwi) (by first|simp;done|rfl) ?_|refine J03 (J2w (f.Pre[i]'hi) hwi) (by first|simp;done|rfl) ?_
    rintro r rfl
    simp [hk,s4,s3,hi,hw4,J1b,e0,e1,eb,ep,eid,n0,n1,n2,n3,m0,m1,m2,m3,q0,q1,q2,q3,z0,z1,z2,z3,z4,i0,i1,i2,i3,i4,i5,i6,i7,i8,i9,j2,j3,j4]
    refine ⟨by omega,by unfold LIM;omega,?_⟩
    exact hR _ _ _ (by simp [hk]) (by simp) ⟨by simp [e0,n0,n1,n2,n3,m0,m1,m2,m3,q0,q1,q2,q3,z0,z1,z2,z3,z4,i0],by simp [e1,n0,n1,n2,n3,m0,m1,m2,m3,q0,q1,q2,q3,z0,z1,z2,z3,z4,i1],by omega,by simp [s3],by simp [ep,n0,n1,n2,n3,m0,m1,m2,m3,q0,q1,q2,q3,z0,z1,z2,z3,z4,i3],.inr ⟨n+2,by omega,by omega,by simp,by simp [htk,J1b,List.take_take,n0,n1,n2,n3,m0,m1,m2,m3,q0,q1,q2,q3,z0,z1,z2,z3,z4,i4,i5]⟩⟩
  ·rintro s h n R hk s4 ⟨e0,e1,hn,s3,ep,hJ⟩ hret hX
   simp at hk
   simp [hk,s4,e0]
   intro _
   refine hX _ _ _ _ ?_
   rcases hJ with ⟨h0,eb⟩|⟨id,hid4,hid,eb,eid⟩
   ·have:f.Pre=[]:=List.eq_nil_of_length_eq_zero h0
    simp [hk,s3,eb,e1,ep,this,J0b]
   ·have i1:¬1=id:=by omega
    have i3:¬4=id:=by omega
    have i4:¬id=1:=by omega
    have i5:¬id=4:=by omega
    simp [hk,s3,eb,e1,ep,eid,J0b,i1,i3,i4,i5]
theorem J2u (p:DProgram) (name:Str) (hw:J0d p≤1048576):Holds Tryz.prog 172 [.agg (J00 p),.str name] (fun r=>r=Jbn (J24 p.Functions name)):=by
 have hw':=hw
 unfold J0d J17 at hw'
 have hl:p.Functions.length≤LIM:=by have:=J1h J0j p.Functions;unfold LIM;omega
 refine J01 Tryz.func172 a172_ok rfl (by simp [a172]) ?_
 simp [a172,J00]
 generalize hG:J24 p.Functions name=G
 refine J5e [1,2,4] 6 p.Functions.length (fun i _=>(p.Functions.drop i).find? (fun f=>f.Name==name)=G) hl (by simp) (by simpa [J24] using hG) ?_ ?_
 ·rintro i s h R hi hg hk s6 hw6 hJ hh hR hret _
  simp at hk hh
  rw [List.drop_eq_getElem_cons hi,List.find?_cons] at hJ
  have hwf:J0j p.Functions[i]≤1048576:=by have:=J3i (w:=J0j) (List.getElem_mem hi);omega
  simp [hk,s6,hi,hg,hh,hw6,J04]
  intro _
  by_cases hn:(p.Functions[i]).Name=name
  ·simp [hn] at hJ
   simp [hn,hi,hh,hk,s6]
   first|refine J02 (J86 (p.Functions[i]'hi) hwf) (by first|simp [J04,hn];done|rfl) ?_|refine J03 (J86 (p.Functions[i]'hi) hwf) (by first|simp [J04,hn];done|rfl) ?_
   rintro r rfl
   simp [J0b,hk,hh]
   refine hret _ _ _ ?_
   simp [hk,←hJ,Jbn,J0b]
  ·have hn':((p.Functions[i]).Name==name)=false:=by simpa using hn
   simp only [hn',Bool.false_eq_true,if_false] at hJ
   simp [hn,hk,s6,hw6]
   exact hR _ (by simp [hk]) (by simp) hJ
 ·rintro s h R hk s6 hJ hh _ hX
  simp at hk hh
  rw [List.drop_eq_nil_of_le (by omega)] at hJ
  simp only [List.find?_nil] at hJ
  simp [hk,s6,hh]
  intro _
  refine hX _ _ ?_
  simp [hk,hh,←hJ,Jbn,fn0,J0b,J05]
def a240:AFn:= ⟨66,[.t 6],(.seq (.reg [Zo 3 (.boxv (.t 0)),Zo 4 (.boxv (.t 1)),Zo 6 (.mv (.k (.nil 1)))]) (.seq (.reg [Zl 15 true 2 3,Zf 16 0 4,Zl 17 false 1 16,Zc 18 176 [.t 15,.t 17],Zv 14 18,Zo 19 (.ext (.t 14) 0),Zo 20 (.ext (.t 14) 1),Zo 7 (.box [(.str []),(.nil 1),(.bool false),(.nil 2)]),⟨no,.st 4 (.t 7) (.t 19),no⟩,Zv 8 20]) (.seq (.seq (.reg [Zv 21 8,Zo 22 (.un .not (.t 21)),Zv 23 22,⟨some 24,.mv (.t 2),(some (23,false))⟩,⟨some 25,.fld 3 (.t 4),(some (23,false))⟩,⟨some 26,.ld false 1 (.t 25),(some (23,false))⟩,⟨some 27,.len false (.t 26),(some (23,false))⟩,⟨some 28,.call (.k (.fn (.func 102) [] [])) [.t 24,(.k (.int .i64 0)),.t 27],(some (23,false))⟩,⟨some 29,.un .not (.t 28),(some (23,false))⟩,Zo 30 (.pick (.t 23) (.k (.bool true)) (.t 29))]) (.cond (.t 30) (.seq (.reg [Zo 6 (.mv (.k (.nil 1)))]) .ret) .skip)) (.seq (.reg [Zf 31 1 7,Zl 32 false 1 31,Zv 9 32]) (.seq (.seq (.reg [Zf 33 1 4,Zl 34 false 1 33,Zo 35 (.len false (.t 34)),Zo 36 (.mv (.k (.int .i64 0)))]) (.blk 0 (.loop (.seq (.reg [Zo 37 (.bin .lss (.t 36) (.t 35))]) (.seq (.cond (.t 37) .skip (.exit 0)) (.seq (.blk 1 (.seq (.reg [Zo 38 (.ixa 4 (.t 34) (.t 36)),Zl 39 true 4 38,Zo 11 (.box [(.str []),(.bool false),(.str []),(.str [])]),⟨no,.st 4 (.t 11) (.t 39),no⟩]) (.seq (.reg [Zf 40 1 11,Zl 41 false 1 40]) (.cond (.t 41) (.reg [Zv 42 9,Zf 43 2 11,Zl 44 false 1 43,Zf 45 3 11,Zl 46 false 1 45,Zo 47 (.bsl 1 [.t 44,.t 46]),Zo 48 (.app 16 1 (.t 42) (.t 47)),Zv 9 48]) .skip)))) (.reg [Zo 49 (.bin .add (.t 36) (.k (.int .i64 1))),Zv 36 49]))))))) (.seq (.seq (.reg [Zf 50 3 4,Zl 51 false 1 50,Zv 52 2,Zo 53 (.slc false 3 (.t 51) Option.none (some (.t 52))),Zo 54 (.len false (.t 53)),Zo 55 (.mv (.k (.int .i64 0)))]) (.blk 2 (.loop (.seq (.reg [Zo 56 (.bin .lss (.t 55) (.t 54))]) (.seq (.cond (.t 56) .skip (.exit 2)) (.seq (.blk 3 (.seq (.reg [Zo 57 (.ixa 3 (.t 53) (.t 55)),Zl 58 true 3 57,Zo 13 (.box [(.str []),(.str []),(.nil 3)]),⟨no,.st 3 (.t 13) (.t 58),no⟩]) (.reg [Zv 59 9,Zf 60 0 13,Zl 61 false 1 60,Zo 62 (.bsl 1 [.t 61]),Zo 63 (.app 16 1 (.t 59) (.t 62)),Zv 9 63]))) (.reg [Zo 64 (.bin .add (.t 55) (.k (.int .i64 1))),Zv 55 64]))))))) (.seq (.reg [Zv 65 9,Zv 6 65]) .ret)))))))⟩
theorem a240_ok:J08 Tryz.prog Tryz.f240=some a240:=by kernel_rfl
def a221:AFn:= ⟨78,[.t 6],(.seq (.reg [Zo 3 (.boxv (.t 0)),Zo 4 (.boxv (.t 1)),Zo 6 (.mv (.k (.nil 1)))]) (.seq (.reg [Zl 13 true 2 3,Zf 14 0 4,Zl 15 false 1 14,Zc 16 172 [.t 13,.t 15],Zv 12 16,Zo 17 (.ext (.t 12) 0),Zo 18 (.ext (.t 12) 1),Zo 7 (.box [(.str []),(.nil 1),(.bool false),(.nil 2)]),⟨no,.st 4 (.t 7) (.t 17),no⟩,Zv 8 18]) (.seq (.reg [Zo 19 (.bsl 1 []),Zv 9 19]) (.seq (.seq (.reg [Zv 20 8,Zo 21 (.un .not (.t 20)),Zv 22 21,⟨some 23,.mv (.t 2),(some (22,false))⟩,⟨some 24,.fld 3 (.t 4),(some (22,false))⟩,⟨some 25,.ld false 1 (.t 24),(some (22,false))⟩,⟨some 26,.len false (.t 25),(some (22,false))⟩,⟨some 27,.call (.k (.fn (.func 183) [] [])) [.t 23,(.k (.int .i64 0)),.t 26],(some (22,false))⟩,⟨some 28,.un .not (.t 27),(some (22,false))⟩,Zo 29 (.pick (.t 22) (.k (.bool true)) (.t 28))]) (.cond (.t 29) (.seq (.reg [Zv 30 9,Zv 6 30]) .ret) .skip)) (.seq (.reg [Zv 31 9,Zf 32 1 7,Zl 33 false 1 32,Zo 34 (.app 16 1 (.t 31) (.t 33)),Zv 9 34]) (.seq (.seq (.reg [Zo 10 (.mv (.k (.int .i64 0)))]) (.blk 0 (.loop (.seq (.seq (.reg [Zv 35 10,Zf 36 1 4,Zl 37 false 1 36,Zo 38 (.len false (.t 37)),Zo 39 (.bin .lss (.t 35) (.t 38))]) (.cond (.t 39) .skip (.exit 0))) (.seq (.blk 1 (.seq (.reg [Zf 42 1 4,Zl 43 false 1 42,Zv 44 10,Zo 45 (.ixa 4 (.t 43) (.t 44)),Zf 46 1 45,Zl 47 false 1 46]) (.cond (.t 47) (.draw (.op (Zv 48 9) (.op (Zf 49 1 4) (.op (Zl 50 false 1 49) (.op (Zv 51 10) (.op (Zo 52 (.ixa 4 (.t 50) (.t 51))) (.op (Zf 53 2 52) (.op (Zl 54 false 1 53) (.op (Zf 55 1 4) (.op (Zl 56 false 1 55) (.op (Zv 57 10) (.op (Zo 58 (.ixa 4 (.t 56) (.t 57))) (.op (Zf 59 3 58) (.op (Zl 60 false 1 59) (.hop (Zo 61 (.bsl 1 [.t 54,.t 60])) [] (.hop (Zo 62 (.app 16 1 (.t 48) (.t 61))) [] (.hop (Zv 9 62) [] .fin))))))))))))))))) .skip))) (.reg [Zv 40 10,Zo 41 (.bin .add (.t 40) (.k (.int .i64 1))),Zv 10 41])))))) (.seq (.seq (.reg [Zo 11 (.mv (.k (.int .i64 0)))]) (.blk 2 (.loop (.seq (.seq (.reg [Zv 63 11,Zv 64 2,Zo 65 (.bin .lss (.t 63) (.t 64))]) (.cond (.t 65) .skip (.exit 2))) (.seq (.blk 3 (.reg [Zv 68 9,Zf 69 3 4,Zl 70 false 1 69,Zv 71 11,Zo 72 (.ixa 3 (.t 70) (.t 71)),Zf 73 0 72,Zl 74 false 1 73,Zo 75 (.bsl 1 [.t 74]),Zo 76 (.app 16 1 (.t 68) (.t 75)),Zv 9 76])) (.reg [Zv 66 11,Zo 67 (.bin .add (.t 66) (.k (.int .i64 1))),Zv 11 67])))))) (.seq (.reg [Zv 77 9,Zv 6 77]) .ret))))))))⟩
theorem a221_ok:J08 Tryz.prog Tryz.f221=some a221:=by kernel_rfl
def Jhq:List DPattern→List Str
 | []=>[]
 | q::l=>(if q.Cons then [q.Head,q.Tail] else [])++Jhq l
def J0z (p:DProgram) (r:DRule) (n:Int):List Str:=
 if (J24 p.Functions r.Func).isSome&&inR n 0 r.Calls.length then ((J24 p.Functions r.Func).getD fn0).Params++Jhq r.Patterns++(r.Calls.take n.toNat).map (·.Bind) else []
theorem Jef:∀ l:List DPattern,(Jhq l).length≤2*l.length
 | []=>Nat.le_refl _
 | q::l=>by
  have:=Jef l
  simp only [Jhq,List.length_append,List.length_cons]
  split <;> simp <;> omega
theorem Jfg (p:DProgram) (r:DRule) (hp:J0d p≤1048576) (hr:J3f r≤1048576):((J24 p.Functions r.Func).getD fn0).Params.length≤1048576∧r.Patterns.length≤1048576∧r.Calls.length≤1048576:=by
 have h1:=J1h J1w r.Patterns
 have h2:=J1h J4f r.Calls
 unfold J3f J1s J64 at hr
 refine ⟨?_,by omega,by omega⟩
 cases hf:J24 p.Functions r.Func with
 | none=>simp [fn0]
 | some f=>
  have h3:=J3i (w:=J0j) (List.mem_of_find?_eq_some hf)
  have h4:=J1h List.length f.Params
  unfold J0d J17 at hp
  rw [show J0j f=f.Name.length+J33 f.Params+J90 f.Pre from rfl] at h3
  unfold J33 at h3
  simp only [Option.getD_some];omega
set_option maxHeartbeats 1000000 in
theorem J6e (p:DProgram) (r:DRule) (k:Int) (hp:J0d p≤1048576) (hr:J3f r≤1048576):Holds Tryz.prog 240 [.agg (J00 p),.agg (J0a r),i64 k] (fun x=>x = .us 1 (J05 (J0z p r k))):=by
 obtain ⟨hl1,hl2,hl3⟩:=Jfg p r hp hr
 refine J01 Tryz.func240 a240_ok rfl (by simp [a240]) ?_
 simp [a240,J00,J0a]
 first|refine J02 (J31 p r.Func hp) (by first|simp [J00];done|rfl) ?_|refine J03 (J31 p r.Func hp) (by first|simp [J00];done|rfl) ?_
 rintro r rfl
 unfold J0z
 generalize hG:(J24 p.Functions r.Func).getD fn0=G at *
 simp only [Jbn,hG]
 generalize hb1:(J24 p.Functions r.Func).isSome=b1
 simp [J0b]
 cases b1
 ·simp [J05]
 simp
 intro _
 first|refine J02 (J3y k 0 r.Calls.length) (by first|simp;done|rfl) ?_|refine J03 (J3y k 0 r.Calls.length) (by first|simp;done|rfl) ?_
 rintro r rfl
 cases h2:inR k 0 r.Calls.length
 ·simp [J05]
 have hk0:0≤k∧k≤r.Calls.length:=by simpa [inR] using h2
 obtain ⟨m,rfl⟩:∃ m:Nat,k=m:=⟨k.toNat,by omega⟩
 simp
 intro _
 have hpl:=Jef r.Patterns
 generalize hT1:G.Params++Jhq r.Patterns=T1
 have hT1l:T1.length≤3145728:=by rw [←hT1];simp;omega
 refine J0h [1,2,4,34,35] 36 r.Patterns.length (fun i s h n=>h 1=some ⟨true,7,[J0a r]⟩∧4<n∧∃ (acc:List Str) (id:Nat),s 9 = .ref id 0 acc.length∧h id=some ⟨false,1,J05 acc⟩∧(id=2∨4<id)∧id<n∧acc++Jhq (r.Patterns.drop i)=T1)
  (by unfold LIM;omega) (by simp) ⟨by simp [J0a],by simp,G.Params,2,by simp,by simp,by omega,by omega,by simpa using hT1⟩ ?_ ?_
 ·rintro i s h n R hi hg hk s36 hw ⟨e1,hn,acc,id,s9,eid,hid2,hidn,hJ⟩ hR _ _
  simp at hk
  rw [List.drop_eq_getElem_cons hi] at hJ
  simp only [Jhq] at hJ
  have hal:=congrArg List.length hJ
  simp only [List.length_append] at hal
  have n0:¬id=n:=by omega
  have n1:¬1=n:=by omega
  have n2:¬id=n+1:=by omega
  have n3:¬1=n+1:=by omega
  have n4:¬1=n+1+1:=by omega
  have n5:¬1=id:=by omega
  have n6:¬n=0:=by omega
  have n7:¬n+1=id:=by omega
  have n8:¬n=id:=by omega
  have n9:¬id=n+1+1:=by omega
  simp [hk,s36,hi,hw,J06,e1,eid,n0,n1,n2,n3,n4,n5,n6]
  cases hc:(r.Patterns[i]).Cons
  ·rw [hc] at hJ
   simp only [Bool.false_eq_true,if_false,List.nil_append] at hJ
   simp [s36,hw]
   exact hR _ _ _ (by simp [hk]) (by simp) ⟨by simp [e1,n1],by omega,acc,id,by simp [s9],by simp [eid,n0],hid2,by omega,hJ⟩
  ·rw [hc] at hJ hal
   simp only [if_true] at hJ hal
   simp [s9,eid,n0,n2,n7,n8,s36,hw]
   refine ⟨by simp at hal;unfold LIM;omega,?_⟩
   exact hR _ _ _ (by simp [hk]) (by simp) ⟨by simp [e1,n1,n3,n4,n5,n6],by omega,acc++[(r.Patterns[i]).Head,(r.Patterns[i]).Tail],n+2,by simp,by simp [J05],by omega,by omega,by rw [List.append_assoc];exact hJ⟩
 ·rintro s h n R hk s36 ⟨e1,hn,acc,id,s9,eid,hid2,hidn,hJ⟩ hret hX
  simp at hk
  rw [List.drop_eq_nil_of_le (by omega)] at hJ
  simp only [Jhq,List.append_nil] at hJ
  subst hJ
  simp [hk,s36]
  refine hX _ _ _ _ ?_
  have hm:m≤r.Calls.length:=by omega
  simp [hk,e1,J0a,J37,asI,Nat.min_eq_left hm,hm]
  intro _
  generalize hT2:G.Params++(Jhq r.Patterns++List.take m (List.map (fun x=>x.Bind) r.Calls))=T2
  have hT2l:T2.length≤4194304:=by rw [←hT2];simp;omega
  refine J0h [53,54] 55 m (fun i s h n=>∃ (acc:List Str) (id:Nat),s 9 = .ref id 0 acc.length∧h id=some ⟨false,1,J05 acc⟩∧id<n∧acc++((r.Calls.map (·.Bind)).take m).drop i=T2)
   (by unfold LIM;omega) (by simp) ⟨acc,id,by simp [s9],by simp [eid],hidn,by rw [←hT2,←hT1];simp⟩ ?_ ?_
  ·rintro i s h n R hi hg hk s55 hw ⟨acc,id,s9,eid,hidn,hJ⟩ hR _ _
   simp at hk
   have hir:i<r.Calls.length:=by omega
   rw [List.drop_eq_getElem_cons (by simp;omega)] at hJ
   have hal:=congrArg List.length hJ
   simp at hJ hal
   have n0:¬id=n:=by omega
   have n2:¬id=n+1:=by omega
   have n7:¬n+1=id:=by omega
   have n8:¬n=id:=by omega
   simp [hk,s55,hi,hw,hir,J0t,s9,eid,n0,n2,n7,n8]
   refine ⟨by omega,by unfold LIM;omega,?_⟩
   exact hR _ _ _ (by simp [hk]) (by simp) ⟨acc++[(r.Calls[i]).Bind],n+2,by simp,by simp [J05],by omega,by simpa using hJ⟩
  ·rintro s h n R hk s55 ⟨acc,id,s9,eid,hidn,hJ⟩ hret hX
   simp at hk
   rw [List.drop_eq_nil_of_le (by simp;omega),List.append_nil] at hJ
   subst hJ
   simp [hk,s55]
   refine hX _ _ _ _ ?_
   simp [s9,eid]
set_option maxHeartbeats 1000000 in
theorem J5c (p:DProgram) (r:DRule) (k:Int) (hp:J0d p≤1048576) (hr:J3f r≤1048576):Holds Tryz.prog 221 [.agg (J00 p),.agg (J0a r),i64 k] (fun x=>x = .us 1 (J05 (J0z p r k))):=by
 obtain ⟨hl1,hl2,hl3⟩:=Jfg p r hp hr
 refine J01 Tryz.func221 a221_ok rfl (by simp [a221]) ?_
 simp [a221,J00,J0a]
 first|refine J02 (J2u p r.Func hp) (by first|simp [J00];done|rfl) ?_|refine J03 (J2u p r.Func hp) (by first|simp [J00];done|rfl) ?_
 rintro r rfl
 unfold J0z
 generalize hG:(J24 p.Functions r.Func).getD fn0=G at *
 simp only [Jbn,hG]
 generalize hb1:(J24 p.Functions r.Func).isSome=b1
 simp [J0b]
 cases b1
 ·simp [J05]
 simp
 intro _
 first|refine J02 (J7y k 0 r.Calls.length) (by first|simp;done|rfl) ?_|refine J03 (J7y k 0 r.Calls.length) (by first|simp;done|rfl) ?_
 rintro r rfl
 cases h2:inR k 0 r.Calls.length
 ·simp [J05]
 have hk0:0≤k∧k≤r.Calls.length:=by simpa [inR] using h2
 obtain ⟨m,rfl⟩:∃ m:Nat,k=m:=⟨k.toNat,by omega⟩
 simp
 refine ⟨by unfold LIM;omega,?_⟩
 have hpl:=Jef r.Patterns
 generalize hT1:G.Params++Jhq r.Patterns=T1
 have hT1l:T1.length≤3145728:=by rw [←hT1];simp;omega
 refine J0h [1,2,4] 10 r.Patterns.length (fun i s h n=>h 1=some ⟨true,7,[J0a r]⟩∧4<n∧∃ (acc:List Str) (id:Nat),s 9 = .ref id 0 acc.length∧h id=some ⟨false,1,J05 acc⟩∧4<id∧id<n∧acc++Jhq (r.Patterns.drop i)=T1)
  (by unfold LIM;omega) (by simp) ⟨by simp [J0a],by simp,G.Params,6,by simp,by simp,by omega,by omega,by simpa using hT1⟩ ?_ ?_
 ·rintro i s h n R hi hg hk s10 hw ⟨e1,hn,acc,id,s9,eid,hid2,hidn,hJ⟩ hR _ _
  simp at hk
  rw [List.drop_eq_getElem_cons hi] at hJ
  simp only [Jhq] at hJ
  have hal:=congrArg List.length hJ
  simp only [List.length_append] at hal
  have n0:¬id=n:=by omega
  have n1:¬1=n:=by omega
  have n2:¬id=n+1:=by omega
  have n3:¬1=n+1:=by omega
  have n5:¬1=id:=by omega
  have n5':¬id=1:=by omega
  have n6:¬n=0:=by omega
  have n7:¬n+1=id:=by omega
  have n8:¬n=id:=by omega
  simp [hk,s10,hi,hg,hw,J06,e1,J0a]
  intro _
  cases hc:(r.Patterns[i]).Cons
  ·rw [hc] at hJ
   simp only [Bool.false_eq_true,if_false,List.nil_append] at hJ
   simp [s10,hw]
   exact hR _ _ _ (by simp [hk]) (by simp) ⟨by simp [e1],by omega,acc,id,by simp [s9],by simp [eid],hid2,by omega,hJ⟩
  ·rw [hc] at hJ hal
   simp only [if_true] at hJ hal
   simp [hk,hi,J06,e1,J0a,s9,eid,n0,n1,n2,n3,n5,n5',n6,n7,n8,s10,hw]
   refine ⟨by simp at hal;unfold LIM;omega,?_⟩
   exact hR _ _ _ (by simp [hk]) (by simp) ⟨by simp [e1,n1,n3,n5,n6],by omega,acc++[(r.Patterns[i]).Head,(r.Patterns[i]).Tail],n+1,by simp,by simp [J05],by omega,by omega,by rw [List.append_assoc];exact hJ⟩
 ·rintro s h n R hkk s10 ⟨e1,hn,acc,id,s9,eid,hid2,hidn,hJ⟩ hret hX
  simp at hkk
  rw [List.drop_eq_nil_of_le (by omega)] at hJ
  simp only [Jhq,List.append_nil] at hJ
  subst hJ
  simp [hkk,s10,e1,J0a]
  intro _
  refine hX _ _ _ _ ?_
  have hm:m≤r.Calls.length:=by omega
  simp [hkk]
  generalize hT2:G.Params++(Jhq r.Patterns++List.take m (List.map (fun x=>x.Bind) r.Calls))=T2
  have hT2l:T2.length≤4194304:=by rw [←hT2];simp;omega
  refine J0h [2,4] 11 m (fun i s h n=>h 1=some ⟨true,7,[J0a r]⟩∧4<n∧∃ (acc:List Str) (id:Nat),s 9 = .ref id 0 acc.length∧h id=some ⟨false,1,J05 acc⟩∧4<id∧id<n∧acc++((r.Calls.map (·.Bind)).take m).drop i=T2)
   (by unfold LIM;omega) (by simp) ⟨by simp [e1],hn,acc,id,by simp [s9],by simp [eid],hid2,hidn,by rw [←hT2,←hT1];simp⟩ ?_ ?_
  ·rintro i s h n R hi hg hk s11 hw ⟨e1,hn,acc,id,s9,eid,hid2,hidn,hJ⟩ hR _ _
   simp at hk
   have hir:i<r.Calls.length:=by omega
   rw [List.drop_eq_getElem_cons (by simp;omega)] at hJ
   have hal:=congrArg List.length hJ
   simp at hJ hal
   have n0:¬id=n:=by omega
   have n1:¬1=n:=by omega
   have n2:¬id=n+1:=by omega
   have n3:¬1=n+1:=by omega
   have n5:¬1=id:=by omega
   have n5':¬id=1:=by omega
   have n6:¬n=0:=by omega
   have n7:¬n+1=id:=by omega
   have n8:¬n=id:=by omega
   simp [hk,hkk,s11,hi,hw,hir,e1,J0a,J0t,s9,eid,n0,n2,n7,n8]
   refine ⟨by unfold LIM;omega,?_⟩
   exact hR _ _ _ (by simp [hk,hkk]) (by simp) ⟨by simp [e1,J0a,n1,n3,n5,n6],by omega,acc++[(r.Calls[i]).Bind],n+1,by simp,by simp [J05],by omega,by omega,by simpa using hJ⟩
  ·rintro s h n R hk s11 ⟨e1,hn,acc,id,s9,eid,hid2,hidn,hJ⟩ hret hX
   simp at hk
   rw [List.drop_eq_nil_of_le (by simp;omega),List.append_nil] at hJ
   subst hJ
   simp [hk,hkk,s11]
   refine hX _ _ _ _ ?_
   simp [s9,eid]
end Go.Proofs.YtoclolkigjbcgaaGreat

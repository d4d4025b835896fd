/- The body of FnExactRankObligations. -/
import Derived.Test.YtoclolkigjbcgaaGreatXN5
import Derived.Test.YtoclolkigjbcgaaGreatXM3D
import Derived.Test.YtoclolkigjbcgaaGreatXRE
import Derived.Test.YtoclolkigjbcgaaGreatXT1
import Derived.Test.YtoclolkigjbcgaaGreatProg
import Derived.Test.YtoclolkigjbcgaaGreatRows
namespace Go.Proofs.YtoclolkigjbcgaaGreat
set_option maxRecDepth 40000
set_option maxHeartbeats 4000000
set_option linter.all false
open Go Go.RowKit Go.Proofs
def a9:AFn:= ⟨119,[.t 4],(.seq (.reg [Zo 2 (.boxv (.t 0)),Zo 3 (.boxv (.t 1)),Zo 4 (.mv (.k (.bool false)))]) (.seq (.reg [Zo 5 (.mv (.k (.int .i64 1048576)))]) (.seq (.reg [Zl 17 true 2 2,Zv 18 5,Zc 19 12 [.t 17,.t 18],Zv 5 19]) (.seq (.seq (.reg [Zv 20 5,Zo 21 (.bin .lss (.t 20) (.k (.int .i64 0)))]) (.cond (.t 21) (.seq (.reg [Zo 4 (.mv (.k (.bool true)))]) .ret) .skip)) (.seq (.reg [Zl 22 true 2 3,Zv 23 5,Zc 24 44 [.t 22,.t 23],Zv 5 24]) (.seq (.seq (.reg [Zv 25 5,Zo 26 (.bin .lss (.t 25) (.k (.int .i64 0)))]) (.cond (.t 26) (.seq (.reg [Zo 4 (.mv (.k (.bool true)))]) .ret) .skip)) (.seq (.draw (.op (Zl 28 true 2 2) (.op (Zl 30 true 2 3) (.op (Zc 29 14 [.t 28]) (.op (Zc 31 46 [.t 30]) (.op (Zc 32 49 [.t 29,.t 31]) (.op (Zv 27 32) (.op (Zo 33 (.ext (.t 27) 0)) (.op (Zo 34 (.ext (.t 27) 1)) (.op (Zv 6 33) (.op (Zv 7 34) .fin))))))))))) (.seq (.reg [Zl 35 true 2 2,Zc 36 14 [.t 35],Zo 8 (.box [(.nil 4),(.nil 7)]),⟨no,.st 2 (.t 8) (.t 36),no⟩]) (.seq (.reg [Zl 37 true 2 3,Zc 38 46 [.t 37],Zo 9 (.box [(.nil 1),(.nil 1)]),⟨no,.st 2 (.t 9) (.t 38),no⟩]) (.seq (.reg [Zl 40 true 2 8,Zl 41 true 2 9,Zc 42 50 [.t 40,.t 41],Zv 39 42,Zo 43 (.ext (.t 39) 0),Zo 44 (.ext (.t 39) 1),Zv 10 43,Zv 11 44]) (.seq (.seq (.reg [Zv 45 10,Zv 46 6,Zc 47 34 [.t 45,.t 46],Zo 48 (.un .not (.t 47)),Zv 49 48,⟨some 50,.mv (.t 11),(some (49,false))⟩,⟨some 51,.mv (.t 7),(some (49,false))⟩,⟨some 52,.beq true (.t 50) (.t 51),(some (49,false))⟩,Zo 53 (.pick (.t 49) (.k (.bool true)) (.t 52))]) (.cond (.t 53) (.seq (.reg [Zo 4 (.mv (.k (.bool false)))]) .ret) .skip)) (.seq (.seq (.draw (.op (Zl 54 true 2 8) (.op (Zl 55 true 2 2) (.op (Zc 56 14 [.t 55]) (.op (Zc 57 17 [.t 54,.t 56]) (.op (Zo 58 (.un .not (.t 57))) .fin)))))) (.cond (.t 58) (.seq (.reg [Zo 4 (.mv (.k (.bool false)))]) .ret) .skip)) (.seq (.seq (.draw (.op (Zl 59 true 2 9) (.op (Zl 60 true 2 3) (.op (Zc 61 46 [.t 60]) (.op (Zc 62 48 [.t 59,.t 61]) (.op (Zo 63 (.un .not (.t 62))) .fin)))))) (.cond (.t 63) (.seq (.reg [Zo 4 (.mv (.k (.bool false)))]) .ret) .skip)) (.seq (.reg [Zo 12 (.mv (.k (.int .i64 1)))]) (.seq (.reg [Zl 64 true 2 8,Zv 65 12,Zc 66 18 [.t 64,.t 65],Zv 12 66]) (.seq (.reg [Zl 67 true 2 9,Zv 68 12,Zc 69 51 [.t 67,.t 68],Zv 12 69]) (.seq (.seq (.reg [Zv 70 12,Zo 71 (.bin .lss (.t 70) (.k (.int .i64 0))),Zv 72 71,⟨some 73,.mv (.t 10),(some (72,false))⟩,⟨some 74,.mv (.t 6),(some (72,false))⟩,⟨some 75,.call (.k (.fn (.func 34) [] [])) [.t 73,.t 74],(some (72,false))⟩,⟨some 76,.un .not (.t 75),(some (72,false))⟩,Zo 77 (.pick (.t 72) (.k (.bool true)) (.t 76)),Zv 78 77,⟨some 79,.mv (.t 11),(some (78,false))⟩,⟨some 80,.mv (.t 7),(some (78,false))⟩,⟨some 81,.beq true (.t 79) (.t 80),(some (78,false))⟩,Zo 82 (.pick (.t 78) (.k (.bool true)) (.t 81))]) (.cond (.t 82) (.seq (.reg [Zo 4 (.mv (.k (.bool false)))]) .ret) .skip)) (.seq (.reg [Zo 13 (.mv (.k (.int .i64 1)))]) (.seq (.reg [Zv 83 10,Zv 84 13,Zc 85 37 [.t 83,.t 84],Zv 13 85]) (.seq (.reg [Zo 14 (.mv (.k (.int .i64 1)))]) (.seq (.reg [Zv 86 10,Zv 87 14,Zc 88 38 [.t 86,.t 87],Zv 14 88]) (.seq (.seq (.reg [Zv 89 14,Zo 90 (.bin .lss (.t 89) (.k (.int .i64 0)))]) (.cond (.t 90) (.seq (.reg [Zo 4 (.mv (.k (.bool false)))]) .ret) .skip)) (.seq (.seq (.reg [Zv 91 14,Zv 92 13,Zo 93 (.bin .neq (.t 91) (.t 92))]) (.cond (.t 93) (.seq (.reg [Zo 4 (.mv (.k (.bool false)))]) .ret) .skip)) (.seq (.draw (.op (Zl 95 true 2 2) (.op (Zl 97 true 2 3) (.op (Zc 96 14 [.t 95]) (.op (Zc 98 46 [.t 97]) (.op (Zc 99 50 [.t 96,.t 98]) (.op (Zv 94 99) (.op (Zo 100 (.ext (.t 94) 0)) (.op (Zo 101 (.ext (.t 94) 1)) (.op (Zv 15 100) (.op (Zv 16 101) .fin))))))))))) (.seq (.seq (.reg [Zv 102 15,Zv 103 6,Zc 104 34 [.t 102,.t 103],Zo 105 (.un .not (.t 104)),Zv 106 105,⟨some 107,.mv (.t 16),(some (106,false))⟩,⟨some 108,.mv (.t 7),(some (106,false))⟩,⟨some 109,.beq true (.t 107) (.t 108),(some (106,false))⟩,Zo 110 (.pick (.t 106) (.k (.bool true)) (.t 109))]) (.cond (.t 110) (.seq (.reg [Zo 4 (.mv (.k (.bool false)))]) .ret) .skip)) (.seq (.reg [Zo 14 (.mv (.k (.int .i64 1)))]) (.seq (.reg [Zv 111 10,Zv 112 14,Zc 113 38 [.t 111,.t 112],Zv 14 113]) (.seq (.seq (.reg [Zv 114 14,Zo 115 (.bin .lss (.t 114) (.k (.int .i64 0)))]) (.cond (.t 115) (.seq (.reg [Zo 4 (.mv (.k (.bool false)))]) .ret) .skip)) (.seq (.seq (.reg [Zv 116 14,Zv 117 13,Zo 118 (.bin .neq (.t 116) (.t 117))]) (.cond (.t 118) (.seq (.reg [Zo 4 (.mv (.k (.bool false)))]) .ret) .skip)) (.seq (.reg [Zo 4 (.mv (.k (.bool true)))]) .ret))))))))))))))))))))))))))))))⟩
theorem a9_ok:J06 Tryz.prog Tryz.f9=some a9:=by kernel_rfl
theorem Jba (aP:DProgram) (aX:DRanking):Holds Tryz.prog 9 [.agg (J00 aP),.agg (J0e aX)] (fun x=>x = .bool true):=by
 refine J03 Tryz.func9 a9_ok rfl (by simp [a9]) ?_
 simp [a9]
 first|refine J01 (Jfx aP 1048576 (by omega)) (by first|simp;done|rfl) ?_|refine J02 (Jfx aP 1048576 (by omega)) (by first|simp;done|rfl) ?_
 rintro r rfl
 by_cases h1:1048576 - (J0k aP:Int)<0
 ·simp [J3i,h1]
 simp [J3i,h1]
 first|refine J01 (Jgg aX (1048576 - (J0k aP:Int)) (by omega)) (by first|simp;done|rfl) ?_|refine J02 (Jgg aX (1048576 - (J0k aP:Int)) (by omega)) (by first|simp;done|rfl) ?_
 rintro r rfl
 by_cases h2:1048576 - (J0k aP:Int) - (J5g aX:Int)<0
 ·simp [J3i,h2]
 simp [J3i,h2]
 have hw_aP:J0k aP≤1048576:=by omega
 have hw_aX:J5g aX≤1048576:=by omega
 have hb_aP:=Jos aP
 have hb_aX:=Jp6 aX
 first|refine J9j (J4u aP hw_aP) (((LS.start).push).push) (by simp) ⟨.inl (fun h=>by first|rfl|simp),trivial⟩ ?_|refine Jdh (J4u aP hw_aP) (((LS.start).push).push) (by simp) ⟨.inl (fun h=>by first|rfl|simp),trivial⟩ ?_
 intro c0 h0x n0 J0 S0 hl0 hc0
 have e:=S0.eqs;have ne:=S0.nes;simp only [bxE,bxN,Nat.zero_add,Nat.reduceAdd] at e ne;simp only [J7s] at hl0
 have ht0:List.take 2 c0=c0:=List.take_of_length_le (by omega)
 simp [e,ne,hl0,ht0,hc0]
 first|refine J9j (J4x aX hw_aX) (S0) (by simp) ⟨.inl (fun h=>by first|rfl|simp),trivial⟩ ?_|refine Jdh (J4x aX hw_aX) (S0) (by simp) ⟨.inl (fun h=>by first|rfl|simp),trivial⟩ ?_
 intro c1 h1x n1 J1 S1 hl1 hc1
 have e:=S1.eqs;have ne:=S1.nes;simp only [bxE,bxN,Nat.zero_add,Nat.reduceAdd] at e ne;simp only [J7w] at hl1
 have ht1:List.take 2 c1=c1:=List.take_of_length_le (by omega)
 simp [e,ne,hl0,ht0,hl1,ht1,hc1]
 first|refine Jmr (len:=(((J2l aP aX).getD [])).length) (J7t aP hw_aP aX) (S1) rfl (by simp) ⟨.inr ⟨_,.tail _ (.head _),rfl,by simp [dr]⟩,.inr ⟨_,.head _,rfl,by simp [dr]⟩,trivial⟩ ?_|refine Jr7 (len:=(((J2l aP aX).getD [])).length) (J7t aP hw_aP aX) (S1) rfl (by simp) ⟨.inr ⟨_,.tail _ (.head _),rfl,by simp [dr]⟩,.inr ⟨_,.head _,rfl,by simp [dr]⟩,trivial⟩ ?_
 intro d2 h2x n2 J2 S2
 have e:=S2.eqs;have ne:=S2.nes;simp only [bxE,bxN,Nat.zero_add,Nat.reduceAdd] at e ne
 simp [e,ne,hl0,ht0,hl1,ht1]
 first|refine J9j (J4u aP hw_aP) (S2) (by simp) ⟨.inl (fun h=>by first|rfl|simp),trivial⟩ ?_|refine Jdh (J4u aP hw_aP) (S2) (by simp) ⟨.inl (fun h=>by first|rfl|simp),trivial⟩ ?_
 intro c3 h3x n3 J3 S3 hl3 hc3
 have e:=S3.eqs;have ne:=S3.nes;simp only [bxE,bxN,Nat.zero_add,Nat.reduceAdd] at e ne;simp only [J7s] at hl3
 have ht3:List.take 2 c3=c3:=List.take_of_length_le (by omega)
 simp [e,ne,hl0,ht0,hl1,ht1,hl3,ht3,hc3]
 first|refine J9j (J4x aX hw_aX) ((S3).push) (by simp) ⟨.inl (fun h=>by first|rfl|simp),trivial⟩ ?_|refine Jdh (J4x aX hw_aX) ((S3).push) (by simp) ⟨.inl (fun h=>by first|rfl|simp),trivial⟩ ?_
 intro c4 h4x n4 J4 S4 hl4 hc4
 have e:=S4.eqs;have ne:=S4.nes;simp only [bxE,bxN,Nat.zero_add,Nat.reduceAdd] at e ne;simp only [J7w] at hl4
 have ht4:List.take 2 c4=c4:=List.take_of_length_le (by omega)
 simp [e,ne,hl0,ht0,hl1,ht1,hl3,ht3,hl4,ht4,hc4]
 first|refine Jmr (len:=(((J2l aP aX).getD [])).length) (J52 aP hw_aP aX) ((S4).push) rfl (by simp) ⟨.inr ⟨_,.tail _ (.head _),rfl,by simp [dr]⟩,.inr ⟨_,.head _,rfl,by simp [dr]⟩,trivial⟩ ?_|refine Jr7 (len:=(((J2l aP aX).getD [])).length) (J52 aP hw_aP aX) ((S4).push) rfl (by simp) ⟨.inr ⟨_,.tail _ (.head _),rfl,by simp [dr]⟩,.inr ⟨_,.head _,rfl,by simp [dr]⟩,trivial⟩ ?_
 intro d5 h5x n5 J5 S5
 have e:=S5.eqs;have ne:=S5.nes;simp only [bxE,bxN,Nat.zero_add,Nat.reduceAdd] at e ne
 simp [e,ne,hl0,ht0,hl1,ht1,hl3,ht3,hl4,ht4]
 first|refine J90 (J47 (((J2l aP aX).getD [])) (((J2l aP aX).getD []))) (S5) rfl ⟨.inr ⟨_,.head _,rfl,by simp [dr]⟩,.inr ⟨_,.tail _ (.tail _ (.tail _ (.head _))),rfl,by simp [dr]⟩,trivial⟩ ?_|refine Jb4 (J47 (((J2l aP aX).getD [])) (((J2l aP aX).getD []))) (S5) rfl ⟨.inr ⟨_,.head _,rfl,by simp [dr]⟩,.inr ⟨_,.tail _ (.tail _ (.tail _ (.head _))),rfl,by simp [dr]⟩,trivial⟩ ?_
 simp [e,ne,hl0,ht0,hl1,ht1,hl3,ht3,hl4,ht4]
 first|refine J9j (J4u aP hw_aP) (S5) (by simp) ⟨.inl (fun h=>by first|rfl|simp),trivial⟩ ?_|refine Jdh (J4u aP hw_aP) (S5) (by simp) ⟨.inl (fun h=>by first|rfl|simp),trivial⟩ ?_
 intro c6 h6x n6 J6 S6 hl6 hc6
 have e:=S6.eqs;have ne:=S6.nes;simp only [bxE,bxN,Nat.zero_add,Nat.reduceAdd] at e ne;simp only [J7s] at hl6
 have ht6:List.take 2 c6=c6:=List.take_of_length_le (by omega)
 simp [e,ne,hl0,ht0,hl1,ht1,hl3,ht3,hl4,ht4,hl6,ht6,hc6]
 first|refine J90 (Jes (aP) (aP)) (S6) rfl ⟨.inr ⟨_,.tail _ (.tail _ (.tail _ (.head _))),rfl,by simp [dr]⟩,.inr ⟨_,.head _,rfl,by simp [dr]⟩,trivial⟩ ?_|refine Jb4 (Jes (aP) (aP)) (S6) rfl ⟨.inr ⟨_,.tail _ (.tail _ (.tail _ (.head _))),rfl,by simp [dr]⟩,.inr ⟨_,.head _,rfl,by simp [dr]⟩,trivial⟩ ?_
 simp [e,ne,hl0,ht0,hl1,ht1,hl3,ht3,hl4,ht4,hl6,ht6]
 first|refine J9j (J4x aX hw_aX) (S6) (by simp) ⟨.inl (fun h=>by first|rfl|simp),trivial⟩ ?_|refine Jdh (J4x aX hw_aX) (S6) (by simp) ⟨.inl (fun h=>by first|rfl|simp),trivial⟩ ?_
 intro c7 h7x n7 J7 S7 hl7 hc7
 have e:=S7.eqs;have ne:=S7.nes;simp only [bxE,bxN,Nat.zero_add,Nat.reduceAdd] at e ne;simp only [J7w] at hl7
 have ht7:List.take 2 c7=c7:=List.take_of_length_le (by omega)
 simp [e,ne,hl0,ht0,hl1,ht1,hl3,ht3,hl4,ht4,hl6,ht6,hl7,ht7,hc7]
 first|refine J90 (Jgj (aX) (aX)) (S7) rfl ⟨.inr ⟨_,.tail _ (.tail _ (.tail _ (.head _))),rfl,by simp [dr]⟩,.inr ⟨_,.head _,rfl,by simp [dr]⟩,trivial⟩ ?_|refine Jb4 (Jgj (aX) (aX)) (S7) rfl ⟨.inr ⟨_,.tail _ (.tail _ (.tail _ (.head _))),rfl,by simp [dr]⟩,.inr ⟨_,.head _,rfl,by simp [dr]⟩,trivial⟩ ?_
 simp [e,ne,hl0,ht0,hl1,ht1,hl3,ht3,hl4,ht4,hl6,ht6,hl7,ht7]
 refine Jly (T1:=[_,_,_,_]) (Jjf (aP) (1) (by omega)) (S7) ?_
 intro h8x n8 S8
 have e:=S8.eqs;have ne:=S8.nes;simp only [bxE,bxN,Nat.zero_add,Nat.reduceAdd] at e ne
 have hq1:¬1+J78 aP<(0:Int):=by omega
 simp [e,ne,hl0,ht0,hl1,ht1,hl3,ht3,hl4,ht4,hl6,ht6,hl7,ht7,hq1]
 refine Jly (T1:=[_,_,_]) (Jj8 (aX) (1+J78 aP) (by omega)) (S8) ?_
 intro h9x n9 S9
 have e:=S9.eqs;have ne:=S9.nes;simp only [bxE,bxN,Nat.zero_add,Nat.reduceAdd] at e ne
 have hq2:¬1+J78 aP+J8v aX<(0:Int):=by omega
 simp [e,ne,hl0,ht0,hl1,ht1,hl3,ht3,hl4,ht4,hl6,ht6,hl7,ht7,hq2]
 first|refine J90 (J47 (((J2l aP aX).getD [])) (((J2l aP aX).getD []))) (S9) rfl ⟨.inr ⟨_,.tail _ (.tail _ (.head _)),rfl,by simp [dr]⟩,.inr ⟨_,.tail _ (.tail _ (.tail _ (.tail _ (.tail _ (.head _))))),rfl,by simp [dr]⟩,trivial⟩ ?_|refine Jb4 (J47 (((J2l aP aX).getD [])) (((J2l aP aX).getD []))) (S9) rfl ⟨.inr ⟨_,.tail _ (.tail _ (.head _)),rfl,by simp [dr]⟩,.inr ⟨_,.tail _ (.tail _ (.tail _ (.tail _ (.tail _ (.head _))))),rfl,by simp [dr]⟩,trivial⟩ ?_
 simp [e,ne,hl0,ht0,hl1,ht1,hl3,ht3,hl4,ht4,hl6,ht6,hl7,ht7]
 have hg:=Jvt aP aX
 have hm:¬1+(J2e (((J2l aP aX).getD [])):Int)<0:=by omega
 refine Jly (T1:=[_,_]) (Jd2 (((J2l aP aX).getD [])) (1) (by omega)) (S9) ?_
 intro h10x n10 S10
 have e:=S10.eqs;have ne:=S10.nes;simp only [bxE,bxN,Nat.zero_add,Nat.reduceAdd] at e ne
 have hq3:¬1+J2e (((J2l aP aX).getD []))<(0:Int):=by omega
 simp [e,ne,hl0,ht0,hl1,ht1,hl3,ht3,hl4,ht4,hl6,ht6,hl7,ht7,hq3]
 first|refine J90 (J50 (((J2l aP aX).getD [])) (1) (by omega)) (S10) rfl ⟨.inr ⟨_,.tail _ (.tail _ (.head _)),rfl,by simp [dr]⟩,.inl (fun h=>by first|rfl|simp),trivial⟩ ?_|refine Jb4 (J50 (((J2l aP aX).getD [])) (1) (by omega)) (S10) rfl ⟨.inr ⟨_,.tail _ (.tail _ (.head _)),rfl,by simp [dr]⟩,.inl (fun h=>by first|rfl|simp),trivial⟩ ?_
 simp [e,ne,hl0,ht0,hl1,ht1,hl3,ht3,hl4,ht4,hl6,ht6,hl7,ht7,hm]
 first|refine J9j (J4u aP hw_aP) (S10) (by simp) ⟨.inl (fun h=>by first|rfl|simp),trivial⟩ ?_|refine Jdh (J4u aP hw_aP) (S10) (by simp) ⟨.inl (fun h=>by first|rfl|simp),trivial⟩ ?_
 intro c11 h11x n11 J11 S11 hl11 hc11
 have e:=S11.eqs;have ne:=S11.nes;simp only [bxE,bxN,Nat.zero_add,Nat.reduceAdd] at e ne;simp only [J7s] at hl11
 have ht11:List.take 2 c11=c11:=List.take_of_length_le (by omega)
 simp [e,ne,hl0,ht0,hl1,ht1,hl3,ht3,hl4,ht4,hl6,ht6,hl7,ht7,hl11,ht11,hc11]
 first|refine J9j (J4x aX hw_aX) (S11) (by simp) ⟨.inl (fun h=>by first|rfl|simp),trivial⟩ ?_|refine Jdh (J4x aX hw_aX) (S11) (by simp) ⟨.inl (fun h=>by first|rfl|simp),trivial⟩ ?_
 intro c12 h12x n12 J12 S12 hl12 hc12
 have e:=S12.eqs;have ne:=S12.nes;simp only [bxE,bxN,Nat.zero_add,Nat.reduceAdd] at e ne;simp only [J7w] at hl12
 have ht12:List.take 2 c12=c12:=List.take_of_length_le (by omega)
 simp [e,ne,hl0,ht0,hl1,ht1,hl3,ht3,hl4,ht4,hl6,ht6,hl7,ht7,hl11,ht11,hl12,ht12,hc12]
 first|refine Jmr (len:=(((J2l aP aX).getD [])).length) (J52 aP hw_aP aX) (S12) rfl (by simp) ⟨.inr ⟨_,.tail _ (.head _),rfl,by simp [dr]⟩,.inr ⟨_,.head _,rfl,by simp [dr]⟩,trivial⟩ ?_|refine Jr7 (len:=(((J2l aP aX).getD [])).length) (J52 aP hw_aP aX) (S12) rfl (by simp) ⟨.inr ⟨_,.tail _ (.head _),rfl,by simp [dr]⟩,.inr ⟨_,.head _,rfl,by simp [dr]⟩,trivial⟩ ?_
 intro d13 h13x n13 J13 S13
 have e:=S13.eqs;have ne:=S13.nes;simp only [bxE,bxN,Nat.zero_add,Nat.reduceAdd] at e ne
 simp [e,ne,hl0,ht0,hl1,ht1,hl3,ht3,hl4,ht4,hl6,ht6,hl7,ht7,hl11,ht11,hl12,ht12]
 first|refine J90 (J47 (((J2l aP aX).getD [])) (((J2l aP aX).getD []))) (S13) rfl ⟨.inr ⟨_,.head _,rfl,by simp [dr]⟩,.inr ⟨_,.tail _ (.tail _ (.tail _ (.tail _ (.tail _ (.tail _ (.tail _ (.tail _ (.head _)))))))),rfl,by simp [dr]⟩,trivial⟩ ?_|refine Jb4 (J47 (((J2l aP aX).getD [])) (((J2l aP aX).getD []))) (S13) rfl ⟨.inr ⟨_,.head _,rfl,by simp [dr]⟩,.inr ⟨_,.tail _ (.tail _ (.tail _ (.tail _ (.tail _ (.tail _ (.tail _ (.tail _ (.head _)))))))),rfl,by simp [dr]⟩,trivial⟩ ?_
 simp [e,ne,hl0,ht0,hl1,ht1,hl3,ht3,hl4,ht4,hl6,ht6,hl7,ht7,hl11,ht11,hl12,ht12]
 first|refine J90 (J50 (((J2l aP aX).getD [])) (1) (by omega)) (S13) rfl ⟨.inr ⟨_,.tail _ (.tail _ (.tail _ (.tail _ (.tail _ (.head _))))),rfl,by simp [dr]⟩,.inl (fun h=>by first|rfl|simp),trivial⟩ ?_|refine Jb4 (J50 (((J2l aP aX).getD [])) (1) (by omega)) (S13) rfl ⟨.inr ⟨_,.tail _ (.tail _ (.tail _ (.tail _ (.tail _ (.head _))))),rfl,by simp [dr]⟩,.inl (fun h=>by first|rfl|simp),trivial⟩ ?_
 simp [e,ne,hl0,ht0,hl1,ht1,hl3,ht3,hl4,ht4,hl6,ht6,hl7,ht7,hl11,ht11,hl12,ht12,hm]
end Go.Proofs.YtoclolkigjbcgaaGreat
namespace Go.Proofs.YtoclolkigjbcgaaGreat
set_option linter.all false
open Go Go.RowKit Go.Proofs Go.ChangeShapes Go.WideShapes
theorem Tryz.own:ownKnob Tryz.prog.godebug=none:=by kernel_rfl
theorem Tryz.laidOut:laidOutB Tryz.prog=true:=by kernel_rfl
theorem J2z {α:Type}{P:List AV→Prop}{f:α→List AV}(hP:∀ r,P r→∃ x,r=f x):∀ {rows:List (List AV)},(∀ r∈rows,P r)→∃ l:List α,rows=l.map f
 | [],_=>⟨[],rfl⟩
 | r::rows,h=>by
  obtain ⟨x,rfl⟩:=hP r (h _ List.mem_cons_self)
  obtain ⟨l,rfl⟩:=J2z hP fun r hr=>h r (List.mem_cons_of_mem _ hr)
  exact ⟨x::l,rfl⟩
set_option maxRecDepth 100000
theorem Jr2 {f:Nat}{r:List AV}(h:Row Tryz.prog (f+2) 39 r):∃ x:List Int,r=[.sl 1 (J0m x)]:=by
 obtain ⟨l,rfl⟩:=K13 Tryz.underlying39 Tryz.underlying3 (by kernel_rfl) h
 exact ⟨l,rfl⟩
theorem K4n {f:Nat}{r:List AV}(h:Row Tryz.prog (f+3) 41 r):∃ x:DLin,r=J05 x:=by
 obtain ⟨parts,rfl,g0⟩:=J4j Tryz.underlying41 h
 obtain ⟨x0,m1,rfl,h0,g1⟩:=J1i g0
 obtain ⟨x1,m2,rfl,h1,g2⟩:=J1i g1
 cases J5t g2
 obtain ⟨v0,rfl,_⟩:=Jig Tryz.underlying3 h0
 obtain ⟨v1,rfl⟩:=Jr2 h1
 exact ⟨⟨v0,v1⟩,rfl⟩
theorem Jsy {f:Nat}{r:List AV}(h:Row Tryz.prog (f+4) 51 r):∃ x:List DLin,r=[.sl 2 (x.map J05)]:=by
 obtain ⟨rows,rfl,_,hr⟩:=J4q Tryz.underlying51 h
 obtain ⟨l,rfl⟩:=J2z (f:=J05) (fun r h=>K4n h) hr
 exact ⟨l,by rw [show Tryz.prog.cellsOf 41=2 by kernel_rfl]⟩
theorem K0y {f:Nat}{r:List AV}(h:Row Tryz.prog (f+2) 339 r):∃ x:DTerm,r=J16 x:=by
 obtain ⟨parts,rfl,g0⟩:=J4j Tryz.underlying339 h
 obtain ⟨x0,m1,rfl,h0,g1⟩:=J1i g0
 obtain ⟨x1,m2,rfl,h1,g2⟩:=J1i g1
 cases J5t g2
 obtain ⟨v0,rfl,_⟩:=Jig Tryz.underlying3 h0
 obtain ⟨v1,rfl,_⟩:=J4l Tryz.underlying9 h1
 exact ⟨⟨v0,v1⟩,rfl⟩
theorem Ju8 {f:Nat}{r:List AV}(h:Row Tryz.prog (f+3) 303 r):∃ x:List DTerm,r=[.sl 2 (x.map J16)]:=by
 obtain ⟨rows,rfl,_,hr⟩:=J4q Tryz.underlying303 h
 obtain ⟨l,rfl⟩:=J2z (f:=J16) (fun r h=>K0y h) hr
 exact ⟨l,by rw [show Tryz.prog.cellsOf 339=2 by kernel_rfl]⟩
theorem K5w {f:Nat}{r:List AV}(h:Row Tryz.prog (f+4) 305 r):∃ x:DSum,r=J1j x:=by
 obtain ⟨parts,rfl,g0⟩:=J4j Tryz.underlying305 h
 obtain ⟨x0,m1,rfl,h0,g1⟩:=J1i g0
 obtain ⟨x1,m2,rfl,h1,g2⟩:=J1i g1
 cases J5t g2
 obtain ⟨v0,rfl,_⟩:=Jig Tryz.underlying3 h0
 obtain ⟨v1,rfl⟩:=Ju8 h1
 exact ⟨⟨v0,v1⟩,rfl⟩
theorem Jr1 {f:Nat}{r:List AV}(h:Row Tryz.prog (f+5) 170 r):∃ x:List DSum,r=[.sl 2 (x.map J1j)]:=by
 obtain ⟨rows,rfl,_,hr⟩:=J4q Tryz.underlying170 h
 obtain ⟨l,rfl⟩:=J2z (f:=J1j) (fun r h=>K5w h) hr
 exact ⟨l,by rw [show Tryz.prog.cellsOf 305=2 by kernel_rfl]⟩
theorem Jxk {f:Nat}{r:List AV}(h:Row Tryz.prog (f+6) 173 r):∃ x:DArg,r=J15 x:=by
 obtain ⟨parts,rfl,g0⟩:=J4j Tryz.underlying173 h
 obtain ⟨x0,m1,rfl,h0,g1⟩:=J1i g0
 obtain ⟨x1,m2,rfl,h1,g2⟩:=J1i g1
 obtain ⟨x2,m3,rfl,h2,g3⟩:=J1i g2
 cases J5t g3
 obtain ⟨v0,rfl⟩:=Jjh Tryz.underlying4 h0
 obtain ⟨v1,rfl⟩:=Jr1 h1
 obtain ⟨v2,rfl,_⟩:=J4l Tryz.underlying9 h2
 exact ⟨⟨v0,v1,v2⟩,rfl⟩
theorem K14 {f:Nat}{r:List AV}(h:Row Tryz.prog (f+7) 307 r):∃ x:List DArg,r=[.sl 3 (x.map J15)]:=by
 obtain ⟨rows,rfl,_,hr⟩:=J4q Tryz.underlying307 h
 obtain ⟨l,rfl⟩:=J2z (f:=J15) (fun r h=>Jxk h) hr
 exact ⟨l,by rw [show Tryz.prog.cellsOf 173=3 by kernel_rfl]⟩
theorem Joy {f:Nat}{r:List AV}(h:Row Tryz.prog (f+2) 94 r):∃ x:List Str,r=[.sl 1 (J0a x)]:=by
 obtain ⟨rows,rfl,_,hr⟩:=J4q Tryz.underlying94 h
 obtain ⟨l,rfl⟩:=J2z (f:=fun s:Str=>[.str s]) (fun r h=>(J4l Tryz.underlying9 h).elim fun l h=>⟨l,h.1⟩) hr
 exact ⟨l,by rw [show Tryz.prog.cellsOf 9=1 by kernel_rfl];rfl⟩
theorem Jmp {f:Nat}{r:List AV}(h:Row Tryz.prog (f+5) 167 r):∃ x:DFunction,r=J04 x:=by
 obtain ⟨parts,rfl,g0⟩:=J4j Tryz.underlying167 h
 obtain ⟨x0,m1,rfl,h0,g1⟩:=J1i g0
 obtain ⟨x1,m2,rfl,h1,g2⟩:=J1i g1
 obtain ⟨x2,m3,rfl,h2,g3⟩:=J1i g2
 obtain ⟨x3,m4,rfl,h3,g4⟩:=J1i g3
 cases J5t g4
 obtain ⟨v0,rfl,_⟩:=J4l Tryz.underlying9 h0
 obtain ⟨v1,rfl⟩:=Joy h1
 obtain ⟨v2,rfl⟩:=Jjh Tryz.underlying4 h2
 obtain ⟨v3,rfl⟩:=Jsy h3
 exact ⟨⟨v0,v1,v2,v3⟩,rfl⟩
theorem Jkb {f:Nat}{r:List AV}(h:Row Tryz.prog (f+6) 22 r):∃ x:List DFunction,r=[.sl 4 (x.map J04)]:=by
 obtain ⟨rows,rfl,_,hr⟩:=J4q Tryz.underlying22 h
 obtain ⟨l,rfl⟩:=J2z (f:=J04) (fun r h=>Jmp h) hr
 exact ⟨l,by rw [show Tryz.prog.cellsOf 167=4 by kernel_rfl]⟩
theorem Jot {f:Nat}{r:List AV}(h:Row Tryz.prog (f+2) 301 r):∃ x:DPattern,r=J07 x:=by
 obtain ⟨parts,rfl,g0⟩:=J4j Tryz.underlying301 h
 obtain ⟨x0,m1,rfl,h0,g1⟩:=J1i g0
 obtain ⟨x1,m2,rfl,h1,g2⟩:=J1i g1
 obtain ⟨x2,m3,rfl,h2,g3⟩:=J1i g2
 obtain ⟨x3,m4,rfl,h3,g4⟩:=J1i g3
 cases J5t g4
 obtain ⟨v0,rfl,_⟩:=J4l Tryz.underlying9 h0
 obtain ⟨v1,rfl⟩:=Jjh Tryz.underlying4 h1
 obtain ⟨v2,rfl,_⟩:=J4l Tryz.underlying9 h2
 obtain ⟨v3,rfl,_⟩:=J4l Tryz.underlying9 h3
 exact ⟨⟨v0,v1,v2,v3⟩,rfl⟩
theorem Jmd {f:Nat}{r:List AV}(h:Row Tryz.prog (f+3) 169 r):∃ x:List DPattern,r=[.sl 4 (x.map J07)]:=by
 obtain ⟨rows,rfl,_,hr⟩:=J4q Tryz.underlying169 h
 obtain ⟨l,rfl⟩:=J2z (f:=J07) (fun r h=>Jot h) hr
 exact ⟨l,by rw [show Tryz.prog.cellsOf 301=4 by kernel_rfl]⟩
theorem Jxt {f:Nat}{r:List AV}(h:Row Tryz.prog (f+8) 309 r):∃ x:DCall,r=J14 x:=by
 obtain ⟨parts,rfl,g0⟩:=J4j Tryz.underlying309 h
 obtain ⟨x0,m1,rfl,h0,g1⟩:=J1i g0
 obtain ⟨x1,m2,rfl,h1,g2⟩:=J1i g1
 obtain ⟨x2,m3,rfl,h2,g3⟩:=J1i g2
 cases J5t g3
 obtain ⟨v0,rfl,_⟩:=J4l Tryz.underlying9 h0
 obtain ⟨v1,rfl,_⟩:=J4l Tryz.underlying9 h1
 obtain ⟨v2,rfl⟩:=K14 h2
 exact ⟨⟨v0,v1,v2⟩,rfl⟩
theorem Jw2 {f:Nat}{r:List AV}(h:Row Tryz.prog (f+9) 171 r):∃ x:List DCall,r=[.sl 3 (x.map J14)]:=by
 obtain ⟨rows,rfl,_,hr⟩:=J4q Tryz.underlying171 h
 obtain ⟨l,rfl⟩:=J2z (f:=J14) (fun r h=>Jxt h) hr
 exact ⟨l,by rw [show Tryz.prog.cellsOf 309=3 by kernel_rfl]⟩
theorem Jzk {f:Nat}{r:List AV}(h:Row Tryz.prog (f+10) 175 r):∃ x:DRule,r=J0c x:=by
 obtain ⟨parts,rfl,g0⟩:=J4j Tryz.underlying175 h
 obtain ⟨x0,m1,rfl,h0,g1⟩:=J1i g0
 obtain ⟨x1,m2,rfl,h1,g2⟩:=J1i g1
 obtain ⟨x2,m3,rfl,h2,g3⟩:=J1i g2
 obtain ⟨x3,m4,rfl,h3,g4⟩:=J1i g3
 obtain ⟨x4,m5,rfl,h4,g5⟩:=J1i g4
 cases J5t g5
 obtain ⟨v0,rfl,_⟩:=J4l Tryz.underlying9 h0
 obtain ⟨v1,rfl⟩:=Jmd h1
 obtain ⟨v2,rfl⟩:=Jr1 h2
 obtain ⟨v3,rfl⟩:=Jw2 h3
 obtain ⟨v4,rfl⟩:=Jxk h4
 exact ⟨⟨v0,v1,v2,v3,v4⟩,rfl⟩
theorem Jtv {f:Nat}{r:List AV}(h:Row Tryz.prog (f+11) 23 r):∃ x:List DRule,r=[.sl 7 (x.map J0c)]:=by
 obtain ⟨rows,rfl,_,hr⟩:=J4q Tryz.underlying23 h
 obtain ⟨l,rfl⟩:=J2z (f:=J0c) (fun r h=>Jzk h) hr
 exact ⟨l,by rw [show Tryz.prog.cellsOf 175=7 by kernel_rfl]⟩
theorem Jox {f:Nat}{r:List AV}(h:Row Tryz.prog (f+12) 25 r):∃ x:DProgram,r=J00 x:=by
 obtain ⟨parts,rfl,g0⟩:=J4j Tryz.underlying25 h
 obtain ⟨x0,m1,rfl,h0,g1⟩:=J1i g0
 obtain ⟨x1,m2,rfl,h1,g2⟩:=J1i g1
 cases J5t g2
 obtain ⟨v0,rfl⟩:=Jkb h0
 obtain ⟨v1,rfl⟩:=Jtv h1
 exact ⟨⟨v0,v1⟩,rfl⟩
theorem Jmt {f:Nat}{a:AV}(h:Jiv Tryz.prog (f+12) 25 a):∃ x:DProgram,a = .agg (J00 x):=by
 obtain ⟨row,rfl,h1⟩:=Jdo Tryz.underlying25 h
 obtain ⟨x,rfl⟩:=Jox h1
 exact ⟨x,rfl⟩
theorem Jun {f:Nat}{r:List AV}(h:Row Tryz.prog (f+5) 74 r):∃ x:List (List DLin),r=[.sl 1 (x.map J2x)]:=by
 obtain ⟨rows,rfl,_,hr⟩:=J4q Tryz.underlying74 h
 obtain ⟨l,rfl⟩:=J2z (f:=J2x) (fun r h=>Jsy h) hr
 exact ⟨l,by rw [show Tryz.prog.cellsOf 51=1 by kernel_rfl]⟩
theorem Jow {f:Nat}{r:List AV}(h:Row Tryz.prog (f+6) 76 r):∃ x:DRanking,r=J0e x:=by
 obtain ⟨parts,rfl,g0⟩:=J4j Tryz.underlying76 h
 obtain ⟨x0,m1,rfl,h0,g1⟩:=J1i g0
 obtain ⟨x1,m2,rfl,h1,g2⟩:=J1i g1
 cases J5t g2
 obtain ⟨v0,rfl⟩:=Jun h0
 obtain ⟨v1,rfl⟩:=Jr2 h1
 exact ⟨⟨v0,v1⟩,rfl⟩
theorem Jmn {f:Nat}{a:AV}(h:Jiv Tryz.prog (f+6) 76 a):∃ x:DRanking,a = .agg (J0e x):=by
 obtain ⟨row,rfl,h1⟩:=Jdo Tryz.underlying76 h
 obtain ⟨x,rfl⟩:=Jow h1
 exact ⟨x,rfl⟩
end Go.Proofs.YtoclolkigjbcgaaGreat
namespace Go.Proofs.YtoclolkigjbcgaaGreat
set_option linter.all false
open Go Go.RowKit Go.Proofs Go.ChangeShapes Go.WideShapes
theorem Jgm {P:Program}{f:FuncId}{fn:Func}{s:ChangeSpec}{c:OpenClaim}(k0:c.wf (OpenSpec.ofChange s)=true) (k1:laidOutB P=true) (k2:mapsRowed P=true) (k3:fn.params.all (P.readableRec ·)=true) (k4:namedTie P c.named s.vars=true) (k5:(c.stops==[])=true) (k6:(P.stops==[])=true) (k7:(c.knobs==[])=true) (k8:(P.stopKnobs==[])=true) (k9:(c.inPlace==P.inPlace f)=true) (k10:(c.unfollowed==P.unfollowed f)=true) (k11:(c.recurses==P.recurses f)=true) (k12:(c.named==P.varsNamed f)=true) (k13:(c.maps==(fn.params.toList++s.plain.varTypes P).any (P.mapsRec ·))=true) (k14:(c.ifaces==(fn.params.toList++s.plain.varTypes P).any (P.ifacesRec ·))=true) (k15:(c.mapsOut==P.mapsAmong fn.resultTypes.toList)=true) (k16:(c.loops==(fn.params.toList++s.plain.varTypes P).any (P.loopsFrom ·))=true) (k17:(c.wideKeys==(fn.params.toList++s.plain.varTypes P++fn.resultTypes.toList).any (P.wideKeysFrom ·))=true) (k18:s.vars.all (P.varReadable ·)=true) (k19:fn.resultTypes.all (fun t=>P.readableRec t&&decide (t<P.types.size))=true) (k20:(c.ifacesOut==fn.resultTypes.toList.any (P.ifacesRec ·))=true) (k21:(c.loopsOut==fn.resultTypes.toList.any (P.loopsFrom ·))=true) (k22:(c.plainKeys==P.plainKeys)=true) (k23:c.shortTexts.isNone=true) (k24:P.stopsHeard=true) (k25:P.mayEnter=true) (k26:(c.lifted==P.liftsFinal)=true) (k27:(P.make==some c.make)=true) (k28:(c.kinds==(if c.domain.isEmpty then [] else fn.params.toList.map fun t=>match P.underlying t with|some (.int k)=>some k|_=>none))=true) (k29:(c.pinned==c.pinnedBy)=true) (k30:(c.veiled==(fn.params.toList++s.plain.varTypes P++fn.resultTypes.toList).any (P.veiledRec ·))=true) (k31:c.veiledFits P fn.params.toList (fn.params.toList++s.plain.varTypes P++fn.resultTypes.toList)=true):joinedFacts P f fn s c=true:=by
 simp only [joinedFacts,Bool.and_eq_true]
 and_intros <;> assumption
set_option maxRecDepth 100000
theorem K5t:laidOutB Tryz.pinned.checked.prog=true:=Tryz.laidOut
theorem K3x:mapsRowed Tryz.pinned.checked.prog=true:=by kernel_rfl
theorem Jz0:Tryz.pinned.checked.prog.stopsHeard=true:=by kernel_rfl
theorem Jz8:Tryz.pinned.checked.prog.mayEnter=true:=by kernel_rfl
end Go.Proofs.YtoclolkigjbcgaaGreat

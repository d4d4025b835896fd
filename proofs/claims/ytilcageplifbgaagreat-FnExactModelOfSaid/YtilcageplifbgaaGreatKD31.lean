/- The body of FnExactModelOf. -/
import Derived.Test.YtilcageplifbgaaGreatKHM5
import Derived.Test.YtilcageplifbgaaGreatKM3A
import Derived.Test.YtilcageplifbgaaGreatKRE
import Derived.Test.YtilcageplifbgaaGreatKT2A
import Derived.Test.YtilcageplifbgaaGreatKT1
import Derived.Test.YtilcageplifbgaaGreatProg
import Derived.Test.YtilcageplifbgaaGreatRows
namespace Go.Proofs.YtilcageplifbgaaGreat
set_option linter.all false
open Go Go.RowKit Go.Proofs
def a6:AFn:=
⟨101,[(.t 4)],(.seq
 (.reg [⟨some 2,(.boxv (.t 0)),no⟩,⟨some 4,(.mv (.k (.bool false))),no⟩]) (.seq
 (.reg [⟨some 5,(.mv (.k (.int .i64 1048576))),no⟩]) (.seq
 (.reg [⟨some 16,(.ld true 2 (.t 2)),no⟩,⟨some 17,(.mv (.t 5)),no⟩,⟨some 18,(.call (.k (.fn (.func 11) [] [])) [(.t 16),(.t 17)]),no⟩,⟨some 5,(.mv (.t 18)),no⟩]) (.seq (.seq
 (.reg [⟨some 19,(.mv (.t 5)),no⟩,⟨some 20,(.bin .lss (.t 19) (.k (.int .i64 0))),no⟩]) (.cond (.t 20) (.seq
 (.reg [⟨some 4,(.mv (.k (.bool true))),no⟩]) .ret) .skip)) (.seq
 (.reg [⟨some 22,(.ld true 2 (.t 2)),no⟩,⟨some 23,(.call (.k (.fn (.func 13) [] [])) [(.t 22)]),no⟩,⟨some 24,(.mv (.t 1)),no⟩,⟨some 25,(.call (.k (.fn (.func 32) [] [])) [(.t 23),(.t 24)]),no⟩,⟨some 21,(.mv (.t 25)),no⟩,⟨some 26,(.ext (.t 21) 0),no⟩,⟨some 27,(.ext (.t 21) 1),no⟩,⟨some 6,(.box [(.int .i64 0),(.nil 2),(.nil 2),(.nil 1),(.int .i64 0),(.nil 1)]),no⟩,⟨no,(.st 6 (.t 6) (.t 26)),no⟩,⟨some 7,(.mv (.t 27)),no⟩]) (.seq
 (.reg [⟨some 28,(.ld true 2 (.t 2)),no⟩,⟨some 29,(.call (.k (.fn (.func 13) [] [])) [(.t 28)]),no⟩,⟨some 8,(.box [(.nil 4),(.nil 7)]),no⟩,⟨no,(.st 2 (.t 8) (.t 29)),no⟩]) (.seq
 (.reg [⟨some 31,(.ld true 2 (.t 8)),no⟩,⟨some 32,(.mv (.t 1)),no⟩,⟨some 33,(.call (.k (.fn (.func 33) [] [])) [(.t 31),(.t 32)]),no⟩,⟨some 30,(.mv (.t 33)),no⟩,⟨some 34,(.ext (.t 30) 0),no⟩,⟨some 35,(.ext (.t 30) 1),no⟩,⟨some 9,(.box [(.int .i64 0),(.nil 2),(.nil 2),(.nil 1),(.int .i64 0),(.nil 1)]),no⟩,⟨no,(.st 6 (.t 9) (.t 34)),no⟩,⟨some 10,(.mv (.t 35)),no⟩]) (.seq (.seq
 (.reg [⟨some 36,(.ld true 6 (.t 9)),no⟩,⟨some 37,(.ld true 6 (.t 6)),no⟩,⟨some 38,(.call (.k (.fn (.func 34) [] [])) [(.t 36),(.t 37)]),no⟩,⟨some 39,(.un .not (.t 38)),no⟩,⟨some 40,(.mv (.t 39)),no⟩,⟨some 41,(.mv (.t 10)),(some (40,false))⟩,⟨some 42,(.mv (.t 7)),(some (40,false))⟩,⟨some 43,(.beq true (.t 41) (.t 42)),(some (40,false))⟩,⟨some 44,(.pick (.t 40) (.k (.bool true)) (.t 43)),no⟩]) (.cond (.t 44) (.seq
 (.reg [⟨some 4,(.mv (.k (.bool false))),no⟩]) .ret) .skip)) (.seq (.seq (.draw (.op ⟨some 45,(.ld true 2 (.t 8)),no⟩ (.op ⟨some 46,(.ld true 2 (.t 2)),no⟩ (.op ⟨some 47,(.call (.k (.fn (.func 13) [] [])) [(.t 46)]),no⟩ (.op ⟨some 48,(.call (.k (.fn (.func 16) [] [])) [(.t 45),(.t 47)]),no⟩ (.op ⟨some 49,(.un .not (.t 48)),no⟩ .fin)))))) (.cond (.t 49) (.seq
 (.reg [⟨some 4,(.mv (.k (.bool false))),no⟩]) .ret) .skip)) (.seq
 (.reg [⟨some 11,(.mv (.k (.int .i64 1))),no⟩]) (.seq
 (.reg [⟨some 50,(.ld true 2 (.t 8)),no⟩,⟨some 51,(.mv (.t 11)),no⟩,⟨some 52,(.call (.k (.fn (.func 17) [] [])) [(.t 50),(.t 51)]),no⟩,⟨some 11,(.mv (.t 52)),no⟩]) (.seq (.seq
 (.reg [⟨some 53,(.mv (.t 11)),no⟩,⟨some 54,(.bin .lss (.t 53) (.k (.int .i64 0))),no⟩,⟨some 55,(.mv (.t 54)),no⟩,⟨some 56,(.ld true 6 (.t 9)),(some (55,false))⟩,⟨some 57,(.ld true 6 (.t 6)),(some (55,false))⟩,⟨some 58,(.call (.k (.fn (.func 34) [] [])) [(.t 56),(.t 57)]),(some (55,false))⟩,⟨some 59,(.un .not (.t 58)),(some (55,false))⟩,⟨some 60,(.pick (.t 55) (.k (.bool true)) (.t 59)),no⟩,⟨some 61,(.mv (.t 60)),no⟩,⟨some 62,(.mv (.t 10)),(some (61,false))⟩,⟨some 63,(.mv (.t 7)),(some (61,false))⟩,⟨some 64,(.beq true (.t 62) (.t 63)),(some (61,false))⟩,⟨some 65,(.pick (.t 61) (.k (.bool true)) (.t 64)),no⟩]) (.cond (.t 65) (.seq
 (.reg [⟨some 4,(.mv (.k (.bool false))),no⟩]) .ret) .skip)) (.seq
 (.reg [⟨some 12,(.mv (.k (.int .i64 1))),no⟩]) (.seq
 (.reg [⟨some 66,(.ld true 6 (.t 9)),no⟩,⟨some 67,(.mv (.t 12)),no⟩,⟨some 68,(.call (.k (.fn (.func 35) [] [])) [(.t 66),(.t 67)]),no⟩,⟨some 12,(.mv (.t 68)),no⟩]) (.seq
 (.reg [⟨some 13,(.mv (.k (.int .i64 1))),no⟩]) (.seq
 (.reg [⟨some 69,(.ld true 6 (.t 9)),no⟩,⟨some 70,(.mv (.t 13)),no⟩,⟨some 71,(.call (.k (.fn (.func 36) [] [])) [(.t 69),(.t 70)]),no⟩,⟨some 13,(.mv (.t 71)),no⟩]) (.seq (.seq
 (.reg [⟨some 72,(.mv (.t 13)),no⟩,⟨some 73,(.bin .lss (.t 72) (.k (.int .i64 0))),no⟩]) (.cond (.t 73) (.seq
 (.reg [⟨some 4,(.mv (.k (.bool false))),no⟩]) .ret) .skip)) (.seq (.seq
 (.reg [⟨some 74,(.mv (.t 13)),no⟩,⟨some 75,(.mv (.t 12)),no⟩,⟨some 76,(.bin .neq (.t 74) (.t 75)),no⟩]) (.cond (.t 76) (.seq
 (.reg [⟨some 4,(.mv (.k (.bool false))),no⟩]) .ret) .skip)) (.seq
 (.reg [⟨some 78,(.ld true 2 (.t 2)),no⟩,⟨some 79,(.call (.k (.fn (.func 13) [] [])) [(.t 78)]),no⟩,⟨some 80,(.mv (.t 1)),no⟩,⟨some 81,(.call (.k (.fn (.func 33) [] [])) [(.t 79),(.t 80)]),no⟩,⟨some 77,(.mv (.t 81)),no⟩,⟨some 82,(.ext (.t 77) 0),no⟩,⟨some 83,(.ext (.t 77) 1),no⟩,⟨some 14,(.box [(.int .i64 0),(.nil 2),(.nil 2),(.nil 1),(.int .i64 0),(.nil 1)]),no⟩,⟨no,(.st 6 (.t 14) (.t 82)),no⟩,⟨some 15,(.mv (.t 83)),no⟩]) (.seq (.seq
 (.reg [⟨some 84,(.ld true 6 (.t 14)),no⟩,⟨some 85,(.ld true 6 (.t 6)),no⟩,⟨some 86,(.call (.k (.fn (.func 34) [] [])) [(.t 84),(.t 85)]),no⟩,⟨some 87,(.un .not (.t 86)),no⟩,⟨some 88,(.mv (.t 87)),no⟩,⟨some 89,(.mv (.t 15)),(some (88,false))⟩,⟨some 90,(.mv (.t 7)),(some (88,false))⟩,⟨some 91,(.beq true (.t 89) (.t 90)),(some (88,false))⟩,⟨some 92,(.pick (.t 88) (.k (.bool true)) (.t 91)),no⟩]) (.cond (.t 92) (.seq
 (.reg [⟨some 4,(.mv (.k (.bool false))),no⟩]) .ret) .skip)) (.seq
 (.reg [⟨some 13,(.mv (.k (.int .i64 1))),no⟩]) (.seq
 (.reg [⟨some 93,(.ld true 6 (.t 9)),no⟩,⟨some 94,(.mv (.t 13)),no⟩,⟨some 95,(.call (.k (.fn (.func 36) [] [])) [(.t 93),(.t 94)]),no⟩,⟨some 13,(.mv (.t 95)),no⟩]) (.seq (.seq
 (.reg [⟨some 96,(.mv (.t 13)),no⟩,⟨some 97,(.bin .lss (.t 96) (.k (.int .i64 0))),no⟩]) (.cond (.t 97) (.seq
 (.reg [⟨some 4,(.mv (.k (.bool false))),no⟩]) .ret) .skip)) (.seq (.seq
 (.reg [⟨some 98,(.mv (.t 13)),no⟩,⟨some 99,(.mv (.t 12)),no⟩,⟨some 100,(.bin .neq (.t 98) (.t 99)),no⟩]) (.cond (.t 100) (.seq
 (.reg [⟨some 4,(.mv (.k (.bool false))),no⟩]) .ret) .skip)) (.seq
 (.reg [⟨some 4,(.mv (.k (.bool true))),no⟩]) .ret)))))))))))))))))))))))))⟩
theorem a6_ok:compFn Tryz.prog Tryz.f6=some a6:=by kernel_rfl
set_option maxRecDepth 40000 in
set_option maxHeartbeats 4000000 in
theorem law_ModelOf (aP:DProgram) (aK:Int):Holds Tryz.prog 6 [.agg (rAProgram aP),i64 aK] (fun x=>x = .bool true):=by
  refine holds_of_run Tryz.func6 a6_ok rfl (by simp [a6]) ?_
  simp [a6]
  first | refine callD_of (k_szProgram aP 1048576 (by omega)) (by simp) ?_ | refine call_of (k_szProgram aP 1048576 (by omega)) (by simp) ?_ | refine callD_of (k_szProgram aP 1048576 (by omega)) rfl ?_ | refine call_of (k_szProgram aP 1048576 (by omega)) rfl ?_
  rintro r rfl
  by_cases h1:1048576 - (wProgram aP:Int)<0
  · simp [sub1,h1]
  simp [sub1,h1]
  have hw_aP:wProgram aP≤1048576:=by omega
  have hb_aP:=cw_Program aP
  first | refine lsD_agg (k_toProgram aP hw_aP) ((LS.start).push) (by simp) ⟨.inl (fun h=>by first | rfl | simp),trivial⟩ ?_ | refine ls_agg (k_toProgram aP hw_aP) ((LS.start).push) (by simp) ⟨.inl (fun h=>by first | rfl | simp),trivial⟩ ?_
  intro c0 h0x n0 J0 S0 hl0 hc0
  have e:=S0.eqs; have ne:=S0.nes; simp only [bxE,bxN,Nat.zero_add,Nat.reduceAdd] at e ne; simp only [len_UProgram] at hl0
  have ht0:List.take 2 c0=c0:=List.take_of_length_le (by omega)
  simp [e,ne,hl0,ht0,hc0]
  first | refine lsD_agg2 (ks_ModelOf aP hw_aP aK) (S0) rfl (by simp) ⟨.inr ⟨_,.head _,rfl,by simp [dr]⟩,.inl (fun h=>by first | rfl | simp),trivial⟩ ?_ | refine ls_agg2 (ks_ModelOf aP hw_aP aK) (S0) rfl (by simp) ⟨.inr ⟨_,.head _,rfl,by simp [dr]⟩,.inl (fun h=>by first | rfl | simp),trivial⟩ ?_
  intro c1 h1x n1 J1 S1 hl1 hc1
  have e:=S1.eqs; have ne:=S1.nes; simp only [bxE,bxN,Nat.zero_add,Nat.reduceAdd] at e ne; simp only [len_UModel] at hl1
  have ht1:List.take 6 c1=c1:=List.take_of_length_le (by omega)
  simp [e,ne,hl0,ht0,hl1,ht1,hc1]
  first | refine lsD_agg (k_toProgram aP hw_aP) ((S1).push) (by simp) ⟨.inl (fun h=>by first | rfl | simp),trivial⟩ ?_ | refine ls_agg (k_toProgram aP hw_aP) ((S1).push) (by simp) ⟨.inl (fun h=>by first | rfl | simp),trivial⟩ ?_
  intro c2 h2x n2 J2 S2 hl2 hc2
  have e:=S2.eqs; have ne:=S2.nes; simp only [bxE,bxN,Nat.zero_add,Nat.reduceAdd] at e ne; simp only [len_UProgram] at hl2
  have ht2:List.take 2 c2=c2:=List.take_of_length_le (by omega)
  simp [e,ne,hl0,ht0,hl1,ht1,hl2,ht2,hc2]
  first | refine lsD_agg2 (k_ModelOf aP hw_aP aK) ((S2).push) rfl (by simp) ⟨.inr ⟨_,.head _,rfl,by simp [dr]⟩,.inl (fun h=>by first | rfl | simp),trivial⟩ ?_ | refine ls_agg2 (k_ModelOf aP hw_aP aK) ((S2).push) rfl (by simp) ⟨.inr ⟨_,.head _,rfl,by simp [dr]⟩,.inl (fun h=>by first | rfl | simp),trivial⟩ ?_
  intro c3 h3x n3 J3 S3 hl3 hc3
  have e:=S3.eqs; have ne:=S3.nes; simp only [bxE,bxN,Nat.zero_add,Nat.reduceAdd] at e ne; simp only [len_UModel] at hl3
  have ht3:List.take 6 c3=c3:=List.take_of_length_le (by omega)
  simp [e,ne,hl0,ht0,hl1,ht1,hl2,ht2,hl3,ht3,hc3]
  first | refine lsD_scal (k_eqModel (((modelP aP aK).getD model0)) (((modelP aP aK).getD model0))) ((S3).push) rfl ⟨.inr ⟨_,.head _,rfl,by simp [dr]⟩,.inr ⟨_,.tail _ (.tail _ (.head _)),rfl,by simp [dr]⟩,trivial⟩ ?_ | refine ls_scal (k_eqModel (((modelP aP aK).getD model0)) (((modelP aP aK).getD model0))) ((S3).push) rfl ⟨.inr ⟨_,.head _,rfl,by simp [dr]⟩,.inr ⟨_,.tail _ (.tail _ (.head _)),rfl,by simp [dr]⟩,trivial⟩ ?_
  simp [e,ne,hl0,ht0,hl1,ht1,hl2,ht2,hl3,ht3]
  first | refine lsD_agg (k_toProgram aP hw_aP) ((S3).push) (by simp) ⟨.inl (fun h=>by first | rfl | simp),trivial⟩ ?_ | refine ls_agg (k_toProgram aP hw_aP) ((S3).push) (by simp) ⟨.inl (fun h=>by first | rfl | simp),trivial⟩ ?_
  intro c4 h4x n4 J4 S4 hl4 hc4
  have e:=S4.eqs; have ne:=S4.nes; simp only [bxE,bxN,Nat.zero_add,Nat.reduceAdd] at e ne; simp only [len_UProgram] at hl4
  have ht4:List.take 2 c4=c4:=List.take_of_length_le (by omega)
  simp [e,ne,hl0,ht0,hl1,ht1,hl2,ht2,hl3,ht3,hl4,ht4,hc4]
  first | refine lsD_scal (k_eqProgram (aP) (aP)) (S4) rfl ⟨.inr ⟨_,.tail _ (.tail _ (.head _)),rfl,by simp [dr]⟩,.inr ⟨_,.head _,rfl,by simp [dr]⟩,trivial⟩ ?_ | refine ls_scal (k_eqProgram (aP) (aP)) (S4) rfl ⟨.inr ⟨_,.tail _ (.tail _ (.head _)),rfl,by simp [dr]⟩,.inr ⟨_,.head _,rfl,by simp [dr]⟩,trivial⟩ ?_
  simp [e,ne,hl0,ht0,hl1,ht1,hl2,ht2,hl3,ht3,hl4,ht4]
  refine ls_mark (T1:=[_,_]) (m_markProgram (aP) (1) (by omega)) (S4) ?_
  intro h5x n5 S5
  have e:=S5.eqs; have ne:=S5.nes; simp only [bxE,bxN,Nat.zero_add,Nat.reduceAdd] at e ne
  have hq1:¬1+cProgram aP<(0:Int):=by omega
  simp [e,ne,hl0,ht0,hl1,ht1,hl2,ht2,hl3,ht3,hl4,ht4,hq1]
  first | refine lsD_scal (k_eqModel (((modelP aP aK).getD model0)) (((modelP aP aK).getD model0))) (S5) rfl ⟨.inr ⟨_,.tail _ (.head _),rfl,by simp [dr]⟩,.inr ⟨_,.tail _ (.tail _ (.tail _ (.head _))),rfl,by simp [dr]⟩,trivial⟩ ?_ | refine ls_scal (k_eqModel (((modelP aP aK).getD model0)) (((modelP aP aK).getD model0))) (S5) rfl ⟨.inr ⟨_,.tail _ (.head _),rfl,by simp [dr]⟩,.inr ⟨_,.tail _ (.tail _ (.tail _ (.head _))),rfl,by simp [dr]⟩,trivial⟩ ?_
  simp [e,ne,hl0,ht0,hl1,ht1,hl2,ht2,hl3,ht3,hl4,ht4]
  have hg:=modelP_c aP aK
  have hm:¬1+(cModel (((modelP aP aK).getD model0)):Int)<0:=by omega
  refine ls_mark (T1:=[_]) (m_markModel (((modelP aP aK).getD model0)) (1) (by omega)) (S5) ?_
  intro h6x n6 S6
  have e:=S6.eqs; have ne:=S6.nes; simp only [bxE,bxN,Nat.zero_add,Nat.reduceAdd] at e ne
  have hq2:¬1+cModel (((modelP aP aK).getD model0))<(0:Int):=by omega
  simp [e,ne,hl0,ht0,hl1,ht1,hl2,ht2,hl3,ht3,hl4,ht4,hq2]
  first | refine lsD_scal (k_heldModel (((modelP aP aK).getD model0)) (1) (by omega)) (S6) rfl ⟨.inr ⟨_,.tail _ (.head _),rfl,by simp [dr]⟩,.inl (fun h=>by first | rfl | simp),trivial⟩ ?_ | refine ls_scal (k_heldModel (((modelP aP aK).getD model0)) (1) (by omega)) (S6) rfl ⟨.inr ⟨_,.tail _ (.head _),rfl,by simp [dr]⟩,.inl (fun h=>by first | rfl | simp),trivial⟩ ?_
  simp [e,ne,hl0,ht0,hl1,ht1,hl2,ht2,hl3,ht3,hl4,ht4,hm]
  first | refine lsD_agg (k_toProgram aP hw_aP) (S6) (by simp) ⟨.inl (fun h=>by first | rfl | simp),trivial⟩ ?_ | refine ls_agg (k_toProgram aP hw_aP) (S6) (by simp) ⟨.inl (fun h=>by first | rfl | simp),trivial⟩ ?_
  intro c7 h7x n7 J7 S7 hl7 hc7
  have e:=S7.eqs; have ne:=S7.nes; simp only [bxE,bxN,Nat.zero_add,Nat.reduceAdd] at e ne; simp only [len_UProgram] at hl7
  have ht7:List.take 2 c7=c7:=List.take_of_length_le (by omega)
  simp [e,ne,hl0,ht0,hl1,ht1,hl2,ht2,hl3,ht3,hl4,ht4,hl7,ht7,hc7]
  first | refine lsD_agg2 (k_ModelOf aP hw_aP aK) (S7) rfl (by simp) ⟨.inr ⟨_,.head _,rfl,by simp [dr]⟩,.inl (fun h=>by first | rfl | simp),trivial⟩ ?_ | refine ls_agg2 (k_ModelOf aP hw_aP aK) (S7) rfl (by simp) ⟨.inr ⟨_,.head _,rfl,by simp [dr]⟩,.inl (fun h=>by first | rfl | simp),trivial⟩ ?_
  intro c8 h8x n8 J8 S8 hl8 hc8
  have e:=S8.eqs; have ne:=S8.nes; simp only [bxE,bxN,Nat.zero_add,Nat.reduceAdd] at e ne; simp only [len_UModel] at hl8
  have ht8:List.take 6 c8=c8:=List.take_of_length_le (by omega)
  simp [e,ne,hl0,ht0,hl1,ht1,hl2,ht2,hl3,ht3,hl4,ht4,hl7,ht7,hl8,ht8,hc8]
  first | refine lsD_scal (k_eqModel (((modelP aP aK).getD model0)) (((modelP aP aK).getD model0))) ((S8).push) rfl ⟨.inr ⟨_,.head _,rfl,by simp [dr]⟩,.inr ⟨_,.tail _ (.tail _ (.tail _ (.tail _ (.tail _ (.head _))))),rfl,by simp [dr]⟩,trivial⟩ ?_ | refine ls_scal (k_eqModel (((modelP aP aK).getD model0)) (((modelP aP aK).getD model0))) ((S8).push) rfl ⟨.inr ⟨_,.head _,rfl,by simp [dr]⟩,.inr ⟨_,.tail _ (.tail _ (.tail _ (.tail _ (.tail _ (.head _))))),rfl,by simp [dr]⟩,trivial⟩ ?_
  simp [e,ne,hl0,ht0,hl1,ht1,hl2,ht2,hl3,ht3,hl4,ht4,hl7,ht7,hl8,ht8]
  first | refine lsD_scal (k_heldModel (((modelP aP aK).getD model0)) (1) (by omega)) ((S8).push) rfl ⟨.inr ⟨_,.tail _ (.tail _ (.tail _ (.head _))),rfl,by simp [dr]⟩,.inl (fun h=>by first | rfl | simp),trivial⟩ ?_ | refine ls_scal (k_heldModel (((modelP aP aK).getD model0)) (1) (by omega)) ((S8).push) rfl ⟨.inr ⟨_,.tail _ (.tail _ (.tail _ (.head _))),rfl,by simp [dr]⟩,.inl (fun h=>by first | rfl | simp),trivial⟩ ?_
  simp [e,ne,hl0,ht0,hl1,ht1,hl2,ht2,hl3,ht3,hl4,ht4,hl7,ht7,hl8,ht8,hm]
end Go.Proofs.YtilcageplifbgaaGreat

namespace Go.Proofs.YtilcageplifbgaaGreat
set_option linter.all false
open Go Go.RowKit Go.Proofs Go.ChangeShapes Go.WideShapes
theorem Tryz.own:ownKnob Tryz.prog.godebug=none:=by kernel_rfl
theorem Tryz.laidOut:laidOutB Tryz.prog=true:=by kernel_rfl
theorem list_of_rows {α:Type} {P:List AV→Prop} {f:α→List AV} (hP:∀ r,P r→∃ x,r=f x):∀ {rows:List (List AV)},(∀ r∈rows,P r)→∃ l:List α,rows=l.map f
  | [],_=>⟨[],rfl⟩
  | r::rows,h=>by
    obtain ⟨x,rfl⟩:=hP r (h _ List.mem_cons_self)
    obtain ⟨l,rfl⟩:=list_of_rows hP fun r hr=>h r (List.mem_cons_of_mem _ hr)
    exact ⟨x::l,rfl⟩
theorem ArgOf_int {P:Program} {f:Nat} {t:TypeId} {k:IntKind} {a:AV} (hu:P.underlying t=some (.int k)) (h:ArgOf P (f+1) t a):∃ n,a = .int k n∧(Lit.int k n).wf=true:=by
  have h:Row P (f+1) t [a]:=by simpa only [ArgOf,hu] using h
  obtain ⟨n,h1,h2⟩:=Row_int hu h
  exact ⟨n,by simpa using h1,h2⟩
set_option maxRecDepth 100000
theorem of_IntS {f:Nat} {r:List AV} (h:Row Tryz.prog (f+2) 47 r):∃ x:List Int,r=[.sl 1 (intsR x)]:=by
  obtain ⟨l,rfl⟩:=ints_of Tryz.underlying47 Tryz.underlying3 (by kernel_rfl) h
  exact ⟨l,rfl⟩
theorem of_Lin {f:Nat} {r:List AV} (h:Row Tryz.prog (f+3) 49 r):∃ x:DLin,r=rALin x:=by
  obtain ⟨parts,rfl,g0⟩:=Row_struct Tryz.underlying49 h
  obtain ⟨x0,m1,rfl,h0,g1⟩:=All2_cons g0
  obtain ⟨x1,m2,rfl,h1,g2⟩:=All2_cons g1
  cases All2_nil g2
  obtain ⟨v0,rfl,_⟩:=Row_int Tryz.underlying3 h0
  obtain ⟨v1,rfl⟩:=of_IntS h1
  exact ⟨⟨v0,v1⟩,rfl⟩
theorem of_LinS {f:Nat} {r:List AV} (h:Row Tryz.prog (f+4) 71 r):∃ x:List DLin,r=[.sl 2 (x.map rALin)]:=by
  obtain ⟨rows,rfl,_,hr⟩:=Row_slice Tryz.underlying71 h
  obtain ⟨l,rfl⟩:=list_of_rows (f:=rALin) (fun r h=>of_Lin h) hr
  exact ⟨l,by rw [show Tryz.prog.cellsOf 49=2 by kernel_rfl]⟩
theorem of_Term {f:Nat} {r:List AV} (h:Row Tryz.prog (f+2) 319 r):∃ x:DTerm,r=rATerm x:=by
  obtain ⟨parts,rfl,g0⟩:=Row_struct Tryz.underlying319 h
  obtain ⟨x0,m1,rfl,h0,g1⟩:=All2_cons g0
  obtain ⟨x1,m2,rfl,h1,g2⟩:=All2_cons g1
  cases All2_nil g2
  obtain ⟨v0,rfl,_⟩:=Row_int Tryz.underlying3 h0
  obtain ⟨v1,rfl,_⟩:=Row_string Tryz.underlying9 h1
  exact ⟨⟨v0,v1⟩,rfl⟩
theorem of_TermS {f:Nat} {r:List AV} (h:Row Tryz.prog (f+3) 280 r):∃ x:List DTerm,r=[.sl 2 (x.map rATerm)]:=by
  obtain ⟨rows,rfl,_,hr⟩:=Row_slice Tryz.underlying280 h
  obtain ⟨l,rfl⟩:=list_of_rows (f:=rATerm) (fun r h=>of_Term h) hr
  exact ⟨l,by rw [show Tryz.prog.cellsOf 319=2 by kernel_rfl]⟩
theorem of_Sum {f:Nat} {r:List AV} (h:Row Tryz.prog (f+4) 282 r):∃ x:DSum,r=rASum x:=by
  obtain ⟨parts,rfl,g0⟩:=Row_struct Tryz.underlying282 h
  obtain ⟨x0,m1,rfl,h0,g1⟩:=All2_cons g0
  obtain ⟨x1,m2,rfl,h1,g2⟩:=All2_cons g1
  cases All2_nil g2
  obtain ⟨v0,rfl,_⟩:=Row_int Tryz.underlying3 h0
  obtain ⟨v1,rfl⟩:=of_TermS h1
  exact ⟨⟨v0,v1⟩,rfl⟩
theorem of_SumS {f:Nat} {r:List AV} (h:Row Tryz.prog (f+5) 185 r):∃ x:List DSum,r=[.sl 2 (x.map rASum)]:=by
  obtain ⟨rows,rfl,_,hr⟩:=Row_slice Tryz.underlying185 h
  obtain ⟨l,rfl⟩:=list_of_rows (f:=rASum) (fun r h=>of_Sum h) hr
  exact ⟨l,by rw [show Tryz.prog.cellsOf 282=2 by kernel_rfl]⟩
theorem of_Arg {f:Nat} {r:List AV} (h:Row Tryz.prog (f+6) 188 r):∃ x:DArg,r=rAArg x:=by
  obtain ⟨parts,rfl,g0⟩:=Row_struct Tryz.underlying188 h
  obtain ⟨x0,m1,rfl,h0,g1⟩:=All2_cons g0
  obtain ⟨x1,m2,rfl,h1,g2⟩:=All2_cons g1
  obtain ⟨x2,m3,rfl,h2,g3⟩:=All2_cons g2
  cases All2_nil g3
  obtain ⟨v0,rfl⟩:=Row_bool Tryz.underlying4 h0
  obtain ⟨v1,rfl⟩:=of_SumS h1
  obtain ⟨v2,rfl,_⟩:=Row_string Tryz.underlying9 h2
  exact ⟨⟨v0,v1,v2⟩,rfl⟩
theorem of_ArgS {f:Nat} {r:List AV} (h:Row Tryz.prog (f+7) 284 r):∃ x:List DArg,r=[.sl 3 (x.map rAArg)]:=by
  obtain ⟨rows,rfl,_,hr⟩:=Row_slice Tryz.underlying284 h
  obtain ⟨l,rfl⟩:=list_of_rows (f:=rAArg) (fun r h=>of_Arg h) hr
  exact ⟨l,by rw [show Tryz.prog.cellsOf 188=3 by kernel_rfl]⟩
theorem of_StringS {f:Nat} {r:List AV} (h:Row Tryz.prog (f+2) 92 r):∃ x:List Str,r=[.sl 1 (strsR x)]:=by
  obtain ⟨rows,rfl,_,hr⟩:=Row_slice Tryz.underlying92 h
  obtain ⟨l,rfl⟩:=list_of_rows (f:=fun s:Str=>[.str s]) (fun r h=>(Row_string Tryz.underlying9 h).elim fun l h=>⟨l,h.1⟩) hr
  exact ⟨l,by rw [show Tryz.prog.cellsOf 9=1 by kernel_rfl]; rfl⟩
theorem of_Function {f:Nat} {r:List AV} (h:Row Tryz.prog (f+5) 182 r):∃ x:DFunction,r=rAFunction x:=by
  obtain ⟨parts,rfl,g0⟩:=Row_struct Tryz.underlying182 h
  obtain ⟨x0,m1,rfl,h0,g1⟩:=All2_cons g0
  obtain ⟨x1,m2,rfl,h1,g2⟩:=All2_cons g1
  obtain ⟨x2,m3,rfl,h2,g3⟩:=All2_cons g2
  obtain ⟨x3,m4,rfl,h3,g4⟩:=All2_cons g3
  cases All2_nil g4
  obtain ⟨v0,rfl,_⟩:=Row_string Tryz.underlying9 h0
  obtain ⟨v1,rfl⟩:=of_StringS h1
  obtain ⟨v2,rfl⟩:=Row_bool Tryz.underlying4 h2
  obtain ⟨v3,rfl⟩:=of_LinS h3
  exact ⟨⟨v0,v1,v2,v3⟩,rfl⟩
theorem of_FunctionS {f:Nat} {r:List AV} (h:Row Tryz.prog (f+6) 22 r):∃ x:List DFunction,r=[.sl 4 (x.map rAFunction)]:=by
  obtain ⟨rows,rfl,_,hr⟩:=Row_slice Tryz.underlying22 h
  obtain ⟨l,rfl⟩:=list_of_rows (f:=rAFunction) (fun r h=>of_Function h) hr
  exact ⟨l,by rw [show Tryz.prog.cellsOf 182=4 by kernel_rfl]⟩
theorem of_Pattern {f:Nat} {r:List AV} (h:Row Tryz.prog (f+2) 278 r):∃ x:DPattern,r=rAPattern x:=by
  obtain ⟨parts,rfl,g0⟩:=Row_struct Tryz.underlying278 h
  obtain ⟨x0,m1,rfl,h0,g1⟩:=All2_cons g0
  obtain ⟨x1,m2,rfl,h1,g2⟩:=All2_cons g1
  obtain ⟨x2,m3,rfl,h2,g3⟩:=All2_cons g2
  obtain ⟨x3,m4,rfl,h3,g4⟩:=All2_cons g3
  cases All2_nil g4
  obtain ⟨v0,rfl,_⟩:=Row_string Tryz.underlying9 h0
  obtain ⟨v1,rfl⟩:=Row_bool Tryz.underlying4 h1
  obtain ⟨v2,rfl,_⟩:=Row_string Tryz.underlying9 h2
  obtain ⟨v3,rfl,_⟩:=Row_string Tryz.underlying9 h3
  exact ⟨⟨v0,v1,v2,v3⟩,rfl⟩
theorem of_PatternS {f:Nat} {r:List AV} (h:Row Tryz.prog (f+3) 184 r):∃ x:List DPattern,r=[.sl 4 (x.map rAPattern)]:=by
  obtain ⟨rows,rfl,_,hr⟩:=Row_slice Tryz.underlying184 h
  obtain ⟨l,rfl⟩:=list_of_rows (f:=rAPattern) (fun r h=>of_Pattern h) hr
  exact ⟨l,by rw [show Tryz.prog.cellsOf 278=4 by kernel_rfl]⟩
theorem of_Call {f:Nat} {r:List AV} (h:Row Tryz.prog (f+8) 286 r):∃ x:DCall,r=rACall x:=by
  obtain ⟨parts,rfl,g0⟩:=Row_struct Tryz.underlying286 h
  obtain ⟨x0,m1,rfl,h0,g1⟩:=All2_cons g0
  obtain ⟨x1,m2,rfl,h1,g2⟩:=All2_cons g1
  obtain ⟨x2,m3,rfl,h2,g3⟩:=All2_cons g2
  cases All2_nil g3
  obtain ⟨v0,rfl,_⟩:=Row_string Tryz.underlying9 h0
  obtain ⟨v1,rfl,_⟩:=Row_string Tryz.underlying9 h1
  obtain ⟨v2,rfl⟩:=of_ArgS h2
  exact ⟨⟨v0,v1,v2⟩,rfl⟩
theorem of_CallS {f:Nat} {r:List AV} (h:Row Tryz.prog (f+9) 186 r):∃ x:List DCall,r=[.sl 3 (x.map rACall)]:=by
  obtain ⟨rows,rfl,_,hr⟩:=Row_slice Tryz.underlying186 h
  obtain ⟨l,rfl⟩:=list_of_rows (f:=rACall) (fun r h=>of_Call h) hr
  exact ⟨l,by rw [show Tryz.prog.cellsOf 286=3 by kernel_rfl]⟩
theorem of_Rule {f:Nat} {r:List AV} (h:Row Tryz.prog (f+10) 190 r):∃ x:DRule,r=rARule x:=by
  obtain ⟨parts,rfl,g0⟩:=Row_struct Tryz.underlying190 h
  obtain ⟨x0,m1,rfl,h0,g1⟩:=All2_cons g0
  obtain ⟨x1,m2,rfl,h1,g2⟩:=All2_cons g1
  obtain ⟨x2,m3,rfl,h2,g3⟩:=All2_cons g2
  obtain ⟨x3,m4,rfl,h3,g4⟩:=All2_cons g3
  obtain ⟨x4,m5,rfl,h4,g5⟩:=All2_cons g4
  cases All2_nil g5
  obtain ⟨v0,rfl,_⟩:=Row_string Tryz.underlying9 h0
  obtain ⟨v1,rfl⟩:=of_PatternS h1
  obtain ⟨v2,rfl⟩:=of_SumS h2
  obtain ⟨v3,rfl⟩:=of_CallS h3
  obtain ⟨v4,rfl⟩:=of_Arg h4
  exact ⟨⟨v0,v1,v2,v3,v4⟩,rfl⟩
theorem of_RuleS {f:Nat} {r:List AV} (h:Row Tryz.prog (f+11) 23 r):∃ x:List DRule,r=[.sl 7 (x.map rARule)]:=by
  obtain ⟨rows,rfl,_,hr⟩:=Row_slice Tryz.underlying23 h
  obtain ⟨l,rfl⟩:=list_of_rows (f:=rARule) (fun r h=>of_Rule h) hr
  exact ⟨l,by rw [show Tryz.prog.cellsOf 190=7 by kernel_rfl]⟩
theorem of_Program {f:Nat} {r:List AV} (h:Row Tryz.prog (f+12) 25 r):∃ x:DProgram,r=rAProgram x:=by
  obtain ⟨parts,rfl,g0⟩:=Row_struct Tryz.underlying25 h
  obtain ⟨x0,m1,rfl,h0,g1⟩:=All2_cons g0
  obtain ⟨x1,m2,rfl,h1,g2⟩:=All2_cons g1
  cases All2_nil g2
  obtain ⟨v0,rfl⟩:=of_FunctionS h0
  obtain ⟨v1,rfl⟩:=of_RuleS h1
  exact ⟨⟨v0,v1⟩,rfl⟩
theorem arg_Program {f:Nat} {a:AV} (h:ArgOf Tryz.prog (f+12) 25 a):∃ x:DProgram,a = .agg (rAProgram x):=by
  obtain ⟨row,rfl,h1⟩:=ArgOf_struct Tryz.underlying25 h
  obtain ⟨x,rfl⟩:=of_Program h1
  exact ⟨x,rfl⟩
end Go.Proofs.YtilcageplifbgaaGreat

namespace Go.Proofs.YtilcageplifbgaaGreat
set_option linter.all false
open Go Go.RowKit Go.Proofs Go.ChangeShapes Go.WideShapes
theorem joinedFacts_of {P:Program} {f:FuncId} {fn:Func} {s:ChangeSpec} {c:OpenClaim} (k0:c.wf (OpenSpec.ofChange s)=true) (k1:laidOutB P=true) (k2:mapsRowed P=true) (k3:fn.params.all (P.readableRec ·)=true) (k4:namedTie P c.named s.vars=true) (k5:(c.stops==[])=true) (k6:(P.stops==[])=true) (k7:(c.knobs==[])=true) (k8:(P.stopKnobs==[])=true) (k9:(c.inPlace==P.inPlace f)=true) (k10:(c.unfollowed==P.unfollowed f)=true) (k11:(c.recurses==P.recurses f)=true) (k12:(c.named==P.varsNamed f)=true) (k13:(c.maps==(fn.params.toList++s.plain.varTypes P).any (P.mapsRec ·))=true) (k14:(c.ifaces==(fn.params.toList++s.plain.varTypes P).any (P.ifacesRec ·))=true) (k15:(c.mapsOut==P.mapsAmong fn.resultTypes.toList)=true) (k16:(c.loops==(fn.params.toList++s.plain.varTypes P).any (P.loopsFrom ·))=true) (k17:(c.wideKeys==(fn.params.toList++s.plain.varTypes P++fn.resultTypes.toList).any (P.wideKeysFrom ·))=true) (k18:s.vars.all (P.varReadable ·)=true) (k19:fn.resultTypes.all (fun t=>P.readableRec t&&decide (t<P.types.size))=true) (k20:(c.ifacesOut==fn.resultTypes.toList.any (P.ifacesRec ·))=true) (k21:(c.loopsOut==fn.resultTypes.toList.any (P.loopsFrom ·))=true) (k22:(c.plainKeys==P.plainKeys)=true) (k23:c.shortTexts.isNone=true) (k24:P.stopsHeard=true) (k25:P.mayEnter=true) (k26:(c.lifted==P.liftsFinal)=true) (k27:(P.make==some c.make)=true) (k28:(c.kinds==(if c.domain.isEmpty then [] else fn.params.toList.map fun t=>match P.underlying t with | some (.int k)=>some k | _=>none))=true) (k29:(c.pinned==c.pinnedBy)=true) (k30:(c.veiled==(fn.params.toList++s.plain.varTypes P++fn.resultTypes.toList).any (P.veiledRec ·))=true) (k31:c.veiledFits P fn.params.toList (fn.params.toList++s.plain.varTypes P++fn.resultTypes.toList)=true):joinedFacts P f fn s c=true:=by
  simp only [joinedFacts,Bool.and_eq_true]
  and_intros <;> assumption
set_option maxRecDepth 100000
theorem F_laid:laidOutB Tryz.pinned.checked.prog=true:=Tryz.laidOut
theorem F_maps:mapsRowed Tryz.pinned.checked.prog=true:=by kernel_rfl
theorem F_heard:Tryz.pinned.checked.prog.stopsHeard=true:=by kernel_rfl
theorem F_enter:Tryz.pinned.checked.prog.mayEnter=true:=by kernel_rfl
end Go.Proofs.YtilcageplifbgaaGreat

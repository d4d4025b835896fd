/- Contracts of the marks. -/
import Derived.Test.YtilcageplifbgaaGreatJHSD
import Derived.Test.YtilcageplifbgaaGreatJT1
import Derived.Test.YtilcageplifbgaaGreatProg
namespace Go.Proofs.YtilcageplifbgaaGreat
set_option linter.all false
open Go Go.RowKit Go.Proofs
def a93:AFn:=
⟨19,[.t 4],(.seq
 (.reg [⟨some 4,.mv (.k (.int .i64 0)),no⟩]) (.seq (.seq
 (.reg [⟨some 5,.mv (.k (.int .i64 0)),no⟩]) (.blk 0 (.loop (.seq (.seq
 (.reg [⟨some 6,.mv (.t 5),no⟩,⟨some 7,.mv (.t 0),no⟩,⟨some 8,.len false (.t 7),no⟩,⟨some 9,.bin .lss (.t 6) (.t 8),no⟩]) (.cond (.t 9) .skip (.exit 0))) (.seq (.blk 1 (.seq
 (.reg [⟨some 12,.mv (.t 0),no⟩,⟨some 13,.mv (.t 5),no⟩,⟨some 14,.mv (.t 1),no⟩,⟨some 15,.ixa 1 (.t 12) (.t 13),no⟩,⟨no,.st 1 (.t 15) (.t 14),no⟩])
 (.reg [⟨some 16,.mv (.t 1),no⟩,⟨some 17,.bin .add (.t 16) (.k (.int .i64 1)),no⟩,⟨some 1,.mv (.t 17),no⟩])))
 (.reg [⟨some 10,.mv (.t 5),no⟩,⟨some 11,.bin .add (.t 10) (.k (.int .i64 1)),no⟩,⟨some 5,.mv (.t 11),no⟩])))))) (.seq
 (.reg [⟨some 18,.mv (.t 1),no⟩,⟨some 4,.mv (.t 18),no⟩]) .ret)))⟩
theorem a93_ok:compFn Tryz.prog Tryz.f93=some a93:=by kernel_rfl
def a121:AFn:=
⟨21,[.t 4],(.seq
 (.reg [⟨some 4,.mv (.k (.int .i64 0)),no⟩]) (.seq (.seq
 (.reg [⟨some 5,.mv (.k (.int .i64 0)),no⟩]) (.blk 0 (.loop (.seq (.seq
 (.reg [⟨some 6,.mv (.t 5),no⟩,⟨some 7,.mv (.t 0),no⟩,⟨some 8,.len false (.t 7),no⟩,⟨some 9,.bin .lss (.t 6) (.t 8),no⟩]) (.cond (.t 9) .skip (.exit 0))) (.seq (.blk 1 (.seq (.seq
 (.reg [⟨some 12,.mv (.t 0),no⟩,⟨some 13,.mv (.t 5),no⟩,⟨some 14,.ixa 1 (.t 12) (.t 13),no⟩,⟨some 15,.ld false 1 (.t 14),no⟩,⟨some 16,.mv (.t 1),no⟩,⟨some 17,.bin .neq (.t 15) (.t 16),no⟩]) (.cond (.t 17) (.seq
 (.reg [⟨some 4,.mv (.k (.int .i64 (-1))),no⟩]) .ret) .skip))
 (.reg [⟨some 18,.mv (.t 1),no⟩,⟨some 19,.bin .add (.t 18) (.k (.int .i64 1)),no⟩,⟨some 1,.mv (.t 19),no⟩])))
 (.reg [⟨some 10,.mv (.t 5),no⟩,⟨some 11,.bin .add (.t 10) (.k (.int .i64 1)),no⟩,⟨some 5,.mv (.t 11),no⟩])))))) (.seq
 (.reg [⟨some 20,.mv (.t 1),no⟩,⟨some 4,.mv (.t 20),no⟩]) .ret)))⟩
theorem a121_ok:compFn Tryz.prog Tryz.f121=some a121:=by kernel_rfl
def a71:AFn:=
⟨27,[.t 4],(.seq
 (.reg [⟨some 4,.mv (.k (.int .i64 0)),no⟩]) (.seq (.seq
 (.reg [⟨some 5,.mv (.k (.int .i64 0)),no⟩]) (.blk 0 (.loop (.seq (.seq
 (.reg [⟨some 6,.mv (.t 5),no⟩,⟨some 7,.mv (.t 0),no⟩,⟨some 8,.len false (.t 7),no⟩,⟨some 9,.bin .lss (.t 6) (.t 8),no⟩]) (.cond (.t 9) .skip (.exit 0))) (.seq (.blk 1 (.seq
 (.reg [⟨some 12,.mv (.t 0),no⟩,⟨some 13,.mv (.t 5),no⟩,⟨some 14,.mv (.t 1),no⟩,⟨some 15,.ixa 2 (.t 12) (.t 13),no⟩,⟨some 16,.fld 0 (.t 15),no⟩,⟨no,.st 1 (.t 16) (.t 14),no⟩]) (.seq
 (.reg [⟨some 17,.mv (.t 1),no⟩,⟨some 18,.bin .add (.t 17) (.k (.int .i64 1)),no⟩,⟨some 1,.mv (.t 18),no⟩])
 (.reg [⟨some 19,.mv (.t 0),no⟩,⟨some 20,.mv (.t 5),no⟩,⟨some 21,.ixa 2 (.t 19) (.t 20),no⟩,⟨some 22,.fld 1 (.t 21),no⟩,⟨some 23,.ld false 1 (.t 22),no⟩,⟨some 24,.mv (.t 1),no⟩,⟨some 25,.call (.k (.fn (.func 93) [] [])) [.t 23,.t 24],no⟩,⟨some 1,.mv (.t 25),no⟩]))))
 (.reg [⟨some 10,.mv (.t 5),no⟩,⟨some 11,.bin .add (.t 10) (.k (.int .i64 1)),no⟩,⟨some 5,.mv (.t 11),no⟩])))))) (.seq
 (.reg [⟨some 26,.mv (.t 1),no⟩,⟨some 4,.mv (.t 26),no⟩]) .ret)))⟩
theorem a71_ok:compFn Tryz.prog Tryz.f71=some a71:=by kernel_rfl
def a72:AFn:=
⟨31,[.t 4],(.seq
 (.reg [⟨some 4,.mv (.k (.int .i64 0)),no⟩]) (.seq (.seq
 (.reg [⟨some 5,.mv (.k (.int .i64 0)),no⟩]) (.blk 0 (.loop (.seq (.seq
 (.reg [⟨some 6,.mv (.t 5),no⟩,⟨some 7,.mv (.t 0),no⟩,⟨some 8,.len false (.t 7),no⟩,⟨some 9,.bin .lss (.t 6) (.t 8),no⟩]) (.cond (.t 9) .skip (.exit 0))) (.seq (.blk 1 (.seq (.seq
 (.reg [⟨some 12,.mv (.t 0),no⟩,⟨some 13,.mv (.t 5),no⟩,⟨some 14,.ixa 2 (.t 12) (.t 13),no⟩,⟨some 15,.fld 0 (.t 14),no⟩,⟨some 16,.ld false 1 (.t 15),no⟩,⟨some 17,.mv (.t 1),no⟩,⟨some 18,.bin .neq (.t 16) (.t 17),no⟩]) (.cond (.t 18) (.seq
 (.reg [⟨some 4,.mv (.k (.int .i64 (-1))),no⟩]) .ret) .skip)) (.seq
 (.reg [⟨some 19,.mv (.t 1),no⟩,⟨some 20,.bin .add (.t 19) (.k (.int .i64 1)),no⟩,⟨some 1,.mv (.t 20),no⟩]) (.seq
 (.reg [⟨some 21,.mv (.t 0),no⟩,⟨some 22,.mv (.t 5),no⟩,⟨some 23,.ixa 2 (.t 21) (.t 22),no⟩,⟨some 24,.fld 1 (.t 23),no⟩,⟨some 25,.ld false 1 (.t 24),no⟩,⟨some 26,.mv (.t 1),no⟩,⟨some 27,.call (.k (.fn (.func 121) [] [])) [.t 25,.t 26],no⟩,⟨some 1,.mv (.t 27),no⟩]) (.seq
 (.reg [⟨some 28,.mv (.t 1),no⟩,⟨some 29,.bin .lss (.t 28) (.k (.int .i64 0)),no⟩]) (.cond (.t 29) (.seq
 (.reg [⟨some 4,.mv (.k (.int .i64 (-1))),no⟩]) .ret) .skip))))))
 (.reg [⟨some 10,.mv (.t 5),no⟩,⟨some 11,.bin .add (.t 10) (.k (.int .i64 1)),no⟩,⟨some 5,.mv (.t 11),no⟩])))))) (.seq
 (.reg [⟨some 30,.mv (.t 1),no⟩,⟨some 4,.mv (.t 30),no⟩]) .ret)))⟩
theorem a72_ok:compFn Tryz.prog Tryz.f72=some a72:=by kernel_rfl
def a83:AFn:=
⟨20,[.t 4],(.seq
 (.reg [⟨some 4,.mv (.k (.int .i64 0)),no⟩]) (.seq (.seq
 (.reg [⟨some 5,.mv (.k (.int .i64 0)),no⟩]) (.blk 0 (.loop (.seq (.seq
 (.reg [⟨some 6,.mv (.t 5),no⟩,⟨some 7,.mv (.t 0),no⟩,⟨some 8,.len false (.t 7),no⟩,⟨some 9,.bin .lss (.t 6) (.t 8),no⟩]) (.cond (.t 9) .skip (.exit 0))) (.seq (.blk 1 (.seq
 (.reg [⟨some 12,.mv (.t 0),no⟩,⟨some 13,.mv (.t 5),no⟩,⟨some 14,.mv (.t 1),no⟩,⟨some 15,.call (.k (.fn (.func 161) [] [])) [.t 14],no⟩,⟨some 16,.ixa 1 (.t 12) (.t 13),no⟩,⟨no,.st 1 (.t 16) (.t 15),no⟩])
 (.reg [⟨some 17,.mv (.t 1),no⟩,⟨some 18,.bin .add (.t 17) (.k (.int .i64 1)),no⟩,⟨some 1,.mv (.t 18),no⟩])))
 (.reg [⟨some 10,.mv (.t 5),no⟩,⟨some 11,.bin .add (.t 10) (.k (.int .i64 1)),no⟩,⟨some 5,.mv (.t 11),no⟩])))))) (.seq
 (.reg [⟨some 19,.mv (.t 1),no⟩,⟨some 4,.mv (.t 19),no⟩]) .ret)))⟩
theorem a83_ok:compFn Tryz.prog Tryz.f83=some a83:=by kernel_rfl
def a40:AFn:=
⟨45,[.t 4],(.seq
 (.reg [⟨some 4,.mv (.k (.int .i64 0)),no⟩]) (.seq (.seq
 (.reg [⟨some 5,.mv (.k (.int .i64 0)),no⟩]) (.blk 0 (.loop (.seq (.seq
 (.reg [⟨some 6,.mv (.t 5),no⟩,⟨some 7,.mv (.t 0),no⟩,⟨some 8,.len false (.t 7),no⟩,⟨some 9,.bin .lss (.t 6) (.t 8),no⟩]) (.cond (.t 9) .skip (.exit 0))) (.seq (.blk 1 (.seq
 (.reg [⟨some 12,.mv (.t 0),no⟩,⟨some 13,.mv (.t 5),no⟩,⟨some 14,.mv (.t 1),no⟩,⟨some 15,.ixa 4 (.t 12) (.t 13),no⟩,⟨some 16,.fld 0 (.t 15),no⟩,⟨some 17,.fld 0 (.t 16),no⟩,⟨no,.st 1 (.t 17) (.t 14),no⟩]) (.seq
 (.reg [⟨some 18,.mv (.t 1),no⟩,⟨some 19,.bin .add (.t 18) (.k (.int .i64 1)),no⟩,⟨some 1,.mv (.t 19),no⟩]) (.seq
 (.reg [⟨some 20,.mv (.t 0),no⟩,⟨some 21,.mv (.t 5),no⟩,⟨some 22,.ixa 4 (.t 20) (.t 21),no⟩,⟨some 23,.fld 0 (.t 22),no⟩,⟨some 24,.fld 1 (.t 23),no⟩,⟨some 25,.ld false 1 (.t 24),no⟩,⟨some 26,.mv (.t 1),no⟩,⟨some 27,.call (.k (.fn (.func 71) [] [])) [.t 25,.t 26],no⟩,⟨some 1,.mv (.t 27),no⟩]) (.seq
 (.reg [⟨some 28,.mv (.t 0),no⟩,⟨some 29,.mv (.t 5),no⟩,⟨some 30,.mv (.t 1),no⟩,⟨some 31,.ixa 4 (.t 28) (.t 29),no⟩,⟨some 32,.fld 2 (.t 31),no⟩,⟨some 33,.fld 0 (.t 32),no⟩,⟨no,.st 1 (.t 33) (.t 30),no⟩]) (.seq
 (.reg [⟨some 34,.mv (.t 1),no⟩,⟨some 35,.bin .add (.t 34) (.k (.int .i64 1)),no⟩,⟨some 1,.mv (.t 35),no⟩])
 (.reg [⟨some 36,.mv (.t 0),no⟩,⟨some 37,.mv (.t 5),no⟩,⟨some 38,.ixa 4 (.t 36) (.t 37),no⟩,⟨some 39,.fld 2 (.t 38),no⟩,⟨some 40,.fld 1 (.t 39),no⟩,⟨some 41,.ld false 1 (.t 40),no⟩,⟨some 42,.mv (.t 1),no⟩,⟨some 43,.call (.k (.fn (.func 93) [] [])) [.t 41,.t 42],no⟩,⟨some 1,.mv (.t 43),no⟩])))))))
 (.reg [⟨some 10,.mv (.t 5),no⟩,⟨some 11,.bin .add (.t 10) (.k (.int .i64 1)),no⟩,⟨some 5,.mv (.t 11),no⟩])))))) (.seq
 (.reg [⟨some 44,.mv (.t 1),no⟩,⟨some 4,.mv (.t 44),no⟩]) .ret)))⟩
theorem a40_ok:compFn Tryz.prog Tryz.f40=some a40:=by kernel_rfl
def a41:AFn:=
⟨53,[.t 4],(.seq
 (.reg [⟨some 4,.mv (.k (.int .i64 0)),no⟩]) (.seq (.seq
 (.reg [⟨some 5,.mv (.k (.int .i64 0)),no⟩]) (.blk 0 (.loop (.seq (.seq
 (.reg [⟨some 6,.mv (.t 5),no⟩,⟨some 7,.mv (.t 0),no⟩,⟨some 8,.len false (.t 7),no⟩,⟨some 9,.bin .lss (.t 6) (.t 8),no⟩]) (.cond (.t 9) .skip (.exit 0))) (.seq (.blk 1 (.seq (.seq
 (.reg [⟨some 12,.mv (.t 0),no⟩,⟨some 13,.mv (.t 5),no⟩,⟨some 14,.ixa 4 (.t 12) (.t 13),no⟩,⟨some 15,.fld 0 (.t 14),no⟩,⟨some 16,.fld 0 (.t 15),no⟩,⟨some 17,.ld false 1 (.t 16),no⟩,⟨some 18,.mv (.t 1),no⟩,⟨some 19,.bin .neq (.t 17) (.t 18),no⟩]) (.cond (.t 19) (.seq
 (.reg [⟨some 4,.mv (.k (.int .i64 (-1))),no⟩]) .ret) .skip)) (.seq
 (.reg [⟨some 20,.mv (.t 1),no⟩,⟨some 21,.bin .add (.t 20) (.k (.int .i64 1)),no⟩,⟨some 1,.mv (.t 21),no⟩]) (.seq
 (.reg [⟨some 22,.mv (.t 0),no⟩,⟨some 23,.mv (.t 5),no⟩,⟨some 24,.ixa 4 (.t 22) (.t 23),no⟩,⟨some 25,.fld 0 (.t 24),no⟩,⟨some 26,.fld 1 (.t 25),no⟩,⟨some 27,.ld false 1 (.t 26),no⟩,⟨some 28,.mv (.t 1),no⟩,⟨some 29,.call (.k (.fn (.func 72) [] [])) [.t 27,.t 28],no⟩,⟨some 1,.mv (.t 29),no⟩]) (.seq (.seq
 (.reg [⟨some 30,.mv (.t 1),no⟩,⟨some 31,.bin .lss (.t 30) (.k (.int .i64 0)),no⟩]) (.cond (.t 31) (.seq
 (.reg [⟨some 4,.mv (.k (.int .i64 (-1))),no⟩]) .ret) .skip)) (.seq (.seq
 (.reg [⟨some 32,.mv (.t 0),no⟩,⟨some 33,.mv (.t 5),no⟩,⟨some 34,.ixa 4 (.t 32) (.t 33),no⟩,⟨some 35,.fld 2 (.t 34),no⟩,⟨some 36,.fld 0 (.t 35),no⟩,⟨some 37,.ld false 1 (.t 36),no⟩,⟨some 38,.mv (.t 1),no⟩,⟨some 39,.bin .neq (.t 37) (.t 38),no⟩]) (.cond (.t 39) (.seq
 (.reg [⟨some 4,.mv (.k (.int .i64 (-1))),no⟩]) .ret) .skip)) (.seq
 (.reg [⟨some 40,.mv (.t 1),no⟩,⟨some 41,.bin .add (.t 40) (.k (.int .i64 1)),no⟩,⟨some 1,.mv (.t 41),no⟩]) (.seq
 (.reg [⟨some 42,.mv (.t 0),no⟩,⟨some 43,.mv (.t 5),no⟩,⟨some 44,.ixa 4 (.t 42) (.t 43),no⟩,⟨some 45,.fld 2 (.t 44),no⟩,⟨some 46,.fld 1 (.t 45),no⟩,⟨some 47,.ld false 1 (.t 46),no⟩,⟨some 48,.mv (.t 1),no⟩,⟨some 49,.call (.k (.fn (.func 121) [] [])) [.t 47,.t 48],no⟩,⟨some 1,.mv (.t 49),no⟩]) (.seq
 (.reg [⟨some 50,.mv (.t 1),no⟩,⟨some 51,.bin .lss (.t 50) (.k (.int .i64 0)),no⟩]) (.cond (.t 51) (.seq
 (.reg [⟨some 4,.mv (.k (.int .i64 (-1))),no⟩]) .ret) .skip))))))))))
 (.reg [⟨some 10,.mv (.t 5),no⟩,⟨some 11,.bin .add (.t 10) (.k (.int .i64 1)),no⟩,⟨some 5,.mv (.t 11),no⟩])))))) (.seq
 (.reg [⟨some 52,.mv (.t 1),no⟩,⟨some 4,.mv (.t 52),no⟩]) .ret)))⟩
theorem a41_ok:compFn Tryz.prog Tryz.f41=some a41:=by kernel_rfl
set_option maxRecDepth 20000 in
set_option maxHeartbeats 1000000 in
theorem m_markIntS (l:List Int) (k:Int) (h0:0≤k∧k+cIntS l≤4611686018427387904):Marks Tryz.prog 93 (.us 1 (intsR l)) k (.us 1 (intsR (mkIntS l k))) (k+cIntS l):=by
 intro h n a I K hT hI hn hK
 obtain ⟨id,rows0,I0,rfl,_,hB,_⟩:=TR_us hT
 simp only [intsR,List.length_map] at hT hB hK ⊢
 refine acall_len Tryz.func93 rfl rfl (by rw [hB]; simp) fun hlim => ?_
 refine acall_body Tryz.func93 a93_ok rfl (by simp [a93]) ?_
 simp [a93]
 unfold cIntS at *
 refine rL_forO [0] 5 l.length (fun i s h1 n1=>MJ (fun _ k=>k) (fun _=>1) (fun n=>[i64 n]) 1 h n id I l k i (s 1) h1 n1) hlim (by simp) (by simpa using MJ.start hT) ?_ ?_
 · rintro i s h1 n1 R hi hg hk s5 hw hJ hR hret _
   simp at hk
   obtain ⟨x,ki,rows,cells,I2,s1,hki,hki2,hlen,hc0,hnd,hI2,hstart,hclose⟩:=hJ.step2 hI hn hi
   obtain ⟨_,rfl,hc1⟩:=TRl_int.1 hc0
   obtain ⟨rfl,rfl⟩:=TRl_nil.1 hc1
   have S:=hstart _ Kids.nil
   have e:=S.e
   have w0:IntKind.i64.wrap (ki+1)=ki+1:=wrap64 (by omega)
   simp [hk,s5,hi,hw,s1,e,hlen,w0]
   intro _
   refine hR _ _ _ (by simp [hk]) (by simp) (hclose _ _ [.int .i64 (ki)] _ _ S.store (TRl_int.2 ⟨_,rfl,(TRl_nil.2 ⟨rfl,rfl⟩)⟩) (by simp [i64]; try omega))
 · rintro s h1 n1 R hk s5 hJ hret hX
   simp at hk
   obtain ⟨s1,hn1,hf,ht⟩:=hJ.fin
   simp [hk,s5,s1]
   refine ⟨TR_some ht,fun _ => ?_⟩
   refine hX _ _ _ _ ?_
   simp [hk,s5,s1]
   exact hK _ _ hn1 hf ht
set_option maxRecDepth 20000 in
set_option maxHeartbeats 1000000 in
theorem k_heldIntS (l:List Int) (k:Int) (h0:0≤k∧k+cIntS l≤4611686018427387904):Holds Tryz.prog 121 [.sl 1 (intsR (mkIntS l k)),i64 k] (fun r=>r=i64 (k+cIntS l)):=by
 refine holds_of_lim Tryz.func121 rfl rfl fun hlim => ?_
 simp at hlim
 generalize hM:mkIntS l k=M at *
 refine holds_of_run Tryz.func121 a121_ok rfl (by simp [a121]) ?_
 simp [a121]
 unfold cIntS at *
 refine rL_forO [0] 5 M.length (fun i s h1 n1=>HJ (fun _ k=>k) (fun _=>1) M l k i (s 1)) hlim (by simp) (by rw [←hM]; simp; exact HJ.start) ?_ ?_
 · rintro i s h1 n1 R hi hg hk s5 hw hJ hR hret _
   simp at hk
   obtain ⟨x,ki,s1,hki,hki2,hx,hclose⟩:=hJ.step hi
   have w0:IntKind.i64.wrap (ki+1)=ki+1:=wrap64 (by omega)
   simp [hk,s5,hi,hw,s1,hx,w0]
   intro _
   first | done | refine hR _ _ _ (by simp [hk]) (by simp) (hclose _ (by simp [i64]; try omega))
 · rintro s h1 n1 R hk s5 hJ hret hX
   simp at hk
   have s1:=hJ.fin (Nat.le_refl _)
   simp [hk,s5,s1]
   first | refine hX _ _ _ _ ?_ | (intro _; refine hX _ _ _ _ ?_)
   simp [hk,s5,s1]
set_option maxRecDepth 20000 in
set_option maxHeartbeats 1000000 in
theorem m_markLinS (l:List DLin) (k:Int) (h0:0≤k∧k+cLinS l≤4611686018427387904):Marks Tryz.prog 71 (.us 2 (l.map rULin)) k (.us 2 ((mkLinS l k).map rULin)) (k+cLinS l):=by
 intro h n a I K hT hI hn hK
 obtain ⟨id,rows0,I0,rfl,_,hB,_⟩:=TR_us hT
 simp only [List.length_map] at hT hB hK ⊢
 refine acall_len Tryz.func71 rfl rfl (by rw [hB]; simp) fun hlim => ?_
 refine acall_body Tryz.func71 a71_ok rfl (by simp [a71]) ?_
 simp [a71]
 unfold cLinS at *
 refine rL_forO [0] 5 l.length (fun i s h1 n1=>MJ mkrLin crLin rULin 2 h n id I l k i (s 1) h1 n1) hlim (by simp) (by simpa using MJ.start hT) ?_ ?_
 · rintro i s h1 n1 R hi hg hk s5 hw hJ hR hret _
   simp at hk
   obtain ⟨x,ki,rows,cells,I2,s1,hki,hki2,hlen,hc0,hnd,hI2,hstart,hclose⟩:=hJ.step2 hI hn hi
   simp only [rULin] at hc0
   simp only [crLin] at hki2
   obtain ⟨_,rfl,hc1⟩:=TRl_int.1 hc0
   obtain ⟨d1,len1,_,J1,_,rfl,rfl,hl1,ht1,hc2⟩:=TRl_us hc1
   have hq1:len1=(x.Coeffs).length:=by simpa using hl1
   subst hq1
   obtain ⟨rfl,rfl⟩:=TRl_nil.1 hc2
   have S:=hstart _ (Kids.cons ht1 hnd hI2 fun hnd hI2=>Kids.nil)
   have e:=S.e
   have w0:IntKind.i64.wrap (ki+1)=ki+1:=wrap64 (by omega)
   simp [hk,s5,hi,hw,s1,e,hlen,w0]
   intro _
   refine RS.mark (T1:=[]) (m_markIntS _ _ (by omega)) S.store ?_
   clear S e
   intro h2 n2 S
   have e:=S.e
   simp [hk,s5,hi,hw,s1,e,hlen,w0]
   refine hR _ _ _ (by simp [hk]) (by simp) (hclose _ _ [.int .i64 (ki),.ref d1 0 (x.Coeffs).length] _ _ S (TRl_int.2 ⟨_,rfl,(TRl_cons (S.live.ids (_,.ref d1 0 _,J1) (by simp [mkrLin])).1 (TRl_nil.2 ⟨rfl,rfl⟩))⟩) (by simp [i64,crLin]; try omega))
 · rintro s h1 n1 R hk s5 hJ hret hX
   simp at hk
   obtain ⟨s1,hn1,hf,ht⟩:=hJ.fin
   simp [hk,s5,s1]
   refine ⟨TR_some ht,fun _ => ?_⟩
   refine hX _ _ _ _ ?_
   simp [hk,s5,s1]
   exact hK _ _ hn1 hf ht
set_option maxRecDepth 20000 in
set_option maxHeartbeats 1000000 in
theorem k_heldLinS (l:List DLin) (k:Int) (h0:0≤k∧k+cLinS l≤4611686018427387904):Holds Tryz.prog 72 [.sl 2 ((mkLinS l k).map rALin),i64 k] (fun r=>r=i64 (k+cLinS l)):=by
 refine holds_of_lim Tryz.func72 rfl rfl fun hlim => ?_
 simp at hlim
 generalize hM:mkLinS l k=M at *
 refine holds_of_run Tryz.func72 a72_ok rfl (by simp [a72]) ?_
 simp [a72]
 unfold cLinS at *
 refine rL_forO [0] 5 M.length (fun i s h1 n1=>HJ mkrLin crLin M l k i (s 1)) hlim (by simp) (by rw [←hM]; simp; exact HJ.start) ?_ ?_
 · rintro i s h1 n1 R hi hg hk s5 hw hJ hR hret _
   simp at hk
   obtain ⟨x,ki,s1,hki,hki2,hx,hclose⟩:=hJ.step hi
   simp only [crLin] at hki2
   have w0:IntKind.i64.wrap (ki+1)=ki+1:=wrap64 (by omega)
   simp [hk,s5,hi,hw,s1,hx,mkrLin,w0]
   intro _
   first | refine callD_of (k_heldIntS (x.Coeffs) (ki+1) (by omega)) (by simp [hk,s5,hi,hw,s1,hx,mkrLin,w0]) ?_ | refine call_of (k_heldIntS (x.Coeffs) (ki+1) (by omega)) (by simp [hk,s5,hi,hw,s1,hx,mkrLin,w0]) ?_
   rintro r rfl
   have g1:¬ki+1+(cIntS x.Coeffs:Int)<0:=by omega
   simp [hk,s5,hi,hw,s1,hx,mkrLin,w0,g1]
   first | done | refine hR _ _ _ (by simp [hk]) (by simp) (hclose _ (by simp [i64,crLin]; try omega))
 · rintro s h1 n1 R hk s5 hJ hret hX
   simp at hk
   have s1:=hJ.fin (Nat.le_refl _)
   simp [hk,s5,s1]
   first | refine hX _ _ _ _ ?_ | (intro _; refine hX _ _ _ _ ?_)
   simp [hk,s5,s1]
set_option maxRecDepth 20000 in
set_option maxHeartbeats 1000000 in
theorem m_markStringS (l:List Str) (k:Int) (h0:0≤k∧k+cStringS l≤4611686018427387904):Marks Tryz.prog 83 (.us 1 (strsR l)) k (.us 1 (strsR (mkStringS l k))) (k+cStringS l):=by
 intro h n a I K hT hI hn hK
 obtain ⟨id,rows0,I0,rfl,_,hB,_⟩:=TR_us hT
 simp only [strsR,List.length_map] at hT hB hK ⊢
 refine acall_len Tryz.func83 rfl rfl (by rw [hB]; simp) fun hlim => ?_
 refine acall_body Tryz.func83 a83_ok rfl (by simp [a83]) ?_
 simp [a83]
 unfold cStringS at *
 refine rL_forO [0] 5 l.length (fun i s h1 n1=>MJ (fun _ k=>mtx k) (fun _=>1) (fun s=>[.str s]) 1 h n id I l k i (s 1) h1 n1) hlim (by simp) (by simpa using MJ.start hT) ?_ ?_
 · rintro i s h1 n1 R hi hg hk s5 hw hJ hR hret _
   simp at hk
   obtain ⟨x,ki,rows,cells,I2,s1,hki,hki2,hlen,hc0,hnd,hI2,hstart,hclose⟩:=hJ.step2 hI hn hi
   obtain ⟨_,rfl,hc1⟩:=TRl_str.1 hc0
   obtain ⟨rfl,rfl⟩:=TRl_nil.1 hc1
   have S:=hstart _ Kids.nil
   have e:=S.e
   have w0:IntKind.i64.wrap (ki+1)=ki+1:=wrap64 (by omega)
   simp [hk,s5,hi,hw,s1,e,hlen,w0]
   intro _
   first | refine callD_of (k_markText (ki) (by omega)) (by simp) ?_ | refine call_of (k_markText (ki) (by omega)) (by simp) ?_
   rintro r rfl
   simp [hk,s5,hi,hw,s1,e,hlen,w0]
   refine hR _ _ _ (by simp [hk]) (by simp) (hclose _ _ [.str (mtx (ki))] _ _ S.store (TRl_str.2 ⟨_,rfl,(TRl_nil.2 ⟨rfl,rfl⟩)⟩) (by simp [i64]; try omega))
 · rintro s h1 n1 R hk s5 hJ hret hX
   simp at hk
   obtain ⟨s1,hn1,hf,ht⟩:=hJ.fin
   simp [hk,s5,s1]
   refine ⟨TR_some ht,fun _ => ?_⟩
   refine hX _ _ _ _ ?_
   simp [hk,s5,s1]
   exact hK _ _ hn1 hf ht
set_option maxRecDepth 20000 in
set_option maxHeartbeats 1000000 in
theorem m_markObligationS (l:List DObligation) (k:Int) (h0:0≤k∧k+cObligationS l≤4611686018427387904):Marks Tryz.prog 40 (.us 4 (l.map rUObligation)) k (.us 4 ((mkObligationS l k).map rUObligation)) (k+cObligationS l):=by
 intro h n a I K hT hI hn hK
 obtain ⟨id,rows0,I0,rfl,_,hB,_⟩:=TR_us hT
 simp only [List.length_map] at hT hB hK ⊢
 refine acall_len Tryz.func40 rfl rfl (by rw [hB]; simp) fun hlim => ?_
 refine acall_body Tryz.func40 a40_ok rfl (by simp [a40]) ?_
 simp [a40]
 unfold cObligationS at *
 refine rL_forO [0] 5 l.length (fun i s h1 n1=>MJ mkrObligation crObligation rUObligation 4 h n id I l k i (s 1) h1 n1) hlim (by simp) (by simpa using MJ.start hT) ?_ ?_
 · rintro i s h1 n1 R hi hg hk s5 hw hJ hR hret _
   simp at hk
   obtain ⟨x,ki,rows,cells,I2,s1,hki,hki2,hlen,hc0,hnd,hI2,hstart,hclose⟩:=hJ.step2 hI hn hi
   simp only [rUObligation] at hc0
   simp only [crObligation] at hki2
   obtain ⟨_,rfl,hc1⟩:=TRl_int.1 hc0
   obtain ⟨d1,len1,_,J1,_,rfl,rfl,hl1,ht1,hc2⟩:=TRl_us hc1
   have hq1:len1=(x.System.Rows).length:=by simpa using hl1
   subst hq1
   obtain ⟨_,rfl,hc3⟩:=TRl_int.1 hc2
   obtain ⟨d3,len3,_,J3,_,rfl,rfl,hl3,ht3,hc4⟩:=TRl_us hc3
   have hq3:len3=(x.Target.Coeffs).length:=by simpa using hl3
   subst hq3
   obtain ⟨rfl,rfl⟩:=TRl_nil.1 hc4
   have S:=hstart _ (Kids.cons ht1 hnd hI2 fun hnd hI2=>(Kids.cons ht3 hnd hI2 fun hnd hI2=>Kids.nil))
   have e:=S.e
   have w0:IntKind.i64.wrap (ki+1)=ki+1:=wrap64 (by omega)
   have w1:IntKind.i64.wrap (ki+1+cLinS x.System.Rows+1)=ki+1+cLinS x.System.Rows+1:=wrap64 (by omega)
   simp [hk,s5,hi,hw,s1,e,hlen,w0,w1]
   intro _
   refine RS.mark (T1:=[]) (m_markLinS _ _ (by omega)) S.store ?_
   clear S e
   intro h2 n2 S
   have e:=S.e
   simp [hk,s5,hi,hw,s1,e,hlen,w0,w1]
   refine RS.mark (T1:=[_]) (m_markIntS _ _ (by omega)) S.store ?_
   clear S e
   intro h2 n2 S
   have e:=S.e
   simp [hk,s5,hi,hw,s1,e,hlen,w0,w1]
   refine hR _ _ _ (by simp [hk]) (by simp) (hclose _ _ [.int .i64 (ki),.ref d1 0 (x.System.Rows).length,.int .i64 (ki+1+cLinS x.System.Rows),.ref d3 0 (x.Target.Coeffs).length] _ _ S (TRl_int.2 ⟨_,rfl,(TRl_cons (S.live.ids (_,.ref d1 0 _,J1) (by simp [mkrObligation])).1 (TRl_int.2 ⟨_,rfl,(TRl_cons (S.live.ids (_,.ref d3 0 _,J3) (by simp [mkrObligation])).1 (TRl_nil.2 ⟨rfl,rfl⟩))⟩))⟩) (by simp [i64,crObligation]; try omega))
 · rintro s h1 n1 R hk s5 hJ hret hX
   simp at hk
   obtain ⟨s1,hn1,hf,ht⟩:=hJ.fin
   simp [hk,s5,s1]
   refine ⟨TR_some ht,fun _ => ?_⟩
   refine hX _ _ _ _ ?_
   simp [hk,s5,s1]
   exact hK _ _ hn1 hf ht
set_option maxRecDepth 20000 in
set_option maxHeartbeats 1000000 in
theorem k_heldObligationS (l:List DObligation) (k:Int) (h0:0≤k∧k+cObligationS l≤4611686018427387904):Holds Tryz.prog 41 [.sl 4 ((mkObligationS l k).map rAObligation),i64 k] (fun r=>r=i64 (k+cObligationS l)):=by
 refine holds_of_lim Tryz.func41 rfl rfl fun hlim => ?_
 simp at hlim
 generalize hM:mkObligationS l k=M at *
 refine holds_of_run Tryz.func41 a41_ok rfl (by simp [a41]) ?_
 simp [a41]
 unfold cObligationS at *
 refine rL_forO [0] 5 M.length (fun i s h1 n1=>HJ mkrObligation crObligation M l k i (s 1)) hlim (by simp) (by rw [←hM]; simp; exact HJ.start) ?_ ?_
 · rintro i s h1 n1 R hi hg hk s5 hw hJ hR hret _
   simp at hk
   obtain ⟨x,ki,s1,hki,hki2,hx,hclose⟩:=hJ.step hi
   simp only [crObligation] at hki2
   have w0:IntKind.i64.wrap (ki+1)=ki+1:=wrap64 (by omega)
   have w1:IntKind.i64.wrap (ki+1+cLinS x.System.Rows+1)=ki+1+cLinS x.System.Rows+1:=wrap64 (by omega)
   simp [hk,s5,hi,hw,s1,hx,mkrObligation,w0,w1]
   intro _
   first | refine callD_of (k_heldLinS (x.System.Rows) (ki+1) (by omega)) (by simp [hk,s5,hi,hw,s1,hx,mkrObligation,w0,w1]) ?_ | refine call_of (k_heldLinS (x.System.Rows) (ki+1) (by omega)) (by simp [hk,s5,hi,hw,s1,hx,mkrObligation,w0,w1]) ?_
   rintro r rfl
   have g1:¬ki+1+(cLinS x.System.Rows:Int)<0:=by omega
   simp [hk,s5,hi,hw,s1,hx,mkrObligation,w0,w1,g1]
   first | refine callD_of (k_heldIntS (x.Target.Coeffs) (ki+1+cLinS x.System.Rows+1) (by omega)) (by simp [hk,s5,hi,hw,s1,hx,mkrObligation,w0,w1]) ?_ | refine call_of (k_heldIntS (x.Target.Coeffs) (ki+1+cLinS x.System.Rows+1) (by omega)) (by simp [hk,s5,hi,hw,s1,hx,mkrObligation,w0,w1]) ?_
   rintro r rfl
   have g3:¬ki+1+cLinS x.System.Rows+1+(cIntS x.Target.Coeffs:Int)<0:=by omega
   simp [hk,s5,hi,hw,s1,hx,mkrObligation,w0,w1,g3]
   first | done | refine hR _ _ _ (by simp [hk]) (by simp) (hclose _ (by simp [i64,crObligation]; try omega))
 · rintro s h1 n1 R hk s5 hJ hret hX
   simp at hk
   have s1:=hJ.fin (Nat.le_refl _)
   simp [hk,s5,s1]
   first | refine hX _ _ _ _ ?_ | (intro _; refine hX _ _ _ _ ?_)
   simp [hk,s5,s1]
end Go.Proofs.YtilcageplifbgaaGreat

namespace Go.Proofs.YtilcageplifbgaaGreat
set_option linter.all false
open Go Go.RowKit Go.Proofs
def a236:AFn:=
⟨28,[.t 4],(.seq
 (.reg [⟨some 4,.mv (.k (.int .i64 0)),no⟩]) (.seq (.seq
 (.reg [⟨some 5,.mv (.k (.int .i64 0)),no⟩]) (.blk 0 (.loop (.seq (.seq
 (.reg [⟨some 6,.mv (.t 5),no⟩,⟨some 7,.mv (.t 0),no⟩,⟨some 8,.len false (.t 7),no⟩,⟨some 9,.bin .lss (.t 6) (.t 8),no⟩]) (.cond (.t 9) .skip (.exit 0))) (.seq (.blk 1 (.seq
 (.reg [⟨some 12,.mv (.t 0),no⟩,⟨some 13,.mv (.t 5),no⟩,⟨some 14,.mv (.t 1),no⟩,⟨some 15,.ixa 2 (.t 12) (.t 13),no⟩,⟨some 16,.fld 0 (.t 15),no⟩,⟨no,.st 1 (.t 16) (.t 14),no⟩]) (.seq
 (.reg [⟨some 17,.mv (.t 1),no⟩,⟨some 18,.bin .add (.t 17) (.k (.int .i64 1)),no⟩,⟨some 1,.mv (.t 18),no⟩]) (.seq
 (.reg [⟨some 19,.mv (.t 0),no⟩,⟨some 20,.mv (.t 5),no⟩,⟨some 21,.mv (.t 1),no⟩,⟨some 22,.call (.k (.fn (.func 161) [] [])) [.t 21],no⟩,⟨some 23,.ixa 2 (.t 19) (.t 20),no⟩,⟨some 24,.fld 1 (.t 23),no⟩,⟨no,.st 1 (.t 24) (.t 22),no⟩])
 (.reg [⟨some 25,.mv (.t 1),no⟩,⟨some 26,.bin .add (.t 25) (.k (.int .i64 1)),no⟩,⟨some 1,.mv (.t 26),no⟩])))))
 (.reg [⟨some 10,.mv (.t 5),no⟩,⟨some 11,.bin .add (.t 10) (.k (.int .i64 1)),no⟩,⟨some 5,.mv (.t 11),no⟩])))))) (.seq
 (.reg [⟨some 27,.mv (.t 1),no⟩,⟨some 4,.mv (.t 27),no⟩]) .ret)))⟩
theorem a236_ok:compFn Tryz.prog Tryz.f236=some a236:=by kernel_rfl
def a163:AFn:=
⟨27,[.t 4],(.seq
 (.reg [⟨some 4,.mv (.k (.int .i64 0)),no⟩]) (.seq (.seq
 (.reg [⟨some 5,.mv (.k (.int .i64 0)),no⟩]) (.blk 0 (.loop (.seq (.seq
 (.reg [⟨some 6,.mv (.t 5),no⟩,⟨some 7,.mv (.t 0),no⟩,⟨some 8,.len false (.t 7),no⟩,⟨some 9,.bin .lss (.t 6) (.t 8),no⟩]) (.cond (.t 9) .skip (.exit 0))) (.seq (.blk 1 (.seq
 (.reg [⟨some 12,.mv (.t 0),no⟩,⟨some 13,.mv (.t 5),no⟩,⟨some 14,.mv (.t 1),no⟩,⟨some 15,.ixa 2 (.t 12) (.t 13),no⟩,⟨some 16,.fld 0 (.t 15),no⟩,⟨no,.st 1 (.t 16) (.t 14),no⟩]) (.seq
 (.reg [⟨some 17,.mv (.t 1),no⟩,⟨some 18,.bin .add (.t 17) (.k (.int .i64 1)),no⟩,⟨some 1,.mv (.t 18),no⟩])
 (.reg [⟨some 19,.mv (.t 0),no⟩,⟨some 20,.mv (.t 5),no⟩,⟨some 21,.ixa 2 (.t 19) (.t 20),no⟩,⟨some 22,.fld 1 (.t 21),no⟩,⟨some 23,.ld false 1 (.t 22),no⟩,⟨some 24,.mv (.t 1),no⟩,⟨some 25,.call (.k (.fn (.func 236) [] [])) [.t 23,.t 24],no⟩,⟨some 1,.mv (.t 25),no⟩]))))
 (.reg [⟨some 10,.mv (.t 5),no⟩,⟨some 11,.bin .add (.t 10) (.k (.int .i64 1)),no⟩,⟨some 5,.mv (.t 11),no⟩])))))) (.seq
 (.reg [⟨some 26,.mv (.t 1),no⟩,⟨some 4,.mv (.t 26),no⟩]) .ret)))⟩
theorem a163_ok:compFn Tryz.prog Tryz.f163=some a163:=by kernel_rfl
def a237:AFn:=
⟨37,[.t 4],(.seq
 (.reg [⟨some 4,.mv (.k (.int .i64 0)),no⟩]) (.seq (.seq
 (.reg [⟨some 5,.mv (.k (.int .i64 0)),no⟩]) (.blk 0 (.loop (.seq (.seq
 (.reg [⟨some 6,.mv (.t 5),no⟩,⟨some 7,.mv (.t 0),no⟩,⟨some 8,.len false (.t 7),no⟩,⟨some 9,.bin .lss (.t 6) (.t 8),no⟩]) (.cond (.t 9) .skip (.exit 0))) (.seq (.blk 1 (.seq
 (.reg [⟨some 12,.mv (.t 0),no⟩,⟨some 13,.mv (.t 5),no⟩,⟨some 14,.mv (.t 1),no⟩,⟨some 15,.bin .rem (.t 14) (.k (.int .i64 3)),no⟩,⟨some 16,.bin .eql (.t 15) (.k (.int .i64 0)),no⟩,⟨some 17,.ixa 3 (.t 12) (.t 13),no⟩,⟨some 18,.fld 0 (.t 17),no⟩,⟨no,.st 1 (.t 18) (.t 16),no⟩]) (.seq
 (.reg [⟨some 19,.mv (.t 1),no⟩,⟨some 20,.bin .add (.t 19) (.k (.int .i64 1)),no⟩,⟨some 1,.mv (.t 20),no⟩]) (.seq
 (.reg [⟨some 21,.mv (.t 0),no⟩,⟨some 22,.mv (.t 5),no⟩,⟨some 23,.ixa 3 (.t 21) (.t 22),no⟩,⟨some 24,.fld 1 (.t 23),no⟩,⟨some 25,.ld false 1 (.t 24),no⟩,⟨some 26,.mv (.t 1),no⟩,⟨some 27,.call (.k (.fn (.func 163) [] [])) [.t 25,.t 26],no⟩,⟨some 1,.mv (.t 27),no⟩]) (.seq
 (.reg [⟨some 28,.mv (.t 0),no⟩,⟨some 29,.mv (.t 5),no⟩,⟨some 30,.mv (.t 1),no⟩,⟨some 31,.call (.k (.fn (.func 161) [] [])) [.t 30],no⟩,⟨some 32,.ixa 3 (.t 28) (.t 29),no⟩,⟨some 33,.fld 2 (.t 32),no⟩,⟨no,.st 1 (.t 33) (.t 31),no⟩])
 (.reg [⟨some 34,.mv (.t 1),no⟩,⟨some 35,.bin .add (.t 34) (.k (.int .i64 1)),no⟩,⟨some 1,.mv (.t 35),no⟩]))))))
 (.reg [⟨some 10,.mv (.t 5),no⟩,⟨some 11,.bin .add (.t 10) (.k (.int .i64 1)),no⟩,⟨some 5,.mv (.t 11),no⟩])))))) (.seq
 (.reg [⟨some 36,.mv (.t 1),no⟩,⟨some 4,.mv (.t 36),no⟩]) .ret)))⟩
theorem a237_ok:compFn Tryz.prog Tryz.f237=some a237:=by kernel_rfl
def a69:AFn:=
⟨44,[.t 4],(.seq
 (.reg [⟨some 4,.mv (.k (.int .i64 0)),no⟩]) (.seq (.seq
 (.reg [⟨some 5,.mv (.k (.int .i64 0)),no⟩]) (.blk 0 (.loop (.seq (.seq
 (.reg [⟨some 6,.mv (.t 5),no⟩,⟨some 7,.mv (.t 0),no⟩,⟨some 8,.len false (.t 7),no⟩,⟨some 9,.bin .lss (.t 6) (.t 8),no⟩]) (.cond (.t 9) .skip (.exit 0))) (.seq (.blk 1 (.seq
 (.reg [⟨some 12,.mv (.t 0),no⟩,⟨some 13,.mv (.t 5),no⟩,⟨some 14,.mv (.t 1),no⟩,⟨some 15,.call (.k (.fn (.func 161) [] [])) [.t 14],no⟩,⟨some 16,.ixa 4 (.t 12) (.t 13),no⟩,⟨some 17,.fld 0 (.t 16),no⟩,⟨no,.st 1 (.t 17) (.t 15),no⟩]) (.seq
 (.reg [⟨some 18,.mv (.t 1),no⟩,⟨some 19,.bin .add (.t 18) (.k (.int .i64 1)),no⟩,⟨some 1,.mv (.t 19),no⟩]) (.seq
 (.reg [⟨some 20,.mv (.t 0),no⟩,⟨some 21,.mv (.t 5),no⟩,⟨some 22,.ixa 4 (.t 20) (.t 21),no⟩,⟨some 23,.fld 1 (.t 22),no⟩,⟨some 24,.ld false 1 (.t 23),no⟩,⟨some 25,.mv (.t 1),no⟩,⟨some 26,.call (.k (.fn (.func 83) [] [])) [.t 24,.t 25],no⟩,⟨some 1,.mv (.t 26),no⟩]) (.seq
 (.reg [⟨some 27,.mv (.t 0),no⟩,⟨some 28,.mv (.t 5),no⟩,⟨some 29,.mv (.t 1),no⟩,⟨some 30,.bin .rem (.t 29) (.k (.int .i64 3)),no⟩,⟨some 31,.bin .eql (.t 30) (.k (.int .i64 0)),no⟩,⟨some 32,.ixa 4 (.t 27) (.t 28),no⟩,⟨some 33,.fld 2 (.t 32),no⟩,⟨no,.st 1 (.t 33) (.t 31),no⟩]) (.seq
 (.reg [⟨some 34,.mv (.t 1),no⟩,⟨some 35,.bin .add (.t 34) (.k (.int .i64 1)),no⟩,⟨some 1,.mv (.t 35),no⟩])
 (.reg [⟨some 36,.mv (.t 0),no⟩,⟨some 37,.mv (.t 5),no⟩,⟨some 38,.ixa 4 (.t 36) (.t 37),no⟩,⟨some 39,.fld 3 (.t 38),no⟩,⟨some 40,.ld false 1 (.t 39),no⟩,⟨some 41,.mv (.t 1),no⟩,⟨some 42,.call (.k (.fn (.func 71) [] [])) [.t 40,.t 41],no⟩,⟨some 1,.mv (.t 42),no⟩])))))))
 (.reg [⟨some 10,.mv (.t 5),no⟩,⟨some 11,.bin .add (.t 10) (.k (.int .i64 1)),no⟩,⟨some 5,.mv (.t 11),no⟩])))))) (.seq
 (.reg [⟨some 43,.mv (.t 1),no⟩,⟨some 4,.mv (.t 43),no⟩]) .ret)))⟩
theorem a69_ok:compFn Tryz.prog Tryz.f69=some a69:=by kernel_rfl
def a162:AFn:=
⟨46,[.t 4],(.seq
 (.reg [⟨some 4,.mv (.k (.int .i64 0)),no⟩]) (.seq (.seq
 (.reg [⟨some 5,.mv (.k (.int .i64 0)),no⟩]) (.blk 0 (.loop (.seq (.seq
 (.reg [⟨some 6,.mv (.t 5),no⟩,⟨some 7,.mv (.t 0),no⟩,⟨some 8,.len false (.t 7),no⟩,⟨some 9,.bin .lss (.t 6) (.t 8),no⟩]) (.cond (.t 9) .skip (.exit 0))) (.seq (.blk 1 (.seq
 (.reg [⟨some 12,.mv (.t 0),no⟩,⟨some 13,.mv (.t 5),no⟩,⟨some 14,.mv (.t 1),no⟩,⟨some 15,.call (.k (.fn (.func 161) [] [])) [.t 14],no⟩,⟨some 16,.ixa 4 (.t 12) (.t 13),no⟩,⟨some 17,.fld 0 (.t 16),no⟩,⟨no,.st 1 (.t 17) (.t 15),no⟩]) (.seq
 (.reg [⟨some 18,.mv (.t 1),no⟩,⟨some 19,.bin .add (.t 18) (.k (.int .i64 1)),no⟩,⟨some 1,.mv (.t 19),no⟩]) (.seq
 (.reg [⟨some 20,.mv (.t 0),no⟩,⟨some 21,.mv (.t 5),no⟩,⟨some 22,.mv (.t 1),no⟩,⟨some 23,.bin .rem (.t 22) (.k (.int .i64 3)),no⟩,⟨some 24,.bin .eql (.t 23) (.k (.int .i64 0)),no⟩,⟨some 25,.ixa 4 (.t 20) (.t 21),no⟩,⟨some 26,.fld 1 (.t 25),no⟩,⟨no,.st 1 (.t 26) (.t 24),no⟩]) (.seq
 (.reg [⟨some 27,.mv (.t 1),no⟩,⟨some 28,.bin .add (.t 27) (.k (.int .i64 1)),no⟩,⟨some 1,.mv (.t 28),no⟩]) (.seq
 (.reg [⟨some 29,.mv (.t 0),no⟩,⟨some 30,.mv (.t 5),no⟩,⟨some 31,.mv (.t 1),no⟩,⟨some 32,.call (.k (.fn (.func 161) [] [])) [.t 31],no⟩,⟨some 33,.ixa 4 (.t 29) (.t 30),no⟩,⟨some 34,.fld 2 (.t 33),no⟩,⟨no,.st 1 (.t 34) (.t 32),no⟩]) (.seq
 (.reg [⟨some 35,.mv (.t 1),no⟩,⟨some 36,.bin .add (.t 35) (.k (.int .i64 1)),no⟩,⟨some 1,.mv (.t 36),no⟩]) (.seq
 (.reg [⟨some 37,.mv (.t 0),no⟩,⟨some 38,.mv (.t 5),no⟩,⟨some 39,.mv (.t 1),no⟩,⟨some 40,.call (.k (.fn (.func 161) [] [])) [.t 39],no⟩,⟨some 41,.ixa 4 (.t 37) (.t 38),no⟩,⟨some 42,.fld 3 (.t 41),no⟩,⟨no,.st 1 (.t 42) (.t 40),no⟩])
 (.reg [⟨some 43,.mv (.t 1),no⟩,⟨some 44,.bin .add (.t 43) (.k (.int .i64 1)),no⟩,⟨some 1,.mv (.t 44),no⟩])))))))))
 (.reg [⟨some 10,.mv (.t 5),no⟩,⟨some 11,.bin .add (.t 10) (.k (.int .i64 1)),no⟩,⟨some 5,.mv (.t 11),no⟩])))))) (.seq
 (.reg [⟨some 45,.mv (.t 1),no⟩,⟨some 4,.mv (.t 45),no⟩]) .ret)))⟩
theorem a162_ok:compFn Tryz.prog Tryz.f162=some a162:=by kernel_rfl
def a164:AFn:=
⟨36,[.t 4],(.seq
 (.reg [⟨some 4,.mv (.k (.int .i64 0)),no⟩]) (.seq (.seq
 (.reg [⟨some 5,.mv (.k (.int .i64 0)),no⟩]) (.blk 0 (.loop (.seq (.seq
 (.reg [⟨some 6,.mv (.t 5),no⟩,⟨some 7,.mv (.t 0),no⟩,⟨some 8,.len false (.t 7),no⟩,⟨some 9,.bin .lss (.t 6) (.t 8),no⟩]) (.cond (.t 9) .skip (.exit 0))) (.seq (.blk 1 (.seq
 (.reg [⟨some 12,.mv (.t 0),no⟩,⟨some 13,.mv (.t 5),no⟩,⟨some 14,.mv (.t 1),no⟩,⟨some 15,.call (.k (.fn (.func 161) [] [])) [.t 14],no⟩,⟨some 16,.ixa 3 (.t 12) (.t 13),no⟩,⟨some 17,.fld 0 (.t 16),no⟩,⟨no,.st 1 (.t 17) (.t 15),no⟩]) (.seq
 (.reg [⟨some 18,.mv (.t 1),no⟩,⟨some 19,.bin .add (.t 18) (.k (.int .i64 1)),no⟩,⟨some 1,.mv (.t 19),no⟩]) (.seq
 (.reg [⟨some 20,.mv (.t 0),no⟩,⟨some 21,.mv (.t 5),no⟩,⟨some 22,.mv (.t 1),no⟩,⟨some 23,.call (.k (.fn (.func 161) [] [])) [.t 22],no⟩,⟨some 24,.ixa 3 (.t 20) (.t 21),no⟩,⟨some 25,.fld 1 (.t 24),no⟩,⟨no,.st 1 (.t 25) (.t 23),no⟩]) (.seq
 (.reg [⟨some 26,.mv (.t 1),no⟩,⟨some 27,.bin .add (.t 26) (.k (.int .i64 1)),no⟩,⟨some 1,.mv (.t 27),no⟩])
 (.reg [⟨some 28,.mv (.t 0),no⟩,⟨some 29,.mv (.t 5),no⟩,⟨some 30,.ixa 3 (.t 28) (.t 29),no⟩,⟨some 31,.fld 2 (.t 30),no⟩,⟨some 32,.ld false 1 (.t 31),no⟩,⟨some 33,.mv (.t 1),no⟩,⟨some 34,.call (.k (.fn (.func 237) [] [])) [.t 32,.t 33],no⟩,⟨some 1,.mv (.t 34),no⟩]))))))
 (.reg [⟨some 10,.mv (.t 5),no⟩,⟨some 11,.bin .add (.t 10) (.k (.int .i64 1)),no⟩,⟨some 5,.mv (.t 11),no⟩])))))) (.seq
 (.reg [⟨some 35,.mv (.t 1),no⟩,⟨some 4,.mv (.t 35),no⟩]) .ret)))⟩
theorem a164_ok:compFn Tryz.prog Tryz.f164=some a164:=by kernel_rfl
def a70:AFn:=
⟨69,[.t 4],(.seq
 (.reg [⟨some 4,.mv (.k (.int .i64 0)),no⟩]) (.seq (.seq
 (.reg [⟨some 5,.mv (.k (.int .i64 0)),no⟩]) (.blk 0 (.loop (.seq (.seq
 (.reg [⟨some 6,.mv (.t 5),no⟩,⟨some 7,.mv (.t 0),no⟩,⟨some 8,.len false (.t 7),no⟩,⟨some 9,.bin .lss (.t 6) (.t 8),no⟩]) (.cond (.t 9) .skip (.exit 0))) (.seq (.blk 1 (.seq
 (.reg [⟨some 12,.mv (.t 0),no⟩,⟨some 13,.mv (.t 5),no⟩,⟨some 14,.mv (.t 1),no⟩,⟨some 15,.call (.k (.fn (.func 161) [] [])) [.t 14],no⟩,⟨some 16,.ixa 7 (.t 12) (.t 13),no⟩,⟨some 17,.fld 0 (.t 16),no⟩,⟨no,.st 1 (.t 17) (.t 15),no⟩]) (.seq
 (.reg [⟨some 18,.mv (.t 1),no⟩,⟨some 19,.bin .add (.t 18) (.k (.int .i64 1)),no⟩,⟨some 1,.mv (.t 19),no⟩]) (.seq
 (.reg [⟨some 20,.mv (.t 0),no⟩,⟨some 21,.mv (.t 5),no⟩,⟨some 22,.ixa 7 (.t 20) (.t 21),no⟩,⟨some 23,.fld 1 (.t 22),no⟩,⟨some 24,.ld false 1 (.t 23),no⟩,⟨some 25,.mv (.t 1),no⟩,⟨some 26,.call (.k (.fn (.func 162) [] [])) [.t 24,.t 25],no⟩,⟨some 1,.mv (.t 26),no⟩]) (.seq
 (.reg [⟨some 27,.mv (.t 0),no⟩,⟨some 28,.mv (.t 5),no⟩,⟨some 29,.ixa 7 (.t 27) (.t 28),no⟩,⟨some 30,.fld 2 (.t 29),no⟩,⟨some 31,.ld false 1 (.t 30),no⟩,⟨some 32,.mv (.t 1),no⟩,⟨some 33,.call (.k (.fn (.func 163) [] [])) [.t 31,.t 32],no⟩,⟨some 1,.mv (.t 33),no⟩]) (.seq
 (.reg [⟨some 34,.mv (.t 0),no⟩,⟨some 35,.mv (.t 5),no⟩,⟨some 36,.ixa 7 (.t 34) (.t 35),no⟩,⟨some 37,.fld 3 (.t 36),no⟩,⟨some 38,.ld false 1 (.t 37),no⟩,⟨some 39,.mv (.t 1),no⟩,⟨some 40,.call (.k (.fn (.func 164) [] [])) [.t 38,.t 39],no⟩,⟨some 1,.mv (.t 40),no⟩]) (.seq
 (.reg [⟨some 41,.mv (.t 0),no⟩,⟨some 42,.mv (.t 5),no⟩,⟨some 43,.mv (.t 1),no⟩,⟨some 44,.bin .rem (.t 43) (.k (.int .i64 3)),no⟩,⟨some 45,.bin .eql (.t 44) (.k (.int .i64 0)),no⟩,⟨some 46,.ixa 7 (.t 41) (.t 42),no⟩,⟨some 47,.fld 4 (.t 46),no⟩,⟨some 48,.fld 0 (.t 47),no⟩,⟨no,.st 1 (.t 48) (.t 45),no⟩]) (.seq
 (.reg [⟨some 49,.mv (.t 1),no⟩,⟨some 50,.bin .add (.t 49) (.k (.int .i64 1)),no⟩,⟨some 1,.mv (.t 50),no⟩]) (.seq
 (.reg [⟨some 51,.mv (.t 0),no⟩,⟨some 52,.mv (.t 5),no⟩,⟨some 53,.ixa 7 (.t 51) (.t 52),no⟩,⟨some 54,.fld 4 (.t 53),no⟩,⟨some 55,.fld 1 (.t 54),no⟩,⟨some 56,.ld false 1 (.t 55),no⟩,⟨some 57,.mv (.t 1),no⟩,⟨some 58,.call (.k (.fn (.func 163) [] [])) [.t 56,.t 57],no⟩,⟨some 1,.mv (.t 58),no⟩]) (.seq
 (.reg [⟨some 59,.mv (.t 0),no⟩,⟨some 60,.mv (.t 5),no⟩,⟨some 61,.mv (.t 1),no⟩,⟨some 62,.call (.k (.fn (.func 161) [] [])) [.t 61],no⟩,⟨some 63,.ixa 7 (.t 59) (.t 60),no⟩,⟨some 64,.fld 4 (.t 63),no⟩,⟨some 65,.fld 2 (.t 64),no⟩,⟨no,.st 1 (.t 65) (.t 62),no⟩])
 (.reg [⟨some 66,.mv (.t 1),no⟩,⟨some 67,.bin .add (.t 66) (.k (.int .i64 1)),no⟩,⟨some 1,.mv (.t 67),no⟩])))))))))))
 (.reg [⟨some 10,.mv (.t 5),no⟩,⟨some 11,.bin .add (.t 10) (.k (.int .i64 1)),no⟩,⟨some 5,.mv (.t 11),no⟩])))))) (.seq
 (.reg [⟨some 68,.mv (.t 1),no⟩,⟨some 4,.mv (.t 68),no⟩]) .ret)))⟩
theorem a70_ok:compFn Tryz.prog Tryz.f70=some a70:=by kernel_rfl
def a17:AFn:=
⟨14,[.t 4],(.seq
 (.reg [⟨some 2,.boxv (.t 0),no⟩,⟨some 4,.mv (.k (.int .i64 0)),no⟩]) (.seq
 (.reg [⟨some 5,.fld 0 (.t 2),no⟩,⟨some 6,.ld false 1 (.t 5),no⟩,⟨some 7,.mv (.t 1),no⟩,⟨some 8,.call (.k (.fn (.func 69) [] [])) [.t 6,.t 7],no⟩,⟨some 1,.mv (.t 8),no⟩]) (.seq
 (.reg [⟨some 9,.fld 1 (.t 2),no⟩,⟨some 10,.ld false 1 (.t 9),no⟩,⟨some 11,.mv (.t 1),no⟩,⟨some 12,.call (.k (.fn (.func 70) [] [])) [.t 10,.t 11],no⟩,⟨some 1,.mv (.t 12),no⟩]) (.seq
 (.reg [⟨some 13,.mv (.t 1),no⟩,⟨some 4,.mv (.t 13),no⟩]) .ret))))⟩
theorem a17_ok:compFn Tryz.prog Tryz.f17=some a17:=by kernel_rfl
def a31:AFn:=
⟨18,[.t 4],(.seq
 (.reg [⟨some 2,.boxv (.t 0),no⟩,⟨some 4,.mv (.k (.int .i64 0)),no⟩]) (.seq
 (.reg [⟨some 5,.fld 0 (.t 2),no⟩,⟨some 6,.ld false 1 (.t 5),no⟩,⟨some 7,.mv (.t 1),no⟩,⟨some 8,.call (.k (.fn (.func 94) [] [])) [.t 6,.t 7],no⟩,⟨some 1,.mv (.t 8),no⟩]) (.seq (.seq
 (.reg [⟨some 9,.mv (.t 1),no⟩,⟨some 10,.bin .lss (.t 9) (.k (.int .i64 0)),no⟩]) (.cond (.t 10) (.seq
 (.reg [⟨some 4,.mv (.k (.int .i64 (-1))),no⟩]) .ret) .skip)) (.seq
 (.reg [⟨some 11,.fld 1 (.t 2),no⟩,⟨some 12,.ld false 1 (.t 11),no⟩,⟨some 13,.mv (.t 1),no⟩,⟨some 14,.call (.k (.fn (.func 95) [] [])) [.t 12,.t 13],no⟩,⟨some 1,.mv (.t 14),no⟩]) (.seq (.seq
 (.reg [⟨some 15,.mv (.t 1),no⟩,⟨some 16,.bin .lss (.t 15) (.k (.int .i64 0)),no⟩]) (.cond (.t 16) (.seq
 (.reg [⟨some 4,.mv (.k (.int .i64 (-1))),no⟩]) .ret) .skip)) (.seq
 (.reg [⟨some 17,.mv (.t 1),no⟩,⟨some 4,.mv (.t 17),no⟩]) .ret))))))⟩
set_option maxRecDepth 20000 in
set_option maxHeartbeats 1000000 in
theorem m_markTermS (l:List DTerm) (k:Int) (h0:0≤k∧k+cTermS l≤4611686018427387904):Marks Tryz.prog 236 (.us 2 (l.map rUTerm)) k (.us 2 ((mkTermS l k).map rUTerm)) (k+cTermS l):=by
 intro h n a I K hT hI hn hK
 obtain ⟨id,rows0,I0,rfl,_,hB,_⟩:=TR_us hT
 simp only [List.length_map] at hT hB hK ⊢
 refine acall_len Tryz.func236 rfl rfl (by rw [hB]; simp) fun hlim => ?_
 refine acall_body Tryz.func236 a236_ok rfl (by simp [a236]) ?_
 simp [a236]
 unfold cTermS at *
 refine rL_forO [0] 5 l.length (fun i s h1 n1=>MJ mkrTerm crTerm rUTerm 2 h n id I l k i (s 1) h1 n1) hlim (by simp) (by simpa using MJ.start hT) ?_ ?_
 · rintro i s h1 n1 R hi hg hk s5 hw hJ hR hret _
   simp at hk
   obtain ⟨x,ki,rows,cells,I2,s1,hki,hki2,hlen,hc0,hnd,hI2,hstart,hclose⟩:=hJ.step2 hI hn hi
   simp only [rUTerm] at hc0
   simp only [crTerm] at hki2
   obtain ⟨_,rfl,hc1⟩:=TRl_int.1 hc0
   obtain ⟨_,rfl,hc2⟩:=TRl_str.1 hc1
   obtain ⟨rfl,rfl⟩:=TRl_nil.1 hc2
   have S:=hstart _ Kids.nil
   have e:=S.e
   have w0:IntKind.i64.wrap (ki+1)=ki+1:=wrap64 (by omega)
   have w1:IntKind.i64.wrap (ki+1+1)=ki+1+1:=wrap64 (by omega)
   simp [hk,s5,hi,hw,s1,e,hlen,w0,w1]
   intro _
   first | refine callD_of (k_markText (ki+1) (by omega)) (by simp) ?_ | refine call_of (k_markText (ki+1) (by omega)) (by simp) ?_
   rintro r rfl
   simp [hk,s5,hi,hw,s1,e,hlen,w0,w1]
   refine hR _ _ _ (by simp [hk]) (by simp) (hclose _ _ [.int .i64 (ki),.str (mtx (ki+1))] _ _ S.store (TRl_int.2 ⟨_,rfl,(TRl_str.2 ⟨_,rfl,(TRl_nil.2 ⟨rfl,rfl⟩)⟩)⟩) (by simp [i64,crTerm]; try omega))
 · rintro s h1 n1 R hk s5 hJ hret hX
   simp at hk
   obtain ⟨s1,hn1,hf,ht⟩:=hJ.fin
   simp [hk,s5,s1]
   refine ⟨TR_some ht,fun _ => ?_⟩
   refine hX _ _ _ _ ?_
   simp [hk,s5,s1]
   exact hK _ _ hn1 hf ht
set_option maxRecDepth 20000 in
set_option maxHeartbeats 1000000 in
theorem m_markSumS (l:List DSum) (k:Int) (h0:0≤k∧k+cSumS l≤4611686018427387904):Marks Tryz.prog 163 (.us 2 (l.map rUSum)) k (.us 2 ((mkSumS l k).map rUSum)) (k+cSumS l):=by
 intro h n a I K hT hI hn hK
 obtain ⟨id,rows0,I0,rfl,_,hB,_⟩:=TR_us hT
 simp only [List.length_map] at hT hB hK ⊢
 refine acall_len Tryz.func163 rfl rfl (by rw [hB]; simp) fun hlim => ?_
 refine acall_body Tryz.func163 a163_ok rfl (by simp [a163]) ?_
 simp [a163]
 unfold cSumS at *
 refine rL_forO [0] 5 l.length (fun i s h1 n1=>MJ mkrSum crSum rUSum 2 h n id I l k i (s 1) h1 n1) hlim (by simp) (by simpa using MJ.start hT) ?_ ?_
 · rintro i s h1 n1 R hi hg hk s5 hw hJ hR hret _
   simp at hk
   obtain ⟨x,ki,rows,cells,I2,s1,hki,hki2,hlen,hc0,hnd,hI2,hstart,hclose⟩:=hJ.step2 hI hn hi
   simp only [rUSum] at hc0
   simp only [crSum] at hki2
   obtain ⟨_,rfl,hc1⟩:=TRl_int.1 hc0
   obtain ⟨d1,len1,_,J1,_,rfl,rfl,hl1,ht1,hc2⟩:=TRl_us hc1
   have hq1:len1=(x.Terms).length:=by simpa using hl1
   subst hq1
   obtain ⟨rfl,rfl⟩:=TRl_nil.1 hc2
   have S:=hstart _ (Kids.cons ht1 hnd hI2 fun hnd hI2=>Kids.nil)
   have e:=S.e
   have w0:IntKind.i64.wrap (ki+1)=ki+1:=wrap64 (by omega)
   simp [hk,s5,hi,hw,s1,e,hlen,w0]
   intro _
   refine RS.mark (T1:=[]) (m_markTermS _ _ (by omega)) S.store ?_
   clear S e
   intro h2 n2 S
   have e:=S.e
   simp [hk,s5,hi,hw,s1,e,hlen,w0]
   refine hR _ _ _ (by simp [hk]) (by simp) (hclose _ _ [.int .i64 (ki),.ref d1 0 (x.Terms).length] _ _ S (TRl_int.2 ⟨_,rfl,(TRl_cons (S.live.ids (_,.ref d1 0 _,J1) (by simp [mkrSum])).1 (TRl_nil.2 ⟨rfl,rfl⟩))⟩) (by simp [i64,crSum]; try omega))
 · rintro s h1 n1 R hk s5 hJ hret hX
   simp at hk
   obtain ⟨s1,hn1,hf,ht⟩:=hJ.fin
   simp [hk,s5,s1]
   refine ⟨TR_some ht,fun _ => ?_⟩
   refine hX _ _ _ _ ?_
   simp [hk,s5,s1]
   exact hK _ _ hn1 hf ht
set_option maxRecDepth 20000 in
set_option maxHeartbeats 1000000 in
theorem m_markArgS (l:List DArg) (k:Int) (h0:0≤k∧k+cArgS l≤4611686018427387904):Marks Tryz.prog 237 (.us 3 (l.map rUArg)) k (.us 3 ((mkArgS l k).map rUArg)) (k+cArgS l):=by
 intro h n a I K hT hI hn hK
 obtain ⟨id,rows0,I0,rfl,_,hB,_⟩:=TR_us hT
 simp only [List.length_map] at hT hB hK ⊢
 refine acall_len Tryz.func237 rfl rfl (by rw [hB]; simp) fun hlim => ?_
 refine acall_body Tryz.func237 a237_ok rfl (by simp [a237]) ?_
 simp [a237]
 unfold cArgS at *
 refine rL_forO [0] 5 l.length (fun i s h1 n1=>MJ mkrArg crArg rUArg 3 h n id I l k i (s 1) h1 n1) hlim (by simp) (by simpa using MJ.start hT) ?_ ?_
 · rintro i s h1 n1 R hi hg hk s5 hw hJ hR hret _
   simp at hk
   obtain ⟨x,ki,rows,cells,I2,s1,hki,hki2,hlen,hc0,hnd,hI2,hstart,hclose⟩:=hJ.step2 hI hn hi
   simp only [rUArg] at hc0
   simp only [crArg] at hki2
   obtain ⟨_,rfl,hc1⟩:=TRl_bool.1 hc0
   obtain ⟨d1,len1,_,J1,_,rfl,rfl,hl1,ht1,hc2⟩:=TRl_us hc1
   have hq1:len1=(x.Heads).length:=by simpa using hl1
   subst hq1
   obtain ⟨_,rfl,hc3⟩:=TRl_str.1 hc2
   obtain ⟨rfl,rfl⟩:=TRl_nil.1 hc3
   have S:=hstart _ (Kids.cons ht1 hnd hI2 fun hnd hI2=>Kids.nil)
   have e:=S.e
   have w0:IntKind.i64.wrap (ki+1)=ki+1:=wrap64 (by omega)
   have w1:IntKind.i64.wrap (ki+1+cSumS x.Heads+1)=ki+1+cSumS x.Heads+1:=wrap64 (by omega)
   simp [hk,s5,hi,hw,s1,e,hlen,w0,w1]
   intro _
   refine RS.mark (T1:=[]) (m_markSumS _ _ (by omega)) S.store ?_
   clear S e
   intro h2 n2 S
   have e:=S.e
   simp [hk,s5,hi,hw,s1,e,hlen,w0,w1]
   first | refine callD_of (k_markText (ki+1+cSumS x.Heads) (by omega)) (by simp) ?_ | refine call_of (k_markText (ki+1+cSumS x.Heads) (by omega)) (by simp) ?_
   rintro r rfl
   simp [hk,s5,hi,hw,s1,e,hlen,w0,w1]
   have S:=S.store (cells':=[.bool ((ki).tmod 3==0),.ref d1 0 (x.Heads).length,.str (mtx (ki+1+cSumS x.Heads))])
   refine hR _ _ _ (by simp [hk]) (by simp) (hclose _ _ [.bool ((ki).tmod 3==0),.ref d1 0 (x.Heads).length,.str (mtx (ki+1+cSumS x.Heads))] _ _ S (TRl_bool.2 ⟨_,rfl,(TRl_cons (S.live.ids (_,.ref d1 0 _,J1) (by simp [mkrArg])).1 (TRl_str.2 ⟨_,rfl,(TRl_nil.2 ⟨rfl,rfl⟩)⟩))⟩) (by simp [i64,crArg]; try omega))
 · rintro s h1 n1 R hk s5 hJ hret hX
   simp at hk
   obtain ⟨s1,hn1,hf,ht⟩:=hJ.fin
   simp [hk,s5,s1]
   refine ⟨TR_some ht,fun _ => ?_⟩
   refine hX _ _ _ _ ?_
   simp [hk,s5,s1]
   exact hK _ _ hn1 hf ht
set_option maxRecDepth 20000 in
set_option maxHeartbeats 1000000 in
theorem m_markFunctionS (l:List DFunction) (k:Int) (h0:0≤k∧k+cFunctionS l≤4611686018427387904):Marks Tryz.prog 69 (.us 4 (l.map rUFunction)) k (.us 4 ((mkFunctionS l k).map rUFunction)) (k+cFunctionS l):=by
 intro h n a I K hT hI hn hK
 obtain ⟨id,rows0,I0,rfl,_,hB,_⟩:=TR_us hT
 simp only [List.length_map] at hT hB hK ⊢
 refine acall_len Tryz.func69 rfl rfl (by rw [hB]; simp) fun hlim => ?_
 refine acall_body Tryz.func69 a69_ok rfl (by simp [a69]) ?_
 simp [a69]
 unfold cFunctionS at *
 refine rL_forO [0] 5 l.length (fun i s h1 n1=>MJ mkrFunction crFunction rUFunction 4 h n id I l k i (s 1) h1 n1) hlim (by simp) (by simpa using MJ.start hT) ?_ ?_
 · rintro i s h1 n1 R hi hg hk s5 hw hJ hR hret _
   simp at hk
   obtain ⟨x,ki,rows,cells,I2,s1,hki,hki2,hlen,hc0,hnd,hI2,hstart,hclose⟩:=hJ.step2 hI hn hi
   simp only [rUFunction] at hc0
   simp only [crFunction] at hki2
   obtain ⟨_,rfl,hc1⟩:=TRl_str.1 hc0
   obtain ⟨d1,len1,_,J1,_,rfl,rfl,hl1,ht1,hc2⟩:=TRl_us hc1
   have hq1:len1=(x.Params).length:=by simpa using hl1
   subst hq1
   obtain ⟨_,rfl,hc3⟩:=TRl_bool.1 hc2
   obtain ⟨d3,len3,_,J3,_,rfl,rfl,hl3,ht3,hc4⟩:=TRl_us hc3
   have hq3:len3=(x.Pre).length:=by simpa using hl3
   subst hq3
   obtain ⟨rfl,rfl⟩:=TRl_nil.1 hc4
   have S:=hstart _ (Kids.cons ht1 hnd hI2 fun hnd hI2=>(Kids.cons ht3 hnd hI2 fun hnd hI2=>Kids.nil))
   have e:=S.e
   have w0:IntKind.i64.wrap (ki+1)=ki+1:=wrap64 (by omega)
   have w1:IntKind.i64.wrap (ki+1+cStringS x.Params+1)=ki+1+cStringS x.Params+1:=wrap64 (by omega)
   simp [hk,s5,hi,hw,s1,e,hlen,w0,w1]
   intro _
   first | refine callD_of (k_markText (ki) (by omega)) (by simp) ?_ | refine call_of (k_markText (ki) (by omega)) (by simp) ?_
   rintro r rfl
   simp [hk,s5,hi,hw,s1,e,hlen,w0,w1]
   refine RS.mark (T1:=[]) (m_markStringS _ _ (by omega)) S.store ?_
   clear S e
   intro h2 n2 S
   have e:=S.e
   simp [hk,s5,hi,hw,s1,e,hlen,w0,w1]
   refine RS.mark (T1:=[_]) (m_markLinS _ _ (by omega)) S.store ?_
   clear S e
   intro h2 n2 S
   have e:=S.e
   simp [hk,s5,hi,hw,s1,e,hlen,w0,w1]
   refine hR _ _ _ (by simp [hk]) (by simp) (hclose _ _ [.str (mtx (ki)),.ref d1 0 (x.Params).length,.bool ((ki+1+cStringS x.Params).tmod 3==0),.ref d3 0 (x.Pre).length] _ _ S (TRl_str.2 ⟨_,rfl,(TRl_cons (S.live.ids (_,.ref d1 0 _,J1) (by simp [mkrFunction])).1 (TRl_bool.2 ⟨_,rfl,(TRl_cons (S.live.ids (_,.ref d3 0 _,J3) (by simp [mkrFunction])).1 (TRl_nil.2 ⟨rfl,rfl⟩))⟩))⟩) (by simp [i64,crFunction]; try omega))
 · rintro s h1 n1 R hk s5 hJ hret hX
   simp at hk
   obtain ⟨s1,hn1,hf,ht⟩:=hJ.fin
   simp [hk,s5,s1]
   refine ⟨TR_some ht,fun _ => ?_⟩
   refine hX _ _ _ _ ?_
   simp [hk,s5,s1]
   exact hK _ _ hn1 hf ht
set_option maxRecDepth 20000 in
set_option maxHeartbeats 1000000 in
theorem m_markPatternS (l:List DPattern) (k:Int) (h0:0≤k∧k+cPatternS l≤4611686018427387904):Marks Tryz.prog 162 (.us 4 (l.map rUPattern)) k (.us 4 ((mkPatternS l k).map rUPattern)) (k+cPatternS l):=by
 intro h n a I K hT hI hn hK
 obtain ⟨id,rows0,I0,rfl,_,hB,_⟩:=TR_us hT
 simp only [List.length_map] at hT hB hK ⊢
 refine acall_len Tryz.func162 rfl rfl (by rw [hB]; simp) fun hlim => ?_
 refine acall_body Tryz.func162 a162_ok rfl (by simp [a162]) ?_
 simp [a162]
 unfold cPatternS at *
 refine rL_forO [0] 5 l.length (fun i s h1 n1=>MJ mkrPattern crPattern rUPattern 4 h n id I l k i (s 1) h1 n1) hlim (by simp) (by simpa using MJ.start hT) ?_ ?_
 · rintro i s h1 n1 R hi hg hk s5 hw hJ hR hret _
   simp at hk
   obtain ⟨x,ki,rows,cells,I2,s1,hki,hki2,hlen,hc0,hnd,hI2,hstart,hclose⟩:=hJ.step2 hI hn hi
   simp only [rUPattern] at hc0
   simp only [crPattern] at hki2
   obtain ⟨_,rfl,hc1⟩:=TRl_str.1 hc0
   obtain ⟨_,rfl,hc2⟩:=TRl_bool.1 hc1
   obtain ⟨_,rfl,hc3⟩:=TRl_str.1 hc2
   obtain ⟨_,rfl,hc4⟩:=TRl_str.1 hc3
   obtain ⟨rfl,rfl⟩:=TRl_nil.1 hc4
   have S:=hstart _ Kids.nil
   have e:=S.e
   have w0:IntKind.i64.wrap (ki+1)=ki+1:=wrap64 (by omega)
   have w1:IntKind.i64.wrap (ki+1+1)=ki+1+1:=wrap64 (by omega)
   have w2:IntKind.i64.wrap (ki+1+1+1)=ki+1+1+1:=wrap64 (by omega)
   have w3:IntKind.i64.wrap (ki+1+1+1+1)=ki+1+1+1+1:=wrap64 (by omega)
   simp [hk,s5,hi,hw,s1,e,hlen,w0,w1,w2,w3]
   intro _
   first | refine callD_of (k_markText (ki) (by omega)) (by simp) ?_ | refine call_of (k_markText (ki) (by omega)) (by simp) ?_
   rintro r rfl
   simp [hk,s5,hi,hw,s1,e,hlen,w0,w1,w2,w3]
   first | refine callD_of (k_markText (ki+1+1) (by omega)) (by simp) ?_ | refine call_of (k_markText (ki+1+1) (by omega)) (by simp) ?_
   rintro r rfl
   simp [hk,s5,hi,hw,s1,e,hlen,w0,w1,w2,w3]
   first | refine callD_of (k_markText (ki+1+1+1) (by omega)) (by simp) ?_ | refine call_of (k_markText (ki+1+1+1) (by omega)) (by simp) ?_
   rintro r rfl
   simp [hk,s5,hi,hw,s1,e,hlen,w0,w1,w2,w3]
   refine hR _ _ _ (by simp [hk]) (by simp) (hclose _ _ [.str (mtx (ki)),.bool ((ki+1).tmod 3==0),.str (mtx (ki+1+1)),.str (mtx (ki+1+1+1))] _ _ S.store (TRl_str.2 ⟨_,rfl,(TRl_bool.2 ⟨_,rfl,(TRl_str.2 ⟨_,rfl,(TRl_str.2 ⟨_,rfl,(TRl_nil.2 ⟨rfl,rfl⟩)⟩)⟩)⟩)⟩) (by simp [i64,crPattern]; try omega))
 · rintro s h1 n1 R hk s5 hJ hret hX
   simp at hk
   obtain ⟨s1,hn1,hf,ht⟩:=hJ.fin
   simp [hk,s5,s1]
   refine ⟨TR_some ht,fun _ => ?_⟩
   refine hX _ _ _ _ ?_
   simp [hk,s5,s1]
   exact hK _ _ hn1 hf ht
set_option maxRecDepth 20000 in
set_option maxHeartbeats 1000000 in
theorem m_markCallS (l:List DCall) (k:Int) (h0:0≤k∧k+cCallS l≤4611686018427387904):Marks Tryz.prog 164 (.us 3 (l.map rUCall)) k (.us 3 ((mkCallS l k).map rUCall)) (k+cCallS l):=by
 intro h n a I K hT hI hn hK
 obtain ⟨id,rows0,I0,rfl,_,hB,_⟩:=TR_us hT
 simp only [List.length_map] at hT hB hK ⊢
 refine acall_len Tryz.func164 rfl rfl (by rw [hB]; simp) fun hlim => ?_
 refine acall_body Tryz.func164 a164_ok rfl (by simp [a164]) ?_
 simp [a164]
 unfold cCallS at *
 refine rL_forO [0] 5 l.length (fun i s h1 n1=>MJ mkrCall crCall rUCall 3 h n id I l k i (s 1) h1 n1) hlim (by simp) (by simpa using MJ.start hT) ?_ ?_
 · rintro i s h1 n1 R hi hg hk s5 hw hJ hR hret _
   simp at hk
   obtain ⟨x,ki,rows,cells,I2,s1,hki,hki2,hlen,hc0,hnd,hI2,hstart,hclose⟩:=hJ.step2 hI hn hi
   simp only [rUCall] at hc0
   simp only [crCall] at hki2
   obtain ⟨_,rfl,hc1⟩:=TRl_str.1 hc0
   obtain ⟨_,rfl,hc2⟩:=TRl_str.1 hc1
   obtain ⟨d2,len2,_,J2,_,rfl,rfl,hl2,ht2,hc3⟩:=TRl_us hc2
   have hq2:len2=(x.Args).length:=by simpa using hl2
   subst hq2
   obtain ⟨rfl,rfl⟩:=TRl_nil.1 hc3
   have S:=hstart _ (Kids.cons ht2 hnd hI2 fun hnd hI2=>Kids.nil)
   have e:=S.e
   have w0:IntKind.i64.wrap (ki+1)=ki+1:=wrap64 (by omega)
   have w1:IntKind.i64.wrap (ki+1+1)=ki+1+1:=wrap64 (by omega)
   simp [hk,s5,hi,hw,s1,e,hlen,w0,w1]
   intro _
   first | refine callD_of (k_markText (ki) (by omega)) (by simp) ?_ | refine call_of (k_markText (ki) (by omega)) (by simp) ?_
   rintro r rfl
   simp [hk,s5,hi,hw,s1,e,hlen,w0,w1]
   first | refine callD_of (k_markText (ki+1) (by omega)) (by simp) ?_ | refine call_of (k_markText (ki+1) (by omega)) (by simp) ?_
   rintro r rfl
   simp [hk,s5,hi,hw,s1,e,hlen,w0,w1]
   refine RS.mark (T1:=[]) (m_markArgS _ _ (by omega)) S.store ?_
   clear S e
   intro h2 n2 S
   have e:=S.e
   simp [hk,s5,hi,hw,s1,e,hlen,w0,w1]
   refine hR _ _ _ (by simp [hk]) (by simp) (hclose _ _ [.str (mtx (ki)),.str (mtx (ki+1)),.ref d2 0 (x.Args).length] _ _ S (TRl_str.2 ⟨_,rfl,(TRl_str.2 ⟨_,rfl,(TRl_cons (S.live.ids (_,.ref d2 0 _,J2) (by simp [mkrCall])).1 (TRl_nil.2 ⟨rfl,rfl⟩))⟩)⟩) (by simp [i64,crCall]; try omega))
 · rintro s h1 n1 R hk s5 hJ hret hX
   simp at hk
   obtain ⟨s1,hn1,hf,ht⟩:=hJ.fin
   simp [hk,s5,s1]
   refine ⟨TR_some ht,fun _ => ?_⟩
   refine hX _ _ _ _ ?_
   simp [hk,s5,s1]
   exact hK _ _ hn1 hf ht
set_option maxRecDepth 20000 in
set_option maxHeartbeats 1000000 in
theorem m_markRuleS (l:List DRule) (k:Int) (h0:0≤k∧k+cRuleS l≤4611686018427387904):Marks Tryz.prog 70 (.us 7 (l.map rURule)) k (.us 7 ((mkRuleS l k).map rURule)) (k+cRuleS l):=by
 intro h n a I K hT hI hn hK
 obtain ⟨id,rows0,I0,rfl,_,hB,_⟩:=TR_us hT
 simp only [List.length_map] at hT hB hK ⊢
 refine acall_len Tryz.func70 rfl rfl (by rw [hB]; simp) fun hlim => ?_
 refine acall_body Tryz.func70 a70_ok rfl (by simp [a70]) ?_
 simp [a70]
 unfold cRuleS at *
 refine rL_forO [0] 5 l.length (fun i s h1 n1=>MJ mkrRule crRule rURule 7 h n id I l k i (s 1) h1 n1) hlim (by simp) (by simpa using MJ.start hT) ?_ ?_
 · rintro i s h1 n1 R hi hg hk s5 hw hJ hR hret _
   simp at hk
   obtain ⟨x,ki,rows,cells,I2,s1,hki,hki2,hlen,hc0,hnd,hI2,hstart,hclose⟩:=hJ.step2 hI hn hi
   simp only [rURule] at hc0
   simp only [crRule] at hki2
   obtain ⟨_,rfl,hc1⟩:=TRl_str.1 hc0
   obtain ⟨d1,len1,_,J1,_,rfl,rfl,hl1,ht1,hc2⟩:=TRl_us hc1
   have hq1:len1=(x.Patterns).length:=by simpa using hl1
   subst hq1
   obtain ⟨d2,len2,_,J2,_,rfl,rfl,hl2,ht2,hc3⟩:=TRl_us hc2
   have hq2:len2=(x.Guards).length:=by simpa using hl2
   subst hq2
   obtain ⟨d3,len3,_,J3,_,rfl,rfl,hl3,ht3,hc4⟩:=TRl_us hc3
   have hq3:len3=(x.Calls).length:=by simpa using hl3
   subst hq3
   obtain ⟨_,rfl,hc5⟩:=TRl_bool.1 hc4
   obtain ⟨d5,len5,_,J5,_,rfl,rfl,hl5,ht5,hc6⟩:=TRl_us hc5
   have hq5:len5=(x.Result.Heads).length:=by simpa using hl5
   subst hq5
   obtain ⟨_,rfl,hc7⟩:=TRl_str.1 hc6
   obtain ⟨rfl,rfl⟩:=TRl_nil.1 hc7
   have S:=hstart _ (Kids.cons ht1 hnd hI2 fun hnd hI2=>(Kids.cons ht2 hnd hI2 fun hnd hI2=>(Kids.cons ht3 hnd hI2 fun hnd hI2=>(Kids.cons ht5 hnd hI2 fun hnd hI2=>Kids.nil))))
   have e:=S.e
   have w0:IntKind.i64.wrap (ki+1)=ki+1:=wrap64 (by omega)
   have w1:IntKind.i64.wrap (ki+1+cPatternS x.Patterns+cSumS x.Guards+cCallS x.Calls+1)=ki+1+cPatternS x.Patterns+cSumS x.Guards+cCallS x.Calls+1:=wrap64 (by omega)
   have w2:IntKind.i64.wrap (ki+1+cPatternS x.Patterns+cSumS x.Guards+cCallS x.Calls+1+cSumS x.Result.Heads+1)=ki+1+cPatternS x.Patterns+cSumS x.Guards+cCallS x.Calls+1+cSumS x.Result.Heads+1:=wrap64 (by omega)
   simp [hk,s5,hi,hw,s1,e,hlen,w0,w1,w2]
   intro _
   first | refine callD_of (k_markText (ki) (by omega)) (by simp) ?_ | refine call_of (k_markText (ki) (by omega)) (by simp) ?_
   rintro r rfl
   simp [hk,s5,hi,hw,s1,e,hlen,w0,w1,w2]
   refine RS.mark (T1:=[]) (m_markPatternS _ _ (by omega)) S.store ?_
   clear S e
   intro h2 n2 S
   have e:=S.e
   simp [hk,s5,hi,hw,s1,e,hlen,w0,w1,w2]
   refine RS.mark (T1:=[_]) (m_markSumS _ _ (by omega)) S ?_
   clear S e
   intro h2 n2 S
   have e:=S.e
   simp [hk,s5,hi,hw,s1,e,hlen,w0,w1,w2]
   refine RS.mark (T1:=[_,_]) (m_markCallS _ _ (by omega)) S ?_
   clear S e
   intro h2 n2 S
   have e:=S.e
   simp [hk,s5,hi,hw,s1,e,hlen,w0,w1,w2]
   refine RS.mark (T1:=[_,_,_]) (m_markSumS _ _ (by omega)) S.store ?_
   clear S e
   intro h2 n2 S
   have e:=S.e
   simp [hk,s5,hi,hw,s1,e,hlen,w0,w1,w2]
   first | refine callD_of (k_markText (ki+1+cPatternS x.Patterns+cSumS x.Guards+cCallS x.Calls+1+cSumS x.Result.Heads) (by omega)) (by simp) ?_ | refine call_of (k_markText (ki+1+cPatternS x.Patterns+cSumS x.Guards+cCallS x.Calls+1+cSumS x.Result.Heads) (by omega)) (by simp) ?_
   rintro r rfl
   simp [hk,s5,hi,hw,s1,e,hlen,w0,w1,w2]
   have S:=S.store (cells':=[.str (mtx (ki)),.ref d1 0 (x.Patterns).length,.ref d2 0 (x.Guards).length,.ref d3 0 (x.Calls).length,.bool ((ki+1+cPatternS x.Patterns+cSumS x.Guards+cCallS x.Calls).tmod 3==0),.ref d5 0 (x.Result.Heads).length,.str (mtx (ki+1+cPatternS x.Patterns+cSumS x.Guards+cCallS x.Calls+1+cSumS x.Result.Heads))])
   refine hR _ _ _ (by simp [hk]) (by simp) (hclose _ _ [.str (mtx (ki)),.ref d1 0 (x.Patterns).length,.ref d2 0 (x.Guards).length,.ref d3 0 (x.Calls).length,.bool ((ki+1+cPatternS x.Patterns+cSumS x.Guards+cCallS x.Calls).tmod 3==0),.ref d5 0 (x.Result.Heads).length,.str (mtx (ki+1+cPatternS x.Patterns+cSumS x.Guards+cCallS x.Calls+1+cSumS x.Result.Heads))] _ _ S (TRl_str.2 ⟨_,rfl,(TRl_cons (S.live.ids (_,.ref d1 0 _,J1) (by simp [mkrRule])).1 (TRl_cons (S.live.ids (_,.ref d2 0 _,J2) (by simp [mkrRule])).1 (TRl_cons (S.live.ids (_,.ref d3 0 _,J3) (by simp [mkrRule])).1 (TRl_bool.2 ⟨_,rfl,(TRl_cons (S.live.ids (_,.ref d5 0 _,J5) (by simp [mkrRule])).1 (TRl_str.2 ⟨_,rfl,(TRl_nil.2 ⟨rfl,rfl⟩)⟩))⟩))))⟩) (by simp [i64,crRule]; try omega))
 · rintro s h1 n1 R hk s5 hJ hret hX
   simp at hk
   obtain ⟨s1,hn1,hf,ht⟩:=hJ.fin
   simp [hk,s5,s1]
   refine ⟨TR_some ht,fun _ => ?_⟩
   refine hX _ _ _ _ ?_
   simp [hk,s5,s1]
   exact hK _ _ hn1 hf ht
set_option maxRecDepth 20000 in
set_option maxHeartbeats 1000000 in
theorem m_markProgram (x:DProgram) (k:Int) (h0:0≤k∧k+cProgram x≤4611686018427387904):Marks Tryz.prog 17 (.agg (rUProgram x)) k (.agg (rUProgram (mkProgram x k))) (k+cProgram x):=by
 intro h n a I K hT hI hn hK
 obtain ⟨cs,rfl,hc0⟩:=TR_agg.1 hT
 simp only [cProgram] at h0
 obtain ⟨d0,len0,_,J0,_,rfl,rfl,hl0,ht0,hc1⟩:=TRl_us hc0
 have hq0:len0=(x.Functions).length:=by simpa using hl0
 subst hq0
 obtain ⟨d1,len1,_,J1,_,rfl,rfl,hl1,ht1,hc2⟩:=TRl_us hc1
 have hq1:len1=(x.Rules).length:=by simpa using hl1
 subst hq1
 obtain ⟨rfl,rfl⟩:=TRl_nil.1 hc2
 refine acall_body Tryz.func17 a17_ok rfl (by simp [a17]) ?_
 simp [a17]
 have S:=RS.box (sz:=2) (cells:=[.ref d0 0 (x.Functions).length,.ref d1 0 (x.Rules).length]) (Kids.cons (ht0) hI hn fun hI hn=>(Kids.cons (ht1) hI hn fun hI hn=>Kids.nil)) hn
 refine RS.mark (T1:=[]) (m_markFunctionS x.Functions (k) (by omega)) S ?_
 clear S
 intro h2 n2 S
 have e:=S.e
 simp [e]
 refine RS.mark (T1:=[_]) (m_markRuleS x.Rules (k+cFunctionS x.Functions) (by omega)) S ?_
 clear S
 intro h2 n2 S
 have e:=S.e
 simp [e]
 have hb:=S.unbox
 have ht:TR h2 (.agg (rUProgram (mkProgram x k))) _ _:=TR_aggs.2 (TRl_cons (S.live.ids (.us 4 ((mkFunctionS x.Functions (k)).map rUFunction),.ref d0 0 (x.Functions).length,J0) (by simp)).1 (TRl_cons (S.live.ids (.us 7 ((mkRuleS x.Rules (k+cFunctionS x.Functions)).map rURule),.ref d1 0 (x.Rules).length,J1) (by simp)).1 (TRl_nil.2 ⟨rfl,rfl⟩)))
 have hk:=hK _ _ hb.1 hb.2 ht
 simp only [cProgram] at hk
 refine cast ?_ hk
 congr 2
 first | done | (simp; try omega)
end Go.Proofs.YtilcageplifbgaaGreat

namespace Go.Proofs.YtilcageplifbgaaGreat
set_option linter.all false
open Go Go.RowKit Go.Proofs
def a85:AFn:=
⟨12,[.t 4],(.seq
 (.reg [⟨some 4,.mv (.k (.int .i64 0)),no⟩]) (.seq
 (.reg [⟨some 5,.mv (.t 1),no⟩,⟨some 6,.mv (.t 0),no⟩,⟨some 7,.len false (.t 6),no⟩,⟨some 8,.bin .sub (.t 5) (.t 7),no⟩,⟨some 1,.mv (.t 8),no⟩]) (.seq (.seq
 (.reg [⟨some 9,.mv (.t 1),no⟩,⟨some 10,.bin .lss (.t 9) (.k (.int .i64 0)),no⟩]) (.cond (.t 10) (.seq
 (.reg [⟨some 4,.mv (.k (.int .i64 (-1))),no⟩]) .ret) .skip)) (.seq
 (.reg [⟨some 11,.mv (.t 1),no⟩,⟨some 4,.mv (.t 11),no⟩]) .ret))))⟩
theorem a85_ok:compFn Tryz.prog Tryz.f85=some a85:=by kernel_rfl
def a88:AFn:=
⟨22,[.t 2],(.seq
 (.reg [⟨some 2,.mv (.k (.nil 1)),no⟩]) (.seq
 (.reg [⟨some 5,.mv (.t 0),no⟩,⟨some 6,.len false (.t 5),no⟩,⟨some 7,.mks 8 [(.int .i64 0)] (.t 6) (.t 6),no⟩,⟨some 3,.mv (.t 7),no⟩]) (.seq (.seq
 (.reg [⟨some 4,.mv (.k (.int .i64 0)),no⟩]) (.blk 0 (.loop (.seq (.seq
 (.reg [⟨some 8,.mv (.t 4),no⟩,⟨some 9,.mv (.t 0),no⟩,⟨some 10,.len false (.t 9),no⟩,⟨some 11,.bin .lss (.t 8) (.t 10),no⟩]) (.cond (.t 11) .skip (.exit 0))) (.seq (.blk 1
 (.reg [⟨some 14,.mv (.t 3),no⟩,⟨some 15,.mv (.t 4),no⟩,⟨some 16,.mv (.t 0),no⟩,⟨some 17,.mv (.t 4),no⟩,⟨some 18,.ixa 1 (.t 16) (.t 17),no⟩,⟨some 19,.ld false 1 (.t 18),no⟩,⟨some 20,.ixa 1 (.t 14) (.t 15),no⟩,⟨no,.st 1 (.t 20) (.t 19),no⟩]))
 (.reg [⟨some 12,.mv (.t 4),no⟩,⟨some 13,.bin .add (.t 12) (.k (.int .i64 1)),no⟩,⟨some 4,.mv (.t 13),no⟩])))))) (.seq
 (.reg [⟨some 21,.mv (.t 3),no⟩,⟨some 2,.mv (.t 21),no⟩]) .ret))))⟩
theorem a88_ok:compFn Tryz.prog Tryz.f88=some a88:=by kernel_rfl
def a92:AFn:=
⟨26,[.t 4],(.seq
 (.reg [⟨some 4,.mv (.k (.bool false)),no⟩]) (.seq (.seq
 (.reg [⟨some 6,.mv (.t 0),no⟩,⟨some 7,.len false (.t 6),no⟩,⟨some 8,.mv (.t 1),no⟩,⟨some 9,.len false (.t 8),no⟩,⟨some 10,.bin .neq (.t 7) (.t 9),no⟩]) (.cond (.t 10) (.seq
 (.reg [⟨some 4,.mv (.k (.bool false)),no⟩]) .ret) .skip)) (.seq (.seq
 (.reg [⟨some 5,.mv (.k (.int .i64 0)),no⟩]) (.blk 0 (.loop (.seq (.seq
 (.reg [⟨some 11,.mv (.t 5),no⟩,⟨some 12,.mv (.t 0),no⟩,⟨some 13,.len false (.t 12),no⟩,⟨some 14,.bin .lss (.t 11) (.t 13),no⟩]) (.cond (.t 14) .skip (.exit 0))) (.seq (.blk 1 (.seq (.draw (.op ⟨some 17,.mv (.t 0),no⟩ (.op ⟨some 18,.mv (.t 5),no⟩ (.op ⟨some 19,.ixa 1 (.t 17) (.t 18),no⟩ (.op ⟨some 20,.ld false 1 (.t 19),no⟩ (.op ⟨some 21,.mv (.t 1),no⟩ (.op ⟨some 22,.mv (.t 5),no⟩ (.op ⟨some 23,.ixa 1 (.t 21) (.t 22),no⟩ (.op ⟨some 24,.ld false 1 (.t 23),no⟩ (.op ⟨some 25,.bin .neq (.t 20) (.t 24),no⟩ .fin)))))))))) (.cond (.t 25) (.seq
 (.reg [⟨some 4,.mv (.k (.bool false)),no⟩]) .ret) .skip)))
 (.reg [⟨some 15,.mv (.t 5),no⟩,⟨some 16,.bin .add (.t 15) (.k (.int .i64 1)),no⟩,⟨some 5,.mv (.t 16),no⟩])))))) (.seq
 (.reg [⟨some 4,.mv (.k (.bool true)),no⟩]) .ret))))⟩
theorem a92_ok:compFn Tryz.prog Tryz.f92=some a92:=by kernel_rfl
def a199:AFn:=
⟨28,[.t 4],(.seq
 (.reg [⟨some 4,.mv (.k (.int .i64 0)),no⟩]) (.seq
 (.reg [⟨some 6,.mv (.t 1),no⟩,⟨some 7,.mv (.t 0),no⟩,⟨some 8,.len false (.t 7),no⟩,⟨some 9,.bin .sub (.t 6) (.t 8),no⟩,⟨some 1,.mv (.t 9),no⟩]) (.seq (.seq
 (.reg [⟨some 10,.mv (.t 1),no⟩,⟨some 11,.bin .lss (.t 10) (.k (.int .i64 0)),no⟩]) (.cond (.t 11) (.seq
 (.reg [⟨some 4,.mv (.k (.int .i64 (-1))),no⟩]) .ret) .skip)) (.seq (.seq
 (.reg [⟨some 5,.mv (.k (.int .i64 0)),no⟩]) (.blk 0 (.loop (.seq (.seq
 (.reg [⟨some 12,.mv (.t 5),no⟩,⟨some 13,.mv (.t 0),no⟩,⟨some 14,.len false (.t 13),no⟩,⟨some 15,.bin .lss (.t 12) (.t 14),no⟩]) (.cond (.t 15) .skip (.exit 0))) (.seq (.blk 1 (.seq
 (.reg [⟨some 18,.mv (.t 1),no⟩,⟨some 19,.mv (.t 0),no⟩,⟨some 20,.mv (.t 5),no⟩,⟨some 21,.ixa 1 (.t 19) (.t 20),no⟩,⟨some 22,.ld false 1 (.t 21),no⟩,⟨some 23,.len true (.t 22),no⟩,⟨some 24,.bin .sub (.t 18) (.t 23),no⟩,⟨some 1,.mv (.t 24),no⟩]) (.seq
 (.reg [⟨some 25,.mv (.t 1),no⟩,⟨some 26,.bin .lss (.t 25) (.k (.int .i64 0)),no⟩]) (.cond (.t 26) (.seq
 (.reg [⟨some 4,.mv (.k (.int .i64 (-1))),no⟩]) .ret) .skip))))
 (.reg [⟨some 16,.mv (.t 5),no⟩,⟨some 17,.bin .add (.t 16) (.k (.int .i64 1)),no⟩,⟨some 5,.mv (.t 17),no⟩])))))) (.seq
 (.reg [⟨some 27,.mv (.t 1),no⟩,⟨some 4,.mv (.t 27),no⟩]) .ret)))))⟩
theorem a199_ok:compFn Tryz.prog Tryz.f199=some a199:=by kernel_rfl
def a213:AFn:=
⟨22,[.t 2],(.seq
 (.reg [⟨some 2,.mv (.k (.nil 1)),no⟩]) (.seq
 (.reg [⟨some 5,.mv (.t 0),no⟩,⟨some 6,.len false (.t 5),no⟩,⟨some 7,.mks 16 [(.str [])] (.t 6) (.t 6),no⟩,⟨some 3,.mv (.t 7),no⟩]) (.seq (.seq
 (.reg [⟨some 4,.mv (.k (.int .i64 0)),no⟩]) (.blk 0 (.loop (.seq (.seq
 (.reg [⟨some 8,.mv (.t 4),no⟩,⟨some 9,.mv (.t 0),no⟩,⟨some 10,.len false (.t 9),no⟩,⟨some 11,.bin .lss (.t 8) (.t 10),no⟩]) (.cond (.t 11) .skip (.exit 0))) (.seq (.blk 1
 (.reg [⟨some 14,.mv (.t 3),no⟩,⟨some 15,.mv (.t 4),no⟩,⟨some 16,.mv (.t 0),no⟩,⟨some 17,.mv (.t 4),no⟩,⟨some 18,.ixa 1 (.t 16) (.t 17),no⟩,⟨some 19,.ld false 1 (.t 18),no⟩,⟨some 20,.ixa 1 (.t 14) (.t 15),no⟩,⟨no,.st 1 (.t 20) (.t 19),no⟩]))
 (.reg [⟨some 12,.mv (.t 4),no⟩,⟨some 13,.bin .add (.t 12) (.k (.int .i64 1)),no⟩,⟨some 4,.mv (.t 13),no⟩])))))) (.seq
 (.reg [⟨some 21,.mv (.t 3),no⟩,⟨some 2,.mv (.t 21),no⟩]) .ret))))⟩
theorem a213_ok:compFn Tryz.prog Tryz.f213=some a213:=by kernel_rfl
def a82:AFn:=
⟨26,[.t 4],(.seq
 (.reg [⟨some 4,.mv (.k (.bool false)),no⟩]) (.seq (.seq
 (.reg [⟨some 6,.mv (.t 0),no⟩,⟨some 7,.len false (.t 6),no⟩,⟨some 8,.mv (.t 1),no⟩,⟨some 9,.len false (.t 8),no⟩,⟨some 10,.bin .neq (.t 7) (.t 9),no⟩]) (.cond (.t 10) (.seq
 (.reg [⟨some 4,.mv (.k (.bool false)),no⟩]) .ret) .skip)) (.seq (.seq
 (.reg [⟨some 5,.mv (.k (.int .i64 0)),no⟩]) (.blk 0 (.loop (.seq (.seq
 (.reg [⟨some 11,.mv (.t 5),no⟩,⟨some 12,.mv (.t 0),no⟩,⟨some 13,.len false (.t 12),no⟩,⟨some 14,.bin .lss (.t 11) (.t 13),no⟩]) (.cond (.t 14) .skip (.exit 0))) (.seq (.blk 1 (.seq (.draw (.op ⟨some 17,.mv (.t 0),no⟩ (.op ⟨some 18,.mv (.t 5),no⟩ (.op ⟨some 19,.ixa 1 (.t 17) (.t 18),no⟩ (.op ⟨some 20,.ld false 1 (.t 19),no⟩ (.op ⟨some 21,.mv (.t 1),no⟩ (.op ⟨some 22,.mv (.t 5),no⟩ (.op ⟨some 23,.ixa 1 (.t 21) (.t 22),no⟩ (.op ⟨some 24,.ld false 1 (.t 23),no⟩ (.op ⟨some 25,.bin .neq (.t 20) (.t 24),no⟩ .fin)))))))))) (.cond (.t 25) (.seq
 (.reg [⟨some 4,.mv (.k (.bool false)),no⟩]) .ret) .skip)))
 (.reg [⟨some 15,.mv (.t 5),no⟩,⟨some 16,.bin .add (.t 15) (.k (.int .i64 1)),no⟩,⟨some 5,.mv (.t 16),no⟩])))))) (.seq
 (.reg [⟨some 4,.mv (.k (.bool true)),no⟩]) .ret))))⟩
theorem a82_ok:compFn Tryz.prog Tryz.f82=some a82:=by kernel_rfl
def a25:AFn:=
⟨12,[.t 4],(.seq
 (.reg [⟨some 2,.boxv (.t 0),no⟩,⟨some 4,.mv (.k (.int .i64 0)),no⟩]) (.seq
 (.reg [⟨some 5,.fld 1 (.t 2),no⟩,⟨some 6,.ld false 1 (.t 5),no⟩,⟨some 7,.mv (.t 1),no⟩,⟨some 8,.call (.k (.fn (.func 85) [] [])) [.t 6,.t 7],no⟩,⟨some 1,.mv (.t 8),no⟩]) (.seq (.seq
 (.reg [⟨some 9,.mv (.t 1),no⟩,⟨some 10,.bin .lss (.t 9) (.k (.int .i64 0)),no⟩]) (.cond (.t 10) (.seq
 (.reg [⟨some 4,.mv (.k (.int .i64 (-1))),no⟩]) .ret) .skip)) (.seq
 (.reg [⟨some 11,.mv (.t 1),no⟩,⟨some 4,.mv (.t 11),no⟩]) .ret))))⟩
theorem a25_ok:compFn Tryz.prog Tryz.f25=some a25:=by kernel_rfl
def a27:AFn:=
⟨12,[(.c 2 true 2)],(.seq
 (.reg [⟨some 1,.boxv (.t 0),no⟩,⟨some 2,.box [(.int .i64 0),(.nil 1)],no⟩]) (.seq
 (.reg [⟨some 3,.box [(.int .i64 0),(.nil 1)],no⟩]) (.seq
 (.reg [⟨some 4,.fld 0 (.t 1),no⟩,⟨some 5,.ld false 1 (.t 4),no⟩,⟨some 6,.fld 0 (.t 3),no⟩,⟨no,.st 1 (.t 6) (.t 5),no⟩]) (.seq
 (.reg [⟨some 7,.fld 1 (.t 1),no⟩,⟨some 8,.ld false 1 (.t 7),no⟩,⟨some 9,.call (.k (.fn (.func 88) [] [])) [.t 8],no⟩,⟨some 10,.fld 1 (.t 3),no⟩,⟨no,.st 1 (.t 10) (.t 9),no⟩]) (.seq
 (.reg [⟨some 11,.ld true 2 (.t 3),no⟩,⟨no,.st 2 (.t 2) (.t 11),no⟩]) .ret)))))⟩
theorem a27_ok:compFn Tryz.prog Tryz.f27=some a27:=by kernel_rfl
def a29:AFn:=
⟨16,[.t 4],(.seq
 (.reg [⟨some 2,.boxv (.t 0),no⟩,⟨some 3,.boxv (.t 1),no⟩,⟨some 4,.mv (.k (.bool false)),no⟩]) (.seq (.seq
 (.reg [⟨some 5,.fld 0 (.t 2),no⟩,⟨some 6,.ld false 1 (.t 5),no⟩,⟨some 7,.fld 0 (.t 3),no⟩,⟨some 8,.ld false 1 (.t 7),no⟩,⟨some 9,.bin .neq (.t 6) (.t 8),no⟩]) (.cond (.t 9) (.seq
 (.reg [⟨some 4,.mv (.k (.bool false)),no⟩]) .ret) .skip)) (.seq (.seq
 (.reg [⟨some 10,.fld 1 (.t 2),no⟩,⟨some 11,.ld false 1 (.t 10),no⟩,⟨some 12,.fld 1 (.t 3),no⟩,⟨some 13,.ld false 1 (.t 12),no⟩,⟨some 14,.call (.k (.fn (.func 92) [] [])) [.t 11,.t 13],no⟩,⟨some 15,.un .not (.t 14),no⟩]) (.cond (.t 15) (.seq
 (.reg [⟨some 4,.mv (.k (.bool false)),no⟩]) .ret) .skip)) (.seq
 (.reg [⟨some 4,.mv (.k (.bool true)),no⟩]) .ret))))⟩
theorem a29_ok:compFn Tryz.prog Tryz.f29=some a29:=by kernel_rfl
def a15:AFn:=
⟨16,[.t 4],(.seq
 (.reg [⟨some 2,.boxv (.t 0),no⟩,⟨some 3,.boxv (.t 1),no⟩,⟨some 4,.mv (.k (.bool false)),no⟩]) (.seq (.seq
 (.reg [⟨some 5,.fld 0 (.t 2),no⟩,⟨some 6,.ld false 1 (.t 5),no⟩,⟨some 7,.fld 0 (.t 3),no⟩,⟨some 8,.ld false 1 (.t 7),no⟩,⟨some 9,.bin .neq (.t 6) (.t 8),no⟩]) (.cond (.t 9) (.seq
 (.reg [⟨some 4,.mv (.k (.bool false)),no⟩]) .ret) .skip)) (.seq (.seq
 (.reg [⟨some 10,.fld 1 (.t 2),no⟩,⟨some 11,.ld false 1 (.t 10),no⟩,⟨some 12,.fld 1 (.t 3),no⟩,⟨some 13,.ld false 1 (.t 12),no⟩,⟨some 14,.call (.k (.fn (.func 66) [] [])) [.t 11,.t 13],no⟩,⟨some 15,.un .not (.t 14),no⟩]) (.cond (.t 15) (.seq
 (.reg [⟨some 4,.mv (.k (.bool false)),no⟩]) .ret) .skip)) (.seq
 (.reg [⟨some 4,.mv (.k (.bool true)),no⟩]) .ret))))⟩
theorem a15_ok:compFn Tryz.prog Tryz.f15=some a15:=by kernel_rfl
def a120:AFn:=
⟨17,[.t 4],(.seq
 (.reg [⟨some 2,.boxv (.t 0),no⟩,⟨some 3,.boxv (.t 1),no⟩,⟨some 4,.mv (.k (.bool false)),no⟩]) (.seq (.seq
 (.reg [⟨some 5,.fld 0 (.t 2),no⟩,⟨some 6,.ld true 2 (.t 5),no⟩,⟨some 7,.fld 0 (.t 3),no⟩,⟨some 8,.ld true 2 (.t 7),no⟩,⟨some 9,.call (.k (.fn (.func 15) [] [])) [.t 6,.t 8],no⟩,⟨some 10,.un .not (.t 9),no⟩]) (.cond (.t 10) (.seq
 (.reg [⟨some 4,.mv (.k (.bool false)),no⟩]) .ret) .skip)) (.seq (.seq
 (.reg [⟨some 11,.fld 2 (.t 2),no⟩,⟨some 12,.ld true 2 (.t 11),no⟩,⟨some 13,.fld 2 (.t 3),no⟩,⟨some 14,.ld true 2 (.t 13),no⟩,⟨some 15,.call (.k (.fn (.func 29) [] [])) [.t 12,.t 14],no⟩,⟨some 16,.un .not (.t 15),no⟩]) (.cond (.t 16) (.seq
 (.reg [⟨some 4,.mv (.k (.bool false)),no⟩]) .ret) .skip)) (.seq
 (.reg [⟨some 4,.mv (.k (.bool true)),no⟩]) .ret))))⟩
theorem a120_ok:compFn Tryz.prog Tryz.f120=some a120:=by kernel_rfl
theorem k_szIntS (l:List Int) (left:Int) (h0:0≤left∧left≤4611686018427387904):Holds Tryz.prog 85 [.sl 1 (intsR l),i64 left] (fun r=>r=i64 (sub1 left (wIntS l))):=by
 refine holds_of_run Tryz.func85 a85_ok rfl (by simp [a85]) ?_
 simp [a85]
 unfold LIM
 intro h1
 rw [wrap64 (by omega)]
 unfold sub1 wIntS
 exact ⟨fun h=>by rw [if_pos h],fun h=>by rw [if_neg (by omega)]⟩
theorem k_toIntS (a:List Int) (hw:wIntS a≤1048576):Holds Tryz.prog 88 [.sl 1 (intsR a)] (fun r=>r = .us 1 (intsR a)):=by
 unfold wIntS at hw
 refine holds_of_run Tryz.func88 a88_ok rfl (by simp [a88]) ?_
 simp [a88]
 intro h1
 refine ⟨by unfold LIM; omega,rL_of (fun k s h n=>∃ (i:Nat) (rows:List (List AV)),k=a.length - i∧i≤a.length∧s 0=ints a∧s 3 = .ref 0 0 a.length∧s 4=i64 i∧h=upd noHeap 0 (some ⟨false,1,rows⟩)∧n=1 ∧
   rows.length=a.length∧(∀ j,j<i→rows[j]? = (intsR a)[j]?)∧(∀ j (hj:j<rows.length),rows[j].length=1)) a.length ⟨0,List.replicate a.length [i64 0],by simp⟩ ?_⟩
 rintro k s h n ⟨i,rows,rfl,hi,s0,s3,s4,rfl,rfl,hr,hj,hc⟩
 by_cases hlt:i<a.length
 · have hm:=hc i (by omega)
   have htl:rows[i].tail=[]:=List.eq_nil_of_length_eq_zero (by simp [hm])
   simp [s0,s3,s4,hlt,hr,hm]
   intro _
   refine ⟨a.length - (i+1),by omega,i+1,rfl,by omega,by rw [wrap64 (by omega)]; rfl,rows.set i [i64 a[i]],by simp [htl],by simp [hr],fun j hj' => ?_,fun j hj' => ?_⟩
   · rw [List.getElem?_set]
     by_cases hji:i=j
     · subst hji; simp [hr,hlt]
     · rw [if_neg hji]; simpa using hj j (by omega)
   · rw [List.getElem_set]
     split
     · rfl
     · exact hc j (by simpa using hj')
 · simp [s0,s3,s4,hlt,hr]
   intro _
   have:rows=intsR a:=List.ext_getElem? fun j=>by
     by_cases hji:j<i
     · exact hj j hji
     · rw [List.getElem?_eq_none (by omega),List.getElem?_eq_none (by simp; omega)]
   subst this
   simp [List.take_of_length_le]
theorem k_eqIntS (a b:List Int):Holds Tryz.prog 92 [.sl 1 (intsR a),.sl 1 (intsR b)] (fun r=>r = .bool (decide (a=b))):=by
 refine holds_of_run Tryz.func92 a92_ok rfl (by simp [a92]) ?_
 simp [a92]
 intro h1 h2
 refine ⟨fun h e=>h (by rw [e]),fun hl=>rL_of (fun k s h n=>∃ i:Nat,k=a.length - i∧i≤a.length∧s 0=ints a∧s 1=ints b∧s 5=i64 i∧(∀ j,j<i→a[j]? = b[j]?)∧h=noHeap∧n=0) a.length ⟨0,by simp⟩ ?_⟩
 rintro k s h n ⟨i,rfl,hi,s0,s1,s5,hj,rfl,rfl⟩
 have hl:a.length=b.length:=by omega
 by_cases hlt:i<a.length
 · have hlt':i<b.length:=by omega
   unfold LIM at h1
   simp [s0,s1,s5,hlt,hlt']
   intro _
   refine ⟨fun h e=>h (by subst e; rfl),fun e=>⟨a.length - (i+1),by omega,i+1,rfl,by omega,by rw [wrap64 (by omega)]; rfl,fun j hj' => ?_⟩⟩
   by_cases hji:j=i
   · subst hji; simp [hlt,hlt',e]
   · exact hj j (by omega)
 · simp [s0,s1,s5,hlt]
   intro _
   refine List.ext_getElem? fun j => ?_
   by_cases hji:j<i
   · exact hj j hji
   · rw [List.getElem?_eq_none (by omega),List.getElem?_eq_none (by omega)]
theorem k_szStringS (l:List Str) (left:Int) (h0:0≤left∧left≤4611686018427387904):Holds Tryz.prog 199 [.sl 1 (strsR l),i64 left] (fun r=>r=i64 (sub1 left (wStringS l))):=by
 rw [show wStringS l=wL List.length l from rfl,←szL_sub1 (w:=List.length) (g:=fun x lf=>sub1 lf x.length) (fun _ _ _=>rfl) l left h0.1]
 refine holds_of_run Tryz.func199 a199_ok rfl (by simp [a199]) ?_
 simp [a199]
 intro h1
 unfold LIM at h1
 unfold szL
 rw [wrap64 (by omega)]
 refine ⟨fun h=>by rw [if_pos (by omega)],fun h=>rL_of (fun k s h n=>∃ (i:Nat) (lf:Int),k=l.length - i∧i≤l.length∧s 0=strs l∧s 1=i64 lf∧s 5=i64 i∧0≤lf∧lf≤left∧szLoop (fun (x:Str) lf=>sub1 lf x.length) (l.drop i) lf=szLoop (fun (x:Str) lf=>sub1 lf x.length) l (left - l.length)∧h=noHeap∧n=0) l.length ⟨0,left - l.length,by simp; omega⟩ ?_⟩
 rintro k s h n ⟨i,lf,rfl,hi,s0,s1,s5,hf,hlf,hj,rfl,rfl⟩
 rw [if_neg (by omega),←hj]
 by_cases hlt:i<l.length
 · rw [List.drop_eq_getElem_cons hlt] at hj ⊢
   simp only [szLoop] at hj ⊢
   simp [s0,s1,s5,hlt]
   intro _ h2
   unfold LIM at h2
   rw [wrap64 (by omega)]
   by_cases hx:lf - (l[i].length:Int)<0
   · rw [sub1_neg hx]
     simp; exact fun h=>by omega
   · rw [sub1_pos hx] at hj ⊢
     rw [if_neg hx] at hj ⊢
     refine ⟨fun h=>by omega,fun _=>⟨l.length - (i+1),by omega,i+1,rfl,by omega,by rw [wrap64 (by omega)]; rfl,by omega,by omega,rfl⟩⟩
 · rw [List.drop_eq_nil_of_le (by omega)] at hj ⊢
   simp [s0,s1,s5,hlt,szLoop]
theorem k_toStringS (a:List Str) (hw:wStringS a≤1048576):Holds Tryz.prog 213 [.sl 1 (strsR a)] (fun r=>r = .us 1 (strsR a)):=by
 have hw:=Nat.le_trans (wL_len _ _) hw
 refine holds_of_run Tryz.func213 a213_ok rfl (by simp [a213]) ?_
 simp [a213]
 intro h1
 refine ⟨by unfold LIM; omega,rL_of (fun k s h n=>∃ (i:Nat) (rows:List (List AV)),k=a.length - i∧i≤a.length∧s 0=strs a∧s 3 = .ref 0 0 a.length∧s 4=i64 i∧h=upd noHeap 0 (some ⟨false,1,rows⟩)∧n=1 ∧
   rows.length=a.length∧(∀ j,j<i→rows[j]? = (strsR a)[j]?)∧(∀ j (hj:j<rows.length),rows[j].length=1)) a.length ⟨0,List.replicate a.length [.str []],by simp⟩ ?_⟩
 rintro k s h n ⟨i,rows,rfl,hi,s0,s3,s4,rfl,rfl,hr,hj,hc⟩
 by_cases hlt:i<a.length
 · have hm:=hc i (by omega)
   have htl:rows[i].tail=[]:=List.eq_nil_of_length_eq_zero (by simp [hm])
   simp [s0,s3,s4,hlt,hr,hm]
   intro _
   refine ⟨a.length - (i+1),by omega,i+1,rfl,by omega,by rw [wrap64 (by omega)]; rfl,rows.set i [.str a[i]],by simp [htl],by simp [hr],fun j hj' => ?_,fun j hj' => ?_⟩
   · rw [List.getElem?_set]
     by_cases hji:i=j
     · subst hji; simp [hr,hlt]
     · rw [if_neg hji]; simpa using hj j (by omega)
   · rw [List.getElem_set]
     split
     · rfl
     · exact hc j (by simpa using hj')
 · simp [s0,s3,s4,hlt,hr]
   intro _
   have:rows=strsR a:=List.ext_getElem? fun j=>by
     by_cases hji:j<i
     · exact hj j hji
     · rw [List.getElem?_eq_none (by omega),List.getElem?_eq_none (by simp; omega)]
   subst this
   simp [List.take_of_length_le]
theorem k_eqStringS (a b:List Str):Holds Tryz.prog 82 [.sl 1 (strsR a),.sl 1 (strsR b)] (fun r=>r = .bool (decide (a=b))):=by
 refine holds_of_run Tryz.func82 a82_ok rfl (by simp [a82]) ?_
 simp [a82]
 intro h1 h2
 refine ⟨fun h e=>h (by rw [e]),fun hl=>rL_of (fun k s h n=>∃ i:Nat,k=a.length - i∧i≤a.length∧s 0=strs a∧s 1=strs b∧s 5=i64 i∧(∀ j,j<i→a[j]? = b[j]?)∧h=noHeap∧n=0) a.length ⟨0,by simp⟩ ?_⟩
 rintro k s h n ⟨i,rfl,hi,s0,s1,s5,hj,rfl,rfl⟩
 have hl:a.length=b.length:=by omega
 by_cases hlt:i<a.length
 · have hlt':i<b.length:=by omega
   unfold LIM at h1
   simp [s0,s1,s5,hlt,hlt']
   intro _
   refine ⟨fun h e=>h (by subst e; rfl),fun e=>⟨a.length - (i+1),by omega,i+1,rfl,by omega,by rw [wrap64 (by omega)]; rfl,fun j hj' => ?_⟩⟩
   by_cases hji:j=i
   · subst hji; simp [hlt,hlt',e]
   · exact hj j (by omega)
 · simp [s0,s1,s5,hlt]
   intro _
   refine List.ext_getElem? fun j => ?_
   by_cases hji:j<i
   · exact hj j hji
   · rw [List.getElem?_eq_none (by omega),List.getElem?_eq_none (by omega)]
theorem k_szLin (x:DLin) (left:Int) (h0:0≤left∧left≤4611686018427387904):Holds Tryz.prog 25 [.agg (rALin x),i64 left] (fun r=>r=i64 (sub1 left (wLin x))):=by
 refine holds_of_run Tryz.func25 a25_ok rfl (by simp [a25]) ?_
 simp [a25,rALin]
 have e0:wLin x=wLin x:=rfl
 conv at e0=>rhs; unfold wLin
 refine call_of (k_szIntS x.Coeffs left (by omega)) (by simp) ?_
 rintro r rfl
 by_cases h1:left - (wIntS x.Coeffs:Nat)<0
 case pos=>
   have q:left - (wLin x:Int)<0:=by omega
   simp [sub1,h1,q]
   try first | omega | (constructor <;> intros <;> omega)
 simp [sub1,h1]
 try (rw [if_neg (by omega)]; omega)
theorem k_toLin (x:DLin) (_hw:wLin x≤1048576):Holds Tryz.prog 27 [.agg (rALin x)] (fun r=>r = .agg (rULin x)):=by
 have hw:=_hw; unfold wLin at hw
 refine holds_of_run Tryz.func27 a27_ok rfl (by simp [a27]) ?_
 simp [a27,rALin]
 refine call_of (k_toIntS x.Coeffs (by omega)) (by simp []) ?_
 rintro r rfl
 simp []
 try simp [rULin]
theorem k_eqLin (x y:DLin):Holds Tryz.prog 29 [.agg (rALin x),.agg (rALin y)] (fun r=>r = .bool (decide (x=y))):=by
 refine holds_of_run Tryz.func29 a29_ok rfl (by simp [a29]) ?_
 simp [a29,rALin]
 by_cases h0:x.Const=y.Const
 case neg=>simp [h0]; try exact fun e=>h0 (by rw [e])
 simp [h0]
 refine call_of (k_eqIntS x.Coeffs y.Coeffs) (by simp []) ?_
 rintro r rfl
 by_cases h1:x.Coeffs=y.Coeffs
 case neg=>simp [h1]; try exact fun e=>h1 (by rw [e])
 simp [h1]
 cases x; cases y; simp_all
theorem a124_ok:compFn Tryz.prog Tryz.f124=some (tSz true 2 25):=by kernel_rfl
theorem k_szLinS (l:List DLin) (left:Int) (h0:0≤left∧left≤4611686018427387904):Holds Tryz.prog 124 [.sl 2 (l.map rALin),i64 left] (fun r=>r=i64 (sub1 left (wLinS l))):=by
 rw [show wLinS l=wL wLin l from rfl,←szL_sub1 (w:=wLin) (g:=fun x lf=>sub1 lf (wLin x)) (fun _ _ _=>rfl) l left h0.1]
 exact holds_tSz Tryz.func124 a124_ok rfl (rowOf:=rALin) (eltOf:=(fun x => .agg (rALin x))) (fun x=>by simp [rALin]) (fun x h=>by simp [rALin]) (fun x lf h=>sub1_le h) l left h0 (fun x lf _ hl=>k_szLin x lf hl)
theorem a128_ok:compFn Tryz.prog Tryz.f128=some (tTo true 2 32 27 [.int .i64 0,.nil 1]):=by kernel_rfl
theorem k_toLinS (l:List DLin) (hw:wLinS l≤1048576):Holds Tryz.prog 128 [.sl 2 (l.map rALin)] (fun r=>r = .us 2 (l.map rULin)):=
 holds_tTo Tryz.func128 a128_ok rfl (rowOf:=rALin) (eltOf:=(fun x => .agg (rALin x))) (eltU:=(fun x => .agg (rULin x))) (fun x=>by simp [rALin]) (fun x h=>by simp [rALin]) (fun x=>by simp) (fun x=>by simp [rULin]) (fun x=>by simp [rULin]) rfl l (by have:=wL_len wLin l; unfold wLinS at hw; unfold LIM; omega) (fun x h=>k_toLin x (by have:=wL_mem (w:=wLin) h; unfold wLinS at hw; omega))
theorem a66_ok:compFn Tryz.prog Tryz.f66=some (tEq true 2 29):=by kernel_rfl
theorem k_eqLinS (l m:List DLin):Holds Tryz.prog 66 [.sl 2 (l.map rALin),.sl 2 (m.map rALin)] (fun r=>r = .bool (decide (l=m))):=by
 rw [←eqL_dec]
 exact holds_tEq Tryz.func66 a66_ok rfl (rowOf:=rALin) (eltOf:=(fun x => .agg (rALin x))) (fun x=>by simp [rALin]) (fun x h=>by simp [rALin]) l m (fun x y _ _=>k_eqLin x y)
theorem k_eqSystem (x y:DSystem):Holds Tryz.prog 15 [.agg (rASystem x),.agg (rASystem y)] (fun r=>r = .bool (decide (x=y))):=by
 refine holds_of_run Tryz.func15 a15_ok rfl (by simp [a15]) ?_
 simp [a15,rASystem]
 by_cases h0:x.N=y.N
 case neg=>simp [h0]; try exact fun e=>h0 (by rw [e])
 simp [h0]
 refine call_of (k_eqLinS x.Rows y.Rows) (by simp []) ?_
 rintro r rfl
 by_cases h1:x.Rows=y.Rows
 case neg=>simp [h1]; try exact fun e=>h1 (by rw [e])
 simp [h1]
 cases x; cases y; simp_all
theorem k_eqObligation (x y:DObligation):Holds Tryz.prog 120 [.agg (rAObligation x),.agg (rAObligation y)] (fun r=>r = .bool (decide (x=y))):=by
 refine holds_of_run Tryz.func120 a120_ok rfl (by simp [a120]) ?_
 simp [a120,rAObligation]
 refine call_of (k_eqSystem x.System y.System) (by simp [rASystem]) ?_
 rintro r rfl
 by_cases h0:x.System=y.System
 case neg=>simp [h0]; try exact fun e=>h0 (by rw [e])
 simp [h0]
 refine call_of (k_eqLin x.Target y.Target) (by simp [rALin]) ?_
 rintro r rfl
 by_cases h1:x.Target=y.Target
 case neg=>simp [h1]; try exact fun e=>h1 (by rw [e])
 simp [h1]
 cases x; cases y; simp_all
theorem a39_ok:compFn Tryz.prog Tryz.f39=some (tEq true 4 120):=by kernel_rfl
theorem k_eqObligationS (l m:List DObligation):Holds Tryz.prog 39 [.sl 4 (l.map rAObligation),.sl 4 (m.map rAObligation)] (fun r=>r = .bool (decide (l=m))):=by
 rw [←eqL_dec]
 exact holds_tEq Tryz.func39 a39_ok rfl (rowOf:=rAObligation) (eltOf:=(fun x => .agg (rAObligation x))) (fun x=>by simp [rAObligation]) (fun x h=>by simp [rAObligation]) l m (fun x y _ _=>k_eqObligation x y)
end Go.Proofs.YtilcageplifbgaaGreat

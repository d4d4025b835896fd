/- Contracts of the marks. -/
import Derived.Test.YtilcageplifbgaaGreatKHM5
namespace Go.Proofs.YtilcageplifbgaaGreat
set_option linter.all false
open Go Go.RowKit Go.Proofs
def a93:AFn:=
⟨19,[(.t 4)],(.seq
 (.reg [⟨some 4,(.mv (.k (.int .i64 0))),no⟩]) (.seq (.seq
 (.reg [⟨some 5,(.mv (.k (.int .i64 0))),no⟩]) (.blk 0 (.loop (.seq (.seq
 (.reg [⟨some 6,(.mv (.t 5)),no⟩,⟨some 7,(.mv (.t 0)),no⟩,⟨some 8,(.len false (.t 7)),no⟩,⟨some 9,(.bin .lss (.t 6) (.t 8)),no⟩]) (.cond (.t 9) .skip (.exit 0))) (.seq (.blk 1 (.seq
 (.reg [⟨some 12,(.mv (.t 0)),no⟩,⟨some 13,(.mv (.t 5)),no⟩,⟨some 14,(.mv (.t 1)),no⟩,⟨some 15,(.ixa 1 (.t 12) (.t 13)),no⟩,⟨no,(.st 1 (.t 15) (.t 14)),no⟩])
 (.reg [⟨some 16,(.mv (.t 1)),no⟩,⟨some 17,(.bin .add (.t 16) (.k (.int .i64 1))),no⟩,⟨some 1,(.mv (.t 17)),no⟩])))
 (.reg [⟨some 10,(.mv (.t 5)),no⟩,⟨some 11,(.bin .add (.t 10) (.k (.int .i64 1))),no⟩,⟨some 5,(.mv (.t 11)),no⟩])))))) (.seq
 (.reg [⟨some 18,(.mv (.t 1)),no⟩,⟨some 4,(.mv (.t 18)),no⟩]) .ret)))⟩
theorem a93_ok:compFn Tryz.prog Tryz.f93=some a93:=by kernel_rfl
def a121:AFn:=
⟨21,[(.t 4)],(.seq
 (.reg [⟨some 4,(.mv (.k (.int .i64 0))),no⟩]) (.seq (.seq
 (.reg [⟨some 5,(.mv (.k (.int .i64 0))),no⟩]) (.blk 0 (.loop (.seq (.seq
 (.reg [⟨some 6,(.mv (.t 5)),no⟩,⟨some 7,(.mv (.t 0)),no⟩,⟨some 8,(.len false (.t 7)),no⟩,⟨some 9,(.bin .lss (.t 6) (.t 8)),no⟩]) (.cond (.t 9) .skip (.exit 0))) (.seq (.blk 1 (.seq (.seq
 (.reg [⟨some 12,(.mv (.t 0)),no⟩,⟨some 13,(.mv (.t 5)),no⟩,⟨some 14,(.ixa 1 (.t 12) (.t 13)),no⟩,⟨some 15,(.ld false 1 (.t 14)),no⟩,⟨some 16,(.mv (.t 1)),no⟩,⟨some 17,(.bin .neq (.t 15) (.t 16)),no⟩]) (.cond (.t 17) (.seq
 (.reg [⟨some 4,(.mv (.k (.int .i64 (-1)))),no⟩]) .ret) .skip))
 (.reg [⟨some 18,(.mv (.t 1)),no⟩,⟨some 19,(.bin .add (.t 18) (.k (.int .i64 1))),no⟩,⟨some 1,(.mv (.t 19)),no⟩])))
 (.reg [⟨some 10,(.mv (.t 5)),no⟩,⟨some 11,(.bin .add (.t 10) (.k (.int .i64 1))),no⟩,⟨some 5,(.mv (.t 11)),no⟩])))))) (.seq
 (.reg [⟨some 20,(.mv (.t 1)),no⟩,⟨some 4,(.mv (.t 20)),no⟩]) .ret)))⟩
theorem a121_ok:compFn Tryz.prog Tryz.f121=some a121:=by kernel_rfl
def a71:AFn:=
⟨27,[(.t 4)],(.seq
 (.reg [⟨some 4,(.mv (.k (.int .i64 0))),no⟩]) (.seq (.seq
 (.reg [⟨some 5,(.mv (.k (.int .i64 0))),no⟩]) (.blk 0 (.loop (.seq (.seq
 (.reg [⟨some 6,(.mv (.t 5)),no⟩,⟨some 7,(.mv (.t 0)),no⟩,⟨some 8,(.len false (.t 7)),no⟩,⟨some 9,(.bin .lss (.t 6) (.t 8)),no⟩]) (.cond (.t 9) .skip (.exit 0))) (.seq (.blk 1 (.seq
 (.reg [⟨some 12,(.mv (.t 0)),no⟩,⟨some 13,(.mv (.t 5)),no⟩,⟨some 14,(.mv (.t 1)),no⟩,⟨some 15,(.ixa 2 (.t 12) (.t 13)),no⟩,⟨some 16,(.fld 0 (.t 15)),no⟩,⟨no,(.st 1 (.t 16) (.t 14)),no⟩]) (.seq
 (.reg [⟨some 17,(.mv (.t 1)),no⟩,⟨some 18,(.bin .add (.t 17) (.k (.int .i64 1))),no⟩,⟨some 1,(.mv (.t 18)),no⟩])
 (.reg [⟨some 19,(.mv (.t 0)),no⟩,⟨some 20,(.mv (.t 5)),no⟩,⟨some 21,(.ixa 2 (.t 19) (.t 20)),no⟩,⟨some 22,(.fld 1 (.t 21)),no⟩,⟨some 23,(.ld false 1 (.t 22)),no⟩,⟨some 24,(.mv (.t 1)),no⟩,⟨some 25,(.call (.k (.fn (.func 93) [] [])) [(.t 23),(.t 24)]),no⟩,⟨some 1,(.mv (.t 25)),no⟩]))))
 (.reg [⟨some 10,(.mv (.t 5)),no⟩,⟨some 11,(.bin .add (.t 10) (.k (.int .i64 1))),no⟩,⟨some 5,(.mv (.t 11)),no⟩])))))) (.seq
 (.reg [⟨some 26,(.mv (.t 1)),no⟩,⟨some 4,(.mv (.t 26)),no⟩]) .ret)))⟩
theorem a71_ok:compFn Tryz.prog Tryz.f71=some a71:=by kernel_rfl
def a72:AFn:=
⟨31,[(.t 4)],(.seq
 (.reg [⟨some 4,(.mv (.k (.int .i64 0))),no⟩]) (.seq (.seq
 (.reg [⟨some 5,(.mv (.k (.int .i64 0))),no⟩]) (.blk 0 (.loop (.seq (.seq
 (.reg [⟨some 6,(.mv (.t 5)),no⟩,⟨some 7,(.mv (.t 0)),no⟩,⟨some 8,(.len false (.t 7)),no⟩,⟨some 9,(.bin .lss (.t 6) (.t 8)),no⟩]) (.cond (.t 9) .skip (.exit 0))) (.seq (.blk 1 (.seq (.seq
 (.reg [⟨some 12,(.mv (.t 0)),no⟩,⟨some 13,(.mv (.t 5)),no⟩,⟨some 14,(.ixa 2 (.t 12) (.t 13)),no⟩,⟨some 15,(.fld 0 (.t 14)),no⟩,⟨some 16,(.ld false 1 (.t 15)),no⟩,⟨some 17,(.mv (.t 1)),no⟩,⟨some 18,(.bin .neq (.t 16) (.t 17)),no⟩]) (.cond (.t 18) (.seq
 (.reg [⟨some 4,(.mv (.k (.int .i64 (-1)))),no⟩]) .ret) .skip)) (.seq
 (.reg [⟨some 19,(.mv (.t 1)),no⟩,⟨some 20,(.bin .add (.t 19) (.k (.int .i64 1))),no⟩,⟨some 1,(.mv (.t 20)),no⟩]) (.seq
 (.reg [⟨some 21,(.mv (.t 0)),no⟩,⟨some 22,(.mv (.t 5)),no⟩,⟨some 23,(.ixa 2 (.t 21) (.t 22)),no⟩,⟨some 24,(.fld 1 (.t 23)),no⟩,⟨some 25,(.ld false 1 (.t 24)),no⟩,⟨some 26,(.mv (.t 1)),no⟩,⟨some 27,(.call (.k (.fn (.func 121) [] [])) [(.t 25),(.t 26)]),no⟩,⟨some 1,(.mv (.t 27)),no⟩]) (.seq
 (.reg [⟨some 28,(.mv (.t 1)),no⟩,⟨some 29,(.bin .lss (.t 28) (.k (.int .i64 0))),no⟩]) (.cond (.t 29) (.seq
 (.reg [⟨some 4,(.mv (.k (.int .i64 (-1)))),no⟩]) .ret) .skip))))))
 (.reg [⟨some 10,(.mv (.t 5)),no⟩,⟨some 11,(.bin .add (.t 10) (.k (.int .i64 1))),no⟩,⟨some 5,(.mv (.t 11)),no⟩])))))) (.seq
 (.reg [⟨some 30,(.mv (.t 1)),no⟩,⟨some 4,(.mv (.t 30)),no⟩]) .ret)))⟩
theorem a72_ok:compFn Tryz.prog Tryz.f72=some a72:=by kernel_rfl
def a83:AFn:=
⟨20,[(.t 4)],(.seq
 (.reg [⟨some 4,(.mv (.k (.int .i64 0))),no⟩]) (.seq (.seq
 (.reg [⟨some 5,(.mv (.k (.int .i64 0))),no⟩]) (.blk 0 (.loop (.seq (.seq
 (.reg [⟨some 6,(.mv (.t 5)),no⟩,⟨some 7,(.mv (.t 0)),no⟩,⟨some 8,(.len false (.t 7)),no⟩,⟨some 9,(.bin .lss (.t 6) (.t 8)),no⟩]) (.cond (.t 9) .skip (.exit 0))) (.seq (.blk 1 (.seq
 (.reg [⟨some 12,(.mv (.t 0)),no⟩,⟨some 13,(.mv (.t 5)),no⟩,⟨some 14,(.mv (.t 1)),no⟩,⟨some 15,(.call (.k (.fn (.func 161) [] [])) [(.t 14)]),no⟩,⟨some 16,(.ixa 1 (.t 12) (.t 13)),no⟩,⟨no,(.st 1 (.t 16) (.t 15)),no⟩])
 (.reg [⟨some 17,(.mv (.t 1)),no⟩,⟨some 18,(.bin .add (.t 17) (.k (.int .i64 1))),no⟩,⟨some 1,(.mv (.t 18)),no⟩])))
 (.reg [⟨some 10,(.mv (.t 5)),no⟩,⟨some 11,(.bin .add (.t 10) (.k (.int .i64 1))),no⟩,⟨some 5,(.mv (.t 11)),no⟩])))))) (.seq
 (.reg [⟨some 19,(.mv (.t 1)),no⟩,⟨some 4,(.mv (.t 19)),no⟩]) .ret)))⟩
theorem a83_ok:compFn Tryz.prog Tryz.f83=some a83:=by kernel_rfl
def a30:AFn:=
⟨10,[(.t 4)],(.seq
 (.reg [⟨some 2,(.boxv (.t 0)),no⟩,⟨some 4,(.mv (.k (.int .i64 0))),no⟩]) (.seq
 (.reg [⟨some 5,(.fld 1 (.t 2)),no⟩,⟨some 6,(.ld false 1 (.t 5)),no⟩,⟨some 7,(.mv (.t 1)),no⟩,⟨some 8,(.call (.k (.fn (.func 93) [] [])) [(.t 6),(.t 7)]),no⟩,⟨some 1,(.mv (.t 8)),no⟩]) (.seq
 (.reg [⟨some 9,(.mv (.t 1)),no⟩,⟨some 4,(.mv (.t 9)),no⟩]) .ret)))⟩
theorem a30_ok:compFn Tryz.prog Tryz.f30=some a30:=by kernel_rfl
def a110:AFn:=
⟨12,[(.t 4)],(.seq
 (.reg [⟨some 2,(.boxv (.t 0)),no⟩,⟨some 4,(.mv (.k (.int .i64 0))),no⟩]) (.seq
 (.reg [⟨some 5,(.fld 1 (.t 2)),no⟩,⟨some 6,(.ld false 1 (.t 5)),no⟩,⟨some 7,(.mv (.t 1)),no⟩,⟨some 8,(.call (.k (.fn (.func 121) [] [])) [(.t 6),(.t 7)]),no⟩,⟨some 1,(.mv (.t 8)),no⟩]) (.seq (.seq
 (.reg [⟨some 9,(.mv (.t 1)),no⟩,⟨some 10,(.bin .lss (.t 9) (.k (.int .i64 0))),no⟩]) (.cond (.t 10) (.seq
 (.reg [⟨some 4,(.mv (.k (.int .i64 (-1)))),no⟩]) .ret) .skip)) (.seq
 (.reg [⟨some 11,(.mv (.t 1)),no⟩,⟨some 4,(.mv (.t 11)),no⟩]) .ret))))⟩
theorem a110_ok:compFn Tryz.prog Tryz.f110=some a110:=by kernel_rfl
def a18:AFn:=
⟨10,[(.t 4)],(.seq
 (.reg [⟨some 2,(.boxv (.t 0)),no⟩,⟨some 4,(.mv (.k (.int .i64 0))),no⟩]) (.seq
 (.reg [⟨some 5,(.fld 1 (.t 2)),no⟩,⟨some 6,(.ld false 1 (.t 5)),no⟩,⟨some 7,(.mv (.t 1)),no⟩,⟨some 8,(.call (.k (.fn (.func 71) [] [])) [(.t 6),(.t 7)]),no⟩,⟨some 1,(.mv (.t 8)),no⟩]) (.seq
 (.reg [⟨some 9,(.mv (.t 1)),no⟩,⟨some 4,(.mv (.t 9)),no⟩]) .ret)))⟩
theorem a18_ok:compFn Tryz.prog Tryz.f18=some a18:=by kernel_rfl
def a19:AFn:=
⟨12,[(.t 4)],(.seq
 (.reg [⟨some 2,(.boxv (.t 0)),no⟩,⟨some 4,(.mv (.k (.int .i64 0))),no⟩]) (.seq
 (.reg [⟨some 5,(.fld 1 (.t 2)),no⟩,⟨some 6,(.ld false 1 (.t 5)),no⟩,⟨some 7,(.mv (.t 1)),no⟩,⟨some 8,(.call (.k (.fn (.func 72) [] [])) [(.t 6),(.t 7)]),no⟩,⟨some 1,(.mv (.t 8)),no⟩]) (.seq (.seq
 (.reg [⟨some 9,(.mv (.t 1)),no⟩,⟨some 10,(.bin .lss (.t 9) (.k (.int .i64 0))),no⟩]) (.cond (.t 10) (.seq
 (.reg [⟨some 4,(.mv (.k (.int .i64 (-1)))),no⟩]) .ret) .skip)) (.seq
 (.reg [⟨some 11,(.mv (.t 1)),no⟩,⟨some 4,(.mv (.t 11)),no⟩]) .ret))))⟩
theorem a19_ok:compFn Tryz.prog Tryz.f19=some a19:=by kernel_rfl
set_option maxRecDepth 20000 in
set_option maxHeartbeats 1000000 in
theorem m_markIntS (l:List Int) (k:Int) (h0:0≤k∧k+cIntS l≤4611686018427387904):Marks Tryz.prog 93 (.us 1 (intsR l)) k (.us 1 (intsR (mkIntS l k))) (k+cIntS l):=by
  intro h n a I K hT hI hn hK
  obtain ⟨id,rows0,I0,rfl,_,hB,_⟩:=TR_us hT
  simp only [intsR,List.length_map] at hT hB hK ⊢
  refine acall_len Tryz.func93 rfl rfl (by rw [hB]; simp) fun hlim => ?_
  refine acall_body Tryz.func93 a93_ok rfl (by simp [a93]) ?_
  simp [a93]
  unfold cIntS at *
  refine rL_forO [0] 5 l.length (fun i s h1 n1=>MJ (fun _ k=>k) (fun _=>1) (fun n=>[i64 n]) 1 h n id I l k i (s 1) h1 n1) hlim (by simp) (by simpa using MJ.start hT) ?_ ?_
  · rintro i s h1 n1 R hi hg hk s5 hw hJ hR hret _
    simp at hk
    obtain ⟨x,ki,rows,cells,I2,s1,hki,hki2,hlen,hc0,hnd,hI2,hstart,hclose⟩:=hJ.step2 hI hn hi
    obtain ⟨_,rfl,hc1⟩:=TRl_int.1 hc0
    obtain ⟨rfl,rfl⟩:=TRl_nil.1 hc1
    have S:=hstart _ Kids.nil
    have e:=S.e
    have w0:IntKind.i64.wrap (ki+1)=ki+1:=wrap64 (by omega)
    simp [hk,s5,hi,hw,s1,e,hlen,w0]
    intro _
    refine hR _ _ _ (by simp [hk]) (by simp) (hclose _ _ [.int .i64 (ki)] _ _ S.store (TRl_int.2 ⟨_,rfl,(TRl_nil.2 ⟨rfl,rfl⟩)⟩) (by simp [i64]; try omega))
  · rintro s h1 n1 R hk s5 hJ hret hX
    simp at hk
    obtain ⟨s1,hn1,hf,ht⟩:=hJ.fin
    simp [hk,s5,s1]
    refine ⟨TR_some ht,fun _ => ?_⟩
    refine hX _ _ _ _ ?_
    simp [hk,s5,s1]
    exact hK _ _ hn1 hf ht
set_option maxRecDepth 20000 in
set_option maxHeartbeats 1000000 in
theorem k_heldIntS (l:List Int) (k:Int) (h0:0≤k∧k+cIntS l≤4611686018427387904):Holds Tryz.prog 121 [.sl 1 (intsR (mkIntS l k)),i64 k] (fun r=>r=i64 (k+cIntS l)):=by
  refine holds_of_lim Tryz.func121 rfl rfl fun hlim => ?_
  simp at hlim
  generalize hM:mkIntS l k=M at *
  refine holds_of_run Tryz.func121 a121_ok rfl (by simp [a121]) ?_
  simp [a121]
  unfold cIntS at *
  refine rL_forO [0] 5 M.length (fun i s h1 n1=>HJ (fun _ k=>k) (fun _=>1) M l k i (s 1)) hlim (by simp) (by rw [←hM]; simp; exact HJ.start) ?_ ?_
  · rintro i s h1 n1 R hi hg hk s5 hw hJ hR hret _
    simp at hk
    obtain ⟨x,ki,s1,hki,hki2,hx,hclose⟩:=hJ.step hi
    have w0:IntKind.i64.wrap (ki+1)=ki+1:=wrap64 (by omega)
    simp [hk,s5,hi,hw,s1,hx,w0]
    intro _
    first | done | refine hR _ _ _ (by simp [hk]) (by simp) (hclose _ (by simp [i64]; try omega))
  · rintro s h1 n1 R hk s5 hJ hret hX
    simp at hk
    have s1:=hJ.fin (Nat.le_refl _)
    simp [hk,s5,s1]
    first | refine hX _ _ _ _ ?_ | (intro _; refine hX _ _ _ _ ?_)
    simp [hk,s5,s1]
set_option maxRecDepth 20000 in
set_option maxHeartbeats 1000000 in
theorem m_markLinS (l:List DLin) (k:Int) (h0:0≤k∧k+cLinS l≤4611686018427387904):Marks Tryz.prog 71 (.us 2 (l.map rULin)) k (.us 2 ((mkLinS l k).map rULin)) (k+cLinS l):=by
  intro h n a I K hT hI hn hK
  obtain ⟨id,rows0,I0,rfl,_,hB,_⟩:=TR_us hT
  simp only [List.length_map] at hT hB hK ⊢
  refine acall_len Tryz.func71 rfl rfl (by rw [hB]; simp) fun hlim => ?_
  refine acall_body Tryz.func71 a71_ok rfl (by simp [a71]) ?_
  simp [a71]
  unfold cLinS at *
  refine rL_forO [0] 5 l.length (fun i s h1 n1=>MJ mkrLin crLin rULin 2 h n id I l k i (s 1) h1 n1) hlim (by simp) (by simpa using MJ.start hT) ?_ ?_
  · rintro i s h1 n1 R hi hg hk s5 hw hJ hR hret _
    simp at hk
    obtain ⟨x,ki,rows,cells,I2,s1,hki,hki2,hlen,hc0,hnd,hI2,hstart,hclose⟩:=hJ.step2 hI hn hi
    simp only [rULin] at hc0
    simp only [crLin] at hki2
    obtain ⟨_,rfl,hc1⟩:=TRl_int.1 hc0
    obtain ⟨d1,len1,_,J1,_,rfl,rfl,hl1,ht1,hc2⟩:=TRl_us hc1
    have hq1:len1=(x.Coeffs).length:=by simpa using hl1
    subst hq1
    obtain ⟨rfl,rfl⟩:=TRl_nil.1 hc2
    have S:=hstart _ (Kids.cons ht1 hnd hI2 fun hnd hI2=>Kids.nil)
    have e:=S.e
    have w0:IntKind.i64.wrap (ki+1)=ki+1:=wrap64 (by omega)
    simp [hk,s5,hi,hw,s1,e,hlen,w0]
    intro _
    refine RS.mark (T1:=[]) (m_markIntS _ _ (by omega)) S.store ?_
    clear S e
    intro h2 n2 S
    have e:=S.e
    simp [hk,s5,hi,hw,s1,e,hlen,w0]
    refine hR _ _ _ (by simp [hk]) (by simp) (hclose _ _ [.int .i64 (ki),.ref d1 0 (x.Coeffs).length] _ _ S (TRl_int.2 ⟨_,rfl,(TRl_cons (S.live.ids (_,.ref d1 0 _,J1) (by simp [mkrLin])).1 (TRl_nil.2 ⟨rfl,rfl⟩))⟩) (by simp [i64,crLin]; try omega))
  · rintro s h1 n1 R hk s5 hJ hret hX
    simp at hk
    obtain ⟨s1,hn1,hf,ht⟩:=hJ.fin
    simp [hk,s5,s1]
    refine ⟨TR_some ht,fun _ => ?_⟩
    refine hX _ _ _ _ ?_
    simp [hk,s5,s1]
    exact hK _ _ hn1 hf ht
set_option maxRecDepth 20000 in
set_option maxHeartbeats 1000000 in
theorem k_heldLinS (l:List DLin) (k:Int) (h0:0≤k∧k+cLinS l≤4611686018427387904):Holds Tryz.prog 72 [.sl 2 ((mkLinS l k).map rALin),i64 k] (fun r=>r=i64 (k+cLinS l)):=by
  refine holds_of_lim Tryz.func72 rfl rfl fun hlim => ?_
  simp at hlim
  generalize hM:mkLinS l k=M at *
  refine holds_of_run Tryz.func72 a72_ok rfl (by simp [a72]) ?_
  simp [a72]
  unfold cLinS at *
  refine rL_forO [0] 5 M.length (fun i s h1 n1=>HJ mkrLin crLin M l k i (s 1)) hlim (by simp) (by rw [←hM]; simp; exact HJ.start) ?_ ?_
  · rintro i s h1 n1 R hi hg hk s5 hw hJ hR hret _
    simp at hk
    obtain ⟨x,ki,s1,hki,hki2,hx,hclose⟩:=hJ.step hi
    simp only [crLin] at hki2
    have w0:IntKind.i64.wrap (ki+1)=ki+1:=wrap64 (by omega)
    simp [hk,s5,hi,hw,s1,hx,mkrLin,w0]
    intro _
    first | refine callD_of (k_heldIntS (x.Coeffs) (ki+1) (by omega)) (by simp [hk,s5,hi,hw,s1,hx,mkrLin,w0]) ?_ | refine call_of (k_heldIntS (x.Coeffs) (ki+1) (by omega)) (by simp [hk,s5,hi,hw,s1,hx,mkrLin,w0]) ?_
    rintro r rfl
    have g1:¬ki+1+(cIntS x.Coeffs:Int)<0:=by omega
    simp [hk,s5,hi,hw,s1,hx,mkrLin,w0,g1]
    first | done | refine hR _ _ _ (by simp [hk]) (by simp) (hclose _ (by simp [i64,crLin]; try omega))
  · rintro s h1 n1 R hk s5 hJ hret hX
    simp at hk
    have s1:=hJ.fin (Nat.le_refl _)
    simp [hk,s5,s1]
    first | refine hX _ _ _ _ ?_ | (intro _; refine hX _ _ _ _ ?_)
    simp [hk,s5,s1]
set_option maxRecDepth 20000 in
set_option maxHeartbeats 1000000 in
theorem m_markStringS (l:List Str) (k:Int) (h0:0≤k∧k+cStringS l≤4611686018427387904):Marks Tryz.prog 83 (.us 1 (strsR l)) k (.us 1 (strsR (mkStringS l k))) (k+cStringS l):=by
  intro h n a I K hT hI hn hK
  obtain ⟨id,rows0,I0,rfl,_,hB,_⟩:=TR_us hT
  simp only [strsR,List.length_map] at hT hB hK ⊢
  refine acall_len Tryz.func83 rfl rfl (by rw [hB]; simp) fun hlim => ?_
  refine acall_body Tryz.func83 a83_ok rfl (by simp [a83]) ?_
  simp [a83]
  unfold cStringS at *
  refine rL_forO [0] 5 l.length (fun i s h1 n1=>MJ (fun _ k=>mtx k) (fun _=>1) (fun s=>[.str s]) 1 h n id I l k i (s 1) h1 n1) hlim (by simp) (by simpa using MJ.start hT) ?_ ?_
  · rintro i s h1 n1 R hi hg hk s5 hw hJ hR hret _
    simp at hk
    obtain ⟨x,ki,rows,cells,I2,s1,hki,hki2,hlen,hc0,hnd,hI2,hstart,hclose⟩:=hJ.step2 hI hn hi
    obtain ⟨_,rfl,hc1⟩:=TRl_str.1 hc0
    obtain ⟨rfl,rfl⟩:=TRl_nil.1 hc1
    have S:=hstart _ Kids.nil
    have e:=S.e
    have w0:IntKind.i64.wrap (ki+1)=ki+1:=wrap64 (by omega)
    simp [hk,s5,hi,hw,s1,e,hlen,w0]
    intro _
    first | refine callD_of (k_markText (ki) (by omega)) (by simp) ?_ | refine call_of (k_markText (ki) (by omega)) (by simp) ?_
    rintro r rfl
    simp [hk,s5,hi,hw,s1,e,hlen,w0]
    refine hR _ _ _ (by simp [hk]) (by simp) (hclose _ _ [.str (mtx (ki))] _ _ S.store (TRl_str.2 ⟨_,rfl,(TRl_nil.2 ⟨rfl,rfl⟩)⟩) (by simp [i64]; try omega))
  · rintro s h1 n1 R hk s5 hJ hret hX
    simp at hk
    obtain ⟨s1,hn1,hf,ht⟩:=hJ.fin
    simp [hk,s5,s1]
    refine ⟨TR_some ht,fun _ => ?_⟩
    refine hX _ _ _ _ ?_
    simp [hk,s5,s1]
    exact hK _ _ hn1 hf ht
set_option maxRecDepth 20000 in
set_option maxHeartbeats 1000000 in
theorem m_markLin (x:DLin) (k:Int) (h0:0≤k∧k+cLin x≤4611686018427387904):Marks Tryz.prog 30 (.agg (rULin x)) k (.agg (rULin (mkLin x k))) (k+cLin x):=by
  intro h n a I K hT hI hn hK
  obtain ⟨cs,rfl,hc0⟩:=TR_agg.1 hT
  simp only [cLin] at h0
  obtain ⟨_,rfl,hc1⟩:=TRl_int.1 hc0
  obtain ⟨d1,len1,_,J1,_,rfl,rfl,hl1,ht1,hc2⟩:=TRl_us hc1
  have hq1:len1=(x.Coeffs).length:=by simpa using hl1
  subst hq1
  obtain ⟨rfl,rfl⟩:=TRl_nil.1 hc2
  refine acall_body Tryz.func30 a30_ok rfl (by simp [a30]) ?_
  simp [a30]
  have S:=RS.box (sz:=2) (cells:=[.int .i64 (x.Const),.ref d1 0 (x.Coeffs).length]) (Kids.cons (ht1) hI hn fun hI hn=>Kids.nil) hn
  refine RS.mark (T1:=[]) (m_markIntS x.Coeffs (k) (by omega)) S ?_
  clear S
  intro h2 n2 S
  have e:=S.e
  simp [e]
  have hb:=S.unbox
  have ht:TR h2 (.agg (rULin (mkLin x k))) _ _:=TR_aggs.2 (TRl_int.2 ⟨_,rfl,(TRl_cons (S.live.ids (.us 1 (intsR (mkIntS x.Coeffs (k))),.ref d1 0 (x.Coeffs).length,J1) (by simp)).1 (TRl_nil.2 ⟨rfl,rfl⟩))⟩)
  have hk:=hK _ _ hb.1 hb.2 ht
  simp only [cLin] at hk
  refine cast ?_ hk
  congr 2
  first | done | (simp; try omega)
set_option maxRecDepth 20000 in
set_option maxHeartbeats 1000000 in
theorem k_heldLin (x:DLin) (k:Int) (h0:0≤k∧k+cLin x≤4611686018427387904):Holds Tryz.prog 110 [.agg (rALin (mkLin x k)),i64 k] (fun r=>r=i64 (k+cLin x)):=by
  refine holds_of_run Tryz.func110 a110_ok rfl (by simp [a110]) ?_
  simp [a110,rALin,mkLin]
  simp only [cLin] at h0
  first | refine callD_of (k_heldIntS x.Coeffs (k) (by omega)) (by simp [rALin,mkLin]) ?_ | refine call_of (k_heldIntS x.Coeffs (k) (by omega)) (by simp [rALin,mkLin]) ?_
  rintro r rfl
  have g1:¬k+(cIntS x.Coeffs:Int)<0:=by omega
  simp [g1]
  first | done | (simp [cLin]; try omega)
set_option maxRecDepth 20000 in
set_option maxHeartbeats 1000000 in
theorem m_markSystem (x:DSystem) (k:Int) (h0:0≤k∧k+cSystem x≤4611686018427387904):Marks Tryz.prog 18 (.agg (rUSystem x)) k (.agg (rUSystem (mkSystem x k))) (k+cSystem x):=by
  intro h n a I K hT hI hn hK
  obtain ⟨cs,rfl,hc0⟩:=TR_agg.1 hT
  simp only [cSystem] at h0
  obtain ⟨_,rfl,hc1⟩:=TRl_int.1 hc0
  obtain ⟨d1,len1,_,J1,_,rfl,rfl,hl1,ht1,hc2⟩:=TRl_us hc1
  have hq1:len1=(x.Rows).length:=by simpa using hl1
  subst hq1
  obtain ⟨rfl,rfl⟩:=TRl_nil.1 hc2
  refine acall_body Tryz.func18 a18_ok rfl (by simp [a18]) ?_
  simp [a18]
  have S:=RS.box (sz:=2) (cells:=[.int .i64 (x.N),.ref d1 0 (x.Rows).length]) (Kids.cons (ht1) hI hn fun hI hn=>Kids.nil) hn
  refine RS.mark (T1:=[]) (m_markLinS x.Rows (k) (by omega)) S ?_
  clear S
  intro h2 n2 S
  have e:=S.e
  simp [e]
  have hb:=S.unbox
  have ht:TR h2 (.agg (rUSystem (mkSystem x k))) _ _:=TR_aggs.2 (TRl_int.2 ⟨_,rfl,(TRl_cons (S.live.ids (.us 2 ((mkLinS x.Rows (k)).map rULin),.ref d1 0 (x.Rows).length,J1) (by simp)).1 (TRl_nil.2 ⟨rfl,rfl⟩))⟩)
  have hk:=hK _ _ hb.1 hb.2 ht
  simp only [cSystem] at hk
  refine cast ?_ hk
  congr 2
  first | done | (simp; try omega)
set_option maxRecDepth 20000 in
set_option maxHeartbeats 1000000 in
theorem k_heldSystem (x:DSystem) (k:Int) (h0:0≤k∧k+cSystem x≤4611686018427387904):Holds Tryz.prog 19 [.agg (rASystem (mkSystem x k)),i64 k] (fun r=>r=i64 (k+cSystem x)):=by
  refine holds_of_run Tryz.func19 a19_ok rfl (by simp [a19]) ?_
  simp [a19,rASystem,mkSystem]
  simp only [cSystem] at h0
  first | refine callD_of (k_heldLinS x.Rows (k) (by omega)) (by simp [rASystem,mkSystem]) ?_ | refine call_of (k_heldLinS x.Rows (k) (by omega)) (by simp [rASystem,mkSystem]) ?_
  rintro r rfl
  have g1:¬k+(cLinS x.Rows:Int)<0:=by omega
  simp [g1]
  first | done | (simp [cSystem]; try omega)
end Go.Proofs.YtilcageplifbgaaGreat

namespace Go.Proofs.YtilcageplifbgaaGreat
set_option linter.all false
open Go Go.RowKit Go.Proofs
def a108:AFn:=
⟨19,[(.t 4)],(.seq
 (.reg [⟨some 4,(.mv (.k (.int .i64 0))),no⟩]) (.seq (.seq
 (.reg [⟨some 5,(.mv (.k (.int .i64 0))),no⟩]) (.blk 0 (.loop (.seq (.seq
 (.reg [⟨some 6,(.mv (.t 5)),no⟩,⟨some 7,(.mv (.t 0)),no⟩,⟨some 8,(.len false (.t 7)),no⟩,⟨some 9,(.bin .lss (.t 6) (.t 8)),no⟩]) (.cond (.t 9) .skip (.exit 0))) (.seq (.blk 1
 (.reg [⟨some 12,(.mv (.t 0)),no⟩,⟨some 13,(.mv (.t 5)),no⟩,⟨some 14,(.ixa 1 (.t 12) (.t 13)),no⟩,⟨some 15,(.ld false 1 (.t 14)),no⟩,⟨some 16,(.mv (.t 1)),no⟩,⟨some 17,(.call (.k (.fn (.func 71) [] [])) [(.t 15),(.t 16)]),no⟩,⟨some 1,(.mv (.t 17)),no⟩]))
 (.reg [⟨some 10,(.mv (.t 5)),no⟩,⟨some 11,(.bin .add (.t 10) (.k (.int .i64 1))),no⟩,⟨some 5,(.mv (.t 11)),no⟩])))))) (.seq
 (.reg [⟨some 18,(.mv (.t 1)),no⟩,⟨some 4,(.mv (.t 18)),no⟩]) .ret)))⟩
theorem a108_ok:compFn Tryz.prog Tryz.f108=some a108:=by kernel_rfl
def a109:AFn:=
⟨21,[(.t 4)],(.seq
 (.reg [⟨some 4,(.mv (.k (.int .i64 0))),no⟩]) (.seq (.seq
 (.reg [⟨some 5,(.mv (.k (.int .i64 0))),no⟩]) (.blk 0 (.loop (.seq (.seq
 (.reg [⟨some 6,(.mv (.t 5)),no⟩,⟨some 7,(.mv (.t 0)),no⟩,⟨some 8,(.len false (.t 7)),no⟩,⟨some 9,(.bin .lss (.t 6) (.t 8)),no⟩]) (.cond (.t 9) .skip (.exit 0))) (.seq (.blk 1 (.seq
 (.reg [⟨some 12,(.mv (.t 0)),no⟩,⟨some 13,(.mv (.t 5)),no⟩,⟨some 14,(.ixa 1 (.t 12) (.t 13)),no⟩,⟨some 15,(.ld false 1 (.t 14)),no⟩,⟨some 16,(.mv (.t 1)),no⟩,⟨some 17,(.call (.k (.fn (.func 72) [] [])) [(.t 15),(.t 16)]),no⟩,⟨some 1,(.mv (.t 17)),no⟩]) (.seq
 (.reg [⟨some 18,(.mv (.t 1)),no⟩,⟨some 19,(.bin .lss (.t 18) (.k (.int .i64 0))),no⟩]) (.cond (.t 19) (.seq
 (.reg [⟨some 4,(.mv (.k (.int .i64 (-1)))),no⟩]) .ret) .skip))))
 (.reg [⟨some 10,(.mv (.t 5)),no⟩,⟨some 11,(.bin .add (.t 10) (.k (.int .i64 1))),no⟩,⟨some 5,(.mv (.t 11)),no⟩])))))) (.seq
 (.reg [⟨some 20,(.mv (.t 1)),no⟩,⟨some 4,(.mv (.t 20)),no⟩]) .ret)))⟩
theorem a109_ok:compFn Tryz.prog Tryz.f109=some a109:=by kernel_rfl
def a35:AFn:=
⟨22,[(.t 4)],(.seq
 (.reg [⟨some 2,(.boxv (.t 0)),no⟩,⟨some 4,(.mv (.k (.int .i64 0))),no⟩]) (.seq
 (.reg [⟨some 5,(.fld 0 (.t 2)),no⟩,⟨some 6,(.ld true 2 (.t 5)),no⟩,⟨some 7,(.mv (.t 1)),no⟩,⟨some 8,(.call (.k (.fn (.func 18) [] [])) [(.t 6),(.t 7)]),no⟩,⟨some 1,(.mv (.t 8)),no⟩]) (.seq
 (.reg [⟨some 9,(.fld 2 (.t 2)),no⟩,⟨some 10,(.ld false 1 (.t 9)),no⟩,⟨some 11,(.mv (.t 1)),no⟩,⟨some 12,(.call (.k (.fn (.func 71) [] [])) [(.t 10),(.t 11)]),no⟩,⟨some 1,(.mv (.t 12)),no⟩]) (.seq
 (.reg [⟨some 13,(.fld 3 (.t 2)),no⟩,⟨some 14,(.ld false 1 (.t 13)),no⟩,⟨some 15,(.mv (.t 1)),no⟩,⟨some 16,(.call (.k (.fn (.func 108) [] [])) [(.t 14),(.t 15)]),no⟩,⟨some 1,(.mv (.t 16)),no⟩]) (.seq
 (.reg [⟨some 17,(.fld 4 (.t 2)),no⟩,⟨some 18,(.ld true 2 (.t 17)),no⟩,⟨some 19,(.mv (.t 1)),no⟩,⟨some 20,(.call (.k (.fn (.func 30) [] [])) [(.t 18),(.t 19)]),no⟩,⟨some 1,(.mv (.t 20)),no⟩]) (.seq
 (.reg [⟨some 21,(.mv (.t 1)),no⟩,⟨some 4,(.mv (.t 21)),no⟩]) .ret))))))⟩
theorem a35_ok:compFn Tryz.prog Tryz.f35=some a35:=by kernel_rfl
def a36:AFn:=
⟨30,[(.t 4)],(.seq
 (.reg [⟨some 2,(.boxv (.t 0)),no⟩,⟨some 4,(.mv (.k (.int .i64 0))),no⟩]) (.seq
 (.reg [⟨some 5,(.fld 0 (.t 2)),no⟩,⟨some 6,(.ld true 2 (.t 5)),no⟩,⟨some 7,(.mv (.t 1)),no⟩,⟨some 8,(.call (.k (.fn (.func 19) [] [])) [(.t 6),(.t 7)]),no⟩,⟨some 1,(.mv (.t 8)),no⟩]) (.seq (.seq
 (.reg [⟨some 9,(.mv (.t 1)),no⟩,⟨some 10,(.bin .lss (.t 9) (.k (.int .i64 0))),no⟩]) (.cond (.t 10) (.seq
 (.reg [⟨some 4,(.mv (.k (.int .i64 (-1)))),no⟩]) .ret) .skip)) (.seq
 (.reg [⟨some 11,(.fld 2 (.t 2)),no⟩,⟨some 12,(.ld false 1 (.t 11)),no⟩,⟨some 13,(.mv (.t 1)),no⟩,⟨some 14,(.call (.k (.fn (.func 72) [] [])) [(.t 12),(.t 13)]),no⟩,⟨some 1,(.mv (.t 14)),no⟩]) (.seq (.seq
 (.reg [⟨some 15,(.mv (.t 1)),no⟩,⟨some 16,(.bin .lss (.t 15) (.k (.int .i64 0))),no⟩]) (.cond (.t 16) (.seq
 (.reg [⟨some 4,(.mv (.k (.int .i64 (-1)))),no⟩]) .ret) .skip)) (.seq
 (.reg [⟨some 17,(.fld 3 (.t 2)),no⟩,⟨some 18,(.ld false 1 (.t 17)),no⟩,⟨some 19,(.mv (.t 1)),no⟩,⟨some 20,(.call (.k (.fn (.func 109) [] [])) [(.t 18),(.t 19)]),no⟩,⟨some 1,(.mv (.t 20)),no⟩]) (.seq (.seq
 (.reg [⟨some 21,(.mv (.t 1)),no⟩,⟨some 22,(.bin .lss (.t 21) (.k (.int .i64 0))),no⟩]) (.cond (.t 22) (.seq
 (.reg [⟨some 4,(.mv (.k (.int .i64 (-1)))),no⟩]) .ret) .skip)) (.seq
 (.reg [⟨some 23,(.fld 4 (.t 2)),no⟩,⟨some 24,(.ld true 2 (.t 23)),no⟩,⟨some 25,(.mv (.t 1)),no⟩,⟨some 26,(.call (.k (.fn (.func 110) [] [])) [(.t 24),(.t 25)]),no⟩,⟨some 1,(.mv (.t 26)),no⟩]) (.seq (.seq
 (.reg [⟨some 27,(.mv (.t 1)),no⟩,⟨some 28,(.bin .lss (.t 27) (.k (.int .i64 0))),no⟩]) (.cond (.t 28) (.seq
 (.reg [⟨some 4,(.mv (.k (.int .i64 (-1)))),no⟩]) .ret) .skip)) (.seq
 (.reg [⟨some 29,(.mv (.t 1)),no⟩,⟨some 4,(.mv (.t 29)),no⟩]) .ret))))))))))⟩
theorem a36_ok:compFn Tryz.prog Tryz.f36=some a36:=by kernel_rfl
set_option maxRecDepth 20000 in
set_option maxHeartbeats 1000000 in
theorem m_markLinSS (l:List (List DLin)) (k:Int) (h0:0≤k∧k+cLinSS l≤4611686018427387904):Marks Tryz.prog 108 (.us 1 (l.map rULinS)) k (.us 1 ((mkLinSS l k).map rULinS)) (k+cLinSS l):=by
  intro h n a I K hT hI hn hK
  obtain ⟨id,rows0,I0,rfl,_,hB,_⟩:=TR_us hT
  simp only [List.length_map] at hT hB hK ⊢
  refine acall_len Tryz.func108 rfl rfl (by rw [hB]; simp) fun hlim => ?_
  refine acall_body Tryz.func108 a108_ok rfl (by simp [a108]) ?_
  simp [a108]
  unfold cLinSS at *
  refine rL_forO [0] 5 l.length (fun i s h1 n1=>MJ mkLinS cLinS rULinS 1 h n id I l k i (s 1) h1 n1) hlim (by simp) (by simpa using MJ.start hT) ?_ ?_
  · rintro i s h1 n1 R hi hg hk s5 hw hJ hR hret _
    simp at hk
    obtain ⟨x,ki,rows,cells,I2,s1,hki,hki2,hlen,hc0,hnd,hI2,hstart,hclose⟩:=hJ.step2 hI hn hi
    simp only [rULinS] at hc0
    obtain ⟨d0,len0,_,J0,_,rfl,rfl,hl0,ht0,hc1⟩:=TRl_us hc0
    have hq0:len0=(x).length:=by simpa using hl0
    subst hq0
    obtain ⟨rfl,rfl⟩:=TRl_nil.1 hc1
    have S:=hstart _ (Kids.cons ht0 hnd hI2 fun hnd hI2=>Kids.nil)
    have e:=S.e
    simp [hk,s5,hi,hw,s1,e,hlen]
    intro _
    refine RS.mark (T1:=[]) (m_markLinS _ _ (by omega)) S ?_
    clear S e
    intro h2 n2 S
    have e:=S.e
    simp [hk,s5,hi,hw,s1,e,hlen]
    refine hR _ _ _ (by simp [hk]) (by simp) (hclose _ _ [.ref d0 0 (x).length] _ _ S (TRl_cons (S.live.ids (_,.ref d0 0 _,J0) (by simp)).1 (TRl_nil.2 ⟨rfl,rfl⟩)) (by simp [i64]; try omega))
  · rintro s h1 n1 R hk s5 hJ hret hX
    simp at hk
    obtain ⟨s1,hn1,hf,ht⟩:=hJ.fin
    simp [hk,s5,s1]
    refine ⟨TR_some ht,fun _ => ?_⟩
    refine hX _ _ _ _ ?_
    simp [hk,s5,s1]
    exact hK _ _ hn1 hf ht
set_option maxRecDepth 20000 in
set_option maxHeartbeats 1000000 in
theorem k_heldLinSS (l:List (List DLin)) (k:Int) (h0:0≤k∧k+cLinSS l≤4611686018427387904):Holds Tryz.prog 109 [.sl 1 ((mkLinSS l k).map rALinS),i64 k] (fun r=>r=i64 (k+cLinSS l)):=by
  refine holds_of_lim Tryz.func109 rfl rfl fun hlim => ?_
  simp at hlim
  generalize hM:mkLinSS l k=M at *
  refine holds_of_run Tryz.func109 a109_ok rfl (by simp [a109]) ?_
  simp [a109]
  unfold cLinSS at *
  refine rL_forO [0] 5 M.length (fun i s h1 n1=>HJ mkLinS cLinS M l k i (s 1)) hlim (by simp) (by rw [←hM]; simp; exact HJ.start) ?_ ?_
  · rintro i s h1 n1 R hi hg hk s5 hw hJ hR hret _
    simp at hk
    obtain ⟨x,ki,s1,hki,hki2,hx,hclose⟩:=hJ.step hi
    simp [hk,s5,hi,hw,s1,hx]
    intro _
    first | refine callD_of (k_heldLinS (x) (ki) (by omega)) (by simp [hk,s5,hi,hw,s1,hx,rALinS]) ?_ | refine call_of (k_heldLinS (x) (ki) (by omega)) (by simp [hk,s5,hi,hw,s1,hx,rALinS]) ?_
    rintro r rfl
    have g0:¬ki+(cLinS x:Int)<0:=by omega
    simp [hk,s5,hi,hw,s1,hx,g0]
    first | done | refine hR _ _ _ (by simp [hk]) (by simp) (hclose _ (by simp [i64]; try omega))
  · rintro s h1 n1 R hk s5 hJ hret hX
    simp at hk
    have s1:=hJ.fin (Nat.le_refl _)
    simp [hk,s5,s1]
    first | refine hX _ _ _ _ ?_ | (intro _; refine hX _ _ _ _ ?_)
    simp [hk,s5,s1]
set_option maxRecDepth 20000 in
set_option maxHeartbeats 1000000 in
theorem m_markModel (x:DModel) (k:Int) (h0:0≤k∧k+cModel x≤4611686018427387904):Marks Tryz.prog 35 (.agg (rUModel x)) k (.agg (rUModel (mkModel x k))) (k+cModel x):=by
  intro h n a I K hT hI hn hK
  obtain ⟨cs,rfl,hc0⟩:=TR_agg.1 hT
  simp only [cModel] at h0
  obtain ⟨as0,_,J0,_,rfl,rfl,hg0,hc1⟩:=TRl_app (A:=rUSystem x.System) (B:=[.us 2 (x.Params.map rULin),.us 1 (x.Args.map rULinS),i64 x.Result.Const,.us 1 (intsR x.Result.Coeffs)]) hc0
  have hs0_0:=hg0
  simp only [rUSystem] at hs0_0
  obtain ⟨_,rfl,hs0_1⟩:=TRl_int.1 hs0_0
  obtain ⟨d0_1,len0_1,_,J0_1,_,rfl,rfl,hl0_1,_,hs0_2⟩:=TRl_us hs0_1
  have hq0_1:len0_1=(x.System.Rows).length:=by simpa using hl0_1
  subst hq0_1
  obtain ⟨rfl,rfl⟩:=TRl_nil.1 hs0_2
  obtain ⟨d1,len1,_,J1,_,rfl,rfl,hl1,ht1,hc2⟩:=TRl_us hc1
  have hq1:len1=(x.Params).length:=by simpa using hl1
  subst hq1
  obtain ⟨d2,len2,_,J2,_,rfl,rfl,hl2,ht2,hc3⟩:=TRl_us hc2
  have hq2:len2=(x.Args).length:=by simpa using hl2
  subst hq2
  obtain ⟨as3,_,J3,_,rfl,rfl,hg3,hc4⟩:=TRl_app (A:=rULin x.Result) (B:=[]) hc3
  have hs3_0:=hg3
  simp only [rULin] at hs3_0
  obtain ⟨_,rfl,hs3_1⟩:=TRl_int.1 hs3_0
  obtain ⟨d3_1,len3_1,_,J3_1,_,rfl,rfl,hl3_1,_,hs3_2⟩:=TRl_us hs3_1
  have hq3_1:len3_1=(x.Result.Coeffs).length:=by simpa using hl3_1
  subst hq3_1
  obtain ⟨rfl,rfl⟩:=TRl_nil.1 hs3_2
  obtain ⟨rfl,rfl⟩:=TRl_nil.1 hc4
  refine acall_body Tryz.func35 a35_ok rfl (by simp [a35]) ?_
  simp [a35]
  have S:=RS.box (sz:=6) (cells:=[.int .i64 (x.System.N),.ref d0_1 0 (x.System.Rows).length,.ref d1 0 (x.Params).length,.ref d2 0 (x.Args).length,.int .i64 (x.Result.Const),.ref d3_1 0 (x.Result.Coeffs).length]) (Kids.cons (TR_aggs.2 hg0) hI hn fun hI hn=>(Kids.cons (ht1) hI hn fun hI hn=>(Kids.cons (ht2) hI hn fun hI hn=>(Kids.cons (TR_aggs.2 hg3) hI hn fun hI hn=>Kids.nil)))) hn
  refine RS.mark (T1:=[]) (m_markSystem x.System (k) (by omega)) S ?_
  clear S
  intro h2 n2 S
  have e:=S.e
  simp [e]
  refine RS.mark (T1:=[_]) (m_markLinS x.Params (k+cSystem x.System) (by omega)) S ?_
  clear S
  intro h2 n2 S
  have e:=S.e
  simp [e]
  refine RS.mark (T1:=[_,_]) (m_markLinSS x.Args (k+cSystem x.System+cLinS x.Params) (by omega)) S ?_
  clear S
  intro h2 n2 S
  have e:=S.e
  simp [e]
  refine RS.mark (T1:=[_,_,_]) (m_markLin x.Result (k+cSystem x.System+cLinS x.Params+cLinSS x.Args) (by omega)) S ?_
  clear S
  intro h2 n2 S
  have e:=S.e
  simp [e]
  have hb:=S.unbox
  have ht:TR h2 (.agg (rUModel (mkModel x k))) _ _:=TR_aggs.2 (TRl_app_mk (A:=rUSystem (mkSystem x.System (k))) (TR_aggs.1 (S.live.ids (.agg (rUSystem (mkSystem x.System (k))),.agg [.int .i64 (x.System.N),.ref d0_1 0 (x.System.Rows).length],J0_1++([])) (by simp)).1) (TRl_cons (S.live.ids (.us 2 ((mkLinS x.Params (k+cSystem x.System)).map rULin),.ref d1 0 (x.Params).length,J1) (by simp)).1 (TRl_cons (S.live.ids (.us 1 ((mkLinSS x.Args (k+cSystem x.System+cLinS x.Params)).map rULinS),.ref d2 0 (x.Args).length,J2) (by simp)).1 (TRl_app_mk (A:=rULin (mkLin x.Result (k+cSystem x.System+cLinS x.Params+cLinSS x.Args))) (TR_aggs.1 (S.live.ids (.agg (rULin (mkLin x.Result (k+cSystem x.System+cLinS x.Params+cLinSS x.Args))),.agg [.int .i64 (x.Result.Const),.ref d3_1 0 (x.Result.Coeffs).length],J3_1++([])) (by simp)).1) (TRl_nil.2 ⟨rfl,rfl⟩)))))
  have hk:=hK _ _ hb.1 hb.2 ht
  simp only [cModel] at hk
  refine cast ?_ hk
  congr 2
  first | done | (simp; try omega)
set_option maxRecDepth 20000 in
set_option maxHeartbeats 1000000 in
theorem k_heldModel (x:DModel) (k:Int) (h0:0≤k∧k+cModel x≤4611686018427387904):Holds Tryz.prog 36 [.agg (rAModel (mkModel x k)),i64 k] (fun r=>r=i64 (k+cModel x)):=by
  refine holds_of_run Tryz.func36 a36_ok rfl (by simp [a36]) ?_
  simp [a36,rAModel,mkModel]
  simp only [cModel] at h0
  first | refine callD_of (k_heldSystem x.System (k) (by omega)) (by simp [rAModel,mkModel,rASystem,mkSystem,cSystem,rALin,mkLin]) ?_ | refine call_of (k_heldSystem x.System (k) (by omega)) (by simp [rAModel,mkModel,rASystem,mkSystem,cSystem,rALin,mkLin]) ?_
  rintro r rfl
  have g0:¬k+(cSystem x.System:Int)<0:=by omega
  simp [g0]
  first | refine callD_of (k_heldLinS x.Params (k+cSystem x.System) (by omega)) (by simp [rAModel,mkModel,rASystem,mkSystem,cSystem,rALin,mkLin]) ?_ | refine call_of (k_heldLinS x.Params (k+cSystem x.System) (by omega)) (by simp [rAModel,mkModel,rASystem,mkSystem,cSystem,rALin,mkLin]) ?_
  rintro r rfl
  have g1:¬k+cSystem x.System+(cLinS x.Params:Int)<0:=by omega
  simp [g1]
  first | refine callD_of (k_heldLinSS x.Args (k+cSystem x.System+cLinS x.Params) (by omega)) (by simp [rAModel,mkModel,rASystem,mkSystem,cSystem,rALin,mkLin]) ?_ | refine call_of (k_heldLinSS x.Args (k+cSystem x.System+cLinS x.Params) (by omega)) (by simp [rAModel,mkModel,rASystem,mkSystem,cSystem,rALin,mkLin]) ?_
  rintro r rfl
  have g2:¬k+cSystem x.System+cLinS x.Params+(cLinSS x.Args:Int)<0:=by omega
  simp [g2]
  first | refine callD_of (k_heldLin x.Result (k+cSystem x.System+cLinS x.Params+cLinSS x.Args) (by omega)) (by simp [rAModel,mkModel,rASystem,mkSystem,cSystem,rALin,mkLin]) ?_ | refine call_of (k_heldLin x.Result (k+cSystem x.System+cLinS x.Params+cLinSS x.Args) (by omega)) (by simp [rAModel,mkModel,rASystem,mkSystem,cSystem,rALin,mkLin]) ?_
  rintro r rfl
  have g3:¬k+cSystem x.System+cLinS x.Params+cLinSS x.Args+(cLin x.Result:Int)<0:=by omega
  simp [g3]
  first | done | (simp [cModel]; try omega)
end Go.Proofs.YtilcageplifbgaaGreat

namespace Go.Proofs.YtilcageplifbgaaGreat
set_option linter.all false
open Go Go.RowKit Go.Proofs
def a236:AFn:=
⟨28,[(.t 4)],(.seq
 (.reg [⟨some 4,(.mv (.k (.int .i64 0))),no⟩]) (.seq (.seq
 (.reg [⟨some 5,(.mv (.k (.int .i64 0))),no⟩]) (.blk 0 (.loop (.seq (.seq
 (.reg [⟨some 6,(.mv (.t 5)),no⟩,⟨some 7,(.mv (.t 0)),no⟩,⟨some 8,(.len false (.t 7)),no⟩,⟨some 9,(.bin .lss (.t 6) (.t 8)),no⟩]) (.cond (.t 9) .skip (.exit 0))) (.seq (.blk 1 (.seq
 (.reg [⟨some 12,(.mv (.t 0)),no⟩,⟨some 13,(.mv (.t 5)),no⟩,⟨some 14,(.mv (.t 1)),no⟩,⟨some 15,(.ixa 2 (.t 12) (.t 13)),no⟩,⟨some 16,(.fld 0 (.t 15)),no⟩,⟨no,(.st 1 (.t 16) (.t 14)),no⟩]) (.seq
 (.reg [⟨some 17,(.mv (.t 1)),no⟩,⟨some 18,(.bin .add (.t 17) (.k (.int .i64 1))),no⟩,⟨some 1,(.mv (.t 18)),no⟩]) (.seq
 (.reg [⟨some 19,(.mv (.t 0)),no⟩,⟨some 20,(.mv (.t 5)),no⟩,⟨some 21,(.mv (.t 1)),no⟩,⟨some 22,(.call (.k (.fn (.func 161) [] [])) [(.t 21)]),no⟩,⟨some 23,(.ixa 2 (.t 19) (.t 20)),no⟩,⟨some 24,(.fld 1 (.t 23)),no⟩,⟨no,(.st 1 (.t 24) (.t 22)),no⟩])
 (.reg [⟨some 25,(.mv (.t 1)),no⟩,⟨some 26,(.bin .add (.t 25) (.k (.int .i64 1))),no⟩,⟨some 1,(.mv (.t 26)),no⟩])))))
 (.reg [⟨some 10,(.mv (.t 5)),no⟩,⟨some 11,(.bin .add (.t 10) (.k (.int .i64 1))),no⟩,⟨some 5,(.mv (.t 11)),no⟩])))))) (.seq
 (.reg [⟨some 27,(.mv (.t 1)),no⟩,⟨some 4,(.mv (.t 27)),no⟩]) .ret)))⟩
theorem a236_ok:compFn Tryz.prog Tryz.f236=some a236:=by kernel_rfl
def a163:AFn:=
⟨27,[(.t 4)],(.seq
 (.reg [⟨some 4,(.mv (.k (.int .i64 0))),no⟩]) (.seq (.seq
 (.reg [⟨some 5,(.mv (.k (.int .i64 0))),no⟩]) (.blk 0 (.loop (.seq (.seq
 (.reg [⟨some 6,(.mv (.t 5)),no⟩,⟨some 7,(.mv (.t 0)),no⟩,⟨some 8,(.len false (.t 7)),no⟩,⟨some 9,(.bin .lss (.t 6) (.t 8)),no⟩]) (.cond (.t 9) .skip (.exit 0))) (.seq (.blk 1 (.seq
 (.reg [⟨some 12,(.mv (.t 0)),no⟩,⟨some 13,(.mv (.t 5)),no⟩,⟨some 14,(.mv (.t 1)),no⟩,⟨some 15,(.ixa 2 (.t 12) (.t 13)),no⟩,⟨some 16,(.fld 0 (.t 15)),no⟩,⟨no,(.st 1 (.t 16) (.t 14)),no⟩]) (.seq
 (.reg [⟨some 17,(.mv (.t 1)),no⟩,⟨some 18,(.bin .add (.t 17) (.k (.int .i64 1))),no⟩,⟨some 1,(.mv (.t 18)),no⟩])
 (.reg [⟨some 19,(.mv (.t 0)),no⟩,⟨some 20,(.mv (.t 5)),no⟩,⟨some 21,(.ixa 2 (.t 19) (.t 20)),no⟩,⟨some 22,(.fld 1 (.t 21)),no⟩,⟨some 23,(.ld false 1 (.t 22)),no⟩,⟨some 24,(.mv (.t 1)),no⟩,⟨some 25,(.call (.k (.fn (.func 236) [] [])) [(.t 23),(.t 24)]),no⟩,⟨some 1,(.mv (.t 25)),no⟩]))))
 (.reg [⟨some 10,(.mv (.t 5)),no⟩,⟨some 11,(.bin .add (.t 10) (.k (.int .i64 1))),no⟩,⟨some 5,(.mv (.t 11)),no⟩])))))) (.seq
 (.reg [⟨some 26,(.mv (.t 1)),no⟩,⟨some 4,(.mv (.t 26)),no⟩]) .ret)))⟩
theorem a163_ok:compFn Tryz.prog Tryz.f163=some a163:=by kernel_rfl
def a237:AFn:=
⟨37,[(.t 4)],(.seq
 (.reg [⟨some 4,(.mv (.k (.int .i64 0))),no⟩]) (.seq (.seq
 (.reg [⟨some 5,(.mv (.k (.int .i64 0))),no⟩]) (.blk 0 (.loop (.seq (.seq
 (.reg [⟨some 6,(.mv (.t 5)),no⟩,⟨some 7,(.mv (.t 0)),no⟩,⟨some 8,(.len false (.t 7)),no⟩,⟨some 9,(.bin .lss (.t 6) (.t 8)),no⟩]) (.cond (.t 9) .skip (.exit 0))) (.seq (.blk 1 (.seq
 (.reg [⟨some 12,(.mv (.t 0)),no⟩,⟨some 13,(.mv (.t 5)),no⟩,⟨some 14,(.mv (.t 1)),no⟩,⟨some 15,(.bin .rem (.t 14) (.k (.int .i64 3))),no⟩,⟨some 16,(.bin .eql (.t 15) (.k (.int .i64 0))),no⟩,⟨some 17,(.ixa 3 (.t 12) (.t 13)),no⟩,⟨some 18,(.fld 0 (.t 17)),no⟩,⟨no,(.st 1 (.t 18) (.t 16)),no⟩]) (.seq
 (.reg [⟨some 19,(.mv (.t 1)),no⟩,⟨some 20,(.bin .add (.t 19) (.k (.int .i64 1))),no⟩,⟨some 1,(.mv (.t 20)),no⟩]) (.seq
 (.reg [⟨some 21,(.mv (.t 0)),no⟩,⟨some 22,(.mv (.t 5)),no⟩,⟨some 23,(.ixa 3 (.t 21) (.t 22)),no⟩,⟨some 24,(.fld 1 (.t 23)),no⟩,⟨some 25,(.ld false 1 (.t 24)),no⟩,⟨some 26,(.mv (.t 1)),no⟩,⟨some 27,(.call (.k (.fn (.func 163) [] [])) [(.t 25),(.t 26)]),no⟩,⟨some 1,(.mv (.t 27)),no⟩]) (.seq
 (.reg [⟨some 28,(.mv (.t 0)),no⟩,⟨some 29,(.mv (.t 5)),no⟩,⟨some 30,(.mv (.t 1)),no⟩,⟨some 31,(.call (.k (.fn (.func 161) [] [])) [(.t 30)]),no⟩,⟨some 32,(.ixa 3 (.t 28) (.t 29)),no⟩,⟨some 33,(.fld 2 (.t 32)),no⟩,⟨no,(.st 1 (.t 33) (.t 31)),no⟩])
 (.reg [⟨some 34,(.mv (.t 1)),no⟩,⟨some 35,(.bin .add (.t 34) (.k (.int .i64 1))),no⟩,⟨some 1,(.mv (.t 35)),no⟩]))))))
 (.reg [⟨some 10,(.mv (.t 5)),no⟩,⟨some 11,(.bin .add (.t 10) (.k (.int .i64 1))),no⟩,⟨some 5,(.mv (.t 11)),no⟩])))))) (.seq
 (.reg [⟨some 36,(.mv (.t 1)),no⟩,⟨some 4,(.mv (.t 36)),no⟩]) .ret)))⟩
theorem a237_ok:compFn Tryz.prog Tryz.f237=some a237:=by kernel_rfl
def a69:AFn:=
⟨44,[(.t 4)],(.seq
 (.reg [⟨some 4,(.mv (.k (.int .i64 0))),no⟩]) (.seq (.seq
 (.reg [⟨some 5,(.mv (.k (.int .i64 0))),no⟩]) (.blk 0 (.loop (.seq (.seq
 (.reg [⟨some 6,(.mv (.t 5)),no⟩,⟨some 7,(.mv (.t 0)),no⟩,⟨some 8,(.len false (.t 7)),no⟩,⟨some 9,(.bin .lss (.t 6) (.t 8)),no⟩]) (.cond (.t 9) .skip (.exit 0))) (.seq (.blk 1 (.seq
 (.reg [⟨some 12,(.mv (.t 0)),no⟩,⟨some 13,(.mv (.t 5)),no⟩,⟨some 14,(.mv (.t 1)),no⟩,⟨some 15,(.call (.k (.fn (.func 161) [] [])) [(.t 14)]),no⟩,⟨some 16,(.ixa 4 (.t 12) (.t 13)),no⟩,⟨some 17,(.fld 0 (.t 16)),no⟩,⟨no,(.st 1 (.t 17) (.t 15)),no⟩]) (.seq
 (.reg [⟨some 18,(.mv (.t 1)),no⟩,⟨some 19,(.bin .add (.t 18) (.k (.int .i64 1))),no⟩,⟨some 1,(.mv (.t 19)),no⟩]) (.seq
 (.reg [⟨some 20,(.mv (.t 0)),no⟩,⟨some 21,(.mv (.t 5)),no⟩,⟨some 22,(.ixa 4 (.t 20) (.t 21)),no⟩,⟨some 23,(.fld 1 (.t 22)),no⟩,⟨some 24,(.ld false 1 (.t 23)),no⟩,⟨some 25,(.mv (.t 1)),no⟩,⟨some 26,(.call (.k (.fn (.func 83) [] [])) [(.t 24),(.t 25)]),no⟩,⟨some 1,(.mv (.t 26)),no⟩]) (.seq
 (.reg [⟨some 27,(.mv (.t 0)),no⟩,⟨some 28,(.mv (.t 5)),no⟩,⟨some 29,(.mv (.t 1)),no⟩,⟨some 30,(.bin .rem (.t 29) (.k (.int .i64 3))),no⟩,⟨some 31,(.bin .eql (.t 30) (.k (.int .i64 0))),no⟩,⟨some 32,(.ixa 4 (.t 27) (.t 28)),no⟩,⟨some 33,(.fld 2 (.t 32)),no⟩,⟨no,(.st 1 (.t 33) (.t 31)),no⟩]) (.seq
 (.reg [⟨some 34,(.mv (.t 1)),no⟩,⟨some 35,(.bin .add (.t 34) (.k (.int .i64 1))),no⟩,⟨some 1,(.mv (.t 35)),no⟩])
 (.reg [⟨some 36,(.mv (.t 0)),no⟩,⟨some 37,(.mv (.t 5)),no⟩,⟨some 38,(.ixa 4 (.t 36) (.t 37)),no⟩,⟨some 39,(.fld 3 (.t 38)),no⟩,⟨some 40,(.ld false 1 (.t 39)),no⟩,⟨some 41,(.mv (.t 1)),no⟩,⟨some 42,(.call (.k (.fn (.func 71) [] [])) [(.t 40),(.t 41)]),no⟩,⟨some 1,(.mv (.t 42)),no⟩])))))))
 (.reg [⟨some 10,(.mv (.t 5)),no⟩,⟨some 11,(.bin .add (.t 10) (.k (.int .i64 1))),no⟩,⟨some 5,(.mv (.t 11)),no⟩])))))) (.seq
 (.reg [⟨some 43,(.mv (.t 1)),no⟩,⟨some 4,(.mv (.t 43)),no⟩]) .ret)))⟩
theorem a69_ok:compFn Tryz.prog Tryz.f69=some a69:=by kernel_rfl
def a162:AFn:=
⟨46,[(.t 4)],(.seq
 (.reg [⟨some 4,(.mv (.k (.int .i64 0))),no⟩]) (.seq (.seq
 (.reg [⟨some 5,(.mv (.k (.int .i64 0))),no⟩]) (.blk 0 (.loop (.seq (.seq
 (.reg [⟨some 6,(.mv (.t 5)),no⟩,⟨some 7,(.mv (.t 0)),no⟩,⟨some 8,(.len false (.t 7)),no⟩,⟨some 9,(.bin .lss (.t 6) (.t 8)),no⟩]) (.cond (.t 9) .skip (.exit 0))) (.seq (.blk 1 (.seq
 (.reg [⟨some 12,(.mv (.t 0)),no⟩,⟨some 13,(.mv (.t 5)),no⟩,⟨some 14,(.mv (.t 1)),no⟩,⟨some 15,(.call (.k (.fn (.func 161) [] [])) [(.t 14)]),no⟩,⟨some 16,(.ixa 4 (.t 12) (.t 13)),no⟩,⟨some 17,(.fld 0 (.t 16)),no⟩,⟨no,(.st 1 (.t 17) (.t 15)),no⟩]) (.seq
 (.reg [⟨some 18,(.mv (.t 1)),no⟩,⟨some 19,(.bin .add (.t 18) (.k (.int .i64 1))),no⟩,⟨some 1,(.mv (.t 19)),no⟩]) (.seq
 (.reg [⟨some 20,(.mv (.t 0)),no⟩,⟨some 21,(.mv (.t 5)),no⟩,⟨some 22,(.mv (.t 1)),no⟩,⟨some 23,(.bin .rem (.t 22) (.k (.int .i64 3))),no⟩,⟨some 24,(.bin .eql (.t 23) (.k (.int .i64 0))),no⟩,⟨some 25,(.ixa 4 (.t 20) (.t 21)),no⟩,⟨some 26,(.fld 1 (.t 25)),no⟩,⟨no,(.st 1 (.t 26) (.t 24)),no⟩]) (.seq
 (.reg [⟨some 27,(.mv (.t 1)),no⟩,⟨some 28,(.bin .add (.t 27) (.k (.int .i64 1))),no⟩,⟨some 1,(.mv (.t 28)),no⟩]) (.seq
 (.reg [⟨some 29,(.mv (.t 0)),no⟩,⟨some 30,(.mv (.t 5)),no⟩,⟨some 31,(.mv (.t 1)),no⟩,⟨some 32,(.call (.k (.fn (.func 161) [] [])) [(.t 31)]),no⟩,⟨some 33,(.ixa 4 (.t 29) (.t 30)),no⟩,⟨some 34,(.fld 2 (.t 33)),no⟩,⟨no,(.st 1 (.t 34) (.t 32)),no⟩]) (.seq
 (.reg [⟨some 35,(.mv (.t 1)),no⟩,⟨some 36,(.bin .add (.t 35) (.k (.int .i64 1))),no⟩,⟨some 1,(.mv (.t 36)),no⟩]) (.seq
 (.reg [⟨some 37,(.mv (.t 0)),no⟩,⟨some 38,(.mv (.t 5)),no⟩,⟨some 39,(.mv (.t 1)),no⟩,⟨some 40,(.call (.k (.fn (.func 161) [] [])) [(.t 39)]),no⟩,⟨some 41,(.ixa 4 (.t 37) (.t 38)),no⟩,⟨some 42,(.fld 3 (.t 41)),no⟩,⟨no,(.st 1 (.t 42) (.t 40)),no⟩])
 (.reg [⟨some 43,(.mv (.t 1)),no⟩,⟨some 44,(.bin .add (.t 43) (.k (.int .i64 1))),no⟩,⟨some 1,(.mv (.t 44)),no⟩])))))))))
 (.reg [⟨some 10,(.mv (.t 5)),no⟩,⟨some 11,(.bin .add (.t 10) (.k (.int .i64 1))),no⟩,⟨some 5,(.mv (.t 11)),no⟩])))))) (.seq
 (.reg [⟨some 45,(.mv (.t 1)),no⟩,⟨some 4,(.mv (.t 45)),no⟩]) .ret)))⟩
theorem a162_ok:compFn Tryz.prog Tryz.f162=some a162:=by kernel_rfl
def a164:AFn:=
⟨36,[(.t 4)],(.seq
 (.reg [⟨some 4,(.mv (.k (.int .i64 0))),no⟩]) (.seq (.seq
 (.reg [⟨some 5,(.mv (.k (.int .i64 0))),no⟩]) (.blk 0 (.loop (.seq (.seq
 (.reg [⟨some 6,(.mv (.t 5)),no⟩,⟨some 7,(.mv (.t 0)),no⟩,⟨some 8,(.len false (.t 7)),no⟩,⟨some 9,(.bin .lss (.t 6) (.t 8)),no⟩]) (.cond (.t 9) .skip (.exit 0))) (.seq (.blk 1 (.seq
 (.reg [⟨some 12,(.mv (.t 0)),no⟩,⟨some 13,(.mv (.t 5)),no⟩,⟨some 14,(.mv (.t 1)),no⟩,⟨some 15,(.call (.k (.fn (.func 161) [] [])) [(.t 14)]),no⟩,⟨some 16,(.ixa 3 (.t 12) (.t 13)),no⟩,⟨some 17,(.fld 0 (.t 16)),no⟩,⟨no,(.st 1 (.t 17) (.t 15)),no⟩]) (.seq
 (.reg [⟨some 18,(.mv (.t 1)),no⟩,⟨some 19,(.bin .add (.t 18) (.k (.int .i64 1))),no⟩,⟨some 1,(.mv (.t 19)),no⟩]) (.seq
 (.reg [⟨some 20,(.mv (.t 0)),no⟩,⟨some 21,(.mv (.t 5)),no⟩,⟨some 22,(.mv (.t 1)),no⟩,⟨some 23,(.call (.k (.fn (.func 161) [] [])) [(.t 22)]),no⟩,⟨some 24,(.ixa 3 (.t 20) (.t 21)),no⟩,⟨some 25,(.fld 1 (.t 24)),no⟩,⟨no,(.st 1 (.t 25) (.t 23)),no⟩]) (.seq
 (.reg [⟨some 26,(.mv (.t 1)),no⟩,⟨some 27,(.bin .add (.t 26) (.k (.int .i64 1))),no⟩,⟨some 1,(.mv (.t 27)),no⟩])
 (.reg [⟨some 28,(.mv (.t 0)),no⟩,⟨some 29,(.mv (.t 5)),no⟩,⟨some 30,(.ixa 3 (.t 28) (.t 29)),no⟩,⟨some 31,(.fld 2 (.t 30)),no⟩,⟨some 32,(.ld false 1 (.t 31)),no⟩,⟨some 33,(.mv (.t 1)),no⟩,⟨some 34,(.call (.k (.fn (.func 237) [] [])) [(.t 32),(.t 33)]),no⟩,⟨some 1,(.mv (.t 34)),no⟩]))))))
 (.reg [⟨some 10,(.mv (.t 5)),no⟩,⟨some 11,(.bin .add (.t 10) (.k (.int .i64 1))),no⟩,⟨some 5,(.mv (.t 11)),no⟩])))))) (.seq
 (.reg [⟨some 35,(.mv (.t 1)),no⟩,⟨some 4,(.mv (.t 35)),no⟩]) .ret)))⟩
theorem a164_ok:compFn Tryz.prog Tryz.f164=some a164:=by kernel_rfl
def a70:AFn:=
⟨69,[(.t 4)],(.seq
 (.reg [⟨some 4,(.mv (.k (.int .i64 0))),no⟩]) (.seq (.seq
 (.reg [⟨some 5,(.mv (.k (.int .i64 0))),no⟩]) (.blk 0 (.loop (.seq (.seq
 (.reg [⟨some 6,(.mv (.t 5)),no⟩,⟨some 7,(.mv (.t 0)),no⟩,⟨some 8,(.len false (.t 7)),no⟩,⟨some 9,(.bin .lss (.t 6) (.t 8)),no⟩]) (.cond (.t 9) .skip (.exit 0))) (.seq (.blk 1 (.seq
 (.reg [⟨some 12,(.mv (.t 0)),no⟩,⟨some 13,(.mv (.t 5)),no⟩,⟨some 14,(.mv (.t 1)),no⟩,⟨some 15,(.call (.k (.fn (.func 161) [] [])) [(.t 14)]),no⟩,⟨some 16,(.ixa 7 (.t 12) (.t 13)),no⟩,⟨some 17,(.fld 0 (.t 16)),no⟩,⟨no,(.st 1 (.t 17) (.t 15)),no⟩]) (.seq
 (.reg [⟨some 18,(.mv (.t 1)),no⟩,⟨some 19,(.bin .add (.t 18) (.k (.int .i64 1))),no⟩,⟨some 1,(.mv (.t 19)),no⟩]) (.seq
 (.reg [⟨some 20,(.mv (.t 0)),no⟩,⟨some 21,(.mv (.t 5)),no⟩,⟨some 22,(.ixa 7 (.t 20) (.t 21)),no⟩,⟨some 23,(.fld 1 (.t 22)),no⟩,⟨some 24,(.ld false 1 (.t 23)),no⟩,⟨some 25,(.mv (.t 1)),no⟩,⟨some 26,(.call (.k (.fn (.func 162) [] [])) [(.t 24),(.t 25)]),no⟩,⟨some 1,(.mv (.t 26)),no⟩]) (.seq
 (.reg [⟨some 27,(.mv (.t 0)),no⟩,⟨some 28,(.mv (.t 5)),no⟩,⟨some 29,(.ixa 7 (.t 27) (.t 28)),no⟩,⟨some 30,(.fld 2 (.t 29)),no⟩,⟨some 31,(.ld false 1 (.t 30)),no⟩,⟨some 32,(.mv (.t 1)),no⟩,⟨some 33,(.call (.k (.fn (.func 163) [] [])) [(.t 31),(.t 32)]),no⟩,⟨some 1,(.mv (.t 33)),no⟩]) (.seq
 (.reg [⟨some 34,(.mv (.t 0)),no⟩,⟨some 35,(.mv (.t 5)),no⟩,⟨some 36,(.ixa 7 (.t 34) (.t 35)),no⟩,⟨some 37,(.fld 3 (.t 36)),no⟩,⟨some 38,(.ld false 1 (.t 37)),no⟩,⟨some 39,(.mv (.t 1)),no⟩,⟨some 40,(.call (.k (.fn (.func 164) [] [])) [(.t 38),(.t 39)]),no⟩,⟨some 1,(.mv (.t 40)),no⟩]) (.seq
 (.reg [⟨some 41,(.mv (.t 0)),no⟩,⟨some 42,(.mv (.t 5)),no⟩,⟨some 43,(.mv (.t 1)),no⟩,⟨some 44,(.bin .rem (.t 43) (.k (.int .i64 3))),no⟩,⟨some 45,(.bin .eql (.t 44) (.k (.int .i64 0))),no⟩,⟨some 46,(.ixa 7 (.t 41) (.t 42)),no⟩,⟨some 47,(.fld 4 (.t 46)),no⟩,⟨some 48,(.fld 0 (.t 47)),no⟩,⟨no,(.st 1 (.t 48) (.t 45)),no⟩]) (.seq
 (.reg [⟨some 49,(.mv (.t 1)),no⟩,⟨some 50,(.bin .add (.t 49) (.k (.int .i64 1))),no⟩,⟨some 1,(.mv (.t 50)),no⟩]) (.seq
 (.reg [⟨some 51,(.mv (.t 0)),no⟩,⟨some 52,(.mv (.t 5)),no⟩,⟨some 53,(.ixa 7 (.t 51) (.t 52)),no⟩,⟨some 54,(.fld 4 (.t 53)),no⟩,⟨some 55,(.fld 1 (.t 54)),no⟩,⟨some 56,(.ld false 1 (.t 55)),no⟩,⟨some 57,(.mv (.t 1)),no⟩,⟨some 58,(.call (.k (.fn (.func 163) [] [])) [(.t 56),(.t 57)]),no⟩,⟨some 1,(.mv (.t 58)),no⟩]) (.seq
 (.reg [⟨some 59,(.mv (.t 0)),no⟩,⟨some 60,(.mv (.t 5)),no⟩,⟨some 61,(.mv (.t 1)),no⟩,⟨some 62,(.call (.k (.fn (.func 161) [] [])) [(.t 61)]),no⟩,⟨some 63,(.ixa 7 (.t 59) (.t 60)),no⟩,⟨some 64,(.fld 4 (.t 63)),no⟩,⟨some 65,(.fld 2 (.t 64)),no⟩,⟨no,(.st 1 (.t 65) (.t 62)),no⟩])
 (.reg [⟨some 66,(.mv (.t 1)),no⟩,⟨some 67,(.bin .add (.t 66) (.k (.int .i64 1))),no⟩,⟨some 1,(.mv (.t 67)),no⟩])))))))))))
 (.reg [⟨some 10,(.mv (.t 5)),no⟩,⟨some 11,(.bin .add (.t 10) (.k (.int .i64 1))),no⟩,⟨some 5,(.mv (.t 11)),no⟩])))))) (.seq
 (.reg [⟨some 68,(.mv (.t 1)),no⟩,⟨some 4,(.mv (.t 68)),no⟩]) .ret)))⟩
theorem a70_ok:compFn Tryz.prog Tryz.f70=some a70:=by kernel_rfl
def a17:AFn:=
⟨14,[(.t 4)],(.seq
 (.reg [⟨some 2,(.boxv (.t 0)),no⟩,⟨some 4,(.mv (.k (.int .i64 0))),no⟩]) (.seq
 (.reg [⟨some 5,(.fld 0 (.t 2)),no⟩,⟨some 6,(.ld false 1 (.t 5)),no⟩,⟨some 7,(.mv (.t 1)),no⟩,⟨some 8,(.call (.k (.fn (.func 69) [] [])) [(.t 6),(.t 7)]),no⟩,⟨some 1,(.mv (.t 8)),no⟩]) (.seq
 (.reg [⟨some 9,(.fld 1 (.t 2)),no⟩,⟨some 10,(.ld false 1 (.t 9)),no⟩,⟨some 11,(.mv (.t 1)),no⟩,⟨some 12,(.call (.k (.fn (.func 70) [] [])) [(.t 10),(.t 11)]),no⟩,⟨some 1,(.mv (.t 12)),no⟩]) (.seq
 (.reg [⟨some 13,(.mv (.t 1)),no⟩,⟨some 4,(.mv (.t 13)),no⟩]) .ret))))⟩
theorem a17_ok:compFn Tryz.prog Tryz.f17=some a17:=by kernel_rfl
def a31:AFn:=
⟨18,[(.t 4)],(.seq
 (.reg [⟨some 2,(.boxv (.t 0)),no⟩,⟨some 4,(.mv (.k (.int .i64 0))),no⟩]) (.seq
 (.reg [⟨some 5,(.fld 0 (.t 2)),no⟩,⟨some 6,(.ld false 1 (.t 5)),no⟩,⟨some 7,(.mv (.t 1)),no⟩,⟨some 8,(.call (.k (.fn (.func 94) [] [])) [(.t 6),(.t 7)]),no⟩,⟨some 1,(.mv (.t 8)),no⟩]) (.seq (.seq
 (.reg [⟨some 9,(.mv (.t 1)),no⟩,⟨some 10,(.bin .lss (.t 9) (.k (.int .i64 0))),no⟩]) (.cond (.t 10) (.seq
 (.reg [⟨some 4,(.mv (.k (.int .i64 (-1)))),no⟩]) .ret) .skip)) (.seq
 (.reg [⟨some 11,(.fld 1 (.t 2)),no⟩,⟨some 12,(.ld false 1 (.t 11)),no⟩,⟨some 13,(.mv (.t 1)),no⟩,⟨some 14,(.call (.k (.fn (.func 95) [] [])) [(.t 12),(.t 13)]),no⟩,⟨some 1,(.mv (.t 14)),no⟩]) (.seq (.seq
 (.reg [⟨some 15,(.mv (.t 1)),no⟩,⟨some 16,(.bin .lss (.t 15) (.k (.int .i64 0))),no⟩]) (.cond (.t 16) (.seq
 (.reg [⟨some 4,(.mv (.k (.int .i64 (-1)))),no⟩]) .ret) .skip)) (.seq
 (.reg [⟨some 17,(.mv (.t 1)),no⟩,⟨some 4,(.mv (.t 17)),no⟩]) .ret))))))⟩
set_option maxRecDepth 20000 in
set_option maxHeartbeats 1000000 in
theorem m_markTermS (l:List DTerm) (k:Int) (h0:0≤k∧k+cTermS l≤4611686018427387904):Marks Tryz.prog 236 (.us 2 (l.map rUTerm)) k (.us 2 ((mkTermS l k).map rUTerm)) (k+cTermS l):=by
  intro h n a I K hT hI hn hK
  obtain ⟨id,rows0,I0,rfl,_,hB,_⟩:=TR_us hT
  simp only [List.length_map] at hT hB hK ⊢
  refine acall_len Tryz.func236 rfl rfl (by rw [hB]; simp) fun hlim => ?_
  refine acall_body Tryz.func236 a236_ok rfl (by simp [a236]) ?_
  simp [a236]
  unfold cTermS at *
  refine rL_forO [0] 5 l.length (fun i s h1 n1=>MJ mkrTerm crTerm rUTerm 2 h n id I l k i (s 1) h1 n1) hlim (by simp) (by simpa using MJ.start hT) ?_ ?_
  · rintro i s h1 n1 R hi hg hk s5 hw hJ hR hret _
    simp at hk
    obtain ⟨x,ki,rows,cells,I2,s1,hki,hki2,hlen,hc0,hnd,hI2,hstart,hclose⟩:=hJ.step2 hI hn hi
    simp only [rUTerm] at hc0
    simp only [crTerm] at hki2
    obtain ⟨_,rfl,hc1⟩:=TRl_int.1 hc0
    obtain ⟨_,rfl,hc2⟩:=TRl_str.1 hc1
    obtain ⟨rfl,rfl⟩:=TRl_nil.1 hc2
    have S:=hstart _ Kids.nil
    have e:=S.e
    have w0:IntKind.i64.wrap (ki+1)=ki+1:=wrap64 (by omega)
    have w1:IntKind.i64.wrap (ki+1+1)=ki+1+1:=wrap64 (by omega)
    simp [hk,s5,hi,hw,s1,e,hlen,w0,w1]
    intro _
    first | refine callD_of (k_markText (ki+1) (by omega)) (by simp) ?_ | refine call_of (k_markText (ki+1) (by omega)) (by simp) ?_
    rintro r rfl
    simp [hk,s5,hi,hw,s1,e,hlen,w0,w1]
    refine hR _ _ _ (by simp [hk]) (by simp) (hclose _ _ [.int .i64 (ki),.str (mtx (ki+1))] _ _ S.store (TRl_int.2 ⟨_,rfl,(TRl_str.2 ⟨_,rfl,(TRl_nil.2 ⟨rfl,rfl⟩)⟩)⟩) (by simp [i64,crTerm]; try omega))
  · rintro s h1 n1 R hk s5 hJ hret hX
    simp at hk
    obtain ⟨s1,hn1,hf,ht⟩:=hJ.fin
    simp [hk,s5,s1]
    refine ⟨TR_some ht,fun _ => ?_⟩
    refine hX _ _ _ _ ?_
    simp [hk,s5,s1]
    exact hK _ _ hn1 hf ht
set_option maxRecDepth 20000 in
set_option maxHeartbeats 1000000 in
theorem m_markSumS (l:List DSum) (k:Int) (h0:0≤k∧k+cSumS l≤4611686018427387904):Marks Tryz.prog 163 (.us 2 (l.map rUSum)) k (.us 2 ((mkSumS l k).map rUSum)) (k+cSumS l):=by
  intro h n a I K hT hI hn hK
  obtain ⟨id,rows0,I0,rfl,_,hB,_⟩:=TR_us hT
  simp only [List.length_map] at hT hB hK ⊢
  refine acall_len Tryz.func163 rfl rfl (by rw [hB]; simp) fun hlim => ?_
  refine acall_body Tryz.func163 a163_ok rfl (by simp [a163]) ?_
  simp [a163]
  unfold cSumS at *
  refine rL_forO [0] 5 l.length (fun i s h1 n1=>MJ mkrSum crSum rUSum 2 h n id I l k i (s 1) h1 n1) hlim (by simp) (by simpa using MJ.start hT) ?_ ?_
  · rintro i s h1 n1 R hi hg hk s5 hw hJ hR hret _
    simp at hk
    obtain ⟨x,ki,rows,cells,I2,s1,hki,hki2,hlen,hc0,hnd,hI2,hstart,hclose⟩:=hJ.step2 hI hn hi
    simp only [rUSum] at hc0
    simp only [crSum] at hki2
    obtain ⟨_,rfl,hc1⟩:=TRl_int.1 hc0
    obtain ⟨d1,len1,_,J1,_,rfl,rfl,hl1,ht1,hc2⟩:=TRl_us hc1
    have hq1:len1=(x.Terms).length:=by simpa using hl1
    subst hq1
    obtain ⟨rfl,rfl⟩:=TRl_nil.1 hc2
    have S:=hstart _ (Kids.cons ht1 hnd hI2 fun hnd hI2=>Kids.nil)
    have e:=S.e
    have w0:IntKind.i64.wrap (ki+1)=ki+1:=wrap64 (by omega)
    simp [hk,s5,hi,hw,s1,e,hlen,w0]
    intro _
    refine RS.mark (T1:=[]) (m_markTermS _ _ (by omega)) S.store ?_
    clear S e
    intro h2 n2 S
    have e:=S.e
    simp [hk,s5,hi,hw,s1,e,hlen,w0]
    refine hR _ _ _ (by simp [hk]) (by simp) (hclose _ _ [.int .i64 (ki),.ref d1 0 (x.Terms).length] _ _ S (TRl_int.2 ⟨_,rfl,(TRl_cons (S.live.ids (_,.ref d1 0 _,J1) (by simp [mkrSum])).1 (TRl_nil.2 ⟨rfl,rfl⟩))⟩) (by simp [i64,crSum]; try omega))
  · rintro s h1 n1 R hk s5 hJ hret hX
    simp at hk
    obtain ⟨s1,hn1,hf,ht⟩:=hJ.fin
    simp [hk,s5,s1]
    refine ⟨TR_some ht,fun _ => ?_⟩
    refine hX _ _ _ _ ?_
    simp [hk,s5,s1]
    exact hK _ _ hn1 hf ht
set_option maxRecDepth 20000 in
set_option maxHeartbeats 1000000 in
theorem m_markArgS (l:List DArg) (k:Int) (h0:0≤k∧k+cArgS l≤4611686018427387904):Marks Tryz.prog 237 (.us 3 (l.map rUArg)) k (.us 3 ((mkArgS l k).map rUArg)) (k+cArgS l):=by
  intro h n a I K hT hI hn hK
  obtain ⟨id,rows0,I0,rfl,_,hB,_⟩:=TR_us hT
  simp only [List.length_map] at hT hB hK ⊢
  refine acall_len Tryz.func237 rfl rfl (by rw [hB]; simp) fun hlim => ?_
  refine acall_body Tryz.func237 a237_ok rfl (by simp [a237]) ?_
  simp [a237]
  unfold cArgS at *
  refine rL_forO [0] 5 l.length (fun i s h1 n1=>MJ mkrArg crArg rUArg 3 h n id I l k i (s 1) h1 n1) hlim (by simp) (by simpa using MJ.start hT) ?_ ?_
  · rintro i s h1 n1 R hi hg hk s5 hw hJ hR hret _
    simp at hk
    obtain ⟨x,ki,rows,cells,I2,s1,hki,hki2,hlen,hc0,hnd,hI2,hstart,hclose⟩:=hJ.step2 hI hn hi
    simp only [rUArg] at hc0
    simp only [crArg] at hki2
    obtain ⟨_,rfl,hc1⟩:=TRl_bool.1 hc0
    obtain ⟨d1,len1,_,J1,_,rfl,rfl,hl1,ht1,hc2⟩:=TRl_us hc1
    have hq1:len1=(x.Heads).length:=by simpa using hl1
    subst hq1
    obtain ⟨_,rfl,hc3⟩:=TRl_str.1 hc2
    obtain ⟨rfl,rfl⟩:=TRl_nil.1 hc3
    have S:=hstart _ (Kids.cons ht1 hnd hI2 fun hnd hI2=>Kids.nil)
    have e:=S.e
    have w0:IntKind.i64.wrap (ki+1)=ki+1:=wrap64 (by omega)
    have w1:IntKind.i64.wrap (ki+1+cSumS x.Heads+1)=ki+1+cSumS x.Heads+1:=wrap64 (by omega)
    simp [hk,s5,hi,hw,s1,e,hlen,w0,w1]
    intro _
    refine RS.mark (T1:=[]) (m_markSumS _ _ (by omega)) S.store ?_
    clear S e
    intro h2 n2 S
    have e:=S.e
    simp [hk,s5,hi,hw,s1,e,hlen,w0,w1]
    first | refine callD_of (k_markText (ki+1+cSumS x.Heads) (by omega)) (by simp) ?_ | refine call_of (k_markText (ki+1+cSumS x.Heads) (by omega)) (by simp) ?_
    rintro r rfl
    simp [hk,s5,hi,hw,s1,e,hlen,w0,w1]
    have S:=S.store (cells':=[.bool ((ki).tmod 3==0),.ref d1 0 (x.Heads).length,.str (mtx (ki+1+cSumS x.Heads))])
    refine hR _ _ _ (by simp [hk]) (by simp) (hclose _ _ [.bool ((ki).tmod 3==0),.ref d1 0 (x.Heads).length,.str (mtx (ki+1+cSumS x.Heads))] _ _ S (TRl_bool.2 ⟨_,rfl,(TRl_cons (S.live.ids (_,.ref d1 0 _,J1) (by simp [mkrArg])).1 (TRl_str.2 ⟨_,rfl,(TRl_nil.2 ⟨rfl,rfl⟩)⟩))⟩) (by simp [i64,crArg]; try omega))
  · rintro s h1 n1 R hk s5 hJ hret hX
    simp at hk
    obtain ⟨s1,hn1,hf,ht⟩:=hJ.fin
    simp [hk,s5,s1]
    refine ⟨TR_some ht,fun _ => ?_⟩
    refine hX _ _ _ _ ?_
    simp [hk,s5,s1]
    exact hK _ _ hn1 hf ht
set_option maxRecDepth 20000 in
set_option maxHeartbeats 1000000 in
theorem m_markFunctionS (l:List DFunction) (k:Int) (h0:0≤k∧k+cFunctionS l≤4611686018427387904):Marks Tryz.prog 69 (.us 4 (l.map rUFunction)) k (.us 4 ((mkFunctionS l k).map rUFunction)) (k+cFunctionS l):=by
  intro h n a I K hT hI hn hK
  obtain ⟨id,rows0,I0,rfl,_,hB,_⟩:=TR_us hT
  simp only [List.length_map] at hT hB hK ⊢
  refine acall_len Tryz.func69 rfl rfl (by rw [hB]; simp) fun hlim => ?_
  refine acall_body Tryz.func69 a69_ok rfl (by simp [a69]) ?_
  simp [a69]
  unfold cFunctionS at *
  refine rL_forO [0] 5 l.length (fun i s h1 n1=>MJ mkrFunction crFunction rUFunction 4 h n id I l k i (s 1) h1 n1) hlim (by simp) (by simpa using MJ.start hT) ?_ ?_
  · rintro i s h1 n1 R hi hg hk s5 hw hJ hR hret _
    simp at hk
    obtain ⟨x,ki,rows,cells,I2,s1,hki,hki2,hlen,hc0,hnd,hI2,hstart,hclose⟩:=hJ.step2 hI hn hi
    simp only [rUFunction] at hc0
    simp only [crFunction] at hki2
    obtain ⟨_,rfl,hc1⟩:=TRl_str.1 hc0
    obtain ⟨d1,len1,_,J1,_,rfl,rfl,hl1,ht1,hc2⟩:=TRl_us hc1
    have hq1:len1=(x.Params).length:=by simpa using hl1
    subst hq1
    obtain ⟨_,rfl,hc3⟩:=TRl_bool.1 hc2
    obtain ⟨d3,len3,_,J3,_,rfl,rfl,hl3,ht3,hc4⟩:=TRl_us hc3
    have hq3:len3=(x.Pre).length:=by simpa using hl3
    subst hq3
    obtain ⟨rfl,rfl⟩:=TRl_nil.1 hc4
    have S:=hstart _ (Kids.cons ht1 hnd hI2 fun hnd hI2=>(Kids.cons ht3 hnd hI2 fun hnd hI2=>Kids.nil))
    have e:=S.e
    have w0:IntKind.i64.wrap (ki+1)=ki+1:=wrap64 (by omega)
    have w1:IntKind.i64.wrap (ki+1+cStringS x.Params+1)=ki+1+cStringS x.Params+1:=wrap64 (by omega)
    simp [hk,s5,hi,hw,s1,e,hlen,w0,w1]
    intro _
    first | refine callD_of (k_markText (ki) (by omega)) (by simp) ?_ | refine call_of (k_markText (ki) (by omega)) (by simp) ?_
    rintro r rfl
    simp [hk,s5,hi,hw,s1,e,hlen,w0,w1]
    refine RS.mark (T1:=[]) (m_markStringS _ _ (by omega)) S.store ?_
    clear S e
    intro h2 n2 S
    have e:=S.e
    simp [hk,s5,hi,hw,s1,e,hlen,w0,w1]
    refine RS.mark (T1:=[_]) (m_markLinS _ _ (by omega)) S.store ?_
    clear S e
    intro h2 n2 S
    have e:=S.e
    simp [hk,s5,hi,hw,s1,e,hlen,w0,w1]
    refine hR _ _ _ (by simp [hk]) (by simp) (hclose _ _ [.str (mtx (ki)),.ref d1 0 (x.Params).length,.bool ((ki+1+cStringS x.Params).tmod 3==0),.ref d3 0 (x.Pre).length] _ _ S (TRl_str.2 ⟨_,rfl,(TRl_cons (S.live.ids (_,.ref d1 0 _,J1) (by simp [mkrFunction])).1 (TRl_bool.2 ⟨_,rfl,(TRl_cons (S.live.ids (_,.ref d3 0 _,J3) (by simp [mkrFunction])).1 (TRl_nil.2 ⟨rfl,rfl⟩))⟩))⟩) (by simp [i64,crFunction]; try omega))
  · rintro s h1 n1 R hk s5 hJ hret hX
    simp at hk
    obtain ⟨s1,hn1,hf,ht⟩:=hJ.fin
    simp [hk,s5,s1]
    refine ⟨TR_some ht,fun _ => ?_⟩
    refine hX _ _ _ _ ?_
    simp [hk,s5,s1]
    exact hK _ _ hn1 hf ht
set_option maxRecDepth 20000 in
set_option maxHeartbeats 1000000 in
theorem m_markPatternS (l:List DPattern) (k:Int) (h0:0≤k∧k+cPatternS l≤4611686018427387904):Marks Tryz.prog 162 (.us 4 (l.map rUPattern)) k (.us 4 ((mkPatternS l k).map rUPattern)) (k+cPatternS l):=by
  intro h n a I K hT hI hn hK
  obtain ⟨id,rows0,I0,rfl,_,hB,_⟩:=TR_us hT
  simp only [List.length_map] at hT hB hK ⊢
  refine acall_len Tryz.func162 rfl rfl (by rw [hB]; simp) fun hlim => ?_
  refine acall_body Tryz.func162 a162_ok rfl (by simp [a162]) ?_
  simp [a162]
  unfold cPatternS at *
  refine rL_forO [0] 5 l.length (fun i s h1 n1=>MJ mkrPattern crPattern rUPattern 4 h n id I l k i (s 1) h1 n1) hlim (by simp) (by simpa using MJ.start hT) ?_ ?_
  · rintro i s h1 n1 R hi hg hk s5 hw hJ hR hret _
    simp at hk
    obtain ⟨x,ki,rows,cells,I2,s1,hki,hki2,hlen,hc0,hnd,hI2,hstart,hclose⟩:=hJ.step2 hI hn hi
    simp only [rUPattern] at hc0
    simp only [crPattern] at hki2
    obtain ⟨_,rfl,hc1⟩:=TRl_str.1 hc0
    obtain ⟨_,rfl,hc2⟩:=TRl_bool.1 hc1
    obtain ⟨_,rfl,hc3⟩:=TRl_str.1 hc2
    obtain ⟨_,rfl,hc4⟩:=TRl_str.1 hc3
    obtain ⟨rfl,rfl⟩:=TRl_nil.1 hc4
    have S:=hstart _ Kids.nil
    have e:=S.e
    have w0:IntKind.i64.wrap (ki+1)=ki+1:=wrap64 (by omega)
    have w1:IntKind.i64.wrap (ki+1+1)=ki+1+1:=wrap64 (by omega)
    have w2:IntKind.i64.wrap (ki+1+1+1)=ki+1+1+1:=wrap64 (by omega)
    have w3:IntKind.i64.wrap (ki+1+1+1+1)=ki+1+1+1+1:=wrap64 (by omega)
    simp [hk,s5,hi,hw,s1,e,hlen,w0,w1,w2,w3]
    intro _
    first | refine callD_of (k_markText (ki) (by omega)) (by simp) ?_ | refine call_of (k_markText (ki) (by omega)) (by simp) ?_
    rintro r rfl
    simp [hk,s5,hi,hw,s1,e,hlen,w0,w1,w2,w3]
    first | refine callD_of (k_markText (ki+1+1) (by omega)) (by simp) ?_ | refine call_of (k_markText (ki+1+1) (by omega)) (by simp) ?_
    rintro r rfl
    simp [hk,s5,hi,hw,s1,e,hlen,w0,w1,w2,w3]
    first | refine callD_of (k_markText (ki+1+1+1) (by omega)) (by simp) ?_ | refine call_of (k_markText (ki+1+1+1) (by omega)) (by simp) ?_
    rintro r rfl
    simp [hk,s5,hi,hw,s1,e,hlen,w0,w1,w2,w3]
    refine hR _ _ _ (by simp [hk]) (by simp) (hclose _ _ [.str (mtx (ki)),.bool ((ki+1).tmod 3==0),.str (mtx (ki+1+1)),.str (mtx (ki+1+1+1))] _ _ S.store (TRl_str.2 ⟨_,rfl,(TRl_bool.2 ⟨_,rfl,(TRl_str.2 ⟨_,rfl,(TRl_str.2 ⟨_,rfl,(TRl_nil.2 ⟨rfl,rfl⟩)⟩)⟩)⟩)⟩) (by simp [i64,crPattern]; try omega))
  · rintro s h1 n1 R hk s5 hJ hret hX
    simp at hk
    obtain ⟨s1,hn1,hf,ht⟩:=hJ.fin
    simp [hk,s5,s1]
    refine ⟨TR_some ht,fun _ => ?_⟩
    refine hX _ _ _ _ ?_
    simp [hk,s5,s1]
    exact hK _ _ hn1 hf ht
set_option maxRecDepth 20000 in
set_option maxHeartbeats 1000000 in
theorem m_markCallS (l:List DCall) (k:Int) (h0:0≤k∧k+cCallS l≤4611686018427387904):Marks Tryz.prog 164 (.us 3 (l.map rUCall)) k (.us 3 ((mkCallS l k).map rUCall)) (k+cCallS l):=by
  intro h n a I K hT hI hn hK
  obtain ⟨id,rows0,I0,rfl,_,hB,_⟩:=TR_us hT
  simp only [List.length_map] at hT hB hK ⊢
  refine acall_len Tryz.func164 rfl rfl (by rw [hB]; simp) fun hlim => ?_
  refine acall_body Tryz.func164 a164_ok rfl (by simp [a164]) ?_
  simp [a164]
  unfold cCallS at *
  refine rL_forO [0] 5 l.length (fun i s h1 n1=>MJ mkrCall crCall rUCall 3 h n id I l k i (s 1) h1 n1) hlim (by simp) (by simpa using MJ.start hT) ?_ ?_
  · rintro i s h1 n1 R hi hg hk s5 hw hJ hR hret _
    simp at hk
    obtain ⟨x,ki,rows,cells,I2,s1,hki,hki2,hlen,hc0,hnd,hI2,hstart,hclose⟩:=hJ.step2 hI hn hi
    simp only [rUCall] at hc0
    simp only [crCall] at hki2
    obtain ⟨_,rfl,hc1⟩:=TRl_str.1 hc0
    obtain ⟨_,rfl,hc2⟩:=TRl_str.1 hc1
    obtain ⟨d2,len2,_,J2,_,rfl,rfl,hl2,ht2,hc3⟩:=TRl_us hc2
    have hq2:len2=(x.Args).length:=by simpa using hl2
    subst hq2
    obtain ⟨rfl,rfl⟩:=TRl_nil.1 hc3
    have S:=hstart _ (Kids.cons ht2 hnd hI2 fun hnd hI2=>Kids.nil)
    have e:=S.e
    have w0:IntKind.i64.wrap (ki+1)=ki+1:=wrap64 (by omega)
    have w1:IntKind.i64.wrap (ki+1+1)=ki+1+1:=wrap64 (by omega)
    simp [hk,s5,hi,hw,s1,e,hlen,w0,w1]
    intro _
    first | refine callD_of (k_markText (ki) (by omega)) (by simp) ?_ | refine call_of (k_markText (ki) (by omega)) (by simp) ?_
    rintro r rfl
    simp [hk,s5,hi,hw,s1,e,hlen,w0,w1]
    first | refine callD_of (k_markText (ki+1) (by omega)) (by simp) ?_ | refine call_of (k_markText (ki+1) (by omega)) (by simp) ?_
    rintro r rfl
    simp [hk,s5,hi,hw,s1,e,hlen,w0,w1]
    refine RS.mark (T1:=[]) (m_markArgS _ _ (by omega)) S.store ?_
    clear S e
    intro h2 n2 S
    have e:=S.e
    simp [hk,s5,hi,hw,s1,e,hlen,w0,w1]
    refine hR _ _ _ (by simp [hk]) (by simp) (hclose _ _ [.str (mtx (ki)),.str (mtx (ki+1)),.ref d2 0 (x.Args).length] _ _ S (TRl_str.2 ⟨_,rfl,(TRl_str.2 ⟨_,rfl,(TRl_cons (S.live.ids (_,.ref d2 0 _,J2) (by simp [mkrCall])).1 (TRl_nil.2 ⟨rfl,rfl⟩))⟩)⟩) (by simp [i64,crCall]; try omega))
  · rintro s h1 n1 R hk s5 hJ hret hX
    simp at hk
    obtain ⟨s1,hn1,hf,ht⟩:=hJ.fin
    simp [hk,s5,s1]
    refine ⟨TR_some ht,fun _ => ?_⟩
    refine hX _ _ _ _ ?_
    simp [hk,s5,s1]
    exact hK _ _ hn1 hf ht
set_option maxRecDepth 20000 in
set_option maxHeartbeats 1000000 in
theorem m_markRuleS (l:List DRule) (k:Int) (h0:0≤k∧k+cRuleS l≤4611686018427387904):Marks Tryz.prog 70 (.us 7 (l.map rURule)) k (.us 7 ((mkRuleS l k).map rURule)) (k+cRuleS l):=by
  intro h n a I K hT hI hn hK
  obtain ⟨id,rows0,I0,rfl,_,hB,_⟩:=TR_us hT
  simp only [List.length_map] at hT hB hK ⊢
  refine acall_len Tryz.func70 rfl rfl (by rw [hB]; simp) fun hlim => ?_
  refine acall_body Tryz.func70 a70_ok rfl (by simp [a70]) ?_
  simp [a70]
  unfold cRuleS at *
  refine rL_forO [0] 5 l.length (fun i s h1 n1=>MJ mkrRule crRule rURule 7 h n id I l k i (s 1) h1 n1) hlim (by simp) (by simpa using MJ.start hT) ?_ ?_
  · rintro i s h1 n1 R hi hg hk s5 hw hJ hR hret _
    simp at hk
    obtain ⟨x,ki,rows,cells,I2,s1,hki,hki2,hlen,hc0,hnd,hI2,hstart,hclose⟩:=hJ.step2 hI hn hi
    simp only [rURule] at hc0
    simp only [crRule] at hki2
    obtain ⟨_,rfl,hc1⟩:=TRl_str.1 hc0
    obtain ⟨d1,len1,_,J1,_,rfl,rfl,hl1,ht1,hc2⟩:=TRl_us hc1
    have hq1:len1=(x.Patterns).length:=by simpa using hl1
    subst hq1
    obtain ⟨d2,len2,_,J2,_,rfl,rfl,hl2,ht2,hc3⟩:=TRl_us hc2
    have hq2:len2=(x.Guards).length:=by simpa using hl2
    subst hq2
    obtain ⟨d3,len3,_,J3,_,rfl,rfl,hl3,ht3,hc4⟩:=TRl_us hc3
    have hq3:len3=(x.Calls).length:=by simpa using hl3
    subst hq3
    obtain ⟨_,rfl,hc5⟩:=TRl_bool.1 hc4
    obtain ⟨d5,len5,_,J5,_,rfl,rfl,hl5,ht5,hc6⟩:=TRl_us hc5
    have hq5:len5=(x.Result.Heads).length:=by simpa using hl5
    subst hq5
    obtain ⟨_,rfl,hc7⟩:=TRl_str.1 hc6
    obtain ⟨rfl,rfl⟩:=TRl_nil.1 hc7
    have S:=hstart _ (Kids.cons ht1 hnd hI2 fun hnd hI2=>(Kids.cons ht2 hnd hI2 fun hnd hI2=>(Kids.cons ht3 hnd hI2 fun hnd hI2=>(Kids.cons ht5 hnd hI2 fun hnd hI2=>Kids.nil))))
    have e:=S.e
    have w0:IntKind.i64.wrap (ki+1)=ki+1:=wrap64 (by omega)
    have w1:IntKind.i64.wrap (ki+1+cPatternS x.Patterns+cSumS x.Guards+cCallS x.Calls+1)=ki+1+cPatternS x.Patterns+cSumS x.Guards+cCallS x.Calls+1:=wrap64 (by omega)
    have w2:IntKind.i64.wrap (ki+1+cPatternS x.Patterns+cSumS x.Guards+cCallS x.Calls+1+cSumS x.Result.Heads+1)=ki+1+cPatternS x.Patterns+cSumS x.Guards+cCallS x.Calls+1+cSumS x.Result.Heads+1:=wrap64 (by omega)
    simp [hk,s5,hi,hw,s1,e,hlen,w0,w1,w2]
    intro _
    first | refine callD_of (k_markText (ki) (by omega)) (by simp) ?_ | refine call_of (k_markText (ki) (by omega)) (by simp) ?_
    rintro r rfl
    simp [hk,s5,hi,hw,s1,e,hlen,w0,w1,w2]
    refine RS.mark (T1:=[]) (m_markPatternS _ _ (by omega)) S.store ?_
    clear S e
    intro h2 n2 S
    have e:=S.e
    simp [hk,s5,hi,hw,s1,e,hlen,w0,w1,w2]
    refine RS.mark (T1:=[_]) (m_markSumS _ _ (by omega)) S ?_
    clear S e
    intro h2 n2 S
    have e:=S.e
    simp [hk,s5,hi,hw,s1,e,hlen,w0,w1,w2]
    refine RS.mark (T1:=[_,_]) (m_markCallS _ _ (by omega)) S ?_
    clear S e
    intro h2 n2 S
    have e:=S.e
    simp [hk,s5,hi,hw,s1,e,hlen,w0,w1,w2]
    refine RS.mark (T1:=[_,_,_]) (m_markSumS _ _ (by omega)) S.store ?_
    clear S e
    intro h2 n2 S
    have e:=S.e
    simp [hk,s5,hi,hw,s1,e,hlen,w0,w1,w2]
    first | refine callD_of (k_markText (ki+1+cPatternS x.Patterns+cSumS x.Guards+cCallS x.Calls+1+cSumS x.Result.Heads) (by omega)) (by simp) ?_ | refine call_of (k_markText (ki+1+cPatternS x.Patterns+cSumS x.Guards+cCallS x.Calls+1+cSumS x.Result.Heads) (by omega)) (by simp) ?_
    rintro r rfl
    simp [hk,s5,hi,hw,s1,e,hlen,w0,w1,w2]
    have S:=S.store (cells':=[.str (mtx (ki)),.ref d1 0 (x.Patterns).length,.ref d2 0 (x.Guards).length,.ref d3 0 (x.Calls).length,.bool ((ki+1+cPatternS x.Patterns+cSumS x.Guards+cCallS x.Calls).tmod 3==0),.ref d5 0 (x.Result.Heads).length,.str (mtx (ki+1+cPatternS x.Patterns+cSumS x.Guards+cCallS x.Calls+1+cSumS x.Result.Heads))])
    refine hR _ _ _ (by simp [hk]) (by simp) (hclose _ _ [.str (mtx (ki)),.ref d1 0 (x.Patterns).length,.ref d2 0 (x.Guards).length,.ref d3 0 (x.Calls).length,.bool ((ki+1+cPatternS x.Patterns+cSumS x.Guards+cCallS x.Calls).tmod 3==0),.ref d5 0 (x.Result.Heads).length,.str (mtx (ki+1+cPatternS x.Patterns+cSumS x.Guards+cCallS x.Calls+1+cSumS x.Result.Heads))] _ _ S (TRl_str.2 ⟨_,rfl,(TRl_cons (S.live.ids (_,.ref d1 0 _,J1) (by simp [mkrRule])).1 (TRl_cons (S.live.ids (_,.ref d2 0 _,J2) (by simp [mkrRule])).1 (TRl_cons (S.live.ids (_,.ref d3 0 _,J3) (by simp [mkrRule])).1 (TRl_bool.2 ⟨_,rfl,(TRl_cons (S.live.ids (_,.ref d5 0 _,J5) (by simp [mkrRule])).1 (TRl_str.2 ⟨_,rfl,(TRl_nil.2 ⟨rfl,rfl⟩)⟩))⟩))))⟩) (by simp [i64,crRule]; try omega))
  · rintro s h1 n1 R hk s5 hJ hret hX
    simp at hk
    obtain ⟨s1,hn1,hf,ht⟩:=hJ.fin
    simp [hk,s5,s1]
    refine ⟨TR_some ht,fun _ => ?_⟩
    refine hX _ _ _ _ ?_
    simp [hk,s5,s1]
    exact hK _ _ hn1 hf ht
set_option maxRecDepth 20000 in
set_option maxHeartbeats 1000000 in
theorem m_markProgram (x:DProgram) (k:Int) (h0:0≤k∧k+cProgram x≤4611686018427387904):Marks Tryz.prog 17 (.agg (rUProgram x)) k (.agg (rUProgram (mkProgram x k))) (k+cProgram x):=by
  intro h n a I K hT hI hn hK
  obtain ⟨cs,rfl,hc0⟩:=TR_agg.1 hT
  simp only [cProgram] at h0
  obtain ⟨d0,len0,_,J0,_,rfl,rfl,hl0,ht0,hc1⟩:=TRl_us hc0
  have hq0:len0=(x.Functions).length:=by simpa using hl0
  subst hq0
  obtain ⟨d1,len1,_,J1,_,rfl,rfl,hl1,ht1,hc2⟩:=TRl_us hc1
  have hq1:len1=(x.Rules).length:=by simpa using hl1
  subst hq1
  obtain ⟨rfl,rfl⟩:=TRl_nil.1 hc2
  refine acall_body Tryz.func17 a17_ok rfl (by simp [a17]) ?_
  simp [a17]
  have S:=RS.box (sz:=2) (cells:=[.ref d0 0 (x.Functions).length,.ref d1 0 (x.Rules).length]) (Kids.cons (ht0) hI hn fun hI hn=>(Kids.cons (ht1) hI hn fun hI hn=>Kids.nil)) hn
  refine RS.mark (T1:=[]) (m_markFunctionS x.Functions (k) (by omega)) S ?_
  clear S
  intro h2 n2 S
  have e:=S.e
  simp [e]
  refine RS.mark (T1:=[_]) (m_markRuleS x.Rules (k+cFunctionS x.Functions) (by omega)) S ?_
  clear S
  intro h2 n2 S
  have e:=S.e
  simp [e]
  have hb:=S.unbox
  have ht:TR h2 (.agg (rUProgram (mkProgram x k))) _ _:=TR_aggs.2 (TRl_cons (S.live.ids (.us 4 ((mkFunctionS x.Functions (k)).map rUFunction),.ref d0 0 (x.Functions).length,J0) (by simp)).1 (TRl_cons (S.live.ids (.us 7 ((mkRuleS x.Rules (k+cFunctionS x.Functions)).map rURule),.ref d1 0 (x.Rules).length,J1) (by simp)).1 (TRl_nil.2 ⟨rfl,rfl⟩)))
  have hk:=hK _ _ hb.1 hb.2 ht
  simp only [cProgram] at hk
  refine cast ?_ hk
  congr 2
  first | done | (simp; try omega)
end Go.Proofs.YtilcageplifbgaaGreat

/- Contracts of the marks. -/
import Derived.Test.YtilcageplifbgaaGreatKM2
namespace Go.Proofs.YtilcageplifbgaaGreat
set_option linter.all false
open Go Go.RowKit Go.Proofs
def a93 : AFn :=
⟨19, [(.t 4)], (.seq
 (.reg [⟨some 4, (.mv (.k (.int .i64 0))), no⟩]) (.seq (.seq
 (.reg [⟨some 5, (.mv (.k (.int .i64 0))), no⟩]) (.blk 0 (.loop (.seq (.seq
 (.reg [⟨some 6, (.mv (.t 5)), no⟩, ⟨some 7, (.mv (.t 0)), no⟩, ⟨some 8, (.len false (.t 7)), no⟩, ⟨some 9, (.bin .lss (.t 6) (.t 8)), no⟩]) (.cond (.t 9) .skip (.exit 0))) (.seq (.blk 1 (.seq
 (.reg [⟨some 12, (.mv (.t 0)), no⟩, ⟨some 13, (.mv (.t 5)), no⟩, ⟨some 14, (.mv (.t 1)), no⟩, ⟨some 15, (.ixa 1 (.t 12) (.t 13)), no⟩, ⟨no, (.st 1 (.t 15) (.t 14)), no⟩])
 (.reg [⟨some 16, (.mv (.t 1)), no⟩, ⟨some 17, (.bin .add (.t 16) (.k (.int .i64 1))), no⟩, ⟨some 1, (.mv (.t 17)), no⟩])))
 (.reg [⟨some 10, (.mv (.t 5)), no⟩, ⟨some 11, (.bin .add (.t 10) (.k (.int .i64 1))), no⟩, ⟨some 5, (.mv (.t 11)), no⟩])))))) (.seq
 (.reg [⟨some 18, (.mv (.t 1)), no⟩, ⟨some 4, (.mv (.t 18)), no⟩]) .ret)))⟩
theorem a93_ok : compFn Tryz.prog Tryz.f93 = some a93 := by kernel_rfl
def a121 : AFn :=
⟨21, [(.t 4)], (.seq
 (.reg [⟨some 4, (.mv (.k (.int .i64 0))), no⟩]) (.seq (.seq
 (.reg [⟨some 5, (.mv (.k (.int .i64 0))), no⟩]) (.blk 0 (.loop (.seq (.seq
 (.reg [⟨some 6, (.mv (.t 5)), no⟩, ⟨some 7, (.mv (.t 0)), no⟩, ⟨some 8, (.len false (.t 7)), no⟩, ⟨some 9, (.bin .lss (.t 6) (.t 8)), no⟩]) (.cond (.t 9) .skip (.exit 0))) (.seq (.blk 1 (.seq (.seq
 (.reg [⟨some 12, (.mv (.t 0)), no⟩, ⟨some 13, (.mv (.t 5)), no⟩, ⟨some 14, (.ixa 1 (.t 12) (.t 13)), no⟩, ⟨some 15, (.ld false 1 (.t 14)), no⟩, ⟨some 16, (.mv (.t 1)), no⟩, ⟨some 17, (.bin .neq (.t 15) (.t 16)), no⟩]) (.cond (.t 17) (.seq
 (.reg [⟨some 4, (.mv (.k (.int .i64 (-1)))), no⟩]) .ret) .skip))
 (.reg [⟨some 18, (.mv (.t 1)), no⟩, ⟨some 19, (.bin .add (.t 18) (.k (.int .i64 1))), no⟩, ⟨some 1, (.mv (.t 19)), no⟩])))
 (.reg [⟨some 10, (.mv (.t 5)), no⟩, ⟨some 11, (.bin .add (.t 10) (.k (.int .i64 1))), no⟩, ⟨some 5, (.mv (.t 11)), no⟩])))))) (.seq
 (.reg [⟨some 20, (.mv (.t 1)), no⟩, ⟨some 4, (.mv (.t 20)), no⟩]) .ret)))⟩
theorem a121_ok : compFn Tryz.prog Tryz.f121 = some a121 := by kernel_rfl
def a71 : AFn :=
⟨27, [(.t 4)], (.seq
 (.reg [⟨some 4, (.mv (.k (.int .i64 0))), no⟩]) (.seq (.seq
 (.reg [⟨some 5, (.mv (.k (.int .i64 0))), no⟩]) (.blk 0 (.loop (.seq (.seq
 (.reg [⟨some 6, (.mv (.t 5)), no⟩, ⟨some 7, (.mv (.t 0)), no⟩, ⟨some 8, (.len false (.t 7)), no⟩, ⟨some 9, (.bin .lss (.t 6) (.t 8)), no⟩]) (.cond (.t 9) .skip (.exit 0))) (.seq (.blk 1 (.seq
 (.reg [⟨some 12, (.mv (.t 0)), no⟩, ⟨some 13, (.mv (.t 5)), no⟩, ⟨some 14, (.mv (.t 1)), no⟩, ⟨some 15, (.ixa 2 (.t 12) (.t 13)), no⟩, ⟨some 16, (.fld 0 (.t 15)), no⟩, ⟨no, (.st 1 (.t 16) (.t 14)), no⟩]) (.seq
 (.reg [⟨some 17, (.mv (.t 1)), no⟩, ⟨some 18, (.bin .add (.t 17) (.k (.int .i64 1))), no⟩, ⟨some 1, (.mv (.t 18)), no⟩])
 (.reg [⟨some 19, (.mv (.t 0)), no⟩, ⟨some 20, (.mv (.t 5)), no⟩, ⟨some 21, (.ixa 2 (.t 19) (.t 20)), no⟩, ⟨some 22, (.fld 1 (.t 21)), no⟩, ⟨some 23, (.ld false 1 (.t 22)), no⟩, ⟨some 24, (.mv (.t 1)), no⟩, ⟨some 25, (.call (.k (.fn (.func 93) [] [])) [(.t 23), (.t 24)]), no⟩, ⟨some 1, (.mv (.t 25)), no⟩]))))
 (.reg [⟨some 10, (.mv (.t 5)), no⟩, ⟨some 11, (.bin .add (.t 10) (.k (.int .i64 1))), no⟩, ⟨some 5, (.mv (.t 11)), no⟩])))))) (.seq
 (.reg [⟨some 26, (.mv (.t 1)), no⟩, ⟨some 4, (.mv (.t 26)), no⟩]) .ret)))⟩
theorem a71_ok : compFn Tryz.prog Tryz.f71 = some a71 := by kernel_rfl
def a72 : AFn :=
⟨31, [(.t 4)], (.seq
 (.reg [⟨some 4, (.mv (.k (.int .i64 0))), no⟩]) (.seq (.seq
 (.reg [⟨some 5, (.mv (.k (.int .i64 0))), no⟩]) (.blk 0 (.loop (.seq (.seq
 (.reg [⟨some 6, (.mv (.t 5)), no⟩, ⟨some 7, (.mv (.t 0)), no⟩, ⟨some 8, (.len false (.t 7)), no⟩, ⟨some 9, (.bin .lss (.t 6) (.t 8)), no⟩]) (.cond (.t 9) .skip (.exit 0))) (.seq (.blk 1 (.seq (.seq
 (.reg [⟨some 12, (.mv (.t 0)), no⟩, ⟨some 13, (.mv (.t 5)), no⟩, ⟨some 14, (.ixa 2 (.t 12) (.t 13)), no⟩, ⟨some 15, (.fld 0 (.t 14)), no⟩, ⟨some 16, (.ld false 1 (.t 15)), no⟩, ⟨some 17, (.mv (.t 1)), no⟩, ⟨some 18, (.bin .neq (.t 16) (.t 17)), no⟩]) (.cond (.t 18) (.seq
 (.reg [⟨some 4, (.mv (.k (.int .i64 (-1)))), no⟩]) .ret) .skip)) (.seq
 (.reg [⟨some 19, (.mv (.t 1)), no⟩, ⟨some 20, (.bin .add (.t 19) (.k (.int .i64 1))), no⟩, ⟨some 1, (.mv (.t 20)), no⟩]) (.seq
 (.reg [⟨some 21, (.mv (.t 0)), no⟩, ⟨some 22, (.mv (.t 5)), no⟩, ⟨some 23, (.ixa 2 (.t 21) (.t 22)), no⟩, ⟨some 24, (.fld 1 (.t 23)), no⟩, ⟨some 25, (.ld false 1 (.t 24)), no⟩, ⟨some 26, (.mv (.t 1)), no⟩, ⟨some 27, (.call (.k (.fn (.func 121) [] [])) [(.t 25), (.t 26)]), no⟩, ⟨some 1, (.mv (.t 27)), no⟩]) (.seq
 (.reg [⟨some 28, (.mv (.t 1)), no⟩, ⟨some 29, (.bin .lss (.t 28) (.k (.int .i64 0))), no⟩]) (.cond (.t 29) (.seq
 (.reg [⟨some 4, (.mv (.k (.int .i64 (-1)))), no⟩]) .ret) .skip))))))
 (.reg [⟨some 10, (.mv (.t 5)), no⟩, ⟨some 11, (.bin .add (.t 10) (.k (.int .i64 1))), no⟩, ⟨some 5, (.mv (.t 11)), no⟩])))))) (.seq
 (.reg [⟨some 30, (.mv (.t 1)), no⟩, ⟨some 4, (.mv (.t 30)), no⟩]) .ret)))⟩
theorem a72_ok : compFn Tryz.prog Tryz.f72 = some a72 := by kernel_rfl
def a83 : AFn :=
⟨20, [(.t 4)], (.seq
 (.reg [⟨some 4, (.mv (.k (.int .i64 0))), no⟩]) (.seq (.seq
 (.reg [⟨some 5, (.mv (.k (.int .i64 0))), no⟩]) (.blk 0 (.loop (.seq (.seq
 (.reg [⟨some 6, (.mv (.t 5)), no⟩, ⟨some 7, (.mv (.t 0)), no⟩, ⟨some 8, (.len false (.t 7)), no⟩, ⟨some 9, (.bin .lss (.t 6) (.t 8)), no⟩]) (.cond (.t 9) .skip (.exit 0))) (.seq (.blk 1 (.seq
 (.reg [⟨some 12, (.mv (.t 0)), no⟩, ⟨some 13, (.mv (.t 5)), no⟩, ⟨some 14, (.mv (.t 1)), no⟩, ⟨some 15, (.call (.k (.fn (.func 161) [] [])) [(.t 14)]), no⟩, ⟨some 16, (.ixa 1 (.t 12) (.t 13)), no⟩, ⟨no, (.st 1 (.t 16) (.t 15)), no⟩])
 (.reg [⟨some 17, (.mv (.t 1)), no⟩, ⟨some 18, (.bin .add (.t 17) (.k (.int .i64 1))), no⟩, ⟨some 1, (.mv (.t 18)), no⟩])))
 (.reg [⟨some 10, (.mv (.t 5)), no⟩, ⟨some 11, (.bin .add (.t 10) (.k (.int .i64 1))), no⟩, ⟨some 5, (.mv (.t 11)), no⟩])))))) (.seq
 (.reg [⟨some 19, (.mv (.t 1)), no⟩, ⟨some 4, (.mv (.t 19)), no⟩]) .ret)))⟩
theorem a83_ok : compFn Tryz.prog Tryz.f83 = some a83 := by kernel_rfl
def a18 : AFn :=
⟨10, [(.t 4)], (.seq
 (.reg [⟨some 2, (.boxv (.t 0)), no⟩, ⟨some 4, (.mv (.k (.int .i64 0))), no⟩]) (.seq
 (.reg [⟨some 5, (.fld 1 (.t 2)), no⟩, ⟨some 6, (.ld false 1 (.t 5)), no⟩, ⟨some 7, (.mv (.t 1)), no⟩, ⟨some 8, (.call (.k (.fn (.func 71) [] [])) [(.t 6), (.t 7)]), no⟩, ⟨some 1, (.mv (.t 8)), no⟩]) (.seq
 (.reg [⟨some 9, (.mv (.t 1)), no⟩, ⟨some 4, (.mv (.t 9)), no⟩]) .ret)))⟩
theorem a18_ok : compFn Tryz.prog Tryz.f18 = some a18 := by kernel_rfl
def a19 : AFn :=
⟨12, [(.t 4)], (.seq
 (.reg [⟨some 2, (.boxv (.t 0)), no⟩, ⟨some 4, (.mv (.k (.int .i64 0))), no⟩]) (.seq
 (.reg [⟨some 5, (.fld 1 (.t 2)), no⟩, ⟨some 6, (.ld false 1 (.t 5)), no⟩, ⟨some 7, (.mv (.t 1)), no⟩, ⟨some 8, (.call (.k (.fn (.func 72) [] [])) [(.t 6), (.t 7)]), no⟩, ⟨some 1, (.mv (.t 8)), no⟩]) (.seq (.seq
 (.reg [⟨some 9, (.mv (.t 1)), no⟩, ⟨some 10, (.bin .lss (.t 9) (.k (.int .i64 0))), no⟩]) (.cond (.t 10) (.seq
 (.reg [⟨some 4, (.mv (.k (.int .i64 (-1)))), no⟩]) .ret) .skip)) (.seq
 (.reg [⟨some 11, (.mv (.t 1)), no⟩, ⟨some 4, (.mv (.t 11)), no⟩]) .ret))))⟩
theorem a19_ok : compFn Tryz.prog Tryz.f19 = some a19 := by kernel_rfl
set_option maxRecDepth 20000 in
set_option maxHeartbeats 1000000 in
theorem m_markIntS (l : List Int) (k : Int) (h0 : 0 ≤ k ∧ k + cIntS l ≤ 4611686018427387904) : Marks Tryz.prog 93 (.us 1 (intsR l)) k (.us 1 (intsR (mkIntS l k))) (k + cIntS l) := by
  intro h n a I K hT hI hn hK
  obtain ⟨id, rows0, I0, rfl, _, hB, _⟩ := TR_us hT
  simp only [intsR, List.length_map] at hT hB hK ⊢
  refine acall_len Tryz.func93 rfl rfl (by rw [hB]; simp) fun hlim => ?_
  refine acall_body Tryz.func93 a93_ok rfl (by simp [a93]) ?_
  simp [a93]
  unfold cIntS at *
  refine rL_forO [0] 5 l.length (fun i s h1 n1 => MJ (fun _ k => k) (fun _ => 1) (fun n => [i64 n]) 1 h n id I l k i (s 1) h1 n1) hlim (by simp) (by simpa using MJ.start hT) ?_ ?_
  · rintro i s h1 n1 R hi hg hk s5 hw hJ hR hret _
    simp at hk
    obtain ⟨x, ki, rows, cells, I2, s1, hki, hki2, hlen, hc0, hnd, hI2, hstart, hclose⟩ := hJ.step2 hI hn hi
    obtain ⟨_, rfl, hc1⟩ := TRl_int.1 hc0
    obtain ⟨rfl, rfl⟩ := TRl_nil.1 hc1
    have S := hstart _ Kids.nil
    have e := S.e
    have w0 : IntKind.i64.wrap (ki + 1) = ki + 1 := wrap64 (by omega)
    simp [hk, s5, hi, hw, s1, e, hlen, w0]
    intro _
    refine hR _ _ _ (by simp [hk]) (by simp) (hclose _ _ [.int .i64 (ki)] _ _ S.store (TRl_int.2 ⟨_, rfl, (TRl_nil.2 ⟨rfl, rfl⟩)⟩) (by simp [i64]; try omega))
  · rintro s h1 n1 R hk s5 hJ hret hX
    simp at hk
    obtain ⟨s1, hn1, hf, ht⟩ := hJ.fin
    simp [hk, s5, s1]
    refine ⟨TR_some ht, fun _ => ?_⟩
    refine hX _ _ _ _ ?_
    simp [hk, s5, s1]
    exact hK _ _ hn1 hf ht
set_option maxRecDepth 20000 in
set_option maxHeartbeats 1000000 in
theorem k_heldIntS (l : List Int) (k : Int) (h0 : 0 ≤ k ∧ k + cIntS l ≤ 4611686018427387904) : Holds Tryz.prog 121 [.sl 1 (intsR (mkIntS l k)), i64 k] (fun r => r = i64 (k + cIntS l)) := by
  refine holds_of_lim Tryz.func121 rfl rfl fun hlim => ?_
  simp at hlim
  generalize hM : mkIntS l k = M at *
  refine holds_of_run Tryz.func121 a121_ok rfl (by simp [a121]) ?_
  simp [a121]
  unfold cIntS at *
  refine rL_forO [0] 5 M.length (fun i s h1 n1 => HJ (fun _ k => k) (fun _ => 1) M l k i (s 1)) hlim (by simp) (by rw [← hM]; simp; exact HJ.start) ?_ ?_
  · rintro i s h1 n1 R hi hg hk s5 hw hJ hR hret _
    simp at hk
    obtain ⟨x, ki, s1, hki, hki2, hx, hclose⟩ := hJ.step hi
    have w0 : IntKind.i64.wrap (ki + 1) = ki + 1 := wrap64 (by omega)
    simp [hk, s5, hi, hw, s1, hx, w0]
    intro _
    first | done | refine hR _ _ _ (by simp [hk]) (by simp) (hclose _ (by simp [i64]; try omega))
  · rintro s h1 n1 R hk s5 hJ hret hX
    simp at hk
    have s1 := hJ.fin (Nat.le_refl _)
    simp [hk, s5, s1]
    first | refine hX _ _ _ _ ?_ | (intro _; refine hX _ _ _ _ ?_)
    simp [hk, s5, s1]
set_option maxRecDepth 20000 in
set_option maxHeartbeats 1000000 in
theorem m_markLinS (l : List DLin) (k : Int) (h0 : 0 ≤ k ∧ k + cLinS l ≤ 4611686018427387904) : Marks Tryz.prog 71 (.us 2 (l.map rULin)) k (.us 2 ((mkLinS l k).map rULin)) (k + cLinS l) := by
  intro h n a I K hT hI hn hK
  obtain ⟨id, rows0, I0, rfl, _, hB, _⟩ := TR_us hT
  simp only [List.length_map] at hT hB hK ⊢
  refine acall_len Tryz.func71 rfl rfl (by rw [hB]; simp) fun hlim => ?_
  refine acall_body Tryz.func71 a71_ok rfl (by simp [a71]) ?_
  simp [a71]
  unfold cLinS at *
  refine rL_forO [0] 5 l.length (fun i s h1 n1 => MJ mkrLin crLin rULin 2 h n id I l k i (s 1) h1 n1) hlim (by simp) (by simpa using MJ.start hT) ?_ ?_
  · rintro i s h1 n1 R hi hg hk s5 hw hJ hR hret _
    simp at hk
    obtain ⟨x, ki, rows, cells, I2, s1, hki, hki2, hlen, hc0, hnd, hI2, hstart, hclose⟩ := hJ.step2 hI hn hi
    simp only [rULin] at hc0
    simp only [crLin] at hki2
    obtain ⟨_, rfl, hc1⟩ := TRl_int.1 hc0
    obtain ⟨d1, len1, _, J1, _, rfl, rfl, hl1, ht1, hc2⟩ := TRl_us hc1
    have hq1 : len1 = (x.Coeffs).length := by simpa using hl1
    subst hq1
    obtain ⟨rfl, rfl⟩ := TRl_nil.1 hc2
    have S := hstart _ (Kids.cons ht1 hnd hI2 fun hnd hI2 => Kids.nil)
    have e := S.e
    have w0 : IntKind.i64.wrap (ki + 1) = ki + 1 := wrap64 (by omega)
    simp [hk, s5, hi, hw, s1, e, hlen, w0]
    intro _
    refine RS.mark (T1 := []) (m_markIntS _ _ (by omega)) S.store ?_
    clear S e
    intro h2 n2 S
    have e := S.e
    simp [hk, s5, hi, hw, s1, e, hlen, w0]
    refine hR _ _ _ (by simp [hk]) (by simp) (hclose _ _ [.int .i64 (ki), .ref d1 0 (x.Coeffs).length] _ _ S (TRl_int.2 ⟨_, rfl, (TRl_cons (S.live.ids (_, .ref d1 0 _, J1) (by simp [mkrLin])).1 (TRl_nil.2 ⟨rfl, rfl⟩))⟩) (by simp [i64, crLin]; try omega))
  · rintro s h1 n1 R hk s5 hJ hret hX
    simp at hk
    obtain ⟨s1, hn1, hf, ht⟩ := hJ.fin
    simp [hk, s5, s1]
    refine ⟨TR_some ht, fun _ => ?_⟩
    refine hX _ _ _ _ ?_
    simp [hk, s5, s1]
    exact hK _ _ hn1 hf ht
set_option maxRecDepth 20000 in
set_option maxHeartbeats 1000000 in
theorem k_heldLinS (l : List DLin) (k : Int) (h0 : 0 ≤ k ∧ k + cLinS l ≤ 4611686018427387904) : Holds Tryz.prog 72 [.sl 2 ((mkLinS l k).map rALin), i64 k] (fun r => r = i64 (k + cLinS l)) := by
  refine holds_of_lim Tryz.func72 rfl rfl fun hlim => ?_
  simp at hlim
  generalize hM : mkLinS l k = M at *
  refine holds_of_run Tryz.func72 a72_ok rfl (by simp [a72]) ?_
  simp [a72]
  unfold cLinS at *
  refine rL_forO [0] 5 M.length (fun i s h1 n1 => HJ mkrLin crLin M l k i (s 1)) hlim (by simp) (by rw [← hM]; simp; exact HJ.start) ?_ ?_
  · rintro i s h1 n1 R hi hg hk s5 hw hJ hR hret _
    simp at hk
    obtain ⟨x, ki, s1, hki, hki2, hx, hclose⟩ := hJ.step hi
    simp only [crLin] at hki2
    have w0 : IntKind.i64.wrap (ki + 1) = ki + 1 := wrap64 (by omega)
    simp [hk, s5, hi, hw, s1, hx, mkrLin, w0]
    intro _
    first | refine callD_of (k_heldIntS (x.Coeffs) (ki + 1) (by omega)) (by simp [hk, s5, hi, hw, s1, hx, mkrLin, w0]) ?_ | refine call_of (k_heldIntS (x.Coeffs) (ki + 1) (by omega)) (by simp [hk, s5, hi, hw, s1, hx, mkrLin, w0]) ?_
    rintro r rfl
    have g1 : ¬ ki + 1 + (cIntS x.Coeffs : Int) < 0 := by omega
    simp [hk, s5, hi, hw, s1, hx, mkrLin, w0, g1]
    first | done | refine hR _ _ _ (by simp [hk]) (by simp) (hclose _ (by simp [i64, crLin]; try omega))
  · rintro s h1 n1 R hk s5 hJ hret hX
    simp at hk
    have s1 := hJ.fin (Nat.le_refl _)
    simp [hk, s5, s1]
    first | refine hX _ _ _ _ ?_ | (intro _; refine hX _ _ _ _ ?_)
    simp [hk, s5, s1]
set_option maxRecDepth 20000 in
set_option maxHeartbeats 1000000 in
theorem m_markStringS (l : List Str) (k : Int) (h0 : 0 ≤ k ∧ k + cStringS l ≤ 4611686018427387904) : Marks Tryz.prog 83 (.us 1 (strsR l)) k (.us 1 (strsR (mkStringS l k))) (k + cStringS l) := by
  intro h n a I K hT hI hn hK
  obtain ⟨id, rows0, I0, rfl, _, hB, _⟩ := TR_us hT
  simp only [strsR, List.length_map] at hT hB hK ⊢
  refine acall_len Tryz.func83 rfl rfl (by rw [hB]; simp) fun hlim => ?_
  refine acall_body Tryz.func83 a83_ok rfl (by simp [a83]) ?_
  simp [a83]
  unfold cStringS at *
  refine rL_forO [0] 5 l.length (fun i s h1 n1 => MJ (fun _ k => mtx k) (fun _ => 1) (fun s => [.str s]) 1 h n id I l k i (s 1) h1 n1) hlim (by simp) (by simpa using MJ.start hT) ?_ ?_
  · rintro i s h1 n1 R hi hg hk s5 hw hJ hR hret _
    simp at hk
    obtain ⟨x, ki, rows, cells, I2, s1, hki, hki2, hlen, hc0, hnd, hI2, hstart, hclose⟩ := hJ.step2 hI hn hi
    obtain ⟨_, rfl, hc1⟩ := TRl_str.1 hc0
    obtain ⟨rfl, rfl⟩ := TRl_nil.1 hc1
    have S := hstart _ Kids.nil
    have e := S.e
    have w0 : IntKind.i64.wrap (ki + 1) = ki + 1 := wrap64 (by omega)
    simp [hk, s5, hi, hw, s1, e, hlen, w0]
    intro _
    first | refine callD_of (k_markText (ki) (by omega)) (by simp) ?_ | refine call_of (k_markText (ki) (by omega)) (by simp) ?_
    rintro r rfl
    simp [hk, s5, hi, hw, s1, e, hlen, w0]
    refine hR _ _ _ (by simp [hk]) (by simp) (hclose _ _ [.str (mtx (ki))] _ _ S.store (TRl_str.2 ⟨_, rfl, (TRl_nil.2 ⟨rfl, rfl⟩)⟩) (by simp [i64]; try omega))
  · rintro s h1 n1 R hk s5 hJ hret hX
    simp at hk
    obtain ⟨s1, hn1, hf, ht⟩ := hJ.fin
    simp [hk, s5, s1]
    refine ⟨TR_some ht, fun _ => ?_⟩
    refine hX _ _ _ _ ?_
    simp [hk, s5, s1]
    exact hK _ _ hn1 hf ht
set_option maxRecDepth 20000 in
set_option maxHeartbeats 1000000 in
theorem m_markSystem (x : DSystem) (k : Int) (h0 : 0 ≤ k ∧ k + cSystem x ≤ 4611686018427387904) : Marks Tryz.prog 18 (.agg (rUSystem x)) k (.agg (rUSystem (mkSystem x k))) (k + cSystem x) := by
  intro h n a I K hT hI hn hK
  obtain ⟨cs, rfl, hc0⟩ := TR_agg.1 hT
  simp only [cSystem] at h0
  obtain ⟨_, rfl, hc1⟩ := TRl_int.1 hc0
  obtain ⟨d1, len1, _, J1, _, rfl, rfl, hl1, ht1, hc2⟩ := TRl_us hc1
  have hq1 : len1 = (x.Rows).length := by simpa using hl1
  subst hq1
  obtain ⟨rfl, rfl⟩ := TRl_nil.1 hc2
  refine acall_body Tryz.func18 a18_ok rfl (by simp [a18]) ?_
  simp [a18]
  have S := RS.box (sz := 2) (cells := [.int .i64 (x.N), .ref d1 0 (x.Rows).length]) (Kids.cons (ht1) hI hn fun hI hn => Kids.nil) hn
  refine RS.mark (T1 := []) (m_markLinS x.Rows (k) (by omega)) S ?_
  clear S
  intro h2 n2 S
  have e := S.e
  simp [e]
  have hb := S.unbox
  have ht : TR h2 (.agg (rUSystem (mkSystem x k))) _ _ := TR_aggs.2 (TRl_int.2 ⟨_, rfl, (TRl_cons (S.live.ids (.us 2 ((mkLinS x.Rows (k)).map rULin), .ref d1 0 (x.Rows).length, J1) (by simp)).1 (TRl_nil.2 ⟨rfl, rfl⟩))⟩)
  have hk := hK _ _ hb.1 hb.2 ht
  simp only [cSystem] at hk
  refine cast ?_ hk
  congr 2
  first | done | (simp; try omega)
set_option maxRecDepth 20000 in
set_option maxHeartbeats 1000000 in
theorem k_heldSystem (x : DSystem) (k : Int) (h0 : 0 ≤ k ∧ k + cSystem x ≤ 4611686018427387904) : Holds Tryz.prog 19 [.agg (rASystem (mkSystem x k)), i64 k] (fun r => r = i64 (k + cSystem x)) := by
  refine holds_of_run Tryz.func19 a19_ok rfl (by simp [a19]) ?_
  simp [a19, rASystem, mkSystem]
  simp only [cSystem] at h0
  first | refine callD_of (k_heldLinS x.Rows (k) (by omega)) (by simp [rASystem, mkSystem]) ?_ | refine call_of (k_heldLinS x.Rows (k) (by omega)) (by simp [rASystem, mkSystem]) ?_
  rintro r rfl
  have g1 : ¬ k + (cLinS x.Rows : Int) < 0 := by omega
  simp [g1]
  first | done | (simp [cSystem]; try omega)
end Go.Proofs.YtilcageplifbgaaGreat

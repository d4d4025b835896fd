/- Contracts of the marks. -/
import Derived.Test.YtoejpoioleffpaaM2
namespace Go.Proofs.Ytoejpoioleffpaa
set_option linter.all false
open Go Go.RowKit Go.Proofs
def a47 : AFn :=
⟨19, [(.t 4)], (.seq 
 (.reg [⟨some 4, (.mv (.k (.int .i64 0))), no⟩]) (.seq (.seq 
 (.reg [⟨some 5, (.mv (.k (.int .i64 0))), no⟩]) (.blk 0 (.loop (.seq (.seq 
 (.reg [⟨some 6, (.mv (.t 5)), no⟩, ⟨some 7, (.mv (.t 0)), no⟩, ⟨some 8, (.len false (.t 7)), no⟩, ⟨some 9, (.bin .lss (.t 6) (.t 8)), no⟩]) (.cond (.t 9) .skip (.exit 0))) (.seq (.blk 1 (.seq 
 (.reg [⟨some 12, (.mv (.t 0)), no⟩, ⟨some 13, (.mv (.t 5)), no⟩, ⟨some 14, (.mv (.t 1)), no⟩, ⟨some 15, (.ixa 1 (.t 12) (.t 13)), no⟩, ⟨no, (.st 1 (.t 15) (.t 14)), no⟩]) 
 (.reg [⟨some 16, (.mv (.t 1)), no⟩, ⟨some 17, (.bin .add (.t 16) (.k (.int .i64 1))), no⟩, ⟨some 1, (.mv (.t 17)), no⟩]))) 
 (.reg [⟨some 10, (.mv (.t 5)), no⟩, ⟨some 11, (.bin .add (.t 10) (.k (.int .i64 1))), no⟩, ⟨some 5, (.mv (.t 11)), no⟩])))))) (.seq 
 (.reg [⟨some 18, (.mv (.t 1)), no⟩, ⟨some 4, (.mv (.t 18)), no⟩]) .ret)))⟩
theorem a47_ok : compFn Try.prog Try.f47 = some a47 := by kernel_rfl

def a48 : AFn :=
⟨21, [(.t 4)], (.seq 
 (.reg [⟨some 4, (.mv (.k (.int .i64 0))), no⟩]) (.seq (.seq 
 (.reg [⟨some 5, (.mv (.k (.int .i64 0))), no⟩]) (.blk 0 (.loop (.seq (.seq 
 (.reg [⟨some 6, (.mv (.t 5)), no⟩, ⟨some 7, (.mv (.t 0)), no⟩, ⟨some 8, (.len false (.t 7)), no⟩, ⟨some 9, (.bin .lss (.t 6) (.t 8)), no⟩]) (.cond (.t 9) .skip (.exit 0))) (.seq (.blk 1 (.seq (.seq 
 (.reg [⟨some 12, (.mv (.t 0)), no⟩, ⟨some 13, (.mv (.t 5)), no⟩, ⟨some 14, (.ixa 1 (.t 12) (.t 13)), no⟩, ⟨some 15, (.ld false 1 (.t 14)), no⟩, ⟨some 16, (.mv (.t 1)), no⟩, ⟨some 17, (.bin .neq (.t 15) (.t 16)), no⟩]) (.cond (.t 17) (.seq 
 (.reg [⟨some 4, (.mv (.k (.int .i64 (-1)))), no⟩]) .ret) .skip)) 
 (.reg [⟨some 18, (.mv (.t 1)), no⟩, ⟨some 19, (.bin .add (.t 18) (.k (.int .i64 1))), no⟩, ⟨some 1, (.mv (.t 19)), no⟩]))) 
 (.reg [⟨some 10, (.mv (.t 5)), no⟩, ⟨some 11, (.bin .add (.t 10) (.k (.int .i64 1))), no⟩, ⟨some 5, (.mv (.t 11)), no⟩])))))) (.seq 
 (.reg [⟨some 20, (.mv (.t 1)), no⟩, ⟨some 4, (.mv (.t 20)), no⟩]) .ret)))⟩
theorem a48_ok : compFn Try.prog Try.f48 = some a48 := by kernel_rfl

def a16 : AFn :=
⟨27, [(.t 4)], (.seq 
 (.reg [⟨some 4, (.mv (.k (.int .i64 0))), no⟩]) (.seq (.seq 
 (.reg [⟨some 5, (.mv (.k (.int .i64 0))), no⟩]) (.blk 0 (.loop (.seq (.seq 
 (.reg [⟨some 6, (.mv (.t 5)), no⟩, ⟨some 7, (.mv (.t 0)), no⟩, ⟨some 8, (.len false (.t 7)), no⟩, ⟨some 9, (.bin .lss (.t 6) (.t 8)), no⟩]) (.cond (.t 9) .skip (.exit 0))) (.seq (.blk 1 (.seq 
 (.reg [⟨some 12, (.mv (.t 0)), no⟩, ⟨some 13, (.mv (.t 5)), no⟩, ⟨some 14, (.mv (.t 1)), no⟩, ⟨some 15, (.ixa 2 (.t 12) (.t 13)), no⟩, ⟨some 16, (.fld 0 (.t 15)), no⟩, ⟨no, (.st 1 (.t 16) (.t 14)), no⟩]) (.seq 
 (.reg [⟨some 17, (.mv (.t 1)), no⟩, ⟨some 18, (.bin .add (.t 17) (.k (.int .i64 1))), no⟩, ⟨some 1, (.mv (.t 18)), no⟩]) 
 (.reg [⟨some 19, (.mv (.t 0)), no⟩, ⟨some 20, (.mv (.t 5)), no⟩, ⟨some 21, (.ixa 2 (.t 19) (.t 20)), no⟩, ⟨some 22, (.fld 1 (.t 21)), no⟩, ⟨some 23, (.ld false 1 (.t 22)), no⟩, ⟨some 24, (.mv (.t 1)), no⟩, ⟨some 25, (.call (.k (.fn (.func 47) [] [])) [(.t 23), (.t 24)]), no⟩, ⟨some 1, (.mv (.t 25)), no⟩])))) 
 (.reg [⟨some 10, (.mv (.t 5)), no⟩, ⟨some 11, (.bin .add (.t 10) (.k (.int .i64 1))), no⟩, ⟨some 5, (.mv (.t 11)), no⟩])))))) (.seq 
 (.reg [⟨some 26, (.mv (.t 1)), no⟩, ⟨some 4, (.mv (.t 26)), no⟩]) .ret)))⟩
theorem a16_ok : compFn Try.prog Try.f16 = some a16 := by kernel_rfl

def a17 : AFn :=
⟨31, [(.t 4)], (.seq 
 (.reg [⟨some 4, (.mv (.k (.int .i64 0))), no⟩]) (.seq (.seq 
 (.reg [⟨some 5, (.mv (.k (.int .i64 0))), no⟩]) (.blk 0 (.loop (.seq (.seq 
 (.reg [⟨some 6, (.mv (.t 5)), no⟩, ⟨some 7, (.mv (.t 0)), no⟩, ⟨some 8, (.len false (.t 7)), no⟩, ⟨some 9, (.bin .lss (.t 6) (.t 8)), no⟩]) (.cond (.t 9) .skip (.exit 0))) (.seq (.blk 1 (.seq (.seq 
 (.reg [⟨some 12, (.mv (.t 0)), no⟩, ⟨some 13, (.mv (.t 5)), no⟩, ⟨some 14, (.ixa 2 (.t 12) (.t 13)), no⟩, ⟨some 15, (.fld 0 (.t 14)), no⟩, ⟨some 16, (.ld false 1 (.t 15)), no⟩, ⟨some 17, (.mv (.t 1)), no⟩, ⟨some 18, (.bin .neq (.t 16) (.t 17)), no⟩]) (.cond (.t 18) (.seq 
 (.reg [⟨some 4, (.mv (.k (.int .i64 (-1)))), no⟩]) .ret) .skip)) (.seq 
 (.reg [⟨some 19, (.mv (.t 1)), no⟩, ⟨some 20, (.bin .add (.t 19) (.k (.int .i64 1))), no⟩, ⟨some 1, (.mv (.t 20)), no⟩]) (.seq 
 (.reg [⟨some 21, (.mv (.t 0)), no⟩, ⟨some 22, (.mv (.t 5)), no⟩, ⟨some 23, (.ixa 2 (.t 21) (.t 22)), no⟩, ⟨some 24, (.fld 1 (.t 23)), no⟩, ⟨some 25, (.ld false 1 (.t 24)), no⟩, ⟨some 26, (.mv (.t 1)), no⟩, ⟨some 27, (.call (.k (.fn (.func 48) [] [])) [(.t 25), (.t 26)]), no⟩, ⟨some 1, (.mv (.t 27)), no⟩]) (.seq 
 (.reg [⟨some 28, (.mv (.t 1)), no⟩, ⟨some 29, (.bin .lss (.t 28) (.k (.int .i64 0))), no⟩]) (.cond (.t 29) (.seq 
 (.reg [⟨some 4, (.mv (.k (.int .i64 (-1)))), no⟩]) .ret) .skip)))))) 
 (.reg [⟨some 10, (.mv (.t 5)), no⟩, ⟨some 11, (.bin .add (.t 10) (.k (.int .i64 1))), no⟩, ⟨some 5, (.mv (.t 11)), no⟩])))))) (.seq 
 (.reg [⟨some 30, (.mv (.t 1)), no⟩, ⟨some 4, (.mv (.t 30)), no⟩]) .ret)))⟩
theorem a17_ok : compFn Try.prog Try.f17 = some a17 := by kernel_rfl


set_option maxRecDepth 20000 in
set_option maxHeartbeats 1000000 in
theorem m_markIntS (l : List Int) (k : Int) (h0 : 0 ≤ k ∧ k + cIntS l ≤ 4611686018427387904) : Marks Try.prog 47 (.us 1 (intsR l)) k (.us 1 (intsR (mkIntS l k))) (k + cIntS l) := by
  intro h n a I K hT hI hn hK
  obtain ⟨id, rows0, I0, rfl, _, hB, _⟩ := TR_us hT
  simp only [intsR, List.length_map] at hT hB hK ⊢
  refine acall_len Try.func47 rfl rfl (by rw [hB]; simp) fun hlim => ?_
  refine acall_body Try.func47 a47_ok rfl (by simp [a47]) ?_
  simp [a47]
  unfold cIntS at *
  refine rL_forO [0] 5 l.length (fun i s h1 n1 => MJ (fun _ k => k) (fun _ => 1) (fun n => [i64 n]) 1 h n id I l k i (s 1) h1 n1) hlim (by simp) (by simpa using MJ.start hT) ?_ ?_
  · rintro i s h1 n1 R hi hg hk s5 hw hJ hR hret _
    simp at hk
    obtain ⟨x, ki, rows, cells, I2, s1, hki, hki2, hlen, hc0, hnd, hI2, hstart, hclose⟩ := hJ.step2 hI hn hi
    obtain ⟨_, rfl, hc1⟩ := TRl_int.1 hc0
    obtain ⟨rfl, rfl⟩ := TRl_nil.1 hc1
    have S := hstart _ Kids.nil
    have e := S.e
    have w0 : IntKind.i64.wrap (ki + 1) = ki + 1 := wrap64 (by omega)
    simp [hk, s5, hi, hw, s1, e, hlen, w0]
    intro _
    refine hR _ _ _ (by simp [hk]) (by simp) (hclose _ _ [.int .i64 (ki)] _ _ S.store (TRl_int.2 ⟨_, rfl, (TRl_nil.2 ⟨rfl, rfl⟩)⟩) (by simp [i64]; try omega))
  · rintro s h1 n1 R hk s5 hJ hret hX
    simp at hk
    obtain ⟨s1, hn1, hf, ht⟩ := hJ.fin
    simp [hk, s5, s1]
    refine ⟨TR_some ht, fun _ => ?_⟩
    refine hX _ _ _ _ ?_
    simp [hk, s5, s1]
    exact hK _ _ hn1 hf ht

set_option maxRecDepth 20000 in
set_option maxHeartbeats 1000000 in
theorem k_heldIntS (l : List Int) (k : Int) (h0 : 0 ≤ k ∧ k + cIntS l ≤ 4611686018427387904) : Holds Try.prog 48 [.sl 1 (intsR (mkIntS l k)), i64 k] (fun r => r = i64 (k + cIntS l)) := by
  refine holds_of_lim Try.func48 rfl rfl fun hlim => ?_
  simp at hlim
  generalize hM : mkIntS l k = M at *
  refine holds_of_run Try.func48 a48_ok rfl (by simp [a48]) ?_
  simp [a48]
  unfold cIntS at *
  refine rL_forO [0] 5 M.length (fun i s h1 n1 => HJ (fun _ k => k) (fun _ => 1) M l k i (s 1)) hlim (by simp) (by rw [← hM]; simp; exact HJ.start) ?_ ?_
  · rintro i s h1 n1 R hi hg hk s5 hw hJ hR hret _
    simp at hk
    obtain ⟨x, ki, s1, hki, hki2, hx, hclose⟩ := hJ.step hi
    have w0 : IntKind.i64.wrap (ki + 1) = ki + 1 := wrap64 (by omega)
    simp [hk, s5, hi, hw, s1, hx, w0]
    intro _
    first | done | refine hR _ _ _ (by simp [hk]) (by simp) (hclose _ (by simp [i64]; try omega))
  · rintro s h1 n1 R hk s5 hJ hret hX
    simp at hk
    have s1 := hJ.fin (Nat.le_refl _)
    simp [hk, s5, s1]
    first | refine hX _ _ _ _ ?_ | (intro _; refine hX _ _ _ _ ?_)
    simp [hk, s5, s1]

set_option maxRecDepth 20000 in
set_option maxHeartbeats 1000000 in
theorem m_markLinS (l : List DLin) (k : Int) (h0 : 0 ≤ k ∧ k + cLinS l ≤ 4611686018427387904) : Marks Try.prog 16 (.us 2 (l.map rULin)) k (.us 2 ((mkLinS l k).map rULin)) (k + cLinS l) := by
  intro h n a I K hT hI hn hK
  obtain ⟨id, rows0, I0, rfl, _, hB, _⟩ := TR_us hT
  simp only [List.length_map] at hT hB hK ⊢
  refine acall_len Try.func16 rfl rfl (by rw [hB]; simp) fun hlim => ?_
  refine acall_body Try.func16 a16_ok rfl (by simp [a16]) ?_
  simp [a16]
  unfold cLinS at *
  refine rL_forO [0] 5 l.length (fun i s h1 n1 => MJ mkrLin crLin rULin 2 h n id I l k i (s 1) h1 n1) hlim (by simp) (by simpa using MJ.start hT) ?_ ?_
  · rintro i s h1 n1 R hi hg hk s5 hw hJ hR hret _
    simp at hk
    obtain ⟨x, ki, rows, cells, I2, s1, hki, hki2, hlen, hc0, hnd, hI2, hstart, hclose⟩ := hJ.step2 hI hn hi
    simp only [rULin] at hc0
    simp only [crLin] at hki2
    obtain ⟨_, rfl, hc1⟩ := TRl_int.1 hc0
    obtain ⟨d1, len1, _, J1, _, rfl, rfl, hl1, ht1, hc2⟩ := TRl_us hc1
    have hq1 : len1 = (x.Coeffs).length := by simpa using hl1
    subst hq1
    obtain ⟨rfl, rfl⟩ := TRl_nil.1 hc2
    have S := hstart _ (Kids.cons ht1 hnd hI2 fun hnd hI2 => Kids.nil)
    have e := S.e
    have w0 : IntKind.i64.wrap (ki + 1) = ki + 1 := wrap64 (by omega)
    simp [hk, s5, hi, hw, s1, e, hlen, w0]
    intro _
    refine RS.mark (T1 := []) (m_markIntS _ _ (by omega)) S.store ?_
    clear S e
    intro h2 n2 S
    have e := S.e
    simp [hk, s5, hi, hw, s1, e, hlen, w0]
    refine hR _ _ _ (by simp [hk]) (by simp) (hclose _ _ [.int .i64 (ki), .ref d1 0 (x.Coeffs).length] _ _ S (TRl_int.2 ⟨_, rfl, (TRl_cons (S.live.ids (_, .ref d1 0 _, J1) (by simp [mkrLin])).1 (TRl_nil.2 ⟨rfl, rfl⟩))⟩) (by simp [i64, crLin]; try omega))
  · rintro s h1 n1 R hk s5 hJ hret hX
    simp at hk
    obtain ⟨s1, hn1, hf, ht⟩ := hJ.fin
    simp [hk, s5, s1]
    refine ⟨TR_some ht, fun _ => ?_⟩
    refine hX _ _ _ _ ?_
    simp [hk, s5, s1]
    exact hK _ _ hn1 hf ht

set_option maxRecDepth 20000 in
set_option maxHeartbeats 1000000 in
theorem k_heldLinS (l : List DLin) (k : Int) (h0 : 0 ≤ k ∧ k + cLinS l ≤ 4611686018427387904) : Holds Try.prog 17 [.sl 2 ((mkLinS l k).map rALin), i64 k] (fun r => r = i64 (k + cLinS l)) := by
  refine holds_of_lim Try.func17 rfl rfl fun hlim => ?_
  simp at hlim
  generalize hM : mkLinS l k = M at *
  refine holds_of_run Try.func17 a17_ok rfl (by simp [a17]) ?_
  simp [a17]
  unfold cLinS at *
  refine rL_forO [0] 5 M.length (fun i s h1 n1 => HJ mkrLin crLin M l k i (s 1)) hlim (by simp) (by rw [← hM]; simp; exact HJ.start) ?_ ?_
  · rintro i s h1 n1 R hi hg hk s5 hw hJ hR hret _
    simp at hk
    obtain ⟨x, ki, s1, hki, hki2, hx, hclose⟩ := hJ.step hi
    simp only [crLin] at hki2
    have w0 : IntKind.i64.wrap (ki + 1) = ki + 1 := wrap64 (by omega)
    simp [hk, s5, hi, hw, s1, hx, mkrLin, w0]
    intro _
    first | refine callD_of (k_heldIntS (x.Coeffs) (ki + 1) (by omega)) (by simp [hk, s5, hi, hw, s1, hx, mkrLin, w0]) ?_ | refine call_of (k_heldIntS (x.Coeffs) (ki + 1) (by omega)) (by simp [hk, s5, hi, hw, s1, hx, mkrLin, w0]) ?_
    rintro r rfl
    have g1 : ¬ ki + 1 + (cIntS x.Coeffs : Int) < 0 := by omega
    simp [hk, s5, hi, hw, s1, hx, mkrLin, w0, g1]
    first | done | refine hR _ _ _ (by simp [hk]) (by simp) (hclose _ (by simp [i64, crLin]; try omega))
  · rintro s h1 n1 R hk s5 hJ hret hX
    simp at hk
    have s1 := hJ.fin (Nat.le_refl _)
    simp [hk, s5, s1]
    first | refine hX _ _ _ _ ?_ | (intro _; refine hX _ _ _ _ ?_)
    simp [hk, s5, s1]

end Go.Proofs.Ytoejpoioleffpaa

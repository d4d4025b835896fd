/- The law of instantiated expressions. -/
import Derived.Test.YtoejpoioleffpaaZ3
import Derived.Test.YtoejpoioleffpaaQI
namespace Go.Proofs.Ytoejpoioleffpaa
set_option linter.all false
open Go Go.RowKit Go.Proofs
def a33 : AFn :=
⟨26, [(.t 4)], (.seq 
 (.reg [⟨some 4, (.mv (.k (.bool false))), no⟩]) (.seq (.seq 
 (.reg [⟨some 6, (.mv (.t 0)), no⟩, ⟨some 7, (.len false (.t 6)), no⟩, ⟨some 8, (.mv (.t 1)), no⟩, ⟨some 9, (.len false (.t 8)), no⟩, ⟨some 10, (.bin .neq (.t 7) (.t 9)), no⟩]) (.cond (.t 10) (.seq 
 (.reg [⟨some 4, (.mv (.k (.bool false))), no⟩]) .ret) .skip)) (.seq (.seq 
 (.reg [⟨some 5, (.mv (.k (.int .i64 0))), no⟩]) (.blk 0 (.loop (.seq (.seq 
 (.reg [⟨some 11, (.mv (.t 5)), no⟩, ⟨some 12, (.mv (.t 0)), no⟩, ⟨some 13, (.len false (.t 12)), no⟩, ⟨some 14, (.bin .lss (.t 11) (.t 13)), no⟩]) (.cond (.t 14) .skip (.exit 0))) (.seq (.blk 1 (.seq (.draw (.op ⟨some 17, (.mv (.t 0)), no⟩ (.op ⟨some 18, (.mv (.t 5)), no⟩ (.op ⟨some 19, (.ixa 1 (.t 17) (.t 18)), no⟩ (.op ⟨some 20, (.ld false 1 (.t 19)), no⟩ (.op ⟨some 21, (.mv (.t 1)), no⟩ (.op ⟨some 22, (.mv (.t 5)), no⟩ (.op ⟨some 23, (.ixa 1 (.t 21) (.t 22)), no⟩ (.op ⟨some 24, (.ld false 1 (.t 23)), no⟩ (.op ⟨some 25, (.bin .neq (.t 20) (.t 24)), no⟩ .fin)))))))))) (.cond (.t 25) (.seq 
 (.reg [⟨some 4, (.mv (.k (.bool false))), no⟩]) .ret) .skip))) 
 (.reg [⟨some 15, (.mv (.t 5)), no⟩, ⟨some 16, (.bin .add (.t 15) (.k (.int .i64 1))), no⟩, ⟨some 5, (.mv (.t 16)), no⟩])))))) (.seq 
 (.reg [⟨some 4, (.mv (.k (.bool true))), no⟩]) .ret))))⟩
theorem a33_ok : compFn Try.prog Try.f33 = some a33 := by kernel_rfl

def a10 : AFn :=
⟨17, [(.t 4)], (.seq 
 (.reg [⟨some 2, (.boxv (.t 0)), no⟩, ⟨some 3, (.boxv (.t 1)), no⟩, ⟨some 4, (.mv (.k (.bool false))), no⟩]) (.seq 
 (.reg [⟨some 5, (.fld 0 (.t 2)), no⟩, ⟨some 6, (.ld false 1 (.t 5)), no⟩, ⟨some 7, (.fld 0 (.t 3)), no⟩, ⟨some 8, (.ld false 1 (.t 7)), no⟩, ⟨some 9, (.bin .eql (.t 6) (.t 8)), no⟩, ⟨some 10, (.mv (.t 9)), no⟩, ⟨some 11, (.fld 1 (.t 2)), (some (10, true))⟩, ⟨some 12, (.ld false 1 (.t 11)), (some (10, true))⟩, ⟨some 13, (.fld 1 (.t 3)), (some (10, true))⟩, ⟨some 14, (.ld false 1 (.t 13)), (some (10, true))⟩, ⟨some 15, (.call (.k (.fn (.func 33) [] [])) [(.t 12), (.t 14)]), (some (10, true))⟩, ⟨some 16, (.pick (.t 10) (.t 15) (.k (.bool false))), no⟩, ⟨some 4, (.mv (.t 16)), no⟩]) .ret))⟩
theorem a10_ok : compFn Try.prog Try.f10 = some a10 := by kernel_rfl

def a6 : AFn :=
⟨6, [(.t 2)], (.seq 
 (.reg [⟨some 2, (.mv (.k (.bool false))), no⟩]) (.seq 
 (.reg [⟨some 3, (.mv (.t 0)), no⟩, ⟨some 4, (.len false (.t 3)), no⟩, ⟨some 5, (.bin .gtr (.t 4) (.k (.int .i64 1048576))), no⟩, ⟨some 2, (.mv (.t 5)), no⟩]) .ret))⟩
theorem a6_ok : compFn Try.prog Try.f6 = some a6 := by kernel_rfl

def a11 : AFn :=
⟨20, [(.t 4)], (.seq 
 (.reg [⟨some 4, (.mv (.k (.int .i64 0))), no⟩]) (.seq (.seq 
 (.reg [⟨some 5, (.mv (.t 1)), no⟩, ⟨some 6, (.mv (.t 0)), no⟩, ⟨some 7, (.len false (.t 6)), no⟩, ⟨some 8, (.bin .lss (.t 5) (.t 7)), no⟩]) (.cond (.t 8) (.seq 
 (.reg [⟨some 9, (.mv (.t 0)), no⟩, ⟨some 10, (.mv (.t 1)), no⟩, ⟨some 11, (.ixa 1 (.t 9) (.t 10)), no⟩, ⟨some 12, (.ld false 1 (.t 11)), no⟩, ⟨some 13, (.cvi .i64 (.t 12)), no⟩, ⟨some 4, (.mv (.t 13)), no⟩]) .ret) .skip)) (.seq 
 (.reg [⟨some 14, (.mv (.t 1)), no⟩, ⟨some 15, (.bin .mul (.t 14) (.k (.int .i64 7))), no⟩, ⟨some 16, (.mv (.t 0)), no⟩, ⟨some 17, (.len false (.t 16)), no⟩, ⟨some 18, (.bin .add (.t 15) (.t 17)), no⟩, ⟨some 19, (.bin .rem (.t 18) (.k (.int .i64 256))), no⟩, ⟨some 4, (.mv (.t 19)), no⟩]) .ret)))⟩
theorem a11_ok : compFn Try.prog Try.f11 = some a11 := by kernel_rfl

def a2 : AFn :=
⟨1, [], 
 (.reg [⟨some 0, (.call (.k (.fn (.func 1) [] [])) []), no⟩])⟩
theorem a2_ok : compFn Try.prog Try.f2 = some a2 := by kernel_rfl


abbrev eqD {α : Type} [DecidableEq α] (a b : List α) : Bool := eqL (fun x y => decide (x = y)) a b
set_option maxRecDepth 20000 in
set_option maxHeartbeats 4000000 in
theorem ks_l1Ints (a b : List Int) : Holds Try.prog 33 [.sl 1 (intsR a), .sl 1 (intsR b)] (fun r => r = .bool (decide (a = b))) := by
  rw [← eqL_dec]
  refine holds_of_run Try.func33 a33_ok rfl (by simp [a33]) ?_
  simp [a33]
  intro hl1 hl2
  by_cases hl : a.length = b.length
  case neg => rw [eqL_length hl]; simp; exact fun h => absurd (by omega) hl
  refine ⟨fun h => absurd (by omega) h, fun _ => ?_⟩
  refine rL_forS [0, 1] 5 a.length (fun i _ => eqD (a.drop i) (b.drop i) = eqD a b) hl1 (by simp) (by simp) ?_ ?_
  · rintro i s h R hi hg hk s5 hw hJ hh hR hret _
    simp at hk
    have hib : i < b.length := by omega
    rw [List.drop_eq_getElem_cons hi, List.drop_eq_getElem_cons hib] at hJ
    simp only [eqD, eqL] at hJ
    by_cases he : a[i] = b[i]
    · simp only [he, decide_true, Bool.true_and] at hJ
      simp [hk, s5, hi, hg, hib, he, hw]
      intro _
      exact hR _ (by simp [hk]) (by simp) hJ
    · simp only [he, decide_false, Bool.false_and] at hJ
      simp [hk, s5, hi, hg, hib, he]
      intro _
      refine hret _ _ _ ?_
      simp [← hJ]
  · rintro s h R hk s5 hJ hh hret hX
    simp at hk
    rw [List.drop_eq_nil_of_le (Nat.le_refl _), List.drop_eq_nil_of_le (by omega)] at hJ
    simp only [eqD, eqL] at hJ
    simp [hk, s5]
    intro _
    refine hX _ _ ?_
    simp [← hJ]


set_option maxRecDepth 20000 in
set_option maxHeartbeats 4000000 in
theorem ks_EqualLin (x y : DLin) : Holds Try.prog 10 [.agg (rALin x), .agg (rALin y)] (fun r => r = .bool (decide (x = y))) := by
  by_cases h0 : x.Const = y.Const
  case neg =>
    refine holds_of_run Try.func10 a10_ok rfl (by simp [a10]) ?_
    simp [a10, rALin, h0]
    try exact fun e => h0 (by rw [e])
  refine holds_of_run Try.func10 a10_ok rfl (by simp [a10]) ?_
  simp [a10, rALin, h0]
  first | refine callD_of (ks_l1Ints x.Coeffs y.Coeffs) (by simp) ?_ | refine call_of (ks_l1Ints x.Coeffs y.Coeffs) (by simp) ?_ | refine callD_of (ks_l1Ints x.Coeffs y.Coeffs) rfl ?_ | refine call_of (ks_l1Ints x.Coeffs y.Coeffs) rfl ?_
  rintro r rfl
  by_cases h1 : x.Coeffs = y.Coeffs
  case neg => simp [h1]; try exact fun e => h1 (by rw [e])
  simp [h1]
  cases x; cases y; simp_all
def li0 : AC := (.reg [⟨some 2, (.mv (.k (.bool false))), no⟩])
def li1 : AC := (.seq  (.reg [⟨some 19, (.mv (.t 0)), no⟩, ⟨some 20, (.call (.k (.fn (.func 6) [] [])) [(.t 19)]), no⟩]) (.cond (.t 20) (.seq  (.reg [⟨some 2, (.mv (.k (.bool true))), no⟩]) .ret) .skip))
def li2 : AC := (.reg [⟨some 22, (.mv (.t 0)), no⟩, ⟨some 23, (.call (.k (.fn (.func 7) [] [])) [(.t 22)]), no⟩, ⟨some 21, (.mv (.t 23)), no⟩, ⟨some 24, (.ext (.t 21) 0), no⟩, ⟨some 25, (.ext (.t 21) 1), no⟩, ⟨some 3, (.box [(.int .i64 0), (.nil 1)]), no⟩, ⟨no, (.st 2 (.t 3) (.t 24)), no⟩, ⟨some 4, (.mv (.t 25)), no⟩])
def li3 : AC := (.reg [⟨some 27, (.ld true 2 (.t 3)), no⟩, ⟨some 28, (.mv (.t 4)), no⟩, ⟨some 29, (.call (.k (.fn (.func 8) [] [])) [(.t 27), (.t 28)]), no⟩, ⟨some 26, (.mv (.t 29)), no⟩, ⟨some 30, (.ext (.t 26) 0), no⟩, ⟨some 31, (.ext (.t 26) 1), no⟩, ⟨some 5, (.box [(.int .i64 0), (.nil 1)]), no⟩, ⟨no, (.st 2 (.t 5) (.t 30)), no⟩, ⟨some 6, (.mv (.t 31)), no⟩])
def li4 : AC := (.reg [⟨some 33, (.ld true 2 (.t 3)), no⟩, ⟨some 34, (.mv (.t 4)), no⟩, ⟨some 35, (.call (.k (.fn (.func 9) [] [])) [(.t 33), (.t 34)]), no⟩, ⟨some 32, (.mv (.t 35)), no⟩, ⟨some 36, (.ext (.t 32) 0), no⟩, ⟨some 37, (.ext (.t 32) 1), no⟩, ⟨some 7, (.box [(.int .i64 0), (.nil 1)]), no⟩, ⟨no, (.st 2 (.t 7) (.t 36)), no⟩, ⟨some 8, (.mv (.t 37)), no⟩])
def li5 : AC := (.seq  (.reg [⟨some 38, (.mv (.t 6)), no⟩, ⟨some 39, (.mv (.t 8)), no⟩, ⟨some 40, (.beq true (.t 38) (.t 39)), no⟩, ⟨some 41, (.mv (.t 40)), no⟩, ⟨some 42, (.ld true 2 (.t 5)), (some (41, false))⟩, ⟨some 43, (.ld true 2 (.t 7)), (some (41, false))⟩, ⟨some 44, (.call (.k (.fn (.func 10) [] [])) [(.t 42), (.t 43)]), (some (41, false))⟩, ⟨some 45, (.un .not (.t 44)), (some (41, false))⟩, ⟨some 46, (.pick (.t 41) (.k (.bool true)) (.t 45)), no⟩]) (.cond (.t 46) (.seq  (.reg [⟨some 2, (.mv (.k (.bool false))), no⟩]) .ret) .skip))
def li6 : AC := (.seq  (.reg [⟨some 47, (.mv (.t 6)), no⟩, ⟨some 48, (.un .not (.t 47)), no⟩, ⟨some 49, (.mv (.t 48)), no⟩, ⟨some 50, (.mv (.t 4)), (some (49, false))⟩, ⟨some 51, (.len false (.t 50)), (some (49, false))⟩, ⟨some 52, (.bin .eql (.t 51) (.k (.int .i64 0))), (some (49, false))⟩, ⟨some 53, (.pick (.t 49) (.k (.bool true)) (.t 52)), no⟩]) (.cond (.t 53) (.seq  (.reg [⟨some 2, (.mv (.k (.bool true))), no⟩]) .ret) .skip))
def li7 : AC := (.reg [⟨some 54, (.bsl 1 []), no⟩, ⟨some 9, (.mv (.t 54)), no⟩])
def li8 : AC := (.seq  (.reg [⟨some 10, (.mv (.k (.int .i64 0))), no⟩]) (.blk 0 (.loop (.seq (.seq  (.reg [⟨some 55, (.mv (.t 10)), no⟩, ⟨some 56, (.mv (.t 4)), no⟩, ⟨some 57, (.ixa 2 (.t 56) (.k (.int .i64 0))), no⟩, ⟨some 58, (.fld 1 (.t 57)), no⟩, ⟨some 59, (.ld false 1 (.t 58)), no⟩, ⟨some 60, (.len false (.t 59)), no⟩, ⟨some 61, (.bin .lss (.t 55) (.t 60)), no⟩]) (.cond (.t 61) .skip (.exit 0))) (.seq (.blk 1  (.reg [⟨some 64, (.mv (.t 9)), no⟩, ⟨some 65, (.mv (.t 0)), no⟩, ⟨some 66, (.mv (.t 10)), no⟩, ⟨some 67, (.call (.k (.fn (.func 11) [] [])) [(.t 65), (.t 66)]), no⟩, ⟨some 68, (.bin .rem (.t 67) (.k (.int .i64 9))), no⟩, ⟨some 69, (.bin .sub (.t 68) (.k (.int .i64 2))), no⟩, ⟨some 70, (.bsl 1 [(.t 69)]), no⟩, ⟨some 71, (.app 8 1 (.t 64) (.t 70)), no⟩, ⟨some 9, (.mv (.t 71)), no⟩]))  (.reg [⟨some 62, (.mv (.t 10)), no⟩, ⟨some 63, (.bin .add (.t 62) (.k (.int .i64 1))), no⟩, ⟨some 10, (.mv (.t 63)), no⟩]))))))
def li9 : AC := (.reg [⟨some 72, (.bsl 1 []), no⟩, ⟨some 11, (.mv (.t 72)), no⟩])
def li10 : AC := (.seq  (.reg [⟨some 12, (.mv (.k (.int .i64 0))), no⟩]) (.blk 2 (.loop (.seq (.seq  (.reg [⟨some 73, (.mv (.t 12)), no⟩, ⟨some 74, (.mv (.t 4)), no⟩, ⟨some 75, (.len false (.t 74)), no⟩, ⟨some 76, (.bin .lss (.t 73) (.t 75)), no⟩]) (.cond (.t 76) .skip (.exit 2))) (.seq (.blk 3 (.seq  (.reg [⟨some 80, (.mv (.t 4)), no⟩, ⟨some 81, (.mv (.t 12)), no⟩, ⟨some 82, (.ixa 2 (.t 80) (.t 81)), no⟩, ⟨some 83, (.ld true 2 (.t 82)), no⟩, ⟨some 84, (.mv (.t 9)), no⟩, ⟨some 85, (.call (.k (.fn (.func 12) [] [])) [(.t 83), (.t 84)]), no⟩, ⟨some 79, (.mv (.t 85)), no⟩, ⟨some 86, (.ext (.t 79) 0), no⟩, ⟨some 87, (.ext (.t 79) 1), no⟩, ⟨some 13, (.mv (.t 86)), no⟩, ⟨some 14, (.mv (.t 87)), no⟩])  (.reg [⟨some 88, (.mv (.t 11)), no⟩, ⟨some 89, (.mv (.t 13)), no⟩, ⟨some 90, (.bsl 1 [(.t 89)]), no⟩, ⟨some 91, (.app 8 1 (.t 88) (.t 90)), no⟩, ⟨some 11, (.mv (.t 91)), no⟩])))  (.reg [⟨some 77, (.mv (.t 12)), no⟩, ⟨some 78, (.bin .add (.t 77) (.k (.int .i64 1))), no⟩, ⟨some 12, (.mv (.t 78)), no⟩]))))))
def li11 : AC := (.reg [⟨some 93, (.ld true 2 (.t 5)), no⟩, ⟨some 94, (.mv (.t 9)), no⟩, ⟨some 95, (.call (.k (.fn (.func 12) [] [])) [(.t 93), (.t 94)]), no⟩, ⟨some 92, (.mv (.t 95)), no⟩, ⟨some 96, (.ext (.t 92) 0), no⟩, ⟨some 97, (.ext (.t 92) 1), no⟩, ⟨some 15, (.mv (.t 96)), no⟩, ⟨some 16, (.mv (.t 97)), no⟩])
def li12 : AC := (.reg [⟨some 99, (.ld true 2 (.t 3)), no⟩, ⟨some 100, (.mv (.t 11)), no⟩, ⟨some 101, (.call (.k (.fn (.func 12) [] [])) [(.t 99), (.t 100)]), no⟩, ⟨some 98, (.mv (.t 101)), no⟩, ⟨some 102, (.ext (.t 98) 0), no⟩, ⟨some 103, (.ext (.t 98) 1), no⟩, ⟨some 17, (.mv (.t 102)), no⟩, ⟨some 18, (.mv (.t 103)), no⟩])
def li13 : AC := (.reg [⟨some 104, (.mv (.t 16)), no⟩, ⟨some 105, (.un .not (.t 104)), no⟩, ⟨some 106, (.mv (.t 105)), no⟩, ⟨some 107, (.mv (.t 18)), (some (106, false))⟩, ⟨some 108, (.un .not (.t 107)), (some (106, false))⟩, ⟨some 109, (.pick (.t 106) (.k (.bool true)) (.t 108)), no⟩, ⟨some 110, (.mv (.t 109)), no⟩, ⟨some 111, (.mv (.t 15)), (some (110, false))⟩, ⟨some 112, (.mv (.t 17)), (some (110, false))⟩, ⟨some 113, (.bin .eql (.t 111) (.t 112)), (some (110, false))⟩, ⟨some 114, (.pick (.t 110) (.k (.bool true)) (.t 113)), no⟩, ⟨some 2, (.mv (.t 114)), no⟩])
def a3 : AFn := ⟨115, [(.t 2)], (.seq li0 (.seq li1 (.seq li2 (.seq li3 (.seq li4 (.seq li5 (.seq li6 (.seq li7 (.seq li8 (.seq li9 (.seq li10 (.seq li11 (.seq li12 (.seq li13 .ret))))))))))))))⟩
theorem a3_ok : compFn Try.prog Try.f3 = some a3 := by kernel_rfl


theorem optLin_eq' (o : Option DLin) : optLin o = .tup [.agg (rULin (o.getD lin0)), .bool o.isSome] := by cases o <;> rfl
theorem k_Inst_o (d : DLin) (bs : List DLin) : Holds Try.prog 8 [.agg (rALin d), .sl 2 (bs.map rALin)] (fun r => r = .tup [.agg (rULin ((instLin d bs).getD lin0)), .bool (instLin d bs).isSome]) := by
  have h := k_InstantiateLin d bs
  rw [optLin_eq'] at h
  exact h
theorem ks_Inst_o (d : DLin) (bs : List DLin) : Holds Try.prog 9 [.agg (rALin d), .sl 2 (bs.map rALin)] (fun r => r = .tup [.agg (rULin ((instLin d bs).getD lin0)), .bool (instLin d bs).isSome]) := by
  have h := ks_InstantiateLin d bs
  rw [optLin_eq'] at h
  exact h
set_option maxRecDepth 20000
set_option maxHeartbeats 2000000
theorem k_big (l : List UInt8) : Holds Try.prog 6 [.sl 1 (codeR l)] (fun r => r = .bool (decide (1048576 < l.length))) := by
  refine holds_of_run Try.func6 a6_ok rfl (by simp [a6]) ?_
  simp [a6, codeR_len]
  intro _
  by_cases h : 1048576 < l.length
  · have h' : (1048576 : Int) < l.length := by omega
    simp [h, h']
  · have h' : ¬ (1048576 : Int) < l.length := by omega
    simp [h, h']
theorem k_at0 (l : List UInt8) (hl : l.length ≤ 1048576) (i : Nat) (hi : i ≤ 1048576) : Holds Try.prog 11 [.sl 1 (codeR l), i64 i] (fun r => ∃ v : Int, 0 ≤ v ∧ v < 256 ∧ r = i64 v) := by
  refine holds_of_run Try.func11 a11_ok rfl (by simp [a11]) ?_
  simp [a11, codeR_len]
  intro _
  refine ⟨fun h => ⟨h, ?_⟩, fun _ _ => ?_⟩
  · have hg : (codeR l)[i]? = some [.int .u8 (l[i]).toNat] := by simp [codeR, h]
    have := (l[i]).toNat_lt
    simp [hg]
    rw [wrap64 (by omega)]
    omega
  · rw [wrap64 (x := (i : Int) * 7) (by omega), wrap64 (by omega)]
    exact mod_in (by omega) (by omega)
theorem li8_run {l : List UInt8} (hl : l.length ≤ 1048576) {ks : List Kt} {s : Env} {h : Heap} {n N : Nat} {Q : Fin} {bs : List DLin} (hN : N ≤ 9) (h1 : h 1 = some ⟨false, 2, bs.map rULin⟩) (hz : ∃ hp : 0 < bs.length, bs[0].Coeffs.length = N) (s0 : s 0 = .sl 1 (codeR l)) (s4 : s 4 = .ref 1 0 bs.length) (s9 : s 9 = .ref 7 0 0) (h7 : h 7 = some ⟨false, 1, []⟩) (hn : 7 < n)
    (hK : ∀ s' h2 n2 a vs, s' 3 = s 3 → s' 4 = s 4 → s' 5 = s 5 → s' 9 = .ref a 0 vs.length → h2 a = some ⟨false, 1, intsR vs⟩ → vs.length = N → vs.all fits = true → 6 < a → a < n2 → (∀ j, j ≤ 6 → h2 j = h j) → kont Try.prog ks .normal s' h2 n2 Q) : rC Try.prog li8 ks s h n Q := by
  obtain ⟨hp, hz⟩ := hz
  simp [li8]
  refine rL_forO [0, 3, 4, 5] 10 N (fun i s h' n' => ∃ (a : Nat) (vs : List Int), s 9 = .ref a 0 i ∧ h' a = some ⟨false, 1, intsR vs⟩ ∧ vs.length = i ∧ vs.all fits = true ∧ 6 < a ∧ a < n' ∧ ∀ j, j ≤ 6 → h' j = h j) (by unfold LIM; omega) (by simp) ⟨7, [], by simp [s9], by simp [h7, intsR], rfl, rfl, by omega, by omega, fun _ _ => rfl⟩ ?_ ?_
  · rintro i st h' n' R hi hg hk s10 hw ⟨a, vs, k1, k2, k3, k4, k5, k6, k7⟩ hR _ _
    simp at hk
    have e1 := k7 1 (by omega)
    rw [h1] at e1
    have hc : ((bs[0]'hp).Coeffs.length : Int) = N := by omega
    have fr : ∀ j, j ≤ 6 → ¬ j = n' ∧ ¬ j = n' + 1 ∧ ¬ j = a := fun j _ => by omega
    have ea : ¬ a = n' ∧ ¬ n' = a ∧ ¬ a = n' + 1 := by omega
    simp [hk, s10, s0, s4, e1, hp, rULin, hz, hi]
    intro _
    refine call_of (k_at0 l hl i (by omega)) (by simp) ?_
    rintro r ⟨v, v0, v1, rfl⟩
    have hv : (v.tmod 9 - 2) = v % 9 - 2 := by rw [Int.tmod_eq_emod_of_nonneg v0]
    have hw2 : IntKind.i64.wrap (v.tmod 9 - 2) = v % 9 - 2 := by rw [hv]; exact wrap64 (by omega)
    simp [hk, s10, k1, k2, k3, ea, hw, hw2]
    refine ⟨by unfold LIM; omega, hR _ _ _ (by simp [hk]) (by simp) ⟨n' + 1, vs ++ [v % 9 - 2], by simp, ?_, by simp [k3], ?_, by omega, by omega, fun j hj => by simp [fr j hj, k7 j hj]⟩⟩
    · have ht : List.take i (vs.map fun n => [AV.int .i64 n]) = vs.map fun n => [AV.int .i64 n] := List.take_of_length_le (by simp [k3])
      simp [intsR, ht]
    · simp [k4, fits, inR]
      omega
  · rintro st h' n' R hk s10 ⟨a, vs, k1, k2, k3, k4, k5, k6, k7⟩ hret hX
    simp at hk
    have e1 := k7 1 (by omega)
    rw [h1] at e1
    simp [hk, s10, s4, e1, hp, rULin, hz]
    intro _
    refine hX _ _ _ _ ?_
    simp
    exact hK _ _ _ a vs (by simp [hk]) (by simp [hk]) (by simp [hk]) (by simp [k1, k3]) k2 k3 k4 k5 k6 k7
theorem li10_run {ks : List Kt} {s : Env} {h : Heap} {n av b0 : Nat} {Q : Fin} {bs : List DLin} {vs : List Int} (hbl : bs.length ≤ 9) (h1 : h 1 = some ⟨false, 2, bs.map rULin⟩) (s4 : s 4 = .ref 1 0 bs.length) (s9 : s 9 = .ref av 0 vs.length) (hv : h av = some ⟨false, 1, intsR vs⟩) (s11 : s 11 = .ref b0 0 0) (hb0 : h b0 = some ⟨false, 1, []⟩) (hn : 6 < av ∧ av < b0 ∧ b0 < n)
    (hK : ∀ s' h2 n2 a, s' 3 = s 3 → s' 4 = s 4 → s' 5 = s 5 → s' 9 = s 9 → s' 11 = .ref a 0 bs.length → h2 a = some ⟨false, 1, intsR (bs.map fun x => (evalO x vs).1)⟩ → av < a → a < n2 → (∀ j, j ≤ av → h2 j = h j) → kont Try.prog ks .normal s' h2 n2 Q) : rC Try.prog li10 ks s h n Q := by
  simp [li10]
  refine rL_forO [3, 4, 5, 9] 12 bs.length (fun i s h' n' => ∃ (a : Nat) (ws : List Int), s 11 = .ref a 0 i ∧ h' a = some ⟨false, 1, intsR ws⟩ ∧ ws = (bs.take i).map (fun x => (evalO x vs).1) ∧ av < a ∧ a < n' ∧ ∀ j, j ≤ av → h' j = h j) (by unfold LIM; omega) (by simp) ⟨b0, [], by simp [s11], by simp [hb0, intsR], by simp, by omega, by omega, fun _ _ => rfl⟩ ?_ ?_
  · rintro i st h' n' R hi hg hk s12 hw ⟨a, ws, k1, k2, k3, k4, k5, k6⟩ hR _ _
    simp at hk
    have e1 := k6 1 (by omega)
    rw [h1] at e1
    have e2 := k6 av (by omega)
    rw [hv] at e2
    have hwl : ws.length = i := by rw [k3]; simp; omega
    have fr : ∀ j, j ≤ av → ¬ j = n' ∧ ¬ j = n' + 1 ∧ ¬ j = a := fun j _ => by omega
    have ea : ¬ a = n' ∧ ¬ n' = a ∧ ¬ a = n' + 1 := by omega
    simp [hk, s12, s4, e1, hi, rULin]
    intro _
    have ht2 : List.take vs.length (intsR vs) = intsR vs := List.take_of_length_le (by simp)
    first | refine callD_of (ks_EvalLin (bs[i]'hi) vs) (by simp [rALin, hk, s9, e2, ht2]) ?_ | refine call_of (ks_EvalLin (bs[i]'hi) vs) (by simp [rALin, hk, s9, e2, ht2]) ?_ | refine callD_of (ks_EvalLin (bs[i]'hi) vs) rfl ?_ | refine call_of (ks_EvalLin (bs[i]'hi) vs) rfl ?_
    rintro r rfl
    simp [hk, s12, pairA, k1, k2, ea, hw]
    refine ⟨by simp [hwl], by unfold LIM; omega, hR _ _ _ (by simp [hk]) (by simp) ⟨n' + 1, ws ++ [(evalO bs[i] vs).1], by simp, ?_, ?_, by omega, by omega, fun j hj => by simp [fr j hj, k6 j hj]⟩⟩
    · have ht : List.take i (ws.map fun n => [AV.int .i64 n]) = ws.map fun n => [AV.int .i64 n] := List.take_of_length_le (by simp [hwl])
      simp [intsR, ht]
    · rw [k3, List.take_succ_eq_append_getElem hi, List.map_append]; rfl
  · rintro st h' n' R hk s12 ⟨a, ws, k1, k2, k3, k4, k5, k6⟩ hret hX
    simp at hk
    have e1 := k6 1 (by omega)
    rw [h1] at e1
    simp [hk, s12, s4, e1]
    intro _
    refine hX _ _ _ _ ?_
    simp
    exact hK _ _ _ a (by simp [hk]) (by simp [hk]) (by simp [hk]) (by simp [hk]) k1 (by rw [k2, k3]; simp) k4 k5 k6
theorem law_FnInstantiated (l : List UInt8) : Holds Try.prog 3 [.sl 1 (codeR l)] (fun x => x = .bool true) := by
  refine holds_of_run Try.func3 a3_ok rfl (by simp [a3]) ?_
  simp [a3, li0, li1]
  first | refine callD_of (k_big l) (by simp) ?_ | refine call_of (k_big l) (by simp) ?_ | refine callD_of (k_big l) rfl ?_ | refine call_of (k_big l) rfl ?_
  rintro r rfl
  by_cases hl : 1048576 < l.length
  · simp [hl]
  have hl' : l.length ≤ 1048576 := by omega
  simp [hl, li2]
  refine call_of (d_InstantiateLin l hl') (by simp) ?_
  rintro r ⟨d, bs, hd, hbl, hb, rfl⟩
  simp [li3, rULin]
  have tk : ∀ {α β : Type} (f : α → β) (l : List α) (k : Nat), l.length = k → List.take k (l.map f) = l.map f := fun f l k h => List.take_of_length_le (by simp [h])
  refine call_of (k_Inst_o d bs) (by simp [rALin, tk]) ?_
  rintro r rfl
  simp [li4, rULin]
  refine call_of (ks_Inst_o d bs) (by simp [rALin, tk]) ?_
  rintro r rfl
  generalize hI : instLin d bs = I
  generalize hX : I.getD lin0 = X
  simp [li5, rULin]
  cases hS : I.isSome
  · try simp
    first | refine callD_of (ks_EqualLin X X) (by simp [rALin, tk]) ?_ | refine call_of (ks_EqualLin X X) (by simp [rALin, tk]) ?_ | refine callD_of (ks_EqualLin X X) rfl ?_ | refine call_of (ks_EqualLin X X) rfl ?_
    rintro r rfl
    simp [li6]
  first | refine callD_of (ks_EqualLin X X) (by simp [rALin, tk]) ?_ | refine call_of (ks_EqualLin X X) (by simp [rALin, tk]) ?_ | refine callD_of (ks_EqualLin X X) rfl ?_ | refine call_of (ks_EqualLin X X) rfl ?_
  rintro r rfl
  have hIx : I = some X := by cases I <;> simp_all
  subst hIx
  simp [li6]
  intro _
  by_cases hbs : bs = []
  · subst hbs
    simp
  have hp : 0 < bs.length := List.length_pos_iff.2 hbs
  simp [hbs, li7]
  refine li8_run (l := l) hl' (N := argN bs) (bs := bs) ?_ (by simp) ?_ (by simp) (by simp) (by simp) (by simp) (by omega) ?_
  · cases bs with
    | nil => simp at hp
    | cons b0 r => exact hb b0 (by simp)
  · cases bs with
    | nil => simp at hp
    | cons b0 r => exact ⟨by simp, rfl⟩
  intro s1 h1 n1 a vs e3 e4 e5 e9 ha hvl hvf h6 han hfr
  simp at e3 e4 e5
  simp [li9]
  have fa : ¬ a = n1 ∧ ¬ n1 = a := by omega
  have f1 := hfr 1 (by omega)
  simp at f1
  refine li10_run (bs := bs) (vs := vs) (av := a) (b0 := n1) hbl (by simp [f1, show ¬ 1 = n1 by omega]) (by simp [e4]) (by simp [e9]) (by simp [fa, ha]) (by simp) (by simp) (by omega) ?_
  intro s2 h2 n2 a2 g3 g4 g5 g9 g11 ha2 haa han2 hfr2
  simp at g3 g4 g5 g9
  rw [e3] at g3; rw [e4] at g4; rw [e5] at g5; rw [e9] at g9
  have hh : ∀ j, j ≤ 6 → h2 j = h1 j := fun j hj => by rw [hfr2 j (by omega)]; simp [show ¬ j = n1 by omega]
  have q0 : h2 0 = some ⟨false, 1, intsR d.Coeffs⟩ := by rw [hh 0 (by omega), hfr 0 (by omega)]; simp
  have q2 : h2 2 = some ⟨true, 2, [[.int .i64 d.Const, .ref 0 0 d.Coeffs.length]]⟩ := by rw [hh 2 (by omega), hfr 2 (by omega)]; simp
  have q3 : h2 3 = some ⟨false, 1, intsR X.Coeffs⟩ := by rw [hh 3 (by omega), hfr 3 (by omega)]; simp
  have q4 : h2 4 = some ⟨true, 2, [[.int .i64 X.Const, .ref 3 0 X.Coeffs.length]]⟩ := by rw [hh 4 (by omega), hfr 4 (by omega)]; simp
  have qa : h2 a = some ⟨false, 1, intsR vs⟩ := by rw [hfr2 a (by omega)]; simp [fa, ha]
  have ti : ∀ (x : List Int) (k : Nat), x.length = k → List.take k (intsR x) = intsR x := fun x k hk => List.take_of_length_le (by simp [hk])
  simp [li11, g5, g9, q4]
  first | refine callD_of (ks_EvalLin X vs) (by simp [rALin, q3, qa, ti]) ?_ | refine call_of (ks_EvalLin X vs) (by simp [rALin, q3, qa, ti]) ?_ | refine callD_of (ks_EvalLin X vs) rfl ?_ | refine call_of (ks_EvalLin X vs) rfl ?_
  rintro r rfl
  simp [pairA, li12, g3, g11, q2]
  first | refine callD_of (ks_EvalLin d (bs.map fun x => (evalO x vs).1)) (by simp [rALin, q0, ha2, ti]) ?_ | refine call_of (ks_EvalLin d (bs.map fun x => (evalO x vs).1)) (by simp [rALin, q0, ha2, ti]) ?_ | refine callD_of (ks_EvalLin d (bs.map fun x => (evalO x vs).1)) rfl ?_ | refine call_of (ks_EvalLin d (bs.map fun x => (evalO x vs).1)) rfl ?_
  rintro r rfl
  simp [pairA, li13]
  have hsame := inst_same hI (vs := vs) (by rw [hvl]) hvf
  cases h1' : (evalO X vs).2
  · simp
  cases h2' : (evalO d (bs.map fun x => (evalO x vs).1)).2
  · simp
  simp
  exact hsame h1' h2'
end Go.Proofs.Ytoejpoioleffpaa

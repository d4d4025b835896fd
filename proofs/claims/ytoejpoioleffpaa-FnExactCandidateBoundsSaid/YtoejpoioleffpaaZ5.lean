/- Contracts: comparing and sorting lists of numbers. -/
import Derived.Test.YtoejpoioleffpaaZ0
import Derived.Test.YtoejpoioleffpaaR49
namespace Go.Proofs.Ytoejpoioleffpaa
set_option linter.all false
open Go Go.RowKit Go.Proofs
def a63 : AFn :=
⟨6, [(.t 2)], (.seq 
 (.reg [⟨some 2, (.mv (.k (.bool false))), no⟩]) (.seq 
 (.reg [⟨some 3, (.mv (.t 0)), no⟩, ⟨some 4, (.mv (.t 0)), no⟩, ⟨some 5, (.bin .neq (.t 3) (.t 4)), no⟩, ⟨some 2, (.mv (.t 5)), no⟩]) .ret))⟩
theorem a63_ok : compFn Try.prog Try.f63 = some a63 := by kernel_rfl

def a42 : AFn :=
⟨20, [(.t 4)], (.seq 
 (.reg [⟨some 4, (.mv (.k (.int .i64 0))), no⟩]) (.seq 
 (.reg [⟨some 7, (.mv (.t 0)), no⟩, ⟨some 8, (.call (.k (.fn (.func 63) [] [])) [(.t 7)]), no⟩, ⟨some 5, (.mv (.t 8)), no⟩]) (.seq 
 (.reg [⟨some 9, (.mv (.t 1)), no⟩, ⟨some 10, (.call (.k (.fn (.func 63) [] [])) [(.t 9)]), no⟩, ⟨some 6, (.mv (.t 10)), no⟩]) (.seq (.seq 
 (.reg [⟨some 11, (.mv (.t 5)), no⟩]) (.cond (.t 11) (.seq (.seq 
 (.reg [⟨some 12, (.mv (.t 6)), no⟩]) (.cond (.t 12) (.seq 
 (.reg [⟨some 4, (.mv (.k (.int .i64 0))), no⟩]) .ret) .skip)) (.seq 
 (.reg [⟨some 4, (.mv (.k (.int .i64 (-1)))), no⟩]) .ret)) .skip)) (.seq (.seq 
 (.reg [⟨some 13, (.mv (.t 6)), no⟩]) (.cond (.t 13) (.seq 
 (.reg [⟨some 4, (.mv (.k (.int .i64 1))), no⟩]) .ret) .skip)) (.seq (.seq 
 (.reg [⟨some 14, (.mv (.t 0)), no⟩, ⟨some 15, (.mv (.t 1)), no⟩, ⟨some 16, (.bin .lss (.t 14) (.t 15)), no⟩]) (.cond (.t 16) (.seq 
 (.reg [⟨some 4, (.mv (.k (.int .i64 (-1)))), no⟩]) .ret) .skip)) (.seq (.seq 
 (.reg [⟨some 17, (.mv (.t 0)), no⟩, ⟨some 18, (.mv (.t 1)), no⟩, ⟨some 19, (.bin .gtr (.t 17) (.t 18)), no⟩]) (.cond (.t 19) (.seq 
 (.reg [⟨some 4, (.mv (.k (.int .i64 1))), no⟩]) .ret) .skip)) (.seq 
 (.reg [⟨some 4, (.mv (.k (.int .i64 0))), no⟩]) .ret))))))))⟩
theorem a42_ok : compFn Try.prog Try.f42 = some a42 := by kernel_rfl

def a44 : AFn :=
⟨36, [(.t 4)], (.seq 
 (.reg [⟨some 4, (.mv (.k (.int .i64 0))), no⟩]) (.seq (.seq 
 (.reg [⟨some 9, (.mv (.t 0)), no⟩, ⟨some 10, (.len false (.t 9)), no⟩, ⟨some 11, (.mv (.k (.int .i64 0))), no⟩]) (.blk 0 (.loop (.seq 
 (.reg [⟨some 12, (.bin .lss (.t 11) (.t 10)), no⟩]) (.seq (.cond (.t 12) .skip (.exit 0)) (.seq (.blk 1 (.seq 
 (.reg [⟨some 13, (.mv (.t 11)), no⟩, ⟨some 14, (.ixa 1 (.t 9) (.t 11)), no⟩, ⟨some 15, (.ld false 1 (.t 14)), no⟩, ⟨some 5, (.mv (.t 13)), no⟩, ⟨some 6, (.mv (.t 15)), no⟩]) (.seq (.seq 
 (.reg [⟨some 16, (.mv (.t 5)), no⟩, ⟨some 17, (.mv (.t 1)), no⟩, ⟨some 18, (.len false (.t 17)), no⟩, ⟨some 19, (.bin .geq (.t 16) (.t 18)), no⟩]) (.cond (.t 19) (.seq 
 (.reg [⟨some 4, (.mv (.k (.int .i64 1))), no⟩]) .ret) .skip)) (.seq 
 (.reg [⟨some 20, (.mv (.t 1)), no⟩, ⟨some 21, (.mv (.t 5)), no⟩, ⟨some 22, (.ixa 1 (.t 20) (.t 21)), no⟩, ⟨some 23, (.ld false 1 (.t 22)), no⟩, ⟨some 7, (.mv (.t 23)), no⟩]) (.seq 
 (.reg [⟨some 24, (.mv (.t 6)), no⟩, ⟨some 25, (.mv (.t 7)), no⟩, ⟨some 26, (.call (.k (.fn (.func 42) [] [])) [(.t 24), (.t 25)]), no⟩, ⟨some 8, (.mv (.t 26)), no⟩]) (.seq 
 (.reg [⟨some 27, (.mv (.t 8)), no⟩, ⟨some 28, (.bin .neq (.t 27) (.k (.int .i64 0))), no⟩]) (.cond (.t 28) (.seq 
 (.reg [⟨some 29, (.mv (.t 8)), no⟩, ⟨some 4, (.mv (.t 29)), no⟩]) .ret) .skip))))))) 
 (.reg [⟨some 30, (.bin .add (.t 11) (.k (.int .i64 1))), no⟩, ⟨some 11, (.mv (.t 30)), no⟩]))))))) (.seq (.seq 
 (.reg [⟨some 31, (.mv (.t 0)), no⟩, ⟨some 32, (.len false (.t 31)), no⟩, ⟨some 33, (.mv (.t 1)), no⟩, ⟨some 34, (.len false (.t 33)), no⟩, ⟨some 35, (.bin .lss (.t 32) (.t 34)), no⟩]) (.cond (.t 35) (.seq 
 (.reg [⟨some 4, (.mv (.k (.int .i64 (-1)))), no⟩]) .ret) .skip)) (.seq 
 (.reg [⟨some 4, (.mv (.k (.int .i64 0))), no⟩]) .ret))))⟩
theorem a44_ok : compFn Try.prog Try.f44 = some a44 := by kernel_rfl

def a41 : AFn :=
⟨18, [(.t 2)], (.seq 
 (.reg [⟨some 2, (.mv (.k (.int .i64 0))), no⟩]) (.seq 
 (.reg [⟨some 3, (.mv (.k (.int .i64 0))), no⟩]) (.seq (.seq 
 (.reg [⟨some 6, (.mv (.t 0)), no⟩, ⟨some 7, (.len false (.t 6)), no⟩, ⟨some 8, (.mv (.k (.int .i64 0))), no⟩]) (.blk 0 (.loop (.seq 
 (.reg [⟨some 9, (.bin .lss (.t 8) (.t 7)), no⟩]) (.seq (.cond (.t 9) .skip (.exit 0)) (.seq (.blk 1 (.seq 
 (.reg [⟨some 10, (.ixa 1 (.t 6) (.t 8)), no⟩, ⟨some 11, (.ld false 1 (.t 10)), no⟩, ⟨some 5, (.mv (.t 11)), no⟩]) (.seq 
 (.reg [⟨some 12, (.mv (.t 5)), no⟩, ⟨some 13, (.mv (.t 3)), no⟩, ⟨some 14, (.bin .neq (.t 12) (.t 13)), no⟩]) (.cond (.t 14) (.seq 
 (.reg [⟨some 15, (.mv (.t 5)), no⟩, ⟨some 2, (.mv (.t 15)), no⟩]) .ret) .skip)))) 
 (.reg [⟨some 16, (.bin .add (.t 8) (.k (.int .i64 1))), no⟩, ⟨some 8, (.mv (.t 16)), no⟩]))))))) (.seq 
 (.reg [⟨some 17, (.mv (.t 3)), no⟩, ⟨some 2, (.mv (.t 17)), no⟩]) .ret))))⟩
theorem a41_ok : compFn Try.prog Try.f41 = some a41 := by kernel_rfl

def a43 : AFn :=
⟨18, [(.t 2)], (.seq 
 (.reg [⟨some 2, (.mv (.k (.int .i64 0))), no⟩]) (.seq 
 (.reg [⟨some 3, (.mv (.k (.int .i64 0))), no⟩]) (.seq (.seq 
 (.reg [⟨some 6, (.mv (.t 0)), no⟩, ⟨some 7, (.len false (.t 6)), no⟩, ⟨some 8, (.mv (.k (.int .i64 0))), no⟩]) (.blk 0 (.loop (.seq 
 (.reg [⟨some 9, (.bin .lss (.t 8) (.t 7)), no⟩]) (.seq (.cond (.t 9) .skip (.exit 0)) (.seq (.blk 1 (.seq 
 (.reg [⟨some 10, (.ixa 1 (.t 6) (.t 8)), no⟩, ⟨some 11, (.ld false 1 (.t 10)), no⟩, ⟨some 5, (.mv (.t 11)), no⟩]) (.seq 
 (.reg [⟨some 12, (.mv (.t 5)), no⟩, ⟨some 13, (.bin .neq (.t 12) (.k (.int .i64 0))), no⟩]) (.cond (.t 13) 
 (.reg [⟨some 14, (.mv (.t 3)), no⟩, ⟨some 15, (.bin .add (.t 14) (.k (.int .i64 1))), no⟩, ⟨some 3, (.mv (.t 15)), no⟩]) .skip)))) 
 (.reg [⟨some 16, (.bin .add (.t 8) (.k (.int .i64 1))), no⟩, ⟨some 8, (.mv (.t 16)), no⟩]))))))) (.seq 
 (.reg [⟨some 17, (.mv (.t 3)), no⟩, ⟨some 2, (.mv (.t 17)), no⟩]) .ret))))⟩
theorem a43_ok : compFn Try.prog Try.f43 = some a43 := by kernel_rfl

def a51 : AFn :=
⟨17, [(.t 2)], (.seq 
 (.reg [⟨some 2, (.mv (.k (.int .i64 0))), no⟩]) (.seq 
 (.reg [⟨some 3, (.mv (.k (.int .i64 0))), no⟩]) (.seq (.seq 
 (.reg [⟨some 6, (.mv (.t 0)), no⟩, ⟨some 7, (.len false (.t 6)), no⟩, ⟨some 8, (.mv (.k (.int .i64 0))), no⟩]) (.blk 0 (.loop (.seq 
 (.reg [⟨some 9, (.bin .lss (.t 8) (.t 7)), no⟩]) (.seq (.cond (.t 9) .skip (.exit 0)) (.seq (.blk 1 (.seq 
 (.reg [⟨some 10, (.ixa 1 (.t 6) (.t 8)), no⟩, ⟨some 11, (.ld false 1 (.t 10)), no⟩, ⟨some 5, (.mv (.t 11)), no⟩]) 
 (.reg [⟨some 12, (.mv (.t 3)), no⟩, ⟨some 13, (.mv (.t 5)), no⟩, ⟨some 14, (.bin .add (.t 12) (.t 13)), no⟩, ⟨some 3, (.mv (.t 14)), no⟩]))) 
 (.reg [⟨some 15, (.bin .add (.t 8) (.k (.int .i64 1))), no⟩, ⟨some 8, (.mv (.t 15)), no⟩]))))))) (.seq 
 (.reg [⟨some 16, (.mv (.t 3)), no⟩, ⟨some 2, (.mv (.t 16)), no⟩]) .ret))))⟩
theorem a51_ok : compFn Try.prog Try.f51 = some a51 := by kernel_rfl

def a40 : AFn :=
⟨15, [(.t 4)], (.seq 
 (.reg [⟨some 4, (.mv (.k (.int .i64 0))), no⟩]) (.seq 
 (.reg [⟨some 5, (.mv (.t 0)), no⟩, ⟨some 6, (.call (.k (.fn (.func 43) [] [])) [(.t 5)]), no⟩, ⟨some 7, (.mv (.t 1)), no⟩, ⟨some 8, (.call (.k (.fn (.func 43) [] [])) [(.t 7)]), no⟩, ⟨some 9, (.call (.k (.fn (.func 42) [] [])) [(.t 6), (.t 8)]), no⟩, ⟨some 10, (.mv (.t 1)), no⟩, ⟨some 11, (.mv (.t 0)), no⟩, ⟨some 12, (.call (.k (.fn (.func 44) [] [])) [(.t 10), (.t 11)]), no⟩, ⟨some 13, (.bsl 1 [(.t 9), (.t 12)]), no⟩, ⟨some 14, (.call (.k (.fn (.func 41) [] [])) [(.t 13)]), no⟩, ⟨some 4, (.mv (.t 14)), no⟩]) .ret))⟩
theorem a40_ok : compFn Try.prog Try.f40 = some a40 := by kernel_rfl

def a50 : AFn :=
⟨15, [(.t 4)], (.seq 
 (.reg [⟨some 4, (.mv (.k (.int .i64 0))), no⟩]) (.seq 
 (.reg [⟨some 5, (.mv (.t 0)), no⟩, ⟨some 6, (.call (.k (.fn (.func 51) [] [])) [(.t 5)]), no⟩, ⟨some 7, (.mv (.t 1)), no⟩, ⟨some 8, (.call (.k (.fn (.func 51) [] [])) [(.t 7)]), no⟩, ⟨some 9, (.call (.k (.fn (.func 42) [] [])) [(.t 6), (.t 8)]), no⟩, ⟨some 10, (.mv (.t 0)), no⟩, ⟨some 11, (.mv (.t 1)), no⟩, ⟨some 12, (.call (.k (.fn (.func 44) [] [])) [(.t 10), (.t 11)]), no⟩, ⟨some 13, (.bsl 1 [(.t 9), (.t 12)]), no⟩, ⟨some 14, (.call (.k (.fn (.func 41) [] [])) [(.t 13)]), no⟩, ⟨some 4, (.mv (.t 14)), no⟩]) .ret))⟩
theorem a50_ok : compFn Try.prog Try.f50 = some a50 := by kernel_rfl


def cmpI (a b : Int) : Int := if a < b then -1 else if b < a then 1 else 0
def cmpL : List Int → List Int → Int
  | [], [] => 0
  | [], _ :: _ => -1
  | _ :: _, [] => 1
  | a :: u, b :: v => if cmpI a b = 0 then cmpL u v else cmpI a b
def nonzN : List Int → Nat
  | [] => 0
  | a :: u => (if a = 0 then 0 else 1) + nonzN u
def totW : Int → List Int → Int
  | n, [] => n
  | n, a :: u => totW (IntKind.i64.wrap (n + a)) u
def orL : List Int → Int
  | [] => 0
  | a :: u => if a = 0 then orL u else a
def cmpR (a b : List Int) : Int := orL [cmpI (nonzN a) (nonzN b), cmpL b a]
def cmpB (a b : List Int) : Int := orL [cmpI (totW 0 a) (totW 0 b), cmpL a b]
theorem k_isNaN (a : Int) : Holds Try.prog 63 [i64 a] (fun r => r = .bool false) := by
  refine holds_of_run Try.func63 a63_ok rfl (by simp [a63]) ?_
  simp [a63]
theorem k_Cmp (a b : Int) : Holds Try.prog 42 [i64 a, i64 b] (fun r => r = i64 (cmpI a b)) := by
  refine holds_of_run Try.func42 a42_ok rfl (by simp [a42]) ?_
  simp [a42]
  first | refine callD_of (k_isNaN a) (by simp) ?_ | refine call_of (k_isNaN a) (by simp) ?_ | refine callD_of (k_isNaN a) rfl ?_ | refine call_of (k_isNaN a) rfl ?_
  rintro r rfl
  simp
  first | refine callD_of (k_isNaN b) (by simp) ?_ | refine call_of (k_isNaN b) (by simp) ?_ | refine callD_of (k_isNaN b) rfl ?_ | refine call_of (k_isNaN b) rfl ?_
  rintro r rfl
  unfold cmpI
  by_cases h1 : a < b
  · simp [h1]
  by_cases h2 : b < a
  · simp [h1, h2]
  · simp [h1, h2]
set_option maxRecDepth 20000
set_option maxHeartbeats 2000000
theorem k_CmpL (a b : List Int) : Holds Try.prog 44 [.sl 1 (intsR a), .sl 1 (intsR b)] (fun r => r = i64 (cmpL a b)) := by
  refine holds_of_lim Try.func44 rfl rfl fun hl => ?_
  simp at hl
  refine holds_of_run Try.func44 a44_ok rfl (by simp [a44]) ?_
  simp [a44]
  intro _
  generalize hT : cmpL a b = T
  refine rL_forS [0, 1, 9, 10] 11 a.length (fun i _ => i ≤ b.length ∧ cmpL (a.drop i) (b.drop i) = T) hl.1 (by simp) ⟨by omega, by simpa using hT⟩ ?_ ?_
  · rintro i st h R hi hg hk s11 hw ⟨hib, hJ⟩ hh hR hret _
    simp at hk hh
    rw [List.drop_eq_getElem_cons hi] at hJ
    by_cases hb : i < b.length
    · rw [List.drop_eq_getElem_cons hb] at hJ
      simp only [cmpL] at hJ
      have hb2 : ¬ b.length ≤ i := by omega
      simp [hk, s11, hi, hb, hb2]
      intro _
      first | refine callD_of (k_Cmp (a[i]'hi) (b[i]'hb)) (by simp) ?_ | refine call_of (k_Cmp (a[i]'hi) (b[i]'hb)) (by simp) ?_ | refine callD_of (k_Cmp (a[i]'hi) (b[i]'hb)) rfl ?_ | refine call_of (k_Cmp (a[i]'hi) (b[i]'hb)) rfl ?_
      rintro r rfl
      by_cases hc : cmpI a[i] b[i] = 0
      · rw [if_pos hc] at hJ
        simp [hc, hk, s11, hw]
        exact hR _ (by simp [hk]) (by simp) ⟨by omega, hJ⟩
      · rw [if_neg hc] at hJ
        simp [hc]
        refine hret _ _ _ ?_
        simp [hJ]
    · have hb2 : b.length ≤ i := by omega
      rw [List.drop_eq_nil_of_le hb2] at hJ
      simp only [cmpL] at hJ
      simp [hk, s11, hi, hb2]
      intro _
      refine hret _ _ _ ?_
      simp [← hJ]
  · rintro st h R hk s11 ⟨hib, hJ⟩ hh hret hX
    simp at hk hh
    rw [List.drop_eq_nil_of_le (Nat.le_refl _)] at hJ
    simp [hk, s11]
    refine hX _ _ ?_
    by_cases hb : a.length < b.length
    · rw [List.drop_eq_getElem_cons hb] at hJ
      simp only [cmpL] at hJ
      simp [hk, hb, ← hJ]
    · rw [List.drop_eq_nil_of_le (by omega)] at hJ
      simp only [cmpL] at hJ
      simp [hk, hb, ← hJ]
theorem k_Or (l : List Int) : Holds Try.prog 41 [.sl 1 (intsR l)] (fun r => r = i64 (orL l)) := by
  refine holds_of_lim Try.func41 rfl rfl fun hl => ?_
  simp at hl
  refine holds_of_run Try.func41 a41_ok rfl (by simp [a41]) ?_
  simp [a41]
  intro _
  generalize hT : orL l = T
  refine rL_forS [3, 6, 7] 8 l.length (fun i _ => orL (l.drop i) = T) hl (by simp) (by simpa using hT) ?_ ?_
  · rintro i st h R hi hg hk s8 hw hJ hh hR hret _
    simp at hk hh
    rw [List.drop_eq_getElem_cons hi] at hJ
    simp only [orL] at hJ
    by_cases hc : l[i] = 0
    · rw [if_pos hc] at hJ
      simp [hk, s8, hi, hc, hw]
      exact hR _ (by simp [hk]) (by simp) hJ
    · rw [if_neg hc] at hJ
      simp [hk, s8, hi, hc]
      refine hret _ _ _ ?_
      simp [hJ]
  · rintro st h R hk s8 hJ hh hret hX
    simp at hk hh
    rw [List.drop_eq_nil_of_le (Nat.le_refl _)] at hJ
    simp only [orL] at hJ
    simp [hk, s8]
    refine hX _ _ ?_
    simp [hk, ← hJ]
theorem nonzN_le : ∀ l : List Int, nonzN l ≤ l.length
  | [] => Nat.le_refl _
  | a :: u => by simp only [nonzN, List.length_cons]; have := nonzN_le u; split <;> omega
theorem k_nonzero (l : List Int) : Holds Try.prog 43 [.sl 1 (intsR l)] (fun r => r = i64 (nonzN l)) := by
  refine holds_of_lim Try.func43 rfl rfl fun hl => ?_
  simp at hl
  refine holds_of_run Try.func43 a43_ok rfl (by simp [a43]) ?_
  simp [a43]
  intro _
  have hle := nonzN_le l
  generalize hT : nonzN l = T at *
  refine rL_forS [6, 7] 8 l.length (fun i s => ∃ m : Nat, s 3 = i64 m ∧ m + nonzN (l.drop i) = T) hl (by simp) ⟨0, by simp, by simpa using hT⟩ ?_ ?_
  · rintro i st h R hi hg hk s8 hw ⟨m, s3, hJ⟩ hh hR hret _
    simp at hk hh
    rw [List.drop_eq_getElem_cons hi] at hJ
    simp only [nonzN] at hJ
    unfold LIM at hl
    by_cases hc : l[i] = 0
    · rw [if_pos hc] at hJ
      simp [hk, s8, hi, hc, hw]
      exact hR _ (by simp [hk]) (by simp) ⟨m, by simp [s3], by omega⟩
    · rw [if_neg hc] at hJ
      have hw2 : IntKind.i64.wrap ((m : Int) + 1) = ((m + 1 : Nat) : Int) := by rw [wrap64 (by omega)]; rfl
      simp [hk, s8, hi, hc, hw, s3, hw2]
      exact hR _ (by simp [hk]) (by simp) ⟨m + 1, by simp, by omega⟩
  · rintro st h R hk s8 ⟨m, s3, hJ⟩ hh hret hX
    simp at hk hh
    rw [List.drop_eq_nil_of_le (Nat.le_refl _)] at hJ
    simp only [nonzN] at hJ
    simp [hk, s8]
    refine hX _ _ ?_
    simp [s3]
    omega
theorem k_total (l : List Int) : Holds Try.prog 51 [.sl 1 (intsR l)] (fun r => r = i64 (totW 0 l)) := by
  refine holds_of_lim Try.func51 rfl rfl fun hl => ?_
  simp at hl
  refine holds_of_run Try.func51 a51_ok rfl (by simp [a51]) ?_
  simp [a51]
  intro _
  generalize hT : totW 0 l = T
  refine rL_forS [6, 7] 8 l.length (fun i s => ∃ m : Int, s 3 = i64 m ∧ totW m (l.drop i) = T) hl (by simp) ⟨0, by simp, by simpa using hT⟩ ?_ ?_
  · rintro i st h R hi hg hk s8 hw ⟨m, s3, hJ⟩ hh hR hret _
    simp at hk hh
    rw [List.drop_eq_getElem_cons hi] at hJ
    simp only [totW] at hJ
    simp [hk, s8, hi, hw, s3]
    exact hR _ (by simp [hk]) (by simp) ⟨_, by simp, hJ⟩
  · rintro st h R hk s8 ⟨m, s3, hJ⟩ hh hret hX
    simp at hk hh
    rw [List.drop_eq_nil_of_le (Nat.le_refl _)] at hJ
    simp only [totW] at hJ
    simp [hk, s8]
    refine hX _ _ ?_
    simp [s3, hJ]
theorem k_cmpR (a b : List Int) : Holds Try.prog 40 [.sl 1 (intsR a), .sl 1 (intsR b)] (fun r => r = i64 (cmpR a b)) := by
  refine holds_of_run Try.func40 a40_ok rfl (by simp [a40]) ?_
  simp [a40]
  first | refine callD_of (k_nonzero a) (by simp) ?_ | refine call_of (k_nonzero a) (by simp) ?_ | refine callD_of (k_nonzero a) rfl ?_ | refine call_of (k_nonzero a) rfl ?_
  rintro r rfl
  simp
  first | refine callD_of (k_nonzero b) (by simp) ?_ | refine call_of (k_nonzero b) (by simp) ?_ | refine callD_of (k_nonzero b) rfl ?_ | refine call_of (k_nonzero b) rfl ?_
  rintro r rfl
  simp
  first | refine callD_of (k_Cmp (nonzN a) (nonzN b)) (by simp) ?_ | refine call_of (k_Cmp (nonzN a) (nonzN b)) (by simp) ?_ | refine callD_of (k_Cmp (nonzN a) (nonzN b)) rfl ?_ | refine call_of (k_Cmp (nonzN a) (nonzN b)) rfl ?_
  rintro r rfl
  simp
  first | refine callD_of (k_CmpL b a) (by simp) ?_ | refine call_of (k_CmpL b a) (by simp) ?_ | refine callD_of (k_CmpL b a) rfl ?_ | refine call_of (k_CmpL b a) rfl ?_
  rintro r rfl
  simp
  first | refine callD_of (k_Or [cmpI (nonzN a) (nonzN b), cmpL b a]) (by simp [intsR]) ?_ | refine call_of (k_Or [cmpI (nonzN a) (nonzN b), cmpL b a]) (by simp [intsR]) ?_ | refine callD_of (k_Or [cmpI (nonzN a) (nonzN b), cmpL b a]) rfl ?_ | refine call_of (k_Or [cmpI (nonzN a) (nonzN b), cmpL b a]) rfl ?_
  rintro r rfl
  simp [cmpR]
theorem k_cmpB (a b : List Int) : Holds Try.prog 50 [.sl 1 (intsR a), .sl 1 (intsR b)] (fun r => r = i64 (cmpB a b)) := by
  refine holds_of_run Try.func50 a50_ok rfl (by simp [a50]) ?_
  simp [a50]
  first | refine callD_of (k_total a) (by simp) ?_ | refine call_of (k_total a) (by simp) ?_ | refine callD_of (k_total a) rfl ?_ | refine call_of (k_total a) rfl ?_
  rintro r rfl
  simp
  first | refine callD_of (k_total b) (by simp) ?_ | refine call_of (k_total b) (by simp) ?_ | refine callD_of (k_total b) rfl ?_ | refine call_of (k_total b) rfl ?_
  rintro r rfl
  simp
  first | refine callD_of (k_Cmp (totW 0 a) (totW 0 b)) (by simp) ?_ | refine call_of (k_Cmp (totW 0 a) (totW 0 b)) (by simp) ?_ | refine callD_of (k_Cmp (totW 0 a) (totW 0 b)) rfl ?_ | refine call_of (k_Cmp (totW 0 a) (totW 0 b)) rfl ?_
  rintro r rfl
  simp
  first | refine callD_of (k_CmpL a b) (by simp) ?_ | refine call_of (k_CmpL a b) (by simp) ?_ | refine callD_of (k_CmpL a b) rfl ?_ | refine call_of (k_CmpL a b) rfl ?_
  rintro r rfl
  simp
  first | refine callD_of (k_Or [cmpI (totW 0 a) (totW 0 b), cmpL a b]) (by simp [intsR]) ?_ | refine call_of (k_Or [cmpI (totW 0 a) (totW 0 b), cmpL a b]) (by simp [intsR]) ?_ | refine callD_of (k_Or [cmpI (totW 0 a) (totW 0 b), cmpL a b]) rfl ?_ | refine call_of (k_Or [cmpI (totW 0 a) (totW 0 b), cmpL a b]) rfl ?_
  rintro r rfl
  simp [cmpB]
end Go.Proofs.Ytoejpoioleffpaa

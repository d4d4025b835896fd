/- Contracts: the reference's orders of expressions. -/
import Derived.Test.YtoejpoioleffpaaZ5
namespace Go.Proofs.Ytoejpoioleffpaa
set_option linter.all false
open Go Go.RowKit Go.Proofs

def be0 : AC := (.reg [⟨some 2, (.boxv (.t 0)), no⟩, ⟨some 3, (.boxv (.t 1)), no⟩, ⟨some 4, (.mv (.k (.bool false))), no⟩])
def be1 : AC := (.reg [⟨some 5, (.mv (.k (.int .i64 0))), no⟩])
def be2 : AC := (.reg [⟨some 6, (.mv (.k (.int .i64 0))), no⟩])
def be3 : AC := (.seq  (.reg [⟨some 7, (.mv (.k (.int .i64 0))), no⟩]) (.blk 0 (.loop (.seq (.seq  (.reg [⟨some 9, (.mv (.t 7)), no⟩, ⟨some 10, (.fld 1 (.t 2)), no⟩, ⟨some 11, (.ld false 1 (.t 10)), no⟩, ⟨some 12, (.len false (.t 11)), no⟩, ⟨some 13, (.bin .lss (.t 9) (.t 12)), no⟩]) (.cond (.t 13) .skip (.exit 0))) (.seq (.blk 1 (.seq (.draw (.op ⟨some 16, (.mv (.t 5)), no⟩ (.op ⟨some 17, (.fld 1 (.t 2)), no⟩ (.op ⟨some 18, (.ld false 1 (.t 17)), no⟩ (.op ⟨some 19, (.mv (.t 7)), no⟩ (.op ⟨some 20, (.ixa 1 (.t 18) (.t 19)), no⟩ (.op ⟨some 21, (.ld false 1 (.t 20)), no⟩ (.op ⟨some 22, (.fld 1 (.t 2)), no⟩ (.op ⟨some 23, (.ld false 1 (.t 22)), no⟩ (.op ⟨some 24, (.mv (.t 7)), no⟩ (.op ⟨some 25, (.ixa 1 (.t 23) (.t 24)), no⟩ (.op ⟨some 26, (.ld false 1 (.t 25)), no⟩ (.op ⟨some 27, (.bin .mul (.t 21) (.t 26)), no⟩ (.op ⟨some 28, (.bin .add (.t 16) (.t 27)), no⟩ (.hop ⟨some 5, (.mv (.t 28)), no⟩ [] .fin))))))))))))))) (.draw (.op ⟨some 29, (.mv (.t 6)), no⟩ (.op ⟨some 30, (.fld 1 (.t 3)), no⟩ (.op ⟨some 31, (.ld false 1 (.t 30)), no⟩ (.op ⟨some 32, (.mv (.t 7)), no⟩ (.op ⟨some 33, (.ixa 1 (.t 31) (.t 32)), no⟩ (.op ⟨some 34, (.ld false 1 (.t 33)), no⟩ (.op ⟨some 35, (.fld 1 (.t 3)), no⟩ (.op ⟨some 36, (.ld false 1 (.t 35)), no⟩ (.op ⟨some 37, (.mv (.t 7)), no⟩ (.op ⟨some 38, (.ixa 1 (.t 36) (.t 37)), no⟩ (.op ⟨some 39, (.ld false 1 (.t 38)), no⟩ (.op ⟨some 40, (.bin .mul (.t 34) (.t 39)), no⟩ (.op ⟨some 41, (.bin .add (.t 29) (.t 40)), no⟩ (.hop ⟨some 6, (.mv (.t 41)), no⟩ [] .fin)))))))))))))))))  (.reg [⟨some 14, (.mv (.t 7)), no⟩, ⟨some 15, (.bin .add (.t 14) (.k (.int .i64 1))), no⟩, ⟨some 7, (.mv (.t 15)), no⟩]))))))
def be4 : AC := (.seq  (.reg [⟨some 42, (.mv (.t 5)), no⟩, ⟨some 43, (.mv (.t 6)), no⟩, ⟨some 44, (.bin .neq (.t 42) (.t 43)), no⟩]) (.cond (.t 44) (.seq  (.reg [⟨some 45, (.mv (.t 5)), no⟩, ⟨some 46, (.mv (.t 6)), no⟩, ⟨some 47, (.bin .lss (.t 45) (.t 46)), no⟩, ⟨some 4, (.mv (.t 47)), no⟩]) .ret) .skip))
def be5 : AC := (.seq  (.reg [⟨some 8, (.mv (.k (.int .i64 0))), no⟩]) (.blk 2 (.loop (.seq (.seq  (.reg [⟨some 48, (.mv (.t 8)), no⟩, ⟨some 49, (.fld 1 (.t 2)), no⟩, ⟨some 50, (.ld false 1 (.t 49)), no⟩, ⟨some 51, (.len false (.t 50)), no⟩, ⟨some 52, (.bin .lss (.t 48) (.t 51)), no⟩]) (.cond (.t 52) .skip (.exit 2))) (.seq (.blk 3 (.seq (.draw (.op ⟨some 55, (.fld 1 (.t 2)), no⟩ (.op ⟨some 56, (.ld false 1 (.t 55)), no⟩ (.op ⟨some 57, (.mv (.t 8)), no⟩ (.op ⟨some 58, (.ixa 1 (.t 56) (.t 57)), no⟩ (.op ⟨some 59, (.ld false 1 (.t 58)), no⟩ (.op ⟨some 60, (.fld 1 (.t 3)), no⟩ (.op ⟨some 61, (.ld false 1 (.t 60)), no⟩ (.op ⟨some 62, (.mv (.t 8)), no⟩ (.op ⟨some 63, (.ixa 1 (.t 61) (.t 62)), no⟩ (.op ⟨some 64, (.ld false 1 (.t 63)), no⟩ (.op ⟨some 65, (.bin .neq (.t 59) (.t 64)), no⟩ .fin)))))))))))) (.cond (.t 65) (.seq (.draw (.op ⟨some 66, (.fld 1 (.t 2)), no⟩ (.op ⟨some 67, (.ld false 1 (.t 66)), no⟩ (.op ⟨some 68, (.mv (.t 8)), no⟩ (.op ⟨some 69, (.ixa 1 (.t 67) (.t 68)), no⟩ (.op ⟨some 70, (.ld false 1 (.t 69)), no⟩ (.op ⟨some 71, (.fld 1 (.t 3)), no⟩ (.op ⟨some 72, (.ld false 1 (.t 71)), no⟩ (.op ⟨some 73, (.mv (.t 8)), no⟩ (.op ⟨some 74, (.ixa 1 (.t 72) (.t 73)), no⟩ (.op ⟨some 75, (.ld false 1 (.t 74)), no⟩ (.op ⟨some 76, (.bin .gtr (.t 70) (.t 75)), no⟩ (.op ⟨some 4, (.mv (.t 76)), no⟩ .fin))))))))))))) .ret) .skip)))  (.reg [⟨some 53, (.mv (.t 8)), no⟩, ⟨some 54, (.bin .add (.t 53) (.k (.int .i64 1))), no⟩, ⟨some 8, (.mv (.t 54)), no⟩]))))))
def be6 : AC := (.reg [⟨some 77, (.fld 0 (.t 2)), no⟩, ⟨some 78, (.ld false 1 (.t 77)), no⟩, ⟨some 79, (.fld 0 (.t 3)), no⟩, ⟨some 80, (.ld false 1 (.t 79)), no⟩, ⟨some 81, (.bin .lss (.t 78) (.t 80)), no⟩, ⟨some 4, (.mv (.t 81)), no⟩])
def a36 : AFn := ⟨82, [(.t 4)], (.seq be0 (.seq be1 (.seq be2 (.seq be3 (.seq be4 (.seq be5 (.seq be6 .ret)))))))⟩
theorem a36_ok : compFn Try.prog Try.f36 = some a36 := by kernel_rfl

def bb0 : AC := (.reg [⟨some 2, (.boxv (.t 0)), no⟩, ⟨some 3, (.boxv (.t 1)), no⟩, ⟨some 4, (.mv (.k (.bool false))), no⟩])
def bb1 : AC := (.reg [⟨some 5, (.mv (.k (.int .i64 0))), no⟩])
def bb2 : AC := (.reg [⟨some 6, (.mv (.k (.int .i64 0))), no⟩])
def bb3 : AC := (.seq  (.reg [⟨some 7, (.mv (.k (.int .i64 0))), no⟩]) (.blk 0 (.loop (.seq (.seq  (.reg [⟨some 9, (.mv (.t 7)), no⟩, ⟨some 10, (.fld 1 (.t 2)), no⟩, ⟨some 11, (.ld false 1 (.t 10)), no⟩, ⟨some 12, (.len false (.t 11)), no⟩, ⟨some 13, (.bin .lss (.t 9) (.t 12)), no⟩]) (.cond (.t 13) .skip (.exit 0))) (.seq (.blk 1 (.seq  (.reg [⟨some 16, (.mv (.t 5)), no⟩, ⟨some 17, (.fld 1 (.t 2)), no⟩, ⟨some 18, (.ld false 1 (.t 17)), no⟩, ⟨some 19, (.mv (.t 7)), no⟩, ⟨some 20, (.ixa 1 (.t 18) (.t 19)), no⟩, ⟨some 21, (.ld false 1 (.t 20)), no⟩, ⟨some 22, (.bin .add (.t 16) (.t 21)), no⟩, ⟨some 5, (.mv (.t 22)), no⟩])  (.reg [⟨some 23, (.mv (.t 6)), no⟩, ⟨some 24, (.fld 1 (.t 3)), no⟩, ⟨some 25, (.ld false 1 (.t 24)), no⟩, ⟨some 26, (.mv (.t 7)), no⟩, ⟨some 27, (.ixa 1 (.t 25) (.t 26)), no⟩, ⟨some 28, (.ld false 1 (.t 27)), no⟩, ⟨some 29, (.bin .add (.t 23) (.t 28)), no⟩, ⟨some 6, (.mv (.t 29)), no⟩])))  (.reg [⟨some 14, (.mv (.t 7)), no⟩, ⟨some 15, (.bin .add (.t 14) (.k (.int .i64 1))), no⟩, ⟨some 7, (.mv (.t 15)), no⟩]))))))
def bb4 : AC := (.seq  (.reg [⟨some 30, (.mv (.t 5)), no⟩, ⟨some 31, (.mv (.t 6)), no⟩, ⟨some 32, (.bin .neq (.t 30) (.t 31)), no⟩]) (.cond (.t 32) (.seq  (.reg [⟨some 33, (.mv (.t 5)), no⟩, ⟨some 34, (.mv (.t 6)), no⟩, ⟨some 35, (.bin .lss (.t 33) (.t 34)), no⟩, ⟨some 4, (.mv (.t 35)), no⟩]) .ret) .skip))
def bb5 : AC := (.seq  (.reg [⟨some 8, (.mv (.k (.int .i64 0))), no⟩]) (.blk 2 (.loop (.seq (.seq  (.reg [⟨some 36, (.mv (.t 8)), no⟩, ⟨some 37, (.fld 1 (.t 2)), no⟩, ⟨some 38, (.ld false 1 (.t 37)), no⟩, ⟨some 39, (.len false (.t 38)), no⟩, ⟨some 40, (.bin .lss (.t 36) (.t 39)), no⟩]) (.cond (.t 40) .skip (.exit 2))) (.seq (.blk 3 (.seq (.draw (.op ⟨some 43, (.fld 1 (.t 2)), no⟩ (.op ⟨some 44, (.ld false 1 (.t 43)), no⟩ (.op ⟨some 45, (.mv (.t 8)), no⟩ (.op ⟨some 46, (.ixa 1 (.t 44) (.t 45)), no⟩ (.op ⟨some 47, (.ld false 1 (.t 46)), no⟩ (.op ⟨some 48, (.fld 1 (.t 3)), no⟩ (.op ⟨some 49, (.ld false 1 (.t 48)), no⟩ (.op ⟨some 50, (.mv (.t 8)), no⟩ (.op ⟨some 51, (.ixa 1 (.t 49) (.t 50)), no⟩ (.op ⟨some 52, (.ld false 1 (.t 51)), no⟩ (.op ⟨some 53, (.bin .neq (.t 47) (.t 52)), no⟩ .fin)))))))))))) (.cond (.t 53) (.seq (.draw (.op ⟨some 54, (.fld 1 (.t 2)), no⟩ (.op ⟨some 55, (.ld false 1 (.t 54)), no⟩ (.op ⟨some 56, (.mv (.t 8)), no⟩ (.op ⟨some 57, (.ixa 1 (.t 55) (.t 56)), no⟩ (.op ⟨some 58, (.ld false 1 (.t 57)), no⟩ (.op ⟨some 59, (.fld 1 (.t 3)), no⟩ (.op ⟨some 60, (.ld false 1 (.t 59)), no⟩ (.op ⟨some 61, (.mv (.t 8)), no⟩ (.op ⟨some 62, (.ixa 1 (.t 60) (.t 61)), no⟩ (.op ⟨some 63, (.ld false 1 (.t 62)), no⟩ (.op ⟨some 64, (.bin .lss (.t 58) (.t 63)), no⟩ (.op ⟨some 4, (.mv (.t 64)), no⟩ .fin))))))))))))) .ret) .skip)))  (.reg [⟨some 41, (.mv (.t 8)), no⟩, ⟨some 42, (.bin .add (.t 41) (.k (.int .i64 1))), no⟩, ⟨some 8, (.mv (.t 42)), no⟩]))))))
def bb6 : AC := (.reg [⟨some 65, (.fld 0 (.t 2)), no⟩, ⟨some 66, (.ld false 1 (.t 65)), no⟩, ⟨some 67, (.fld 0 (.t 3)), no⟩, ⟨some 68, (.ld false 1 (.t 67)), no⟩, ⟨some 69, (.bin .lss (.t 66) (.t 68)), no⟩, ⟨some 4, (.mv (.t 69)), no⟩])
def a65 : AFn := ⟨70, [(.t 4)], (.seq bb0 (.seq bb1 (.seq bb2 (.seq bb3 (.seq bb4 (.seq bb5 (.seq bb6 .ret)))))))⟩
theorem a65_ok : compFn Try.prog Try.f65 = some a65 := by kernel_rfl


def sqW : Int → List Int → Int
  | n, [] => n
  | n, a :: u => sqW (IntKind.i64.wrap (n + IntKind.i64.wrap (a * a))) u
/-- By the first two that differ. -/
def fd (r : Int → Int → Bool) (z : Bool) : List Int → List Int → Bool
  | x :: u, y :: v => if x = y then fd r z u v else r x y
  | _, _ => z
def bef (sm : Int → List Int → Int) (r : Int → Int → Bool) (a b : DLin) : Bool := if sm 0 a.Coeffs = sm 0 b.Coeffs then fd r (decide (a.Const < b.Const)) a.Coeffs b.Coeffs else decide (sm 0 a.Coeffs < sm 0 b.Coeffs)
def ltI (x y : Int) : Bool := decide (x < y)
def gtI (x y : Int) : Bool := decide (y < x)
set_option maxRecDepth 20000
set_option maxHeartbeats 2000000
theorem ks_l20Before (a b : DLin) (hl : a.Coeffs.length = b.Coeffs.length) : Holds Try.prog 36 [.agg (rALin a), .agg (rALin b)] (fun r => r = .bool (bef sqW gtI a b)) := by
  refine holds_of_lim Try.func36 rfl rfl fun hlm => ?_
  simp [rALin] at hlm
  refine holds_of_run Try.func36 a36_ok rfl (by simp [a36]) ?_
  simp [a36, be0, be1, be2, be3, rALin]
  unfold bef
  generalize hX : sqW 0 a.Coeffs = X
  generalize hY : sqW 0 b.Coeffs = Y
  refine rL_forO [2, 3] 7 a.Coeffs.length (fun i st h n => n = 2 ∧ h 0 = some ⟨true, 2, [rALin a]⟩ ∧ h 1 = some ⟨true, 2, [rALin b]⟩ ∧ ∃ x y : Int, st 5 = i64 x ∧ st 6 = i64 y ∧ sqW x (a.Coeffs.drop i) = X ∧ sqW y (b.Coeffs.drop i) = Y) (by omega) (by simp) ⟨rfl, by simp [rALin], by simp [rALin], 0, 0, by simp, by simp, by simpa using hX, by simpa using hY⟩ ?_ ?_
  · rintro i st h n R hi hg hk s7 hw ⟨rfl, e0, e1, x, y, s5, s6, j1, j2⟩ hR _ _
    simp at hk
    have hib : i < b.Coeffs.length := by omega
    rw [List.drop_eq_getElem_cons hi] at j1
    rw [List.drop_eq_getElem_cons hib] at j2
    simp only [sqW] at j1 j2
    simp [hk, s7, s5, s6, e0, e1, rALin, hi, hib, hw]
    try intro _
    exact hR _ _ _ (by simp [hk]) (by simp) ⟨rfl, by simp [e0, rALin], by simp [e1, rALin], _, _, by simp, by simp, j1, j2⟩
  · rintro st h n R hk s7 ⟨rfl, e0, e1, x, y, s5, s6, j1, j2⟩ hret hX'
    simp at hk
    rw [List.drop_eq_nil_of_le (by omega)] at j1 j2
    simp only [sqW] at j1 j2
    subst j1 j2
    simp [hk, s7, e0, rALin]
    try intro _
    refine hX' _ _ _ _ ?_
    simp [be4, s5, s6]
    by_cases hxy : x = y
    · subst hxy
      simp [hk, be5]
      generalize hT : fd gtI (decide (a.Const < b.Const)) a.Coeffs b.Coeffs = T
      refine rL_forO [2, 3] 8 a.Coeffs.length (fun i st h n => n = 2 ∧ h 0 = some ⟨true, 2, [rALin a]⟩ ∧ h 1 = some ⟨true, 2, [rALin b]⟩ ∧ fd gtI (decide (a.Const < b.Const)) (a.Coeffs.drop i) (b.Coeffs.drop i) = T) (by omega) (by simp) ⟨rfl, e0, e1, by simpa using hT⟩ ?_ ?_
      · rintro i st2 h2 n2 R2 hi hg hk2 s8 hw ⟨rfl, e0, e1, hJ⟩ hR hret2 _
        simp at hk2
        have hib : i < b.Coeffs.length := by omega
        rw [List.drop_eq_getElem_cons hi, List.drop_eq_getElem_cons hib] at hJ
        simp only [fd] at hJ
        by_cases hc : a.Coeffs[i] = b.Coeffs[i]
        · rw [if_pos hc] at hJ
          simp [hk2, hk, s8, e0, e1, rALin, hi, hib, hw, hc]
          try intro _
          exact hR _ _ _ (by simp [hk2, hk]) (by simp) ⟨rfl, by simp [e0, rALin], by simp [e1, rALin], hJ⟩
        · rw [if_neg hc] at hJ
          simp [hk2, hk, s8, e0, e1, rALin, hi, hib, hw, hc]
          try intro _
          refine hret2 _ _ _ ?_
          simp [← hJ, gtI, ltI]
      · rintro st2 h2 n2 R2 hk2 s8 ⟨rfl, e0, e1, hJ⟩ hret2 hX2
        simp at hk2
        rw [List.drop_eq_nil_of_le (by omega), List.drop_eq_nil_of_le (by omega)] at hJ
        simp only [fd] at hJ
        simp [hk2, hk, s8, e0, rALin]
        try intro _
        refine hX2 _ _ _ _ ?_
        simp [be6, hk2, hk, e0, e1, rALin, ← hJ]
    · simp [hxy]
theorem ks_l18Before (a b : DLin) (hl : a.Coeffs.length = b.Coeffs.length) : Holds Try.prog 65 [.agg (rALin a), .agg (rALin b)] (fun r => r = .bool (bef totW ltI a b)) := by
  refine holds_of_lim Try.func65 rfl rfl fun hlm => ?_
  simp [rALin] at hlm
  refine holds_of_run Try.func65 a65_ok rfl (by simp [a65]) ?_
  simp [a65, bb0, bb1, bb2, bb3, rALin]
  unfold bef
  generalize hX : totW 0 a.Coeffs = X
  generalize hY : totW 0 b.Coeffs = Y
  refine rL_forO [2, 3] 7 a.Coeffs.length (fun i st h n => n = 2 ∧ h 0 = some ⟨true, 2, [rALin a]⟩ ∧ h 1 = some ⟨true, 2, [rALin b]⟩ ∧ ∃ x y : Int, st 5 = i64 x ∧ st 6 = i64 y ∧ totW x (a.Coeffs.drop i) = X ∧ totW y (b.Coeffs.drop i) = Y) (by omega) (by simp) ⟨rfl, by simp [rALin], by simp [rALin], 0, 0, by simp, by simp, by simpa using hX, by simpa using hY⟩ ?_ ?_
  · rintro i st h n R hi hg hk s7 hw ⟨rfl, e0, e1, x, y, s5, s6, j1, j2⟩ hR _ _
    simp at hk
    have hib : i < b.Coeffs.length := by omega
    rw [List.drop_eq_getElem_cons hi] at j1
    rw [List.drop_eq_getElem_cons hib] at j2
    simp only [totW] at j1 j2
    simp [hk, s7, s5, s6, e0, e1, rALin, hi, hib, hw]
    try intro _
    exact hR _ _ _ (by simp [hk]) (by simp) ⟨rfl, by simp [e0, rALin], by simp [e1, rALin], _, _, by simp, by simp, j1, j2⟩
  · rintro st h n R hk s7 ⟨rfl, e0, e1, x, y, s5, s6, j1, j2⟩ hret hX'
    simp at hk
    rw [List.drop_eq_nil_of_le (by omega)] at j1 j2
    simp only [totW] at j1 j2
    subst j1 j2
    simp [hk, s7, e0, rALin]
    try intro _
    refine hX' _ _ _ _ ?_
    simp [bb4, s5, s6]
    by_cases hxy : x = y
    · subst hxy
      simp [hk, bb5]
      generalize hT : fd ltI (decide (a.Const < b.Const)) a.Coeffs b.Coeffs = T
      refine rL_forO [2, 3] 8 a.Coeffs.length (fun i st h n => n = 2 ∧ h 0 = some ⟨true, 2, [rALin a]⟩ ∧ h 1 = some ⟨true, 2, [rALin b]⟩ ∧ fd ltI (decide (a.Const < b.Const)) (a.Coeffs.drop i) (b.Coeffs.drop i) = T) (by omega) (by simp) ⟨rfl, e0, e1, by simpa using hT⟩ ?_ ?_
      · rintro i st2 h2 n2 R2 hi hg hk2 s8 hw ⟨rfl, e0, e1, hJ⟩ hR hret2 _
        simp at hk2
        have hib : i < b.Coeffs.length := by omega
        rw [List.drop_eq_getElem_cons hi, List.drop_eq_getElem_cons hib] at hJ
        simp only [fd] at hJ
        by_cases hc : a.Coeffs[i] = b.Coeffs[i]
        · rw [if_pos hc] at hJ
          simp [hk2, hk, s8, e0, e1, rALin, hi, hib, hw, hc]
          try intro _
          exact hR _ _ _ (by simp [hk2, hk]) (by simp) ⟨rfl, by simp [e0, rALin], by simp [e1, rALin], hJ⟩
        · rw [if_neg hc] at hJ
          simp [hk2, hk, s8, e0, e1, rALin, hi, hib, hw, hc]
          try intro _
          refine hret2 _ _ _ ?_
          simp [← hJ, gtI, ltI]
      · rintro st2 h2 n2 R2 hk2 s8 ⟨rfl, e0, e1, hJ⟩ hret2 hX2
        simp at hk2
        rw [List.drop_eq_nil_of_le (by omega), List.drop_eq_nil_of_le (by omega)] at hJ
        simp only [fd] at hJ
        simp [hk2, hk, s8, e0, rALin]
        try intro _
        refine hX2 _ _ _ _ ?_
        simp [bb6, hk2, hk, e0, e1, rALin, ← hJ]
    · simp [hxy]
end Go.Proofs.Ytoejpoioleffpaa

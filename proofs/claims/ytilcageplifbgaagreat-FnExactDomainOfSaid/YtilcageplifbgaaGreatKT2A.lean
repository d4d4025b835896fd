/- Contracts of the laws' functions over the types. -/
import Derived.Test.YtilcageplifbgaaGreatKT1
import Derived.Test.YtilcageplifbgaaGreatKR31
import Derived.Test.YtilcageplifbgaaGreatProg
namespace Go.Proofs.YtilcageplifbgaaGreat
set_option linter.all false
open Go Go.RowKit Go.Proofs
def a85 : AFn :=
⟨12, [(.t 4)], (.seq
 (.reg [⟨some 4, (.mv (.k (.int .i64 0))), no⟩]) (.seq
 (.reg [⟨some 5, (.mv (.t 1)), no⟩, ⟨some 6, (.mv (.t 0)), no⟩, ⟨some 7, (.len false (.t 6)), no⟩, ⟨some 8, (.bin .sub (.t 5) (.t 7)), no⟩, ⟨some 1, (.mv (.t 8)), no⟩]) (.seq (.seq
 (.reg [⟨some 9, (.mv (.t 1)), no⟩, ⟨some 10, (.bin .lss (.t 9) (.k (.int .i64 0))), no⟩]) (.cond (.t 10) (.seq
 (.reg [⟨some 4, (.mv (.k (.int .i64 (-1)))), no⟩]) .ret) .skip)) (.seq
 (.reg [⟨some 11, (.mv (.t 1)), no⟩, ⟨some 4, (.mv (.t 11)), no⟩]) .ret))))⟩
theorem a85_ok : compFn Tryz.prog Tryz.f85 = some a85 := by kernel_rfl
def a88 : AFn :=
⟨22, [(.t 2)], (.seq
 (.reg [⟨some 2, (.mv (.k (.nil 1))), no⟩]) (.seq
 (.reg [⟨some 5, (.mv (.t 0)), no⟩, ⟨some 6, (.len false (.t 5)), no⟩, ⟨some 7, (.mks 8 [(.int .i64 0)] (.t 6) (.t 6)), no⟩, ⟨some 3, (.mv (.t 7)), no⟩]) (.seq (.seq
 (.reg [⟨some 4, (.mv (.k (.int .i64 0))), no⟩]) (.blk 0 (.loop (.seq (.seq
 (.reg [⟨some 8, (.mv (.t 4)), no⟩, ⟨some 9, (.mv (.t 0)), no⟩, ⟨some 10, (.len false (.t 9)), no⟩, ⟨some 11, (.bin .lss (.t 8) (.t 10)), no⟩]) (.cond (.t 11) .skip (.exit 0))) (.seq (.blk 1
 (.reg [⟨some 14, (.mv (.t 3)), no⟩, ⟨some 15, (.mv (.t 4)), no⟩, ⟨some 16, (.mv (.t 0)), no⟩, ⟨some 17, (.mv (.t 4)), no⟩, ⟨some 18, (.ixa 1 (.t 16) (.t 17)), no⟩, ⟨some 19, (.ld false 1 (.t 18)), no⟩, ⟨some 20, (.ixa 1 (.t 14) (.t 15)), no⟩, ⟨no, (.st 1 (.t 20) (.t 19)), no⟩]))
 (.reg [⟨some 12, (.mv (.t 4)), no⟩, ⟨some 13, (.bin .add (.t 12) (.k (.int .i64 1))), no⟩, ⟨some 4, (.mv (.t 13)), no⟩])))))) (.seq
 (.reg [⟨some 21, (.mv (.t 3)), no⟩, ⟨some 2, (.mv (.t 21)), no⟩]) .ret))))⟩
theorem a88_ok : compFn Tryz.prog Tryz.f88 = some a88 := by kernel_rfl
def a92 : AFn :=
⟨26, [(.t 4)], (.seq
 (.reg [⟨some 4, (.mv (.k (.bool false))), no⟩]) (.seq (.seq
 (.reg [⟨some 6, (.mv (.t 0)), no⟩, ⟨some 7, (.len false (.t 6)), no⟩, ⟨some 8, (.mv (.t 1)), no⟩, ⟨some 9, (.len false (.t 8)), no⟩, ⟨some 10, (.bin .neq (.t 7) (.t 9)), no⟩]) (.cond (.t 10) (.seq
 (.reg [⟨some 4, (.mv (.k (.bool false))), no⟩]) .ret) .skip)) (.seq (.seq
 (.reg [⟨some 5, (.mv (.k (.int .i64 0))), no⟩]) (.blk 0 (.loop (.seq (.seq
 (.reg [⟨some 11, (.mv (.t 5)), no⟩, ⟨some 12, (.mv (.t 0)), no⟩, ⟨some 13, (.len false (.t 12)), no⟩, ⟨some 14, (.bin .lss (.t 11) (.t 13)), no⟩]) (.cond (.t 14) .skip (.exit 0))) (.seq (.blk 1 (.seq (.draw (.op ⟨some 17, (.mv (.t 0)), no⟩ (.op ⟨some 18, (.mv (.t 5)), no⟩ (.op ⟨some 19, (.ixa 1 (.t 17) (.t 18)), no⟩ (.op ⟨some 20, (.ld false 1 (.t 19)), no⟩ (.op ⟨some 21, (.mv (.t 1)), no⟩ (.op ⟨some 22, (.mv (.t 5)), no⟩ (.op ⟨some 23, (.ixa 1 (.t 21) (.t 22)), no⟩ (.op ⟨some 24, (.ld false 1 (.t 23)), no⟩ (.op ⟨some 25, (.bin .neq (.t 20) (.t 24)), no⟩ .fin)))))))))) (.cond (.t 25) (.seq
 (.reg [⟨some 4, (.mv (.k (.bool false))), no⟩]) .ret) .skip)))
 (.reg [⟨some 15, (.mv (.t 5)), no⟩, ⟨some 16, (.bin .add (.t 15) (.k (.int .i64 1))), no⟩, ⟨some 5, (.mv (.t 16)), no⟩])))))) (.seq
 (.reg [⟨some 4, (.mv (.k (.bool true))), no⟩]) .ret))))⟩
theorem a92_ok : compFn Tryz.prog Tryz.f92 = some a92 := by kernel_rfl
def a199 : AFn :=
⟨28, [(.t 4)], (.seq
 (.reg [⟨some 4, (.mv (.k (.int .i64 0))), no⟩]) (.seq
 (.reg [⟨some 6, (.mv (.t 1)), no⟩, ⟨some 7, (.mv (.t 0)), no⟩, ⟨some 8, (.len false (.t 7)), no⟩, ⟨some 9, (.bin .sub (.t 6) (.t 8)), no⟩, ⟨some 1, (.mv (.t 9)), no⟩]) (.seq (.seq
 (.reg [⟨some 10, (.mv (.t 1)), no⟩, ⟨some 11, (.bin .lss (.t 10) (.k (.int .i64 0))), no⟩]) (.cond (.t 11) (.seq
 (.reg [⟨some 4, (.mv (.k (.int .i64 (-1)))), no⟩]) .ret) .skip)) (.seq (.seq
 (.reg [⟨some 5, (.mv (.k (.int .i64 0))), no⟩]) (.blk 0 (.loop (.seq (.seq
 (.reg [⟨some 12, (.mv (.t 5)), no⟩, ⟨some 13, (.mv (.t 0)), no⟩, ⟨some 14, (.len false (.t 13)), no⟩, ⟨some 15, (.bin .lss (.t 12) (.t 14)), no⟩]) (.cond (.t 15) .skip (.exit 0))) (.seq (.blk 1 (.seq
 (.reg [⟨some 18, (.mv (.t 1)), no⟩, ⟨some 19, (.mv (.t 0)), no⟩, ⟨some 20, (.mv (.t 5)), no⟩, ⟨some 21, (.ixa 1 (.t 19) (.t 20)), no⟩, ⟨some 22, (.ld false 1 (.t 21)), no⟩, ⟨some 23, (.len true (.t 22)), no⟩, ⟨some 24, (.bin .sub (.t 18) (.t 23)), no⟩, ⟨some 1, (.mv (.t 24)), no⟩]) (.seq
 (.reg [⟨some 25, (.mv (.t 1)), no⟩, ⟨some 26, (.bin .lss (.t 25) (.k (.int .i64 0))), no⟩]) (.cond (.t 26) (.seq
 (.reg [⟨some 4, (.mv (.k (.int .i64 (-1)))), no⟩]) .ret) .skip))))
 (.reg [⟨some 16, (.mv (.t 5)), no⟩, ⟨some 17, (.bin .add (.t 16) (.k (.int .i64 1))), no⟩, ⟨some 5, (.mv (.t 17)), no⟩])))))) (.seq
 (.reg [⟨some 27, (.mv (.t 1)), no⟩, ⟨some 4, (.mv (.t 27)), no⟩]) .ret)))))⟩
theorem a199_ok : compFn Tryz.prog Tryz.f199 = some a199 := by kernel_rfl
def a213 : AFn :=
⟨22, [(.t 2)], (.seq
 (.reg [⟨some 2, (.mv (.k (.nil 1))), no⟩]) (.seq
 (.reg [⟨some 5, (.mv (.t 0)), no⟩, ⟨some 6, (.len false (.t 5)), no⟩, ⟨some 7, (.mks 16 [(.str [])] (.t 6) (.t 6)), no⟩, ⟨some 3, (.mv (.t 7)), no⟩]) (.seq (.seq
 (.reg [⟨some 4, (.mv (.k (.int .i64 0))), no⟩]) (.blk 0 (.loop (.seq (.seq
 (.reg [⟨some 8, (.mv (.t 4)), no⟩, ⟨some 9, (.mv (.t 0)), no⟩, ⟨some 10, (.len false (.t 9)), no⟩, ⟨some 11, (.bin .lss (.t 8) (.t 10)), no⟩]) (.cond (.t 11) .skip (.exit 0))) (.seq (.blk 1
 (.reg [⟨some 14, (.mv (.t 3)), no⟩, ⟨some 15, (.mv (.t 4)), no⟩, ⟨some 16, (.mv (.t 0)), no⟩, ⟨some 17, (.mv (.t 4)), no⟩, ⟨some 18, (.ixa 1 (.t 16) (.t 17)), no⟩, ⟨some 19, (.ld false 1 (.t 18)), no⟩, ⟨some 20, (.ixa 1 (.t 14) (.t 15)), no⟩, ⟨no, (.st 1 (.t 20) (.t 19)), no⟩]))
 (.reg [⟨some 12, (.mv (.t 4)), no⟩, ⟨some 13, (.bin .add (.t 12) (.k (.int .i64 1))), no⟩, ⟨some 4, (.mv (.t 13)), no⟩])))))) (.seq
 (.reg [⟨some 21, (.mv (.t 3)), no⟩, ⟨some 2, (.mv (.t 21)), no⟩]) .ret))))⟩
theorem a213_ok : compFn Tryz.prog Tryz.f213 = some a213 := by kernel_rfl
def a82 : AFn :=
⟨26, [(.t 4)], (.seq
 (.reg [⟨some 4, (.mv (.k (.bool false))), no⟩]) (.seq (.seq
 (.reg [⟨some 6, (.mv (.t 0)), no⟩, ⟨some 7, (.len false (.t 6)), no⟩, ⟨some 8, (.mv (.t 1)), no⟩, ⟨some 9, (.len false (.t 8)), no⟩, ⟨some 10, (.bin .neq (.t 7) (.t 9)), no⟩]) (.cond (.t 10) (.seq
 (.reg [⟨some 4, (.mv (.k (.bool false))), no⟩]) .ret) .skip)) (.seq (.seq
 (.reg [⟨some 5, (.mv (.k (.int .i64 0))), no⟩]) (.blk 0 (.loop (.seq (.seq
 (.reg [⟨some 11, (.mv (.t 5)), no⟩, ⟨some 12, (.mv (.t 0)), no⟩, ⟨some 13, (.len false (.t 12)), no⟩, ⟨some 14, (.bin .lss (.t 11) (.t 13)), no⟩]) (.cond (.t 14) .skip (.exit 0))) (.seq (.blk 1 (.seq (.draw (.op ⟨some 17, (.mv (.t 0)), no⟩ (.op ⟨some 18, (.mv (.t 5)), no⟩ (.op ⟨some 19, (.ixa 1 (.t 17) (.t 18)), no⟩ (.op ⟨some 20, (.ld false 1 (.t 19)), no⟩ (.op ⟨some 21, (.mv (.t 1)), no⟩ (.op ⟨some 22, (.mv (.t 5)), no⟩ (.op ⟨some 23, (.ixa 1 (.t 21) (.t 22)), no⟩ (.op ⟨some 24, (.ld false 1 (.t 23)), no⟩ (.op ⟨some 25, (.bin .neq (.t 20) (.t 24)), no⟩ .fin)))))))))) (.cond (.t 25) (.seq
 (.reg [⟨some 4, (.mv (.k (.bool false))), no⟩]) .ret) .skip)))
 (.reg [⟨some 15, (.mv (.t 5)), no⟩, ⟨some 16, (.bin .add (.t 15) (.k (.int .i64 1))), no⟩, ⟨some 5, (.mv (.t 16)), no⟩])))))) (.seq
 (.reg [⟨some 4, (.mv (.k (.bool true))), no⟩]) .ret))))⟩
theorem a82_ok : compFn Tryz.prog Tryz.f82 = some a82 := by kernel_rfl
def a25 : AFn :=
⟨12, [(.t 4)], (.seq
 (.reg [⟨some 2, (.boxv (.t 0)), no⟩, ⟨some 4, (.mv (.k (.int .i64 0))), no⟩]) (.seq
 (.reg [⟨some 5, (.fld 1 (.t 2)), no⟩, ⟨some 6, (.ld false 1 (.t 5)), no⟩, ⟨some 7, (.mv (.t 1)), no⟩, ⟨some 8, (.call (.k (.fn (.func 85) [] [])) [(.t 6), (.t 7)]), no⟩, ⟨some 1, (.mv (.t 8)), no⟩]) (.seq (.seq
 (.reg [⟨some 9, (.mv (.t 1)), no⟩, ⟨some 10, (.bin .lss (.t 9) (.k (.int .i64 0))), no⟩]) (.cond (.t 10) (.seq
 (.reg [⟨some 4, (.mv (.k (.int .i64 (-1)))), no⟩]) .ret) .skip)) (.seq
 (.reg [⟨some 11, (.mv (.t 1)), no⟩, ⟨some 4, (.mv (.t 11)), no⟩]) .ret))))⟩
theorem a25_ok : compFn Tryz.prog Tryz.f25 = some a25 := by kernel_rfl
def a27 : AFn :=
⟨12, [(.c 2 true 2)], (.seq
 (.reg [⟨some 1, (.boxv (.t 0)), no⟩, ⟨some 2, (.box [(.int .i64 0), (.nil 1)]), no⟩]) (.seq
 (.reg [⟨some 3, (.box [(.int .i64 0), (.nil 1)]), no⟩]) (.seq
 (.reg [⟨some 4, (.fld 0 (.t 1)), no⟩, ⟨some 5, (.ld false 1 (.t 4)), no⟩, ⟨some 6, (.fld 0 (.t 3)), no⟩, ⟨no, (.st 1 (.t 6) (.t 5)), no⟩]) (.seq
 (.reg [⟨some 7, (.fld 1 (.t 1)), no⟩, ⟨some 8, (.ld false 1 (.t 7)), no⟩, ⟨some 9, (.call (.k (.fn (.func 88) [] [])) [(.t 8)]), no⟩, ⟨some 10, (.fld 1 (.t 3)), no⟩, ⟨no, (.st 1 (.t 10) (.t 9)), no⟩]) (.seq
 (.reg [⟨some 11, (.ld true 2 (.t 3)), no⟩, ⟨no, (.st 2 (.t 2) (.t 11)), no⟩]) .ret)))))⟩
theorem a27_ok : compFn Tryz.prog Tryz.f27 = some a27 := by kernel_rfl
def a29 : AFn :=
⟨16, [(.t 4)], (.seq
 (.reg [⟨some 2, (.boxv (.t 0)), no⟩, ⟨some 3, (.boxv (.t 1)), no⟩, ⟨some 4, (.mv (.k (.bool false))), no⟩]) (.seq (.seq
 (.reg [⟨some 5, (.fld 0 (.t 2)), no⟩, ⟨some 6, (.ld false 1 (.t 5)), no⟩, ⟨some 7, (.fld 0 (.t 3)), no⟩, ⟨some 8, (.ld false 1 (.t 7)), no⟩, ⟨some 9, (.bin .neq (.t 6) (.t 8)), no⟩]) (.cond (.t 9) (.seq
 (.reg [⟨some 4, (.mv (.k (.bool false))), no⟩]) .ret) .skip)) (.seq (.seq
 (.reg [⟨some 10, (.fld 1 (.t 2)), no⟩, ⟨some 11, (.ld false 1 (.t 10)), no⟩, ⟨some 12, (.fld 1 (.t 3)), no⟩, ⟨some 13, (.ld false 1 (.t 12)), no⟩, ⟨some 14, (.call (.k (.fn (.func 92) [] [])) [(.t 11), (.t 13)]), no⟩, ⟨some 15, (.un .not (.t 14)), no⟩]) (.cond (.t 15) (.seq
 (.reg [⟨some 4, (.mv (.k (.bool false))), no⟩]) .ret) .skip)) (.seq
 (.reg [⟨some 4, (.mv (.k (.bool true))), no⟩]) .ret))))⟩
theorem a29_ok : compFn Tryz.prog Tryz.f29 = some a29 := by kernel_rfl
def a15 : AFn :=
⟨16, [(.t 4)], (.seq
 (.reg [⟨some 2, (.boxv (.t 0)), no⟩, ⟨some 3, (.boxv (.t 1)), no⟩, ⟨some 4, (.mv (.k (.bool false))), no⟩]) (.seq (.seq
 (.reg [⟨some 5, (.fld 0 (.t 2)), no⟩, ⟨some 6, (.ld false 1 (.t 5)), no⟩, ⟨some 7, (.fld 0 (.t 3)), no⟩, ⟨some 8, (.ld false 1 (.t 7)), no⟩, ⟨some 9, (.bin .neq (.t 6) (.t 8)), no⟩]) (.cond (.t 9) (.seq
 (.reg [⟨some 4, (.mv (.k (.bool false))), no⟩]) .ret) .skip)) (.seq (.seq
 (.reg [⟨some 10, (.fld 1 (.t 2)), no⟩, ⟨some 11, (.ld false 1 (.t 10)), no⟩, ⟨some 12, (.fld 1 (.t 3)), no⟩, ⟨some 13, (.ld false 1 (.t 12)), no⟩, ⟨some 14, (.call (.k (.fn (.func 66) [] [])) [(.t 11), (.t 13)]), no⟩, ⟨some 15, (.un .not (.t 14)), no⟩]) (.cond (.t 15) (.seq
 (.reg [⟨some 4, (.mv (.k (.bool false))), no⟩]) .ret) .skip)) (.seq
 (.reg [⟨some 4, (.mv (.k (.bool true))), no⟩]) .ret))))⟩
theorem a15_ok : compFn Tryz.prog Tryz.f15 = some a15 := by kernel_rfl
theorem k_szIntS (l : List Int) (left : Int) (h0 : 0 ≤ left ∧ left ≤ 4611686018427387904) : Holds Tryz.prog 85 [.sl 1 (intsR l), i64 left] (fun r => r = i64 (sub1 left (wIntS l))) := by
  refine holds_of_run Tryz.func85 a85_ok rfl (by simp [a85]) ?_
  simp [a85]
  unfold LIM
  intro h1
  rw [wrap64 (by omega)]
  unfold sub1 wIntS
  exact ⟨fun h => by rw [if_pos h], fun h => by rw [if_neg (by omega)]⟩
theorem k_toIntS (a : List Int) (hw : wIntS a ≤ 1048576) : Holds Tryz.prog 88 [.sl 1 (intsR a)] (fun r => r = .us 1 (intsR a)) := by
  unfold wIntS at hw
  refine holds_of_run Tryz.func88 a88_ok rfl (by simp [a88]) ?_
  simp [a88]
  intro h1
  refine ⟨by unfold LIM; omega, rL_of (fun k s h n => ∃ (i : Nat) (rows : List (List AV)), k = a.length - i ∧ i ≤ a.length ∧ s 0 = ints a ∧ s 3 = .ref 0 0 a.length ∧ s 4 = i64 i ∧ h = upd noHeap 0 (some ⟨false, 1, rows⟩) ∧ n = 1 ∧
    rows.length = a.length ∧ (∀ j, j < i → rows[j]? = (intsR a)[j]?) ∧ (∀ j (hj : j < rows.length), rows[j].length = 1)) a.length ⟨0, List.replicate a.length [i64 0], by simp⟩ ?_⟩
  rintro k s h n ⟨i, rows, rfl, hi, s0, s3, s4, rfl, rfl, hr, hj, hc⟩
  by_cases hlt : i < a.length
  · have hm := hc i (by omega)
    have htl : rows[i].tail = [] := List.eq_nil_of_length_eq_zero (by simp [hm])
    simp [s0, s3, s4, hlt, hr, hm]
    intro _
    refine ⟨a.length - (i + 1), by omega, i + 1, rfl, by omega, by rw [wrap64 (by omega)]; rfl, rows.set i [i64 a[i]], by simp [htl], by simp [hr], fun j hj' => ?_, fun j hj' => ?_⟩
    · rw [List.getElem?_set]
      by_cases hji : i = j
      · subst hji; simp [hr, hlt]
      · rw [if_neg hji]; simpa using hj j (by omega)
    · rw [List.getElem_set]
      split
      · rfl
      · exact hc j (by simpa using hj')
  · simp [s0, s3, s4, hlt, hr]
    intro _
    have : rows = intsR a := List.ext_getElem? fun j => by
      by_cases hji : j < i
      · exact hj j hji
      · rw [List.getElem?_eq_none (by omega), List.getElem?_eq_none (by simp; omega)]
    subst this
    simp [List.take_of_length_le]
theorem k_eqIntS (a b : List Int) : Holds Tryz.prog 92 [.sl 1 (intsR a), .sl 1 (intsR b)] (fun r => r = .bool (decide (a = b))) := by
  refine holds_of_run Tryz.func92 a92_ok rfl (by simp [a92]) ?_
  simp [a92]
  intro h1 h2
  refine ⟨fun h e => h (by rw [e]), fun hl => rL_of (fun k s h n => ∃ i : Nat, k = a.length - i ∧ i ≤ a.length ∧ s 0 = ints a ∧ s 1 = ints b ∧ s 5 = i64 i ∧ (∀ j, j < i → a[j]? = b[j]?) ∧ h = noHeap ∧ n = 0) a.length ⟨0, by simp⟩ ?_⟩
  rintro k s h n ⟨i, rfl, hi, s0, s1, s5, hj, rfl, rfl⟩
  have hl : a.length = b.length := by omega
  by_cases hlt : i < a.length
  · have hlt' : i < b.length := by omega
    unfold LIM at h1
    simp [s0, s1, s5, hlt, hlt']
    intro _
    refine ⟨fun h e => h (by subst e; rfl), fun e => ⟨a.length - (i + 1), by omega, i + 1, rfl, by omega, by rw [wrap64 (by omega)]; rfl, fun j hj' => ?_⟩⟩
    by_cases hji : j = i
    · subst hji; simp [hlt, hlt', e]
    · exact hj j (by omega)
  · simp [s0, s1, s5, hlt]
    intro _
    refine List.ext_getElem? fun j => ?_
    by_cases hji : j < i
    · exact hj j hji
    · rw [List.getElem?_eq_none (by omega), List.getElem?_eq_none (by omega)]
theorem k_szStringS (l : List Str) (left : Int) (h0 : 0 ≤ left ∧ left ≤ 4611686018427387904) : Holds Tryz.prog 199 [.sl 1 (strsR l), i64 left] (fun r => r = i64 (sub1 left (wStringS l))) := by
  rw [show wStringS l = wL List.length l from rfl, ← szL_sub1 (w := List.length) (g := fun x lf => sub1 lf x.length) (fun _ _ _ => rfl) l left h0.1]
  refine holds_of_run Tryz.func199 a199_ok rfl (by simp [a199]) ?_
  simp [a199]
  intro h1
  unfold LIM at h1
  unfold szL
  rw [wrap64 (by omega)]
  refine ⟨fun h => by rw [if_pos (by omega)], fun h => rL_of (fun k s h n => ∃ (i : Nat) (lf : Int), k = l.length - i ∧ i ≤ l.length ∧ s 0 = strs l ∧ s 1 = i64 lf ∧ s 5 = i64 i ∧ 0 ≤ lf ∧ lf ≤ left ∧ szLoop (fun (x : Str) lf => sub1 lf x.length) (l.drop i) lf = szLoop (fun (x : Str) lf => sub1 lf x.length) l (left - l.length) ∧ h = noHeap ∧ n = 0) l.length ⟨0, left - l.length, by simp; omega⟩ ?_⟩
  rintro k s h n ⟨i, lf, rfl, hi, s0, s1, s5, hf, hlf, hj, rfl, rfl⟩
  rw [if_neg (by omega), ← hj]
  by_cases hlt : i < l.length
  · rw [List.drop_eq_getElem_cons hlt] at hj ⊢
    simp only [szLoop] at hj ⊢
    simp [s0, s1, s5, hlt]
    intro _ h2
    unfold LIM at h2
    rw [wrap64 (by omega)]
    by_cases hx : lf - (l[i].length : Int) < 0
    · rw [sub1_neg hx]
      simp; exact fun h => by omega
    · rw [sub1_pos hx] at hj ⊢
      rw [if_neg hx] at hj ⊢
      refine ⟨fun h => by omega, fun _ => ⟨l.length - (i + 1), by omega, i + 1, rfl, by omega, by rw [wrap64 (by omega)]; rfl, by omega, by omega, rfl⟩⟩
  · rw [List.drop_eq_nil_of_le (by omega)] at hj ⊢
    simp [s0, s1, s5, hlt, szLoop]
theorem k_toStringS (a : List Str) (hw : wStringS a ≤ 1048576) : Holds Tryz.prog 213 [.sl 1 (strsR a)] (fun r => r = .us 1 (strsR a)) := by
  have hw := Nat.le_trans (wL_len _ _) hw
  refine holds_of_run Tryz.func213 a213_ok rfl (by simp [a213]) ?_
  simp [a213]
  intro h1
  refine ⟨by unfold LIM; omega, rL_of (fun k s h n => ∃ (i : Nat) (rows : List (List AV)), k = a.length - i ∧ i ≤ a.length ∧ s 0 = strs a ∧ s 3 = .ref 0 0 a.length ∧ s 4 = i64 i ∧ h = upd noHeap 0 (some ⟨false, 1, rows⟩) ∧ n = 1 ∧
    rows.length = a.length ∧ (∀ j, j < i → rows[j]? = (strsR a)[j]?) ∧ (∀ j (hj : j < rows.length), rows[j].length = 1)) a.length ⟨0, List.replicate a.length [.str []], by simp⟩ ?_⟩
  rintro k s h n ⟨i, rows, rfl, hi, s0, s3, s4, rfl, rfl, hr, hj, hc⟩
  by_cases hlt : i < a.length
  · have hm := hc i (by omega)
    have htl : rows[i].tail = [] := List.eq_nil_of_length_eq_zero (by simp [hm])
    simp [s0, s3, s4, hlt, hr, hm]
    intro _
    refine ⟨a.length - (i + 1), by omega, i + 1, rfl, by omega, by rw [wrap64 (by omega)]; rfl, rows.set i [.str a[i]], by simp [htl], by simp [hr], fun j hj' => ?_, fun j hj' => ?_⟩
    · rw [List.getElem?_set]
      by_cases hji : i = j
      · subst hji; simp [hr, hlt]
      · rw [if_neg hji]; simpa using hj j (by omega)
    · rw [List.getElem_set]
      split
      · rfl
      · exact hc j (by simpa using hj')
  · simp [s0, s3, s4, hlt, hr]
    intro _
    have : rows = strsR a := List.ext_getElem? fun j => by
      by_cases hji : j < i
      · exact hj j hji
      · rw [List.getElem?_eq_none (by omega), List.getElem?_eq_none (by simp; omega)]
    subst this
    simp [List.take_of_length_le]
theorem k_eqStringS (a b : List Str) : Holds Tryz.prog 82 [.sl 1 (strsR a), .sl 1 (strsR b)] (fun r => r = .bool (decide (a = b))) := by
  refine holds_of_run Tryz.func82 a82_ok rfl (by simp [a82]) ?_
  simp [a82]
  intro h1 h2
  refine ⟨fun h e => h (by rw [e]), fun hl => rL_of (fun k s h n => ∃ i : Nat, k = a.length - i ∧ i ≤ a.length ∧ s 0 = strs a ∧ s 1 = strs b ∧ s 5 = i64 i ∧ (∀ j, j < i → a[j]? = b[j]?) ∧ h = noHeap ∧ n = 0) a.length ⟨0, by simp⟩ ?_⟩
  rintro k s h n ⟨i, rfl, hi, s0, s1, s5, hj, rfl, rfl⟩
  have hl : a.length = b.length := by omega
  by_cases hlt : i < a.length
  · have hlt' : i < b.length := by omega
    unfold LIM at h1
    simp [s0, s1, s5, hlt, hlt']
    intro _
    refine ⟨fun h e => h (by subst e; rfl), fun e => ⟨a.length - (i + 1), by omega, i + 1, rfl, by omega, by rw [wrap64 (by omega)]; rfl, fun j hj' => ?_⟩⟩
    by_cases hji : j = i
    · subst hji; simp [hlt, hlt', e]
    · exact hj j (by omega)
  · simp [s0, s1, s5, hlt]
    intro _
    refine List.ext_getElem? fun j => ?_
    by_cases hji : j < i
    · exact hj j hji
    · rw [List.getElem?_eq_none (by omega), List.getElem?_eq_none (by omega)]
theorem k_szLin (x : DLin) (left : Int) (h0 : 0 ≤ left ∧ left ≤ 4611686018427387904) : Holds Tryz.prog 25 [.agg (rALin x), i64 left] (fun r => r = i64 (sub1 left (wLin x))) := by
  refine holds_of_run Tryz.func25 a25_ok rfl (by simp [a25]) ?_
  simp [a25, rALin]
  have e0 : wLin x = wLin x := rfl
  conv at e0 => rhs; unfold wLin
  refine call_of (k_szIntS x.Coeffs left (by omega)) (by simp) ?_
  rintro r rfl
  by_cases h1 : left - (wIntS x.Coeffs : Nat) < 0
  case pos =>
    have q : left - (wLin x : Int) < 0 := by omega
    simp [sub1, h1, q]
    try first | omega | (constructor <;> intros <;> omega)
  simp [sub1, h1]
  try (rw [if_neg (by omega)]; omega)
theorem k_toLin (x : DLin) (_hw : wLin x ≤ 1048576) : Holds Tryz.prog 27 [.agg (rALin x)] (fun r => r = .agg (rULin x)) := by
  have hw := _hw; unfold wLin at hw
  refine holds_of_run Tryz.func27 a27_ok rfl (by simp [a27]) ?_
  simp [a27, rALin]
  refine call_of (k_toIntS x.Coeffs (by omega)) (by simp []) ?_
  rintro r rfl
  simp []
  try simp [rULin]
theorem k_eqLin (x y : DLin) : Holds Tryz.prog 29 [.agg (rALin x), .agg (rALin y)] (fun r => r = .bool (decide (x = y))) := by
  refine holds_of_run Tryz.func29 a29_ok rfl (by simp [a29]) ?_
  simp [a29, rALin]
  by_cases h0 : x.Const = y.Const
  case neg => simp [h0]; try exact fun e => h0 (by rw [e])
  simp [h0]
  refine call_of (k_eqIntS x.Coeffs y.Coeffs) (by simp []) ?_
  rintro r rfl
  by_cases h1 : x.Coeffs = y.Coeffs
  case neg => simp [h1]; try exact fun e => h1 (by rw [e])
  simp [h1]
  cases x; cases y; simp_all
theorem a124_ok : compFn Tryz.prog Tryz.f124 = some (tSz true 2 25) := by kernel_rfl
theorem k_szLinS (l : List DLin) (left : Int) (h0 : 0 ≤ left ∧ left ≤ 4611686018427387904) : Holds Tryz.prog 124 [.sl 2 (l.map rALin), i64 left] (fun r => r = i64 (sub1 left (wLinS l))) := by
  rw [show wLinS l = wL wLin l from rfl, ← szL_sub1 (w := wLin) (g := fun x lf => sub1 lf (wLin x)) (fun _ _ _ => rfl) l left h0.1]
  exact holds_tSz Tryz.func124 a124_ok rfl (rowOf := rALin) (eltOf := (fun x => .agg (rALin x))) (fun x => by simp [rALin]) (fun x h => by simp [rALin]) (fun x lf h => sub1_le h) l left h0 (fun x lf _ hl => k_szLin x lf hl)
theorem a128_ok : compFn Tryz.prog Tryz.f128 = some (tTo true 2 32 27 [.int .i64 0, .nil 1]) := by kernel_rfl
theorem k_toLinS (l : List DLin) (hw : wLinS l ≤ 1048576) : Holds Tryz.prog 128 [.sl 2 (l.map rALin)] (fun r => r = .us 2 (l.map rULin)) :=
  holds_tTo Tryz.func128 a128_ok rfl (rowOf := rALin) (eltOf := (fun x => .agg (rALin x))) (eltU := (fun x => .agg (rULin x))) (fun x => by simp [rALin]) (fun x h => by simp [rALin]) (fun x => by simp) (fun x => by simp [rULin]) (fun x => by simp [rULin]) rfl l (by have := wL_len wLin l; unfold wLinS at hw; unfold LIM; omega) (fun x h => k_toLin x (by have := wL_mem (w := wLin) h; unfold wLinS at hw; omega))
theorem a66_ok : compFn Tryz.prog Tryz.f66 = some (tEq true 2 29) := by kernel_rfl
theorem k_eqLinS (l m : List DLin) : Holds Tryz.prog 66 [.sl 2 (l.map rALin), .sl 2 (m.map rALin)] (fun r => r = .bool (decide (l = m))) := by
  rw [← eqL_dec]
  exact holds_tEq Tryz.func66 a66_ok rfl (rowOf := rALin) (eltOf := (fun x => .agg (rALin x))) (fun x => by simp [rALin]) (fun x h => by simp [rALin]) l m (fun x y _ _ => k_eqLin x y)
theorem k_eqSystem (x y : DSystem) : Holds Tryz.prog 15 [.agg (rASystem x), .agg (rASystem y)] (fun r => r = .bool (decide (x = y))) := by
  refine holds_of_run Tryz.func15 a15_ok rfl (by simp [a15]) ?_
  simp [a15, rASystem]
  by_cases h0 : x.N = y.N
  case neg => simp [h0]; try exact fun e => h0 (by rw [e])
  simp [h0]
  refine call_of (k_eqLinS x.Rows y.Rows) (by simp []) ?_
  rintro r rfl
  by_cases h1 : x.Rows = y.Rows
  case neg => simp [h1]; try exact fun e => h1 (by rw [e])
  simp [h1]
  cases x; cases y; simp_all
end Go.Proofs.YtilcageplifbgaaGreat

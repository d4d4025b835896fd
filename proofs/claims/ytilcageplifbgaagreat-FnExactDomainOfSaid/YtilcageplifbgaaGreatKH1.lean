/- Contracts: single variables, widened conditions, lowered constants. -/
import Derived.Test.YtilcageplifbgaaGreatKQ0
namespace Go.Proofs.YtilcageplifbgaaGreat
set_option linter.all false
open Go Go.RowKit Go.Proofs
def a65 : AFn :=
⟨24, [(.c 4 true 2)], (.seq
 (.reg [⟨some 4, (.box [(.int .i64 0), (.nil 1)]), no⟩]) (.seq (.seq
 (.reg [⟨some 6, (.mv (.t 1)), no⟩, ⟨some 7, (.call (.k (.fn (.func 98) [] [])) [(.t 6), (.k (.int .i64 0)), (.k (.int .i64 8))]), no⟩, ⟨some 8, (.un .not (.t 7)), no⟩, ⟨some 9, (.mv (.t 8)), no⟩, ⟨some 10, (.mv (.t 0)), (some (9, false))⟩, ⟨some 11, (.mv (.t 1)), (some (9, false))⟩, ⟨some 12, (.bin .sub (.t 11) (.k (.int .i64 1))), (some (9, false))⟩, ⟨some 13, (.call (.k (.fn (.func 98) [] [])) [(.t 10), (.k (.int .i64 0)), (.t 12)]), (some (9, false))⟩, ⟨some 14, (.un .not (.t 13)), (some (9, false))⟩, ⟨some 15, (.pick (.t 9) (.k (.bool true)) (.t 14)), no⟩]) (.cond (.t 15) (.seq
 (.reg [⟨some 16, (.build [(.int .i64 0), (.nil 1)] []), no⟩, ⟨no, (.st 2 (.t 4) (.t 16)), no⟩]) .ret) .skip)) (.seq
 (.reg [⟨some 17, (.mv (.t 1)), no⟩, ⟨some 18, (.call (.k (.fn (.func 103) [] [])) [(.k (.int .i64 0)), (.t 17)]), no⟩, ⟨some 5, (.box [(.int .i64 0), (.nil 1)]), no⟩, ⟨no, (.st 2 (.t 5) (.t 18)), no⟩]) (.seq
 (.reg [⟨some 19, (.fld 1 (.t 5)), no⟩, ⟨some 20, (.ld false 1 (.t 19)), no⟩, ⟨some 21, (.mv (.t 0)), no⟩, ⟨some 22, (.ixa 1 (.t 20) (.t 21)), no⟩, ⟨no, (.st 1 (.t 22) (.k (.int .i64 1))), no⟩]) (.seq
 (.reg [⟨some 23, (.ld true 2 (.t 5)), no⟩, ⟨no, (.st 2 (.t 4) (.t 23)), no⟩]) .ret)))))⟩
theorem a65_ok : compFn Tryz.prog Tryz.f65 = some a65 := by kernel_rfl
def a144 : AFn :=
⟨25, [(.c 4 true 2)], (.seq
 (.reg [⟨some 4, (.box [(.int .i64 0), (.nil 1)]), no⟩]) (.seq (.seq
 (.reg [⟨some 6, (.mv (.t 1)), no⟩, ⟨some 7, (.call (.k (.fn (.func 96) [] [])) [(.t 6), (.k (.int .i64 0)), (.k (.int .i64 8))]), no⟩, ⟨some 8, (.un .not (.t 7)), no⟩, ⟨some 9, (.mv (.t 8)), no⟩, ⟨some 10, (.mv (.t 0)), (some (9, false))⟩, ⟨some 11, (.mv (.t 1)), (some (9, false))⟩, ⟨some 12, (.bin .sub (.t 11) (.k (.int .i64 1))), (some (9, false))⟩, ⟨some 13, (.call (.k (.fn (.func 96) [] [])) [(.t 10), (.k (.int .i64 0)), (.t 12)]), (some (9, false))⟩, ⟨some 14, (.un .not (.t 13)), (some (9, false))⟩, ⟨some 15, (.pick (.t 9) (.k (.bool true)) (.t 14)), no⟩]) (.cond (.t 15) (.seq
 (.reg [⟨some 16, (.build [(.int .i64 0), (.nil 1)] []), no⟩, ⟨no, (.st 2 (.t 4) (.t 16)), no⟩]) .ret) .skip)) (.seq
 (.reg [⟨some 17, (.mv (.t 1)), no⟩, ⟨some 18, (.mks 8 [(.int .i64 0)] (.t 17) (.t 17)), no⟩, ⟨some 19, (.build [(.int .i64 0), (.nil 1)] [(1, (1, (.t 18)))]), no⟩, ⟨some 5, (.box [(.int .i64 0), (.nil 1)]), no⟩, ⟨no, (.st 2 (.t 5) (.t 19)), no⟩]) (.seq
 (.reg [⟨some 20, (.fld 1 (.t 5)), no⟩, ⟨some 21, (.ld false 1 (.t 20)), no⟩, ⟨some 22, (.mv (.t 0)), no⟩, ⟨some 23, (.ixa 1 (.t 21) (.t 22)), no⟩, ⟨no, (.st 1 (.t 23) (.k (.int .i64 1))), no⟩]) (.seq
 (.reg [⟨some 24, (.ld true 2 (.t 5)), no⟩, ⟨no, (.st 2 (.t 4) (.t 24)), no⟩]) .ret)))))⟩
theorem a144_ok : compFn Tryz.prog Tryz.f144 = some a144 := by kernel_rfl
def a145 : AFn :=
⟨29, [(.c 4 true 2)], (.seq
 (.reg [⟨some 2, (.boxv (.t 0)), no⟩, ⟨some 4, (.box [(.int .i64 0), (.nil 1)]), no⟩]) (.seq (.draw (.op ⟨some 7, (.fld 0 (.t 2)), no⟩ (.op ⟨some 8, (.ld false 1 (.t 7)), no⟩ (.op ⟨some 9, (.mv (.t 1)), no⟩ (.both (.op ⟨some 10, (.mks 8 [(.int .i64 0)] (.t 9) (.t 9)), no⟩ (.op ⟨some 11, (.build [(.int .i64 0), (.nil 1)] [(0, (1, (.t 8))), (1, (1, (.t 10)))]), no⟩ (.op ⟨some 5, (.box [(.int .i64 0), (.nil 1)]), no⟩ (.hop ⟨no, (.st 2 (.t 5) (.t 11)), no⟩ [] .fin)))) (.op ⟨some 5, (.box [(.int .i64 0), (.nil 1)]), no⟩ (.op ⟨some 10, (.mks 8 [(.int .i64 0)] (.t 9) (.t 9)), no⟩ (.op ⟨some 11, (.build [(.int .i64 0), (.nil 1)] [(0, (1, (.t 8))), (1, (1, (.t 10)))]), no⟩ (.hop ⟨no, (.st 2 (.t 5) (.t 11)), no⟩ [] .fin))))))))) (.seq (.seq
 (.reg [⟨some 6, (.mv (.k (.int .i64 0))), no⟩]) (.blk 0 (.loop (.seq (.seq
 (.reg [⟨some 12, (.mv (.t 6)), no⟩, ⟨some 13, (.fld 1 (.t 2)), no⟩, ⟨some 14, (.ld false 1 (.t 13)), no⟩, ⟨some 15, (.len false (.t 14)), no⟩, ⟨some 16, (.bin .lss (.t 12) (.t 15)), no⟩]) (.cond (.t 16) .skip (.exit 0))) (.seq (.blk 1 (.draw (.op ⟨some 19, (.fld 1 (.t 5)), no⟩ (.op ⟨some 20, (.ld false 1 (.t 19)), no⟩ (.op ⟨some 21, (.mv (.t 6)), no⟩ (.op ⟨some 22, (.fld 1 (.t 2)), no⟩ (.op ⟨some 23, (.ld false 1 (.t 22)), no⟩ (.op ⟨some 24, (.mv (.t 6)), no⟩ (.op ⟨some 25, (.ixa 1 (.t 23) (.t 24)), no⟩ (.op ⟨some 26, (.ld false 1 (.t 25)), no⟩ (.op ⟨some 27, (.ixa 1 (.t 20) (.t 21)), no⟩ (.hop ⟨no, (.st 1 (.t 27) (.t 26)), no⟩ [] .fin))))))))))))
 (.reg [⟨some 17, (.mv (.t 6)), no⟩, ⟨some 18, (.bin .add (.t 17) (.k (.int .i64 1))), no⟩, ⟨some 6, (.mv (.t 18)), no⟩])))))) (.seq
 (.reg [⟨some 28, (.ld true 2 (.t 5)), no⟩, ⟨no, (.st 2 (.t 4) (.t 28)), no⟩]) .ret))))⟩
theorem a145_ok : compFn Tryz.prog Tryz.f145 = some a145 := by kernel_rfl
theorem k_VarLin (i n : Int) : Holds Tryz.prog 65 [i64 i, i64 n] (fun r => r = .agg (rULin (varL i n))) := by
  refine holds_of_run Tryz.func65 a65_ok rfl (by simp [a65]) ?_
  simp [a65]
  first | refine callD_of (k_within n 0 8) (by simp) ?_ | refine call_of (k_within n 0 8) (by simp) ?_ | refine callD_of (k_within n 0 8) rfl ?_ | refine call_of (k_within n 0 8) rfl ?_
  rintro r rfl
  unfold varL
  cases h1 : inR n 0 8
  · simp [rULin, intsR, lin0]
  have hn : 0 ≤ n ∧ n ≤ 8 := by simpa [inR] using h1
  have hw : IntKind.i64.wrap (n - 1) = n - 1 := wrap64 (by omega)
  simp [hw]
  first | refine callD_of (k_within i 0 (n - 1)) (by simp) ?_ | refine call_of (k_within i 0 (n - 1)) (by simp) ?_ | refine callD_of (k_within i 0 (n - 1)) rfl ?_ | refine call_of (k_within i 0 (n - 1)) rfl ?_
  rintro r rfl
  cases h2 : inR i 0 (n - 1)
  · simp [rULin, intsR, lin0]
  have hi : 0 ≤ i ∧ i ≤ n - 1 := by simpa [inR] using h2
  obtain ⟨m, rfl⟩ : ∃ m : Nat, n = m := ⟨n.toNat, by omega⟩
  obtain ⟨j, rfl⟩ : ∃ j : Nat, i = j := ⟨i.toNat, by omega⟩
  have hj : j < m := by omega
  have hc : constLin 0 m = ⟨0, List.replicate m 0⟩ := (constLin_ok (by decide) (by omega)).1
  simp
  first | refine callD_of (k_ConstLin 0 m) (by simp) ?_ | refine call_of (k_ConstLin 0 m) (by simp) ?_ | refine callD_of (k_ConstLin 0 m) rfl ?_ | refine call_of (k_ConstLin 0 m) rfl ?_
  rintro r rfl
  simp [hc, rULin, hj]
  have e : (List.replicate m [AV.int .i64 0]).set j [AV.int .i64 1] = intsR ((List.replicate m 0).set j 1) := by rw [← intsR_rep, intsR_set]
  rw [e, List.take_of_length_le (by simp)]
  simp
theorem ks_VarLin (i n : Int) : Holds Tryz.prog 144 [i64 i, i64 n] (fun r => r = .agg (rULin (varL i n))) := by
  refine holds_of_run Tryz.func144 a144_ok rfl (by simp [a144]) ?_
  simp [a144]
  first | refine callD_of (k_l1In n 0 8) (by simp) ?_ | refine call_of (k_l1In n 0 8) (by simp) ?_ | refine callD_of (k_l1In n 0 8) rfl ?_ | refine call_of (k_l1In n 0 8) rfl ?_
  rintro r rfl
  unfold varL
  cases h1 : inR n 0 8
  · simp [rULin, intsR, lin0]
  have hn : 0 ≤ n ∧ n ≤ 8 := by simpa [inR] using h1
  have hw : IntKind.i64.wrap (n - 1) = n - 1 := wrap64 (by omega)
  simp [hw]
  first | refine callD_of (k_l1In i 0 (n - 1)) (by simp) ?_ | refine call_of (k_l1In i 0 (n - 1)) (by simp) ?_ | refine callD_of (k_l1In i 0 (n - 1)) rfl ?_ | refine call_of (k_l1In i 0 (n - 1)) rfl ?_
  rintro r rfl
  cases h2 : inR i 0 (n - 1)
  · simp [rULin, intsR, lin0]
  have hi : 0 ≤ i ∧ i ≤ n - 1 := by simpa [inR] using h2
  obtain ⟨m, rfl⟩ : ∃ m : Nat, n = m := ⟨n.toNat, by omega⟩
  obtain ⟨j, rfl⟩ : ∃ j : Nat, i = j := ⟨i.toNat, by omega⟩
  have hj : j < m := by omega
  have hm : (m : Int) * 8 ≤ LIM := by unfold LIM; omega
  simp [hj, hm, rULin]
  have e : (List.replicate m [AV.int .i64 0]).set j [AV.int .i64 1] = intsR ((List.replicate m 0).set j 1) := by rw [← intsR_rep, intsR_set]
  rw [e, List.take_of_length_le (by simp)]
  simp
def padI (l : List Int) (n i : Nat) : List Int := l.take i ++ List.replicate (n - i) 0
theorem padI_set {l : List Int} {n i : Nat} (hi : i < l.length) (hn : l.length ≤ n) : (padI l n i).set i l[i] = padI l n (i + 1) := by
  unfold padI
  rw [List.set_append_right i l[i] (by simp; omega)]
  have h1 : i - (l.take i).length = 0 := by simp; omega
  obtain ⟨k, hk⟩ : ∃ k, n - i = k + 1 := ⟨n - i - 1, by omega⟩
  rw [h1, hk, List.take_succ_eq_append_getElem hi, List.append_assoc]
  have : n - (i + 1) = k := by omega
  rw [this]; simp [List.replicate_succ]
theorem padI_len {l : List Int} {n i : Nat} (hi : i ≤ l.length) (hn : l.length ≤ n) : (padI l n i).length = n := by unfold padI; simp; omega
theorem ks_l14Widen (x : DLin) (n : Nat) (hxn : x.Coeffs.length ≤ n) (hn : n ≤ 1048576) : Holds Tryz.prog 145 [.agg (rALin x), i64 n] (fun r => r = .agg (rULin (widen n x))) := by
  have hm : (n : Int) * 8 ≤ LIM := by unfold LIM; omega
  refine holds_of_run Tryz.func145 a145_ok rfl (by simp [a145]) ?_
  simp [a145, rALin, hm]
  refine ⟨?_, ?_⟩
  all_goals
    refine rL_forO [1, 2, 4] 6 x.Coeffs.length (fun i s h m => ∃ a b, ((a = 2 ∧ b = 3) ∨ (a = 3 ∧ b = 2)) ∧ 3 < m ∧ s 5 = .ptr b 0 0 ∧ h 0 = some ⟨true, 2, [[.int .i64 x.Const, .sl 1 (intsR x.Coeffs)]]⟩ ∧ h 1 = some ⟨true, 2, [[.int .i64 0, .nil 1]]⟩ ∧ h b = some ⟨true, 2, [[.int .i64 x.Const, .ref a 0 n]]⟩ ∧ h a = some ⟨false, 1, intsR (padI x.Coeffs n i)⟩) (by unfold LIM; omega) (by simp) ?_ ?_ ?_
    · first
      | (refine ⟨2, 3, .inl ⟨rfl, rfl⟩, ?_⟩; simp [padI]; done)
      | (refine ⟨3, 2, .inr ⟨rfl, rfl⟩, ?_⟩; simp [padI]; done)
    · rintro i s h m R hi hg hk s6 hw ⟨a, b, hab, hm3, s5, e0, e1, eb, ea⟩ hR _ _
      simp at hk
      have hpl := padI_len (l := x.Coeffs) (n := n) (Nat.le_of_lt hi) hxn
      have hin : i < n := by omega
      rcases hab with ⟨rfl, rfl⟩ | ⟨rfl, rfl⟩
      · simp [hk, s6, s5, hi, e0, e1, eb, ea, hin, hw, hpl]
        intro _
        refine hR _ _ _ (by simp [hk]) (by simp) ⟨2, 3, .inl ⟨rfl, rfl⟩, by omega, by simp [hk, s5], by simp [e0], by simp [e1], by simp [eb], ?_⟩
        simp [← padI_set hi hxn]
      · simp [hk, s6, s5, hi, e0, e1, eb, ea, hin, hw, hpl]
        intro _
        refine hR _ _ _ (by simp [hk]) (by simp) ⟨3, 2, .inr ⟨rfl, rfl⟩, by omega, by simp [hk, s5], by simp [e0], by simp [e1], by simp [eb], ?_⟩
        simp [← padI_set hi hxn]
    · rintro s h m R hk s6 ⟨a, b, hab, hm3, s5, e0, e1, eb, ea⟩ _ hX
      simp at hk
      have hpe : padI x.Coeffs n x.Coeffs.length = (widen n x).Coeffs := by simp [padI, widen]
      have hwl : (widen n x).Coeffs.length = n := by simp [widen]; omega
      have hwc : (widen n x).Const = x.Const := rfl
      rw [hpe] at ea
      rcases hab with ⟨rfl, rfl⟩ | ⟨rfl, rfl⟩
      · simp [hk, s6, s5, e0, e1, eb, ea]
        intro _
        refine hX _ _ _ _ ?_
        simp [hk, s5, e1, eb, ea, rULin, hwl, hwc, List.take_of_length_le]
      · simp [hk, s6, s5, e0, e1, eb, ea]
        intro _
        refine hX _ _ _ _ ?_
        simp [hk, s5, e1, eb, ea, rULin, hwl, hwc, List.take_of_length_le]
def AccV (b z : Nat) (rows : List (List AV)) (v : AV) (h : Heap) (n : Nat) : Prop := (rows = [] ∧ v = .nil z) ∨ ∃ id, b < id ∧ id < n ∧ v = .ref id 0 rows.length ∧ h id = some ⟨false, z, rows⟩
end Go.Proofs.YtilcageplifbgaaGreat

/- Contracts: combinations of rows. -/
import Derived.Test.YtlbdgpkgmheikaaC4
namespace Go.Proofs.Ytlbdgpkgmheikaa
open Go Go.RowKit Go.Proofs
def a203 : AFn :=
⟨6, [(.t 2)], (.seq 
 (.reg [⟨some 2, (.mv (.k (.bool false))), no⟩]) (.seq 
 (.reg [⟨some 3, (.mv (.t 0)), no⟩, ⟨some 4, (.call (.k (.fn (.func 102) [] [])) [(.t 3), (.k (.int .i64 0)), (.k (.int .i64 1000000000))]), no⟩, ⟨some 5, (.un .not (.t 4)), no⟩, ⟨some 2, (.mv (.t 5)), no⟩]) .ret))⟩
theorem a203_ok : compFn Try.prog Try.f203 = some a203 := by kernel_rfl

def a164 : AFn :=
⟨52, [(.c 4 true 2), (.t 5)], (.seq 
 (.reg [⟨some 2, (.boxv (.t 0)), no⟩, ⟨some 4, (.box [(.int .i64 0), (.nil 1)]), no⟩, ⟨some 5, (.mv (.k (.bool false))), no⟩]) (.seq (.seq 
 (.reg [⟨some 10, (.ld true 2 (.t 2)), no⟩, ⟨some 11, (.call (.k (.fn (.func 163) [] [])) [(.t 10)]), no⟩, ⟨some 12, (.un .not (.t 11)), no⟩, ⟨some 13, (.mv (.t 12)), no⟩, ⟨some 14, (.mv (.t 1)), (some (13, false))⟩, ⟨some 15, (.len false (.t 14)), (some (13, false))⟩, ⟨some 16, (.fld 1 (.t 2)), (some (13, false))⟩, ⟨some 17, (.ld false 1 (.t 16)), (some (13, false))⟩, ⟨some 18, (.len false (.t 17)), (some (13, false))⟩, ⟨some 19, (.bin .neq (.t 15) (.t 18)), (some (13, false))⟩, ⟨some 20, (.pick (.t 13) (.k (.bool true)) (.t 19)), no⟩, ⟨some 21, (.mv (.t 20)), no⟩, ⟨some 22, (.mv (.t 1)), (some (21, false))⟩, ⟨some 23, (.call (.k (.fn (.func 148) [] [])) [(.t 22), (.k (.fn (.func 203) [] []))]), (some (21, false))⟩, ⟨some 24, (.pick (.t 21) (.k (.bool true)) (.t 23)), no⟩]) (.cond (.t 24) (.seq 
 (.reg [⟨some 25, (.build [(.int .i64 0), (.nil 1)] []), no⟩, ⟨no, (.st 2 (.t 4) (.t 25)), no⟩, ⟨some 5, (.mv (.k (.bool false))), no⟩]) .ret) .skip)) (.seq 
 (.reg [⟨some 26, (.fld 0 (.t 2)), no⟩, ⟨some 27, (.ld false 1 (.t 26)), no⟩, ⟨some 28, (.call (.k (.fn (.func 81) [] [])) [(.k (.int .i64 0)), (.t 27)]), no⟩, ⟨some 6, (.box [(.int .i64 0), (.nil 1)]), no⟩, ⟨no, (.st 2 (.t 6) (.t 28)), no⟩]) (.seq 
 (.reg [⟨some 7, (.mv (.k (.bool true))), no⟩]) (.seq (.seq 
 (.reg [⟨some 29, (.mv (.t 1)), no⟩, ⟨some 30, (.len false (.t 29)), no⟩, ⟨some 31, (.mv (.k (.int .i64 0))), no⟩]) (.blk 0 (.loop (.seq 
 (.reg [⟨some 32, (.bin .lss (.t 31) (.t 30)), no⟩]) (.seq (.cond (.t 32) .skip (.exit 0)) (.seq (.blk 1 (.seq 
 (.reg [⟨some 33, (.mv (.t 31)), no⟩, ⟨some 34, (.ixa 1 (.t 29) (.t 31)), no⟩, ⟨some 35, (.ld false 1 (.t 34)), no⟩, ⟨some 8, (.mv (.t 33)), no⟩, ⟨some 9, (.mv (.t 35)), no⟩]) (.seq (.draw (.op ⟨some 37, (.ld true 2 (.t 6)), no⟩ (.op ⟨some 38, (.mv (.t 9)), no⟩ (.op ⟨some 39, (.fld 1 (.t 2)), no⟩ (.op ⟨some 40, (.ld false 1 (.t 39)), no⟩ (.op ⟨some 41, (.mv (.t 8)), no⟩ (.op ⟨some 42, (.ixa 2 (.t 40) (.t 41)), no⟩ (.op ⟨some 43, (.ld true 2 (.t 42)), no⟩ (.op ⟨some 44, (.call (.k (.fn (.func 82) [] [])) [(.t 37), (.t 38), (.t 43)]), no⟩ (.op ⟨some 36, (.mv (.t 44)), no⟩ (.op ⟨some 45, (.ext (.t 36) 0), no⟩ (.op ⟨some 46, (.ext (.t 36) 1), no⟩ (.hop ⟨no, (.st 2 (.t 6) (.t 45)), no⟩ [] (.op ⟨some 7, (.mv (.t 46)), no⟩ .fin)))))))))))))) (.seq 
 (.reg [⟨some 47, (.mv (.t 7)), no⟩, ⟨some 48, (.un .not (.t 47)), no⟩]) (.cond (.t 48) (.seq 
 (.reg [⟨some 49, (.build [(.int .i64 0), (.nil 1)] []), no⟩, ⟨no, (.st 2 (.t 4) (.t 49)), no⟩, ⟨some 5, (.mv (.k (.bool false))), no⟩]) .ret) .skip))))) 
 (.reg [⟨some 50, (.bin .add (.t 31) (.k (.int .i64 1))), no⟩, ⟨some 31, (.mv (.t 50)), no⟩]))))))) (.seq 
 (.reg [⟨some 51, (.ld true 2 (.t 6)), no⟩, ⟨no, (.st 2 (.t 4) (.t 51)), no⟩, ⟨some 5, (.mv (.k (.bool true))), no⟩]) .ret))))))⟩
theorem a164_ok : compFn Try.prog Try.f164 = some a164 := by kernel_rfl

def a161 : AFn :=
⟨57, [(.c 4 true 2), (.t 5)], (.seq 
 (.reg [⟨some 2, (.boxv (.t 0)), no⟩, ⟨some 4, (.box [(.int .i64 0), (.nil 1)]), no⟩, ⟨some 5, (.mv (.k (.bool false))), no⟩]) (.seq (.seq 
 (.reg [⟨some 10, (.ld true 2 (.t 2)), no⟩, ⟨some 11, (.call (.k (.fn (.func 172) [] [])) [(.t 10)]), no⟩, ⟨some 12, (.un .not (.t 11)), no⟩, ⟨some 13, (.mv (.t 12)), no⟩, ⟨some 14, (.mv (.t 1)), (some (13, false))⟩, ⟨some 15, (.len false (.t 14)), (some (13, false))⟩, ⟨some 16, (.fld 1 (.t 2)), (some (13, false))⟩, ⟨some 17, (.ld false 1 (.t 16)), (some (13, false))⟩, ⟨some 18, (.len false (.t 17)), (some (13, false))⟩, ⟨some 19, (.bin .neq (.t 15) (.t 18)), (some (13, false))⟩, ⟨some 20, (.pick (.t 13) (.k (.bool true)) (.t 19)), no⟩]) (.cond (.t 20) (.seq 
 (.reg [⟨some 21, (.build [(.int .i64 0), (.nil 1)] []), no⟩, ⟨no, (.st 2 (.t 4) (.t 21)), no⟩, ⟨some 5, (.mv (.k (.bool false))), no⟩]) .ret) .skip)) (.seq 
 (.reg [⟨some 22, (.fld 0 (.t 2)), no⟩, ⟨some 23, (.ld false 1 (.t 22)), no⟩, ⟨some 24, (.call (.k (.fn (.func 74) [] [])) [(.k (.int .i64 0)), (.t 23)]), no⟩, ⟨some 6, (.box [(.int .i64 0), (.nil 1)]), no⟩, ⟨no, (.st 2 (.t 6) (.t 24)), no⟩]) (.seq (.seq 
 (.reg [⟨some 7, (.mv (.k (.int .i64 0))), no⟩]) (.blk 0 (.loop (.seq (.seq 
 (.reg [⟨some 25, (.mv (.t 7)), no⟩, ⟨some 26, (.mv (.t 1)), no⟩, ⟨some 27, (.len false (.t 26)), no⟩, ⟨some 28, (.bin .lss (.t 25) (.t 27)), no⟩]) (.cond (.t 28) .skip (.exit 0))) (.seq (.blk 1 (.seq (.draw (.op ⟨some 32, (.ld true 2 (.t 6)), no⟩ (.op ⟨some 33, (.mv (.t 1)), no⟩ (.op ⟨some 34, (.mv (.t 7)), no⟩ (.op ⟨some 35, (.ixa 1 (.t 33) (.t 34)), no⟩ (.op ⟨some 36, (.ld false 1 (.t 35)), no⟩ (.op ⟨some 37, (.fld 1 (.t 2)), no⟩ (.op ⟨some 38, (.ld false 1 (.t 37)), no⟩ (.op ⟨some 39, (.mv (.t 7)), no⟩ (.op ⟨some 40, (.ixa 2 (.t 38) (.t 39)), no⟩ (.op ⟨some 41, (.ld true 2 (.t 40)), no⟩ (.both (.op ⟨some 42, (.call (.k (.fn (.func 76) [] [])) [(.t 32), (.t 36), (.t 41)]), no⟩ (.op ⟨some 31, (.mv (.t 42)), no⟩ (.op ⟨some 43, (.ext (.t 31) 0), no⟩ (.op ⟨some 44, (.ext (.t 31) 1), no⟩ (.op ⟨some 8, (.box [(.int .i64 0), (.nil 1)]), no⟩ (.hop ⟨no, (.st 2 (.t 8) (.t 43)), no⟩ [] (.op ⟨some 9, (.mv (.t 44)), no⟩ .fin))))))) (.op ⟨some 8, (.box [(.int .i64 0), (.nil 1)]), no⟩ (.op ⟨some 42, (.call (.k (.fn (.func 76) [] [])) [(.t 32), (.t 36), (.t 41)]), no⟩ (.op ⟨some 31, (.mv (.t 42)), no⟩ (.op ⟨some 43, (.ext (.t 31) 0), no⟩ (.op ⟨some 44, (.ext (.t 31) 1), no⟩ (.hop ⟨no, (.st 2 (.t 8) (.t 43)), no⟩ [] (.op ⟨some 9, (.mv (.t 44)), no⟩ .fin))))))))))))))))))) (.seq (.seq 
 (.reg [⟨some 45, (.mv (.t 9)), no⟩, ⟨some 46, (.un .not (.t 45)), no⟩, ⟨some 47, (.mv (.t 46)), no⟩, ⟨some 48, (.mv (.t 1)), (some (47, false))⟩, ⟨some 49, (.mv (.t 7)), (some (47, false))⟩, ⟨some 50, (.ixa 1 (.t 48) (.t 49)), (some (47, false))⟩, ⟨some 51, (.ld false 1 (.t 50)), (some (47, false))⟩, ⟨some 52, (.bin .lss (.t 51) (.k (.int .i64 0))), (some (47, false))⟩, ⟨some 53, (.pick (.t 47) (.k (.bool true)) (.t 52)), no⟩]) (.cond (.t 53) (.seq 
 (.reg [⟨some 54, (.build [(.int .i64 0), (.nil 1)] []), no⟩, ⟨no, (.st 2 (.t 4) (.t 54)), no⟩, ⟨some 5, (.mv (.k (.bool false))), no⟩]) .ret) .skip)) 
 (.reg [⟨some 55, (.ld true 2 (.t 8)), no⟩, ⟨no, (.st 2 (.t 6) (.t 55)), no⟩])))) 
 (.reg [⟨some 29, (.mv (.t 7)), no⟩, ⟨some 30, (.bin .add (.t 29) (.k (.int .i64 1))), no⟩, ⟨some 7, (.mv (.t 30)), no⟩])))))) (.seq 
 (.reg [⟨some 56, (.ld true 2 (.t 6)), no⟩, ⟨no, (.st 2 (.t 4) (.t 56)), no⟩, ⟨some 5, (.mv (.k (.bool true))), no⟩]) .ret)))))⟩
theorem a161_ok : compFn Try.prog Try.f161 = some a161 := by kernel_rfl



def goComb : List (Int × DLin) → DLin → Option DLin
  | [], o => some o
  | p :: l, o => match addScaled o p.1 p.2 with
    | some o' => if p.1 < 0 then Option.none else goComb l o'
    | Option.none => Option.none
def combO (x : DSystem) (m : List Int) : Option DLin :=
  if okSys x && decide (m.length = x.Rows.length) then goComb (m.zip x.Rows) (constLin 0 x.N) else Option.none

theorem goComb_bad : ∀ (l : List (Int × DLin)) (o : DLin), (∃ p ∈ l, inR p.1 0 1000000000 = false) → goComb l o = Option.none
  | [], o, h => by obtain ⟨p, hp, _⟩ := h; cases hp
  | q :: l, o, h => by
    obtain ⟨p, hp, hb⟩ := h
    simp only [goComb]
    split
    · rename_i o' ho
      split
      · rfl
      · rename_i hq
        rcases List.mem_cons.1 hp with rfl | hp
        · exfalso
          have hk : okC p.1 = true := by
            cases hc : okC p.1
            · unfold addScaled at ho; rw [hc] at ho; simp at ho
            · rfl
          rw [okC_iff] at hk
          simp [inR] at hb
          omega
        · exact goComb_bad l o' ⟨p, hp, hb⟩
    · rfl

theorem zip_bad {m : List Int} {rows : List DLin} (hl : m.length = rows.length) (h : m.all (fun v => inR v 0 1000000000) = false) : ∃ p ∈ m.zip rows, inR p.1 0 1000000000 = false := by
  rw [List.all_eq_false] at h
  obtain ⟨v, hv, hb⟩ := h
  obtain ⟨i, hi, rfl⟩ := List.mem_iff_getElem.1 hv
  exact ⟨(m[i], rows[i]), List.mem_iff_getElem.2 ⟨i, by simp; omega, by simp⟩, by simpa using hb⟩

theorem k_CombineRows1 (n : Int) : Holds Try.prog 203 [i64 n] (fun r => r = .bool (!(inR n 0 1000000000))) := by
  refine holds_of_run Try.func203 a203_ok rfl (by simp [a203]) ?_
  simp [a203]
  first | refine callD_of (k_within n 0 1000000000) (by simp) ?_ | refine call_of (k_within n 0 1000000000) (by simp) ?_ | refine callD_of (k_within n 0 1000000000) rfl ?_ | refine call_of (k_within n 0 1000000000) rfl ?_
  rintro r rfl
  simp

set_option maxRecDepth 20000 in
set_option maxHeartbeats 1000000 in
theorem k_CombineRows (x : DSystem) (m : List Int) : Holds Try.prog 164 [.agg (rASystem x), .sl 1 (intsR m)] (fun r => r = optLin (combO x m)) := by
  refine holds_of_run Try.func164 a164_ok rfl (by simp [a164]) ?_
  simp [a164, rASystem]
  first | refine callD_of (k_IsValidSystem x) (by simp [rASystem]) ?_ | refine call_of (k_IsValidSystem x) (by simp [rASystem]) ?_ | refine callD_of (k_IsValidSystem x) rfl ?_ | refine call_of (k_IsValidSystem x) rfl ?_
  rintro r rfl
  unfold combO
  cases h1 : okSys x
  · simp [optLin, lin0, rULin, intsR]
  simp
  intro hlm hlr
  by_cases h2 : m.length = x.Rows.length
  case neg => simp [h2, optLin, lin0, rULin, intsR]; omega
  simp [h2]
  refine acall_tContainsFunc (p := fun n => !(inR n 0 1000000000)) (rowOf := fun n => [i64 n]) (eltOf := i64) Try.func148 a148_ok rfl Try.func195 a195_ok rfl (fun x => by simp) m
    (fun x _ => pure1_of_holds (k_CombineRows1 x) rfl rfl) ?_
  rw [any_not (fun n : Int => inR n 0 1000000000)]
  cases h3 : m.all (fun n => inR n 0 1000000000)
  · rw [goComb_bad _ _ (zip_bad h2 h3)]
    simp [optLin, lin0, rULin, intsR]
  simp
  first | refine callD_of (k_ConstLin 0 x.N) (by simp) ?_ | refine call_of (k_ConstLin 0 x.N) (by simp) ?_ | refine callD_of (k_ConstLin 0 x.N) rfl ?_ | refine call_of (k_ConstLin 0 x.N) rfl ?_
  rintro r rfl
  simp [rULin]
  intro _
  have hzl : (m.zip x.Rows).length = m.length := by simp [h2]
  refine rL_forO [2, 4, 6, 29, 30] 31 m.length (fun i s h n => h 0 = some ⟨true, 2, [[.int .i64 x.N, .sl 2 (x.Rows.map rALin)]]⟩ ∧ h 1 = some ⟨true, 2, [[.int .i64 0, .nil 1]]⟩ ∧ 3 < n ∧
      ∃ (o : DLin) (id : Nat), h 3 = some ⟨true, 2, [[.int .i64 o.Const, .ref id 0 o.Coeffs.length]]⟩ ∧ h id = some ⟨false, 1, intsR o.Coeffs⟩ ∧ id < n ∧ (id = 2 ∨ 3 < id) ∧ goComb ((m.zip x.Rows).drop i) o = goComb (m.zip x.Rows) (constLin 0 x.N))
    hlm (by simp) ⟨by simp, by simp, by simp, constLin 0 x.N, 2, by simp, by simp, by omega, by omega, rfl⟩ ?_ ?_
  · rintro i s h n R hi hg hk s31 hw ⟨e0, e1, hn, o, id, e3, eid, hidn, hid, hJ⟩ hR hret _
    simp at hk
    have hir : i < x.Rows.length := by omega
    rw [List.drop_eq_getElem_cons (by omega : i < (m.zip x.Rows).length)] at hJ
    simp only [goComb, List.getElem_zip] at hJ
    have hm := List.all_eq_true.1 h3 _ (List.getElem_mem hi)
    simp [inR] at hm
    have n0 : ¬ 0 = n := by omega
    have n1 : ¬ 1 = n := by omega
    have n3 : ¬ 3 = n := by omega
    have n3' : ¬ n = 3 := by omega
    have nid : ¬ id = n := by omega
    simp [hk, s31, hi, hg, hw, hir, e0, e1, e3, eid]
    first | refine callD_of (k_AddScaled o (m[i]'hi) (x.Rows[i]'hir)) (by simp [rALin, eid]) ?_ | refine call_of (k_AddScaled o (m[i]'hi) (x.Rows[i]'hir)) (by simp [rALin, eid]) ?_ | refine callD_of (k_AddScaled o (m[i]'hi) (x.Rows[i]'hir)) rfl ?_ | refine call_of (k_AddScaled o (m[i]'hi) (x.Rows[i]'hir)) rfl ?_
    rintro r rfl
    cases ho : addScaled o m[i] x.Rows[i]
    · rw [ho] at hJ
      simp [optLin, lin0, rULin, hk, e0, e1, e3, n0, n1, n3, n3']
      refine hret _ _ _ ?_
      simp [hk, ← hJ, optLin, lin0, rULin, intsR]
    · rename_i o'
      rw [ho] at hJ
      simp only at hJ
      rw [if_neg (by omega)] at hJ
      simp [optLin, rULin, hk, s31, hw, e0, e1, e3, n0, n1, n3, n3']
      exact hR _ _ _ (by simp [hk]) (by simp) ⟨by simp [e0, n0], by simp [e1, n1], by omega, o', n, by simp, by simp [n3'], by omega, by omega, hJ⟩
  · rintro s h n R hk s31 ⟨e0, e1, hn, o, id, e3, eid, hidn, hid, hJ⟩ hret hX
    simp at hk
    rw [List.drop_eq_nil_of_le (by omega)] at hJ
    simp only [goComb] at hJ
    simp [hk, s31]
    refine hX _ _ _ _ ?_
    have i1 : ¬ 1 = id := by omega
    have i1' : ¬ id = 1 := by omega
    simp [hk, e1, e3, eid, ← hJ, optLin, rULin, i1, i1']

set_option maxRecDepth 20000 in
set_option maxHeartbeats 2000000 in
theorem ks_CombineRows (x : DSystem) (m : List Int) : Holds Try.prog 161 [.agg (rASystem x), .sl 1 (intsR m)] (fun r => r = optLin (combO x m)) := by
  refine holds_of_lim Try.func161 rfl rfl fun hlm => ?_
  simp [rASystem] at hlm
  refine holds_of_run Try.func161 a161_ok rfl (by simp [a161]) ?_
  simp [a161, rASystem]
  first | refine callD_of (ks_IsValidSystem x) (by simp [rASystem]) ?_ | refine call_of (ks_IsValidSystem x) (by simp [rASystem]) ?_ | refine callD_of (ks_IsValidSystem x) rfl ?_ | refine call_of (ks_IsValidSystem x) rfl ?_
  rintro r rfl
  unfold combO
  cases h1 : okSys x
  · simp [optLin, lin0, rULin, intsR]
  simp
  intro _ _
  by_cases h2 : m.length = x.Rows.length
  case neg => simp [h2, optLin, lin0, rULin, intsR]; omega
  simp [h2]
  first | refine callD_of (ks_ConstLin 0 x.N) (by simp) ?_ | refine call_of (ks_ConstLin 0 x.N) (by simp) ?_ | refine callD_of (ks_ConstLin 0 x.N) rfl ?_ | refine call_of (ks_ConstLin 0 x.N) rfl ?_
  rintro r rfl
  simp [rULin]
  have hzl : (m.zip x.Rows).length = m.length := by simp [h2]
  refine rL_forO [1, 2, 4, 6] 7 m.length (fun i s h n => h 0 = some ⟨true, 2, [[.int .i64 x.N, .sl 2 (x.Rows.map rALin)]]⟩ ∧ h 1 = some ⟨true, 2, [[.int .i64 0, .nil 1]]⟩ ∧ 3 < n ∧
      ∃ (o : DLin) (id : Nat), h 3 = some ⟨true, 2, [[.int .i64 o.Const, .ref id 0 o.Coeffs.length]]⟩ ∧ h id = some ⟨false, 1, intsR o.Coeffs⟩ ∧ id < n ∧ (id = 2 ∨ 3 < id) ∧ goComb ((m.zip x.Rows).drop i) o = goComb (m.zip x.Rows) (constLin 0 x.N))
    hlm.2 (by simp) ⟨by simp, by simp, by simp, constLin 0 x.N, 2, by simp, by simp, by omega, by omega, rfl⟩ ?_ ?_
  · rintro i s h n R hi hg hk s7 hw ⟨e0, e1, hn, o, id, e3, eid, hidn, hid, hJ⟩ hR hret _
    simp at hk
    have hir : i < x.Rows.length := by omega
    rw [List.drop_eq_getElem_cons (by omega : i < (m.zip x.Rows).length)] at hJ
    simp only [goComb, List.getElem_zip] at hJ
    have n0 : ¬ 0 = n := by omega
    have n1 : ¬ 1 = n := by omega
    have n3 : ¬ 3 = n := by omega
    have n3' : ¬ n = 3 := by omega
    have nid : ¬ id = n := by omega
    have m0 : ¬ 0 = n + 1 := by omega
    have m1 : ¬ 1 = n + 1 := by omega
    have m3 : ¬ 3 = n + 1 := by omega
    have m3' : ¬ n + 1 = 3 := by omega
    have mid : ¬ id = n + 1 := by omega
    have z0 : ¬ n = 0 := by omega
    have z2 : ¬ n = 2 := by omega
    simp [hk, s7, hi, hg, hir, e0, e1, e3, eid]
    intro _
    constructor
    · skip
      first | refine callD_of (ks_AddScaled o (m[i]'hi) (x.Rows[i]'hir)) (by simp [rALin, eid]) ?_ | refine call_of (ks_AddScaled o (m[i]'hi) (x.Rows[i]'hir)) (by simp [rALin, eid]) ?_ | refine callD_of (ks_AddScaled o (m[i]'hi) (x.Rows[i]'hir)) rfl ?_ | refine call_of (ks_AddScaled o (m[i]'hi) (x.Rows[i]'hir)) rfl ?_
      rintro r rfl
      cases ho : addScaled o m[i] x.Rows[i]
      · rw [ho] at hJ
        simp [optLin, lin0, rULin, hk, s7, hi, e0, e1, e3, n0, n1, n3, n3', z0, z2]
        refine hret _ _ _ ?_
        simp [hk, ← hJ, optLin, lin0, rULin, intsR]
      · rename_i o'
        rw [ho] at hJ
        simp only at hJ
        simp [optLin, rULin, hk, s7, hi, hw, e0, e1, e3, n0, n1, n3, n3', z0, z2]
        refine ⟨fun hm => ?_, fun hm => ?_⟩
        · rw [if_pos hm] at hJ
          refine hret _ _ _ ?_
          simp [hk, ← hJ, optLin, lin0, rULin, intsR]
        · rw [if_neg (by omega)] at hJ
          exact hR _ _ _ (by simp [hk]) (by simp) ⟨by simp [e0, n0], by simp [e1, n1, z0], by omega, o', n, by simp, by simp [n3'], by omega, by omega, hJ⟩
    · skip
      first | refine callD_of (ks_AddScaled o (m[i]'hi) (x.Rows[i]'hir)) (by simp [rALin, eid, mid, nid]) ?_ | refine call_of (ks_AddScaled o (m[i]'hi) (x.Rows[i]'hir)) (by simp [rALin, eid, mid, nid]) ?_ | refine callD_of (ks_AddScaled o (m[i]'hi) (x.Rows[i]'hir)) rfl ?_ | refine call_of (ks_AddScaled o (m[i]'hi) (x.Rows[i]'hir)) rfl ?_
      rintro r rfl
      cases ho : addScaled o m[i] x.Rows[i]
      · rw [ho] at hJ
        simp [optLin, lin0, rULin, hk, s7, hi, e0, e1, e3, n0, n1, n3, n3', z0, z2]
        refine hret _ _ _ ?_
        simp [hk, ← hJ, optLin, lin0, rULin, intsR]
      · rename_i o'
        rw [ho] at hJ
        simp only at hJ
        simp [optLin, rULin, hk, s7, hi, hw, e0, e1, e3, n0, n1, n3, n3', z0, z2]
        refine ⟨fun hm => ?_, fun hm => ?_⟩
        · rw [if_pos hm] at hJ
          refine hret _ _ _ ?_
          simp [hk, ← hJ, optLin, lin0, rULin, intsR]
        · rw [if_neg (by omega)] at hJ
          exact hR _ _ _ (by simp [hk]) (by simp) ⟨by simp [e0, n0], by simp [e1, n1, z0], by omega, o', n + 1, by simp, by simp [z2], by omega, by omega, hJ⟩
  · rintro s h n R hk s7 ⟨e0, e1, hn, o, id, e3, eid, hidn, hid, hJ⟩ hret hX
    simp at hk
    rw [List.drop_eq_nil_of_le (by omega)] at hJ
    simp only [goComb] at hJ
    simp [hk, s7]
    intro _
    refine hX _ _ _ _ ?_
    have i1 : ¬ 1 = id := by omega
    have i1' : ¬ id = 1 := by omega
    simp [hk, e1, e3, eid, ← hJ, optLin, rULin, i1, i1']
end Go.Proofs.Ytlbdgpkgmheikaa

/- Contracts: lists of certificates; the body of FnExactCheckAll. -/
import Derived.Test.YtlbdgpkgmheikaaC6
import Derived.Test.YtlbdgpkgmheikaaT2
namespace Go.Proofs.Ytlbdgpkgmheikaa
open Go Go.RowKit Go.Proofs
def a37 : AFn :=
⟨33, [(.t 4)], (.seq 
 (.reg [⟨some 4, (.mv (.k (.bool false))), no⟩]) (.seq (.seq 
 (.reg [⟨some 6, (.mv (.t 0)), no⟩, ⟨some 7, (.len false (.t 6)), no⟩, ⟨some 8, (.mv (.t 1)), no⟩, ⟨some 9, (.len false (.t 8)), no⟩, ⟨some 10, (.bin .neq (.t 7) (.t 9)), no⟩]) (.cond (.t 10) (.seq 
 (.reg [⟨some 4, (.mv (.k (.bool false))), no⟩]) .ret) .skip)) (.seq (.seq 
 (.reg [⟨some 5, (.mv (.k (.int .i64 0))), no⟩]) (.blk 0 (.loop (.seq (.seq 
 (.reg [⟨some 11, (.mv (.t 5)), no⟩, ⟨some 12, (.mv (.t 0)), no⟩, ⟨some 13, (.len false (.t 12)), no⟩, ⟨some 14, (.bin .lss (.t 11) (.t 13)), no⟩]) (.cond (.t 14) .skip (.exit 0))) (.seq (.blk 1 (.seq (.draw (.op ⟨some 17, (.mv (.t 0)), no⟩ (.op ⟨some 18, (.mv (.t 5)), no⟩ (.op ⟨some 19, (.ixa 4 (.t 17) (.t 18)), no⟩ (.op ⟨some 20, (.fld 0 (.t 19)), no⟩ (.op ⟨some 21, (.ld true 2 (.t 20)), no⟩ (.op ⟨some 22, (.mv (.t 0)), no⟩ (.op ⟨some 23, (.mv (.t 5)), no⟩ (.op ⟨some 24, (.ixa 4 (.t 22) (.t 23)), no⟩ (.op ⟨some 25, (.fld 2 (.t 24)), no⟩ (.op ⟨some 26, (.ld true 2 (.t 25)), no⟩ (.op ⟨some 27, (.mv (.t 1)), no⟩ (.op ⟨some 28, (.mv (.t 5)), no⟩ (.op ⟨some 29, (.ixa 2 (.t 27) (.t 28)), no⟩ (.op ⟨some 30, (.ld true 2 (.t 29)), no⟩ (.op ⟨some 31, (.call (.k (.fn (.func 110) [] [])) [(.t 21), (.t 26), (.t 30)]), no⟩ (.op ⟨some 32, (.un .not (.t 31)), no⟩ .fin))))))))))))))))) (.cond (.t 32) (.seq 
 (.reg [⟨some 4, (.mv (.k (.bool false))), no⟩]) .ret) .skip))) 
 (.reg [⟨some 15, (.mv (.t 5)), no⟩, ⟨some 16, (.bin .add (.t 15) (.k (.int .i64 1))), no⟩, ⟨some 5, (.mv (.t 16)), no⟩])))))) (.seq 
 (.reg [⟨some 4, (.mv (.k (.bool true))), no⟩]) .ret))))⟩
theorem a37_ok : compFn Try.prog Try.f37 = some a37 := by kernel_rfl

def a40 : AFn :=
⟨30, [(.t 4)], (.seq 
 (.reg [⟨some 4, (.mv (.k (.bool false))), no⟩]) (.seq (.seq 
 (.reg [⟨some 7, (.mv (.t 0)), no⟩, ⟨some 8, (.len false (.t 7)), no⟩, ⟨some 9, (.mv (.t 1)), no⟩, ⟨some 10, (.len false (.t 9)), no⟩, ⟨some 11, (.bin .neq (.t 8) (.t 10)), no⟩]) (.cond (.t 11) (.seq 
 (.reg [⟨some 4, (.mv (.k (.bool false))), no⟩]) .ret) .skip)) (.seq (.seq 
 (.reg [⟨some 12, (.mv (.t 0)), no⟩, ⟨some 13, (.len false (.t 12)), no⟩, ⟨some 14, (.mv (.k (.int .i64 0))), no⟩]) (.blk 0 (.loop (.seq 
 (.reg [⟨some 15, (.bin .lss (.t 14) (.t 13)), no⟩]) (.seq (.cond (.t 15) .skip (.exit 0)) (.seq (.blk 1 (.seq 
 (.reg [⟨some 16, (.mv (.t 14)), no⟩, ⟨some 17, (.ixa 4 (.t 12) (.t 14)), no⟩, ⟨some 18, (.ld true 4 (.t 17)), no⟩, ⟨some 6, (.box [(.int .i64 0), (.nil 2), (.int .i64 0), (.nil 1)]), no⟩, ⟨some 5, (.mv (.t 16)), no⟩, ⟨no, (.st 4 (.t 6) (.t 18)), no⟩]) (.seq (.draw (.op ⟨some 19, (.fld 0 (.t 6)), no⟩ (.op ⟨some 20, (.ld true 2 (.t 19)), no⟩ (.op ⟨some 21, (.fld 2 (.t 6)), no⟩ (.op ⟨some 22, (.ld true 2 (.t 21)), no⟩ (.op ⟨some 23, (.mv (.t 1)), no⟩ (.op ⟨some 24, (.mv (.t 5)), no⟩ (.op ⟨some 25, (.ixa 2 (.t 23) (.t 24)), no⟩ (.op ⟨some 26, (.ld true 2 (.t 25)), no⟩ (.op ⟨some 27, (.call (.k (.fn (.func 113) [] [])) [(.t 20), (.t 22), (.t 26)]), no⟩ (.op ⟨some 28, (.un .not (.t 27)), no⟩ .fin))))))))))) (.cond (.t 28) (.seq 
 (.reg [⟨some 4, (.mv (.k (.bool false))), no⟩]) .ret) .skip)))) 
 (.reg [⟨some 29, (.bin .add (.t 14) (.k (.int .i64 1))), no⟩, ⟨some 14, (.mv (.t 29)), no⟩]))))))) (.seq 
 (.reg [⟨some 4, (.mv (.k (.bool true))), no⟩]) .ret))))⟩
theorem a40_ok : compFn Try.prog Try.f40 = some a40 := by kernel_rfl

def a6 : AFn :=
⟨45, [(.t 4)], (.seq 
 (.reg [⟨some 4, (.mv (.k (.bool false))), no⟩]) (.seq 
 (.reg [⟨some 5, (.mv (.k (.int .i64 1048576))), no⟩]) (.seq 
 (.reg [⟨some 10, (.mv (.t 0)), no⟩, ⟨some 11, (.mv (.t 5)), no⟩, ⟨some 12, (.call (.k (.fn (.func 35) [] [])) [(.t 10), (.t 11)]), no⟩, ⟨some 5, (.mv (.t 12)), no⟩]) (.seq (.seq 
 (.reg [⟨some 13, (.mv (.t 5)), no⟩, ⟨some 14, (.bin .lss (.t 13) (.k (.int .i64 0))), no⟩]) (.cond (.t 14) (.seq 
 (.reg [⟨some 4, (.mv (.k (.bool true))), no⟩]) .ret) .skip)) (.seq 
 (.reg [⟨some 15, (.mv (.t 1)), no⟩, ⟨some 16, (.mv (.t 5)), no⟩, ⟨some 17, (.call (.k (.fn (.func 36) [] [])) [(.t 15), (.t 16)]), no⟩, ⟨some 5, (.mv (.t 17)), no⟩]) (.seq (.seq 
 (.reg [⟨some 18, (.mv (.t 5)), no⟩, ⟨some 19, (.bin .lss (.t 18) (.k (.int .i64 0))), no⟩]) (.cond (.t 19) (.seq 
 (.reg [⟨some 4, (.mv (.k (.bool true))), no⟩]) .ret) .skip)) (.seq 
 (.reg [⟨some 20, (.mv (.t 0)), no⟩, ⟨some 21, (.call (.k (.fn (.func 38) [] [])) [(.t 20)]), no⟩, ⟨some 22, (.mv (.t 1)), no⟩, ⟨some 23, (.call (.k (.fn (.func 39) [] [])) [(.t 22)]), no⟩, ⟨some 24, (.call (.k (.fn (.func 37) [] [])) [(.t 21), (.t 23)]), no⟩, ⟨some 6, (.mv (.t 24)), no⟩]) (.seq 
 (.reg [⟨some 25, (.mv (.t 0)), no⟩, ⟨some 26, (.call (.k (.fn (.func 38) [] [])) [(.t 25)]), no⟩, ⟨some 7, (.mv (.t 26)), no⟩]) (.seq 
 (.reg [⟨some 27, (.mv (.t 1)), no⟩, ⟨some 28, (.call (.k (.fn (.func 39) [] [])) [(.t 27)]), no⟩, ⟨some 8, (.mv (.t 28)), no⟩]) (.seq 
 (.reg [⟨some 29, (.mv (.t 7)), no⟩, ⟨some 30, (.mv (.t 8)), no⟩, ⟨some 31, (.call (.k (.fn (.func 40) [] [])) [(.t 29), (.t 30)]), no⟩, ⟨some 9, (.mv (.t 31)), no⟩]) (.seq (.seq 
 (.reg [⟨some 32, (.mv (.t 9)), no⟩, ⟨some 33, (.mv (.t 6)), no⟩, ⟨some 34, (.beq true (.t 32) (.t 33)), no⟩]) (.cond (.t 34) (.seq 
 (.reg [⟨some 4, (.mv (.k (.bool false))), no⟩]) .ret) .skip)) (.seq (.seq 
 (.reg [⟨some 35, (.mv (.t 7)), no⟩, ⟨some 36, (.mv (.t 0)), no⟩, ⟨some 37, (.call (.k (.fn (.func 38) [] [])) [(.t 36)]), no⟩, ⟨some 38, (.call (.k (.fn (.func 41) [] [])) [(.t 35), (.t 37)]), no⟩, ⟨some 39, (.un .not (.t 38)), no⟩]) (.cond (.t 39) (.seq 
 (.reg [⟨some 4, (.mv (.k (.bool false))), no⟩]) .ret) .skip)) (.seq (.seq 
 (.reg [⟨some 40, (.mv (.t 8)), no⟩, ⟨some 41, (.mv (.t 1)), no⟩, ⟨some 42, (.call (.k (.fn (.func 39) [] [])) [(.t 41)]), no⟩, ⟨some 43, (.call (.k (.fn (.func 42) [] [])) [(.t 40), (.t 42)]), no⟩, ⟨some 44, (.un .not (.t 43)), no⟩]) (.cond (.t 44) (.seq 
 (.reg [⟨some 4, (.mv (.k (.bool false))), no⟩]) .ret) .skip)) (.seq 
 (.reg [⟨some 4, (.mv (.k (.bool true))), no⟩]) .ret))))))))))))))⟩
theorem a6_ok : compFn Try.prog Try.f6 = some a6 := by kernel_rfl



def checkAllB (os : List DObligation) (fs : List DFarkas) : Bool := decide (os.length = fs.length) && (os.zip fs).all fun p => checkF p.1.System p.1.Target p.2

theorem ks_CheckAll (os : List DObligation) (fs : List DFarkas) : Holds Try.prog 37 [.sl 4 (os.map rAObligation), .sl 2 (fs.map rAFarkas)] (fun r => r = .bool (checkAllB os fs)) := by
  refine holds_of_run Try.func37 a37_ok rfl (by simp [a37]) ?_
  simp [a37]
  intro hl1 hl2
  unfold checkAllB
  by_cases h1 : os.length = fs.length
  case neg => simp [h1]; omega
  simp [h1]
  have hzl : (os.zip fs).length = os.length := by simp [h1]
  generalize hB : ((os.zip fs).all fun p => checkF p.1.System p.1.Target p.2) = B
  refine rL_forS [0, 1] 5 os.length (fun i _ => ((os.zip fs).drop i).all (fun p => checkF p.1.System p.1.Target p.2) = B) hl1 (by simp) hB ?_ ?_
  · rintro i s h R hi hg hk s5 hw hJ hh hR hret _
    simp at hk
    have hif : i < fs.length := by omega
    rw [List.drop_eq_getElem_cons (by omega : i < (os.zip fs).length), List.all_cons, List.getElem_zip] at hJ
    simp [hk, s5, hi, hg, hif]
    intro _
    first | refine callD_of (ks_CheckFarkas (os[i]'hi).System (os[i]'hi).Target (fs[i]'hif)) (by simp) ?_ | refine call_of (ks_CheckFarkas (os[i]'hi).System (os[i]'hi).Target (fs[i]'hif)) (by simp) ?_ | refine callD_of (ks_CheckFarkas (os[i]'hi).System (os[i]'hi).Target (fs[i]'hif)) rfl ?_ | refine call_of (ks_CheckFarkas (os[i]'hi).System (os[i]'hi).Target (fs[i]'hif)) rfl ?_
    rintro r rfl
    cases hc : checkF (os[i]).System (os[i]).Target fs[i]
    · rw [hc, Bool.false_and] at hJ
      simp
      refine hret _ _ _ ?_
      simp [← hJ]
    · rw [hc, Bool.true_and] at hJ
      simp [hk, s5, hw]
      exact hR _ (by simp [hk]) (by simp) hJ
  · rintro s h R hk s5 hJ hh _ hX
    simp at hk
    rw [List.drop_eq_nil_of_le (by omega)] at hJ
    simp [hk, s5]
    intro _
    refine hX _ _ ?_
    simp [← hJ]

theorem k_CheckAll (os : List DObligation) (fs : List DFarkas) : Holds Try.prog 40 [.sl 4 (os.map rAObligation), .sl 2 (fs.map rAFarkas)] (fun r => r = .bool (checkAllB os fs)) := by
  refine holds_of_run Try.func40 a40_ok rfl (by simp [a40]) ?_
  simp [a40]
  intro hl1 hl2
  unfold checkAllB
  by_cases h1 : os.length = fs.length
  case neg => simp [h1]; omega
  simp [h1]
  have hzl : (os.zip fs).length = os.length := by simp [h1]
  generalize hB : ((os.zip fs).all fun p => checkF p.1.System p.1.Target p.2) = B
  intro _
  refine rL_forO [0, 1, 12, 13] 14 fs.length (fun i _ _ _ => ((os.zip fs).drop i).all (fun p => checkF p.1.System p.1.Target p.2) = B) hl2 (by simp) hB ?_ ?_
  · rintro i s h n R hi hg hk s14 hw hJ hR hret _
    simp at hk
    have hif : i < os.length := by omega
    rw [List.drop_eq_getElem_cons (by omega : i < (os.zip fs).length), List.all_cons, List.getElem_zip] at hJ
    simp [hk, s14, hi, hg, hif]
    refine ⟨by simp [rAObligation], ?_⟩
    first | refine callD_of (k_CheckFarkas (os[i]'hif).System (os[i]'hif).Target (fs[i]'hi)) (by simp) ?_ | refine call_of (k_CheckFarkas (os[i]'hif).System (os[i]'hif).Target (fs[i]'hi)) (by simp) ?_ | refine callD_of (k_CheckFarkas (os[i]'hif).System (os[i]'hif).Target (fs[i]'hi)) rfl ?_ | refine call_of (k_CheckFarkas (os[i]'hif).System (os[i]'hif).Target (fs[i]'hi)) rfl ?_
    rintro r rfl
    cases hc : checkF (os[i]).System (os[i]).Target fs[i]
    · rw [hc, Bool.false_and] at hJ
      simp
      refine hret _ _ _ ?_
      simp [← hJ]
    · rw [hc, Bool.true_and] at hJ
      simp [hk, s14, hw]
      exact hR _ _ _ (by simp [hk]) (by simp) hJ
  · rintro s h n R hk s14 hJ hret hX
    simp at hk
    rw [List.drop_eq_nil_of_le (by omega)] at hJ
    simp [hk, s14]
    refine hX _ _ _ _ ?_
    simp [← hJ]

set_option maxRecDepth 20000 in
theorem law_CheckAll (os : List DObligation) (fs : List DFarkas) : Holds Try.prog 6 [.sl 4 (os.map rAObligation), .sl 2 (fs.map rAFarkas)] (fun x => x = .bool true) := by
  refine holds_of_run Try.func6 a6_ok rfl (by simp [a6]) ?_
  simp [a6]
  first | refine callD_of (k_szObligationS os 1048576 (by omega)) (by simp) ?_ | refine call_of (k_szObligationS os 1048576 (by omega)) (by simp) ?_ | refine callD_of (k_szObligationS os 1048576 (by omega)) rfl ?_ | refine call_of (k_szObligationS os 1048576 (by omega)) rfl ?_
  rintro r rfl
  by_cases h1 : 1048576 - (wObligationS os : Int) < 0
  · simp [sub1, h1]
  simp [sub1, h1]
  first | refine callD_of (k_szFarkasS fs (1048576 - (wObligationS os : Int)) (by omega)) (by simp) ?_ | refine call_of (k_szFarkasS fs (1048576 - (wObligationS os : Int)) (by omega)) (by simp) ?_ | refine callD_of (k_szFarkasS fs (1048576 - (wObligationS os : Int)) (by omega)) rfl ?_ | refine call_of (k_szFarkasS fs (1048576 - (wObligationS os : Int)) (by omega)) rfl ?_
  rintro r rfl
  by_cases h2 : 1048576 - (wObligationS os : Int) - (wFarkasS fs : Int) < 0
  · simp [sub1, h2]
  simp [sub1, h2]
  have hw1 : wObligationS os ≤ 1048576 := by omega
  have hw2 : wFarkasS fs ≤ 1048576 := by omega
  first | refine callD_of (k_toObligationS os hw1) (by simp) ?_ | refine call_of (k_toObligationS os hw1) (by simp) ?_ | refine callD_of (k_toObligationS os hw1) rfl ?_ | refine call_of (k_toObligationS os hw1) rfl ?_
  rintro r rfl
  simp
  first | refine callD_of (k_toFarkasS fs hw2) (by simp) ?_ | refine call_of (k_toFarkasS fs hw2) (by simp) ?_ | refine callD_of (k_toFarkasS fs hw2) rfl ?_ | refine call_of (k_toFarkasS fs hw2) rfl ?_
  rintro r rfl
  simp
  first | refine callD_of (ks_CheckAll os fs) (by simp) ?_ | refine call_of (ks_CheckAll os fs) (by simp) ?_ | refine callD_of (ks_CheckAll os fs) rfl ?_ | refine call_of (ks_CheckAll os fs) rfl ?_
  rintro r rfl
  simp
  first | refine callD_of (k_toObligationS os hw1) (by simp) ?_ | refine call_of (k_toObligationS os hw1) (by simp) ?_ | refine callD_of (k_toObligationS os hw1) rfl ?_ | refine call_of (k_toObligationS os hw1) rfl ?_
  rintro r rfl
  simp
  first | refine callD_of (k_toFarkasS fs hw2) (by simp) ?_ | refine call_of (k_toFarkasS fs hw2) (by simp) ?_ | refine callD_of (k_toFarkasS fs hw2) rfl ?_ | refine call_of (k_toFarkasS fs hw2) rfl ?_
  rintro r rfl
  simp
  first | refine callD_of (k_CheckAll os fs) (by simp) ?_ | refine call_of (k_CheckAll os fs) (by simp) ?_ | refine callD_of (k_CheckAll os fs) rfl ?_ | refine call_of (k_CheckAll os fs) rfl ?_
  rintro r rfl
  simp
  first | refine callD_of (k_toObligationS os hw1) (by simp) ?_ | refine call_of (k_toObligationS os hw1) (by simp) ?_ | refine callD_of (k_toObligationS os hw1) rfl ?_ | refine call_of (k_toObligationS os hw1) rfl ?_
  rintro r rfl
  simp
  first | refine callD_of (k_eqObligationS os os) (by simp) ?_ | refine call_of (k_eqObligationS os os) (by simp) ?_ | refine callD_of (k_eqObligationS os os) rfl ?_ | refine call_of (k_eqObligationS os os) rfl ?_
  rintro r rfl
  simp
  first | refine callD_of (k_toFarkasS fs hw2) (by simp) ?_ | refine call_of (k_toFarkasS fs hw2) (by simp) ?_ | refine callD_of (k_toFarkasS fs hw2) rfl ?_ | refine call_of (k_toFarkasS fs hw2) rfl ?_
  rintro r rfl
  simp
  first | refine callD_of (k_eqFarkasS fs fs) (by simp) ?_ | refine call_of (k_eqFarkasS fs fs) (by simp) ?_ | refine callD_of (k_eqFarkasS fs fs) rfl ?_ | refine call_of (k_eqFarkasS fs fs) rfl ?_
  rintro r rfl
  simp
end Go.Proofs.Ytlbdgpkgmheikaa

/- Contracts: valid programs. -/
import Derived.Test.YtilcageplifbgaaGreatKV7S
import Derived.Test.YtilcageplifbgaaGreatKC8
import Derived.Test.YtilcageplifbgaaGreatKC4
namespace Go.Proofs.YtilcageplifbgaaGreat
set_option linter.all false
open Go Go.RowKit Go.Proofs
theorem a156_ok : compFn Tryz.prog Tryz.f156 = some (tContainsFunc 223) := by kernel_rfl
theorem a223_ok : compFn Tryz.prog Tryz.f223 = some (tIndexFunc true 7) := by kernel_rfl
def a205 : AFn :=
⟨18, [(.t 2)], (.seq
 (.reg [⟨some 2, (.mv (.k (.bool false))), no⟩]) (.seq (.seq
 (.reg [⟨some 3, (.mv (.k (.int .i64 0))), no⟩]) (.blk 0 (.loop (.seq (.seq
 (.reg [⟨some 4, (.mv (.t 3)), no⟩, ⟨some 5, (.mv (.t 0)), no⟩, ⟨some 6, (.len false (.t 5)), no⟩, ⟨some 7, (.bin .lss (.t 4) (.t 6)), no⟩]) (.cond (.t 7) .skip (.exit 0))) (.seq (.blk 1 (.seq
 (.reg [⟨some 10, (.mv (.t 0)), no⟩, ⟨some 11, (.mv (.t 3)), no⟩, ⟨some 12, (.ixa 1 (.t 10) (.t 11)), no⟩, ⟨some 13, (.ld false 1 (.t 12)), no⟩, ⟨some 14, (.call (.k (.fn (.func 212) [] [])) [(.t 13)]), no⟩, ⟨some 15, (.un .not (.t 14)), no⟩]) (.cond (.t 15) (.seq
 (.reg [⟨some 2, (.mv (.k (.bool false))), no⟩]) .ret) .skip)))
 (.reg [⟨some 8, (.mv (.t 3)), no⟩, ⟨some 9, (.bin .add (.t 8) (.k (.int .i64 1))), no⟩, ⟨some 3, (.mv (.t 9)), no⟩])))))) (.seq
 (.reg [⟨some 16, (.mv (.t 0)), no⟩, ⟨some 17, (.call (.k (.fn (.func 206) [] [])) [(.t 16)]), no⟩, ⟨some 2, (.mv (.t 17)), no⟩]) .ret)))⟩
theorem a205_ok : compFn Tryz.prog Tryz.f205 = some a205 := by kernel_rfl
def a151 : AFn :=
⟨6, [(.t 2)], (.seq
 (.reg [⟨some 2, (.mv (.k (.bool false))), no⟩]) (.seq
 (.reg [⟨some 3, (.mv (.t 0)), no⟩, ⟨some 4, (.call (.k (.fn (.func 152) [] [])) [(.t 3)]), no⟩, ⟨some 5, (.un .not (.t 4)), no⟩, ⟨some 2, (.mv (.t 5)), no⟩]) .ret))⟩
theorem a151_ok : compFn Tryz.prog Tryz.f151 = some a151 := by kernel_rfl
def a154 : AFn :=
⟨10, [(.t 3)], (.seq
 (.reg [⟨some 2, (.boxv (.t 0)), no⟩, ⟨some 3, (.mv (.k (.bool false))), no⟩]) (.seq
 (.reg [⟨some 4, (.ld true 2 (.t 2)), no⟩, ⟨some 5, (.fld 1 (.t 1)), no⟩, ⟨some 6, (.ld false 1 (.t 5)), no⟩, ⟨some 7, (.len false (.t 6)), no⟩, ⟨some 8, (.call (.k (.fn (.func 155) [] [])) [(.t 4), (.t 7)]), no⟩, ⟨some 9, (.un .not (.t 8)), no⟩, ⟨some 3, (.mv (.t 9)), no⟩]) .ret))⟩
theorem a154_ok : compFn Tryz.prog Tryz.f154 = some a154 := by kernel_rfl
def a157 : AFn :=
⟨8, [(.t 3)], (.seq
 (.reg [⟨some 2, (.boxv (.t 0)), no⟩, ⟨some 3, (.mv (.k (.bool false))), no⟩]) (.seq
 (.reg [⟨some 4, (.ld true 2 (.t 1)), no⟩, ⟨some 5, (.ld true 7 (.t 2)), no⟩, ⟨some 6, (.call (.k (.fn (.func 158) [] [])) [(.t 4), (.t 5)]), no⟩, ⟨some 7, (.un .not (.t 6)), no⟩, ⟨some 3, (.mv (.t 7)), no⟩]) .ret))⟩
theorem a157_ok : compFn Tryz.prog Tryz.f157 = some a157 := by kernel_rfl
def a63 : AFn :=
⟨69, [(.t 2)], (.seq
 (.reg [⟨some 1, (.boxv (.t 0)), no⟩, ⟨some 2, (.mv (.k (.bool false))), no⟩]) (.seq (.seq
 (.reg [⟨some 5, (.fld 0 (.t 1)), no⟩, ⟨some 6, (.ld false 1 (.t 5)), no⟩, ⟨some 7, (.len false (.t 6)), no⟩, ⟨some 8, (.call (.k (.fn (.func 98) [] [])) [(.t 7), (.k (.int .i64 1)), (.k (.int .i64 3))]), no⟩, ⟨some 9, (.un .not (.t 8)), no⟩, ⟨some 10, (.mv (.t 9)), no⟩, ⟨some 11, (.fld 1 (.t 1)), (some (10, false))⟩, ⟨some 12, (.ld false 1 (.t 11)), (some (10, false))⟩, ⟨some 13, (.len false (.t 12)), (some (10, false))⟩, ⟨some 14, (.bin .gtr (.t 13) (.k (.int .i64 8))), (some (10, false))⟩, ⟨some 15, (.pick (.t 10) (.k (.bool true)) (.t 14)), no⟩]) (.cond (.t 15) (.seq
 (.reg [⟨some 2, (.mv (.k (.bool false))), no⟩]) .ret) .skip)) (.seq (.seq
 (.reg [⟨some 16, (.fld 0 (.t 1)), no⟩, ⟨some 17, (.ld false 1 (.t 16)), no⟩, ⟨some 18, (.len false (.t 17)), no⟩, ⟨some 19, (.mv (.k (.int .i64 0))), no⟩]) (.blk 0 (.loop (.seq
 (.reg [⟨some 20, (.bin .lss (.t 19) (.t 18)), no⟩]) (.seq (.cond (.t 20) .skip (.exit 0)) (.seq (.blk 1 (.seq
 (.reg [⟨some 21, (.mv (.t 19)), no⟩, ⟨some 22, (.ixa 4 (.t 17) (.t 19)), no⟩, ⟨some 23, (.ld true 4 (.t 22)), no⟩, ⟨some 4, (.box [(.str []), (.nil 1), (.bool false), (.nil 2)]), no⟩, ⟨some 3, (.mv (.t 21)), no⟩, ⟨no, (.st 4 (.t 4) (.t 23)), no⟩]) (.seq (.seq
 (.reg [⟨some 24, (.fld 0 (.t 4)), no⟩, ⟨some 25, (.ld false 1 (.t 24)), no⟩, ⟨some 26, (.call (.k (.fn (.func 149) [] [])) [(.t 25)]), no⟩, ⟨some 27, (.un .not (.t 26)), no⟩, ⟨some 28, (.mv (.t 27)), no⟩, ⟨some 29, (.ld true 2 (.t 1)), (some (28, false))⟩, ⟨some 30, (.fld 0 (.t 4)), (some (28, false))⟩, ⟨some 31, (.ld false 1 (.t 30)), (some (28, false))⟩, ⟨some 32, (.call (.k (.fn (.func 89) [] [])) [(.t 29), (.t 31)]), (some (28, false))⟩, ⟨some 33, (.mv (.t 3)), (some (28, false))⟩, ⟨some 34, (.bin .neq (.t 32) (.t 33)), (some (28, false))⟩, ⟨some 35, (.pick (.t 28) (.k (.bool true)) (.t 34)), no⟩, ⟨some 36, (.mv (.t 35)), no⟩, ⟨some 37, (.fld 1 (.t 4)), (some (36, false))⟩, ⟨some 38, (.ld false 1 (.t 37)), (some (36, false))⟩, ⟨some 39, (.len false (.t 38)), (some (36, false))⟩, ⟨some 40, (.bin .gtr (.t 39) (.k (.int .i64 2))), (some (36, false))⟩, ⟨some 41, (.pick (.t 36) (.k (.bool true)) (.t 40)), no⟩, ⟨some 42, (.mv (.t 41)), no⟩, ⟨some 43, (.fld 1 (.t 4)), (some (42, false))⟩, ⟨some 44, (.ld false 1 (.t 43)), (some (42, false))⟩, ⟨some 45, (.call (.k (.fn (.func 150) [] [])) [(.t 44)]), (some (42, false))⟩, ⟨some 46, (.un .not (.t 45)), (some (42, false))⟩, ⟨some 47, (.pick (.t 42) (.k (.bool true)) (.t 46)), no⟩, ⟨some 48, (.mv (.t 47)), no⟩, ⟨some 49, (.fld 3 (.t 4)), (some (48, false))⟩, ⟨some 50, (.ld false 1 (.t 49)), (some (48, false))⟩, ⟨some 51, (.len false (.t 50)), (some (48, false))⟩, ⟨some 52, (.bin .gtr (.t 51) (.k (.int .i64 2))), (some (48, false))⟩, ⟨some 53, (.pick (.t 48) (.k (.bool true)) (.t 52)), no⟩]) (.cond (.t 53) (.seq
 (.reg [⟨some 2, (.mv (.k (.bool false))), no⟩]) .ret) .skip)) (.seq
 (.reg [⟨some 54, (.fld 1 (.t 4)), no⟩, ⟨some 55, (.ld false 1 (.t 54)), no⟩, ⟨some 56, (.call (.k (.fn (.func 78) [] [])) [(.t 55), (.k (.fn (.func 151) [] []))]), no⟩, ⟨some 57, (.mv (.t 56)), no⟩, ⟨some 58, (.fld 3 (.t 4)), (some (57, false))⟩, ⟨some 59, (.ld false 1 (.t 58)), (some (57, false))⟩, ⟨some 60, (.mkf (.func 154) [] [(.t 4)]), (some (57, false))⟩, ⟨some 61, (.call (.k (.fn (.func 153) [] [])) [(.t 59), (.t 60)]), (some (57, false))⟩, ⟨some 62, (.pick (.t 57) (.k (.bool true)) (.t 61)), no⟩]) (.cond (.t 62) (.seq
 (.reg [⟨some 2, (.mv (.k (.bool false))), no⟩]) .ret) .skip)))))
 (.reg [⟨some 63, (.bin .add (.t 19) (.k (.int .i64 1))), no⟩, ⟨some 19, (.mv (.t 63)), no⟩]))))))) (.seq
 (.reg [⟨some 64, (.fld 1 (.t 1)), no⟩, ⟨some 65, (.ld false 1 (.t 64)), no⟩, ⟨some 66, (.mkf (.func 157) [] [(.t 1)]), no⟩, ⟨some 67, (.call (.k (.fn (.func 156) [] [])) [(.t 65), (.t 66)]), no⟩, ⟨some 68, (.un .not (.t 67)), no⟩, ⟨some 2, (.mv (.t 68)), no⟩]) .ret))))⟩
theorem a63_ok : compFn Tryz.prog Tryz.f63 = some a63 := by kernel_rfl
theorem ks_l5Names (l : List Str) : Holds Tryz.prog 205 [.sl 1 (strsR l)] (fun r => r = .bool (l.all okName && distB l)) := by
  refine holds_of_lim Tryz.func205 rfl rfl fun hl => ?_
  simp at hl
  refine holds_of_run Tryz.func205 a205_ok rfl (by simp [a205]) ?_
  simp [a205]
  generalize hB : l.all okName = B
  refine rL_forS [0] 3 l.length (fun i _ => (l.drop i).all okName = B) hl (by simp) (by simpa using hB) ?_ ?_
  · rintro i st h R hi hg hk s3 hw hJ hh hR hret _
    simp at hk
    rw [List.drop_eq_getElem_cons hi, List.all_cons] at hJ
    simp [hk, s3, hi, hg]
    intro _
    first | refine callD_of (ks_IsValidName (l[i]'hi)) (by simp) ?_ | refine call_of (ks_IsValidName (l[i]'hi)) (by simp) ?_ | refine callD_of (ks_IsValidName (l[i]'hi)) rfl ?_ | refine call_of (ks_IsValidName (l[i]'hi)) rfl ?_
    rintro r rfl
    cases hc : okName l[i]
    · rw [hc, Bool.false_and] at hJ
      subst hJ
      simp
      refine hret _ _ _ ?_
      simp
    · rw [hc, Bool.true_and] at hJ
      simp [hk, s3, hw]
      exact hR _ (by simp [hk]) (by simp) hJ
  · rintro st h R hk s3 hJ hh _ hX
    simp at hk
    rw [List.drop_eq_nil_of_le (by omega)] at hJ
    simp at hJ
    subst hJ
    simp [hk, s3]
    intro _
    refine hX _ _ ?_
    simp [hk]
    first | refine callD_of (ks_AllDistinct l) (by simp) ?_ | refine call_of (ks_AllDistinct l) (by simp) ?_ | refine callD_of (ks_AllDistinct l) rfl ?_ | refine call_of (ks_AllDistinct l) rfl ?_
    rintro r rfl
    simp
theorem k_VP1 (s : Str) : Holds Tryz.prog 151 [.str s] (fun r => r = .bool (!okName s)) := by
  refine holds_of_run Tryz.func151 a151_ok rfl (by simp [a151]) ?_
  simp [a151]
  first | refine callD_of (k_IsValidName s) (by simp) ?_ | refine call_of (k_IsValidName s) (by simp) ?_ | refine callD_of (k_IsValidName s) rfl ?_ | refine call_of (k_IsValidName s) rfl ?_
  rintro r rfl
  simp
theorem pure_VP2 {h : Heap} {n id : Nat} {f : DFunction} (x : DLin) (hv : h id = some ⟨true, 4, [rAFunction f]⟩) (hid : id < n) : Pure1 Tryz.prog 154 [] [.ptr id 0 0] h n (.agg (rALin x)) (.bool (!okLin x f.Params.length)) := by
  intro K hK
  refine acall_gc ?_
  refine acall_body Tryz.func154 a154_ok rfl (by simp [a154]) ?_
  have n1 : ¬ id = n := by omega
  simp [a154, hv, n1, rALin, rAFunction]
  intro _
  first | refine callD_of (k_IsValidLin x f.Params.length) (by simp [rALin]) ?_ | refine call_of (k_IsValidLin x f.Params.length) (by simp [rALin]) ?_ | refine callD_of (k_IsValidLin x f.Params.length) rfl ?_ | refine call_of (k_IsValidLin x f.Params.length) rfl ?_
  rintro r rfl
  simp [scal, hK]
  intro j hj hj'
  omega
theorem pure_VP3 {h : Heap} {n id : Nat} {p : DProgram} (x : DRule) (hp : wProgram p ≤ 1048576) (hx : wRule x ≤ 1048576) (hv : h id = some ⟨true, 2, [rAProgram p]⟩) (hid : id < n) : Pure1 Tryz.prog 157 [] [.ptr id 0 0] h n (.agg (rARule x)) (.bool (!ruleOk p x)) := by
  intro K hK
  refine acall_gc ?_
  refine acall_body Tryz.func157 a157_ok rfl (by simp [a157]) ?_
  have n1 : ¬ id = n := by omega
  simp [a157, hv, n1, rARule, rAProgram]
  first | refine callD_of (k_IsValidRule p x hp hx) (by simp [rARule, rAProgram]) ?_ | refine call_of (k_IsValidRule p x hp hx) (by simp [rARule, rAProgram]) ?_ | refine callD_of (k_IsValidRule p x hp hx) rfl ?_ | refine call_of (k_IsValidRule p x hp hx) rfl ?_
  rintro r rfl
  simp [scal, hK]
  intro j hj hj'
  omega
theorem wRule_of {p : DProgram} (hp : wProgram p ≤ 1048576) : ∀ r ∈ p.Rules, wRule r ≤ 1048576 := fun r hr => by
  have := wL_mem (w := wRule) hr
  unfold wProgram wRuleS at hp
  omega
theorem fnsFrom_drop {met : List Str} {l : List DFunction} {i : Nat} (hi : i < l.length) : fnsFrom met (l.drop i) = ((fnOk l[i] && !hasS met (l[i]).Name) && fnsFrom (met ++ [(l[i]).Name]) (l.drop (i + 1))) := by
  rw [List.drop_eq_getElem_cons hi]; rfl
def namN (l : List DFunction) (i : Nat) : List Str := (l.take i).map (·.Name)
theorem namN_succ {l : List DFunction} {i : Nat} (hi : i < l.length) : namN l (i + 1) = namN l i ++ [(l[i]).Name] := by unfold namN; rw [List.take_succ_eq_append_getElem hi, List.map_append]; rfl
set_option maxRecDepth 20000 in
set_option maxHeartbeats 2000000 in
theorem k_IsValidProgram (p : DProgram) (hp : wProgram p ≤ 1048576) : Holds Tryz.prog 63 [.agg (rAProgram p)] (fun x => x = .bool (progOk p)) := by
  have hlf : p.Functions.length ≤ 1048576 := by have := wL_len wFunction p.Functions; unfold wProgram wFunctionS at hp; omega
  refine holds_of_run Tryz.func63 a63_ok rfl (by simp [a63]) ?_
  simp [a63, rAProgram]
  intro _
  first | refine callD_of (k_within p.Functions.length 1 3) (by simp) ?_ | refine call_of (k_within p.Functions.length 1 3) (by simp) ?_ | refine callD_of (k_within p.Functions.length 1 3) rfl ?_ | refine call_of (k_within p.Functions.length 1 3) rfl ?_
  rintro r rfl
  unfold progOk
  cases h1 : inR p.Functions.length 1 3
  · simp
  simp
  intro _
  have hdg : decide (p.Rules.length ≤ 8) = decide ((p.Rules.length : Int) ≤ 8) := by rw [decide_eq_decide]; omega
  by_cases h2 : (p.Rules.length : Int) ≤ 8
  case neg =>
    have h2n : ¬ p.Rules.length ≤ 8 := by omega
    simp [h2, h2n, Int.not_le.1 h2]
  have h2n : p.Rules.length ≤ 8 := by omega
  simp [h2, h2n, Int.not_lt.2 h2]
  intro _
  generalize hB : fnsFrom [] p.Functions = B
  refine rL_forO [1, 17, 18] 19 p.Functions.length (fun i s h n => 0 < n ∧ h 0 = some ⟨true, 2, [rAProgram p]⟩ ∧ fnsFrom (namN p.Functions i) (p.Functions.drop i) = B) (by unfold LIM; omega) (by simp) ⟨by simp, by simp [rAProgram], by simpa [namN] using hB⟩ ?_ ?_
  · rintro i st h n R hi hg hk s19 hw ⟨hn, e0, hJ⟩ hR hret _
    simp at hk
    rw [fnsFrom_drop hi, ← namN_succ hi] at hJ
    have z0 : ¬ 0 = n := by omega
    have z1 : ¬ n = 0 := by omega
    refine rC_cut [1, 17, 18, 19] (fun s => s 20 = .bool true) (by simp [hk, s19, hi]) ?_
    intro st1 hk1 s20
    simp at hk1
    refine rC_pass s20 (rC_seqI (rC_blkI ?_))
    refine rC_cutH [1, 17, 18, 19] (fun s h' n' => s 3 = .int .i64 i ∧ s 4 = .ptr n 0 0 ∧ n' = n + 1 ∧ h' n = some ⟨true, 4, [rAFunction p.Functions[i]]⟩ ∧ h' 0 = some ⟨true, 2, [rAProgram p]⟩) (by simp [hk, hk1, s19, hi, rAFunction, e0, z0, z1]) ?_
    rintro st2 h2' n2 hk2 ⟨s3, s4, rfl, en, e0'⟩
    simp at hk2
    generalize hf : p.Functions[i] = f at *
    refine rC_seqI (rC_cut [1, 3, 4, 17, 18, 19] (fun s => s 53 = .bool (!intName f.Name || hasS (namN p.Functions i) f.Name || !decide (f.Params.length ≤ 2) || !distB f.Params || !decide (f.Pre.length ≤ 2))) ?_ ?_)
    · have hdp : decide (f.Params.length ≤ 2) = decide ((f.Params.length : Int) ≤ 2) := by rw [decide_eq_decide]; omega
      have hdq : decide (f.Pre.length ≤ 2) = decide ((f.Pre.length : Int) ≤ 2) := by rw [decide_eq_decide]; omega
      rw [hdp, hdq]
      simp [hk, hk1, hk2, s4, s3, en, e0', rAFunction, z0, z1]
      first | refine callD_of (k_isIntName f.Name) (by simp) ?_ | refine call_of (k_isIntName f.Name) (by simp) ?_ | refine callD_of (k_isIntName f.Name) rfl ?_ | refine call_of (k_isIntName f.Name) rfl ?_
      rintro r rfl
      cases g1 : intName f.Name
      · simp
      simp [hk, hk1, hk2, s4, s3, en, e0', rAFunction, rAProgram, z0, z1]
      first | refine callD_of (k_functionAt p f.Name) (by simp [rAProgram]) ?_ | refine call_of (k_functionAt p f.Name) (by simp [rAProgram]) ?_ | refine callD_of (k_functionAt p f.Name) rfl ?_ | refine call_of (k_functionAt p f.Name) rfl ?_
      rintro r rfl
      have hidx := idx_first hi
      rw [hf] at hidx
      rw [show List.map (·.Name) (List.take i p.Functions) = namN p.Functions i from rfl] at hidx
      generalize idxFrom (fun g => g.Name == f.Name) p.Functions 0 = k1 at hidx
      cases g2 : hasS (namN p.Functions i) f.Name
      case true =>
        rw [g2] at hidx
        have hk1n : ¬ k1 = (i : Int) := by simpa using hidx
        simp [hk1n, s3]
      rw [g2] at hidx
      have hk1n : k1 = (i : Int) := by simpa using hidx
      subst hk1n
      simp [hk, hk1, hk2, s4, s3, en, e0', rAFunction, rAProgram, z0, z1]
      intro _
      by_cases g3 : (f.Params.length : Int) ≤ 2
      case neg => simp [g3, Int.not_le.1 g3]
      simp [g3, Int.not_lt.2 g3, hk, hk1, hk2, s4, s3, en, e0', rAFunction, rAProgram, z0, z1]
      first | refine callD_of (k_AllDistinct f.Params) (by simp) ?_ | refine call_of (k_AllDistinct f.Params) (by simp) ?_ | refine callD_of (k_AllDistinct f.Params) rfl ?_ | refine call_of (k_AllDistinct f.Params) rfl ?_
      rintro r rfl
      cases g4 : distB f.Params
      · simp
      simp [hk, hk1, hk2, s4, s3, en, e0', rAFunction, rAProgram, z0, z1]
      intro _
      by_cases g5 : (f.Pre.length : Int) ≤ 2
      · simp [g5, Int.not_lt.2 g5]
      · simp [g5, Int.not_le.1 g5]
    intro st3 hk3 s53
    simp at hk3
    generalize hcc : (!intName f.Name || hasS (namN p.Functions i) f.Name || !decide (f.Params.length ≤ 2) || !distB f.Params || !decide (f.Pre.length ≤ 2)) = cc at *
    have hbody : (fnOk f && !hasS (namN p.Functions i) f.Name) = (!cc && (f.Params.all okName && f.Pre.all fun l => okLin l f.Params.length)) := by
      rw [← hcc]
      unfold fnOk
      cases intName f.Name <;> cases hasS (namN p.Functions i) f.Name <;> cases decide (f.Params.length ≤ 2) <;> cases distB f.Params <;> cases decide (f.Pre.length ≤ 2) <;> cases f.Params.all okName <;> simp
    rw [hbody] at hJ
    clear hbody hcc
    cases cc
    case true =>
      simp at hJ
      simp [s53]
      refine hret _ _ _ ?_
      simp [hJ]
    refine rC_condF s53 ?_
    simp only [kont_seq]
    simp only [Bool.not_false, Bool.true_and] at hJ
    refine rC_cut [1, 3, 4, 17, 18, 19] (fun s => s 62 = .bool (!(f.Params.all okName && f.Pre.all fun l => okLin l f.Params.length))) ?_ ?_
    · simp [hk, hk1, hk2, hk3, s4, s3, en, e0', rAFunction, z0, z1]
      refine acall_tContainsFunc (p := fun s => !okName s) (rowOf := fun s => [.str s]) (eltOf := fun s => .str s) Tryz.func78 a78_ok rfl Tryz.func167 a167_ok rfl (fun x => by simp) f.Params
        (fun s _ => pure1_of_holds (k_VP1 s) rfl rfl) ?_
      rw [any_not]
      cases g1 : f.Params.all okName
      · simp
      simp [hk, hk1, hk2, hk3, s4, s3, en, e0', rAFunction, z0, z1]
      refine acall_tContainsFunc (p := fun l => !okLin l f.Params.length) (rowOf := rALin) (eltOf := fun l => .agg (rALin l)) Tryz.func153 a153_ok rfl Tryz.func220 a220_ok rfl (fun x => by simp) f.Pre
        (fun x _ => pure_VP2 (f := f) x en (Nat.lt_succ_self n)) ?_
      rw [any_not]
      simp
    intro st4 hk4 s62
    simp at hk4
    generalize (f.Params.all okName && f.Pre.all fun l => okLin l f.Params.length) = D at *
    cases D
    · rw [Bool.false_and] at hJ
      subst hJ
      simp [s62]
      refine hret _ _ _ ?_
      simp
    · rw [Bool.true_and] at hJ
      simp [hk, hk1, hk2, hk3, hk4, s62, s19, hw]
      exact hR _ _ _ (by simp [hk, hk1, hk2, hk3, hk4]) (by simp) ⟨by omega, e0', hJ⟩
  rintro st h n R hk s19 ⟨hn, e0, hJ⟩ hret hX
  simp at hk
  rw [List.drop_eq_nil_of_le (by omega)] at hJ
  refine rC_cut [1] (fun s => s 20 = .bool false) (by simp [hk, s19]) ?_
  intro st1 hk1 s20
  simp at hk1
  refine rC_stop s20 ?_
  refine hX _ _ _ _ ?_
  simp [fnsFrom] at hJ
  subst hJ
  clear hX hret hB
  simp [hk, hk1, e0, rAProgram]
  refine acall_tContainsFunc (p := fun r => !ruleOk p r) (rowOf := rARule) (eltOf := fun r => .agg (rARule r)) Tryz.func156 a156_ok rfl Tryz.func223 a223_ok rfl (fun x => by simp) p.Rules
    (fun x hx => pure_VP3 x hp (wRule_of hp x hx) e0 hn) ?_
  rw [any_not]
  simp
end Go.Proofs.YtilcageplifbgaaGreat

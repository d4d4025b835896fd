/- Contracts: the costs of rules. -/
import Derived.Test.YtlbdgpkgmheikaaT1
import Derived.Test.YtlbdgpkgmheikaaR31
import Derived.Test.YtlbdgpkgmheikaaProg
namespace Go.Proofs.Ytlbdgpkgmheikaa
open Go Go.RowKit Go.Proofs
def a92 : AFn :=
⟨8, [(.t 2)], (.seq 
 (.reg [⟨some 1, (.boxv (.t 0)), no⟩, ⟨some 2, (.mv (.k (.int .i64 0))), no⟩]) (.seq (.seq 
 (.reg [⟨some 3, (.fld 0 (.t 1)), no⟩, ⟨some 4, (.ld false 1 (.t 3)), no⟩]) (.cond (.t 4) (.seq 
 (.reg [⟨some 5, (.fld 1 (.t 1)), no⟩, ⟨some 6, (.ld false 1 (.t 5)), no⟩, ⟨some 7, (.len false (.t 6)), no⟩, ⟨some 2, (.mv (.t 7)), no⟩]) .ret) .skip)) (.seq 
 (.reg [⟨some 2, (.mv (.k (.int .i64 0))), no⟩]) .ret)))⟩
theorem a92_ok : compFn Try.prog Try.f92 = some a92 := by kernel_rfl

def a27 : AFn :=
⟨39, [(.t 4)], (.seq 
 (.reg [⟨some 2, (.boxv (.t 0)), no⟩, ⟨some 4, (.mv (.k (.int .i64 0))), no⟩]) (.seq (.seq 
 (.reg [⟨some 10, (.mv (.t 1)), no⟩]) (.blk 0 (.seq 
 (.reg [⟨some 12, (.bin .eql (.t 10) (.k (.int .i64 1))), no⟩, ⟨some 11, (.mv (.t 12)), no⟩]) (.cond (.t 11) (.seq 
 (.reg [⟨some 4, (.mv (.k (.int .i64 1))), no⟩]) .ret) (.seq 
 (.reg [⟨some 14, (.bin .eql (.t 10) (.k (.int .i64 2))), no⟩, ⟨some 13, (.mv (.t 14)), no⟩]) (.cond (.t 13) (.seq 
 (.reg [⟨some 15, (.fld 4 (.t 2)), no⟩, ⟨some 16, (.ld true 3 (.t 15)), no⟩, ⟨some 17, (.call (.k (.fn (.func 92) [] [])) [(.t 16)]), no⟩, ⟨some 5, (.mv (.t 17)), no⟩]) (.seq (.seq 
 (.reg [⟨some 18, (.fld 3 (.t 2)), no⟩, ⟨some 19, (.ld false 1 (.t 18)), no⟩, ⟨some 20, (.len false (.t 19)), no⟩, ⟨some 21, (.mv (.k (.int .i64 0))), no⟩]) (.blk 1 (.loop (.seq 
 (.reg [⟨some 22, (.bin .lss (.t 21) (.t 20)), no⟩]) (.seq (.cond (.t 22) .skip (.exit 1)) (.seq (.blk 2 (.seq 
 (.reg [⟨some 23, (.ixa 3 (.t 19) (.t 21)), no⟩, ⟨some 24, (.ld true 3 (.t 23)), no⟩, ⟨some 7, (.box [(.str []), (.str []), (.nil 3)]), no⟩, ⟨no, (.st 3 (.t 7) (.t 24)), no⟩]) (.seq 
 (.reg [⟨some 25, (.fld 2 (.t 7)), no⟩, ⟨some 26, (.ld false 1 (.t 25)), no⟩, ⟨some 27, (.len false (.t 26)), no⟩, ⟨some 28, (.mv (.k (.int .i64 0))), no⟩]) (.blk 3 (.loop (.seq 
 (.reg [⟨some 29, (.bin .lss (.t 28) (.t 27)), no⟩]) (.seq (.cond (.t 29) .skip (.exit 3)) (.seq (.blk 4 (.seq 
 (.reg [⟨some 30, (.ixa 3 (.t 26) (.t 28)), no⟩, ⟨some 31, (.ld true 3 (.t 30)), no⟩, ⟨some 9, (.box [(.bool false), (.nil 2), (.str [])]), no⟩, ⟨no, (.st 3 (.t 9) (.t 31)), no⟩]) 
 (.reg [⟨some 32, (.mv (.t 5)), no⟩, ⟨some 33, (.ld true 3 (.t 9)), no⟩, ⟨some 34, (.call (.k (.fn (.func 92) [] [])) [(.t 33)]), no⟩, ⟨some 35, (.bin .add (.t 32) (.t 34)), no⟩, ⟨some 5, (.mv (.t 35)), no⟩]))) 
 (.reg [⟨some 36, (.bin .add (.t 28) (.k (.int .i64 1))), no⟩, ⟨some 28, (.mv (.t 36)), no⟩]))))))))) 
 (.reg [⟨some 37, (.bin .add (.t 21) (.k (.int .i64 1))), no⟩, ⟨some 21, (.mv (.t 37)), no⟩]))))))) (.seq 
 (.reg [⟨some 38, (.mv (.t 5)), no⟩, ⟨some 4, (.mv (.t 38)), no⟩]) .ret))) .skip)))))) (.seq 
 (.reg [⟨some 4, (.mv (.k (.int .i64 0))), no⟩]) .ret)))⟩
theorem a27_ok : compFn Try.prog Try.f27 = some a27 := by kernel_rfl

def a25 : AFn :=
⟨64, [(.t 4)], (.seq 
 (.reg [⟨some 2, (.boxv (.t 0)), no⟩, ⟨some 4, (.mv (.k (.int .i64 0))), no⟩]) (.seq (.seq 
 (.reg [⟨some 8, (.mv (.t 1)), no⟩]) (.blk 0 (.seq 
 (.reg [⟨some 10, (.bin .eql (.t 8) (.k (.int .i64 1))), no⟩, ⟨some 9, (.mv (.t 10)), no⟩]) (.cond (.t 9) (.seq 
 (.reg [⟨some 4, (.mv (.k (.int .i64 1))), no⟩]) .ret) (.seq 
 (.reg [⟨some 12, (.bin .eql (.t 8) (.k (.int .i64 2))), no⟩, ⟨some 11, (.mv (.t 12)), no⟩]) (.cond (.t 11) (.seq 
 (.reg [⟨some 5, (.mv (.k (.int .i64 0))), no⟩]) (.seq (.seq 
 (.reg [⟨some 6, (.mv (.k (.int .i64 0))), no⟩]) (.blk 1 (.loop (.seq (.seq 
 (.reg [⟨some 13, (.mv (.t 6)), no⟩, ⟨some 14, (.fld 3 (.t 2)), no⟩, ⟨some 15, (.ld false 1 (.t 14)), no⟩, ⟨some 16, (.len false (.t 15)), no⟩, ⟨some 17, (.bin .lss (.t 13) (.t 16)), no⟩]) (.cond (.t 17) .skip (.exit 1))) (.seq (.blk 2 (.seq 
 (.reg [⟨some 7, (.mv (.k (.int .i64 0))), no⟩]) (.blk 3 (.loop (.seq (.seq 
 (.reg [⟨some 20, (.mv (.t 7)), no⟩, ⟨some 21, (.fld 3 (.t 2)), no⟩, ⟨some 22, (.ld false 1 (.t 21)), no⟩, ⟨some 23, (.mv (.t 6)), no⟩, ⟨some 24, (.ixa 3 (.t 22) (.t 23)), no⟩, ⟨some 25, (.fld 2 (.t 24)), no⟩, ⟨some 26, (.ld false 1 (.t 25)), no⟩, ⟨some 27, (.len false (.t 26)), no⟩, ⟨some 28, (.bin .lss (.t 20) (.t 27)), no⟩]) (.cond (.t 28) .skip (.exit 3))) (.seq (.blk 4 (.seq 
 (.reg [⟨some 31, (.fld 3 (.t 2)), no⟩, ⟨some 32, (.ld false 1 (.t 31)), no⟩, ⟨some 33, (.mv (.t 6)), no⟩, ⟨some 34, (.ixa 3 (.t 32) (.t 33)), no⟩, ⟨some 35, (.fld 2 (.t 34)), no⟩, ⟨some 36, (.ld false 1 (.t 35)), no⟩, ⟨some 37, (.mv (.t 7)), no⟩, ⟨some 38, (.ixa 3 (.t 36) (.t 37)), no⟩, ⟨some 39, (.fld 0 (.t 38)), no⟩, ⟨some 40, (.ld false 1 (.t 39)), no⟩]) (.cond (.t 40) 
 (.reg [⟨some 41, (.mv (.t 5)), no⟩, ⟨some 42, (.fld 3 (.t 2)), no⟩, ⟨some 43, (.ld false 1 (.t 42)), no⟩, ⟨some 44, (.mv (.t 6)), no⟩, ⟨some 45, (.ixa 3 (.t 43) (.t 44)), no⟩, ⟨some 46, (.fld 2 (.t 45)), no⟩, ⟨some 47, (.ld false 1 (.t 46)), no⟩, ⟨some 48, (.mv (.t 7)), no⟩, ⟨some 49, (.ixa 3 (.t 47) (.t 48)), no⟩, ⟨some 50, (.fld 1 (.t 49)), no⟩, ⟨some 51, (.ld false 1 (.t 50)), no⟩, ⟨some 52, (.len false (.t 51)), no⟩, ⟨some 53, (.bin .add (.t 41) (.t 52)), no⟩, ⟨some 5, (.mv (.t 53)), no⟩]) .skip))) 
 (.reg [⟨some 29, (.mv (.t 7)), no⟩, ⟨some 30, (.bin .add (.t 29) (.k (.int .i64 1))), no⟩, ⟨some 7, (.mv (.t 30)), no⟩]))))))) 
 (.reg [⟨some 18, (.mv (.t 6)), no⟩, ⟨some 19, (.bin .add (.t 18) (.k (.int .i64 1))), no⟩, ⟨some 6, (.mv (.t 19)), no⟩])))))) (.seq (.seq 
 (.reg [⟨some 54, (.fld 4 (.t 2)), no⟩, ⟨some 55, (.fld 0 (.t 54)), no⟩, ⟨some 56, (.ld false 1 (.t 55)), no⟩]) (.cond (.t 56) 
 (.reg [⟨some 57, (.mv (.t 5)), no⟩, ⟨some 58, (.fld 4 (.t 2)), no⟩, ⟨some 59, (.fld 1 (.t 58)), no⟩, ⟨some 60, (.ld false 1 (.t 59)), no⟩, ⟨some 61, (.len false (.t 60)), no⟩, ⟨some 62, (.bin .add (.t 57) (.t 61)), no⟩, ⟨some 5, (.mv (.t 62)), no⟩]) .skip)) (.seq 
 (.reg [⟨some 63, (.mv (.t 5)), no⟩, ⟨some 4, (.mv (.t 63)), no⟩]) .ret)))) .skip)))))) (.seq 
 (.reg [⟨some 4, (.mv (.k (.int .i64 0))), no⟩]) .ret)))⟩
theorem a25_ok : compFn Try.prog Try.f25 = some a25 := by kernel_rfl



def headsN (a : DArg) : Nat := if a.Lst then a.Heads.length else 0
def callN (c : DCall) : Nat := (c.Args.map headsN).sum
def consesN (r : DRule) : Nat := headsN r.Result + (r.Calls.map callN).sum
def costOf (r : DRule) (kind : Int) : Int := if kind = 1 then 1 else if kind = 2 then (consesN r : Int) else 0

theorem headsN_le (a : DArg) : headsN a ≤ wArg a := by
  unfold headsN wArg wSumS wL; split <;> omega
theorem sum_le {α : Type} {f g : α → Nat} (h : ∀ x, f x ≤ g x) : ∀ l : List α, (l.map f).sum ≤ (l.map g).sum
  | [] => Nat.le_refl _
  | x :: l => by have := sum_le h l; have := h x; simp only [List.map_cons, List.sum_cons]; omega
theorem callN_le (c : DCall) : callN c ≤ wCall c := by
  have := sum_le headsN_le c.Args
  unfold callN wCall wArgS wL; omega
theorem consesN_le (r : DRule) : consesN r ≤ wRule r := by
  have := sum_le callN_le r.Calls
  have := headsN_le r.Result
  unfold consesN wRule wCallS wL; omega

set_option maxRecDepth 20000 in
set_option maxHeartbeats 2000000 in
theorem k_heads (a : DArg) : Holds Try.prog 92 [.agg (rAArg a)] (fun r => r = i64 (headsN a)) := by
  refine holds_of_run Try.func92 a92_ok rfl (by simp [a92]) ?_
  simp [a92, rAArg]
  unfold headsN
  cases a.Lst <;> simp

set_option maxRecDepth 20000 in
set_option maxHeartbeats 2000000 in
theorem k_RuleCost (r : DRule) (kind : Int) (hw : wRule r ≤ 1048576) : Holds Try.prog 27 [.agg (rARule r), i64 kind] (fun x => x = i64 (costOf r kind)) := by
  have hT := consesN_le r
  refine holds_of_run Try.func27 a27_ok rfl (by simp [a27]) ?_
  simp [a27, rARule]
  unfold costOf
  by_cases h1 : kind = 1
  · simp [h1]
  by_cases h2 : kind = 2
  case neg => simp [h1, h2]
  simp [h2]
  first | refine call_of (k_heads r.Result) (by simp [rAArg]) ?_ | refine callD_of (k_heads r.Result) (by simp [rAArg]) ?_ | refine call_of (k_heads r.Result) rfl ?_ | refine callD_of (k_heads r.Result) rfl ?_
  rintro r rfl
  simp
  intro hl
  refine rL_forH [19, 20] 21 r.Calls.length (fun i s _ _ => ∃ acc : Nat, s 5 = i64 acc ∧ acc + ((r.Calls.map callN).drop i).sum = consesN r) hl (by simp) ⟨headsN r.Result, by simp, by simp [consesN]⟩ ?_ ?_
  · rintro i s h n hi hg hk s21 hw ⟨acc, s5, hT1⟩
    simp at hk
    rw [List.drop_eq_getElem_cons (by simpa using hi), List.sum_cons, List.getElem_map] at hT1
    simp [hk, s21, hi, hg, rACall]
    intro hl2
    refine rL_forH [19, 20, 21, 26, 27] 28 (r.Calls[i]).Args.length (fun j s _ _ => ∃ acc : Nat, s 5 = i64 acc ∧ acc + (((r.Calls[i]).Args.map headsN).drop j).sum + ((r.Calls.map callN).drop (i + 1)).sum = consesN r) hl2 (by simp) ⟨acc, by simp [s5], by rw [List.drop_zero]; exact hT1 ▸ by unfold callN; omega⟩ ?_ ?_
    · rintro j s2 h2 n2 hj hgj hk2 s28 hw2 ⟨acc2, s5b, hT2⟩
      simp at hk2
      rw [List.drop_eq_getElem_cons (by simpa using hj), List.sum_cons, List.getElem_map] at hT2
      simp [hk2, hk, s28, s21, hj, hgj, rAArg, s5b]
      first | refine call_of (k_heads _) (by simp [rAArg]) ?_ | refine callD_of (k_heads _) (by simp [rAArg]) ?_ | refine call_of (k_heads _) rfl ?_ | refine callD_of (k_heads _) rfl ?_
      rintro r rfl
      simp [hk2, hk, s28, s21, s5b, hw2]
      exact ⟨acc2 + headsN (r.Calls[i].Args[j]), by rw [wrap64 (by omega)]; rfl, by omega⟩
    · rintro s2 h2 n2 hk2 s28 ⟨acc2, s5b, hT2⟩
      simp at hk2
      simp [hk2, hk, s28, s21, s5b, hw]
      exact ⟨acc2, rfl, by rw [List.drop_eq_nil_of_le (by simp)] at hT2; simpa using hT2⟩
  · rintro s h n hk s21 ⟨acc, s5, hT1⟩
    simp at hk
    rw [List.drop_eq_nil_of_le (by simp)] at hT1
    simp at hT1
    simp [hk, s21, s5, hT1]

set_option maxRecDepth 20000 in
set_option maxHeartbeats 2000000 in
theorem ks_RuleCost (r : DRule) (kind : Int) (hw : wRule r ≤ 1048576) : Holds Try.prog 25 [.agg (rARule r), i64 kind] (fun x => x = i64 (costOf r kind)) := by
  have hT := consesN_le r
  refine holds_of_run Try.func25 a25_ok rfl (by simp [a25]) ?_
  simp [a25, rARule]
  unfold costOf
  by_cases h1 : kind = 1
  · simp [h1]
  by_cases h2 : kind = 2
  case neg => simp [h1, h2]
  simp [h2]
  have hl : r.Calls.length ≤ LIM := by have := wL_len wCall r.Calls; unfold wRule wCallS at hw; unfold LIM; omega
  refine rL_forS [2] 6 r.Calls.length (fun i s => ∃ acc : Nat, s 5 = i64 acc ∧ acc + ((r.Calls.map callN).drop i).sum + headsN r.Result = consesN r) hl (by simp) ⟨0, by simp, by simp [consesN]; omega⟩ ?_ ?_
  · rintro i s h R hi hg hk s6 hw6 ⟨acc, s5, hT1⟩ hh hR _ _
    simp at hk hh
    rw [List.drop_eq_getElem_cons (by simpa using hi), List.sum_cons, List.getElem_map] at hT1
    simp [hk, s6, hi, hg, hh]
    intro _
    have hl2 : (r.Calls[i]).Args.length ≤ LIM := by
      have := wL_len wArg (r.Calls[i]).Args
      have := wL_mem (w := wCall) (List.getElem_mem hi)
      unfold wRule wCallS at hw
      rw [show wCall r.Calls[i] = (r.Calls[i]).Bind.length + (r.Calls[i]).Func.length + wArgS (r.Calls[i]).Args from rfl] at this
      unfold wArgS at this
      unfold LIM; omega
    refine rL_forS [2, 6] 7 (r.Calls[i]).Args.length (fun j s => ∃ acc : Nat, s 5 = i64 acc ∧ acc + (((r.Calls[i]).Args.map headsN).drop j).sum + ((r.Calls.map callN).drop (i + 1)).sum + headsN r.Result = consesN r) hl2 (by simp) ⟨acc, by simp [s5], by rw [List.drop_zero]; exact hT1 ▸ by unfold callN; omega⟩ ?_ ?_
    · rintro j s2 h2 R2 hj hgj hk2 s7 hw2 ⟨acc2, s5b, hT2⟩ hh2 hR2 _ _
      simp at hk2
      simp [hh] at hh2
      rw [List.drop_eq_getElem_cons (by simpa using hj), List.sum_cons, List.getElem_map] at hT2
      simp [hk2, hk, s7, s6, hi, hg, hj, hgj, s5b, hh2, hw2]
      intro _
      refine ⟨fun hL => ?_, fun hL => ?_⟩
      · have e : headsN (r.Calls[i].Args[j]) = (r.Calls[i].Args[j]).Heads.length := by simp [headsN, hL]
        rw [e] at hT2
        intro _
        refine hR2 _ (by simp [hk2, hk, s6]) (by simp) ⟨acc2 + (r.Calls[i].Args[j]).Heads.length, ?_, by omega⟩
        simp
        rw [wrap64 (by omega)]
      · exact hR2 _ (by simp [hk2, hk, s6]) (by simp) ⟨acc2, by simp [s5b], by simpa [headsN, hL] using hT2⟩
    · rintro s2 h2 R2 hk2 s7 ⟨acc2, s5b, hT2⟩ hh2 _ hX
      simp at hk2
      simp [hh] at hh2
      simp [hk2, hk, s7, s6, s5b, hi, hg, hw6, hh2]
      intro _
      refine hX _ _ ?_
      simp [hk2, hk, s7, s6, s5b, hi, hg, hw6]
      exact hR _ (by simp [hk2, hk]) (by simp) ⟨acc2, by simp [s5b], by rw [List.drop_eq_nil_of_le (by simp)] at hT2; simpa using hT2⟩
  · rintro s h R hk s6 ⟨acc, s5, hT1⟩ hh _ hX
    simp at hk hh
    rw [List.drop_eq_nil_of_le (by simp)] at hT1
    simp at hT1
    simp [hk, s6, s5, hh]
    intro _
    refine hX _ _ ?_
    simp [hk, s5]
    refine ⟨fun hL => ?_, fun hL => ?_⟩
    · have e : headsN r.Result = r.Result.Heads.length := by simp [headsN, hL]
      intro _
      rw [wrap64 (by omega)]; omega
    · simp [headsN, hL] at hT1; rw [hT1]
end Go.Proofs.Ytlbdgpkgmheikaa

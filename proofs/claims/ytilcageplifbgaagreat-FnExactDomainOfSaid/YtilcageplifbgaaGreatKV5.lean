/- Contracts: patterns, guards. -/
import Derived.Test.YtilcageplifbgaaGreatKV4
namespace Go.Proofs.YtilcageplifbgaaGreat
set_option linter.all false
open Go Go.RowKit Go.Proofs
theorem a276_ok : compFn Tryz.prog Tryz.f276 = some (tContainsFunc 298) := by kernel_rfl
theorem a298_ok : compFn Tryz.prog Tryz.f298 = some (tIndexFunc true 4) := by kernel_rfl
def a277 : AFn :=
⟨9, [(.t 3)], (.seq
 (.reg [⟨some 2, (.boxv (.t 0)), no⟩, ⟨some 3, (.mv (.k (.bool false))), no⟩]) (.seq
 (.reg [⟨some 4, (.fld 0 (.t 2)), no⟩, ⟨some 5, (.ld false 1 (.t 4)), no⟩, ⟨some 6, (.fld 0 (.t 1)), no⟩, ⟨some 7, (.ld false 1 (.t 6)), no⟩, ⟨some 8, (.bin .eql (.t 5) (.t 7)), no⟩, ⟨some 3, (.mv (.t 8)), no⟩]) .ret))⟩
theorem a277_ok : compFn Tryz.prog Tryz.f277 = some a277 := by kernel_rfl
def a224 : AFn :=
⟨54, [(.t 4)], (.seq
 (.reg [⟨some 2, (.boxv (.t 0)), no⟩, ⟨some 4, (.mv (.k (.bool false))), no⟩]) (.seq (.seq
 (.reg [⟨some 7, (.mv (.t 1)), no⟩, ⟨some 8, (.len false (.t 7)), no⟩, ⟨some 9, (.mv (.k (.int .i64 0))), no⟩]) (.blk 0 (.loop (.seq
 (.reg [⟨some 10, (.bin .lss (.t 9) (.t 8)), no⟩]) (.seq (.cond (.t 10) .skip (.exit 0)) (.seq (.blk 1 (.seq
 (.reg [⟨some 11, (.mv (.t 9)), no⟩, ⟨some 12, (.ixa 4 (.t 7) (.t 9)), no⟩, ⟨some 13, (.ld true 4 (.t 12)), no⟩, ⟨some 6, (.box [(.str []), (.bool false), (.str []), (.str [])]), no⟩, ⟨some 5, (.mv (.t 11)), no⟩, ⟨no, (.st 4 (.t 6) (.t 13)), no⟩]) (.seq (.seq
 (.reg [⟨some 14, (.fld 0 (.t 6)), no⟩, ⟨some 15, (.ld false 1 (.t 14)), no⟩, ⟨some 16, (.call (.k (.fn (.func 64) [] [])) [(.t 15)]), no⟩, ⟨some 17, (.un .not (.t 16)), no⟩, ⟨some 18, (.mv (.t 17)), no⟩, ⟨some 19, (.fld 1 (.t 2)), (some (18, false))⟩, ⟨some 20, (.ld false 1 (.t 19)), (some (18, false))⟩, ⟨some 21, (.fld 0 (.t 6)), (some (18, false))⟩, ⟨some 22, (.ld false 1 (.t 21)), (some (18, false))⟩, ⟨some 23, (.call (.k (.fn (.func 81) [] [])) [(.t 20), (.t 22)]), (some (18, false))⟩, ⟨some 24, (.un .not (.t 23)), (some (18, false))⟩, ⟨some 25, (.pick (.t 18) (.k (.bool true)) (.t 24)), no⟩, ⟨some 26, (.mv (.t 25)), no⟩, ⟨some 27, (.mv (.t 1)), (some (26, false))⟩, ⟨some 28, (.mv (.t 5)), (some (26, false))⟩, ⟨some 29, (.slc false 4 (.t 27) Option.none (some (.t 28))), (some (26, false))⟩, ⟨some 30, (.mkf (.func 277) [] [(.t 6)]), (some (26, false))⟩, ⟨some 31, (.call (.k (.fn (.func 276) [] [])) [(.t 29), (.t 30)]), (some (26, false))⟩, ⟨some 32, (.pick (.t 26) (.k (.bool true)) (.t 31)), no⟩]) (.cond (.t 32) (.seq
 (.reg [⟨some 4, (.mv (.k (.bool false))), no⟩]) .ret) .skip)) (.seq
 (.reg [⟨some 33, (.fld 1 (.t 6)), no⟩, ⟨some 34, (.ld false 1 (.t 33)), no⟩]) (.cond (.t 34) (.seq
 (.reg [⟨some 35, (.fld 2 (.t 6)), no⟩, ⟨some 36, (.ld false 1 (.t 35)), no⟩, ⟨some 37, (.call (.k (.fn (.func 149) [] [])) [(.t 36)]), no⟩, ⟨some 38, (.un .not (.t 37)), no⟩, ⟨some 39, (.mv (.t 38)), no⟩, ⟨some 40, (.fld 3 (.t 6)), (some (39, false))⟩, ⟨some 41, (.ld false 1 (.t 40)), (some (39, false))⟩, ⟨some 42, (.call (.k (.fn (.func 64) [] [])) [(.t 41)]), (some (39, false))⟩, ⟨some 43, (.un .not (.t 42)), (some (39, false))⟩, ⟨some 44, (.pick (.t 39) (.k (.bool true)) (.t 43)), no⟩]) (.cond (.t 44) (.seq
 (.reg [⟨some 4, (.mv (.k (.bool false))), no⟩]) .ret) .skip)) (.seq
 (.reg [⟨some 45, (.fld 2 (.t 6)), no⟩, ⟨some 46, (.ld false 1 (.t 45)), no⟩, ⟨some 47, (.bin .neq (.t 46) (.k (.str []))), no⟩, ⟨some 48, (.mv (.t 47)), no⟩, ⟨some 49, (.fld 3 (.t 6)), (some (48, false))⟩, ⟨some 50, (.ld false 1 (.t 49)), (some (48, false))⟩, ⟨some 51, (.bin .neq (.t 50) (.k (.str []))), (some (48, false))⟩, ⟨some 52, (.pick (.t 48) (.k (.bool true)) (.t 51)), no⟩]) (.cond (.t 52) (.seq
 (.reg [⟨some 4, (.mv (.k (.bool false))), no⟩]) .ret) .skip)))))))
 (.reg [⟨some 53, (.bin .add (.t 9) (.k (.int .i64 1))), no⟩, ⟨some 9, (.mv (.t 53)), no⟩]))))))) (.seq
 (.reg [⟨some 4, (.mv (.k (.bool true))), no⟩]) .ret)))⟩
theorem a224_ok : compFn Tryz.prog Tryz.f224 = some a224 := by kernel_rfl
def a207 : AFn :=
⟨72, [(.t 4)], (.seq
 (.reg [⟨some 2, (.boxv (.t 0)), no⟩, ⟨some 4, (.mv (.k (.bool false))), no⟩]) (.seq
 (.reg [⟨some 8, (.bsl 1 []), no⟩, ⟨some 5, (.mv (.t 8)), no⟩]) (.seq (.seq
 (.reg [⟨some 6, (.mv (.k (.int .i64 0))), no⟩]) (.blk 0 (.loop (.seq (.seq
 (.reg [⟨some 9, (.mv (.t 6)), no⟩, ⟨some 10, (.mv (.t 1)), no⟩, ⟨some 11, (.len false (.t 10)), no⟩, ⟨some 12, (.bin .lss (.t 9) (.t 11)), no⟩]) (.cond (.t 12) .skip (.exit 0))) (.seq (.blk 1 (.seq
 (.reg [⟨some 15, (.mv (.t 1)), no⟩, ⟨some 16, (.mv (.t 6)), no⟩, ⟨some 17, (.ixa 4 (.t 15) (.t 16)), no⟩, ⟨some 18, (.ld true 4 (.t 17)), no⟩, ⟨some 7, (.box [(.str []), (.bool false), (.str []), (.str [])]), no⟩, ⟨no, (.st 4 (.t 7) (.t 18)), no⟩]) (.seq (.seq
 (.reg [⟨some 19, (.fld 1 (.t 2)), no⟩, ⟨some 20, (.ld false 1 (.t 19)), no⟩, ⟨some 21, (.fld 0 (.t 7)), no⟩, ⟨some 22, (.ld false 1 (.t 21)), no⟩, ⟨some 23, (.call (.k (.fn (.func 75) [] [])) [(.t 20), (.t 22)]), no⟩, ⟨some 24, (.bin .lss (.t 23) (.k (.int .i64 0))), no⟩, ⟨some 25, (.mv (.t 24)), no⟩, ⟨some 26, (.fld 0 (.t 7)), (some (25, false))⟩, ⟨some 27, (.ld false 1 (.t 26)), (some (25, false))⟩, ⟨some 28, (.call (.k (.fn (.func 143) [] [])) [(.t 27)]), (some (25, false))⟩, ⟨some 29, (.un .not (.t 28)), (some (25, false))⟩, ⟨some 30, (.pick (.t 25) (.k (.bool true)) (.t 29)), no⟩, ⟨some 31, (.mv (.t 30)), no⟩, ⟨some 32, (.mv (.t 5)), (some (31, false))⟩, ⟨some 33, (.fld 0 (.t 7)), (some (31, false))⟩, ⟨some 34, (.ld false 1 (.t 33)), (some (31, false))⟩, ⟨some 35, (.call (.k (.fn (.func 75) [] [])) [(.t 32), (.t 34)]), (some (31, false))⟩, ⟨some 36, (.bin .geq (.t 35) (.k (.int .i64 0))), (some (31, false))⟩, ⟨some 37, (.pick (.t 31) (.k (.bool true)) (.t 36)), no⟩]) (.cond (.t 37) (.seq
 (.reg [⟨some 4, (.mv (.k (.bool false))), no⟩]) .ret) .skip)) (.seq
 (.reg [⟨some 38, (.mv (.t 5)), no⟩, ⟨some 39, (.fld 0 (.t 7)), no⟩, ⟨some 40, (.ld false 1 (.t 39)), no⟩, ⟨some 41, (.bsl 1 [(.t 40)]), no⟩, ⟨some 42, (.app 16 1 (.t 38) (.t 41)), no⟩, ⟨some 5, (.mv (.t 42)), no⟩]) (.seq
 (.reg [⟨some 43, (.fld 1 (.t 7)), no⟩, ⟨some 44, (.ld false 1 (.t 43)), no⟩, ⟨some 45, (.mv (.t 44)), no⟩, ⟨some 46, (.fld 2 (.t 7)), (some (45, true))⟩, ⟨some 47, (.ld false 1 (.t 46)), (some (45, true))⟩, ⟨some 48, (.call (.k (.fn (.func 204) [] [])) [(.t 47)]), (some (45, true))⟩, ⟨some 49, (.un .not (.t 48)), (some (45, true))⟩, ⟨some 50, (.mv (.t 49)), (some (45, true))⟩, ⟨some 51, (.fld 3 (.t 7)), (some (50, false))⟩, ⟨some 52, (.ld false 1 (.t 51)), (some (50, false))⟩, ⟨some 53, (.call (.k (.fn (.func 143) [] [])) [(.t 52)]), (some (50, false))⟩, ⟨some 54, (.un .not (.t 53)), (some (50, false))⟩, ⟨some 55, (.pick (.t 50) (.k (.bool true)) (.t 54)), (some (45, true))⟩, ⟨some 56, (.pick (.t 45) (.t 55) (.k (.bool false))), no⟩, ⟨some 57, (.mv (.t 56)), no⟩, ⟨some 58, (.fld 1 (.t 7)), (some (57, false))⟩, ⟨some 59, (.ld false 1 (.t 58)), (some (57, false))⟩, ⟨some 60, (.un .not (.t 59)), (some (57, false))⟩, ⟨some 61, (.mv (.t 60)), (some (57, false))⟩, ⟨some 62, (.fld 2 (.t 7)), (some (61, true))⟩, ⟨some 63, (.ld false 1 (.t 62)), (some (61, true))⟩, ⟨some 64, (.bin .neq (.t 63) (.k (.str []))), (some (61, true))⟩, ⟨some 65, (.mv (.t 64)), (some (61, true))⟩, ⟨some 66, (.fld 3 (.t 7)), (some (65, false))⟩, ⟨some 67, (.ld false 1 (.t 66)), (some (65, false))⟩, ⟨some 68, (.bin .neq (.t 67) (.k (.str []))), (some (65, false))⟩, ⟨some 69, (.pick (.t 65) (.k (.bool true)) (.t 68)), (some (61, true))⟩, ⟨some 70, (.pick (.t 61) (.t 69) (.k (.bool false))), (some (57, false))⟩, ⟨some 71, (.pick (.t 57) (.k (.bool true)) (.t 70)), no⟩]) (.cond (.t 71) (.seq
 (.reg [⟨some 4, (.mv (.k (.bool false))), no⟩]) .ret) .skip))))))
 (.reg [⟨some 13, (.mv (.t 6)), no⟩, ⟨some 14, (.bin .add (.t 13) (.k (.int .i64 1))), no⟩, ⟨some 6, (.mv (.t 14)), no⟩])))))) (.seq
 (.reg [⟨some 4, (.mv (.k (.bool true))), no⟩]) .ret))))⟩
theorem a207_ok : compFn Tryz.prog Tryz.f207 = some a207 := by kernel_rfl
def a208 : AFn :=
⟨32, [(.t 4)], (.seq
 (.reg [⟨some 4, (.mv (.k (.bool false))), no⟩]) (.seq (.seq
 (.reg [⟨some 5, (.mv (.k (.int .i64 0))), no⟩]) (.blk 0 (.loop (.seq (.seq
 (.reg [⟨some 6, (.mv (.t 5)), no⟩, ⟨some 7, (.mv (.t 0)), no⟩, ⟨some 8, (.len false (.t 7)), no⟩, ⟨some 9, (.bin .lss (.t 6) (.t 8)), no⟩]) (.cond (.t 9) .skip (.exit 0))) (.seq (.blk 1 (.seq
 (.reg [⟨some 12, (.mv (.t 0)), no⟩, ⟨some 13, (.mv (.t 5)), no⟩, ⟨some 14, (.ixa 2 (.t 12) (.t 13)), no⟩, ⟨some 15, (.ld true 2 (.t 14)), no⟩, ⟨some 16, (.call (.k (.fn (.func 267) [] [])) [(.t 15)]), no⟩, ⟨some 17, (.un .not (.t 16)), no⟩, ⟨some 18, (.mv (.t 17)), no⟩, ⟨some 19, (.mv (.t 0)), (some (18, false))⟩, ⟨some 20, (.mv (.t 5)), (some (18, false))⟩, ⟨some 21, (.mv (.t 5)), (some (18, false))⟩, ⟨some 22, (.bin .add (.t 21) (.k (.int .i64 1))), (some (18, false))⟩, ⟨some 23, (.slc false 2 (.t 19) (some (.t 20)) (some (.t 22))), (some (18, false))⟩, ⟨some 24, (.build [(.bool false), (.nil 2), (.str [])] [(1, (1, (.t 23)))]), (some (18, false))⟩, ⟨some 25, (.mv (.t 1)), (some (18, false))⟩, ⟨some 26, (.call (.k (.fn (.func 211) [] [])) [(.t 24), (.k (.bool false)), (.t 25)]), (some (18, false))⟩, ⟨some 27, (.un .not (.t 26)), (some (18, false))⟩, ⟨some 28, (.pick (.t 18) (.k (.bool true)) (.t 27)), no⟩]) (.cond (.t 28) (.seq
 (.reg [⟨some 4, (.mv (.k (.bool false))), no⟩]) .ret) .skip)))
 (.reg [⟨some 10, (.mv (.t 5)), no⟩, ⟨some 11, (.bin .add (.t 10) (.k (.int .i64 1))), no⟩, ⟨some 5, (.mv (.t 11)), no⟩])))))) (.seq
 (.reg [⟨some 29, (.mv (.t 0)), no⟩, ⟨some 30, (.len false (.t 29)), no⟩, ⟨some 31, (.bin .leq (.t 30) (.k (.int .i64 2))), no⟩, ⟨some 4, (.mv (.t 31)), no⟩]) .ret)))⟩
theorem a208_ok : compFn Tryz.prog Tryz.f208 = some a208 := by kernel_rfl
theorem pure_pat {h : Heap} {n id : Nat} {q : DPattern} (x : DPattern) (hv : h id = some ⟨true, 4, [rAPattern q]⟩) (hid : id < n) : Pure1 Tryz.prog 277 [] [.ptr id 0 0] h n (.agg (rAPattern x)) (.bool (x.Lst == q.Lst)) := by
  intro K hK
  refine acall_gc ?_
  refine acall_body Tryz.func277 a277_ok rfl (by simp [a277]) ?_
  have n1 : ¬ id = n := by omega
  simp [a277, hv, n1, rAPattern, scal, hK]
  intro j hj hj'
  omega
def metN (qs : List DPattern) (i : Nat) : List Str := (qs.take i).map (·.Lst)
theorem metN_succ {qs : List DPattern} {i : Nat} (hi : i < qs.length) : metN qs (i + 1) = metN qs i ++ [(qs[i]).Lst] := by unfold metN; rw [List.take_succ_eq_append_getElem hi, List.map_append]; rfl
theorem metN_len {qs : List DPattern} {i : Nat} (hi : i ≤ qs.length) : (metN qs i).length = i := by simp [metN]; omega
theorem any_lst (l : List DPattern) (s : Str) : (l.any fun x => x.Lst == s) = hasS (l.map (·.Lst)) s := by simp [hasS, List.any_map, Function.comp_def]
set_option maxRecDepth 20000 in
set_option maxHeartbeats 1000000 in
theorem k_patternsOk (f : DFunction) (qs : List DPattern) : Holds Tryz.prog 224 [.agg (rAFunction f), .sl 4 (qs.map rAPattern)] (fun r => r = .bool (patsFrom f.Params [] qs)) := by
  refine holds_of_run Tryz.func224 a224_ok rfl (by simp [a224]) ?_
  simp [a224, rAFunction]
  intro hl
  generalize hB : patsFrom f.Params [] qs = B
  refine rL_forO [1, 2, 7, 8] 9 qs.length (fun i s h n => 0 < n ∧ h 0 = some ⟨true, 4, [[.str f.Name, .sl 1 (strsR f.Params), .bool f.ListResult, .sl 2 (f.Pre.map rALin)]]⟩ ∧ patsFrom f.Params (metN qs i) (qs.drop i) = B) hl (by simp) ⟨by simp, by simp, hB⟩ ?_ ?_
  · rintro i st h n R hi hg hk s9 hw ⟨hn, e0, hJ⟩ hR hret _
    simp at hk
    rw [List.drop_eq_getElem_cons hi] at hJ
    simp only [patsFrom] at hJ
    have z0 : ¬ 0 = n := by omega
    have z1 : ¬ n = 0 := by omega
    refine rC_cut [1, 2, 7, 8, 9] (fun s => s 10 = .bool true) (by simp [hk, s9, hi]) ?_
    intro st1 hk1 s10
    simp at hk1
    refine rC_pass s10 (rC_seqI (rC_blkI ?_))
    refine rC_cutH [1, 2, 7, 8, 9] (fun s h' n' => s 5 = .int .i64 i ∧ s 6 = .ptr n 0 0 ∧ n' = n + 1 ∧ h' n = some ⟨true, 4, [rAPattern qs[i]]⟩ ∧ h' 0 = some ⟨true, 4, [[.str f.Name, .sl 1 (strsR f.Params), .bool f.ListResult, .sl 2 (f.Pre.map rALin)]]⟩) (by simp [hk, hk1, s9, hi, rAPattern, e0, z0]) ?_
    rintro st2 h2 n2 hk2 ⟨s5, s6, rfl, en, e0'⟩
    simp at hk2
    have ht : ∀ l : List DPattern, List.take i (l.map rAPattern) = (l.take i).map rAPattern := fun l => by simp
    refine rC_seqI (rC_cut [1, 2, 6, 7, 8, 9] (fun s => s 32 = .bool (!listName (qs[i]).Lst || !hasS f.Params (qs[i]).Lst || hasS (metN qs i) (qs[i]).Lst)) ?_ ?_)
    · simp [hk, hk1, hk2, s9, hi, rAPattern, e0', en, z0, z1, s5, s6]
      first | refine callD_of (k_IsListName (qs[i]'hi).Lst) (by simp) ?_ | refine call_of (k_IsListName (qs[i]'hi).Lst) (by simp) ?_ | refine callD_of (k_IsListName (qs[i]'hi).Lst) rfl ?_ | refine call_of (k_IsListName (qs[i]'hi).Lst) rfl ?_
      rintro r rfl
      cases c1 : listName (qs[i]).Lst
      · simp [hk, hk1, hk2, s9, hi, rAPattern, e0', en, z0, s5, s6]
      simp [hk, hk1, hk2, s9, hi, rAPattern, e0', en, z0, z1, s5, s6]
      first | refine callD_of (k_Contains f.Params (qs[i]'hi).Lst) (by simp) ?_ | refine call_of (k_Contains f.Params (qs[i]'hi).Lst) (by simp) ?_ | refine callD_of (k_Contains f.Params (qs[i]'hi).Lst) rfl ?_ | refine call_of (k_Contains f.Params (qs[i]'hi).Lst) rfl ?_
      rintro r rfl
      cases c2 : hasS f.Params (qs[i]).Lst
      · simp [hk, hk1, hk2, s9, hi, rAPattern, e0', en, z0, s5, s6]
      simp [hk, hk1, hk2, s9, hi, e0', en, z0, z1, s5, s6, lowOf, asI]
      refine ⟨by omega, ?_⟩
      rw [ht]
      refine acall_tContainsFunc (p := fun x => x.Lst == (qs[i]).Lst) (rowOf := rAPattern) (eltOf := fun x => .agg (rAPattern x)) Tryz.func276 a276_ok rfl Tryz.func298 a298_ok rfl (fun x => by simp) (qs.take i)
        (fun x _ => pure_pat (q := qs[i]) x en (Nat.lt_succ_self n)) ?_
      rw [any_lst, show List.map (·.Lst) (qs.take i) = metN qs i from rfl]
      simp [hk, hk1, hk2, e0', en]
    intro st3 hk3 s32
    simp at hk3
    generalize hcc : (!listName (qs[i]).Lst || !hasS f.Params (qs[i]).Lst || hasS (metN qs i) (qs[i]).Lst) = cc at *
    have hp : (metN qs (i + 1)) = metN qs i ++ [(qs[i]).Lst] := metN_succ hi
    rw [← hp] at hJ
    cases cc
    case true =>
      have : (patB f.Params qs[i] && !hasS (metN qs i) (qs[i]).Lst) = false := by
        unfold patB
        cases g1 : listName (qs[i]).Lst <;> cases g2 : hasS f.Params (qs[i]).Lst <;> cases g3 : hasS (metN qs i) (qs[i]).Lst <;> rw [g1, g2, g3] at hcc <;> simp at hcc <;> simp
      rw [this, Bool.false_and] at hJ
      subst hJ
      simp [s32]
      refine hret _ _ _ ?_
      simp
    have hcc' : listName (qs[i]).Lst = true ∧ hasS f.Params (qs[i]).Lst = true ∧ hasS (metN qs i) (qs[i]).Lst = false := by
      cases g1 : listName (qs[i]).Lst <;> cases g2 : hasS f.Params (qs[i]).Lst <;> cases g3 : hasS (metN qs i) (qs[i]).Lst <;> rw [g1, g2, g3] at hcc <;> simp at hcc <;> simp
    unfold patB at hJ
    rw [hcc'.1, hcc'.2.1, hcc'.2.2] at hJ
    simp only [Bool.true_and, Bool.not_false, Bool.and_true] at hJ
    simp [hk, hk1, hk2, hk3, s32, s6, en, rAPattern]
    cases c3 : (qs[i]).Cons
    · rw [c3] at hJ
      simp only [Bool.false_eq_true, if_false] at hJ
      simp [hk, hk1, hk2, hk3, s6, en, rAPattern, c3]
      cases c4 : ((qs[i]).Head == [])
      · rw [c4, Bool.false_and, Bool.false_and] at hJ
        subst hJ
        have c4' : ¬ (qs[i]).Head = [] := by simpa using c4
        simp [hk, hk1, hk2, hk3, s6, en, rAPattern, c3, c4']
        refine hret _ _ _ ?_
        simp
      have c4' : (qs[i]).Head = [] := by simpa using c4
      cases c5 : ((qs[i]).Tail == [])
      · rw [c4, c5, Bool.and_false, Bool.false_and] at hJ
        subst hJ
        have c5' : ¬ (qs[i]).Tail = [] := by simpa using c5
        simp [hk, hk1, hk2, hk3, s6, en, rAPattern, c3, c4', c5']
        refine hret _ _ _ ?_
        simp
      · rw [c4, c5, Bool.true_and, Bool.true_and] at hJ
        have c5' : (qs[i]).Tail = [] := by simpa using c5
        simp [hk, hk1, hk2, hk3, s6, en, rAPattern, c3, c4', c5', s9, hw]
        exact hR _ _ _ (by simp [hk, hk1, hk2, hk3]) (by simp) ⟨by omega, by simp [e0'], hJ⟩
    · rw [c3] at hJ
      simp only [if_true] at hJ
      simp [hk, hk1, hk2, hk3, s6, en, rAPattern, c3]
      first | refine callD_of (k_isIntName (qs[i]'hi).Head) (by simp) ?_ | refine call_of (k_isIntName (qs[i]'hi).Head) (by simp) ?_ | refine callD_of (k_isIntName (qs[i]'hi).Head) rfl ?_ | refine call_of (k_isIntName (qs[i]'hi).Head) rfl ?_
      rintro r rfl
      cases c4 : intName (qs[i]).Head
      · rw [c4, Bool.false_and, Bool.false_and] at hJ
        subst hJ
        simp
        refine hret _ _ _ ?_
        simp
      simp [hk, hk1, hk2, hk3, s6, en, rAPattern, c3]
      first | refine callD_of (k_IsListName (qs[i]'hi).Tail) (by simp) ?_ | refine call_of (k_IsListName (qs[i]'hi).Tail) (by simp) ?_ | refine callD_of (k_IsListName (qs[i]'hi).Tail) rfl ?_ | refine call_of (k_IsListName (qs[i]'hi).Tail) rfl ?_
      rintro r rfl
      cases c5 : listName (qs[i]).Tail
      · rw [c4, c5, Bool.and_false, Bool.false_and] at hJ
        subst hJ
        simp
        refine hret _ _ _ ?_
        simp
      · rw [c4, c5, Bool.true_and, Bool.true_and] at hJ
        simp [hk, hk1, hk2, hk3, s9, hw]
        exact hR _ _ _ (by simp [hk, hk1, hk2, hk3]) (by simp) ⟨by omega, by simp [e0'], hJ⟩
  · rintro st h n R hk s9 ⟨hn, e0, hJ⟩ hret hX
    simp at hk
    rw [List.drop_eq_nil_of_le (by omega)] at hJ
    refine rC_cut [1, 2, 7, 8, 9] (fun s => s 10 = .bool false) (by simp [hk, s9]) ?_
    intro st1 hk1 s10
    simp at hk1
    refine rC_stop s10 ?_
    simp
    refine hX _ _ _ _ ?_
    simp [← hJ, patsFrom]
theorem idx_lt (l : List Str) (s : Str) : decide (idxFrom (fun x => x == s) l 0 < 0) = !hasS l s := by
  cases h : hasS l s
  · have := idxFrom_neg (p := fun x => x == s) (l := l) (i := 0) |>.2 h
    simp [this]
  · have : ¬ idxFrom (fun x => x == s) l 0 < 0 := fun h' => by have := idxFrom_neg.1 h'; unfold hasS at h; rw [h] at this; cases this
    simp [this]
theorem idx_ge (l : List Str) (s : Str) : decide (0 ≤ idxFrom (fun x => x == s) l 0) = hasS l s := by
  have := idxFrom_any (p := fun x => x == s) (l := l) (i := 0)
  simp only [ge_iff_le] at this
  rw [this]; rfl
set_option maxRecDepth 20000 in
set_option maxHeartbeats 1000000 in
theorem ks_l10Patterns (f : DFunction) (qs : List DPattern) (hq : qs.length ≤ 1048576) : Holds Tryz.prog 207 [.agg (rAFunction f), .sl 4 (qs.map rAPattern)] (fun r => r = .bool (patsFrom f.Params [] qs)) := by
  refine holds_of_run Tryz.func207 a207_ok rfl (by simp [a207]) ?_
  simp [a207, rAFunction]
  generalize hB : patsFrom f.Params [] qs = B
  refine rL_forO [1, 2] 6 qs.length (fun i s h n => 0 < n ∧ h 0 = some ⟨true, 4, [[.str f.Name, .sl 1 (strsR f.Params), .bool f.ListResult, .sl 2 (f.Pre.map rALin)]]⟩ ∧ patsFrom f.Params (metN qs i) (qs.drop i) = B ∧
      ∃ id, 0 < id ∧ id < n ∧ s 5 = .ref id 0 i ∧ h id = some ⟨false, 1, strsR (metN qs i)⟩) (by unfold LIM; omega) (by simp) ⟨by simp, by simp, hB, 1, by omega, by omega, by simp, by simp [strsR, metN]⟩ ?_ ?_
  · rintro i st h n R hi hg hk s6 hw ⟨hn, e0, hJ, id, hid0, hidn, s5, eid⟩ hR hret _
    simp at hk
    rw [List.drop_eq_getElem_cons hi] at hJ
    simp only [patsFrom] at hJ
    have z0 : ¬ 0 = n := by omega
    have z1 : ¬ n = 0 := by omega
    have z2 : ¬ id = n := by omega
    have z3 : ¬ n = id := by omega
    have z4 : ¬ id = 0 := by omega
    have z5 : ¬ 0 = id := by omega
    have hlt : (metN qs i).length = i := metN_len (by omega)
    refine rC_seqI (rC_cut [1, 2, 5, 6] (fun s => s 12 = .bool true) (by simp [hk, s6, hi]) ?_)
    intro st1 hk1 s12
    simp at hk1
    refine rC_pass1 s12 (rC_seqI (rC_blkI ?_))
    refine rC_cutH [1, 2, 5, 6] (fun s h' n' => s 7 = .ptr n 0 0 ∧ n' = n + 1 ∧ h' n = some ⟨true, 4, [rAPattern qs[i]]⟩ ∧ h' 0 = some ⟨true, 4, [[.str f.Name, .sl 1 (strsR f.Params), .bool f.ListResult, .sl 2 (f.Pre.map rALin)]]⟩ ∧ h' id = some ⟨false, 1, strsR (metN qs i)⟩) (by simp [hk, hk1, s6, hi, rAPattern, e0, z0, z2, z3, eid]) ?_
    rintro st2 h2 n2 hk2 ⟨s7, rfl, en, e0', eid'⟩
    simp at hk2
    have ht : List.take i (strsR (metN qs i)) = strsR (metN qs i) := List.take_of_length_le (by simp [hlt])
    refine rC_seqI (rC_cut [1, 2, 5, 6, 7] (fun s => s 37 = .bool (!hasS f.Params (qs[i]).Lst || !listName (qs[i]).Lst || hasS (metN qs i) (qs[i]).Lst)) ?_ ?_)
    · simp [hk, hk1, hk2, s6, hi, rAPattern, e0', en, z0, z1, s7]
      first | refine callD_of (ks_IndexOf f.Params (qs[i]'hi).Lst) (by simp) ?_ | refine call_of (ks_IndexOf f.Params (qs[i]'hi).Lst) (by simp) ?_ | refine callD_of (ks_IndexOf f.Params (qs[i]'hi).Lst) rfl ?_ | refine call_of (ks_IndexOf f.Params (qs[i]'hi).Lst) rfl ?_
      rintro r rfl
      have e1 := idx_lt f.Params (qs[i]).Lst
      generalize idxFrom (fun x => x == (qs[i]).Lst) f.Params 0 = k1 at e1
      cases c1 : hasS f.Params (qs[i]).Lst
      · rw [c1] at e1
        have : k1 < 0 := by simpa using e1
        simp [this]
      rw [c1] at e1
      have : ¬ k1 < 0 := by simpa using e1
      simp [hk, hk1, hk2, s6, hi, rAPattern, e0', en, z0, z1, s7, this]
      first | refine callD_of (ks_IsListName (qs[i]'hi).Lst) (by simp) ?_ | refine call_of (ks_IsListName (qs[i]'hi).Lst) (by simp) ?_ | refine callD_of (ks_IsListName (qs[i]'hi).Lst) rfl ?_ | refine call_of (ks_IsListName (qs[i]'hi).Lst) rfl ?_
      rintro r rfl
      cases c2 : listName (qs[i]).Lst
      · simp
      simp [hk, hk1, hk2, s6, hi, rAPattern, e0', en, z0, z1, s7, s5, eid']
      first | refine callD_of (ks_IndexOf (metN qs i) (qs[i]'hi).Lst) (by simp [eid', ht, hlt]) ?_ | refine call_of (ks_IndexOf (metN qs i) (qs[i]'hi).Lst) (by simp [eid', ht, hlt]) ?_ | refine callD_of (ks_IndexOf (metN qs i) (qs[i]'hi).Lst) rfl ?_ | refine call_of (ks_IndexOf (metN qs i) (qs[i]'hi).Lst) rfl ?_
      rintro r rfl
      have e2 := idx_ge (metN qs i) (qs[i]).Lst
      generalize idxFrom (fun x => x == (qs[i]).Lst) (metN qs i) 0 = k2 at e2
      simp [hk, hk1, hk2, e0', en, e2]
    intro st3 hk3 s37
    simp at hk3
    generalize hcc : (!hasS f.Params (qs[i]).Lst || !listName (qs[i]).Lst || hasS (metN qs i) (qs[i]).Lst) = cc at *
    have hp : (metN qs (i + 1)) = metN qs i ++ [(qs[i]).Lst] := metN_succ hi
    rw [← hp] at hJ
    cases cc
    case true =>
      have : (patB f.Params qs[i] && !hasS (metN qs i) (qs[i]).Lst) = false := by
        unfold patB
        cases g1 : listName (qs[i]).Lst <;> cases g2 : hasS f.Params (qs[i]).Lst <;> cases g3 : hasS (metN qs i) (qs[i]).Lst <;> rw [g1, g2, g3] at hcc <;> simp at hcc <;> simp
      rw [this, Bool.false_and] at hJ
      subst hJ
      simp [s37]
      refine hret _ _ _ ?_
      simp
    have hcc' : listName (qs[i]).Lst = true ∧ hasS f.Params (qs[i]).Lst = true ∧ hasS (metN qs i) (qs[i]).Lst = false := by
      cases g1 : listName (qs[i]).Lst <;> cases g2 : hasS f.Params (qs[i]).Lst <;> cases g3 : hasS (metN qs i) (qs[i]).Lst <;> rw [g1, g2, g3] at hcc <;> simp at hcc <;> simp
    unfold patB at hJ
    rw [hcc'.1, hcc'.2.1, hcc'.2.2] at hJ
    simp only [Bool.true_and, Bool.not_false, Bool.and_true] at hJ
    refine rC_condF s37 ?_
    have y0 : ¬ 0 = n + 1 := by omega
    have y1 : ¬ n = n + 1 := by omega
    have y2 : ¬ id = n + 1 := by omega
    have y3 : ¬ n + 1 = id := by omega
    have y4 : ¬ n + 1 = 0 := by omega
    have y5 : ¬ n + 2 = 0 := by omega
    have y6 : ¬ n = n + 2 := by omega
    have y7 : ¬ 0 = n + 2 := by omega
    have y8 : ¬ n + 1 = n := by omega
    simp only [kont_seq]
    refine rC_cutH [1, 2, 6, 7] (fun s h' n' => n' = n + 3 ∧ s 5 = .ref (n + 2) 0 (i + 1) ∧ h' n = some ⟨true, 4, [rAPattern qs[i]]⟩ ∧ h' 0 = some ⟨true, 4, [[.str f.Name, .sl 1 (strsR f.Params), .bool f.ListResult, .sl 2 (f.Pre.map rALin)]]⟩ ∧ h' (n + 2) = some ⟨false, 1, strsR (metN qs (i + 1))⟩) ?_ ?_
    · simp [hk, hk1, hk2, hk3, s7, en, rAPattern, e0', s5, eid', z0, z1, z2, z3, z4, z5, y0, y1, y2, y3, y4, y5, y6, y7, y8, ht, hlt, metN_succ hi]
      refine ⟨by unfold LIM; omega, ?_⟩
      simp [strsR]
    rintro st4 h4 n4 hk4 ⟨rfl, s5', en', e0'', eid''⟩
    simp at hk4
    refine rC_cut [1, 2, 5, 6, 7] (fun s => s 71 = .bool (!(if (qs[i]).Cons then intName (qs[i]).Head && listName (qs[i]).Tail else (qs[i]).Head == [] && (qs[i]).Tail == []))) ?_ ?_
    · cases c3 : (qs[i]).Cons
      · cases c4 : ((qs[i]).Head == [])
        · have c4' : ¬ (qs[i]).Head = [] := by simpa using c4
          have c4e : (qs[i]).Head.isEmpty = false := by simpa using c4'
          simp [hk, hk1, hk2, hk3, hk4, s7, en', rAPattern, c3, c4, c4', c4e]
        have c4' : (qs[i]).Head = [] := by simpa using c4
        cases c5 : ((qs[i]).Tail == [])
        · have c5' : ¬ (qs[i]).Tail = [] := by simpa using c5
          have c5e : (qs[i]).Tail.isEmpty = false := by simpa using c5'
          simp [hk, hk1, hk2, hk3, hk4, s7, en', rAPattern, c3, c4', c5, c5', c5e]
        · have c5' : (qs[i]).Tail = [] := by simpa using c5
          simp [hk, hk1, hk2, hk3, hk4, s7, en', rAPattern, c3, c4', c5']
      · simp [hk, hk1, hk2, hk3, hk4, s7, en', rAPattern, c3]
        first | refine callD_of (ks_l10IntName (qs[i]'hi).Head) (by simp) ?_ | refine call_of (ks_l10IntName (qs[i]'hi).Head) (by simp) ?_ | refine callD_of (ks_l10IntName (qs[i]'hi).Head) rfl ?_ | refine call_of (ks_l10IntName (qs[i]'hi).Head) rfl ?_
        rintro r rfl
        cases c4 : intName (qs[i]).Head
        · simp [hk, hk1, hk2, hk3, hk4, s7, en', rAPattern, c3]
        simp [hk, hk1, hk2, hk3, hk4, s7, en', rAPattern, c3]
        first | refine callD_of (ks_IsListName (qs[i]'hi).Tail) (by simp) ?_ | refine call_of (ks_IsListName (qs[i]'hi).Tail) (by simp) ?_ | refine callD_of (ks_IsListName (qs[i]'hi).Tail) rfl ?_ | refine call_of (ks_IsListName (qs[i]'hi).Tail) rfl ?_
        rintro r rfl
        cases c5 : listName (qs[i]).Tail
        · simp [hk, hk1, hk2, hk3, hk4, s7, en', rAPattern, c3]
        · simp [hk, hk1, hk2, hk3, hk4, s7, en', rAPattern, c3]
    intro st5 hk5 s71
    simp at hk5
    generalize (if (qs[i]).Cons then intName (qs[i]).Head && listName (qs[i]).Tail else (qs[i]).Head == [] && (qs[i]).Tail == []) = D at *
    cases D
    · rw [Bool.false_and] at hJ
      subst hJ
      simp [s71]
      refine hret _ _ _ ?_
      simp
    · rw [Bool.true_and] at hJ
      simp [hk, hk1, hk2, hk3, hk4, hk5, s71, s6, hw]
      exact hR _ _ _ (by simp [hk, hk1, hk2, hk3, hk4, hk5]) (by simp) ⟨by omega, by simp [e0''], hJ, n + 2, by omega, by omega, by simp [hk5, s5'], by simp [eid'']⟩
  · rintro st h n R hk s6 ⟨hn, e0, hJ, _⟩ hret hX
    simp at hk
    rw [List.drop_eq_nil_of_le (by omega)] at hJ
    refine rC_seqI (rC_cut [1, 2, 6] (fun s => s 12 = .bool false) (by simp [hk, s6]) ?_)
    intro st1 hk1 s12
    simp at hk1
    refine rC_stop1 s12 ?_
    simp
    refine hX _ _ _ _ ?_
    simp [← hJ, patsFrom]
theorem wSum1 {list : List DSum} {i : Nat} (hi : i < list.length) (hw : wSumS list ≤ 1048576) : wArg ⟨false, [list[i]], []⟩ ≤ 1048576 := by
  have h1 := wL_mem (w := wSum) (List.getElem_mem hi)
  unfold wSumS at hw
  have h2 : 1 + wSum list[i] ≤ wL wSum list := by
    have h3 := sum_mem wSum list (List.getElem_mem hi)
    unfold wL; omega
  unfold wArg wSumS wL
  simp
  omega
theorem guard_arg (s : DSum) (scope : List Str) : argOk ⟨false, [s], []⟩ false scope = guardOk scope s := by
  unfold argOk guardOk
  rw [okArg_guard, allS_snames, argN0_guard]
  simp
theorem ks_l10Guards (list : List DSum) (scope : List Str) (hw : wSumS list ≤ 1048576) : Holds Tryz.prog 208 [.sl 2 (list.map rASum), .sl 1 (strsR scope)] (fun r => r = .bool (list.all (guardOk scope) && decide (list.length ≤ 2))) := by
  refine holds_of_lim Tryz.func208 rfl rfl fun hl => ?_
  simp at hl
  refine holds_of_run Tryz.func208 a208_ok rfl (by simp [a208]) ?_
  simp [a208]
  generalize hB : list.all (guardOk scope) = B
  refine rL_forS [0, 1] 5 list.length (fun i _ => (list.drop i).all (guardOk scope) = B) hl.1 (by simp) (by simpa using hB) ?_ ?_
  · rintro i st h R hi hg hk s5 hw5 hJ hh hR hret _
    simp at hk
    rw [List.drop_eq_getElem_cons hi, List.all_cons] at hJ
    simp [hk, s5, hi, hg]
    intro _
    first | refine callD_of (ks_IsValidSum (list[i]'hi)) (by simp) ?_ | refine call_of (ks_IsValidSum (list[i]'hi)) (by simp) ?_ | refine callD_of (ks_IsValidSum (list[i]'hi)) rfl ?_ | refine call_of (ks_IsValidSum (list[i]'hi)) rfl ?_
    rintro r rfl
    cases hc : okSum list[i]
    · have : guardOk scope list[i] = false := by unfold guardOk; rw [hc]; rfl
      rw [this, Bool.false_and] at hJ
      subst hJ
      simp
      refine hret _ _ _ ?_
      simp
    simp [hk, s5, hi, hg, hw5, lowOf, asI]
    refine ⟨by omega, by omega, ?_⟩
    have ht : (List.take (i + 1) (list.map rASum)).drop i = [rASum list[i]] := by
      rw [List.take_succ_eq_append_getElem (by simpa using hi)]
      rw [List.drop_left' (by simp; omega)]
      simp
    have he : ((i : Int) + 1).toNat = i + 1 := by omega
    have hb : bwl [.agg [.bool false, .sl 2 [rASum list[i]], .str []], .bool false, .sl 1 (strsR scope)] h = some [.agg (rAArg ⟨false, [list[i]], []⟩), .bool false, .sl 1 (strsR scope)] := by simp [rAArg]
    simp only [he, ht]
    first | refine callD_of (ks_l10Arg ⟨false, [list[i]'hi], []⟩ false scope (wSum1 hi hw)) (by simp [rAArg, he, ht]) ?_ | refine call_of (ks_l10Arg ⟨false, [list[i]'hi], []⟩ false scope (wSum1 hi hw)) (by simp [rAArg, he, ht]) ?_ | refine callD_of (ks_l10Arg ⟨false, [list[i]'hi], []⟩ false scope (wSum1 hi hw)) rfl ?_ | refine call_of (ks_l10Arg ⟨false, [list[i]'hi], []⟩ false scope (wSum1 hi hw)) rfl ?_
    rintro r rfl
    rw [guard_arg]
    cases hc2 : guardOk scope list[i]
    · rw [hc2, Bool.false_and] at hJ
      subst hJ
      simp
      refine hret _ _ _ ?_
      simp
    · rw [hc2, Bool.true_and] at hJ
      simp [hk, s5, hw5]
      exact hR _ (by simp [hk]) (by simp) hJ
  · rintro st h R hk s5 hJ hh _ hX
    simp at hk
    rw [List.drop_eq_nil_of_le (by omega)] at hJ
    simp [hk, s5]
    intro _
    refine hX _ _ ?_
    simp at hJ
    subst hJ
    simp [hk]
    omega
end Go.Proofs.YtilcageplifbgaaGreat

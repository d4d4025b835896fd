/- Contracts: the names that a rule may use. -/
import Derived.Test.YtilcageplifbgaaGreatKC11
import Derived.Test.YtilcageplifbgaaGreatKC1
namespace Go.Proofs.YtilcageplifbgaaGreat
set_option linter.all false
open Go Go.RowKit Go.Proofs
def a228 : AFn :=
⟨66, [(.t 6)], (.seq
 (.reg [⟨some 3, (.boxv (.t 0)), no⟩, ⟨some 4, (.boxv (.t 1)), no⟩, ⟨some 6, (.mv (.k (.nil 1))), no⟩]) (.seq
 (.reg [⟨some 15, (.ld true 2 (.t 3)), no⟩, ⟨some 16, (.fld 0 (.t 4)), no⟩, ⟨some 17, (.ld false 1 (.t 16)), no⟩, ⟨some 18, (.call (.k (.fn (.func 62) [] [])) [(.t 15), (.t 17)]), no⟩, ⟨some 14, (.mv (.t 18)), no⟩, ⟨some 19, (.ext (.t 14) 0), no⟩, ⟨some 20, (.ext (.t 14) 1), no⟩, ⟨some 7, (.box [(.str []), (.nil 1), (.bool false), (.nil 2)]), no⟩, ⟨no, (.st 4 (.t 7) (.t 19)), no⟩, ⟨some 8, (.mv (.t 20)), no⟩]) (.seq (.seq
 (.reg [⟨some 21, (.mv (.t 8)), no⟩, ⟨some 22, (.un .not (.t 21)), no⟩, ⟨some 23, (.mv (.t 22)), no⟩, ⟨some 24, (.mv (.t 2)), (some (23, false))⟩, ⟨some 25, (.fld 3 (.t 4)), (some (23, false))⟩, ⟨some 26, (.ld false 1 (.t 25)), (some (23, false))⟩, ⟨some 27, (.len false (.t 26)), (some (23, false))⟩, ⟨some 28, (.call (.k (.fn (.func 98) [] [])) [(.t 24), (.k (.int .i64 0)), (.t 27)]), (some (23, false))⟩, ⟨some 29, (.un .not (.t 28)), (some (23, false))⟩, ⟨some 30, (.pick (.t 23) (.k (.bool true)) (.t 29)), no⟩]) (.cond (.t 30) (.seq
 (.reg [⟨some 6, (.mv (.k (.nil 1))), no⟩]) .ret) .skip)) (.seq
 (.reg [⟨some 31, (.fld 1 (.t 7)), no⟩, ⟨some 32, (.ld false 1 (.t 31)), no⟩, ⟨some 9, (.mv (.t 32)), no⟩]) (.seq (.seq
 (.reg [⟨some 33, (.fld 1 (.t 4)), no⟩, ⟨some 34, (.ld false 1 (.t 33)), no⟩, ⟨some 35, (.len false (.t 34)), no⟩, ⟨some 36, (.mv (.k (.int .i64 0))), no⟩]) (.blk 0 (.loop (.seq
 (.reg [⟨some 37, (.bin .lss (.t 36) (.t 35)), no⟩]) (.seq (.cond (.t 37) .skip (.exit 0)) (.seq (.blk 1 (.seq
 (.reg [⟨some 38, (.ixa 4 (.t 34) (.t 36)), no⟩, ⟨some 39, (.ld true 4 (.t 38)), no⟩, ⟨some 11, (.box [(.str []), (.bool false), (.str []), (.str [])]), no⟩, ⟨no, (.st 4 (.t 11) (.t 39)), no⟩]) (.seq
 (.reg [⟨some 40, (.fld 1 (.t 11)), no⟩, ⟨some 41, (.ld false 1 (.t 40)), no⟩]) (.cond (.t 41)
 (.reg [⟨some 42, (.mv (.t 9)), no⟩, ⟨some 43, (.fld 2 (.t 11)), no⟩, ⟨some 44, (.ld false 1 (.t 43)), no⟩, ⟨some 45, (.fld 3 (.t 11)), no⟩, ⟨some 46, (.ld false 1 (.t 45)), no⟩, ⟨some 47, (.bsl 1 [(.t 44), (.t 46)]), no⟩, ⟨some 48, (.app 16 1 (.t 42) (.t 47)), no⟩, ⟨some 9, (.mv (.t 48)), no⟩]) .skip))))
 (.reg [⟨some 49, (.bin .add (.t 36) (.k (.int .i64 1))), no⟩, ⟨some 36, (.mv (.t 49)), no⟩]))))))) (.seq (.seq
 (.reg [⟨some 50, (.fld 3 (.t 4)), no⟩, ⟨some 51, (.ld false 1 (.t 50)), no⟩, ⟨some 52, (.mv (.t 2)), no⟩, ⟨some 53, (.slc false 3 (.t 51) Option.none (some (.t 52))), no⟩, ⟨some 54, (.len false (.t 53)), no⟩, ⟨some 55, (.mv (.k (.int .i64 0))), no⟩]) (.blk 2 (.loop (.seq
 (.reg [⟨some 56, (.bin .lss (.t 55) (.t 54)), no⟩]) (.seq (.cond (.t 56) .skip (.exit 2)) (.seq (.blk 3 (.seq
 (.reg [⟨some 57, (.ixa 3 (.t 53) (.t 55)), no⟩, ⟨some 58, (.ld true 3 (.t 57)), no⟩, ⟨some 13, (.box [(.str []), (.str []), (.nil 3)]), no⟩, ⟨no, (.st 3 (.t 13) (.t 58)), no⟩])
 (.reg [⟨some 59, (.mv (.t 9)), no⟩, ⟨some 60, (.fld 0 (.t 13)), no⟩, ⟨some 61, (.ld false 1 (.t 60)), no⟩, ⟨some 62, (.bsl 1 [(.t 61)]), no⟩, ⟨some 63, (.app 16 1 (.t 59) (.t 62)), no⟩, ⟨some 9, (.mv (.t 63)), no⟩])))
 (.reg [⟨some 64, (.bin .add (.t 55) (.k (.int .i64 1))), no⟩, ⟨some 55, (.mv (.t 64)), no⟩]))))))) (.seq
 (.reg [⟨some 65, (.mv (.t 9)), no⟩, ⟨some 6, (.mv (.t 65)), no⟩]) .ret)))))))⟩
theorem a228_ok : compFn Tryz.prog Tryz.f228 = some a228 := by kernel_rfl
def a209 : AFn :=
⟨78, [(.t 6)], (.seq
 (.reg [⟨some 3, (.boxv (.t 0)), no⟩, ⟨some 4, (.boxv (.t 1)), no⟩, ⟨some 6, (.mv (.k (.nil 1))), no⟩]) (.seq
 (.reg [⟨some 13, (.ld true 2 (.t 3)), no⟩, ⟨some 14, (.fld 0 (.t 4)), no⟩, ⟨some 15, (.ld false 1 (.t 14)), no⟩, ⟨some 16, (.call (.k (.fn (.func 57) [] [])) [(.t 13), (.t 15)]), no⟩, ⟨some 12, (.mv (.t 16)), no⟩, ⟨some 17, (.ext (.t 12) 0), no⟩, ⟨some 18, (.ext (.t 12) 1), no⟩, ⟨some 7, (.box [(.str []), (.nil 1), (.bool false), (.nil 2)]), no⟩, ⟨no, (.st 4 (.t 7) (.t 17)), no⟩, ⟨some 8, (.mv (.t 18)), no⟩]) (.seq
 (.reg [⟨some 19, (.bsl 1 []), no⟩, ⟨some 9, (.mv (.t 19)), no⟩]) (.seq (.seq
 (.reg [⟨some 20, (.mv (.t 8)), no⟩, ⟨some 21, (.un .not (.t 20)), no⟩, ⟨some 22, (.mv (.t 21)), no⟩, ⟨some 23, (.mv (.t 2)), (some (22, false))⟩, ⟨some 24, (.fld 3 (.t 4)), (some (22, false))⟩, ⟨some 25, (.ld false 1 (.t 24)), (some (22, false))⟩, ⟨some 26, (.len false (.t 25)), (some (22, false))⟩, ⟨some 27, (.call (.k (.fn (.func 96) [] [])) [(.t 23), (.k (.int .i64 0)), (.t 26)]), (some (22, false))⟩, ⟨some 28, (.un .not (.t 27)), (some (22, false))⟩, ⟨some 29, (.pick (.t 22) (.k (.bool true)) (.t 28)), no⟩]) (.cond (.t 29) (.seq
 (.reg [⟨some 30, (.mv (.t 9)), no⟩, ⟨some 6, (.mv (.t 30)), no⟩]) .ret) .skip)) (.seq
 (.reg [⟨some 31, (.mv (.t 9)), no⟩, ⟨some 32, (.fld 1 (.t 7)), no⟩, ⟨some 33, (.ld false 1 (.t 32)), no⟩, ⟨some 34, (.app 16 1 (.t 31) (.t 33)), no⟩, ⟨some 9, (.mv (.t 34)), no⟩]) (.seq (.seq
 (.reg [⟨some 10, (.mv (.k (.int .i64 0))), no⟩]) (.blk 0 (.loop (.seq (.seq
 (.reg [⟨some 35, (.mv (.t 10)), no⟩, ⟨some 36, (.fld 1 (.t 4)), no⟩, ⟨some 37, (.ld false 1 (.t 36)), no⟩, ⟨some 38, (.len false (.t 37)), no⟩, ⟨some 39, (.bin .lss (.t 35) (.t 38)), no⟩]) (.cond (.t 39) .skip (.exit 0))) (.seq (.blk 1 (.seq
 (.reg [⟨some 42, (.fld 1 (.t 4)), no⟩, ⟨some 43, (.ld false 1 (.t 42)), no⟩, ⟨some 44, (.mv (.t 10)), no⟩, ⟨some 45, (.ixa 4 (.t 43) (.t 44)), no⟩, ⟨some 46, (.fld 1 (.t 45)), no⟩, ⟨some 47, (.ld false 1 (.t 46)), no⟩]) (.cond (.t 47) (.draw (.op ⟨some 48, (.mv (.t 9)), no⟩ (.op ⟨some 49, (.fld 1 (.t 4)), no⟩ (.op ⟨some 50, (.ld false 1 (.t 49)), no⟩ (.op ⟨some 51, (.mv (.t 10)), no⟩ (.op ⟨some 52, (.ixa 4 (.t 50) (.t 51)), no⟩ (.op ⟨some 53, (.fld 2 (.t 52)), no⟩ (.op ⟨some 54, (.ld false 1 (.t 53)), no⟩ (.op ⟨some 55, (.fld 1 (.t 4)), no⟩ (.op ⟨some 56, (.ld false 1 (.t 55)), no⟩ (.op ⟨some 57, (.mv (.t 10)), no⟩ (.op ⟨some 58, (.ixa 4 (.t 56) (.t 57)), no⟩ (.op ⟨some 59, (.fld 3 (.t 58)), no⟩ (.op ⟨some 60, (.ld false 1 (.t 59)), no⟩ (.hop ⟨some 61, (.bsl 1 [(.t 54), (.t 60)]), no⟩ [] (.hop ⟨some 62, (.app 16 1 (.t 48) (.t 61)), no⟩ [] (.hop ⟨some 9, (.mv (.t 62)), no⟩ [] .fin))))))))))))))))) .skip)))
 (.reg [⟨some 40, (.mv (.t 10)), no⟩, ⟨some 41, (.bin .add (.t 40) (.k (.int .i64 1))), no⟩, ⟨some 10, (.mv (.t 41)), no⟩])))))) (.seq (.seq
 (.reg [⟨some 11, (.mv (.k (.int .i64 0))), no⟩]) (.blk 2 (.loop (.seq (.seq
 (.reg [⟨some 63, (.mv (.t 11)), no⟩, ⟨some 64, (.mv (.t 2)), no⟩, ⟨some 65, (.bin .lss (.t 63) (.t 64)), no⟩]) (.cond (.t 65) .skip (.exit 2))) (.seq (.blk 3
 (.reg [⟨some 68, (.mv (.t 9)), no⟩, ⟨some 69, (.fld 3 (.t 4)), no⟩, ⟨some 70, (.ld false 1 (.t 69)), no⟩, ⟨some 71, (.mv (.t 11)), no⟩, ⟨some 72, (.ixa 3 (.t 70) (.t 71)), no⟩, ⟨some 73, (.fld 0 (.t 72)), no⟩, ⟨some 74, (.ld false 1 (.t 73)), no⟩, ⟨some 75, (.bsl 1 [(.t 74)]), no⟩, ⟨some 76, (.app 16 1 (.t 68) (.t 75)), no⟩, ⟨some 9, (.mv (.t 76)), no⟩]))
 (.reg [⟨some 66, (.mv (.t 11)), no⟩, ⟨some 67, (.bin .add (.t 66) (.k (.int .i64 1))), no⟩, ⟨some 11, (.mv (.t 67)), no⟩])))))) (.seq
 (.reg [⟨some 77, (.mv (.t 9)), no⟩, ⟨some 6, (.mv (.t 77)), no⟩]) .ret))))))))⟩
theorem a209_ok : compFn Tryz.prog Tryz.f209 = some a209 := by kernel_rfl
def patN : List DPattern → List Str
  | [] => []
  | q :: l => (if q.Cons then [q.Head, q.Tail] else []) ++ patN l
def scopeOf (p : DProgram) (r : DRule) (n : Int) : List Str :=
  if (findFn p.Functions r.Func).isSome && inR n 0 r.Calls.length then ((findFn p.Functions r.Func).getD fn0).Params ++ patN r.Patterns ++ (r.Calls.take n.toNat).map (·.Bind) else []
theorem patN_len : ∀ l : List DPattern, (patN l).length ≤ 2 * l.length
  | [] => Nat.le_refl _
  | q :: l => by
    have := patN_len l
    simp only [patN, List.length_append, List.length_cons]
    split <;> simp <;> omega
theorem scope_len (p : DProgram) (r : DRule) (hp : wProgram p ≤ 1048576) (hr : wRule r ≤ 1048576) : ((findFn p.Functions r.Func).getD fn0).Params.length ≤ 1048576 ∧ r.Patterns.length ≤ 1048576 ∧ r.Calls.length ≤ 1048576 := by
  have h1 := wL_len wPattern r.Patterns
  have h2 := wL_len wCall r.Calls
  unfold wRule wPatternS wCallS at hr
  refine ⟨?_, by omega, by omega⟩
  cases hf : findFn p.Functions r.Func with
  | none => simp [fn0]
  | some f =>
    have h3 := wL_mem (w := wFunction) (List.mem_of_find?_eq_some hf)
    have h4 := wL_len List.length f.Params
    unfold wProgram wFunctionS at hp
    rw [show wFunction f = f.Name.length + wStringS f.Params + wLinS f.Pre from rfl] at h3
    unfold wStringS at h3
    simp only [Option.getD_some]; omega
set_option maxRecDepth 20000 in
set_option maxHeartbeats 1000000 in
theorem k_ScopeOf (p : DProgram) (r : DRule) (k : Int) (hp : wProgram p ≤ 1048576) (hr : wRule r ≤ 1048576) : Holds Tryz.prog 228 [.agg (rAProgram p), .agg (rARule r), i64 k] (fun x => x = .us 1 (strsR (scopeOf p r k))) := by
  obtain ⟨hl1, hl2, hl3⟩ := scope_len p r hp hr
  refine holds_of_run Tryz.func228 a228_ok rfl (by simp [a228]) ?_
  simp [a228, rAProgram, rARule]
  first | refine callD_of (k_FindFunction p r.Func hp) (by simp [rAProgram]) ?_ | refine call_of (k_FindFunction p r.Func hp) (by simp [rAProgram]) ?_ | refine callD_of (k_FindFunction p r.Func hp) rfl ?_ | refine call_of (k_FindFunction p r.Func hp) rfl ?_
  rintro r rfl
  unfold scopeOf
  generalize hG : (findFn p.Functions r.Func).getD fn0 = G at *
  simp only [optFn, hG]
  generalize hb1 : (findFn p.Functions r.Func).isSome = b1
  simp [rUFunction]
  cases b1
  · simp [strsR]
  simp
  intro _
  first | refine callD_of (k_within k 0 r.Calls.length) (by simp) ?_ | refine call_of (k_within k 0 r.Calls.length) (by simp) ?_ | refine callD_of (k_within k 0 r.Calls.length) rfl ?_ | refine call_of (k_within k 0 r.Calls.length) rfl ?_
  rintro r rfl
  cases h2 : inR k 0 r.Calls.length
  · simp [strsR]
  have hk0 : 0 ≤ k ∧ k ≤ r.Calls.length := by simpa [inR] using h2
  obtain ⟨m, rfl⟩ : ∃ m : Nat, k = m := ⟨k.toNat, by omega⟩
  simp
  intro _
  have hpl := patN_len r.Patterns
  generalize hT1 : G.Params ++ patN r.Patterns = T1
  have hT1l : T1.length ≤ 3145728 := by rw [← hT1]; simp; omega
  refine rL_forO [1, 2, 4, 34, 35] 36 r.Patterns.length (fun i s h n => h 1 = some ⟨true, 7, [rARule r]⟩ ∧ 4 < n ∧ ∃ (acc : List Str) (id : Nat), s 9 = .ref id 0 acc.length ∧ h id = some ⟨false, 1, strsR acc⟩ ∧ (id = 2 ∨ 4 < id) ∧ id < n ∧ acc ++ patN (r.Patterns.drop i) = T1)
    (by unfold LIM; omega) (by simp) ⟨by simp [rARule], by simp, G.Params, 2, by simp, by simp, by omega, by omega, by simpa using hT1⟩ ?_ ?_
  · rintro i s h n R hi hg hk s36 hw ⟨e1, hn, acc, id, s9, eid, hid2, hidn, hJ⟩ hR _ _
    simp at hk
    rw [List.drop_eq_getElem_cons hi] at hJ
    simp only [patN] at hJ
    have hal := congrArg List.length hJ
    simp only [List.length_append] at hal
    have n0 : ¬ id = n := by omega
    have n1 : ¬ 1 = n := by omega
    have n2 : ¬ id = n + 1 := by omega
    have n3 : ¬ 1 = n + 1 := by omega
    have n4 : ¬ 1 = n + 1 + 1 := by omega
    have n5 : ¬ 1 = id := by omega
    have n6 : ¬ n = 0 := by omega
    have n7 : ¬ n + 1 = id := by omega
    have n8 : ¬ n = id := by omega
    have n9 : ¬ id = n + 1 + 1 := by omega
    simp [hk, s36, hi, hw, rAPattern, e1, eid, n0, n1, n2, n3, n4, n5, n6]
    cases hc : (r.Patterns[i]).Cons
    · rw [hc] at hJ
      simp only [Bool.false_eq_true, if_false, List.nil_append] at hJ
      simp [s36, hw]
      exact hR _ _ _ (by simp [hk]) (by simp) ⟨by simp [e1, n1], by omega, acc, id, by simp [s9], by simp [eid, n0], hid2, by omega, hJ⟩
    · rw [hc] at hJ hal
      simp only [if_true] at hJ hal
      simp [s9, eid, n0, n2, n7, n8, s36, hw]
      refine ⟨by simp at hal; unfold LIM; omega, ?_⟩
      exact hR _ _ _ (by simp [hk]) (by simp) ⟨by simp [e1, n1, n3, n4, n5, n6], by omega, acc ++ [(r.Patterns[i]).Head, (r.Patterns[i]).Tail], n + 2, by simp, by simp [strsR], by omega, by omega, by rw [List.append_assoc]; exact hJ⟩
  · rintro s h n R hk s36 ⟨e1, hn, acc, id, s9, eid, hid2, hidn, hJ⟩ hret hX
    simp at hk
    rw [List.drop_eq_nil_of_le (by omega)] at hJ
    simp only [patN, List.append_nil] at hJ
    subst hJ
    simp [hk, s36]
    refine hX _ _ _ _ ?_
    have hm : m ≤ r.Calls.length := by omega
    simp [hk, e1, rARule, lowOf, asI, Nat.min_eq_left hm, hm]
    intro _
    generalize hT2 : G.Params ++ (patN r.Patterns ++ List.take m (List.map (fun x => x.Bind) r.Calls)) = T2
    have hT2l : T2.length ≤ 4194304 := by rw [← hT2]; simp; omega
    refine rL_forO [53, 54] 55 m (fun i s h n => ∃ (acc : List Str) (id : Nat), s 9 = .ref id 0 acc.length ∧ h id = some ⟨false, 1, strsR acc⟩ ∧ id < n ∧ acc ++ ((r.Calls.map (·.Bind)).take m).drop i = T2)
      (by unfold LIM; omega) (by simp) ⟨acc, id, by simp [s9], by simp [eid], hidn, by rw [← hT2, ← hT1]; simp⟩ ?_ ?_
    · rintro i s h n R hi hg hk s55 hw ⟨acc, id, s9, eid, hidn, hJ⟩ hR _ _
      simp at hk
      have hir : i < r.Calls.length := by omega
      rw [List.drop_eq_getElem_cons (by simp; omega)] at hJ
      have hal := congrArg List.length hJ
      simp at hJ hal
      have n0 : ¬ id = n := by omega
      have n2 : ¬ id = n + 1 := by omega
      have n7 : ¬ n + 1 = id := by omega
      have n8 : ¬ n = id := by omega
      simp [hk, s55, hi, hw, hir, rACall, s9, eid, n0, n2, n7, n8]
      refine ⟨by omega, by unfold LIM; omega, ?_⟩
      exact hR _ _ _ (by simp [hk]) (by simp) ⟨acc ++ [(r.Calls[i]).Bind], n + 2, by simp, by simp [strsR], by omega, by simpa using hJ⟩
    · rintro s h n R hk s55 ⟨acc, id, s9, eid, hidn, hJ⟩ hret hX
      simp at hk
      rw [List.drop_eq_nil_of_le (by simp; omega), List.append_nil] at hJ
      subst hJ
      simp [hk, s55]
      refine hX _ _ _ _ ?_
      simp [s9, eid]
set_option maxRecDepth 20000 in
set_option maxHeartbeats 1000000 in
theorem ks_ScopeOf (p : DProgram) (r : DRule) (k : Int) (hp : wProgram p ≤ 1048576) (hr : wRule r ≤ 1048576) : Holds Tryz.prog 209 [.agg (rAProgram p), .agg (rARule r), i64 k] (fun x => x = .us 1 (strsR (scopeOf p r k))) := by
  obtain ⟨hl1, hl2, hl3⟩ := scope_len p r hp hr
  refine holds_of_run Tryz.func209 a209_ok rfl (by simp [a209]) ?_
  simp [a209, rAProgram, rARule]
  first | refine callD_of (ks_FindFunction p r.Func hp) (by simp [rAProgram]) ?_ | refine call_of (ks_FindFunction p r.Func hp) (by simp [rAProgram]) ?_ | refine callD_of (ks_FindFunction p r.Func hp) rfl ?_ | refine call_of (ks_FindFunction p r.Func hp) rfl ?_
  rintro r rfl
  unfold scopeOf
  generalize hG : (findFn p.Functions r.Func).getD fn0 = G at *
  simp only [optFn, hG]
  generalize hb1 : (findFn p.Functions r.Func).isSome = b1
  simp [rUFunction]
  cases b1
  · simp [strsR]
  simp
  intro _
  first | refine callD_of (k_l1In k 0 r.Calls.length) (by simp) ?_ | refine call_of (k_l1In k 0 r.Calls.length) (by simp) ?_ | refine callD_of (k_l1In k 0 r.Calls.length) rfl ?_ | refine call_of (k_l1In k 0 r.Calls.length) rfl ?_
  rintro r rfl
  cases h2 : inR k 0 r.Calls.length
  · simp [strsR]
  have hk0 : 0 ≤ k ∧ k ≤ r.Calls.length := by simpa [inR] using h2
  obtain ⟨m, rfl⟩ : ∃ m : Nat, k = m := ⟨k.toNat, by omega⟩
  simp
  refine ⟨by unfold LIM; omega, ?_⟩
  have hpl := patN_len r.Patterns
  generalize hT1 : G.Params ++ patN r.Patterns = T1
  have hT1l : T1.length ≤ 3145728 := by rw [← hT1]; simp; omega
  refine rL_forO [1, 2, 4] 10 r.Patterns.length (fun i s h n => h 1 = some ⟨true, 7, [rARule r]⟩ ∧ 4 < n ∧ ∃ (acc : List Str) (id : Nat), s 9 = .ref id 0 acc.length ∧ h id = some ⟨false, 1, strsR acc⟩ ∧ 4 < id ∧ id < n ∧ acc ++ patN (r.Patterns.drop i) = T1)
    (by unfold LIM; omega) (by simp) ⟨by simp [rARule], by simp, G.Params, 6, by simp, by simp, by omega, by omega, by simpa using hT1⟩ ?_ ?_
  · rintro i s h n R hi hg hk s10 hw ⟨e1, hn, acc, id, s9, eid, hid2, hidn, hJ⟩ hR _ _
    simp at hk
    rw [List.drop_eq_getElem_cons hi] at hJ
    simp only [patN] at hJ
    have hal := congrArg List.length hJ
    simp only [List.length_append] at hal
    have n0 : ¬ id = n := by omega
    have n1 : ¬ 1 = n := by omega
    have n2 : ¬ id = n + 1 := by omega
    have n3 : ¬ 1 = n + 1 := by omega
    have n5 : ¬ 1 = id := by omega
    have n5' : ¬ id = 1 := by omega
    have n6 : ¬ n = 0 := by omega
    have n7 : ¬ n + 1 = id := by omega
    have n8 : ¬ n = id := by omega
    simp [hk, s10, hi, hg, hw, rAPattern, e1, rARule]
    intro _
    cases hc : (r.Patterns[i]).Cons
    · rw [hc] at hJ
      simp only [Bool.false_eq_true, if_false, List.nil_append] at hJ
      simp [s10, hw]
      exact hR _ _ _ (by simp [hk]) (by simp) ⟨by simp [e1], by omega, acc, id, by simp [s9], by simp [eid], hid2, by omega, hJ⟩
    · rw [hc] at hJ hal
      simp only [if_true] at hJ hal
      simp [hk, hi, rAPattern, e1, rARule, s9, eid, n0, n1, n2, n3, n5, n5', n6, n7, n8, s10, hw]
      refine ⟨by simp at hal; unfold LIM; omega, ?_⟩
      exact hR _ _ _ (by simp [hk]) (by simp) ⟨by simp [e1, n1, n3, n5, n6], by omega, acc ++ [(r.Patterns[i]).Head, (r.Patterns[i]).Tail], n + 1, by simp, by simp [strsR], by omega, by omega, by rw [List.append_assoc]; exact hJ⟩
  · rintro s h n R hkk s10 ⟨e1, hn, acc, id, s9, eid, hid2, hidn, hJ⟩ hret hX
    simp at hkk
    rw [List.drop_eq_nil_of_le (by omega)] at hJ
    simp only [patN, List.append_nil] at hJ
    subst hJ
    simp [hkk, s10, e1, rARule]
    intro _
    refine hX _ _ _ _ ?_
    have hm : m ≤ r.Calls.length := by omega
    simp [hkk]
    generalize hT2 : G.Params ++ (patN r.Patterns ++ List.take m (List.map (fun x => x.Bind) r.Calls)) = T2
    have hT2l : T2.length ≤ 4194304 := by rw [← hT2]; simp; omega
    refine rL_forO [2, 4] 11 m (fun i s h n => h 1 = some ⟨true, 7, [rARule r]⟩ ∧ 4 < n ∧ ∃ (acc : List Str) (id : Nat), s 9 = .ref id 0 acc.length ∧ h id = some ⟨false, 1, strsR acc⟩ ∧ 4 < id ∧ id < n ∧ acc ++ ((r.Calls.map (·.Bind)).take m).drop i = T2)
      (by unfold LIM; omega) (by simp) ⟨by simp [e1], hn, acc, id, by simp [s9], by simp [eid], hid2, hidn, by rw [← hT2, ← hT1]; simp⟩ ?_ ?_
    · rintro i s h n R hi hg hk s11 hw ⟨e1, hn, acc, id, s9, eid, hid2, hidn, hJ⟩ hR _ _
      simp at hk
      have hir : i < r.Calls.length := by omega
      rw [List.drop_eq_getElem_cons (by simp; omega)] at hJ
      have hal := congrArg List.length hJ
      simp at hJ hal
      have n0 : ¬ id = n := by omega
      have n1 : ¬ 1 = n := by omega
      have n2 : ¬ id = n + 1 := by omega
      have n3 : ¬ 1 = n + 1 := by omega
      have n5 : ¬ 1 = id := by omega
      have n5' : ¬ id = 1 := by omega
      have n6 : ¬ n = 0 := by omega
      have n7 : ¬ n + 1 = id := by omega
      have n8 : ¬ n = id := by omega
      simp [hk, hkk, s11, hi, hw, hir, e1, rARule, rACall, s9, eid, n0, n2, n7, n8]
      refine ⟨by unfold LIM; omega, ?_⟩
      exact hR _ _ _ (by simp [hk, hkk]) (by simp) ⟨by simp [e1, rARule, n1, n3, n5, n6], by omega, acc ++ [(r.Calls[i]).Bind], n + 1, by simp, by simp [strsR], by omega, by omega, by simpa using hJ⟩
    · rintro s h n R hk s11 ⟨e1, hn, acc, id, s9, eid, hid2, hidn, hJ⟩ hret hX
      simp at hk
      rw [List.drop_eq_nil_of_le (by simp; omega), List.append_nil] at hJ
      subst hJ
      simp [hk, hkk, s11]
      refine hX _ _ _ _ ?_
      simp [s9, eid]
end Go.Proofs.YtilcageplifbgaaGreat

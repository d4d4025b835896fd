/- Contracts: the names of an argument. -/
import Derived.Test.YtilcageplifbgaaGreatKC13
namespace Go.Proofs.YtilcageplifbgaaGreat
set_option linter.all false
open Go Go.RowKit Go.Proofs
def a227 : AFn :=
⟨20, [(.t 2)], (.seq
 (.reg [⟨some 1, (.boxv (.t 0)), no⟩, ⟨some 2, (.mv (.k (.nil 1))), no⟩]) (.seq
 (.reg [⟨some 3, (.mv (.k (.nil 1))), no⟩]) (.seq (.seq
 (.reg [⟨some 6, (.fld 1 (.t 1)), no⟩, ⟨some 7, (.ld false 1 (.t 6)), no⟩, ⟨some 8, (.len false (.t 7)), no⟩, ⟨some 9, (.mv (.k (.int .i64 0))), no⟩]) (.blk 0 (.loop (.seq
 (.reg [⟨some 10, (.bin .lss (.t 9) (.t 8)), no⟩]) (.seq (.cond (.t 10) .skip (.exit 0)) (.seq (.blk 1 (.seq
 (.reg [⟨some 11, (.ixa 2 (.t 7) (.t 9)), no⟩, ⟨some 12, (.ld true 2 (.t 11)), no⟩, ⟨some 5, (.box [(.int .i64 0), (.str [])]), no⟩, ⟨no, (.st 2 (.t 5) (.t 12)), no⟩])
 (.reg [⟨some 13, (.mv (.t 3)), no⟩, ⟨some 14, (.fld 1 (.t 5)), no⟩, ⟨some 15, (.ld false 1 (.t 14)), no⟩, ⟨some 16, (.bsl 1 [(.t 15)]), no⟩, ⟨some 17, (.app 16 1 (.t 13) (.t 16)), no⟩, ⟨some 3, (.mv (.t 17)), no⟩])))
 (.reg [⟨some 18, (.bin .add (.t 9) (.k (.int .i64 1))), no⟩, ⟨some 9, (.mv (.t 18)), no⟩]))))))) (.seq
 (.reg [⟨some 19, (.mv (.t 3)), no⟩, ⟨some 2, (.mv (.t 19)), no⟩]) .ret))))⟩
theorem a227_ok : compFn Tryz.prog Tryz.f227 = some a227 := by kernel_rfl
def a231 : AFn :=
⟨28, [(.t 2)], (.seq
 (.reg [⟨some 1, (.boxv (.t 0)), no⟩, ⟨some 2, (.mv (.k (.nil 1))), no⟩]) (.seq
 (.reg [⟨some 3, (.mv (.k (.nil 1))), no⟩]) (.seq (.seq
 (.reg [⟨some 6, (.fld 1 (.t 1)), no⟩, ⟨some 7, (.ld false 1 (.t 6)), no⟩, ⟨some 8, (.len false (.t 7)), no⟩, ⟨some 9, (.mv (.k (.int .i64 0))), no⟩]) (.blk 0 (.loop (.seq
 (.reg [⟨some 10, (.bin .lss (.t 9) (.t 8)), no⟩]) (.seq (.cond (.t 10) .skip (.exit 0)) (.seq (.blk 1 (.seq
 (.reg [⟨some 11, (.ixa 2 (.t 7) (.t 9)), no⟩, ⟨some 12, (.ld true 2 (.t 11)), no⟩, ⟨some 5, (.box [(.int .i64 0), (.nil 2)]), no⟩, ⟨no, (.st 2 (.t 5) (.t 12)), no⟩])
 (.reg [⟨some 13, (.mv (.t 3)), no⟩, ⟨some 14, (.ld true 2 (.t 5)), no⟩, ⟨some 15, (.call (.k (.fn (.func 227) [] [])) [(.t 14)]), no⟩, ⟨some 16, (.app 16 1 (.t 13) (.t 15)), no⟩, ⟨some 3, (.mv (.t 16)), no⟩])))
 (.reg [⟨some 17, (.bin .add (.t 9) (.k (.int .i64 1))), no⟩, ⟨some 9, (.mv (.t 17)), no⟩]))))))) (.seq (.seq
 (.reg [⟨some 18, (.fld 2 (.t 1)), no⟩, ⟨some 19, (.ld false 1 (.t 18)), no⟩, ⟨some 20, (.bin .neq (.t 19) (.k (.str []))), no⟩]) (.cond (.t 20)
 (.reg [⟨some 21, (.mv (.t 3)), no⟩, ⟨some 22, (.fld 2 (.t 1)), no⟩, ⟨some 23, (.ld false 1 (.t 22)), no⟩, ⟨some 24, (.bsl 1 [(.t 23)]), no⟩, ⟨some 25, (.app 16 1 (.t 21) (.t 24)), no⟩, ⟨some 3, (.mv (.t 25)), no⟩]) .skip)) (.seq
 (.reg [⟨some 26, (.mv (.t 3)), no⟩, ⟨some 27, (.call (.k (.fn (.func 282) [] [])) [(.t 26)]), no⟩, ⟨some 2, (.mv (.t 27)), no⟩]) .ret)))))⟩
theorem a231_ok : compFn Tryz.prog Tryz.f231 = some a231 := by kernel_rfl
def a269 : AFn :=
⟨48, [(.t 2)], (.seq
 (.reg [⟨some 1, (.boxv (.t 0)), no⟩, ⟨some 2, (.mv (.k (.nil 1))), no⟩]) (.seq
 (.reg [⟨some 6, (.bsl 1 []), no⟩, ⟨some 3, (.mv (.t 6)), no⟩]) (.seq (.seq
 (.reg [⟨some 4, (.mv (.k (.int .i64 0))), no⟩]) (.blk 0 (.loop (.seq (.seq
 (.reg [⟨some 7, (.mv (.t 4)), no⟩, ⟨some 8, (.fld 1 (.t 1)), no⟩, ⟨some 9, (.ld false 1 (.t 8)), no⟩, ⟨some 10, (.len false (.t 9)), no⟩, ⟨some 11, (.bin .lss (.t 7) (.t 10)), no⟩]) (.cond (.t 11) .skip (.exit 0))) (.seq (.blk 1 (.seq
 (.reg [⟨some 5, (.mv (.k (.int .i64 0))), no⟩]) (.blk 2 (.loop (.seq (.seq
 (.reg [⟨some 14, (.mv (.t 5)), no⟩, ⟨some 15, (.fld 1 (.t 1)), no⟩, ⟨some 16, (.ld false 1 (.t 15)), no⟩, ⟨some 17, (.mv (.t 4)), no⟩, ⟨some 18, (.ixa 2 (.t 16) (.t 17)), no⟩, ⟨some 19, (.fld 1 (.t 18)), no⟩, ⟨some 20, (.ld false 1 (.t 19)), no⟩, ⟨some 21, (.len false (.t 20)), no⟩, ⟨some 22, (.bin .lss (.t 14) (.t 21)), no⟩]) (.cond (.t 22) .skip (.exit 2))) (.seq (.blk 3
 (.reg [⟨some 25, (.mv (.t 3)), no⟩, ⟨some 26, (.fld 1 (.t 1)), no⟩, ⟨some 27, (.ld false 1 (.t 26)), no⟩, ⟨some 28, (.mv (.t 4)), no⟩, ⟨some 29, (.ixa 2 (.t 27) (.t 28)), no⟩, ⟨some 30, (.fld 1 (.t 29)), no⟩, ⟨some 31, (.ld false 1 (.t 30)), no⟩, ⟨some 32, (.mv (.t 5)), no⟩, ⟨some 33, (.ixa 2 (.t 31) (.t 32)), no⟩, ⟨some 34, (.fld 1 (.t 33)), no⟩, ⟨some 35, (.ld false 1 (.t 34)), no⟩, ⟨some 36, (.bsl 1 [(.t 35)]), no⟩, ⟨some 37, (.app 16 1 (.t 25) (.t 36)), no⟩, ⟨some 3, (.mv (.t 37)), no⟩]))
 (.reg [⟨some 23, (.mv (.t 5)), no⟩, ⟨some 24, (.bin .add (.t 23) (.k (.int .i64 1))), no⟩, ⟨some 5, (.mv (.t 24)), no⟩])))))))
 (.reg [⟨some 12, (.mv (.t 4)), no⟩, ⟨some 13, (.bin .add (.t 12) (.k (.int .i64 1))), no⟩, ⟨some 4, (.mv (.t 13)), no⟩])))))) (.seq (.seq
 (.reg [⟨some 38, (.fld 2 (.t 1)), no⟩, ⟨some 39, (.ld false 1 (.t 38)), no⟩, ⟨some 40, (.bin .neq (.t 39) (.k (.str []))), no⟩]) (.cond (.t 40)
 (.reg [⟨some 41, (.mv (.t 3)), no⟩, ⟨some 42, (.fld 2 (.t 1)), no⟩, ⟨some 43, (.ld false 1 (.t 42)), no⟩, ⟨some 44, (.bsl 1 [(.t 43)]), no⟩, ⟨some 45, (.app 16 1 (.t 41) (.t 44)), no⟩, ⟨some 3, (.mv (.t 45)), no⟩]) .skip)) (.seq
 (.reg [⟨some 46, (.mv (.t 3)), no⟩, ⟨some 47, (.call (.k (.fn (.func 294) [] [])) [(.t 46)]), no⟩, ⟨some 2, (.mv (.t 47)), no⟩]) .ret)))))⟩
theorem a269_ok : compFn Tryz.prog Tryz.f269 = some a269 := by kernel_rfl
def termN (s : DSum) : List Str := s.Terms.map (·.Name)
def sumsN : List DSum → List Str
  | [] => []
  | s :: l => termN s ++ sumsN l
def argN0 (a : DArg) : List Str := sumsN a.Heads ++ if a.Base = [] then [] else [a.Base]
theorem sumsN_len : ∀ l : List DSum, (sumsN l).length ≤ wL wSum l
  | [] => Nat.zero_le _
  | s :: l => by
    have h1 := sumsN_len l
    have h2 := wL_len wTerm s.Terms
    unfold wL at h1 ⊢
    simp only [sumsN, termN, List.length_append, List.length_map, List.length_cons, List.map_cons, List.sum_cons]
    rw [show wSum s = wL wTerm s.Terms from rfl]
    omega
theorem argN0_len (a : DArg) (hw : wArg a ≤ 1048576) : (argN0 a).length ≤ 1048576 := by
  have h1 := sumsN_len a.Heads
  unfold wArg wSumS at hw
  unfold argN0
  rw [List.length_append]
  split
  · simp; omega
  · rename_i hb
    have : 0 < a.Base.length := List.length_pos_iff.2 hb
    simp; omega
set_option maxRecDepth 20000 in
theorem k_sumNames (x : DSum) (hw : x.Terms.length ≤ 1048576) : Holds Tryz.prog 227 [.agg (rASum x)] (fun r => r = .us 1 (strsR (termN x))) := by
  refine holds_of_run Tryz.func227 a227_ok rfl (by simp [a227]) ?_
  simp [a227, rASum]
  intro _
  refine rL_forO [7, 8] 9 x.Terms.length (fun i s h n => (i = 0 ∧ s 3 = .nil 1) ∨ ∃ id, id < n ∧ s 3 = .ref id 0 i ∧ h id = some ⟨false, 1, (strsR (termN x)).take i⟩) (by unfold LIM; omega) (by simp) (by simp) ?_ ?_
  · rintro i s h n R hi hg hk s9 hw9 hJ hR _ _
    simp at hk
    have htk : (strsR (termN x)).take (i + 1) = (strsR (termN x)).take i ++ [[.str (x.Terms[i]).Name]] := by
      rw [List.take_succ_eq_append_getElem (by simpa [termN] using hi)]; simp [strsR, termN]
    rcases hJ with ⟨rfl, s3⟩ | ⟨id, hid, s3, eid⟩
    · simp [hk, s9, hi, hw9, s3, rATerm]
      refine ⟨by unfold LIM; omega, ?_⟩
      exact hR _ _ _ (by simp [hk]) (by simp; exact wrap64 (by omega)) (.inr ⟨n + 2, by omega, by simp, by simp [htk]⟩)
    · have n0 : ¬ id = n := by omega
      have n1 : ¬ id = n + 1 := by omega
      have n3 : ¬ n + 1 = id := by omega
      have n4 : ¬ n = id := by omega
      simp [hk, s9, hi, hw9, s3, rATerm, eid, n0, n1, n3, n4]
      refine ⟨by simp [termN]; omega, by unfold LIM; omega, ?_⟩
      exact hR _ _ _ (by simp [hk]) (by simp) (.inr ⟨n + 2, by omega, by simp, by simp [htk, List.take_take]⟩)
  · rintro s h n R hk s9 hJ hret hX
    simp at hk
    simp [hk, s9]
    refine hX _ _ _ _ ?_
    rcases hJ with ⟨h0, s3⟩ | ⟨id, hid, s3, eid⟩
    · have : x.Terms = [] := List.eq_nil_of_length_eq_zero h0
      simp [s3, termN, this, strsR]
    · have hl : (termN x).length = x.Terms.length := by simp [termN]
      have ht : List.take x.Terms.length (strsR (termN x)) = strsR (termN x) := List.take_of_length_le (by simp [hl])
      simp [s3, eid, hl, ht]
set_option maxRecDepth 20000 in
set_option maxHeartbeats 1000000 in
theorem k_NamesOf (a : DArg) (hw : wArg a ≤ 1048576) : Holds Tryz.prog 231 [.agg (rAArg a)] (fun r => r = .us 1 (strsR (snames (argN0 a)))) := by
  have hw' := hw
  unfold wArg wSumS at hw'
  have hsl := sumsN_len a.Heads
  have hll := wL_len wSum a.Heads
  refine holds_of_run Tryz.func231 a231_ok rfl (by simp [a231]) ?_
  simp [a231, rAArg]
  intro _
  generalize hT : sumsN a.Heads = T at *
  have hTl : T.length ≤ 1048576 := by omega
  refine rL_forO [1, 7, 8] 9 a.Heads.length (fun i s h n => h 0 = some ⟨true, 3, [[.bool a.Lst, .sl 2 (a.Heads.map rASum), .str a.Base]]⟩ ∧ 0 < n ∧ ∃ acc : List Str, acc ++ sumsN (a.Heads.drop i) = T ∧ ((acc = [] ∧ s 3 = .nil 1) ∨ ∃ id, 0 < id ∧ id < n ∧ s 3 = .ref id 0 acc.length ∧ h id = some ⟨false, 1, strsR acc⟩))
    (by unfold LIM; omega) (by simp) ⟨by simp, by simp, [], by simpa using hT, .inl ⟨rfl, by simp⟩⟩ ?_ ?_
  · rintro i s h n R hi hg hk s9 hw9 ⟨e0, hn, acc, hJ, hJ2⟩ hR _ _
    simp at hk
    rw [List.drop_eq_getElem_cons hi] at hJ
    simp only [sumsN] at hJ
    have hal := congrArg List.length hJ
    simp only [List.length_append] at hal
    have hwt : (a.Heads[i]).Terms.length ≤ 1048576 := by
      have := wL_mem (w := wSum) (List.getElem_mem hi)
      rw [show wSum a.Heads[i] = wL wTerm (a.Heads[i]).Terms from rfl] at this
      have := wL_len wTerm (a.Heads[i]).Terms
      omega
    have z0 : ¬ 0 = n := by omega
    have z1 : ¬ 0 = n + 1 := by omega
    have z2 : ¬ 0 = n + 1 + 1 := by omega
    have z3 : ¬ n = 0 := by omega
    rcases hJ2 with ⟨rfl, s3⟩ | ⟨id, hid0, hid, s3, eid⟩
    · simp [hk, s9, hi, hw9, s3, rASum]
      first | refine callD_of (k_sumNames (a.Heads[i]'hi) hwt) (by simp [rASum]) ?_ | refine call_of (k_sumNames (a.Heads[i]'hi) hwt) (by simp [rASum]) ?_ | refine callD_of (k_sumNames (a.Heads[i]'hi) hwt) rfl ?_ | refine call_of (k_sumNames (a.Heads[i]'hi) hwt) rfl ?_
      rintro r rfl
      simp [hk, s9, hi, hw9, s3]
      refine ⟨by unfold LIM; omega, ?_⟩
      exact hR _ _ _ (by simp [hk]) (by simp) ⟨by simp [e0, z0, z1, z2, z3], by omega, termN a.Heads[i], by simpa using hJ, .inr ⟨n + 2, by omega, by omega, by simp, by simp⟩⟩
    · have n0 : ¬ id = n := by omega
      have n1 : ¬ id = n + 1 := by omega
      have n2 : ¬ id = n + 1 + 1 := by omega
      have n3 : ¬ n + 1 = id := by omega
      have n4 : ¬ n = id := by omega
      have n5 : ¬ 0 = id := by omega
      have n6 : ¬ id = 0 := by omega
      simp [hk, s9, hi, hw9, s3, rASum, eid, n0]
      first | refine callD_of (k_sumNames (a.Heads[i]'hi) hwt) (by simp [rASum]) ?_ | refine call_of (k_sumNames (a.Heads[i]'hi) hwt) (by simp [rASum]) ?_ | refine callD_of (k_sumNames (a.Heads[i]'hi) hwt) rfl ?_ | refine call_of (k_sumNames (a.Heads[i]'hi) hwt) rfl ?_
      rintro r rfl
      simp [hk, s9, hi, hw9, s3, eid, n0, n1, n2, n3, n4, n5, n6]
      refine ⟨by unfold LIM; omega, ?_⟩
      exact hR _ _ _ (by simp [hk]) (by simp) ⟨by simp [e0, z0, z1, z2, z3, n5], by omega, acc ++ termN a.Heads[i], by rw [List.append_assoc]; exact hJ, .inr ⟨n + 2, by omega, by omega, by simp, by simp [strsR]⟩⟩
  · rintro s h n R hk s9 ⟨e0, hn, acc, hJ, hJ2⟩ hret hX
    simp at hk
    rw [List.drop_eq_nil_of_le (by omega)] at hJ
    simp only [sumsN, List.append_nil] at hJ
    subst hJ
    simp [hk, s9]
    refine hX _ _ _ _ ?_
    have hA : argN0 a = acc ++ if a.Base = [] then [] else [a.Base] := by unfold argN0; rw [hT]
    have hAl : (argN0 a).length ≤ 1048576 := argN0_len a hw
    rw [hA] at hAl ⊢
    clear hX hret
    by_cases hb : a.Base = []
    · simp only [hb, if_true, List.append_nil] at hAl ⊢
      rcases hJ2 with ⟨rfl, s3⟩ | ⟨id, hid0, hid, s3, eid⟩
      · simp [hk, e0, hb, s3]
        first | refine callD_of (k_SortNames [] hAl) (by simp [strsR]) ?_ | refine call_of (k_SortNames [] hAl) (by simp [strsR]) ?_ | refine callD_of (k_SortNames [] hAl) rfl ?_ | refine call_of (k_SortNames [] hAl) rfl ?_
        rintro r rfl
        simp
      · simp [hk, e0, hb, s3]
        first | refine callD_of (k_SortNames acc hAl) (by simp [eid]) ?_ | refine call_of (k_SortNames acc hAl) (by simp [eid]) ?_ | refine callD_of (k_SortNames acc hAl) rfl ?_ | refine call_of (k_SortNames acc hAl) rfl ?_
        rintro r rfl
        simp
    · simp only [hb, if_false] at hAl ⊢
      have hlim : (acc.length + 1) * 16 ≤ LIM := by simp at hAl; unfold LIM; omega
      rcases hJ2 with ⟨rfl, s3⟩ | ⟨id, hid0, hid, s3, eid⟩
      · have z0 : ¬ 0 = n := by omega
        simp [hk, e0, hb, s3]
        refine ⟨by unfold LIM; omega, ?_⟩
        first | refine callD_of (k_SortNames ([] ++ [a.Base]) hAl) (by simp [strsR]) ?_ | refine call_of (k_SortNames ([] ++ [a.Base]) hAl) (by simp [strsR]) ?_ | refine callD_of (k_SortNames ([] ++ [a.Base]) hAl) rfl ?_ | refine call_of (k_SortNames ([] ++ [a.Base]) hAl) rfl ?_
        rintro r rfl
        simp
      · have n0 : ¬ id = n := by omega
        have n3 : ¬ n = id := by omega
        simp [hk, e0, hb, s3, eid, n0, n3]
        refine ⟨hlim, ?_⟩
        have ht : List.take (acc.length + 1) (strsR acc ++ [[AV.str a.Base]]) = strsR (acc ++ [a.Base]) := by rw [List.take_of_length_le (by simp)]; simp [strsR]
        first | refine callD_of (k_SortNames (acc ++ [a.Base]) hAl) (by simp [ht]) ?_ | refine call_of (k_SortNames (acc ++ [a.Base]) hAl) (by simp [ht]) ?_ | refine callD_of (k_SortNames (acc ++ [a.Base]) hAl) rfl ?_ | refine call_of (k_SortNames (acc ++ [a.Base]) hAl) rfl ?_
        rintro r rfl
        simp
set_option maxRecDepth 20000 in
set_option maxHeartbeats 1000000 in
theorem ks_NamesOf (a : DArg) (hw : wArg a ≤ 1048576) : Holds Tryz.prog 269 [.agg (rAArg a)] (fun r => r = .us 1 (strsR (snames (argN0 a)))) := by
  have hw' := hw
  unfold wArg wSumS at hw'
  have hsl := sumsN_len a.Heads
  have hll := wL_len wSum a.Heads
  refine holds_of_run Tryz.func269 a269_ok rfl (by simp [a269]) ?_
  simp [a269, rAArg]
  generalize hT : sumsN a.Heads = T at *
  have hTl : T.length ≤ 1048576 := by omega
  refine rL_forO [1] 4 a.Heads.length (fun i s h n => h 0 = some ⟨true, 3, [[.bool a.Lst, .sl 2 (a.Heads.map rASum), .str a.Base]]⟩ ∧ 0 < n ∧ ∃ (acc : List Str) (id : Nat), acc ++ sumsN (a.Heads.drop i) = T ∧ 0 < id ∧ id < n ∧ s 3 = .ref id 0 acc.length ∧ h id = some ⟨false, 1, strsR acc⟩)
    (by unfold LIM; omega) (by simp) ⟨by simp, by simp, [], 1, by simpa using hT, by omega, by omega, by simp, by simp [strsR]⟩ ?_ ?_
  · rintro i s h n R hi hg hk s4 hw4 ⟨e0, hn, acc, id, hJ, hid0, hid, s3, eid⟩ hR _ _
    simp at hk
    rw [List.drop_eq_getElem_cons hi] at hJ
    simp only [sumsN] at hJ
    have hwt : (a.Heads[i]).Terms.length ≤ 1048576 := by
      have := wL_mem (w := wSum) (List.getElem_mem hi)
      rw [show wSum a.Heads[i] = wL wTerm (a.Heads[i]).Terms from rfl] at this
      have := wL_len wTerm (a.Heads[i]).Terms
      omega
    simp [hk, s4, hi, hg, e0]
    intro _
    refine rL_forO [1, 4] 5 (a.Heads[i]).Terms.length (fun j s h n => h 0 = some ⟨true, 3, [[.bool a.Lst, .sl 2 (a.Heads.map rASum), .str a.Base]]⟩ ∧ 0 < n ∧ ∃ (acc : List Str) (id : Nat), acc ++ ((termN a.Heads[i]).drop j ++ sumsN (a.Heads.drop (i + 1))) = T ∧ 0 < id ∧ id < n ∧ s 3 = .ref id 0 acc.length ∧ h id = some ⟨false, 1, strsR acc⟩)
      (by unfold LIM; omega) (by simp) ⟨by simp [e0], hn, acc, id, by simpa using hJ, hid0, hid, by simp [s3], by simp [eid]⟩ ?_ ?_
    · rintro j s2 h2 n2 R2 hj hgj hk2 s5 hw5 ⟨e02, hn2, acc2, id2, hJ2, hid02, hid2, s32, eid2⟩ hR2 _ _
      simp at hk2
      rw [List.drop_eq_getElem_cons (by simpa [termN] using hj)] at hJ2
      have hal := congrArg List.length hJ2
      simp at hal
      have n0 : ¬ id2 = n2 := by omega
      have n1 : ¬ id2 = n2 + 1 := by omega
      have n3 : ¬ n2 + 1 = id2 := by omega
      have n4 : ¬ n2 = id2 := by omega
      have n5 : ¬ 0 = id2 := by omega
      have n6 : ¬ id2 = 0 := by omega
      have z0 : ¬ 0 = n2 := by omega
      have z1 : ¬ 0 = n2 + 1 := by omega
      have z3 : ¬ n2 = 0 := by omega
      simp [hk2, hk, s4, s5, hj, hgj, hw5, hi, e02, rASum, rATerm, s32, eid2, n0, n1, n3, n4, n5, n6, z0, z1, z3]
      intro _
      refine ⟨by unfold LIM; omega, ?_⟩
      refine hR2 _ _ _ (by simp [hk2, hk, s4]) (by simp) ⟨by simp [e02, n5, z0, z1, z3], by omega, acc2 ++ [(a.Heads[i]).Terms[j].Name], n2 + 1, ?_, by omega, by omega, by simp, by simp [strsR]⟩
      rw [← hJ2]
      simp [termN]
    · rintro s2 h2 n2 R2 hk2 s5 ⟨e02, hn2, acc2, id2, hJ2, hid02, hid2, s32, eid2⟩ hret2 hX2
      simp at hk2
      rw [List.drop_eq_nil_of_le (by simp [termN]), List.nil_append] at hJ2
      simp [hk2, hk, s4, s5, hi, e02, rASum]
      intro _
      refine hX2 _ _ _ _ ?_
      simp [hk2, hk, s4, hw4]
      exact hR _ _ _ (by simp [hk2, hk]) (by simp) ⟨e02, hn2, acc2, id2, hJ2, hid02, hid2, by simp [s32], eid2⟩
  · rintro s h n R hk s4 ⟨e0, hn, acc, id, hJ, hid0, hid, s3, eid⟩ hret hX
    simp at hk
    rw [List.drop_eq_nil_of_le (by omega)] at hJ
    simp only [sumsN, List.append_nil] at hJ
    subst hJ
    simp [hk, s4, e0]
    intro _
    refine hX _ _ _ _ ?_
    have hA : argN0 a = acc ++ if a.Base = [] then [] else [a.Base] := by unfold argN0; rw [hT]
    have hAl : (argN0 a).length ≤ 1048576 := argN0_len a hw
    rw [hA] at hAl ⊢
    clear hX hret
    by_cases hb : a.Base = []
    · simp only [hb, if_true, List.append_nil] at hAl ⊢
      simp [hk, e0, hb, s3]
      first | refine callD_of (ks_SortNames acc hAl) (by simp [eid]) ?_ | refine call_of (ks_SortNames acc hAl) (by simp [eid]) ?_ | refine callD_of (ks_SortNames acc hAl) rfl ?_ | refine call_of (ks_SortNames acc hAl) rfl ?_
      rintro r rfl
      simp
    · simp only [hb, if_false] at hAl ⊢
      have hlim : (acc.length + 1) * 16 ≤ LIM := by simp at hAl; unfold LIM; omega
      have n0 : ¬ id = n := by omega
      have n3 : ¬ n = id := by omega
      simp [hk, e0, hb, s3, eid, n0, n3]
      refine ⟨hlim, ?_⟩
      have ht : List.take (acc.length + 1) (strsR acc ++ [[AV.str a.Base]]) = strsR (acc ++ [a.Base]) := by rw [List.take_of_length_le (by simp)]; simp [strsR]
      first | refine callD_of (ks_SortNames (acc ++ [a.Base]) hAl) (by simp [ht]) ?_ | refine call_of (ks_SortNames (acc ++ [a.Base]) hAl) (by simp [ht]) ?_ | refine callD_of (ks_SortNames (acc ++ [a.Base]) hAl) rfl ?_ | refine call_of (ks_SortNames (acc ++ [a.Base]) hAl) rfl ?_
      rintro r rfl
      simp
end Go.Proofs.YtilcageplifbgaaGreat

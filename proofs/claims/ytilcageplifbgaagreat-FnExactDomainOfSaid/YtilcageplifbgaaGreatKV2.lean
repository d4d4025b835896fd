/- Contracts: sums, arguments, lists of names. -/
import Derived.Test.YtilcageplifbgaaGreatKV1
namespace Go.Proofs.YtilcageplifbgaaGreat
set_option linter.all false
open Go Go.RowKit Go.Proofs
def a278 : AFn :=
⟨5, [(.t 2)], (.seq
 (.reg [⟨some 2, (.mv (.k (.bool false))), no⟩]) (.seq
 (.reg [⟨some 3, (.mv (.t 0)), no⟩, ⟨some 4, (.call (.k (.fn (.func 98) [] [])) [(.t 3), (.k (.int .i64 (-1000000))), (.k (.int .i64 1000000))]), no⟩, ⟨some 2, (.mv (.t 4)), no⟩]) .ret))⟩
theorem a278_ok : compFn Tryz.prog Tryz.f278 = some a278 := by kernel_rfl
def a293 : AFn :=
⟨5, [(.t 2)], (.seq
 (.reg [⟨some 2, (.mv (.k (.bool false))), no⟩]) (.seq
 (.reg [⟨some 3, (.mv (.t 0)), no⟩, ⟨some 4, (.call (.k (.fn (.func 96) [] [])) [(.t 3), (.k (.int .i64 (-1000000))), (.k (.int .i64 1000000))]), no⟩, ⟨some 2, (.mv (.t 4)), no⟩]) .ret))⟩
theorem a293_ok : compFn Tryz.prog Tryz.f293 = some a293 := by kernel_rfl
def a150 : AFn :=
⟨18, [(.t 2)], (.seq
 (.reg [⟨some 2, (.mv (.k (.bool false))), no⟩]) (.seq (.seq
 (.reg [⟨some 5, (.mv (.t 0)), no⟩, ⟨some 6, (.len false (.t 5)), no⟩, ⟨some 7, (.mv (.k (.int .i64 0))), no⟩]) (.blk 0 (.loop (.seq
 (.reg [⟨some 8, (.bin .lss (.t 7) (.t 6)), no⟩]) (.seq (.cond (.t 8) .skip (.exit 0)) (.seq (.blk 1 (.seq
 (.reg [⟨some 9, (.mv (.t 7)), no⟩, ⟨some 10, (.ixa 1 (.t 5) (.t 7)), no⟩, ⟨some 11, (.ld false 1 (.t 10)), no⟩, ⟨some 3, (.mv (.t 9)), no⟩, ⟨some 4, (.mv (.t 11)), no⟩]) (.seq
 (.reg [⟨some 12, (.mv (.t 0)), no⟩, ⟨some 13, (.mv (.t 3)), no⟩, ⟨some 14, (.slc false 1 (.t 12) Option.none (some (.t 13))), no⟩, ⟨some 15, (.mv (.t 4)), no⟩, ⟨some 16, (.call (.k (.fn (.func 81) [] [])) [(.t 14), (.t 15)]), no⟩]) (.cond (.t 16) (.seq
 (.reg [⟨some 2, (.mv (.k (.bool false))), no⟩]) .ret) .skip))))
 (.reg [⟨some 17, (.bin .add (.t 7) (.k (.int .i64 1))), no⟩, ⟨some 7, (.mv (.t 17)), no⟩]))))))) (.seq
 (.reg [⟨some 2, (.mv (.k (.bool true))), no⟩]) .ret)))⟩
theorem a150_ok : compFn Tryz.prog Tryz.f150 = some a150 := by kernel_rfl
def a206 : AFn :=
⟨18, [(.t 2)], (.seq
 (.reg [⟨some 2, (.mv (.k (.bool false))), no⟩]) (.seq (.seq
 (.reg [⟨some 3, (.mv (.k (.int .i64 0))), no⟩]) (.blk 0 (.loop (.seq (.seq
 (.reg [⟨some 4, (.mv (.t 3)), no⟩, ⟨some 5, (.mv (.t 0)), no⟩, ⟨some 6, (.len false (.t 5)), no⟩, ⟨some 7, (.bin .lss (.t 4) (.t 6)), no⟩]) (.cond (.t 7) .skip (.exit 0))) (.seq (.blk 1 (.seq (.draw (.op ⟨some 10, (.mv (.t 0)), no⟩ (.op ⟨some 11, (.mv (.t 3)), no⟩ (.op ⟨some 12, (.slc false 1 (.t 10) Option.none (some (.t 11))), no⟩ (.op ⟨some 13, (.mv (.t 0)), no⟩ (.op ⟨some 14, (.mv (.t 3)), no⟩ (.op ⟨some 15, (.ixa 1 (.t 13) (.t 14)), no⟩ (.op ⟨some 16, (.ld false 1 (.t 15)), no⟩ (.op ⟨some 17, (.call (.k (.fn (.func 239) [] [])) [(.t 12), (.t 16)]), no⟩ .fin))))))))) (.cond (.t 17) (.seq
 (.reg [⟨some 2, (.mv (.k (.bool false))), no⟩]) .ret) .skip)))
 (.reg [⟨some 8, (.mv (.t 3)), no⟩, ⟨some 9, (.bin .add (.t 8) (.k (.int .i64 1))), no⟩, ⟨some 3, (.mv (.t 9)), no⟩])))))) (.seq
 (.reg [⟨some 2, (.mv (.k (.bool true))), no⟩]) .ret)))⟩
theorem a206_ok : compFn Tryz.prog Tryz.f206 = some a206 := by kernel_rfl
def a279 : AFn :=
⟨8, [(.t 3)], (.seq
 (.reg [⟨some 3, (.mv (.k (.bool false))), no⟩]) (.seq
 (.reg [⟨some 4, (.ld false 1 (.t 1)), no⟩, ⟨some 5, (.mv (.t 0)), no⟩, ⟨some 6, (.call (.k (.fn (.func 81) [] [])) [(.t 4), (.t 5)]), no⟩, ⟨some 7, (.un .not (.t 6)), no⟩, ⟨some 3, (.mv (.t 7)), no⟩]) .ret))⟩
theorem a279_ok : compFn Tryz.prog Tryz.f279 = some a279 := by kernel_rfl
def a226 : AFn :=
⟨9, [(.t 4)], (.seq
 (.reg [⟨some 3, (.boxv (.t 1)), no⟩, ⟨some 4, (.mv (.k (.bool false))), no⟩]) (.seq
 (.reg [⟨some 5, (.mv (.t 0)), no⟩, ⟨some 6, (.mkf (.func 279) [] [(.t 3)]), no⟩, ⟨some 7, (.call (.k (.fn (.func 78) [] [])) [(.t 5), (.t 6)]), no⟩, ⟨some 8, (.un .not (.t 7)), no⟩, ⟨some 4, (.mv (.t 8)), no⟩]) .ret))⟩
theorem a226_ok : compFn Tryz.prog Tryz.f226 = some a226 := by kernel_rfl
def a166 : AFn :=
⟨29, [(.t 4)], (.seq
 (.reg [⟨some 4, (.mv (.k (.nil 1))), no⟩]) (.seq
 (.reg [⟨some 7, (.bsl 1 []), no⟩, ⟨some 5, (.mv (.t 7)), no⟩]) (.seq (.seq
 (.reg [⟨some 6, (.mv (.k (.int .i64 0))), no⟩]) (.blk 0 (.loop (.seq (.seq
 (.reg [⟨some 8, (.mv (.t 6)), no⟩, ⟨some 9, (.mv (.t 0)), no⟩, ⟨some 10, (.len false (.t 9)), no⟩, ⟨some 11, (.bin .lss (.t 8) (.t 10)), no⟩]) (.cond (.t 11) .skip (.exit 0))) (.seq (.blk 1 (.seq
 (.reg [⟨some 14, (.mv (.t 1)), no⟩, ⟨some 15, (.mv (.t 0)), no⟩, ⟨some 16, (.mv (.t 6)), no⟩, ⟨some 17, (.ixa 1 (.t 15) (.t 16)), no⟩, ⟨some 18, (.ld false 1 (.t 17)), no⟩, ⟨some 19, (.call (.k (.fn (.func 239) [] [])) [(.t 14), (.t 18)]), no⟩, ⟨some 20, (.un .not (.t 19)), no⟩]) (.cond (.t 20)
 (.reg [⟨some 21, (.mv (.t 5)), no⟩, ⟨some 22, (.mv (.t 0)), no⟩, ⟨some 23, (.mv (.t 6)), no⟩, ⟨some 24, (.ixa 1 (.t 22) (.t 23)), no⟩, ⟨some 25, (.ld false 1 (.t 24)), no⟩, ⟨some 26, (.bsl 1 [(.t 25)]), no⟩, ⟨some 27, (.app 16 1 (.t 21) (.t 26)), no⟩, ⟨some 5, (.mv (.t 27)), no⟩]) .skip)))
 (.reg [⟨some 12, (.mv (.t 6)), no⟩, ⟨some 13, (.bin .add (.t 12) (.k (.int .i64 1))), no⟩, ⟨some 6, (.mv (.t 13)), no⟩])))))) (.seq
 (.reg [⟨some 28, (.mv (.t 5)), no⟩, ⟨some 4, (.mv (.t 28)), no⟩]) .ret))))⟩
theorem a166_ok : compFn Tryz.prog Tryz.f166 = some a166 := by kernel_rfl
theorem a78_ok : compFn Tryz.prog Tryz.f78 = some (tContainsFunc 167) := by kernel_rfl
theorem a167_ok : compFn Tryz.prog Tryz.f167 = some (tIndexFunc false 1) := by kernel_rfl
theorem a280_ok : compFn Tryz.prog Tryz.f280 = some (tContainsFunc 299) := by kernel_rfl
theorem a299_ok : compFn Tryz.prog Tryz.f299 = some (tIndexFunc true 2) := by kernel_rfl
theorem rC_condF {P : Program} {s : Env} {h : Heap} {n : Nat} {Q : Fin} {ks : List Kt} {c : Nat} {e : AC} (hc : s c = .bool false) (h1 : kont P ks .normal s h n Q) : rC P (.cond (.t c) e .skip) ks s h n Q := by
  rw [rC_cond]
  have : ev s (.t c) = .bool false := hc
  rw [this]
  simpa using h1
theorem k_Fits (n : Int) : Holds Tryz.prog 278 [i64 n] (fun r => r = .bool (fits n)) := by
  refine holds_of_run Tryz.func278 a278_ok rfl (by simp [a278]) ?_
  simp [a278]
  first | refine callD_of (k_within n (-1000000) 1000000) (by simp) ?_ | refine call_of (k_within n (-1000000) 1000000) (by simp) ?_ | refine callD_of (k_within n (-1000000) 1000000) rfl ?_ | refine call_of (k_within n (-1000000) 1000000) rfl ?_
  rintro r rfl
  simp
  rfl
theorem ks_Fits (n : Int) : Holds Tryz.prog 293 [i64 n] (fun r => r = .bool (fits n)) := by
  refine holds_of_run Tryz.func293 a293_ok rfl (by simp [a293]) ?_
  simp [a293]
  first | refine callD_of (k_l1In n (-1000000) 1000000) (by simp) ?_ | refine call_of (k_l1In n (-1000000) 1000000) (by simp) ?_ | refine callD_of (k_l1In n (-1000000) 1000000) rfl ?_ | refine call_of (k_l1In n (-1000000) 1000000) rfl ?_
  rintro r rfl
  simp
  rfl
theorem k_AllDistinct (l : List Str) : Holds Tryz.prog 150 [.sl 1 (strsR l)] (fun r => r = .bool (distB l)) := by
  refine holds_of_lim Tryz.func150 rfl rfl fun hl => ?_
  simp at hl
  refine holds_of_run Tryz.func150 a150_ok rfl (by simp [a150]) ?_
  simp [a150]
  intro _
  unfold distB
  generalize hB : distFrom [] l = B
  refine rL_forS [0, 5, 6] 7 l.length (fun i _ => distFrom (l.take i) (l.drop i) = B) hl (by simp) (by simpa using hB) ?_ ?_
  · rintro i st h R hi hg hk s7 hw hJ hh hR hret _
    simp at hk
    rw [List.drop_eq_getElem_cons hi] at hJ
    simp only [distFrom] at hJ
    rw [List.take_append_getElem hi] at hJ
    simp [hk, s7, hi, hg, lowOf, asI]
    refine ⟨by omega, ?_⟩
    have ht : List.take i (strsR l) = strsR (l.take i) := by simp [strsR]
    first | refine callD_of (k_Contains (l.take i) (l[i]'hi)) (by simp [ht]) ?_ | refine call_of (k_Contains (l.take i) (l[i]'hi)) (by simp [ht]) ?_ | refine callD_of (k_Contains (l.take i) (l[i]'hi)) rfl ?_ | refine call_of (k_Contains (l.take i) (l[i]'hi)) rfl ?_
    rintro r rfl
    cases hc : hasS (l.take i) l[i]
    · rw [hc] at hJ
      simp at hJ
      simp [hk, s7, hw]
      exact hR _ (by simp [hk]) (by simp) hJ
    · rw [hc] at hJ
      simp at hJ
      simp
      refine hret _ _ _ ?_
      simp [hJ]
  · rintro st h R hk s7 hJ hh _ hX
    simp at hk
    rw [List.drop_eq_nil_of_le (by omega)] at hJ
    simp [hk, s7]
    refine hX _ _ ?_
    simp [← hJ, distFrom]
theorem ks_AllDistinct (l : List Str) : Holds Tryz.prog 206 [.sl 1 (strsR l)] (fun r => r = .bool (distB l)) := by
  refine holds_of_lim Tryz.func206 rfl rfl fun hl => ?_
  simp at hl
  refine holds_of_run Tryz.func206 a206_ok rfl (by simp [a206]) ?_
  simp [a206]
  unfold distB
  generalize hB : distFrom [] l = B
  refine rL_forS [0] 3 l.length (fun i _ => distFrom (l.take i) (l.drop i) = B) hl (by simp) (by simpa using hB) ?_ ?_
  · rintro i st h R hi hg hk s3 hw hJ hh hR hret _
    simp at hk
    rw [List.drop_eq_getElem_cons hi] at hJ
    simp only [distFrom] at hJ
    rw [List.take_append_getElem hi] at hJ
    simp [hk, s3, hi, hg, lowOf, asI]
    intro _
    refine ⟨by omega, ?_⟩
    have ht : List.take i (strsR l) = strsR (l.take i) := by simp [strsR]
    first | refine callD_of (ks_l1Has (l.take i) (l[i]'hi)) (by simp [ht]) ?_ | refine call_of (ks_l1Has (l.take i) (l[i]'hi)) (by simp [ht]) ?_ | refine callD_of (ks_l1Has (l.take i) (l[i]'hi)) rfl ?_ | refine call_of (ks_l1Has (l.take i) (l[i]'hi)) rfl ?_
    rintro r rfl
    cases hc : hasS (l.take i) l[i]
    · rw [hc] at hJ
      simp at hJ
      simp [hk, s3, hw]
      exact hR _ (by simp [hk]) (by simp) hJ
    · rw [hc] at hJ
      simp at hJ
      simp
      refine hret _ _ _ ?_
      simp [hJ]
  · rintro st h R hk s3 hJ hh _ hX
    simp at hk
    rw [List.drop_eq_nil_of_le (by omega)] at hJ
    simp [hk, s3]
    intro _
    refine hX _ _ ?_
    simp [← hJ, distFrom]
theorem any_notS (l scope : List Str) : (l.any fun s => !hasS scope s) = !allS l scope := by unfold allS; rw [any_not]
theorem pure_allIn {h : Heap} {n id : Nat} {scope : List Str} (x : Str) (hv : h id = some ⟨true, 1, [[.sl 1 (strsR scope)]]⟩) (hid : id < n) : Pure1 Tryz.prog 279 [] [.ptr id 0 0] h n (.str x) (.bool (!hasS scope x)) := by
  intro K hK
  refine acall_gc ?_
  refine acall_body Tryz.func279 a279_ok rfl (by simp [a279]) ?_
  have n1 : ¬ id = n := by omega
  simp [a279, hv, n1]
  first | refine callD_of (k_Contains scope x) (by simp) ?_ | refine call_of (k_Contains scope x) (by simp) ?_ | refine callD_of (k_Contains scope x) rfl ?_ | refine call_of (k_Contains scope x) rfl ?_
  rintro r rfl
  simp [scal, hK]
theorem k_allIn (l scope : List Str) : Holds Tryz.prog 226 [.sl 1 (strsR l), .sl 1 (strsR scope)] (fun r => r = .bool (allS l scope)) := by
  refine holds_of_run Tryz.func226 a226_ok rfl (by simp [a226]) ?_
  simp [a226]
  refine acall_tContainsFunc (p := fun s => !hasS scope s) (rowOf := fun s => [.str s]) (eltOf := fun s => .str s) Tryz.func78 a78_ok rfl Tryz.func167 a167_ok rfl (fun x => by simp) l
    (fun x _ => pure_allIn (scope := scope) x (by simp) (by omega)) ?_
  rw [any_notS]
  simp
theorem without_drop {l scope : List Str} {i : Nat} (hi : i < l.length) : withoutL (l.drop i) scope = (if hasS scope l[i] then [] else [l[i]]) ++ withoutL (l.drop (i + 1)) scope := by
  rw [List.drop_eq_getElem_cons hi]
  unfold withoutL
  rw [List.filter_cons]
  cases hasS scope l[i] <;> simp
theorem ks_Without (l scope : List Str) (hl : l.length ≤ 1048576) : Holds Tryz.prog 166 [.sl 1 (strsR l), .sl 1 (strsR scope)] (fun r => r = .us 1 (strsR (withoutL l scope))) := by
  refine holds_of_run Tryz.func166 a166_ok rfl (by simp [a166]) ?_
  simp [a166]
  generalize hB : withoutL l scope = B
  have hBl : B.length ≤ l.length := by rw [← hB]; exact List.length_filter_le _ _
  refine rL_forO [0, 1] 6 l.length (fun i s h n => ∃ (acc : List Str) (id : Nat), s 5 = .ref id 0 acc.length ∧ h id = some ⟨false, 1, strsR acc⟩ ∧ id < n ∧ acc ++ withoutL (l.drop i) scope = B)
    (by unfold LIM; omega) (by simp) ⟨[], 0, by simp, by simp [strsR], by simp, by simpa using hB⟩ ?_ ?_
  · rintro i st h n R hi hg hk s6 hw ⟨acc, id, s5, eid, hidn, hJ⟩ hR _ _
    simp at hk
    rw [without_drop hi] at hJ
    have hal := congrArg List.length hJ
    simp only [List.length_append] at hal
    simp [hk, s6, hi, hg]
    intro _
    first | refine callD_of (ks_l1Has scope (l[i]'hi)) (by simp) ?_ | refine call_of (ks_l1Has scope (l[i]'hi)) (by simp) ?_ | refine callD_of (ks_l1Has scope (l[i]'hi)) rfl ?_ | refine call_of (ks_l1Has scope (l[i]'hi)) rfl ?_
    rintro r rfl
    have n0 : ¬ id = n := by omega
    have n1 : ¬ id = n + 1 := by omega
    have n2 : ¬ n + 1 = id := by omega
    have n3 : ¬ n = id := by omega
    cases hc : hasS scope l[i]
    · rw [hc] at hJ hal
      simp at hJ hal
      simp [hk, s6, hi, hg, s5, eid, n0, n1, n2, n3, hw]
      refine ⟨by unfold LIM; omega, ?_⟩
      exact hR _ _ _ (by simp [hk]) (by simp) ⟨acc ++ [l[i]], n + 1, by simp, by simp [strsR], by omega, by simpa using hJ⟩
    · rw [hc] at hJ
      simp at hJ
      simp [hk, s6, hi, hg, hw]
      exact hR _ _ _ (by simp [hk]) (by simp) ⟨acc, id, by simp [s5], by simp [eid], by omega, hJ⟩
  · rintro st h n R hk s6 ⟨acc, id, s5, eid, hidn, hJ⟩ hret hX
    simp at hk
    rw [List.drop_eq_nil_of_le (by omega)] at hJ
    simp [withoutL] at hJ
    subst hJ
    simp [hk, s6]
    intro _
    refine hX _ _ _ _ ?_
    simp [s5, eid]
end Go.Proofs.YtilcageplifbgaaGreat

/- Contracts: names in order; the names of an argument. -/
import Derived.Test.YtilcageplifbgaaGreatKR45
import Derived.Test.YtilcageplifbgaaGreatKSh
import Derived.Test.YtilcageplifbgaaGreatKC11
namespace Go.Proofs.YtilcageplifbgaaGreat
set_option linter.all false
open Go Go.RowKit Go.Proofs
def a282 : AFn :=
⟨10, [(.t 2)], (.seq
 (.reg [⟨some 2, (.mv (.k (.nil 1))), no⟩]) (.seq
 (.reg [⟨some 4, (.mv (.t 0)), no⟩, ⟨some 5, (.call (.k (.fn (.func 218) [] [])) [(.t 4)]), no⟩, ⟨some 3, (.mv (.t 5)), no⟩]) (.seq
 (.reg [⟨some 6, (.mv (.t 3)), no⟩, ⟨some 7, (.call (.k (.fn (.func 300) [] [])) [(.t 6)]), no⟩]) (.seq
 (.reg [⟨some 8, (.mv (.t 3)), no⟩, ⟨some 9, (.call (.k (.fn (.func 301) [] [])) [(.t 8)]), no⟩, ⟨some 2, (.mv (.t 9)), no⟩]) .ret))))⟩
theorem a282_ok : compFn Tryz.prog Tryz.f282 = some a282 := by kernel_rfl
def a294 : AFn :=
⟨63, [(.t 2)], (.seq
 (.reg [⟨some 2, (.mv (.k (.nil 1))), no⟩]) (.seq
 (.reg [⟨some 7, (.bsl 1 []), no⟩, ⟨some 3, (.mv (.t 7)), no⟩]) (.seq (.seq
 (.reg [⟨some 4, (.mv (.k (.int .i64 0))), no⟩]) (.blk 0 (.loop (.seq (.seq
 (.reg [⟨some 8, (.mv (.t 4)), no⟩, ⟨some 9, (.mv (.t 0)), no⟩, ⟨some 10, (.len false (.t 9)), no⟩, ⟨some 11, (.bin .lss (.t 8) (.t 10)), no⟩]) (.cond (.t 11) .skip (.exit 0))) (.seq (.blk 1 (.seq
 (.reg [⟨some 5, (.mv (.k (.int .i64 0))), no⟩]) (.seq (.blk 2 (.loop (.seq (.seq (.draw (.op ⟨some 14, (.mv (.t 5)), no⟩ (.op ⟨some 15, (.mv (.t 3)), no⟩ (.op ⟨some 16, (.len false (.t 15)), no⟩ (.op ⟨some 17, (.bin .lss (.t 14) (.t 16)), no⟩ (.op ⟨some 18, (.mv (.t 17)), no⟩ (.op ⟨some 19, (.mv (.t 3)), (some (18, true))⟩ (.op ⟨some 20, (.mv (.t 5)), (some (18, true))⟩ (.op ⟨some 21, (.ixa 1 (.t 19) (.t 20)), (some (18, true))⟩ (.op ⟨some 22, (.ld false 1 (.t 21)), (some (18, true))⟩ (.op ⟨some 23, (.mv (.t 0)), (some (18, true))⟩ (.op ⟨some 24, (.mv (.t 4)), (some (18, true))⟩ (.op ⟨some 25, (.ixa 1 (.t 23) (.t 24)), (some (18, true))⟩ (.op ⟨some 26, (.ld false 1 (.t 25)), (some (18, true))⟩ (.op ⟨some 27, (.bin .lss (.t 22) (.t 26)), (some (18, true))⟩ (.op ⟨some 28, (.pick (.t 18) (.t 27) (.k (.bool false))), no⟩ .fin)))))))))))))))) (.cond (.t 28) .skip (.exit 2))) (.blk 3
 (.reg [⟨some 29, (.mv (.t 5)), no⟩, ⟨some 30, (.bin .add (.t 29) (.k (.int .i64 1))), no⟩, ⟨some 5, (.mv (.t 30)), no⟩]))))) (.seq (.seq (.draw (.op ⟨some 31, (.mv (.t 5)), no⟩ (.op ⟨some 32, (.mv (.t 3)), no⟩ (.op ⟨some 33, (.len false (.t 32)), no⟩ (.op ⟨some 34, (.bin .lss (.t 31) (.t 33)), no⟩ (.op ⟨some 35, (.mv (.t 34)), no⟩ (.op ⟨some 36, (.mv (.t 3)), (some (35, true))⟩ (.op ⟨some 37, (.mv (.t 5)), (some (35, true))⟩ (.op ⟨some 38, (.ixa 1 (.t 36) (.t 37)), (some (35, true))⟩ (.op ⟨some 39, (.ld false 1 (.t 38)), (some (35, true))⟩ (.op ⟨some 40, (.mv (.t 0)), (some (35, true))⟩ (.op ⟨some 41, (.mv (.t 4)), (some (35, true))⟩ (.op ⟨some 42, (.ixa 1 (.t 40) (.t 41)), (some (35, true))⟩ (.op ⟨some 43, (.ld false 1 (.t 42)), (some (35, true))⟩ (.op ⟨some 44, (.bin .eql (.t 39) (.t 43)), (some (35, true))⟩ (.op ⟨some 45, (.pick (.t 35) (.t 44) (.k (.bool false))), no⟩ .fin)))))))))))))))) (.cond (.t 45) (.exit 1) .skip)) (.seq
 (.reg [⟨some 46, (.bsl 1 []), no⟩, ⟨some 47, (.mv (.t 3)), no⟩, ⟨some 48, (.mv (.t 5)), no⟩, ⟨some 49, (.slc false 1 (.t 47) (some (.t 48)) Option.none), no⟩, ⟨some 50, (.app 16 1 (.t 46) (.t 49)), no⟩, ⟨some 6, (.mv (.t 50)), no⟩]) (.draw (.op ⟨some 51, (.mv (.t 3)), no⟩ (.op ⟨some 52, (.mv (.t 5)), no⟩ (.op ⟨some 53, (.slc false 1 (.t 51) Option.none (some (.t 52))), no⟩ (.op ⟨some 54, (.mv (.t 0)), no⟩ (.op ⟨some 55, (.mv (.t 4)), no⟩ (.op ⟨some 56, (.ixa 1 (.t 54) (.t 55)), no⟩ (.op ⟨some 57, (.ld false 1 (.t 56)), no⟩ (.op ⟨some 60, (.mv (.t 6)), no⟩ (.hop ⟨some 58, (.bsl 1 [(.t 57)]), no⟩ [(.slc false 1 (.t 51) Option.none (some (.t 52)))] (.hop ⟨some 59, (.app 16 1 (.t 53) (.t 58)), no⟩ [] (.hop ⟨some 61, (.app 16 1 (.t 59) (.t 60)), no⟩ [] (.hop ⟨some 3, (.mv (.t 61)), no⟩ [] .fin))))))))))))))))))
 (.reg [⟨some 12, (.mv (.t 4)), no⟩, ⟨some 13, (.bin .add (.t 12) (.k (.int .i64 1))), no⟩, ⟨some 4, (.mv (.t 13)), no⟩])))))) (.seq
 (.reg [⟨some 62, (.mv (.t 3)), no⟩, ⟨some 2, (.mv (.t 62)), no⟩]) .ret))))⟩
theorem a294_ok : compFn Tryz.prog Tryz.f294 = some a294 := by kernel_rfl
theorem a_sort {h : Heap} {n id : Nat} {l : List Str} {K : AV → Heap → Nat → Prop} (hB : h id = some ⟨false, 1, strsR l⟩) (hK : K (.tup []) (upd h id (some ⟨false, 1, strsR (sortS l)⟩)) n) : ACall Tryz.prog 300 [.ref id 0 l.length] h n K := by
  refine acall_inplace (l2 := sortS l) (r := .tup []) (by unfold callable; rw [Tryz.func300]; rfl) hB (sortS_len l) (fun s hs => .inl (sortS_mem.1 hs)) (.inl ⟨rfl, fun _ _ _ => trivial⟩) ?_ ?_ hK
  · intro b cap w hH hb _ hlim
    unfold LIM at hlim
    refine (Tryz.slices_Sort_string b 0 cap l w hH hb (by omega)).mono ?_
    rintro e w' ⟨rfl, q, os, rfl⟩
    exact ⟨⟨_, rfl, fun _ => rfl, fun m h => by cases h⟩, q, os, rfl⟩
  · intro _ w
    refine (Tryz.slices_Sort_string_none Option.none 0 w).mono ?_
    rintro e w' ⟨rfl, rfl⟩
    exact ⟨⟨_, rfl, fun _ => rfl, fun m h => by cases h⟩, rfl⟩
theorem a_compact {h : Heap} {n id : Nat} {l : List Str} {K : AV → Heap → Nat → Prop} (hB : h id = some ⟨false, 1, strsR l⟩)
    (hK : K (.ref id 0 (Go.Lib.compact l).length) (upd h id (some ⟨false, 1, strsR (Go.Lib.compact l ++ List.replicate (l.length - (Go.Lib.compact l).length) [])⟩)) n) : ACall Tryz.prog 301 [.ref id 0 l.length] h n K := by
  have hl := compact_len l
  refine acall_inplace (l2 := Go.Lib.compact l ++ List.replicate (l.length - (Go.Lib.compact l).length) []) (r := .ref id 0 (Go.Lib.compact l).length) (by unfold callable; rw [Tryz.func301]; rfl) hB (by simp; omega) ?_ (.inr ⟨_, hl, rfl⟩) ?_ ?_ hK
  · intro s hs
    rcases List.mem_append.1 hs with hs | hs
    · left
      unfold Go.Lib.compact Go.Lib.compactUpTo at hs
      obtain ⟨j, hj, rfl⟩ := List.mem_map.1 hs
      have hj := List.mem_range.1 (List.mem_filter.1 hj).1
      simp [hj]
    · right; exact (List.mem_replicate.1 hs).2
  · intro b cap w hH hb hcap hlim
    unfold LIM at hlim
    refine (Tryz.slices_Compact_string b 0 cap l w hH (by omega) hcap).mono ?_
    rintro e w' ⟨rfl, q, rfl⟩
    exact ⟨⟨_, rfl, fun h => by (cases h), fun m h => by (cases h; rfl)⟩, q, #[], by unfold rowOfS; rw [Go.Sort.grow_empty]⟩
  · intro hl0 w
    subst hl0
    refine (Tryz.slices_Compact_string_empty Option.none 0 w).mono ?_
    rintro e w' ⟨rfl, rfl⟩
    exact ⟨⟨_, rfl, fun h => by (cases h), fun m h => rfl⟩, rfl⟩
theorem k_SortNames (l : List Str) (hl : l.length ≤ 1048576) : Holds Tryz.prog 282 [.sl 1 (strsR l)] (fun r => r = .us 1 (strsR (snames l))) := by
  refine holds_of_run Tryz.func282 a282_ok rfl (by simp [a282]) ?_
  simp [a282]
  first | refine callD_of (k_CloneStr l hl) (by simp) ?_ | refine call_of (k_CloneStr l hl) (by simp) ?_ | refine callD_of (k_CloneStr l hl) rfl ?_ | refine call_of (k_CloneStr l hl) rfl ?_
  rintro r rfl
  simp
  refine a_sort (l := l) (by simp) ?_
  simp
  rw [← sortS_len l]
  refine a_compact (l := sortS l) (by simp) ?_
  have h := compact_len (sortS l)
  have h2 : List.take (Go.Lib.compact (sortS l)).length (strsR (Go.Lib.compact (sortS l) ++ List.replicate ((sortS l).length - (Go.Lib.compact (sortS l)).length) [])) = strsR (snames l) := by
    unfold strsR; rw [List.map_append, List.take_left' (by simp)]; rfl
  simp [h2]
set_option maxRecDepth 20000 in
set_option maxHeartbeats 1000000 in
theorem ks_SortNames (l : List Str) (hl : l.length ≤ 1048576) : Holds Tryz.prog 294 [.sl 1 (strsR l)] (fun r => r = .us 1 (strsR (snames l))) := by
  refine holds_of_run Tryz.func294 a294_ok rfl (by simp [a294]) ?_
  simp [a294]
  refine rL_forO [0] 4 l.length (fun i s h n => ∃ (acc : List Str) (id : Nat), s 3 = .ref id 0 acc.length ∧ h id = some ⟨false, 1, strsR acc⟩ ∧ id < n ∧ acc.length ≤ i ∧ SS acc ∧ ∀ x, x ∈ acc ↔ x ∈ l.take i)
    (by unfold LIM; omega) (by simp) ⟨[], 0, by simp, by simp [strsR], by simp, by simp, by simp [SS], by simp⟩ ?_ ?_
  · rintro i s h n R hi hg hk s4 hw ⟨acc, id, s3, eid, hidn, hai, hS, hmem⟩ hR _ _
    simp at hk
    simp [hk, s4, hi, hg]
    intro _
    refine rL_whileO (fun m s' h' n' => ∃ k : Nat, m = acc.length - k ∧ k ≤ acc.length ∧ s' 0 = .sl 1 (strsR l) ∧ s' 4 = .int .i64 i ∧ s' 3 = .ref id 0 acc.length ∧ s' 5 = .int .i64 k ∧ (∀ j, ∀ hj : j < acc.length, j < k → bl acc[j] l[i] = true) ∧ h' = h ∧ n' = n) acc.length
      ⟨0, by simp, Nat.zero_le _, by simp [hk], by simp [s4], by simp [s3], by simp, fun j _ hj => absurd hj (Nat.not_lt_zero _), rfl, rfl⟩ ?_
    rintro m s' h' n' R' ⟨k, rfl, hka, s0', s4', s3', s5', hlt, rfl, rfl⟩ hR' _ hX'
    have rest : ∀ s'' : Env, s'' 0 = .sl 1 (strsR l) → s'' 4 = .int .i64 i → s'' 3 = .ref id 0 acc.length → s'' 5 = .int .i64 k → (∀ hk : k < acc.length, bl acc[k] l[i] = false) → R' (.exit 2) s'' h' n' := by
      intro s2 t0 t4 t3 t5 hge
      refine hX' _ _ _ _ ?_
      obtain ⟨hS', hm'⟩ := insAt_spec hS hka hlt hge
      have hmem' : ∀ x, x ∈ insAt acc l[i] k ↔ x ∈ l.take (i + 1) := fun x => by
        rw [hm', hmem, List.take_succ_eq_append_getElem hi, List.mem_append, List.mem_singleton]
        exact Or.comm
      have hll : (insAt acc l[i] k).length ≤ i + 1 := by
        unfold insAt; split
        · omega
        · simp; omega
      by_cases he : acc[k]? = some l[i]
      · have hk1 : k < acc.length := (List.getElem?_eq_some_iff.1 he).1
        have hek : acc[k] = l[i] := by rw [List.getElem?_eq_getElem hk1] at he; exact Option.some.inj he
        have hia : insAt acc l[i] k = acc := by unfold insAt; rw [if_pos he]
        rw [hia] at hS' hmem' hll
        simp [t0, t4, t3, t5, eid, hk1, hi, hek, hw]
        exact hR _ _ _ (by simp [t0, hk]) (by simp) ⟨acc, id, by simp [t3], eid, hidn, by omega, hS', hmem'⟩
      · have hia : insAt acc l[i] k = acc.take k ++ l[i] :: acc.drop k := by unfold insAt; rw [if_neg he]
        have n0 : ¬ id = n' := by omega
        have n1 : ¬ id = n' + 1 := by omega
        have n2 : ¬ id = n' + 1 + 1 := by omega
        have n3 : ¬ n' = id := by omega
        have n4 : ¬ n' + 1 = id := by omega
        have n5 : ¬ n' + 1 + 1 = id := by omega
        have n6 : ¬ n' + 1 + 1 + 1 = id := by omega
        have n7 : ¬ id = n' + 1 + 1 + 1 := by omega
        have q1 : k + (acc.length - k) = acc.length := by omega
        have q2 : acc.length ≤ 1048576 := by omega
        have q3 : min k acc.length = k := Nat.min_eq_left hka
        by_cases hk1 : k < acc.length
        · have hek : ¬ acc[k] = l[i] := fun e => he (by rw [List.getElem?_eq_getElem hk1, e])
          simp [t0, t4, t3, t5, eid, hk1, hi, hek, hw, lowOf, asI, n0, n1, n2, n3, n4, n5, n6, n7, q1, q3, hka]
          have hlim : (acc.length - k) * 16 ≤ LIM ∧ (k + 1) * 16 ≤ LIM ∧ (k + 1 + (acc.length - k)) * 16 ≤ LIM := by unfold LIM; omega
          refine ⟨hlim.1, hlim.2.1, hlim.2.2, ?_⟩
          have hln : (acc.take k ++ l[i] :: acc.drop k).length = k + 1 + (acc.length - k) := by simp; omega
          refine hR _ _ _ (by simp [t0, hk]) (by simp) ⟨acc.take k ++ l[i] :: acc.drop k, n' + 4, ?_, ?_, by omega, by rw [← hia]; exact hll, by rw [← hia]; exact hS', by rw [← hia]; exact hmem'⟩
          · rw [hln]; simp
          · simp [strsR, List.take_of_length_le]
            rw [List.take_of_length_le (by simp; omega)]
            simp
        · simp [t0, t4, t3, t5, eid, hk1, hi, hw, lowOf, asI, n0, n1, n2, n3, n4, n5, n6, n7, q1, q3, hka]
          have hlim : (acc.length - k) * 16 ≤ LIM ∧ (k + 1) * 16 ≤ LIM ∧ (k + 1 + (acc.length - k)) * 16 ≤ LIM := by unfold LIM; omega
          refine ⟨hlim.1, hlim.2.1, hlim.2.2, ?_⟩
          have hln : (acc.take k ++ l[i] :: acc.drop k).length = k + 1 + (acc.length - k) := by simp; omega
          refine hR _ _ _ (by simp [t0, hk]) (by simp) ⟨acc.take k ++ l[i] :: acc.drop k, n' + 4, ?_, ?_, by omega, by rw [← hia]; exact hll, by rw [← hia]; exact hS', by rw [← hia]; exact hmem'⟩
          · rw [hln]; simp
          · simp [strsR, List.take_of_length_le]
            rw [List.take_of_length_le (by simp; omega)]
            simp
    by_cases hk1 : k < acc.length
    · simp [s0', s4', s3', s5', eid, hk1, hi]
      refine ⟨fun hb => ?_, fun hb => ?_⟩
      · refine hR' (acc.length - (k + 1)) _ _ _ (by omega) ⟨k + 1, rfl, by omega, by simp [s0'], by simp [s4'], by simp [s3'], by simp; exact wrap64 (by omega), fun j hj hjk => ?_, rfl, rfl⟩
        by_cases hjk' : j < k
        · exact hlt j hj hjk'
        · have : j = k := by omega
          subst this; exact hb
      · exact rest _ (by simp [s0']) (by simp [s4']) (by simp [s3']) (by simp [s5']) fun _ => hb
    · simp [s0', s4', s3', s5', eid, hk1, hi]
      exact rest _ (by simp [s0']) (by simp [s4']) (by simp [s3']) (by simp [s5']) fun h => absurd h hk1
  · rintro s h n R hk s4 ⟨acc, id, s3, eid, hidn, hai, hS, hmem⟩ hret hX
    simp at hk
    rw [List.take_of_length_le (Nat.le_refl _)] at hmem
    have := snames_eq hS hmem
    subst this
    simp [hk, s4]
    intro _
    refine hX _ _ _ _ ?_
    simp [s3, eid]
end Go.Proofs.YtilcageplifbgaaGreat

/- Contracts: the program's candidates. -/
import Derived.Test.YtoejpoioleffpaaZ7
namespace Go.Proofs.Ytoejpoioleffpaa
set_option linter.all false
open Go Go.RowKit Go.Proofs

def cr0 : AC := (.reg [⟨some 2, (.mv (.k (.nil 2))), no⟩])
def cr1 : AC := (.seq  (.reg [⟨some 7, (.mv (.t 0)), no⟩, ⟨some 8, (.call (.k (.fn (.func 37) [] [])) [(.t 7), (.k (.int .i64 0)), (.k (.int .i64 2))]), no⟩, ⟨some 9, (.un .not (.t 8)), no⟩]) (.cond (.t 9) (.seq  (.reg [⟨some 2, (.mv (.k (.nil 2))), no⟩]) .ret) .skip))
def cr2 : AC := (.reg [⟨some 10, (.mv (.t 0)), no⟩, ⟨some 11, (.bsl 1 [(.k (.int .i64 (-1))), (.k (.int .i64 0)), (.k (.int .i64 1))]), no⟩, ⟨some 12, (.call (.k (.fn (.func 38) [] [])) [(.t 10), (.t 11)]), no⟩, ⟨some 3, (.mv (.t 12)), no⟩])
def cr3 : AC := (.reg [⟨some 13, (.mv (.t 3)), no⟩, ⟨some 14, (.call (.k (.fn (.func 39) [] [])) [(.t 13), (.k (.fn (.func 40) [] []))]), no⟩])
def cr4 : AC := (.reg [⟨some 4, (.mv (.k (.nil 2))), no⟩])
def cr5 : AC := (.seq  (.reg [⟨some 15, (.mv (.t 3)), no⟩, ⟨some 16, (.len false (.t 15)), no⟩, ⟨some 17, (.mv (.k (.int .i64 0))), no⟩]) (.blk 0 (.loop (.seq  (.reg [⟨some 18, (.bin .lss (.t 17) (.t 16)), no⟩]) (.seq (.cond (.t 18) .skip (.exit 0)) (.seq (.blk 1 (.seq  (.reg [⟨some 19, (.ixa 1 (.t 15) (.t 17)), no⟩, ⟨some 20, (.ld false 1 (.t 19)), no⟩, ⟨some 6, (.mv (.t 20)), no⟩])  (.reg [⟨some 21, (.mv (.t 4)), no⟩, ⟨some 22, (.mv (.t 6)), no⟩, ⟨some 23, (.call (.k (.fn (.func 45) [] [])) [(.t 22)]), no⟩, ⟨some 24, (.build [(.int .i64 0), (.nil 1)] [(0, (1, (.k (.int .i64 0)))), (1, (1, (.t 23)))]), no⟩, ⟨some 25, (.mv (.t 6)), no⟩, ⟨some 26, (.call (.k (.fn (.func 45) [] [])) [(.t 25)]), no⟩, ⟨some 27, (.build [(.int .i64 0), (.nil 1)] [(0, (1, (.k (.int .i64 5)))), (1, (1, (.t 26)))]), no⟩, ⟨some 28, (.bsl 2 [(.t 24), (.t 27)]), no⟩, ⟨some 29, (.app 32 2 (.t 21) (.t 28)), no⟩, ⟨some 4, (.mv (.t 29)), no⟩])))  (.reg [⟨some 30, (.bin .add (.t 17) (.k (.int .i64 1))), no⟩, ⟨some 17, (.mv (.t 30)), no⟩])))))))
def cr6 : AC := (.reg [⟨some 31, (.mv (.t 4)), no⟩, ⟨some 2, (.mv (.t 31)), no⟩])
def a14 : AFn := ⟨32, [(.t 2)], (.seq cr0 (.seq cr1 (.seq cr2 (.seq cr3 (.seq cr4 (.seq cr5 (.seq cr6 .ret)))))))⟩
theorem a14_ok : compFn Try.prog Try.f14 = some a14 := by kernel_rfl

def cb0 : AC := (.reg [⟨some 4, (.mv (.k (.nil 2))), no⟩])
def cb1 : AC := (.seq  (.reg [⟨some 9, (.mv (.t 0)), no⟩, ⟨some 10, (.call (.k (.fn (.func 37) [] [])) [(.t 9), (.k (.int .i64 0)), (.k (.int .i64 2))]), no⟩, ⟨some 11, (.un .not (.t 10)), no⟩, ⟨some 12, (.mv (.t 11)), no⟩, ⟨some 13, (.mv (.t 1)), (some (12, false))⟩, ⟨some 14, (.call (.k (.fn (.func 37) [] [])) [(.t 13), (.k (.int .i64 0)), (.k (.int .i64 1))]), (some (12, false))⟩, ⟨some 15, (.un .not (.t 14)), (some (12, false))⟩, ⟨some 16, (.pick (.t 12) (.k (.bool true)) (.t 15)), no⟩]) (.cond (.t 16) (.seq  (.reg [⟨some 4, (.mv (.k (.nil 2))), no⟩]) .ret) .skip))
def cb2 : AC := (.reg [⟨some 17, (.mv (.t 0)), no⟩, ⟨some 18, (.bsl 1 [(.k (.int .i64 0)), (.k (.int .i64 1)), (.k (.int .i64 2))]), no⟩, ⟨some 19, (.call (.k (.fn (.func 38) [] [])) [(.t 17), (.t 18)]), no⟩, ⟨some 5, (.mv (.t 19)), no⟩])
def cb3 : AC := (.reg [⟨some 20, (.mv (.t 5)), no⟩, ⟨some 21, (.call (.k (.fn (.func 39) [] [])) [(.t 20), (.k (.fn (.func 50) [] []))]), no⟩])
def cb4 : AC := (.reg [⟨some 6, (.mv (.k (.nil 2))), no⟩])
def cb5 : AC := (.seq  (.reg [⟨some 22, (.mv (.t 5)), no⟩, ⟨some 23, (.len false (.t 22)), no⟩, ⟨some 24, (.mv (.k (.int .i64 0))), no⟩]) (.blk 0 (.loop (.seq  (.reg [⟨some 25, (.bin .lss (.t 24) (.t 23)), no⟩]) (.seq (.cond (.t 25) .skip (.exit 0)) (.seq (.blk 1 (.seq  (.reg [⟨some 26, (.ixa 1 (.t 22) (.t 24)), no⟩, ⟨some 27, (.ld false 1 (.t 26)), no⟩, ⟨some 8, (.mv (.t 27)), no⟩])  (.reg [⟨some 28, (.mv (.t 6)), no⟩, ⟨some 29, (.mv (.t 1)), no⟩, ⟨some 30, (.mv (.t 8)), no⟩, ⟨some 31, (.call (.k (.fn (.func 45) [] [])) [(.t 30)]), no⟩, ⟨some 32, (.build [(.int .i64 0), (.nil 1)] [(0, (1, (.t 29))), (1, (1, (.t 31)))]), no⟩, ⟨some 33, (.mv (.t 1)), no⟩, ⟨some 34, (.bin .add (.t 33) (.k (.int .i64 1))), no⟩, ⟨some 35, (.mv (.t 8)), no⟩, ⟨some 36, (.call (.k (.fn (.func 45) [] [])) [(.t 35)]), no⟩, ⟨some 37, (.build [(.int .i64 0), (.nil 1)] [(0, (1, (.t 34))), (1, (1, (.t 36)))]), no⟩, ⟨some 38, (.bsl 2 [(.t 32), (.t 37)]), no⟩, ⟨some 39, (.app 32 2 (.t 28) (.t 38)), no⟩, ⟨some 6, (.mv (.t 39)), no⟩])))  (.reg [⟨some 40, (.bin .add (.t 24) (.k (.int .i64 1))), no⟩, ⟨some 24, (.mv (.t 40)), no⟩])))))))
def cb6 : AC := (.reg [⟨some 41, (.mv (.t 6)), no⟩, ⟨some 4, (.mv (.t 41)), no⟩])
def a19 : AFn := ⟨42, [(.t 4)], (.seq cb0 (.seq cb1 (.seq cb2 (.seq cb3 (.seq cb4 (.seq cb5 (.seq cb6 .ret)))))))⟩
theorem a19_ok : compFn Try.prog Try.f19 = some a19 := by kernel_rfl


def candOf (c1 c2 : Int) (S : List (List Int)) : List DLin := S.flatMap fun l => [⟨c1, l⟩, ⟨c2, l⟩]
theorem candOf_len (c1 c2 : Int) : ∀ S : List (List Int), (candOf c1 c2 S).length = 2 * S.length
  | [] => rfl
  | a :: S => by have := candOf_len c1 c2 S; simp only [candOf, List.flatMap_cons, List.length_append, List.length_cons, List.length_nil] at this ⊢; omega
def LXv (v : AV) (L : List DLin) (h : Heap) (n lo : Nat) : Prop := (v = .nil 2 ∧ L = []) ∨ ∃ a, v = .ref a 0 L.length ∧ h a = some ⟨false, 2, L.map rULin⟩ ∧ lo ≤ a ∧ a < n
def sortedR (m : Nat) : List (List Int) := isortF cmpR ((gridL m [-1, 0, 1] [[]]).length - 1) 1 (gridL m [-1, 0, 1] [[]])
def sortedB (m : Nat) : List (List Int) := isortF cmpB ((gridL m [0, 1, 2] [[]]).length - 1) 1 (gridL m [0, 1, 2] [[]])
def candR (m : Int) : List DLin := if inR m 0 2 then candOf 0 5 (sortedR m.toNat) else []
def candB (m least : Int) : List DLin := if inR m 0 2 && inR least 0 1 then candOf least (least + 1) (sortedB m.toNat) else []
theorem sorted_facts (m : Nat) (hm : m ≤ 2) : (gridL m [-1, 0, 1] [[]]).length ≤ 9 ∧ (gridL m [0, 1, 2] [[]]).length ≤ 9 ∧ (sortedR m).length ≤ 9 ∧ (sortedB m).length ≤ 9 ∧ (∀ l ∈ sortedR m, l.length ≤ 8) ∧ ∀ l ∈ sortedB m, l.length ≤ 8 := by
  rcases (show m = 0 ∨ m = 1 ∨ m = 2 by omega) with rfl | rfl | rfl <;> decide +kernel
set_option maxRecDepth 20000
set_option maxHeartbeats 2000000
section
variable {ks : List Kt} {s : Env} {h : Heap} {n : Nat} {Q : Fin}
theorem cr5_run {S : List (List Int)} {rows : List (List AV)} {o : Nat} (hS : S.length ≤ 9) (hl : ∀ l ∈ S, l.length ≤ 8) (s3 : s 3 = .ref o 0 S.length) (ho : h o = some ⟨false, 1, rows⟩) (hr : drr rows = S.map rI) (s4 : s 4 = .nil 2) (hon : o < n)
    (hK : ∀ s' h' n', LXv (s' 4) (candOf 0 5 S) h' n' 0 → kont Try.prog ks .normal s' h' n' Q) : rC Try.prog cr5 ks s h n Q := by
  simp [cr5, s3, ho]
  intro _
  refine rL_forO [15, 16] 17 S.length (fun i st h' n' => n ≤ n' ∧ LXv (st 4) (candOf 0 5 (S.take i)) h' n' n ∧ ∀ id, id < n → h' id = h id) (by unfold LIM; omega) (by simp) ⟨Nat.le_refl _, .inl ⟨by simp [s4], by simp [candOf]⟩, fun _ _ => rfl⟩ ?_ ?_
  · rintro i st h1 m R hi hg hk t8 hw ⟨hnm, hv, hf⟩ hR _ _
    simp at hk
    have e1 := hf o hon
    rw [ho] at e1
    obtain ⟨v, g1, g2⟩ := rowAt hr hi
    have hrl := drr_lenI hr
    have hi2 : i < rows.length := by omega
    have g1' : rows[i]'hi2 = [v] := by rw [List.getElem?_eq_getElem hi2] at g1; exact Option.some.inj g1
    have hle := hl _ (List.getElem_mem hi)
    have ht : candOf 0 5 (S.take (i + 1)) = candOf 0 5 (S.take i) ++ [⟨0, S[i]⟩, ⟨5, S[i]⟩] := by unfold candOf; rw [List.take_succ_eq_append_getElem hi, List.flatMap_append]; simp
    rw [ht] at hR
    have hlen := candOf_len 0 5 (S.take i)
    have htl : (S.take i).length ≤ 9 := by simp; omega
    generalize hM : candOf 0 5 (S.take i) = M at *
    simp [hk, t8, hi, hi2, e1, g1', g2]
    first | refine callD_of (k_CloneInt S[i] (by omega)) (by simp) ?_ | refine call_of (k_CloneInt S[i] (by omega)) (by simp) ?_ | refine callD_of (k_CloneInt S[i] (by omega)) rfl ?_ | refine call_of (k_CloneInt S[i] (by omega)) rfl ?_
    rintro r rfl
    simp
    first | refine callD_of (k_CloneInt S[i] (by omega)) (by simp) ?_ | refine call_of (k_CloneInt S[i] (by omega)) (by simp) ?_ | refine callD_of (k_CloneInt S[i] (by omega)) rfl ?_ | refine call_of (k_CloneInt S[i] (by omega)) rfl ?_
    rintro r rfl
    have fr0 : ∀ id, id < n → ¬ id = m ∧ ¬ id = m + 1 ∧ ¬ id = m + 1 + 1 ∧ ¬ id = m + 1 + 1 + 1 := fun id _ => by omega
    rcases hv with ⟨h6, hL⟩ | ⟨a, h6, ha, hloa, ham⟩
    · subst hL
      simp [h6, hk, t8, hw]
      refine ⟨by unfold LIM; omega, hR _ _ _ (by simp [hk]) (by simp) ⟨by omega, .inr ⟨m + 1 + 1 + 1, by simp, by simp [rULin, intsR], by omega, by omega⟩, fun id hid => by simp [fr0 id hid, hf id hid]⟩⟩
    · have ea : ¬ a = m ∧ ¬ m = a ∧ ¬ a = m + 1 ∧ ¬ a = m + 1 + 1 ∧ ¬ a = m + 1 + 1 + 1 ∧ ¬ m + 1 + 1 + 1 = a ∧ ¬ m + 1 + 1 = a ∧ ¬ m + 1 = a := by omega
      have ht2 : List.take M.length (M.map rULin) = M.map rULin := List.take_of_length_le (by simp)
      simp [h6, hk, t8, hw, ha, ea, ht2]
      refine ⟨by unfold LIM; omega, hR _ _ _ (by simp [hk]) (by simp) ⟨by omega, .inr ⟨m + 1 + 1 + 1, by simp, by simp [rULin, intsR], by omega, by omega⟩, fun id hid => by simp [fr0 id hid, hf id hid, show ¬ id = a by omega]⟩⟩
  · rintro st h1 m R hk t8 ⟨hnm, hv, hf⟩ hret hX
    simp at hk
    simp [hk, t8]
    refine hX _ _ _ _ ?_
    rw [List.take_of_length_le (Nat.le_refl _)] at hv
    simp
    refine hK _ _ _ ?_
    rcases hv with ⟨z1, z2⟩ | ⟨a, z1, z2, z3, z4⟩
    · exact .inl ⟨by simp [z1], z2⟩
    · exact .inr ⟨a, by simp [z1], z2, by omega, z4⟩
theorem cb5_run {S : List (List Int)} {rows : List (List AV)} {o : Nat} {q : Int} (hS : S.length ≤ 9) (hl : ∀ l ∈ S, l.length ≤ 8) (s3 : s 5 = .ref o 0 S.length) (ho : h o = some ⟨false, 1, rows⟩) (hr : drr rows = S.map rI) (s4 : s 6 = .nil 2) (hon : o < n) (s1 : s 1 = i64 q) (hq : 0 ≤ q ∧ q ≤ 1)
    (hK : ∀ s' h' n', LXv (s' 6) (candOf q (q + 1) S) h' n' 0 → kont Try.prog ks .normal s' h' n' Q) : rC Try.prog cb5 ks s h n Q := by
  simp [cb5, s3, ho]
  intro _
  refine rL_forO [1, 22, 23] 24 S.length (fun i st h' n' => n ≤ n' ∧ LXv (st 6) (candOf q (q + 1) (S.take i)) h' n' n ∧ ∀ id, id < n → h' id = h id) (by unfold LIM; omega) (by simp) ⟨Nat.le_refl _, .inl ⟨by simp [s4], by simp [candOf]⟩, fun _ _ => rfl⟩ ?_ ?_
  · rintro i st h1 m R hi hg hk t8 hw ⟨hnm, hv, hf⟩ hR _ _
    simp at hk
    have e1 := hf o hon
    rw [ho] at e1
    obtain ⟨v, g1, g2⟩ := rowAt hr hi
    have hrl := drr_lenI hr
    have hi2 : i < rows.length := by omega
    have g1' : rows[i]'hi2 = [v] := by rw [List.getElem?_eq_getElem hi2] at g1; exact Option.some.inj g1
    have hle := hl _ (List.getElem_mem hi)
    have ht : candOf q (q + 1) (S.take (i + 1)) = candOf q (q + 1) (S.take i) ++ [⟨q, S[i]⟩, ⟨(q + 1), S[i]⟩] := by unfold candOf; rw [List.take_succ_eq_append_getElem hi, List.flatMap_append]; simp
    rw [ht] at hR
    have hlen := candOf_len q (q + 1) (S.take i)
    have htl : (S.take i).length ≤ 9 := by simp; omega
    generalize hM : candOf q (q + 1) (S.take i) = M at *
    simp [hk, t8, hi, hi2, e1, g1', g2]
    first | refine callD_of (k_CloneInt S[i] (by omega)) (by simp) ?_ | refine call_of (k_CloneInt S[i] (by omega)) (by simp) ?_ | refine callD_of (k_CloneInt S[i] (by omega)) rfl ?_ | refine call_of (k_CloneInt S[i] (by omega)) rfl ?_
    rintro r rfl
    simp [hk, s1, show IntKind.i64.wrap (q + 1) = q + 1 from wrap64 (by omega)]
    first | refine callD_of (k_CloneInt S[i] (by omega)) (by simp) ?_ | refine call_of (k_CloneInt S[i] (by omega)) (by simp) ?_ | refine callD_of (k_CloneInt S[i] (by omega)) rfl ?_ | refine call_of (k_CloneInt S[i] (by omega)) rfl ?_
    rintro r rfl
    have fr0 : ∀ id, id < n → ¬ id = m ∧ ¬ id = m + 1 ∧ ¬ id = m + 1 + 1 ∧ ¬ id = m + 1 + 1 + 1 := fun id _ => by omega
    rcases hv with ⟨h6, hL⟩ | ⟨a, h6, ha, hloa, ham⟩
    · subst hL
      simp [h6, hk, t8, hw, s1, show IntKind.i64.wrap (q + 1) = q + 1 from wrap64 (by omega)]
      refine ⟨by unfold LIM; omega, hR _ _ _ (by simp [hk]) (by simp) ⟨by omega, .inr ⟨m + 1 + 1 + 1, by simp, by simp [rULin, intsR], by omega, by omega⟩, fun id hid => by simp [fr0 id hid, hf id hid]⟩⟩
    · have ea : ¬ a = m ∧ ¬ m = a ∧ ¬ a = m + 1 ∧ ¬ a = m + 1 + 1 ∧ ¬ a = m + 1 + 1 + 1 ∧ ¬ m + 1 + 1 + 1 = a ∧ ¬ m + 1 + 1 = a ∧ ¬ m + 1 = a := by omega
      have ht2 : List.take M.length (M.map rULin) = M.map rULin := List.take_of_length_le (by simp)
      simp [h6, hk, t8, hw, ha, ea, ht2, s1, show IntKind.i64.wrap (q + 1) = q + 1 from wrap64 (by omega)]
      refine ⟨by unfold LIM; omega, hR _ _ _ (by simp [hk]) (by simp) ⟨by omega, .inr ⟨m + 1 + 1 + 1, by simp, by simp [rULin, intsR], by omega, by omega⟩, fun id hid => by simp [fr0 id hid, hf id hid, show ¬ id = a by omega]⟩⟩
  · rintro st h1 m R hk t8 ⟨hnm, hv, hf⟩ hret hX
    simp at hk
    simp [hk, t8]
    refine hX _ _ _ _ ?_
    rw [List.take_of_length_le (Nat.le_refl _)] at hv
    simp
    refine hK _ _ _ ?_
    rcases hv with ⟨z1, z2⟩ | ⟨a, z1, z2, z3, z4⟩
    · exact .inl ⟨by simp [z1], z2⟩
    · exact .inr ⟨a, by simp [z1], z2, by omega, z4⟩
end
theorem clean_ULins (L : List DLin) : cleanr (L.map rULin) = true := by
  rw [cleanr_iff]
  simp [rULin, cleanl, clean]
theorem k_CandidateRanks (m : Int) : Holds Try.prog 14 [i64 m] (fun r => r = .us 2 ((candR m).map rULin)) := by
  refine holds_of_run Try.func14 a14_ok rfl (by simp [a14]) ?_
  simp [a14, cr0, cr1]
  first | refine callD_of (k_within m 0 2) (by simp) ?_ | refine call_of (k_within m 0 2) (by simp) ?_ | refine callD_of (k_within m 0 2) rfl ?_ | refine call_of (k_within m 0 2) rfl ?_
  rintro r rfl
  unfold candR
  cases h1 : inR m 0 2
  · simp
  have hm : 0 ≤ m ∧ m ≤ 2 := by simpa [inR] using h1
  obtain ⟨k, rfl⟩ : ∃ k : Nat, m = k := ⟨m.toNat, by omega⟩
  have hk2 : k ≤ 2 := by omega
  obtain ⟨f1, f2, f3, f4, f5, f6⟩ := sorted_facts k hk2
  simp [cr2]
  first | refine callD_of (k_grid k hk2 [-1, 0, 1] (by decide)) (by simp [intsR]) ?_ | refine call_of (k_grid k hk2 [-1, 0, 1] (by decide)) (by simp [intsR]) ?_ | refine callD_of (k_grid k hk2 [-1, 0, 1] (by decide)) rfl ?_ | refine call_of (k_grid k hk2 [-1, 0, 1] (by decide)) rfl ?_
  rintro r rfl
  simp [cr3]
  refine c_sort (cf := cmpR) (xs := gridL k [-1, 0, 1] [[]]) (fun x y h n K hK => acall_of_holds (k_cmpR x y) (by simp) (by rintro _ rfl; simpa using hK)) (by omega) (by simp) (drr_UI _) fun rows' hr' => ?_
  change drr rows' = (sortedR k).map rI at hr'
  simp [cr4]
  have hgl : (gridL k [-1, 0, 1] [[]]).length = (sortedR k).length := by
    rcases (show k = 0 ∨ k = 1 ∨ k = 2 by omega) with rfl | rfl | rfl <;> decide +kernel
  refine cr5_run (S := sortedR k) (o := 1) f3 f5 (by simp [hgl]) (by simp) hr' (by simp) (by omega) ?_
  intro s' h' n' hv
  rcases hv with ⟨z1, z2⟩ | ⟨a, z1, z2, _, _⟩
  · rw [z2]
    simp [cr6, z1]
  · simp [cr6, z1, z2, List.take_of_length_le, clean_ULins]
theorem k_CandidateBounds (m q : Int) : Holds Try.prog 19 [i64 m, i64 q] (fun r => r = .us 2 ((candB m q).map rULin)) := by
  refine holds_of_run Try.func19 a19_ok rfl (by simp [a19]) ?_
  simp [a19, cb0, cb1]
  first | refine callD_of (k_within m 0 2) (by simp) ?_ | refine call_of (k_within m 0 2) (by simp) ?_ | refine callD_of (k_within m 0 2) rfl ?_ | refine call_of (k_within m 0 2) rfl ?_
  rintro r rfl
  unfold candB
  cases h1 : inR m 0 2
  · simp
  simp
  first | refine callD_of (k_within q 0 1) (by simp) ?_ | refine call_of (k_within q 0 1) (by simp) ?_ | refine callD_of (k_within q 0 1) rfl ?_ | refine call_of (k_within q 0 1) rfl ?_
  rintro r rfl
  cases h2 : inR q 0 1
  · simp
  have hm : 0 ≤ m ∧ m ≤ 2 := by simpa [inR] using h1
  have hq : 0 ≤ q ∧ q ≤ 1 := by simpa [inR] using h2
  obtain ⟨k, rfl⟩ : ∃ k : Nat, m = k := ⟨m.toNat, by omega⟩
  have hk2 : k ≤ 2 := by omega
  obtain ⟨f1, f2, f3, f4, f5, f6⟩ := sorted_facts k hk2
  simp [cb2]
  first | refine callD_of (k_grid k hk2 [0, 1, 2] (by decide)) (by simp [intsR]) ?_ | refine call_of (k_grid k hk2 [0, 1, 2] (by decide)) (by simp [intsR]) ?_ | refine callD_of (k_grid k hk2 [0, 1, 2] (by decide)) rfl ?_ | refine call_of (k_grid k hk2 [0, 1, 2] (by decide)) rfl ?_
  rintro r rfl
  simp [cb3]
  refine c_sort (cf := cmpB) (xs := gridL k [0, 1, 2] [[]]) (fun x y h n K hK => acall_of_holds (k_cmpB x y) (by simp) (by rintro _ rfl; simpa using hK)) (by omega) (by simp) (drr_UI _) fun rows' hr' => ?_
  change drr rows' = (sortedB k).map rI at hr'
  simp [cb4]
  have hgl : (gridL k [0, 1, 2] [[]]).length = (sortedB k).length := by
    rcases (show k = 0 ∨ k = 1 ∨ k = 2 by omega) with rfl | rfl | rfl <;> decide +kernel
  refine cb5_run (S := sortedB k) (o := 1) f4 f6 (by simp [hgl]) (by simp) hr' (by simp) (by omega) (by simp) hq ?_
  intro s' h' n' hv
  rcases hv with ⟨z1, z2⟩ | ⟨a, z1, z2, _, _⟩
  · rw [z2]
    simp [cb6, z1]
  · simp [cb6, z1, z2, List.take_of_length_le, clean_ULins]
end Go.Proofs.Ytoejpoioleffpaa

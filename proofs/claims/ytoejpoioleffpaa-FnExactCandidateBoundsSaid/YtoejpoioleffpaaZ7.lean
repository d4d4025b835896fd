/- Contracts: all lists of some numbers; what the program's candidates are. -/
import Derived.Test.YtoejpoioleffpaaZ6
namespace Go.Proofs.Ytoejpoioleffpaa
set_option linter.all false
open Go Go.RowKit Go.Proofs

def gr0 : AC := (.reg [⟨some 4, (.mv (.k (.nil 1))), no⟩])
def gr1 : AC := (.reg [⟨some 11, (.bsl 1 [(.k (.nil 1))]), no⟩, ⟨some 5, (.mv (.t 11)), no⟩])
def gi4 : AC := (.blk 4 (.loop (.seq  (.reg [⟨some 25, (.bin .lss (.t 24) (.t 23)), no⟩]) (.seq (.cond (.t 25) .skip (.exit 4)) (.seq (.blk 5 (.seq  (.reg [⟨some 26, (.ixa 1 (.t 22) (.t 24)), no⟩, ⟨some 27, (.ld false 1 (.t 26)), no⟩, ⟨some 10, (.mv (.t 27)), no⟩])  (.reg [⟨some 28, (.mv (.t 6)), no⟩, ⟨some 29, (.mv (.t 8)), no⟩, ⟨some 30, (.call (.k (.fn (.func 45) [] [])) [(.t 29)]), no⟩, ⟨some 31, (.mv (.t 10)), no⟩, ⟨some 32, (.bsl 1 [(.t 31)]), no⟩, ⟨some 33, (.app 8 1 (.t 30) (.t 32)), no⟩, ⟨some 34, (.bsl 1 [(.t 33)]), no⟩, ⟨some 35, (.app 24 1 (.t 28) (.t 34)), no⟩, ⟨some 6, (.mv (.t 35)), no⟩])))  (.reg [⟨some 36, (.bin .add (.t 24) (.k (.int .i64 1))), no⟩, ⟨some 24, (.mv (.t 36)), no⟩]))))))
def gi3 : AC := (.blk 3 (.seq  (.reg [⟨some 20, (.ixa 1 (.t 16) (.t 18)), no⟩, ⟨some 21, (.ld false 1 (.t 20)), no⟩, ⟨some 8, (.mv (.t 21)), no⟩]) (.seq  (.reg [⟨some 22, (.mv (.t 1)), no⟩, ⟨some 23, (.len false (.t 22)), no⟩, ⟨some 24, (.mv (.k (.int .i64 0))), no⟩]) gi4)))
def gi1 : AC := (.blk 1 (.seq  (.reg [⟨some 6, (.mv (.k (.nil 1))), no⟩]) (.seq (.seq  (.reg [⟨some 16, (.mv (.t 5)), no⟩, ⟨some 17, (.len false (.t 16)), no⟩, ⟨some 18, (.mv (.k (.int .i64 0))), no⟩]) (.blk 2 (.loop (.seq  (.reg [⟨some 19, (.bin .lss (.t 18) (.t 17)), no⟩]) (.seq (.cond (.t 19) .skip (.exit 2)) (.seq gi3  (.reg [⟨some 37, (.bin .add (.t 18) (.k (.int .i64 1))), no⟩, ⟨some 18, (.mv (.t 37)), no⟩])))))))  (.reg [⟨some 38, (.mv (.t 6)), no⟩, ⟨some 5, (.mv (.t 38)), no⟩]))))
def gr2 : AC := (.blk 0 (.loop (.seq (.seq  (.reg [⟨some 12, (.mv (.t 0)), no⟩, ⟨some 13, (.bin .gtr (.t 12) (.k (.int .i64 0))), no⟩]) (.cond (.t 13) .skip (.exit 0))) (.seq gi1  (.reg [⟨some 14, (.mv (.t 0)), no⟩, ⟨some 15, (.bin .sub (.t 14) (.k (.int .i64 1))), no⟩, ⟨some 0, (.mv (.t 15)), no⟩])))))
def gr3 : AC := (.reg [⟨some 39, (.mv (.t 5)), no⟩, ⟨some 4, (.mv (.t 39)), no⟩])
def a38 : AFn := ⟨40, [(.t 4)], (.seq gr0 (.seq gr1 (.seq gr2 (.seq gr3 .ret))))⟩
theorem a38_ok : compFn Try.prog Try.f38 = some a38 := by kernel_rfl


def rUI (x : List Int) : List AV := [.us 1 (intsR x)]
theorem drr_UI (L : List (List Int)) : drr (L.map rUI) = L.map rI := by
  rw [drr_eq, List.map_map]
  exact List.map_congr_left fun x _ => by simp [rUI, rI]
def gridL : Nat → List Int → List (List Int) → List (List Int)
  | 0, _, out => out
  | m + 1, fr, out => gridL m fr (out.flatMap fun l => fr.map fun x => l ++ [x])
/-- A slice of lists that grows: nil, or a block. -/
def NXv (v : AV) (L : List (List Int)) (h : Heap) (n lo : Nat) : Prop := (v = .nil 1 ∧ L = []) ∨ ∃ a, v = .ref a 0 L.length ∧ h a = some ⟨false, 1, L.map rUI⟩ ∧ lo ≤ a ∧ a < n
set_option maxRecDepth 20000
set_option maxHeartbeats 2000000
section
variable {ks : List Kt} {s : Env} {h : Heap} {n : Nat} {Q : Fin}
theorem gi4_run {fr l0 : List Int} {L0 : List (List Int)} {lo : Nat} (hfr : fr.length ≤ 3) (hl0 : l0.length ≤ 8) (hL0 : L0.length ≤ 1000) (s8 : s 8 = .sl 1 (intsR l0)) (s22 : s 22 = .sl 1 (intsR fr)) (s23 : s 23 = i64 fr.length) (s24 : s 24 = i64 0) (s6 : NXv (s 6) L0 h n lo) (hlo : lo ≤ n)
    (hK : ∀ s' h' n', n ≤ n' → (∀ q ∈ [0, 1, 5, 16, 17, 18], s' q = s q) → NXv (s' 6) (L0 ++ fr.map fun x => l0 ++ [x]) h' n' lo → (∀ id, id < lo → h' id = h id) → kont Try.prog ks .normal s' h' n' Q) : rC Try.prog gi4 ks s h n Q := by
  simp [gi4]
  refine rL_forO [0, 1, 5, 8, 16, 17, 18, 22, 23] 24 fr.length (fun i st h' n' => n ≤ n' ∧ NXv (st 6) (L0 ++ (fr.take i).map fun x => l0 ++ [x]) h' n' lo ∧ ∀ id, id < lo → h' id = h id) (by unfold LIM; omega) (by simp [s24]) ⟨Nat.le_refl _, by simpa using s6, fun _ _ => rfl⟩ ?_ ?_
  · rintro i st h1 m R hi hg hk t24 hw ⟨hnm, hv, hf⟩ hR _ _
    simp at hk
    simp [hk, t24, s22, s23, s8, hi]
    first | refine callD_of (k_CloneInt l0 (by omega)) (by simp) ?_ | refine call_of (k_CloneInt l0 (by omega)) (by simp) ?_ | refine callD_of (k_CloneInt l0 (by omega)) rfl ?_ | refine call_of (k_CloneInt l0 (by omega)) rfl ?_
    rintro r rfl
    have ht : (fr.take (i + 1)).map (fun x => l0 ++ [x]) = (fr.take i).map (fun x => l0 ++ [x]) ++ [l0 ++ [fr[i]]] := by rw [List.take_succ_eq_append_getElem hi, List.map_append]; rfl
    have hlen : (L0 ++ (fr.take i).map fun x => l0 ++ [x]).length = L0.length + i := by simp; omega
    rw [ht, ← List.append_assoc] at hR
    generalize hM : (L0 ++ (fr.take i).map fun x => l0 ++ [x]) = M at *
    have hMl : M.length ≤ 1003 := by omega
    have fr0 : ∀ id, id < lo → ¬ id = m ∧ ¬ id = m + 1 ∧ ¬ id = m + 1 + 1 ∧ ¬ id = m + 1 + 1 + 1 ∧ ¬ id = m + 1 + 1 + 1 + 1 := fun id _ => by omega
    have ht3 : List.take (l0.length + 1) (intsR l0 ++ [[AV.int .i64 fr[i]]]) = intsR l0 ++ [[AV.int .i64 fr[i]]] := List.take_of_length_le (by simp)
    rcases hv with ⟨h6, hL⟩ | ⟨a, h6, ha, hloa, ham⟩
    · subst hL
      simp [h6, hk, t24, hw, ht3]
      refine ⟨by unfold LIM; omega, by unfold LIM; omega, hR _ _ _ (by simp [hk]) (by simp) ⟨by omega, .inr ⟨m + 1 + 1 + 1 + 1, by simp, by simp [rUI, intsR], by omega, by omega⟩, fun id hid => by simp [fr0 id hid, hf id hid]⟩⟩
    · have ea : ¬ a = m ∧ ¬ m = a ∧ ¬ a = m + 1 ∧ ¬ a = m + 1 + 1 ∧ ¬ a = m + 1 + 1 + 1 ∧ ¬ m + 1 + 1 + 1 = a ∧ ¬ m + 1 + 1 = a ∧ ¬ m + 1 = a := by omega
      have ht2 : List.take M.length (M.map rUI) = M.map rUI := List.take_of_length_le (by simp)
      simp [h6, hk, t24, hw, ha, ea, ht2, ht3]
      refine ⟨by unfold LIM; omega, by unfold LIM; omega, hR _ _ _ (by simp [hk]) (by simp) ⟨by omega, .inr ⟨m + 1 + 1 + 1 + 1, by simp, by simp [rUI, intsR], by omega, by omega⟩, fun id hid => by simp [fr0 id hid, hf id hid, show ¬ id = a by omega]⟩⟩
  · rintro st h1 m R hk t24 ⟨hnm, hv, hf⟩ hret hX
    simp at hk
    simp [hk, t24, s23]
    refine hX _ _ _ _ ?_
    simp
    rw [List.take_of_length_le (Nat.le_refl _)] at hv
    exact hK _ _ _ hnm (by simp [hk]) (by simpa using hv) hf
theorem flat_len {fr : List Int} (hfr : fr.length ≤ 3) : ∀ (L : List (List Int)), (L.flatMap fun l => fr.map fun x => l ++ [x]).length ≤ L.length * 3
  | [] => by simp
  | a :: L => by have := flat_len hfr L; simp only [List.flatMap_cons, List.length_append, List.length_map, List.length_cons]; omega
theorem gi1_run {fr : List Int} {out : List (List Int)} {o : Nat} (hfr : 0 < fr.length ∧ fr.length ≤ 3) (hout : 0 < out.length ∧ out.length ≤ 300) (hl : ∀ l ∈ out, l.length ≤ 8) (s1 : s 1 = .sl 1 (intsR fr)) (s5 : s 5 = .ref o 0 out.length) (ho : h o = some ⟨false, 1, out.map rUI⟩) (hon : o < n)
    (hK : ∀ s' h' n' o', s' 0 = s 0 → s' 1 = s 1 → s' 5 = .ref o' 0 (out.flatMap fun l => fr.map fun x => l ++ [x]).length → h' o' = some ⟨false, 1, (out.flatMap fun l => fr.map fun x => l ++ [x]).map rUI⟩ → o' < n' → kont Try.prog ks .normal s' h' n' Q) : rC Try.prog gi1 ks s h n Q := by
  simp [gi1, s5, ho]
  intro _
  refine rL_forO [0, 1, 5, 16, 17] 18 out.length (fun i st h' n' => n ≤ n' ∧ NXv (st 6) ((out.take i).flatMap fun l => fr.map fun x => l ++ [x]) h' n' n ∧ ∀ id, id < n → h' id = h id) (by unfold LIM; omega) (by simp) ⟨Nat.le_refl _, .inl ⟨by simp, by simp⟩, fun _ _ => rfl⟩ ?_ ?_
  · rintro i st h1 m R hi hg hk t18 hw ⟨hnm, hv, hf⟩ hR _ _
    simp at hk
    have e1 := hf o hon
    rw [ho] at e1
    have ht : ((out.take (i + 1)).flatMap fun l => fr.map fun x => l ++ [x]) = ((out.take i).flatMap fun l => fr.map fun x => l ++ [x]) ++ fr.map fun x => out[i] ++ [x] := by rw [List.take_succ_eq_append_getElem hi, List.flatMap_append]; simp
    rw [ht] at hR
    have hL0 := flat_len hfr.2 (out.take i)
    have htl : (out.take i).length ≤ 300 := by simp; omega
    simp [hk, t18, hi, gi3, e1, s1, rUI]
    intro _
    refine gi4_run (fr := fr) (l0 := out[i]) (lo := n) hfr.2 (hl _ (List.getElem_mem hi)) (L0 := (out.take i).flatMap fun l => fr.map fun x => l ++ [x]) (by omega) (by simp) (by simp) (by simp) (by simp) (by simpa using hv) hnm ?_
    intro s' h' n' hn' hkq hv' hf'
    simp at hkq
    simp [hkq, t18, hw]
    exact hR _ _ _ (by simp [hkq, hk]) (by simp) ⟨by omega, by simpa using hv', fun id hid => by rw [hf' id hid, hf id hid]⟩
  · rintro st h1 m R hk t18 ⟨hnm, hv, hf⟩ hret hX
    simp at hk
    simp [hk, t18]
    refine hX _ _ _ _ ?_
    rw [List.take_of_length_le (Nat.le_refl _)] at hv
    simp
    rcases hv with ⟨_, hz⟩ | ⟨a, h6, ha, _, ham⟩
    · cases out with
      | nil => simp at hout
      | cons a b =>
        cases fr with
        | nil => simp at hfr
        | cons c d => simp at hz
    · exact hK _ _ _ a (by simp [hk]) (by simp [hk]) (by simp [h6]) ha ham
end
def bndG : Nat → Nat
  | 0 => 9
  | 1 => 3
  | _ => 1
theorem k_grid (m : Nat) (hm : m ≤ 2) (fr : List Int) (hfr : 0 < fr.length ∧ fr.length ≤ 3) : Holds Try.prog 38 [i64 m, .sl 1 (intsR fr)] (fun r => r = .us 1 ((gridL m fr [[]]).map rUI)) := by
  refine holds_of_run Try.func38 a38_ok rfl (by simp [a38]) ?_
  simp [a38, gr0, gr1, gr2]
  generalize hT : gridL m fr [[]] = T
  refine rL_whileO (fun k st h n => st 0 = i64 k ∧ st 1 = .sl 1 (intsR fr) ∧ k ≤ 2 ∧ ∃ (o : Nat) (out : List (List Int)), st 5 = .ref o 0 out.length ∧ h o = some ⟨false, 1, out.map rUI⟩ ∧ o < n ∧ 0 < out.length ∧ out.length ≤ bndG k ∧ (∀ l ∈ out, l.length + k ≤ 2) ∧ gridL k fr out = T) m ⟨by simp, by simp, hm, 0, [[]], by simp, by simp [rUI, intsR], by omega, by simp, by unfold bndG; split <;> simp, by simpa using hm, hT⟩ ?_
  rintro k st h n R ⟨s0, s1, hk2, o, out, s5, ho, hon, hp, hb, hl, hJ⟩ hR hret hX
  cases k with
  | zero =>
    refine rC_seqI (rC_cut [5] (fun s => s 13 = .bool false) ?_ ?_)
    · simp [s0]
    intro st1 hk1 s13
    simp at hk1
    refine rC_stop1 s13 (hX _ _ _ _ ?_)
    simp only [gridL] at hJ
    subst hJ
    simp [gr3, hk1, s5, ho]
    rw [cleanr_iff]
    simp [rUI, cleanl, clean]
  | succ k =>
    have hkp : (0 : Int) < (k : Int) + 1 := by omega
    have hw : IntKind.i64.wrap (k : Int) = k := wrap64 (by omega)
    refine rC_seqI (rC_cut [0, 1, 5] (fun s => s 13 = .bool true) ?_ ?_)
    · simp [s0, hkp]
    intro st1 hk1 s13
    simp at hk1
    refine rC_pass1 s13 (rC_seqI ?_)
    have hb3 : out.length ≤ 3 := by unfold bndG at hb; split at hb <;> omega
    refine gi1_run (fr := fr) (out := out) (o := o) hfr ⟨hp, by omega⟩ (fun l hl' => by have := hl l hl'; omega) (by rw [hk1.2.1]; exact s1) (by rw [hk1.2.2]; exact s5) ho hon ?_
    intro s' h' n' o' e0 e1 e5 ho' hon'
    simp [e0, hk1, s0, hw]
    have hfl := flat_len hfr.2 out
    refine hR k _ _ _ (by omega) ⟨by simp, by simp [e1, hk1, s1], by omega, o', _, by simp [e5], ho', hon', ?_, ?_, ?_, hJ⟩
    · cases out with
      | nil => simp at hp
      | cons a b =>
        cases fr with
        | nil => simp at hfr
        | cons c d => simp
    · rcases (show k = 0 ∨ k = 1 by omega) with rfl | rfl
      · simp only [bndG] at hb ⊢; omega
      · simp only [bndG] at hb ⊢; omega
    · intro l hl'
      obtain ⟨a, ha, hx⟩ := List.mem_flatMap.1 hl'
      obtain ⟨x, _, rfl⟩ := List.mem_map.1 hx
      have := hl a ha
      simp; omega
end Go.Proofs.Ytoejpoioleffpaa

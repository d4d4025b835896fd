/- Putting into an ordered list that lies in boxes (reference). -/
import Derived.Test.YtoejpoioleffpaaZ9
namespace Go.Proofs.Ytoejpoioleffpaa
set_option linter.all false
open Go Go.RowKit Go.Proofs

def lp0 : AC := (.reg [⟨some 3, (.boxv (.t 1)), no⟩, ⟨some 4, (.mv (.k (.nil 2))), no⟩])
def lp1 : AC := (.reg [⟨some 5, (.mv (.k (.int .i64 0))), no⟩])
def lp2 : AC := (.blk 0 (.loop (.seq (.seq (.draw (.op ⟨some 7, (.mv (.t 5)), no⟩ (.op ⟨some 8, (.mv (.t 0)), no⟩ (.op ⟨some 9, (.len false (.t 8)), no⟩ (.op ⟨some 10, (.bin .lss (.t 7) (.t 9)), no⟩ (.op ⟨some 11, (.mv (.t 10)), no⟩ (.op ⟨some 12, (.mv (.t 0)), (some (11, true))⟩ (.op ⟨some 13, (.mv (.t 5)), (some (11, true))⟩ (.op ⟨some 14, (.ixa 2 (.t 12) (.t 13)), (some (11, true))⟩ (.op ⟨some 15, (.ld true 2 (.t 14)), (some (11, true))⟩ (.op ⟨some 16, (.ld true 2 (.t 3)), (some (11, true))⟩ (.op ⟨some 17, (.call (.k (.fn (.func 65) [] [])) [(.t 15), (.t 16)]), (some (11, true))⟩ (.op ⟨some 18, (.pick (.t 11) (.t 17) (.k (.bool false))), no⟩ .fin))))))))))))) (.cond (.t 18) .skip (.exit 0))) (.blk 1  (.reg [⟨some 19, (.mv (.t 5)), no⟩, ⟨some 20, (.bin .add (.t 19) (.k (.int .i64 1))), no⟩, ⟨some 5, (.mv (.t 20)), no⟩])))))
def lp3 : AC := (.reg [⟨some 21, (.bslb 2 []), no⟩, ⟨some 22, (.mv (.t 0)), no⟩, ⟨some 23, (.mv (.t 5)), no⟩, ⟨some 24, (.slc false 2 (.t 22) Option.none (some (.t 23))), no⟩, ⟨some 25, (.appb 32 2 (.t 21) (.t 24)), no⟩, ⟨some 6, (.mv (.t 25)), no⟩])
def lp4 : AC := (.reg [⟨some 26, (.mv (.t 6)), no⟩, ⟨some 27, (.ld true 2 (.t 3)), no⟩, ⟨some 28, (.bslb 2 [(.t 27)]), no⟩, ⟨some 29, (.appb 32 2 (.t 26) (.t 28)), no⟩, ⟨some 6, (.mv (.t 29)), no⟩])
def lp5 : AC := (.reg [⟨some 30, (.mv (.t 6)), no⟩, ⟨some 31, (.mv (.t 0)), no⟩, ⟨some 32, (.mv (.t 5)), no⟩, ⟨some 33, (.slc false 2 (.t 31) (some (.t 32)) Option.none), no⟩, ⟨some 34, (.appb 32 2 (.t 30) (.t 33)), no⟩, ⟨some 4, (.mv (.t 34)), no⟩])
def a49 : AFn := ⟨35, [(.t 4)], (.seq lp0 (.seq lp1 (.seq lp2 (.seq lp3 (.seq lp4 (.seq lp5 .ret))))))⟩
theorem a49_ok : compFnX true Try.prog Try.f49 = some a49 := by kernel_rfl


def rowP (p : DLin × Nat) : List AV := [.int .i64 p.1.Const, .ref p.2 0 p.1.Coeffs.length]
/-- A list of expressions in a box, each with a block of its own. -/
structure BL (o : Nat) (ps : List (DLin × Nat)) (h : Heap) (n : Nat) : Prop where
  ho : h o = some ⟨true, 2, ps.map rowP⟩
  hk : ∀ p ∈ ps, h p.2 = some ⟨false, 1, intsR p.1.Coeffs⟩
  lo : o < n
  lt : ∀ p ∈ ps, p.2 < n
  ne : ∀ p ∈ ps, ¬ p.2 = o
  nd : (ps.map (·.2)).Nodup
def posL (bf : DLin → DLin → Bool) : List DLin → DLin → Nat
  | [], _ => 0
  | a :: L, l => if bf a l then posL bf L l + 1 else 0
theorem posL_le (bf : DLin → DLin → Bool) (l : DLin) : ∀ L : List DLin, posL bf L l ≤ L.length
  | [] => Nat.le_refl _
  | a :: L => by have := posL_le bf l L; simp only [posL]; split <;> simp <;> omega
def putL (bf : DLin → DLin → Bool) (L : List DLin) (l : DLin) : List DLin := L.take (posL bf L l) ++ l :: L.drop (posL bf L l)
set_option maxRecDepth 20000
set_option maxHeartbeats 2000000
section
variable {ks : List Kt} {s : Env} {h : Heap} {n : Nat} {Q : Fin}
theorem lp2_run {ps : List (DLin × Nat)} {o b k : Nat} {l : DLin} {m : Nat} (hB : BL o ps h n) (hm : ∀ p ∈ ps, p.1.Coeffs.length = m) (hlm : l.Coeffs.length = m) (hN : ps.length ≤ 1000) (sl : s 0 = .ref o 0 ps.length) (sb : s 3 = .ptr b 0 0) (sa : s 5 = i64 0) (hb : h b = some ⟨true, 2, [rowP (l, k)]⟩) (hk : h k = some ⟨false, 1, intsR l.Coeffs⟩)
    (hK : ∀ s', (∀ j ∈ [0, 3], s' j = s j) → s' 5 = i64 (posL (bef totW ltI) (ps.map (·.1)) l) → kont Try.prog ks .normal s' h n Q) : rC Try.prog lp2 ks s h n Q := by
  simp [lp2]
  generalize hT : posL (bef totW ltI) (ps.map (·.1)) l = T
  rw [hT] at hK
  refine rL_whileO (fun k2 st h' n' => h' = h ∧ n' = n ∧ (∀ j ∈ [0, 3], st j = s j) ∧ ∃ i : Nat, i ≤ ps.length ∧ k2 = ps.length - i ∧ st 5 = i64 i ∧ i + posL (bef totW ltI) ((ps.drop i).map (·.1)) l = T) ps.length ⟨rfl, rfl, fun _ _ => rfl, 0, by omega, by omega, by simp [sa], by simpa using hT⟩ ?_
  rintro k2 st h' n' R ⟨rfl, rfl, hkk, i, hi, rfl, t3, hJ⟩ hR hret hX
  simp at hkk
  by_cases hlt : i < ps.length
  · have hp := List.getElem_mem hlt
    have e1 := hB.hk _ hp
    have el := hm _ hp
    rw [List.drop_eq_getElem_cons hlt, List.map_cons] at hJ
    simp only [posL] at hJ
    refine rC_seqI (rC_cut [0, 3, 5] (fun s => s 18 = .bool ((bef totW ltI) (ps[i]'hlt).1 l)) ?_ ?_)
    · have ht : ∀ (x : List Int) (q : Nat), x.length = q → List.take q (intsR x) = intsR x := fun x q hq => List.take_of_length_le (by simp [hq])
      simp [hkk, t3, sl, sb, hB.ho, hlt, hb, rowP]
      refine callD_of (ks_l18Before (ps[i]'hlt).1 l (by rw [el, hlm])) (by simp [e1, hk, rALin, ht]) ?_
      rintro r rfl
      simp [hkk]
    intro s1 hk1 s18
    simp at hk1
    have hw : IntKind.i64.wrap ((i : Int) + 1) = ((i + 1 : Nat) : Int) := by rw [wrap64 (by omega)]; rfl
    cases hb2 : (bef totW ltI) (ps[i]'hlt).1 l
    · rw [hb2] at s18 hJ
      refine rC_stop1 s18 (hX _ _ _ _ ?_)
      simp
      refine hK _ (by simp [hk1, hkk]) ?_
      simp at hJ
      simp [hk1, t3, hJ]
    · rw [hb2] at s18 hJ
      refine rC_pass1 s18 (rC_blkI ?_)
      simp [hk1, t3, hw]
      exact hR (ps.length - (i + 1)) _ _ _ (by omega) ⟨rfl, rfl, by simp [hk1, hkk], i + 1, by omega, rfl, by simp, by simp at hJ; rw [← hJ]; simp; omega⟩
  · have hie : i = ps.length := by omega
    refine rC_seqI (rC_cut [0, 3, 5] (fun s => s 18 = .bool false) ?_ ?_)
    · simp [hkk, t3, sl, hB.ho, hie]
    intro s1 hk1 s18
    simp at hk1
    rw [List.drop_eq_nil_of_le (by omega)] at hJ
    simp [posL] at hJ
    refine rC_stop1 s18 (hX _ _ _ _ ?_)
    simp
    exact hK _ (by simp [hk1, hkk]) (by simp [hk1, t3, hJ])
theorem lp_tail {ps : List (DLin × Nat)} {o b k q : Nat} {l : DLin} (hB : BL o ps h n) (hN : ps.length ≤ 1000) (hq : q ≤ ps.length) (sl : s 0 = .ref o 0 ps.length) (sb : s 3 = .ptr b 0 0) (sa : s 5 = i64 q) (hb : h b = some ⟨true, 2, [rowP (l, k)]⟩) (hk : h k = some ⟨false, 1, intsR l.Coeffs⟩) (hbn : b < n ∧ k < n) (hkn : ∀ p ∈ ps, ¬ p.2 = k)
    (hK : ∀ s' h' o' n', n ≤ o' → o' < n' → (∀ j ∈ [0], s' j = s j) → s' 4 = .ref o' 0 (ps.length + 1) → BL o' (ps.take q ++ (l, k) :: ps.drop q) h' n' → (∀ id, id < n → h' id = h id) → kont Try.prog ks .ret s' h' n' Q) : rC Try.prog lp3 (.seq (.seq lp4 (.seq lp5 .ret)) :: ks) s h n Q := by
  have ho := hB.lo
  have ne : ¬ o = n ∧ ¬ n = o ∧ ¬ b = n ∧ ¬ n = b ∧ ¬ o = n + 1 ∧ ¬ b = n + 1 ∧ ¬ n + 1 = o ∧ ¬ n + 1 = b ∧ ¬ o = n + 1 + 1 ∧ ¬ b = n + 1 + 1 ∧ ¬ o = n + 1 + 1 + 1 ∧ ¬ n = n + 1 ∧ ¬ n + 1 = n + 1 + 1 ∧ ¬ n + 1 = n + 1 + 1 + 1 := by omega
  have hq0 : (q : Int) ≤ ps.length := by omega
  have ht1 : List.take ps.length (ps.map rowP) = ps.map rowP := List.take_of_length_le (by simp)
  simp [lp3, sl, sa, hB.ho, hq0, ne, srcRowsB, lowOf, hq]
  refine ⟨by unfold LIM; omega, ?_⟩
  simp [lp4, sb, hb, ne, srcRowsB, rowP, List.take_take]
  refine ⟨by omega, by unfold LIM; omega, ?_⟩
  have hq1 : ((ps.length : Int) - (q : Int)).toNat = ps.length - q := by omega
  have hq2 : q + (ps.length - q) = ps.length := by omega
  have ht5 : List.take (ps.length - q) (List.drop q (ps.map rowP)) = List.drop q (ps.map rowP) := List.take_of_length_le (by simp)
  have ht6 : List.take (q + 1) (List.take q (ps.map rowP) ++ [[AV.int .i64 l.Const, AV.ref k 0 l.Coeffs.length]]) = List.take q (ps.map rowP) ++ [[AV.int .i64 l.Const, AV.ref k 0 l.Coeffs.length]] := List.take_of_length_le (by simp; omega)
  have hq3 : q + 1 + (ps.length - q) = ps.length + 1 := by omega
  simp [lp5, sl, sa, hB.ho, hq0, ne, srcRowsB, lowOf, hq, hq1, hq2, ht5, ht6, hq3]
  have mem : ∀ p ∈ ps.take q ++ (l, k) :: ps.drop q, p ∈ ps ∨ p = (l, k) := by
    intro p hp
    rcases List.mem_append.1 hp with hp | hp
    · exact .inl (List.mem_of_mem_take hp)
    · rcases List.mem_cons.1 hp with hp | hp
      · exact .inr hp
      · exact .inl (List.mem_of_mem_drop hp)
  have ltn : ∀ p ∈ ps.take q ++ (l, k) :: ps.drop q, p.2 < n := fun p hp => by
    rcases mem p hp with hp | rfl
    · exact hB.lt p hp
    · exact hbn.2
  refine ⟨by unfold LIM; omega, hK _ _ (n + 1 + 1 + 1 + 1) _ (by omega) (by omega) (by simp) (by simp) ⟨by simp [rowP, List.map_take, List.map_drop], fun p hp => ?_, by omega, fun p hp => by have := ltn p hp; omega, fun p hp => by have := ltn p hp; omega, ?_⟩ fun id hid => ?_⟩
  · have h1 := ltn p hp
    have e : ¬ p.2 = n ∧ ¬ p.2 = n + 1 ∧ ¬ p.2 = n + 1 + 1 ∧ ¬ p.2 = n + 1 + 1 + 1 ∧ ¬ p.2 = n + 1 + 1 + 1 + 1 := by omega
    have hh : h p.2 = some ⟨false, 1, intsR p.1.Coeffs⟩ := by
      rcases mem p hp with hp | rfl
      · exact hB.hk p hp
      · exact hk
    simp [e, hh]
  · have hperm : (ps.take q ++ (l, k) :: ps.drop q).Perm ((l, k) :: ps) := by
      have := List.perm_middle (a := (l, k)) (l₁ := ps.take q) (l₂ := ps.drop q)
      rwa [List.take_append_drop] at this
    rw [(hperm.map (·.2)).nodup_iff]
    simp only [List.map_cons, List.nodup_cons]
    exact ⟨fun hm => by obtain ⟨p, hp, he⟩ := List.mem_map.1 hm; exact hkn p hp he, hB.nd⟩
  · have e : ¬ id = n ∧ ¬ id = n + 1 ∧ ¬ id = n + 1 + 1 ∧ ¬ id = n + 1 + 1 + 1 ∧ ¬ id = n + 1 + 1 + 1 + 1 := by omega
    simp [e]
end
end Go.Proofs.Ytoejpoioleffpaa

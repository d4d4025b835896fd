/- Contracts: the reference's candidates. -/
import Derived.Test.YtoejpoioleffpaaZA
import Derived.Test.YtoejpoioleffpaaZ8
namespace Go.Proofs.Ytoejpoioleffpaa
set_option linter.all false
open Go Go.RowKit Go.Proofs

def sr0 : AC := (.reg [⟨some 2, (.mv (.k (.nil 2))), no⟩])
def sr1 : AC := (.reg [⟨some 12, (.bslb 2 []), no⟩, ⟨some 3, (.mv (.t 12)), no⟩])
def sr2 : AC := (.seq  (.reg [⟨some 13, (.mv (.t 0)), no⟩, ⟨some 14, (.call (.k (.fn (.func 35) [] [])) [(.t 13), (.k (.int .i64 0)), (.k (.int .i64 2))]), no⟩, ⟨some 15, (.un .not (.t 14)), no⟩]) (.cond (.t 15) (.seq  (.reg [⟨some 16, (.mv (.t 3)), no⟩, ⟨some 2, (.mv (.t 16)), no⟩]) .ret) .skip))
def sr3 : AC := (.reg [⟨some 4, (.mv (.k (.int .i64 2))), no⟩])
def sr4 : AC := (.seq  (.reg [⟨some 5, (.mv (.k (.int .i64 0))), no⟩]) (.blk 0 (.loop (.seq (.seq  (.reg [⟨some 17, (.mv (.t 5)), no⟩, ⟨some 18, (.mv (.t 0)), no⟩, ⟨some 19, (.bin .lss (.t 17) (.t 18)), no⟩]) (.cond (.t 19) .skip (.exit 0))) (.seq (.blk 1  (.reg [⟨some 22, (.mv (.t 4)), no⟩, ⟨some 23, (.bin .mul (.t 22) (.k (.int .i64 3))), no⟩, ⟨some 4, (.mv (.t 23)), no⟩]))  (.reg [⟨some 20, (.mv (.t 5)), no⟩, ⟨some 21, (.bin .add (.t 20) (.k (.int .i64 1))), no⟩, ⟨some 5, (.mv (.t 21)), no⟩]))))))
def srx0 : AC := (.reg [⟨some 29, (.mv (.t 6)), no⟩, ⟨some 30, (.bin .rem (.t 29) (.k (.int .i64 2))), no⟩, ⟨some 31, (.bin .mul (.k (.int .i64 5)) (.t 30)), no⟩, ⟨some 32, (.mv (.t 0)), no⟩, ⟨some 33, (.mks 8 [(.int .i64 0)] (.t 32) (.t 32)), no⟩, ⟨some 34, (.build [(.int .i64 0), (.nil 1)] [(0, (1, (.t 31))), (1, (1, (.t 33)))]), no⟩, ⟨some 7, (.box [(.int .i64 0), (.nil 1)]), no⟩, ⟨no, (.st 2 (.t 7) (.t 34)), no⟩])
def srx1 : AC := (.reg [⟨some 35, (.mv (.t 6)), no⟩, ⟨some 36, (.bin .quo (.t 35) (.k (.int .i64 2))), no⟩, ⟨some 8, (.mv (.t 36)), no⟩])
def srx2 : AC := (.seq  (.reg [⟨some 9, (.mv (.k (.int .i64 0))), no⟩]) (.blk 4 (.loop (.seq (.seq  (.reg [⟨some 37, (.mv (.t 9)), no⟩, ⟨some 38, (.mv (.t 0)), no⟩, ⟨some 39, (.bin .lss (.t 37) (.t 38)), no⟩]) (.cond (.t 39) .skip (.exit 4))) (.seq (.blk 5 (.seq  (.reg [⟨some 42, (.fld 1 (.t 7)), no⟩, ⟨some 43, (.ld false 1 (.t 42)), no⟩, ⟨some 44, (.mv (.t 9)), no⟩, ⟨some 45, (.mv (.t 8)), no⟩, ⟨some 46, (.bin .rem (.t 45) (.k (.int .i64 3))), no⟩, ⟨some 47, (.bin .sub (.t 46) (.k (.int .i64 1))), no⟩, ⟨some 48, (.ixa 1 (.t 43) (.t 44)), no⟩, ⟨no, (.st 1 (.t 48) (.t 47)), no⟩])  (.reg [⟨some 49, (.mv (.t 8)), no⟩, ⟨some 50, (.bin .quo (.t 49) (.k (.int .i64 3))), no⟩, ⟨some 8, (.mv (.t 50)), no⟩])))  (.reg [⟨some 40, (.mv (.t 9)), no⟩, ⟨some 41, (.bin .add (.t 40) (.k (.int .i64 1))), no⟩, ⟨some 9, (.mv (.t 41)), no⟩]))))))
def srx3 : AC := (.reg [⟨some 10, (.mv (.k (.int .i64 0))), no⟩])
def srx4 : AC := (.blk 6 (.loop (.seq (.seq (.draw (.op ⟨some 51, (.mv (.t 10)), no⟩ (.op ⟨some 52, (.mv (.t 3)), no⟩ (.op ⟨some 53, (.len false (.t 52)), no⟩ (.op ⟨some 54, (.bin .lss (.t 51) (.t 53)), no⟩ (.op ⟨some 55, (.mv (.t 54)), no⟩ (.op ⟨some 56, (.mv (.t 3)), (some (55, true))⟩ (.op ⟨some 57, (.mv (.t 10)), (some (55, true))⟩ (.op ⟨some 58, (.ixa 2 (.t 56) (.t 57)), (some (55, true))⟩ (.op ⟨some 59, (.ld true 2 (.t 58)), (some (55, true))⟩ (.op ⟨some 60, (.ld true 2 (.t 7)), (some (55, true))⟩ (.op ⟨some 61, (.call (.k (.fn (.func 36) [] [])) [(.t 59), (.t 60)]), (some (55, true))⟩ (.op ⟨some 62, (.pick (.t 55) (.t 61) (.k (.bool false))), no⟩ .fin))))))))))))) (.cond (.t 62) .skip (.exit 6))) (.blk 7  (.reg [⟨some 63, (.mv (.t 10)), no⟩, ⟨some 64, (.bin .add (.t 63) (.k (.int .i64 1))), no⟩, ⟨some 10, (.mv (.t 64)), no⟩])))))
def srx5 : AC := (.reg [⟨some 65, (.bslb 2 []), no⟩, ⟨some 66, (.mv (.t 3)), no⟩, ⟨some 67, (.mv (.t 10)), no⟩, ⟨some 68, (.slc false 2 (.t 66) Option.none (some (.t 67))), no⟩, ⟨some 69, (.appb 32 2 (.t 65) (.t 68)), no⟩, ⟨some 11, (.mv (.t 69)), no⟩])
def srx6 : AC := (.reg [⟨some 70, (.mv (.t 11)), no⟩, ⟨some 71, (.ld true 2 (.t 7)), no⟩, ⟨some 72, (.bslb 2 [(.t 71)]), no⟩, ⟨some 73, (.appb 32 2 (.t 70) (.t 72)), no⟩, ⟨some 11, (.mv (.t 73)), no⟩])
def srx7 : AC := (.reg [⟨some 74, (.mv (.t 11)), no⟩, ⟨some 75, (.mv (.t 3)), no⟩, ⟨some 76, (.mv (.t 10)), no⟩, ⟨some 77, (.slc false 2 (.t 75) (some (.t 76)) Option.none), no⟩, ⟨some 78, (.appb 32 2 (.t 74) (.t 77)), no⟩, ⟨some 3, (.mv (.t 78)), no⟩])
def sr5 : AC := (.seq  (.reg [⟨some 6, (.mv (.k (.int .i64 0))), no⟩]) (.blk 2 (.loop (.seq (.seq  (.reg [⟨some 24, (.mv (.t 6)), no⟩, ⟨some 25, (.mv (.t 4)), no⟩, ⟨some 26, (.bin .lss (.t 24) (.t 25)), no⟩]) (.cond (.t 26) .skip (.exit 2))) (.seq (.blk 3 (.seq srx0 (.seq srx1 (.seq srx2 (.seq srx3 (.seq srx4 (.seq srx5 (.seq srx6 srx7))))))))  (.reg [⟨some 27, (.mv (.t 6)), no⟩, ⟨some 28, (.bin .add (.t 27) (.k (.int .i64 1))), no⟩, ⟨some 6, (.mv (.t 28)), no⟩]))))))
def sr6 : AC := (.reg [⟨some 79, (.mv (.t 3)), no⟩, ⟨some 2, (.mv (.t 79)), no⟩])
def a13 : AFn := ⟨80, [(.t 2)], (.seq sr0 (.seq sr1 (.seq sr2 (.seq sr3 (.seq sr4 (.seq sr5 (.seq sr6 .ret)))))))⟩
theorem a13_ok : compFnX true Try.prog Try.f13 = some a13 := by kernel_rfl

def sb0 : AC := (.reg [⟨some 4, (.mv (.k (.nil 2))), no⟩])
def sb1 : AC := (.reg [⟨some 12, (.bslb 2 []), no⟩, ⟨some 5, (.mv (.t 12)), no⟩])
def sb2 : AC := (.seq  (.reg [⟨some 13, (.mv (.t 0)), no⟩, ⟨some 14, (.call (.k (.fn (.func 35) [] [])) [(.t 13), (.k (.int .i64 0)), (.k (.int .i64 2))]), no⟩, ⟨some 15, (.un .not (.t 14)), no⟩, ⟨some 16, (.mv (.t 15)), no⟩, ⟨some 17, (.mv (.t 1)), (some (16, false))⟩, ⟨some 18, (.call (.k (.fn (.func 35) [] [])) [(.t 17), (.k (.int .i64 0)), (.k (.int .i64 1))]), (some (16, false))⟩, ⟨some 19, (.un .not (.t 18)), (some (16, false))⟩, ⟨some 20, (.pick (.t 16) (.k (.bool true)) (.t 19)), no⟩]) (.cond (.t 20) (.seq  (.reg [⟨some 21, (.mv (.t 5)), no⟩, ⟨some 4, (.mv (.t 21)), no⟩]) .ret) .skip))
def sb3 : AC := (.reg [⟨some 6, (.mv (.k (.int .i64 2))), no⟩])
def sb4 : AC := (.seq  (.reg [⟨some 7, (.mv (.k (.int .i64 0))), no⟩]) (.blk 0 (.loop (.seq (.seq  (.reg [⟨some 22, (.mv (.t 7)), no⟩, ⟨some 23, (.mv (.t 0)), no⟩, ⟨some 24, (.bin .lss (.t 22) (.t 23)), no⟩]) (.cond (.t 24) .skip (.exit 0))) (.seq (.blk 1  (.reg [⟨some 27, (.mv (.t 6)), no⟩, ⟨some 28, (.bin .mul (.t 27) (.k (.int .i64 3))), no⟩, ⟨some 6, (.mv (.t 28)), no⟩]))  (.reg [⟨some 25, (.mv (.t 7)), no⟩, ⟨some 26, (.bin .add (.t 25) (.k (.int .i64 1))), no⟩, ⟨some 7, (.mv (.t 26)), no⟩]))))))
def sbx0 : AC := (.reg [⟨some 34, (.mv (.t 1)), no⟩, ⟨some 35, (.mv (.t 8)), no⟩, ⟨some 36, (.bin .rem (.t 35) (.k (.int .i64 2))), no⟩, ⟨some 37, (.bin .add (.t 34) (.t 36)), no⟩, ⟨some 38, (.mv (.t 0)), no⟩, ⟨some 39, (.mks 8 [(.int .i64 0)] (.t 38) (.t 38)), no⟩, ⟨some 40, (.build [(.int .i64 0), (.nil 1)] [(0, (1, (.t 37))), (1, (1, (.t 39)))]), no⟩, ⟨some 9, (.box [(.int .i64 0), (.nil 1)]), no⟩, ⟨no, (.st 2 (.t 9) (.t 40)), no⟩])
def sbx1 : AC := (.reg [⟨some 41, (.mv (.t 8)), no⟩, ⟨some 42, (.bin .quo (.t 41) (.k (.int .i64 2))), no⟩, ⟨some 10, (.mv (.t 42)), no⟩])
def sbx2 : AC := (.seq  (.reg [⟨some 11, (.mv (.k (.int .i64 0))), no⟩]) (.blk 4 (.loop (.seq (.seq  (.reg [⟨some 43, (.mv (.t 11)), no⟩, ⟨some 44, (.mv (.t 0)), no⟩, ⟨some 45, (.bin .lss (.t 43) (.t 44)), no⟩]) (.cond (.t 45) .skip (.exit 4))) (.seq (.blk 5 (.seq  (.reg [⟨some 48, (.fld 1 (.t 9)), no⟩, ⟨some 49, (.ld false 1 (.t 48)), no⟩, ⟨some 50, (.mv (.t 11)), no⟩, ⟨some 51, (.mv (.t 10)), no⟩, ⟨some 52, (.bin .rem (.t 51) (.k (.int .i64 3))), no⟩, ⟨some 53, (.ixa 1 (.t 49) (.t 50)), no⟩, ⟨no, (.st 1 (.t 53) (.t 52)), no⟩])  (.reg [⟨some 54, (.mv (.t 10)), no⟩, ⟨some 55, (.bin .quo (.t 54) (.k (.int .i64 3))), no⟩, ⟨some 10, (.mv (.t 55)), no⟩])))  (.reg [⟨some 46, (.mv (.t 11)), no⟩, ⟨some 47, (.bin .add (.t 46) (.k (.int .i64 1))), no⟩, ⟨some 11, (.mv (.t 47)), no⟩]))))))
def sbx3 : AC := (.reg [⟨some 56, (.mv (.t 5)), no⟩, ⟨some 57, (.ld true 2 (.t 9)), no⟩, ⟨some 58, (.call (.k (.fn (.func 49) [] [])) [(.t 56), (.t 57)]), no⟩, ⟨some 5, (.mv (.t 58)), no⟩])
def sb5 : AC := (.seq  (.reg [⟨some 8, (.mv (.k (.int .i64 0))), no⟩]) (.blk 2 (.loop (.seq (.seq  (.reg [⟨some 29, (.mv (.t 8)), no⟩, ⟨some 30, (.mv (.t 6)), no⟩, ⟨some 31, (.bin .lss (.t 29) (.t 30)), no⟩]) (.cond (.t 31) .skip (.exit 2))) (.seq (.blk 3 (.seq sbx0 (.seq sbx1 (.seq sbx2 sbx3))))  (.reg [⟨some 32, (.mv (.t 8)), no⟩, ⟨some 33, (.bin .add (.t 32) (.k (.int .i64 1))), no⟩, ⟨some 8, (.mv (.t 33)), no⟩]))))))
def sb6 : AC := (.reg [⟨some 59, (.mv (.t 5)), no⟩, ⟨some 4, (.mv (.t 59)), no⟩])
def a18 : AFn := ⟨60, [(.t 4)], (.seq sb0 (.seq sb1 (.seq sb2 (.seq sb3 (.seq sb4 (.seq sb5 (.seq sb6 .ret)))))))⟩
theorem a18_ok : compFnX true Try.prog Try.f18 = some a18 := by kernel_rfl


theorem BL.keep {o : Nat} {ps : List (DLin × Nat)} {h h' : Heap} {n n' : Nat} (B : BL o ps h n) (hn : n ≤ n') (hh : ∀ id, id < n → h' id = h id) : BL o ps h' n' :=
  ⟨by rw [hh _ B.lo]; exact B.ho, fun p hp => by rw [hh _ (B.lt p hp)]; exact B.hk p hp, by have := B.lo; omega, fun p hp => by have := B.lt p hp; omega, B.ne, B.nd⟩
def putP (bf : DLin → DLin → Bool) (ps : List (DLin × Nat)) (x : DLin × Nat) : List (DLin × Nat) := ps.take (posL bf (ps.map (·.1)) x.1) ++ x :: ps.drop (posL bf (ps.map (·.1)) x.1)
theorem putP_fst (bf : DLin → DLin → Bool) (ps : List (DLin × Nat)) (x : DLin × Nat) : (putP bf ps x).map (·.1) = putL bf (ps.map (·.1)) x.1 := by
  simp [putP, putL, List.map_take, List.map_drop]
theorem putP_len (bf : DLin → DLin → Bool) (ps : List (DLin × Nat)) (x : DLin × Nat) : (putP bf ps x).length = ps.length + 1 := by
  have := posL_le bf x.1 (ps.map (·.1))
  simp at this
  simp [putP]
  omega
theorem putP_mem (bf : DLin → DLin → Bool) (ps : List (DLin × Nat)) (x : DLin × Nat) : ∀ p ∈ putP bf ps x, p ∈ ps ∨ p = x := by
  intro p hp
  rcases List.mem_append.1 hp with hp | hp
  · exact .inl (List.mem_of_mem_take hp)
  · rcases List.mem_cons.1 hp with hp | hp
    · exact .inr hp
    · exact .inl (List.mem_of_mem_drop hp)
/-- The digits of a number, laid into a list. -/
def fillD (off : Int) : Nat → Nat → Nat → List Int → List Int
  | 0, _, _, xs => xs
  | f + 1, i, r, xs => fillD off f (i + 1) (r / 3) (xs.set i (((r % 3 : Nat) : Int) - off))
theorem fillD_len (off : Int) : ∀ (f i r : Nat) (xs : List Int), (fillD off f i r xs).length = xs.length
  | 0, _, _, _ => rfl
  | f + 1, i, r, xs => by simp only [fillD, fillD_len off f]; simp
def genB (m : Nat) (q : Int) (k : Nat) : DLin := ⟨q + ((k % 2 : Nat) : Int), fillD 0 m 0 (k / 2) (List.replicate m 0)⟩
def genR (m : Nat) (k : Nat) : DLin := ⟨5 * ((k % 2 : Nat) : Int), fillD 1 m 0 (k / 2) (List.replicate m 0)⟩
def refL (bf : DLin → DLin → Bool) (gen : Nat → DLin) : Nat → List DLin
  | 0 => []
  | k + 1 => putL bf (refL bf gen k) (gen k)
def cntN (m : Nat) : Nat := 2 * 3 ^ m
set_option maxRecDepth 20000
set_option maxHeartbeats 2000000
section
variable {ks : List Kt} {s : Env} {h : Heap} {n : Nat} {Q : Fin}
theorem srp_run {ps : List (DLin × Nat)} {o b k : Nat} {l : DLin} {m : Nat} (hB : BL o ps h n) (hm : ∀ p ∈ ps, p.1.Coeffs.length = m) (hlm : l.Coeffs.length = m) (hN : ps.length ≤ 1000) (sl : s 3 = .ref o 0 ps.length) (sb : s 7 = .ptr b 0 0) (sa : s 10 = i64 0) (hb : h b = some ⟨true, 2, [rowP (l, k)]⟩) (hk : h k = some ⟨false, 1, intsR l.Coeffs⟩)
    (hK : ∀ s', (∀ j ∈ [0, 3, 4, 6, 7], s' j = s j) → s' 10 = i64 (posL (bef sqW gtI) (ps.map (·.1)) l) → kont Try.prog ks .normal s' h n Q) : rC Try.prog srx4 ks s h n Q := by
  simp [srx4]
  generalize hT : posL (bef sqW gtI) (ps.map (·.1)) l = T
  rw [hT] at hK
  refine rL_whileO (fun k2 st h' n' => h' = h ∧ n' = n ∧ (∀ j ∈ [0, 3, 4, 6, 7], st j = s j) ∧ ∃ i : Nat, i ≤ ps.length ∧ k2 = ps.length - i ∧ st 10 = i64 i ∧ i + posL (bef sqW gtI) ((ps.drop i).map (·.1)) l = T) ps.length ⟨rfl, rfl, fun _ _ => rfl, 0, by omega, by omega, by simp [sa], by simpa using hT⟩ ?_
  rintro k2 st h' n' R ⟨rfl, rfl, hkk, i, hi, rfl, t3, hJ⟩ hR hret hX
  simp at hkk
  by_cases hlt : i < ps.length
  · have hp := List.getElem_mem hlt
    have e1 := hB.hk _ hp
    have el := hm _ hp
    rw [List.drop_eq_getElem_cons hlt, List.map_cons] at hJ
    simp only [posL] at hJ
    refine rC_seqI (rC_cut [0, 3, 4, 6, 7, 10] (fun s => s 62 = .bool ((bef sqW gtI) (ps[i]'hlt).1 l)) ?_ ?_)
    · have ht : ∀ (x : List Int) (q : Nat), x.length = q → List.take q (intsR x) = intsR x := fun x q hq => List.take_of_length_le (by simp [hq])
      simp [hkk, t3, sl, sb, hB.ho, hlt, hb, rowP]
      refine callD_of (ks_l20Before (ps[i]'hlt).1 l (by rw [el, hlm])) (by simp [e1, hk, rALin, ht]) ?_
      rintro r rfl
      simp [hkk]
    intro s1 hk1 s18
    simp at hk1
    have hw : IntKind.i64.wrap ((i : Int) + 1) = ((i + 1 : Nat) : Int) := by rw [wrap64 (by omega)]; rfl
    cases hb2 : (bef sqW gtI) (ps[i]'hlt).1 l
    · rw [hb2] at s18 hJ
      refine rC_stop1 s18 (hX _ _ _ _ ?_)
      simp
      refine hK _ (by simp [hk1, hkk]) ?_
      simp at hJ
      simp [hk1, t3, hJ]
    · rw [hb2] at s18 hJ
      refine rC_pass1 s18 (rC_blkI ?_)
      simp [hk1, t3, hw]
      exact hR (ps.length - (i + 1)) _ _ _ (by omega) ⟨rfl, rfl, by simp [hk1, hkk], i + 1, by omega, rfl, by simp, by simp at hJ; rw [← hJ]; simp; omega⟩
  · have hie : i = ps.length := by omega
    refine rC_seqI (rC_cut [0, 3, 4, 6, 7, 10] (fun s => s 62 = .bool false) ?_ ?_)
    · simp [hkk, t3, sl, hB.ho, hie]
    intro s1 hk1 s18
    simp at hk1
    rw [List.drop_eq_nil_of_le (by omega)] at hJ
    simp [posL] at hJ
    refine rC_stop1 s18 (hX _ _ _ _ ?_)
    simp
    exact hK _ (by simp [hk1, hkk]) (by simp [hk1, t3, hJ])
theorem sr_tail {ps : List (DLin × Nat)} {o b k q : Nat} {l : DLin} (hB : BL o ps h n) (hN : ps.length ≤ 1000) (hq : q ≤ ps.length) (sl : s 3 = .ref o 0 ps.length) (sb : s 7 = .ptr b 0 0) (sa : s 10 = i64 q) (hb : h b = some ⟨true, 2, [rowP (l, k)]⟩) (hk : h k = some ⟨false, 1, intsR l.Coeffs⟩) (hbn : b < n ∧ k < n) (hkn : ∀ p ∈ ps, ¬ p.2 = k)
    (hK : ∀ s' h' o' n', n ≤ o' → o' < n' → (∀ j ∈ [0, 4, 6], s' j = s j) → s' 3 = .ref o' 0 (ps.length + 1) → BL o' (ps.take q ++ (l, k) :: ps.drop q) h' n' → (∀ id, id < n → h' id = h id) → kont Try.prog ks .normal s' h' n' Q) : rC Try.prog srx5 (.seq (.seq srx6 srx7) :: ks) s h n Q := by
  have ho := hB.lo
  have ne : ¬ o = n ∧ ¬ n = o ∧ ¬ b = n ∧ ¬ n = b ∧ ¬ o = n + 1 ∧ ¬ b = n + 1 ∧ ¬ n + 1 = o ∧ ¬ n + 1 = b ∧ ¬ o = n + 1 + 1 ∧ ¬ b = n + 1 + 1 ∧ ¬ o = n + 1 + 1 + 1 ∧ ¬ n = n + 1 ∧ ¬ n + 1 = n + 1 + 1 ∧ ¬ n + 1 = n + 1 + 1 + 1 := by omega
  have hq0 : (q : Int) ≤ ps.length := by omega
  have ht1 : List.take ps.length (ps.map rowP) = ps.map rowP := List.take_of_length_le (by simp)
  simp [srx5, sl, sa, hB.ho, hq0, ne, srcRowsB, lowOf, hq]
  refine ⟨by unfold LIM; omega, ?_⟩
  simp [srx6, sb, hb, ne, srcRowsB, rowP, List.take_take]
  refine ⟨by omega, by unfold LIM; omega, ?_⟩
  have hq1 : ((ps.length : Int) - (q : Int)).toNat = ps.length - q := by omega
  have hq2 : q + (ps.length - q) = ps.length := by omega
  have ht5 : List.take (ps.length - q) (List.drop q (ps.map rowP)) = List.drop q (ps.map rowP) := List.take_of_length_le (by simp)
  have ht6 : List.take (q + 1) (List.take q (ps.map rowP) ++ [[AV.int .i64 l.Const, AV.ref k 0 l.Coeffs.length]]) = List.take q (ps.map rowP) ++ [[AV.int .i64 l.Const, AV.ref k 0 l.Coeffs.length]] := List.take_of_length_le (by simp; omega)
  have hq3 : q + 1 + (ps.length - q) = ps.length + 1 := by omega
  simp [srx7, sl, sa, hB.ho, hq0, ne, srcRowsB, lowOf, hq, hq1, hq2, ht5, ht6, hq3]
  have mem : ∀ p ∈ ps.take q ++ (l, k) :: ps.drop q, p ∈ ps ∨ p = (l, k) := by
    intro p hp
    rcases List.mem_append.1 hp with hp | hp
    · exact .inl (List.mem_of_mem_take hp)
    · rcases List.mem_cons.1 hp with hp | hp
      · exact .inr hp
      · exact .inl (List.mem_of_mem_drop hp)
  have ltn : ∀ p ∈ ps.take q ++ (l, k) :: ps.drop q, p.2 < n := fun p hp => by
    rcases mem p hp with hp | rfl
    · exact hB.lt p hp
    · exact hbn.2
  refine ⟨by unfold LIM; omega, hK _ _ (n + 1 + 1 + 1 + 1) _ (by omega) (by omega) (by simp) (by simp) ⟨by simp [rowP, List.map_take, List.map_drop], fun p hp => ?_, by omega, fun p hp => by have := ltn p hp; omega, fun p hp => by have := ltn p hp; omega, ?_⟩ fun id hid => ?_⟩
  · have h1 := ltn p hp
    have e : ¬ p.2 = n ∧ ¬ p.2 = n + 1 ∧ ¬ p.2 = n + 1 + 1 ∧ ¬ p.2 = n + 1 + 1 + 1 ∧ ¬ p.2 = n + 1 + 1 + 1 + 1 := by omega
    have hh : h p.2 = some ⟨false, 1, intsR p.1.Coeffs⟩ := by
      rcases mem p hp with hp | rfl
      · exact hB.hk p hp
      · exact hk
    simp [e, hh]
  · have hperm : (ps.take q ++ (l, k) :: ps.drop q).Perm ((l, k) :: ps) := by
      have := List.perm_middle (a := (l, k)) (l₁ := ps.take q) (l₂ := ps.drop q)
      rwa [List.take_append_drop] at this
    rw [(hperm.map (·.2)).nodup_iff]
    simp only [List.map_cons, List.nodup_cons]
    exact ⟨fun hm => by obtain ⟨p, hp, he⟩ := List.mem_map.1 hm; exact hkn p hp he, hB.nd⟩
  · have e : ¬ id = n ∧ ¬ id = n + 1 ∧ ¬ id = n + 1 + 1 ∧ ¬ id = n + 1 + 1 + 1 ∧ ¬ id = n + 1 + 1 + 1 + 1 := by omega
    simp [e]
theorem srf_run {m b k r0 : Nat} {d : DLin} (hm : m ≤ 2) (hd : d.Coeffs.length = m) (s0 : s 0 = i64 m) (sb : s 7 = .ptr b 0 0) (sr : s 8 = i64 r0) (hr0 : r0 ≤ 1000) (hb : h b = some ⟨true, 2, [rowP (d, k)]⟩) (hk : h k = some ⟨false, 1, intsR d.Coeffs⟩) (hbk : ¬ b = k)
    (hK : ∀ s' h', (∀ j ∈ [0, 3, 4, 6, 7], s' j = s j) → h' b = h b → h' k = some ⟨false, 1, intsR (fillD 1 m 0 r0 d.Coeffs)⟩ → (∀ i, ¬ i = k → h' i = h i) → kont Try.prog ks .normal s' h' n Q) : rC Try.prog srx2 ks s h n Q := by
  have hbk' : ¬ k = b := by omega
  simp [srx2]
  generalize hT : fillD 1 m 0 r0 d.Coeffs = T
  rw [hT] at hK
  refine rL_forO [0, 3, 4, 6, 7] 9 m (fun i st h' n' => n' = n ∧ ∃ (r : Nat) (xs : List Int), r ≤ 1000 ∧ st 8 = i64 r ∧ xs.length = m ∧ h' k = some ⟨false, 1, intsR xs⟩ ∧ fillD 1 (m - i) i r xs = T ∧ ∀ i, ¬ i = k → h' i = h i) (by unfold LIM; omega) (by simp) ⟨rfl, r0, d.Coeffs, hr0, by simp [sr], hd, hk, by simpa using hT, fun _ _ => rfl⟩ ?_ ?_
  · rintro i st h' n' R hi hg hkp t9 hw ⟨rfl, r, xs, hr, t8, hxl, hk', hJ, hf⟩ hR _ _
    simp at hkp
    have e1 := hf b hbk
    rw [hb] at e1
    have hix : i < xs.length := by omega
    have q1 : ((r : Nat) : Int).tmod 3 = ((r % 3 : Nat) : Int) := by rw [Int.tmod_eq_emod_of_nonneg (by omega)]; omega
    have q2 : ((r : Nat) : Int).tdiv 3 = ((r / 3 : Nat) : Int) := by rw [Int.tdiv_eq_ediv_of_nonneg (by omega)]; omega
    have q3 : IntKind.i64.wrap ((r / 3 : Nat) : Int) = ((r / 3 : Nat) : Int) := wrap64 (by omega)
    have q4 : IntKind.i64.wrap (((r % 3 : Nat) : Int) - 1) = ((r % 3 : Nat) : Int) - 1 := wrap64 (by omega)
    obtain ⟨f, hf2⟩ : ∃ f, m - i = f + 1 := ⟨m - i - 1, by omega⟩
    rw [hf2] at hJ
    simp only [fillD] at hJ
    simp [hkp, t9, t8, s0, sb, e1, hi, rowP, hk', hix, hxl, hd, hbk, hbk', q1, q2, q3, q4, hw, -Int.natCast_emod, -Int.natCast_ediv]
    refine hR _ _ _ (by simp [hkp]) (by simp) ⟨rfl, r / 3, xs.set i (((r % 3 : Nat) : Int) - 1), by omega, by simp, by simpa using hxl, by simp [intsR, List.map_set], by rw [show m - (i + 1) = f by omega]; exact hJ, fun j hj => by simp [hj, hf j hj]⟩
  · rintro st h' n' R hkp t9 ⟨rfl, r, xs, hr, t8, hxl, hk', hJ, hf⟩ hret hX
    simp at hkp
    rw [Nat.sub_self] at hJ
    simp only [fillD] at hJ
    subst hJ
    simp [hkp, t9, s0]
    refine hX _ _ _ _ ?_
    simp
    exact hK _ _ (by simp [hkp]) (hf b hbk) hk' hf
theorem sbf_run {m b k r0 : Nat} {d : DLin} (hm : m ≤ 2) (hd : d.Coeffs.length = m) (s0 : s 0 = i64 m) (sb : s 9 = .ptr b 0 0) (sr : s 10 = i64 r0) (hr0 : r0 ≤ 1000) (hb : h b = some ⟨true, 2, [rowP (d, k)]⟩) (hk : h k = some ⟨false, 1, intsR d.Coeffs⟩) (hbk : ¬ b = k)
    (hK : ∀ s' h', (∀ j ∈ [0, 1, 5, 6, 8, 9], s' j = s j) → h' b = h b → h' k = some ⟨false, 1, intsR (fillD 0 m 0 r0 d.Coeffs)⟩ → (∀ i, ¬ i = k → h' i = h i) → kont Try.prog ks .normal s' h' n Q) : rC Try.prog sbx2 ks s h n Q := by
  have hbk' : ¬ k = b := by omega
  simp [sbx2]
  generalize hT : fillD 0 m 0 r0 d.Coeffs = T
  rw [hT] at hK
  refine rL_forO [0, 1, 5, 6, 8, 9] 11 m (fun i st h' n' => n' = n ∧ ∃ (r : Nat) (xs : List Int), r ≤ 1000 ∧ st 10 = i64 r ∧ xs.length = m ∧ h' k = some ⟨false, 1, intsR xs⟩ ∧ fillD 0 (m - i) i r xs = T ∧ ∀ i, ¬ i = k → h' i = h i) (by unfold LIM; omega) (by simp) ⟨rfl, r0, d.Coeffs, hr0, by simp [sr], hd, hk, by simpa using hT, fun _ _ => rfl⟩ ?_ ?_
  · rintro i st h' n' R hi hg hkp t9 hw ⟨rfl, r, xs, hr, t8, hxl, hk', hJ, hf⟩ hR _ _
    simp at hkp
    have e1 := hf b hbk
    rw [hb] at e1
    have hix : i < xs.length := by omega
    have q1 : ((r : Nat) : Int).tmod 3 = ((r % 3 : Nat) : Int) := by rw [Int.tmod_eq_emod_of_nonneg (by omega)]; omega
    have q2 : ((r : Nat) : Int).tdiv 3 = ((r / 3 : Nat) : Int) := by rw [Int.tdiv_eq_ediv_of_nonneg (by omega)]; omega
    have q3 : IntKind.i64.wrap ((r / 3 : Nat) : Int) = ((r / 3 : Nat) : Int) := wrap64 (by omega)
    have q4 : IntKind.i64.wrap (((r % 3 : Nat) : Int)) = ((r % 3 : Nat) : Int) := wrap64 (by omega)
    obtain ⟨f, hf2⟩ : ∃ f, m - i = f + 1 := ⟨m - i - 1, by omega⟩
    rw [hf2] at hJ
    simp only [fillD] at hJ
    simp [hkp, t9, t8, s0, sb, e1, hi, rowP, hk', hix, hxl, hd, hbk, hbk', q1, q2, q3, q4, hw, -Int.natCast_emod, -Int.natCast_ediv]
    refine hR _ _ _ (by simp [hkp]) (by simp) ⟨rfl, r / 3, xs.set i (((r % 3 : Nat) : Int) - 0), by omega, by simp, by simpa using hxl, by simp [intsR, List.map_set], by rw [show m - (i + 1) = f by omega]; exact hJ, fun j hj => by simp [hj, hf j hj]⟩
  · rintro st h' n' R hkp t9 ⟨rfl, r, xs, hr, t8, hxl, hk', hJ, hf⟩ hret hX
    simp at hkp
    rw [Nat.sub_self] at hJ
    simp only [fillD] at hJ
    subst hJ
    simp [hkp, t9, s0]
    refine hX _ _ _ _ ?_
    simp
    exact hK _ _ (by simp [hkp]) (hf b hbk) hk' hf
end
theorem c_l18Put {ps : List (DLin × Nat)} {o k n m : Nat} {l : DLin} {h : Heap} {K : AV → Heap → Nat → Prop} (hB : BL o ps h n) (hm : ∀ p ∈ ps, p.1.Coeffs.length = m) (hlm : l.Coeffs.length = m) (hN : ps.length ≤ 1000) (hk : h k = some ⟨false, 1, intsR l.Coeffs⟩) (hkn : k < n) (hkp : ∀ p ∈ ps, ¬ p.2 = k)
    (hK : ∀ o' h' n', n ≤ o' → o' < n' → BL o' (putP (bef totW ltI) ps (l, k)) h' n' → (∀ id, id < n → h' id = h id) → K (.ref o' 0 (ps.length + 1)) h' n') : ACall Try.prog 49 [.ref o 0 ps.length, .agg (rowP (l, k))] h n K := by
  refine acall_body (bx := true) Try.func49 a49_ok rfl (by simp [a49]) ?_
  have hlo := hB.lo
  have B1 : BL o ps (upd h n (some ⟨true, 2, [rowP (l, k)]⟩)) (n + 1) := hB.keep (by omega) fun id hid => by simp [show ¬ id = n by omega]
  simp [a49, lp0, lp1, rowP]
  refine lp2_run (o := o) (b := n) (k := k) (m := m) B1 hm hlm hN (by simp) (by simp) (by simp) (by simp [rowP]) (by simp [show ¬ k = n by omega, hk]) ?_
  intro s' hk' h5
  simp at hk'
  simp
  refine lp_tail (o := o) (b := n) (k := k) (l := l) (q := posL (bef totW ltI) (ps.map (·.1)) l) B1 hN (by have := posL_le (bef totW ltI) l (ps.map (·.1)); simpa using this) (by simp [hk']) (by simp [hk']) h5 (by simp [rowP]) (by simp [show ¬ k = n by omega, hk]) (by omega) hkp ?_
  intro s2 h2 o' n' ho' hon' _ h4 hB2 hf
  simp [h4]
  exact hK o' h2 n' (by omega) hon' hB2 fun id hid => by rw [hf id (by omega)]; simp [show ¬ id = n by omega]
theorem cnt_le (m : Nat) (hm : m ≤ 2) : cntN m ≤ 18 ∧ 2 ≤ cntN m := by
  rcases (show m = 0 ∨ m = 1 ∨ m = 2 by omega) with rfl | rfl | rfl <;> decide
section
variable {ks : List Kt} {s : Env} {h : Heap} {n : Nat} {Q : Fin}
theorem sr4_run {m : Nat} (hm : m ≤ 2) (s0 : s 0 = i64 m) (sc : s 4 = i64 2) (hK : ∀ s', (∀ j ∈ [0, 3], s' j = s j) → s' 4 = i64 (cntN m) → kont Try.prog ks .normal s' h n Q) : rC Try.prog sr4 ks s h n Q := by
  simp [sr4]
  refine rL_forO [0, 3] 5 m (fun i st h' n' => h' = h ∧ n' = n ∧ st 4 = i64 (cntN i)) (by unfold LIM; omega) (by simp) ⟨rfl, rfl, by simp [sc, cntN]⟩ ?_ ?_
  · rintro i st h' n' R hi hg hk t hw ⟨rfl, rfl, tc⟩ hR _ _
    simp at hk
    obtain ⟨c1, c2⟩ := cnt_le i (by omega)
    have hw2 : IntKind.i64.wrap ((cntN i : Int) * 3) = (cntN (i + 1) : Int) := by rw [wrap64 (by omega)]; unfold cntN; rw [Nat.pow_succ]; omega
    simp [hk, t, s0, tc, hi, hw, hw2]
    exact hR _ _ _ (by simp [hk]) (by simp) ⟨rfl, rfl, by simp⟩
  · rintro st h' n' R hk t ⟨rfl, rfl, tc⟩ hret hX
    simp at hk
    simp [hk, t, s0]
    refine hX _ _ _ _ ?_
    simp
    exact hK _ (by simp [hk]) (by simp [tc])
theorem sb4_run {m : Nat} (hm : m ≤ 2) (s0 : s 0 = i64 m) (sc : s 6 = i64 2) (hK : ∀ s', (∀ j ∈ [0, 1, 5], s' j = s j) → s' 6 = i64 (cntN m) → kont Try.prog ks .normal s' h n Q) : rC Try.prog sb4 ks s h n Q := by
  simp [sb4]
  refine rL_forO [0, 1, 5] 7 m (fun i st h' n' => h' = h ∧ n' = n ∧ st 6 = i64 (cntN i)) (by unfold LIM; omega) (by simp) ⟨rfl, rfl, by simp [sc, cntN]⟩ ?_ ?_
  · rintro i st h' n' R hi hg hk t hw ⟨rfl, rfl, tc⟩ hR _ _
    simp at hk
    obtain ⟨c1, c2⟩ := cnt_le i (by omega)
    have hw2 : IntKind.i64.wrap ((cntN i : Int) * 3) = (cntN (i + 1) : Int) := by rw [wrap64 (by omega)]; unfold cntN; rw [Nat.pow_succ]; omega
    simp [hk, t, s0, tc, hi, hw, hw2]
    exact hR _ _ _ (by simp [hk]) (by simp) ⟨rfl, rfl, by simp⟩
  · rintro st h' n' R hk t ⟨rfl, rfl, tc⟩ hret hX
    simp at hk
    simp [hk, t, s0]
    refine hX _ _ _ _ ?_
    simp
    exact hK _ (by simp [hk]) (by simp [tc])
/-- What the boxed list holds after some rounds. -/
structure RSt (bf : DLin → DLin → Bool) (gen : Nat → DLin) (m i : Nat) (v : AV) (h : Heap) (n : Nat) : Prop where
  ex : ∃ (o : Nat) (ps : List (DLin × Nat)), v = .ref o 0 ps.length ∧ BL o ps h n ∧ ps.map (·.1) = refL bf gen i ∧ ps.length = i ∧ ∀ p ∈ ps, p.1.Coeffs.length = m
theorem sb5_run {m : Nat} {q : Int} (hm : m ≤ 2) (hq : 0 ≤ q ∧ q ≤ 1) (s0 : s 0 = i64 m) (s1 : s 1 = i64 q) (s6 : s 6 = i64 (cntN m)) (hS : RSt (bef totW ltI) (genB m q) m 0 (s 5) h n)
    (hK : ∀ s' h' n', RSt (bef totW ltI) (genB m q) m (cntN m) (s' 5) h' n' → kont Try.prog ks .normal s' h' n' Q) : rC Try.prog sb5 ks s h n Q := by
  obtain ⟨c1, c2⟩ := cnt_le m hm
  simp [sb5]
  refine rL_forO [0, 1, 6] 8 (cntN m) (fun i st h' n' => RSt (bef totW ltI) (genB m q) m i (st 5) h' n') (by unfold LIM; omega) (by simp) (by simpa using hS) ?_ ?_
  · rintro i st h' n' R hi hg hk t8 hw ⟨o, ps, v5, B, hfst, hpl, hlen⟩ hR _ _
    simp at hk
    have hlo := B.lo
    have hmb : (m : Int) * 8 ≤ LIM := by unfold LIM; omega
    have q1 : ((i : Nat) : Int).tmod 2 = ((i % 2 : Nat) : Int) := by rw [Int.tmod_eq_emod_of_nonneg (by omega)]; omega
    have q2 : ((i : Nat) : Int).tdiv 2 = ((i / 2 : Nat) : Int) := by rw [Int.tdiv_eq_ediv_of_nonneg (by omega)]; omega
    have q3 : IntKind.i64.wrap ((i / 2 : Nat) : Int) = ((i / 2 : Nat) : Int) := wrap64 (by omega)
    have q4 : IntKind.i64.wrap (q + ((i % 2 : Nat) : Int)) = q + ((i % 2 : Nat) : Int) := wrap64 (by omega)
    refine rC_seqI (rC_cut [0, 1, 5, 6, 8] (fun s => s 31 = .bool true) ?_ ?_)
    · simp [hk, t8, s6, hi]
    intro st1 hk1 s31
    simp at hk1
    refine rC_pass1 s31 (rC_seqI (rC_blkI ?_))
    simp [sbx0, hk1, hk, t8, s0, s1, q1, q4, hmb, -Int.natCast_emod, -Int.natCast_ediv]
    simp [sbx1, hk1, hk, t8, q2, q3, -Int.natCast_emod, -Int.natCast_ediv]
    have B1 : BL o ps (upd (upd h' n' (some ⟨false, 1, List.replicate m [AV.int .i64 0]⟩)) (n' + 1) (some ⟨true, 2, [[.int .i64 (q + ((i % 2 : Nat) : Int)), .ref n' 0 m]]⟩)) (n' + 2) := B.keep (by omega) fun id hid => by simp [show ¬ id = n' by omega, show ¬ id = n' + 1 by omega]
    refine sbf_run (m := m) (b := n' + 1) (k := n') (r0 := i / 2) (d := ⟨q + ((i % 2 : Nat) : Int), List.replicate m 0⟩) hm (by simp) (by simp [hk1, hk, s0]) (by simp) (by simp) (by omega) (by simp [rowP]) (by simp [intsR]) (by omega) ?_
    intro s2 h2 hk2 e1 e2 e3
    simp at hk2
    have B2 : BL o ps h2 (n' + 2) := B.keep (by omega) fun id hid => by rw [e3 id (by omega)]; simp [show ¬ id = n' by omega, show ¬ id = n' + 1 by omega]
    simp at e1
    have hrow : [AV.int .i64 (q + (i : Int) % 2), AV.ref n' 0 m] = rowP (genB m q i, n') := by simp [rowP, genB, fillD_len]
    simp [sbx3, hk2, hk1, hk, v5, e1, -Int.natCast_emod, -Int.natCast_ediv]
    rw [hrow]
    refine c_l18Put (m := m) (k := n') (l := genB m q i) B2 hlen (by simp [genB, fillD_len]) (by omega) (by rw [e2]; rfl) (by omega) (fun p hp => by have := B.lt p hp; omega) ?_
    intro o' h3 n3 ho' hon B3 hf3
    simp [hk2, hk1, t8, hw]
    refine hR _ _ _ (by simp [hk2, hk1, hk]) (by simp) ⟨o', putP (bef totW ltI) ps (genB m q i, n'), by simp [putP_len], B3, ?_, ?_, ?_⟩
    · rw [putP_fst, hfst]; rfl
    · rw [putP_len]; omega
    · intro p hp
      rcases putP_mem _ _ _ p hp with hp | rfl
      · exact hlen p hp
      · simp [genB, fillD_len]
  · rintro st h' n' R hk t8 hS' hret hX
    simp at hk
    simp [hk, t8, s6]
    refine hX _ _ _ _ ?_
    simp
    exact hK _ _ _ (by simpa using hS')
theorem sr5_run {m : Nat} (hm : m ≤ 2) (s0 : s 0 = i64 m) (s6 : s 4 = i64 (cntN m)) (hS : RSt (bef sqW gtI) (genR m) m 0 (s 3) h n)
    (hK : ∀ s' h' n', RSt (bef sqW gtI) (genR m) m (cntN m) (s' 3) h' n' → kont Try.prog ks .normal s' h' n' Q) : rC Try.prog sr5 ks s h n Q := by
  obtain ⟨c1, c2⟩ := cnt_le m hm
  simp [sr5]
  refine rL_forO [0, 4] 6 (cntN m) (fun i st h' n' => RSt (bef sqW gtI) (genR m) m i (st 3) h' n') (by unfold LIM; omega) (by simp) (by simpa using hS) ?_ ?_
  · rintro i st h' n' R hi hg hk t8 hw ⟨o, ps, v5, B, hfst, hpl, hlen⟩ hR _ _
    simp at hk
    have hlo := B.lo
    have hmb : (m : Int) * 8 ≤ LIM := by unfold LIM; omega
    have q1 : ((i : Nat) : Int).tmod 2 = ((i % 2 : Nat) : Int) := by rw [Int.tmod_eq_emod_of_nonneg (by omega)]; omega
    have q2 : ((i : Nat) : Int).tdiv 2 = ((i / 2 : Nat) : Int) := by rw [Int.tdiv_eq_ediv_of_nonneg (by omega)]; omega
    have q3 : IntKind.i64.wrap ((i / 2 : Nat) : Int) = ((i / 2 : Nat) : Int) := wrap64 (by omega)
    have q4 : IntKind.i64.wrap (5 * ((i % 2 : Nat) : Int)) = 5 * ((i % 2 : Nat) : Int) := wrap64 (by omega)
    refine rC_seqI (rC_cut [0, 3, 4, 6] (fun s => s 26 = .bool true) ?_ ?_)
    · simp [hk, t8, s6, hi]
    intro st1 hk1 s31
    simp at hk1
    refine rC_pass1 s31 (rC_seqI (rC_blkI ?_))
    simp [srx0, hk1, hk, t8, s0, q1, q4, hmb, -Int.natCast_emod, -Int.natCast_ediv]
    simp [srx1, hk1, hk, t8, q2, q3, -Int.natCast_emod, -Int.natCast_ediv]
    refine srf_run (m := m) (b := n' + 1) (k := n') (r0 := i / 2) (d := ⟨5 * ((i % 2 : Nat) : Int), List.replicate m 0⟩) hm (by simp) (by simp [hk1, hk, s0]) (by simp) (by simp) (by omega) (by simp [rowP]) (by simp [intsR]) (by omega) ?_
    intro s2 h2 hk2 e1 e2 e3
    simp at hk2
    have B2 : BL o ps h2 (n' + 2) := B.keep (by omega) fun id hid => by rw [e3 id (by omega)]; simp [show ¬ id = n' by omega, show ¬ id = n' + 1 by omega]
    simp at e1
    have hrow : h2 (n' + 1) = some ⟨true, 2, [rowP (genR m i, n')]⟩ := by rw [e1]; simp [rowP, genR, fillD_len]
    simp [srx3]
    refine srp_run (o := o) (b := n' + 1) (k := n') (l := genR m i) (m := m) B2 hlen (by simp [genR, fillD_len]) (by omega) (by simp [hk2, hk1, v5]) (by simp [hk2]) (by simp) hrow (by rw [e2]; rfl) ?_
    intro s3 hk3 h10
    simp at hk3
    simp
    refine sr_tail (o := o) (b := n' + 1) (k := n') (l := genR m i) (q := posL (bef sqW gtI) (ps.map (·.1)) (genR m i)) B2 (by omega) (by have := posL_le (bef sqW gtI) (genR m i) (ps.map (·.1)); simpa using this) (by simp [hk3, hk2, hk1, v5]) (by simp [hk3, hk2]) h10 hrow (by rw [e2]; rfl) (by omega) (fun p hp => by have := B.lt p hp; omega) ?_
    intro s4 h4 o' n4 ho' hon hk4 h3' B3 hf3
    simp at hk4
    simp [hk4, hk3, hk2, hk1, t8, hw]
    refine hR _ _ _ (by simp [hk4, hk3, hk2, hk1, hk]) (by simp) ⟨o', putP (bef sqW gtI) ps (genR m i, n'), by simp [h3', putP_len], B3, ?_, ?_, ?_⟩
    · rw [putP_fst, hfst]; rfl
    · rw [putP_len]; omega
    · intro p hp
      rcases putP_mem _ _ _ p hp with hp | rfl
      · exact hlen p hp
      · simp [genR, fillD_len]
  · rintro st h' n' R hk t8 hS' hret hX
    simp at hk
    simp [hk, t8, s6]
    refine hX _ _ _ _ ?_
    simp
    exact hK _ _ _ (by simpa using hS')
end
end Go.Proofs.Ytoejpoioleffpaa

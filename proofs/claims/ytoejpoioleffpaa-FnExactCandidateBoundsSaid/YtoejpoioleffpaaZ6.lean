/- Contracts: sorting lists of numbers, in place. -/
import Derived.Test.YtoejpoioleffpaaZ5
namespace Go.Proofs.Ytoejpoioleffpaa
set_option linter.all false
open Go Go.RowKit Go.Proofs
def a72 : AFn :=
⟨53, [], (.seq 
 (.reg [⟨some 10, (.mv (.t 1)), no⟩, ⟨some 11, (.bin .add (.t 10) (.k (.int .i64 1))), no⟩, ⟨some 8, (.mv (.t 11)), no⟩]) (.blk 0 (.loop (.seq (.seq 
 (.reg [⟨some 12, (.mv (.t 8)), no⟩, ⟨some 13, (.mv (.t 2)), no⟩, ⟨some 14, (.bin .lss (.t 12) (.t 13)), no⟩]) (.cond (.t 14) .skip (.exit 0))) (.seq (.blk 1 (.seq 
 (.reg [⟨some 17, (.mv (.t 8)), no⟩, ⟨some 9, (.mv (.t 17)), no⟩]) (.blk 2 (.loop (.seq (.seq (.draw (.op ⟨some 18, (.mv (.t 9)), no⟩ (.op ⟨some 19, (.mv (.t 1)), no⟩ (.op ⟨some 20, (.bin .gtr (.t 18) (.t 19)), no⟩ (.op ⟨some 21, (.mv (.t 20)), no⟩ (.op ⟨some 22, (.mv (.t 3)), (some (21, true))⟩ (.op ⟨some 23, (.mv (.t 0)), (some (21, true))⟩ (.op ⟨some 24, (.mv (.t 9)), (some (21, true))⟩ (.op ⟨some 25, (.ixa 1 (.t 23) (.t 24)), (some (21, true))⟩ (.op ⟨some 26, (.ld false 1 (.t 25)), (some (21, true))⟩ (.op ⟨some 27, (.mv (.t 0)), (some (21, true))⟩ (.op ⟨some 28, (.mv (.t 9)), (some (21, true))⟩ (.op ⟨some 29, (.bin .sub (.t 28) (.k (.int .i64 1))), (some (21, true))⟩ (.op ⟨some 30, (.ixa 1 (.t 27) (.t 29)), (some (21, true))⟩ (.op ⟨some 31, (.ld false 1 (.t 30)), (some (21, true))⟩ (.op ⟨some 32, (.call (.t 22) [(.t 26), (.t 31)]), (some (21, true))⟩ (.op ⟨some 33, (.bin .lss (.t 32) (.k (.int .i64 0))), (some (21, true))⟩ (.op ⟨some 34, (.pick (.t 21) (.t 33) (.k (.bool false))), no⟩ .fin)))))))))))))))))) (.cond (.t 34) .skip (.exit 2))) (.seq (.blk 3 (.draw (.op ⟨some 37, (.mv (.t 0)), no⟩ (.op ⟨some 38, (.mv (.t 9)), no⟩ (.op ⟨some 39, (.mv (.t 0)), no⟩ (.op ⟨some 40, (.mv (.t 9)), no⟩ (.op ⟨some 41, (.bin .sub (.t 40) (.k (.int .i64 1))), no⟩ (.op ⟨some 42, (.mv (.t 0)), no⟩ (.op ⟨some 43, (.mv (.t 9)), no⟩ (.op ⟨some 44, (.bin .sub (.t 43) (.k (.int .i64 1))), no⟩ (.op ⟨some 45, (.ixa 1 (.t 42) (.t 44)), no⟩ (.op ⟨some 46, (.ld false 1 (.t 45)), no⟩ (.op ⟨some 47, (.mv (.t 0)), no⟩ (.op ⟨some 48, (.mv (.t 9)), no⟩ (.op ⟨some 49, (.ixa 1 (.t 47) (.t 48)), no⟩ (.op ⟨some 50, (.ld false 1 (.t 49)), no⟩ (.op ⟨some 51, (.ixa 1 (.t 37) (.t 38)), no⟩ (.hop ⟨no, (.st 1 (.t 51) (.t 46)), no⟩ [] (.op ⟨some 52, (.ixa 1 (.t 39) (.t 41)), no⟩ (.hop ⟨no, (.st 1 (.t 52) (.t 50)), no⟩ [] .fin)))))))))))))))))))) 
 (.reg [⟨some 35, (.mv (.t 9)), no⟩, ⟨some 36, (.bin .sub (.t 35) (.k (.int .i64 1))), no⟩, ⟨some 9, (.mv (.t 36)), no⟩]))))))) 
 (.reg [⟨some 15, (.mv (.t 8)), no⟩, ⟨some 16, (.bin .add (.t 15) (.k (.int .i64 1))), no⟩, ⟨some 8, (.mv (.t 16)), no⟩]))))))⟩
theorem a72_ok : compFn Try.prog Try.f72 = some a72 := by kernel_rfl

def a39 : AFn :=
⟨9, [], 
 (.reg [⟨some 4, (.mv (.t 0)), no⟩, ⟨some 5, (.mv (.t 0)), no⟩, ⟨some 6, (.len false (.t 5)), no⟩, ⟨some 7, (.mv (.t 1)), no⟩, ⟨some 8, (.call (.k (.fn (.func 62) [] [])) [(.t 4), (.t 6), (.t 7)]), no⟩])⟩
theorem a39_ok : compFn Try.prog Try.f39 = some a39 := by kernel_rfl

def a62 : AFn :=
⟨63, [], (.seq 
 (.reg [⟨some 6, (.mv (.k (.int .i64 20))), no⟩]) (.seq 
 (.reg [⟨some 10, (.mv (.t 6)), no⟩, ⟨some 7, (.mv (.k (.int .i64 0))), no⟩, ⟨some 8, (.mv (.t 10)), no⟩]) (.seq (.blk 0 (.loop (.seq (.seq 
 (.reg [⟨some 11, (.mv (.t 8)), no⟩, ⟨some 12, (.mv (.t 1)), no⟩, ⟨some 13, (.bin .leq (.t 11) (.t 12)), no⟩]) (.cond (.t 13) .skip (.exit 0))) (.blk 1 (.seq 
 (.reg [⟨some 14, (.mv (.t 0)), no⟩, ⟨some 15, (.mv (.t 7)), no⟩, ⟨some 16, (.mv (.t 8)), no⟩, ⟨some 17, (.mv (.t 2)), no⟩, ⟨some 18, (.call (.k (.fn (.func 72) [] [])) [(.t 14), (.t 15), (.t 16), (.t 17)]), no⟩]) (.seq 
 (.reg [⟨some 19, (.mv (.t 8)), no⟩, ⟨some 7, (.mv (.t 19)), no⟩]) 
 (.reg [⟨some 20, (.mv (.t 8)), no⟩, ⟨some 21, (.mv (.t 6)), no⟩, ⟨some 22, (.bin .add (.t 20) (.t 21)), no⟩, ⟨some 8, (.mv (.t 22)), no⟩]))))))) (.seq 
 (.reg [⟨some 23, (.mv (.t 0)), no⟩, ⟨some 24, (.mv (.t 7)), no⟩, ⟨some 25, (.mv (.t 1)), no⟩, ⟨some 26, (.mv (.t 2)), no⟩, ⟨some 27, (.call (.k (.fn (.func 72) [] [])) [(.t 23), (.t 24), (.t 25), (.t 26)]), no⟩]) (.blk 2 (.loop (.seq (.seq 
 (.reg [⟨some 28, (.mv (.t 6)), no⟩, ⟨some 29, (.mv (.t 1)), no⟩, ⟨some 30, (.bin .lss (.t 28) (.t 29)), no⟩]) (.cond (.t 30) .skip (.exit 2))) (.blk 3 (.seq 
 (.reg [⟨some 31, (.mv (.t 6)), no⟩, ⟨some 32, (.bin .mul (.k (.int .i64 2)) (.t 31)), no⟩, ⟨some 7, (.mv (.k (.int .i64 0))), no⟩, ⟨some 8, (.mv (.t 32)), no⟩]) (.seq (.blk 4 (.loop (.seq (.seq 
 (.reg [⟨some 33, (.mv (.t 8)), no⟩, ⟨some 34, (.mv (.t 1)), no⟩, ⟨some 35, (.bin .leq (.t 33) (.t 34)), no⟩]) (.cond (.t 35) .skip (.exit 4))) (.blk 5 (.seq 
 (.reg [⟨some 36, (.mv (.t 0)), no⟩, ⟨some 37, (.mv (.t 7)), no⟩, ⟨some 38, (.mv (.t 7)), no⟩, ⟨some 39, (.mv (.t 6)), no⟩, ⟨some 40, (.bin .add (.t 38) (.t 39)), no⟩, ⟨some 41, (.mv (.t 8)), no⟩, ⟨some 42, (.mv (.t 2)), no⟩, ⟨some 43, (.call (.k (.fn (.func 73) [] [])) [(.t 36), (.t 37), (.t 40), (.t 41), (.t 42)]), no⟩]) (.seq 
 (.reg [⟨some 44, (.mv (.t 8)), no⟩, ⟨some 7, (.mv (.t 44)), no⟩]) 
 (.reg [⟨some 45, (.mv (.t 8)), no⟩, ⟨some 46, (.mv (.t 6)), no⟩, ⟨some 47, (.bin .mul (.k (.int .i64 2)) (.t 46)), no⟩, ⟨some 48, (.bin .add (.t 45) (.t 47)), no⟩, ⟨some 8, (.mv (.t 48)), no⟩]))))))) (.seq (.seq 
 (.reg [⟨some 49, (.mv (.t 7)), no⟩, ⟨some 50, (.mv (.t 6)), no⟩, ⟨some 51, (.bin .add (.t 49) (.t 50)), no⟩, ⟨some 9, (.mv (.t 51)), no⟩]) (.seq 
 (.reg [⟨some 52, (.mv (.t 9)), no⟩, ⟨some 53, (.mv (.t 1)), no⟩, ⟨some 54, (.bin .lss (.t 52) (.t 53)), no⟩]) (.cond (.t 54) 
 (.reg [⟨some 55, (.mv (.t 0)), no⟩, ⟨some 56, (.mv (.t 7)), no⟩, ⟨some 57, (.mv (.t 9)), no⟩, ⟨some 58, (.mv (.t 1)), no⟩, ⟨some 59, (.mv (.t 2)), no⟩, ⟨some 60, (.call (.k (.fn (.func 73) [] [])) [(.t 55), (.t 56), (.t 57), (.t 58), (.t 59)]), no⟩]) .skip))) 
 (.reg [⟨some 61, (.mv (.t 6)), no⟩, ⟨some 62, (.bin .mul (.t 61) (.k (.int .i64 2))), no⟩, ⟨some 6, (.mv (.t 62)), no⟩]))))))))))))⟩
theorem a62_ok : compFn Try.prog Try.f62 = some a62 := by kernel_rfl


def rI (x : List Int) : List AV := [.sl 1 (intsR x)]
theorem rowAt {rows : List (List AV)} {xs : List (List Int)} (hr : drr rows = xs.map rI) {j : Nat} (hj : j < xs.length) : ∃ v, rows[j]? = some [v] ∧ dr v = .sl 1 (intsR xs[j]) := by
  rw [drr_eq] at hr
  have h1 := congrArg (fun l => l[j]?) hr
  simp only [List.getElem?_map, List.getElem?_eq_getElem hj, Option.map_some] at h1
  obtain ⟨r, h2, h3⟩ := Option.map_eq_some_iff.1 h1
  rw [drl_eq] at h3
  match r, h3 with
  | [v], h3 => exact ⟨v, h2, by simpa [rI] using h3⟩
  | [], h3 => simp [rI] at h3
  | _ :: _ :: _, h3 => simp [rI] at h3
theorem drr_set {rows : List (List AV)} {xs : List (List Int)} (hr : drr rows = xs.map rI) (j : Nat) (x : List Int) : drr (rows.set j [.sl 1 (intsR x)]) = (xs.set j x).map rI := by
  rw [drr_eq] at hr ⊢
  rw [List.map_set, hr, List.map_set]; rfl
theorem drr_lenI {rows : List (List AV)} {xs : List (List Int)} (hr : drr rows = xs.map rI) : rows.length = xs.length := by
  have := congrArg List.length hr
  simpa [drr_eq] using this
def bub (cf : List Int → List Int → Int) : Nat → List (List Int) → List (List Int)
  | 0, l => l
  | j + 1, l => if cf (l.getD (j + 1) []) (l.getD j []) < 0 then bub cf j ((l.set (j + 1) (l.getD j [])).set j (l.getD (j + 1) [])) else l
def isortF (cf : List Int → List Int → Int) : Nat → Nat → List (List Int) → List (List Int)
  | 0, _, l => l
  | k + 1, i, l => isortF cf k (i + 1) (bub cf i l)
theorem bub_len (cf : List Int → List Int → Int) : ∀ (j : Nat) (l : List (List Int)), (bub cf j l).length = l.length
  | 0, l => rfl
  | j + 1, l => by
    simp only [bub]
    split
    · rw [bub_len cf j]; simp
    · rfl
set_option maxRecDepth 20000
set_option maxHeartbeats 2000000
theorem c_insSort {cf : List Int → List Int → Int} {g : FuncId} (hg : ∀ x y h n K, K (i64 (cf x y)) h n → ACall Try.prog g [.sl 1 (intsR x), .sl 1 (intsR y)] h n K) {xs : List (List Int)} {rows : List (List AV)} {id n : Nat} {h : Heap} {K : AV → Heap → Nat → Prop} (hN : xs.length ≤ 1000) (hid : h id = some ⟨false, 1, rows⟩) (hr : drr rows = xs.map rI)
    (hK : ∀ rows', drr rows' = (isortF cf (xs.length - 1) 1 xs).map rI → K (.tup []) (upd h id (some ⟨false, 1, rows'⟩)) n) : ACall Try.prog 72 [.ref id 0 xs.length, i64 0, i64 xs.length, .fn (.func g) [] []] h n K := by
  refine acall_body Try.func72 a72_ok rfl (by simp [a72]) ?_
  simp [a72]
  generalize hL : xs.length = N at *
  generalize hT : isortF cf (N - 1) 1 xs = T at *
  have hu : ∀ rows2 : List (List AV), upd (upd h id (some ⟨false, 1, rows2⟩)) id = upd h id := fun _ => by funext x; simp
  have hself : upd h id (some ⟨false, 1, rows⟩) = h := by rw [← hid]; funext k; simp only [upd]; split <;> simp_all
  refine rL_whileO (fun k st h' n' => n' = n ∧ st 0 = .ref id 0 N ∧ st 1 = i64 0 ∧ st 2 = i64 N ∧ st 3 = .fn (.func g) [] [] ∧ ∃ (i : Nat) (ys : List (List Int)) (rows1 : List (List AV)), 1 ≤ i ∧ i ≤ N + 1 ∧ k = N + 1 - i ∧ st 8 = i64 i ∧ ys.length = N ∧ isortF cf (N - i) i ys = T ∧ drr rows1 = ys.map rI ∧ h' = upd h id (some ⟨false, 1, rows1⟩)) N ⟨rfl, by simp, by simp, by simp, by simp, 1, xs, rows, by omega, by omega, by omega, by simp [wrap64], hL, hT, hr, hself.symm⟩ ?_
  rintro k st h' n' R ⟨rfl, s0, s1, s2, s3, i, ys, rows1, hi1, hi2, rfl, s8, hyl, hJ, hr1, rfl⟩ hR hret hX
  by_cases hi : i < N
  · refine rC_seqI (rC_cut [0, 1, 2, 3, 8] (fun s => s 14 = .bool true) ?_ ?_)
    · simp [s8, s2, hi]
    intro st1 hk1 s14
    simp at hk1
    refine rC_pass1 s14 (rC_seqI (rC_blkI ?_))
    simp [hk1, s8]
    obtain ⟨m, hm⟩ : ∃ m, N - i = m + 1 := ⟨N - i - 1, by omega⟩
    rw [hm] at hJ
    simp only [isortF] at hJ
    generalize hB : bub cf i ys = B at hJ
    refine rL_whileO (fun j st2 h2 n2 => n2 = n' ∧ (∀ q ∈ [0, 1, 2, 3, 8], st2 q = st q) ∧ st2 9 = i64 j ∧ j < N ∧ ∃ (zs : List (List Int)) (rows2 : List (List AV)), zs.length = N ∧ bub cf j zs = B ∧ drr rows2 = zs.map rI ∧ h2 = upd h id (some ⟨false, 1, rows2⟩)) i ⟨rfl, by simp [hk1], by simp, hi, ys, rows1, hyl, hB, hr1, rfl⟩ ?_
    rintro j st2 h2 n2 R2 ⟨rfl, hk2, s9, hjN, zs, rows2, hzl, hJ2, hr2, rfl⟩ hR2 hret2 hX2
    simp at hk2
    -- what follows the inner loop
    have out : ∀ st4 : Env, (∀ q ∈ [0, 1, 2, 3, 8], st4 q = st q) → bub cf j zs = zs → R2 (.exit 2) st4 (upd h id (some ⟨false, 1, rows2⟩)) n2 := by
      intro st4 hk4 hb
      rw [hb] at hJ2
      subst hJ2
      refine hX2 _ _ _ _ ?_
      simp at hk4
      have hw : IntKind.i64.wrap ((i : Int) + 1) = ((i + 1 : Nat) : Int) := by rw [wrap64 (by omega)]; rfl
      simp [hk4, s8, hw]
      refine hR (N + 1 - (i + 1)) _ _ _ (by omega) ⟨rfl, by simp [hk4, s0], by simp [hk4, s1], by simp [hk4, s2], by simp [hk4, s3], i + 1, zs, rows2, by omega, by omega, rfl, by simp, hzl, ?_, hr2, rfl⟩
      rw [show N - (i + 1) = m by omega]; exact hJ
    cases j with
    | zero =>
      refine rC_seqI (rC_cut [0, 1, 2, 3, 8, 9] (fun s => s 34 = .bool false) ?_ ?_)
      · simp [s9, hk2, s1]
      intro st3 hk3 s34
      simp at hk3
      exact rC_stop1 s34 (out _ (by simp [hk3, hk2]) rfl)
    | succ j =>
      have hj1 : j + 1 < zs.length := by omega
      have hj0 : j < zs.length := by omega
      have hjN : j < N := by omega
      have hrl := drr_lenI hr2
      obtain ⟨v1, e1, f1⟩ := rowAt hr2 hj1
      obtain ⟨v0, e0, f0⟩ := rowAt hr2 hj0
      have g1 : j + 1 < rows2.length := by omega
      have g0 : j < rows2.length := by omega
      have hw : IntKind.i64.wrap (j : Int) = (j : Int) := wrap64 (by omega)
      have e1' : rows2[j + 1]'g1 = [v1] := by rw [List.getElem?_eq_getElem g1] at e1; exact Option.some.inj e1
      have e0' : rows2[j]'g0 = [v0] := by rw [List.getElem?_eq_getElem g0] at e0; exact Option.some.inj e0
      have hp2 : (0 : Int) ≤ (j : Int) + 1 := by omega
      have hp : (0 : Int) < (j : Int) + 1 := by omega
      have hlt : (j : Int) + 1 < (N : Int) := by omega
      have hn1 : ((j : Int) + 1).toNat = j + 1 := by omega
      refine rC_seqI (rC_cut [0, 1, 2, 3, 8, 9] (fun s => s 34 = .bool (decide (cf (zs[j + 1]'hj1) (zs[j]'hj0) < 0))) ?_ ?_)
      · simp [s9, hk2, s0, s1, s3, hp, hw, hlt, hn1, hjN, g1, g0, e1', e0', f1, f0, hp2]
        refine hg _ _ _ _ _ ?_
        simp [hk2]
      intro st3 hk3 s34
      simp at hk3
      have d1 : zs.getD (j + 1) [] = zs[j + 1]'hj1 := by simp [List.getD, hj1]
      have d0 : zs.getD j [] = zs[j]'hj0 := by simp [List.getD, hj0]
      simp only [bub, d1, d0] at hJ2 out
      by_cases hc : cf (zs[j + 1]'hj1) (zs[j]'hj0) < 0
      · rw [if_pos hc] at hJ2
        simp only [hc, decide_true] at s34
        refine rC_pass1 s34 (rC_seqI (rC_blkI ?_))
        simp [hk3, s9, hk2, s0, hw, hlt, hn1, hjN, g1, g0, e1', e0', f1, f0, hp2]
        exact hR2 j _ _ _ (by omega) ⟨rfl, by simp [hk3, hk2], by simp, hjN, (zs.set (j + 1) (zs[j]'hj0)).set j (zs[j + 1]'hj1), (rows2.set (j + 1) [.sl 1 (intsR (zs[j]'hj0))]).set j [.sl 1 (intsR (zs[j + 1]'hj1))], by simp [hzl], hJ2, drr_set (drr_set hr2 _ _) _ _, by simp [intsR]⟩
      · simp only [hc, decide_false] at s34
        exact rC_stop1 s34 (out _ (by simp [hk3, hk2]) (if_neg hc))
  · refine rC_seqI (rC_cut [0, 1, 2, 3, 8] (fun s => s 14 = .bool false) ?_ ?_)
    · simp [s8, s2, hi]
    intro st1 hk1 s14
    refine rC_stop1 s14 (hX _ _ _ _ ?_)
    have : N - i = 0 := by omega
    rw [this] at hJ
    simp only [isortF] at hJ
    subst hJ
    simp
    exact hK rows1 hr1
/-- The sorting of at most nineteen lists. -/
theorem c_sort {cf : List Int → List Int → Int} {g : FuncId} (hg : ∀ x y h n K, K (i64 (cf x y)) h n → ACall Try.prog g [.sl 1 (intsR x), .sl 1 (intsR y)] h n K) {xs : List (List Int)} {rows : List (List AV)} {id n : Nat} {h : Heap} {K : AV → Heap → Nat → Prop} (hN : xs.length ≤ 19) (hid : h id = some ⟨false, 1, rows⟩) (hr : drr rows = xs.map rI)
    (hK : ∀ rows', drr rows' = (isortF cf (xs.length - 1) 1 xs).map rI → K (.tup []) (upd h id (some ⟨false, 1, rows'⟩)) n) : ACall Try.prog 39 [.ref id 0 xs.length, .fn (.func g) [] []] h n K := by
  refine acall_body Try.func39 a39_ok rfl (by simp [a39]) ?_
  simp [a39, hid]
  intro _
  refine acall_body Try.func62 a62_ok rfl (by simp [a62]) ?_
  have h20 : ¬ (20 : Int) ≤ (xs.length : Int) := by omega
  have h20' : ¬ (20 : Int) < (xs.length : Int) := by omega
  simp [a62]
  refine rL_whileO (fun _ st h' n' => h' = h ∧ n' = n ∧ st 0 = .ref id 0 xs.length ∧ st 1 = i64 xs.length ∧ st 2 = .fn (.func g) [] [] ∧ st 6 = i64 20 ∧ st 7 = i64 0 ∧ st 8 = i64 20) 0 (by simp) ?_
  rintro k st h' n' R ⟨rfl, rfl, s0, s1, s2, s6, s7, s8⟩ hR hret hX
  refine rC_seqI (rC_cut [0, 1, 2, 6, 7, 8] (fun s => s 13 = .bool false) ?_ ?_)
  · simp [s8, s1]; omega
  intro st1 hk1 s13
  simp at hk1
  refine rC_stop1 s13 (hX _ _ _ _ ?_)
  simp [hk1, s0, s1, s2, s7]
  refine c_insSort hg (by omega) hid hr fun rows' hr' => ?_
  simp
  refine rL_whileO (fun _ st2 h2 n2 => h2 = upd h' id (some ⟨false, 1, rows'⟩) ∧ n2 = n' ∧ st2 1 = i64 xs.length ∧ st2 6 = i64 20) 0 ⟨rfl, rfl, by simp [hk1, s1], by simp [hk1, s6]⟩ ?_
  rintro k2 st2 h2 n2 R2 ⟨rfl, rfl, t1, t6⟩ hR2 hret2 hX2
  refine rC_seqI (rC_cut [] (fun s => s 30 = .bool false) ?_ ?_)
  · simp [t1, t6]; omega
  intro st3 hk3 s30
  refine rC_stop1 s30 (hX2 _ _ _ _ ?_)
  simp
  exact hK rows' hr'
end Go.Proofs.Ytoejpoioleffpaa

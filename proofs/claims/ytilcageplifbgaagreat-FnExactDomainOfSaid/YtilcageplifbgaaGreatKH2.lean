/- Contracts: the domain of a function, of both. -/
import Derived.Test.YtilcageplifbgaaGreatKH1
import Derived.Test.YtilcageplifbgaaGreatKQ1
import Derived.Test.YtilcageplifbgaaGreatKV8
import Derived.Test.YtilcageplifbgaaGreatKV8S
namespace Go.Proofs.YtilcageplifbgaaGreat
set_option linter.all false
open Go Go.RowKit Go.Proofs
def a59 : AFn :=
⟨46, [(.t 4)], (.seq
 (.reg [⟨some 2, (.boxv (.t 0)), no⟩, ⟨some 4, (.mv (.k (.nil 2))), no⟩]) (.seq
 (.reg [⟨some 8, (.bsl 2 []), no⟩, ⟨some 5, (.mv (.t 8)), no⟩]) (.seq (.seq
 (.reg [⟨some 6, (.mv (.k (.int .i64 0))), no⟩]) (.blk 0 (.loop (.seq (.seq
 (.reg [⟨some 9, (.mv (.t 6)), no⟩, ⟨some 10, (.fld 1 (.t 2)), no⟩, ⟨some 11, (.ld false 1 (.t 10)), no⟩, ⟨some 12, (.len false (.t 11)), no⟩, ⟨some 13, (.bin .lss (.t 9) (.t 12)), no⟩]) (.cond (.t 13) .skip (.exit 0))) (.seq (.blk 1 (.seq
 (.reg [⟨some 16, (.fld 1 (.t 2)), no⟩, ⟨some 17, (.ld false 1 (.t 16)), no⟩, ⟨some 18, (.mv (.t 6)), no⟩, ⟨some 19, (.ixa 1 (.t 17) (.t 18)), no⟩, ⟨some 20, (.ld false 1 (.t 19)), no⟩, ⟨some 21, (.call (.k (.fn (.func 143) [] [])) [(.t 20)]), no⟩]) (.cond (.t 21)
 (.reg [⟨some 22, (.mv (.t 5)), no⟩, ⟨some 23, (.mv (.t 6)), no⟩, ⟨some 24, (.mv (.t 1)), no⟩, ⟨some 25, (.call (.k (.fn (.func 144) [] [])) [(.t 23), (.t 24)]), no⟩, ⟨some 26, (.bsl 2 [(.t 25)]), no⟩, ⟨some 27, (.app 32 2 (.t 22) (.t 26)), no⟩, ⟨some 5, (.mv (.t 27)), no⟩]) .skip)))
 (.reg [⟨some 14, (.mv (.t 6)), no⟩, ⟨some 15, (.bin .add (.t 14) (.k (.int .i64 1))), no⟩, ⟨some 6, (.mv (.t 15)), no⟩])))))) (.seq (.seq
 (.reg [⟨some 7, (.mv (.k (.int .i64 0))), no⟩]) (.blk 2 (.loop (.seq (.seq
 (.reg [⟨some 28, (.mv (.t 7)), no⟩, ⟨some 29, (.fld 3 (.t 2)), no⟩, ⟨some 30, (.ld false 1 (.t 29)), no⟩, ⟨some 31, (.len false (.t 30)), no⟩, ⟨some 32, (.bin .lss (.t 28) (.t 31)), no⟩]) (.cond (.t 32) .skip (.exit 2))) (.seq (.blk 3
 (.reg [⟨some 35, (.mv (.t 5)), no⟩, ⟨some 36, (.fld 3 (.t 2)), no⟩, ⟨some 37, (.ld false 1 (.t 36)), no⟩, ⟨some 38, (.mv (.t 7)), no⟩, ⟨some 39, (.ixa 2 (.t 37) (.t 38)), no⟩, ⟨some 40, (.ld true 2 (.t 39)), no⟩, ⟨some 41, (.mv (.t 1)), no⟩, ⟨some 42, (.call (.k (.fn (.func 145) [] [])) [(.t 40), (.t 41)]), no⟩, ⟨some 43, (.bsl 2 [(.t 42)]), no⟩, ⟨some 44, (.app 32 2 (.t 35) (.t 43)), no⟩, ⟨some 5, (.mv (.t 44)), no⟩]))
 (.reg [⟨some 33, (.mv (.t 7)), no⟩, ⟨some 34, (.bin .add (.t 33) (.k (.int .i64 1))), no⟩, ⟨some 7, (.mv (.t 34)), no⟩])))))) (.seq
 (.reg [⟨some 45, (.mv (.t 5)), no⟩, ⟨some 4, (.mv (.t 45)), no⟩]) .ret)))))⟩
theorem a59_ok : compFn Tryz.prog Tryz.f59 = some a59 := by kernel_rfl
def a12 : AFn :=
⟨31, [(.c 4 true 2), (.t 5)], (.seq
 (.reg [⟨some 2, (.boxv (.t 0)), no⟩, ⟨some 4, (.box [(.int .i64 0), (.nil 2)]), no⟩, ⟨some 5, (.mv (.k (.bool false))), no⟩]) (.seq
 (.reg [⟨some 9, (.ld true 2 (.t 2)), no⟩, ⟨some 10, (.mv (.t 1)), no⟩, ⟨some 11, (.call (.k (.fn (.func 57) [] [])) [(.t 9), (.t 10)]), no⟩, ⟨some 8, (.mv (.t 11)), no⟩, ⟨some 12, (.ext (.t 8) 0), no⟩, ⟨some 13, (.ext (.t 8) 1), no⟩, ⟨some 6, (.box [(.str []), (.nil 1), (.bool false), (.nil 2)]), no⟩, ⟨no, (.st 4 (.t 6) (.t 12)), no⟩, ⟨some 7, (.mv (.t 13)), no⟩]) (.seq (.seq
 (.reg [⟨some 14, (.mv (.t 7)), no⟩, ⟨some 15, (.un .not (.t 14)), no⟩, ⟨some 16, (.mv (.t 15)), no⟩, ⟨some 17, (.ld true 2 (.t 2)), (some (16, false))⟩, ⟨some 18, (.call (.k (.fn (.func 58) [] [])) [(.t 17)]), (some (16, false))⟩, ⟨some 19, (.un .not (.t 18)), (some (16, false))⟩, ⟨some 20, (.pick (.t 16) (.k (.bool true)) (.t 19)), no⟩]) (.cond (.t 20) (.seq
 (.reg [⟨some 21, (.build [(.int .i64 0), (.nil 2)] []), no⟩, ⟨no, (.st 2 (.t 4) (.t 21)), no⟩, ⟨some 5, (.mv (.k (.bool false))), no⟩]) .ret) .skip)) (.seq (.draw (.op ⟨some 22, (.fld 1 (.t 6)), no⟩ (.op ⟨some 23, (.ld false 1 (.t 22)), no⟩ (.op ⟨some 24, (.len false (.t 23)), no⟩ (.op ⟨some 25, (.ld true 4 (.t 6)), no⟩ (.op ⟨some 26, (.fld 1 (.t 6)), no⟩ (.op ⟨some 27, (.ld false 1 (.t 26)), no⟩ (.op ⟨some 28, (.len false (.t 27)), no⟩ (.op ⟨some 29, (.call (.k (.fn (.func 59) [] [])) [(.t 25), (.t 28)]), no⟩ (.op ⟨some 30, (.build [(.int .i64 0), (.nil 2)] [(0, (1, (.t 24))), (1, (1, (.t 29)))]), no⟩ (.hop ⟨no, (.st 2 (.t 4) (.t 30)), no⟩ [] (.op ⟨some 5, (.mv (.k (.bool true))), no⟩ .fin)))))))))))) .ret))))⟩
theorem a12_ok : compFn Tryz.prog Tryz.f12 = some a12 := by kernel_rfl
def a14 : AFn :=
⟨56, [(.c 4 true 2), (.t 5)], (.seq
 (.reg [⟨some 2, (.boxv (.t 0)), no⟩, ⟨some 4, (.box [(.int .i64 0), (.nil 2)]), no⟩, ⟨some 5, (.mv (.k (.bool false))), no⟩]) (.seq
 (.reg [⟨some 12, (.ld true 2 (.t 2)), no⟩, ⟨some 13, (.mv (.t 1)), no⟩, ⟨some 14, (.call (.k (.fn (.func 62) [] [])) [(.t 12), (.t 13)]), no⟩, ⟨some 11, (.mv (.t 14)), no⟩, ⟨some 15, (.ext (.t 11) 0), no⟩, ⟨some 16, (.ext (.t 11) 1), no⟩, ⟨some 6, (.box [(.str []), (.nil 1), (.bool false), (.nil 2)]), no⟩, ⟨no, (.st 4 (.t 6) (.t 15)), no⟩, ⟨some 7, (.mv (.t 16)), no⟩]) (.seq (.seq
 (.reg [⟨some 17, (.ld true 2 (.t 2)), no⟩, ⟨some 18, (.call (.k (.fn (.func 63) [] [])) [(.t 17)]), no⟩, ⟨some 19, (.un .not (.t 18)), no⟩, ⟨some 20, (.mv (.t 19)), no⟩, ⟨some 21, (.mv (.t 7)), (some (20, false))⟩, ⟨some 22, (.un .not (.t 21)), (some (20, false))⟩, ⟨some 23, (.pick (.t 20) (.k (.bool true)) (.t 22)), no⟩]) (.cond (.t 23) (.seq
 (.reg [⟨some 24, (.build [(.int .i64 0), (.nil 2)] []), no⟩, ⟨no, (.st 2 (.t 4) (.t 24)), no⟩, ⟨some 5, (.mv (.k (.bool false))), no⟩]) .ret) .skip)) (.seq
 (.reg [⟨some 25, (.fld 1 (.t 6)), no⟩, ⟨some 26, (.ld false 1 (.t 25)), no⟩, ⟨some 27, (.len false (.t 26)), no⟩, ⟨some 28, (.build [(.int .i64 0), (.nil 2)] [(0, (1, (.t 27)))]), no⟩, ⟨some 8, (.box [(.int .i64 0), (.nil 2)]), no⟩, ⟨no, (.st 2 (.t 8) (.t 28)), no⟩]) (.seq (.seq
 (.reg [⟨some 29, (.fld 1 (.t 6)), no⟩, ⟨some 30, (.ld false 1 (.t 29)), no⟩, ⟨some 31, (.len false (.t 30)), no⟩, ⟨some 32, (.mv (.k (.int .i64 0))), no⟩]) (.blk 0 (.loop (.seq
 (.reg [⟨some 33, (.bin .lss (.t 32) (.t 31)), no⟩]) (.seq (.cond (.t 33) .skip (.exit 0)) (.seq (.blk 1 (.seq
 (.reg [⟨some 34, (.mv (.t 32)), no⟩, ⟨some 35, (.ixa 1 (.t 30) (.t 32)), no⟩, ⟨some 36, (.ld false 1 (.t 35)), no⟩, ⟨some 9, (.mv (.t 34)), no⟩, ⟨some 10, (.mv (.t 36)), no⟩]) (.seq
 (.reg [⟨some 37, (.mv (.t 10)), no⟩, ⟨some 38, (.call (.k (.fn (.func 64) [] [])) [(.t 37)]), no⟩]) (.cond (.t 38) (.draw (.op ⟨some 39, (.fld 1 (.t 8)), no⟩ (.op ⟨some 40, (.ld false 1 (.t 39)), no⟩ (.op ⟨some 41, (.mv (.t 9)), no⟩ (.op ⟨some 42, (.fld 0 (.t 8)), no⟩ (.op ⟨some 43, (.ld false 1 (.t 42)), no⟩ (.op ⟨some 44, (.call (.k (.fn (.func 65) [] [])) [(.t 41), (.t 43)]), no⟩ (.hop ⟨some 45, (.bsl 2 [(.t 44)]), no⟩ [(.ld false 1 (.t 39)), (.fld 1 (.t 8))] (.hop ⟨some 46, (.app 32 2 (.t 40) (.t 45)), no⟩ [] (.op ⟨some 47, (.fld 1 (.t 8)), no⟩ (.hop ⟨no, (.st 1 (.t 47) (.t 46)), no⟩ [] .fin))))))))))) .skip))))
 (.reg [⟨some 48, (.bin .add (.t 32) (.k (.int .i64 1))), no⟩, ⟨some 32, (.mv (.t 48)), no⟩]))))))) (.seq
 (.reg [⟨some 49, (.fld 1 (.t 8)), no⟩, ⟨some 50, (.ld false 1 (.t 49)), no⟩, ⟨some 51, (.fld 3 (.t 6)), no⟩, ⟨some 52, (.ld false 1 (.t 51)), no⟩, ⟨some 53, (.app 32 2 (.t 50) (.t 52)), no⟩, ⟨some 54, (.fld 1 (.t 8)), no⟩, ⟨no, (.st 1 (.t 54) (.t 53)), no⟩]) (.seq
 (.reg [⟨some 55, (.ld true 2 (.t 8)), no⟩, ⟨no, (.st 2 (.t 4) (.t 55)), no⟩, ⟨some 5, (.mv (.k (.bool true))), no⟩]) .ret)))))))⟩
theorem a14_ok : compFn Tryz.prog Tryz.f14 = some a14 := by kernel_rfl
theorem lrows_len {n : Nat} : ∀ {xs : List Str} {i : Nat}, (lrows n xs i).length ≤ xs.length
  | [], _ => Nat.le_refl _
  | x :: xs, i => by
    have := lrows_len (n := n) (xs := xs) (i := i + 1)
    simp only [lrows, List.length_append, List.length_cons]
    split <;> simp <;> omega
theorem fn_len {f : DFunction} (hw : wFunction f ≤ 1048576) : f.Params.length ≤ 1048576 ∧ f.Pre.length ≤ 1048576 ∧ ∀ l ∈ f.Pre, l.Coeffs.length ≤ 1048576 := by
  have h3 : wFunction f = f.Name.length + wStringS f.Params + wLinS f.Pre := rfl
  have h4 := wL_len List.length f.Params
  have h5 := wL_len wLin f.Pre
  unfold wStringS wLinS at h3
  refine ⟨by omega, by omega, fun l hl => ?_⟩
  have := wL_mem (w := wLin) hl
  rw [show wLin l = l.Coeffs.length from rfl] at this
  omega
theorem fn_w {p : DProgram} {name : Str} {f : DFunction} (hp : wProgram p ≤ 1048576) (hf : findFn p.Functions name = some f) : wFunction f ≤ 1048576 := by
  have h3 := wL_mem (w := wFunction) (List.mem_of_find?_eq_some hf)
  unfold wProgram wFunctionS at hp; omega
set_option maxRecDepth 20000
set_option maxHeartbeats 2000000
theorem ks_l14Domain (f : DFunction) (n : Nat) (hw : wFunction f ≤ 1048576) (hn : n ≤ 1048576) (hpre : ∀ l ∈ f.Pre, l.Coeffs.length ≤ n) : Holds Tryz.prog 59 [.agg (rAFunction f), i64 n] (fun r => r = .us 2 ((domL f n).map rULin)) := by
  obtain ⟨hl1, hl2, hl3⟩ := fn_len hw
  have hr0 := lrows_len (n := n) (xs := f.Params) (i := 0)
  refine holds_of_run Tryz.func59 a59_ok rfl (by simp [a59]) ?_
  simp [a59, rAFunction]
  generalize hT1 : lrows n f.Params 0 = T1
  rw [hT1] at hr0
  have hdom : domL f n = T1 ++ f.Pre.map (widen n) := by unfold domL; rw [hT1]
  refine rL_forO [1, 2] 6 f.Params.length (fun i s h m => 1 < m ∧ h 0 = some ⟨true, 4, [rAFunction f]⟩ ∧ ∃ (acc : List DLin) (id : Nat), acc ++ lrows n (f.Params.drop i) i = T1 ∧ id ≠ 0 ∧ id < m ∧ s 5 = .ref id 0 acc.length ∧ h id = some ⟨false, 2, acc.map rULin⟩) (by unfold LIM; omega) (by simp) ⟨by simp, by simp [rAFunction], [], 1, by simpa using hT1, by simp, by simp, by simp, by simp⟩ ?_ ?_
  · rintro i st h m R hi hg hk s6 hw ⟨hm, e0, acc, id, hJ, hid0, hid, s5, eid⟩ hR _ _
    simp at hk
    rw [List.drop_eq_getElem_cons hi] at hJ
    simp only [lrows] at hJ
    refine rC_seqI (rC_cut [1, 2, 5, 6] (fun s => s 13 = .bool true) (by simp [hk, s6, hi, e0, rAFunction]) ?_)
    intro st1 hk1 s13
    simp at hk1
    refine rC_pass1 s13 (rC_seqI (rC_blkI ?_))
    refine rC_cut [1, 2, 5, 6] (fun s => s 21 = .bool (listName f.Params[i])) ?_ ?_
    · simp [hk1, hk, s6, hi, e0, rAFunction]
      first | refine callD_of (ks_IsListName (f.Params[i]'hi)) (by simp) ?_ | refine call_of (ks_IsListName (f.Params[i]'hi)) (by simp) ?_ | refine callD_of (ks_IsListName (f.Params[i]'hi)) rfl ?_ | refine call_of (ks_IsListName (f.Params[i]'hi)) rfl ?_
      rintro r rfl
      simp
    intro st2 hk2 s21
    simp at hk2
    have z0 : ¬ 0 = m := by omega
    have z1 : ¬ m = 0 := by omega
    have z2 : ¬ id = m := by omega
    have z3 : ¬ m = id := by omega
    have z4 : ¬ 0 = id := by omega
    have z5 : ¬ 0 = m + 1 := by omega
    have z6 : ¬ id = m + 1 := by omega
    have z7 : ¬ m + 1 = id := by omega
    have z8 : ¬ 0 = m + 2 := by omega
    have z9 : ¬ 0 = m + 1 + 1 := by omega
    cases c1 : listName f.Params[i]
    · rw [c1] at hJ s21
      simp only [Bool.false_eq_true, if_false, List.nil_append] at hJ
      simp [hk2, hk1, hk, s21, s6, hw]
      exact hR _ _ _ (by simp [hk2, hk1, hk]) (by simp) ⟨hm, e0, acc, id, hJ, hid0, hid, by simp [hk2, hk1, s5], eid⟩
    · rw [c1] at hJ s21
      simp only [if_true] at hJ
      have hal := congrArg List.length hJ
      simp only [List.length_append, List.length_cons, List.length_nil] at hal
      simp [hk2, hk1, hk, s21, s6, hw, e0]
      first | refine callD_of (ks_VarLin i n) (by simp) ?_ | refine call_of (ks_VarLin i n) (by simp) ?_ | refine callD_of (ks_VarLin i n) rfl ?_ | refine call_of (ks_VarLin i n) rfl ?_
      rintro r rfl
      simp [hk2, hk1, hk, s21, s6, hw, e0, eid, s5, rULin, z0, z1, z2, z3, z4, z5, z6, z7, z8, z9]
      refine ⟨by unfold LIM; omega, ?_⟩
      exact hR _ _ _ (by simp [hk2, hk1, hk]) (by simp) ⟨by omega, by simp [e0, z0, z4, z5, z8, z9], acc ++ [varL i n], m + 2, by simpa using hJ, by omega, by omega, by simp, by simp [rULin, List.take_of_length_le]⟩
  rintro st h m R hk s6 ⟨hm, e0, acc, id, hJ, hid0, hid, s5, eid⟩ hret hX
  simp at hk
  rw [List.drop_eq_nil_of_le (by omega)] at hJ
  simp only [lrows, List.append_nil] at hJ
  subst hJ
  refine rC_seqI (rC_cut [1, 2, 5] (fun s => s 13 = .bool false) (by simp [hk, s6, e0, rAFunction]) ?_)
  intro st1 hk1 s13
  simp at hk1
  refine rC_stop1 s13 ?_
  refine hX _ _ _ _ ?_
  simp [hk1, s5]
  generalize hT2 : acc ++ f.Pre.map (widen n) = T2
  refine rL_forO [1, 2] 7 f.Pre.length (fun i s h m => 1 < m ∧ h 0 = some ⟨true, 4, [rAFunction f]⟩ ∧ ∃ (acc : List DLin) (id : Nat), acc ++ (f.Pre.drop i).map (widen n) = T2 ∧ id ≠ 0 ∧ id < m ∧ s 5 = .ref id 0 acc.length ∧ h id = some ⟨false, 2, acc.map rULin⟩) (by unfold LIM; omega) (by simp) ⟨hm, e0, acc, id, by simpa using hT2, hid0, hid, by simp [hk1, s5], eid⟩ ?_ ?_
  · rintro i tt h m R hi hg hl s7 hw ⟨hm, e0, acc, id, hJ, hid0, hid, s5, eid⟩ hR _ _
    simp [hk1, hk] at hl
    rw [List.drop_eq_getElem_cons hi, List.map_cons] at hJ
    refine rC_seqI (rC_cut [1, 2, 5, 7] (fun s => s 32 = .bool true) (by simp [hl, s7, hi, e0, rAFunction]) ?_)
    intro tt1 hl1 s32
    simp at hl1
    refine rC_pass1 s32 (rC_seqI (rC_blkI ?_))
    have z0 : ¬ 0 = m := by omega
    have z1 : ¬ m = 0 := by omega
    have z2 : ¬ id = m := by omega
    have z3 : ¬ m = id := by omega
    have z4 : ¬ 0 = id := by omega
    have z5 : ¬ 0 = m + 1 := by omega
    have z6 : ¬ id = m + 1 := by omega
    have z7 : ¬ m + 1 = id := by omega
    have z8 : ¬ 0 = m + 2 := by omega
    have z9 : ¬ 0 = m + 1 + 1 := by omega
    have hal := congrArg List.length hJ
    simp only [List.length_append, List.length_cons, List.length_map, List.length_drop] at hal
    have hT2l : T2.length ≤ 3000000 := by rw [← hT2]; simp; omega
    simp [hl1, hl, s7, hi, hw, e0, rAFunction]
    first | refine callD_of (ks_l14Widen (f.Pre[i]'hi) n (hpre _ (List.getElem_mem hi)) hn) (by simp) ?_ | refine call_of (ks_l14Widen (f.Pre[i]'hi) n (hpre _ (List.getElem_mem hi)) hn) (by simp) ?_ | refine callD_of (ks_l14Widen (f.Pre[i]'hi) n (hpre _ (List.getElem_mem hi)) hn) rfl ?_ | refine call_of (ks_l14Widen (f.Pre[i]'hi) n (hpre _ (List.getElem_mem hi)) hn) rfl ?_
    rintro r rfl
    simp [hl1, hl, s7, hw, e0, eid, s5, rULin, z0, z1, z2, z3, z4, z5, z6, z7, z8, z9]
    refine ⟨by unfold LIM; omega, ?_⟩
    exact hR _ _ _ (by simp [hl1, hl, hk1, hk]) (by simp) ⟨by omega, by simp [e0, z0, z4, z5, z8, z9], acc ++ [widen n f.Pre[i]], m + 2, by simpa using hJ, by omega, by omega, by simp, by simp [rULin, List.take_of_length_le]⟩
  rintro tt h m R hl s7 ⟨hm, e0, acc, id, hJ, hid0, hid, s5, eid⟩ hret hX
  simp [hk1, hk] at hl
  rw [List.drop_eq_nil_of_le (by omega)] at hJ
  simp only [List.map_nil, List.append_nil] at hJ
  subst hJ
  refine rC_seqI (rC_cut [1, 2, 5] (fun s => s 32 = .bool false) (by simp [hl, s7, e0, rAFunction]) ?_)
  intro tt1 hl1 s32
  simp at hl1
  refine rC_stop1 s32 ?_
  refine hX _ _ _ _ ?_
  simp [hl1, s5, eid, hdom, hT2]
def sys0 : DSystem := ⟨0, []⟩
def domO (p : DProgram) (name : Str) : Option DSystem := if progOk p then (findFn p.Functions name).map fun f => ⟨f.Params.length, domL f f.Params.length⟩ else Option.none
def optSys (o : Option DSystem) : AV := .tup [.agg (rUSystem (o.getD sys0)), .bool o.isSome]
theorem ks_DomainOf (p : DProgram) (hp : wProgram p ≤ 1048576) (name : Str) : Holds Tryz.prog 12 [.agg (rAProgram p), .str name] (fun r => r = optSys (domO p name)) := by
  refine holds_of_run Tryz.func12 a12_ok rfl (by simp [a12]) ?_
  simp [a12, rAProgram]
  first | refine callD_of (ks_FindFunction p name hp) (by simp [rAProgram]) ?_ | refine call_of (ks_FindFunction p name hp) (by simp [rAProgram]) ?_ | refine callD_of (ks_FindFunction p name hp) rfl ?_ | refine call_of (ks_FindFunction p name hp) rfl ?_
  rintro r rfl
  unfold optFn domO
  cases hf : findFn p.Functions name with
  | none => simp [optSys, sys0, rUSystem, rUFunction, fn0]
  | some f =>
    have hwf := fn_w hp hf
    simp [rUFunction]
    first | refine callD_of (ks_IsValidProgram p hp) (by simp [rAProgram]) ?_ | refine call_of (ks_IsValidProgram p hp) (by simp [rAProgram]) ?_ | refine callD_of (ks_IsValidProgram p hp) rfl ?_ | refine call_of (ks_IsValidProgram p hp) rfl ?_
    rintro r rfl
    cases h1 : progOk p
    · simp [optSys, sys0, rUSystem]
    obtain ⟨k1, _, k3, _⟩ := fn_in h1 hf
    simp
    first | refine callD_of (ks_l14Domain f f.Params.length hwf (by omega) (fun l hl => by have := (okLin_len (k3 l hl)).1; omega)) (by simp [rAFunction]) ?_ | refine call_of (ks_l14Domain f f.Params.length hwf (by omega) (fun l hl => by have := (okLin_len (k3 l hl)).1; omega)) (by simp [rAFunction]) ?_ | refine callD_of (ks_l14Domain f f.Params.length hwf (by omega) (fun l hl => by have := (okLin_len (k3 l hl)).1; omega)) rfl ?_ | refine call_of (ks_l14Domain f f.Params.length hwf (by omega) (fun l hl => by have := (okLin_len (k3 l hl)).1; omega)) rfl ?_
    rintro r rfl
    simp [optSys, rUSystem]
theorem k_DomainOf (p : DProgram) (hp : wProgram p ≤ 1048576) (name : Str) : Holds Tryz.prog 14 [.agg (rAProgram p), .str name] (fun r => r = optSys (domO p name)) := by
  refine holds_of_run Tryz.func14 a14_ok rfl (by simp [a14]) ?_
  simp [a14, rAProgram]
  first | refine callD_of (k_FindFunction p name hp) (by simp [rAProgram]) ?_ | refine call_of (k_FindFunction p name hp) (by simp [rAProgram]) ?_ | refine callD_of (k_FindFunction p name hp) rfl ?_ | refine call_of (k_FindFunction p name hp) rfl ?_
  rintro r rfl
  unfold optFn domO
  simp [rUFunction]
  first | refine callD_of (k_IsValidProgram p hp) (by simp [rAProgram]) ?_ | refine call_of (k_IsValidProgram p hp) (by simp [rAProgram]) ?_ | refine callD_of (k_IsValidProgram p hp) rfl ?_ | refine call_of (k_IsValidProgram p hp) rfl ?_
  rintro r rfl
  cases h1 : progOk p
  · simp [optSys, sys0, rUSystem]
  cases hf : findFn p.Functions name with
  | none => simp [optSys, sys0, rUSystem, fn0]
  | some f =>
    have hwf := fn_w hp hf
    obtain ⟨hl1, hl2, hl3⟩ := fn_len hwf
    have hself := dom_self h1 hf
    have hr0 := lrows_len (n := f.Params.length) (xs := f.Params) (i := 0)
    simp
    intro _
    generalize hT1 : lrows f.Params.length f.Params 0 = T1
    rw [hT1] at hr0 hself
    refine rL_forO [4, 6, 8, 30, 31] 32 f.Params.length (fun i s h m => 5 < m ∧ h 1 = some ⟨true, 2, [[.int .i64 0, .nil 2]]⟩ ∧ h 2 = some ⟨false, 1, strsR f.Params⟩ ∧ h 3 = some ⟨false, 2, f.Pre.map rULin⟩ ∧ h 4 = some ⟨true, 4, [[.str f.Name, .ref 2 0 f.Params.length, .bool f.ListResult, .ref 3 0 f.Pre.length]]⟩ ∧
        ∃ (acc : List DLin) (v : AV), acc ++ lrows f.Params.length (f.Params.drop i) i = T1 ∧ h 5 = some ⟨true, 2, [[.int .i64 f.Params.length, v]]⟩ ∧ AccV 5 2 (acc.map rULin) v h m) (by unfold LIM; omega) (by simp) ⟨by simp, by simp, by simp, by simp, by simp, [], .nil 2, by simpa using hT1, by simp, .inl (by simp)⟩ ?_ ?_
    · rintro i st h m R hi hg hk s32 hw ⟨hm, e1, e2, e3, e4, acc, v, hJ, e5, hA⟩ hR _ _
      simp at hk
      rw [List.drop_eq_getElem_cons hi] at hJ
      simp only [lrows] at hJ
      refine rC_cut [4, 6, 8, 30, 31, 32] (fun s => s 33 = .bool true) (by simp [hk, s32, hi]) ?_
      intro st1 hk1 s33
      simp at hk1
      refine rC_pass s33 (rC_seqI (rC_blkI ?_))
      refine rC_cut [4, 6, 8, 30, 31, 32] (fun s => s 9 = .int .i64 i ∧ s 10 = .str (f.Params[i]'hi)) (by simp [hk1, hk, s32, hi, e2]) ?_
      rintro st2 hk2 ⟨s9, s10⟩
      simp at hk2
      refine rC_cut [4, 6, 8, 9, 30, 31, 32] (fun s => s 38 = .bool (listName f.Params[i])) ?_ ?_
      · simp [s10]
        first | refine callD_of (k_IsListName (f.Params[i]'hi)) (by simp) ?_ | refine call_of (k_IsListName (f.Params[i]'hi)) (by simp) ?_ | refine callD_of (k_IsListName (f.Params[i]'hi)) rfl ?_ | refine call_of (k_IsListName (f.Params[i]'hi)) rfl ?_
        rintro r rfl
        simp [hk2, hk1, hk, s9]
      intro st3 hk3 s38
      simp at hk3
      cases c1 : listName f.Params[i]
      · rw [c1] at hJ s38
        simp only [Bool.false_eq_true, if_false, List.nil_append] at hJ
        simp [hk3, hk2, hk1, hk, s38, s32, hw]
        exact hR _ _ _ (by simp [hk3, hk2, hk1, hk]) (by simp) ⟨hm, e1, e2, e3, e4, acc, v, hJ, e5, hA⟩
      rw [c1] at hJ s38
      simp only [if_true] at hJ
      have hal := congrArg List.length hJ
      simp only [List.length_append, List.length_cons, List.length_nil] at hal
      have z1 : ¬ 1 = m := by omega
      have z2 : ¬ 2 = m := by omega
      have z3 : ¬ 3 = m := by omega
      have z4 : ¬ 4 = m := by omega
      have z5 : ¬ 5 = m := by omega
      have z6 : ¬ m = 5 := by omega
      have w1 : ¬ 1 = m + 1 := by omega
      have w2 : ¬ 2 = m + 1 := by omega
      have w3 : ¬ 3 = m + 1 := by omega
      have w4 : ¬ 4 = m + 1 := by omega
      have w5 : ¬ 5 = m + 1 := by omega
      have w6 : ¬ m = 4 := by omega
      have u1 : ¬ 1 = m + 1 + 1 := by omega
      have u2 : ¬ 2 = m + 1 + 1 := by omega
      have u3 : ¬ 3 = m + 1 + 1 := by omega
      have u4 : ¬ 4 = m + 1 + 1 := by omega
      have u5 : ¬ 5 = m + 1 + 1 := by omega
      have u6 : ¬ m = 3 := by omega
      have u7 : ¬ m = 0 := by omega
      have u8 : ¬ m = 1 := by omega
      have u9 : ¬ m = 2 := by omega
      rcases hA with ⟨hz, rfl⟩ | ⟨id, hb, hidm, rfl, eid⟩
      · have hz' : acc = [] := by simpa using hz
        subst hz'
        simp [hk3, hk2, hk1, hk, s38, s9, s32, hw, e5]
        first | refine callD_of (k_VarLin i f.Params.length) (by simp) ?_ | refine call_of (k_VarLin i f.Params.length) (by simp) ?_ | refine callD_of (k_VarLin i f.Params.length) rfl ?_ | refine call_of (k_VarLin i f.Params.length) rfl ?_
        rintro r rfl
        simp [hk3, hk2, hk1, hk, s38, s9, s32, hw, e5, rULin, z1, z2, z3, z4, z5, z6, w1, w2, w3, w4, w5, w6, u1, u2, u3, u4, u5, u6, u7, u8, u9]
        refine ⟨by unfold LIM; omega, ?_⟩
        exact hR _ _ _ (by simp [hk3, hk2, hk1, hk]) (by simp) ⟨by omega, by simp [e1, z1, w1, u1, u7], by simp [e2, z2, w2, u2, u8, u7], by simp [e3, z3, w3, u3, u9, u7, u8], by simp [e4, z4, w4, u4, u6, u9], [varL i f.Params.length], .ref (m + 2) 0 1, by simpa using hJ, by simp, .inr ⟨m + 2, by omega, by omega, by simp, by simp [rULin, u6]⟩⟩
      · have i1 : ¬ id = m := by omega
        have i2 : ¬ id = m + 1 := by omega
        have i3 : ¬ id = 5 := by omega
        have i4 : ¬ m = id := by omega
        have i5 : ¬ m + 1 = id := by omega
        have i6 : ¬ 1 = id := by omega
        have i7 : ¬ 2 = id := by omega
        have i8 : ¬ 3 = id := by omega
        have i9 : ¬ 4 = id := by omega
        have i0 : ¬ 5 = id := by omega
        simp [hk3, hk2, hk1, hk, s38, s9, s32, hw, e5]
        first | refine callD_of (k_VarLin i f.Params.length) (by simp) ?_ | refine call_of (k_VarLin i f.Params.length) (by simp) ?_ | refine callD_of (k_VarLin i f.Params.length) rfl ?_ | refine call_of (k_VarLin i f.Params.length) rfl ?_
        rintro r rfl
        simp [hk3, hk2, hk1, hk, s38, s9, s32, hw, e5, eid, rULin, z1, z2, z3, z4, z5, z6, w1, w2, w3, w4, w5, w6, u1, u2, u3, u4, u5, u6, u7, u8, u9, i1, i2, i3, i4, i5, i6, i7, i8, i9, i0]
        refine ⟨by unfold LIM; omega, ?_⟩
        exact hR _ _ _ (by simp [hk3, hk2, hk1, hk]) (by simp) ⟨by omega, by simp [e1, z1, w1, u1, u7, i6], by simp [e2, z2, w2, u2, u8, i7, u7], by simp [e3, z3, w3, u3, u9, i8, u7, u8], by simp [e4, z4, w4, u4, u6, i9, u9], acc ++ [varL i f.Params.length], .ref (m + 2) 0 (acc.length + 1), by simpa using hJ, by simp, .inr ⟨m + 2, by omega, by omega, by simp, by simp [rULin, u6, List.take_of_length_le]⟩⟩
    rintro st h m R hk s32 ⟨hm, e1, e2, e3, e4, acc, v, hJ, e5, hA⟩ hret hX
    simp at hk
    rw [List.drop_eq_nil_of_le (by omega)] at hJ
    simp only [lrows, List.append_nil] at hJ
    subst hJ
    refine rC_cut [4, 6, 8] (fun s => s 33 = .bool false) (by simp [hk, s32]) ?_
    intro st1 hk1 s33
    simp at hk1
    refine rC_stop s33 ?_
    refine hX _ _ _ _ ?_
    have z1 : ¬ 1 = m := by omega
    have z2 : ¬ 2 = m := by omega
    have z3 : ¬ 3 = m := by omega
    have z5 : ¬ 5 = m := by omega
    have z6 : ¬ m = 5 := by omega
    have z7 : ¬ m = 1 := by omega
    rcases hA with ⟨hz, rfl⟩ | ⟨id, hb, hidm, rfl, eid⟩
    · have hz' : acc = [] := by simpa using hz
      subst hz'
      simp [hk1, hk, e5, e4, e3, z1, z2, z3, z5, z6, z7, e1]
      refine ⟨by unfold LIM; omega, ?_⟩
      simp [optSys, rUSystem, hself]
    · have i1 : ¬ id = m := by omega
      have i3 : ¬ id = 5 := by omega
      have i4 : ¬ m = id := by omega
      have i6 : ¬ 1 = id := by omega
      have i8 : ¬ 3 = id := by omega
      have i9 : ¬ id = 3 := by omega
      have i0 : ¬ 5 = id := by omega
      simp [hk1, hk, e5, e4, e3, eid, z1, z2, z3, z5, z6, z7, e1, i1, i3, i4, i6, i8, i9, i0]
      refine ⟨by unfold LIM; omega, ?_⟩
      simp [optSys, rUSystem, hself]
      rw [← List.map_append, List.take_of_length_le (by simp)]
      exact ⟨cleanm_ULin _, rfl⟩
end Go.Proofs.YtilcageplifbgaaGreat

/- Contracts: evaluation, sizes, conditions. -/
import Derived.Test.YtlmajgghnenbpaaGreatP1
import Derived.Test.YtlmajgghnenbpaaGreatC4
import Derived.Test.YtlmajgghnenbpaaGreatC11
namespace Go.Proofs.YtlmajgghnenbpaaGreat
set_option linter.all false
open Go Go.RowKit Go.Proofs
def a104 : AFn :=
⟨38, [(.t 4), (.t 5)], (.seq 
 (.reg [⟨some 2, (.boxv (.t 0)), no⟩, ⟨some 4, (.mv (.k (.int .i64 0))), no⟩, ⟨some 5, (.mv (.k (.bool false))), no⟩]) (.seq (.seq 
 (.reg [⟨some 9, (.ld true 2 (.t 2)), no⟩, ⟨some 10, (.mv (.t 1)), no⟩, ⟨some 11, (.len false (.t 10)), no⟩, ⟨some 12, (.call (.k (.fn (.func 174) [] [])) [(.t 9), (.t 11)]), no⟩, ⟨some 13, (.un .not (.t 12)), no⟩, ⟨some 14, (.mv (.t 13)), no⟩, ⟨some 15, (.mv (.t 1)), (some (14, false))⟩, ⟨some 16, (.call (.k (.fn (.func 194) [] [])) [(.t 15), (.k (.fn (.func 195) [] []))]), (some (14, false))⟩, ⟨some 17, (.pick (.t 14) (.k (.bool true)) (.t 16)), no⟩]) (.cond (.t 17) (.seq 
 (.reg [⟨some 4, (.mv (.k (.int .i64 0))), no⟩, ⟨some 5, (.mv (.k (.bool false))), no⟩]) .ret) .skip)) (.seq 
 (.reg [⟨some 18, (.fld 0 (.t 2)), no⟩, ⟨some 19, (.ld false 1 (.t 18)), no⟩, ⟨some 6, (.mv (.t 19)), no⟩]) (.seq (.seq 
 (.reg [⟨some 20, (.mv (.t 1)), no⟩, ⟨some 21, (.len false (.t 20)), no⟩, ⟨some 22, (.mv (.k (.int .i64 0))), no⟩]) (.blk 0 (.loop (.seq 
 (.reg [⟨some 23, (.bin .lss (.t 22) (.t 21)), no⟩]) (.seq (.cond (.t 23) .skip (.exit 0)) (.seq (.blk 1 (.seq 
 (.reg [⟨some 24, (.mv (.t 22)), no⟩, ⟨some 25, (.ixa 1 (.t 20) (.t 22)), no⟩, ⟨some 26, (.ld false 1 (.t 25)), no⟩, ⟨some 7, (.mv (.t 24)), no⟩, ⟨some 8, (.mv (.t 26)), no⟩]) 
 (.reg [⟨some 27, (.mv (.t 6)), no⟩, ⟨some 28, (.fld 1 (.t 2)), no⟩, ⟨some 29, (.ld false 1 (.t 28)), no⟩, ⟨some 30, (.mv (.t 7)), no⟩, ⟨some 31, (.ixa 1 (.t 29) (.t 30)), no⟩, ⟨some 32, (.ld false 1 (.t 31)), no⟩, ⟨some 33, (.mv (.t 8)), no⟩, ⟨some 34, (.bin .mul (.t 32) (.t 33)), no⟩, ⟨some 35, (.bin .add (.t 27) (.t 34)), no⟩, ⟨some 6, (.mv (.t 35)), no⟩]))) 
 (.reg [⟨some 36, (.bin .add (.t 22) (.k (.int .i64 1))), no⟩, ⟨some 22, (.mv (.t 36)), no⟩]))))))) (.seq 
 (.reg [⟨some 37, (.mv (.t 6)), no⟩, ⟨some 4, (.mv (.t 37)), no⟩, ⟨some 5, (.mv (.k (.bool true))), no⟩]) .ret)))))⟩
theorem a104_ok : compFn Tryz.prog Tryz.f104 = some a104 := by kernel_rfl

def a190 : AFn :=
⟨40, [(.t 4), (.t 5)], (.seq 
 (.reg [⟨some 2, (.boxv (.t 0)), no⟩, ⟨some 4, (.mv (.k (.int .i64 0))), no⟩, ⟨some 5, (.mv (.k (.bool false))), no⟩]) (.seq (.seq 
 (.reg [⟨some 8, (.ld true 2 (.t 2)), no⟩, ⟨some 9, (.mv (.t 1)), no⟩, ⟨some 10, (.len false (.t 9)), no⟩, ⟨some 11, (.call (.k (.fn (.func 218) [] [])) [(.t 8), (.t 10)]), no⟩, ⟨some 12, (.un .not (.t 11)), no⟩]) (.cond (.t 12) (.seq 
 (.reg [⟨some 4, (.mv (.k (.int .i64 0))), no⟩, ⟨some 5, (.mv (.k (.bool false))), no⟩]) .ret) .skip)) (.seq 
 (.reg [⟨some 13, (.fld 0 (.t 2)), no⟩, ⟨some 14, (.ld false 1 (.t 13)), no⟩, ⟨some 6, (.mv (.t 14)), no⟩]) (.seq (.seq 
 (.reg [⟨some 7, (.mv (.k (.int .i64 0))), no⟩]) (.blk 0 (.loop (.seq (.seq 
 (.reg [⟨some 15, (.mv (.t 7)), no⟩, ⟨some 16, (.mv (.t 1)), no⟩, ⟨some 17, (.len false (.t 16)), no⟩, ⟨some 18, (.bin .lss (.t 15) (.t 17)), no⟩]) (.cond (.t 18) .skip (.exit 0))) (.seq (.blk 1 (.seq (.seq 
 (.reg [⟨some 21, (.mv (.t 1)), no⟩, ⟨some 22, (.mv (.t 7)), no⟩, ⟨some 23, (.ixa 1 (.t 21) (.t 22)), no⟩, ⟨some 24, (.ld false 1 (.t 23)), no⟩, ⟨some 25, (.call (.k (.fn (.func 188) [] [])) [(.t 24)]), no⟩, ⟨some 26, (.un .not (.t 25)), no⟩]) (.cond (.t 26) (.seq 
 (.reg [⟨some 4, (.mv (.k (.int .i64 0))), no⟩, ⟨some 5, (.mv (.k (.bool false))), no⟩]) .ret) .skip)) (.draw (.op ⟨some 27, (.mv (.t 6)), no⟩ (.op ⟨some 28, (.fld 1 (.t 2)), no⟩ (.op ⟨some 29, (.ld false 1 (.t 28)), no⟩ (.op ⟨some 30, (.mv (.t 7)), no⟩ (.op ⟨some 31, (.ixa 1 (.t 29) (.t 30)), no⟩ (.op ⟨some 32, (.ld false 1 (.t 31)), no⟩ (.op ⟨some 33, (.mv (.t 1)), no⟩ (.op ⟨some 34, (.mv (.t 7)), no⟩ (.op ⟨some 35, (.ixa 1 (.t 33) (.t 34)), no⟩ (.op ⟨some 36, (.ld false 1 (.t 35)), no⟩ (.op ⟨some 37, (.bin .mul (.t 32) (.t 36)), no⟩ (.op ⟨some 38, (.bin .add (.t 27) (.t 37)), no⟩ (.hop ⟨some 6, (.mv (.t 38)), no⟩ [] .fin)))))))))))))))) 
 (.reg [⟨some 19, (.mv (.t 7)), no⟩, ⟨some 20, (.bin .add (.t 19) (.k (.int .i64 1))), no⟩, ⟨some 7, (.mv (.t 20)), no⟩])))))) (.seq 
 (.reg [⟨some 39, (.mv (.t 6)), no⟩, ⟨some 4, (.mv (.t 39)), no⟩, ⟨some 5, (.mv (.k (.bool true))), no⟩]) .ret)))))⟩
theorem a190_ok : compFn Tryz.prog Tryz.f190 = some a190 := by kernel_rfl

def a98 : AFn :=
⟨50, [(.t 4)], (.seq 
 (.reg [⟨some 2, (.boxv (.t 0)), no⟩, ⟨some 4, (.mv (.k (.bool false))), no⟩]) (.seq (.seq 
 (.reg [⟨some 5, (.mv (.k (.int .i64 0))), no⟩]) (.blk 0 (.loop (.seq (.seq 
 (.reg [⟨some 9, (.mv (.t 5)), no⟩, ⟨some 10, (.mv (.t 1)), no⟩, ⟨some 11, (.len false (.t 10)), no⟩, ⟨some 12, (.bin .lss (.t 9) (.t 11)), no⟩]) (.cond (.t 12) .skip (.exit 0))) (.seq (.blk 1 (.seq 
 (.reg [⟨some 15, (.mv (.t 1)), no⟩, ⟨some 16, (.mv (.t 5)), no⟩, ⟨some 17, (.ixa 1 (.t 15) (.t 16)), no⟩, ⟨some 18, (.ld false 1 (.t 17)), no⟩, ⟨some 19, (.call (.k (.fn (.func 188) [] [])) [(.t 18)]), no⟩, ⟨some 20, (.un .not (.t 19)), no⟩]) (.cond (.t 20) (.seq 
 (.reg [⟨some 4, (.mv (.k (.bool false))), no⟩]) .ret) .skip))) 
 (.reg [⟨some 13, (.mv (.t 5)), no⟩, ⟨some 14, (.bin .add (.t 13) (.k (.int .i64 1))), no⟩, ⟨some 5, (.mv (.t 14)), no⟩])))))) (.seq (.seq 
 (.reg [⟨some 21, (.ld true 2 (.t 2)), no⟩, ⟨some 22, (.call (.k (.fn (.func 189) [] [])) [(.t 21)]), no⟩, ⟨some 23, (.un .not (.t 22)), no⟩, ⟨some 24, (.mv (.t 23)), no⟩, ⟨some 25, (.mv (.t 1)), (some (24, false))⟩, ⟨some 26, (.len false (.t 25)), (some (24, false))⟩, ⟨some 27, (.fld 0 (.t 2)), (some (24, false))⟩, ⟨some 28, (.ld false 1 (.t 27)), (some (24, false))⟩, ⟨some 29, (.bin .neq (.t 26) (.t 28)), (some (24, false))⟩, ⟨some 30, (.pick (.t 24) (.k (.bool true)) (.t 29)), no⟩]) (.cond (.t 30) (.seq 
 (.reg [⟨some 4, (.mv (.k (.bool false))), no⟩]) .ret) .skip)) (.seq (.seq 
 (.reg [⟨some 6, (.mv (.k (.int .i64 0))), no⟩]) (.blk 2 (.loop (.seq (.seq 
 (.reg [⟨some 31, (.mv (.t 6)), no⟩, ⟨some 32, (.fld 1 (.t 2)), no⟩, ⟨some 33, (.ld false 1 (.t 32)), no⟩, ⟨some 34, (.len false (.t 33)), no⟩, ⟨some 35, (.bin .lss (.t 31) (.t 34)), no⟩]) (.cond (.t 35) .skip (.exit 2))) (.seq (.blk 3 (.seq 
 (.reg [⟨some 39, (.fld 1 (.t 2)), no⟩, ⟨some 40, (.ld false 1 (.t 39)), no⟩, ⟨some 41, (.mv (.t 6)), no⟩, ⟨some 42, (.ixa 2 (.t 40) (.t 41)), no⟩, ⟨some 43, (.ld true 2 (.t 42)), no⟩, ⟨some 44, (.mv (.t 1)), no⟩, ⟨some 45, (.call (.k (.fn (.func 190) [] [])) [(.t 43), (.t 44)]), no⟩, ⟨some 38, (.mv (.t 45)), no⟩, ⟨some 46, (.ext (.t 38) 0), no⟩, ⟨some 47, (.ext (.t 38) 1), no⟩, ⟨some 7, (.mv (.t 46)), no⟩, ⟨some 8, (.mv (.t 47)), no⟩]) (.seq 
 (.reg [⟨some 48, (.mv (.t 7)), no⟩, ⟨some 49, (.bin .lss (.t 48) (.k (.int .i64 0))), no⟩]) (.cond (.t 49) (.seq 
 (.reg [⟨some 4, (.mv (.k (.bool false))), no⟩]) .ret) .skip)))) 
 (.reg [⟨some 36, (.mv (.t 6)), no⟩, ⟨some 37, (.bin .add (.t 36) (.k (.int .i64 1))), no⟩, ⟨some 6, (.mv (.t 37)), no⟩])))))) (.seq 
 (.reg [⟨some 4, (.mv (.k (.bool true))), no⟩]) .ret)))))⟩
theorem a98_ok : compFn Tryz.prog Tryz.f98 = some a98 := by kernel_rfl

def a99 : AFn :=
⟨21, [(.t 2)], (.seq 
 (.reg [⟨some 2, (.mv (.k (.nil 1))), no⟩]) (.seq 
 (.reg [⟨some 5, (.bsl 1 []), no⟩, ⟨some 3, (.mv (.t 5)), no⟩]) (.seq (.seq 
 (.reg [⟨some 4, (.mv (.k (.int .i64 0))), no⟩]) (.blk 0 (.loop (.seq (.seq 
 (.reg [⟨some 6, (.mv (.t 4)), no⟩, ⟨some 7, (.mv (.t 0)), no⟩, ⟨some 8, (.len false (.t 7)), no⟩, ⟨some 9, (.bin .lss (.t 6) (.t 8)), no⟩]) (.cond (.t 9) .skip (.exit 0))) (.seq (.blk 1 
 (.reg [⟨some 12, (.mv (.t 3)), no⟩, ⟨some 13, (.mv (.t 0)), no⟩, ⟨some 14, (.mv (.t 4)), no⟩, ⟨some 15, (.ixa 3 (.t 13) (.t 14)), no⟩, ⟨some 16, (.ld true 3 (.t 15)), no⟩, ⟨some 17, (.call (.k (.fn (.func 191) [] [])) [(.t 16)]), no⟩, ⟨some 18, (.bsl 1 [(.t 17)]), no⟩, ⟨some 19, (.app 8 1 (.t 12) (.t 18)), no⟩, ⟨some 3, (.mv (.t 19)), no⟩])) 
 (.reg [⟨some 10, (.mv (.t 4)), no⟩, ⟨some 11, (.bin .add (.t 10) (.k (.int .i64 1))), no⟩, ⟨some 4, (.mv (.t 11)), no⟩])))))) (.seq 
 (.reg [⟨some 20, (.mv (.t 3)), no⟩, ⟨some 2, (.mv (.t 20)), no⟩]) .ret))))⟩
theorem a99_ok : compFn Tryz.prog Tryz.f99 = some a99 := by kernel_rfl



def evalW (acc : Int) : List Int → List Int → Int
  | c :: cs, x :: xs => evalW (IntKind.i64.wrap (acc + IntKind.i64.wrap (c * x))) cs xs
  | _, _ => acc
def argF : List Str → List DValue → Bool
  | q :: qs, v :: vs => (okVal v && (v.Lst == listName q)) && argF qs vs
  | _, _ => true
def argsV (p : DProgram) (name : Str) (vs : List DValue) : Bool :=
  (findFn p.Functions name).isSome && decide ((vs.length : Int) = ((findFn p.Functions name).getD fn0).Params.length) && argF ((findFn p.Functions name).getD fn0).Params vs
def posB (xs : List Int) (l : DLin) : Bool := decide (0 ≤ evalW l.Const l.Coeffs xs)
def meets (p : DProgram) (name : Str) (vs : List DValue) : Bool := progOk p && argsV p name vs && ((findFn p.Functions name).getD fn0).Pre.all (posB (vs.map sizeV))

theorem argF_drop {qs : List Str} {vs : List DValue} {i : Nat} (h1 : i < qs.length) (h2 : i < vs.length) : argF (qs.drop i) (vs.drop i) = ((okVal vs[i] && (vs[i].Lst == listName qs[i])) && argF (qs.drop (i + 1)) (vs.drop (i + 1))) := by
  rw [List.drop_eq_getElem_cons h1, List.drop_eq_getElem_cons h2]; rfl
theorem argF_fits : ∀ {qs : List Str} {vs : List DValue}, vs.length = qs.length → argF qs vs = true → (vs.map sizeV).all fits = true
  | [], [], _, _ => rfl
  | q :: qs, v :: vs, hl, h => by
    simp only [argF, Bool.and_eq_true] at h
    simp only [List.map_cons, List.all_cons, Bool.and_eq_true]
    exact ⟨okVal_fits h.1.1, argF_fits (by simpa using hl) h.2⟩
  | [], _ :: _, h, _ => by cases h
  | _ :: _, [], h, _ => by cases h
theorem progOk_fn {p : DProgram} {name : Str} (h : progOk p = true) (hs : (findFn p.Functions name).isSome = true) : fnOk ((findFn p.Functions name).getD fn0) = true := by
  unfold progOk at h
  simp only [Bool.and_eq_true, fnsFrom_eq] at h
  have h1 := h.1.1.2.1
  cases hf : findFn p.Functions name with
  | none => rw [hf] at hs; cases hs
  | some f =>
    have hm : f ∈ p.Functions := List.mem_of_find?_eq_some hf
    exact List.all_eq_true.1 h1 f hm
theorem fnOk_sys {f : DFunction} (h : fnOk f = true) : okSys ⟨f.Params.length, f.Pre⟩ = true := by
  unfold fnOk at h
  simp only [Bool.and_eq_true, decide_eq_true_eq] at h
  unfold okSys
  simp only [Bool.and_eq_true, decide_eq_true_eq]
  refine ⟨⟨?_, by omega⟩, h.2⟩
  unfold inR
  simp
  omega

set_option maxRecDepth 20000
set_option maxHeartbeats 2000000
theorem k_EvalLin (l : DLin) (xs : List Int) (ho : okLin l xs.length = true) (hf : xs.all fits = true) : Holds Tryz.prog 104 [.agg (rALin l), .sl 1 (intsR xs)] (fun r => r = .tup [i64 (evalW l.Const l.Coeffs xs), .bool true]) := by
  have hlen : (l.Coeffs.length : Int) = xs.length := by unfold okLin at ho; simp only [Bool.and_eq_true, decide_eq_true_eq] at ho; omega
  refine holds_of_lim Tryz.func104 rfl rfl fun hl => ?_
  simp [rALin] at hl
  refine holds_of_run Tryz.func104 a104_ok rfl (by simp [a104]) ?_
  simp [a104, rALin]
  intro _
  first | refine callD_of (k_IsValidLin l xs.length) (by simp [rALin]) ?_ | refine call_of (k_IsValidLin l xs.length) (by simp [rALin]) ?_ | refine callD_of (k_IsValidLin l xs.length) rfl ?_ | refine call_of (k_IsValidLin l xs.length) rfl ?_
  rintro r rfl
  simp [ho]
  refine a_anyFitsE xs ?_
  simp [hf]
  intro _
  generalize hE : evalW l.Const l.Coeffs xs = E
  refine rL_forO [1, 2, 20, 21] 22 xs.length (fun i s h n => 0 < n ∧ h 0 = some ⟨true, 2, [rALin l]⟩ ∧ ∃ acc : Int, s 6 = i64 acc ∧ evalW acc (l.Coeffs.drop i) (xs.drop i) = E) hl.2 (by simp) ⟨by simp, by simp [rALin], l.Const, by simp, by simpa using hE⟩ ?_ ?_
  · rintro i st h n R hi hg hk s22 hw ⟨hn, e0, acc, s6, hJ⟩ hR hret _
    simp at hk
    have hic : i < l.Coeffs.length := by omega
    rw [List.drop_eq_getElem_cons hi, List.drop_eq_getElem_cons hic] at hJ
    simp only [evalW] at hJ
    simp [hk, s22, hi, hic, e0, rALin, s6, hw]
    exact hR _ _ _ (by simp [hk]) (by simp) ⟨hn, e0, _, by simp, hJ⟩
  rintro st h n R hk s22 ⟨hn, e0, acc, s6, hJ⟩ hret hX
  simp at hk
  rw [List.drop_eq_nil_of_le (by omega), List.drop_eq_nil_of_le (by omega)] at hJ
  simp only [evalW] at hJ
  subst hJ
  simp [hk, s22]
  refine hX _ _ _ _ ?_
  simp [s6]
theorem ks_EvalLin (l : DLin) (xs : List Int) (ho : okLin l xs.length = true) (hf : xs.all fits = true) : Holds Tryz.prog 190 [.agg (rALin l), .sl 1 (intsR xs)] (fun r => r = .tup [i64 (evalW l.Const l.Coeffs xs), .bool true]) := by
  have hlen : (l.Coeffs.length : Int) = xs.length := by unfold okLin at ho; simp only [Bool.and_eq_true, decide_eq_true_eq] at ho; omega
  refine holds_of_lim Tryz.func190 rfl rfl fun hl => ?_
  simp [rALin] at hl
  refine holds_of_run Tryz.func190 a190_ok rfl (by simp [a190]) ?_
  simp [a190, rALin]
  intro _
  first | refine callD_of (ks_IsValidLin l xs.length) (by simp [rALin]) ?_ | refine call_of (ks_IsValidLin l xs.length) (by simp [rALin]) ?_ | refine callD_of (ks_IsValidLin l xs.length) rfl ?_ | refine call_of (ks_IsValidLin l xs.length) rfl ?_
  rintro r rfl
  simp [ho]
  generalize hE : evalW l.Const l.Coeffs xs = E
  refine rL_forO [1, 2] 7 xs.length (fun i s h n => 0 < n ∧ h 0 = some ⟨true, 2, [rALin l]⟩ ∧ ∃ acc : Int, s 6 = i64 acc ∧ evalW acc (l.Coeffs.drop i) (xs.drop i) = E) hl.2 (by simp) ⟨by simp, by simp [rALin], l.Const, by simp, by simpa using hE⟩ ?_ ?_
  · rintro i st h n R hi hg hk s7 hw ⟨hn, e0, acc, s6, hJ⟩ hR hret _
    simp at hk
    have hic : i < l.Coeffs.length := by omega
    have hfi : fits xs[i] = true := List.all_eq_true.1 hf _ (List.getElem_mem hi)
    rw [List.drop_eq_getElem_cons hi, List.drop_eq_getElem_cons hic] at hJ
    simp only [evalW] at hJ
    simp [hk, s7, hi]
    intro _
    first | refine callD_of (ks_Fits (xs[i]'hi)) (by simp) ?_ | refine call_of (ks_Fits (xs[i]'hi)) (by simp) ?_ | refine callD_of (ks_Fits (xs[i]'hi)) rfl ?_ | refine call_of (ks_Fits (xs[i]'hi)) rfl ?_
    rintro r rfl
    simp [hfi, hk, s7, hi, hic, e0, rALin, s6, hw]
    exact hR _ _ _ (by simp [hk]) (by simp) ⟨hn, e0, _, by simp, hJ⟩
  rintro st h n R hk s7 ⟨hn, e0, acc, s6, hJ⟩ hret hX
  simp at hk
  rw [List.drop_eq_nil_of_le (by omega), List.drop_eq_nil_of_le (by omega)] at hJ
  simp only [evalW] at hJ
  subst hJ
  simp [hk, s7]
  intro _
  refine hX _ _ _ _ ?_
  simp [s6]

theorem ks_Satisfies (x : DSystem) (xs : List Int) (hs : okSys x = true) (hN : (xs.length : Int) = x.N) (hf : xs.all fits = true) : Holds Tryz.prog 98 [.agg (rASystem x), .sl 1 (intsR xs)] (fun r => r = .bool (x.Rows.all (posB xs))) := by
  refine holds_of_lim Tryz.func98 rfl rfl fun hl => ?_
  simp [rASystem] at hl
  refine holds_of_run Tryz.func98 a98_ok rfl (by simp [a98]) ?_
  simp [a98, rASystem]
  generalize hB : x.Rows.all (posB xs) = B
  refine rL_forO [1, 2] 5 xs.length (fun i s h n => 0 < n ∧ h 0 = some ⟨true, 2, [rASystem x]⟩) hl.2 (by simp) ⟨by simp, by simp [rASystem]⟩ ?_ ?_
  · rintro i st h n R hi hg hk s5 hw ⟨hn, e0⟩ hR hret _
    simp at hk
    have hfi : fits xs[i] = true := List.all_eq_true.1 hf _ (List.getElem_mem hi)
    simp [hk, s5, hi]
    intro _
    first | refine callD_of (ks_Fits (xs[i]'hi)) (by simp) ?_ | refine call_of (ks_Fits (xs[i]'hi)) (by simp) ?_ | refine callD_of (ks_Fits (xs[i]'hi)) rfl ?_ | refine call_of (ks_Fits (xs[i]'hi)) rfl ?_
    rintro r rfl
    simp [hfi, hk, s5, hw]
    exact hR _ _ _ (by simp [hk]) (by simp) ⟨hn, e0⟩
  rintro st h n R hk s5 ⟨hn, e0⟩ hret hX
  simp at hk
  simp [hk, s5]
  intro _
  refine hX _ _ _ _ ?_
  simp [hk, e0, rASystem]
  first | refine callD_of (ks_IsValidSystem x) (by simp [rASystem]) ?_ | refine call_of (ks_IsValidSystem x) (by simp [rASystem]) ?_ | refine callD_of (ks_IsValidSystem x) rfl ?_ | refine call_of (ks_IsValidSystem x) rfl ?_
  rintro r rfl
  simp [hs, hk, e0, rASystem, hN]
  intro _
  have hrow : ∀ r ∈ x.Rows, okLin r xs.length = true := by
    intro r hr
    rw [hN]
    unfold okSys at hs
    simp only [Bool.and_eq_true] at hs
    exact List.all_eq_true.1 hs.2 r hr
  refine rL_forO [1, 2] 6 x.Rows.length (fun i s h n => 0 < n ∧ h 0 = some ⟨true, 2, [rASystem x]⟩ ∧ (x.Rows.drop i).all (posB xs) = B) hl.1 (by simp) ⟨hn, by simpa using e0, by simpa using hB⟩ ?_ ?_
  · rintro i st2 h2 n2 R2 hi hg hk2 s6 hw ⟨hn2, e02, hJ⟩ hR2 hret2 _
    simp at hk2
    rw [List.drop_eq_getElem_cons hi, List.all_cons] at hJ
    simp [hk2, hk, s6, hi, e02, rASystem, rALin]
    intro _
    first | refine callD_of (ks_EvalLin (x.Rows[i]'hi) xs (hrow _ (List.getElem_mem hi)) hf) (by simp [rALin]) ?_ | refine call_of (ks_EvalLin (x.Rows[i]'hi) xs (hrow _ (List.getElem_mem hi)) hf) (by simp [rALin]) ?_ | refine callD_of (ks_EvalLin (x.Rows[i]'hi) xs (hrow _ (List.getElem_mem hi)) hf) rfl ?_ | refine call_of (ks_EvalLin (x.Rows[i]'hi) xs (hrow _ (List.getElem_mem hi)) hf) rfl ?_
    rintro r rfl
    by_cases hp : 0 ≤ evalW x.Rows[i].Const x.Rows[i].Coeffs xs
    · have hq : ¬ evalW x.Rows[i].Const x.Rows[i].Coeffs xs < 0 := by omega
      rw [posB, decide_eq_true hp, Bool.true_and] at hJ
      simp [hk2, hk, s6, hq, hw]
      exact hR2 _ _ _ (by simp [hk2]) (by simp) ⟨by omega, e02, hJ⟩
    · have hq : evalW x.Rows[i].Const x.Rows[i].Coeffs xs < 0 := by omega
      rw [posB, decide_eq_false hp, Bool.false_and] at hJ
      subst hJ
      simp [hq]
      refine hret2 _ _ _ ?_
      simp
  rintro st2 h2 n2 R2 hk2 s6 ⟨hn2, e02, hJ⟩ hret2 hX2
  simp at hk2
  rw [List.drop_eq_nil_of_le (by omega)] at hJ
  simp at hJ
  subst hJ
  simp [hk2, hk, s6, e02, rASystem]
  intro _
  refine hX2 _ _ _ _ ?_
  simp

theorem ks_l12Sizes (vs : List DValue) (hv : vs.length ≤ 1048576) : Holds Tryz.prog 99 [.sl 3 (vs.map rAValue)] (fun r => r = .us 1 (intsR (vs.map sizeV))) := by
  refine holds_of_run Tryz.func99 a99_ok rfl (by simp [a99]) ?_
  simp [a99]
  generalize hT : vs.map sizeV = T at *
  have hTl : T.length = vs.length := by rw [← hT]; simp
  refine rL_forO [0] 4 vs.length (fun i s h n => ∃ (acc : List Int) (id : Nat), acc ++ (vs.drop i).map sizeV = T ∧ id < n ∧ s 3 = .ref id 0 acc.length ∧ h id = some ⟨false, 1, intsR acc⟩) (by unfold LIM; omega) (by simp) ⟨[], 0, by simpa using hT, by simp, by simp, by simp [intsR]⟩ ?_ ?_
  · rintro i st h n R hi hg hk s4 hw ⟨acc, id, hJ, hid, s3, eid⟩ hR hret _
    simp at hk
    rw [List.drop_eq_getElem_cons hi, List.map_cons] at hJ
    have hal := congrArg List.length hJ
    simp at hal
    have z0 : ¬ id = n := by omega
    have z1 : ¬ id = n + 1 := by omega
    have z2 : ¬ n + 1 = id := by omega
    have z3 : ¬ n = id := by omega
    simp [hk, s4, hi, rAValue]
    intro _
    first | refine callD_of (ks_SizeOf (vs[i]'hi)) (by simp [rAValue]) ?_ | refine call_of (ks_SizeOf (vs[i]'hi)) (by simp [rAValue]) ?_ | refine callD_of (ks_SizeOf (vs[i]'hi)) rfl ?_ | refine call_of (ks_SizeOf (vs[i]'hi)) rfl ?_
    rintro r rfl
    simp [hk, s4, s3, eid, z0, z1, z2, z3, hw]
    refine ⟨by unfold LIM; omega, ?_⟩
    exact hR _ _ _ (by simp [hk]) (by simp) ⟨acc ++ [sizeV vs[i]], n + 1, by simpa using hJ, by omega, by simp, by simp [intsR, List.take_of_length_le]⟩
  rintro st h n R hk s4 ⟨acc, id, hJ, hid, s3, eid⟩ hret hX
  simp at hk
  rw [List.drop_eq_nil_of_le (by omega)] at hJ
  simp at hJ
  subst hJ
  simp [hk, s4]
  intro _
  refine hX _ _ _ _ ?_
  simp [s3, eid]
end Go.Proofs.YtlmajgghnenbpaaGreat

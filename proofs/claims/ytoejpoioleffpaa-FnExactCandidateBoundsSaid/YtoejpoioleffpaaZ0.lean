/- Contracts: evaluation of expressions (reference). -/
import Derived.Test.YtoejpoioleffpaaC3
namespace Go.Proofs.Ytoejpoioleffpaa
set_option linter.all false
open Go Go.RowKit Go.Proofs
def a34 : AFn :=
⟨5, [(.t 2)], (.seq 
 (.reg [⟨some 2, (.mv (.k (.bool false))), no⟩]) (.seq 
 (.reg [⟨some 3, (.mv (.t 0)), no⟩, ⟨some 4, (.call (.k (.fn (.func 35) [] [])) [(.t 3), (.k (.int .i64 (-1000000))), (.k (.int .i64 1000000))]), no⟩, ⟨some 2, (.mv (.t 4)), no⟩]) .ret))⟩
theorem a34_ok : compFn Try.prog Try.f34 = some a34 := by kernel_rfl

def a12 : AFn :=
⟨40, [(.t 4), (.t 5)], (.seq 
 (.reg [⟨some 2, (.boxv (.t 0)), no⟩, ⟨some 4, (.mv (.k (.int .i64 0))), no⟩, ⟨some 5, (.mv (.k (.bool false))), no⟩]) (.seq (.seq 
 (.reg [⟨some 8, (.ld true 2 (.t 2)), no⟩, ⟨some 9, (.mv (.t 1)), no⟩, ⟨some 10, (.len false (.t 9)), no⟩, ⟨some 11, (.call (.k (.fn (.func 31) [] [])) [(.t 8), (.t 10)]), no⟩, ⟨some 12, (.un .not (.t 11)), no⟩]) (.cond (.t 12) (.seq 
 (.reg [⟨some 4, (.mv (.k (.int .i64 0))), no⟩, ⟨some 5, (.mv (.k (.bool false))), no⟩]) .ret) .skip)) (.seq 
 (.reg [⟨some 13, (.fld 0 (.t 2)), no⟩, ⟨some 14, (.ld false 1 (.t 13)), no⟩, ⟨some 6, (.mv (.t 14)), no⟩]) (.seq (.seq 
 (.reg [⟨some 7, (.mv (.k (.int .i64 0))), no⟩]) (.blk 0 (.loop (.seq (.seq 
 (.reg [⟨some 15, (.mv (.t 7)), no⟩, ⟨some 16, (.mv (.t 1)), no⟩, ⟨some 17, (.len false (.t 16)), no⟩, ⟨some 18, (.bin .lss (.t 15) (.t 17)), no⟩]) (.cond (.t 18) .skip (.exit 0))) (.seq (.blk 1 (.seq (.seq 
 (.reg [⟨some 21, (.mv (.t 1)), no⟩, ⟨some 22, (.mv (.t 7)), no⟩, ⟨some 23, (.ixa 1 (.t 21) (.t 22)), no⟩, ⟨some 24, (.ld false 1 (.t 23)), no⟩, ⟨some 25, (.call (.k (.fn (.func 34) [] [])) [(.t 24)]), no⟩, ⟨some 26, (.un .not (.t 25)), no⟩]) (.cond (.t 26) (.seq 
 (.reg [⟨some 4, (.mv (.k (.int .i64 0))), no⟩, ⟨some 5, (.mv (.k (.bool false))), no⟩]) .ret) .skip)) (.draw (.op ⟨some 27, (.mv (.t 6)), no⟩ (.op ⟨some 28, (.fld 1 (.t 2)), no⟩ (.op ⟨some 29, (.ld false 1 (.t 28)), no⟩ (.op ⟨some 30, (.mv (.t 7)), no⟩ (.op ⟨some 31, (.ixa 1 (.t 29) (.t 30)), no⟩ (.op ⟨some 32, (.ld false 1 (.t 31)), no⟩ (.op ⟨some 33, (.mv (.t 1)), no⟩ (.op ⟨some 34, (.mv (.t 7)), no⟩ (.op ⟨some 35, (.ixa 1 (.t 33) (.t 34)), no⟩ (.op ⟨some 36, (.ld false 1 (.t 35)), no⟩ (.op ⟨some 37, (.bin .mul (.t 32) (.t 36)), no⟩ (.op ⟨some 38, (.bin .add (.t 27) (.t 37)), no⟩ (.hop ⟨some 6, (.mv (.t 38)), no⟩ [] .fin)))))))))))))))) 
 (.reg [⟨some 19, (.mv (.t 7)), no⟩, ⟨some 20, (.bin .add (.t 19) (.k (.int .i64 1))), no⟩, ⟨some 7, (.mv (.t 20)), no⟩])))))) (.seq 
 (.reg [⟨some 39, (.mv (.t 6)), no⟩, ⟨some 4, (.mv (.t 39)), no⟩, ⟨some 5, (.mv (.k (.bool true))), no⟩]) .ret)))))⟩
theorem a12_ok : compFn Try.prog Try.f12 = some a12 := by kernel_rfl


def fits (n : Int) : Bool := inR n (-1000000) 1000000
theorem ks_Fits (n : Int) : Holds Try.prog 34 [i64 n] (fun r => r = .bool (fits n)) := by
  refine holds_of_run Try.func34 a34_ok rfl (by simp [a34]) ?_
  simp [a34]
  first | refine callD_of (k_l1In n (-1000000) 1000000) (by simp) ?_ | refine call_of (k_l1In n (-1000000) 1000000) (by simp) ?_ | refine callD_of (k_l1In n (-1000000) 1000000) rfl ?_ | refine call_of (k_l1In n (-1000000) 1000000) rfl ?_
  rintro r rfl
  simp
  rfl
def evalW (acc : Int) : List Int → List Int → Int
  | c :: cs, x :: xs => evalW (IntKind.i64.wrap (acc + IntKind.i64.wrap (c * x))) cs xs
  | _, _ => acc
/-- What the reference gives where it cannot tell is nought. -/
def evP (xs : List Int) (e : Int) : Int × Bool := bif xs.all fits then (e, true) else (0, false)
theorem evP_t {x e : Int} {xs : List Int} (h : fits x = true) : evP (x :: xs) e = evP xs e := by simp [evP, h]
theorem evP_f {x e : Int} {xs : List Int} (h : fits x = false) : evP (x :: xs) e = (0, false) := by simp [evP, h]
def evalO (l : DLin) (vs : List Int) : Int × Bool := bif okLin l vs.length then evP vs (evalW l.Const l.Coeffs vs) else (0, false)
set_option maxRecDepth 20000
set_option maxHeartbeats 2000000
theorem ks_EvalLin (l : DLin) (xs : List Int) : Holds Try.prog 12 [.agg (rALin l), .sl 1 (intsR xs)] (fun r => r = pairA (evalO l xs)) := by
  refine holds_of_lim Try.func12 rfl rfl fun hl => ?_
  simp [rALin] at hl
  refine holds_of_run Try.func12 a12_ok rfl (by simp [a12]) ?_
  simp [a12, rALin]
  intro _
  first | refine callD_of (ks_IsValidLin l xs.length) (by simp [rALin]) ?_ | refine call_of (ks_IsValidLin l xs.length) (by simp [rALin]) ?_ | refine callD_of (ks_IsValidLin l xs.length) rfl ?_ | refine call_of (ks_IsValidLin l xs.length) rfl ?_
  rintro r rfl
  unfold evalO
  cases ho : okLin l xs.length
  · simp [pairA]
  have hlen := (okLin_len ho).1
  simp
  generalize hE : evP xs (evalW l.Const l.Coeffs xs) = E
  refine rL_forO [1, 2] 7 xs.length (fun i s h n => 0 < n ∧ h 0 = some ⟨true, 2, [rALin l]⟩ ∧ ∃ acc : Int, s 6 = i64 acc ∧ evP (xs.drop i) (evalW acc (l.Coeffs.drop i) (xs.drop i)) = E) hl.2 (by simp) ⟨by simp, by simp [rALin], l.Const, by simp, by simpa using hE⟩ ?_ ?_
  · rintro i st h n R hi hg hk s7 hw ⟨hn, e0, acc, s6, hJ⟩ hR hret _
    simp at hk
    have hic : i < l.Coeffs.length := by omega
    rw [List.drop_eq_getElem_cons hi, List.drop_eq_getElem_cons hic] at hJ
    simp only [evalW] at hJ
    simp [hk, s7, hi]
    intro _
    first | refine callD_of (ks_Fits (xs[i]'hi)) (by simp) ?_ | refine call_of (ks_Fits (xs[i]'hi)) (by simp) ?_ | refine callD_of (ks_Fits (xs[i]'hi)) rfl ?_ | refine call_of (ks_Fits (xs[i]'hi)) rfl ?_
    rintro r rfl
    cases hf : fits xs[i]
    · rw [evP_f hf] at hJ
      simp
      refine hret _ _ _ ?_
      simp [← hJ, pairA]
    · rw [evP_t hf] at hJ
      simp [hk, s7, hi, hic, e0, rALin, s6, hw]
      exact hR _ _ _ (by simp [hk]) (by simp) ⟨hn, e0, _, by simp, hJ⟩
  rintro st h n R hk s7 ⟨hn, e0, acc, s6, hJ⟩ hret hX
  simp at hk
  rw [List.drop_eq_nil_of_le (by omega), List.drop_eq_nil_of_le (by omega)] at hJ
  simp [evalW, evP] at hJ
  subst hJ
  simp [hk, s7]
  intro _
  refine hX _ _ _ _ ?_
  simp [s6, pairA]
end Go.Proofs.Ytoejpoioleffpaa

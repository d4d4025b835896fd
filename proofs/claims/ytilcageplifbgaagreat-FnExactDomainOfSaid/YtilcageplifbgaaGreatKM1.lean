/- What the marks make of data. -/
import Derived.Test.YtilcageplifbgaaGreatKRE
import Derived.Test.YtilcageplifbgaaGreatKT1
namespace Go.Proofs.YtilcageplifbgaaGreat
set_option linter.all false
open Go Go.RowKit Go.Proofs
def dig (n : Nat) : List UInt8 := if h : n = 0 then [] else dig (n / 10) ++ [UInt8.ofNat (48 + n % 10)]
termination_by n
decreasing_by omega
def mtx (k : Int) : Str := if k ≤ 0 then [109, 48] else 109 :: dig k.toNat
def mkIntS (l : List Int) (k : Int) : List Int := mkL (fun _ k => k) (fun _ => 1) l k
def cIntS (l : List Int) : Nat := cL (fun _ => 1) l
def mkStringS (l : List Str) (k : Int) : List Str := mkL (fun _ k => mtx k) (fun _ => 1) l k
def cStringS (l : List Str) : Nat := cL (fun _ => 1) l
theorem cIntS_len (l : List Int) : cIntS l = l.length := cL_one l
theorem cStringS_len (l : List Str) : cStringS l = l.length := cL_one l
def mkrLin (x : DLin) (k : Int) : DLin := ⟨k, mkIntS x.Coeffs (k + 1)⟩
def crLin (x : DLin) : Nat := 1 + cIntS x.Coeffs
def mkLinS (l : List DLin) (k : Int) : List DLin := mkL mkrLin crLin l k
def cLinS (l : List DLin) : Nat := cL crLin l
def crSystem (x : DSystem) : Nat := 1 + cLinS x.Rows
def mkrTerm (x : DTerm) (k : Int) : DTerm := ⟨k, mtx (k + 1)⟩
def crTerm (x : DTerm) : Nat := 2
def mkTermS (l : List DTerm) (k : Int) : List DTerm := mkL mkrTerm crTerm l k
def cTermS (l : List DTerm) : Nat := cL crTerm l
def mkrSum (x : DSum) (k : Int) : DSum := ⟨k, mkTermS x.Terms (k + 1)⟩
def crSum (x : DSum) : Nat := 1 + cTermS x.Terms
def mkSumS (l : List DSum) (k : Int) : List DSum := mkL mkrSum crSum l k
def cSumS (l : List DSum) : Nat := cL crSum l
def mkrArg (x : DArg) (k : Int) : DArg := ⟨((k).tmod 3 == 0), mkSumS x.Heads (k + 1), mtx (k + 1 + cSumS x.Heads)⟩
def crArg (x : DArg) : Nat := 2 + cSumS x.Heads
def mkArgS (l : List DArg) (k : Int) : List DArg := mkL mkrArg crArg l k
def cArgS (l : List DArg) : Nat := cL crArg l
def mkrFunction (x : DFunction) (k : Int) : DFunction := ⟨mtx (k), mkStringS x.Params (k + 1), ((k + 1 + cStringS x.Params).tmod 3 == 0), mkLinS x.Pre (k + 1 + cStringS x.Params + 1)⟩
def crFunction (x : DFunction) : Nat := 2 + cStringS x.Params + cLinS x.Pre
def mkFunctionS (l : List DFunction) (k : Int) : List DFunction := mkL mkrFunction crFunction l k
def cFunctionS (l : List DFunction) : Nat := cL crFunction l
def mkrPattern (x : DPattern) (k : Int) : DPattern := ⟨mtx (k), ((k + 1).tmod 3 == 0), mtx (k + 1 + 1), mtx (k + 1 + 1 + 1)⟩
def crPattern (x : DPattern) : Nat := 4
def mkPatternS (l : List DPattern) (k : Int) : List DPattern := mkL mkrPattern crPattern l k
def cPatternS (l : List DPattern) : Nat := cL crPattern l
def mkrCall (x : DCall) (k : Int) : DCall := ⟨mtx (k), mtx (k + 1), mkArgS x.Args (k + 1 + 1)⟩
def crCall (x : DCall) : Nat := 2 + cArgS x.Args
def mkCallS (l : List DCall) (k : Int) : List DCall := mkL mkrCall crCall l k
def cCallS (l : List DCall) : Nat := cL crCall l
def mkrRule (x : DRule) (k : Int) : DRule := ⟨mtx (k), mkPatternS x.Patterns (k + 1), mkSumS x.Guards (k + 1 + cPatternS x.Patterns), mkCallS x.Calls (k + 1 + cPatternS x.Patterns + cSumS x.Guards), ⟨((k + 1 + cPatternS x.Patterns + cSumS x.Guards + cCallS x.Calls).tmod 3 == 0), mkSumS x.Result.Heads (k + 1 + cPatternS x.Patterns + cSumS x.Guards + cCallS x.Calls + 1), mtx (k + 1 + cPatternS x.Patterns + cSumS x.Guards + cCallS x.Calls + 1 + cSumS x.Result.Heads)⟩⟩
def crRule (x : DRule) : Nat := 3 + cPatternS x.Patterns + cSumS x.Guards + cCallS x.Calls + cSumS x.Result.Heads
def mkRuleS (l : List DRule) (k : Int) : List DRule := mkL mkrRule crRule l k
def cRuleS (l : List DRule) : Nat := cL crRule l
def mkSystem (x : DSystem) (k : Int) : DSystem := ⟨x.N, mkLinS x.Rows (k)⟩
def cSystem (x : DSystem) : Nat := cLinS x.Rows
def mkProgram (x : DProgram) (k : Int) : DProgram := ⟨mkFunctionS x.Functions (k), mkRuleS x.Rules (k + cFunctionS x.Functions)⟩
def cProgram (x : DProgram) : Nat := cFunctionS x.Functions + cRuleS x.Rules
theorem cL_le {α : Type} {c w : α → Nat} (h : ∀ x, c x ≤ 8 + 8 * w x) : ∀ l : List α, cL c l ≤ 8 * wL w l
  | [] => Nat.zero_le _
  | x :: l => by
    have h1 := h x
    have h2 := cL_le h l
    simp only [cL]
    unfold wL at h2 ⊢
    simp only [List.length_cons, List.map_cons, List.sum_cons]
    omega
theorem cw_IntS (l : List Int) : cIntS l ≤ 8 * wIntS l := by rw [cIntS_len]; unfold wIntS; omega
theorem cw_StringS (l : List Str) : cStringS l ≤ 8 * wStringS l := by have := wL_len List.length l; rw [cStringS_len]; unfold wStringS; omega
theorem cwr_Lin (x : DLin) : crLin x ≤ 8 + 8 * wLin x := by have := cw_IntS x.Coeffs; unfold crLin wLin; omega
theorem cw_LinS (l : List DLin) : cLinS l ≤ 8 * wLinS l := cL_le cwr_Lin l
theorem cwr_Term (x : DTerm) : crTerm x ≤ 8 + 8 * wTerm x := by unfold crTerm wTerm; omega
theorem cw_TermS (l : List DTerm) : cTermS l ≤ 8 * wTermS l := cL_le cwr_Term l
theorem cwr_Sum (x : DSum) : crSum x ≤ 8 + 8 * wSum x := by have := cw_TermS x.Terms; unfold crSum wSum; omega
theorem cw_SumS (l : List DSum) : cSumS l ≤ 8 * wSumS l := cL_le cwr_Sum l
theorem cwr_Arg (x : DArg) : crArg x ≤ 8 + 8 * wArg x := by have := cw_SumS x.Heads; unfold crArg wArg; omega
theorem cw_ArgS (l : List DArg) : cArgS l ≤ 8 * wArgS l := cL_le cwr_Arg l
theorem cwr_Function (x : DFunction) : crFunction x ≤ 8 + 8 * wFunction x := by have := cw_StringS x.Params; have := cw_LinS x.Pre; unfold crFunction wFunction; omega
theorem cw_FunctionS (l : List DFunction) : cFunctionS l ≤ 8 * wFunctionS l := cL_le cwr_Function l
theorem cwr_Pattern (x : DPattern) : crPattern x ≤ 8 + 8 * wPattern x := by unfold crPattern wPattern; omega
theorem cw_PatternS (l : List DPattern) : cPatternS l ≤ 8 * wPatternS l := cL_le cwr_Pattern l
theorem cwr_Call (x : DCall) : crCall x ≤ 8 + 8 * wCall x := by have := cw_ArgS x.Args; unfold crCall wCall; omega
theorem cw_CallS (l : List DCall) : cCallS l ≤ 8 * wCallS l := cL_le cwr_Call l
theorem cwr_Rule (x : DRule) : crRule x ≤ 8 + 8 * wRule x := by have := cw_PatternS x.Patterns; have := cw_SumS x.Guards; have := cw_CallS x.Calls; have := cw_SumS x.Result.Heads; unfold crRule wRule wArg; omega
theorem cw_RuleS (l : List DRule) : cRuleS l ≤ 8 * wRuleS l := cL_le cwr_Rule l
theorem cw_Program (x : DProgram) : cProgram x ≤ 8 * wProgram x := by have := cw_FunctionS x.Functions; have := cw_RuleS x.Rules; unfold cProgram wProgram; omega
end Go.Proofs.YtilcageplifbgaaGreat

/- What the marks make of data. -/
import Derived.Test.YtoejpoioleffpaaRE
import Derived.Test.YtoejpoioleffpaaT1
namespace Go.Proofs.Ytoejpoioleffpaa
set_option linter.all false
open Go Go.RowKit Go.Proofs

def dig (n : Nat) : List UInt8 := if h : n = 0 then [] else dig (n / 10) ++ [UInt8.ofNat (48 + n % 10)]
termination_by n
decreasing_by omega
/-- The text of a mark. -/
def mtx (k : Int) : Str := if k ≤ 0 then [109, 48] else 109 :: dig k.toNat
def mkIntS (l : List Int) (k : Int) : List Int := mkL (fun _ k => k) (fun _ => 1) l k
def cIntS (l : List Int) : Nat := cL (fun _ => 1) l
def mkStringS (l : List Str) (k : Int) : List Str := mkL (fun _ k => mtx k) (fun _ => 1) l k
def cStringS (l : List Str) : Nat := cL (fun _ => 1) l
theorem cIntS_len (l : List Int) : cIntS l = l.length := cL_one l
theorem cStringS_len (l : List Str) : cStringS l = l.length := cL_one l

def mkrLin (x : DLin) (k : Int) : DLin := ⟨k, mkIntS x.Coeffs (k + 1)⟩
def crLin (x : DLin) : Nat := 1 + cIntS x.Coeffs
def mkLinS (l : List DLin) (k : Int) : List DLin := mkL mkrLin crLin l k
def cLinS (l : List DLin) : Nat := cL crLin l
def mkrSystem (x : DSystem) (k : Int) : DSystem := ⟨k, mkLinS x.Rows (k + 1)⟩
def crSystem (x : DSystem) : Nat := 1 + cLinS x.Rows
def mkSystemS (l : List DSystem) (k : Int) : List DSystem := mkL mkrSystem crSystem l k
def cSystemS (l : List DSystem) : Nat := cL crSystem l
def mkrFarkas (x : DFarkas) (k : Int) : DFarkas := ⟨k, mkIntS x.Mult (k + 1)⟩
def crFarkas (x : DFarkas) : Nat := 1 + cIntS x.Mult
def mkFarkasS (l : List DFarkas) (k : Int) : List DFarkas := mkL mkrFarkas crFarkas l k
def cFarkasS (l : List DFarkas) : Nat := cL crFarkas l
def mkrTerm (x : DTerm) (k : Int) : DTerm := ⟨k, mtx (k + 1)⟩
def crTerm (x : DTerm) : Nat := 2
def mkTermS (l : List DTerm) (k : Int) : List DTerm := mkL mkrTerm crTerm l k
def cTermS (l : List DTerm) : Nat := cL crTerm l
def mkrSum (x : DSum) (k : Int) : DSum := ⟨k, mkTermS x.Terms (k + 1)⟩
def crSum (x : DSum) : Nat := 1 + cTermS x.Terms
def mkSumS (l : List DSum) (k : Int) : List DSum := mkL mkrSum crSum l k
def cSumS (l : List DSum) : Nat := cL crSum l
def mkrArg (x : DArg) (k : Int) : DArg := ⟨((k).tmod 3 == 0), mkSumS x.Heads (k + 1), mtx (k + 1 + cSumS x.Heads)⟩
def crArg (x : DArg) : Nat := 2 + cSumS x.Heads
def mkArgS (l : List DArg) (k : Int) : List DArg := mkL mkrArg crArg l k
def cArgS (l : List DArg) : Nat := cL crArg l
def mkrFunction (x : DFunction) (k : Int) : DFunction := ⟨mtx (k), mkStringS x.Params (k + 1), ((k + 1 + cStringS x.Params).tmod 3 == 0), mkLinS x.Pre (k + 1 + cStringS x.Params + 1)⟩
def crFunction (x : DFunction) : Nat := 2 + cStringS x.Params + cLinS x.Pre
def mkFunctionS (l : List DFunction) (k : Int) : List DFunction := mkL mkrFunction crFunction l k
def cFunctionS (l : List DFunction) : Nat := cL crFunction l
def mkrPattern (x : DPattern) (k : Int) : DPattern := ⟨mtx (k), ((k + 1).tmod 3 == 0), mtx (k + 1 + 1), mtx (k + 1 + 1 + 1)⟩
def crPattern (x : DPattern) : Nat := 4
def mkPatternS (l : List DPattern) (k : Int) : List DPattern := mkL mkrPattern crPattern l k
def cPatternS (l : List DPattern) : Nat := cL crPattern l
def mkrCall (x : DCall) (k : Int) : DCall := ⟨mtx (k), mtx (k + 1), mkArgS x.Args (k + 1 + 1)⟩
def crCall (x : DCall) : Nat := 2 + cArgS x.Args
def mkCallS (l : List DCall) (k : Int) : List DCall := mkL mkrCall crCall l k
def cCallS (l : List DCall) : Nat := cL crCall l
def mkrRule (x : DRule) (k : Int) : DRule := ⟨mtx (k), mkPatternS x.Patterns (k + 1), mkSumS x.Guards (k + 1 + cPatternS x.Patterns), mkCallS x.Calls (k + 1 + cPatternS x.Patterns + cSumS x.Guards), ⟨((k + 1 + cPatternS x.Patterns + cSumS x.Guards + cCallS x.Calls).tmod 3 == 0), mkSumS x.Result.Heads (k + 1 + cPatternS x.Patterns + cSumS x.Guards + cCallS x.Calls + 1), mtx (k + 1 + cPatternS x.Patterns + cSumS x.Guards + cCallS x.Calls + 1 + cSumS x.Result.Heads)⟩⟩
def crRule (x : DRule) : Nat := 3 + cPatternS x.Patterns + cSumS x.Guards + cCallS x.Calls + cSumS x.Result.Heads
def mkRuleS (l : List DRule) (k : Int) : List DRule := mkL mkrRule crRule l k
def cRuleS (l : List DRule) : Nat := cL crRule l
def mkrProgram (x : DProgram) (k : Int) : DProgram := ⟨mkFunctionS x.Functions (k), mkRuleS x.Rules (k + cFunctionS x.Functions)⟩
def crProgram (x : DProgram) : Nat := cFunctionS x.Functions + cRuleS x.Rules
def mkProgramS (l : List DProgram) (k : Int) : List DProgram := mkL mkrProgram crProgram l k
def cProgramS (l : List DProgram) : Nat := cL crProgram l
def mkrValue (x : DValue) (k : Int) : DValue := ⟨((k).tmod 3 == 0), k + 1, mkIntS x.Items (k + 1 + 1)⟩
def crValue (x : DValue) : Nat := 2 + cIntS x.Items
def mkValueS (l : List DValue) (k : Int) : List DValue := mkL mkrValue crValue l k
def cValueS (l : List DValue) : Nat := cL crValue l
def mkrOutcome (x : DOutcome) (k : Int) : DOutcome := ⟨k, ⟨((k + 1).tmod 3 == 0), k + 1 + 1, mkIntS x.Value.Items (k + 1 + 1 + 1)⟩, k + 1 + 1 + 1 + cIntS x.Value.Items, k + 1 + 1 + 1 + cIntS x.Value.Items + 1⟩
def crOutcome (x : DOutcome) : Nat := 5 + cIntS x.Value.Items
def mkOutcomeS (l : List DOutcome) (k : Int) : List DOutcome := mkL mkrOutcome crOutcome l k
def cOutcomeS (l : List DOutcome) : Nat := cL crOutcome l
def mkLinSS (l : List (List DLin)) (k : Int) : List (List DLin) := mkL mkLinS cLinS l k
def cLinSS (l : List (List DLin)) : Nat := cL cLinS l
def mkrModel (x : DModel) (k : Int) : DModel := ⟨⟨k, mkLinS x.System.Rows (k + 1)⟩, mkLinS x.Params (k + 1 + cLinS x.System.Rows), mkLinSS x.Args (k + 1 + cLinS x.System.Rows + cLinS x.Params), ⟨k + 1 + cLinS x.System.Rows + cLinS x.Params + cLinSS x.Args, mkIntS x.Result.Coeffs (k + 1 + cLinS x.System.Rows + cLinS x.Params + cLinSS x.Args + 1)⟩⟩
def crModel (x : DModel) : Nat := 2 + cLinS x.System.Rows + cLinS x.Params + cLinSS x.Args + cIntS x.Result.Coeffs
def mkModelS (l : List DModel) (k : Int) : List DModel := mkL mkrModel crModel l k
def cModelS (l : List DModel) : Nat := cL crModel l
def mkrObligation (x : DObligation) (k : Int) : DObligation := ⟨⟨k, mkLinS x.System.Rows (k + 1)⟩, ⟨k + 1 + cLinS x.System.Rows, mkIntS x.Target.Coeffs (k + 1 + cLinS x.System.Rows + 1)⟩⟩
def crObligation (x : DObligation) : Nat := 2 + cLinS x.System.Rows + cIntS x.Target.Coeffs
def mkObligationS (l : List DObligation) (k : Int) : List DObligation := mkL mkrObligation crObligation l k
def cObligationS (l : List DObligation) : Nat := cL crObligation l
def mkrBounds (x : DBounds) (k : Int) : DBounds := ⟨k, mkLinS x.Lins (k + 1)⟩
def crBounds (x : DBounds) : Nat := 1 + cLinS x.Lins
def mkBoundsS (l : List DBounds) (k : Int) : List DBounds := mkL mkrBounds crBounds l k
def cBoundsS (l : List DBounds) : Nat := cL crBounds l
def mkrEdge (x : DEdge) (k : Int) : DEdge := ⟨k, k + 1⟩
def crEdge (x : DEdge) : Nat := 2
def mkEdgeS (l : List DEdge) (k : Int) : List DEdge := mkL mkrEdge crEdge l k
def cEdgeS (l : List DEdge) : Nat := cL crEdge l
def mkrRanking (x : DRanking) (k : Int) : DRanking := ⟨mkLinSS x.Levels (k), mkIntS x.Edges (k + cLinSS x.Levels)⟩
def crRanking (x : DRanking) : Nat := cLinSS x.Levels + cIntS x.Edges
def mkRankingS (l : List DRanking) (k : Int) : List DRanking := mkL mkrRanking crRanking l k
def cRankingS (l : List DRanking) : Nat := cL crRanking l
def mkLin (x : DLin) (k : Int) : DLin := ⟨x.Const, mkIntS x.Coeffs (k)⟩
def cLin (x : DLin) : Nat := cIntS x.Coeffs
def mkSystem (x : DSystem) (k : Int) : DSystem := ⟨x.N, mkLinS x.Rows (k)⟩
def cSystem (x : DSystem) : Nat := cLinS x.Rows
def mkFarkas (x : DFarkas) (k : Int) : DFarkas := ⟨x.Scale, mkIntS x.Mult (k)⟩
def cFarkas (x : DFarkas) : Nat := cIntS x.Mult
def mkTerm (x : DTerm) (k : Int) : DTerm := ⟨x.Coeff, x.Name⟩
def cTerm (x : DTerm) : Nat := 0
def mkSum (x : DSum) (k : Int) : DSum := ⟨x.Const, mkTermS x.Terms (k)⟩
def cSum (x : DSum) : Nat := cTermS x.Terms
def mkArg (x : DArg) (k : Int) : DArg := ⟨x.Lst, mkSumS x.Heads (k), x.Base⟩
def cArg (x : DArg) : Nat := cSumS x.Heads
def mkFunction (x : DFunction) (k : Int) : DFunction := ⟨x.Name, mkStringS x.Params (k), x.ListResult, mkLinS x.Pre (k + cStringS x.Params)⟩
def cFunction (x : DFunction) : Nat := cStringS x.Params + cLinS x.Pre
def mkPattern (x : DPattern) (k : Int) : DPattern := ⟨x.Lst, x.Cons, x.Head, x.Tail⟩
def cPattern (x : DPattern) : Nat := 0
def mkCall (x : DCall) (k : Int) : DCall := ⟨x.Bind, x.Func, mkArgS x.Args (k)⟩
def cCall (x : DCall) : Nat := cArgS x.Args
def mkRule (x : DRule) (k : Int) : DRule := ⟨x.Func, mkPatternS x.Patterns (k), mkSumS x.Guards (k + cPatternS x.Patterns), mkCallS x.Calls (k + cPatternS x.Patterns + cSumS x.Guards), ⟨x.Result.Lst, mkSumS x.Result.Heads (k + cPatternS x.Patterns + cSumS x.Guards + cCallS x.Calls), x.Result.Base⟩⟩
def cRule (x : DRule) : Nat := cPatternS x.Patterns + cSumS x.Guards + cCallS x.Calls + cArg x.Result
def mkProgram (x : DProgram) (k : Int) : DProgram := ⟨mkFunctionS x.Functions (k), mkRuleS x.Rules (k + cFunctionS x.Functions)⟩
def cProgram (x : DProgram) : Nat := cFunctionS x.Functions + cRuleS x.Rules
def mkValue (x : DValue) (k : Int) : DValue := ⟨x.Lst, x.N, mkIntS x.Items (k)⟩
def cValue (x : DValue) : Nat := cIntS x.Items
def mkOutcome (x : DOutcome) (k : Int) : DOutcome := ⟨x.Status, ⟨x.Value.Lst, x.Value.N, mkIntS x.Value.Items (k)⟩, x.Calls, x.Conses⟩
def cOutcome (x : DOutcome) : Nat := cValue x.Value
def mkModel (x : DModel) (k : Int) : DModel := ⟨⟨x.System.N, mkLinS x.System.Rows (k)⟩, mkLinS x.Params (k + cLinS x.System.Rows), mkLinSS x.Args (k + cLinS x.System.Rows + cLinS x.Params), ⟨x.Result.Const, mkIntS x.Result.Coeffs (k + cLinS x.System.Rows + cLinS x.Params + cLinSS x.Args)⟩⟩
def cModel (x : DModel) : Nat := cSystem x.System + cLinS x.Params + cLinSS x.Args + cLin x.Result
def mkObligation (x : DObligation) (k : Int) : DObligation := ⟨⟨x.System.N, mkLinS x.System.Rows (k)⟩, ⟨x.Target.Const, mkIntS x.Target.Coeffs (k + cLinS x.System.Rows)⟩⟩
def cObligation (x : DObligation) : Nat := cSystem x.System + cLin x.Target
def mkBounds (x : DBounds) (k : Int) : DBounds := ⟨x.Kind, mkLinS x.Lins (k)⟩
def cBounds (x : DBounds) : Nat := cLinS x.Lins
def mkEdge (x : DEdge) (k : Int) : DEdge := ⟨x.Rule, x.Call⟩
def cEdge (x : DEdge) : Nat := 0
def mkRanking (x : DRanking) (k : Int) : DRanking := ⟨mkLinSS x.Levels (k), mkIntS x.Edges (k + cLinSS x.Levels)⟩
def cRanking (x : DRanking) : Nat := cLinSS x.Levels + cIntS x.Edges
theorem cL_le {α : Type} {c w : α → Nat} (h : ∀ x, c x ≤ 8 + 8 * w x) : ∀ l : List α, cL c l ≤ 8 * wL w l
  | [] => Nat.zero_le _
  | x :: l => by
    have h1 := h x
    have h2 := cL_le h l
    simp only [cL]
    unfold wL at h2 ⊢
    simp only [List.length_cons, List.map_cons, List.sum_cons]
    omega
theorem cw_IntS (l : List Int) : cIntS l ≤ 8 * wIntS l := by rw [cIntS_len]; unfold wIntS; omega
theorem cw_StringS (l : List Str) : cStringS l ≤ 8 * wStringS l := by have := wL_len List.length l; rw [cStringS_len]; unfold wStringS; omega

theorem cwr_Lin (x : DLin) : crLin x ≤ 8 + 8 * wLin x := by have := cw_IntS x.Coeffs; unfold crLin wLin; omega
theorem cw_LinS (l : List DLin) : cLinS l ≤ 8 * wLinS l := cL_le cwr_Lin l
theorem cwr_System (x : DSystem) : crSystem x ≤ 8 + 8 * wSystem x := by have := cw_LinS x.Rows; unfold crSystem wSystem; omega
theorem cw_SystemS (l : List DSystem) : cSystemS l ≤ 8 * wSystemS l := cL_le cwr_System l
theorem cwr_Farkas (x : DFarkas) : crFarkas x ≤ 8 + 8 * wFarkas x := by have := cw_IntS x.Mult; unfold crFarkas wFarkas; omega
theorem cw_FarkasS (l : List DFarkas) : cFarkasS l ≤ 8 * wFarkasS l := cL_le cwr_Farkas l
theorem cwr_Term (x : DTerm) : crTerm x ≤ 8 + 8 * wTerm x := by unfold crTerm wTerm; omega
theorem cw_TermS (l : List DTerm) : cTermS l ≤ 8 * wTermS l := cL_le cwr_Term l
theorem cwr_Sum (x : DSum) : crSum x ≤ 8 + 8 * wSum x := by have := cw_TermS x.Terms; unfold crSum wSum; omega
theorem cw_SumS (l : List DSum) : cSumS l ≤ 8 * wSumS l := cL_le cwr_Sum l
theorem cwr_Arg (x : DArg) : crArg x ≤ 8 + 8 * wArg x := by have := cw_SumS x.Heads; unfold crArg wArg; omega
theorem cw_ArgS (l : List DArg) : cArgS l ≤ 8 * wArgS l := cL_le cwr_Arg l
theorem cwr_Function (x : DFunction) : crFunction x ≤ 8 + 8 * wFunction x := by have := cw_StringS x.Params; have := cw_LinS x.Pre; unfold crFunction wFunction; omega
theorem cw_FunctionS (l : List DFunction) : cFunctionS l ≤ 8 * wFunctionS l := cL_le cwr_Function l
theorem cwr_Pattern (x : DPattern) : crPattern x ≤ 8 + 8 * wPattern x := by unfold crPattern wPattern; omega
theorem cw_PatternS (l : List DPattern) : cPatternS l ≤ 8 * wPatternS l := cL_le cwr_Pattern l
theorem cwr_Call (x : DCall) : crCall x ≤ 8 + 8 * wCall x := by have := cw_ArgS x.Args; unfold crCall wCall; omega
theorem cw_CallS (l : List DCall) : cCallS l ≤ 8 * wCallS l := cL_le cwr_Call l
theorem cwr_Rule (x : DRule) : crRule x ≤ 8 + 8 * wRule x := by have := cw_PatternS x.Patterns; have := cw_SumS x.Guards; have := cw_CallS x.Calls; have := cw_SumS x.Result.Heads; unfold crRule wRule wArg; omega
theorem cw_RuleS (l : List DRule) : cRuleS l ≤ 8 * wRuleS l := cL_le cwr_Rule l
theorem cwr_Program (x : DProgram) : crProgram x ≤ 8 + 8 * wProgram x := by have := cw_FunctionS x.Functions; have := cw_RuleS x.Rules; unfold crProgram wProgram; omega
theorem cw_ProgramS (l : List DProgram) : cProgramS l ≤ 8 * wProgramS l := cL_le cwr_Program l
theorem cwr_Value (x : DValue) : crValue x ≤ 8 + 8 * wValue x := by have := cw_IntS x.Items; unfold crValue wValue; omega
theorem cw_ValueS (l : List DValue) : cValueS l ≤ 8 * wValueS l := cL_le cwr_Value l
theorem cwr_Outcome (x : DOutcome) : crOutcome x ≤ 8 + 8 * wOutcome x := by have := cw_IntS x.Value.Items; unfold crOutcome wOutcome wValue; omega
theorem cw_OutcomeS (l : List DOutcome) : cOutcomeS l ≤ 8 * wOutcomeS l := cL_le cwr_Outcome l
theorem cw_LinSS (l : List (List DLin)) : cLinSS l ≤ 8 * wLinSS l := cL_le (fun x => by have := cw_LinS x; omega) l
theorem cwr_Model (x : DModel) : crModel x ≤ 8 + 8 * wModel x := by have := cw_LinS x.System.Rows; have := cw_LinS x.Params; have := cw_LinSS x.Args; have := cw_IntS x.Result.Coeffs; unfold crModel wModel wSystem wLin; omega
theorem cw_ModelS (l : List DModel) : cModelS l ≤ 8 * wModelS l := cL_le cwr_Model l
theorem cwr_Obligation (x : DObligation) : crObligation x ≤ 8 + 8 * wObligation x := by have := cw_LinS x.System.Rows; have := cw_IntS x.Target.Coeffs; unfold crObligation wObligation wSystem wLin; omega
theorem cw_ObligationS (l : List DObligation) : cObligationS l ≤ 8 * wObligationS l := cL_le cwr_Obligation l
theorem cwr_Bounds (x : DBounds) : crBounds x ≤ 8 + 8 * wBounds x := by have := cw_LinS x.Lins; unfold crBounds wBounds; omega
theorem cw_BoundsS (l : List DBounds) : cBoundsS l ≤ 8 * wBoundsS l := cL_le cwr_Bounds l
theorem cwr_Edge (x : DEdge) : crEdge x ≤ 8 + 8 * wEdge x := by unfold crEdge wEdge; omega
theorem cw_EdgeS (l : List DEdge) : cEdgeS l ≤ 8 * wEdgeS l := cL_le cwr_Edge l
theorem cwr_Ranking (x : DRanking) : crRanking x ≤ 8 + 8 * wRanking x := by have := cw_LinSS x.Levels; have := cw_IntS x.Edges; unfold crRanking wRanking; omega
theorem cw_RankingS (l : List DRanking) : cRankingS l ≤ 8 * wRankingS l := cL_le cwr_Ranking l
theorem cw_Lin (x : DLin) : cLin x ≤ 8 * wLin x := by have := cw_IntS x.Coeffs; unfold cLin wLin; omega
theorem cw_System (x : DSystem) : cSystem x ≤ 8 * wSystem x := by have := cw_LinS x.Rows; unfold cSystem wSystem; omega
theorem cw_Farkas (x : DFarkas) : cFarkas x ≤ 8 * wFarkas x := by have := cw_IntS x.Mult; unfold cFarkas wFarkas; omega
theorem cw_Term (x : DTerm) : cTerm x ≤ 8 * wTerm x := by unfold cTerm wTerm; omega
theorem cw_Sum (x : DSum) : cSum x ≤ 8 * wSum x := by have := cw_TermS x.Terms; unfold cSum wSum; omega
theorem cw_Arg (x : DArg) : cArg x ≤ 8 * wArg x := by have := cw_SumS x.Heads; unfold cArg wArg; omega
theorem cw_Function (x : DFunction) : cFunction x ≤ 8 * wFunction x := by have := cw_StringS x.Params; have := cw_LinS x.Pre; unfold cFunction wFunction; omega
theorem cw_Pattern (x : DPattern) : cPattern x ≤ 8 * wPattern x := by unfold cPattern wPattern; omega
theorem cw_Call (x : DCall) : cCall x ≤ 8 * wCall x := by have := cw_ArgS x.Args; unfold cCall wCall; omega
theorem cw_Rule (x : DRule) : cRule x ≤ 8 * wRule x := by have := cw_PatternS x.Patterns; have := cw_SumS x.Guards; have := cw_CallS x.Calls; have := cw_Arg x.Result; unfold cRule wRule; omega
theorem cw_Program (x : DProgram) : cProgram x ≤ 8 * wProgram x := by have := cw_FunctionS x.Functions; have := cw_RuleS x.Rules; unfold cProgram wProgram; omega
theorem cw_Value (x : DValue) : cValue x ≤ 8 * wValue x := by have := cw_IntS x.Items; unfold cValue wValue; omega
theorem cw_Outcome (x : DOutcome) : cOutcome x ≤ 8 * wOutcome x := by have := cw_Value x.Value; unfold cOutcome wOutcome; omega
theorem cw_Model (x : DModel) : cModel x ≤ 8 * wModel x := by have := cw_System x.System; have := cw_LinS x.Params; have := cw_LinSS x.Args; have := cw_Lin x.Result; unfold cModel wModel; omega
theorem cw_Obligation (x : DObligation) : cObligation x ≤ 8 * wObligation x := by have := cw_System x.System; have := cw_Lin x.Target; unfold cObligation wObligation; omega
theorem cw_Bounds (x : DBounds) : cBounds x ≤ 8 * wBounds x := by have := cw_LinS x.Lins; unfold cBounds wBounds; omega
theorem cw_Edge (x : DEdge) : cEdge x ≤ 8 * wEdge x := by unfold cEdge wEdge; omega
theorem cw_Ranking (x : DRanking) : cRanking x ≤ 8 * wRanking x := by have := cw_LinSS x.Levels; have := cw_IntS x.Edges; unfold cRanking wRanking; omega
end Go.Proofs.Ytoejpoioleffpaa

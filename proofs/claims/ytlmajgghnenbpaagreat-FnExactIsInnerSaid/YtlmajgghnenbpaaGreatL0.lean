/- The parameters of the laws, opened. -/
import Derived.Test.YtlmajgghnenbpaaGreatT1
import Derived.Test.YtlmajgghnenbpaaGreatR31
import Derived.Test.YtlmajgghnenbpaaGreatProg
namespace Go.Proofs.YtlmajgghnenbpaaGreat
set_option linter.all false
open Go Go.RowKit Go.Proofs Go.ChangeShapes Go.WideShapes

theorem Tryz.own : ownKnob Tryz.prog.godebug = none := by kernel_rfl
theorem Tryz.laidOut : laidOutB Tryz.prog = true := by kernel_rfl
theorem list_of_rows {α : Type} {P : List AV → Prop} {f : α → List AV} (hP : ∀ r, P r → ∃ x, r = f x) : ∀ {rows : List (List AV)}, (∀ r ∈ rows, P r) → ∃ l : List α, rows = l.map f
  | [], _ => ⟨[], rfl⟩
  | r :: rows, h => by
    obtain ⟨x, rfl⟩ := hP r (h _ List.mem_cons_self)
    obtain ⟨l, rfl⟩ := list_of_rows hP fun r hr => h r (List.mem_cons_of_mem _ hr)
    exact ⟨x :: l, rfl⟩
theorem ArgOf_slice {P : Program} {f : Nat} {t e : TypeId} {a : AV} (hu : P.underlying t = some (.slice e)) (h : ArgOf P f t a) : Row P f t [a] := by simpa only [ArgOf, hu] using h
theorem ArgOf_int {P : Program} {f : Nat} {t : TypeId} {k : IntKind} {a : AV} (hu : P.underlying t = some (.int k)) (h : ArgOf P (f + 1) t a) : ∃ n, a = .int k n ∧ (Lit.int k n).wf = true := by
  have h : Row P (f + 1) t [a] := by simpa only [ArgOf, hu] using h
  obtain ⟨n, h1, h2⟩ := Row_int hu h
  exact ⟨n, by simpa using h1, h2⟩
theorem ArgOf_string {P : Program} {f : Nat} {t : TypeId} {a : AV} (hu : P.underlying t = some .string) (h : ArgOf P (f + 1) t a) : ∃ l : Str, a = .str l ∧ l.length ≤ LIM := by
  have h : Row P (f + 1) t [a] := by simpa only [ArgOf, hu] using h
  obtain ⟨n, h1, h2⟩ := Row_string hu h
  exact ⟨n, by simpa using h1, h2⟩
set_option maxRecDepth 100000

theorem of_IntS {f : Nat} {r : List AV} (h : Row Tryz.prog (f + 2) 72 r) : ∃ x : List Int, r = [.sl 1 (intsR x)] := by
  obtain ⟨l, rfl⟩ := ints_of Tryz.underlying72 Tryz.underlying3 (by kernel_rfl) h
  exact ⟨l, rfl⟩

theorem arg_IntS {f : Nat} {a : AV} (h : ArgOf Tryz.prog (f + 2) 72 a) : ∃ x : List Int, a = .sl 1 (intsR x) := by
  obtain ⟨x, hx⟩ := of_IntS (ArgOf_slice Tryz.underlying72 h)
  exact ⟨x, by simpa using hx⟩

theorem of_Lin {f : Nat} {r : List AV} (h : Row Tryz.prog (f + 3) 74 r) : ∃ x : DLin, r = rALin x := by
  obtain ⟨parts, rfl, g0⟩ := Row_struct Tryz.underlying74 h
  obtain ⟨x0, m1, rfl, h0, g1⟩ := All2_cons g0
  obtain ⟨x1, m2, rfl, h1, g2⟩ := All2_cons g1
  cases All2_nil g2
  obtain ⟨v0, rfl, _⟩ := Row_int Tryz.underlying3 h0
  obtain ⟨v1, rfl⟩ := of_IntS h1
  exact ⟨⟨v0, v1⟩, rfl⟩

theorem arg_Lin {f : Nat} {a : AV} (h : ArgOf Tryz.prog (f + 3) 74 a) : ∃ x : DLin, a = .agg (rALin x) := by
  obtain ⟨row, rfl, h1⟩ := ArgOf_struct Tryz.underlying74 h
  obtain ⟨x, rfl⟩ := of_Lin h1
  exact ⟨x, rfl⟩

theorem of_LinS {f : Nat} {r : List AV} (h : Row Tryz.prog (f + 4) 95 r) : ∃ x : List DLin, r = [.sl 2 (x.map rALin)] := by
  obtain ⟨rows, rfl, _, hr⟩ := Row_slice Tryz.underlying95 h
  obtain ⟨l, rfl⟩ := list_of_rows (f := rALin) (fun r h => of_Lin h) hr
  exact ⟨l, by rw [show Tryz.prog.cellsOf 74 = 2 by kernel_rfl]⟩

theorem arg_LinS {f : Nat} {a : AV} (h : ArgOf Tryz.prog (f + 4) 95 a) : ∃ x : List DLin, a = .sl 2 (x.map rALin) := by
  obtain ⟨x, hx⟩ := of_LinS (ArgOf_slice Tryz.underlying95 h)
  exact ⟨x, by simpa using hx⟩

theorem of_Term {f : Nat} {r : List AV} (h : Row Tryz.prog (f + 2) 314 r) : ∃ x : DTerm, r = rATerm x := by
  obtain ⟨parts, rfl, g0⟩ := Row_struct Tryz.underlying314 h
  obtain ⟨x0, m1, rfl, h0, g1⟩ := All2_cons g0
  obtain ⟨x1, m2, rfl, h1, g2⟩ := All2_cons g1
  cases All2_nil g2
  obtain ⟨v0, rfl, _⟩ := Row_int Tryz.underlying3 h0
  obtain ⟨v1, rfl, _⟩ := Row_string Tryz.underlying9 h1
  exact ⟨⟨v0, v1⟩, rfl⟩

theorem arg_Term {f : Nat} {a : AV} (h : ArgOf Tryz.prog (f + 2) 314 a) : ∃ x : DTerm, a = .agg (rATerm x) := by
  obtain ⟨row, rfl, h1⟩ := ArgOf_struct Tryz.underlying314 h
  obtain ⟨x, rfl⟩ := of_Term h1
  exact ⟨x, rfl⟩

theorem of_TermS {f : Nat} {r : List AV} (h : Row Tryz.prog (f + 3) 286 r) : ∃ x : List DTerm, r = [.sl 2 (x.map rATerm)] := by
  obtain ⟨rows, rfl, _, hr⟩ := Row_slice Tryz.underlying286 h
  obtain ⟨l, rfl⟩ := list_of_rows (f := rATerm) (fun r h => of_Term h) hr
  exact ⟨l, by rw [show Tryz.prog.cellsOf 314 = 2 by kernel_rfl]⟩

theorem arg_TermS {f : Nat} {a : AV} (h : ArgOf Tryz.prog (f + 3) 286 a) : ∃ x : List DTerm, a = .sl 2 (x.map rATerm) := by
  obtain ⟨x, hx⟩ := of_TermS (ArgOf_slice Tryz.underlying286 h)
  exact ⟨x, by simpa using hx⟩

theorem of_Sum {f : Nat} {r : List AV} (h : Row Tryz.prog (f + 4) 288 r) : ∃ x : DSum, r = rASum x := by
  obtain ⟨parts, rfl, g0⟩ := Row_struct Tryz.underlying288 h
  obtain ⟨x0, m1, rfl, h0, g1⟩ := All2_cons g0
  obtain ⟨x1, m2, rfl, h1, g2⟩ := All2_cons g1
  cases All2_nil g2
  obtain ⟨v0, rfl, _⟩ := Row_int Tryz.underlying3 h0
  obtain ⟨v1, rfl⟩ := of_TermS h1
  exact ⟨⟨v0, v1⟩, rfl⟩

theorem arg_Sum {f : Nat} {a : AV} (h : ArgOf Tryz.prog (f + 4) 288 a) : ∃ x : DSum, a = .agg (rASum x) := by
  obtain ⟨row, rfl, h1⟩ := ArgOf_struct Tryz.underlying288 h
  obtain ⟨x, rfl⟩ := of_Sum h1
  exact ⟨x, rfl⟩

theorem of_SumS {f : Nat} {r : List AV} (h : Row Tryz.prog (f + 5) 199 r) : ∃ x : List DSum, r = [.sl 2 (x.map rASum)] := by
  obtain ⟨rows, rfl, _, hr⟩ := Row_slice Tryz.underlying199 h
  obtain ⟨l, rfl⟩ := list_of_rows (f := rASum) (fun r h => of_Sum h) hr
  exact ⟨l, by rw [show Tryz.prog.cellsOf 288 = 2 by kernel_rfl]⟩

theorem arg_SumS {f : Nat} {a : AV} (h : ArgOf Tryz.prog (f + 5) 199 a) : ∃ x : List DSum, a = .sl 2 (x.map rASum) := by
  obtain ⟨x, hx⟩ := of_SumS (ArgOf_slice Tryz.underlying199 h)
  exact ⟨x, by simpa using hx⟩

theorem of_Arg {f : Nat} {r : List AV} (h : Row Tryz.prog (f + 6) 202 r) : ∃ x : DArg, r = rAArg x := by
  obtain ⟨parts, rfl, g0⟩ := Row_struct Tryz.underlying202 h
  obtain ⟨x0, m1, rfl, h0, g1⟩ := All2_cons g0
  obtain ⟨x1, m2, rfl, h1, g2⟩ := All2_cons g1
  obtain ⟨x2, m3, rfl, h2, g3⟩ := All2_cons g2
  cases All2_nil g3
  obtain ⟨v0, rfl⟩ := Row_bool Tryz.underlying4 h0
  obtain ⟨v1, rfl⟩ := of_SumS h1
  obtain ⟨v2, rfl, _⟩ := Row_string Tryz.underlying9 h2
  exact ⟨⟨v0, v1, v2⟩, rfl⟩

theorem arg_Arg {f : Nat} {a : AV} (h : ArgOf Tryz.prog (f + 6) 202 a) : ∃ x : DArg, a = .agg (rAArg x) := by
  obtain ⟨row, rfl, h1⟩ := ArgOf_struct Tryz.underlying202 h
  obtain ⟨x, rfl⟩ := of_Arg h1
  exact ⟨x, rfl⟩

theorem of_ArgS {f : Nat} {r : List AV} (h : Row Tryz.prog (f + 7) 290 r) : ∃ x : List DArg, r = [.sl 3 (x.map rAArg)] := by
  obtain ⟨rows, rfl, _, hr⟩ := Row_slice Tryz.underlying290 h
  obtain ⟨l, rfl⟩ := list_of_rows (f := rAArg) (fun r h => of_Arg h) hr
  exact ⟨l, by rw [show Tryz.prog.cellsOf 202 = 3 by kernel_rfl]⟩

theorem arg_ArgS {f : Nat} {a : AV} (h : ArgOf Tryz.prog (f + 7) 290 a) : ∃ x : List DArg, a = .sl 3 (x.map rAArg) := by
  obtain ⟨x, hx⟩ := of_ArgS (ArgOf_slice Tryz.underlying290 h)
  exact ⟨x, by simpa using hx⟩

theorem of_StringS {f : Nat} {r : List AV} (h : Row Tryz.prog (f + 2) 54 r) : ∃ x : List Str, r = [.sl 1 (strsR x)] := by
  obtain ⟨rows, rfl, _, hr⟩ := Row_slice Tryz.underlying54 h
  obtain ⟨l, rfl⟩ := list_of_rows (f := fun s : Str => [.str s]) (fun r h => (Row_string Tryz.underlying9 h).elim fun l h => ⟨l, h.1⟩) hr
  exact ⟨l, by rw [show Tryz.prog.cellsOf 9 = 1 by kernel_rfl]; rfl⟩

theorem arg_StringS {f : Nat} {a : AV} (h : ArgOf Tryz.prog (f + 2) 54 a) : ∃ x : List Str, a = .sl 1 (strsR x) := by
  obtain ⟨x, hx⟩ := of_StringS (ArgOf_slice Tryz.underlying54 h)
  exact ⟨x, by simpa using hx⟩

theorem of_Function {f : Nat} {r : List AV} (h : Row Tryz.prog (f + 5) 196 r) : ∃ x : DFunction, r = rAFunction x := by
  obtain ⟨parts, rfl, g0⟩ := Row_struct Tryz.underlying196 h
  obtain ⟨x0, m1, rfl, h0, g1⟩ := All2_cons g0
  obtain ⟨x1, m2, rfl, h1, g2⟩ := All2_cons g1
  obtain ⟨x2, m3, rfl, h2, g3⟩ := All2_cons g2
  obtain ⟨x3, m4, rfl, h3, g4⟩ := All2_cons g3
  cases All2_nil g4
  obtain ⟨v0, rfl, _⟩ := Row_string Tryz.underlying9 h0
  obtain ⟨v1, rfl⟩ := of_StringS h1
  obtain ⟨v2, rfl⟩ := Row_bool Tryz.underlying4 h2
  obtain ⟨v3, rfl⟩ := of_LinS h3
  exact ⟨⟨v0, v1, v2, v3⟩, rfl⟩

theorem arg_Function {f : Nat} {a : AV} (h : ArgOf Tryz.prog (f + 5) 196 a) : ∃ x : DFunction, a = .agg (rAFunction x) := by
  obtain ⟨row, rfl, h1⟩ := ArgOf_struct Tryz.underlying196 h
  obtain ⟨x, rfl⟩ := of_Function h1
  exact ⟨x, rfl⟩

theorem of_FunctionS {f : Nat} {r : List AV} (h : Row Tryz.prog (f + 6) 22 r) : ∃ x : List DFunction, r = [.sl 4 (x.map rAFunction)] := by
  obtain ⟨rows, rfl, _, hr⟩ := Row_slice Tryz.underlying22 h
  obtain ⟨l, rfl⟩ := list_of_rows (f := rAFunction) (fun r h => of_Function h) hr
  exact ⟨l, by rw [show Tryz.prog.cellsOf 196 = 4 by kernel_rfl]⟩

theorem arg_FunctionS {f : Nat} {a : AV} (h : ArgOf Tryz.prog (f + 6) 22 a) : ∃ x : List DFunction, a = .sl 4 (x.map rAFunction) := by
  obtain ⟨x, hx⟩ := of_FunctionS (ArgOf_slice Tryz.underlying22 h)
  exact ⟨x, by simpa using hx⟩

theorem of_Pattern {f : Nat} {r : List AV} (h : Row Tryz.prog (f + 2) 284 r) : ∃ x : DPattern, r = rAPattern x := by
  obtain ⟨parts, rfl, g0⟩ := Row_struct Tryz.underlying284 h
  obtain ⟨x0, m1, rfl, h0, g1⟩ := All2_cons g0
  obtain ⟨x1, m2, rfl, h1, g2⟩ := All2_cons g1
  obtain ⟨x2, m3, rfl, h2, g3⟩ := All2_cons g2
  obtain ⟨x3, m4, rfl, h3, g4⟩ := All2_cons g3
  cases All2_nil g4
  obtain ⟨v0, rfl, _⟩ := Row_string Tryz.underlying9 h0
  obtain ⟨v1, rfl⟩ := Row_bool Tryz.underlying4 h1
  obtain ⟨v2, rfl, _⟩ := Row_string Tryz.underlying9 h2
  obtain ⟨v3, rfl, _⟩ := Row_string Tryz.underlying9 h3
  exact ⟨⟨v0, v1, v2, v3⟩, rfl⟩

theorem arg_Pattern {f : Nat} {a : AV} (h : ArgOf Tryz.prog (f + 2) 284 a) : ∃ x : DPattern, a = .agg (rAPattern x) := by
  obtain ⟨row, rfl, h1⟩ := ArgOf_struct Tryz.underlying284 h
  obtain ⟨x, rfl⟩ := of_Pattern h1
  exact ⟨x, rfl⟩

theorem of_PatternS {f : Nat} {r : List AV} (h : Row Tryz.prog (f + 3) 198 r) : ∃ x : List DPattern, r = [.sl 4 (x.map rAPattern)] := by
  obtain ⟨rows, rfl, _, hr⟩ := Row_slice Tryz.underlying198 h
  obtain ⟨l, rfl⟩ := list_of_rows (f := rAPattern) (fun r h => of_Pattern h) hr
  exact ⟨l, by rw [show Tryz.prog.cellsOf 284 = 4 by kernel_rfl]⟩

theorem arg_PatternS {f : Nat} {a : AV} (h : ArgOf Tryz.prog (f + 3) 198 a) : ∃ x : List DPattern, a = .sl 4 (x.map rAPattern) := by
  obtain ⟨x, hx⟩ := of_PatternS (ArgOf_slice Tryz.underlying198 h)
  exact ⟨x, by simpa using hx⟩

theorem of_Call {f : Nat} {r : List AV} (h : Row Tryz.prog (f + 8) 292 r) : ∃ x : DCall, r = rACall x := by
  obtain ⟨parts, rfl, g0⟩ := Row_struct Tryz.underlying292 h
  obtain ⟨x0, m1, rfl, h0, g1⟩ := All2_cons g0
  obtain ⟨x1, m2, rfl, h1, g2⟩ := All2_cons g1
  obtain ⟨x2, m3, rfl, h2, g3⟩ := All2_cons g2
  cases All2_nil g3
  obtain ⟨v0, rfl, _⟩ := Row_string Tryz.underlying9 h0
  obtain ⟨v1, rfl, _⟩ := Row_string Tryz.underlying9 h1
  obtain ⟨v2, rfl⟩ := of_ArgS h2
  exact ⟨⟨v0, v1, v2⟩, rfl⟩

theorem arg_Call {f : Nat} {a : AV} (h : ArgOf Tryz.prog (f + 8) 292 a) : ∃ x : DCall, a = .agg (rACall x) := by
  obtain ⟨row, rfl, h1⟩ := ArgOf_struct Tryz.underlying292 h
  obtain ⟨x, rfl⟩ := of_Call h1
  exact ⟨x, rfl⟩

theorem of_CallS {f : Nat} {r : List AV} (h : Row Tryz.prog (f + 9) 200 r) : ∃ x : List DCall, r = [.sl 3 (x.map rACall)] := by
  obtain ⟨rows, rfl, _, hr⟩ := Row_slice Tryz.underlying200 h
  obtain ⟨l, rfl⟩ := list_of_rows (f := rACall) (fun r h => of_Call h) hr
  exact ⟨l, by rw [show Tryz.prog.cellsOf 292 = 3 by kernel_rfl]⟩

theorem arg_CallS {f : Nat} {a : AV} (h : ArgOf Tryz.prog (f + 9) 200 a) : ∃ x : List DCall, a = .sl 3 (x.map rACall) := by
  obtain ⟨x, hx⟩ := of_CallS (ArgOf_slice Tryz.underlying200 h)
  exact ⟨x, by simpa using hx⟩

theorem of_Rule {f : Nat} {r : List AV} (h : Row Tryz.prog (f + 10) 204 r) : ∃ x : DRule, r = rARule x := by
  obtain ⟨parts, rfl, g0⟩ := Row_struct Tryz.underlying204 h
  obtain ⟨x0, m1, rfl, h0, g1⟩ := All2_cons g0
  obtain ⟨x1, m2, rfl, h1, g2⟩ := All2_cons g1
  obtain ⟨x2, m3, rfl, h2, g3⟩ := All2_cons g2
  obtain ⟨x3, m4, rfl, h3, g4⟩ := All2_cons g3
  obtain ⟨x4, m5, rfl, h4, g5⟩ := All2_cons g4
  cases All2_nil g5
  obtain ⟨v0, rfl, _⟩ := Row_string Tryz.underlying9 h0
  obtain ⟨v1, rfl⟩ := of_PatternS h1
  obtain ⟨v2, rfl⟩ := of_SumS h2
  obtain ⟨v3, rfl⟩ := of_CallS h3
  obtain ⟨v4, rfl⟩ := of_Arg h4
  exact ⟨⟨v0, v1, v2, v3, v4⟩, rfl⟩

theorem arg_Rule {f : Nat} {a : AV} (h : ArgOf Tryz.prog (f + 10) 204 a) : ∃ x : DRule, a = .agg (rARule x) := by
  obtain ⟨row, rfl, h1⟩ := ArgOf_struct Tryz.underlying204 h
  obtain ⟨x, rfl⟩ := of_Rule h1
  exact ⟨x, rfl⟩

theorem of_RuleS {f : Nat} {r : List AV} (h : Row Tryz.prog (f + 11) 23 r) : ∃ x : List DRule, r = [.sl 7 (x.map rARule)] := by
  obtain ⟨rows, rfl, _, hr⟩ := Row_slice Tryz.underlying23 h
  obtain ⟨l, rfl⟩ := list_of_rows (f := rARule) (fun r h => of_Rule h) hr
  exact ⟨l, by rw [show Tryz.prog.cellsOf 204 = 7 by kernel_rfl]⟩

theorem arg_RuleS {f : Nat} {a : AV} (h : ArgOf Tryz.prog (f + 11) 23 a) : ∃ x : List DRule, a = .sl 7 (x.map rARule) := by
  obtain ⟨x, hx⟩ := of_RuleS (ArgOf_slice Tryz.underlying23 h)
  exact ⟨x, by simpa using hx⟩

theorem of_Program {f : Nat} {r : List AV} (h : Row Tryz.prog (f + 12) 25 r) : ∃ x : DProgram, r = rAProgram x := by
  obtain ⟨parts, rfl, g0⟩ := Row_struct Tryz.underlying25 h
  obtain ⟨x0, m1, rfl, h0, g1⟩ := All2_cons g0
  obtain ⟨x1, m2, rfl, h1, g2⟩ := All2_cons g1
  cases All2_nil g2
  obtain ⟨v0, rfl⟩ := of_FunctionS h0
  obtain ⟨v1, rfl⟩ := of_RuleS h1
  exact ⟨⟨v0, v1⟩, rfl⟩

theorem arg_Program {f : Nat} {a : AV} (h : ArgOf Tryz.prog (f + 12) 25 a) : ∃ x : DProgram, a = .agg (rAProgram x) := by
  obtain ⟨row, rfl, h1⟩ := ArgOf_struct Tryz.underlying25 h
  obtain ⟨x, rfl⟩ := of_Program h1
  exact ⟨x, rfl⟩

theorem of_Value {f : Nat} {r : List AV} (h : Row Tryz.prog (f + 3) 131 r) : ∃ x : DValue, r = rAValue x := by
  obtain ⟨parts, rfl, g0⟩ := Row_struct Tryz.underlying131 h
  obtain ⟨x0, m1, rfl, h0, g1⟩ := All2_cons g0
  obtain ⟨x1, m2, rfl, h1, g2⟩ := All2_cons g1
  obtain ⟨x2, m3, rfl, h2, g3⟩ := All2_cons g2
  cases All2_nil g3
  obtain ⟨v0, rfl⟩ := Row_bool Tryz.underlying4 h0
  obtain ⟨v1, rfl, _⟩ := Row_int Tryz.underlying3 h1
  obtain ⟨v2, rfl⟩ := of_IntS h2
  exact ⟨⟨v0, v1, v2⟩, rfl⟩

theorem arg_Value {f : Nat} {a : AV} (h : ArgOf Tryz.prog (f + 3) 131 a) : ∃ x : DValue, a = .agg (rAValue x) := by
  obtain ⟨row, rfl, h1⟩ := ArgOf_struct Tryz.underlying131 h
  obtain ⟨x, rfl⟩ := of_Value h1
  exact ⟨x, rfl⟩

theorem of_ValueS {f : Nat} {r : List AV} (h : Row Tryz.prog (f + 4) 47 r) : ∃ x : List DValue, r = [.sl 3 (x.map rAValue)] := by
  obtain ⟨rows, rfl, _, hr⟩ := Row_slice Tryz.underlying47 h
  obtain ⟨l, rfl⟩ := list_of_rows (f := rAValue) (fun r h => of_Value h) hr
  exact ⟨l, by rw [show Tryz.prog.cellsOf 131 = 3 by kernel_rfl]⟩

theorem arg_ValueS {f : Nat} {a : AV} (h : ArgOf Tryz.prog (f + 4) 47 a) : ∃ x : List DValue, a = .sl 3 (x.map rAValue) := by
  obtain ⟨x, hx⟩ := of_ValueS (ArgOf_slice Tryz.underlying47 h)
  exact ⟨x, by simpa using hx⟩

theorem of_Bounds {f : Nat} {r : List AV} (h : Row Tryz.prog (f + 5) 97 r) : ∃ x : DBounds, r = rABounds x := by
  obtain ⟨parts, rfl, g0⟩ := Row_struct Tryz.underlying97 h
  obtain ⟨x0, m1, rfl, h0, g1⟩ := All2_cons g0
  obtain ⟨x1, m2, rfl, h1, g2⟩ := All2_cons g1
  cases All2_nil g2
  obtain ⟨v0, rfl, _⟩ := Row_int Tryz.underlying3 h0
  obtain ⟨v1, rfl⟩ := of_LinS h1
  exact ⟨⟨v0, v1⟩, rfl⟩

theorem arg_Bounds {f : Nat} {a : AV} (h : ArgOf Tryz.prog (f + 5) 97 a) : ∃ x : DBounds, a = .agg (rABounds x) := by
  obtain ⟨row, rfl, h1⟩ := ArgOf_struct Tryz.underlying97 h
  obtain ⟨x, rfl⟩ := of_Bounds h1
  exact ⟨x, rfl⟩

theorem of_Edge {f : Nat} {r : List AV} (h : Row Tryz.prog (f + 2) 27 r) : ∃ x : DEdge, r = rAEdge x := by
  obtain ⟨parts, rfl, g0⟩ := Row_struct Tryz.underlying27 h
  obtain ⟨x0, m1, rfl, h0, g1⟩ := All2_cons g0
  obtain ⟨x1, m2, rfl, h1, g2⟩ := All2_cons g1
  cases All2_nil g2
  obtain ⟨v0, rfl, _⟩ := Row_int Tryz.underlying3 h0
  obtain ⟨v1, rfl, _⟩ := Row_int Tryz.underlying3 h1
  exact ⟨⟨v0, v1⟩, rfl⟩

theorem arg_Edge {f : Nat} {a : AV} (h : ArgOf Tryz.prog (f + 2) 27 a) : ∃ x : DEdge, a = .agg (rAEdge x) := by
  obtain ⟨row, rfl, h1⟩ := ArgOf_struct Tryz.underlying27 h
  obtain ⟨x, rfl⟩ := of_Edge h1
  exact ⟨x, rfl⟩

end Go.Proofs.YtlmajgghnenbpaaGreat

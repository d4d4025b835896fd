/- The parameters of the laws, opened. -/
import Derived.Test.YtlbdgpkgmheikaaT1
import Derived.Test.YtlbdgpkgmheikaaR31
import Derived.Test.YtlbdgpkgmheikaaProg
namespace Go.Proofs.Ytlbdgpkgmheikaa
set_option linter.all false
open Go Go.RowKit Go.Proofs Go.ChangeShapes Go.WideShapes

theorem Try.own : ownKnob Try.prog.godebug = none := by kernel_rfl
theorem Try.laidOut : laidOutB Try.prog = true := by kernel_rfl
theorem list_of_rows {α : Type} {P : List AV → Prop} {f : α → List AV} (hP : ∀ r, P r → ∃ x, r = f x) : ∀ {rows : List (List AV)}, (∀ r ∈ rows, P r) → ∃ l : List α, rows = l.map f
  | [], _ => ⟨[], rfl⟩
  | r :: rows, h => by
    obtain ⟨x, rfl⟩ := hP r (h _ List.mem_cons_self)
    obtain ⟨l, rfl⟩ := list_of_rows hP fun r hr => h r (List.mem_cons_of_mem _ hr)
    exact ⟨x :: l, rfl⟩
theorem ArgOf_slice {P : Program} {f : Nat} {t e : TypeId} {a : AV} (hu : P.underlying t = some (.slice e)) (h : ArgOf P f t a) : Row P f t [a] := by simpa only [ArgOf, hu] using h
theorem ArgOf_int {P : Program} {f : Nat} {t : TypeId} {k : IntKind} {a : AV} (hu : P.underlying t = some (.int k)) (h : ArgOf P (f + 1) t a) : ∃ n, a = .int k n ∧ (Lit.int k n).wf = true := by
  have h : Row P (f + 1) t [a] := by simpa only [ArgOf, hu] using h
  obtain ⟨n, h1, h2⟩ := Row_int hu h
  exact ⟨n, by simpa using h1, h2⟩
theorem ArgOf_string {P : Program} {f : Nat} {t : TypeId} {a : AV} (hu : P.underlying t = some .string) (h : ArgOf P (f + 1) t a) : ∃ l : Str, a = .str l ∧ l.length ≤ LIM := by
  have h : Row P (f + 1) t [a] := by simpa only [ArgOf, hu] using h
  obtain ⟨n, h1, h2⟩ := Row_string hu h
  exact ⟨n, by simpa using h1, h2⟩
set_option maxRecDepth 100000

theorem of_IntS {f : Nat} {r : List AV} (h : Row Try.prog (f + 2) 22 r) : ∃ x : List Int, r = [.sl 1 (intsR x)] := by
  obtain ⟨l, rfl⟩ := ints_of Try.underlying22 Try.underlying3 (by kernel_rfl) h
  exact ⟨l, rfl⟩

theorem arg_IntS {f : Nat} {a : AV} (h : ArgOf Try.prog (f + 2) 22 a) : ∃ x : List Int, a = .sl 1 (intsR x) := by
  obtain ⟨x, hx⟩ := of_IntS (ArgOf_slice Try.underlying22 h)
  exact ⟨x, by simpa using hx⟩

theorem of_Lin {f : Nat} {r : List AV} (h : Row Try.prog (f + 3) 24 r) : ∃ x : DLin, r = rALin x := by
  obtain ⟨parts, rfl, g0⟩ := Row_struct Try.underlying24 h
  obtain ⟨x0, m1, rfl, h0, g1⟩ := All2_cons g0
  obtain ⟨x1, m2, rfl, h1, g2⟩ := All2_cons g1
  cases All2_nil g2
  obtain ⟨v0, rfl, _⟩ := Row_int Try.underlying3 h0
  obtain ⟨v1, rfl⟩ := of_IntS h1
  exact ⟨⟨v0, v1⟩, rfl⟩

theorem arg_Lin {f : Nat} {a : AV} (h : ArgOf Try.prog (f + 3) 24 a) : ∃ x : DLin, a = .agg (rALin x) := by
  obtain ⟨row, rfl, h1⟩ := ArgOf_struct Try.underlying24 h
  obtain ⟨x, rfl⟩ := of_Lin h1
  exact ⟨x, rfl⟩

theorem of_LinS {f : Nat} {r : List AV} (h : Row Try.prog (f + 4) 25 r) : ∃ x : List DLin, r = [.sl 2 (x.map rALin)] := by
  obtain ⟨rows, rfl, _, hr⟩ := Row_slice Try.underlying25 h
  obtain ⟨l, rfl⟩ := list_of_rows (f := rALin) (fun r h => of_Lin h) hr
  exact ⟨l, by rw [show Try.prog.cellsOf 24 = 2 by kernel_rfl]⟩

theorem arg_LinS {f : Nat} {a : AV} (h : ArgOf Try.prog (f + 4) 25 a) : ∃ x : List DLin, a = .sl 2 (x.map rALin) := by
  obtain ⟨x, hx⟩ := of_LinS (ArgOf_slice Try.underlying25 h)
  exact ⟨x, by simpa using hx⟩

theorem of_System {f : Nat} {r : List AV} (h : Row Try.prog (f + 5) 59 r) : ∃ x : DSystem, r = rASystem x := by
  obtain ⟨parts, rfl, g0⟩ := Row_struct Try.underlying59 h
  obtain ⟨x0, m1, rfl, h0, g1⟩ := All2_cons g0
  obtain ⟨x1, m2, rfl, h1, g2⟩ := All2_cons g1
  cases All2_nil g2
  obtain ⟨v0, rfl, _⟩ := Row_int Try.underlying3 h0
  obtain ⟨v1, rfl⟩ := of_LinS h1
  exact ⟨⟨v0, v1⟩, rfl⟩

theorem arg_System {f : Nat} {a : AV} (h : ArgOf Try.prog (f + 5) 59 a) : ∃ x : DSystem, a = .agg (rASystem x) := by
  obtain ⟨row, rfl, h1⟩ := ArgOf_struct Try.underlying59 h
  obtain ⟨x, rfl⟩ := of_System h1
  exact ⟨x, rfl⟩

theorem of_Farkas {f : Nat} {r : List AV} (h : Row Try.prog (f + 3) 161 r) : ∃ x : DFarkas, r = rAFarkas x := by
  obtain ⟨parts, rfl, g0⟩ := Row_struct Try.underlying161 h
  obtain ⟨x0, m1, rfl, h0, g1⟩ := All2_cons g0
  obtain ⟨x1, m2, rfl, h1, g2⟩ := All2_cons g1
  cases All2_nil g2
  obtain ⟨v0, rfl, _⟩ := Row_int Try.underlying3 h0
  obtain ⟨v1, rfl⟩ := of_IntS h1
  exact ⟨⟨v0, v1⟩, rfl⟩

theorem arg_Farkas {f : Nat} {a : AV} (h : ArgOf Try.prog (f + 3) 161 a) : ∃ x : DFarkas, a = .agg (rAFarkas x) := by
  obtain ⟨row, rfl, h1⟩ := ArgOf_struct Try.underlying161 h
  obtain ⟨x, rfl⟩ := of_Farkas h1
  exact ⟨x, rfl⟩

theorem of_FarkasS {f : Nat} {r : List AV} (h : Row Try.prog (f + 4) 75 r) : ∃ x : List DFarkas, r = [.sl 2 (x.map rAFarkas)] := by
  obtain ⟨rows, rfl, _, hr⟩ := Row_slice Try.underlying75 h
  obtain ⟨l, rfl⟩ := list_of_rows (f := rAFarkas) (fun r h => of_Farkas h) hr
  exact ⟨l, by rw [show Try.prog.cellsOf 161 = 2 by kernel_rfl]⟩

theorem arg_FarkasS {f : Nat} {a : AV} (h : ArgOf Try.prog (f + 4) 75 a) : ∃ x : List DFarkas, a = .sl 2 (x.map rAFarkas) := by
  obtain ⟨x, hx⟩ := of_FarkasS (ArgOf_slice Try.underlying75 h)
  exact ⟨x, by simpa using hx⟩

theorem of_Term {f : Nat} {r : List AV} (h : Row Try.prog (f + 2) 262 r) : ∃ x : DTerm, r = rATerm x := by
  obtain ⟨parts, rfl, g0⟩ := Row_struct Try.underlying262 h
  obtain ⟨x0, m1, rfl, h0, g1⟩ := All2_cons g0
  obtain ⟨x1, m2, rfl, h1, g2⟩ := All2_cons g1
  cases All2_nil g2
  obtain ⟨v0, rfl, _⟩ := Row_int Try.underlying3 h0
  obtain ⟨v1, rfl, _⟩ := Row_string Try.underlying9 h1
  exact ⟨⟨v0, v1⟩, rfl⟩

theorem arg_Term {f : Nat} {a : AV} (h : ArgOf Try.prog (f + 2) 262 a) : ∃ x : DTerm, a = .agg (rATerm x) := by
  obtain ⟨row, rfl, h1⟩ := ArgOf_struct Try.underlying262 h
  obtain ⟨x, rfl⟩ := of_Term h1
  exact ⟨x, rfl⟩

theorem of_TermS {f : Nat} {r : List AV} (h : Row Try.prog (f + 3) 206 r) : ∃ x : List DTerm, r = [.sl 2 (x.map rATerm)] := by
  obtain ⟨rows, rfl, _, hr⟩ := Row_slice Try.underlying206 h
  obtain ⟨l, rfl⟩ := list_of_rows (f := rATerm) (fun r h => of_Term h) hr
  exact ⟨l, by rw [show Try.prog.cellsOf 262 = 2 by kernel_rfl]⟩

theorem arg_TermS {f : Nat} {a : AV} (h : ArgOf Try.prog (f + 3) 206 a) : ∃ x : List DTerm, a = .sl 2 (x.map rATerm) := by
  obtain ⟨x, hx⟩ := of_TermS (ArgOf_slice Try.underlying206 h)
  exact ⟨x, by simpa using hx⟩

theorem of_Sum {f : Nat} {r : List AV} (h : Row Try.prog (f + 4) 208 r) : ∃ x : DSum, r = rASum x := by
  obtain ⟨parts, rfl, g0⟩ := Row_struct Try.underlying208 h
  obtain ⟨x0, m1, rfl, h0, g1⟩ := All2_cons g0
  obtain ⟨x1, m2, rfl, h1, g2⟩ := All2_cons g1
  cases All2_nil g2
  obtain ⟨v0, rfl, _⟩ := Row_int Try.underlying3 h0
  obtain ⟨v1, rfl⟩ := of_TermS h1
  exact ⟨⟨v0, v1⟩, rfl⟩

theorem arg_Sum {f : Nat} {a : AV} (h : ArgOf Try.prog (f + 4) 208 a) : ∃ x : DSum, a = .agg (rASum x) := by
  obtain ⟨row, rfl, h1⟩ := ArgOf_struct Try.underlying208 h
  obtain ⟨x, rfl⟩ := of_Sum h1
  exact ⟨x, rfl⟩

theorem of_SumS {f : Nat} {r : List AV} (h : Row Try.prog (f + 5) 40 r) : ∃ x : List DSum, r = [.sl 2 (x.map rASum)] := by
  obtain ⟨rows, rfl, _, hr⟩ := Row_slice Try.underlying40 h
  obtain ⟨l, rfl⟩ := list_of_rows (f := rASum) (fun r h => of_Sum h) hr
  exact ⟨l, by rw [show Try.prog.cellsOf 208 = 2 by kernel_rfl]⟩

theorem arg_SumS {f : Nat} {a : AV} (h : ArgOf Try.prog (f + 5) 40 a) : ∃ x : List DSum, a = .sl 2 (x.map rASum) := by
  obtain ⟨x, hx⟩ := of_SumS (ArgOf_slice Try.underlying40 h)
  exact ⟨x, by simpa using hx⟩

theorem of_Arg {f : Nat} {r : List AV} (h : Row Try.prog (f + 6) 43 r) : ∃ x : DArg, r = rAArg x := by
  obtain ⟨parts, rfl, g0⟩ := Row_struct Try.underlying43 h
  obtain ⟨x0, m1, rfl, h0, g1⟩ := All2_cons g0
  obtain ⟨x1, m2, rfl, h1, g2⟩ := All2_cons g1
  obtain ⟨x2, m3, rfl, h2, g3⟩ := All2_cons g2
  cases All2_nil g3
  obtain ⟨v0, rfl⟩ := Row_bool Try.underlying4 h0
  obtain ⟨v1, rfl⟩ := of_SumS h1
  obtain ⟨v2, rfl, _⟩ := Row_string Try.underlying9 h2
  exact ⟨⟨v0, v1, v2⟩, rfl⟩

theorem arg_Arg {f : Nat} {a : AV} (h : ArgOf Try.prog (f + 6) 43 a) : ∃ x : DArg, a = .agg (rAArg x) := by
  obtain ⟨row, rfl, h1⟩ := ArgOf_struct Try.underlying43 h
  obtain ⟨x, rfl⟩ := of_Arg h1
  exact ⟨x, rfl⟩

theorem of_ArgS {f : Nat} {r : List AV} (h : Row Try.prog (f + 7) 210 r) : ∃ x : List DArg, r = [.sl 3 (x.map rAArg)] := by
  obtain ⟨rows, rfl, _, hr⟩ := Row_slice Try.underlying210 h
  obtain ⟨l, rfl⟩ := list_of_rows (f := rAArg) (fun r h => of_Arg h) hr
  exact ⟨l, by rw [show Try.prog.cellsOf 43 = 3 by kernel_rfl]⟩

theorem arg_ArgS {f : Nat} {a : AV} (h : ArgOf Try.prog (f + 7) 210 a) : ∃ x : List DArg, a = .sl 3 (x.map rAArg) := by
  obtain ⟨x, hx⟩ := of_ArgS (ArgOf_slice Try.underlying210 h)
  exact ⟨x, by simpa using hx⟩

theorem of_StringS {f : Nat} {r : List AV} (h : Row Try.prog (f + 2) 89 r) : ∃ x : List Str, r = [.sl 1 (strsR x)] := by
  obtain ⟨rows, rfl, _, hr⟩ := Row_slice Try.underlying89 h
  obtain ⟨l, rfl⟩ := list_of_rows (f := fun s : Str => [.str s]) (fun r h => (Row_string Try.underlying9 h).elim fun l h => ⟨l, h.1⟩) hr
  exact ⟨l, by rw [show Try.prog.cellsOf 9 = 1 by kernel_rfl]; rfl⟩

theorem arg_StringS {f : Nat} {a : AV} (h : ArgOf Try.prog (f + 2) 89 a) : ∃ x : List Str, a = .sl 1 (strsR x) := by
  obtain ⟨x, hx⟩ := of_StringS (ArgOf_slice Try.underlying89 h)
  exact ⟨x, by simpa using hx⟩

theorem of_Function {f : Nat} {r : List AV} (h : Row Try.prog (f + 5) 236 r) : ∃ x : DFunction, r = rAFunction x := by
  obtain ⟨parts, rfl, g0⟩ := Row_struct Try.underlying236 h
  obtain ⟨x0, m1, rfl, h0, g1⟩ := All2_cons g0
  obtain ⟨x1, m2, rfl, h1, g2⟩ := All2_cons g1
  obtain ⟨x2, m3, rfl, h2, g3⟩ := All2_cons g2
  obtain ⟨x3, m4, rfl, h3, g4⟩ := All2_cons g3
  cases All2_nil g4
  obtain ⟨v0, rfl, _⟩ := Row_string Try.underlying9 h0
  obtain ⟨v1, rfl⟩ := of_StringS h1
  obtain ⟨v2, rfl⟩ := Row_bool Try.underlying4 h2
  obtain ⟨v3, rfl⟩ := of_LinS h3
  exact ⟨⟨v0, v1, v2, v3⟩, rfl⟩

theorem arg_Function {f : Nat} {a : AV} (h : ArgOf Try.prog (f + 5) 236 a) : ∃ x : DFunction, a = .agg (rAFunction x) := by
  obtain ⟨row, rfl, h1⟩ := ArgOf_struct Try.underlying236 h
  obtain ⟨x, rfl⟩ := of_Function h1
  exact ⟨x, rfl⟩

theorem of_FunctionS {f : Nat} {r : List AV} (h : Row Try.prog (f + 6) 102 r) : ∃ x : List DFunction, r = [.sl 4 (x.map rAFunction)] := by
  obtain ⟨rows, rfl, _, hr⟩ := Row_slice Try.underlying102 h
  obtain ⟨l, rfl⟩ := list_of_rows (f := rAFunction) (fun r h => of_Function h) hr
  exact ⟨l, by rw [show Try.prog.cellsOf 236 = 4 by kernel_rfl]⟩

theorem arg_FunctionS {f : Nat} {a : AV} (h : ArgOf Try.prog (f + 6) 102 a) : ∃ x : List DFunction, a = .sl 4 (x.map rAFunction) := by
  obtain ⟨x, hx⟩ := of_FunctionS (ArgOf_slice Try.underlying102 h)
  exact ⟨x, by simpa using hx⟩

theorem of_Pattern {f : Nat} {r : List AV} (h : Row Try.prog (f + 2) 204 r) : ∃ x : DPattern, r = rAPattern x := by
  obtain ⟨parts, rfl, g0⟩ := Row_struct Try.underlying204 h
  obtain ⟨x0, m1, rfl, h0, g1⟩ := All2_cons g0
  obtain ⟨x1, m2, rfl, h1, g2⟩ := All2_cons g1
  obtain ⟨x2, m3, rfl, h2, g3⟩ := All2_cons g2
  obtain ⟨x3, m4, rfl, h3, g4⟩ := All2_cons g3
  cases All2_nil g4
  obtain ⟨v0, rfl, _⟩ := Row_string Try.underlying9 h0
  obtain ⟨v1, rfl⟩ := Row_bool Try.underlying4 h1
  obtain ⟨v2, rfl, _⟩ := Row_string Try.underlying9 h2
  obtain ⟨v3, rfl, _⟩ := Row_string Try.underlying9 h3
  exact ⟨⟨v0, v1, v2, v3⟩, rfl⟩

theorem arg_Pattern {f : Nat} {a : AV} (h : ArgOf Try.prog (f + 2) 204 a) : ∃ x : DPattern, a = .agg (rAPattern x) := by
  obtain ⟨row, rfl, h1⟩ := ArgOf_struct Try.underlying204 h
  obtain ⟨x, rfl⟩ := of_Pattern h1
  exact ⟨x, rfl⟩

theorem of_PatternS {f : Nat} {r : List AV} (h : Row Try.prog (f + 3) 39 r) : ∃ x : List DPattern, r = [.sl 4 (x.map rAPattern)] := by
  obtain ⟨rows, rfl, _, hr⟩ := Row_slice Try.underlying39 h
  obtain ⟨l, rfl⟩ := list_of_rows (f := rAPattern) (fun r h => of_Pattern h) hr
  exact ⟨l, by rw [show Try.prog.cellsOf 204 = 4 by kernel_rfl]⟩

theorem arg_PatternS {f : Nat} {a : AV} (h : ArgOf Try.prog (f + 3) 39 a) : ∃ x : List DPattern, a = .sl 4 (x.map rAPattern) := by
  obtain ⟨x, hx⟩ := of_PatternS (ArgOf_slice Try.underlying39 h)
  exact ⟨x, by simpa using hx⟩

theorem of_Call {f : Nat} {r : List AV} (h : Row Try.prog (f + 8) 212 r) : ∃ x : DCall, r = rACall x := by
  obtain ⟨parts, rfl, g0⟩ := Row_struct Try.underlying212 h
  obtain ⟨x0, m1, rfl, h0, g1⟩ := All2_cons g0
  obtain ⟨x1, m2, rfl, h1, g2⟩ := All2_cons g1
  obtain ⟨x2, m3, rfl, h2, g3⟩ := All2_cons g2
  cases All2_nil g3
  obtain ⟨v0, rfl, _⟩ := Row_string Try.underlying9 h0
  obtain ⟨v1, rfl, _⟩ := Row_string Try.underlying9 h1
  obtain ⟨v2, rfl⟩ := of_ArgS h2
  exact ⟨⟨v0, v1, v2⟩, rfl⟩

theorem arg_Call {f : Nat} {a : AV} (h : ArgOf Try.prog (f + 8) 212 a) : ∃ x : DCall, a = .agg (rACall x) := by
  obtain ⟨row, rfl, h1⟩ := ArgOf_struct Try.underlying212 h
  obtain ⟨x, rfl⟩ := of_Call h1
  exact ⟨x, rfl⟩

theorem of_CallS {f : Nat} {r : List AV} (h : Row Try.prog (f + 9) 41 r) : ∃ x : List DCall, r = [.sl 3 (x.map rACall)] := by
  obtain ⟨rows, rfl, _, hr⟩ := Row_slice Try.underlying41 h
  obtain ⟨l, rfl⟩ := list_of_rows (f := rACall) (fun r h => of_Call h) hr
  exact ⟨l, by rw [show Try.prog.cellsOf 212 = 3 by kernel_rfl]⟩

theorem arg_CallS {f : Nat} {a : AV} (h : ArgOf Try.prog (f + 9) 41 a) : ∃ x : List DCall, a = .sl 3 (x.map rACall) := by
  obtain ⟨x, hx⟩ := of_CallS (ArgOf_slice Try.underlying41 h)
  exact ⟨x, by simpa using hx⟩

theorem of_Rule {f : Nat} {r : List AV} (h : Row Try.prog (f + 10) 45 r) : ∃ x : DRule, r = rARule x := by
  obtain ⟨parts, rfl, g0⟩ := Row_struct Try.underlying45 h
  obtain ⟨x0, m1, rfl, h0, g1⟩ := All2_cons g0
  obtain ⟨x1, m2, rfl, h1, g2⟩ := All2_cons g1
  obtain ⟨x2, m3, rfl, h2, g3⟩ := All2_cons g2
  obtain ⟨x3, m4, rfl, h3, g4⟩ := All2_cons g3
  obtain ⟨x4, m5, rfl, h4, g5⟩ := All2_cons g4
  cases All2_nil g5
  obtain ⟨v0, rfl, _⟩ := Row_string Try.underlying9 h0
  obtain ⟨v1, rfl⟩ := of_PatternS h1
  obtain ⟨v2, rfl⟩ := of_SumS h2
  obtain ⟨v3, rfl⟩ := of_CallS h3
  obtain ⟨v4, rfl⟩ := of_Arg h4
  exact ⟨⟨v0, v1, v2, v3, v4⟩, rfl⟩

theorem arg_Rule {f : Nat} {a : AV} (h : ArgOf Try.prog (f + 10) 45 a) : ∃ x : DRule, a = .agg (rARule x) := by
  obtain ⟨row, rfl, h1⟩ := ArgOf_struct Try.underlying45 h
  obtain ⟨x, rfl⟩ := of_Rule h1
  exact ⟨x, rfl⟩

theorem of_RuleS {f : Nat} {r : List AV} (h : Row Try.prog (f + 11) 103 r) : ∃ x : List DRule, r = [.sl 7 (x.map rARule)] := by
  obtain ⟨rows, rfl, _, hr⟩ := Row_slice Try.underlying103 h
  obtain ⟨l, rfl⟩ := list_of_rows (f := rARule) (fun r h => of_Rule h) hr
  exact ⟨l, by rw [show Try.prog.cellsOf 45 = 7 by kernel_rfl]⟩

theorem arg_RuleS {f : Nat} {a : AV} (h : ArgOf Try.prog (f + 11) 103 a) : ∃ x : List DRule, a = .sl 7 (x.map rARule) := by
  obtain ⟨x, hx⟩ := of_RuleS (ArgOf_slice Try.underlying103 h)
  exact ⟨x, by simpa using hx⟩

theorem of_Program {f : Nat} {r : List AV} (h : Row Try.prog (f + 12) 105 r) : ∃ x : DProgram, r = rAProgram x := by
  obtain ⟨parts, rfl, g0⟩ := Row_struct Try.underlying105 h
  obtain ⟨x0, m1, rfl, h0, g1⟩ := All2_cons g0
  obtain ⟨x1, m2, rfl, h1, g2⟩ := All2_cons g1
  cases All2_nil g2
  obtain ⟨v0, rfl⟩ := of_FunctionS h0
  obtain ⟨v1, rfl⟩ := of_RuleS h1
  exact ⟨⟨v0, v1⟩, rfl⟩

theorem arg_Program {f : Nat} {a : AV} (h : ArgOf Try.prog (f + 12) 105 a) : ∃ x : DProgram, a = .agg (rAProgram x) := by
  obtain ⟨row, rfl, h1⟩ := ArgOf_struct Try.underlying105 h
  obtain ⟨x, rfl⟩ := of_Program h1
  exact ⟨x, rfl⟩

theorem of_LinSS {f : Nat} {r : List AV} (h : Row Try.prog (f + 5) 60 r) : ∃ x : List (List DLin), r = [.sl 1 (x.map rALinS)] := by
  obtain ⟨rows, rfl, _, hr⟩ := Row_slice Try.underlying60 h
  obtain ⟨l, rfl⟩ := list_of_rows (f := rALinS) (fun r h => of_LinS h) hr
  exact ⟨l, by rw [show Try.prog.cellsOf 25 = 1 by kernel_rfl]⟩

theorem arg_LinSS {f : Nat} {a : AV} (h : ArgOf Try.prog (f + 5) 60 a) : ∃ x : List (List DLin), a = .sl 1 (x.map rALinS) := by
  obtain ⟨x, hx⟩ := of_LinSS (ArgOf_slice Try.underlying60 h)
  exact ⟨x, by simpa using hx⟩

theorem of_Model {f : Nat} {r : List AV} (h : Row Try.prog (f + 6) 62 r) : ∃ x : DModel, r = rAModel x := by
  obtain ⟨parts, rfl, g0⟩ := Row_struct Try.underlying62 h
  obtain ⟨x0, m1, rfl, h0, g1⟩ := All2_cons g0
  obtain ⟨x1, m2, rfl, h1, g2⟩ := All2_cons g1
  obtain ⟨x2, m3, rfl, h2, g3⟩ := All2_cons g2
  obtain ⟨x3, m4, rfl, h3, g4⟩ := All2_cons g3
  cases All2_nil g4
  obtain ⟨v0, rfl⟩ := of_System h0
  obtain ⟨v1, rfl⟩ := of_LinS h1
  obtain ⟨v2, rfl⟩ := of_LinSS h2
  obtain ⟨v3, rfl⟩ := of_Lin h3
  exact ⟨⟨v0, v1, v2, v3⟩, rfl⟩

theorem arg_Model {f : Nat} {a : AV} (h : ArgOf Try.prog (f + 6) 62 a) : ∃ x : DModel, a = .agg (rAModel x) := by
  obtain ⟨row, rfl, h1⟩ := ArgOf_struct Try.underlying62 h
  obtain ⟨x, rfl⟩ := of_Model h1
  exact ⟨x, rfl⟩

theorem of_Obligation {f : Nat} {r : List AV} (h : Row Try.prog (f + 6) 158 r) : ∃ x : DObligation, r = rAObligation x := by
  obtain ⟨parts, rfl, g0⟩ := Row_struct Try.underlying158 h
  obtain ⟨x0, m1, rfl, h0, g1⟩ := All2_cons g0
  obtain ⟨x1, m2, rfl, h1, g2⟩ := All2_cons g1
  cases All2_nil g2
  obtain ⟨v0, rfl⟩ := of_System h0
  obtain ⟨v1, rfl⟩ := of_Lin h1
  exact ⟨⟨v0, v1⟩, rfl⟩

theorem arg_Obligation {f : Nat} {a : AV} (h : ArgOf Try.prog (f + 6) 158 a) : ∃ x : DObligation, a = .agg (rAObligation x) := by
  obtain ⟨row, rfl, h1⟩ := ArgOf_struct Try.underlying158 h
  obtain ⟨x, rfl⟩ := of_Obligation h1
  exact ⟨x, rfl⟩

theorem of_ObligationS {f : Nat} {r : List AV} (h : Row Try.prog (f + 7) 74 r) : ∃ x : List DObligation, r = [.sl 4 (x.map rAObligation)] := by
  obtain ⟨rows, rfl, _, hr⟩ := Row_slice Try.underlying74 h
  obtain ⟨l, rfl⟩ := list_of_rows (f := rAObligation) (fun r h => of_Obligation h) hr
  exact ⟨l, by rw [show Try.prog.cellsOf 158 = 4 by kernel_rfl]⟩

theorem arg_ObligationS {f : Nat} {a : AV} (h : ArgOf Try.prog (f + 7) 74 a) : ∃ x : List DObligation, a = .sl 4 (x.map rAObligation) := by
  obtain ⟨x, hx⟩ := of_ObligationS (ArgOf_slice Try.underlying74 h)
  exact ⟨x, by simpa using hx⟩

end Go.Proofs.Ytlbdgpkgmheikaa

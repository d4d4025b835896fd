/- The parameters of the laws, opened. -/
import Derived.Test.YtilcageplifbgaaGreatKT1
import Derived.Test.YtilcageplifbgaaGreatKR31
import Derived.Test.YtilcageplifbgaaGreatProg
namespace Go.Proofs.YtilcageplifbgaaGreat
set_option linter.all false
open Go Go.RowKit Go.Proofs Go.ChangeShapes Go.WideShapes
theorem Tryz.own : ownKnob Tryz.prog.godebug = none := by kernel_rfl
theorem Tryz.laidOut : laidOutB Tryz.prog = true := by kernel_rfl
theorem list_of_rows {α : Type} {P : List AV → Prop} {f : α → List AV} (hP : ∀ r, P r → ∃ x, r = f x) : ∀ {rows : List (List AV)}, (∀ r ∈ rows, P r) → ∃ l : List α, rows = l.map f
  | [], _ => ⟨[], rfl⟩
  | r :: rows, h => by
    obtain ⟨x, rfl⟩ := hP r (h _ List.mem_cons_self)
    obtain ⟨l, rfl⟩ := list_of_rows hP fun r hr => h r (List.mem_cons_of_mem _ hr)
    exact ⟨x :: l, rfl⟩
theorem ArgOf_string {P : Program} {f : Nat} {t : TypeId} {a : AV} (hu : P.underlying t = some .string) (h : ArgOf P (f + 1) t a) : ∃ l : Str, a = .str l ∧ l.length ≤ LIM := by
  have h : Row P (f + 1) t [a] := by simpa only [ArgOf, hu] using h
  obtain ⟨n, h1, h2⟩ := Row_string hu h
  exact ⟨n, by simpa using h1, h2⟩
set_option maxRecDepth 100000
theorem of_IntS {f : Nat} {r : List AV} (h : Row Tryz.prog (f + 2) 47 r) : ∃ x : List Int, r = [.sl 1 (intsR x)] := by
  obtain ⟨l, rfl⟩ := ints_of Tryz.underlying47 Tryz.underlying3 (by kernel_rfl) h
  exact ⟨l, rfl⟩
theorem of_Lin {f : Nat} {r : List AV} (h : Row Tryz.prog (f + 3) 49 r) : ∃ x : DLin, r = rALin x := by
  obtain ⟨parts, rfl, g0⟩ := Row_struct Tryz.underlying49 h
  obtain ⟨x0, m1, rfl, h0, g1⟩ := All2_cons g0
  obtain ⟨x1, m2, rfl, h1, g2⟩ := All2_cons g1
  cases All2_nil g2
  obtain ⟨v0, rfl, _⟩ := Row_int Tryz.underlying3 h0
  obtain ⟨v1, rfl⟩ := of_IntS h1
  exact ⟨⟨v0, v1⟩, rfl⟩
theorem of_LinS {f : Nat} {r : List AV} (h : Row Tryz.prog (f + 4) 71 r) : ∃ x : List DLin, r = [.sl 2 (x.map rALin)] := by
  obtain ⟨rows, rfl, _, hr⟩ := Row_slice Tryz.underlying71 h
  obtain ⟨l, rfl⟩ := list_of_rows (f := rALin) (fun r h => of_Lin h) hr
  exact ⟨l, by rw [show Tryz.prog.cellsOf 49 = 2 by kernel_rfl]⟩
theorem of_Term {f : Nat} {r : List AV} (h : Row Tryz.prog (f + 2) 319 r) : ∃ x : DTerm, r = rATerm x := by
  obtain ⟨parts, rfl, g0⟩ := Row_struct Tryz.underlying319 h
  obtain ⟨x0, m1, rfl, h0, g1⟩ := All2_cons g0
  obtain ⟨x1, m2, rfl, h1, g2⟩ := All2_cons g1
  cases All2_nil g2
  obtain ⟨v0, rfl, _⟩ := Row_int Tryz.underlying3 h0
  obtain ⟨v1, rfl, _⟩ := Row_string Tryz.underlying9 h1
  exact ⟨⟨v0, v1⟩, rfl⟩
theorem of_TermS {f : Nat} {r : List AV} (h : Row Tryz.prog (f + 3) 280 r) : ∃ x : List DTerm, r = [.sl 2 (x.map rATerm)] := by
  obtain ⟨rows, rfl, _, hr⟩ := Row_slice Tryz.underlying280 h
  obtain ⟨l, rfl⟩ := list_of_rows (f := rATerm) (fun r h => of_Term h) hr
  exact ⟨l, by rw [show Tryz.prog.cellsOf 319 = 2 by kernel_rfl]⟩
theorem of_Sum {f : Nat} {r : List AV} (h : Row Tryz.prog (f + 4) 282 r) : ∃ x : DSum, r = rASum x := by
  obtain ⟨parts, rfl, g0⟩ := Row_struct Tryz.underlying282 h
  obtain ⟨x0, m1, rfl, h0, g1⟩ := All2_cons g0
  obtain ⟨x1, m2, rfl, h1, g2⟩ := All2_cons g1
  cases All2_nil g2
  obtain ⟨v0, rfl, _⟩ := Row_int Tryz.underlying3 h0
  obtain ⟨v1, rfl⟩ := of_TermS h1
  exact ⟨⟨v0, v1⟩, rfl⟩
theorem of_SumS {f : Nat} {r : List AV} (h : Row Tryz.prog (f + 5) 185 r) : ∃ x : List DSum, r = [.sl 2 (x.map rASum)] := by
  obtain ⟨rows, rfl, _, hr⟩ := Row_slice Tryz.underlying185 h
  obtain ⟨l, rfl⟩ := list_of_rows (f := rASum) (fun r h => of_Sum h) hr
  exact ⟨l, by rw [show Tryz.prog.cellsOf 282 = 2 by kernel_rfl]⟩
theorem of_Arg {f : Nat} {r : List AV} (h : Row Tryz.prog (f + 6) 188 r) : ∃ x : DArg, r = rAArg x := by
  obtain ⟨parts, rfl, g0⟩ := Row_struct Tryz.underlying188 h
  obtain ⟨x0, m1, rfl, h0, g1⟩ := All2_cons g0
  obtain ⟨x1, m2, rfl, h1, g2⟩ := All2_cons g1
  obtain ⟨x2, m3, rfl, h2, g3⟩ := All2_cons g2
  cases All2_nil g3
  obtain ⟨v0, rfl⟩ := Row_bool Tryz.underlying4 h0
  obtain ⟨v1, rfl⟩ := of_SumS h1
  obtain ⟨v2, rfl, _⟩ := Row_string Tryz.underlying9 h2
  exact ⟨⟨v0, v1, v2⟩, rfl⟩
theorem of_ArgS {f : Nat} {r : List AV} (h : Row Tryz.prog (f + 7) 284 r) : ∃ x : List DArg, r = [.sl 3 (x.map rAArg)] := by
  obtain ⟨rows, rfl, _, hr⟩ := Row_slice Tryz.underlying284 h
  obtain ⟨l, rfl⟩ := list_of_rows (f := rAArg) (fun r h => of_Arg h) hr
  exact ⟨l, by rw [show Tryz.prog.cellsOf 188 = 3 by kernel_rfl]⟩
theorem of_StringS {f : Nat} {r : List AV} (h : Row Tryz.prog (f + 2) 92 r) : ∃ x : List Str, r = [.sl 1 (strsR x)] := by
  obtain ⟨rows, rfl, _, hr⟩ := Row_slice Tryz.underlying92 h
  obtain ⟨l, rfl⟩ := list_of_rows (f := fun s : Str => [.str s]) (fun r h => (Row_string Tryz.underlying9 h).elim fun l h => ⟨l, h.1⟩) hr
  exact ⟨l, by rw [show Tryz.prog.cellsOf 9 = 1 by kernel_rfl]; rfl⟩
theorem of_Function {f : Nat} {r : List AV} (h : Row Tryz.prog (f + 5) 182 r) : ∃ x : DFunction, r = rAFunction x := by
  obtain ⟨parts, rfl, g0⟩ := Row_struct Tryz.underlying182 h
  obtain ⟨x0, m1, rfl, h0, g1⟩ := All2_cons g0
  obtain ⟨x1, m2, rfl, h1, g2⟩ := All2_cons g1
  obtain ⟨x2, m3, rfl, h2, g3⟩ := All2_cons g2
  obtain ⟨x3, m4, rfl, h3, g4⟩ := All2_cons g3
  cases All2_nil g4
  obtain ⟨v0, rfl, _⟩ := Row_string Tryz.underlying9 h0
  obtain ⟨v1, rfl⟩ := of_StringS h1
  obtain ⟨v2, rfl⟩ := Row_bool Tryz.underlying4 h2
  obtain ⟨v3, rfl⟩ := of_LinS h3
  exact ⟨⟨v0, v1, v2, v3⟩, rfl⟩
theorem of_FunctionS {f : Nat} {r : List AV} (h : Row Tryz.prog (f + 6) 22 r) : ∃ x : List DFunction, r = [.sl 4 (x.map rAFunction)] := by
  obtain ⟨rows, rfl, _, hr⟩ := Row_slice Tryz.underlying22 h
  obtain ⟨l, rfl⟩ := list_of_rows (f := rAFunction) (fun r h => of_Function h) hr
  exact ⟨l, by rw [show Tryz.prog.cellsOf 182 = 4 by kernel_rfl]⟩
theorem of_Pattern {f : Nat} {r : List AV} (h : Row Tryz.prog (f + 2) 278 r) : ∃ x : DPattern, r = rAPattern x := by
  obtain ⟨parts, rfl, g0⟩ := Row_struct Tryz.underlying278 h
  obtain ⟨x0, m1, rfl, h0, g1⟩ := All2_cons g0
  obtain ⟨x1, m2, rfl, h1, g2⟩ := All2_cons g1
  obtain ⟨x2, m3, rfl, h2, g3⟩ := All2_cons g2
  obtain ⟨x3, m4, rfl, h3, g4⟩ := All2_cons g3
  cases All2_nil g4
  obtain ⟨v0, rfl, _⟩ := Row_string Tryz.underlying9 h0
  obtain ⟨v1, rfl⟩ := Row_bool Tryz.underlying4 h1
  obtain ⟨v2, rfl, _⟩ := Row_string Tryz.underlying9 h2
  obtain ⟨v3, rfl, _⟩ := Row_string Tryz.underlying9 h3
  exact ⟨⟨v0, v1, v2, v3⟩, rfl⟩
theorem of_PatternS {f : Nat} {r : List AV} (h : Row Tryz.prog (f + 3) 184 r) : ∃ x : List DPattern, r = [.sl 4 (x.map rAPattern)] := by
  obtain ⟨rows, rfl, _, hr⟩ := Row_slice Tryz.underlying184 h
  obtain ⟨l, rfl⟩ := list_of_rows (f := rAPattern) (fun r h => of_Pattern h) hr
  exact ⟨l, by rw [show Tryz.prog.cellsOf 278 = 4 by kernel_rfl]⟩
theorem of_Call {f : Nat} {r : List AV} (h : Row Tryz.prog (f + 8) 286 r) : ∃ x : DCall, r = rACall x := by
  obtain ⟨parts, rfl, g0⟩ := Row_struct Tryz.underlying286 h
  obtain ⟨x0, m1, rfl, h0, g1⟩ := All2_cons g0
  obtain ⟨x1, m2, rfl, h1, g2⟩ := All2_cons g1
  obtain ⟨x2, m3, rfl, h2, g3⟩ := All2_cons g2
  cases All2_nil g3
  obtain ⟨v0, rfl, _⟩ := Row_string Tryz.underlying9 h0
  obtain ⟨v1, rfl, _⟩ := Row_string Tryz.underlying9 h1
  obtain ⟨v2, rfl⟩ := of_ArgS h2
  exact ⟨⟨v0, v1, v2⟩, rfl⟩
theorem of_CallS {f : Nat} {r : List AV} (h : Row Tryz.prog (f + 9) 186 r) : ∃ x : List DCall, r = [.sl 3 (x.map rACall)] := by
  obtain ⟨rows, rfl, _, hr⟩ := Row_slice Tryz.underlying186 h
  obtain ⟨l, rfl⟩ := list_of_rows (f := rACall) (fun r h => of_Call h) hr
  exact ⟨l, by rw [show Tryz.prog.cellsOf 286 = 3 by kernel_rfl]⟩
theorem of_Rule {f : Nat} {r : List AV} (h : Row Tryz.prog (f + 10) 190 r) : ∃ x : DRule, r = rARule x := by
  obtain ⟨parts, rfl, g0⟩ := Row_struct Tryz.underlying190 h
  obtain ⟨x0, m1, rfl, h0, g1⟩ := All2_cons g0
  obtain ⟨x1, m2, rfl, h1, g2⟩ := All2_cons g1
  obtain ⟨x2, m3, rfl, h2, g3⟩ := All2_cons g2
  obtain ⟨x3, m4, rfl, h3, g4⟩ := All2_cons g3
  obtain ⟨x4, m5, rfl, h4, g5⟩ := All2_cons g4
  cases All2_nil g5
  obtain ⟨v0, rfl, _⟩ := Row_string Tryz.underlying9 h0
  obtain ⟨v1, rfl⟩ := of_PatternS h1
  obtain ⟨v2, rfl⟩ := of_SumS h2
  obtain ⟨v3, rfl⟩ := of_CallS h3
  obtain ⟨v4, rfl⟩ := of_Arg h4
  exact ⟨⟨v0, v1, v2, v3, v4⟩, rfl⟩
theorem of_RuleS {f : Nat} {r : List AV} (h : Row Tryz.prog (f + 11) 23 r) : ∃ x : List DRule, r = [.sl 7 (x.map rARule)] := by
  obtain ⟨rows, rfl, _, hr⟩ := Row_slice Tryz.underlying23 h
  obtain ⟨l, rfl⟩ := list_of_rows (f := rARule) (fun r h => of_Rule h) hr
  exact ⟨l, by rw [show Tryz.prog.cellsOf 190 = 7 by kernel_rfl]⟩
theorem of_Program {f : Nat} {r : List AV} (h : Row Tryz.prog (f + 12) 25 r) : ∃ x : DProgram, r = rAProgram x := by
  obtain ⟨parts, rfl, g0⟩ := Row_struct Tryz.underlying25 h
  obtain ⟨x0, m1, rfl, h0, g1⟩ := All2_cons g0
  obtain ⟨x1, m2, rfl, h1, g2⟩ := All2_cons g1
  cases All2_nil g2
  obtain ⟨v0, rfl⟩ := of_FunctionS h0
  obtain ⟨v1, rfl⟩ := of_RuleS h1
  exact ⟨⟨v0, v1⟩, rfl⟩
theorem arg_Program {f : Nat} {a : AV} (h : ArgOf Tryz.prog (f + 12) 25 a) : ∃ x : DProgram, a = .agg (rAProgram x) := by
  obtain ⟨row, rfl, h1⟩ := ArgOf_struct Tryz.underlying25 h
  obtain ⟨x, rfl⟩ := of_Program h1
  exact ⟨x, rfl⟩
end Go.Proofs.YtilcageplifbgaaGreat

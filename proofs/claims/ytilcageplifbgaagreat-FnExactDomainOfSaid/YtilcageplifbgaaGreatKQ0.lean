/- The model of a rule: what each side computes, and that both are one. Plain laws. -/
import Derived.Test.YtilcageplifbgaaGreatKC8
import Derived.Test.YtilcageplifbgaaGreatKC4
import Derived.Test.YtilcageplifbgaaGreatKV0
namespace Go.Proofs.YtilcageplifbgaaGreat
set_option linter.all false
open Go Go.RowKit Go.Proofs
abbrev SEnv := List (Str × DLin)
def eget (d : DLin) (E : SEnv) (x : Str) : DLin := ((E.find? fun e => e.1 == x).map (·.2)).getD d
def eset : SEnv → Str → DLin → SEnv
  | [], x, l => [(x, l)]
  | e :: E, x, l => if e.1 = x then (x, l) :: E else e :: eset E x l
def varL (i n : Int) : DLin := if inR n 0 8 && inR i 0 (n - 1) then ⟨0, (List.replicate n.toNat 0).set i.toNat 1⟩ else lin0
def addS (a : DLin) (k : Int) (b : DLin) : DLin := (addScaled a k b).getD lin0
def sum0 : DSum := ⟨0, []⟩
structure MS where
  E : SEnv
  nx : Nat
  rows : List DLin
  pars : List DLin
  args : List (List DLin)
def sumI (E : SEnv) (n : Nat) (s : DSum) : DLin := s.Terms.foldl (fun o t => addS o t.Coeff (eget lin0 E t.Name)) (constLin s.Const n)
def argI (E : SEnv) (n : Nat) (a : DArg) : DLin :=
  if a.Lst then (if a.Base = [] then constLin a.Heads.length n else addS (constLin a.Heads.length n) 1 (eget lin0 E a.Base)) else sumI E n (a.Heads.getD 0 sum0)
def iPar (n : Nat) (st : MS) (x : Str) : MS :=
  ⟨eset st.E x (varL st.nx n), st.nx + 1, st.rows ++ (if listName x then [varL st.nx n] else []), st.pars ++ [varL st.nx n], st.args⟩
def patE (n : Nat) (st : MS) (q : DPattern) : SEnv := eset st.E q.Head (varL st.nx n)
def patL (n : Nat) (st : MS) (q : DPattern) : DLin := (plusL (eget lin0 (patE n st q) q.Lst) (-1)).getD lin0
def iPat (n : Nat) (st : MS) (q : DPattern) : MS :=
  if q.Cons then ⟨eset (patE n st q) q.Tail (patL n st q), st.nx + 1, st.rows ++ [patL n st q], st.pars, st.args⟩
  else ⟨st.E, st.nx, st.rows ++ [addS (constLin 0 n) (-1) (eget lin0 st.E q.Lst)], st.pars, st.args⟩
def iCall (p : DProgram) (n : Nat) (st : MS) (c : DCall) : MS :=
  ⟨eset st.E c.Bind (varL st.nx n), st.nx + 1, st.rows ++ (if ((findFn p.Functions c.Func).getD fn0).ListResult then [varL st.nx n] else []), st.pars, st.args ++ [c.Args.map (argI st.E n)]⟩
def consN (l : List DPattern) : Nat := (l.filter (·.Cons)).length
def sizeN (r : DRule) (f : DFunction) : Nat := f.Params.length + r.Calls.length + consN r.Patterns
def st1 (r : DRule) (f : DFunction) : MS := f.Params.foldl (iPar (sizeN r f)) ⟨[], 0, [], [], []⟩
def st3 (r : DRule) (f : DFunction) (pre : List DLin) : MS :=
  r.Patterns.foldl (iPat (sizeN r f)) ⟨(st1 r f).E, (st1 r f).nx, (st1 r f).rows ++ pre, (st1 r f).pars, (st1 r f).args⟩
def withRows (s : MS) (l : List DLin) : MS := ⟨s.E, s.nx, s.rows ++ l, s.pars, s.args⟩
def st5 (p : DProgram) (r : DRule) (f : DFunction) (pre : List DLin) : MS :=
  r.Calls.foldl (iCall p (sizeN r f)) (withRows (st3 r f pre) (r.Guards.map (sumI (st3 r f pre).E (sizeN r f))))
def minusL (l : DLin) (k : Int) : DLin := ⟨IntKind.i64.wrap (l.Const - k), l.Coeffs⟩
def widen (n : Nat) (l : DLin) : DLin := ⟨l.Const, l.Coeffs ++ List.replicate (n - l.Coeffs.length) 0⟩
def lrows (n : Nat) : List Str → Nat → List DLin
  | [], _ => []
  | x :: xs, i => (if listName x then [varL i n] else []) ++ lrows n xs (i + 1)
def domL (f : DFunction) (n : Nat) : List DLin := lrows n f.Params 0 ++ f.Pre.map (widen n)
theorem varL_eq {i n : Nat} (hn : n ≤ 8) (hi : i < n) : varL i n = ⟨0, (List.replicate n 0).set i 1⟩ := by
  unfold varL
  rw [if_pos (by simp [inR]; omega)]; simp
theorem widen_self {l : DLin} {n : Nat} (h : l.Coeffs.length = n) : widen n l = l := by
  unfold widen; rw [h, Nat.sub_self]; simp
end Go.Proofs.YtilcageplifbgaaGreat

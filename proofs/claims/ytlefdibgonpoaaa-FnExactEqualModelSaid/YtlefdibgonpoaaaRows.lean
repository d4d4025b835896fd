/-
  No cell of these rows narrows 'for every input' (looked for: loops, veiled, ifaces, maps, wideKeys, modest, calm, conditions, laid).
  DERIVED. THE GIVEN ROWS OF THIS SEAT. 7 by the template 'for every input the law returns true; each argument reads behind the call as it read before'; 0 by the template 'total and deterministic' (their statements: YtlefdibgonpoaaaTotals.lean).
  GIVEN WITH THE SEED: the statements are not yours to turn. If you find one false, say at which input.
  Laid BY PROGRAM, IN A SANDBOX (cutbox-rows.mjs): the forced cells as the released guide's own fill.sh prints them over the translation 60328a83f57ed0c6… (all of the seat's roots in one cut). By AI agents, Wed Nov 11 2026. No macro, syntax, notation, axiom, sorry.
-/
import Derived.Test.YtlefdibgonpoaaaChecked
import GoSem.Claim
import GoSem.ClaimJoined
import GoSem.ClaimMapViews
import Derived.JoinedTies
import Derived.KernelRfl
namespace Go.Proofs.Ytlefdibgonpoaaa
/- THE CELL 'sum', in the pinned program and in every row, IS THE sha256 OF THE DUMP (.gsa) THAT YtlefdibgonpoaaaProg.lean LOADS. Nothing in Lean hashes anything: it is a label: what it is worth is what the hold of that sum in a sandbox is worth. -/
noncomputable def Try.pinned : Pinned := { name := "ytlefdibgonpoaaa", sum := "60328a83f57ed0c6ac0dd20988ac1b02f17076de4ae8b047a48afdc3d3325016", checked := Try.checked }
namespace Rows
def none {H : Type} : Left H := { results := [], args := [] }

/-- 'laws.FnExactSizeOf': WHATEVER THE INPUT: true; the input reads as it did. -/
def fnExactSizeOfSpec : ChangeSpec := { name := "fnExactSizeOf", fn := fun _ => fun
  | [d] => { results := [.lit (.bool true)], args := [d] }
  | _ => none }
def fnExactSizeOfRow : OpenClaim := { program := "ytlefdibgonpoaaa", sum := "60328a83f57ed0c6ac0dd20988ac1b02f17076de4ae8b047a48afdc3d3325016", func := "loop.example/g00515/laws.FnExactSizeOf", spec := "fnExactSizeOf", apart := false }
def FnExactSizeOfSaid : Prop := fnExactSizeOfRow.holds Try.pinned (OpenSpec.ofChange fnExactSizeOfSpec)

/-- ITS FALSE NEIGHBOUR: 'it returns false'. Refute it at one input. -/
def fnExactSizeOfWrong : ChangeSpec := { name := "fnExactSizeOf", fn := fun _ => fun
  | [d] => { results := [.lit (.bool false)], args := [d] }
  | _ => none }
def FnExactSizeOfWrongFalsely : Prop := fnExactSizeOfRow.holds Try.pinned (OpenSpec.ofChange fnExactSizeOfWrong)

/-- 'laws.FnExactIsValidValue': WHATEVER THE INPUT: true; the input reads as it did. -/
def fnExactIsValidValueSpec : ChangeSpec := { name := "fnExactIsValidValue", fn := fun _ => fun
  | [d] => { results := [.lit (.bool true)], args := [d] }
  | _ => none }
def fnExactIsValidValueRow : OpenClaim := { program := "ytlefdibgonpoaaa", sum := "60328a83f57ed0c6ac0dd20988ac1b02f17076de4ae8b047a48afdc3d3325016", func := "loop.example/g00515/laws.FnExactIsValidValue", spec := "fnExactIsValidValue", unfollowed := true, recurses := true, apart := false }
def FnExactIsValidValueSaid : Prop := fnExactIsValidValueRow.holds Try.pinned (OpenSpec.ofChange fnExactIsValidValueSpec)

/-- ITS FALSE NEIGHBOUR: 'it returns false'. Refute it at one input. -/
def fnExactIsValidValueWrong : ChangeSpec := { name := "fnExactIsValidValue", fn := fun _ => fun
  | [d] => { results := [.lit (.bool false)], args := [d] }
  | _ => none }
def FnExactIsValidValueWrongFalsely : Prop := fnExactIsValidValueRow.holds Try.pinned (OpenSpec.ofChange fnExactIsValidValueWrong)

/-- 'laws.FnExactEqualOutcome': WHATEVER THE INPUT: true; the input reads as it did. -/
def fnExactEqualOutcomeSpec : ChangeSpec := { name := "fnExactEqualOutcome", fn := fun _ => fun
  | [d1, d2] => { results := [.lit (.bool true)], args := [d1, d2] }
  | _ => none }
def fnExactEqualOutcomeRow : OpenClaim := { program := "ytlefdibgonpoaaa", sum := "60328a83f57ed0c6ac0dd20988ac1b02f17076de4ae8b047a48afdc3d3325016", func := "loop.example/g00515/laws.FnExactEqualOutcome", spec := "fnExactEqualOutcome", apart := false }
def FnExactEqualOutcomeSaid : Prop := fnExactEqualOutcomeRow.holds Try.pinned (OpenSpec.ofChange fnExactEqualOutcomeSpec)

/-- ITS FALSE NEIGHBOUR: 'it returns false'. Refute it at one input. -/
def fnExactEqualOutcomeWrong : ChangeSpec := { name := "fnExactEqualOutcome", fn := fun _ => fun
  | [d1, d2] => { results := [.lit (.bool false)], args := [d1, d2] }
  | _ => none }
def FnExactEqualOutcomeWrongFalsely : Prop := fnExactEqualOutcomeRow.holds Try.pinned (OpenSpec.ofChange fnExactEqualOutcomeWrong)

/-- 'laws.FnExactEqualModel': WHATEVER THE INPUT: true; the input reads as it did. -/
def fnExactEqualModelSpec : ChangeSpec := { name := "fnExactEqualModel", fn := fun _ => fun
  | [d1, d2] => { results := [.lit (.bool true)], args := [d1, d2] }
  | _ => none }
def fnExactEqualModelRow : OpenClaim := { program := "ytlefdibgonpoaaa", sum := "60328a83f57ed0c6ac0dd20988ac1b02f17076de4ae8b047a48afdc3d3325016", func := "loop.example/g00515/laws.FnExactEqualModel", spec := "fnExactEqualModel", unfollowed := true, recurses := true, apart := false }
def FnExactEqualModelSaid : Prop := fnExactEqualModelRow.holds Try.pinned (OpenSpec.ofChange fnExactEqualModelSpec)

/-- ITS FALSE NEIGHBOUR: 'it returns false'. Refute it at one input. -/
def fnExactEqualModelWrong : ChangeSpec := { name := "fnExactEqualModel", fn := fun _ => fun
  | [d1, d2] => { results := [.lit (.bool false)], args := [d1, d2] }
  | _ => none }
def FnExactEqualModelWrongFalsely : Prop := fnExactEqualModelRow.holds Try.pinned (OpenSpec.ofChange fnExactEqualModelWrong)

/-- 'laws.FnInstantiated': WHATEVER THE INPUT: true; the input reads as it did. -/
def fnInstantiatedSpec : ChangeSpec := { name := "fnInstantiated", fn := fun _ => fun
  | [d] => { results := [.lit (.bool true)], args := [d] }
  | _ => none }
def fnInstantiatedRow : OpenClaim := { program := "ytlefdibgonpoaaa", sum := "60328a83f57ed0c6ac0dd20988ac1b02f17076de4ae8b047a48afdc3d3325016", func := "loop.example/g00515/laws.FnInstantiated", spec := "fnInstantiated", unfollowed := true, recurses := true, apart := false }
def FnInstantiatedSaid : Prop := fnInstantiatedRow.holds Try.pinned (OpenSpec.ofChange fnInstantiatedSpec)

/-- ITS FALSE NEIGHBOUR: 'it returns false'. Refute it at one input. -/
def fnInstantiatedWrong : ChangeSpec := { name := "fnInstantiated", fn := fun _ => fun
  | [d] => { results := [.lit (.bool false)], args := [d] }
  | _ => none }
def FnInstantiatedWrongFalsely : Prop := fnInstantiatedRow.holds Try.pinned (OpenSpec.ofChange fnInstantiatedWrong)

/-- 'laws.FnExactInstantiateLin': WHATEVER THE INPUT: true; the input reads as it did. -/
def fnExactInstantiateLinSpec : ChangeSpec := { name := "fnExactInstantiateLin", fn := fun _ => fun
  | [d1, d2] => { results := [.lit (.bool true)], args := [d1, d2] }
  | _ => none }
def fnExactInstantiateLinRow : OpenClaim := { program := "ytlefdibgonpoaaa", sum := "60328a83f57ed0c6ac0dd20988ac1b02f17076de4ae8b047a48afdc3d3325016", func := "loop.example/g00515/laws.FnExactInstantiateLin", spec := "fnExactInstantiateLin", unfollowed := true, recurses := true, apart := false }
def FnExactInstantiateLinSaid : Prop := fnExactInstantiateLinRow.holds Try.pinned (OpenSpec.ofChange fnExactInstantiateLinSpec)

/-- ITS FALSE NEIGHBOUR: 'it returns false'. Refute it at one input. -/
def fnExactInstantiateLinWrong : ChangeSpec := { name := "fnExactInstantiateLin", fn := fun _ => fun
  | [d1, d2] => { results := [.lit (.bool false)], args := [d1, d2] }
  | _ => none }
def FnExactInstantiateLinWrongFalsely : Prop := fnExactInstantiateLinRow.holds Try.pinned (OpenSpec.ofChange fnExactInstantiateLinWrong)

/-- 'laws.FnExactCandidateRanks': WHATEVER THE INPUT: true; the input reads as it did. -/
def fnExactCandidateRanksSpec : ChangeSpec := { name := "fnExactCandidateRanks", fn := fun _ => fun
  | [d] => { results := [.lit (.bool true)], args := [d] }
  | _ => none }
def fnExactCandidateRanksRow : OpenClaim := { program := "ytlefdibgonpoaaa", sum := "60328a83f57ed0c6ac0dd20988ac1b02f17076de4ae8b047a48afdc3d3325016", func := "loop.example/g00515/laws.FnExactCandidateRanks", spec := "fnExactCandidateRanks", unfollowed := true, recurses := true, apart := false }
def FnExactCandidateRanksSaid : Prop := fnExactCandidateRanksRow.holds Try.pinned (OpenSpec.ofChange fnExactCandidateRanksSpec)

/-- ITS FALSE NEIGHBOUR: 'it returns false'. Refute it at one input. -/
def fnExactCandidateRanksWrong : ChangeSpec := { name := "fnExactCandidateRanks", fn := fun _ => fun
  | [d] => { results := [.lit (.bool false)], args := [d] }
  | _ => none }
def FnExactCandidateRanksWrongFalsely : Prop := fnExactCandidateRanksRow.holds Try.pinned (OpenSpec.ofChange fnExactCandidateRanksWrong)

/- THE SECOND FORM. 'bulk': how many values and letters a reading holds, each counted each time it is reached (what is shared counts as often as it is met; a slice's spare places count too). A statement '..UptoSaid' is the law's where the arguments, and the package variables that the reading takes, are together of bulk at most 1048576: NARROWER than '..Said'. Prove '..Said' where nothing that the law and all that it calls make is longer than what came in: it says more and counts as full. Else prove '..UptoSaid'. A law counts once. -/
mutual
def uptoBulk {H : Type} : DataW H → Nat
  | .lit (.string bytes) => bytes.length + 1
  | .lit _ => 1
  | .nil => 1
  | .ptr d => uptoBulk d + 1
  | .slice elems spare => uptoBulkAll elems + uptoBulkAll spare + 1
  | .agg parts => uptoBulkAll parts + 1
  | .iface _ d => uptoBulk d + 1
  | .map entries => uptoBulkEntries entries + 1
  | .held _ => 1
def uptoBulkAll {H : Type} : List (DataW H) → Nat
  | [] => 0
  | d :: r => uptoBulk d + uptoBulkAll r
def uptoBulkEntries {H : Type} : List (Lit × DataW H) → Nat
  | [] => 0
  | x :: r => uptoBulkEntry x + uptoBulkEntries r
def uptoBulkEntry {H : Type} : Lit × DataW H → Nat
  | (.string bytes, d) => bytes.length + uptoBulk d + 1
  | (_, d) => uptoBulk d + 1
 end
def uptoSmall : (H : Type) → List (DataW H) → Bool := fun _ ds => decide (uptoBulkAll ds ≤ 1048576)
def OpenSpec.upto (s : _root_.Go.ChangeSpec) : _root_.Go.OpenSpec := { _root_.Go.OpenSpec.ofChange s with cond := some uptoSmall }

/-- 'laws.FnExactSizeOf', WHERE WHAT IT READS IS OF BULK AT MOST 1048576: true; the input reads as it did. -/
def fnExactSizeOfUptoRow : OpenClaim := { program := "ytlefdibgonpoaaa", sum := "60328a83f57ed0c6ac0dd20988ac1b02f17076de4ae8b047a48afdc3d3325016", func := "loop.example/g00515/laws.FnExactSizeOf", spec := "fnExactSizeOf", apart := false, narrowed := true }
def FnExactSizeOfUptoSaid : Prop := fnExactSizeOfUptoRow.holds Try.pinned (OpenSpec.upto fnExactSizeOfSpec)

/-- 'laws.FnExactIsValidValue', WHERE WHAT IT READS IS OF BULK AT MOST 1048576: true; the input reads as it did. -/
def fnExactIsValidValueUptoRow : OpenClaim := { program := "ytlefdibgonpoaaa", sum := "60328a83f57ed0c6ac0dd20988ac1b02f17076de4ae8b047a48afdc3d3325016", func := "loop.example/g00515/laws.FnExactIsValidValue", spec := "fnExactIsValidValue", unfollowed := true, recurses := true, apart := false, narrowed := true }
def FnExactIsValidValueUptoSaid : Prop := fnExactIsValidValueUptoRow.holds Try.pinned (OpenSpec.upto fnExactIsValidValueSpec)

/-- 'laws.FnExactEqualOutcome', WHERE WHAT IT READS IS OF BULK AT MOST 1048576: true; the input reads as it did. -/
def fnExactEqualOutcomeUptoRow : OpenClaim := { program := "ytlefdibgonpoaaa", sum := "60328a83f57ed0c6ac0dd20988ac1b02f17076de4ae8b047a48afdc3d3325016", func := "loop.example/g00515/laws.FnExactEqualOutcome", spec := "fnExactEqualOutcome", apart := false, narrowed := true }
def FnExactEqualOutcomeUptoSaid : Prop := fnExactEqualOutcomeUptoRow.holds Try.pinned (OpenSpec.upto fnExactEqualOutcomeSpec)

/-- 'laws.FnExactEqualModel', WHERE WHAT IT READS IS OF BULK AT MOST 1048576: true; the input reads as it did. -/
def fnExactEqualModelUptoRow : OpenClaim := { program := "ytlefdibgonpoaaa", sum := "60328a83f57ed0c6ac0dd20988ac1b02f17076de4ae8b047a48afdc3d3325016", func := "loop.example/g00515/laws.FnExactEqualModel", spec := "fnExactEqualModel", unfollowed := true, recurses := true, apart := false, narrowed := true }
def FnExactEqualModelUptoSaid : Prop := fnExactEqualModelUptoRow.holds Try.pinned (OpenSpec.upto fnExactEqualModelSpec)

/-- 'laws.FnInstantiated', WHERE WHAT IT READS IS OF BULK AT MOST 1048576: true; the input reads as it did. -/
def fnInstantiatedUptoRow : OpenClaim := { program := "ytlefdibgonpoaaa", sum := "60328a83f57ed0c6ac0dd20988ac1b02f17076de4ae8b047a48afdc3d3325016", func := "loop.example/g00515/laws.FnInstantiated", spec := "fnInstantiated", unfollowed := true, recurses := true, apart := false, narrowed := true }
def FnInstantiatedUptoSaid : Prop := fnInstantiatedUptoRow.holds Try.pinned (OpenSpec.upto fnInstantiatedSpec)

/-- 'laws.FnExactInstantiateLin', WHERE WHAT IT READS IS OF BULK AT MOST 1048576: true; the input reads as it did. -/
def fnExactInstantiateLinUptoRow : OpenClaim := { program := "ytlefdibgonpoaaa", sum := "60328a83f57ed0c6ac0dd20988ac1b02f17076de4ae8b047a48afdc3d3325016", func := "loop.example/g00515/laws.FnExactInstantiateLin", spec := "fnExactInstantiateLin", unfollowed := true, recurses := true, apart := false, narrowed := true }
def FnExactInstantiateLinUptoSaid : Prop := fnExactInstantiateLinUptoRow.holds Try.pinned (OpenSpec.upto fnExactInstantiateLinSpec)

/-- 'laws.FnExactCandidateRanks', WHERE WHAT IT READS IS OF BULK AT MOST 1048576: true; the input reads as it did. -/
def fnExactCandidateRanksUptoRow : OpenClaim := { program := "ytlefdibgonpoaaa", sum := "60328a83f57ed0c6ac0dd20988ac1b02f17076de4ae8b047a48afdc3d3325016", func := "loop.example/g00515/laws.FnExactCandidateRanks", spec := "fnExactCandidateRanks", unfollowed := true, recurses := true, apart := false, narrowed := true }
def FnExactCandidateRanksUptoSaid : Prop := fnExactCandidateRanksUptoRow.holds Try.pinned (OpenSpec.upto fnExactCandidateRanksSpec)

end Rows
end Go.Proofs.Ytlefdibgonpoaaa

/-
  No cell of these rows narrows 'for every input' (looked for: loops, veiled, ifaces, maps, wideKeys, modest, calm, conditions, laid).
  DERIVED. THE GIVEN ROWS OF THIS SEAT. 10 by the template 'for every input the law returns true; each argument reads behind the call as it read before'; 0 by the template 'total and deterministic' (their statements: YtlbdgpkgmheikaaTotals.lean).
  GIVEN WITH THE SEED: the statements are not yours to turn. If you find one false, say at which input.
  Laid BY PROGRAM, IN A SANDBOX (cutbox-rows.mjs): the forced cells as the released guide's own fill.sh prints them over the translation 1a829a960ba9af04… (all of the seat's roots in one cut). By AI agents, Wed Nov 11 2026. No macro, syntax, notation, axiom, sorry.
-/
import Derived.Test.YtlbdgpkgmheikaaChecked
import GoSem.Claim
import GoSem.ClaimJoined
import GoSem.ClaimMapViews
import Derived.JoinedTies
import Derived.KernelRfl
namespace Go.Proofs.Ytlbdgpkgmheikaa
/- THE CELL 'sum', in the pinned program and in every row, IS THE sha256 OF THE DUMP (.gsa) THAT YtlbdgpkgmheikaaProg.lean LOADS. Nothing in Lean hashes anything: it is a label: what it is worth is what the hold of that sum in a sandbox is worth. -/
noncomputable def Try.pinned : Pinned := { name := "ytlbdgpkgmheikaa", sum := "1a829a960ba9af04d404ed5b4f792d12b4c647e9b405df236710db1e4518cf45", checked := Try.checked }
namespace Rows
def none {H : Type} : Left H := { results := [], args := [] }

/-- 'laws.FnExactInstantiateLin': WHATEVER THE INPUT: true; the input reads as it did. -/
def fnExactInstantiateLinSpec : ChangeSpec := { name := "fnExactInstantiateLin", fn := fun _ => fun
  | [d1, d2] => { results := [.lit (.bool true)], args := [d1, d2] }
  | _ => none }
def fnExactInstantiateLinRow : OpenClaim := { program := "ytlbdgpkgmheikaa", sum := "1a829a960ba9af04d404ed5b4f792d12b4c647e9b405df236710db1e4518cf45", func := "loop.example/g00515/laws.FnExactInstantiateLin", spec := "fnExactInstantiateLin", unfollowed := true, recurses := true, apart := false }
def FnExactInstantiateLinSaid : Prop := fnExactInstantiateLinRow.holds Try.pinned (OpenSpec.ofChange fnExactInstantiateLinSpec)

/-- ITS FALSE NEIGHBOUR: 'it returns false'. Refute it at one input. -/
def fnExactInstantiateLinWrong : ChangeSpec := { name := "fnExactInstantiateLin", fn := fun _ => fun
  | [d1, d2] => { results := [.lit (.bool false)], args := [d1, d2] }
  | _ => none }
def FnExactInstantiateLinWrongFalsely : Prop := fnExactInstantiateLinRow.holds Try.pinned (OpenSpec.ofChange fnExactInstantiateLinWrong)

/-- 'laws.FnExactRuleCost': WHATEVER THE INPUT: true; the input reads as it did. -/
def fnExactRuleCostSpec : ChangeSpec := { name := "fnExactRuleCost", fn := fun _ => fun
  | [d1, d2] => { results := [.lit (.bool true)], args := [d1, d2] }
  | _ => none }
def fnExactRuleCostRow : OpenClaim := { program := "ytlbdgpkgmheikaa", sum := "1a829a960ba9af04d404ed5b4f792d12b4c647e9b405df236710db1e4518cf45", func := "loop.example/g00515/laws.FnExactRuleCost", spec := "fnExactRuleCost", apart := false }
def FnExactRuleCostSaid : Prop := fnExactRuleCostRow.holds Try.pinned (OpenSpec.ofChange fnExactRuleCostSpec)

/-- ITS FALSE NEIGHBOUR: 'it returns false'. Refute it at one input. -/
def fnExactRuleCostWrong : ChangeSpec := { name := "fnExactRuleCost", fn := fun _ => fun
  | [d1, d2] => { results := [.lit (.bool false)], args := [d1, d2] }
  | _ => none }
def FnExactRuleCostWrongFalsely : Prop := fnExactRuleCostRow.holds Try.pinned (OpenSpec.ofChange fnExactRuleCostWrong)

/-- 'laws.FnExactTransport': WHATEVER THE INPUT: true; the input reads as it did. -/
def fnExactTransportSpec : ChangeSpec := { name := "fnExactTransport", fn := fun _ => fun
  | [d1, d2, d3] => { results := [.lit (.bool true)], args := [d1, d2, d3] }
  | _ => none }
def fnExactTransportRow : OpenClaim := { program := "ytlbdgpkgmheikaa", sum := "1a829a960ba9af04d404ed5b4f792d12b4c647e9b405df236710db1e4518cf45", func := "loop.example/g00515/laws.FnExactTransport", spec := "fnExactTransport", unfollowed := true, recurses := true, apart := false }
def FnExactTransportSaid : Prop := fnExactTransportRow.holds Try.pinned (OpenSpec.ofChange fnExactTransportSpec)

/-- ITS FALSE NEIGHBOUR: 'it returns false'. Refute it at one input. -/
def fnExactTransportWrong : ChangeSpec := { name := "fnExactTransport", fn := fun _ => fun
  | [d1, d2, d3] => { results := [.lit (.bool false)], args := [d1, d2, d3] }
  | _ => none }
def FnExactTransportWrongFalsely : Prop := fnExactTransportRow.holds Try.pinned (OpenSpec.ofChange fnExactTransportWrong)

/-- 'laws.FnExactCheckAll': WHATEVER THE INPUT: true; the input reads as it did. -/
def fnExactCheckAllSpec : ChangeSpec := { name := "fnExactCheckAll", fn := fun _ => fun
  | [d1, d2] => { results := [.lit (.bool true)], args := [d1, d2] }
  | _ => none }
def fnExactCheckAllRow : OpenClaim := { program := "ytlbdgpkgmheikaa", sum := "1a829a960ba9af04d404ed5b4f792d12b4c647e9b405df236710db1e4518cf45", func := "loop.example/g00515/laws.FnExactCheckAll", spec := "fnExactCheckAll", unfollowed := true, recurses := true, apart := false }
def FnExactCheckAllSaid : Prop := fnExactCheckAllRow.holds Try.pinned (OpenSpec.ofChange fnExactCheckAllSpec)

/-- ITS FALSE NEIGHBOUR: 'it returns false'. Refute it at one input. -/
def fnExactCheckAllWrong : ChangeSpec := { name := "fnExactCheckAll", fn := fun _ => fun
  | [d1, d2] => { results := [.lit (.bool false)], args := [d1, d2] }
  | _ => none }
def FnExactCheckAllWrongFalsely : Prop := fnExactCheckAllRow.holds Try.pinned (OpenSpec.ofChange fnExactCheckAllWrong)

/-- 'laws.FnExactDifference': WHATEVER THE INPUT: true; the input reads as it did. -/
def fnExactDifferenceSpec : ChangeSpec := { name := "fnExactDifference", fn := fun _ => fun
  | [d1, d2, d3, d4, d5] => { results := [.lit (.bool true)], args := [d1, d2, d3, d4, d5] }
  | _ => none }
def fnExactDifferenceRow : OpenClaim := { program := "ytlbdgpkgmheikaa", sum := "1a829a960ba9af04d404ed5b4f792d12b4c647e9b405df236710db1e4518cf45", func := "loop.example/g00515/laws.FnExactDifference", spec := "fnExactDifference", unfollowed := true, recurses := true, apart := false }
def FnExactDifferenceSaid : Prop := fnExactDifferenceRow.holds Try.pinned (OpenSpec.ofChange fnExactDifferenceSpec)

/-- ITS FALSE NEIGHBOUR: 'it returns false'. Refute it at one input. -/
def fnExactDifferenceWrong : ChangeSpec := { name := "fnExactDifference", fn := fun _ => fun
  | [d1, d2, d3, d4, d5] => { results := [.lit (.bool false)], args := [d1, d2, d3, d4, d5] }
  | _ => none }
def FnExactDifferenceWrongFalsely : Prop := fnExactDifferenceRow.holds Try.pinned (OpenSpec.ofChange fnExactDifferenceWrong)

/-- 'laws.FnExactNamesOf': WHATEVER THE INPUT: true; the input reads as it did. -/
def fnExactNamesOfSpec : ChangeSpec := { name := "fnExactNamesOf", fn := fun _ => fun
  | [d] => { results := [.lit (.bool true)], args := [d] }
  | _ => none }
def fnExactNamesOfRow : OpenClaim := { program := "ytlbdgpkgmheikaa", sum := "1a829a960ba9af04d404ed5b4f792d12b4c647e9b405df236710db1e4518cf45", func := "loop.example/g00515/laws.FnExactNamesOf", spec := "fnExactNamesOf", recurses := true, apart := false }
def FnExactNamesOfSaid : Prop := fnExactNamesOfRow.holds Try.pinned (OpenSpec.ofChange fnExactNamesOfSpec)

/-- ITS FALSE NEIGHBOUR: 'it returns false'. Refute it at one input. -/
def fnExactNamesOfWrong : ChangeSpec := { name := "fnExactNamesOf", fn := fun _ => fun
  | [d] => { results := [.lit (.bool false)], args := [d] }
  | _ => none }
def FnExactNamesOfWrongFalsely : Prop := fnExactNamesOfRow.holds Try.pinned (OpenSpec.ofChange fnExactNamesOfWrong)

/-- 'laws.FnExactProveAll': WHATEVER THE INPUT: true; the input reads as it did. -/
def fnExactProveAllSpec : ChangeSpec := { name := "fnExactProveAll", fn := fun _ => fun
  | [d] => { results := [.lit (.bool true)], args := [d] }
  | _ => none }
def fnExactProveAllRow : OpenClaim := { program := "ytlbdgpkgmheikaa", sum := "1a829a960ba9af04d404ed5b4f792d12b4c647e9b405df236710db1e4518cf45", func := "loop.example/g00515/laws.FnExactProveAll", spec := "fnExactProveAll", unfollowed := true, recurses := true, apart := false }
def FnExactProveAllSaid : Prop := fnExactProveAllRow.holds Try.pinned (OpenSpec.ofChange fnExactProveAllSpec)

/-- ITS FALSE NEIGHBOUR: 'it returns false'. Refute it at one input. -/
def fnExactProveAllWrong : ChangeSpec := { name := "fnExactProveAll", fn := fun _ => fun
  | [d] => { results := [.lit (.bool false)], args := [d] }
  | _ => none }
def FnExactProveAllWrongFalsely : Prop := fnExactProveAllRow.holds Try.pinned (OpenSpec.ofChange fnExactProveAllWrong)

/-- 'laws.FnExactEqualProgram': WHATEVER THE INPUT: true; the input reads as it did. -/
def fnExactEqualProgramSpec : ChangeSpec := { name := "fnExactEqualProgram", fn := fun _ => fun
  | [d1, d2] => { results := [.lit (.bool true)], args := [d1, d2] }
  | _ => none }
def fnExactEqualProgramRow : OpenClaim := { program := "ytlbdgpkgmheikaa", sum := "1a829a960ba9af04d404ed5b4f792d12b4c647e9b405df236710db1e4518cf45", func := "loop.example/g00515/laws.FnExactEqualProgram", spec := "fnExactEqualProgram", unfollowed := true, recurses := true, apart := false }
def FnExactEqualProgramSaid : Prop := fnExactEqualProgramRow.holds Try.pinned (OpenSpec.ofChange fnExactEqualProgramSpec)

/-- ITS FALSE NEIGHBOUR: 'it returns false'. Refute it at one input. -/
def fnExactEqualProgramWrong : ChangeSpec := { name := "fnExactEqualProgram", fn := fun _ => fun
  | [d1, d2] => { results := [.lit (.bool false)], args := [d1, d2] }
  | _ => none }
def FnExactEqualProgramWrongFalsely : Prop := fnExactEqualProgramRow.holds Try.pinned (OpenSpec.ofChange fnExactEqualProgramWrong)

/-- 'laws.FnExactFindFunction': WHATEVER THE INPUT: true; the input reads as it did. -/
def fnExactFindFunctionSpec : ChangeSpec := { name := "fnExactFindFunction", fn := fun _ => fun
  | [d1, d2] => { results := [.lit (.bool true)], args := [d1, d2] }
  | _ => none }
def fnExactFindFunctionRow : OpenClaim := { program := "ytlbdgpkgmheikaa", sum := "1a829a960ba9af04d404ed5b4f792d12b4c647e9b405df236710db1e4518cf45", func := "loop.example/g00515/laws.FnExactFindFunction", spec := "fnExactFindFunction", unfollowed := true, recurses := true, apart := false }
def FnExactFindFunctionSaid : Prop := fnExactFindFunctionRow.holds Try.pinned (OpenSpec.ofChange fnExactFindFunctionSpec)

/-- ITS FALSE NEIGHBOUR: 'it returns false'. Refute it at one input. -/
def fnExactFindFunctionWrong : ChangeSpec := { name := "fnExactFindFunction", fn := fun _ => fun
  | [d1, d2] => { results := [.lit (.bool false)], args := [d1, d2] }
  | _ => none }
def FnExactFindFunctionWrongFalsely : Prop := fnExactFindFunctionRow.holds Try.pinned (OpenSpec.ofChange fnExactFindFunctionWrong)

/-- 'laws.FnExactScopeOf': WHATEVER THE INPUT: true; the input reads as it did. -/
def fnExactScopeOfSpec : ChangeSpec := { name := "fnExactScopeOf", fn := fun _ => fun
  | [d1, d2, d3] => { results := [.lit (.bool true)], args := [d1, d2, d3] }
  | _ => none }
def fnExactScopeOfRow : OpenClaim := { program := "ytlbdgpkgmheikaa", sum := "1a829a960ba9af04d404ed5b4f792d12b4c647e9b405df236710db1e4518cf45", func := "loop.example/g00515/laws.FnExactScopeOf", spec := "fnExactScopeOf", unfollowed := true, recurses := true, apart := false }
def FnExactScopeOfSaid : Prop := fnExactScopeOfRow.holds Try.pinned (OpenSpec.ofChange fnExactScopeOfSpec)

/-- ITS FALSE NEIGHBOUR: 'it returns false'. Refute it at one input. -/
def fnExactScopeOfWrong : ChangeSpec := { name := "fnExactScopeOf", fn := fun _ => fun
  | [d1, d2, d3] => { results := [.lit (.bool false)], args := [d1, d2, d3] }
  | _ => none }
def FnExactScopeOfWrongFalsely : Prop := fnExactScopeOfRow.holds Try.pinned (OpenSpec.ofChange fnExactScopeOfWrong)

/- THE SECOND FORM. 'bulk': how many values and letters a reading holds, each counted each time it is reached (what is shared counts as often as it is met; a slice's spare places count too). A statement '..UptoSaid' is the law's where the arguments, and the package variables that the reading takes, are together of bulk at most 1048576: NARROWER than '..Said'. Prove '..Said' where nothing that the law and all that it calls make is longer than what came in: it says more and counts as full. Else prove '..UptoSaid'. A law counts once. -/
mutual
def uptoBulk {H : Type} : DataW H → Nat
  | .lit (.string bytes) => bytes.length + 1
  | .lit _ => 1
  | .nil => 1
  | .ptr d => uptoBulk d + 1
  | .slice elems spare => uptoBulkAll elems + uptoBulkAll spare + 1
  | .agg parts => uptoBulkAll parts + 1
  | .iface _ d => uptoBulk d + 1
  | .map entries => uptoBulkEntries entries + 1
  | .held _ => 1
def uptoBulkAll {H : Type} : List (DataW H) → Nat
  | [] => 0
  | d :: r => uptoBulk d + uptoBulkAll r
def uptoBulkEntries {H : Type} : List (Lit × DataW H) → Nat
  | [] => 0
  | x :: r => uptoBulkEntry x + uptoBulkEntries r
def uptoBulkEntry {H : Type} : Lit × DataW H → Nat
  | (.string bytes, d) => bytes.length + uptoBulk d + 1
  | (_, d) => uptoBulk d + 1
 end
def uptoSmall : (H : Type) → List (DataW H) → Bool := fun _ ds => decide (uptoBulkAll ds ≤ 1048576)
def OpenSpec.upto (s : _root_.Go.ChangeSpec) : _root_.Go.OpenSpec := { _root_.Go.OpenSpec.ofChange s with cond := some uptoSmall }

/-- 'laws.FnExactInstantiateLin', WHERE WHAT IT READS IS OF BULK AT MOST 1048576: true; the input reads as it did. -/
def fnExactInstantiateLinUptoRow : OpenClaim := { program := "ytlbdgpkgmheikaa", sum := "1a829a960ba9af04d404ed5b4f792d12b4c647e9b405df236710db1e4518cf45", func := "loop.example/g00515/laws.FnExactInstantiateLin", spec := "fnExactInstantiateLin", unfollowed := true, recurses := true, apart := false, narrowed := true }
def FnExactInstantiateLinUptoSaid : Prop := fnExactInstantiateLinUptoRow.holds Try.pinned (OpenSpec.upto fnExactInstantiateLinSpec)

/-- 'laws.FnExactRuleCost', WHERE WHAT IT READS IS OF BULK AT MOST 1048576: true; the input reads as it did. -/
def fnExactRuleCostUptoRow : OpenClaim := { program := "ytlbdgpkgmheikaa", sum := "1a829a960ba9af04d404ed5b4f792d12b4c647e9b405df236710db1e4518cf45", func := "loop.example/g00515/laws.FnExactRuleCost", spec := "fnExactRuleCost", apart := false, narrowed := true }
def FnExactRuleCostUptoSaid : Prop := fnExactRuleCostUptoRow.holds Try.pinned (OpenSpec.upto fnExactRuleCostSpec)

/-- 'laws.FnExactTransport', WHERE WHAT IT READS IS OF BULK AT MOST 1048576: true; the input reads as it did. -/
def fnExactTransportUptoRow : OpenClaim := { program := "ytlbdgpkgmheikaa", sum := "1a829a960ba9af04d404ed5b4f792d12b4c647e9b405df236710db1e4518cf45", func := "loop.example/g00515/laws.FnExactTransport", spec := "fnExactTransport", unfollowed := true, recurses := true, apart := false, narrowed := true }
def FnExactTransportUptoSaid : Prop := fnExactTransportUptoRow.holds Try.pinned (OpenSpec.upto fnExactTransportSpec)

/-- 'laws.FnExactCheckAll', WHERE WHAT IT READS IS OF BULK AT MOST 1048576: true; the input reads as it did. -/
def fnExactCheckAllUptoRow : OpenClaim := { program := "ytlbdgpkgmheikaa", sum := "1a829a960ba9af04d404ed5b4f792d12b4c647e9b405df236710db1e4518cf45", func := "loop.example/g00515/laws.FnExactCheckAll", spec := "fnExactCheckAll", unfollowed := true, recurses := true, apart := false, narrowed := true }
def FnExactCheckAllUptoSaid : Prop := fnExactCheckAllUptoRow.holds Try.pinned (OpenSpec.upto fnExactCheckAllSpec)

/-- 'laws.FnExactDifference', WHERE WHAT IT READS IS OF BULK AT MOST 1048576: true; the input reads as it did. -/
def fnExactDifferenceUptoRow : OpenClaim := { program := "ytlbdgpkgmheikaa", sum := "1a829a960ba9af04d404ed5b4f792d12b4c647e9b405df236710db1e4518cf45", func := "loop.example/g00515/laws.FnExactDifference", spec := "fnExactDifference", unfollowed := true, recurses := true, apart := false, narrowed := true }
def FnExactDifferenceUptoSaid : Prop := fnExactDifferenceUptoRow.holds Try.pinned (OpenSpec.upto fnExactDifferenceSpec)

/-- 'laws.FnExactNamesOf', WHERE WHAT IT READS IS OF BULK AT MOST 1048576: true; the input reads as it did. -/
def fnExactNamesOfUptoRow : OpenClaim := { program := "ytlbdgpkgmheikaa", sum := "1a829a960ba9af04d404ed5b4f792d12b4c647e9b405df236710db1e4518cf45", func := "loop.example/g00515/laws.FnExactNamesOf", spec := "fnExactNamesOf", recurses := true, apart := false, narrowed := true }
def FnExactNamesOfUptoSaid : Prop := fnExactNamesOfUptoRow.holds Try.pinned (OpenSpec.upto fnExactNamesOfSpec)

/-- 'laws.FnExactProveAll', WHERE WHAT IT READS IS OF BULK AT MOST 1048576: true; the input reads as it did. -/
def fnExactProveAllUptoRow : OpenClaim := { program := "ytlbdgpkgmheikaa", sum := "1a829a960ba9af04d404ed5b4f792d12b4c647e9b405df236710db1e4518cf45", func := "loop.example/g00515/laws.FnExactProveAll", spec := "fnExactProveAll", unfollowed := true, recurses := true, apart := false, narrowed := true }
def FnExactProveAllUptoSaid : Prop := fnExactProveAllUptoRow.holds Try.pinned (OpenSpec.upto fnExactProveAllSpec)

/-- 'laws.FnExactEqualProgram', WHERE WHAT IT READS IS OF BULK AT MOST 1048576: true; the input reads as it did. -/
def fnExactEqualProgramUptoRow : OpenClaim := { program := "ytlbdgpkgmheikaa", sum := "1a829a960ba9af04d404ed5b4f792d12b4c647e9b405df236710db1e4518cf45", func := "loop.example/g00515/laws.FnExactEqualProgram", spec := "fnExactEqualProgram", unfollowed := true, recurses := true, apart := false, narrowed := true }
def FnExactEqualProgramUptoSaid : Prop := fnExactEqualProgramUptoRow.holds Try.pinned (OpenSpec.upto fnExactEqualProgramSpec)

/-- 'laws.FnExactFindFunction', WHERE WHAT IT READS IS OF BULK AT MOST 1048576: true; the input reads as it did. -/
def fnExactFindFunctionUptoRow : OpenClaim := { program := "ytlbdgpkgmheikaa", sum := "1a829a960ba9af04d404ed5b4f792d12b4c647e9b405df236710db1e4518cf45", func := "loop.example/g00515/laws.FnExactFindFunction", spec := "fnExactFindFunction", unfollowed := true, recurses := true, apart := false, narrowed := true }
def FnExactFindFunctionUptoSaid : Prop := fnExactFindFunctionUptoRow.holds Try.pinned (OpenSpec.upto fnExactFindFunctionSpec)

/-- 'laws.FnExactScopeOf', WHERE WHAT IT READS IS OF BULK AT MOST 1048576: true; the input reads as it did. -/
def fnExactScopeOfUptoRow : OpenClaim := { program := "ytlbdgpkgmheikaa", sum := "1a829a960ba9af04d404ed5b4f792d12b4c647e9b405df236710db1e4518cf45", func := "loop.example/g00515/laws.FnExactScopeOf", spec := "fnExactScopeOf", unfollowed := true, recurses := true, apart := false, narrowed := true }
def FnExactScopeOfUptoSaid : Prop := fnExactScopeOfUptoRow.holds Try.pinned (OpenSpec.upto fnExactScopeOfSpec)

end Rows
end Go.Proofs.Ytlbdgpkgmheikaa

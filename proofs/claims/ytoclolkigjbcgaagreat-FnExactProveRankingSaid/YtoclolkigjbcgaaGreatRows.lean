/-
  No cell of these rows narrows 'for every input' (looked for: loops, veiled, ifaces, maps, wideKeys, modest, calm, conditions, laid).
  DERIVED. THE GIVEN ROWS OF THIS SEAT. 9 by the template 'for every input the law returns true; each argument reads behind the call as it read before'; 0 by the template 'total and deterministic' (their statements: YtoclolkigjbcgaaGreatTotals.lean).
  GIVEN WITH THE SEED: the statements are not yours to turn. If you find one false, say at which input.
  Laid BY PROGRAM, IN A SANDBOX (cutbox-rows.mjs): the forced cells as the released guide's own fill.sh prints them over the translation 26c82afa908f9f41… (all of the seat's roots in one cut). By AI agents, Wed Nov 11 2026. No macro, syntax, notation, axiom, sorry.
-/
import Derived.Test.YtoclolkigjbcgaaGreatChecked
import GoSem.Claim
import GoSem.ClaimJoined
import GoSem.ClaimMapViews
import Derived.JoinedTies
import Derived.KernelRfl
namespace Go.Proofs.YtoclolkigjbcgaaGreat
/- THE CELL 'sum', in the pinned program and in every row, IS THE sha256 OF THE DUMP (.gsa) THAT YtoclolkigjbcgaaGreatProg.lean LOADS. Nothing in Lean hashes anything: it is a label: what it is worth is what the hold of that sum in a sandbox is worth. -/
noncomputable def Tryz.pinned : Pinned := { name := "ytoclolkigjbcgaagreat", sum := "26c82afa908f9f413ed363248491327ad99abf3ebe2ab28208bbd77ce1f3fe90", checked := Tryz.checked }
namespace Rows
def none {H : Type} : Left H := { results := [], args := [] }

/-- 'laws.FnExactComponentsOf': WHATEVER THE INPUT: true; the input reads as it did. -/
def fnExactComponentsOfSpec : ChangeSpec := { name := "fnExactComponentsOf", fn := fun _ => fun
  | [d] => { results := [.lit (.bool true)], args := [d] }
  | _ => none }
def fnExactComponentsOfRow : OpenClaim := { program := "ytoclolkigjbcgaagreat", sum := "26c82afa908f9f413ed363248491327ad99abf3ebe2ab28208bbd77ce1f3fe90", func := "loop.example/g00515/laws.FnExactComponentsOf", spec := "fnExactComponentsOf", unfollowed := true, recurses := true, apart := false }
def FnExactComponentsOfSaid : Prop := fnExactComponentsOfRow.holds Tryz.pinned (OpenSpec.ofChange fnExactComponentsOfSpec)

/-- ITS FALSE NEIGHBOUR: 'it returns false'. Refute it at one input. -/
def fnExactComponentsOfWrong : ChangeSpec := { name := "fnExactComponentsOf", fn := fun _ => fun
  | [d] => { results := [.lit (.bool false)], args := [d] }
  | _ => none }
def FnExactComponentsOfWrongFalsely : Prop := fnExactComponentsOfRow.holds Tryz.pinned (OpenSpec.ofChange fnExactComponentsOfWrong)

/-- 'laws.FnExactWithPre': WHATEVER THE INPUT: true; the input reads as it did. -/
def fnExactWithPreSpec : ChangeSpec := { name := "fnExactWithPre", fn := fun _ => fun
  | [d1, d2, d3] => { results := [.lit (.bool true)], args := [d1, d2, d3] }
  | _ => none }
def fnExactWithPreRow : OpenClaim := { program := "ytoclolkigjbcgaagreat", sum := "26c82afa908f9f413ed363248491327ad99abf3ebe2ab28208bbd77ce1f3fe90", func := "loop.example/g00515/laws.FnExactWithPre", spec := "fnExactWithPre", unfollowed := true, recurses := true, apart := false }
def FnExactWithPreSaid : Prop := fnExactWithPreRow.holds Tryz.pinned (OpenSpec.ofChange fnExactWithPreSpec)

/-- ITS FALSE NEIGHBOUR: 'it returns false'. Refute it at one input. -/
def fnExactWithPreWrong : ChangeSpec := { name := "fnExactWithPre", fn := fun _ => fun
  | [d1, d2, d3] => { results := [.lit (.bool false)], args := [d1, d2, d3] }
  | _ => none }
def FnExactWithPreWrongFalsely : Prop := fnExactWithPreRow.holds Tryz.pinned (OpenSpec.ofChange fnExactWithPreWrong)

/-- 'laws.FnExactPreHolds': WHATEVER THE INPUT: true; the input reads as it did. -/
def fnExactPreHoldsSpec : ChangeSpec := { name := "fnExactPreHolds", fn := fun _ => fun
  | [d] => { results := [.lit (.bool true)], args := [d] }
  | _ => none }
def fnExactPreHoldsRow : OpenClaim := { program := "ytoclolkigjbcgaagreat", sum := "26c82afa908f9f413ed363248491327ad99abf3ebe2ab28208bbd77ce1f3fe90", func := "loop.example/g00515/laws.FnExactPreHolds", spec := "fnExactPreHolds", unfollowed := true, recurses := true, apart := false }
def FnExactPreHoldsSaid : Prop := fnExactPreHoldsRow.holds Tryz.pinned (OpenSpec.ofChange fnExactPreHoldsSpec)

/-- ITS FALSE NEIGHBOUR: 'it returns false'. Refute it at one input. -/
def fnExactPreHoldsWrong : ChangeSpec := { name := "fnExactPreHolds", fn := fun _ => fun
  | [d] => { results := [.lit (.bool false)], args := [d] }
  | _ => none }
def FnExactPreHoldsWrongFalsely : Prop := fnExactPreHoldsRow.holds Tryz.pinned (OpenSpec.ofChange fnExactPreHoldsWrong)

/-- 'laws.FnExactBoundObligations': WHATEVER THE INPUT: true; the input reads as it did. -/
def fnExactBoundObligationsSpec : ChangeSpec := { name := "fnExactBoundObligations", fn := fun _ => fun
  | [d1, d2] => { results := [.lit (.bool true)], args := [d1, d2] }
  | _ => none }
def fnExactBoundObligationsRow : OpenClaim := { program := "ytoclolkigjbcgaagreat", sum := "26c82afa908f9f413ed363248491327ad99abf3ebe2ab28208bbd77ce1f3fe90", func := "loop.example/g00515/laws.FnExactBoundObligations", spec := "fnExactBoundObligations", unfollowed := true, recurses := true, apart := false }
def FnExactBoundObligationsSaid : Prop := fnExactBoundObligationsRow.holds Tryz.pinned (OpenSpec.ofChange fnExactBoundObligationsSpec)

/-- ITS FALSE NEIGHBOUR: 'it returns false'. Refute it at one input. -/
def fnExactBoundObligationsWrong : ChangeSpec := { name := "fnExactBoundObligations", fn := fun _ => fun
  | [d1, d2] => { results := [.lit (.bool false)], args := [d1, d2] }
  | _ => none }
def FnExactBoundObligationsWrongFalsely : Prop := fnExactBoundObligationsRow.holds Tryz.pinned (OpenSpec.ofChange fnExactBoundObligationsWrong)

/-- 'laws.FnExactCheckBounds': WHATEVER THE INPUT: true; the input reads as it did. -/
def fnExactCheckBoundsSpec : ChangeSpec := { name := "fnExactCheckBounds", fn := fun _ => fun
  | [d1, d2, d3] => { results := [.lit (.bool true)], args := [d1, d2, d3] }
  | _ => none }
def fnExactCheckBoundsRow : OpenClaim := { program := "ytoclolkigjbcgaagreat", sum := "26c82afa908f9f413ed363248491327ad99abf3ebe2ab28208bbd77ce1f3fe90", func := "loop.example/g00515/laws.FnExactCheckBounds", spec := "fnExactCheckBounds", unfollowed := true, recurses := true, apart := false }
def FnExactCheckBoundsSaid : Prop := fnExactCheckBoundsRow.holds Tryz.pinned (OpenSpec.ofChange fnExactCheckBoundsSpec)

/-- ITS FALSE NEIGHBOUR: 'it returns false'. Refute it at one input. -/
def fnExactCheckBoundsWrong : ChangeSpec := { name := "fnExactCheckBounds", fn := fun _ => fun
  | [d1, d2, d3] => { results := [.lit (.bool false)], args := [d1, d2, d3] }
  | _ => none }
def FnExactCheckBoundsWrongFalsely : Prop := fnExactCheckBoundsRow.holds Tryz.pinned (OpenSpec.ofChange fnExactCheckBoundsWrong)

/-- 'laws.FnExactCheckRanking': WHATEVER THE INPUT: true; the input reads as it did. -/
def fnExactCheckRankingSpec : ChangeSpec := { name := "fnExactCheckRanking", fn := fun _ => fun
  | [d1, d2, d3] => { results := [.lit (.bool true)], args := [d1, d2, d3] }
  | _ => none }
def fnExactCheckRankingRow : OpenClaim := { program := "ytoclolkigjbcgaagreat", sum := "26c82afa908f9f413ed363248491327ad99abf3ebe2ab28208bbd77ce1f3fe90", func := "loop.example/g00515/laws.FnExactCheckRanking", spec := "fnExactCheckRanking", unfollowed := true, recurses := true, apart := false }
def FnExactCheckRankingSaid : Prop := fnExactCheckRankingRow.holds Tryz.pinned (OpenSpec.ofChange fnExactCheckRankingSpec)

/-- ITS FALSE NEIGHBOUR: 'it returns false'. Refute it at one input. -/
def fnExactCheckRankingWrong : ChangeSpec := { name := "fnExactCheckRanking", fn := fun _ => fun
  | [d1, d2, d3] => { results := [.lit (.bool false)], args := [d1, d2, d3] }
  | _ => none }
def FnExactCheckRankingWrongFalsely : Prop := fnExactCheckRankingRow.holds Tryz.pinned (OpenSpec.ofChange fnExactCheckRankingWrong)

/-- 'laws.FnExactRankObligations': WHATEVER THE INPUT: true; the input reads as it did. -/
def fnExactRankObligationsSpec : ChangeSpec := { name := "fnExactRankObligations", fn := fun _ => fun
  | [d1, d2] => { results := [.lit (.bool true)], args := [d1, d2] }
  | _ => none }
def fnExactRankObligationsRow : OpenClaim := { program := "ytoclolkigjbcgaagreat", sum := "26c82afa908f9f413ed363248491327ad99abf3ebe2ab28208bbd77ce1f3fe90", func := "loop.example/g00515/laws.FnExactRankObligations", spec := "fnExactRankObligations", unfollowed := true, recurses := true, apart := false }
def FnExactRankObligationsSaid : Prop := fnExactRankObligationsRow.holds Tryz.pinned (OpenSpec.ofChange fnExactRankObligationsSpec)

/-- ITS FALSE NEIGHBOUR: 'it returns false'. Refute it at one input. -/
def fnExactRankObligationsWrong : ChangeSpec := { name := "fnExactRankObligations", fn := fun _ => fun
  | [d1, d2] => { results := [.lit (.bool false)], args := [d1, d2] }
  | _ => none }
def FnExactRankObligationsWrongFalsely : Prop := fnExactRankObligationsRow.holds Tryz.pinned (OpenSpec.ofChange fnExactRankObligationsWrong)

/-- 'laws.FnExactProveBounds': WHATEVER THE INPUT: true; the input reads as it did. -/
def fnExactProveBoundsSpec : ChangeSpec := { name := "fnExactProveBounds", fn := fun _ => fun
  | [d1, d2] => { results := [.lit (.bool true)], args := [d1, d2] }
  | _ => none }
def fnExactProveBoundsRow : OpenClaim := { program := "ytoclolkigjbcgaagreat", sum := "26c82afa908f9f413ed363248491327ad99abf3ebe2ab28208bbd77ce1f3fe90", func := "loop.example/g00515/laws.FnExactProveBounds", spec := "fnExactProveBounds", unfollowed := true, recurses := true, apart := false }
def FnExactProveBoundsSaid : Prop := fnExactProveBoundsRow.holds Tryz.pinned (OpenSpec.ofChange fnExactProveBoundsSpec)

/-- ITS FALSE NEIGHBOUR: 'it returns false'. Refute it at one input. -/
def fnExactProveBoundsWrong : ChangeSpec := { name := "fnExactProveBounds", fn := fun _ => fun
  | [d1, d2] => { results := [.lit (.bool false)], args := [d1, d2] }
  | _ => none }
def FnExactProveBoundsWrongFalsely : Prop := fnExactProveBoundsRow.holds Tryz.pinned (OpenSpec.ofChange fnExactProveBoundsWrong)

/-- 'laws.FnExactProveRanking': WHATEVER THE INPUT: true; the input reads as it did. -/
def fnExactProveRankingSpec : ChangeSpec := { name := "fnExactProveRanking", fn := fun _ => fun
  | [d1, d2] => { results := [.lit (.bool true)], args := [d1, d2] }
  | _ => none }
def fnExactProveRankingRow : OpenClaim := { program := "ytoclolkigjbcgaagreat", sum := "26c82afa908f9f413ed363248491327ad99abf3ebe2ab28208bbd77ce1f3fe90", func := "loop.example/g00515/laws.FnExactProveRanking", spec := "fnExactProveRanking", unfollowed := true, recurses := true, apart := false }
def FnExactProveRankingSaid : Prop := fnExactProveRankingRow.holds Tryz.pinned (OpenSpec.ofChange fnExactProveRankingSpec)

/-- ITS FALSE NEIGHBOUR: 'it returns false'. Refute it at one input. -/
def fnExactProveRankingWrong : ChangeSpec := { name := "fnExactProveRanking", fn := fun _ => fun
  | [d1, d2] => { results := [.lit (.bool false)], args := [d1, d2] }
  | _ => none }
def FnExactProveRankingWrongFalsely : Prop := fnExactProveRankingRow.holds Tryz.pinned (OpenSpec.ofChange fnExactProveRankingWrong)

/- THE SECOND FORM. 'bulk': how many values and letters a reading holds, each counted each time it is reached (what is shared counts as often as it is met; a slice's spare places count too). A statement '..UptoSaid' is the law's where the arguments, and the package variables that the reading takes, are together of bulk at most 1048576: NARROWER than '..Said'. Prove '..Said' where nothing that the law and all that it calls make is longer than what came in: it says more and counts as full. Else prove '..UptoSaid'. A law counts once. -/
mutual
def uptoBulk {H : Type} : DataW H → Nat
  | .lit (.string bytes) => bytes.length + 1
  | .lit _ => 1
  | .nil => 1
  | .ptr d => uptoBulk d + 1
  | .slice elems spare => uptoBulkAll elems + uptoBulkAll spare + 1
  | .agg parts => uptoBulkAll parts + 1
  | .iface _ d => uptoBulk d + 1
  | .map entries => uptoBulkEntries entries + 1
  | .held _ => 1
def uptoBulkAll {H : Type} : List (DataW H) → Nat
  | [] => 0
  | d :: r => uptoBulk d + uptoBulkAll r
def uptoBulkEntries {H : Type} : List (Lit × DataW H) → Nat
  | [] => 0
  | x :: r => uptoBulkEntry x + uptoBulkEntries r
def uptoBulkEntry {H : Type} : Lit × DataW H → Nat
  | (.string bytes, d) => bytes.length + uptoBulk d + 1
  | (_, d) => uptoBulk d + 1
 end
def uptoSmall : (H : Type) → List (DataW H) → Bool := fun _ ds => decide (uptoBulkAll ds ≤ 1048576)
def OpenSpec.upto (s : _root_.Go.ChangeSpec) : _root_.Go.OpenSpec := { _root_.Go.OpenSpec.ofChange s with cond := some uptoSmall }

/-- 'laws.FnExactComponentsOf', WHERE WHAT IT READS IS OF BULK AT MOST 1048576: true; the input reads as it did. -/
def fnExactComponentsOfUptoRow : OpenClaim := { program := "ytoclolkigjbcgaagreat", sum := "26c82afa908f9f413ed363248491327ad99abf3ebe2ab28208bbd77ce1f3fe90", func := "loop.example/g00515/laws.FnExactComponentsOf", spec := "fnExactComponentsOf", unfollowed := true, recurses := true, apart := false, narrowed := true }
def FnExactComponentsOfUptoSaid : Prop := fnExactComponentsOfUptoRow.holds Tryz.pinned (OpenSpec.upto fnExactComponentsOfSpec)

/-- 'laws.FnExactWithPre', WHERE WHAT IT READS IS OF BULK AT MOST 1048576: true; the input reads as it did. -/
def fnExactWithPreUptoRow : OpenClaim := { program := "ytoclolkigjbcgaagreat", sum := "26c82afa908f9f413ed363248491327ad99abf3ebe2ab28208bbd77ce1f3fe90", func := "loop.example/g00515/laws.FnExactWithPre", spec := "fnExactWithPre", unfollowed := true, recurses := true, apart := false, narrowed := true }
def FnExactWithPreUptoSaid : Prop := fnExactWithPreUptoRow.holds Tryz.pinned (OpenSpec.upto fnExactWithPreSpec)

/-- 'laws.FnExactPreHolds', WHERE WHAT IT READS IS OF BULK AT MOST 1048576: true; the input reads as it did. -/
def fnExactPreHoldsUptoRow : OpenClaim := { program := "ytoclolkigjbcgaagreat", sum := "26c82afa908f9f413ed363248491327ad99abf3ebe2ab28208bbd77ce1f3fe90", func := "loop.example/g00515/laws.FnExactPreHolds", spec := "fnExactPreHolds", unfollowed := true, recurses := true, apart := false, narrowed := true }
def FnExactPreHoldsUptoSaid : Prop := fnExactPreHoldsUptoRow.holds Tryz.pinned (OpenSpec.upto fnExactPreHoldsSpec)

/-- 'laws.FnExactBoundObligations', WHERE WHAT IT READS IS OF BULK AT MOST 1048576: true; the input reads as it did. -/
def fnExactBoundObligationsUptoRow : OpenClaim := { program := "ytoclolkigjbcgaagreat", sum := "26c82afa908f9f413ed363248491327ad99abf3ebe2ab28208bbd77ce1f3fe90", func := "loop.example/g00515/laws.FnExactBoundObligations", spec := "fnExactBoundObligations", unfollowed := true, recurses := true, apart := false, narrowed := true }
def FnExactBoundObligationsUptoSaid : Prop := fnExactBoundObligationsUptoRow.holds Tryz.pinned (OpenSpec.upto fnExactBoundObligationsSpec)

/-- 'laws.FnExactCheckBounds', WHERE WHAT IT READS IS OF BULK AT MOST 1048576: true; the input reads as it did. -/
def fnExactCheckBoundsUptoRow : OpenClaim := { program := "ytoclolkigjbcgaagreat", sum := "26c82afa908f9f413ed363248491327ad99abf3ebe2ab28208bbd77ce1f3fe90", func := "loop.example/g00515/laws.FnExactCheckBounds", spec := "fnExactCheckBounds", unfollowed := true, recurses := true, apart := false, narrowed := true }
def FnExactCheckBoundsUptoSaid : Prop := fnExactCheckBoundsUptoRow.holds Tryz.pinned (OpenSpec.upto fnExactCheckBoundsSpec)

/-- 'laws.FnExactCheckRanking', WHERE WHAT IT READS IS OF BULK AT MOST 1048576: true; the input reads as it did. -/
def fnExactCheckRankingUptoRow : OpenClaim := { program := "ytoclolkigjbcgaagreat", sum := "26c82afa908f9f413ed363248491327ad99abf3ebe2ab28208bbd77ce1f3fe90", func := "loop.example/g00515/laws.FnExactCheckRanking", spec := "fnExactCheckRanking", unfollowed := true, recurses := true, apart := false, narrowed := true }
def FnExactCheckRankingUptoSaid : Prop := fnExactCheckRankingUptoRow.holds Tryz.pinned (OpenSpec.upto fnExactCheckRankingSpec)

/-- 'laws.FnExactRankObligations', WHERE WHAT IT READS IS OF BULK AT MOST 1048576: true; the input reads as it did. -/
def fnExactRankObligationsUptoRow : OpenClaim := { program := "ytoclolkigjbcgaagreat", sum := "26c82afa908f9f413ed363248491327ad99abf3ebe2ab28208bbd77ce1f3fe90", func := "loop.example/g00515/laws.FnExactRankObligations", spec := "fnExactRankObligations", unfollowed := true, recurses := true, apart := false, narrowed := true }
def FnExactRankObligationsUptoSaid : Prop := fnExactRankObligationsUptoRow.holds Tryz.pinned (OpenSpec.upto fnExactRankObligationsSpec)

/-- 'laws.FnExactProveBounds', WHERE WHAT IT READS IS OF BULK AT MOST 1048576: true; the input reads as it did. -/
def fnExactProveBoundsUptoRow : OpenClaim := { program := "ytoclolkigjbcgaagreat", sum := "26c82afa908f9f413ed363248491327ad99abf3ebe2ab28208bbd77ce1f3fe90", func := "loop.example/g00515/laws.FnExactProveBounds", spec := "fnExactProveBounds", unfollowed := true, recurses := true, apart := false, narrowed := true }
def FnExactProveBoundsUptoSaid : Prop := fnExactProveBoundsUptoRow.holds Tryz.pinned (OpenSpec.upto fnExactProveBoundsSpec)

/-- 'laws.FnExactProveRanking', WHERE WHAT IT READS IS OF BULK AT MOST 1048576: true; the input reads as it did. -/
def fnExactProveRankingUptoRow : OpenClaim := { program := "ytoclolkigjbcgaagreat", sum := "26c82afa908f9f413ed363248491327ad99abf3ebe2ab28208bbd77ce1f3fe90", func := "loop.example/g00515/laws.FnExactProveRanking", spec := "fnExactProveRanking", unfollowed := true, recurses := true, apart := false, narrowed := true }
def FnExactProveRankingUptoSaid : Prop := fnExactProveRankingUptoRow.holds Tryz.pinned (OpenSpec.upto fnExactProveRankingSpec)

end Rows
end Go.Proofs.YtoclolkigjbcgaaGreat

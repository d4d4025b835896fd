/-
  No cell of these rows narrows 'for every input' (looked for: loops, veiled, ifaces, maps, wideKeys, modest, calm, conditions, laid).
  DERIVED. THE GIVEN ROWS OF THIS SEAT. 8 by the template 'for every input the law returns true; each argument reads behind the call as it read before'; 0 by the template 'total and deterministic' (their statements: YtilcageplifbgaaGreatTotals.lean).
  GIVEN WITH THE SEED: the statements are not yours to turn. If you find one false, say at which input.
  Laid BY PROGRAM, IN A SANDBOX (cutbox-rows.mjs): the forced cells as the released guide's own fill.sh prints them over the translation ab156243754c9971… (all of the seat's roots in one cut). By AI agents, Wed Nov 11 2026. No macro, syntax, notation, axiom, sorry.
-/
import Derived.Test.YtilcageplifbgaaGreatChecked
import GoSem.Claim
import GoSem.ClaimJoined
import GoSem.ClaimMapViews
import Derived.JoinedTies
import Derived.KernelRfl
namespace Go.Proofs.YtilcageplifbgaaGreat
/- THE CELL 'sum', in the pinned program and in every row, IS THE sha256 OF THE DUMP (.gsa) THAT YtilcageplifbgaaGreatProg.lean LOADS. Nothing in Lean hashes anything: it is a label: what it is worth is what the hold of that sum in a sandbox is worth. -/
noncomputable def Tryz.pinned : Pinned := { name := "ytilcageplifbgaagreat", sum := "ab156243754c9971242c29f4a2d92dbc1ad1e908b7c86db985bfa635ae83b7fd", checked := Tryz.checked }
namespace Rows
def none {H : Type} : Left H := { results := [], args := [] }

/-- 'laws.FnExactDomainOf': WHATEVER THE INPUT: true; the input reads as it did. -/
def fnExactDomainOfSpec : ChangeSpec := { name := "fnExactDomainOf", fn := fun _ => fun
  | [d1, d2] => { results := [.lit (.bool true)], args := [d1, d2] }
  | _ => none }
def fnExactDomainOfRow : OpenClaim := { program := "ytilcageplifbgaagreat", sum := "ab156243754c9971242c29f4a2d92dbc1ad1e908b7c86db985bfa635ae83b7fd", func := "loop.example/g00515/laws.FnExactDomainOf", spec := "fnExactDomainOf", unfollowed := true, recurses := true, apart := false }
def FnExactDomainOfSaid : Prop := fnExactDomainOfRow.holds Tryz.pinned (OpenSpec.ofChange fnExactDomainOfSpec)

/-- ITS FALSE NEIGHBOUR: 'it returns false'. Refute it at one input. -/
def fnExactDomainOfWrong : ChangeSpec := { name := "fnExactDomainOf", fn := fun _ => fun
  | [d1, d2] => { results := [.lit (.bool false)], args := [d1, d2] }
  | _ => none }
def FnExactDomainOfWrongFalsely : Prop := fnExactDomainOfRow.holds Tryz.pinned (OpenSpec.ofChange fnExactDomainOfWrong)

/-- 'laws.FnExactComponentsOf': WHATEVER THE INPUT: true; the input reads as it did. -/
def fnExactComponentsOfSpec : ChangeSpec := { name := "fnExactComponentsOf", fn := fun _ => fun
  | [d] => { results := [.lit (.bool true)], args := [d] }
  | _ => none }
def fnExactComponentsOfRow : OpenClaim := { program := "ytilcageplifbgaagreat", sum := "ab156243754c9971242c29f4a2d92dbc1ad1e908b7c86db985bfa635ae83b7fd", func := "loop.example/g00515/laws.FnExactComponentsOf", spec := "fnExactComponentsOf", unfollowed := true, recurses := true, apart := false }
def FnExactComponentsOfSaid : Prop := fnExactComponentsOfRow.holds Tryz.pinned (OpenSpec.ofChange fnExactComponentsOfSpec)

/-- ITS FALSE NEIGHBOUR: 'it returns false'. Refute it at one input. -/
def fnExactComponentsOfWrong : ChangeSpec := { name := "fnExactComponentsOf", fn := fun _ => fun
  | [d] => { results := [.lit (.bool false)], args := [d] }
  | _ => none }
def FnExactComponentsOfWrongFalsely : Prop := fnExactComponentsOfRow.holds Tryz.pinned (OpenSpec.ofChange fnExactComponentsOfWrong)

/-- 'laws.FnExactWithPre': WHATEVER THE INPUT: true; the input reads as it did. -/
def fnExactWithPreSpec : ChangeSpec := { name := "fnExactWithPre", fn := fun _ => fun
  | [d1, d2, d3] => { results := [.lit (.bool true)], args := [d1, d2, d3] }
  | _ => none }
def fnExactWithPreRow : OpenClaim := { program := "ytilcageplifbgaagreat", sum := "ab156243754c9971242c29f4a2d92dbc1ad1e908b7c86db985bfa635ae83b7fd", func := "loop.example/g00515/laws.FnExactWithPre", spec := "fnExactWithPre", unfollowed := true, recurses := true, apart := false }
def FnExactWithPreSaid : Prop := fnExactWithPreRow.holds Tryz.pinned (OpenSpec.ofChange fnExactWithPreSpec)

/-- ITS FALSE NEIGHBOUR: 'it returns false'. Refute it at one input. -/
def fnExactWithPreWrong : ChangeSpec := { name := "fnExactWithPre", fn := fun _ => fun
  | [d1, d2, d3] => { results := [.lit (.bool false)], args := [d1, d2, d3] }
  | _ => none }
def FnExactWithPreWrongFalsely : Prop := fnExactWithPreRow.holds Tryz.pinned (OpenSpec.ofChange fnExactWithPreWrong)

/-- 'laws.FnExactModelOf': WHATEVER THE INPUT: true; the input reads as it did. -/
def fnExactModelOfSpec : ChangeSpec := { name := "fnExactModelOf", fn := fun _ => fun
  | [d1, d2] => { results := [.lit (.bool true)], args := [d1, d2] }
  | _ => none }
def fnExactModelOfRow : OpenClaim := { program := "ytilcageplifbgaagreat", sum := "ab156243754c9971242c29f4a2d92dbc1ad1e908b7c86db985bfa635ae83b7fd", func := "loop.example/g00515/laws.FnExactModelOf", spec := "fnExactModelOf", unfollowed := true, recurses := true, apart := false }
def FnExactModelOfSaid : Prop := fnExactModelOfRow.holds Tryz.pinned (OpenSpec.ofChange fnExactModelOfSpec)

/-- ITS FALSE NEIGHBOUR: 'it returns false'. Refute it at one input. -/
def fnExactModelOfWrong : ChangeSpec := { name := "fnExactModelOf", fn := fun _ => fun
  | [d1, d2] => { results := [.lit (.bool false)], args := [d1, d2] }
  | _ => none }
def FnExactModelOfWrongFalsely : Prop := fnExactModelOfRow.holds Tryz.pinned (OpenSpec.ofChange fnExactModelOfWrong)

/-- 'laws.FnExactPreObligations': WHATEVER THE INPUT: true; the input reads as it did. -/
def fnExactPreObligationsSpec : ChangeSpec := { name := "fnExactPreObligations", fn := fun _ => fun
  | [d] => { results := [.lit (.bool true)], args := [d] }
  | _ => none }
def fnExactPreObligationsRow : OpenClaim := { program := "ytilcageplifbgaagreat", sum := "ab156243754c9971242c29f4a2d92dbc1ad1e908b7c86db985bfa635ae83b7fd", func := "loop.example/g00515/laws.FnExactPreObligations", spec := "fnExactPreObligations", unfollowed := true, recurses := true, apart := false }
def FnExactPreObligationsSaid : Prop := fnExactPreObligationsRow.holds Tryz.pinned (OpenSpec.ofChange fnExactPreObligationsSpec)

/-- ITS FALSE NEIGHBOUR: 'it returns false'. Refute it at one input. -/
def fnExactPreObligationsWrong : ChangeSpec := { name := "fnExactPreObligations", fn := fun _ => fun
  | [d] => { results := [.lit (.bool false)], args := [d] }
  | _ => none }
def FnExactPreObligationsWrongFalsely : Prop := fnExactPreObligationsRow.holds Tryz.pinned (OpenSpec.ofChange fnExactPreObligationsWrong)

/-- 'laws.FnExactPreHolds': WHATEVER THE INPUT: true; the input reads as it did. -/
def fnExactPreHoldsSpec : ChangeSpec := { name := "fnExactPreHolds", fn := fun _ => fun
  | [d] => { results := [.lit (.bool true)], args := [d] }
  | _ => none }
def fnExactPreHoldsRow : OpenClaim := { program := "ytilcageplifbgaagreat", sum := "ab156243754c9971242c29f4a2d92dbc1ad1e908b7c86db985bfa635ae83b7fd", func := "loop.example/g00515/laws.FnExactPreHolds", spec := "fnExactPreHolds", unfollowed := true, recurses := true, apart := false }
def FnExactPreHoldsSaid : Prop := fnExactPreHoldsRow.holds Tryz.pinned (OpenSpec.ofChange fnExactPreHoldsSpec)

/-- ITS FALSE NEIGHBOUR: 'it returns false'. Refute it at one input. -/
def fnExactPreHoldsWrong : ChangeSpec := { name := "fnExactPreHolds", fn := fun _ => fun
  | [d] => { results := [.lit (.bool false)], args := [d] }
  | _ => none }
def FnExactPreHoldsWrongFalsely : Prop := fnExactPreHoldsRow.holds Tryz.pinned (OpenSpec.ofChange fnExactPreHoldsWrong)

/-- 'laws.FnExactBoundObligations': WHATEVER THE INPUT: true; the input reads as it did. -/
def fnExactBoundObligationsSpec : ChangeSpec := { name := "fnExactBoundObligations", fn := fun _ => fun
  | [d1, d2] => { results := [.lit (.bool true)], args := [d1, d2] }
  | _ => none }
def fnExactBoundObligationsRow : OpenClaim := { program := "ytilcageplifbgaagreat", sum := "ab156243754c9971242c29f4a2d92dbc1ad1e908b7c86db985bfa635ae83b7fd", func := "loop.example/g00515/laws.FnExactBoundObligations", spec := "fnExactBoundObligations", unfollowed := true, recurses := true, apart := false }
def FnExactBoundObligationsSaid : Prop := fnExactBoundObligationsRow.holds Tryz.pinned (OpenSpec.ofChange fnExactBoundObligationsSpec)

/-- ITS FALSE NEIGHBOUR: 'it returns false'. Refute it at one input. -/
def fnExactBoundObligationsWrong : ChangeSpec := { name := "fnExactBoundObligations", fn := fun _ => fun
  | [d1, d2] => { results := [.lit (.bool false)], args := [d1, d2] }
  | _ => none }
def FnExactBoundObligationsWrongFalsely : Prop := fnExactBoundObligationsRow.holds Tryz.pinned (OpenSpec.ofChange fnExactBoundObligationsWrong)

/-- 'laws.FnExactCheckBounds': WHATEVER THE INPUT: true; the input reads as it did. -/
def fnExactCheckBoundsSpec : ChangeSpec := { name := "fnExactCheckBounds", fn := fun _ => fun
  | [d1, d2, d3] => { results := [.lit (.bool true)], args := [d1, d2, d3] }
  | _ => none }
def fnExactCheckBoundsRow : OpenClaim := { program := "ytilcageplifbgaagreat", sum := "ab156243754c9971242c29f4a2d92dbc1ad1e908b7c86db985bfa635ae83b7fd", func := "loop.example/g00515/laws.FnExactCheckBounds", spec := "fnExactCheckBounds", unfollowed := true, recurses := true, apart := false }
def FnExactCheckBoundsSaid : Prop := fnExactCheckBoundsRow.holds Tryz.pinned (OpenSpec.ofChange fnExactCheckBoundsSpec)

/-- ITS FALSE NEIGHBOUR: 'it returns false'. Refute it at one input. -/
def fnExactCheckBoundsWrong : ChangeSpec := { name := "fnExactCheckBounds", fn := fun _ => fun
  | [d1, d2, d3] => { results := [.lit (.bool false)], args := [d1, d2, d3] }
  | _ => none }
def FnExactCheckBoundsWrongFalsely : Prop := fnExactCheckBoundsRow.holds Tryz.pinned (OpenSpec.ofChange fnExactCheckBoundsWrong)

/- THE SECOND FORM. 'bulk': how many values and letters a reading holds, each counted each time it is reached (what is shared counts as often as it is met; a slice's spare places count too). A statement '..UptoSaid' is the law's where the arguments, and the package variables that the reading takes, are together of bulk at most 1048576: NARROWER than '..Said'. Prove '..Said' where nothing that the law and all that it calls make is longer than what came in: it says more and counts as full. Else prove '..UptoSaid'. A law counts once. -/
mutual
def uptoBulk {H : Type} : DataW H → Nat
  | .lit (.string bytes) => bytes.length + 1
  | .lit _ => 1
  | .nil => 1
  | .ptr d => uptoBulk d + 1
  | .slice elems spare => uptoBulkAll elems + uptoBulkAll spare + 1
  | .agg parts => uptoBulkAll parts + 1
  | .iface _ d => uptoBulk d + 1
  | .map entries => uptoBulkEntries entries + 1
  | .held _ => 1
def uptoBulkAll {H : Type} : List (DataW H) → Nat
  | [] => 0
  | d :: r => uptoBulk d + uptoBulkAll r
def uptoBulkEntries {H : Type} : List (Lit × DataW H) → Nat
  | [] => 0
  | x :: r => uptoBulkEntry x + uptoBulkEntries r
def uptoBulkEntry {H : Type} : Lit × DataW H → Nat
  | (.string bytes, d) => bytes.length + uptoBulk d + 1
  | (_, d) => uptoBulk d + 1
 end
def uptoSmall : (H : Type) → List (DataW H) → Bool := fun _ ds => decide (uptoBulkAll ds ≤ 1048576)
def OpenSpec.upto (s : _root_.Go.ChangeSpec) : _root_.Go.OpenSpec := { _root_.Go.OpenSpec.ofChange s with cond := some uptoSmall }

/-- 'laws.FnExactDomainOf', WHERE WHAT IT READS IS OF BULK AT MOST 1048576: true; the input reads as it did. -/
def fnExactDomainOfUptoRow : OpenClaim := { program := "ytilcageplifbgaagreat", sum := "ab156243754c9971242c29f4a2d92dbc1ad1e908b7c86db985bfa635ae83b7fd", func := "loop.example/g00515/laws.FnExactDomainOf", spec := "fnExactDomainOf", unfollowed := true, recurses := true, apart := false, narrowed := true }
def FnExactDomainOfUptoSaid : Prop := fnExactDomainOfUptoRow.holds Tryz.pinned (OpenSpec.upto fnExactDomainOfSpec)

/-- 'laws.FnExactComponentsOf', WHERE WHAT IT READS IS OF BULK AT MOST 1048576: true; the input reads as it did. -/
def fnExactComponentsOfUptoRow : OpenClaim := { program := "ytilcageplifbgaagreat", sum := "ab156243754c9971242c29f4a2d92dbc1ad1e908b7c86db985bfa635ae83b7fd", func := "loop.example/g00515/laws.FnExactComponentsOf", spec := "fnExactComponentsOf", unfollowed := true, recurses := true, apart := false, narrowed := true }
def FnExactComponentsOfUptoSaid : Prop := fnExactComponentsOfUptoRow.holds Tryz.pinned (OpenSpec.upto fnExactComponentsOfSpec)

/-- 'laws.FnExactWithPre', WHERE WHAT IT READS IS OF BULK AT MOST 1048576: true; the input reads as it did. -/
def fnExactWithPreUptoRow : OpenClaim := { program := "ytilcageplifbgaagreat", sum := "ab156243754c9971242c29f4a2d92dbc1ad1e908b7c86db985bfa635ae83b7fd", func := "loop.example/g00515/laws.FnExactWithPre", spec := "fnExactWithPre", unfollowed := true, recurses := true, apart := false, narrowed := true }
def FnExactWithPreUptoSaid : Prop := fnExactWithPreUptoRow.holds Tryz.pinned (OpenSpec.upto fnExactWithPreSpec)

/-- 'laws.FnExactModelOf', WHERE WHAT IT READS IS OF BULK AT MOST 1048576: true; the input reads as it did. -/
def fnExactModelOfUptoRow : OpenClaim := { program := "ytilcageplifbgaagreat", sum := "ab156243754c9971242c29f4a2d92dbc1ad1e908b7c86db985bfa635ae83b7fd", func := "loop.example/g00515/laws.FnExactModelOf", spec := "fnExactModelOf", unfollowed := true, recurses := true, apart := false, narrowed := true }
def FnExactModelOfUptoSaid : Prop := fnExactModelOfUptoRow.holds Tryz.pinned (OpenSpec.upto fnExactModelOfSpec)

/-- 'laws.FnExactPreObligations', WHERE WHAT IT READS IS OF BULK AT MOST 1048576: true; the input reads as it did. -/
def fnExactPreObligationsUptoRow : OpenClaim := { program := "ytilcageplifbgaagreat", sum := "ab156243754c9971242c29f4a2d92dbc1ad1e908b7c86db985bfa635ae83b7fd", func := "loop.example/g00515/laws.FnExactPreObligations", spec := "fnExactPreObligations", unfollowed := true, recurses := true, apart := false, narrowed := true }
def FnExactPreObligationsUptoSaid : Prop := fnExactPreObligationsUptoRow.holds Tryz.pinned (OpenSpec.upto fnExactPreObligationsSpec)

/-- 'laws.FnExactPreHolds', WHERE WHAT IT READS IS OF BULK AT MOST 1048576: true; the input reads as it did. -/
def fnExactPreHoldsUptoRow : OpenClaim := { program := "ytilcageplifbgaagreat", sum := "ab156243754c9971242c29f4a2d92dbc1ad1e908b7c86db985bfa635ae83b7fd", func := "loop.example/g00515/laws.FnExactPreHolds", spec := "fnExactPreHolds", unfollowed := true, recurses := true, apart := false, narrowed := true }
def FnExactPreHoldsUptoSaid : Prop := fnExactPreHoldsUptoRow.holds Tryz.pinned (OpenSpec.upto fnExactPreHoldsSpec)

/-- 'laws.FnExactBoundObligations', WHERE WHAT IT READS IS OF BULK AT MOST 1048576: true; the input reads as it did. -/
def fnExactBoundObligationsUptoRow : OpenClaim := { program := "ytilcageplifbgaagreat", sum := "ab156243754c9971242c29f4a2d92dbc1ad1e908b7c86db985bfa635ae83b7fd", func := "loop.example/g00515/laws.FnExactBoundObligations", spec := "fnExactBoundObligations", unfollowed := true, recurses := true, apart := false, narrowed := true }
def FnExactBoundObligationsUptoSaid : Prop := fnExactBoundObligationsUptoRow.holds Tryz.pinned (OpenSpec.upto fnExactBoundObligationsSpec)

/-- 'laws.FnExactCheckBounds', WHERE WHAT IT READS IS OF BULK AT MOST 1048576: true; the input reads as it did. -/
def fnExactCheckBoundsUptoRow : OpenClaim := { program := "ytilcageplifbgaagreat", sum := "ab156243754c9971242c29f4a2d92dbc1ad1e908b7c86db985bfa635ae83b7fd", func := "loop.example/g00515/laws.FnExactCheckBounds", spec := "fnExactCheckBounds", unfollowed := true, recurses := true, apart := false, narrowed := true }
def FnExactCheckBoundsUptoSaid : Prop := fnExactCheckBoundsUptoRow.holds Tryz.pinned (OpenSpec.upto fnExactCheckBoundsSpec)

end Rows
end Go.Proofs.YtilcageplifbgaaGreat

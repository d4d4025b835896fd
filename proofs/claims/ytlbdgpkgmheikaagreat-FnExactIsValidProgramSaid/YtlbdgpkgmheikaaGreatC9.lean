/- Contracts: expressions carried over a call; differences. -/
import Derived.Test.YtlbdgpkgmheikaaGreatC8
import Derived.Test.YtlbdgpkgmheikaaGreatC4
namespace Go.Proofs.YtlbdgpkgmheikaaGreat
set_option linter.all false
open Go Go.RowKit Go.Proofs


def placeLin (l : DLin) (args : List DLin) (n : Int) : Option DLin :=
  if 0 < args.length then instLin l args else if okLin l 0 && inR n 0 8 then some (constLin l.Const n) else Option.none
def transp (m : DModel) (l : DLin) (call : Int) : Option DLin :=
  if inR call 0 ((m.Args.length : Int) - 1) then placeLin l (m.Args.getD call.toNat []) m.System.N else Option.none
def okO (o : Option DLin) : Bool := o.isSome
def diffL (m : DModel) (a : DLin) (call : Int) (b : DLin) (k : Int) : Option DLin :=
  if (placeLin a m.Params m.System.N).isSome && (transp m b call).isSome && okC k then
    (if (addScaled ((placeLin a m.Params m.System.N).getD lin0) (-1) ((transp m b call).getD lin0)).isSome then
      plusL ((addScaled ((placeLin a m.Params m.System.N).getD lin0) (-1) ((transp m b call).getD lin0)).getD lin0) (-k) else Option.none)
  else Option.none

theorem placeLin_c (l : DLin) (args : List DLin) (n : Int) : cLin ((placeLin l args n).getD lin0) ≤ 8 := by
  unfold placeLin
  split
  · exact instLin_c l args
  · split
    · unfold cLin; rw [cIntS_len]; exact constLin_len _ _
    · unfold cLin; rw [cIntS_len]; simp [lin0]
theorem transp_c (m : DModel) (l : DLin) (call : Int) : cLin ((transp m l call).getD lin0) ≤ 8 := by
  unfold transp
  split
  · exact placeLin_c _ _ _
  · unfold cLin; rw [cIntS_len]; simp [lin0]
end Go.Proofs.YtlbdgpkgmheikaaGreat

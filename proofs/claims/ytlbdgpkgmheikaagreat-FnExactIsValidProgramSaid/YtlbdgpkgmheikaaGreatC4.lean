/- Contracts: constants added, constant expressions, systems. -/
import Derived.Test.YtlbdgpkgmheikaaGreatC3
namespace Go.Proofs.YtlbdgpkgmheikaaGreat
set_option linter.all false
open Go Go.RowKit Go.Proofs


/-- An expression plus a constant. -/
def plusL (l : DLin) (k : Int) : Option DLin := if (addL l.Const k).2 && okLin l l.Coeffs.length then some ⟨(addL l.Const k).1, l.Coeffs⟩ else Option.none

def isConst (l : DLin) : Bool := l.Coeffs.all (· == 0)

def okSys (s : DSystem) : Bool := inR s.N 0 8 && decide (s.Rows.length ≤ 20) && s.Rows.all fun r => okLin r s.N

end Go.Proofs.YtlbdgpkgmheikaaGreat

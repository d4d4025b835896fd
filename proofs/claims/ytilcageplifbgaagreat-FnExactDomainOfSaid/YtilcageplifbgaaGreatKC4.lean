/- Contracts: constants added, constant expressions, systems. -/
import Derived.Test.YtilcageplifbgaaGreatKC3
namespace Go.Proofs.YtilcageplifbgaaGreat
set_option linter.all false
open Go Go.RowKit Go.Proofs
def plusL (l : DLin) (k : Int) : Option DLin := if (addL l.Const k).2 && okLin l l.Coeffs.length then some ⟨(addL l.Const k).1, l.Coeffs⟩ else Option.none
end Go.Proofs.YtilcageplifbgaaGreat

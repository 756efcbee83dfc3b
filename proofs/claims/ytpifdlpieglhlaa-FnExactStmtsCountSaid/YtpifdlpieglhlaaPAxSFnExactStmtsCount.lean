-- made by a program of this session (wip/myprint.py over the kit's print)
import Derived.Test.YtpifdlpieglhlaaV
import Derived.Test.YtpifdlpieglhlaaPAx1
import Derived.Test.YtpifdlpieglhlaaPAxo
namespace Go.Proofs.Ytpifdlpieglhlaa.PA
open Go.RowKit Go.Proofs.YtpifdlpieglhlaaW.PrintWords
def laws_FnExactStmtsCount.Pure : Prop := ∀ (l0 : List (S46)), (l0.length ≤ maxLen ∧ ∀ y ∈ l0, WF46 y) → ∃ k, laws_FnExactStmtsCount.f k l0 = some true

end Go.Proofs.Ytpifdlpieglhlaa.PA

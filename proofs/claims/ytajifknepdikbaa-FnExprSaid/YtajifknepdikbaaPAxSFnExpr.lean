-- made by a program of this session (wip/myprint.py over the kit's print)
import Derived.Test.YtajifknepdikbaaV
import Derived.Test.YtajifknepdikbaaPAx1
import Derived.Test.YtajifknepdikbaaPAxo
namespace Go.Proofs.Ytajifknepdikbaa.PA
open Go.RowKit Go.Proofs.YtajifknepdikbaaW.PrintWords
def laws_FnExpr.Pure : Prop := ∀ (l0 : List Int), (l0.length ≤ maxLen ∧ ∀ y ∈ l0, (Lit.int .u8 y).wf = true) → ∃ k, laws_FnExpr.f k l0 = some true

end Go.Proofs.Ytajifknepdikbaa.PA

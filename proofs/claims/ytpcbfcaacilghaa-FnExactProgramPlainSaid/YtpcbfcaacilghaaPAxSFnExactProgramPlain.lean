-- made by a program of this session (wip/myprint.py over the kit's print)
import Derived.Test.YtpcbfcaacilghaaV
import Derived.Test.YtpcbfcaacilghaaPAx1
import Derived.Test.YtpcbfcaacilghaaPAxo
namespace Go.Proofs.Ytpcbfcaacilghaa.PA
open Go.RowKit Go.Proofs.YtpcbfcaacilghaaW.PrintWords
def laws_FnExactProgramPlain.Pure : Prop := ∀ (l0_0 : List Int) (l0_1 : List (List (S89))), (l0_0.length ≤ maxLen ∧ ∀ y ∈ l0_0, (Lit.int .i64 y).wf = true) → (l0_1.length ≤ maxLen ∧ ∀ y ∈ l0_1, (y.length ≤ maxLen ∧ ∀ yy ∈ y, WF89 yy)) → ∃ k, laws_FnExactProgramPlain.f k l0_0 l0_1 = some true

end Go.Proofs.Ytpcbfcaacilghaa.PA

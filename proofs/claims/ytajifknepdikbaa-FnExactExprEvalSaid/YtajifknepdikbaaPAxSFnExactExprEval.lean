-- made by a program of this session (wip/myprint.py over the kit's print)
import Derived.Test.YtajifknepdikbaaV
import Derived.Test.YtajifknepdikbaaPAx1
import Derived.Test.YtajifknepdikbaaPAxo
namespace Go.Proofs.Ytajifknepdikbaa.PA
open Go.RowKit Go.Proofs.YtajifknepdikbaaW.PrintWords
def laws_FnExactExprEval.Pure : Prop := ∀ (a0_0 : Int) (a0_1 : Int) (l0_2 : List (S34)) (l1 : List Int), (Lit.int .i64 a0_0).wf = true → (Lit.int .i64 a0_1).wf = true → (l0_2.length ≤ maxLen ∧ ∀ y ∈ l0_2, WF34 y) → (l1.length ≤ maxLen ∧ ∀ y ∈ l1, (Lit.int .i64 y).wf = true) → ∃ k, laws_FnExactExprEval.f k a0_0 a0_1 l0_2 l1 = some true

end Go.Proofs.Ytajifknepdikbaa.PA

-- made by a program of this session (wip/myprint.py over the kit's print)
import Derived.Test.YtiakpoamjiodoaaV
import Derived.Test.YtiakpoamjiodoaaPAx0
import Derived.Test.YtiakpoamjiodoaaOpen
namespace Go.Proofs.Ytiakpoamjiodoaa.PA
open Go.RowKit Go.Proofs.YtiakpoamjiodoaaW.PrintWords Go.Proofs.Ytiakpoamjiodoaa.Open
set_option linter.unusedVariables false

end Go.Proofs.Ytiakpoamjiodoaa.PA

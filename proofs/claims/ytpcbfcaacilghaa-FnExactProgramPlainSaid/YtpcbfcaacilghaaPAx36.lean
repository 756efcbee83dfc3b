-- made by a program of this session (wip/myprint.py over the kit's print)
import Derived.Test.YtpcbfcaacilghaaV
import Derived.Test.YtpcbfcaacilghaaPAx0
import Derived.Test.YtpcbfcaacilghaaPAx33
import Derived.Test.YtpcbfcaacilghaaPAx34
import Derived.Test.YtpcbfcaacilghaaPAx35
namespace Go.Proofs.Ytpcbfcaacilghaa.PA
open Go.RowKit Go.Proofs.YtpcbfcaacilghaaW.PrintWords Go.Proofs.YtpcbfcaacilghaaW.PrintLast Go.Proofs.YtpcbfcaacilghaaW.PrintMore
attribute [local go_sem] max2_int min2_int max_two min_two max_three min_three max_four min_four   -- for this text's walks alone
set_option linter.unusedVariables false
set_option linter.unusedSimpArgs false

theorem laws_eqStmt.calls_all (k : Nat) : laws_eqStmt.CallsAt k ∧ laws_eqStmtS.CallsAt k := by
  induction k using Nat.strongRecOn with
  | _ k ih => exact ⟨laws_eqStmt.step k (fun m hm => (ih m hm).1) (fun m hm => (ih m hm).2), laws_eqStmtS.step k (fun m hm => (ih m hm).1) (fun m hm => (ih m hm).2)⟩
theorem laws_eqStmt.calls (k : Nat) : laws_eqStmt.CallsAt k := (laws_eqStmt.calls_all k).1
theorem laws_eqStmtS.calls (k : Nat) : laws_eqStmtS.CallsAt k := (laws_eqStmt.calls_all k).2

end Go.Proofs.Ytpcbfcaacilghaa.PA

-- made by a program of this session (wip/myprint.py over the kit's print)
import Derived.Test.YtpifdlpieglhlaaV
import Derived.Test.YtpifdlpieglhlaaPAx0
import Derived.Test.YtpifdlpieglhlaaPAx6
import Derived.Test.YtpifdlpieglhlaaPAx7
import Derived.Test.YtpifdlpieglhlaaPAx8
namespace Go.Proofs.Ytpifdlpieglhlaa.PA
open Go.RowKit Go.Proofs.YtpifdlpieglhlaaW.PrintWords Go.Proofs.YtpifdlpieglhlaaW.PrintLast Go.Proofs.YtpifdlpieglhlaaW.PrintMore
attribute [local go_sem] max2_int min2_int max_two min_two max_three min_three max_four min_four   -- for this text's walks alone
set_option linter.unusedVariables false
set_option linter.unusedSimpArgs false

theorem laws_szStmt.calls_all (k : Nat) : laws_szStmt.CallsAt k ∧ laws_szStmtS.CallsAt k := by
  induction k using Nat.strongRecOn with
  | _ k ih => exact ⟨laws_szStmt.step k (fun m hm => (ih m hm).1) (fun m hm => (ih m hm).2), laws_szStmtS.step k (fun m hm => (ih m hm).1) (fun m hm => (ih m hm).2)⟩
theorem laws_szStmt.calls (k : Nat) : laws_szStmt.CallsAt k := (laws_szStmt.calls_all k).1
theorem laws_szStmtS.calls (k : Nat) : laws_szStmtS.CallsAt k := (laws_szStmt.calls_all k).2

end Go.Proofs.Ytpifdlpieglhlaa.PA

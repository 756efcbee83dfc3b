-- made by a program of this session (wip/myprint.py over the kit's print)
import Derived.Test.YtpifdlpieglhlaaV
import Derived.Test.YtpifdlpieglhlaaPAx0
import Derived.Test.YtpifdlpieglhlaaPAx55
import Derived.Test.YtpifdlpieglhlaaPAx56
import Derived.Test.YtpifdlpieglhlaaPAx57
import Derived.Test.YtpifdlpieglhlaaPAx58
import Derived.Test.YtpifdlpieglhlaaPAx59
namespace Go.Proofs.Ytpifdlpieglhlaa.PA
open Go.RowKit Go.Proofs.YtpifdlpieglhlaaW.PrintWords Go.Proofs.YtpifdlpieglhlaaW.PrintLast Go.Proofs.YtpifdlpieglhlaaW.PrintMore
attribute [local go_sem] max2_int min2_int max_two min_two max_three min_three max_four min_four   -- for this text's walks alone
set_option linter.unusedVariables false
set_option linter.unusedSimpArgs false

theorem spec_l92If.calls_all (k : Nat) : spec_l92If.CallsAt k ∧ spec_l92Loop.CallsAt k ∧ spec_l92Stmt.CallsAt k ∧ spec_l92Block.CallsAt k := by
  induction k using Nat.strongRecOn with
  | _ k ih => exact ⟨spec_l92If.step k (fun m hm => (ih m hm).1) (fun m hm => (ih m hm).2.1) (fun m hm => (ih m hm).2.2.1) (fun m hm => (ih m hm).2.2.2), spec_l92Loop.step k (fun m hm => (ih m hm).1) (fun m hm => (ih m hm).2.1) (fun m hm => (ih m hm).2.2.1) (fun m hm => (ih m hm).2.2.2), spec_l92Stmt.step k (fun m hm => (ih m hm).1) (fun m hm => (ih m hm).2.1) (fun m hm => (ih m hm).2.2.1) (fun m hm => (ih m hm).2.2.2), spec_l92Block.step k (fun m hm => (ih m hm).1) (fun m hm => (ih m hm).2.1) (fun m hm => (ih m hm).2.2.1) (fun m hm => (ih m hm).2.2.2)⟩
theorem spec_l92If.calls (k : Nat) : spec_l92If.CallsAt k := (spec_l92If.calls_all k).1
theorem spec_l92Loop.calls (k : Nat) : spec_l92Loop.CallsAt k := (spec_l92If.calls_all k).2.1
theorem spec_l92Stmt.calls (k : Nat) : spec_l92Stmt.CallsAt k := (spec_l92If.calls_all k).2.2.1
theorem spec_l92Block.calls (k : Nat) : spec_l92Block.CallsAt k := (spec_l92If.calls_all k).2.2.2

end Go.Proofs.Ytpifdlpieglhlaa.PA

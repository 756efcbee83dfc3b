-- made by a program of this session (wip/myprint.py over the kit's print)
import Derived.Test.YtpifdlpieglhlaaV
import Derived.Test.YtpifdlpieglhlaaPAx0
import Derived.Test.YtpifdlpieglhlaaPAx18
import Derived.Test.YtpifdlpieglhlaaPAx19
import Derived.Test.YtpifdlpieglhlaaPAx20
namespace Go.Proofs.Ytpifdlpieglhlaa.PA
open Go.RowKit Go.Proofs.YtpifdlpieglhlaaW.PrintWords Go.Proofs.YtpifdlpieglhlaaW.PrintLast Go.Proofs.YtpifdlpieglhlaaW.PrintMore
attribute [local go_sem] max2_int min2_int max_two min_two max_three min_three max_four min_four   -- for this text's walks alone
set_option linter.unusedVariables false
set_option linter.unusedSimpArgs false

theorem spec_l11Ok.calls_all (k : Nat) : spec_l11Ok.CallsAt k ∧ spec_l11Blocks.CallsAt k := by
  induction k using Nat.strongRecOn with
  | _ k ih => exact ⟨spec_l11Ok.step k (fun m hm => (ih m hm).1) (fun m hm => (ih m hm).2), spec_l11Blocks.step k (fun m hm => (ih m hm).1) (fun m hm => (ih m hm).2)⟩
theorem spec_l11Ok.calls (k : Nat) : spec_l11Ok.CallsAt k := (spec_l11Ok.calls_all k).1
theorem spec_l11Blocks.calls (k : Nat) : spec_l11Blocks.CallsAt k := (spec_l11Ok.calls_all k).2

end Go.Proofs.Ytpifdlpieglhlaa.PA

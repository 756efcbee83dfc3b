/- FnExactBoxValid returns true for every mailbox: no condition. -/
import Derived.Test.YtiakpoamjiodoaaBox2
import Derived.Test.YtiakpoamjiodoaaPAx1
import Derived.Test.YtiakpoamjiodoaaPAxSFnExactBoxValid
namespace Go.Proofs.Ytiakpoamjiodoaa.Pure
open Go.RowKit Go.Proofs.Ytiakpoamjiodoaa.PA Go.Proofs.YtiakpoamjiodoaaW.PrintWords Go.Proofs.YtiakpoamjiodoaaW.PrintLast Go.Proofs.Ytiakpoamjiodoaa.Core
theorem FnExactBoxValid : laws_FnExactBoxValid.Pure := by
  intro a l _ hl0
  refine EvP.ends (r := true) ?_
  unfold laws_FnExactBoxValid.f
  refine EvP.bind0 (szBox_eq a l hl0.1) (EvP.ite (fun _ => EvP.ret rfl) (fun h => ?_))
  have hl : l.length ≤ 1000000000 := by
    by_cases h2 : 1048576 - (l.length : Int) < 0
    · rw [if_pos h2] at h
      omega
    · omega
  refine EvP.bindEq (toBox_ev a l hl) (EvP.bindEq (spec_BoxValid_ev a l hl) (EvP.bindEq (toBox_ev a l hl) (EvP.bindEq (impl_BoxValid_ev a l hl) (EvP.no (by simp) ?_))))
  exact EvP.bindEq (toBox_ev a l hl) (EvP.bindEq (eqBox_ev a l hl) (EvP.yes rfl (EvP.ret rfl)))
end Go.Proofs.Ytiakpoamjiodoaa.Pure

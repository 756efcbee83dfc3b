/- FnExactRingValid returns true for every ring: no condition. -/
import Derived.Test.YtiakpoamjiodoaaBox2
import Derived.Test.YtiakpoamjiodoaaPAx1
import Derived.Test.YtiakpoamjiodoaaPAxSFnExactRingValid
namespace Go.Proofs.Ytiakpoamjiodoaa.Pure
open Go.RowKit Go.Proofs.Ytiakpoamjiodoaa.PA Go.Proofs.YtiakpoamjiodoaaW.PrintWords Go.Proofs.YtiakpoamjiodoaaW.PrintLast Go.Proofs.Ytiakpoamjiodoaa.Core
theorem FnExactRingValid : laws_FnExactRingValid.Pure := by
  intro a b c l _ _ _ hl0
  refine EvP.ends (r := true) ?_
  unfold laws_FnExactRingValid.f
  refine EvP.bind0 (szRing_eq a b c l hl0.1) (EvP.ite (fun _ => EvP.ret rfl) (fun h => ?_))
  have hl : l.length ≤ 1000000000 := by
    by_cases h2 : 1048576 - (l.length : Int) < 0
    · rw [if_pos h2] at h
      omega
    · omega
  refine EvP.bindEq (toRing_ev a b c l hl) (EvP.bindEq (spec_RingValid_ev a b c l hl) (EvP.bindEq (toRing_ev a b c l hl) (EvP.bindEq (impl_RingValid_ev a b c l hl) (EvP.no (by simp) ?_))))
  exact EvP.bindEq (toRing_ev a b c l hl) (EvP.bindEq (eqRing_ev a b c l hl) (EvP.yes rfl (EvP.ret rfl)))
end Go.Proofs.Ytiakpoamjiodoaa.Pure

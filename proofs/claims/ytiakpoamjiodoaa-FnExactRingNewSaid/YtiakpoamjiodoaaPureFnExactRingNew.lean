/- FnExactRingNew returns true for every capacity: no condition. -/
import Derived.Test.YtiakpoamjiodoaaBox2
import Derived.Test.YtiakpoamjiodoaaPAx1
import Derived.Test.YtiakpoamjiodoaaPAx11
namespace Go.Proofs.Ytiakpoamjiodoaa.Pure
open Go.RowKit Go.Proofs.Ytiakpoamjiodoaa.PA Go.Proofs.YtiakpoamjiodoaaW.PrintWords Go.Proofs.YtiakpoamjiodoaaW.PrintLast Go.Proofs.Ytiakpoamjiodoaa.Core
theorem rnew_length (a : Int) : (rnew a).2.2.2.1.length ≤ 1000000000 := by
  unfold rnew
  split <;> simp
theorem FnExactRingNew : laws_FnExactRingNew.Pure := by
  intro a _
  have hl := rnew_length a
  refine EvP.ends (r := true) ?_
  unfold laws_FnExactRingNew.f
  refine EvP.bind0 (spec_RingNew_eq a) (EvP.bind0 (impl_RingNew_eq a) (EvP.bindEq (eqRing_ev _ _ _ _ hl) (EvP.yes rfl ?_)))
  refine EvP.step (fun k => laws_FnExactRingNew.j0.eq_2 (k := k) ..) (EvP.no (by simp) ?_)
  refine EvP.bindEq (markRing_ev _ _ _ _ hl) (EvP.bindEq (heldRing_ev _ _ _ _ hl) (EvP.no (by omega) (EvP.yes rfl ?_)))
  refine EvP.bind0 (impl_RingNew_eq a) (EvP.bindEq (eqRing_ev _ _ _ _ hl) (EvP.yes rfl ?_))
  refine EvP.step (fun k => laws_FnExactRingNew.j1.eq_2 (k := k) ..) (EvP.no (by simp) ?_)
  exact EvP.bindEq (heldRing_ev _ _ _ _ hl) (EvP.no (by omega) (EvP.yes rfl (EvP.ret rfl)))
end Go.Proofs.Ytiakpoamjiodoaa.Pure

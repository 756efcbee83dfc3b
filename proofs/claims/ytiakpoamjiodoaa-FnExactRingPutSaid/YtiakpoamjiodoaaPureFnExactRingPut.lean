/- FnExactRingPut returns true for every ring and every number: no condition. -/
import Derived.Test.YtiakpoamjiodoaaBox2
import Derived.Test.YtiakpoamjiodoaaPAx1
import Derived.Test.YtiakpoamjiodoaaPAxSFnExactRingPut
namespace Go.Proofs.Ytiakpoamjiodoaa.Pure
open Go.RowKit Go.Proofs.Ytiakpoamjiodoaa.PA Go.Proofs.YtiakpoamjiodoaaW.PrintWords Go.Proofs.YtiakpoamjiodoaaW.PrintLast Go.Proofs.Ytiakpoamjiodoaa.Core
theorem FnExactRingPut : laws_FnExactRingPut.Pure := by
  intro a b c l x _ _ _ hl0 _
  refine EvP.ends (r := true) ?_
  unfold laws_FnExactRingPut.f
  refine EvP.bind0 (szRing_eq a b c l hl0.1) (EvP.ite (fun _ => EvP.ret rfl) (fun h => ?_))
  have hl2 : l.length ≤ 2000000 := by
    by_cases h2 : 1048576 - (l.length : Int) < 0
    · rw [if_pos h2] at h
      omega
    · omega
  have hl : l.length ≤ 1000000000 := by omega
  have hg := rput_length a b c l x hl2
  refine EvP.bindEq (toRing_ev a b c l hl) (EvP.bindEq (spec_RingPut_ev a b c l x hl) (EvP.bindEq (toRing_ev a b c l hl) (EvP.bindEq (impl_RingPut_ev a b c l x hl) (EvP.bindEq (eqRing_ev _ _ _ _ hg) (EvP.yes rfl ?_)))))
  refine EvP.step (fun k => laws_FnExactRingPut.j0.eq_2 (k := k) ..) (EvP.no (by simp) ?_)
  refine EvP.bindEq (toRing_ev a b c l hl) (EvP.bindEq (eqRing_ev a b c l hl) (EvP.yes rfl (EvP.bindEq (markRing_ev a b c l hl) (EvP.no (by dsimp only; omega) (EvP.bindEq (eqRing_ev _ _ _ _ hg) (EvP.yes rfl ?_))))))
  refine EvP.step (fun k => laws_FnExactRingPut.j1.eq_2 (k := k) ..) (EvP.no (by simp) ?_)
  refine EvP.bindEq (markRing_ev _ _ _ _ hg) (EvP.bindEq (heldRing_ev _ _ _ _ hg) (EvP.no (by omega) (EvP.yes rfl ?_)))
  refine EvP.bindEq (toRing_ev a b c l hl) (EvP.bindEq (impl_RingPut_ev a b c l x hl) (EvP.bindEq (eqRing_ev _ _ _ _ hg) (EvP.yes rfl ?_)))
  refine EvP.step (fun k => laws_FnExactRingPut.j2.eq_2 (k := k) ..) (EvP.no (by simp) ?_)
  exact EvP.bindEq (heldRing_ev _ _ _ _ hg) (EvP.no (by omega) (EvP.yes rfl (EvP.ret rfl)))
end Go.Proofs.Ytiakpoamjiodoaa.Pure

/- FnExactBoxTake returns true for every mailbox: no condition. -/
import Derived.Test.YtiakpoamjiodoaaBox2
import Derived.Test.YtiakpoamjiodoaaPAx1
import Derived.Test.YtiakpoamjiodoaaPAxSFnExactBoxTake
namespace Go.Proofs.Ytiakpoamjiodoaa.Pure
open Go.RowKit Go.Proofs.Ytiakpoamjiodoaa.PA Go.Proofs.YtiakpoamjiodoaaW.PrintWords Go.Proofs.YtiakpoamjiodoaaW.PrintLast Go.Proofs.Ytiakpoamjiodoaa.Core
theorem FnExactBoxTake : laws_FnExactBoxTake.Pure := by
  intro a l _ hl0
  refine EvP.ends (r := true) ?_
  unfold laws_FnExactBoxTake.f
  refine EvP.bind0 (szBox_eq a l hl0.1) (EvP.ite (fun _ => EvP.ret rfl) (fun h => ?_))
  have hl2 : l.length ≤ 2000000 := by
    by_cases h2 : 1048576 - (l.length : Int) < 0
    · rw [if_pos h2] at h
      omega
    · omega
  have hl : l.length ≤ 1000000000 := by omega
  have hg := btake_length a l hl2
  refine EvP.bindEq (toBox_ev a l hl) (EvP.bindEq (spec_BoxTake_ev a l hl) (EvP.bindEq (toBox_ev a l hl) (EvP.bindEq (impl_BoxTake_ev a l hl) (EvP.bindEq (eqBox_ev _ _ hg) (EvP.yes rfl (EvP.yes rfl ?_))))))
  refine EvP.step (fun k => laws_FnExactBoxTake.j0.eq_2 (k := k) ..) (EvP.no (by simp) ?_)
  refine EvP.bindEq (toBox_ev a l hl) (EvP.bindEq (eqBox_ev a l hl) (EvP.yes rfl (EvP.bindEq (markBox_ev a l hl) (EvP.no (by dsimp only; omega) (EvP.bindEq (eqBox_ev _ _ hg) (EvP.yes rfl (EvP.yes rfl ?_)))))))
  refine EvP.step (fun k => laws_FnExactBoxTake.j1.eq_2 (k := k) ..) (EvP.no (by simp) ?_)
  refine EvP.bindEq (markBox_ev _ _ hg) (EvP.bindEq (heldBox_ev _ _ hg) (EvP.no (by omega) (EvP.yes rfl ?_)))
  refine EvP.bindEq (toBox_ev a l hl) (EvP.bindEq (impl_BoxTake_ev a l hl) (EvP.bindEq (eqBox_ev _ _ hg) (EvP.yes rfl (EvP.yes rfl ?_))))
  refine EvP.step (fun k => laws_FnExactBoxTake.j2.eq_2 (k := k) ..) (EvP.no (by simp) ?_)
  exact EvP.bindEq (heldBox_ev _ _ hg) (EvP.no (by omega) (EvP.yes rfl (EvP.ret rfl)))
end Go.Proofs.Ytiakpoamjiodoaa.Pure

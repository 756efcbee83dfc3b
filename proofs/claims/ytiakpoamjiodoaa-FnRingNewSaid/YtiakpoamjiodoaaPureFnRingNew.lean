/- FnRingNew returns true for every code: no condition. -/
import Derived.Test.YtiakpoamjiodoaaBox2
import Derived.Test.YtiakpoamjiodoaaDraw2
import Derived.Test.YtiakpoamjiodoaaPAx1
import Derived.Test.YtiakpoamjiodoaaPAx22
namespace Go.Proofs.Ytiakpoamjiodoaa.Pure
open Go.RowKit Go.Proofs.Ytiakpoamjiodoaa.PA Go.Proofs.YtiakpoamjiodoaaW.PrintWords Go.Proofs.YtiakpoamjiodoaaW.PrintLast Go.Proofs.Ytiakpoamjiodoaa.Core
theorem FnRingNew : laws_FnRingNew.Pure := by
  intro l _ hl hw
  refine EvP.ends (r := true) ?_
  unfold laws_FnRingNew.f
  refine EvP.ite (fun _ => EvP.ret rfl) (fun _ => ?_)
  refine EvP.bind (DrawRingNew_ev l (by omega) hw) fun a _ => ?_
  refine EvP.bind0 (impl_RingNew_eq a) (EvP.bind0 (spec_RingNew_eq a) (EvP.no (by simp) ?_))
  by_cases h : 1 ≤ a ∧ a ≤ 4
  · have hr : rnew a = (a, 0, 0, [0, 0, 0, 0], true) := by
      unfold rnew
      rw [if_pos h]
    rw [hr]
    have hv : rgv a 0 0 [0, 0, 0, 0] = true := rgv_iff.2 ⟨h.1, h.2, by omega, by omega, by omega, by omega, rfl, by decide⟩
    refine EvP.bindEq (sameRing_ev _ _ _ _ _ _ _ _ (by simp)) (EvP.yes (by simp) ?_)
    refine EvP.step (fun k => laws_FnRingNew.j0.eq_2 (k := k) ..) (EvP.no (by simp) ?_)
    refine EvP.bindEq (impl_RingBox_ev _ _ _ _ (by simp)) ?_
    have hb : rbox a 0 0 [0, 0, 0, 0] = (a, [], true) := by
      unfold rbox
      rw [if_pos hv]
      rfl
    rw [hb]
    refine EvP.yes rfl (EvP.bindEq (impl_RingValid_ev _ _ _ _ (by simp)) (EvP.yes hv (EvP.bindEq (sameBox_ev _ _ _ _ (by simp)) (EvP.ret (by simp)))))
  · have hr : rnew a = (0, 0, 0, [], false) := by
      unfold rnew
      rw [if_neg h]
    rw [hr]
    refine EvP.bindEq (sameRing_ev _ _ _ _ _ _ _ _ (by simp)) (EvP.yes (by simp) ?_)
    refine EvP.step (fun k => laws_FnRingNew.j0.eq_2 (k := k) ..) (EvP.yes rfl (EvP.yes (by simp) ?_))
    exact EvP.bindEq (sameRing_ev _ _ _ _ _ _ _ _ (by simp)) (EvP.ret (by simp))
end Go.Proofs.Ytiakpoamjiodoaa.Pure

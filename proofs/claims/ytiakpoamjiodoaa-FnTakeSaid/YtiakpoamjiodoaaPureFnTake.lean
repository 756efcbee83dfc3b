/- FnTake returns true for every code: no condition. -/
import Derived.Test.YtiakpoamjiodoaaBox2
import Derived.Test.YtiakpoamjiodoaaDraw2
import Derived.Test.YtiakpoamjiodoaaPAx1
import Derived.Test.YtiakpoamjiodoaaPAx62
namespace Go.Proofs.Ytiakpoamjiodoaa.Pure
open Go.RowKit Go.Proofs.Ytiakpoamjiodoaa.PA Go.Proofs.YtiakpoamjiodoaaW.PrintWords Go.Proofs.YtiakpoamjiodoaaW.PrintLast Go.Proofs.Ytiakpoamjiodoaa.Core
theorem FnTake : laws_FnTake.Pure := by
  intro l _ hl hw
  refine EvP.ends (r := true) ?_
  unfold laws_FnTake.f
  refine EvP.ite (fun _ => EvP.ret rfl) (fun _ => ?_)
  refine EvP.bind (DrawBoxTake_ev l (by omega) hw) fun a ha => ?_
  refine EvP.bindEq (impl_BoxTake_ev _ _ (by omega)) (EvP.bindEq (spec_BoxTake_ev _ _ (by omega)) (EvP.no (by simp) (EvP.yes rfl ?_)))
  obtain ⟨r, s⟩ := a
  dsimp only at ha ⊢
  by_cases hv : bxv r s = true ∧ ¬ ((s.length : Int) = 0)
  · have hr : btake r s = (r, s.drop 1, rd s 0, true) := by
      unfold btake
      rw [if_pos hv]
    obtain ⟨h1, h2, h3, h4⟩ := bxv_iff.1 hv.1
    have hd : (s.drop 1).length = s.length - 1 := List.length_drop
    rw [hr]
    refine EvP.bindEq (sameBox_ev _ _ _ _ (by dsimp only; omega)) (EvP.yes (by simp) ?_)
    refine EvP.step (fun k => laws_FnTake.j0.eq_2 (k := k) ..) (EvP.no (by simp) ?_)
    have hb : bxv r (s.drop 1) = true := bxv_iff.2 ⟨h1, h2, by omega, List.all_eq_true.2 fun x hx => List.all_eq_true.1 h4 x (List.mem_of_mem_drop hx)⟩
    refine EvP.bindEq (impl_BoxValid_ev _ _ (by dsimp only; omega)) (EvP.yes hb (EvP.yes rfl (EvP.yes (by omega) (EvP.yes rfl (EvP.yes (by omega) ?_)))))
    exact EvP.bindEq (sameInts_ev _ _ (by dsimp only; omega)) (EvP.ret (by simp))
  · have hr : btake r s = (0, [], 0, false) := by
      unfold btake
      rw [if_neg hv]
    rw [hr]
    refine EvP.bindEq (sameBox_ev _ _ _ _ (by simp)) (EvP.yes (by simp) ?_)
    refine EvP.step (fun k => laws_FnTake.j0.eq_2 (k := k) ..) (EvP.yes rfl (EvP.yes (by simp) (EvP.yes rfl ?_)))
    exact EvP.bindEq (sameBox_ev _ _ _ _ (by simp)) (EvP.ret (by simp))
end Go.Proofs.Ytiakpoamjiodoaa.Pure

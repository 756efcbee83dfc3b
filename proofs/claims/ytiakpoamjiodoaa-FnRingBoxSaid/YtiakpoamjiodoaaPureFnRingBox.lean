/- FnRingBox returns true for every code: no condition. -/
import Derived.Test.YtiakpoamjiodoaaBox2
import Derived.Test.YtiakpoamjiodoaaDraw2
import Derived.Test.YtiakpoamjiodoaaPAx1
import Derived.Test.YtiakpoamjiodoaaPAx60
namespace Go.Proofs.Ytiakpoamjiodoaa.Pure
open Go.RowKit Go.Proofs.Ytiakpoamjiodoaa.PA Go.Proofs.YtiakpoamjiodoaaW.PrintWords Go.Proofs.YtiakpoamjiodoaaW.PrintLast Go.Proofs.Ytiakpoamjiodoaa.Core
theorem ritems_words {r h n : Int} {s : List Int} (hv : rgv r h n s = true) : ∀ j : Nat, (ritems r h s j).all vw = true := by
  obtain ⟨h1, h2, h3, h4, h5, h6, h7, h8⟩ := rgv_iff.1 hv
  intro j
  induction j with
  | zero => rfl
  | succ j ih =>
    rw [ritems, List.all_append, ih, Bool.true_and]
    have h0 : 0 ≤ (h + (j : Int)) % r := Int.emod_nonneg _ (by omega)
    have hlt : (h + (j : Int)) % r < r := Int.emod_lt_of_pos _ (by omega)
    have := List.all_eq_true.1 h8 _ (rd_mem s _ h0 (by omega))
    simp only [List.all_cons, List.all_nil, Bool.and_true]
    exact this
theorem FnRingBox : laws_FnRingBox.Pure := by
  intro l _ hl hw
  refine EvP.ends (r := true) ?_
  unfold laws_FnRingBox.f
  refine EvP.ite (fun _ => EvP.ret rfl) (fun _ => ?_)
  refine EvP.bind (DrawRingBox_ev l (by omega) hw) fun a ha => ?_
  refine EvP.bindEq (impl_RingBox_ev _ _ _ _ (by omega)) (EvP.bindEq (spec_RingBox_ev _ _ _ _ (by omega)) (EvP.no (by simp) ?_))
  obtain ⟨r, h, n, s⟩ := a
  dsimp only at ha ⊢
  by_cases hv : rgv r h n s = true
  · have hr : rbox r h n s = (r, ritems r h s n.toNat, true) := by
      unfold rbox
      rw [if_pos hv]
    have hq := rgv_iff.1 hv
    have hlen := ritems_length r h s n.toNat
    rw [hr]
    refine EvP.bindEq (sameBox_ev _ _ _ _ (by dsimp only; omega)) (EvP.yes (by simp) ?_)
    refine EvP.step (fun k => laws_FnRingBox.j0.eq_2 (k := k) ..) (EvP.no (by simp) ?_)
    refine EvP.bindEq (impl_BoxValid_ev _ _ (by dsimp only; omega)) (EvP.yes ?_ (EvP.yes rfl (EvP.ret ?_)))
    · exact bxv_iff.2 ⟨hq.1, hq.2.1, by dsimp only; omega, ritems_words hv _⟩
    · dsimp only
      rw [hlen, Int.toNat_of_nonneg hq.2.2.2.2.1]
      simp
  · have hr : rbox r h n s = (0, [], false) := by
      unfold rbox
      rw [if_neg hv]
    rw [hr]
    refine EvP.bindEq (sameBox_ev _ _ _ _ (by simp)) (EvP.yes (by simp) ?_)
    refine EvP.step (fun k => laws_FnRingBox.j0.eq_2 (k := k) ..) (EvP.yes rfl (EvP.yes (by simp) ?_))
    exact EvP.bindEq (sameBox_ev _ _ _ _ (by simp)) (EvP.ret (by simp))
end Go.Proofs.Ytiakpoamjiodoaa.Pure

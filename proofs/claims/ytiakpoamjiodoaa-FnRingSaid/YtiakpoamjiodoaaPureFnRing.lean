/- FnRing returns true for every code: no condition. -/
import Derived.Test.YtiakpoamjiodoaaBox2
import Derived.Test.YtiakpoamjiodoaaDraw2
import Derived.Test.YtiakpoamjiodoaaPAx1
import Derived.Test.YtiakpoamjiodoaaPAxSFnRing
namespace Go.Proofs.Ytiakpoamjiodoaa.Pure
open Go.RowKit Go.Proofs.Ytiakpoamjiodoaa.PA Go.Proofs.YtiakpoamjiodoaaW.PrintWords Go.Proofs.YtiakpoamjiodoaaW.PrintLast Go.Proofs.Ytiakpoamjiodoaa.Core
theorem FnRing : laws_FnRing.Pure := by
  intro l hl
  refine EvP.ends (r := true) ?_
  unfold laws_FnRing.f
  refine EvP.ite (fun _ => EvP.ret rfl) (fun _ => ?_)
  refine EvP.bind (DrawRingValid_ev l (by omega) hl.2) fun a ha => ?_
  obtain ⟨r, h, n, s⟩ := a
  dsimp only at ha ⊢
  refine EvP.bindEq (impl_RingValid_ev r h n s (by omega)) (EvP.bindEq (spec_RingValid_ev r h n s (by omega)) ?_)
  by_cases hv : rgv r h n s = true
  · rw [hv]
    obtain ⟨h1, h2, h3, h4, h5, h6, h7, h8⟩ := rgv_iff.1 hv
    have e1 : rgv r h n (s.drop 1) = false := by
      rw [Bool.eq_false_iff]
      intro hq
      have := (rgv_iff.1 hq).2.2.2.2.2.2.1
      rw [List.length_drop] at this
      omega
    have e2 : rgv r r n s = false := by
      rw [Bool.eq_false_iff]
      intro hq
      have := (rgv_iff.1 hq).2.2.2.1
      omega
    have e3 : rgv r h (wrap64 (r + 1)) s = false := by
      rw [Bool.eq_false_iff]
      intro hq
      have := (rgv_iff.1 hq).2.2.2.2.2.1
      rw [w64 (by omega) (by omega)] at this
      omega
    have e4 : rgv r h 0 s = true := rgv_iff.2 ⟨h1, h2, h3, h4, by omega, by omega, h7, h8⟩
    refine EvP.no (by simp) (EvP.yes (by omega) ?_)
    refine EvP.bindEq (impl_RingValid_ev _ _ _ _ (by rw [List.length_drop]; omega)) ?_
    rw [e1]
    refine EvP.no (by simp) (EvP.bindEq (impl_RingValid_ev _ _ _ _ (by omega)) ?_)
    rw [e2]
    refine EvP.no (by simp) (EvP.bindEq (impl_RingValid_ev _ _ _ _ (by omega)) ?_)
    rw [e3]
    refine EvP.no (by simp) ?_
    rw [← e4]
    exact impl_RingValid_ev _ _ _ _ (by omega)
  · rw [Bool.eq_false_iff.mpr hv]
    exact EvP.yes rfl (EvP.ret rfl)
end Go.Proofs.Ytiakpoamjiodoaa.Pure

/- FnBox returns true for every code: no condition. -/
import Derived.Test.YtiakpoamjiodoaaBox2
import Derived.Test.YtiakpoamjiodoaaDraw2
import Derived.Test.YtiakpoamjiodoaaPAx1
import Derived.Test.YtiakpoamjiodoaaPAx46
namespace Go.Proofs.Ytiakpoamjiodoaa.Pure
open Go.RowKit Go.Proofs.Ytiakpoamjiodoaa.PA Go.Proofs.YtiakpoamjiodoaaW.PrintWords Go.Proofs.YtiakpoamjiodoaaW.PrintLast Go.Proofs.Ytiakpoamjiodoaa.Core
theorem many_ev (r : Int) (s : List Int) (x : Int) (hx : 0 ≤ x) (hx2 : x ≤ s.length) (hv : bxv r s = true) : ∀ (d : Nat) (m : List Int), (m.length : Int) + d = r + 1 → EvP (fun k => laws_FnBox.l0 k x m r s) (· = true) := by
  obtain ⟨h1, h2, h3, h4⟩ := bxv_iff.1 hv
  intro d
  induction d with
  | zero =>
    intro m hm
    refine EvP.step (fun k => laws_FnBox.l0.eq_2 (k := k) ..) (EvP.no (by omega) (EvP.yes hx (EvP.yes hx2 ?_)))
    have ht : (s.take x.toNat).length ≤ s.length := by rw [List.length_take]; omega
    refine EvP.bindEq (impl_BoxValid_ev _ _ (by omega)) (EvP.yes (bxv_iff.2 ⟨h1, h2, by omega, List.all_eq_true.2 fun x hx => List.all_eq_true.1 h4 x (List.mem_of_mem_take hx)⟩) ?_)
    refine EvP.bindEq (impl_BoxValid_ev _ _ (by omega)) (EvP.yes (bxv_iff.2 ⟨by omega, by omega, by omega, h4⟩) ?_)
    refine EvP.bindEq (impl_BoxValid_ev _ _ (by omega)) (EvP.ret ?_)
    have hb : bxv r m = false := by
      rw [Bool.eq_false_iff]
      intro e
      have := (bxv_iff.1 e).2.2.1
      omega
    rw [hb]
    rfl
  | succ d ih =>
    intro m hm
    refine EvP.step (fun k => laws_FnBox.l0.eq_2 (k := k) ..) (EvP.yes (by omega) (EvP.yes (by omega) ?_))
    exact ih (m ++ [7]) (by rw [List.length_append]; simp; omega)
theorem FnBox : laws_FnBox.Pure := by
  intro l l1 _ hl hw _ hl1 _
  refine EvP.ends (r := true) ?_
  unfold laws_FnBox.f
  have key : ∀ b, EvP (fun k => laws_FnBox.j0 k l l1 b) (· = true) := by
    intro b
    refine EvP.step (fun k => laws_FnBox.j0.eq_2 (k := k) ..) (EvP.ite (fun _ => EvP.ret rfl) (fun _ => ?_))
    refine EvP.bind (DrawBoxValid_ev l (by omega) hw) fun a ha => ?_
    refine EvP.bindEq (impl_BoxValid_ev _ _ (by omega)) (EvP.bindEq (spec_BoxValid_ev _ _ (by omega)) (EvP.no (by simp) ?_))
    obtain ⟨r, s⟩ := a
    dsimp only at ha ⊢
    cases hv : bxv r s with
    | false =>
      refine EvP.step (fun k => laws_FnBox.j1.eq_2 (k := k) ..) (EvP.yes rfl (EvP.ret rfl))
    | true =>
      obtain ⟨h1, h2, h3, h4⟩ := bxv_iff.1 hv
      refine EvP.step (fun k => laws_FnBox.j1.eq_2 (k := k) ..) (EvP.no (by simp) ?_)
      rw [w64 (by omega) (by omega)]
      refine EvP.no (by omega) (EvP.bind0 rfl (EvP.yes (by simp; omega) ?_))
      rw [List.nil_append]
      have hm0 : 0 ≤ (l1.length : Int) % ((s.length : Int) + 1) := Int.emod_nonneg _ (by omega)
      have hm1 : (l1.length : Int) % ((s.length : Int) + 1) < (s.length : Int) + 1 := Int.emod_lt_of_pos _ (by omega)
      exact many_ev r s _ hm0 (by omega) hv (r + 1 - s.length).toNat s (by omega)
  exact EvP.ite (fun _ => key _) (fun _ => key _)
end Go.Proofs.Ytiakpoamjiodoaa.Pure

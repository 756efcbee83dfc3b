/- FnRingRound returns true for every code: no condition. -/
import Derived.Test.YtiakpoamjiodoaaBox2
import Derived.Test.YtiakpoamjiodoaaDraw2
import Derived.Test.YtiakpoamjiodoaaPAx1
import Derived.Test.YtiakpoamjiodoaaPAx40
namespace Go.Proofs.Ytiakpoamjiodoaa.Pure
open Go.RowKit Go.Proofs.Ytiakpoamjiodoaa.PA Go.Proofs.YtiakpoamjiodoaaW.PrintWords Go.Proofs.YtiakpoamjiodoaaW.PrintLast Go.Proofs.Ytiakpoamjiodoaa.Core
/-- The four slots, the first j of them filled. -/
def filled (j : Nat) : List Int := [10, 11, 12, 13].take j ++ [0, 0, 0, 0].drop j
theorem filled_ok : ∀ j, j ≤ 4 → (filled j).length = 4 ∧ (filled j).all vw = true := by
  intro j hj
  match j, hj with
  | 0, _ | 1, _ | 2, _ | 3, _ | 4, _ => decide
theorem filled_next : ∀ j, j < 4 → (filled j).set j (10 + (j : Int)) = filled (j + 1) := by
  intro j hj
  match j, hj with
  | 0, _ | 1, _ | 2, _ | 3, _ => decide
theorem filled_at : ∀ n j, n ≤ 4 → j < n → rd (filled n) (j : Int) = 10 + (j : Int) := by
  intro n j hn hj
  match n, hn with
  | 0, _ => omega
  | 1, _ => match j, hj with
    | 0, _ => rfl
  | 2, _ => match j, hj with
    | 0, _ | 1, _ => rfl
  | 3, _ => match j, hj with
    | 0, _ | 1, _ | 2, _ => rfl
  | 4, _ => match j, hj with
    | 0, _ | 1, _ | 2, _ | 3, _ => rfl
theorem l1_ev (n : Nat) (hn : 1 ≤ n) (hn4 : n ≤ 4) : ∀ (d j : Nat), j + d = n → EvP (fun k => laws_FnRingRound.l1 k (n : Int) false (j : Int) (n : Int) ((j : Int) % (n : Int)) (d : Int) (filled n)) (· = true) := by
  intro d
  induction d with
  | zero =>
    intro j hj
    obtain rfl : j = n := by omega
    refine EvP.step (fun k => laws_FnRingRound.l1.eq_2 (k := k) ..) (EvP.no (by omega) (EvP.no (by simp) (EvP.yes (by simp) (EvP.ret (by simp)))))
  | succ d ih =>
    intro j hj
    have hm : (j : Int) % (n : Int) = j := Int.emod_eq_of_lt (by omega) (by omega)
    have hf := filled_ok n hn4
    have hv : rgv (n : Int) ((j : Int) % (n : Int)) ((d + 1 : Nat) : Int) (filled n) = true := rgv_iff.2 ⟨by omega, by omega, by omega, by omega, by omega, by omega, by omega, hf.2⟩
    have ht : rtake (n : Int) ((j : Int) % (n : Int)) ((d + 1 : Nat) : Int) (filled n) = ((n : Int), (((j + 1 : Nat) : Int)) % (n : Int), (d : Int), filled n, 10 + (j : Int), true) := by
      unfold rtake
      rw [if_pos ⟨hv, by omega⟩, hm, filled_at n j hn4 (by omega), show ((d + 1 : Nat) : Int) - 1 = (d : Int) by omega]
      rfl
    refine EvP.step (fun k => laws_FnRingRound.l1.eq_2 (k := k) ..) (EvP.yes (by omega) ?_)
    refine EvP.bindEq (impl_RingTake_ev _ _ _ _ (by omega)) ?_
    rw [ht, w64 (n := 10 + (j : Int)) (by omega) (by omega), w64 (n := (j : Int) + 1) (by omega) (by omega)]
    exact EvP.yes rfl (EvP.yes rfl (ih (j + 1) (by omega)))
theorem l0_ev (n : Nat) (hn : 1 ≤ n) (hn4 : n ≤ 4) : ∀ (d j : Nat), j + d = n → EvP (fun k => laws_FnRingRound.l0 k (n : Int) (j : Int) (n : Int) 0 (j : Int) (filled j)) (· = true) := by
  intro d
  induction d with
  | zero =>
    intro j hj
    obtain rfl : j = n := by omega
    have hf := filled_ok j hn4
    refine EvP.step (fun k => laws_FnRingRound.l0.eq_2 (k := k) ..) (EvP.no (by omega) ?_)
    refine EvP.bindEq (impl_RingPut_ev _ _ _ _ _ (by omega)) ?_
    have hp : rput (j : Int) 0 (j : Int) (filled j) 5 = (0, 0, 0, [], false) := by
      unfold rput
      rw [if_neg (fun e => e.2.2 rfl)]
    rw [hp]
    have h := l1_ev j hn hn4 j 0 (by omega)
    rw [show ((0 : Nat) : Int) % (j : Int) = 0 by simp] at h
    exact h
  | succ d ih =>
    intro j hj
    have hf := filled_ok j (by omega)
    have hv : rgv (n : Int) 0 (j : Int) (filled j) = true := rgv_iff.2 ⟨by omega, by omega, by omega, by omega, by omega, by omega, by omega, hf.2⟩
    have hp : rput (n : Int) 0 (j : Int) (filled j) (10 + (j : Int)) = ((n : Int), 0, (j : Int) + 1, filled (j + 1), true) := by
      unfold rput
      rw [if_pos ⟨hv, by unfold vw; simp; omega, by omega⟩, Int.zero_add, Int.emod_eq_of_lt (by omega) (by omega), Int.toNat_natCast, filled_next j (by omega)]
    refine EvP.step (fun k => laws_FnRingRound.l0.eq_2 (k := k) ..) (EvP.yes (by omega) ?_)
    rw [w64 (n := 10 + (j : Int)) (by omega) (by omega), w64 (n := (j : Int) + 1) (by omega) (by omega)]
    refine EvP.bindEq (impl_RingPut_ev _ _ _ _ _ (by omega)) ?_
    rw [hp]
    exact EvP.yes rfl (ih (j + 1) (by omega))
theorem FnRingRound : laws_FnRingRound.Pure := by
  intro l _ hl hw
  refine EvP.ends (r := true) ?_
  unfold laws_FnRingRound.f
  refine EvP.ite (fun _ => EvP.ret rfl) (fun _ => ?_)
  refine EvP.bind (DrawRingNew_ev l (by omega) hw) fun a _ => ?_
  refine EvP.bind0 (impl_RingNew_eq a) (EvP.bind0 (spec_RingNew_eq a) (EvP.no (by simp) ?_))
  by_cases h : 1 ≤ a ∧ a ≤ 4
  · have hr : rnew a = (a, 0, 0, [0, 0, 0, 0], true) := by
      unfold rnew
      rw [if_pos h]
    rw [hr]
    refine EvP.bindEq (sameRing_ev _ _ _ _ _ _ _ _ (by simp)) (EvP.yes (by simp) ?_)
    refine EvP.step (fun k => laws_FnRingRound.j0.eq_2 (k := k) ..) (EvP.no (by simp) ?_)
    have h0 := l0_ev a.toNat (by omega) (by omega) a.toNat 0 (by omega)
    rw [Int.toNat_of_nonneg (by omega)] at h0
    exact h0
  · have hr : rnew a = (0, 0, 0, [], false) := by
      unfold rnew
      rw [if_neg h]
    rw [hr]
    refine EvP.bindEq (sameRing_ev _ _ _ _ _ _ _ _ (by simp)) (EvP.yes (by simp) ?_)
    refine EvP.step (fun k => laws_FnRingRound.j0.eq_2 (k := k) ..) (EvP.yes rfl (EvP.yes (by simp) ?_))
    exact EvP.bindEq (sameRing_ev _ _ _ _ _ _ _ _ (by simp)) (EvP.ret (by simp))
end Go.Proofs.Ytiakpoamjiodoaa.Pure

/- Mailboxes and rings: what the functions of the program and of the reference come to. -/
import Derived.Test.YtiakpoamjiodoaaPAx1
import Derived.Test.YtiakpoamjiodoaaWords1
namespace Go.Proofs.Ytiakpoamjiodoaa.PA
open Go.RowKit Go.Proofs.YtiakpoamjiodoaaW.PrintWords Go.Proofs.Ytiakpoamjiodoaa.Core
def bxv (r : Int) (l : List Int) : Bool := decide (1 ≤ r) && (decide (r ≤ 4) && (decide ((l.length : Int) ≤ r) && l.all vw))
def rgv (r h n : Int) (s : List Int) : Bool := decide (1 ≤ r) && (decide (r ≤ 4) && (decide (0 ≤ h) && (decide (h < r) && (decide (0 ≤ n) && (decide (n ≤ r) && (decide ((s.length : Int) = 4) && s.all vw))))))
theorem bxv_iff {r : Int} {l : List Int} : bxv r l = true ↔ 1 ≤ r ∧ r ≤ 4 ∧ (l.length : Int) ≤ r ∧ l.all vw = true := by
  unfold bxv
  simp only [Bool.and_eq_true, decide_eq_true_eq]
theorem rgv_iff {r h n : Int} {s : List Int} : rgv r h n s = true ↔ 1 ≤ r ∧ r ≤ 4 ∧ 0 ≤ h ∧ h < r ∧ 0 ≤ n ∧ n ≤ r ∧ (s.length : Int) = 4 ∧ s.all vw = true := by
  unfold rgv
  simp only [Bool.and_eq_true, decide_eq_true_eq]
theorem impl_RingValid_ev (r h n : Int) (s : List Int) (hl : s.length ≤ 1000000000) : EvP (fun k => impl_RingValid.f k r h n s) (· = rgv r h n s) := by
  unfold impl_RingValid.f rgv
  refine EvP.ite (fun h1 => ?_) (fun h1 => EvP.ret (by simp [show ¬ (1 ≤ r) from h1]))
  refine EvP.ite (fun h2 => ?_) (fun h2 => EvP.ret (by simp [h2]))
  refine EvP.ite (fun h3 => ?_) (fun h3 => EvP.ret (by simp [show ¬ (0 ≤ h) from h3]))
  refine EvP.ite (fun h4 => ?_) (fun h4 => EvP.ret (by simp [h4]))
  refine EvP.ite (fun h5 => ?_) (fun h5 => EvP.ret (by simp [show ¬ (0 ≤ n) from h5]))
  refine EvP.ite (fun h6 => ?_) (fun h6 => EvP.ret (by simp [h6]))
  refine EvP.ite (fun h7 => ?_) (fun h7 => EvP.ret (by simp [h7]))
  refine EvP.bindEq (areWords_ev s hl) (EvP.ret ?_)
  simp [show 1 ≤ r from h1, h2, show 0 ≤ h from h3, h4, show 0 ≤ n from h5, h6, h7]
theorem spec_RingValid_ev (r h n : Int) (s : List Int) (hl : s.length ≤ 1000000000) : EvP (fun k => spec_RingValid.f k r h n s) (· = rgv r h n s) := by
  unfold spec_RingValid.f
  have key : ∀ b : Bool, (b = true ↔ rgv r h n s = true) → b = rgv r h n s := fun b hb => by rw [Bool.eq_iff_iff]; exact hb
  rw [l6In_eq]
  refine EvP.bind0 rfl (EvP.ite (fun h1 => ?_) (fun h1 => EvP.ret (key _ ?_)))
  · simp only [Bool.and_eq_true, decide_eq_true_eq] at h1
    rw [l6In_eq, w64 (by omega) (by omega)]
    refine EvP.bind0 rfl (EvP.ite (fun h2 => ?_) (fun h2 => EvP.ret (key _ ?_)))
    · simp only [Bool.and_eq_true, decide_eq_true_eq] at h2
      rw [l6In_eq]
      refine EvP.bind0 rfl (EvP.ite (fun h3 => ?_) (fun h3 => EvP.ret (key _ ?_)))
      · simp only [Bool.and_eq_true, decide_eq_true_eq] at h3
        refine EvP.bindEq (l4Words_ev s _ hl) (EvP.ret (key _ ?_))
        rw [rgv_iff, Bool.and_eq_true, decide_eq_true_eq]
        exact ⟨fun e => ⟨h1.1, h1.2, h2.1, by omega, h3.1, h3.2, e⟩, fun e => e.2.2.2.2.2.2⟩
      · simp only [Bool.and_eq_true, decide_eq_true_eq] at h3
        rw [rgv_iff]
        exact ⟨fun e => (by cases e), fun e => absurd ⟨e.2.2.2.2.1, e.2.2.2.2.2.1⟩ h3⟩
    · simp only [Bool.and_eq_true, decide_eq_true_eq] at h2
      rw [rgv_iff]
      exact ⟨fun e => (by cases e), fun e => absurd ⟨e.2.2.1, by omega⟩ h2⟩
  · simp only [Bool.and_eq_true, decide_eq_true_eq] at h1
    rw [rgv_iff]
    exact ⟨fun e => (by cases e), fun e => absurd ⟨e.1, e.2.1⟩ h1⟩
def rnew (a : Int) : Int × Int × Int × List Int × Bool := if 1 ≤ a ∧ a ≤ 4 then (a, 0, 0, [0, 0, 0, 0], true) else (0, 0, 0, [], false)
/-- A ring's items. -/
def ritems (r h : Int) (s : List Int) : Nat → List Int
  | 0 => []
  | n + 1 => ritems r h s n ++ [rd s ((h + n) % r)]
theorem ritems_length (r h : Int) (s : List Int) : ∀ n, (ritems r h s n).length = n
  | 0 => rfl
  | n + 1 => by rw [ritems, List.length_append, ritems_length r h s n]; rfl
def rbox (r h n : Int) (s : List Int) : Int × List Int × Bool := if rgv r h n s = true then (r, ritems r h s n.toNat, true) else (0, [], false)
theorem slot_range {r h : Int} (i : Nat) (h1 : 1 ≤ r) (h3 : 0 ≤ h) (h0 : h + i ≤ 1000000000) : wrap64 (h + i) = h + i ∧ Int.tmod (h + i) r = (h + i) % r ∧ 0 ≤ (h + i) % r ∧ (h + i) % r < r :=
  ⟨w64 (by omega) (by omega), Int.tmod_eq_emod_of_nonneg (by omega), Int.emod_nonneg _ (by omega), Int.emod_lt_of_pos _ (by omega)⟩
end Go.Proofs.Ytiakpoamjiodoaa.PA

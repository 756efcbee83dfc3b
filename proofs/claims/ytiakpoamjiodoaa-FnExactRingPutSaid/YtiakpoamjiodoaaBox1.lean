/- Mailboxes and rings: what the functions of the program and of the reference come to. -/
import Derived.Test.YtiakpoamjiodoaaPAx1
import Derived.Test.YtiakpoamjiodoaaWords1
namespace Go.Proofs.Ytiakpoamjiodoaa.PA
open Go.RowKit Go.Proofs.YtiakpoamjiodoaaW.PrintWords Go.Proofs.Ytiakpoamjiodoaa.Core
def bxv (r : Int) (l : List Int) : Bool := decide (1 ≤ r) && (decide (r ≤ 4) && (decide ((l.length : Int) ≤ r) && l.all vw))
def rgv (r h n : Int) (s : List Int) : Bool := decide (1 ≤ r) && (decide (r ≤ 4) && (decide (0 ≤ h) && (decide (h < r) && (decide (0 ≤ n) && (decide (n ≤ r) && (decide ((s.length : Int) = 4) && s.all vw))))))
theorem bxv_iff {r : Int} {l : List Int} : bxv r l = true ↔ 1 ≤ r ∧ r ≤ 4 ∧ (l.length : Int) ≤ r ∧ l.all vw = true := by
  unfold bxv
  simp only [Bool.and_eq_true, decide_eq_true_eq]
theorem rgv_iff {r h n : Int} {s : List Int} : rgv r h n s = true ↔ 1 ≤ r ∧ r ≤ 4 ∧ 0 ≤ h ∧ h < r ∧ 0 ≤ n ∧ n ≤ r ∧ (s.length : Int) = 4 ∧ s.all vw = true := by
  unfold rgv
  simp only [Bool.and_eq_true, decide_eq_true_eq]
theorem impl_BoxValid_ev (r : Int) (l : List Int) (hl : l.length ≤ 1000000000) : EvP (fun k => impl_BoxValid.f k r l) (· = bxv r l) := by
  unfold impl_BoxValid.f bxv
  refine EvP.ite (fun h => ?_) (fun h => EvP.ret (by simp [show ¬ (1 ≤ r) from h]))
  refine EvP.ite (fun h2 => ?_) (fun h2 => EvP.ret (by simp [h2]))
  refine EvP.ite (fun h3 => ?_) (fun h3 => EvP.ret (by simp [h3]))
  refine EvP.bindEq (areWords_ev l hl) (EvP.ret ?_)
  simp [show 1 ≤ r from h, h2, h3]
theorem spec_BoxValid_ev (r : Int) (l : List Int) (hl : l.length ≤ 1000000000) : EvP (fun k => spec_BoxValid.f k r l) (· = bxv r l) := by
  unfold spec_BoxValid.f bxv
  rw [l6In_eq]
  refine EvP.bind0 rfl ?_
  refine EvP.ite (fun h => ?_) (fun h => EvP.ret ?_)
  · simp only [Bool.and_eq_true, decide_eq_true_eq] at h
    refine EvP.ite (fun h3 => ?_) (fun h3 => EvP.ret (by simp [h3]))
    refine EvP.bindEq (l4Words_ev l _ hl) (EvP.ret ?_)
    simp [h.1, h.2, h3]
  · simp only [Bool.and_eq_true, decide_eq_true_eq] at h
    symm
    rw [Bool.eq_false_iff]
    intro e
    simp only [Bool.and_eq_true, decide_eq_true_eq] at e
    exact h ⟨e.1, e.2.1⟩
theorem impl_RingValid_ev (r h n : Int) (s : List Int) (hl : s.length ≤ 1000000000) : EvP (fun k => impl_RingValid.f k r h n s) (· = rgv r h n s) := by
  unfold impl_RingValid.f rgv
  refine EvP.ite (fun h1 => ?_) (fun h1 => EvP.ret (by simp [show ¬ (1 ≤ r) from h1]))
  refine EvP.ite (fun h2 => ?_) (fun h2 => EvP.ret (by simp [h2]))
  refine EvP.ite (fun h3 => ?_) (fun h3 => EvP.ret (by simp [show ¬ (0 ≤ h) from h3]))
  refine EvP.ite (fun h4 => ?_) (fun h4 => EvP.ret (by simp [h4]))
  refine EvP.ite (fun h5 => ?_) (fun h5 => EvP.ret (by simp [show ¬ (0 ≤ n) from h5]))
  refine EvP.ite (fun h6 => ?_) (fun h6 => EvP.ret (by simp [h6]))
  refine EvP.ite (fun h7 => ?_) (fun h7 => EvP.ret (by simp [h7]))
  refine EvP.bindEq (areWords_ev s hl) (EvP.ret ?_)
  simp [show 1 ≤ r from h1, h2, show 0 ≤ h from h3, h4, show 0 ≤ n from h5, h6, h7]
theorem spec_RingValid_ev (r h n : Int) (s : List Int) (hl : s.length ≤ 1000000000) : EvP (fun k => spec_RingValid.f k r h n s) (· = rgv r h n s) := by
  unfold spec_RingValid.f
  have key : ∀ b : Bool, (b = true ↔ rgv r h n s = true) → b = rgv r h n s := fun b hb => by rw [Bool.eq_iff_iff]; exact hb
  rw [l6In_eq]
  refine EvP.bind0 rfl (EvP.ite (fun h1 => ?_) (fun h1 => EvP.ret (key _ ?_)))
  · simp only [Bool.and_eq_true, decide_eq_true_eq] at h1
    rw [l6In_eq, w64 (by omega) (by omega)]
    refine EvP.bind0 rfl (EvP.ite (fun h2 => ?_) (fun h2 => EvP.ret (key _ ?_)))
    · simp only [Bool.and_eq_true, decide_eq_true_eq] at h2
      rw [l6In_eq]
      refine EvP.bind0 rfl (EvP.ite (fun h3 => ?_) (fun h3 => EvP.ret (key _ ?_)))
      · simp only [Bool.and_eq_true, decide_eq_true_eq] at h3
        refine EvP.bindEq (l4Words_ev s _ hl) (EvP.ret (key _ ?_))
        rw [rgv_iff, Bool.and_eq_true, decide_eq_true_eq]
        exact ⟨fun e => ⟨h1.1, h1.2, h2.1, by omega, h3.1, h3.2, e⟩, fun e => e.2.2.2.2.2.2⟩
      · simp only [Bool.and_eq_true, decide_eq_true_eq] at h3
        rw [rgv_iff]
        exact ⟨fun e => (by cases e), fun e => absurd ⟨e.2.2.2.2.1, e.2.2.2.2.2.1⟩ h3⟩
    · simp only [Bool.and_eq_true, decide_eq_true_eq] at h2
      rw [rgv_iff]
      exact ⟨fun e => (by cases e), fun e => absurd ⟨e.2.2.1, by omega⟩ h2⟩
  · simp only [Bool.and_eq_true, decide_eq_true_eq] at h1
    rw [rgv_iff]
    exact ⟨fun e => (by cases e), fun e => absurd ⟨e.1, e.2.1⟩ h1⟩
def rnew (a : Int) : Int × Int × Int × List Int × Bool := if 1 ≤ a ∧ a ≤ 4 then (a, 0, 0, [0, 0, 0, 0], true) else (0, 0, 0, [], false)
theorem spec_RingNew_eq (a : Int) : spec_RingNew.f a = some (rnew a) := by
  unfold spec_RingNew.f rnew
  rw [l6In_eq]
  simp only [Option.bind_some, Bool.and_eq_true, decide_eq_true_eq]
  by_cases h : 1 ≤ a ∧ a ≤ 4
  · rw [if_pos h, if_pos h]
    rfl
  · rw [if_neg h, if_neg h]
theorem impl_RingNew_eq (a : Int) : impl_RingNew.f a = some (rnew a) := by
  unfold impl_RingNew.f rnew
  by_cases h : a < 1
  · rw [if_pos h, if_neg (by omega)]
  · by_cases h2 : a > 4
    · rw [if_neg h, if_pos h2, if_neg (by omega)]
    · rw [if_neg h, if_neg h2, if_pos (show 1 ≤ a ∧ a ≤ 4 by omega)]
      rfl
/-- A ring's items. -/
def ritems (r h : Int) (s : List Int) : Nat → List Int
  | 0 => []
  | n + 1 => ritems r h s n ++ [rd s ((h + n) % r)]
theorem ritems_length (r h : Int) (s : List Int) : ∀ n, (ritems r h s n).length = n
  | 0 => rfl
  | n + 1 => by rw [ritems, List.length_append, ritems_length r h s n]; rfl
def rbox (r h n : Int) (s : List Int) : Int × List Int × Bool := if rgv r h n s = true then (r, ritems r h s n.toNat, true) else (0, [], false)
theorem slot_range {r h : Int} (i : Nat) (h1 : 1 ≤ r) (h3 : 0 ≤ h) (h0 : h + i ≤ 1000000000) : wrap64 (h + i) = h + i ∧ Int.tmod (h + i) r = (h + i) % r ∧ 0 ≤ (h + i) % r ∧ (h + i) % r < r :=
  ⟨w64 (by omega) (by omega), Int.tmod_eq_emod_of_nonneg (by omega), Int.emod_nonneg _ (by omega), Int.emod_lt_of_pos _ (by omega)⟩
theorem impl_RingBox_l0 (r h n : Int) (s : List Int) (hv : rgv r h n s = true) : ∀ (d j : Nat), (j : Int) + d = n → EvP (fun k => impl_RingBox.l0 k n (j : Int) r h n s r (ritems r h s j)) (· = (r, ritems r h s n.toNat, true)) := by
  obtain ⟨h1, h2, h3, h4, h5, h6, h7, h8⟩ := rgv_iff.1 hv
  intro d
  induction d with
  | zero =>
    intro j hj
    refine EvP.step (fun k => impl_RingBox.l0.eq_2 (k := k) ..) (EvP.no (by omega) (EvP.ret ?_))
    rw [show n.toNat = j by omega]
  | succ d ih =>
    intro j hj
    obtain ⟨e1, e2, e3, e4⟩ := slot_range (r := r) (h := h) j h1 h3 (by omega)
    refine EvP.step (fun k => impl_RingBox.l0.eq_2 (k := k) ..) (EvP.yes (by omega) (EvP.no (by omega) ?_))
    rw [e1, e2, w64 (by omega) (by omega)]
    refine EvP.yes e3 (EvP.yes (by omega) (EvP.yes (by rw [ritems_length]; omega) ?_))
    exact ih (j + 1) (by omega)
theorem impl_RingBox_ev (r h n : Int) (s : List Int) (hl : s.length ≤ 1000000000) : EvP (fun k => impl_RingBox.f k r h n s) (· = rbox r h n s) := by
  unfold impl_RingBox.f rbox
  refine EvP.bindEq (impl_RingValid_ev r h n s hl) (EvP.ite (fun hv => ?_) (fun hv => EvP.ret ?_))
  · rw [if_pos hv]
    have hq := rgv_iff.1 hv
    exact impl_RingBox_l0 r h n s hv n.toNat 0 (by omega)
  · rw [if_neg hv]
theorem spec_RingBox_l0 (r h n : Int) (s : List Int) (hv : rgv r h n s = true) : ∀ (d j : Nat), (j : Int) + d = n → EvP (fun k => spec_RingBox.l0 k (j : Int) r h n s r (ritems r h s j)) (· = (r, ritems r h s n.toNat, true)) := by
  obtain ⟨h1, h2, h3, h4, h5, h6, h7, h8⟩ := rgv_iff.1 hv
  intro d
  induction d with
  | zero =>
    intro j hj
    refine EvP.step (fun k => spec_RingBox.l0.eq_2 (k := k) ..) (EvP.no (by omega) (EvP.ret ?_))
    rw [show n.toNat = j by omega]
  | succ d ih =>
    intro j hj
    obtain ⟨e1, e2, e3, e4⟩ := slot_range (r := r) (h := h) j h1 h3 (by omega)
    refine EvP.step (fun k => spec_RingBox.l0.eq_2 (k := k) ..) (EvP.yes (by omega) (EvP.no (by omega) ?_))
    rw [e1, e2, w64 (by omega) (by omega)]
    refine EvP.yes e3 (EvP.yes (by omega) (EvP.yes (by rw [ritems_length]; omega) ?_))
    exact ih (j + 1) (by omega)
theorem spec_RingBox_ev (r h n : Int) (s : List Int) (hl : s.length ≤ 1000000000) : EvP (fun k => spec_RingBox.f k r h n s) (· = rbox r h n s) := by
  unfold spec_RingBox.f rbox
  refine EvP.bindEq (spec_RingValid_ev r h n s hl) (EvP.ite (fun hv => ?_) (fun hv => EvP.ret ?_))
  · rw [if_pos hv]
    have hq := rgv_iff.1 hv
    exact spec_RingBox_l0 r h n s hv n.toNat 0 (by omega)
  · rw [if_neg hv]
theorem sameBox_ev (a : Int) (l : List Int) (b : Int) (m : List Int) (hl : l.length ≤ 1000000000) : EvP (fun k => laws_sameBox.f k a l b m) (· = (decide (a = b) && decide (l = m))) := by
  unfold laws_sameBox.f
  refine EvP.ite (fun h => ?_) (fun h => EvP.ret (by simp [h]))
  refine EvP.bindEq (sameInts_ev l m hl) (EvP.ret ?_)
  simp [h]
theorem sameRing_ev (a0 a1 a2 : Int) (l : List Int) (b0 b1 b2 : Int) (m : List Int) (hl : l.length ≤ 1000000000) : EvP (fun k => laws_sameRing.f k a0 a1 a2 l b0 b1 b2 m) (· = (decide (a0 = b0) && (decide (a1 = b1) && (decide (a2 = b2) && decide (l = m))))) := by
  unfold laws_sameRing.f
  refine EvP.ite (fun h => ?_) (fun h => EvP.ret (by simp [h]))
  refine EvP.ite (fun h1 => ?_) (fun h1 => EvP.ret (by simp [h1]))
  refine EvP.ite (fun h2 => ?_) (fun h2 => EvP.ret (by simp [h2]))
  refine EvP.bindEq (sameInts_ev l m hl) (EvP.ret ?_)
  simp [h, h1, h2]
end Go.Proofs.Ytiakpoamjiodoaa.PA

/- Mailboxes and rings: putting, taking, and the exact comparison's words. -/
import Derived.Test.YtiakpoamjiodoaaPAx1
import Derived.Test.YtiakpoamjiodoaaBox1
namespace Go.Proofs.Ytiakpoamjiodoaa.PA
open Go.RowKit Go.Proofs.YtiakpoamjiodoaaW.PrintWords Go.Proofs.Ytiakpoamjiodoaa.Core
def bput (r : Int) (l : List Int) (x : Int) : Int × List Int × Bool := if bxv r l = true ∧ vw x = true ∧ ¬ ((l.length : Int) = r) then (r, l ++ [x], true) else (0, [], false)
def btake (r : Int) (l : List Int) : Int × List Int × Int × Bool := if bxv r l = true ∧ ¬ ((l.length : Int) = 0) then (r, l.drop 1, rd l 0, true) else (0, [], 0, false)
def rput (r h n : Int) (s : List Int) (x : Int) : Int × Int × Int × List Int × Bool := if rgv r h n s = true ∧ vw x = true ∧ ¬ (n = r) then (r, h, n + 1, s.set ((h + n) % r).toNat x, true) else (0, 0, 0, [], false)
def rtake (r h n : Int) (s : List Int) : Int × Int × Int × List Int × Int × Bool := if rgv r h n s = true ∧ ¬ (n = 0) then (r, (h + 1) % r, n - 1, s, rd s h, true) else (0, 0, 0, [], 0, false)
theorem impl_BoxPut_ev (r : Int) (l : List Int) (x : Int) (hl : l.length ≤ 1000000000) : EvP (fun k => impl_BoxPut.f k r l x) (· = bput r l x) := by
  unfold impl_BoxPut.f bput
  refine EvP.bindEq (impl_BoxValid_ev r l hl) (EvP.ite (fun h => ?_) (fun h => EvP.ret (by rw [if_neg (fun e => h e.1)])))
  refine EvP.bind0 (impl_WordValid_eq x) (EvP.ite (fun h2 => ?_) (fun h2 => EvP.ret (by rw [if_neg (fun e => h2 e.2.1)])))
  refine EvP.ite (fun h3 => EvP.ret (by rw [if_neg (fun e => e.2.2 h3)])) (fun h3 => ?_)
  refine EvP.bind0 (clone_eq l hl) (EvP.bind0 rfl (EvP.yes (by simp; omega) (EvP.ret ?_)))
  rw [if_pos ⟨h, h2, h3⟩]
theorem spec_BoxPut_ev (r : Int) (l : List Int) (x : Int) (hl : l.length ≤ 1000000000) : EvP (fun k => spec_BoxPut.f k r l x) (· = bput r l x) := by
  unfold spec_BoxPut.f bput
  refine EvP.bindEq (spec_BoxValid_ev r l hl) (EvP.ite (fun h => ?_) (fun h => EvP.ret (by rw [if_neg (fun e => h e.1)])))
  have hb := bxv_iff.1 h
  refine EvP.bind0 (spec_WordValid_eq x) (EvP.ite (fun h2 => ?_) (fun h2 => EvP.ret (by rw [if_neg (fun e => h2 e.2.1)])))
  refine EvP.ite (fun h3 => EvP.ret (by rw [if_neg (fun e => e.2.2 (by omega))])) (fun h3 => ?_)
  refine EvP.bind0 rfl (EvP.yes (by simp; omega) (EvP.bind0 rfl (EvP.bind0 rfl (EvP.yes (by simp; omega) (EvP.ret ?_)))))
  rw [if_pos ⟨h, h2, by omega⟩, List.nil_append]
theorem impl_BoxTake_ev (r : Int) (l : List Int) (hl : l.length ≤ 1000000000) : EvP (fun k => impl_BoxTake.f k r l) (· = btake r l) := by
  unfold impl_BoxTake.f btake
  refine EvP.bindEq (impl_BoxValid_ev r l hl) (EvP.ite (fun h => ?_) (fun h => EvP.ret (by rw [if_neg (fun e => h e.1)])))
  refine EvP.ite (fun h3 => EvP.ret (by rw [if_neg (fun e => e.2 h3)])) (fun h3 => ?_)
  refine EvP.yes (by omega) (EvP.bind0 (clone_eq _ (by rw [List.length_drop]; omega)) (EvP.yes (by omega) (EvP.ret ?_)))
  rw [if_pos ⟨h, h3⟩]
theorem spec_BoxTake_ev (r : Int) (l : List Int) (hl : l.length ≤ 1000000000) : EvP (fun k => spec_BoxTake.f k r l) (· = btake r l) := by
  unfold spec_BoxTake.f btake
  refine EvP.bindEq (spec_BoxValid_ev r l hl) (EvP.ite (fun h => ?_) (fun h => EvP.ret (by rw [if_neg (fun e => h e.1)])))
  refine EvP.ite (fun h3 => EvP.ret (by rw [if_neg (fun e => e.2 h3)])) (fun h3 => ?_)
  refine EvP.bind0 rfl (EvP.yes (by omega) (EvP.yes (by simp; omega) (EvP.yes (by omega) (EvP.ret ?_))))
  rw [if_pos ⟨h, h3⟩, List.nil_append]
theorem impl_RingPut_ev (r h n : Int) (s : List Int) (x : Int) (hl : s.length ≤ 1000000000) : EvP (fun k => impl_RingPut.f k r h n s x) (· = rput r h n s x) := by
  unfold impl_RingPut.f rput
  refine EvP.bindEq (impl_RingValid_ev r h n s hl) (EvP.ite (fun hv => ?_) (fun hv => EvP.ret (by rw [if_neg (fun e => hv e.1)])))
  obtain ⟨h1, h2, h3, h4, h5, h6, h7, h8⟩ := rgv_iff.1 hv
  refine EvP.bind0 (impl_WordValid_eq x) (EvP.ite (fun hx => ?_) (fun hx => EvP.ret (by rw [if_neg (fun e => hx e.2.1)])))
  refine EvP.ite (fun hn => EvP.ret (by rw [if_neg (fun e => e.2.2 hn)])) (fun hn => ?_)
  obtain ⟨e1, e2, e3, e4⟩ := slot_range (r := r) (h := h) n.toNat h1 h3 (by omega)
  rw [Int.toNat_of_nonneg h5] at e1 e2 e3 e4
  refine EvP.bind0 (clone_eq s hl) (EvP.no (by omega) ?_)
  rw [e1, e2, w64 (by omega) (by omega)]
  exact EvP.yes e3 (EvP.yes (by omega) (EvP.ret (by rw [if_pos ⟨hv, hx, hn⟩])))
theorem spec_RingPut_ev (r h n : Int) (s : List Int) (x : Int) (hl : s.length ≤ 1000000000) : EvP (fun k => spec_RingPut.f k r h n s x) (· = rput r h n s x) := by
  unfold spec_RingPut.f rput
  refine EvP.bindEq (spec_RingValid_ev r h n s hl) (EvP.ite (fun hv => ?_) (fun hv => EvP.ret (by rw [if_neg (fun e => hv e.1)])))
  obtain ⟨h1, h2, h3, h4, h5, h6, h7, h8⟩ := rgv_iff.1 hv
  refine EvP.bind0 (spec_WordValid_eq x) (EvP.ite (fun hx => ?_) (fun hx => EvP.ret (by rw [if_neg (fun e => hx e.2.1)])))
  refine EvP.ite (fun hn => EvP.ret (by rw [if_neg (fun e => e.2.2 hn)])) (fun hn => ?_)
  obtain ⟨e1, e2, e3, e4⟩ := slot_range (r := r) (h := h) n.toNat h1 h3 (by omega)
  rw [Int.toNat_of_nonneg h5] at e1 e2 e3 e4
  refine EvP.bind0 rfl (EvP.yes (by simp; omega) (EvP.bind0 rfl (EvP.no (by omega) ?_)))
  rw [List.nil_append, e1, e2, w64 (by omega) (by omega)]
  exact EvP.yes e3 (EvP.yes (by omega) (EvP.ret (by rw [if_pos ⟨hv, hx, hn⟩])))
theorem impl_RingTake_ev (r h n : Int) (s : List Int) (hl : s.length ≤ 1000000000) : EvP (fun k => impl_RingTake.f k r h n s) (· = rtake r h n s) := by
  unfold impl_RingTake.f rtake
  refine EvP.bindEq (impl_RingValid_ev r h n s hl) (EvP.ite (fun hv => ?_) (fun hv => EvP.ret (by rw [if_neg (fun e => hv e.1)])))
  obtain ⟨h1, h2, h3, h4, h5, h6, h7, h8⟩ := rgv_iff.1 hv
  refine EvP.ite (fun hn => EvP.ret (by rw [if_neg (fun e => e.2 hn)])) (fun hn => ?_)
  refine EvP.bind0 (clone_eq s hl) (EvP.yes h3 (EvP.yes (by omega) (EvP.no (by omega) (EvP.ret ?_))))
  rw [if_pos ⟨hv, hn⟩, w64 (n := h + 1) (by omega) (by omega), w64 (n := n - 1) (by omega) (by omega), Int.tmod_eq_emod_of_nonneg (by omega)]
/-! The exact comparison's words. -/
theorem szBox_eq (a : Int) (l : List Int) (hl : l.length ≤ maxLen) : laws_szBox.f a l 1048576 = some (if 1048576 - (l.length : Int) < 0 then (-1 : Int) else 1048576 - (l.length : Int)) := by
  have hm : maxLen = 9223372036854775807 := rfl
  unfold laws_szBox.f
  rw [szIntS_eq l _ (by omega) (by omega) (by omega), Option.bind_some]
  by_cases h : 1048576 - (l.length : Int) < 0
  · rw [if_pos h]; rfl
  · rw [if_neg h, if_neg h]
theorem szRing_eq (a b c : Int) (l : List Int) (hl : l.length ≤ maxLen) : laws_szRing.f a b c l 1048576 = some (if 1048576 - (l.length : Int) < 0 then (-1 : Int) else 1048576 - (l.length : Int)) := by
  have hm : maxLen = 9223372036854775807 := rfl
  unfold laws_szRing.f
  rw [szIntS_eq l _ (by omega) (by omega) (by omega), Option.bind_some]
  by_cases h : 1048576 - (l.length : Int) < 0
  · rw [if_pos h]; rfl
  · rw [if_neg h, if_neg h]
theorem toBox_ev (a : Int) (l : List Int) (hl : l.length ≤ 1000000000) : EvP (fun k => laws_toBox.f k a l) (· = (a, l)) := by
  unfold laws_toBox.f
  exact EvP.bindEq (toIntS_ev l hl) (EvP.ret rfl)
theorem toRing_ev (a b c : Int) (l : List Int) (hl : l.length ≤ 1000000000) : EvP (fun k => laws_toRing.f k a b c l) (· = (a, b, c, l)) := by
  unfold laws_toRing.f
  exact EvP.bindEq (toIntS_ev l hl) (EvP.ret rfl)
theorem eqBox_ev (a : Int) (l : List Int) (hl : l.length ≤ 1000000000) : EvP (fun k => laws_eqBox.f k a l a l) (· = true) := by
  unfold laws_eqBox.f
  exact EvP.yes rfl (EvP.bindEq (eqIntS_ev l l hl) (EvP.yes (by simp) (EvP.ret rfl)))
theorem eqRing_ev (a b c : Int) (l : List Int) (hl : l.length ≤ 1000000000) : EvP (fun k => laws_eqRing.f k a b c l a b c l) (· = true) := by
  unfold laws_eqRing.f
  exact EvP.yes rfl (EvP.yes rfl (EvP.yes rfl (EvP.bindEq (eqIntS_ev l l hl) (EvP.yes (by simp) (EvP.ret rfl)))))
theorem markBox_ev (a : Int) (l : List Int) (hl : l.length ≤ 1000000000) : EvP (fun k => laws_markBox.f k a l 1) (· = (1 + (l.length : Int), marked l.length 1)) := by
  unfold laws_markBox.f
  exact EvP.bindEq (markIntS_ev l 1 hl (by omega) (by omega)) (EvP.ret rfl)
theorem markRing_ev (a b c : Int) (l : List Int) (hl : l.length ≤ 1000000000) : EvP (fun k => laws_markRing.f k a b c l 1) (· = (1 + (l.length : Int), marked l.length 1)) := by
  unfold laws_markRing.f
  exact EvP.bindEq (markIntS_ev l 1 hl (by omega) (by omega)) (EvP.ret rfl)
theorem heldBox_ev (a : Int) (n : Nat) (hl : n ≤ 1000000000) : EvP (fun k => laws_heldBox.f k a (marked n 1) 1) (· = 1 + (n : Int)) := by
  unfold laws_heldBox.f
  exact EvP.bindEq (heldIntS_ev n 1 hl (by omega) (by omega)) (EvP.no (by omega) (EvP.ret rfl))
theorem heldRing_ev (a b c : Int) (n : Nat) (hl : n ≤ 1000000000) : EvP (fun k => laws_heldRing.f k a b c (marked n 1) 1) (· = 1 + (n : Int)) := by
  unfold laws_heldRing.f
  exact EvP.bindEq (heldIntS_ev n 1 hl (by omega) (by omega)) (EvP.no (by omega) (EvP.ret rfl))
theorem bput_length (r : Int) (l : List Int) (x : Int) (hl : l.length ≤ 2000000) : (bput r l x).2.1.length ≤ 1000000000 := by
  unfold bput
  split
  · dsimp only
    rw [List.length_append]
    simp
    omega
  · simp
theorem btake_length (r : Int) (l : List Int) (hl : l.length ≤ 2000000) : (btake r l).2.1.length ≤ 1000000000 := by
  unfold btake
  split
  · dsimp only
    rw [List.length_drop]
    omega
  · simp
theorem rput_length (r h n : Int) (s : List Int) (x : Int) (hl : s.length ≤ 2000000) : (rput r h n s x).2.2.2.1.length ≤ 1000000000 := by
  unfold rput
  split
  · dsimp only
    rw [List.length_set]
    omega
  · simp
end Go.Proofs.Ytiakpoamjiodoaa.PA

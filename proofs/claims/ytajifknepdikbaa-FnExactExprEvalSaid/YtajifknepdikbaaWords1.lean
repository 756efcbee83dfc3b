/- Words and lists of words: what the small functions of the program and of the reference come to. -/
import Derived.Test.YtajifknepdikbaaPAx1
import Derived.Test.YtajifknepdikbaaOps
namespace Go.Proofs.Ytajifknepdikbaa.PA
open Go.RowKit Go.Proofs.YtajifknepdikbaaW.PrintWords Go.Proofs.Ytajifknepdikbaa.Core
theorem l6In_eq (a b c : Int) : spec_l6In.f a b c = some (decide (b ≤ a) && decide (a ≤ c)) := by
  unfold spec_l6In.f
  by_cases h : a ≥ b
  · rw [if_pos h, decide_eq_true h, Bool.true_and]
  · rw [if_neg h, decide_eq_false h, Bool.false_and]
theorem spec_WordValid_eq (a : Int) : spec_WordValid.f a = some (vw a) := by
  unfold spec_WordValid.f
  rw [l6In_eq]
  rfl
theorem impl_WordValid_eq (a : Int) : impl_WordValid.f a = some (vw a) := by
  unfold impl_WordValid.f vw
  by_cases h : a ≥ -2147483648
  · rw [if_pos h, decide_eq_true h, Bool.true_and]
  · rw [if_neg h, decide_eq_false h, Bool.false_and]
theorem areWords_l0 (l : List Int) (hl : l.length ≤ 1000000000) : ∀ (d j : Nat), j + d = l.length → EvP (fun k => impl_areWords.l0 k l (l.length : Int) (j : Int)) (· = (l.drop j).all vw) := by
  intro d
  induction d with
  | zero =>
    intro j hj
    refine EvP.step (fun k => impl_areWords.l0.eq_2 (k := k) ..) (EvP.no (by omega) (EvP.ret ?_))
    rw [List.drop_eq_nil_of_le (by omega)]
    rfl
  | succ d ih =>
    intro j hj
    have hlt : j < l.length := by omega
    refine EvP.step (fun k => impl_areWords.l0.eq_2 (k := k) ..) (EvP.yes (by omega) (EvP.yes (by omega) (EvP.yes (by omega) ?_)))
    rw [impl_WordValid_eq, rd_nat l j hlt, List.drop_eq_getElem_cons hlt, List.all_cons]
    refine EvP.bind0 rfl (EvP.ite (fun h => ?_) (fun h => EvP.ret ?_))
    · rw [h, Bool.true_and, w64 (by omega) (by omega)]
      exact ih (j + 1) (by omega)
    · rw [Bool.eq_false_iff.mpr h, Bool.false_and]
theorem areWords_ev (l : List Int) (hl : l.length ≤ 1000000000) : EvP (fun k => impl_areWords.f k l) (· = l.all vw) := by
  unfold impl_areWords.f
  exact areWords_l0 l hl l.length 0 (by omega)
theorem l4Words_l0 (l : List Int) (hl : l.length ≤ 1000000000) : ∀ (d j : Nat), j + d = l.length → EvP (fun k => spec_l4Words.l0 k l (j : Int)) (· = (l.drop j).all vw) := by
  intro d
  induction d with
  | zero =>
    intro j hj
    refine EvP.step (fun k => spec_l4Words.l0.eq_2 (k := k) ..) (EvP.no (by omega) (EvP.ret ?_))
    rw [List.drop_eq_nil_of_le (by omega)]
    rfl
  | succ d ih =>
    intro j hj
    have hlt : j < l.length := by omega
    refine EvP.step (fun k => spec_l4Words.l0.eq_2 (k := k) ..) (EvP.yes (by omega) (EvP.yes (by omega) ?_))
    rw [spec_WordValid_eq, rd_nat l j hlt, List.drop_eq_getElem_cons hlt, List.all_cons]
    refine EvP.bind0 rfl (EvP.ite (fun h => ?_) (fun h => EvP.ret ?_))
    · rw [h, Bool.true_and, w64 (by omega) (by omega)]
      exact ih (j + 1) (by omega)
    · rw [Bool.eq_false_iff.mpr h, Bool.false_and]
theorem l4Words_ev (l : List Int) (n : Int) (hl : l.length ≤ 1000000000) : EvP (fun k => spec_l4Words.f k l n) (· = (decide ((l.length : Int) = n) && l.all vw)) := by
  unfold spec_l4Words.f
  refine EvP.ite (fun h => ?_) (fun h => EvP.ret ?_)
  · rw [decide_eq_true h, Bool.true_and]
    exact l4Words_l0 l hl l.length 0 (by omega)
  · rw [decide_eq_false h, Bool.false_and]
theorem eqIntS_l0 (l m : List Int) (hl : l.length ≤ 1000000000) (hm : l.length = m.length) : ∀ (d j : Nat), j + d = l.length → EvP (fun k => laws_eqIntS.l0 k l m (j : Int)) (· = decide (l.drop j = m.drop j)) := by
  intro d
  induction d with
  | zero =>
    intro j hj
    refine EvP.step (fun k => laws_eqIntS.l0.eq_2 (k := k) ..) (EvP.no (by omega) (EvP.ret ?_))
    rw [List.drop_eq_nil_of_le (by omega), List.drop_eq_nil_of_le (by omega)]
    rfl
  | succ d ih =>
    intro j hj
    have hlt : j < l.length := by omega
    have hlm : j < m.length := by omega
    refine EvP.step (fun k => laws_eqIntS.l0.eq_2 (k := k) ..) (EvP.yes (by omega) (EvP.yes (by omega) (EvP.yes (by omega) ?_)))
    rw [rd_nat l j hlt, rd_nat m j hlm, List.drop_eq_getElem_cons hlt, List.drop_eq_getElem_cons hlm]
    refine EvP.ite (fun h => ?_) (fun h => EvP.ret ?_)
    · rw [h, w64 (by omega) (by omega)]
      refine (ih (j + 1) (by omega)).mono fun a ha => ?_
      rw [ha]
      exact decide_eq_decide.mpr ⟨fun e => by rw [e], fun e => (List.cons.inj e).2⟩
    · exact (decide_eq_false (fun e => h (List.cons.inj e).1)).symm
theorem eqIntS_ev (l m : List Int) (hl : l.length ≤ 1000000000) : EvP (fun k => laws_eqIntS.f k l m) (· = decide (l = m)) := by
  unfold laws_eqIntS.f
  refine EvP.ite (fun h => ?_) (fun h => EvP.ret ?_)
  · exact eqIntS_l0 l m hl (by omega) l.length 0 (by omega)
  · rw [decide_eq_false]
    rintro rfl
    exact h rfl
/-- What 'mark' leaves: counted on from k. -/
def marked : Nat → Int → List Int
  | 0, _ => []
  | n + 1, k => k :: marked n (k + 1)
theorem marked_length : ∀ n k, (marked n k).length = n
  | 0, _ => rfl
  | n + 1, k => by rw [marked, List.length_cons, marked_length n]
theorem toIntS_l0 (l : List Int) (hl : l.length ≤ 1000000000) : ∀ (d j : Nat) (m : List Int), m.length = l.length → j + d = l.length → EvP (fun k => laws_toIntS.l0 k l m (j : Int)) (· = m.take j ++ l.drop j) := by
  intro d
  induction d with
  | zero =>
    intro j m hm hj
    refine EvP.step (fun k => laws_toIntS.l0.eq_2 (k := k) ..) (EvP.no (by omega) (EvP.ret ?_))
    rw [List.take_of_length_le (by omega), List.drop_eq_nil_of_le (by omega), List.append_nil]
  | succ d ih =>
    intro j m hm hj
    have hlt : j < l.length := by omega
    refine EvP.step (fun k => laws_toIntS.l0.eq_2 (k := k) ..) (EvP.yes (by omega) (EvP.yes (by omega) (EvP.yes (by omega) ?_)))
    rw [w64 (by omega) (by omega), Int.toNat_natCast, rd_nat l j hlt]
    refine (ih (j + 1) (m.set j l[j]) (by rw [List.length_set]; exact hm) (by omega)).mono fun a ha => ?_
    rw [ha, List.take_succ_eq_append_getElem (by rw [List.length_set]; omega), List.getElem_set_self, List.take_set_of_le (by omega), List.append_assoc, List.drop_eq_getElem_cons hlt]
    rfl
theorem toIntS_ev (l : List Int) (hl : l.length ≤ 1000000000) : EvP (fun k => laws_toIntS.f k l) (· = l) := by
  unfold laws_toIntS.f
  refine EvP.yes (by omega) (EvP.yes (by omega) ?_)
  exact toIntS_l0 l hl l.length 0 _ (by rw [List.length_replicate]; omega) (by omega)
end Go.Proofs.Ytajifknepdikbaa.PA

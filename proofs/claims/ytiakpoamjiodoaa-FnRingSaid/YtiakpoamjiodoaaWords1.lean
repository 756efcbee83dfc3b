/- Words and lists of words: what the small functions of the program and of the reference come to. -/
import Derived.Test.YtiakpoamjiodoaaPAx1
import Derived.Test.YtiakpoamjiodoaaOps
namespace Go.Proofs.Ytiakpoamjiodoaa.PA
open Go.RowKit Go.Proofs.YtiakpoamjiodoaaW.PrintWords Go.Proofs.Ytiakpoamjiodoaa.Core
theorem l6In_eq (a b c : Int) : spec_l6In.f a b c = some (decide (b ≤ a) && decide (a ≤ c)) := by
  unfold spec_l6In.f
  by_cases h : a ≥ b
  · rw [if_pos h, decide_eq_true h, Bool.true_and]
  · rw [if_neg h, decide_eq_false h, Bool.false_and]
theorem spec_WordValid_eq (a : Int) : spec_WordValid.f a = some (vw a) := by
  unfold spec_WordValid.f
  rw [l6In_eq]
  rfl
theorem impl_WordValid_eq (a : Int) : impl_WordValid.f a = some (vw a) := by
  unfold impl_WordValid.f vw
  by_cases h : a ≥ -2147483648
  · rw [if_pos h, decide_eq_true h, Bool.true_and]
  · rw [if_neg h, decide_eq_false h, Bool.false_and]
theorem areWords_l0 (l : List Int) (hl : l.length ≤ 1000000000) : ∀ (d j : Nat), j + d = l.length → EvP (fun k => impl_areWords.l0 k l (l.length : Int) (j : Int)) (· = (l.drop j).all vw) := by
  intro d
  induction d with
  | zero =>
    intro j hj
    refine EvP.step (fun k => impl_areWords.l0.eq_2 (k := k) ..) (EvP.no (by omega) (EvP.ret ?_))
    rw [List.drop_eq_nil_of_le (by omega)]
    rfl
  | succ d ih =>
    intro j hj
    have hlt : j < l.length := by omega
    refine EvP.step (fun k => impl_areWords.l0.eq_2 (k := k) ..) (EvP.yes (by omega) (EvP.yes (by omega) (EvP.yes (by omega) ?_)))
    rw [impl_WordValid_eq, rd_nat l j hlt, List.drop_eq_getElem_cons hlt, List.all_cons]
    refine EvP.bind0 rfl (EvP.ite (fun h => ?_) (fun h => EvP.ret ?_))
    · rw [h, Bool.true_and, w64 (by omega) (by omega)]
      exact ih (j + 1) (by omega)
    · rw [Bool.eq_false_iff.mpr h, Bool.false_and]
theorem areWords_ev (l : List Int) (hl : l.length ≤ 1000000000) : EvP (fun k => impl_areWords.f k l) (· = l.all vw) := by
  unfold impl_areWords.f
  exact areWords_l0 l hl l.length 0 (by omega)
theorem l4Words_l0 (l : List Int) (hl : l.length ≤ 1000000000) : ∀ (d j : Nat), j + d = l.length → EvP (fun k => spec_l4Words.l0 k l (j : Int)) (· = (l.drop j).all vw) := by
  intro d
  induction d with
  | zero =>
    intro j hj
    refine EvP.step (fun k => spec_l4Words.l0.eq_2 (k := k) ..) (EvP.no (by omega) (EvP.ret ?_))
    rw [List.drop_eq_nil_of_le (by omega)]
    rfl
  | succ d ih =>
    intro j hj
    have hlt : j < l.length := by omega
    refine EvP.step (fun k => spec_l4Words.l0.eq_2 (k := k) ..) (EvP.yes (by omega) (EvP.yes (by omega) ?_))
    rw [spec_WordValid_eq, rd_nat l j hlt, List.drop_eq_getElem_cons hlt, List.all_cons]
    refine EvP.bind0 rfl (EvP.ite (fun h => ?_) (fun h => EvP.ret ?_))
    · rw [h, Bool.true_and, w64 (by omega) (by omega)]
      exact ih (j + 1) (by omega)
    · rw [Bool.eq_false_iff.mpr h, Bool.false_and]
theorem l4Words_ev (l : List Int) (n : Int) (hl : l.length ≤ 1000000000) : EvP (fun k => spec_l4Words.f k l n) (· = (decide ((l.length : Int) = n) && l.all vw)) := by
  unfold spec_l4Words.f
  refine EvP.ite (fun h => ?_) (fun h => EvP.ret ?_)
  · rw [decide_eq_true h, Bool.true_and]
    exact l4Words_l0 l hl l.length 0 (by omega)
  · rw [decide_eq_false h, Bool.false_and]
/-- What 'mark' leaves: counted on from k. -/
def marked : Nat → Int → List Int
  | 0, _ => []
  | n + 1, k => k :: marked n (k + 1)
theorem marked_length : ∀ n k, (marked n k).length = n
  | 0, _ => rfl
  | n + 1, k => by rw [marked, List.length_cons, marked_length n]
end Go.Proofs.Ytiakpoamjiodoaa.PA

/- FnEvalMinus returns true for every code: no condition. -/
import Derived.Test.YtajifknepdikbaaExprH
import Derived.Test.YtajifknepdikbaaPAx1
import Derived.Test.YtajifknepdikbaaPAx80
namespace Go.Proofs.Ytajifknepdikbaa.Pure
open Go.RowKit Go.Proofs.Ytajifknepdikbaa.PA Go.Proofs.YtajifknepdikbaaW.PrintWords Go.Proofs.YtajifknepdikbaaW.PrintLast Go.Proofs.YtajifknepdikbaaW.PrintMore Go.Proofs.Ytajifknepdikbaa.Core
theorem FnEvalMinus : laws_FnEvalMinus.Pure := by
  intro l _ hl hw
  refine EvP.ends (r := true) ?_
  unfold laws_FnEvalMinus.f
  refine EvP.ite (fun _ => EvP.ret rfl) (fun _ => ?_)
  refine EvP.bind (DrawExprEval_ev l (by omega) hw) fun r hr => ?_
  obtain ⟨op, n, a, vs⟩ := r
  dsimp only at hr ⊢
  cases hv : (vx 5 op n a && vars4 vs) with
  | false =>
    refine EvP.bindEq (impl_ExprEval_no (by omega) hv) (EvP.bindEq (spec_ExprEval_no (by omega) hv) (EvP.no (by simp) (EvP.yes rfl ?_)))
    exact EvP.step (fun k => laws_FnEvalMinus.j0.eq_2 (k := k) ..) (EvP.yes rfl (EvP.yes rfl (EvP.ret rfl)))
  | true =>
    rw [Bool.and_eq_true] at hv
    obtain ⟨x, hx, hd, rfl, rfl, rfl⟩ := vx_parts hv.1
    have hxw := X.eval_word (vars4_words hv.2) x hx
    have e1 : (X.bin 9 x x).depth = max x.depth x.depth + 1 := rfl
    have e2 : (X.bin 8 x (.num 0)).depth = max x.depth 1 + 1 := rfl
    have hx1 := X.one_le_depth x
    have o1 : (X.bin 9 x x).ok := ⟨by omega, hx, hx⟩
    have o2 : (X.bin 8 x (.num 0)).ok := ⟨by omega, hx, by simp [X.ok]⟩
    refine EvP.bindEq (impl_ExprEval_yes hv.2 x hx hd) (EvP.bindEq (spec_ExprEval_yes hv.2 x hx hd) (EvP.no (by simp) (EvP.yes rfl ?_)))
    refine EvP.step (fun k => laws_FnEvalMinus.j0.eq_2 (k := k) ..) (EvP.no (by simp) (EvP.bind0 rfl ?_))
    dsimp only
    by_cases h5 : x.depth = 5
    · have v1 : (vx 5 9 0 [⟨(emb x).f0, (emb x).f1, (emb x).f2⟩, ⟨(emb x).f0, (emb x).f1, (emb x).f2⟩] && vars4 vs) = false := by
        have v := vx_emb (X.bin 9 x x) 5 o1
        simp only [emb] at v
        rw [etaE, v, decide_eq_false (by omega)]
        rfl
      have v2 : (vx 5 8 0 [⟨(emb x).f0, (emb x).f1, (emb x).f2⟩, ⟨0, 0, []⟩] && vars4 vs) = false := by
        have v := vx_emb (X.bin 8 x (.num 0)) 5 o2
        simp only [emb] at v
        rw [etaE, v, decide_eq_false (by omega)]
        rfl
      refine EvP.bindEq (impl_ExprEval_no (by omega) v1) (EvP.bind0 rfl (EvP.bind0 rfl (EvP.bindEq (impl_ExprEval_no (by omega) v2) ?_)))
      refine EvP.bindEq (impl_ExprDepth_yes x hx hd) ?_
      rw [h5]
      exact EvP.yes rfl (EvP.yes rfl (EvP.yes rfl (EvP.ret rfl)))
    · have y1 := impl_ExprEval_yes hv.2 (X.bin 9 x x) o1 (by omega)
      have y2 := impl_ExprEval_yes hv.2 (X.bin 8 x (.num 0)) o2 (by omega)
      simp only [emb] at y1 y2
      rw [etaE]
      refine EvP.bindEq y1 (EvP.bind0 rfl (EvP.bind0 rfl ?_))
      dsimp only
      rw [etaE]
      refine EvP.bindEq y2 (EvP.bindEq (impl_ExprDepth_yes x hx hd) ?_)
      have hb : ((x.depth : Int) == 5) = false := by simpa using fun h => h5 (by omega)
      have z1 : ap 9 (x.eval (rd vs)) (x.eval (rd vs)) = 0 := by
        simp [ap, wrap32]
      have z2 : ap 8 (x.eval (rd vs)) 0 = x.eval (rd vs) := by
        simp [ap, w32_word hxw]
      rw [hb]
      refine EvP.yes rfl (EvP.yes rfl (EvP.no (by omega) (EvP.yes z1 (EvP.ret ?_))))
      simp only [X.eval]
      rw [z2]
      simp
end Go.Proofs.Ytajifknepdikbaa.Pure

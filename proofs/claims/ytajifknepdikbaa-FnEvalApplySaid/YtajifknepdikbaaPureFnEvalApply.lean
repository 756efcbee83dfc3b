/- FnEvalApply returns true for every code: no condition. -/
import Derived.Test.YtajifknepdikbaaExprH
import Derived.Test.YtajifknepdikbaaPAx1
import Derived.Test.YtajifknepdikbaaPAx76
namespace Go.Proofs.Ytajifknepdikbaa.Pure
open Go.RowKit Go.Proofs.Ytajifknepdikbaa.PA Go.Proofs.YtajifknepdikbaaW.PrintWords Go.Proofs.YtajifknepdikbaaW.PrintLast Go.Proofs.YtajifknepdikbaaW.PrintMore Go.Proofs.Ytajifknepdikbaa.Core
theorem FnEvalApply : laws_FnEvalApply.Pure := by
  intro l _ hl hw
  refine EvP.ends (r := true) ?_
  unfold laws_FnEvalApply.f
  refine EvP.ite (fun _ => EvP.ret rfl) (fun _ => ?_)
  refine EvP.bind (DrawExprEval_ev l (by omega) hw) fun r hr => ?_
  obtain ⟨op, n, a, vs⟩ := r
  dsimp only at hr ⊢
  cases hv : (vx 5 op n a && vars4 vs) with
  | false =>
    refine EvP.bindEq (impl_ExprEval_no (by omega) hv) (EvP.bindEq (spec_ExprEval_no (by omega) hv) (EvP.no (by simp) (EvP.yes rfl ?_)))
    exact EvP.step (fun k => laws_FnEvalApply.j0.eq_2 (k := k) ..) (EvP.yes rfl (EvP.yes rfl (EvP.ret rfl)))
  | true =>
    rw [Bool.and_eq_true] at hv
    obtain ⟨x, hx, hd, rfl, rfl, rfl⟩ := vx_parts hv.1
    have hw4 := vars4_words hv.2
    refine EvP.bindEq (impl_ExprEval_yes hv.2 x hx hd) (EvP.bindEq (spec_ExprEval_yes hv.2 x hx hd) (EvP.no (by simp) (EvP.yes rfl ?_)))
    refine EvP.step (fun k => laws_FnEvalApply.j0.eq_2 (k := k) ..) (EvP.no (by simp) ?_)
    cases x with
    | num n => exact EvP.yes rfl (EvP.bindEq (impl_ExprDepth_yes _ hx hd) (EvP.ret (by simp [X.depth])))
    | var v => exact EvP.yes rfl (EvP.bindEq (impl_ExprDepth_yes _ hx hd) (EvP.ret (by simp [X.depth])))
    | bin op a b =>
      have e : (X.bin op a b).depth = max a.depth b.depth + 1 := rfl
      have ho := hx.1
      refine EvP.no (by simp [emb]) (EvP.yes (by simp [emb]) ?_)
      refine EvP.bindEq (impl_ExprEval_yes hv.2 a hx.2.1 (by omega)) (EvP.yes (by simp [emb]) ?_)
      refine EvP.bindEq (impl_ExprEval_yes hv.2 b hx.2.2 (by omega)) ?_
      have ha := X.eval_word hw4 a hx.2.1
      have hb := X.eval_word hw4 b hx.2.2
      have hA : impl_Apply.f op (a.eval (rd vs)) (b.eval (rd vs)) = some (ap op (a.eval (rd vs)) (b.eval (rd vs)), true) := by
        unfold impl_Apply.f
        rw [impl_OpValid_eq, decide_eq_true ho.1, decide_eq_true ho.2, impl_WordValid_eq, ha, impl_WordValid_eq, hb, impl_apply_eq]
        rfl
      exact EvP.bind0 hA (EvP.yes rfl (EvP.yes rfl (EvP.yes rfl (EvP.ret (by simp [X.eval])))))
end Go.Proofs.Ytajifknepdikbaa.Pure

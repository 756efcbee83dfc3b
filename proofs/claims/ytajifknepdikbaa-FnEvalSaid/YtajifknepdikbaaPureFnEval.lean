/- FnEval returns true for every code: no condition. -/
import Derived.Test.YtajifknepdikbaaExprH
import Derived.Test.YtajifknepdikbaaPAx1
import Derived.Test.YtajifknepdikbaaPAx65
namespace Go.Proofs.Ytajifknepdikbaa.Pure
open Go.RowKit Go.Proofs.Ytajifknepdikbaa.PA Go.Proofs.YtajifknepdikbaaW.PrintWords Go.Proofs.YtajifknepdikbaaW.PrintLast Go.Proofs.YtajifknepdikbaaW.PrintMore Go.Proofs.Ytajifknepdikbaa.Core
theorem FnEval : laws_FnEval.Pure := by
  intro l _ hl hw
  refine EvP.ends (r := true) ?_
  unfold laws_FnEval.f
  refine EvP.ite (fun _ => EvP.ret rfl) (fun _ => ?_)
  refine EvP.bind (DrawExprEval_ev l (by omega) hw) fun r hr => ?_
  obtain ⟨op, n, a, vs⟩ := r
  dsimp only at hr ⊢
  cases hv : (vx 5 op n a && vars4 vs) with
  | false =>
    refine EvP.bindEq (impl_ExprEval_no (by omega) hv) (EvP.bindEq (spec_ExprEval_no (by omega) hv) (EvP.no (by simp) (EvP.yes rfl ?_)))
    exact EvP.step (fun k => laws_FnEval.j0.eq_2 (k := k) ..) (EvP.yes rfl (EvP.yes rfl (EvP.ret rfl)))
  | true =>
    rw [Bool.and_eq_true] at hv
    obtain ⟨x, hx, hd, rfl, rfl, rfl⟩ := vx_parts hv.1
    have hw4 := vars4_words hv.2
    have h4 := (vars4_iff.1 hv.2).1
    refine EvP.bindEq (impl_ExprEval_yes hv.2 x hx hd) (EvP.bindEq (spec_ExprEval_yes hv.2 x hx hd) (EvP.no (by simp) (EvP.yes rfl ?_)))
    refine EvP.step (fun k => laws_FnEval.j0.eq_2 (k := k) ..) (EvP.no (by simp) ?_)
    cases x with
    | num n => exact EvP.yes rfl (EvP.ret (by simp [X.eval, emb]))
    | var v =>
      have hv' := hx
      refine EvP.no (by simp [emb]) (EvP.yes rfl (EvP.yes hx.1 (EvP.yes (by have := hx.2; simp only [emb]; omega) (EvP.ret (by simp [X.eval, emb])))))
    | bin op a b =>
      have ho := hx.1
      refine EvP.no (by simp only [emb]; omega) (EvP.no (by simp only [emb]; omega) (EvP.bind0 (impl_WordValid_eq _) (EvP.ret ?_)))
      exact X.eval_word hw4 _ hx
end Go.Proofs.Ytajifknepdikbaa.Pure

/- FnFoldEval returns true for every code: no condition. -/
import Derived.Test.YtajifknepdikbaaExprH
import Derived.Test.YtajifknepdikbaaPAx1
import Derived.Test.YtajifknepdikbaaPAx35
namespace Go.Proofs.Ytajifknepdikbaa.Pure
open Go.RowKit Go.Proofs.Ytajifknepdikbaa.PA Go.Proofs.YtajifknepdikbaaW.PrintWords Go.Proofs.YtajifknepdikbaaW.PrintLast Go.Proofs.YtajifknepdikbaaW.PrintMore Go.Proofs.Ytajifknepdikbaa.Core
theorem FnFoldEval : laws_FnFoldEval.Pure := by
  intro l l1 _ hl hw _ hl1 hw1
  refine EvP.ends (r := true) ?_
  unfold laws_FnFoldEval.f
  have key : ∀ b, EvP (fun k => laws_FnFoldEval.j0 k l l1 b) (· = true) := by
    intro b
    refine EvP.step (fun k => laws_FnFoldEval.j0.eq_2 (k := k) ..) (EvP.ite (fun _ => EvP.ret rfl) (fun _ => ?_))
    refine EvP.bind (DrawExprFold_ev l (by omega) hw) fun r hr => ?_
    obtain ⟨op, n, a⟩ := r
    dsimp only at hr ⊢
    cases hv : vx 5 op n a with
    | false =>
      refine EvP.bindEq (impl_ExprFold_no hv) (EvP.bindEq (spec_ExprFold_no hv) (EvP.no (by simp) (EvP.bindEq (sameExpr_0 _ _) (EvP.yes rfl ?_))))
      exact EvP.step (fun k => laws_FnFoldEval.j1.eq_2 (k := k) ..) (EvP.yes rfl (EvP.yes rfl (EvP.bindEq (sameExpr_0 _ _) (EvP.ret rfl))))
    | true =>
      obtain ⟨x, hx, hd, rfl, rfl, rfl⟩ := vx_parts hv
      have hfo := X.fold_ok x hx
      have hfd := X.fold_depth x
      refine EvP.bindEq (impl_ExprFold_yes x hx hd) (EvP.bindEq (spec_ExprFold_yes x hx hd) (EvP.no (by simp) (EvP.bindEq (sameExpr_ev _) (EvP.yes rfl ?_))))
      refine EvP.step (fun k => laws_FnFoldEval.j1.eq_2 (k := k) ..) (EvP.no (by simp) ?_)
      refine EvP.bind (DrawExprEval_ev l1 (by omega) hw1) fun r hr => ?_
      obtain ⟨_, _, _, vs⟩ := r
      dsimp only at hr ⊢
      cases hv4 : vars4 vs with
      | true =>
        refine EvP.bindEq (impl_ExprEval_yes hv4 x hx hd) (EvP.bindEq (impl_ExprEval_yes hv4 x.fold hfo (by omega)) (EvP.yes rfl (EvP.ret ?_)))
        rw [X.fold_eval]
        simp
      | false =>
        exact EvP.bindEq (impl_ExprEval_no (by omega) (by rw [hv4, Bool.and_false])) (EvP.bindEq (impl_ExprEval_no (by omega) (by rw [hv4, Bool.and_false])) (EvP.yes rfl (EvP.ret rfl)))
  exact EvP.ite (fun _ => key _) (fun _ => key _)
end Go.Proofs.Ytajifknepdikbaa.Pure

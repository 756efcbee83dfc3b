/- FnFoldSmaller returns true for every code: no condition. -/
import Derived.Test.YtajifknepdikbaaExprH
import Derived.Test.YtajifknepdikbaaPAx1
import Derived.Test.YtajifknepdikbaaPAx28
namespace Go.Proofs.Ytajifknepdikbaa.Pure
open Go.RowKit Go.Proofs.Ytajifknepdikbaa.PA Go.Proofs.YtajifknepdikbaaW.PrintWords Go.Proofs.YtajifknepdikbaaW.PrintLast Go.Proofs.YtajifknepdikbaaW.PrintMore Go.Proofs.Ytajifknepdikbaa.Core
theorem FnFoldSmaller : laws_FnFoldSmaller.Pure := by
  intro l _ hl hw
  refine EvP.ends (r := true) ?_
  unfold laws_FnFoldSmaller.f
  refine EvP.ite (fun _ => EvP.ret rfl) (fun _ => ?_)
  refine EvP.bind (DrawExprFold_ev l (by omega) hw) fun r hr => ?_
  obtain ⟨op, n, a⟩ := r
  dsimp only at hr ⊢
  cases hv : vx 5 op n a with
  | false =>
    refine EvP.bindEq (impl_ExprFold_no hv) (EvP.bindEq (spec_ExprFold_no hv) (EvP.no (by simp) (EvP.bindEq (sameExpr_0 _ _) (EvP.yes rfl ?_))))
    exact EvP.step (fun k => laws_FnFoldSmaller.j0.eq_2 (k := k) ..) (EvP.yes rfl (EvP.yes rfl (EvP.bindEq (sameExpr_0 _ _) (EvP.ret rfl))))
  | true =>
    obtain ⟨x, hx, hd, rfl, rfl, rfl⟩ := vx_parts hv
    have hfo := X.fold_ok x hx
    have hfd := X.fold_depth x
    have hfs := X.fold_size x
    have h1 := X.one_le_size x.fold
    refine EvP.bindEq (impl_ExprFold_yes x hx hd) (EvP.bindEq (spec_ExprFold_yes x hx hd) (EvP.no (by simp) (EvP.bindEq (sameExpr_ev _) (EvP.yes rfl ?_))))
    refine EvP.step (fun k => laws_FnFoldSmaller.j0.eq_2 (k := k) ..) (EvP.no (by simp) ?_)
    have loop : ∀ (d j : Nat), j + d = 4 → EvP (fun k => laws_FnFoldSmaller.l0 k (j : Int) (emb x).f0 (emb x).f1 (emb x).f2 (emb x.fold).f0 (emb x.fold).f1 (emb x.fold).f2) (· = true) := by
      intro d
      induction d with
      | zero =>
        intro j hj
        refine EvP.step (fun k => laws_FnFoldSmaller.l0.eq_2 (k := k) ..) (EvP.no (by omega) ?_)
        refine EvP.bindEq (impl_ExprSize_yes _ hfo (by omega)) (EvP.yes (by omega) ?_)
        refine EvP.bindEq (impl_ExprSize_yes _ hfo (by omega)) (EvP.bindEq (impl_ExprSize_yes _ hx hd) (EvP.yes (by omega) ?_))
        exact EvP.bindEq (impl_ExprDepth_yes _ hfo (by omega)) (EvP.bindEq (impl_ExprDepth_yes _ hx hd) (EvP.ret (decide_eq_true (by omega))))
      | succ d ih =>
        intro j hj
        refine EvP.step (fun k => laws_FnFoldSmaller.l0.eq_2 (k := k) ..) (EvP.yes (by omega) ?_)
        rw [w64 (by omega) (by omega)]
        refine EvP.bindEq (impl_ExprUses_yes _ _ hfo (by omega)) (EvP.ite (fun hu => ?_) (fun _ => ih (j + 1) (by omega)))
        exact EvP.bindEq (impl_ExprUses_yes _ _ hx hd) (EvP.yes (fold_uses _ x hu) (ih (j + 1) (by omega)))
    exact loop 4 0 rfl
end Go.Proofs.Ytajifknepdikbaa.Pure

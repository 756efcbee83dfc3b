/- FnEvalSwap returns true for every code: no condition. -/
import Derived.Test.YtajifknepdikbaaExprH
import Derived.Test.YtajifknepdikbaaPAx0
import Derived.Test.YtajifknepdikbaaPAx1
import Derived.Test.YtajifknepdikbaaPAx66
namespace Go.Proofs.Ytajifknepdikbaa.Pure
open Go.RowKit Go.Proofs.Ytajifknepdikbaa.PA Go.Proofs.YtajifknepdikbaaW.PrintWords Go.Proofs.YtajifknepdikbaaW.PrintLast Go.Proofs.YtajifknepdikbaaW.PrintMore Go.Proofs.Ytajifknepdikbaa.Core
theorem FnEvalSwap : laws_FnEvalSwap.Pure := by
  intro l _ hl hw
  refine EvP.ends (r := true) ?_
  unfold laws_FnEvalSwap.f
  refine EvP.ite (fun _ => EvP.ret rfl) (fun _ => ?_)
  refine EvP.bind (DrawExprEval_ev l (by omega) hw) fun r hr => ?_
  obtain ⟨op, n, a, vs⟩ := r
  dsimp only at hr ⊢
  cases hv : (vx 5 op n a && vars4 vs) with
  | false =>
    refine EvP.bindEq (impl_ExprEval_no (by omega) hv) (EvP.bindEq (spec_ExprEval_no (by omega) hv) (EvP.no (by simp) (EvP.yes rfl ?_)))
    exact EvP.step (fun k => laws_FnEvalSwap.j0.eq_2 (k := k) ..) (EvP.yes rfl (EvP.yes rfl (EvP.ret rfl)))
  | true =>
    rw [Bool.and_eq_true] at hv
    obtain ⟨x, hx, hd, rfl, rfl, rfl⟩ := vx_parts hv.1
    refine EvP.bindEq (impl_ExprEval_yes hv.2 x hx hd) (EvP.bindEq (spec_ExprEval_yes hv.2 x hx hd) (EvP.no (by simp) (EvP.yes rfl ?_)))
    refine EvP.step (fun k => laws_FnEvalSwap.j0.eq_2 (k := k) ..) (EvP.no (by simp) ?_)
    have no : ∀ (a0 a1 : Int) (a2 : List S25) (y : Int), EvP (fun k => laws_FnEvalSwap.j1 k vs y false a0 a1 a2) (· = true) := fun a0 a1 a2 y =>
      EvP.step (fun k => laws_FnEvalSwap.j1.eq_2 (k := k) ..) (EvP.no (by simp) (EvP.ret rfl))
    have yes : ∀ (b : Bool), (b = true → (1 ≤ (emb x).f0 ∧ (emb x).f0 ≤ 4 ∨ (emb x).f0 = 8 ∨ (emb x).f0 = 10)) → EvP (fun k => laws_FnEvalSwap.j1 k vs (x.eval (rd vs)) b (emb x).f0 (emb x).f1 (emb x).f2) (· = true) := by
      intro b hb
      cases b with
      | false => exact no _ _ _ _
      | true =>
        have hb := hb rfl
        cases x with
        | num n => simp [emb] at hb
        | var v => simp [emb] at hb
        | bin op a b =>
          have e : (X.bin op a b).depth = max a.depth b.depth + 1 := rfl
          have e2 : (X.bin op b a).depth = max b.depth a.depth + 1 := rfl
          have hb : 1 ≤ op ∧ op ≤ 4 ∨ op = 8 ∨ op = 10 := hb
          refine EvP.step (fun k => laws_FnEvalSwap.j1.eq_2 (k := k) ..) (EvP.yes rfl (EvP.yes (by simp [emb]) (EvP.yes (by simp [emb]) ?_)))
          refine EvP.bind0 rfl ?_
          have h := impl_ExprEval_yes hv.2 (X.bin op b a) ⟨hx.1, hx.2.2, hx.2.1⟩ (by omega)
          simp only [emb, rdE_0, rdE_1, etaE] at h ⊢
          refine EvP.bindEq h (EvP.yes rfl (EvP.ret ?_))
          simp only [X.eval, beq_iff_eq]
          exact ap_swap _ _ hb
    refine EvP.ite (fun h1 => EvP.ite (fun h2 => yes true fun _ => .inl ⟨h1, h2⟩) (fun h2 => EvP.ite (fun h3 => yes true fun _ => .inr (.inl h3)) (fun h3 => yes _ fun h => .inr (.inr (by simpa using h))))) (fun h1 => EvP.ite (fun h3 => yes true fun _ => .inr (.inl h3)) (fun h3 => yes _ fun h => .inr (.inr (by simpa using h))))
end Go.Proofs.Ytajifknepdikbaa.Pure

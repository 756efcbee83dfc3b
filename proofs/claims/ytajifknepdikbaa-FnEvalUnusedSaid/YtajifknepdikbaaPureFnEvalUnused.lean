/- FnEvalUnused returns true for every code: no condition. -/
import Derived.Test.YtajifknepdikbaaExprH
import Derived.Test.YtajifknepdikbaaPAx1
import Derived.Test.YtajifknepdikbaaPAx72
namespace Go.Proofs.Ytajifknepdikbaa.Pure
open Go.RowKit Go.Proofs.Ytajifknepdikbaa.PA Go.Proofs.YtajifknepdikbaaW.PrintWords Go.Proofs.YtajifknepdikbaaW.PrintLast Go.Proofs.YtajifknepdikbaaW.PrintMore Go.Proofs.Ytajifknepdikbaa.Core
theorem FnEvalUnused : laws_FnEvalUnused.Pure := by
  intro l l1 _ hl hw _ hl1 _
  refine EvP.ends (r := true) ?_
  unfold laws_FnEvalUnused.f
  have key : ∀ b, EvP (fun k => laws_FnEvalUnused.j0 k l l1 b) (· = true) := by
    intro b
    refine EvP.step (fun k => laws_FnEvalUnused.j0.eq_2 (k := k) ..) (EvP.ite (fun _ => EvP.ret rfl) (fun _ => ?_))
    refine EvP.bind (DrawExprEval_ev l (by omega) hw) fun r hr => ?_
    obtain ⟨op, n, a, vs⟩ := r
    dsimp only at hr ⊢
    cases hv : (vx 5 op n a && vars4 vs) with
    | false =>
      refine EvP.bindEq (impl_ExprEval_no (by omega) hv) (EvP.bindEq (spec_ExprEval_no (by omega) hv) (EvP.no (by simp) (EvP.yes rfl ?_)))
      exact EvP.step (fun k => laws_FnEvalUnused.j1.eq_2 (k := k) ..) (EvP.yes rfl (EvP.yes rfl (EvP.ret rfl)))
    | true =>
      rw [Bool.and_eq_true] at hv
      obtain ⟨x, hx, hd, rfl, rfl, rfl⟩ := vx_parts hv.1
      obtain ⟨h4, ha⟩ := vars4_iff.1 hv.2
      refine EvP.bindEq (impl_ExprEval_yes hv.2 x hx hd) (EvP.bindEq (spec_ExprEval_yes hv.2 x hx hd) (EvP.no (by simp) (EvP.yes rfl ?_)))
      have hm0 : 0 ≤ (l1.length : Int) % 4 := Int.emod_nonneg _ (by omega)
      have hm1 : (l1.length : Int) % 4 < 4 := Int.emod_lt_of_pos _ (by omega)
      refine EvP.step (fun k => laws_FnEvalUnused.j1.eq_2 (k := k) ..) (EvP.no (by simp) (EvP.bind0 rfl (EvP.yes (by simp; omega) (EvP.bind0 rfl (EvP.yes hm0 ?_)))))
      rw [List.nil_append]
      refine EvP.yes (by omega) (EvP.bind0 (impl_Wrap_eq _) ?_)
      generalize wrap64 (wrap64 (rd vs ((l1.length : Int) % 4) + 1) + (l1.length : Int)) = z
      generalize (l1.length : Int) % 4 = u at hm0 hm1 ⊢
      have hv2 : vars4 (vs.set u.toNat (wrap32 z)) = true := vars4_iff.2 ⟨by rw [List.length_set]; exact h4, List.all_eq_true.2 fun y hy => by
        rcases List.mem_or_eq_of_mem_set hy with h | rfl
        · exact List.all_eq_true.1 ha y h
        · exact w32_vw z⟩
      refine EvP.bindEq (impl_ExprEval_yes hv2 x hx hd) (EvP.yes rfl (EvP.bindEq (impl_ExprUses_yes u x hx hd) (EvP.ite (fun _ => EvP.ret rfl) (fun hu => EvP.ret ?_))))
      have hu : x.uses u = false := Bool.eq_false_iff.mpr hu
      have he : x.eval (rd (vs.set u.toNat (wrap32 z))) = x.eval (rd vs) := X.eval_other' (u := u) (fun v h0 h4' hne => by
        unfold rd
        rw [List.getD_eq_getElem?_getD, List.getD_eq_getElem?_getD, List.getElem?_set_ne (by omega)]) x hx hu
      rw [he]
      simp
  exact EvP.ite (fun _ => key _) (fun _ => key _)
end Go.Proofs.Ytajifknepdikbaa.Pure

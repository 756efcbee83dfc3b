/- FnExprDeeper returns true for every code: no condition. -/
import Derived.Test.YtajifknepdikbaaExprH
import Derived.Test.YtajifknepdikbaaPAx1
import Derived.Test.YtajifknepdikbaaPAx23
namespace Go.Proofs.Ytajifknepdikbaa.Pure
open Go.RowKit Go.Proofs.Ytajifknepdikbaa.PA Go.Proofs.YtajifknepdikbaaW.PrintWords Go.Proofs.YtajifknepdikbaaW.PrintLast Go.Proofs.YtajifknepdikbaaW.PrintMore Go.Proofs.Ytajifknepdikbaa.Core
theorem FnExprDeeper : laws_FnExprDeeper.Pure := by
  intro l _ hl hw
  refine EvP.ends (r := true) ?_
  unfold laws_FnExprDeeper.f
  refine EvP.ite (fun _ => EvP.ret rfl) (fun _ => ?_)
  refine EvP.bind (DrawExprValid_ev l (by omega) hw) fun r hr => ?_
  obtain ⟨op, n, a⟩ := r
  dsimp only at hr ⊢
  refine EvP.bindEq (impl_ExprValid_ev _ _ _) (EvP.bindEq (spec_ExprValid_ev _ _ _) (EvP.no (by simp) ?_))
  cases hv : vx 5 op n a with
  | false => exact EvP.step (fun k => laws_FnExprDeeper.j0.eq_2 (k := k) ..) (EvP.yes rfl (EvP.ret rfl))
  | true =>
    obtain ⟨x, hx, hd, rfl, rfl, rfl⟩ := vx_parts hv
    have e1 : (X.bin 6 x (.num 3)).depth = max x.depth 1 + 1 := rfl
    have e2 : (X.bin 12 (.num 99999) x).depth = max 1 x.depth + 1 := rfl
    have hx1 := X.one_le_depth x
    refine EvP.step (fun k => laws_FnExprDeeper.j0.eq_2 (k := k) ..) (EvP.no (by simp) ?_)
    refine EvP.bindEq (impl_ExprDepth_yes x hx hd) (EvP.bind0 rfl (EvP.bind0 rfl (EvP.bindEq (impl_ExprValid_ev _ _ _) ?_)))
    have v1 := vx_emb (X.bin 6 x (.num 3)) 5 ⟨by omega, hx, by simp [X.ok]⟩
    simp only [emb] at v1
    rw [etaE, v1]
    refine EvP.yes (by rw [beq_iff_eq]; exact decide_eq_decide.mpr (by omega)) (EvP.bind0 rfl (EvP.bind0 rfl (EvP.bindEq (impl_ExprValid_ev _ _ _) ?_)))
    have v2 := vx_emb (X.bin 12 (.num 99999) x) 5 ⟨by omega, by simp [X.ok], hx⟩
    simp only [emb] at v2
    rw [etaE, v2]
    refine EvP.yes (by rw [beq_iff_eq]; exact decide_eq_decide.mpr (by omega)) (EvP.bind0 rfl (EvP.bind0 rfl (EvP.bindEq (impl_ExprValid_ev _ _ _) (EvP.ret ?_))))
    have v3 : vx 5 8 0 [⟨(emb x).f0, (emb x).f1, (emb x).f2⟩, ⟨0, 100000, []⟩] = false := by
      simp [vx]
    rw [v3]
    rfl
end Go.Proofs.Ytajifknepdikbaa.Pure

/- Expressions: values, depths, sizes, simplifying, on valid expressions as trees. -/
import Derived.Test.YtajifknepdikbaaPAx0
import Derived.Test.YtajifknepdikbaaPAx1
import Derived.Test.YtajifknepdikbaaExprE
namespace Go.Proofs.Ytajifknepdikbaa.PA
open Go.RowKit Go.Proofs.YtajifknepdikbaaW.PrintWords Go.Proofs.YtajifknepdikbaaW.PrintMore Go.Proofs.Ytajifknepdikbaa.Core
def tri (e : S25) : Int × Int × List S25 := (e.f0, e.f1, e.f2)
theorem impl_Wrap_eq (a : Int) : impl_Wrap.f a = some (wrap32 a) := by
  unfold impl_Wrap.f
  rw [w64_w32]
theorem spec_Wrap_eq (a : Int) : spec_Wrap.f a = some (wrap32 a) := by
  have ht : Int.tmod a 4294967296 = a % 4294967296 ∨ (a < 0 ∧ Int.tmod a 4294967296 = -((-a) % 4294967296)) := by
    rcases Int.le_total 0 a with h | h
    · exact .inl (Int.tmod_eq_emod_of_nonneg h)
    · by_cases h0 : a = 0
      · subst h0
        exact .inl rfl
      · refine .inr ⟨by omega, ?_⟩
        rw [← Int.tmod_eq_emod_of_nonneg (show 0 ≤ -a by omega), Int.neg_tmod, Int.neg_neg]
  unfold spec_Wrap.f
  generalize Int.tmod a 4294967296 = m at ht ⊢
  unfold wrap32
  by_cases h1 : m > 2147483647
  · rw [if_pos h1, w64 (by omega) (by omega)]
    congr 1
    omega
  · by_cases h2 : m < -2147483648
    · rw [if_neg h1, if_pos h2, w64 (by omega) (by omega)]
      congr 1
      omega
    · rw [if_neg h1, if_neg h2]
      congr 1
      omega
theorem impl_truth_eq (b : Bool) : impl_truth.f b = some (if b = true then 1 else 0) := by
  unfold impl_truth.f
  cases b <;> rfl
theorem spec_l2Flag_eq (b : Bool) : spec_l2Flag.f b = some (if b = true then 1 else 0) := by
  unfold spec_l2Flag.f
  cases b <;> rfl
theorem impl_apply_eq (op a b : Int) : impl_apply.f op a b = some (ap op a b) := by
  unfold impl_apply.f ap
  have hs := and31 b
  by_cases h1 : op = 1
  · rw [if_pos h1, if_pos h1]
  rw [if_neg h1, if_neg h1]
  by_cases h2 : op = 2
  · rw [if_pos h2, if_pos h2]
  rw [if_neg h2, if_neg h2]
  by_cases h3 : op = 3
  · rw [if_pos h3, if_pos h3]
  rw [if_neg h3, if_neg h3]
  by_cases h4 : op = 4
  · rw [if_pos h4, if_pos h4, impl_truth_eq]
    simp
  rw [if_neg h4, if_neg h4]
  by_cases h5 : op = 5
  · rw [if_pos h5, if_pos h5, impl_truth_eq]
    simp
  rw [if_neg h5, if_neg h5]
  by_cases h6 : op = 6
  · rw [if_pos h6, if_pos h6, if_pos hs.1, impl_Wrap_eq, Option.bind_some]
  rw [if_neg h6, if_neg h6]
  by_cases h7 : op = 7
  · rw [if_pos h7, if_pos h7, if_pos hs.1]
  rw [if_neg h7, if_neg h7]
  by_cases h8 : op = 8
  · rw [if_pos h8, if_pos h8, impl_Wrap_eq, Option.bind_some, w32_w64]
  rw [if_neg h8, if_neg h8]
  by_cases h9 : op = 9
  · rw [if_pos h9, if_pos h9, impl_Wrap_eq, Option.bind_some, w32_w64]
  rw [if_neg h9, if_neg h9]
  by_cases h10 : op = 10
  · rw [if_pos h10, if_pos h10, impl_Wrap_eq, Option.bind_some, w32_w64]
  rw [if_neg h10, if_neg h10]
  by_cases h11 : op = 11
  · rw [if_pos h11, if_pos h11]
    by_cases hb : b = 0
    · rw [if_pos hb, if_pos hb]
    · rw [if_neg hb, if_neg hb, impl_Wrap_eq, Option.bind_some, w32_w64]
  rw [if_neg h11, if_neg h11]
  by_cases hb : b = 0
  · rw [if_pos hb, if_pos hb]
  · rw [if_neg hb, if_neg hb]
theorem spec_Apply_ev (op a b : Int) (ho : 1 ≤ op ∧ op ≤ 12) (ha : vw a = true) (hb : vw b = true) : EvP (fun k => spec_Apply.f k op a b) (· = (ap op a b, true)) := by
  have hs := and31 b
  unfold spec_Apply.f ap
  refine EvP.bind0 (spec_OpValid_eq op) (EvP.yes (by simp; exact ho) (EvP.bind0 (spec_WordValid_eq a) (EvP.yes ha (EvP.bind0 (spec_WordValid_eq b) ?_))))
  rw [hb]
  refine EvP.step (fun k => spec_Apply.j0.eq_2 (k := k) ..) (EvP.no (by simp) ?_)
  refine EvP.ite (fun h => EvP.ret (by rw [if_pos h])) (fun h => ?_)
  rw [if_neg h]
  refine EvP.ite (fun h => EvP.ret (by rw [if_pos h])) (fun h => ?_)
  rw [if_neg h]
  refine EvP.ite (fun h => EvP.ret (by rw [if_pos h])) (fun h => ?_)
  rw [if_neg h]
  refine EvP.ite (fun h => EvP.bind0 (spec_l2Flag_eq _) (EvP.ret (by rw [if_pos h]; simp))) (fun h => ?_)
  rw [if_neg h]
  refine EvP.ite (fun h => EvP.bind0 (spec_l2Flag_eq _) (EvP.ret (by rw [if_pos h]; simp))) (fun h => ?_)
  rw [if_neg h]
  refine EvP.ite (fun h => ?_) (fun h => ?_)
  · rw [if_pos h]
    unfold spec_l2Shift.f
    rw [if_neg (by simp), if_pos hs.1, spec_Wrap_eq, Option.bind_some]
    exact EvP.bind0 rfl (EvP.ret rfl)
  rw [if_neg h]
  refine EvP.ite (fun h => ?_) (fun h => ?_)
  · rw [if_pos h]
    unfold spec_l2Shift.f
    rw [if_pos rfl, if_pos hs.1]
    exact EvP.bind0 rfl (EvP.ret rfl)
  rw [if_neg h]
  refine EvP.ite (fun h => EvP.bind0 (spec_Wrap_eq _) (EvP.ret (by rw [if_pos h, w32_w64]))) (fun h => ?_)
  rw [if_neg h]
  refine EvP.ite (fun h => EvP.bind0 (spec_Wrap_eq _) (EvP.ret (by rw [if_pos h, w32_w64]))) (fun h => ?_)
  rw [if_neg h]
  refine EvP.ite (fun h => EvP.bind0 (spec_Wrap_eq _) (EvP.ret (by rw [if_pos h, w32_w64]))) (fun h => ?_)
  rw [if_neg h]
  refine EvP.ite (fun h => ?_) (fun h => ?_)
  · rw [if_pos h]
    unfold spec_l2Divide.f
    by_cases hz : b = 0
    · rw [if_pos hz, if_pos hz]
      exact EvP.bind0 rfl (EvP.ret rfl)
    · rw [if_neg hz, if_neg hz, spec_Wrap_eq, Option.bind_some, w32_w64]
      exact EvP.bind0 rfl (EvP.ret rfl)
  rw [if_neg h]
  unfold spec_l2Remain.f
  by_cases hz : b = 0
  · rw [if_pos hz, if_pos hz]
    exact EvP.bind0 rfl (EvP.ret rfl)
  · rw [if_neg hz, if_neg hz]
    exact EvP.bind0 rfl (EvP.ret rfl)
theorem impl_exprEval_ev (vs : List Int) (hv : vs.length = 4) : ∀ x : X, x.ok → EvP (fun k => impl_exprEval.f k (emb x).f0 (emb x).f1 (emb x).f2 vs) (· = x.eval (rd vs))
  | .num n, h => EvP.step (fun k => impl_exprEval.f.eq_2 (k := k) ..) (EvP.yes rfl (EvP.ret rfl))
  | .var v, h => EvP.step (fun k => impl_exprEval.f.eq_2 (k := k) ..) (EvP.no (by simp [emb]) (EvP.yes rfl (EvP.yes h.1 (EvP.yes (by have := h.2; simp only [emb]; omega) (EvP.ret rfl)))))
  | .bin op a b, h => by
    have ho := h.1
    refine EvP.step (fun k => impl_exprEval.f.eq_2 (k := k) ..) (EvP.no (by simp only [emb]; omega) (EvP.no (by simp only [emb]; omega) (EvP.yes (by simp [emb]) ?_)))
    refine EvP.bindEq (impl_exprEval_ev vs hv a h.2.1) (EvP.yes (by simp [emb]) (EvP.bindEq (impl_exprEval_ev vs hv b h.2.2) ?_))
    exact EvP.of (impl_apply_eq _ _ _) rfl
/-- Are these the values of the variables? -/
def vars4 (vs : List Int) : Bool := decide (vs.length = 4) && vs.all vw
theorem vars4_iff {vs : List Int} : vars4 vs = true ↔ vs.length = 4 ∧ vs.all vw = true := by
  unfold vars4
  simp only [Bool.and_eq_true, decide_eq_true_eq]
theorem vars4_words {vs : List Int} (h : vars4 vs = true) : ∀ v, 0 ≤ v → v < 4 → vw (rd vs v) = true := by
  intro v h0 h4
  obtain ⟨h1, h2⟩ := vars4_iff.1 h
  exact List.all_eq_true.1 h2 _ (rd_mem vs v h0 (by omega))
theorem impl_ExprEval_yes {vs : List Int} (hv : vars4 vs = true) (x : X) (hx : x.ok) (hd : x.depth ≤ 5) : EvP (fun k => impl_ExprEval.f k (emb x).f0 (emb x).f1 (emb x).f2 vs) (· = (x.eval (rd vs), true)) := by
  obtain ⟨h1, h2⟩ := vars4_iff.1 hv
  unfold impl_ExprEval.f
  refine EvP.bindEq (impl_ExprValid_ev _ _ _) (EvP.yes (by rw [vx_emb x 5 hx]; exact decide_eq_true hd) (EvP.yes (by omega) (EvP.bindEq (areWords_ev vs (by omega)) (EvP.yes h2 ?_))))
  exact EvP.bindEq (impl_exprEval_ev vs h1 x hx) (EvP.ret rfl)
theorem impl_ExprEval_no {op n : Int} {l : List S25} {vs : List Int} (hl : vs.length ≤ 1000000000) (h : (vx 5 op n l && vars4 vs) = false) : EvP (fun k => impl_ExprEval.f k op n l vs) (· = (0, false)) := by
  unfold impl_ExprEval.f
  refine EvP.bindEq (impl_ExprValid_ev _ _ _) (EvP.ite (fun h1 => EvP.ite (fun h2 => EvP.bindEq (areWords_ev vs hl) (EvP.ite (fun h3 => ?_) (fun _ => EvP.ret rfl))) (fun _ => EvP.ret rfl)) (fun _ => EvP.ret rfl))
  have : vars4 vs = true := vars4_iff.2 ⟨by omega, h3⟩
  rw [h1, this] at h
  cases h
end Go.Proofs.Ytajifknepdikbaa.PA

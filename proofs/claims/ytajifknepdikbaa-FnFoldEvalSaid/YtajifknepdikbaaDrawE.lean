/- What is drawn: expressions, the values of variables. -/
import Derived.Test.YtajifknepdikbaaPAx1
import Derived.Test.YtajifknepdikbaaDraw1
namespace Go.Proofs.Ytajifknepdikbaa.PA
open Go.RowKit Go.Proofs.YtajifknepdikbaaW.PrintWords Go.Proofs.Ytajifknepdikbaa.Core
theorem l91Op_ev (b : List Int) (hb : Bytes b) (p : Int) (h0 : 0 ≤ p) (h1 : p ≤ 900000000000) : EvP (fun k => spec_l91Op.f k b p) (fun r => r.2 = p + 1 ∧ 1 ≤ r.1 ∧ r.1 ≤ 12) := by
  unfold spec_l91Op.f
  refine pick_then hb h0 (by omega) fun v v0 v1 _ => ?_
  have := v1 (by omega)
  dsimp only
  rw [w64 (by omega) (by omega)]
  exact EvP.ret (by dsimp only; omega)
theorem l91Leaf_ev (b : List Int) (hb : Bytes b) (p : Int) (h0 : 0 ≤ p) (h1 : p ≤ 900000000000) : EvP (fun k => spec_l91Leaf.f k b p) (fun r => p ≤ r.2.2.2 ∧ r.2.2.2 ≤ p + 2 ∧ r.2.2.1.length = 0) := by
  unfold spec_l91Leaf.f
  refine pick_then hb h0 (by omega) fun v v0 v1 _ => ?_
  dsimp only
  refine EvP.ite (fun h => ?_) (fun h => ?_)
  · refine pick_then hb (by omega) (by omega) fun v2 w0 w1 _ => ?_
    exact EvP.bind0 rfl (EvP.ret (by simp; omega))
  · refine EvP.ite (fun h => ?_) (fun h => ?_)
    · refine EvP.bind0 rfl (pick_then hb (by omega) (by omega) fun v2 w0 w1 _ => ?_)
      have := w1 (by omega)
      exact EvP.yes w0 (EvP.yes (by simp; omega) (EvP.bind0 rfl (EvP.ret (by simp; omega))))
    · refine pick_then hb (by omega) (by omega) fun v2 w0 w1 _ => ?_
      exact EvP.bind0 rfl (EvP.ret (by simp; omega))
theorem l91Expr_ev (b : List Int) (hb : Bytes b) : ∀ (d : Nat) (p : Int), d ≤ 10 → 0 ≤ p → p + 4 ^ (d + 1) ≤ 800000000000 → EvP (fun k => spec_l91Expr.f k b p (d : Int)) (fun r => p ≤ r.2.2.2 ∧ r.2.2.2 ≤ p + 4 ^ (d + 1) ∧ r.2.2.1.length ≤ 2) := by
  intro d
  have leaf : ∀ (d' : Int) (q : Int) (p : Int) (m : Nat), 0 ≤ q → q ≤ 800000000000 → p ≤ q → q + 2 ≤ p + 4 ^ (m + 1) → EvP (fun k => spec_l91Expr.j0 k d' true b q) (fun r => p ≤ r.2.2.2 ∧ r.2.2.2 ≤ p + 4 ^ (m + 1) ∧ r.2.2.1.length ≤ 2) := by
    intro d' q p m h0 h1 h2 h3
    refine EvP.step (fun k => spec_l91Expr.j0.eq_2 (k := k) ..) (EvP.yes rfl ?_)
    refine EvP.bind (l91Leaf_ev b hb q h0 (by omega)) fun r hr => ?_
    exact EvP.ret (by dsimp only; omega)
  induction d with
  | zero =>
    intro p hd h0 h1
    refine EvP.step (fun k => spec_l91Expr.f.eq_2 (k := k) ..) (EvP.yes (by omega) ?_)
    exact leaf _ p p 0 h0 (by omega) (by omega) (by omega)
  | succ d ih =>
    intro p hd h0 h1
    have h4 : (4 : Int) ^ (d + 1 + 1) = 4 * 4 ^ (d + 1) := by rw [Int.pow_succ, Int.mul_comm]
    have h5 : (4 : Int) ≤ 4 ^ (d + 1) := by
      have : 0 < (4 : Int) ^ d := Int.pow_pos (by omega)
      rw [Int.pow_succ]
      omega
    refine EvP.step (fun k => spec_l91Expr.f.eq_2 (k := k) ..) (EvP.ite (fun h => ?_) (fun h => ?_))
    · exact leaf _ p p (d + 1) h0 (by omega) (by omega) (by omega)
    · refine pick_then hb h0 (by omega) fun v v0 v1 _ => ?_
      dsimp only
      cases hv : (v == 0) with
      | true => exact leaf _ (p + 1) p (d + 1) (by omega) (by omega) (by omega) (by omega)
      | false =>
        refine EvP.step (fun k => spec_l91Expr.j0.eq_2 (k := k) ..) (EvP.no (by simp) ?_)
        rw [w64 (by omega) (by omega), show ((d + 1 : Nat) : Int) - 1 = (d : Int) by omega]
        refine EvP.bind (l91Op_ev b hb (p + 1) (by omega) (by omega)) fun r hr => ?_
        refine EvP.bind (ih r.2 (by omega) (by omega) (by omega)) fun s hs => ?_
        refine EvP.bind (ih s.2.2.2 (by omega) (by omega) (by omega)) fun u hu => ?_
        exact EvP.bind0 rfl (EvP.ret (by simp; omega))
theorem l91Expr_ev' (b : List Int) (hb : Bytes b) (d : Int) (p : Int) (hd0 : 0 ≤ d) (hd : d ≤ 5) (h0 : 0 ≤ p) (h1 : p ≤ 700000000000) : EvP (fun k => spec_l91Expr.f k b p d) (fun r => p ≤ r.2.2.2 ∧ r.2.2.2 ≤ p + 4096 ∧ r.2.2.1.length ≤ 2) := by
  have hp : (4 : Int) ^ (d.toNat + 1) ≤ 4096 := by
    have : d.toNat ≤ 5 := by omega
    have h2 : 4 ^ (d.toNat + 1) ≤ 4 ^ 6 := Nat.pow_le_pow_right (by omega) (by omega)
    have h3 : ((4 ^ (d.toNat + 1) : Nat) : Int) ≤ 4096 := by omega
    rw [Int.natCast_pow] at h3
    exact h3
  have h := l91Expr_ev b hb d.toNat p (by omega) h0 (by omega)
  rw [Int.toNat_of_nonneg hd0] at h
  exact h.mono fun r hr => by omega
theorem l91Spoilt_ev (b : List Int) (hb : Bytes b) (p : Int) (h0 : 0 ≤ p) (h1 : p ≤ 100000000000) : EvP (fun k => spec_l91Spoilt.f k b p) (fun r => p ≤ r.2.2.2 ∧ r.2.2.2 ≤ p + 20000 ∧ r.2.2.1.length ≤ 3) := by
  unfold spec_l91Spoilt.f
  refine pick_then hb h0 (by omega) fun v v0 v1 _ => ?_
  have := v1 (by omega)
  dsimp only
  rw [w64 (by omega) (by omega)]
  refine EvP.bind (l91Expr_ev' b hb _ _ (by omega) (by omega) (by omega) (by omega)) fun r hr => ?_
  refine pick_then hb (by omega) (by omega) fun c _ _ _ => ?_
  dsimp only
  refine EvP.ite (fun h => ?_) (fun h => ?_)
  · refine EvP.bind0 rfl (pick_then hb (by omega) (by omega) fun v2 w0 w1 _ => ?_)
    have := w1 (by omega)
    exact EvP.yes w0 (EvP.yes (by simp; omega) (EvP.ret (by dsimp only; omega)))
  refine EvP.ite (fun h => ?_) (fun h => ?_)
  · refine EvP.bind0 rfl (pick_then hb (by omega) (by omega) fun v2 w0 w1 _ => ?_)
    have := w1 (by omega)
    exact EvP.yes w0 (EvP.yes (by simp; omega) (EvP.ret (by dsimp only; omega)))
  refine EvP.ite (fun h => ?_) (fun h => ?_)
  · refine EvP.bind (l91Leaf_ev b hb _ (by omega) (by omega)) fun s hs => ?_
    exact EvP.yes (by omega) (EvP.ret (by simp; omega))
  refine EvP.ite (fun h => ?_) (fun h => ?_)
  · refine EvP.bind (l91Leaf_ev b hb _ (by omega) (by omega)) fun s hs => ?_
    refine EvP.bind0 rfl (EvP.bind (l91Expr_ev' b hb 5 _ (by omega) (by omega) (by omega) (by omega)) fun u hu => ?_)
    exact EvP.bind0 rfl (EvP.ret (by simp; omega))
  refine EvP.ite (fun h => ?_) (fun h => ?_)
  · refine EvP.bind (l91Op_ev b hb _ (by omega) (by omega)) fun s hs => ?_
    refine EvP.bind (l91Expr_ev' b hb 4 _ (by omega) (by omega) (by omega) (by omega)) fun u hu => ?_
    exact EvP.bind0 rfl (EvP.bind0 rfl (EvP.ret (by simp; omega)))
  · exact EvP.ret (by dsimp only; omega)
theorem l91Vars_l0 (b : List Int) (hb : Bytes b) : ∀ (d j : Nat) (l : List Int) (p : Int), j + d = 4 → l.length = j → 0 ≤ p → p + 6 * d ≤ 800000000000 →
    EvP (fun k => spec_l91Vars.l0 k l (j : Int) b p) (fun r => 4 ≤ r.1.length ∧ r.1.length ≤ 5) := by
  intro d
  induction d with
  | zero =>
    intro j l p hj hl h0 h1
    refine EvP.step (fun k => spec_l91Vars.l0.eq_2 (k := k) ..) (EvP.no (by omega) ?_)
    refine pick_then hb h0 (by omega) fun v v0 v1 _ => ?_
    dsimp only
    refine EvP.ite (fun h => EvP.yes (by omega) (EvP.ret (by simp; omega))) (fun h => ?_)
    exact EvP.ite (fun h => EvP.yes (by omega) (EvP.ret (by simp; omega))) (fun h => EvP.ret (by dsimp only; omega))
  | succ d ih =>
    intro j l p hj hl h0 h1
    refine EvP.step (fun k => spec_l91Vars.l0.eq_2 (k := k) ..) (EvP.yes (by omega) ?_)
    refine EvP.bind (l91Word_ev b hb p h0 (by omega)) fun r hr => ?_
    rw [w64 (by omega) (by omega)]
    refine EvP.yes (by omega) ?_
    exact ih (j + 1) (l ++ [r.1]) r.2 (by omega) (by rw [List.length_append, hl]; rfl) (by omega) (by omega)
theorem l91Vars_ev (b : List Int) (hb : Bytes b) (p : Int) (h0 : 0 ≤ p) (h1 : p ≤ 700000000000) : EvP (fun k => spec_l91Vars.f k b p) (fun r => 4 ≤ r.1.length ∧ r.1.length ≤ 5) := by
  unfold spec_l91Vars.f
  exact l91Vars_l0 b hb 4 0 [] p (by omega) rfl h0 (by omega)
theorem DrawExprEval_ev (l : List Int) (hl : l.length ≤ 140737488351232) (hw : ∀ x ∈ l, (Lit.int .u8 x).wf = true) : EvP (fun k => spec_DrawExprEval.f k l) (fun r => r.2.2.1.length ≤ 3 ∧ 4 ≤ r.2.2.2.length ∧ r.2.2.2.length ≤ 5) := by
  obtain ⟨b, hb0, hb⟩ := open_bytes l hl hw
  unfold spec_DrawExprEval.f
  refine EvP.bind0 hb0 (EvP.bind (l91Spoilt_ev b hb _ (by dsimp only; omega) (by dsimp only; omega)) fun r hr => ?_)
  dsimp only at hr
  refine EvP.bind (l91Vars_ev b hb _ (by omega) (by omega)) fun s hs => ?_
  exact EvP.ret ⟨hr.2.2, hs⟩
theorem DrawExprFold_ev (l : List Int) (hl : l.length ≤ 140737488351232) (hw : ∀ x ∈ l, (Lit.int .u8 x).wf = true) : EvP (fun k => spec_DrawExprFold.f k l) (fun r => r.2.2.length ≤ 3) := by
  obtain ⟨b, hb0, hb⟩ := open_bytes l hl hw
  unfold spec_DrawExprFold.f
  refine EvP.bind0 hb0 (pick_then hb (by dsimp only; omega) (by dsimp only; omega) fun c _ _ _ => ?_)
  dsimp only
  refine EvP.ite (fun h => ?_) (fun h => ?_)
  · refine EvP.bind (l91Op_ev b hb _ (by omega) (by omega)) fun r hr => ?_
    refine EvP.bind (l91Op_ev b hb _ (by omega) (by omega)) fun s hs => ?_
    refine pick_then hb (by omega) (by omega) fun c _ _ _ => ?_
    refine EvP.bind0 rfl (pick_then hb (by dsimp only; omega) (by dsimp only; omega) fun c _ _ _ => ?_)
    refine EvP.bind0 rfl (EvP.bind0 rfl ?_)
    dsimp only
    refine EvP.bind (l91Leaf_ev b hb _ (by omega) (by omega)) fun u hu => ?_
    exact EvP.bind0 rfl (EvP.ret (by simp))
  · refine EvP.bind (l91Spoilt_ev b hb _ (by omega) (by omega)) fun r hr => ?_
    exact EvP.ret hr.2.2
end Go.Proofs.Ytajifknepdikbaa.PA

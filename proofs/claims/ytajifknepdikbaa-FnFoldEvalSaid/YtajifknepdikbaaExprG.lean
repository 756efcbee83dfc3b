/- Expressions: depths, sizes, variables, simplifying, comparing, on valid expressions as trees. -/
import Derived.Test.YtajifknepdikbaaPAx0
import Derived.Test.YtajifknepdikbaaPAx1
import Derived.Test.YtajifknepdikbaaExprF
namespace Go.Proofs.Ytajifknepdikbaa.PA
open Go.RowKit Go.Proofs.YtajifknepdikbaaW.PrintWords Go.Proofs.YtajifknepdikbaaW.PrintMore Go.Proofs.Ytajifknepdikbaa.Core
theorem exprDepth_0 (d : Int) (h : -1000000 ≤ d) (h2 : d ≤ 1000000) : EvP (fun k => impl_exprDepth.l0 k d ([] : List S25) (([] : List S25).length : Int) 0) (· = d + 1) := by
  refine EvP.step (fun k => impl_exprDepth.l0.eq_2 (k := k) ..) (EvP.no (by simp) (EvP.ret ?_))
  exact w64 (by omega) (by omega)
theorem impl_exprDepth_ev : ∀ x : X, x.depth ≤ 1000 → EvP (fun k => impl_exprDepth.f k (emb x).f0 (emb x).f1 (emb x).f2) (· = (x.depth : Int))
  | .num n, h => EvP.step (fun k => impl_exprDepth.f.eq_2 (k := k) ..) (exprDepth_0 0 (by omega) (by omega))
  | .var v, h => EvP.step (fun k => impl_exprDepth.f.eq_2 (k := k) ..) (exprDepth_0 0 (by omega) (by omega))
  | .bin op a b, h => by
    have e : (X.bin op a b).depth = max a.depth b.depth + 1 := rfl
    refine EvP.step (fun k => impl_exprDepth.f.eq_2 (k := k) ..) ?_
    simp only [emb, List.length_cons, List.length_nil]
    refine EvP.step (fun k => impl_exprDepth.l0.eq_2 (k := k) ..) (EvP.yes (by omega) (EvP.yes (by omega) (EvP.yes (by simp) ?_)))
    rw [rdE_0]
    refine EvP.bindEq (impl_exprDepth_ev a (by omega)) ?_
    rw [w64 (by omega) (by omega), show (0 : Int) + 1 = 1 from rfl]
    refine EvP.step (fun k => impl_exprDepth.l0.eq_2 (k := k) ..) (EvP.yes (by omega) (EvP.yes (by omega) (EvP.yes (by simp) ?_)))
    rw [rdE_1]
    refine EvP.bindEq (impl_exprDepth_ev b (by omega)) ?_
    rw [w64 (n := 1 + 1) (by omega) (by omega), show (1 : Int) + 1 = 2 from rfl]
    refine EvP.step (fun k => impl_exprDepth.l0.eq_2 (k := k) ..) (EvP.no (by omega) (EvP.ret ?_))
    have hm : mx (mx 0 (a.depth : Int)) (b.depth : Int) = max (a.depth : Int) (b.depth : Int) := by
      unfold mx
      split <;> split <;> omega
    rw [hm, w64 (by omega) (by omega)]
    omega
theorem impl_ExprDepth_yes (x : X) (hx : x.ok) (hd : x.depth ≤ 5) : EvP (fun k => impl_ExprDepth.f k (emb x).f0 (emb x).f1 (emb x).f2) (· = (x.depth : Int)) := by
  unfold impl_ExprDepth.f
  refine EvP.bindEq (impl_ExprValid_ev _ _ _) (EvP.yes (by rw [vx_emb x 5 hx]; exact decide_eq_true hd) ?_)
  exact EvP.bindEq (impl_exprDepth_ev x (by omega)) (EvP.ret rfl)
theorem exprSize_0 (d : Int) : EvP (fun k => impl_exprSize.l0 k d ([] : List S25) (([] : List S25).length : Int) 0) (· = d) :=
  EvP.step (fun k => impl_exprSize.l0.eq_2 (k := k) ..) (EvP.no (by simp) (EvP.ret rfl))
theorem impl_exprSize_ev : ∀ x : X, x.size ≤ 1000000 → EvP (fun k => impl_exprSize.f k (emb x).f0 (emb x).f1 (emb x).f2) (· = (x.size : Int))
  | .num n, h => EvP.step (fun k => impl_exprSize.f.eq_2 (k := k) ..) (exprSize_0 1)
  | .var v, h => EvP.step (fun k => impl_exprSize.f.eq_2 (k := k) ..) (exprSize_0 1)
  | .bin op a b, h => by
    have e : (X.bin op a b).size = a.size + b.size + 1 := rfl
    refine EvP.step (fun k => impl_exprSize.f.eq_2 (k := k) ..) ?_
    simp only [emb, List.length_cons, List.length_nil]
    refine EvP.step (fun k => impl_exprSize.l0.eq_2 (k := k) ..) (EvP.yes (by omega) (EvP.yes (by omega) (EvP.yes (by simp) ?_)))
    rw [rdE_0]
    refine EvP.bindEq (impl_exprSize_ev a (by omega)) ?_
    rw [w64 (n := 0 + 1) (by omega) (by omega), w64 (n := 1 + (a.size : Int)) (by omega) (by omega), show (0 : Int) + 1 = 1 from rfl]
    refine EvP.step (fun k => impl_exprSize.l0.eq_2 (k := k) ..) (EvP.yes (by omega) (EvP.yes (by omega) (EvP.yes (by simp) ?_)))
    rw [rdE_1]
    refine EvP.bindEq (impl_exprSize_ev b (by omega)) ?_
    rw [w64 (n := 1 + 1) (by omega) (by omega), w64 (n := 1 + (a.size : Int) + (b.size : Int)) (by omega) (by omega), show (1 : Int) + 1 = 2 from rfl]
    refine EvP.step (fun k => impl_exprSize.l0.eq_2 (k := k) ..) (EvP.no (by omega) (EvP.ret ?_))
    omega
theorem size_32 (x : X) (hd : x.depth ≤ 5) : x.size ≤ 31 := by
  have h1 := X.size_depth x
  have h2 : 2 ^ x.depth ≤ 2 ^ 5 := Nat.pow_le_pow_right (by omega) hd
  omega
theorem impl_ExprSize_yes (x : X) (hx : x.ok) (hd : x.depth ≤ 5) : EvP (fun k => impl_ExprSize.f k (emb x).f0 (emb x).f1 (emb x).f2) (· = (x.size : Int)) := by
  have := size_32 x hd
  unfold impl_ExprSize.f
  refine EvP.bindEq (impl_ExprValid_ev _ _ _) (EvP.yes (by rw [vx_emb x 5 hx]; exact decide_eq_true hd) ?_)
  exact EvP.bindEq (impl_exprSize_ev x (by omega)) (EvP.ret rfl)
theorem exprUses_0 (v : Int) : EvP (fun k => impl_exprUses.l0 k v ([] : List S25) (([] : List S25).length : Int) 0) (· = false) :=
  EvP.step (fun k => impl_exprUses.l0.eq_2 (k := k) ..) (EvP.no (by simp) (EvP.ret rfl))
theorem impl_exprUses_ev (v : Int) : ∀ x : X, x.ok → EvP (fun k => impl_exprUses.f k (emb x).f0 (emb x).f1 (emb x).f2 v) (· = x.uses v)
  | .num n, h => EvP.step (fun k => impl_exprUses.f.eq_2 (k := k) ..) (EvP.no (by simp [emb]) (exprUses_0 v))
  | .var u, h => EvP.step (fun k => impl_exprUses.f.eq_2 (k := k) ..) (EvP.yes rfl (EvP.ret (by simp only [X.uses, emb]; rw [Bool.eq_iff_iff, beq_iff_eq, decide_eq_true_eq])))
  | .bin op a b, h => by
    have ho := h.1
    refine EvP.step (fun k => impl_exprUses.f.eq_2 (k := k) ..) (EvP.no (by simp only [emb]; omega) ?_)
    simp only [emb, List.length_cons, List.length_nil]
    refine EvP.step (fun k => impl_exprUses.l0.eq_2 (k := k) ..) (EvP.yes (by omega) (EvP.yes (by omega) (EvP.yes (by simp) ?_)))
    rw [rdE_0]
    refine EvP.bindEq (impl_exprUses_ev v a h.2.1) (EvP.ite (fun h1 => EvP.ret (by rw [X.uses, h1, Bool.true_or])) (fun h1 => ?_))
    rw [w64 (by omega) (by omega), show (0 : Int) + 1 = 1 from rfl]
    refine EvP.step (fun k => impl_exprUses.l0.eq_2 (k := k) ..) (EvP.yes (by omega) (EvP.yes (by omega) (EvP.yes (by simp) ?_)))
    rw [rdE_1]
    refine EvP.bindEq (impl_exprUses_ev v b h.2.2) (EvP.ite (fun h2 => EvP.ret (by rw [X.uses, h2, Bool.or_true])) (fun h2 => ?_))
    rw [w64 (n := 1 + 1) (by omega) (by omega), show (1 : Int) + 1 = 2 from rfl]
    refine EvP.step (fun k => impl_exprUses.l0.eq_2 (k := k) ..) (EvP.no (by omega) (EvP.ret ?_))
    rw [X.uses, Bool.eq_false_iff.mpr h1, Bool.eq_false_iff.mpr h2]
    rfl
theorem impl_ExprUses_yes (v : Int) (x : X) (hx : x.ok) (hd : x.depth ≤ 5) : EvP (fun k => impl_ExprUses.f k (emb x).f0 (emb x).f1 (emb x).f2 v) (· = x.uses v) := by
  unfold impl_ExprUses.f
  refine EvP.bindEq (impl_ExprValid_ev _ _ _) (EvP.yes (by rw [vx_emb x 5 hx]; exact decide_eq_true hd) ?_)
  exact EvP.bindEq (impl_exprUses_ev v x hx) (EvP.ret rfl)
theorem emb_op {x : X} (h : x.ok) : (emb x).f0 = 0 ↔ ∃ n, x = .num n := by
  cases x with
  | num n => exact ⟨fun _ => ⟨n, rfl⟩, fun _ => rfl⟩
  | var v =>
    refine ⟨fun e => ?_, fun ⟨n, e⟩ => by cases e⟩
    simp [emb] at e
  | bin op a b =>
    refine ⟨fun e => ?_, fun ⟨n, e⟩ => by cases e⟩
    have e : op = 0 := e
    have ho := h.1
    omega
theorem tri_bin (op : Int) (a b : X) : tri (emb (.bin op a b)) = (op, 0, [emb a, emb b]) := rfl
theorem impl_exprFold_ev : ∀ x : X, x.ok → EvP (fun k => impl_exprFold.f k (emb x).f0 (emb x).f1 (emb x).f2) (· = tri (emb x.fold))
  | .num n, h => EvP.step (fun k => impl_exprFold.f.eq_2 (k := k) ..) (EvP.yes rfl (EvP.ret rfl))
  | .var v, h => EvP.step (fun k => impl_exprFold.f.eq_2 (k := k) ..) (EvP.yes rfl (EvP.ret rfl))
  | .bin op a b, h => by
    have ha := X.fold_ok a h.2.1
    have hb := X.fold_ok b h.2.2
    have he : (X.bin op a b).fold = X.foldB op a.fold b.fold := rfl
    rw [he]
    refine EvP.step (fun k => impl_exprFold.f.eq_2 (k := k) ..) (EvP.no (by simp [emb]) (EvP.yes (by simp [emb]) ?_))
    refine EvP.bindEq (impl_exprFold_ev a h.2.1) (EvP.yes (by simp [emb]) (EvP.bindEq (impl_exprFold_ev b h.2.2) ?_))
    generalize a.fold = x at ha ⊢
    generalize b.fold = y at hb ⊢
    simp only [tri]
    have stay : (¬ ∃ m n, x = .num m ∧ y = .num n) → X.foldB op x y = .bin op x y := fun hn => X.foldB_of fun m n e1 e2 => absurd ⟨m, n, e1, e2⟩ hn
    refine EvP.ite (fun hx => ?_) (fun hx => ?_)
    · obtain ⟨m, rfl⟩ := (emb_op ha).1 hx
      refine EvP.step (fun k => impl_exprFold.j0.eq_2 (k := k) ..) (EvP.ite (fun hy => ?_) (fun hy => EvP.ret ?_))
      · obtain ⟨n, rfl⟩ := (emb_op hb).1 (by simpa using hy)
        refine EvP.bind0 (impl_apply_eq _ _ _) ?_
        simp only [emb, X.foldB]
        refine EvP.ite (fun h1 => EvP.ite (fun h2 => EvP.ret ?_) (fun h2 => EvP.ret ?_)) (fun h1 => EvP.ret ?_)
        · rw [if_pos ⟨h1, h2⟩]
          rfl
        · rw [if_neg (fun e => h2 e.2)]
          rfl
        · rw [if_neg (fun e => h1 e.1)]
          rfl
      · rw [stay (fun ⟨m', n, _, e⟩ => hy (by rw [e]; rfl))]
        simp only [emb, etaE]
    · refine EvP.step (fun k => impl_exprFold.j0.eq_2 (k := k) ..) (EvP.no (by simp) (EvP.ret ?_))
      rw [stay (fun ⟨m', n, e, _⟩ => hx (by rw [e]; rfl))]
      simp only [emb, etaE]
theorem spec_l4Fold_ev : ∀ x : X, x.ok → EvP (fun k => spec_l4Fold.f k (emb x).f0 (emb x).f1 (emb x).f2) (· = tri (emb x.fold))
  | .num n, h => EvP.step (fun k => spec_l4Fold.f.eq_2 (k := k) ..) (EvP.yes rfl (EvP.bind0 rfl (EvP.ret rfl)))
  | .var v, h => EvP.step (fun k => spec_l4Fold.f.eq_2 (k := k) ..) (EvP.yes rfl (EvP.bind0 rfl (EvP.ret rfl)))
  | .bin op a b, h => by
    have ha := X.fold_ok a h.2.1
    have hb := X.fold_ok b h.2.2
    have he : (X.bin op a b).fold = X.foldB op a.fold b.fold := rfl
    rw [he]
    refine EvP.step (fun k => spec_l4Fold.f.eq_2 (k := k) ..) (EvP.no (by simp [emb]) (EvP.yes (by simp [emb]) ?_))
    refine EvP.bindEq (spec_l4Fold_ev a h.2.1) (EvP.yes (by simp [emb]) (EvP.bindEq (spec_l4Fold_ev b h.2.2) ?_))
    generalize a.fold = x at ha ⊢
    generalize b.fold = y at hb ⊢
    simp only [tri]
    have stay : (¬ ∃ m n, x = .num m ∧ y = .num n) → X.foldB op x y = .bin op x y := fun hn => X.foldB_of fun m n e1 e2 => absurd ⟨m, n, e1, e2⟩ hn
    refine EvP.ite (fun hx => ?_) (fun hx => ?_)
    · obtain ⟨m, rfl⟩ := (emb_op ha).1 hx
      refine EvP.step (fun k => spec_l4Fold.j0.eq_2 (k := k) ..) (EvP.ite (fun hy => ?_) (fun hy => EvP.bind0 rfl (EvP.ret ?_)))
      · obtain ⟨n, rfl⟩ := (emb_op hb).1 (by simpa using hy)
        have hm : 0 ≤ m ∧ m ≤ 99999 := ha
        have hn : 0 ≤ n ∧ n ≤ 99999 := hb
        refine EvP.bindEq (spec_Apply_ev _ _ _ h.1 (vw_iff.2 (by simp only [emb]; omega)) (vw_iff.2 (by simp only [emb]; omega))) (EvP.bind0 (l6In_eq _ _ _) ?_)
        simp only [emb, X.foldB]
        refine EvP.ite (fun h1 => EvP.bind0 rfl (EvP.ret ?_)) (fun h1 => EvP.bind0 rfl (EvP.ret ?_))
        · rw [Bool.and_eq_true] at h1
          rw [if_pos ⟨of_decide_eq_true h1.1, of_decide_eq_true h1.2⟩]
          rfl
        · rw [Bool.and_eq_true] at h1
          rw [if_neg (fun e => h1 ⟨decide_eq_true e.1, decide_eq_true e.2⟩)]
          rfl
      · rw [stay (fun ⟨m', n, _, e⟩ => hy (by rw [e]; rfl))]
        simp only [emb, etaE]
    · refine EvP.step (fun k => spec_l4Fold.j0.eq_2 (k := k) ..) (EvP.no (by simp) (EvP.bind0 rfl (EvP.ret ?_)))
      rw [stay (fun ⟨m', n, e, _⟩ => hx (by rw [e]; rfl))]
      simp only [emb, etaE]
theorem impl_ExprFold_yes (x : X) (hx : x.ok) (hd : x.depth ≤ 5) : EvP (fun k => impl_ExprFold.f k (emb x).f0 (emb x).f1 (emb x).f2) (· = ((emb x.fold).f0, (emb x.fold).f1, (emb x.fold).f2, true)) := by
  unfold impl_ExprFold.f
  refine EvP.bindEq (impl_ExprValid_ev _ _ _) (EvP.yes (by rw [vx_emb x 5 hx]; exact decide_eq_true hd) ?_)
  exact EvP.bindEq (impl_exprFold_ev x hx) (EvP.ret rfl)
theorem spec_ExprFold_yes (x : X) (hx : x.ok) (hd : x.depth ≤ 5) : EvP (fun k => spec_ExprFold.f k (emb x).f0 (emb x).f1 (emb x).f2) (· = ((emb x.fold).f0, (emb x.fold).f1, (emb x.fold).f2, true)) := by
  unfold spec_ExprFold.f
  refine EvP.bindEq (spec_ExprValid_ev _ _ _) (EvP.yes (by rw [vx_emb x 5 hx]; exact decide_eq_true hd) ?_)
  exact EvP.bindEq (spec_l4Fold_ev x hx) (EvP.ret rfl)
theorem impl_ExprFold_no {op n : Int} {l : List S25} (h : vx 5 op n l = false) : EvP (fun k => impl_ExprFold.f k op n l) (· = (0, 0, [], false)) := by
  unfold impl_ExprFold.f
  exact EvP.bindEq (impl_ExprValid_ev _ _ _) (EvP.no (by rw [h]; simp) (EvP.ret rfl))
theorem spec_ExprFold_no {op n : Int} {l : List S25} (h : vx 5 op n l = false) : EvP (fun k => spec_ExprFold.f k op n l) (· = (0, 0, [], false)) := by
  unfold spec_ExprFold.f
  exact EvP.bindEq (spec_ExprValid_ev _ _ _) (EvP.no (by rw [h]; simp) (EvP.ret rfl))
theorem sameExpr_0 (o n : Int) : EvP (fun k => laws_sameExpr.f k o n ([] : List S25) o n []) (· = true) := by
  refine EvP.step (fun k => laws_sameExpr.f.eq_2 (k := k) ..) (EvP.yes rfl (EvP.yes rfl ?_))
  refine EvP.step (fun k => laws_sameExpr.j0.eq_2 (k := k) ..) (EvP.no (by simp) ?_)
  exact EvP.step (fun k => laws_sameExpr.l0.eq_2 (k := k) ..) (EvP.no (by simp) (EvP.ret rfl))
theorem sameExpr_ev : ∀ x : X, EvP (fun k => laws_sameExpr.f k (emb x).f0 (emb x).f1 (emb x).f2 (emb x).f0 (emb x).f1 (emb x).f2) (· = true)
  | .num n => sameExpr_0 _ _
  | .var v => sameExpr_0 _ _
  | .bin op a b => by
    refine EvP.step (fun k => laws_sameExpr.f.eq_2 (k := k) ..) (EvP.yes rfl (EvP.yes rfl ?_))
    refine EvP.step (fun k => laws_sameExpr.j0.eq_2 (k := k) ..) (EvP.no (by simp) ?_)
    simp only [emb]
    refine EvP.step (fun k => laws_sameExpr.l0.eq_2 (k := k) ..) (EvP.yes (by simp) (EvP.yes (by omega) (EvP.yes (by simp) ?_)))
    rw [rdE_0]
    refine EvP.bindEq (sameExpr_ev a) (EvP.yes rfl ?_)
    rw [w64 (by omega) (by omega), show (0 : Int) + 1 = 1 from rfl]
    refine EvP.step (fun k => laws_sameExpr.l0.eq_2 (k := k) ..) (EvP.yes (by simp) (EvP.yes (by omega) (EvP.yes (by simp) ?_)))
    rw [rdE_1]
    refine EvP.bindEq (sameExpr_ev b) (EvP.yes rfl ?_)
    rw [w64 (n := 1 + 1) (by omega) (by omega), show (1 : Int) + 1 = 2 from rfl]
    exact EvP.step (fun k => laws_sameExpr.l0.eq_2 (k := k) ..) (EvP.no (by simp) (EvP.ret rfl))
end Go.Proofs.Ytajifknepdikbaa.PA

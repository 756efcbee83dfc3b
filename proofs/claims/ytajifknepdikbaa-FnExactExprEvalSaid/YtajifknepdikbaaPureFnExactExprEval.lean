import Derived.Test.YtajifknepdikbaaOps
import Derived.Test.YtajifknepdikbaaPAx0
import Derived.Test.YtajifknepdikbaaPAx1
import Derived.Test.YtajifknepdikbaaWords1
import Derived.Test.YtajifknepdikbaaDrawE
import Derived.Test.YtajifknepdikbaaPAxo
import Derived.Test.YtajifknepdikbaaPAxSFnExactExprEval
/- Expressions as trees: plain definitions and laws, no program in sight. -/
namespace Go.Proofs.Ytajifknepdikbaa.PA
open Go.RowKit Go.Proofs.Ytajifknepdikbaa.Core
inductive X where
  | num (n : Int)
  | var (v : Int)
  | bin (op : Int) (a b : X)
namespace X
def ok : X → Prop
  | num n => 0 ≤ n ∧ n ≤ 99999
  | var v => 0 ≤ v ∧ v < 4
  | bin op a b => (1 ≤ op ∧ op ≤ 12) ∧ a.ok ∧ b.ok
def depth : X → Nat
  | num _ => 1
  | var _ => 1
  | bin _ a b => max a.depth b.depth + 1
def size : X → Nat
  | num _ => 1
  | var _ => 1
  | bin _ a b => a.size + b.size + 1
def eval (g : Int → Int) : X → Int
  | num n => n
  | var v => g v
  | bin op a b => ap op (a.eval g) (b.eval g)
def uses (v : Int) : X → Bool
  | num _ => false
  | var u => decide (u = v)
  | bin _ a b => a.uses v || b.uses v
/-- An operation over two simplified ones. -/
def foldB (op : Int) : X → X → X
  | num m, num n => if 0 ≤ ap op m n ∧ ap op m n ≤ 99999 then num (ap op m n) else bin op (num m) (num n)
  | a, b => bin op a b
def fold : X → X
  | num n => num n
  | var v => var v
  | bin op a b => foldB op a.fold b.fold
def isNum : X → Bool
  | num _ => true
  | _ => false
theorem one_le_depth : ∀ x : X, 1 ≤ x.depth
  | num _ | var _ => Nat.le_refl _
  | bin _ _ _ => Nat.le_add_left _ _
theorem one_le_size : ∀ x : X, 1 ≤ x.size
  | num _ | var _ => Nat.le_refl _
  | bin _ _ _ => Nat.le_add_left _ _
theorem size_depth : ∀ x : X, x.size + 1 ≤ 2 ^ x.depth
  | num _ | var _ => by simp [size, depth]
  | bin _ a b => by
    have ha := size_depth a
    have hb := size_depth b
    have h1 : 2 ^ a.depth ≤ 2 ^ max a.depth b.depth := Nat.pow_le_pow_right (by omega) (Nat.le_max_left _ _)
    have h2 : 2 ^ b.depth ≤ 2 ^ max a.depth b.depth := Nat.pow_le_pow_right (by omega) (Nat.le_max_right _ _)
    simp only [size, depth, Nat.pow_succ]
    omega
theorem eval_word {g : Int → Int} (hg : ∀ v, 0 ≤ v → v < 4 → vw (g v) = true) : ∀ x : X, x.ok → vw (x.eval g) = true
  | num n, h => by
    have h : 0 ≤ n ∧ n ≤ 99999 := h
    simp only [eval]
    rw [vw_iff]
    omega
  | var v, h => hg v h.1 h.2
  | bin op a b, h => ap_word op (eval_word hg a h.2.1) (eval_word hg b h.2.2)
theorem foldB_ok {op : Int} (ho : 1 ≤ op ∧ op ≤ 12) : ∀ {a b : X}, a.ok → b.ok → (foldB op a b).ok := by
  intro a b ha hb
  unfold foldB
  split
  · split
    · assumption
    · exact ⟨ho, ha, hb⟩
  · exact ⟨ho, ha, hb⟩
theorem fold_ok : ∀ x : X, x.ok → x.fold.ok
  | num _, h => h
  | var _, h => h
  | bin _ a b, h => foldB_ok h.1 (fold_ok a h.2.1) (fold_ok b h.2.2)
theorem foldB_depth (op : Int) (a b : X) : (foldB op a b).depth ≤ max a.depth b.depth + 1 := by
  unfold foldB
  split
  · split
    · simp [depth]
    · exact Nat.le_refl _
  · exact Nat.le_refl _
theorem fold_depth : ∀ x : X, x.fold.depth ≤ x.depth
  | num _ => Nat.le_refl _
  | var _ => Nat.le_refl _
  | bin op a b => by
    have ha := fold_depth a
    have hb := fold_depth b
    have h := foldB_depth op a.fold b.fold
    simp only [fold, depth]
    omega
theorem foldB_size (op : Int) (a b : X) : (foldB op a b).size ≤ a.size + b.size + 1 := by
  unfold foldB
  split
  · split
    · simp [size]
    · exact Nat.le_refl _
  · exact Nat.le_refl _
theorem fold_size : ∀ x : X, x.fold.size ≤ x.size
  | num _ => Nat.le_refl _
  | var _ => Nat.le_refl _
  | bin op a b => by
    have ha := fold_size a
    have hb := fold_size b
    have h := foldB_size op a.fold b.fold
    simp only [fold, size]
    omega
theorem foldB_eval (g : Int → Int) (op : Int) (a b : X) : (foldB op a b).eval g = ap op (a.eval g) (b.eval g) := by
  unfold foldB
  split
  · split
    · rfl
    · rfl
  · rfl
theorem fold_eval (g : Int → Int) : ∀ x : X, x.fold.eval g = x.eval g
  | num _ => rfl
  | var _ => rfl
  | bin op a b => by rw [fold, foldB_eval, fold_eval g a, fold_eval g b, eval]
theorem foldB_of {op : Int} {a b : X} (h : ∀ m n, a = num m → b = num n → ¬ (0 ≤ ap op m n ∧ ap op m n ≤ 99999)) : foldB op a b = bin op a b := by
  unfold foldB
  split
  · rw [if_neg (h _ _ rfl rfl)]
  · rfl
theorem foldB_stay (op : Int) (a b : X) : (foldB op a b = bin op a b) ∨ ∃ m, foldB op a b = num m := by
  unfold foldB
  split
  · split
    · exact .inr ⟨_, rfl⟩
    · exact .inl rfl
  · exact .inl rfl
theorem foldB_again (op : Int) (a b : X) (ha : a.fold = a) (hb : b.fold = b) : (foldB op a b).fold = foldB op a b := by
  rcases foldB_stay op a b with h | ⟨m, h⟩
  · rw [h, fold, ha, hb, h]
  · rw [h]
    rfl
theorem fold_again : ∀ x : X, x.fold.fold = x.fold
  | num _ => rfl
  | var _ => rfl
  | bin op a b => foldB_again op _ _ (fold_again a) (fold_again b)
theorem eval_other {g h : Int → Int} {u : Int} (hg : ∀ v, v ≠ u → g v = h v) : ∀ x : X, x.uses u = false → x.eval g = x.eval h
  | num _, _ => rfl
  | var v, hu => hg v (by simpa [uses] using hu)
  | bin op a b, hu => by
    simp only [uses, Bool.or_eq_false_iff] at hu
    rw [eval, eval, eval_other hg a hu.1, eval_other hg b hu.2]
theorem eval_other' {g h : Int → Int} {u : Int} (hg : ∀ v, 0 ≤ v → v < 4 → v ≠ u → g v = h v) : ∀ x : X, x.ok → x.uses u = false → x.eval g = x.eval h
  | num _, _, _ => rfl
  | var v, ho, hu => hg v ho.1 ho.2 (by simpa [uses] using hu)
  | bin op a b, ho, hu => by
    simp only [uses, Bool.or_eq_false_iff] at hu
    rw [eval, eval, eval_other' hg a ho.2.1 hu.1, eval_other' hg b ho.2.2 hu.2]
end X
end Go.Proofs.Ytajifknepdikbaa.PA

/- Expressions: what the functions of the program and of the reference come to, on valid expressions as trees. -/
namespace Go.Proofs.Ytajifknepdikbaa.PA
open Go.RowKit Go.Proofs.YtajifknepdikbaaW.PrintWords Go.Proofs.YtajifknepdikbaaW.PrintMore Go.Proofs.Ytajifknepdikbaa.Core
/-- A tree, as the program holds it. -/
def emb : X → S25
  | .num n => ⟨0, n, []⟩
  | .var v => ⟨13, v, []⟩
  | .bin op a b => ⟨op, 0, [emb a, emb b]⟩
theorem rdE_nat (l : List S25) (i : Nat) (h : i < l.length) : rd_T25 l (i : Int) = l[i] := by
  unfold rd_T25
  rw [Int.toNat_natCast, List.getD_eq_getElem?_getD, List.getElem?_eq_getElem h]
  rfl
theorem rdE_0 (a b : S25) : rd_T25 [a, b] 0 = a := rfl
theorem rdE_1 (a b : S25) : rd_T25 [a, b] 1 = b := rfl
theorem etaE (a : S25) : (⟨a.f0, a.f1, a.f2⟩ : S25) = a := by
  cases a
  rfl
/-- Is it valid with at most so much depth? -/
def vx : Nat → Int → Int → List S25 → Bool
  | 0, _, _, _ => false
  | d + 1, op, n, l =>
    if op = 0 then decide (0 ≤ n) && (decide (n ≤ 99999) && decide (l.length = 0))
    else if op = 13 then decide (0 ≤ n) && (decide (n < 4) && decide (l.length = 0))
    else decide (1 ≤ op) && (decide (op ≤ 12) && (decide (n = 0) && (match l with
      | [a, b] => vx d a.f0 a.f1 a.f2 && vx d b.f0 b.f1 b.f2
      | _ => false)))
theorem two_of {α : Type} {l : List α} (h : l.length = 2) : ∃ a b, l = [a, b] := by
  match l, h with
  | [a, b], _ => exact ⟨a, b, rfl⟩
theorem vx_tree : ∀ (d : Nat) (op n : Int) (l : List S25), vx d op n l = true → ∃ x : X, x.ok ∧ x.depth ≤ d ∧ emb x = ⟨op, n, l⟩
  | 0, _, _, _, h => by cases h
  | d + 1, op, n, l, h => by
    unfold vx at h
    by_cases h0 : op = 0
    · rw [if_pos h0] at h
      simp only [Bool.and_eq_true, decide_eq_true_eq] at h
      subst h0
      exact ⟨.num n, ⟨h.1, h.2.1⟩, by simp [X.depth], by rw [emb, List.eq_nil_of_length_eq_zero h.2.2]⟩
    · rw [if_neg h0] at h
      by_cases h13 : op = 13
      · rw [if_pos h13] at h
        simp only [Bool.and_eq_true, decide_eq_true_eq] at h
        subst h13
        exact ⟨.var n, ⟨h.1, h.2.1⟩, by simp [X.depth], by rw [emb, List.eq_nil_of_length_eq_zero h.2.2]⟩
      · rw [if_neg h13] at h
        simp only [Bool.and_eq_true, decide_eq_true_eq] at h
        obtain ⟨h1, h2, h3, h4⟩ := h
        split at h4
        · rename_i a b
          simp only [Bool.and_eq_true] at h4
          obtain ⟨x, x1, x2, x3⟩ := vx_tree d a.f0 a.f1 a.f2 h4.1
          obtain ⟨y, y1, y2, y3⟩ := vx_tree d b.f0 b.f1 b.f2 h4.2
          exact ⟨.bin op x y, ⟨⟨h1, h2⟩, x1, y1⟩, by simp only [X.depth]; omega, by rw [emb, x3, y3, h3, etaE, etaE]⟩
        · cases h4
theorem vx_emb : ∀ (x : X) (d : Nat), x.ok → (vx d (emb x).f0 (emb x).f1 (emb x).f2 = decide (x.depth ≤ d))
  | x, 0, _ => by
    have := X.one_le_depth x
    rw [decide_eq_false (by omega)]
    rfl
  | .num n, d + 1, h => by
    have h : 0 ≤ n ∧ n ≤ 99999 := h
    simp [vx, emb, X.depth, h.1, h.2]
  | .var v, d + 1, h => by
    have h : 0 ≤ v ∧ v < 4 := h
    simp [vx, emb, X.depth, h.1, h.2]
  | .bin op a b, d + 1, h => by
    have h1 := h.1
    have ha := vx_emb a d h.2.1
    have hb := vx_emb b d h.2.2
    have e0 : ¬ (op = 0) := by omega
    have e13 : ¬ (op = 13) := by omega
    have e : (X.bin op a b).depth = max a.depth b.depth + 1 := rfl
    show (if op = 0 then _ else if op = 13 then _ else decide (1 ≤ op) && (decide (op ≤ 12) && (true && (vx d (emb a).f0 (emb a).f1 (emb a).f2 && vx d (emb b).f0 (emb b).f1 (emb b).f2)))) = _
    rw [if_neg e0, if_neg e13, decide_eq_true h1.1, decide_eq_true h1.2, ha, hb, e, Bool.true_and, Bool.true_and, Bool.true_and, Bool.eq_iff_iff]
    simp only [Bool.and_eq_true, decide_eq_true_eq]
    omega
theorem impl_OpValid_eq (a : Int) : impl_OpValid.f a = some (decide (1 ≤ a) && decide (a ≤ 12)) := by
  unfold impl_OpValid.f
  by_cases h : a ≥ 1
  · rw [if_pos h, decide_eq_true h, Bool.true_and]
  · rw [if_neg h, decide_eq_false h, Bool.false_and]
theorem spec_OpValid_eq (a : Int) : spec_OpValid.f a = some (decide (1 ≤ a) && decide (a ≤ 12)) := by
  unfold spec_OpValid.f
  rw [l6In_eq]
  rfl
theorem impl_exprValid_ev : ∀ (d : Nat) (op n : Int) (l : List S25), d ≤ 1000 → EvP (fun k => impl_exprValid.f k op n l (d : Int)) (· = vx d op n l)
  | 0, op, n, l, hd => by
    refine EvP.step (fun k => impl_exprValid.f.eq_2 (k := k) ..) ?_
    refine EvP.ite (fun h => ?_) (fun h => ?_)
    · refine EvP.ite (fun _ => EvP.ite (fun _ => EvP.ite (fun _ => EvP.ret ?_) (fun _ => EvP.ret ?_)) (fun _ => EvP.ret ?_)) (fun _ => EvP.ret ?_) <;> simp [vx]
    · refine EvP.ite (fun h => ?_) (fun h => ?_)
      · refine EvP.ite (fun _ => EvP.ite (fun _ => EvP.ite (fun _ => EvP.ret ?_) (fun _ => EvP.ret ?_)) (fun _ => EvP.ret ?_)) (fun _ => EvP.ret ?_) <;> simp [vx]
      · refine EvP.bind0 (impl_OpValid_eq op) (EvP.ite (fun _ => EvP.ite (fun _ => EvP.ite (fun _ => EvP.no (by omega) (EvP.ret ?_)) (fun _ => EvP.ret ?_)) (fun _ => EvP.ret ?_)) (fun _ => EvP.ret ?_)) <;> simp [vx]
  | d + 1, op, n, l, hd => by
    refine EvP.step (fun k => impl_exprValid.f.eq_2 (k := k) ..) ?_
    unfold vx
    refine EvP.ite (fun h => ?_) (fun h => ?_)
    · rw [if_pos h]
      refine EvP.ite (fun h1 => EvP.ite (fun h2 => EvP.ite (fun h3 => EvP.ret ?_) (fun h3 => EvP.ret ?_)) (fun h2 => EvP.ret ?_)) (fun h1 => EvP.ret ?_)
      · rw [decide_eq_true (show 0 ≤ n from h1), decide_eq_true h2, decide_eq_true (show l.length = 0 by omega)]
        simp
      · rw [decide_eq_false (p := l.length = 0) (by omega)]
        simp
      · rw [decide_eq_false h2]
        simp
      · rw [decide_eq_false (p := 0 ≤ n) h1]
        simp
    · rw [if_neg h]
      refine EvP.ite (fun h => ?_) (fun h13 => ?_)
      · rw [if_pos h]
        refine EvP.ite (fun h1 => EvP.ite (fun h2 => EvP.ite (fun h3 => EvP.ret ?_) (fun h3 => EvP.ret ?_)) (fun h2 => EvP.ret ?_)) (fun h1 => EvP.ret ?_)
        · rw [decide_eq_true (show 0 ≤ n from h1), decide_eq_true h2, decide_eq_true (show l.length = 0 by omega)]
          simp
        · rw [decide_eq_false (p := l.length = 0) (by omega)]
          simp
        · rw [decide_eq_false h2]
          simp
        · rw [decide_eq_false (p := 0 ≤ n) h1]
          simp
      · rw [if_neg h13]
        refine EvP.bind0 (impl_OpValid_eq op) (EvP.ite (fun h1 => ?_) (fun h1 => EvP.ret ?_))
        · simp only [Bool.and_eq_true, decide_eq_true_eq] at h1
          rw [decide_eq_true h1.1, decide_eq_true h1.2]
          refine EvP.ite (fun h2 => ?_) (fun h2 => EvP.ret (by rw [decide_eq_false h2]; rfl))
          rw [decide_eq_true h2]
          refine EvP.ite (fun h3 => ?_) (fun h3 => EvP.ret ?_)
          · obtain ⟨a, b, rfl⟩ := two_of (show l.length = 2 by omega)
            refine EvP.ite (fun h4 => ?_) (fun h4 => EvP.ret ?_)
            · rw [w64 (by omega) (by omega), show ((d + 1 : Nat) : Int) - 1 = (d : Int) by omega, rdE_0, rdE_1]
              refine EvP.yes (by simp) (EvP.bindEq (impl_exprValid_ev d _ _ _ (by omega)) (EvP.ite (fun h5 => ?_) (fun h5 => EvP.ret ?_)))
              · refine EvP.yes (by simp) (EvP.bindEq (impl_exprValid_ev d _ _ _ (by omega)) (EvP.ret ?_))
                simp [h5]
              · simp [h5]
            · have hd0 : d = 0 := by omega
              subst hd0
              rfl
          · split
            · simp at h3
            · rfl
        · symm
          rw [Bool.eq_false_iff]
          intro e
          simp only [Bool.and_eq_true, decide_eq_true_eq] at e h1
          exact h1 ⟨e.1, e.2.1⟩
theorem spec_l4Ok_ev : ∀ (d : Nat) (op n : Int) (l : List S25), d ≤ 1000 → EvP (fun k => spec_l4Ok.f k op n l (d : Int)) (· = vx d op n l)
  | 0, op, n, l, hd => EvP.step (fun k => spec_l4Ok.f.eq_2 (k := k) ..) (EvP.yes (by omega) (EvP.ret rfl))
  | d + 1, op, n, l, hd => by
    have hlen : ((l.length : Int) == 0) = decide (l.length = 0) := by
      rw [Bool.eq_iff_iff, beq_iff_eq, decide_eq_true_eq]
      omega
    refine EvP.step (fun k => spec_l4Ok.f.eq_2 (k := k) ..) (EvP.no (by omega) ?_)
    unfold vx
    refine EvP.ite (fun h => ?_) (fun h => ?_)
    · rw [if_pos h, l6In_eq]
      refine EvP.bind0 rfl (EvP.ite (fun h1 => EvP.ret ?_) (fun h1 => EvP.ret ?_))
      · rw [hlen]
        simp only [Bool.and_eq_true, decide_eq_true_eq] at h1
        rw [decide_eq_true h1.1, decide_eq_true h1.2]
        rfl
      · rw [← Bool.and_assoc, Bool.eq_false_iff.mpr h1]
        rfl
    · rw [if_neg h]
      refine EvP.ite (fun h => ?_) (fun h13 => ?_)
      · rw [if_pos h, l6In_eq]
        have e3 : decide (n < 4) = decide (n ≤ 3) := decide_eq_decide.mpr (by omega)
        rw [e3]
        refine EvP.bind0 rfl (EvP.ite (fun h1 => EvP.ret ?_) (fun h1 => EvP.ret ?_))
        · rw [hlen]
          simp only [Bool.and_eq_true, decide_eq_true_eq] at h1
          rw [decide_eq_true h1.1, decide_eq_true h1.2]
          rfl
        · rw [← Bool.and_assoc, Bool.eq_false_iff.mpr h1]
          rfl
      · rw [if_neg h13]
        refine EvP.bind0 (spec_OpValid_eq op) (EvP.ite (fun h1 => ?_) (fun h1 => EvP.ret ?_))
        · simp only [Bool.and_eq_true, decide_eq_true_eq] at h1
          rw [decide_eq_true h1.1, decide_eq_true h1.2]
          refine EvP.ite (fun h2 => ?_) (fun h2 => EvP.ret (by rw [decide_eq_false h2]; rfl))
          rw [decide_eq_true h2]
          refine EvP.ite (fun h3 => ?_) (fun h3 => EvP.ret ?_)
          · obtain ⟨a, b, rfl⟩ := two_of (show l.length = 2 by omega)
            rw [w64 (by omega) (by omega), show ((d + 1 : Nat) : Int) - 1 = (d : Int) by omega, rdE_0, rdE_1]
            refine EvP.yes (by simp) (EvP.bindEq (spec_l4Ok_ev d _ _ _ (by omega)) (EvP.ite (fun h5 => ?_) (fun h5 => EvP.ret ?_)))
            · refine EvP.yes (by simp) (EvP.bindEq (spec_l4Ok_ev d _ _ _ (by omega)) (EvP.ret ?_))
              simp [h5]
            · simp [h5]
          · split
            · simp at h3
            · rfl
        · rw [← Bool.and_assoc, Bool.eq_false_iff.mpr h1]
          rfl
theorem spec_ExprValid_ev (op n : Int) (l : List S25) : EvP (fun k => spec_ExprValid.f k op n l) (· = vx 5 op n l) := by
  unfold spec_ExprValid.f
  exact EvP.bindEq (spec_l4Ok_ev 5 op n l (by omega)) (EvP.ret rfl)
theorem impl_ExprValid_ev (op n : Int) (l : List S25) : EvP (fun k => impl_ExprValid.f k op n l) (· = vx 5 op n l) := by
  unfold impl_ExprValid.f
  exact EvP.bindEq (impl_exprValid_ev 5 op n l (by omega)) (EvP.ret rfl)
end Go.Proofs.Ytajifknepdikbaa.PA

/- Expressions: values, depths, sizes, simplifying, on valid expressions as trees. -/
namespace Go.Proofs.Ytajifknepdikbaa.PA
open Go.RowKit Go.Proofs.YtajifknepdikbaaW.PrintWords Go.Proofs.YtajifknepdikbaaW.PrintMore Go.Proofs.Ytajifknepdikbaa.Core
def tri (e : S25) : Int × Int × List S25 := (e.f0, e.f1, e.f2)
theorem impl_Wrap_eq (a : Int) : impl_Wrap.f a = some (wrap32 a) := by
  unfold impl_Wrap.f
  rw [w64_w32]
theorem spec_Wrap_eq (a : Int) : spec_Wrap.f a = some (wrap32 a) := by
  have ht : Int.tmod a 4294967296 = a % 4294967296 ∨ (a < 0 ∧ Int.tmod a 4294967296 = -((-a) % 4294967296)) := by
    rcases Int.le_total 0 a with h | h
    · exact .inl (Int.tmod_eq_emod_of_nonneg h)
    · by_cases h0 : a = 0
      · subst h0
        exact .inl rfl
      · refine .inr ⟨by omega, ?_⟩
        rw [← Int.tmod_eq_emod_of_nonneg (show 0 ≤ -a by omega), Int.neg_tmod, Int.neg_neg]
  unfold spec_Wrap.f
  generalize Int.tmod a 4294967296 = m at ht ⊢
  unfold wrap32
  by_cases h1 : m > 2147483647
  · rw [if_pos h1, w64 (by omega) (by omega)]
    congr 1
    omega
  · by_cases h2 : m < -2147483648
    · rw [if_neg h1, if_pos h2, w64 (by omega) (by omega)]
      congr 1
      omega
    · rw [if_neg h1, if_neg h2]
      congr 1
      omega
theorem impl_truth_eq (b : Bool) : impl_truth.f b = some (if b = true then 1 else 0) := by
  unfold impl_truth.f
  cases b <;> rfl
theorem spec_l2Flag_eq (b : Bool) : spec_l2Flag.f b = some (if b = true then 1 else 0) := by
  unfold spec_l2Flag.f
  cases b <;> rfl
theorem impl_apply_eq (op a b : Int) : impl_apply.f op a b = some (ap op a b) := by
  unfold impl_apply.f ap
  have hs := and31 b
  by_cases h1 : op = 1
  · rw [if_pos h1, if_pos h1]
  rw [if_neg h1, if_neg h1]
  by_cases h2 : op = 2
  · rw [if_pos h2, if_pos h2]
  rw [if_neg h2, if_neg h2]
  by_cases h3 : op = 3
  · rw [if_pos h3, if_pos h3]
  rw [if_neg h3, if_neg h3]
  by_cases h4 : op = 4
  · rw [if_pos h4, if_pos h4, impl_truth_eq]
    simp
  rw [if_neg h4, if_neg h4]
  by_cases h5 : op = 5
  · rw [if_pos h5, if_pos h5, impl_truth_eq]
    simp
  rw [if_neg h5, if_neg h5]
  by_cases h6 : op = 6
  · rw [if_pos h6, if_pos h6, if_pos hs.1, impl_Wrap_eq, Option.bind_some]
  rw [if_neg h6, if_neg h6]
  by_cases h7 : op = 7
  · rw [if_pos h7, if_pos h7, if_pos hs.1]
  rw [if_neg h7, if_neg h7]
  by_cases h8 : op = 8
  · rw [if_pos h8, if_pos h8, impl_Wrap_eq, Option.bind_some, w32_w64]
  rw [if_neg h8, if_neg h8]
  by_cases h9 : op = 9
  · rw [if_pos h9, if_pos h9, impl_Wrap_eq, Option.bind_some, w32_w64]
  rw [if_neg h9, if_neg h9]
  by_cases h10 : op = 10
  · rw [if_pos h10, if_pos h10, impl_Wrap_eq, Option.bind_some, w32_w64]
  rw [if_neg h10, if_neg h10]
  by_cases h11 : op = 11
  · rw [if_pos h11, if_pos h11]
    by_cases hb : b = 0
    · rw [if_pos hb, if_pos hb]
    · rw [if_neg hb, if_neg hb, impl_Wrap_eq, Option.bind_some, w32_w64]
  rw [if_neg h11, if_neg h11]
  by_cases hb : b = 0
  · rw [if_pos hb, if_pos hb]
  · rw [if_neg hb, if_neg hb]
theorem spec_Apply_ev (op a b : Int) (ho : 1 ≤ op ∧ op ≤ 12) (ha : vw a = true) (hb : vw b = true) : EvP (fun k => spec_Apply.f k op a b) (· = (ap op a b, true)) := by
  have hs := and31 b
  unfold spec_Apply.f ap
  refine EvP.bind0 (spec_OpValid_eq op) (EvP.yes (by simp; exact ho) (EvP.bind0 (spec_WordValid_eq a) (EvP.yes ha (EvP.bind0 (spec_WordValid_eq b) ?_))))
  rw [hb]
  refine EvP.step (fun k => spec_Apply.j0.eq_2 (k := k) ..) (EvP.no (by simp) ?_)
  refine EvP.ite (fun h => EvP.ret (by rw [if_pos h])) (fun h => ?_)
  rw [if_neg h]
  refine EvP.ite (fun h => EvP.ret (by rw [if_pos h])) (fun h => ?_)
  rw [if_neg h]
  refine EvP.ite (fun h => EvP.ret (by rw [if_pos h])) (fun h => ?_)
  rw [if_neg h]
  refine EvP.ite (fun h => EvP.bind0 (spec_l2Flag_eq _) (EvP.ret (by rw [if_pos h]; simp))) (fun h => ?_)
  rw [if_neg h]
  refine EvP.ite (fun h => EvP.bind0 (spec_l2Flag_eq _) (EvP.ret (by rw [if_pos h]; simp))) (fun h => ?_)
  rw [if_neg h]
  refine EvP.ite (fun h => ?_) (fun h => ?_)
  · rw [if_pos h]
    unfold spec_l2Shift.f
    rw [if_neg (by simp), if_pos hs.1, spec_Wrap_eq, Option.bind_some]
    exact EvP.bind0 rfl (EvP.ret rfl)
  rw [if_neg h]
  refine EvP.ite (fun h => ?_) (fun h => ?_)
  · rw [if_pos h]
    unfold spec_l2Shift.f
    rw [if_pos rfl, if_pos hs.1]
    exact EvP.bind0 rfl (EvP.ret rfl)
  rw [if_neg h]
  refine EvP.ite (fun h => EvP.bind0 (spec_Wrap_eq _) (EvP.ret (by rw [if_pos h, w32_w64]))) (fun h => ?_)
  rw [if_neg h]
  refine EvP.ite (fun h => EvP.bind0 (spec_Wrap_eq _) (EvP.ret (by rw [if_pos h, w32_w64]))) (fun h => ?_)
  rw [if_neg h]
  refine EvP.ite (fun h => EvP.bind0 (spec_Wrap_eq _) (EvP.ret (by rw [if_pos h, w32_w64]))) (fun h => ?_)
  rw [if_neg h]
  refine EvP.ite (fun h => ?_) (fun h => ?_)
  · rw [if_pos h]
    unfold spec_l2Divide.f
    by_cases hz : b = 0
    · rw [if_pos hz, if_pos hz]
      exact EvP.bind0 rfl (EvP.ret rfl)
    · rw [if_neg hz, if_neg hz, spec_Wrap_eq, Option.bind_some, w32_w64]
      exact EvP.bind0 rfl (EvP.ret rfl)
  rw [if_neg h]
  unfold spec_l2Remain.f
  by_cases hz : b = 0
  · rw [if_pos hz, if_pos hz]
    exact EvP.bind0 rfl (EvP.ret rfl)
  · rw [if_neg hz, if_neg hz]
    exact EvP.bind0 rfl (EvP.ret rfl)
theorem impl_exprEval_ev (vs : List Int) (hv : vs.length = 4) : ∀ x : X, x.ok → EvP (fun k => impl_exprEval.f k (emb x).f0 (emb x).f1 (emb x).f2 vs) (· = x.eval (rd vs))
  | .num n, h => EvP.step (fun k => impl_exprEval.f.eq_2 (k := k) ..) (EvP.yes rfl (EvP.ret rfl))
  | .var v, h => EvP.step (fun k => impl_exprEval.f.eq_2 (k := k) ..) (EvP.no (by simp [emb]) (EvP.yes rfl (EvP.yes h.1 (EvP.yes (by have := h.2; simp only [emb]; omega) (EvP.ret rfl)))))
  | .bin op a b, h => by
    have ho := h.1
    refine EvP.step (fun k => impl_exprEval.f.eq_2 (k := k) ..) (EvP.no (by simp only [emb]; omega) (EvP.no (by simp only [emb]; omega) (EvP.yes (by simp [emb]) ?_)))
    refine EvP.bindEq (impl_exprEval_ev vs hv a h.2.1) (EvP.yes (by simp [emb]) (EvP.bindEq (impl_exprEval_ev vs hv b h.2.2) ?_))
    exact EvP.of (impl_apply_eq _ _ _) rfl
theorem spec_l4Eval_ev (vs : List Int) (hv : vs.length = 4) (hw : ∀ v, 0 ≤ v → v < 4 → vw (rd vs v) = true) : ∀ x : X, x.ok → EvP (fun k => spec_l4Eval.f k (emb x).f0 (emb x).f1 (emb x).f2 vs) (· = x.eval (rd vs))
  | .num n, h => EvP.step (fun k => spec_l4Eval.f.eq_2 (k := k) ..) (EvP.yes rfl (EvP.ret rfl))
  | .var v, h => EvP.step (fun k => spec_l4Eval.f.eq_2 (k := k) ..) (EvP.no (by simp [emb]) (EvP.yes rfl (EvP.yes h.1 (EvP.yes (by have := h.2; simp only [emb]; omega) (EvP.ret rfl)))))
  | .bin op a b, h => by
    have ho := h.1
    refine EvP.step (fun k => spec_l4Eval.f.eq_2 (k := k) ..) (EvP.no (by simp only [emb]; omega) (EvP.no (by simp only [emb]; omega) (EvP.yes (by simp [emb]) ?_)))
    refine EvP.bindEq (spec_l4Eval_ev vs hv hw a h.2.1) (EvP.yes (by simp [emb]) (EvP.bindEq (spec_l4Eval_ev vs hv hw b h.2.2) ?_))
    exact EvP.bindEq (spec_Apply_ev _ _ _ ho (X.eval_word hw a h.2.1) (X.eval_word hw b h.2.2)) (EvP.ret rfl)
/-- Are these the values of the variables? -/
def vars4 (vs : List Int) : Bool := decide (vs.length = 4) && vs.all vw
theorem vars4_iff {vs : List Int} : vars4 vs = true ↔ vs.length = 4 ∧ vs.all vw = true := by
  unfold vars4
  simp only [Bool.and_eq_true, decide_eq_true_eq]
theorem vars4_words {vs : List Int} (h : vars4 vs = true) : ∀ v, 0 ≤ v → v < 4 → vw (rd vs v) = true := by
  intro v h0 h4
  obtain ⟨h1, h2⟩ := vars4_iff.1 h
  exact List.all_eq_true.1 h2 _ (rd_mem vs v h0 (by omega))
theorem impl_ExprEval_yes {vs : List Int} (hv : vars4 vs = true) (x : X) (hx : x.ok) (hd : x.depth ≤ 5) : EvP (fun k => impl_ExprEval.f k (emb x).f0 (emb x).f1 (emb x).f2 vs) (· = (x.eval (rd vs), true)) := by
  obtain ⟨h1, h2⟩ := vars4_iff.1 hv
  unfold impl_ExprEval.f
  refine EvP.bindEq (impl_ExprValid_ev _ _ _) (EvP.yes (by rw [vx_emb x 5 hx]; exact decide_eq_true hd) (EvP.yes (by omega) (EvP.bindEq (areWords_ev vs (by omega)) (EvP.yes h2 ?_))))
  exact EvP.bindEq (impl_exprEval_ev vs h1 x hx) (EvP.ret rfl)
theorem spec_ExprEval_yes {vs : List Int} (hv : vars4 vs = true) (x : X) (hx : x.ok) (hd : x.depth ≤ 5) : EvP (fun k => spec_ExprEval.f k (emb x).f0 (emb x).f1 (emb x).f2 vs) (· = (x.eval (rd vs), true)) := by
  obtain ⟨h1, h2⟩ := vars4_iff.1 hv
  unfold spec_ExprEval.f
  refine EvP.bindEq (spec_ExprValid_ev _ _ _) (EvP.yes (by rw [vx_emb x 5 hx]; exact decide_eq_true hd) (EvP.bindEq (l4Words_ev vs 4 (by omega)) (EvP.yes (by rw [h2, decide_eq_true (by omega)]; rfl) ?_)))
  exact EvP.bindEq (spec_l4Eval_ev vs h1 (vars4_words hv) x hx) (EvP.ret rfl)
theorem impl_ExprEval_no {op n : Int} {l : List S25} {vs : List Int} (hl : vs.length ≤ 1000000000) (h : (vx 5 op n l && vars4 vs) = false) : EvP (fun k => impl_ExprEval.f k op n l vs) (· = (0, false)) := by
  unfold impl_ExprEval.f
  refine EvP.bindEq (impl_ExprValid_ev _ _ _) (EvP.ite (fun h1 => EvP.ite (fun h2 => EvP.bindEq (areWords_ev vs hl) (EvP.ite (fun h3 => ?_) (fun _ => EvP.ret rfl))) (fun _ => EvP.ret rfl)) (fun _ => EvP.ret rfl))
  have : vars4 vs = true := vars4_iff.2 ⟨by omega, h3⟩
  rw [h1, this] at h
  cases h
theorem spec_ExprEval_no {op n : Int} {l : List S25} {vs : List Int} (hl : vs.length ≤ 1000000000) (h : (vx 5 op n l && vars4 vs) = false) : EvP (fun k => spec_ExprEval.f k op n l vs) (· = (0, false)) := by
  unfold spec_ExprEval.f
  refine EvP.bindEq (spec_ExprValid_ev _ _ _) (EvP.ite (fun h1 => EvP.bindEq (l4Words_ev vs 4 hl) (EvP.ite (fun h3 => ?_) (fun _ => EvP.ret rfl))) (fun _ => EvP.ret rfl))
  simp only [Bool.and_eq_true, decide_eq_true_eq] at h3
  have : vars4 vs = true := vars4_iff.2 ⟨by omega, h3.2⟩
  rw [h1, this] at h
  cases h
end Go.Proofs.Ytajifknepdikbaa.PA

/- Expressions: depths, sizes, variables, simplifying, comparing, on valid expressions as trees. -/
namespace Go.Proofs.Ytajifknepdikbaa.PA
open Go.RowKit Go.Proofs.YtajifknepdikbaaW.PrintWords Go.Proofs.YtajifknepdikbaaW.PrintMore Go.Proofs.Ytajifknepdikbaa.Core
theorem exprDepth_0 (d : Int) (h : -1000000 ≤ d) (h2 : d ≤ 1000000) : EvP (fun k => impl_exprDepth.l0 k d ([] : List S25) (([] : List S25).length : Int) 0) (· = d + 1) := by
  refine EvP.step (fun k => impl_exprDepth.l0.eq_2 (k := k) ..) (EvP.no (by simp) (EvP.ret ?_))
  exact w64 (by omega) (by omega)
theorem impl_exprDepth_ev : ∀ x : X, x.depth ≤ 1000 → EvP (fun k => impl_exprDepth.f k (emb x).f0 (emb x).f1 (emb x).f2) (· = (x.depth : Int))
  | .num n, h => EvP.step (fun k => impl_exprDepth.f.eq_2 (k := k) ..) (exprDepth_0 0 (by omega) (by omega))
  | .var v, h => EvP.step (fun k => impl_exprDepth.f.eq_2 (k := k) ..) (exprDepth_0 0 (by omega) (by omega))
  | .bin op a b, h => by
    have e : (X.bin op a b).depth = max a.depth b.depth + 1 := rfl
    refine EvP.step (fun k => impl_exprDepth.f.eq_2 (k := k) ..) ?_
    simp only [emb, List.length_cons, List.length_nil]
    refine EvP.step (fun k => impl_exprDepth.l0.eq_2 (k := k) ..) (EvP.yes (by omega) (EvP.yes (by omega) (EvP.yes (by simp) ?_)))
    rw [rdE_0]
    refine EvP.bindEq (impl_exprDepth_ev a (by omega)) ?_
    rw [w64 (by omega) (by omega), show (0 : Int) + 1 = 1 from rfl]
    refine EvP.step (fun k => impl_exprDepth.l0.eq_2 (k := k) ..) (EvP.yes (by omega) (EvP.yes (by omega) (EvP.yes (by simp) ?_)))
    rw [rdE_1]
    refine EvP.bindEq (impl_exprDepth_ev b (by omega)) ?_
    rw [w64 (n := 1 + 1) (by omega) (by omega), show (1 : Int) + 1 = 2 from rfl]
    refine EvP.step (fun k => impl_exprDepth.l0.eq_2 (k := k) ..) (EvP.no (by omega) (EvP.ret ?_))
    have hm : mx (mx 0 (a.depth : Int)) (b.depth : Int) = max (a.depth : Int) (b.depth : Int) := by
      unfold mx
      split <;> split <;> omega
    rw [hm, w64 (by omega) (by omega)]
    omega
theorem impl_ExprDepth_yes (x : X) (hx : x.ok) (hd : x.depth ≤ 5) : EvP (fun k => impl_ExprDepth.f k (emb x).f0 (emb x).f1 (emb x).f2) (· = (x.depth : Int)) := by
  unfold impl_ExprDepth.f
  refine EvP.bindEq (impl_ExprValid_ev _ _ _) (EvP.yes (by rw [vx_emb x 5 hx]; exact decide_eq_true hd) ?_)
  exact EvP.bindEq (impl_exprDepth_ev x (by omega)) (EvP.ret rfl)
theorem exprSize_0 (d : Int) : EvP (fun k => impl_exprSize.l0 k d ([] : List S25) (([] : List S25).length : Int) 0) (· = d) :=
  EvP.step (fun k => impl_exprSize.l0.eq_2 (k := k) ..) (EvP.no (by simp) (EvP.ret rfl))
theorem impl_exprSize_ev : ∀ x : X, x.size ≤ 1000000 → EvP (fun k => impl_exprSize.f k (emb x).f0 (emb x).f1 (emb x).f2) (· = (x.size : Int))
  | .num n, h => EvP.step (fun k => impl_exprSize.f.eq_2 (k := k) ..) (exprSize_0 1)
  | .var v, h => EvP.step (fun k => impl_exprSize.f.eq_2 (k := k) ..) (exprSize_0 1)
  | .bin op a b, h => by
    have e : (X.bin op a b).size = a.size + b.size + 1 := rfl
    refine EvP.step (fun k => impl_exprSize.f.eq_2 (k := k) ..) ?_
    simp only [emb, List.length_cons, List.length_nil]
    refine EvP.step (fun k => impl_exprSize.l0.eq_2 (k := k) ..) (EvP.yes (by omega) (EvP.yes (by omega) (EvP.yes (by simp) ?_)))
    rw [rdE_0]
    refine EvP.bindEq (impl_exprSize_ev a (by omega)) ?_
    rw [w64 (n := 0 + 1) (by omega) (by omega), w64 (n := 1 + (a.size : Int)) (by omega) (by omega), show (0 : Int) + 1 = 1 from rfl]
    refine EvP.step (fun k => impl_exprSize.l0.eq_2 (k := k) ..) (EvP.yes (by omega) (EvP.yes (by omega) (EvP.yes (by simp) ?_)))
    rw [rdE_1]
    refine EvP.bindEq (impl_exprSize_ev b (by omega)) ?_
    rw [w64 (n := 1 + 1) (by omega) (by omega), w64 (n := 1 + (a.size : Int) + (b.size : Int)) (by omega) (by omega), show (1 : Int) + 1 = 2 from rfl]
    refine EvP.step (fun k => impl_exprSize.l0.eq_2 (k := k) ..) (EvP.no (by omega) (EvP.ret ?_))
    omega
theorem size_32 (x : X) (hd : x.depth ≤ 5) : x.size ≤ 31 := by
  have h1 := X.size_depth x
  have h2 : 2 ^ x.depth ≤ 2 ^ 5 := Nat.pow_le_pow_right (by omega) hd
  omega
theorem impl_ExprSize_yes (x : X) (hx : x.ok) (hd : x.depth ≤ 5) : EvP (fun k => impl_ExprSize.f k (emb x).f0 (emb x).f1 (emb x).f2) (· = (x.size : Int)) := by
  have := size_32 x hd
  unfold impl_ExprSize.f
  refine EvP.bindEq (impl_ExprValid_ev _ _ _) (EvP.yes (by rw [vx_emb x 5 hx]; exact decide_eq_true hd) ?_)
  exact EvP.bindEq (impl_exprSize_ev x (by omega)) (EvP.ret rfl)
theorem exprUses_0 (v : Int) : EvP (fun k => impl_exprUses.l0 k v ([] : List S25) (([] : List S25).length : Int) 0) (· = false) :=
  EvP.step (fun k => impl_exprUses.l0.eq_2 (k := k) ..) (EvP.no (by simp) (EvP.ret rfl))
theorem impl_exprUses_ev (v : Int) : ∀ x : X, x.ok → EvP (fun k => impl_exprUses.f k (emb x).f0 (emb x).f1 (emb x).f2 v) (· = x.uses v)
  | .num n, h => EvP.step (fun k => impl_exprUses.f.eq_2 (k := k) ..) (EvP.no (by simp [emb]) (exprUses_0 v))
  | .var u, h => EvP.step (fun k => impl_exprUses.f.eq_2 (k := k) ..) (EvP.yes rfl (EvP.ret (by simp only [X.uses, emb]; rw [Bool.eq_iff_iff, beq_iff_eq, decide_eq_true_eq])))
  | .bin op a b, h => by
    have ho := h.1
    refine EvP.step (fun k => impl_exprUses.f.eq_2 (k := k) ..) (EvP.no (by simp only [emb]; omega) ?_)
    simp only [emb, List.length_cons, List.length_nil]
    refine EvP.step (fun k => impl_exprUses.l0.eq_2 (k := k) ..) (EvP.yes (by omega) (EvP.yes (by omega) (EvP.yes (by simp) ?_)))
    rw [rdE_0]
    refine EvP.bindEq (impl_exprUses_ev v a h.2.1) (EvP.ite (fun h1 => EvP.ret (by rw [X.uses, h1, Bool.true_or])) (fun h1 => ?_))
    rw [w64 (by omega) (by omega), show (0 : Int) + 1 = 1 from rfl]
    refine EvP.step (fun k => impl_exprUses.l0.eq_2 (k := k) ..) (EvP.yes (by omega) (EvP.yes (by omega) (EvP.yes (by simp) ?_)))
    rw [rdE_1]
    refine EvP.bindEq (impl_exprUses_ev v b h.2.2) (EvP.ite (fun h2 => EvP.ret (by rw [X.uses, h2, Bool.or_true])) (fun h2 => ?_))
    rw [w64 (n := 1 + 1) (by omega) (by omega), show (1 : Int) + 1 = 2 from rfl]
    refine EvP.step (fun k => impl_exprUses.l0.eq_2 (k := k) ..) (EvP.no (by omega) (EvP.ret ?_))
    rw [X.uses, Bool.eq_false_iff.mpr h1, Bool.eq_false_iff.mpr h2]
    rfl
theorem impl_ExprUses_yes (v : Int) (x : X) (hx : x.ok) (hd : x.depth ≤ 5) : EvP (fun k => impl_ExprUses.f k (emb x).f0 (emb x).f1 (emb x).f2 v) (· = x.uses v) := by
  unfold impl_ExprUses.f
  refine EvP.bindEq (impl_ExprValid_ev _ _ _) (EvP.yes (by rw [vx_emb x 5 hx]; exact decide_eq_true hd) ?_)
  exact EvP.bindEq (impl_exprUses_ev v x hx) (EvP.ret rfl)
theorem emb_op {x : X} (h : x.ok) : (emb x).f0 = 0 ↔ ∃ n, x = .num n := by
  cases x with
  | num n => exact ⟨fun _ => ⟨n, rfl⟩, fun _ => rfl⟩
  | var v =>
    refine ⟨fun e => ?_, fun ⟨n, e⟩ => by cases e⟩
    simp [emb] at e
  | bin op a b =>
    refine ⟨fun e => ?_, fun ⟨n, e⟩ => by cases e⟩
    have e : op = 0 := e
    have ho := h.1
    omega
theorem tri_bin (op : Int) (a b : X) : tri (emb (.bin op a b)) = (op, 0, [emb a, emb b]) := rfl
theorem impl_exprFold_ev : ∀ x : X, x.ok → EvP (fun k => impl_exprFold.f k (emb x).f0 (emb x).f1 (emb x).f2) (· = tri (emb x.fold))
  | .num n, h => EvP.step (fun k => impl_exprFold.f.eq_2 (k := k) ..) (EvP.yes rfl (EvP.ret rfl))
  | .var v, h => EvP.step (fun k => impl_exprFold.f.eq_2 (k := k) ..) (EvP.yes rfl (EvP.ret rfl))
  | .bin op a b, h => by
    have ha := X.fold_ok a h.2.1
    have hb := X.fold_ok b h.2.2
    have he : (X.bin op a b).fold = X.foldB op a.fold b.fold := rfl
    rw [he]
    refine EvP.step (fun k => impl_exprFold.f.eq_2 (k := k) ..) (EvP.no (by simp [emb]) (EvP.yes (by simp [emb]) ?_))
    refine EvP.bindEq (impl_exprFold_ev a h.2.1) (EvP.yes (by simp [emb]) (EvP.bindEq (impl_exprFold_ev b h.2.2) ?_))
    generalize a.fold = x at ha ⊢
    generalize b.fold = y at hb ⊢
    simp only [tri]
    have stay : (¬ ∃ m n, x = .num m ∧ y = .num n) → X.foldB op x y = .bin op x y := fun hn => X.foldB_of fun m n e1 e2 => absurd ⟨m, n, e1, e2⟩ hn
    refine EvP.ite (fun hx => ?_) (fun hx => ?_)
    · obtain ⟨m, rfl⟩ := (emb_op ha).1 hx
      refine EvP.step (fun k => impl_exprFold.j0.eq_2 (k := k) ..) (EvP.ite (fun hy => ?_) (fun hy => EvP.ret ?_))
      · obtain ⟨n, rfl⟩ := (emb_op hb).1 (by simpa using hy)
        refine EvP.bind0 (impl_apply_eq _ _ _) ?_
        simp only [emb, X.foldB]
        refine EvP.ite (fun h1 => EvP.ite (fun h2 => EvP.ret ?_) (fun h2 => EvP.ret ?_)) (fun h1 => EvP.ret ?_)
        · rw [if_pos ⟨h1, h2⟩]
          rfl
        · rw [if_neg (fun e => h2 e.2)]
          rfl
        · rw [if_neg (fun e => h1 e.1)]
          rfl
      · rw [stay (fun ⟨m', n, _, e⟩ => hy (by rw [e]; rfl))]
        simp only [emb, etaE]
    · refine EvP.step (fun k => impl_exprFold.j0.eq_2 (k := k) ..) (EvP.no (by simp) (EvP.ret ?_))
      rw [stay (fun ⟨m', n, e, _⟩ => hx (by rw [e]; rfl))]
      simp only [emb, etaE]
theorem spec_l4Fold_ev : ∀ x : X, x.ok → EvP (fun k => spec_l4Fold.f k (emb x).f0 (emb x).f1 (emb x).f2) (· = tri (emb x.fold))
  | .num n, h => EvP.step (fun k => spec_l4Fold.f.eq_2 (k := k) ..) (EvP.yes rfl (EvP.bind0 rfl (EvP.ret rfl)))
  | .var v, h => EvP.step (fun k => spec_l4Fold.f.eq_2 (k := k) ..) (EvP.yes rfl (EvP.bind0 rfl (EvP.ret rfl)))
  | .bin op a b, h => by
    have ha := X.fold_ok a h.2.1
    have hb := X.fold_ok b h.2.2
    have he : (X.bin op a b).fold = X.foldB op a.fold b.fold := rfl
    rw [he]
    refine EvP.step (fun k => spec_l4Fold.f.eq_2 (k := k) ..) (EvP.no (by simp [emb]) (EvP.yes (by simp [emb]) ?_))
    refine EvP.bindEq (spec_l4Fold_ev a h.2.1) (EvP.yes (by simp [emb]) (EvP.bindEq (spec_l4Fold_ev b h.2.2) ?_))
    generalize a.fold = x at ha ⊢
    generalize b.fold = y at hb ⊢
    simp only [tri]
    have stay : (¬ ∃ m n, x = .num m ∧ y = .num n) → X.foldB op x y = .bin op x y := fun hn => X.foldB_of fun m n e1 e2 => absurd ⟨m, n, e1, e2⟩ hn
    refine EvP.ite (fun hx => ?_) (fun hx => ?_)
    · obtain ⟨m, rfl⟩ := (emb_op ha).1 hx
      refine EvP.step (fun k => spec_l4Fold.j0.eq_2 (k := k) ..) (EvP.ite (fun hy => ?_) (fun hy => EvP.bind0 rfl (EvP.ret ?_)))
      · obtain ⟨n, rfl⟩ := (emb_op hb).1 (by simpa using hy)
        have hm : 0 ≤ m ∧ m ≤ 99999 := ha
        have hn : 0 ≤ n ∧ n ≤ 99999 := hb
        refine EvP.bindEq (spec_Apply_ev _ _ _ h.1 (vw_iff.2 (by simp only [emb]; omega)) (vw_iff.2 (by simp only [emb]; omega))) (EvP.bind0 (l6In_eq _ _ _) ?_)
        simp only [emb, X.foldB]
        refine EvP.ite (fun h1 => EvP.bind0 rfl (EvP.ret ?_)) (fun h1 => EvP.bind0 rfl (EvP.ret ?_))
        · rw [Bool.and_eq_true] at h1
          rw [if_pos ⟨of_decide_eq_true h1.1, of_decide_eq_true h1.2⟩]
          rfl
        · rw [Bool.and_eq_true] at h1
          rw [if_neg (fun e => h1 ⟨decide_eq_true e.1, decide_eq_true e.2⟩)]
          rfl
      · rw [stay (fun ⟨m', n, _, e⟩ => hy (by rw [e]; rfl))]
        simp only [emb, etaE]
    · refine EvP.step (fun k => spec_l4Fold.j0.eq_2 (k := k) ..) (EvP.no (by simp) (EvP.bind0 rfl (EvP.ret ?_)))
      rw [stay (fun ⟨m', n, e, _⟩ => hx (by rw [e]; rfl))]
      simp only [emb, etaE]
theorem impl_ExprFold_yes (x : X) (hx : x.ok) (hd : x.depth ≤ 5) : EvP (fun k => impl_ExprFold.f k (emb x).f0 (emb x).f1 (emb x).f2) (· = ((emb x.fold).f0, (emb x.fold).f1, (emb x.fold).f2, true)) := by
  unfold impl_ExprFold.f
  refine EvP.bindEq (impl_ExprValid_ev _ _ _) (EvP.yes (by rw [vx_emb x 5 hx]; exact decide_eq_true hd) ?_)
  exact EvP.bindEq (impl_exprFold_ev x hx) (EvP.ret rfl)
theorem spec_ExprFold_yes (x : X) (hx : x.ok) (hd : x.depth ≤ 5) : EvP (fun k => spec_ExprFold.f k (emb x).f0 (emb x).f1 (emb x).f2) (· = ((emb x.fold).f0, (emb x.fold).f1, (emb x.fold).f2, true)) := by
  unfold spec_ExprFold.f
  refine EvP.bindEq (spec_ExprValid_ev _ _ _) (EvP.yes (by rw [vx_emb x 5 hx]; exact decide_eq_true hd) ?_)
  exact EvP.bindEq (spec_l4Fold_ev x hx) (EvP.ret rfl)
theorem impl_ExprFold_no {op n : Int} {l : List S25} (h : vx 5 op n l = false) : EvP (fun k => impl_ExprFold.f k op n l) (· = (0, 0, [], false)) := by
  unfold impl_ExprFold.f
  exact EvP.bindEq (impl_ExprValid_ev _ _ _) (EvP.no (by rw [h]; simp) (EvP.ret rfl))
theorem spec_ExprFold_no {op n : Int} {l : List S25} (h : vx 5 op n l = false) : EvP (fun k => spec_ExprFold.f k op n l) (· = (0, 0, [], false)) := by
  unfold spec_ExprFold.f
  exact EvP.bindEq (spec_ExprValid_ev _ _ _) (EvP.no (by rw [h]; simp) (EvP.ret rfl))
theorem sameExpr_0 (o n : Int) : EvP (fun k => laws_sameExpr.f k o n ([] : List S25) o n []) (· = true) := by
  refine EvP.step (fun k => laws_sameExpr.f.eq_2 (k := k) ..) (EvP.yes rfl (EvP.yes rfl ?_))
  refine EvP.step (fun k => laws_sameExpr.j0.eq_2 (k := k) ..) (EvP.no (by simp) ?_)
  exact EvP.step (fun k => laws_sameExpr.l0.eq_2 (k := k) ..) (EvP.no (by simp) (EvP.ret rfl))
theorem sameExpr_ev : ∀ x : X, EvP (fun k => laws_sameExpr.f k (emb x).f0 (emb x).f1 (emb x).f2 (emb x).f0 (emb x).f1 (emb x).f2) (· = true)
  | .num n => sameExpr_0 _ _
  | .var v => sameExpr_0 _ _
  | .bin op a b => by
    refine EvP.step (fun k => laws_sameExpr.f.eq_2 (k := k) ..) (EvP.yes rfl (EvP.yes rfl ?_))
    refine EvP.step (fun k => laws_sameExpr.j0.eq_2 (k := k) ..) (EvP.no (by simp) ?_)
    simp only [emb]
    refine EvP.step (fun k => laws_sameExpr.l0.eq_2 (k := k) ..) (EvP.yes (by simp) (EvP.yes (by omega) (EvP.yes (by simp) ?_)))
    rw [rdE_0]
    refine EvP.bindEq (sameExpr_ev a) (EvP.yes rfl ?_)
    rw [w64 (by omega) (by omega), show (0 : Int) + 1 = 1 from rfl]
    refine EvP.step (fun k => laws_sameExpr.l0.eq_2 (k := k) ..) (EvP.yes (by simp) (EvP.yes (by omega) (EvP.yes (by simp) ?_)))
    rw [rdE_1]
    refine EvP.bindEq (sameExpr_ev b) (EvP.yes rfl ?_)
    rw [w64 (n := 1 + 1) (by omega) (by omega), show (1 : Int) + 1 = 2 from rfl]
    exact EvP.step (fun k => laws_sameExpr.l0.eq_2 (k := k) ..) (EvP.no (by simp) (EvP.ret rfl))
end Go.Proofs.Ytajifknepdikbaa.PA

/- Expressions: two ways of a drawn one. -/
namespace Go.Proofs.Ytajifknepdikbaa.PA
open Go.RowKit Go.Proofs.YtajifknepdikbaaW.PrintWords Go.Proofs.YtajifknepdikbaaW.PrintMore Go.Proofs.Ytajifknepdikbaa.Core
theorem vx_parts {op n : Int} {a : List S25} (h : vx 5 op n a = true) : ∃ x : X, x.ok ∧ x.depth ≤ 5 ∧ op = (emb x).f0 ∧ n = (emb x).f1 ∧ a = (emb x).f2 := by
  obtain ⟨x, h1, h2, h3⟩ := vx_tree 5 op n a h
  exact ⟨x, h1, h2, by rw [h3], by rw [h3], by rw [h3]⟩
theorem vx_yes {x : X} (h : x.ok) (hd : x.depth ≤ 5) : vx 5 (emb x).f0 (emb x).f1 (emb x).f2 = true := by
  rw [vx_emb x 5 h]
  exact decide_eq_true hd
theorem foldB_uses (v op : Int) (a b : X) (h : (X.foldB op a b).uses v = true) : (a.uses v || b.uses v) = true := by
  rcases X.foldB_stay op a b with e | ⟨m, e⟩
  · rw [e] at h
    exact h
  · rw [e] at h
    cases h
theorem fold_uses (v : Int) : ∀ x : X, x.fold.uses v = true → x.uses v = true
  | .num _, h => h
  | .var _, h => h
  | .bin op a b, h => by
    have h2 := foldB_uses v op _ _ h
    rw [Bool.or_eq_true] at h2
    rw [X.uses, Bool.or_eq_true]
    exact h2.imp (fold_uses v a) (fold_uses v b)
end Go.Proofs.Ytajifknepdikbaa.PA

/- The exact comparison's words on expressions: counting, copying, comparing. -/
namespace Go.Proofs.Ytajifknepdikbaa.PA
open Go.RowKit Go.Proofs.YtajifknepdikbaaW.PrintWords Go.Proofs.YtajifknepdikbaaW.PrintMore Go.Proofs.Ytajifknepdikbaa.Core
mutual
def trE : S34 → S25
  | ⟨a, b, l⟩ => ⟨a, b, trEs l⟩
def trEs : List S34 → List S25
  | [] => []
  | x :: xs => trE x :: trEs xs
end
mutual
def cntE : S34 → Nat
  | ⟨_, _, l⟩ => cntEs l
def cntEs : List S34 → Nat
  | [] => 0
  | x :: xs => cntE x + 1 + cntEs xs
end
theorem etaLE (a : S34) : (⟨a.f0, a.f1, a.f2⟩ : S34) = a := by
  cases a
  rfl
theorem trE_f (x : S34) : trE x = ⟨x.f0, x.f1, trEs x.f2⟩ := by
  cases x
  rw [trE]
theorem cntE_f (x : S34) : cntE x = cntEs x.f2 := by
  cases x
  rw [cntE]
theorem trEs_length : ∀ l : List S34, (trEs l).length = l.length
  | [] => by rw [trEs]; rfl
  | x :: xs => by rw [trEs, List.length_cons, List.length_cons, trEs_length xs]
theorem trEs_get : ∀ (l : List S34) (i : Nat) (h : i < l.length), (trEs l)[i]'(by rw [trEs_length]; exact h) = trE l[i]
  | x :: xs, 0, _ => by simp [trEs]
  | x :: xs, i + 1, h => by
    have h2 := trEs_get xs i (by simpa using h)
    simp only [trEs, List.getElem_cons_succ]
    exact h2
theorem cntEs_length : ∀ l : List S34, l.length ≤ cntEs l
  | [] => Nat.zero_le _
  | x :: xs => by
    have := cntEs_length xs
    rw [cntEs, List.length_cons]
    omega
theorem cntEs_mem : ∀ (l : List S34) (x : S34), x ∈ l → cntE x ≤ cntEs l
  | y :: ys, x, h => by
    rw [cntEs]
    rcases List.mem_cons.1 h with rfl | h
    · omega
    · have := cntEs_mem ys x h
      omega
theorem cntEs_drop (l : List S34) (i : Nat) (h : i < l.length) : cntEs (l.drop i) = cntE l[i] + 1 + cntEs (l.drop (i + 1)) := by
  rw [List.drop_eq_getElem_cons h, cntEs]
theorem cntEs_of_drop (l : List S34) : ∀ i, (cntEs (l.drop i)) ≤ cntEs l := by
  intro i
  induction i with
  | zero => exact Nat.le_refl _
  | succ i ih =>
    by_cases h : i < l.length
    · rw [cntEs_drop l i h] at ih
      omega
    · rw [List.drop_eq_nil_of_le (by omega)]
      exact Nat.zero_le _
theorem ind_LE {P : S34 → Prop} (h : ∀ e : S34, (∀ x ∈ e.f2, P x) → P e) (e : S34) : P e :=
  S34.rec (motive_1 := P) (motive_2 := fun l => ∀ x ∈ l, P x) (fun a b l ih => h ⟨a, b, l⟩ ih) (fun x hx => by simp at hx) (fun y ys h1 h2 x hx => by
    rcases List.mem_cons.1 hx with rfl | hx
    · exact h1
    · exact h2 x hx) e
theorem rdLE_nat (l : List S34) (i : Nat) (h : i < l.length) : rd_T34 l (i : Int) = l[i] := by
  unfold rd_T34
  rw [Int.toNat_natCast, List.getD_eq_getElem?_getD, List.getElem?_eq_getElem h]
  rfl
/-- What is left of a bound. -/
def lefts (c : Nat) (n : Int) : Int := if (c : Int) ≤ n then n - c else -1
theorem szExprS_l0 (l : List S34) (hl : l.length ≤ 1048576) (he : ∀ x ∈ l, ∀ n : Int, 0 ≤ n → n ≤ 1048576 → EvP (fun k => laws_szExpr.f k x.f0 x.f1 x.f2 n) (· = lefts (cntE x) n)) :
    ∀ (d j : Nat) (n : Int), j + d = l.length → 0 ≤ n → n ≤ 1048576 → EvP (fun k => laws_szExprS.l0 k l n (j : Int)) (· = lefts (cntEs (l.drop j) - d) n) := by
  intro d
  induction d with
  | zero =>
    intro j n hj h0 h1
    refine EvP.step (fun k => laws_szExprS.l0.eq_2 (k := k) ..) (EvP.no (by omega) (EvP.ret ?_))
    rw [List.drop_eq_nil_of_le (by omega)]
    unfold lefts
    rw [if_pos (by simp [cntEs]; omega)]
    simp [cntEs]
  | succ d ih =>
    intro j n hj h0 h1
    have hlt : j < l.length := by omega
    have hc := cntEs_drop l j hlt
    have hd : d ≤ cntEs (l.drop (j + 1)) := by
      have := cntEs_length (l.drop (j + 1))
      rw [List.length_drop] at this
      omega
    refine EvP.step (fun k => laws_szExprS.l0.eq_2 (k := k) ..) (EvP.yes (by omega) (EvP.yes (by omega) ?_))
    rw [rdLE_nat l j hlt, w64 (n := (j : Int) + 1) (by omega) (by omega)]
    refine EvP.bindEq (he _ (List.getElem_mem hlt) n h0 h1) ?_
    by_cases h2 : (cntE l[j] : Int) ≤ n
    · have e : lefts (cntE l[j]) n = n - cntE l[j] := if_pos h2
      rw [e]
      refine EvP.no (by omega) ?_
      refine (ih (j + 1) (n - cntE l[j]) (by omega) (by omega) (by omega)).mono fun a ha => ?_
      rw [ha]
      unfold lefts
      by_cases h3 : ((cntEs (l.drop (j + 1)) - d : Nat) : Int) ≤ n - cntE l[j]
      · rw [if_pos h3, if_pos (by omega)]
        omega
      · rw [if_neg h3, if_neg (by omega)]
    · have e : lefts (cntE l[j]) n = -1 := if_neg h2
      rw [e]
      refine EvP.yes (by omega) (EvP.ret ?_)
      unfold lefts
      rw [if_neg (by omega)]
theorem szExprS_of (l : List S34) (hl : l.length ≤ maxLen) (he : ∀ x ∈ l, ∀ n : Int, 0 ≤ n → n ≤ 1048576 → EvP (fun k => laws_szExpr.f k x.f0 x.f1 x.f2 n) (· = lefts (cntE x) n)) (n : Int) (h0 : 0 ≤ n) (h1 : n ≤ 1048576) :
    EvP (fun k => laws_szExprS.f k l n) (· = lefts (cntEs l) n) := by
  have hm : maxLen = 9223372036854775807 := rfl
  have hc := cntEs_length l
  refine EvP.step (fun k => laws_szExprS.f.eq_2 (k := k) ..) ?_
  rw [w64 (by omega) (by omega)]
  refine EvP.ite (fun h => EvP.ret ?_) (fun h => ?_)
  · unfold lefts
    rw [if_neg (by omega)]
  · refine (szExprS_l0 l (by omega) he l.length 0 (n - l.length) (by omega) (by omega) (by omega)).mono fun a ha => ?_
    rw [ha, List.drop_zero]
    unfold lefts
    by_cases h3 : ((cntEs l - l.length : Nat) : Int) ≤ n - l.length
    · rw [if_pos h3, if_pos (by omega)]
      omega
    · rw [if_neg h3, if_neg (by omega)]
theorem szExpr_ev (e : S34) : WF34 e → ∀ n : Int, 0 ≤ n → n ≤ 1048576 → EvP (fun k => laws_szExpr.f k e.f0 e.f1 e.f2 n) (· = lefts (cntE e) n) := by
  refine ind_LE (P := fun e => WF34 e → ∀ n : Int, 0 ≤ n → n ≤ 1048576 → EvP (fun k => laws_szExpr.f k e.f0 e.f1 e.f2 n) (· = lefts (cntE e) n)) (fun e ih hw n h0 h1 => ?_) e
  cases hw with
  | mk _ _ _ hl hx =>
    refine EvP.step (fun k => laws_szExpr.f.eq_2 (k := k) ..) ?_
    refine EvP.bindEq (szExprS_of e.f2 hl (fun x hm => ih x hm (hx x hm)) n h0 h1) ?_
    rw [cntE_f]
    refine EvP.ite (fun h => EvP.ret ?_) (fun h => EvP.ret rfl)
    unfold lefts at h ⊢
    by_cases h3 : (cntEs e.f2 : Int) ≤ n
    · rw [if_pos h3] at h
      omega
    · rw [if_neg h3]
theorem szExprS_ev (l : List S34) (hl : l.length ≤ maxLen) (hx : ∀ x ∈ l, WF34 x) (n : Int) (h0 : 0 ≤ n) (h1 : n ≤ 1048576) : EvP (fun k => laws_szExprS.f k l n) (· = lefts (cntEs l) n) :=
  szExprS_of l hl (fun x hm => szExpr_ev x (hx x hm)) n h0 h1
theorem toExprS_l0 (l : List S34) (hl : l.length ≤ 1048576) (he : ∀ x ∈ l, EvP (fun k => laws_toExpr.f k x.f0 x.f1 x.f2) (· = tri (trE x))) :
    ∀ (d j : Nat) (m : List S25), j + d = l.length → m.length = l.length → EvP (fun k => laws_toExprS.l0 k l m (j : Int)) (· = m.take j ++ trEs (l.drop j)) := by
  intro d
  induction d with
  | zero =>
    intro j m hj hm
    refine EvP.step (fun k => laws_toExprS.l0.eq_2 (k := k) ..) (EvP.no (by omega) (EvP.ret ?_))
    rw [List.drop_eq_nil_of_le (by omega), List.take_of_length_le (by omega)]
    simp [trEs]
  | succ d ih =>
    intro j m hj hm
    have hlt : j < l.length := by omega
    refine EvP.step (fun k => laws_toExprS.l0.eq_2 (k := k) ..) (EvP.yes (by omega) (EvP.yes (by omega) ?_))
    rw [rdLE_nat l j hlt, w64 (n := (j : Int) + 1) (by omega) (by omega), Int.toNat_natCast]
    refine EvP.bindEq (he _ (List.getElem_mem hlt)) (EvP.yes (by omega) ?_)
    simp only [tri, etaE]
    refine (ih (j + 1) (m.set j (trE l[j])) (by omega) (by rw [List.length_set]; exact hm)).mono fun a ha => ?_
    rw [ha, List.take_succ_eq_append_getElem (by rw [List.length_set]; omega), List.getElem_set_self, List.take_set_of_le (by omega), List.append_assoc, List.drop_eq_getElem_cons hlt, trEs]
    rfl
theorem toExprS_of (l : List S34) (hl : l.length ≤ 1048576) (he : ∀ x ∈ l, EvP (fun k => laws_toExpr.f k x.f0 x.f1 x.f2) (· = tri (trE x))) : EvP (fun k => laws_toExprS.f k l) (· = trEs l) := by
  refine EvP.step (fun k => laws_toExprS.f.eq_2 (k := k) ..) (EvP.yes (by omega) (EvP.yes (by omega) ?_))
  exact toExprS_l0 l hl he l.length 0 _ (by omega) (by rw [List.length_replicate]; omega)
theorem toExpr_ev (e : S34) : cntE e ≤ 1048576 → EvP (fun k => laws_toExpr.f k e.f0 e.f1 e.f2) (· = tri (trE e)) := by
  refine ind_LE (P := fun e => cntE e ≤ 1048576 → EvP (fun k => laws_toExpr.f k e.f0 e.f1 e.f2) (· = tri (trE e))) (fun e ih hc => ?_) e
  rw [cntE_f] at hc
  have hl := cntEs_length e.f2
  refine EvP.step (fun k => laws_toExpr.f.eq_2 (k := k) ..) ?_
  refine EvP.bindEq (toExprS_of e.f2 (by omega) (fun x hm => ih x hm (by have := cntEs_mem e.f2 x hm; omega))) (EvP.ret ?_)
  rw [trE_f]
  rfl
theorem toExprS_ev (l : List S34) (hc : cntEs l ≤ 1048576) : EvP (fun k => laws_toExprS.f k l) (· = trEs l) :=
  toExprS_of l (by have := cntEs_length l; omega) (fun x hm => toExpr_ev x (by have := cntEs_mem l x hm; omega))
theorem eqExprS_l0 (m : List S25) (hl : m.length ≤ 1048576) (he : ∀ x ∈ m, EvP (fun k => laws_eqExpr.f k x.f0 x.f1 x.f2 x.f0 x.f1 x.f2) (· = true)) :
    ∀ (d j : Nat), j + d = m.length → EvP (fun k => laws_eqExprS.l0 k m m (j : Int)) (· = true) := by
  intro d
  induction d with
  | zero =>
    intro j hj
    exact EvP.step (fun k => laws_eqExprS.l0.eq_2 (k := k) ..) (EvP.no (by omega) (EvP.ret rfl))
  | succ d ih =>
    intro j hj
    have hlt : j < m.length := by omega
    refine EvP.step (fun k => laws_eqExprS.l0.eq_2 (k := k) ..) (EvP.yes (by omega) (EvP.yes (by omega) (EvP.yes (by omega) ?_)))
    rw [rdE_nat m j hlt, w64 (n := (j : Int) + 1) (by omega) (by omega)]
    exact EvP.bindEq (he _ (List.getElem_mem hlt)) (EvP.yes rfl (ih (j + 1) (by omega)))
theorem eqExprS_of (m : List S25) (hl : m.length ≤ 1048576) (he : ∀ x ∈ m, EvP (fun k => laws_eqExpr.f k x.f0 x.f1 x.f2 x.f0 x.f1 x.f2) (· = true)) : EvP (fun k => laws_eqExprS.f k m m) (· = true) :=
  EvP.step (fun k => laws_eqExprS.f.eq_2 (k := k) ..) (EvP.yes rfl (eqExprS_l0 m hl he m.length 0 (by omega)))
/-- Short lists, all the way down. -/
inductive Short : S25 → Prop
  | mk (x : S25) (h : x.f2.length ≤ 1048576) (g : ∀ y ∈ x.f2, Short y) : Short x
theorem eqExpr_short (e : S25) (h : Short e) : EvP (fun k => laws_eqExpr.f k e.f0 e.f1 e.f2 e.f0 e.f1 e.f2) (· = true) := by
  induction h with
  | mk x h g ih =>
    refine EvP.step (fun k => laws_eqExpr.f.eq_2 (k := k) ..) (EvP.yes rfl (EvP.yes rfl ?_))
    exact EvP.bindEq (eqExprS_of x.f2 h ih) (EvP.yes rfl (EvP.ret rfl))
theorem trEs_mem {l : List S34} {y : S25} (h : y ∈ trEs l) : ∃ x ∈ l, y = trE x := by
  induction l with
  | nil => simp [trEs] at h
  | cons a l ih =>
    rw [trEs] at h
    rcases List.mem_cons.1 h with rfl | h
    · exact ⟨a, List.mem_cons_self, rfl⟩
    · obtain ⟨x, hx, e⟩ := ih h
      exact ⟨x, List.mem_cons_of_mem _ hx, e⟩
theorem short_trE (e : S34) : cntE e ≤ 1048576 → Short (trE e) := by
  refine ind_LE (P := fun e => cntE e ≤ 1048576 → Short (trE e)) (fun e ih hc => ?_) e
  rw [cntE_f] at hc
  have hl := cntEs_length e.f2
  rw [trE_f]
  refine .mk _ (by rw [trEs_length]; omega) fun y hy => ?_
  obtain ⟨x, hx, rfl⟩ := trEs_mem hy
  exact ih x hx (by have := cntEs_mem e.f2 x hx; omega)
theorem short_emb : ∀ x : X, Short (emb x)
  | .num _ => .mk _ (by simp [emb]) (fun y hy => by simp [emb] at hy)
  | .var _ => .mk _ (by simp [emb]) (fun y hy => by simp [emb] at hy)
  | .bin _ a b => .mk _ (by simp [emb]) (fun y hy => by
    simp only [emb, List.mem_cons, List.not_mem_nil, or_false] at hy
    rcases hy with rfl | rfl
    · exact short_emb a
    · exact short_emb b)
end Go.Proofs.Ytajifknepdikbaa.PA

/- FnExactExprEval returns true for every expression and every list of numbers: no condition. -/
namespace Go.Proofs.Ytajifknepdikbaa.Pure
open Go.RowKit Go.Proofs.Ytajifknepdikbaa.PA Go.Proofs.YtajifknepdikbaaW.PrintWords Go.Proofs.YtajifknepdikbaaW.PrintLast Go.Proofs.YtajifknepdikbaaW.PrintMore Go.Proofs.Ytajifknepdikbaa.Core
theorem evals (op n : Int) (l : List S25) (vs : List Int) (hl : vs.length ≤ 1000000000) : ∃ r, EvP (fun k => spec_ExprEval.f k op n l vs) (· = r) ∧ EvP (fun k => impl_ExprEval.f k op n l vs) (· = r) := by
  cases hv : (vx 5 op n l && vars4 vs) with
  | false => exact ⟨_, spec_ExprEval_no hl hv, impl_ExprEval_no hl hv⟩
  | true =>
    rw [Bool.and_eq_true] at hv
    obtain ⟨x, hx, hd, rfl, rfl, rfl⟩ := vx_parts hv.1
    exact ⟨_, spec_ExprEval_yes hv.2 x hx hd, impl_ExprEval_yes hv.2 x hx hd⟩
theorem FnExactExprEval : laws_FnExactExprEval.Pure := by
  intro a0 a1 l vs _ _ hl0 hv0
  refine EvP.ends (r := true) ?_
  unfold laws_FnExactExprEval.f
  refine EvP.ite (fun _ => EvP.ret rfl) (fun hvl => ?_)
  have hw : WF34 (⟨a0, a1, l⟩ : S34) := .mk _ (by assumption) (by assumption) hl0.1 hl0.2
  refine EvP.bindEq (szExpr_ev ⟨a0, a1, l⟩ hw 1048576 (by omega) (by omega)) (EvP.ite (fun _ => EvP.ret rfl) (fun h => ?_))
  have hc : cntE (⟨a0, a1, l⟩ : S34) ≤ 1048576 := by
    unfold lefts at h
    by_cases h2 : (cntE (⟨a0, a1, l⟩ : S34) : Int) ≤ 1048576
    · omega
    · rw [if_neg h2] at h
      omega
  have hto := toExpr_ev ⟨a0, a1, l⟩ hc
  have hi := toIntS_ev vs (by omega)
  obtain ⟨r, h1, h2⟩ := evals (trE (⟨a0, a1, l⟩ : S34)).f0 (trE (⟨a0, a1, l⟩ : S34)).f1 (trE (⟨a0, a1, l⟩ : S34)).f2 vs (by omega)
  have he := eqExpr_short _ (short_trE ⟨a0, a1, l⟩ hc)
  refine EvP.bindEq hto (EvP.bindEq hi (EvP.bindEq h1 ?_))
  refine EvP.bindEq hto (EvP.bindEq hi (EvP.bindEq h2 (EvP.yes (by simp) ?_)))
  rw [show (r.2 != r.2) = false from bne_self_eq_false' _]
  refine EvP.step (fun k => by unfold laws_FnExactExprEval.j0; exact if_neg Bool.false_ne_true) ?_
  refine EvP.bindEq hto (EvP.bindEq he (EvP.yes rfl ?_))
  exact EvP.bindEq hi (EvP.bindEq (eqIntS_ev vs vs (by omega)) (EvP.yes (by first | rfl | exact decide_eq_true rfl | simp) (EvP.ret rfl)))
end Go.Proofs.Ytajifknepdikbaa.Pure


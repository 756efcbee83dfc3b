/- Expressions as trees: plain definitions and laws, no program in sight. -/
import Derived.Test.YtajifknepdikbaaOps
namespace Go.Proofs.Ytajifknepdikbaa.PA
open Go.RowKit Go.Proofs.Ytajifknepdikbaa.Core
inductive X where
  | num (n : Int)
  | var (v : Int)
  | bin (op : Int) (a b : X)
namespace X
def ok : X → Prop
  | num n => 0 ≤ n ∧ n ≤ 99999
  | var v => 0 ≤ v ∧ v < 4
  | bin op a b => (1 ≤ op ∧ op ≤ 12) ∧ a.ok ∧ b.ok
def depth : X → Nat
  | num _ => 1
  | var _ => 1
  | bin _ a b => max a.depth b.depth + 1
def size : X → Nat
  | num _ => 1
  | var _ => 1
  | bin _ a b => a.size + b.size + 1
def eval (g : Int → Int) : X → Int
  | num n => n
  | var v => g v
  | bin op a b => ap op (a.eval g) (b.eval g)
def uses (v : Int) : X → Bool
  | num _ => false
  | var u => decide (u = v)
  | bin _ a b => a.uses v || b.uses v
/-- An operation over two simplified ones. -/
def foldB (op : Int) : X → X → X
  | num m, num n => if 0 ≤ ap op m n ∧ ap op m n ≤ 99999 then num (ap op m n) else bin op (num m) (num n)
  | a, b => bin op a b
def fold : X → X
  | num n => num n
  | var v => var v
  | bin op a b => foldB op a.fold b.fold
def isNum : X → Bool
  | num _ => true
  | _ => false
theorem one_le_depth : ∀ x : X, 1 ≤ x.depth
  | num _ | var _ => Nat.le_refl _
  | bin _ _ _ => Nat.le_add_left _ _
theorem one_le_size : ∀ x : X, 1 ≤ x.size
  | num _ | var _ => Nat.le_refl _
  | bin _ _ _ => Nat.le_add_left _ _
theorem size_depth : ∀ x : X, x.size + 1 ≤ 2 ^ x.depth
  | num _ | var _ => by simp [size, depth]
  | bin _ a b => by
    have ha := size_depth a
    have hb := size_depth b
    have h1 : 2 ^ a.depth ≤ 2 ^ max a.depth b.depth := Nat.pow_le_pow_right (by omega) (Nat.le_max_left _ _)
    have h2 : 2 ^ b.depth ≤ 2 ^ max a.depth b.depth := Nat.pow_le_pow_right (by omega) (Nat.le_max_right _ _)
    simp only [size, depth, Nat.pow_succ]
    omega
theorem eval_word {g : Int → Int} (hg : ∀ v, 0 ≤ v → v < 4 → vw (g v) = true) : ∀ x : X, x.ok → vw (x.eval g) = true
  | num n, h => by
    have h : 0 ≤ n ∧ n ≤ 99999 := h
    simp only [eval]
    rw [vw_iff]
    omega
  | var v, h => hg v h.1 h.2
  | bin op a b, h => ap_word op (eval_word hg a h.2.1) (eval_word hg b h.2.2)
theorem foldB_ok {op : Int} (ho : 1 ≤ op ∧ op ≤ 12) : ∀ {a b : X}, a.ok → b.ok → (foldB op a b).ok := by
  intro a b ha hb
  unfold foldB
  split
  · split
    · assumption
    · exact ⟨ho, ha, hb⟩
  · exact ⟨ho, ha, hb⟩
theorem fold_ok : ∀ x : X, x.ok → x.fold.ok
  | num _, h => h
  | var _, h => h
  | bin _ a b, h => foldB_ok h.1 (fold_ok a h.2.1) (fold_ok b h.2.2)
theorem foldB_depth (op : Int) (a b : X) : (foldB op a b).depth ≤ max a.depth b.depth + 1 := by
  unfold foldB
  split
  · split
    · simp [depth]
    · exact Nat.le_refl _
  · exact Nat.le_refl _
theorem fold_depth : ∀ x : X, x.fold.depth ≤ x.depth
  | num _ => Nat.le_refl _
  | var _ => Nat.le_refl _
  | bin op a b => by
    have ha := fold_depth a
    have hb := fold_depth b
    have h := foldB_depth op a.fold b.fold
    simp only [fold, depth]
    omega
theorem foldB_size (op : Int) (a b : X) : (foldB op a b).size ≤ a.size + b.size + 1 := by
  unfold foldB
  split
  · split
    · simp [size]
    · exact Nat.le_refl _
  · exact Nat.le_refl _
theorem fold_size : ∀ x : X, x.fold.size ≤ x.size
  | num _ => Nat.le_refl _
  | var _ => Nat.le_refl _
  | bin op a b => by
    have ha := fold_size a
    have hb := fold_size b
    have h := foldB_size op a.fold b.fold
    simp only [fold, size]
    omega
theorem foldB_eval (g : Int → Int) (op : Int) (a b : X) : (foldB op a b).eval g = ap op (a.eval g) (b.eval g) := by
  unfold foldB
  split
  · split
    · rfl
    · rfl
  · rfl
theorem fold_eval (g : Int → Int) : ∀ x : X, x.fold.eval g = x.eval g
  | num _ => rfl
  | var _ => rfl
  | bin op a b => by rw [fold, foldB_eval, fold_eval g a, fold_eval g b, eval]
theorem foldB_of {op : Int} {a b : X} (h : ∀ m n, a = num m → b = num n → ¬ (0 ≤ ap op m n ∧ ap op m n ≤ 99999)) : foldB op a b = bin op a b := by
  unfold foldB
  split
  · rw [if_neg (h _ _ rfl rfl)]
  · rfl
theorem foldB_stay (op : Int) (a b : X) : (foldB op a b = bin op a b) ∨ ∃ m, foldB op a b = num m := by
  unfold foldB
  split
  · split
    · exact .inr ⟨_, rfl⟩
    · exact .inl rfl
  · exact .inl rfl
theorem foldB_again (op : Int) (a b : X) (ha : a.fold = a) (hb : b.fold = b) : (foldB op a b).fold = foldB op a b := by
  rcases foldB_stay op a b with h | ⟨m, h⟩
  · rw [h, fold, ha, hb, h]
  · rw [h]
    rfl
theorem fold_again : ∀ x : X, x.fold.fold = x.fold
  | num _ => rfl
  | var _ => rfl
  | bin op a b => foldB_again op _ _ (fold_again a) (fold_again b)
theorem eval_other {g h : Int → Int} {u : Int} (hg : ∀ v, v ≠ u → g v = h v) : ∀ x : X, x.uses u = false → x.eval g = x.eval h
  | num _, _ => rfl
  | var v, hu => hg v (by simpa [uses] using hu)
  | bin op a b, hu => by
    simp only [uses, Bool.or_eq_false_iff] at hu
    rw [eval, eval, eval_other hg a hu.1, eval_other hg b hu.2]
theorem eval_other' {g h : Int → Int} {u : Int} (hg : ∀ v, 0 ≤ v → v < 4 → v ≠ u → g v = h v) : ∀ x : X, x.ok → x.uses u = false → x.eval g = x.eval h
  | num _, _, _ => rfl
  | var v, ho, hu => hg v ho.1 ho.2 (by simpa [uses] using hu)
  | bin op a b, ho, hu => by
    simp only [uses, Bool.or_eq_false_iff] at hu
    rw [eval, eval, eval_other' hg a ho.2.1 hu.1, eval_other' hg b ho.2.2 hu.2]
end X
end Go.Proofs.Ytajifknepdikbaa.PA

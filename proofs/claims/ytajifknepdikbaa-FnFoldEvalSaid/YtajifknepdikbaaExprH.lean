/- Expressions: two ways of a drawn one. -/
import Derived.Test.YtajifknepdikbaaExprG
import Derived.Test.YtajifknepdikbaaDrawE
import Derived.Test.YtajifknepdikbaaPAx0
namespace Go.Proofs.Ytajifknepdikbaa.PA
open Go.RowKit Go.Proofs.YtajifknepdikbaaW.PrintWords Go.Proofs.YtajifknepdikbaaW.PrintMore Go.Proofs.Ytajifknepdikbaa.Core
theorem vx_parts {op n : Int} {a : List S25} (h : vx 5 op n a = true) : ∃ x : X, x.ok ∧ x.depth ≤ 5 ∧ op = (emb x).f0 ∧ n = (emb x).f1 ∧ a = (emb x).f2 := by
  obtain ⟨x, h1, h2, h3⟩ := vx_tree 5 op n a h
  exact ⟨x, h1, h2, by rw [h3], by rw [h3], by rw [h3]⟩
theorem vx_yes {x : X} (h : x.ok) (hd : x.depth ≤ 5) : vx 5 (emb x).f0 (emb x).f1 (emb x).f2 = true := by
  rw [vx_emb x 5 h]
  exact decide_eq_true hd
theorem foldB_uses (v op : Int) (a b : X) (h : (X.foldB op a b).uses v = true) : (a.uses v || b.uses v) = true := by
  rcases X.foldB_stay op a b with e | ⟨m, e⟩
  · rw [e] at h
    exact h
  · rw [e] at h
    cases h
theorem fold_uses (v : Int) : ∀ x : X, x.fold.uses v = true → x.uses v = true
  | .num _, h => h
  | .var _, h => h
  | .bin op a b, h => by
    have h2 := foldB_uses v op _ _ h
    rw [Bool.or_eq_true] at h2
    rw [X.uses, Bool.or_eq_true]
    exact h2.imp (fold_uses v a) (fold_uses v b)
end Go.Proofs.Ytajifknepdikbaa.PA

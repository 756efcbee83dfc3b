/- What is drawn: words, lists of words. -/
import Derived.Test.YtiakpoamjiodoaaPAx1
import Derived.Test.YtiakpoamjiodoaaPick
namespace Go.Proofs.Ytiakpoamjiodoaa.PA
open Go.RowKit Go.Proofs.YtiakpoamjiodoaaW.PrintWords Go.Proofs.Ytiakpoamjiodoaa.Core
theorem spec_Wrap_some (a : Int) : ∃ r, spec_Wrap.f a = some r := by
  unfold spec_Wrap.f
  split
  · exact ⟨_, rfl⟩
  · split
    · exact ⟨_, rfl⟩
    · exact ⟨_, rfl⟩
theorem l91Word_ev (b : List Int) (hb : Bytes b) (p : Int) (h0 : 0 ≤ p) (h1 : p ≤ 900000000000) : EvP (fun k => spec_l91Word.f k b p) (fun r => p ≤ r.2 ∧ r.2 ≤ p + 6) := by
  unfold spec_l91Word.f
  refine pick_then hb h0 (by omega) fun v v0 v1 _ => ?_
  dsimp only
  refine EvP.ite (fun h => ?_) (fun h => ?_)
  · refine EvP.bind0 rfl (pick_then hb (by omega) (by omega) fun v2 w0 w1 _ => ?_)
    have := w1 (by omega)
    exact EvP.yes w0 (EvP.yes (by simp; omega) (EvP.ret (by dsimp only; omega)))
  · refine EvP.ite (fun h => ?_) (fun h => ?_)
    · refine pick_then hb (by omega) (by omega) fun a1 _ _ _ => ?_
      refine pick_then hb (by dsimp only; omega) (by dsimp only; omega) fun a2 _ _ _ => ?_
      refine pick_then hb (by dsimp only; omega) (by dsimp only; omega) fun a3 _ _ _ => ?_
      refine pick_then hb (by dsimp only; omega) (by dsimp only; omega) fun a4 _ _ _ => ?_
      dsimp only
      obtain ⟨z, hz⟩ := spec_Wrap_some (wrap64 (wrap64 (wrap64 (wrap64 (a1 * 65536) + wrap64 (a2 * 256)) + a3) * wrap64 (1 + a4)))
      exact EvP.bind0 hz (EvP.ret (by dsimp only; omega))
    · refine EvP.ite (fun h => ?_) (fun h => ?_)
      · refine pick_then hb (by omega) (by omega) fun a1 _ _ _ => ?_
        exact EvP.ret (by dsimp only; omega)
      · refine pick_then hb (by omega) (by omega) fun a1 _ _ _ => ?_
        exact EvP.ret (by dsimp only; omega)
theorem l92Items_l0 (b : List Int) (hb : Bytes b) (n : Int) : ∀ (d j : Nat) (l : List Int) (p : Int), (j : Int) + d = max n 0 → d ≤ 1000 → l.length = j → j + d ≤ 1000000 → 0 ≤ p → p + 6 * d ≤ 800000000000 →
    EvP (fun k => spec_l92Items.l0 k n l (j : Int) b p) (fun r => r.1.length = j + d ∧ p ≤ r.2 ∧ r.2 ≤ p + 6 * d) := by
  intro d
  induction d with
  | zero =>
    intro j l p hj hd hl hj2 h0 h1
    refine EvP.step (fun k => spec_l92Items.l0.eq_2 (k := k) ..) (EvP.no (by omega) (EvP.ret ?_))
    dsimp only
    omega
  | succ d ih =>
    intro j l p hj hd hl hj2 h0 h1
    refine EvP.step (fun k => spec_l92Items.l0.eq_2 (k := k) ..) (EvP.yes (by omega) ?_)
    refine EvP.bind (l91Word_ev b hb p h0 (by omega)) fun r hr => ?_
    rw [w64 (by omega) (by omega)]
    refine EvP.yes (by omega) ?_
    exact (ih (j + 1) (l ++ [r.1]) r.2 (by omega) (by omega) (by rw [List.length_append, hl]; rfl) (by omega) (by omega) (by omega)).mono fun s hs => by omega
theorem l92Items_ev (b : List Int) (hb : Bytes b) (p n : Int) (hn : n ≤ 1000) (h0 : 0 ≤ p) (h1 : p ≤ 700000000000) : EvP (fun k => spec_l92Items.f k b p n) (fun r => (r.1.length : Int) = max n 0 ∧ p ≤ r.2 ∧ r.2 ≤ p + 6 * max n 0) := by
  unfold spec_l92Items.f
  exact (l92Items_l0 b hb n (max n 0).toNat 0 [] p (by omega) (by omega) rfl (by omega) h0 (by omega)).mono fun r hr => by omega
end Go.Proofs.Ytiakpoamjiodoaa.PA

/- What is drawn: mailboxes and rings. -/
import Derived.Test.YtiakpoamjiodoaaPAx1
import Derived.Test.YtiakpoamjiodoaaDraw1
namespace Go.Proofs.Ytiakpoamjiodoaa.PA
open Go.RowKit Go.Proofs.YtiakpoamjiodoaaW.PrintWords Go.Proofs.Ytiakpoamjiodoaa.Core
theorem l92Ring_ev (b : List Int) (hb : Bytes b) (p : Int) (h0 : 0 ≤ p) (h1 : p ≤ 1000000000) : EvP (fun k => spec_l92Ring.f k b p) (fun r => p ≤ r.2.2.2.2 ∧ r.2.2.2.2 ≤ p + 200 ∧ r.2.2.2.1.length ≤ 1000) := by
  unfold spec_l92Ring.f
  refine pick_then hb h0 (by omega) fun v v0 v1 _ => ?_
  have := v1 (by omega)
  dsimp only
  refine pick_then hb (by omega) (by omega) fun m m0 m1 _ => ?_
  refine pick_then hb (by dsimp only; omega) (by dsimp only; omega) fun m' m0' m1' _ => ?_
  dsimp only
  refine EvP.bind (l92Items_ev b hb _ _ (by omega) (by omega) (by omega)) fun r hr => ?_
  refine pick_then hb (by omega) (by omega) fun c _ _ _ => ?_
  dsimp only
  refine EvP.ite (fun h => EvP.ret (by dsimp only; omega)) (fun h => ?_)
  refine EvP.ite (fun h => ?_) (fun h => ?_)
  · refine EvP.bind0 rfl (pick_then hb (by omega) (by omega) fun v2 w0 w1 _ => ?_)
    have := w1 (by omega)
    exact EvP.yes w0 (EvP.yes (by simp; omega) (EvP.ret (by dsimp only; omega)))
  · refine EvP.ite (fun h => ?_) (fun h => EvP.ret (by dsimp only; omega))
    refine EvP.bind (l92Items_ev b hb _ _ (by omega) (by omega) (by omega)) fun s hs => ?_
    exact EvP.ret (by dsimp only; omega)
theorem DrawRingValid_ev (l : List Int) (hl : l.length ≤ 140737488351232) (hw : ∀ x ∈ l, (Lit.int .u8 x).wf = true) : EvP (fun k => spec_DrawRingValid.f k l) (fun r => r.2.2.2.length ≤ 1000) := by
  obtain ⟨b, hb0, hb⟩ := open_bytes l hl hw
  unfold spec_DrawRingValid.f
  refine EvP.bind0 hb0 (EvP.bind (l92Ring_ev b hb 0 (by omega) (by omega)) fun r hr => ?_)
  refine pick_then hb (by omega) (by omega) fun c _ _ _ => ?_
  dsimp only
  refine EvP.ite (fun h => ?_) (fun h => EvP.ret (by dsimp only; omega))
  refine EvP.bind0 rfl (pick_then hb (by omega) (by omega) fun v2 w0 w1 _ => ?_)
  have := w1 (by omega)
  exact EvP.yes w0 (EvP.yes (by simp; omega) (EvP.ret (by dsimp only; omega)))
end Go.Proofs.Ytiakpoamjiodoaa.PA

/- What is drawn: mailboxes and rings. -/
import Derived.Test.YtiakpoamjiodoaaPAx1
import Derived.Test.YtiakpoamjiodoaaDraw1
namespace Go.Proofs.Ytiakpoamjiodoaa.PA
open Go.RowKit Go.Proofs.YtiakpoamjiodoaaW.PrintWords Go.Proofs.Ytiakpoamjiodoaa.Core
theorem l92Box_ev (b : List Int) (hb : Bytes b) (p : Int) (h0 : 0 ≤ p) (h1 : p ≤ 1000000000) : EvP (fun k => spec_l92Box.f k b p) (fun r => p ≤ r.2.2 ∧ r.2.2 ≤ p + 200 ∧ r.2.1.length ≤ 1000) := by
  unfold spec_l92Box.f
  refine pick_then hb h0 (by omega) fun v v0 v1 _ => ?_
  have := v1 (by omega)
  dsimp only
  rw [w64 (n := 1 + v) (by omega) (by omega), w64 (n := 1 + v + 1) (by omega) (by omega)]
  refine pick_then hb (by omega) (by omega) fun m m0 m1 _ => ?_
  have := m1 (by omega)
  dsimp only
  refine EvP.bind (l92Items_ev b hb _ _ (by omega) (by omega) (by omega)) fun r hr => ?_
  refine pick_then hb (by omega) (by omega) fun c _ _ _ => ?_
  dsimp only
  refine EvP.ite (fun h => ?_) (fun h => ?_)
  · refine EvP.bind0 rfl (pick_then hb (by omega) (by omega) fun v2 w0 w1 _ => ?_)
    have := w1 (by omega)
    exact EvP.yes w0 (EvP.yes (by simp; omega) (EvP.ret (by dsimp only; omega)))
  · refine EvP.ite (fun h => ?_) (fun h => ?_)
    · refine EvP.bind (l92Items_ev b hb _ _ (by omega) (by omega) (by omega)) fun s hs => ?_
      exact EvP.ret (by dsimp only; omega)
    · refine EvP.ite (fun h => ?_) (fun h => ?_)
      · exact EvP.ret (by simp; omega)
      · exact EvP.ret (by dsimp only; omega)
theorem DrawBoxValid_ev (l : List Int) (hl : l.length ≤ 140737488351232) (hw : ∀ x ∈ l, (Lit.int .u8 x).wf = true) : EvP (fun k => spec_DrawBoxValid.f k l) (fun r => r.2.length ≤ 1000) := by
  obtain ⟨b, hb0, hb⟩ := open_bytes l hl hw
  unfold spec_DrawBoxValid.f
  refine EvP.bind0 hb0 (EvP.bind (l92Box_ev b hb 0 (by omega) (by omega)) fun r hr => ?_)
  refine pick_then hb (by omega) (by omega) fun c _ _ _ => ?_
  dsimp only
  refine EvP.ite (fun h => ?_) (fun h => EvP.ret (by dsimp only; omega))
  refine pick_then hb (by omega) (by omega) fun m m0 m1 _ => ?_
  have := m1 (by omega)
  dsimp only
  rw [w64 (n := 3 + m) (by omega) (by omega)]
  refine EvP.bind (l92Items_ev b hb _ _ (by omega) (by omega) (by omega)) fun s hs => ?_
  exact EvP.ret (by dsimp only; omega)
theorem DrawBoxTake_ev (l : List Int) (hl : l.length ≤ 140737488351232) (hw : ∀ x ∈ l, (Lit.int .u8 x).wf = true) : EvP (fun k => spec_DrawBoxTake.f k l) (fun r => r.2.length ≤ 1000) := by
  obtain ⟨b, hb0, hb⟩ := open_bytes l hl hw
  unfold spec_DrawBoxTake.f
  refine EvP.bind0 hb0 (EvP.bind (l92Box_ev b hb 0 (by omega) (by omega)) fun r hr => ?_)
  refine EvP.ite (fun h => ?_) (fun h => EvP.ret (by dsimp only; omega))
  refine pick_then hb (by omega) (by omega) fun c _ _ _ => ?_
  dsimp only
  refine EvP.ite (fun h => ?_) (fun h => EvP.ret (by dsimp only; omega))
  refine EvP.bind (l91Word_ev b hb _ (by omega) (by omega)) fun s hs => ?_
  exact EvP.ret (by simp)
theorem l92Ring_ev (b : List Int) (hb : Bytes b) (p : Int) (h0 : 0 ≤ p) (h1 : p ≤ 1000000000) : EvP (fun k => spec_l92Ring.f k b p) (fun r => p ≤ r.2.2.2.2 ∧ r.2.2.2.2 ≤ p + 200 ∧ r.2.2.2.1.length ≤ 1000) := by
  unfold spec_l92Ring.f
  refine pick_then hb h0 (by omega) fun v v0 v1 _ => ?_
  have := v1 (by omega)
  dsimp only
  refine pick_then hb (by omega) (by omega) fun m m0 m1 _ => ?_
  refine pick_then hb (by dsimp only; omega) (by dsimp only; omega) fun m' m0' m1' _ => ?_
  dsimp only
  refine EvP.bind (l92Items_ev b hb _ _ (by omega) (by omega) (by omega)) fun r hr => ?_
  refine pick_then hb (by omega) (by omega) fun c _ _ _ => ?_
  dsimp only
  refine EvP.ite (fun h => EvP.ret (by dsimp only; omega)) (fun h => ?_)
  refine EvP.ite (fun h => ?_) (fun h => ?_)
  · refine EvP.bind0 rfl (pick_then hb (by omega) (by omega) fun v2 w0 w1 _ => ?_)
    have := w1 (by omega)
    exact EvP.yes w0 (EvP.yes (by simp; omega) (EvP.ret (by dsimp only; omega)))
  · refine EvP.ite (fun h => ?_) (fun h => EvP.ret (by dsimp only; omega))
    refine EvP.bind (l92Items_ev b hb _ _ (by omega) (by omega) (by omega)) fun s hs => ?_
    exact EvP.ret (by dsimp only; omega)
theorem DrawRingValid_ev (l : List Int) (hl : l.length ≤ 140737488351232) (hw : ∀ x ∈ l, (Lit.int .u8 x).wf = true) : EvP (fun k => spec_DrawRingValid.f k l) (fun r => r.2.2.2.length ≤ 1000) := by
  obtain ⟨b, hb0, hb⟩ := open_bytes l hl hw
  unfold spec_DrawRingValid.f
  refine EvP.bind0 hb0 (EvP.bind (l92Ring_ev b hb 0 (by omega) (by omega)) fun r hr => ?_)
  refine pick_then hb (by omega) (by omega) fun c _ _ _ => ?_
  dsimp only
  refine EvP.ite (fun h => ?_) (fun h => EvP.ret (by dsimp only; omega))
  refine EvP.bind0 rfl (pick_then hb (by omega) (by omega) fun v2 w0 w1 _ => ?_)
  have := w1 (by omega)
  exact EvP.yes w0 (EvP.yes (by simp; omega) (EvP.ret (by dsimp only; omega)))
theorem DrawRingBox_ev (l : List Int) (hl : l.length ≤ 140737488351232) (hw : ∀ x ∈ l, (Lit.int .u8 x).wf = true) : EvP (fun k => spec_DrawRingBox.f k l) (fun r => r.2.2.2.length ≤ 1000) := by
  obtain ⟨b, hb0, hb⟩ := open_bytes l hl hw
  unfold spec_DrawRingBox.f
  refine EvP.bind0 hb0 (EvP.bind (l92Ring_ev b hb 0 (by omega) (by omega)) fun r hr => ?_)
  exact EvP.ret (by dsimp only; omega)
theorem DrawRingNew_ev (l : List Int) (hl : l.length ≤ 140737488351232) (hw : ∀ x ∈ l, (Lit.int .u8 x).wf = true) : EvP (fun k => spec_DrawRingNew.f k l) (fun r => -1 ≤ r ∧ r ≤ 5) := by
  obtain ⟨b, hb0, hb⟩ := open_bytes l hl hw
  unfold spec_DrawRingNew.f
  refine EvP.bind0 hb0 (pick_then hb (by dsimp only; omega) (by dsimp only; omega) fun c c0 c1 _ => ?_)
  have := c1 (by omega)
  dsimp only
  rw [w64 (by omega) (by omega)]
  exact EvP.ret (by omega)
end Go.Proofs.Ytiakpoamjiodoaa.PA

/- What is drawn: words, lists of words. -/
import Derived.Test.YtajifknepdikbaaPAx1
import Derived.Test.YtajifknepdikbaaPick
namespace Go.Proofs.Ytajifknepdikbaa.PA
open Go.RowKit Go.Proofs.YtajifknepdikbaaW.PrintWords Go.Proofs.Ytajifknepdikbaa.Core
theorem spec_Wrap_some (a : Int) : ∃ r, spec_Wrap.f a = some r := by
  unfold spec_Wrap.f
  split
  · exact ⟨_, rfl⟩
  · split
    · exact ⟨_, rfl⟩
    · exact ⟨_, rfl⟩
theorem l91Word_ev (b : List Int) (hb : Bytes b) (p : Int) (h0 : 0 ≤ p) (h1 : p ≤ 900000000000) : EvP (fun k => spec_l91Word.f k b p) (fun r => p ≤ r.2 ∧ r.2 ≤ p + 6) := by
  unfold spec_l91Word.f
  refine pick_then hb h0 (by omega) fun v v0 v1 _ => ?_
  dsimp only
  refine EvP.ite (fun h => ?_) (fun h => ?_)
  · refine EvP.bind0 rfl (pick_then hb (by omega) (by omega) fun v2 w0 w1 _ => ?_)
    have := w1 (by omega)
    exact EvP.yes w0 (EvP.yes (by simp; omega) (EvP.ret (by dsimp only; omega)))
  · refine EvP.ite (fun h => ?_) (fun h => ?_)
    · refine pick_then hb (by omega) (by omega) fun a1 _ _ _ => ?_
      refine pick_then hb (by dsimp only; omega) (by dsimp only; omega) fun a2 _ _ _ => ?_
      refine pick_then hb (by dsimp only; omega) (by dsimp only; omega) fun a3 _ _ _ => ?_
      refine pick_then hb (by dsimp only; omega) (by dsimp only; omega) fun a4 _ _ _ => ?_
      dsimp only
      obtain ⟨z, hz⟩ := spec_Wrap_some (wrap64 (wrap64 (wrap64 (wrap64 (a1 * 65536) + wrap64 (a2 * 256)) + a3) * wrap64 (1 + a4)))
      exact EvP.bind0 hz (EvP.ret (by dsimp only; omega))
    · refine EvP.ite (fun h => ?_) (fun h => ?_)
      · refine pick_then hb (by omega) (by omega) fun a1 _ _ _ => ?_
        exact EvP.ret (by dsimp only; omega)
      · refine pick_then hb (by omega) (by omega) fun a1 _ _ _ => ?_
        exact EvP.ret (by dsimp only; omega)
end Go.Proofs.Ytajifknepdikbaa.PA

-- made by a program of this session (wip/myprint.py over the kit's print)
import Derived.Test.YtajifknepdikbaaV
import Derived.Test.YtajifknepdikbaaPAx0
import Derived.Test.YtajifknepdikbaaOpen
namespace Go.Proofs.Ytajifknepdikbaa.PA
open Go.RowKit Go.Proofs.YtajifknepdikbaaW.PrintWords Go.Proofs.Ytajifknepdikbaa.Open
set_option linter.unusedVariables false

inductive WF34 : S34 → Prop
  | mk (x : S34) (h0 : (Lit.int .i64 x.f0).wf = true) (h1 : (Lit.int .i64 x.f1).wf = true) (h2 : x.f2.length ≤ maxLen) (g2 : ∀ y ∈ x.f2, WF34 y) : WF34 x
theorem opn34 {H : Type} {enc : TypeId × Value → H} {w : World} {base : Nat} {spare : Nat → Bool} {held : Bool} (F : Nat) : Opn enc Try.prog w base spare held F 34 k34 WF34 := by
  induction F using Nat.strongRecOn with
  | _ F ih =>
  intro f hfF cs x h
  obtain ⟨xs, n, rfl, _, hcs, hxl, hg⟩ := DataW.trod_struct Try.underlying34 h
  replace hcs : cs.length = 3 := hcs.trans (by kernel_rfl)
  obtain ⟨a0, K0, G0⟩ := field (j := 0) (o := 0) (s := 1) (t := 3) hg hxl rfl rfl (by kernel_rfl) rfl (Opn.int Try.underlying3)
  have E0 : (cs.drop 0).take 1 = [.int .i64 a0] := K0
  obtain ⟨a1, K1, G1⟩ := field (j := 1) (o := 1) (s := 1) (t := 3) hg hxl rfl rfl (by kernel_rfl) rfl (Opn.int Try.underlying3)
  have E1 : (cs.drop 1).take 1 = [.int .i64 a1] := K1
  obtain ⟨a2, K2, G2⟩ := field (j := 2) (o := 2) (s := 1) (t := 32) hg hxl rfl rfl (by kernel_rfl) rfl (Opn.slice Try.underlying32 (by kernel_rfl) (fun F' hF' => (ih F' (by omega))))
  obtain ⟨A2, c2, E2, L2, C2⟩ := K2
  have e : cs = [.int .i64 a0, .int .i64 a1, .slice A2 a2.length c2] := by
    rw [show cs = cs.drop 0 from rfl, (parts_cons (o' := 1) E0 rfl), (parts_cons (o' := 2) E1 rfl), (parts_cons (o' := 3) E2 rfl), parts_nil hcs]
    rfl
  subst e
  exact ⟨⟨a0, a1, a2⟩, k34_mk w ⟨a0, a1, a2⟩ L2 C2, WF34.mk _ G0 G1 G2.1 G2.2⟩

end Go.Proofs.Ytajifknepdikbaa.PA

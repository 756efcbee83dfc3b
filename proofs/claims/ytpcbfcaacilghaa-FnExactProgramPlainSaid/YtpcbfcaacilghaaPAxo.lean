-- made by a program of this session (wip/myprint.py over the kit's print)
import Derived.Test.YtpcbfcaacilghaaV
import Derived.Test.YtpcbfcaacilghaaPAx0
import Derived.Test.YtpcbfcaacilghaaOpen
namespace Go.Proofs.Ytpcbfcaacilghaa.PA
open Go.RowKit Go.Proofs.YtpcbfcaacilghaaW.PrintWords Go.Proofs.Ytpcbfcaacilghaa.Open
set_option linter.unusedVariables false

inductive WF87 : S87 → Prop
  | mk (x : S87) (h0 : (Lit.int .i64 x.f0).wf = true) (h1 : (Lit.int .i64 x.f1).wf = true) (h2 : x.f2.length ≤ maxLen) (g2 : ∀ y ∈ x.f2, WF87 y) : WF87 x
theorem opn87 {H : Type} {enc : TypeId × Value → H} {w : World} {base : Nat} {spare : Nat → Bool} {held : Bool} (F : Nat) : Opn enc Try.prog w base spare held F 87 k87 WF87 := by
  induction F using Nat.strongRecOn with
  | _ F ih =>
  intro f hfF cs x h
  obtain ⟨xs, n, rfl, _, hcs, hxl, hg⟩ := DataW.trod_struct Try.underlying87 h
  replace hcs : cs.length = 3 := hcs.trans (by kernel_rfl)
  obtain ⟨a0, K0, G0⟩ := field (j := 0) (o := 0) (s := 1) (t := 3) hg hxl rfl rfl (by kernel_rfl) rfl (Opn.int Try.underlying3)
  have E0 : (cs.drop 0).take 1 = [.int .i64 a0] := K0
  obtain ⟨a1, K1, G1⟩ := field (j := 1) (o := 1) (s := 1) (t := 3) hg hxl rfl rfl (by kernel_rfl) rfl (Opn.int Try.underlying3)
  have E1 : (cs.drop 1).take 1 = [.int .i64 a1] := K1
  obtain ⟨a2, K2, G2⟩ := field (j := 2) (o := 2) (s := 1) (t := 85) hg hxl rfl rfl (by kernel_rfl) rfl (Opn.slice Try.underlying85 (by kernel_rfl) (fun F' hF' => (ih F' (by omega))))
  obtain ⟨A2, c2, E2, L2, C2⟩ := K2
  have e : cs = [.int .i64 a0, .int .i64 a1, .slice A2 a2.length c2] := by
    rw [show cs = cs.drop 0 from rfl, (parts_cons (o' := 1) E0 rfl), (parts_cons (o' := 2) E1 rfl), (parts_cons (o' := 3) E2 rfl), parts_nil hcs]
    rfl
  subst e
  exact ⟨⟨a0, a1, a2⟩, k87_mk w ⟨a0, a1, a2⟩ L2 C2, WF87.mk _ G0 G1 G2.1 G2.2⟩

inductive WF89 : S89 → Prop
  | mk (x : S89) (h0 : (Lit.int .i64 x.f0).wf = true) (h1 : (Lit.int .i64 x.f1).wf = true) (h2 : (Lit.int .i64 x.f2).wf = true) (h3 : WF87 x.f3) (h4 : x.f4.length ≤ maxLen) (g4 : ∀ y ∈ x.f4, WF89 y) (h5 : x.f5.length ≤ maxLen) (g5 : ∀ y ∈ x.f5, WF89 y) : WF89 x
theorem opn89 {H : Type} {enc : TypeId × Value → H} {w : World} {base : Nat} {spare : Nat → Bool} {held : Bool} (F : Nat) : Opn enc Try.prog w base spare held F 89 k89 WF89 := by
  induction F using Nat.strongRecOn with
  | _ F ih =>
  intro f hfF cs x h
  obtain ⟨xs, n, rfl, _, hcs, hxl, hg⟩ := DataW.trod_struct Try.underlying89 h
  replace hcs : cs.length = 8 := hcs.trans (by kernel_rfl)
  obtain ⟨a0, K0, G0⟩ := field (j := 0) (o := 0) (s := 1) (t := 3) hg hxl rfl rfl (by kernel_rfl) rfl (Opn.int Try.underlying3)
  have E0 : (cs.drop 0).take 1 = [.int .i64 a0] := K0
  obtain ⟨a1, K1, G1⟩ := field (j := 1) (o := 1) (s := 1) (t := 3) hg hxl rfl rfl (by kernel_rfl) rfl (Opn.int Try.underlying3)
  have E1 : (cs.drop 1).take 1 = [.int .i64 a1] := K1
  obtain ⟨a2, K2, G2⟩ := field (j := 2) (o := 2) (s := 1) (t := 3) hg hxl rfl rfl (by kernel_rfl) rfl (Opn.int Try.underlying3)
  have E2 : (cs.drop 2).take 1 = [.int .i64 a2] := K2
  obtain ⟨a3, K3, G3⟩ := field (j := 3) (o := 3) (s := 3) (t := 87) hg hxl rfl rfl (by kernel_rfl) rfl (opn87 _)
  obtain ⟨A3_2, c3_2, E3, L3_2, C3_2⟩ := k87_open K3
  obtain ⟨a4, K4, G4⟩ := field (j := 4) (o := 6) (s := 1) (t := 73) hg hxl rfl rfl (by kernel_rfl) rfl (Opn.slice Try.underlying73 (by kernel_rfl) (fun F' hF' => (ih F' (by omega))))
  obtain ⟨A4, c4, E4, L4, C4⟩ := K4
  obtain ⟨a5, K5, G5⟩ := field (j := 5) (o := 7) (s := 1) (t := 73) hg hxl rfl rfl (by kernel_rfl) rfl (Opn.slice Try.underlying73 (by kernel_rfl) (fun F' hF' => (ih F' (by omega))))
  obtain ⟨A5, c5, E5, L5, C5⟩ := K5
  have e : cs = [.int .i64 a0, .int .i64 a1, .int .i64 a2, .int .i64 a3.f0, .int .i64 a3.f1, .slice A3_2 a3.f2.length c3_2, .slice A4 a4.length c4, .slice A5 a5.length c5] := by
    rw [show cs = cs.drop 0 from rfl, (parts_cons (o' := 1) E0 rfl), (parts_cons (o' := 2) E1 rfl), (parts_cons (o' := 3) E2 rfl), (parts_cons (o' := 6) E3 rfl), (parts_cons (o' := 7) E4 rfl), (parts_cons (o' := 8) E5 rfl), parts_nil hcs]
    rfl
  subst e
  exact ⟨⟨a0, a1, a2, a3, a4, a5⟩, k89_mk w ⟨a0, a1, a2, a3, a4, a5⟩ L3_2 C3_2 L4 C4 L5 C5, WF89.mk _ G0 G1 G2 G3 G4.1 G4.2 G5.1 G5.2⟩

end Go.Proofs.Ytpcbfcaacilghaa.PA

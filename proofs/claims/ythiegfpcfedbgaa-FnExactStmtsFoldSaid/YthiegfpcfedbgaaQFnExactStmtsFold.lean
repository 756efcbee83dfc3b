/- The row of FnExactStmtsFold: the law returns true for every input, and its arguments read behind the call as before; no condition. -/
import Derived.Test.YthiegfpcfedbgaaRows
import Derived.Test.YthiegfpcfedbgaaQFnExactStmtsFold3
import Derived.WalkKit
import Derived.ProofKit
import Derived.OpenShut
import Derived.ShutString
import Derived.ChangeOld
import Derived.Below
import Derived.SizedLaws
namespace Go.Proofs.Ythiegfpcfedbgaa.fnExactStmtsFold
open Go.ChangeShapes Go.WideShapes Go.ChangeAt Go.RowKit Go.Proofs.Ythiegfpcfedbgaa.Open Go.Proofs.Ythiegfpcfedbgaa.PA Go.Proofs.YthiegfpcfedbgaaW.PrintWords
set_option linter.unusedVariables false
theorem own : ownKnob Try.prog.godebug = none := by kernel_rfl
theorem laidOut : laidOutB Try.prog = true := by kernel_rfl
set_option maxRecDepth 100000 in
theorem lifted (os : Os) (started : os.Started) (H : Type) (enc : TypeId × Value → H) :
    ReturnsInHanded {} Try.checked os 4 .any (Rows.fnExactStmtsFoldSpec.pre6 enc Try.prog Try.f4 Rows.fnExactStmtsFoldRow.domain false) (Rows.fnExactStmtsFoldSpec.post enc Try.prog Try.f4 false true false false) := by
  refine returnsInHanded_of_change_sized (C := Try.checked) own started (by kernel_rfl) Try.func4
    (ChangeSpec.witness6 (enc := enc) (C := Try.checked) false ⟨#[], #[.slice none 0 0], []⟩ 8 (by kernel_rfl) (by kernel_rfl) (by kernel_rfl) (by kernel_rfl)) ?_
  intro W base args ds gs before hval0 hW hcnd hsz0 _
  have hval : ∀ (j : Nat) t v, Try.f4.params[j]? = some t → args[j]? = some v → Value.okWide Try.prog W .any base t v := hval0
  have hW' := hW
  obtain ⟨p, q, hA0, hV, rfl, hfz, hnd⟩ := hW
  have hA : DataW.TrodAll enc Try.prog W 0 (fun _ => true) true Try.f4.params.toList args.toList ds p := hA0
  rw [Try.params4] at hA hval
  obtain ⟨v0, vs0, d0, ds0, p0, q0, hargs, rfl, rfl, h0, r0⟩ := trodAll_cons hA
  obtain ⟨rfl, rfl, rfl⟩ := trodAll_nil r0
  obtain rfl : args = #[v0] := by cases args; simp_all
  obtain ⟨rfl, rfl⟩ := trodVars_none hV
  have k0 := h0
  have lt0 : ∀ x ∈ p0, x.block < W.heap.size := by obtain ⟨m, hm⟩ := k0; exact DataW.trod_lt m _ _ _ hm
  obtain ⟨A0, len0, cap0, rfl⟩ := okWide_slice Try.underlying35 (hval 0 35 v0 rfl rfl)
  obtain ⟨fu0, hf0⟩ := h0
  replace hf0 : DataW.trod enc Try.prog W 0 (fun _ => true) true fu0 35 [.slice A0 len0 cap0] = some (d0, p0) := hf0
  obtain ⟨l0, ⟨A0', c0, E0, L0, C0⟩, G0⟩ := (Opn.slice (F := fu0) Try.underlying35 (by kernel_rfl) (fun F' hF' => (PD F'))) fu0 (Nat.le_refl _) _ _ hf0
  obtain ⟨rfl, rfl, rfl⟩ : A0 = A0' ∧ len0 = l0.length ∧ cap0 = c0 := by simpa using E0
  clear hA0 hval0 hsz0
  obtain ⟨k, h⟩ := Pure.FnExactStmtsFold l0 G0
  refine (dX.calls k A0 cap0 l0 true W C0 L0 h).mono fun e W' ⟨he, bel0⟩ => ?_
  have bel : Below W.heap.size W W' := bel0
  subst he
  exact ⟨_, rfl, _, _, _, [], _, [], hW', trodAll_mk1 (shut_bool Try.underlying4 _), (trodAll_cons_mk (Below.trod laidOut (by kernel_rfl) (of_decide_eq_true (by kernel_rfl)) k0 bel lt0) trodAll_mk0), rfl, bel.frame _, fun h => by cases h⟩
theorem over : Rows.fnExactStmtsFoldRow.holds Try.pinned (OpenSpec.ofChange Rows.fnExactStmtsFoldSpec) :=
  OpenClaim.holds_of_wide 4 Try.f4 rfl rfl rfl rfl rfl rfl rfl ⟨rfl, rfl, rfl, rfl, rfl⟩ rfl rfl rfl rfl rfl (by kernel_rfl) Try.func4 (by kernel_rfl)
    (of_decide_eq_true (by kernel_rfl)) (by unfold Func.isWrapper; first | (rw [if_pos (by decide +kernel)]; kernel_rfl) | (rw [if_neg (by decide +kernel)]; exact ⟨rfl, rfl⟩))
    (fun os started H enc _ => lifted os started H enc)
theorem proved : Rows.FnExactStmtsFoldSaid := over
#print axioms proved
end Go.Proofs.Ythiegfpcfedbgaa.fnExactStmtsFold
namespace Go.Proofs.Ythiegfpcfedbgaa
/-- The row, under a short name, for the claim. -/
theorem fnExactStmtsFold_holds : Rows.FnExactStmtsFoldSaid := fnExactStmtsFold.proved
end Go.Proofs.Ythiegfpcfedbgaa

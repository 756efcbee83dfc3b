/- The row of FnExactProgramFold: the law returns true for every input, and its arguments read behind the call as before; no condition. -/
import Derived.Test.YthiegfpcfedbgaaRows
import Derived.Test.YthiegfpcfedbgaaQFnExactProgramFold4
import Derived.WalkKit
import Derived.ProofKit
import Derived.OpenShut
import Derived.ShutString
import Derived.ChangeOld
import Derived.Below
import Derived.SizedLaws
namespace Go.Proofs.Ythiegfpcfedbgaa.fnExactProgramFold
open Go.ChangeShapes Go.WideShapes Go.ChangeAt Go.RowKit Go.Proofs.Ythiegfpcfedbgaa.Open Go.Proofs.Ythiegfpcfedbgaa.PA Go.Proofs.YthiegfpcfedbgaaW.PrintWords
set_option linter.unusedVariables false
theorem own : ownKnob Try.prog.godebug = none := by kernel_rfl
theorem laidOut : laidOutB Try.prog = true := by kernel_rfl
set_option maxRecDepth 100000 in
theorem lifted (os : Os) (started : os.Started) (H : Type) (enc : TypeId × Value → H) :
    ReturnsInHanded {} Try.checked os 5 .any (Rows.fnExactProgramFoldSpec.pre6 enc Try.prog Try.f5 Rows.fnExactProgramFoldRow.domain false) (Rows.fnExactProgramFoldSpec.post enc Try.prog Try.f5 false true false false) := by
  refine returnsInHanded_of_change_sized (C := Try.checked) own started (by kernel_rfl) Try.func5
    (ChangeSpec.witness6 (enc := enc) (C := Try.checked) false ⟨#[], #[.agg #[.slice none 0 0, .slice none 0 0]], []⟩ 8 (by kernel_rfl) (by kernel_rfl) (by kernel_rfl) (by kernel_rfl)) ?_
  intro W base args ds gs before hval0 hW hcnd hsz0 _
  have hval : ∀ (j : Nat) t v, Try.f5.params[j]? = some t → args[j]? = some v → Value.okWide Try.prog W .any base t v := hval0
  have hW' := hW
  obtain ⟨p, q, hA0, hV, rfl, hfz, hnd⟩ := hW
  have hA : DataW.TrodAll enc Try.prog W 0 (fun _ => true) true Try.f5.params.toList args.toList ds p := hA0
  rw [Try.params5] at hA hval
  obtain ⟨v0, vs0, d0, ds0, p0, q0, hargs, rfl, rfl, h0, r0⟩ := trodAll_cons hA
  obtain ⟨rfl, rfl, rfl⟩ := trodAll_nil r0
  obtain rfl : args = #[v0] := by cases args; simp_all
  obtain ⟨rfl, rfl⟩ := trodVars_none hV
  have k0 := h0
  have lt0 : ∀ x ∈ p0, x.block < W.heap.size := by obtain ⟨m, hm⟩ := k0; exact DataW.trod_lt m _ _ _ hm
  obtain ⟨cs0, rfl, hz0⟩ := okWide_struct Try.underlying47 (hval 0 47 v0 rfl rfl)
  obtain ⟨fu0, hf0⟩ := h0
  replace hf0 : DataW.trod enc Try.prog W 0 (fun _ => true) true fu0 47 cs0.toList = some (d0, p0) := hf0
  obtain ⟨xs0, n0, _, _, hcs0, hxl0_, hg0_⟩ := DataW.trod_struct Try.underlying47 hf0
  obtain ⟨a0_0, K0_0, G0_0⟩ := field (j := 0) (o := 0) (s := 1) (t := 44) hg0_ hxl0_ rfl rfl (by kernel_rfl) rfl (Opn.slice Try.underlying44 (by kernel_rfl) (fun F' hF' => (Opn.int Try.underlying3)))
  obtain ⟨A0_0, c0_0, E0_0, L0_0, C0_0⟩ := K0_0
  obtain ⟨a0_1, K0_1, G0_1⟩ := field (j := 1) (o := 1) (s := 1) (t := 45) hg0_ hxl0_ rfl rfl (by kernel_rfl) rfl (Opn.slice Try.underlying45 (by kernel_rfl) (fun F' hF' => (Opn.slice Try.underlying35 (by kernel_rfl) (fun F' hF' => (aCk F')))))
  obtain ⟨A0_1, c0_1, E0_1, L0_1, C0_1⟩ := K0_1
  replace hcs0 : cs0.toList.length = 2 := hcs0.trans (by kernel_rfl)
  obtain rfl : cs0 = #[.slice A0_0 a0_0.length c0_0, .slice A0_1 a0_1.length c0_1] := by
    apply Array.toList_inj.1
    rw [show cs0.toList = cs0.toList.drop 0 from rfl, (kD (o' := 1) E0_0 rfl), (kD (o' := 2) E0_1 rfl), xO hcs0]
    rfl
  clear hA0 hval0 hsz0
  obtain ⟨k, h⟩ := Pure.FnExactProgramFold a0_0 a0_1 G0_0 G0_1
  refine (fI.calls k A0_0 c0_0 a0_0 A0_1 c0_1 a0_1 true W C0_0 L0_0 C0_1 L0_1 h).mono fun e W' ⟨he, bel0⟩ => ?_
  have bel : Below W.heap.size W W' := bel0
  subst he
  exact ⟨_, rfl, _, _, _, [], _, [], hW', trodAll_mk1 (shut_bool Try.underlying4 _), (trodAll_cons_mk (Below.trod laidOut (by kernel_rfl) (of_decide_eq_true (by kernel_rfl)) k0 bel lt0) trodAll_mk0), rfl, bel.frame _, fun h => by cases h⟩
theorem over : Rows.fnExactProgramFoldRow.holds Try.pinned (OpenSpec.ofChange Rows.fnExactProgramFoldSpec) :=
  OpenClaim.holds_of_wide 5 Try.f5 rfl rfl rfl rfl rfl rfl rfl ⟨rfl, rfl, rfl, rfl, rfl⟩ rfl rfl rfl rfl rfl (by kernel_rfl) Try.func5 (by kernel_rfl)
    (of_decide_eq_true (by kernel_rfl)) (by unfold Func.isWrapper; first | (rw [if_pos (by decide +kernel)]; kernel_rfl) | (rw [if_neg (by decide +kernel)]; exact ⟨rfl, rfl⟩))
    (fun os started H enc _ => lifted os started H enc)
theorem proved : Rows.FnExactProgramFoldSaid := over
#print axioms proved
end Go.Proofs.Ythiegfpcfedbgaa.fnExactProgramFold
namespace Go.Proofs.Ythiegfpcfedbgaa
/-- The row, under a short name, for the claim. -/
theorem fnExactProgramFold_holds : Rows.FnExactProgramFoldSaid := fnExactProgramFold.proved
end Go.Proofs.Ythiegfpcfedbgaa

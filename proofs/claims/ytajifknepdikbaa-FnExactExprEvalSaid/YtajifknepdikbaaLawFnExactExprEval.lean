/- The row of FnExactExprEval: the law returns true for every input, and its arguments read behind the call as before; no condition. -/
import Derived.Test.YtajifknepdikbaaV
import Derived.Test.YtajifknepdikbaaRows
import Derived.Test.YtajifknepdikbaaPAxSFnExactExprEval
import Derived.Test.YtajifknepdikbaaPAx55
import Derived.Test.YtajifknepdikbaaPureFnExactExprEval
import Derived.WalkKit
import Derived.ProofKit
import Derived.OpenShut
import Derived.ShutString
import Derived.ChangeOld
import Derived.Below
import Derived.SizedLaws
namespace Go.Proofs.Ytajifknepdikbaa.fnExactExprEval
open Go.ChangeShapes Go.WideShapes Go.ChangeAt Go.RowKit Go.Proofs.Ytajifknepdikbaa.Open Go.Proofs.Ytajifknepdikbaa.PA Go.Proofs.YtajifknepdikbaaW.PrintWords
set_option linter.unusedVariables false
theorem own : ownKnob Try.prog.godebug = none := by kernel_rfl
theorem laidOut : laidOutB Try.prog = true := by kernel_rfl
set_option maxRecDepth 100000 in
theorem lifted (os : Os) (started : os.Started) (H : Type) (enc : TypeId × Value → H) :
    ReturnsInHanded {} Try.checked os 5 .any (Rows.fnExactExprEvalSpec.pre6 enc Try.prog Try.f5 Rows.fnExactExprEvalRow.domain false) (Rows.fnExactExprEvalSpec.post enc Try.prog Try.f5 false true false false) := by
  refine returnsInHanded_of_change_sized (C := Try.checked) own started (by kernel_rfl) Try.func5
    (ChangeSpec.witness6 (enc := enc) (C := Try.checked) false ⟨#[], #[.agg #[.int .i64 0, .int .i64 0, .slice none 0 0], .slice none 0 0], []⟩ 8 (by kernel_rfl) (by kernel_rfl) (by kernel_rfl) (by kernel_rfl)) ?_
  intro W base args ds gs before hval0 hW hcnd hsz0 _
  have hval : ∀ (j : Nat) t v, Try.f5.params[j]? = some t → args[j]? = some v → Value.okWide Try.prog W .any base t v := hval0
  have hW' := hW
  obtain ⟨p, q, hA0, hV, rfl, hfz, hnd⟩ := hW
  have hA : DataW.TrodAll enc Try.prog W 0 (fun _ => true) true Try.f5.params.toList args.toList ds p := hA0
  rw [Try.params5] at hA hval
  obtain ⟨v0, vs0, d0, ds0, p0, q0, hargs, rfl, rfl, h0, r0⟩ := trodAll_cons hA
  obtain ⟨v1, vs1, d1, ds1, p1, q1, rfl, rfl, rfl, h1, r1⟩ := trodAll_cons r0
  obtain ⟨rfl, rfl, rfl⟩ := trodAll_nil r1
  obtain rfl : args = #[v0, v1] := by cases args; simp_all
  obtain ⟨rfl, rfl⟩ := trodVars_none hV
  have k0 := h0
  have lt0 : ∀ x ∈ p0, x.block < W.heap.size := by obtain ⟨m, hm⟩ := k0; exact DataW.trod_lt m _ _ _ hm
  obtain ⟨cs0, rfl, hz0⟩ := okWide_struct Try.underlying34 (hval 0 34 v0 rfl rfl)
  obtain ⟨fu0, hf0⟩ := h0
  replace hf0 : DataW.trod enc Try.prog W 0 (fun _ => true) true fu0 34 cs0.toList = some (d0, p0) := hf0
  obtain ⟨xs0, n0, _, _, hcs0, hxl0_, hg0_⟩ := DataW.trod_struct Try.underlying34 hf0
  obtain ⟨a0_0, K0_0, G0_0⟩ := field (j := 0) (o := 0) (s := 1) (t := 3) hg0_ hxl0_ rfl rfl (by kernel_rfl) rfl (Opn.int Try.underlying3)
  have E0_0 : (cs0.toList.drop 0).take 1 = [.int .i64 a0_0] := K0_0
  obtain ⟨a0_1, K0_1, G0_1⟩ := field (j := 1) (o := 1) (s := 1) (t := 3) hg0_ hxl0_ rfl rfl (by kernel_rfl) rfl (Opn.int Try.underlying3)
  have E0_1 : (cs0.toList.drop 1).take 1 = [.int .i64 a0_1] := K0_1
  obtain ⟨a0_2, K0_2, G0_2⟩ := field (j := 2) (o := 2) (s := 1) (t := 32) hg0_ hxl0_ rfl rfl (by kernel_rfl) rfl (Opn.slice Try.underlying32 (by kernel_rfl) (fun F' hF' => (opn34 F')))
  obtain ⟨A0_2, c0_2, E0_2, L0_2, C0_2⟩ := K0_2
  replace hcs0 : cs0.toList.length = 3 := hcs0.trans (by kernel_rfl)
  obtain rfl : cs0 = #[.int .i64 a0_0, .int .i64 a0_1, .slice A0_2 a0_2.length c0_2] := by
    apply Array.toList_inj.1
    rw [show cs0.toList = cs0.toList.drop 0 from rfl, (parts_cons (o' := 1) E0_0 rfl), (parts_cons (o' := 2) E0_1 rfl), (parts_cons (o' := 3) E0_2 rfl), parts_nil hcs0]
    rfl
  have k1 := h1
  have lt1 : ∀ x ∈ p1, x.block < W.heap.size := by obtain ⟨m, hm⟩ := k1; exact DataW.trod_lt m _ _ _ hm
  obtain ⟨A1, len1, cap1, rfl⟩ := okWide_slice Try.underlying35 (hval 1 35 v1 rfl rfl)
  obtain ⟨fu1, hf1⟩ := h1
  replace hf1 : DataW.trod enc Try.prog W 0 (fun _ => true) true fu1 35 [.slice A1 len1 cap1] = some (d1, p1) := hf1
  obtain ⟨l1, ⟨A1', c1, E1, L1, C1⟩, G1⟩ := (Opn.slice (F := fu1) Try.underlying35 (by kernel_rfl) (fun F' hF' => (Opn.int Try.underlying3))) fu1 (Nat.le_refl _) _ _ hf1
  obtain ⟨rfl, rfl, rfl⟩ : A1 = A1' ∧ len1 = l1.length ∧ cap1 = c1 := by simpa using E1
  clear hA0 hval0 hsz0
  obtain ⟨k, h⟩ := Pure.FnExactExprEval a0_0 a0_1 a0_2 l1 G0_0 G0_1 G0_2 G1
  refine (laws_FnExactExprEval.calls k a0_0 a0_1 A0_2 c0_2 a0_2 A1 cap1 l1 true W C0_2 L0_2 C1 L1 h).mono fun e W' ⟨he, bel0⟩ => ?_
  have bel : Below W.heap.size W W' := bel0
  subst he
  exact ⟨_, rfl, _, _, _, [], _, [], hW', trodAll_mk1 (shut_bool Try.underlying4 _), (trodAll_cons_mk (Below.trod laidOut (by kernel_rfl) (of_decide_eq_true (by kernel_rfl)) k0 bel lt0) (trodAll_cons_mk (Below.trod laidOut (by kernel_rfl) (of_decide_eq_true (by kernel_rfl)) k1 bel lt1) trodAll_mk0)), rfl, bel.frame _, fun h => by cases h⟩
theorem over : Rows.fnExactExprEvalRow.holds Try.pinned (OpenSpec.ofChange Rows.fnExactExprEvalSpec) :=
  OpenClaim.holds_of_wide 5 Try.f5 rfl rfl rfl rfl rfl rfl rfl ⟨rfl, rfl, rfl, rfl, rfl⟩ rfl rfl rfl rfl rfl (by kernel_rfl) Try.func5 (by kernel_rfl)
    (of_decide_eq_true (by kernel_rfl)) (by unfold Func.isWrapper; first | (rw [if_pos (by decide +kernel)]; kernel_rfl) | (rw [if_neg (by decide +kernel)]; exact ⟨rfl, rfl⟩))
    (fun os started H enc _ => lifted os started H enc)
theorem proved : Rows.FnExactExprEvalSaid := over
#print axioms proved
end Go.Proofs.Ytajifknepdikbaa.fnExactExprEval
namespace Go.Proofs.Ytajifknepdikbaa
/-- The row, under a short name, for the claim. -/
theorem fnExactExprEval_holds : Rows.FnExactExprEvalSaid := fnExactExprEval.proved
end Go.Proofs.Ytajifknepdikbaa

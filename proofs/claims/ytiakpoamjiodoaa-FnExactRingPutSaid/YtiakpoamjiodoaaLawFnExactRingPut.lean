/- The row of FnExactRingPut: the law returns true for every input, and its arguments read behind the call as before; no condition. -/
import Derived.Test.YtiakpoamjiodoaaV
import Derived.Test.YtiakpoamjiodoaaRows
import Derived.Test.YtiakpoamjiodoaaPAxSFnExactRingPut
import Derived.Test.YtiakpoamjiodoaaPAx64
import Derived.Test.YtiakpoamjiodoaaPureFnExactRingPut
import Derived.WalkKit
import Derived.ProofKit
import Derived.OpenShut
import Derived.ShutString
import Derived.ChangeOld
import Derived.Below
import Derived.SizedLaws
namespace Go.Proofs.Ytiakpoamjiodoaa.fnExactRingPut
open Go.ChangeShapes Go.WideShapes Go.ChangeAt Go.RowKit Go.Proofs.Ytiakpoamjiodoaa.Open Go.Proofs.Ytiakpoamjiodoaa.PA Go.Proofs.YtiakpoamjiodoaaW.PrintWords
set_option linter.unusedVariables false
theorem own : ownKnob Try.prog.godebug = none := by kernel_rfl
theorem laidOut : laidOutB Try.prog = true := by kernel_rfl
set_option maxRecDepth 100000 in
theorem lifted (os : Os) (started : os.Started) (H : Type) (enc : TypeId × Value → H) :
    ReturnsInHanded {} Try.checked os 14 .any (Rows.fnExactRingPutSpec.pre6 enc Try.prog Try.f14 Rows.fnExactRingPutRow.domain false) (Rows.fnExactRingPutSpec.post enc Try.prog Try.f14 false true false false) := by
  refine returnsInHanded_of_change_sized (C := Try.checked) own started (by kernel_rfl) Try.func14
    (ChangeSpec.witness6 (enc := enc) (C := Try.checked) false ⟨#[], #[.agg #[.int .i64 0, .int .i64 0, .int .i64 0, .slice none 0 0], .int .i64 0], []⟩ 8 (by kernel_rfl) (by kernel_rfl) (by kernel_rfl) (by kernel_rfl)) ?_
  intro W base args ds gs before hval0 hW hcnd hsz0 _
  have hval : ∀ (j : Nat) t v, Try.f14.params[j]? = some t → args[j]? = some v → Value.okWide Try.prog W .any base t v := hval0
  have hW' := hW
  obtain ⟨p, q, hA0, hV, rfl, hfz, hnd⟩ := hW
  have hA : DataW.TrodAll enc Try.prog W 0 (fun _ => true) true Try.f14.params.toList args.toList ds p := hA0
  rw [Try.params14] at hA hval
  obtain ⟨v0, vs0, d0, ds0, p0, q0, hargs, rfl, rfl, h0, r0⟩ := trodAll_cons hA
  obtain ⟨v1, vs1, d1, ds1, p1, q1, rfl, rfl, rfl, h1, r1⟩ := trodAll_cons r0
  obtain ⟨rfl, rfl, rfl⟩ := trodAll_nil r1
  obtain rfl : args = #[v0, v1] := by cases args; simp_all
  obtain ⟨rfl, rfl⟩ := trodVars_none hV
  have k0 := h0
  have lt0 : ∀ x ∈ p0, x.block < W.heap.size := by obtain ⟨m, hm⟩ := k0; exact DataW.trod_lt m _ _ _ hm
  obtain ⟨cs0, rfl, hz0⟩ := okWide_struct Try.underlying44 (hval 0 44 v0 rfl rfl)
  obtain ⟨fu0, hf0⟩ := h0
  replace hf0 : DataW.trod enc Try.prog W 0 (fun _ => true) true fu0 44 cs0.toList = some (d0, p0) := hf0
  obtain ⟨xs0, n0, _, _, hcs0, hxl0_, hg0_⟩ := DataW.trod_struct Try.underlying44 hf0
  obtain ⟨a0_0, K0_0, G0_0⟩ := field (j := 0) (o := 0) (s := 1) (t := 3) hg0_ hxl0_ rfl rfl (by kernel_rfl) rfl (Opn.int Try.underlying3)
  have E0_0 : (cs0.toList.drop 0).take 1 = [.int .i64 a0_0] := K0_0
  obtain ⟨a0_1, K0_1, G0_1⟩ := field (j := 1) (o := 1) (s := 1) (t := 3) hg0_ hxl0_ rfl rfl (by kernel_rfl) rfl (Opn.int Try.underlying3)
  have E0_1 : (cs0.toList.drop 1).take 1 = [.int .i64 a0_1] := K0_1
  obtain ⟨a0_2, K0_2, G0_2⟩ := field (j := 2) (o := 2) (s := 1) (t := 3) hg0_ hxl0_ rfl rfl (by kernel_rfl) rfl (Opn.int Try.underlying3)
  have E0_2 : (cs0.toList.drop 2).take 1 = [.int .i64 a0_2] := K0_2
  obtain ⟨a0_3, K0_3, G0_3⟩ := field (j := 3) (o := 3) (s := 1) (t := 22) hg0_ hxl0_ rfl rfl (by kernel_rfl) rfl (Opn.slice Try.underlying22 (by kernel_rfl) (fun F' hF' => (Opn.int Try.underlying3)))
  obtain ⟨A0_3, c0_3, E0_3, L0_3, C0_3⟩ := K0_3
  replace hcs0 : cs0.toList.length = 4 := hcs0.trans (by kernel_rfl)
  obtain rfl : cs0 = #[.int .i64 a0_0, .int .i64 a0_1, .int .i64 a0_2, .slice A0_3 a0_3.length c0_3] := by
    apply Array.toList_inj.1
    rw [show cs0.toList = cs0.toList.drop 0 from rfl, (parts_cons (o' := 1) E0_0 rfl), (parts_cons (o' := 2) E0_1 rfl), (parts_cons (o' := 3) E0_2 rfl), (parts_cons (o' := 4) E0_3 rfl), parts_nil hcs0]
    rfl
  obtain ⟨a1, rfl, rfl, rfl, w1⟩ := open_int Try.underlying3 (hval 1 3 v1 rfl rfl) h1
  clear hA0 hval0 hsz0
  obtain ⟨k, h⟩ := Pure.FnExactRingPut a0_0 a0_1 a0_2 a0_3 a1 G0_0 G0_1 G0_2 G0_3 w1
  refine (laws_FnExactRingPut.calls k a0_0 a0_1 a0_2 A0_3 c0_3 a0_3 a1 true W C0_3 L0_3 h).mono fun e W' ⟨he, bel0⟩ => ?_
  have bel : Below W.heap.size W W' := bel0
  subst he
  exact ⟨_, rfl, _, _, _, [], _, [], hW', trodAll_mk1 (shut_bool Try.underlying4 _), (trodAll_cons_mk (Below.trod laidOut (by kernel_rfl) (of_decide_eq_true (by kernel_rfl)) k0 bel lt0) (trodAll_cons_mk (shut_int Try.underlying3 w1) trodAll_mk0)), rfl, bel.frame _, fun h => by cases h⟩
theorem over : Rows.fnExactRingPutRow.holds Try.pinned (OpenSpec.ofChange Rows.fnExactRingPutSpec) :=
  OpenClaim.holds_of_wide 14 Try.f14 rfl rfl rfl rfl rfl rfl rfl ⟨rfl, rfl, rfl, rfl, rfl⟩ rfl rfl rfl rfl rfl (by kernel_rfl) Try.func14 (by kernel_rfl)
    (of_decide_eq_true (by kernel_rfl)) (by unfold Func.isWrapper; first | (rw [if_pos (by decide +kernel)]; kernel_rfl) | (rw [if_neg (by decide +kernel)]; exact ⟨rfl, rfl⟩))
    (fun os started H enc _ => lifted os started H enc)
theorem proved : Rows.FnExactRingPutSaid := over
#print axioms proved
end Go.Proofs.Ytiakpoamjiodoaa.fnExactRingPut
namespace Go.Proofs.Ytiakpoamjiodoaa
/-- The row, under a short name, for the claim. -/
theorem fnExactRingPut_holds : Rows.FnExactRingPutSaid := fnExactRingPut.proved
end Go.Proofs.Ytiakpoamjiodoaa

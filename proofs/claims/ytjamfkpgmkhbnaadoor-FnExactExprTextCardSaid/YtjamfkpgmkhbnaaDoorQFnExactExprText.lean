/- The row of FnExactExprText: the law returns true for every input, and its arguments and the listed variable read behind the call as before; the card tied. -/
import Derived.Test.YtjamfkpgmkhbnaaDoorRows
import Derived.Test.YtjamfkpgmkhbnaaDoorTie
import Derived.Test.YtjamfkpgmkhbnaaDoorCards
import Derived.Test.YtjamfkpgmkhbnaaDoorQFnExactExprText2
import Derived.WalkKit
import Derived.ProofKit
import Derived.OpenShut
import Derived.ShutString
import Derived.ChangeOld
import Derived.Below
import Derived.SizedLaws
import Derived.SevenTiedAt
import Derived.ChangeVars
namespace Go.Proofs.YtjamfkpgmkhbnaaDoor.fnExactExprText
open Go.ChangeShapes Go.WideShapes Go.ChangeAt Go.RowKit Go.Proofs.YtjamfkpgmkhbnaaDoor.Open Go.Proofs.YtjamfkpgmkhbnaaDoor.PA Go.Proofs.YtjamfkpgmkhbnaaDoorW.PrintWords
set_option linter.unusedVariables false
theorem own : ownKnob Tryd.prog.godebug = none := by kernel_rfl
theorem laidOut : laidOutB Tryd.prog = true := by kernel_rfl
set_option maxRecDepth 100000 in
theorem lifted (os : Os) (started : os.Started) (H : Type) (enc : TypeId × Value → H) :
    ReturnsInHanded {} Tryd.checked os 3 .any (fun w args => (Rows.fnExactExprTextSpec.pre enc Tryd.prog Tryd.f3 [] false w args ∧ laidMetH Tryd.prog LaidT.laidL w) ∧ sizedMet enc Tryd.prog Tryd.f3 (OpenSpec.ofChange Rows.fnExactExprTextSpec) false w args) (Rows.fnExactExprTextSpec.post enc Tryd.prog Tryd.f3 false true false false) := by
  refine returnsInHanded_of_change_and (C := Tryd.checked) (X := fun w _ => laidMetH Tryd.prog LaidT.laidL w) (fun _ _ _ hh h => h.of_heap hh) own started (by kernel_rfl) Tryd.func3
    (ChangeSpec.witness_shaped (enc := enc) (C := Tryd.checked) (os := os) (X := fun w _ => laidMetH Tryd.prog LaidT.laidL w) false (World.doorLaid Tryd.prog 29 os) #[.agg #[.int .i64 0, .int .i64 0, .slice none 0 0]] 8 rfl (World.shaped_of_RefB (by kernel_rfl) (by kernel_rfl)) (by kernel_rfl) (by kernel_rfl) (by kernel_rfl) (LaidT.door_met os _)) ?_
  intro W base args ds gs before hval0 hW hcnd hsz0 hL _
  have hval : ∀ (j : Nat) t v, Tryd.f3.params[j]? = some t → args[j]? = some v → Value.okWide Tryd.prog W .any base t v := hval0
  have hW' := hW
  obtain ⟨p, q, hA0, hV, rfl, hfz, hnd⟩ := hW
  have hA : DataW.TrodAll enc Tryd.prog W 0 (fun _ => true) true Tryd.f3.params.toList args.toList ds p := hA0
  rw [Tryd.params3] at hA hval
  obtain ⟨v0, vs0, d0, ds0, p0, q0, hargs, rfl, rfl, h0, r0⟩ := trodAll_cons hA
  obtain ⟨rfl, rfl, rfl⟩ := trodAll_nil r0
  obtain rfl : args = #[v0] := by cases args; simp_all
  obtain ⟨gv, tv, csv, fv, dv, pv, rfl, hgv, htv, hvv, hdv, rfl⟩ := trodVars_one hV
  obtain rfl := Option.some.inj ((show Tryd.prog.globalNamed "loop.example/cothreads/impl.opTexts" = some 0 by kernel_rfl).symm.trans hgv)
  obtain rfl := Option.some.inj ((show (Tryd.prog.globals[0]?).map (·.type) = some 81 by kernel_rfl).symm.trans htv)
  have k0 := h0
  have lt0 : ∀ x ∈ p0, x.block < W.heap.size := by obtain ⟨m, hm⟩ := k0; exact DataW.trod_lt m _ _ _ hm
  obtain ⟨cs0, rfl, hz0⟩ := okWide_struct Tryd.underlying24 (hval 0 24 v0 rfl rfl)
  obtain ⟨fu0, hf0⟩ := h0
  replace hf0 : DataW.trod enc Tryd.prog W 0 (fun _ => true) true fu0 24 cs0.toList = some (d0, p0) := hf0
  obtain ⟨xs0, n0, _, _, hcs0, hxl0_, hg0_⟩ := DataW.trod_struct Tryd.underlying24 hf0
  obtain ⟨a0_0, K0_0, G0_0⟩ := field (j := 0) (o := 0) (s := 1) (t := 3) hg0_ hxl0_ rfl rfl (by kernel_rfl) rfl (Opn.int Tryd.underlying3)
  have E0_0 : (cs0.toList.drop 0).take 1 = [.int .i64 a0_0] := K0_0
  obtain ⟨a0_1, K0_1, G0_1⟩ := field (j := 1) (o := 1) (s := 1) (t := 3) hg0_ hxl0_ rfl rfl (by kernel_rfl) rfl (Opn.int Tryd.underlying3)
  have E0_1 : (cs0.toList.drop 1).take 1 = [.int .i64 a0_1] := K0_1
  obtain ⟨a0_2, K0_2, G0_2⟩ := field (j := 2) (o := 2) (s := 1) (t := 22) hg0_ hxl0_ rfl rfl (by kernel_rfl) rfl (Opn.slice Tryd.underlying22 (by kernel_rfl) (fun F' hF' => (opn24 F')))
  obtain ⟨A0_2, c0_2, E0_2, L0_2, C0_2⟩ := K0_2
  replace hcs0 : cs0.toList.length = 3 := hcs0.trans (by kernel_rfl)
  obtain rfl : cs0 = #[.int .i64 a0_0, .int .i64 a0_1, .slice A0_2 a0_2.length c0_2] := by
    apply Array.toList_inj.1
    rw [show cs0.toList = cs0.toList.drop 0 from rfl, (parts_cons (o' := 1) E0_0 rfl), (parts_cons (o' := 2) E0_1 rfl), (parts_cons (o' := 3) E0_2 rfl), parts_nil hcs0]
    rfl
  clear hA0 hval0 hsz0
  obtain ⟨k, h⟩ := Pure.FnExactExprText a0_0 a0_1 a0_2 G0_0 G0_1 G0_2
  refine (laws_FnExactExprText.calls k a0_0 a0_1 A0_2 c0_2 a0_2 true W C0_2 L0_2 (LaidT.tabOf hL) h).mono fun e W' ⟨he, bel0⟩ => ?_
  have bel : Below W.heap.size W W' := bel0
  subst he
  obtain ⟨pv2, hv2⟩ := LaidT.var_stays (enc := enc) hvv ⟨fv, hdv⟩ bel
  exact ⟨_, rfl, _, _, _, [], _, _, hW', trodAll_mk1 (shut_bool Tryd.underlying4 _), (trodAll_cons_mk (Below.trod laidOut (by kernel_rfl) (of_decide_eq_true (by kernel_rfl)) k0 bel lt0) trodAll_mk0), hv2, bel.frame _, fun h => by cases h⟩
theorem over : Rows.fnExactExprTextRow.holds Tryd.pinned (OpenSpec.ofChange Rows.fnExactExprTextSpec) :=
  OpenClaim.holds_of_wide 3 Tryd.f3 rfl rfl rfl rfl rfl rfl rfl ⟨rfl, rfl, rfl, rfl, rfl⟩ rfl rfl rfl rfl rfl (by kernel_rfl) Tryd.func3 (by kernel_rfl)
    (of_decide_eq_true (by kernel_rfl)) (by unfold Func.isWrapper; first | (rw [if_pos (by decide +kernel)]; kernel_rfl) | (rw [if_neg (by decide +kernel)]; exact ⟨rfl, rfl⟩))
    (fun os started H enc _ => lifted os started H enc)
theorem proved : Rows.FnExactExprTextSaid := over
#print axioms proved
end Go.Proofs.YtjamfkpgmkhbnaaDoor.fnExactExprText
namespace Go.Proofs.YtjamfkpgmkhbnaaDoor
/-- The row, under a short name, for the claim. -/
theorem fnExactExprText_holds : Rows.FnExactExprTextCardSaid :=
  Claim7.holds_tied_plain_at .later [] [.data, .data, .data, .data] true (true, "074aa76f58c63e092fdfb1e84922bb698bae16a5b8af5cca1e999f65f2e3c0a8") false
    fnExactExprText.proved (fun _ h => by cases h) (by kernel_rfl) (fun _ h => by cases h) fnExactExprText_row_tie rfl ⟨rfl, rfl⟩ (by kernel_rfl) rfl
    (fun f fn hf hfn => by
      obtain rfl : f = 3 := Option.some.inj ((show Tryd.prog.funcNamed "loop.example/cothreads/laws.FnExactExprText" = some 3 by kernel_rfl).symm.trans hf) |>.symm
      obtain rfl : fn = Tryd.f3 := (Option.some.inj (Tryd.func3.symm.trans hfn)).symm
      exact ⟨by kernel_rfl, fun j t ht => by
        rw [Tryd.params3] at ht
        have h3 : t = 24 := by
          rcases j with _ | j
          · simpa using ht.symm
          · simp at ht
        subst h3
        exact (show Tryd.prog.wantsStandIn 24 = false by kernel_rfl)⟩)
    (by kernel_rfl)
end Go.Proofs.YtjamfkpgmkhbnaaDoor

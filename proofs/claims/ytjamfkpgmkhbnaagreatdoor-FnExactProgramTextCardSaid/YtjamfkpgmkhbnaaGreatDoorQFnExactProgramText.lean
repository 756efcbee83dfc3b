/- The row of FnExactProgramText: the law returns true for every input, and its arguments and the listed variable read behind the call as before; the card tied. -/
import Derived.Test.YtjamfkpgmkhbnaaGreatDoorRows
import Derived.Test.YtjamfkpgmkhbnaaGreatDoorTie
import Derived.Test.YtjamfkpgmkhbnaaGreatDoorCards
import Derived.Test.YtjamfkpgmkhbnaaGreatDoorQFnExactProgramText5
import Derived.WalkKit
import Derived.ProofKit
import Derived.OpenShut
import Derived.ShutString
import Derived.ChangeOld
import Derived.Below
import Derived.SizedLaws
import Derived.SevenTiedAt
import Derived.ChangeVars
namespace Go.Proofs.YtjamfkpgmkhbnaaGreatDoor.fnExactProgramText
open Go.ChangeShapes Go.WideShapes Go.ChangeAt Go.RowKit Go.Proofs.YtjamfkpgmkhbnaaGreatDoor.Open Go.Proofs.YtjamfkpgmkhbnaaGreatDoor.PA Go.Proofs.YtjamfkpgmkhbnaaGreatDoorW.PrintWords
set_option linter.unusedVariables false
theorem own : ownKnob Tryz.prog.godebug = none := by kernel_rfl
theorem laidOut : laidOutB Tryz.prog = true := by kernel_rfl
set_option maxRecDepth 100000 in
theorem lifted (os : Os) (started : os.Started) (H : Type) (enc : TypeId × Value → H) :
    ReturnsInHanded {} Tryz.checked os 4 .any (fun w args => (Rows.fnExactProgramTextSpec.pre enc Tryz.prog Tryz.f4 [] false w args ∧ laidMetH Tryz.prog LaidT.laidL w) ∧ sizedMet enc Tryz.prog Tryz.f4 (OpenSpec.ofChange Rows.fnExactProgramTextSpec) false w args) (Rows.fnExactProgramTextSpec.post enc Tryz.prog Tryz.f4 false true false false) := by
  refine returnsInHanded_of_change_and (C := Tryz.checked) (X := fun w _ => laidMetH Tryz.prog LaidT.laidL w) (fun _ _ _ hh h => h.of_heap hh) own started (by kernel_rfl) Tryz.func4
    (ChangeSpec.witness_shaped (enc := enc) (C := Tryz.checked) (os := os) (X := fun w _ => laidMetH Tryz.prog LaidT.laidL w) false (World.doorLaid Tryz.prog 29 os) #[.agg #[.slice none 0 0, .slice none 0 0]] 8 rfl (World.shaped_of_RefB (by kernel_rfl) (by kernel_rfl)) (by kernel_rfl) (by kernel_rfl) (by kernel_rfl) (LaidT.door_met os _)) ?_
  intro W base args ds gs before hval0 hW hcnd hsz0 hL _
  have hval : ∀ (j : Nat) t v, Tryz.f4.params[j]? = some t → args[j]? = some v → Value.okWide Tryz.prog W .any base t v := hval0
  have hW' := hW
  obtain ⟨p, q, hA0, hV, rfl, hfz, hnd⟩ := hW
  have hA : DataW.TrodAll enc Tryz.prog W 0 (fun _ => true) true Tryz.f4.params.toList args.toList ds p := hA0
  rw [Tryz.params4] at hA hval
  obtain ⟨v0, vs0, d0, ds0, p0, q0, hargs, rfl, rfl, h0, r0⟩ := trodAll_cons hA
  obtain ⟨rfl, rfl, rfl⟩ := trodAll_nil r0
  obtain rfl : args = #[v0] := by cases args; simp_all
  obtain ⟨gv, tv, csv, fv, dv, pv, rfl, hgv, htv, hvv, hdv, rfl⟩ := trodVars_one hV
  obtain rfl := Option.some.inj ((show Tryz.prog.globalNamed "loop.example/cothreads/impl.opTexts" = some 1 by kernel_rfl).symm.trans hgv)
  obtain rfl := Option.some.inj ((show (Tryz.prog.globals[1]?).map (·.type) = some 146 by kernel_rfl).symm.trans htv)
  have k0 := h0
  have lt0 : ∀ x ∈ p0, x.block < W.heap.size := by obtain ⟨m, hm⟩ := k0; exact DataW.trod_lt m _ _ _ hm
  obtain ⟨cs0, rfl, hz0⟩ := okWide_struct Tryz.underlying38 (hval 0 38 v0 rfl rfl)
  obtain ⟨fu0, hf0⟩ := h0
  replace hf0 : DataW.trod enc Tryz.prog W 0 (fun _ => true) true fu0 38 cs0.toList = some (d0, p0) := hf0
  obtain ⟨xs0, n0, _, _, hcs0, hxl0_, hg0_⟩ := DataW.trod_struct Tryz.underlying38 hf0
  obtain ⟨a0_0, K0_0, G0_0⟩ := field (j := 0) (o := 0) (s := 1) (t := 23) hg0_ hxl0_ rfl rfl (by kernel_rfl) rfl (Opn.slice Tryz.underlying23 (by kernel_rfl) (fun F' hF' => (Opn.int Tryz.underlying3)))
  obtain ⟨A0_0, c0_0, E0_0, L0_0, C0_0⟩ := K0_0
  obtain ⟨a0_1, K0_1, G0_1⟩ := field (j := 1) (o := 1) (s := 1) (t := 36) hg0_ hxl0_ rfl rfl (by kernel_rfl) rfl (Opn.slice Tryz.underlying36 (by kernel_rfl) (fun F' hF' => (Opn.slice Tryz.underlying83 (by kernel_rfl) (fun F' hF' => (opn113 F')))))
  obtain ⟨A0_1, c0_1, E0_1, L0_1, C0_1⟩ := K0_1
  replace hcs0 : cs0.toList.length = 2 := hcs0.trans (by kernel_rfl)
  obtain rfl : cs0 = #[.slice A0_0 a0_0.length c0_0, .slice A0_1 a0_1.length c0_1] := by
    apply Array.toList_inj.1
    rw [show cs0.toList = cs0.toList.drop 0 from rfl, (parts_cons (o' := 1) E0_0 rfl), (parts_cons (o' := 2) E0_1 rfl), parts_nil hcs0]
    rfl
  clear hA0 hval0 hsz0
  obtain ⟨k, h⟩ := Pure.FnExactProgramText a0_0 a0_1 G0_0 G0_1
  refine (laws_FnExactProgramText.calls k A0_0 c0_0 a0_0 A0_1 c0_1 a0_1 true W C0_0 L0_0 C0_1 L0_1 (LaidT.tabOf hL) h).mono fun e W' ⟨he, bel0⟩ => ?_
  have bel : Below W.heap.size W W' := bel0
  subst he
  obtain ⟨pv2, hv2⟩ := LaidT.var_stays (enc := enc) hvv ⟨fv, hdv⟩ bel
  exact ⟨_, rfl, _, _, _, [], _, _, hW', trodAll_mk1 (shut_bool Tryz.underlying4 _), (trodAll_cons_mk (Below.trod laidOut (by kernel_rfl) (of_decide_eq_true (by kernel_rfl)) k0 bel lt0) trodAll_mk0), hv2, bel.frame _, fun h => by cases h⟩
theorem over : Rows.fnExactProgramTextRow.holds Tryz.pinned (OpenSpec.ofChange Rows.fnExactProgramTextSpec) :=
  OpenClaim.holds_of_wide 4 Tryz.f4 rfl rfl rfl rfl rfl rfl rfl ⟨rfl, rfl, rfl, rfl, rfl⟩ rfl rfl rfl rfl rfl (by kernel_rfl) Tryz.func4 (by kernel_rfl)
    (of_decide_eq_true (by kernel_rfl)) (by unfold Func.isWrapper; first | (rw [if_pos (by decide +kernel)]; kernel_rfl) | (rw [if_neg (by decide +kernel)]; exact ⟨rfl, rfl⟩))
    (fun os started H enc _ => lifted os started H enc)
theorem proved : Rows.FnExactProgramTextSaid := over
#print axioms proved
end Go.Proofs.YtjamfkpgmkhbnaaGreatDoor.fnExactProgramText
namespace Go.Proofs.YtjamfkpgmkhbnaaGreatDoor
/-- The row, under a short name, for the claim. -/
theorem fnExactProgramText_holds : Rows.FnExactProgramTextCardSaid :=
  Claim7.holds_tied_plain_at .later [] [.data, .data, .data, .data] true (true, "6319939d68464307a363ecc2164f61d695063f866b90f1a7d128986605ba939b") false
    fnExactProgramText.proved (fun _ h => by cases h) (by kernel_rfl) (fun _ h => by cases h) fnExactProgramText_row_tie rfl ⟨rfl, rfl⟩ (by kernel_rfl) rfl
    (fun f fn hf hfn => by
      obtain rfl : f = 4 := Option.some.inj ((show Tryz.prog.funcNamed "loop.example/cothreads/laws.FnExactProgramText" = some 4 by kernel_rfl).symm.trans hf) |>.symm
      obtain rfl : fn = Tryz.f4 := (Option.some.inj (Tryz.func4.symm.trans hfn)).symm
      exact ⟨by kernel_rfl, fun j t ht => by
        rw [Tryz.params4] at ht
        have h3 : t = 38 := by
          rcases j with _ | j
          · simpa using ht.symm
          · simp at ht
        subst h3
        exact (show Tryz.prog.wantsStandIn 38 = false by kernel_rfl)⟩)
    (by kernel_rfl)
end Go.Proofs.YtjamfkpgmkhbnaaGreatDoor

-- made by a program of this session (wip/myprint.py over the kit's print)
import Derived.Test.YtpcbfcaacilghaaV
import Derived.Test.YtpcbfcaacilghaaPAx0
import Derived.Test.YtpcbfcaacilghaaPAx1
import Derived.Test.YtpcbfcaacilghaaPAx6
namespace Go.Proofs.Ytpcbfcaacilghaa.PA
open Go.RowKit Go.Proofs.YtpcbfcaacilghaaW.PrintWords Go.Proofs.YtpcbfcaacilghaaW.PrintLast Go.Proofs.YtpcbfcaacilghaaW.PrintMore
attribute [local go_sem] max2_int min2_int max_two min_two max_three min_three max_four min_four   -- for this text's walks alone
set_option linter.unusedVariables false
set_option linter.unusedSimpArgs false

/-! ### impl_stmtsValid: function 32 -/
theorem impl_stmtsValid.mono : ∀ l0 a1 k, LeO (impl_stmtsValid.f k l0 a1) (impl_stmtsValid.f (k + 1) l0 a1) := by
  intro l0 a1 k
  unfold impl_stmtsValid.f
  exact LeO.bind (impl_blockValid.mono _ _ _ _ _) (fun _ => LeO.refl _)
set_option maxHeartbeats 8000000 in
set_option maxRecDepth 100000 in
theorem impl_stmtsValid.calls (k : Nat) (A0 : Option Addr) (c0 : Nat) (l0 : List (S37)) (a1 : Int) (r : Bool) (w : World) (hr0 : Kd.C k37 w A0 l0.length l0) (hc0 : l0.length ≤ c0) (h : impl_stmtsValid.f k l0 a1 = some r) :
    Calls Try.prog 32 #[.slice A0 l0.length c0, .int .i64 a1] w fun e w' => e = .returned (.bool r) ∧ Below w.heap.size w w' := by
  unfold impl_stmtsValid.f at h
  replace h := Option.bind_eq_some_iff.mp h
  obtain ⟨⟨r', cnt'⟩, hv, h⟩ := h
  obtain rfl := Option.some.inj h
  have HV := Aside0.mk hv
  have HF := Aside0.mk (Kd.C_F k37_heap hr0)
  have HC0 := Aside0.mk hc0
  clear hr0 hc0 h hv
  go_enter Try.func32, Try.ntmps32
  go_upto_region 2 with (first | ((with_reducible refine gate_dst (N := 5) rfl ?_); refine box_event (N := 5) ?hg ?hd (cs := #[.int .i64 0]) (t := 3) ?hr ?_; (case hd => rfl); (case hg => rfl); (case hr => first | (go_simp; done) | (go_simp; rfl)); intro gb hg w1 hbox hb; have z0 : w1.cell? ⟨gb, 0, none⟩ = some (.int .i64 0) := blk_cell hbox 0; have f0 := blk_frozen hbox 0; have HG := Aside0.mk (Nat.le_of_eq hg.symm); have HBX := Aside0.mk (blk_put (cs' := #[.int .i64 0]) hbox 0 (.int .i64 0) rfl); have HB := Aside0.mk (below_set (j := 0) (v := .int .i64 0) hb (Nat.le_of_eq hg.symm)); clear hbox hb hg) | fail)
  go_wp2_with (first | ((with_reducible refine (impl_blockValid.callsP k A0 c0 l0 a1 0 0 _ w.heap.size (fun q => q < w.heap.size) r' cnt' _ (Kd.F_below HF.out HB.out) HC0.out (Nat.not_lt.mpr HG.out) HG.out HBX.out HV.out).mono ?_); rintro e w2 ⟨rfl, _, _, hw⟩; have HW := Aside0.mk (HB.out.trans hw); clear hw; (try dsimp only)) | fail)
  go_ret
  exact ⟨rfl, HW.out⟩

end Go.Proofs.Ytpcbfcaacilghaa.PA

-- made by a program of this session (wip/myprint.py over the kit's print)
import Derived.Test.YtajifknepdikbaaV
import Derived.Test.YtajifknepdikbaaPAx0
import Derived.Test.YtajifknepdikbaaPAx1
import Derived.Test.YtajifknepdikbaaPAx6
import Derived.Test.YtajifknepdikbaaPAx12
import Derived.Test.YtajifknepdikbaaPAx15
import Derived.Test.YtajifknepdikbaaPAx17
import Derived.Test.YtajifknepdikbaaPAx24
import Derived.Test.YtajifknepdikbaaPAx25
import Derived.Test.YtajifknepdikbaaPAx27
namespace Go.Proofs.Ytajifknepdikbaa.PA
open Go.RowKit Go.Proofs.YtajifknepdikbaaW.PrintWords Go.Proofs.YtajifknepdikbaaW.PrintLast Go.Proofs.YtajifknepdikbaaW.PrintMore
attribute [local go_sem] max2_int min2_int max_two min_two max_three min_three max_four min_four   -- for this text's walks alone
set_option linter.unusedVariables false
set_option linter.unusedSimpArgs false

/-! ### laws_FnFoldSmaller: function 10 -/
theorem laws_FnFoldSmaller.mono_l : ∀ k, (∀ y0 y1 y2 y3 y4 y5 y6 y7 y8 y9 y10 y11, LeO (laws_FnFoldSmaller.j0 k y0 y1 y2 y3 y4 y5 y6 y7 y8 y9 y10 y11) (laws_FnFoldSmaller.j0 (k + 1) y0 y1 y2 y3 y4 y5 y6 y7 y8 y9 y10 y11)) ∧ (∀ y0 y1 y2 y3 y4 y5 y6, LeO (laws_FnFoldSmaller.l0 k y0 y1 y2 y3 y4 y5 y6) (laws_FnFoldSmaller.l0 (k + 1) y0 y1 y2 y3 y4 y5 y6))
  | 0 => ⟨fun _ _ _ _ _ _ _ _ _ _ _ _ r h => by simp [laws_FnFoldSmaller.j0] at h, fun _ _ _ _ _ _ _ r h => by simp [laws_FnFoldSmaller.l0] at h⟩
  | k + 1 => by
    obtain ⟨ih0, ih1⟩ := laws_FnFoldSmaller.mono_l k
    refine ⟨?_, ?_⟩
    · intro y0 y1 y2 y3 y4 y5 y6 y7 y8 y9 y10 y11
      unfold laws_FnFoldSmaller.j0
      repeat' first
      | (with_reducible exact ih0 _ _ _ _ _ _ _ _ _ _ _ _)
      | (with_reducible exact ih1 _ _ _ _ _ _ _)
      | (with_reducible exact impl_ExprDepth.mono _ _ _ _)
      | (with_reducible exact impl_ExprFold.mono _ _ _ _)
      | (with_reducible exact impl_ExprSize.mono _ _ _ _)
      | (with_reducible exact impl_ExprUses.mono _ _ _ _ _)
      | (with_reducible exact laws_sameExpr.mono _ _ _ _ _ _ _)
      | (with_reducible exact spec_DrawExprFold.mono _ _)
      | (with_reducible exact spec_ExprFold.mono _ _ _ _)
      | (with_reducible exact LeO.refl _)
      | (with_reducible exact LeO.none _)
      | (with_reducible refine LeO.ite ?_ ?_)
      | (with_reducible refine LeO.bind ?_ (fun _ => ?_))
      | exact ih0 _ _ _ _ _ _ _ _ _ _ _ _
      | exact ih1 _ _ _ _ _ _ _
      | exact impl_ExprDepth.mono _ _ _ _
      | exact impl_ExprFold.mono _ _ _ _
      | exact impl_ExprSize.mono _ _ _ _
      | exact impl_ExprUses.mono _ _ _ _ _
      | exact laws_sameExpr.mono _ _ _ _ _ _ _
      | exact spec_DrawExprFold.mono _ _
      | exact spec_ExprFold.mono _ _ _ _
      | exact LeO.none _
      | refine LeO.ite ?_ ?_
      | refine LeO.bind ?_ (fun _ => ?_)
    · intro y0 y1 y2 y3 y4 y5 y6
      unfold laws_FnFoldSmaller.l0
      repeat' first
      | (with_reducible exact ih0 _ _ _ _ _ _ _ _ _ _ _ _)
      | (with_reducible exact ih1 _ _ _ _ _ _ _)
      | (with_reducible exact impl_ExprDepth.mono _ _ _ _)
      | (with_reducible exact impl_ExprFold.mono _ _ _ _)
      | (with_reducible exact impl_ExprSize.mono _ _ _ _)
      | (with_reducible exact impl_ExprUses.mono _ _ _ _ _)
      | (with_reducible exact laws_sameExpr.mono _ _ _ _ _ _ _)
      | (with_reducible exact spec_DrawExprFold.mono _ _)
      | (with_reducible exact spec_ExprFold.mono _ _ _ _)
      | (with_reducible exact LeO.refl _)
      | (with_reducible exact LeO.none _)
      | (with_reducible refine LeO.ite ?_ ?_)
      | (with_reducible refine LeO.bind ?_ (fun _ => ?_))
      | exact ih0 _ _ _ _ _ _ _ _ _ _ _ _
      | exact ih1 _ _ _ _ _ _ _
      | exact impl_ExprDepth.mono _ _ _ _
      | exact impl_ExprFold.mono _ _ _ _
      | exact impl_ExprSize.mono _ _ _ _
      | exact impl_ExprUses.mono _ _ _ _ _
      | exact laws_sameExpr.mono _ _ _ _ _ _ _
      | exact spec_DrawExprFold.mono _ _
      | exact spec_ExprFold.mono _ _ _ _
      | exact LeO.none _
      | refine LeO.ite ?_ ?_
      | refine LeO.bind ?_ (fun _ => ?_)
theorem laws_FnFoldSmaller.mono : ∀ a0 k, LeO (laws_FnFoldSmaller.f k a0) (laws_FnFoldSmaller.f (k + 1) a0) := by
  intro a0 k
  obtain ⟨ih0, ih1⟩ := laws_FnFoldSmaller.mono_l k
  unfold laws_FnFoldSmaller.f
  repeat' first
      | (with_reducible exact ih0 _ _ _ _ _ _ _ _ _ _ _ _)
      | (with_reducible exact ih1 _ _ _ _ _ _ _)
      | (with_reducible exact impl_ExprDepth.mono _ _ _ _)
      | (with_reducible exact impl_ExprFold.mono _ _ _ _)
      | (with_reducible exact impl_ExprSize.mono _ _ _ _)
      | (with_reducible exact impl_ExprUses.mono _ _ _ _ _)
      | (with_reducible exact laws_sameExpr.mono _ _ _ _ _ _ _)
      | (with_reducible exact spec_DrawExprFold.mono _ _)
      | (with_reducible exact spec_ExprFold.mono _ _ _ _)
      | (with_reducible exact LeO.refl _)
      | (with_reducible exact LeO.none _)
      | (with_reducible refine LeO.ite ?_ ?_)
      | (with_reducible refine LeO.bind ?_ (fun _ => ?_))
      | exact ih0 _ _ _ _ _ _ _ _ _ _ _ _
      | exact ih1 _ _ _ _ _ _ _
      | exact impl_ExprDepth.mono _ _ _ _
      | exact impl_ExprFold.mono _ _ _ _
      | exact impl_ExprSize.mono _ _ _ _
      | exact impl_ExprUses.mono _ _ _ _ _
      | exact laws_sameExpr.mono _ _ _ _ _ _ _
      | exact spec_DrawExprFold.mono _ _
      | exact spec_ExprFold.mono _ _ _ _
      | exact LeO.none _
      | refine LeO.ite ?_ ?_
      | refine LeO.bind ?_ (fun _ => ?_)
def laws_FnFoldSmaller.T13 : Bool × List (List Nat × List Nat) := (true, [([], []), ([0], [0]), ([1], [1]), ([2, 1], [2]), ([3], [3]), ([4, 3, 3], [3, 4]), ([3], [3]), ([6, 5, 3], [3, 6]), ([5, 7, 3], [3, 5, 7]), ([3, 8], [3, 8]), ([9, 7], [9]), ([10], [10]), ([11, 10, 10], [10, 11]), ([10], [10]), ([13, 12, 10], [10, 13]), ([12, 14, 10], [10, 12, 14]), ([10, 15], [10, 15]), ([16, 14, 0, 1, 2, 3, 4, 5, 6, 7, 8, 9, 10, 11, 12, 13, 14, 15, 16], [16])])
def laws_FnFoldSmaller.B13 : List Nat := [0, 1, 3, 7, 15, 31, 15, 127, 255, 511, 1023, 2047, 4095, 2047, 16383, 32767, 65535, 131071]
theorem laws_FnFoldSmaller.tab13 : rtab .any (opsOf Try.f10 13) = laws_FnFoldSmaller.T13 := by kernel_rfl
theorem laws_FnFoldSmaller.bits13 : waitsOk laws_FnFoldSmaller.T13.2 laws_FnFoldSmaller.B13 = true := by kernel_rfl
set_option maxHeartbeats 8000000 in
set_option maxRecDepth 100000 in
theorem laws_FnFoldSmaller.calls (k : Nat) (A0 : Option Addr) (c0 : Nat) (l0 : List Int) (r : Bool) (w : World) (hr0 : Kd.C (Kd.int .u8) w A0 l0.length l0) (hc0 : l0.length ≤ c0) (h : laws_FnFoldSmaller.f k l0 = some r) :
    Calls Try.prog 10 #[.slice A0 l0.length c0] w fun e w' => e = .returned (.bool r) ∧ Below w.heap.size w w' := by
  have hu25 := Try.underlying25
  have HR0 := Aside0.mk hr0
  have HC0 := Aside0.mk hc0
  clear hr0 hc0
  have HB := Aside0.mk (Below.refl w.heap.size w)
  have H : (if (l0.length : Int) > 1048576 then (some true) else ((spec_DrawExprFold.f k l0).bind fun bt443 => ((impl_ExprFold.f k bt443.1 bt443.2.1 bt443.2.2).bind fun bt449 => ((spec_ExprFold.f k bt443.1 bt443.2.1 bt443.2.2).bind fun bt456 => (if (bt449.2.2.2 != bt456.2.2.2) = true then (laws_FnFoldSmaller.j0 k bt449.2.2.2 bt456.2.2.2 true bt443.1 bt443.2.1 bt443.2.2 bt449.1 bt449.2.1 bt449.2.2.1 bt456.1 bt456.2.1 bt456.2.2.1) else ((laws_sameExpr.f k bt449.1 bt449.2.1 bt449.2.2.1 bt456.1 bt456.2.1 bt456.2.2.1).bind fun t463 => (if t463 = true then (laws_FnFoldSmaller.j0 k bt449.2.2.2 bt456.2.2.2 (!bt449.2.2.2) bt443.1 bt443.2.1 bt443.2.2 bt449.1 bt449.2.1 bt449.2.2.1 bt456.1 bt456.2.1 bt456.2.2.1) else (laws_FnFoldSmaller.j0 k bt449.2.2.2 bt456.2.2.2 true bt443.1 bt443.2.1 bt443.2.2 bt449.1 bt449.2.1 bt449.2.2.1 bt456.1 bt456.2.1 bt456.2.2.1)))))))) = some r := h
  clear h
  by_cases c2 : (l0.length : Int) > 1048576
  · rw [if_pos c2] at H
    have c2b0 : decide (1048576 < (l0.length : Int)) = true := decide_eq_true c2
    have c2b1 : decide (1048576 < l0.length) = true := decide_eq_true (by omega)
    clear c2
    obtain rfl := Option.some.inj H
    go_enter Try.func10, Try.ntmps10
    go_wp2
    go_ret
    exact ⟨by first | rfl | (simp [errW_none, errW_some] <;> rfl) | (simp [*, errW_none, errW_some] <;> rfl), ab2_⟩
  · rw [if_neg c2] at H
    have c2b0 : decide (1048576 < (l0.length : Int)) = false := decide_eq_false c2
    have c2b1 : decide (1048576 < l0.length) = false := decide_eq_false (by omega)
    clear c2
    replace H := Option.bind_eq_some_iff.mp H
    obtain ⟨⟨t443, t444, t445⟩, A30, H⟩ := H
    replace H : ((impl_ExprFold.f k t443 t444 t445).bind fun bt449 => ((spec_ExprFold.f k t443 t444 t445).bind fun bt456 => (if (bt449.2.2.2 != bt456.2.2.2) = true then (laws_FnFoldSmaller.j0 k bt449.2.2.2 bt456.2.2.2 true t443 t444 t445 bt449.1 bt449.2.1 bt449.2.2.1 bt456.1 bt456.2.1 bt456.2.2.1) else ((laws_sameExpr.f k bt449.1 bt449.2.1 bt449.2.2.1 bt456.1 bt456.2.1 bt456.2.2.1).bind fun t463 => (if t463 = true then (laws_FnFoldSmaller.j0 k bt449.2.2.2 bt456.2.2.2 (!bt449.2.2.2) t443 t444 t445 bt449.1 bt449.2.1 bt449.2.2.1 bt456.1 bt456.2.1 bt456.2.2.1) else (laws_FnFoldSmaller.j0 k bt449.2.2.2 bt456.2.2.2 true t443 t444 t445 bt449.1 bt449.2.1 bt449.2.2.1 bt456.1 bt456.2.1 bt456.2.2.1)))))) = some r := H
    have A3 := Aside0.mk A30
    clear A30
    replace H := Option.bind_eq_some_iff.mp H
    obtain ⟨⟨t449, t450, t451, t454⟩, A40, H⟩ := H
    replace H : ((spec_ExprFold.f k t443 t444 t445).bind fun bt456 => (if (t454 != bt456.2.2.2) = true then (laws_FnFoldSmaller.j0 k t454 bt456.2.2.2 true t443 t444 t445 t449 t450 t451 bt456.1 bt456.2.1 bt456.2.2.1) else ((laws_sameExpr.f k t449 t450 t451 bt456.1 bt456.2.1 bt456.2.2.1).bind fun t463 => (if t463 = true then (laws_FnFoldSmaller.j0 k t454 bt456.2.2.2 (!t454) t443 t444 t445 t449 t450 t451 bt456.1 bt456.2.1 bt456.2.2.1) else (laws_FnFoldSmaller.j0 k t454 bt456.2.2.2 true t443 t444 t445 t449 t450 t451 bt456.1 bt456.2.1 bt456.2.2.1))))) = some r := H
    have A4 := Aside0.mk A40
    clear A40
    replace H := Option.bind_eq_some_iff.mp H
    obtain ⟨⟨t456, t457, t458, t461⟩, A50, H⟩ := H
    replace H : (if (t454 != t461) = true then (laws_FnFoldSmaller.j0 k t454 t461 true t443 t444 t445 t449 t450 t451 t456 t457 t458) else ((laws_sameExpr.f k t449 t450 t451 t456 t457 t458).bind fun t463 => (if t463 = true then (laws_FnFoldSmaller.j0 k t454 t461 (!t454) t443 t444 t445 t449 t450 t451 t456 t457 t458) else (laws_FnFoldSmaller.j0 k t454 t461 true t443 t444 t445 t449 t450 t451 t456 t457 t458)))) = some r := H
    have A5 := Aside0.mk A50
    clear A50
    have HC6 := Aside0.mk H
    clear H
    go_enter Try.func10, Try.ntmps10
    go_upto_region 6 with (first | ((with_reducible refine gate_callee (f := 35) rfl ?_); refine goesL_ (some 13) rfl rfl Try.func35 (by kernel_rfl) rfl #[.slice A0 l0.length c0] rfl ab1_ ?_; (with_reducible refine (spec_DrawExprFold.calls k _ _ l0 t443 t444 t445 _ ?side1 ?side2 A3.out).mono ?_); (case side1 => repeat (first | exact HR0.out | (with_reducible refine Kd.C_alloc ?_ _) | (with_reducible refine Kd.C_drewN ?_ _) | (with_reducible refine Kd.C_drew ?_))); (case side2 => exact HC0.out); rintro e w7 ⟨v446, rfl, ho0, hb⟩; refine ⟨_, rfl, ?_⟩; have n0_ := Aside0.mk (Kd.N_lower (Kd.N_mono (ok' := fun k_ => True) ho0 (fun k_ hk_ => trivial)) (below_size ab2_)); have n1_ := Aside0.mk (below_step ab2_ hb); clear HB; have HO447 := n0_; have HB := n1_; clear n0_ n1_; (try clear hb); (try clear hb2); (try clear hk); (try clear hi); (try clear ho0)) | ((with_reducible refine gate_dst (N := 3) rfl ?_); refine box_event ?hg (N := 3) ?hd (cs := #[.int .i64 0, .int .i64 0, .slice none 0 0]) (t := 25) ?hr ?_; (case hd => rfl); (case hg => rfl); (case hr => first | (go_simp; done) | (go_simp; rfl)); intro gb448 hg w8 hbox hb; have n0_ := Aside0.mk (Kd.N_below (Kd.N_elderB (aN_ HO447.out) gb448 (Nat.le_of_eq hg.symm)) hb); have n1_ := Aside0.mk (below_step ab2_ hb); have n2_ := Aside0.mk (hbox); have n3_ := Aside0.mk ((by rw [hg]; exact (below_size ab2_) : w.heap.size ≤ gb448)); have n4_ := Aside0.mk ((by rw [hg]; exact (below_size ab2_) : w.heap.size ≤ gb448)); clear HO447; clear HB; have HO447 := n0_; have HB := n1_; have BK448 := n2_; have GW448 := n3_; have GE448 := n4_; clear n0_ n1_ n2_ n3_ n4_; clear hb hbox hg; have hcz9_0 : w8.cell? ⟨gb448, 0, none⟩ = some (.int .i64 0) := (blk_cell BK448.out 0).trans rfl; have hcz9_1 : w8.cell? ⟨gb448, 1, none⟩ = some (.int .i64 0) := (blk_cell BK448.out 1).trans rfl; have hcz9_2 : w8.cell? ⟨gb448, 2, none⟩ = some (.slice none 0 0) := (blk_cell BK448.out 2).trans rfl; have hfz9_0 := blk_frozen BK448.out 0; have hfz9_1 := blk_frozen BK448.out 1; have hfz9_2 := blk_frozen BK448.out 2; obtain ⟨Ao10, co10, eo10⟩ := Kd.N_slice HO447.out; subst eo10) | ((with_reducible refine gate_callee (f := 28) rfl ?_); refine goesL_ (some 16) rfl rfl Try.func28 (by kernel_rfl) rfl #[.agg #[.int .i64 t443, .int .i64 t444, .slice Ao10 t445.length co10]] rfl ab1_ ?_; (with_reducible refine (impl_ExprFold.calls k t443 t444 _ _ t445 t449 t450 t451 t454 _ ?side1 ?side2 A4.out).mono ?_); (case side1 => refine (Kd.N_reads' (e := 25) (base := w.heap.size) (ok := fun k_ => (True ∧ k_ ≠ gb448)) (n := t445.length) (c := co10) ?_).2.2; exact (by (with_reducible repeat (first | apply Kd.N_alloc | apply Kd.N_drewN | apply Kd.N_drew)); exact (Kd.N_mono (Kd.N_far (p := ⟨gb448, 2, none⟩) (Kd.N_far (p := ⟨gb448, 1, none⟩) (Kd.N_far (p := ⟨gb448, 0, none⟩) (Kd.N_mono HO447.out (fun k_ hk => (⟨hk, hk.2⟩ : _ ∧ k_ ≠ gb448))) (fun _ hk => hk.2) (.int .i64 t443)) (fun _ hk => hk.2) (.int .i64 t444)) (fun _ hk => hk.2) (.slice Ao10 t445.length co10)) (fun _ h_ => h_.1)))); (case side2 => exact (Kd.N_reads' HO447.out).2.1); rintro e w11 ⟨v452, rfl, ho0, hb⟩; refine ⟨_, rfl, ?_⟩; have n0_ := Aside0.mk (Kd.N_elder' (by (with_reducible repeat (first | apply Kd.N_alloc | apply Kd.N_drewN | apply Kd.N_drew)); exact (Kd.N_mono (Kd.N_far (p := ⟨gb448, 2, none⟩) (Kd.N_far (p := ⟨gb448, 1, none⟩) (Kd.N_far (p := ⟨gb448, 0, none⟩) (Kd.N_mono HO447.out (fun k_ hk => (⟨hk, hk.2⟩ : _ ∧ k_ ≠ gb448))) (fun _ hk => hk.2) (.int .i64 t443)) (fun _ hk => hk.2) (.int .i64 t444)) (fun _ hk => hk.2) (.slice Ao10 t445.length co10)) (fun _ h_ => h_.1))) (by first | exact Kd.N_base ho0 | exact Kd.N_base (Kd.R_N ho0)) hb); have n1_ := Aside0.mk (Kd.N_lower (Kd.N_mono (ok' := fun k_ => some k_ ≠ (.slice Ao10 t445.length co10 : Value).ownBlock ∧ k_ ≠ gb448) ho0 (fun k_ hk_ => ⟨(Kd.fresh' (Kd.N_lt (by (with_reducible repeat (first | apply Kd.N_alloc | apply Kd.N_drewN | apply Kd.N_drew)); exact (Kd.N_mono (Kd.N_far (p := ⟨gb448, 2, none⟩) (Kd.N_far (p := ⟨gb448, 1, none⟩) (Kd.N_far (p := ⟨gb448, 0, none⟩) (Kd.N_mono HO447.out (fun k_ hk => (⟨hk, hk.2⟩ : _ ∧ k_ ≠ gb448))) (fun _ hk => hk.2) (.int .i64 t443)) (fun _ hk => hk.2) (.int .i64 t444)) (fun _ hk => hk.2) (.slice Ao10 t445.length co10)) (fun _ h_ => h_.1)))) k_ hk_), (Kd.freshB (g := gb448) (o := .cells #[.int .i64 t443, .int .i64 t444, .slice Ao10 t445.length co10] 25 (0, 0)) (by (with_reducible repeat (first | refine blk_drewN ?_ _ | refine blk_drew ?_ | refine blk_alloc ?_ _)); refine blk_put (cs := #[.int .i64 t443, .int .i64 t444, .slice none 0 0]) ?_ 2 _ rfl; (with_reducible repeat (first | refine blk_drewN ?_ _ | refine blk_drew ?_ | refine blk_alloc ?_ _)); refine blk_put (cs := #[.int .i64 t443, .int .i64 0, .slice none 0 0]) ?_ 1 _ rfl; (with_reducible repeat (first | refine blk_drewN ?_ _ | refine blk_drew ?_ | refine blk_alloc ?_ _)); refine blk_put (cs := #[.int .i64 0, .int .i64 0, .slice none 0 0]) ?_ 0 _ rfl; (with_reducible repeat (first | refine blk_drewN ?_ _ | refine blk_drew ?_ | refine blk_alloc ?_ _)); exact BK448.out) k_ hk_)⟩)) (below_size ab53_)); have n2_ := Aside0.mk (blk_below (g := gb448) (o := .cells #[.int .i64 t443, .int .i64 t444, .slice Ao10 t445.length co10] 25 (0, 0)) (by (with_reducible repeat (first | refine blk_drewN ?_ _ | refine blk_drew ?_ | refine blk_alloc ?_ _)); refine blk_put (cs := #[.int .i64 t443, .int .i64 t444, .slice none 0 0]) ?_ 2 _ rfl; (with_reducible repeat (first | refine blk_drewN ?_ _ | refine blk_drew ?_ | refine blk_alloc ?_ _)); refine blk_put (cs := #[.int .i64 t443, .int .i64 0, .slice none 0 0]) ?_ 1 _ rfl; (with_reducible repeat (first | refine blk_drewN ?_ _ | refine blk_drew ?_ | refine blk_alloc ?_ _)); refine blk_put (cs := #[.int .i64 0, .int .i64 0, .slice none 0 0]) ?_ 0 _ rfl; (with_reducible repeat (first | refine blk_drewN ?_ _ | refine blk_drew ?_ | refine blk_alloc ?_ _)); exact BK448.out) hb); have n3_ := Aside0.mk (below_step ab53_ hb); clear HO447; clear BK448; clear HB; have HO447 := n0_; have HO453 := n1_; have BK448 := n2_; have HB := n3_; clear n0_ n1_ n2_ n3_; (try clear hb); (try clear hb2); (try clear hk); (try clear hi); (try clear ho0)) | ((with_reducible refine gate_dst (N := 4) rfl ?_); refine box_event ?hg (N := 4) ?hd (cs := #[.int .i64 0, .int .i64 0, .slice none 0 0]) (t := 25) ?hr ?_; (case hd => rfl); (case hg => rfl); (case hr => first | (go_simp; done) | (go_simp; rfl)); intro gb455 hg w12 hbox hb; have n0_ := Aside0.mk (Kd.N_below (Kd.N_elderB (aN_ HO447.out) gb455 (Nat.le_of_eq hg.symm)) hb); have n1_ := Aside0.mk (Kd.N_below (Kd.N_elderB (aN_ HO453.out) gb455 (Nat.le_of_eq hg.symm)) hb); have n2_ := Aside0.mk (blk_below (g := gb448) (o := .cells #[.int .i64 t443, .int .i64 t444, .slice Ao10 t445.length co10] 25 (0, 0)) (aG_ BK448.out) hb); have n3_ := Aside0.mk (below_step ab53_ hb); have n4_ := Aside0.mk (hbox); have n5_ := Aside0.mk ((by rw [hg]; exact (below_size ab53_) : w.heap.size ≤ gb455)); have n6_ := Aside0.mk ((by rw [hg]; exact (below_size ab53_) : w.heap.size ≤ gb455)); have n7_ := Aside0.mk ((by rw [hg]; exact Nat.ne_of_lt (blk_lt (g := gb448) (o := .cells #[.int .i64 t443, .int .i64 t444, .slice Ao10 t445.length co10] 25 (0, 0)) (aG_ BK448.out)) : gb448 ≠ gb455)); have n8_ := Aside0.mk ((by rw [hg]; exact Nat.ne_of_gt (blk_lt (g := gb448) (o := .cells #[.int .i64 t443, .int .i64 t444, .slice Ao10 t445.length co10] 25 (0, 0)) (aG_ BK448.out)) : gb455 ≠ gb448)); clear HO447; clear HO453; clear BK448; clear HB; have HO447 := n0_; have HO453 := n1_; have BK448 := n2_; have HB := n3_; have BK455 := n4_; have GW455 := n5_; have GE455 := n6_; have NB448_455 := n7_; have NB455_448 := n8_; clear n0_ n1_ n2_ n3_ n4_ n5_ n6_ n7_ n8_; clear hb hbox hg; have hnb13 := NB455_448.out; have hnc13 := NB448_455.out; have hcz14_0 : w12.cell? ⟨gb455, 0, none⟩ = some (.int .i64 0) := (blk_cell BK455.out 0).trans rfl; have hcz14_1 : w12.cell? ⟨gb455, 1, none⟩ = some (.int .i64 0) := (blk_cell BK455.out 1).trans rfl; have hcz14_2 : w12.cell? ⟨gb455, 2, none⟩ = some (.slice none 0 0) := (blk_cell BK455.out 2).trans rfl; have hfz14_0 := blk_frozen BK455.out 0; have hfz14_1 := blk_frozen BK455.out 1; have hfz14_2 := blk_frozen BK455.out 2; obtain ⟨Ao15, co15, eo15⟩ := Kd.N_slice HO453.out; subst eo15; have hcz16_0 : w12.cell? ⟨gb448, 0, none⟩ = some (.int .i64 t443) := (blk_cell BK448.out 0).trans rfl; have hcz16_1 : w12.cell? ⟨gb448, 1, none⟩ = some (.int .i64 t444) := (blk_cell BK448.out 1).trans rfl; have hcz16_2 : w12.cell? ⟨gb448, 2, none⟩ = some (.slice Ao10 t445.length co10) := (blk_cell BK448.out 2).trans rfl; have hfz16_0 := blk_frozen BK448.out 0; have hfz16_1 := blk_frozen BK448.out 1; have hfz16_2 := blk_frozen BK448.out 2) | ((with_reducible refine gate_callee (f := 27) rfl ?_); refine goesL_ (some 21) rfl rfl Try.func27 (by kernel_rfl) rfl #[.agg #[.int .i64 t443, .int .i64 t444, .slice Ao10 t445.length co10]] rfl ab1_ ?_; (with_reducible refine (spec_ExprFold.calls k t443 t444 _ _ t445 t456 t457 t458 t461 _ ?side1 ?side2 A5.out).mono ?_); (case side1 => refine (Kd.N_reads' (e := 25) (base := w.heap.size) (ok := fun k_ => (((True ∧ k_ ≠ gb448) ∧ some k_ ≠ (.slice Ao15 t451.length co15 : Value).ownBlock) ∧ k_ ≠ gb455)) (n := t445.length) (c := co10) ?_).2.2; exact (by (with_reducible repeat (first | apply Kd.N_alloc | apply Kd.N_drewN | apply Kd.N_drew)); exact (Kd.N_mono (Kd.N_far (p := ⟨gb455, 2, none⟩) (Kd.N_far (p := ⟨gb455, 1, none⟩) (Kd.N_far (p := ⟨gb455, 0, none⟩) (Kd.N_mono HO447.out (fun k_ hk => (⟨hk, hk.2⟩ : _ ∧ k_ ≠ gb455))) (fun _ hk => hk.2) (.int .i64 t449)) (fun _ hk => hk.2) (.int .i64 t450)) (fun _ hk => hk.2) (.slice Ao15 t451.length co15)) (fun _ h_ => h_.1)))); (case side2 => exact (Kd.N_reads' HO447.out).2.1); rintro e w17 ⟨v459, rfl, ho0, hb⟩; refine ⟨_, rfl, ?_⟩; have n0_ := Aside0.mk (Kd.N_elder' (by (with_reducible repeat (first | apply Kd.N_alloc | apply Kd.N_drewN | apply Kd.N_drew)); exact (Kd.N_mono (Kd.N_far (p := ⟨gb455, 2, none⟩) (Kd.N_far (p := ⟨gb455, 1, none⟩) (Kd.N_far (p := ⟨gb455, 0, none⟩) (Kd.N_mono HO447.out (fun k_ hk => (⟨hk, hk.2⟩ : _ ∧ k_ ≠ gb455))) (fun _ hk => hk.2) (.int .i64 t449)) (fun _ hk => hk.2) (.int .i64 t450)) (fun _ hk => hk.2) (.slice Ao15 t451.length co15)) (fun _ h_ => h_.1))) (by first | exact Kd.N_base ho0 | exact Kd.N_base (Kd.R_N ho0)) hb); have n1_ := Aside0.mk (Kd.N_elder' (by (with_reducible repeat (first | apply Kd.N_alloc | apply Kd.N_drewN | apply Kd.N_drew)); exact (Kd.N_mono (Kd.N_far (p := ⟨gb455, 2, none⟩) (Kd.N_far (p := ⟨gb455, 1, none⟩) (Kd.N_far (p := ⟨gb455, 0, none⟩) (Kd.N_mono HO453.out (fun k_ hk => (⟨hk, hk.2⟩ : _ ∧ k_ ≠ gb455))) (fun _ hk => hk.2) (.int .i64 t449)) (fun _ hk => hk.2) (.int .i64 t450)) (fun _ hk => hk.2) (.slice Ao15 t451.length co15)) (fun _ h_ => h_.1))) (by first | exact Kd.N_base ho0 | exact Kd.N_base (Kd.R_N ho0)) hb); have n2_ := Aside0.mk (Kd.N_lower (Kd.N_mono (ok' := fun k_ => some k_ ≠ (.slice Ao10 t445.length co10 : Value).ownBlock ∧ some k_ ≠ (.slice Ao15 t451.length co15 : Value).ownBlock ∧ k_ ≠ gb448 ∧ k_ ≠ gb455) ho0 (fun k_ hk_ => ⟨(Kd.fresh' (Kd.N_lt (by (with_reducible repeat (first | apply Kd.N_alloc | apply Kd.N_drewN | apply Kd.N_drew)); exact (Kd.N_mono (Kd.N_far (p := ⟨gb455, 2, none⟩) (Kd.N_far (p := ⟨gb455, 1, none⟩) (Kd.N_far (p := ⟨gb455, 0, none⟩) (Kd.N_mono HO447.out (fun k_ hk => (⟨hk, hk.2⟩ : _ ∧ k_ ≠ gb455))) (fun _ hk => hk.2) (.int .i64 t449)) (fun _ hk => hk.2) (.int .i64 t450)) (fun _ hk => hk.2) (.slice Ao15 t451.length co15)) (fun _ h_ => h_.1)))) k_ hk_), (Kd.fresh' (Kd.N_lt (by (with_reducible repeat (first | apply Kd.N_alloc | apply Kd.N_drewN | apply Kd.N_drew)); exact (Kd.N_mono (Kd.N_far (p := ⟨gb455, 2, none⟩) (Kd.N_far (p := ⟨gb455, 1, none⟩) (Kd.N_far (p := ⟨gb455, 0, none⟩) (Kd.N_mono HO453.out (fun k_ hk => (⟨hk, hk.2⟩ : _ ∧ k_ ≠ gb455))) (fun _ hk => hk.2) (.int .i64 t449)) (fun _ hk => hk.2) (.int .i64 t450)) (fun _ hk => hk.2) (.slice Ao15 t451.length co15)) (fun _ h_ => h_.1)))) k_ hk_), (Kd.freshB (g := gb448) (o := .cells #[.int .i64 t443, .int .i64 t444, .slice Ao10 t445.length co10] 25 (0, 0)) (by (with_reducible repeat (first | refine blk_drewN ?_ _ | refine blk_drew ?_ | refine blk_alloc ?_ _)); refine blk_far ?_ NB448_455.out _; (with_reducible repeat (first | refine blk_drewN ?_ _ | refine blk_drew ?_ | refine blk_alloc ?_ _)); refine blk_far ?_ NB448_455.out _; (with_reducible repeat (first | refine blk_drewN ?_ _ | refine blk_drew ?_ | refine blk_alloc ?_ _)); refine blk_far ?_ NB448_455.out _; (with_reducible repeat (first | refine blk_drewN ?_ _ | refine blk_drew ?_ | refine blk_alloc ?_ _)); exact BK448.out) k_ hk_), (Kd.freshB (g := gb455) (o := .cells #[.int .i64 t449, .int .i64 t450, .slice Ao15 t451.length co15] 25 (0, 0)) (by (with_reducible repeat (first | refine blk_drewN ?_ _ | refine blk_drew ?_ | refine blk_alloc ?_ _)); refine blk_put (cs := #[.int .i64 t449, .int .i64 t450, .slice none 0 0]) ?_ 2 _ rfl; (with_reducible repeat (first | refine blk_drewN ?_ _ | refine blk_drew ?_ | refine blk_alloc ?_ _)); refine blk_put (cs := #[.int .i64 t449, .int .i64 0, .slice none 0 0]) ?_ 1 _ rfl; (with_reducible repeat (first | refine blk_drewN ?_ _ | refine blk_drew ?_ | refine blk_alloc ?_ _)); refine blk_put (cs := #[.int .i64 0, .int .i64 0, .slice none 0 0]) ?_ 0 _ rfl; (with_reducible repeat (first | refine blk_drewN ?_ _ | refine blk_drew ?_ | refine blk_alloc ?_ _)); exact BK455.out) k_ hk_)⟩)) (below_size ab46_)); have n3_ := Aside0.mk (blk_below (g := gb448) (o := .cells #[.int .i64 t443, .int .i64 t444, .slice Ao10 t445.length co10] 25 (0, 0)) (by (with_reducible repeat (first | refine blk_drewN ?_ _ | refine blk_drew ?_ | refine blk_alloc ?_ _)); refine blk_far ?_ NB448_455.out _; (with_reducible repeat (first | refine blk_drewN ?_ _ | refine blk_drew ?_ | refine blk_alloc ?_ _)); refine blk_far ?_ NB448_455.out _; (with_reducible repeat (first | refine blk_drewN ?_ _ | refine blk_drew ?_ | refine blk_alloc ?_ _)); refine blk_far ?_ NB448_455.out _; (with_reducible repeat (first | refine blk_drewN ?_ _ | refine blk_drew ?_ | refine blk_alloc ?_ _)); exact BK448.out) hb); have n4_ := Aside0.mk (blk_below (g := gb455) (o := .cells #[.int .i64 t449, .int .i64 t450, .slice Ao15 t451.length co15] 25 (0, 0)) (by (with_reducible repeat (first | refine blk_drewN ?_ _ | refine blk_drew ?_ | refine blk_alloc ?_ _)); refine blk_put (cs := #[.int .i64 t449, .int .i64 t450, .slice none 0 0]) ?_ 2 _ rfl; (with_reducible repeat (first | refine blk_drewN ?_ _ | refine blk_drew ?_ | refine blk_alloc ?_ _)); refine blk_put (cs := #[.int .i64 t449, .int .i64 0, .slice none 0 0]) ?_ 1 _ rfl; (with_reducible repeat (first | refine blk_drewN ?_ _ | refine blk_drew ?_ | refine blk_alloc ?_ _)); refine blk_put (cs := #[.int .i64 0, .int .i64 0, .slice none 0 0]) ?_ 0 _ rfl; (with_reducible repeat (first | refine blk_drewN ?_ _ | refine blk_drew ?_ | refine blk_alloc ?_ _)); exact BK455.out) hb); have n5_ := Aside0.mk (below_step ab46_ hb); clear HO447; clear HO453; clear BK448; clear BK455; clear HB; have HO447 := n0_; have HO453 := n1_; have HO460 := n2_; have BK448 := n3_; have BK455 := n4_; have HB := n5_; clear n0_ n1_ n2_ n3_ n4_ n5_; (try clear hb); (try clear hb2); (try clear hk); (try clear hi); (try clear ho0)) | ((with_reducible refine gate_dst (N := 6) rfl ?_); refine box_event ?hg (N := 6) ?hd (cs := #[.int .i64 0, .int .i64 0, .slice none 0 0]) (t := 25) ?hr ?_; (case hd => rfl); (case hg => rfl); (case hr => first | (go_simp; done) | (go_simp; rfl)); intro gb462 hg w18 hbox hb; have n0_ := Aside0.mk (Kd.N_below (Kd.N_elderB (aN_ HO447.out) gb462 (Nat.le_of_eq hg.symm)) hb); have n1_ := Aside0.mk (Kd.N_below (Kd.N_elderB (aN_ HO453.out) gb462 (Nat.le_of_eq hg.symm)) hb); have n2_ := Aside0.mk (Kd.N_below (Kd.N_elderB (aN_ HO460.out) gb462 (Nat.le_of_eq hg.symm)) hb); have n3_ := Aside0.mk (blk_below (g := gb448) (o := .cells #[.int .i64 t443, .int .i64 t444, .slice Ao10 t445.length co10] 25 (0, 0)) (aG_ BK448.out) hb); have n4_ := Aside0.mk (blk_below (g := gb455) (o := .cells #[.int .i64 t449, .int .i64 t450, .slice Ao15 t451.length co15] 25 (0, 0)) (aG_ BK455.out) hb); have n5_ := Aside0.mk (below_step ab46_ hb); have n6_ := Aside0.mk (hbox); have n7_ := Aside0.mk ((by rw [hg]; exact (below_size ab46_) : w.heap.size ≤ gb462)); have n8_ := Aside0.mk ((by rw [hg]; exact (below_size ab46_) : w.heap.size ≤ gb462)); have n9_ := Aside0.mk ((by rw [hg]; exact Nat.ne_of_lt (blk_lt (g := gb448) (o := .cells #[.int .i64 t443, .int .i64 t444, .slice Ao10 t445.length co10] 25 (0, 0)) (aG_ BK448.out)) : gb448 ≠ gb462)); have n10_ := Aside0.mk ((by rw [hg]; exact Nat.ne_of_gt (blk_lt (g := gb448) (o := .cells #[.int .i64 t443, .int .i64 t444, .slice Ao10 t445.length co10] 25 (0, 0)) (aG_ BK448.out)) : gb462 ≠ gb448)); have n11_ := Aside0.mk ((by rw [hg]; exact Nat.ne_of_lt (blk_lt (g := gb455) (o := .cells #[.int .i64 t449, .int .i64 t450, .slice Ao15 t451.length co15] 25 (0, 0)) (aG_ BK455.out)) : gb455 ≠ gb462)); have n12_ := Aside0.mk ((by rw [hg]; exact Nat.ne_of_gt (blk_lt (g := gb455) (o := .cells #[.int .i64 t449, .int .i64 t450, .slice Ao15 t451.length co15] 25 (0, 0)) (aG_ BK455.out)) : gb462 ≠ gb455)); clear HO447; clear HO453; clear HO460; clear BK448; clear BK455; clear HB; have HO447 := n0_; have HO453 := n1_; have HO460 := n2_; have BK448 := n3_; have BK455 := n4_; have HB := n5_; have BK462 := n6_; have GW462 := n7_; have GE462 := n8_; have NB448_462 := n9_; have NB462_448 := n10_; have NB455_462 := n11_; have NB462_455 := n12_; clear n0_ n1_ n2_ n3_ n4_ n5_ n6_ n7_ n8_ n9_ n10_ n11_ n12_; clear hb hbox hg; have hnb19 := NB462_448.out; have hnc19 := NB448_462.out; have hnb20 := NB462_455.out; have hnc20 := NB455_462.out; have hcz21_0 : w18.cell? ⟨gb462, 0, none⟩ = some (.int .i64 0) := (blk_cell BK462.out 0).trans rfl; have hcz21_1 : w18.cell? ⟨gb462, 1, none⟩ = some (.int .i64 0) := (blk_cell BK462.out 1).trans rfl; have hcz21_2 : w18.cell? ⟨gb462, 2, none⟩ = some (.slice none 0 0) := (blk_cell BK462.out 2).trans rfl; have hfz21_0 := blk_frozen BK462.out 0; have hfz21_1 := blk_frozen BK462.out 1; have hfz21_2 := blk_frozen BK462.out 2; obtain ⟨Ao22, co22, eo22⟩ := Kd.N_slice HO460.out; subst eo22))
    (try simp only [Act.put, List.setIfInBounds_toArray, List.set_cons_zero, List.set_cons_succ])
    go_cut [36] (fun v36 wc => ∃ (kq : Nat) (x36_5 : Bool), v36 = .bool x36_5 ∧ Aside0 (laws_FnFoldSmaller.j0 kq t454 t461 x36_5 t443 t444 t445 t449 t450 t451 t456 t457 t458 = some r) ∧ Aside0 (kq ≤ k) ∧ Aside0 (Kd.N k25 25 wc w.heap.size (fun k_ => some k_ ≠ ((.slice Ao15 t451.length co15) : Value).ownBlock ∧ some k_ ≠ ((.slice Ao22 t458.length co22) : Value).ownBlock ∧ k_ ≠ gb448 ∧ k_ ≠ gb455 ∧ k_ ≠ gb462) (.slice Ao10 t445.length co10) t445) ∧ Aside0 (Kd.N k25 25 wc w.heap.size (fun k_ => some k_ ≠ ((.slice Ao10 t445.length co10) : Value).ownBlock ∧ some k_ ≠ ((.slice Ao22 t458.length co22) : Value).ownBlock ∧ k_ ≠ gb448 ∧ k_ ≠ gb455 ∧ k_ ≠ gb462) (.slice Ao15 t451.length co15) t451) ∧ Aside0 (Kd.N k25 25 wc w.heap.size (fun k_ => some k_ ≠ ((.slice Ao10 t445.length co10) : Value).ownBlock ∧ some k_ ≠ ((.slice Ao15 t451.length co15) : Value).ownBlock ∧ k_ ≠ gb448 ∧ k_ ≠ gb455 ∧ k_ ≠ gb462) (.slice Ao22 t458.length co22) t458) ∧ Aside0 (wc.heap[gb448]? = some (.cells #[.int .i64 t443, .int .i64 t444, (.slice Ao10 t445.length co10)] 25 (0, 0))) ∧ Aside0 (wc.heap[gb455]? = some (.cells #[.int .i64 t449, .int .i64 t450, (.slice Ao15 t451.length co15)] 25 (0, 0))) ∧ Aside0 (wc.heap[gb462]? = some (.cells #[.int .i64 t456, .int .i64 t457, (.slice Ao22 t458.length co22)] 25 (0, 0))) ∧ Aside0 (Below w.heap.size w wc))
    case first =>
      have H := HC6.out
      clear HC6
      by_cases c23 : (t454 != t461) = true
      · rw [if_pos c23] at H
        have c23b0 : (t454 != t461) = true := c23
        (try (have c23b1 : decide (t454 = t461) = false := by simpa using c23))
        (try (have c23b2 : (t454 == t461) = false := by simpa using c23))
        (try (have c23b3 : ¬ (t454 = t461) := by simpa using c23))
        clear c23
        (first | rw [c23b0] | (simp only [i64_w, i32_w]; rw [c23b0]) | skip)
        have H' := Aside0.mk H
        clear H
        go_wp2
        go_meet
        case rel => exact ⟨_, (true), (by first | rfl | (simp; done) | (simp [*]; done)), H', ⟨by first | omega | exact Nat.le_refl _⟩, ⟨by (with_reducible repeat (first | apply Kd.N_alloc | apply Kd.N_drewN | apply Kd.N_drew)); exact Kd.N_mono (Kd.N_far (p := ⟨gb462, 2, none⟩) (Kd.N_far (p := ⟨gb462, 1, none⟩) (Kd.N_far (p := ⟨gb462, 0, none⟩) (Kd.N_mono HO447.out (fun k_ hk => (⟨hk, hk.2⟩ : _ ∧ k_ ≠ gb462))) (fun _ hk => hk.2) (.int .i64 t456)) (fun _ hk => hk.2) (.int .i64 t457)) (fun _ hk => hk.2) (.slice Ao22 t458.length co22)) (fun _ hk => ⟨hk.1.1.1.1.2, ⟨hk.1.1.2, ⟨hk.1.1.1.1.1.2, ⟨hk.1.1.1.2, hk.1.2⟩⟩⟩⟩)⟩, ⟨by (with_reducible repeat (first | apply Kd.N_alloc | apply Kd.N_drewN | apply Kd.N_drew)); exact Kd.N_mono (Kd.N_far (p := ⟨gb462, 2, none⟩) (Kd.N_far (p := ⟨gb462, 1, none⟩) (Kd.N_far (p := ⟨gb462, 0, none⟩) (Kd.N_mono HO453.out (fun k_ hk => (⟨hk, hk.2⟩ : _ ∧ k_ ≠ gb462))) (fun _ hk => hk.2) (.int .i64 t456)) (fun _ hk => hk.2) (.int .i64 t457)) (fun _ hk => hk.2) (.slice Ao22 t458.length co22)) (fun _ hk => ⟨hk.1.1.1.1.1, ⟨hk.1.1.2, ⟨hk.1.1.1.1.2, ⟨hk.1.1.1.2, hk.1.2⟩⟩⟩⟩)⟩, ⟨by (with_reducible repeat (first | apply Kd.N_alloc | apply Kd.N_drewN | apply Kd.N_drew)); exact Kd.N_mono (Kd.N_far (p := ⟨gb462, 2, none⟩) (Kd.N_far (p := ⟨gb462, 1, none⟩) (Kd.N_far (p := ⟨gb462, 0, none⟩) (Kd.N_mono HO460.out (fun k_ hk => (⟨hk, hk.2⟩ : _ ∧ k_ ≠ gb462))) (fun _ hk => hk.2) (.int .i64 t456)) (fun _ hk => hk.2) (.int .i64 t457)) (fun _ hk => hk.2) (.slice Ao22 t458.length co22)) (fun _ hk => ⟨hk.1.1.1, ⟨hk.1.1.2.1, ⟨hk.1.1.2.2.1, ⟨hk.1.1.2.2.2, hk.1.2⟩⟩⟩⟩)⟩, ⟨by (with_reducible repeat (first | refine blk_drewN ?_ _ | refine blk_drew ?_ | refine blk_alloc ?_ _)); refine blk_far ?_ NB448_462.out _; (with_reducible repeat (first | refine blk_drewN ?_ _ | refine blk_drew ?_ | refine blk_alloc ?_ _)); refine blk_far ?_ NB448_462.out _; (with_reducible repeat (first | refine blk_drewN ?_ _ | refine blk_drew ?_ | refine blk_alloc ?_ _)); refine blk_far ?_ NB448_462.out _; (with_reducible repeat (first | refine blk_drewN ?_ _ | refine blk_drew ?_ | refine blk_alloc ?_ _)); exact BK448.out⟩, ⟨by (with_reducible repeat (first | refine blk_drewN ?_ _ | refine blk_drew ?_ | refine blk_alloc ?_ _)); refine blk_far ?_ NB455_462.out _; (with_reducible repeat (first | refine blk_drewN ?_ _ | refine blk_drew ?_ | refine blk_alloc ?_ _)); refine blk_far ?_ NB455_462.out _; (with_reducible repeat (first | refine blk_drewN ?_ _ | refine blk_drew ?_ | refine blk_alloc ?_ _)); refine blk_far ?_ NB455_462.out _; (with_reducible repeat (first | refine blk_drewN ?_ _ | refine blk_drew ?_ | refine blk_alloc ?_ _)); exact BK455.out⟩, ⟨by (with_reducible repeat (first | refine blk_drewN ?_ _ | refine blk_drew ?_ | refine blk_alloc ?_ _)); refine blk_put (cs := #[.int .i64 t456, .int .i64 t457, .slice none 0 0]) ?_ 2 _ rfl; (with_reducible repeat (first | refine blk_drewN ?_ _ | refine blk_drew ?_ | refine blk_alloc ?_ _)); refine blk_put (cs := #[.int .i64 t456, .int .i64 0, .slice none 0 0]) ?_ 1 _ rfl; (with_reducible repeat (first | refine blk_drewN ?_ _ | refine blk_drew ?_ | refine blk_alloc ?_ _)); refine blk_put (cs := #[.int .i64 0, .int .i64 0, .slice none 0 0]) ?_ 0 _ rfl; (with_reducible repeat (first | refine blk_drewN ?_ _ | refine blk_drew ?_ | refine blk_alloc ?_ _)); exact BK462.out⟩, ⟨ab7_⟩⟩
      · rw [if_neg c23] at H
        have c23b0 : (t454 != t461) = false := by simpa using c23
        (try (have c23b1 : decide (t454 = t461) = true := by simpa using c23))
        (try (have c23b2 : (t454 == t461) = true := by simpa using c23))
        clear c23
        (first | rw [c23b0] | (simp only [i64_w, i32_w]; rw [c23b0]) | skip)
        replace H := Option.bind_eq_some_iff.mp H
        obtain ⟨t463, A240, H⟩ := H
        replace H : (if t463 = true then (laws_FnFoldSmaller.j0 k t454 t461 (!t454) t443 t444 t445 t449 t450 t451 t456 t457 t458) else (laws_FnFoldSmaller.j0 k t454 t461 true t443 t444 t445 t449 t450 t451 t456 t457 t458)) = some r := H
        have A24 := Aside0.mk A240
        clear A240
        by_cases c25 : t463 = true
        · subst c25
          have H1 : (laws_FnFoldSmaller.j0 k t454 t461 (!t454) t443 t444 t445 t449 t450 t451 t456 t457 t458) = some r := by rw [if_pos rfl] at H; exact H
          clear H
          have H := H1
          clear H1
          have H' := Aside0.mk H
          clear H
          have hnb26 := NB455_448.out
          have hnc26 := NB448_455.out
          have hnb27 := NB455_462.out
          have hnc27 := NB462_455.out
          have hcz28_0 : w18.cell? ⟨gb455, 0, none⟩ = some (.int .i64 t449) := (blk_cell BK455.out 0).trans rfl
          have hcz28_1 : w18.cell? ⟨gb455, 1, none⟩ = some (.int .i64 t450) := (blk_cell BK455.out 1).trans rfl
          have hcz28_2 : w18.cell? ⟨gb455, 2, none⟩ = some (.slice Ao15 t451.length co15) := (blk_cell BK455.out 2).trans rfl
          have hfz28_0 := blk_frozen BK455.out 0
          have hfz28_1 := blk_frozen BK455.out 1
          have hfz28_2 := blk_frozen BK455.out 2
          have hnb29 := NB462_448.out
          have hnc29 := NB448_462.out
          have hcz30_0 : w18.cell? ⟨gb462, 0, none⟩ = some (.int .i64 0) := (blk_cell BK462.out 0).trans rfl
          have hcz30_1 : w18.cell? ⟨gb462, 1, none⟩ = some (.int .i64 0) := (blk_cell BK462.out 1).trans rfl
          have hcz30_2 : w18.cell? ⟨gb462, 2, none⟩ = some (.slice none 0 0) := (blk_cell BK462.out 2).trans rfl
          have hfz30_0 := blk_frozen BK462.out 0
          have hfz30_1 := blk_frozen BK462.out 1
          have hfz30_2 := blk_frozen BK462.out 2
          go_wp2_with (first | (go_at_call 36; (with_reducible refine (laws_sameExpr.calls k t449 t450 _ _ t451 t456 t457 _ _ t458 true _ ?side1 ?side2 ?side3 ?side4 A24.out).mono ?_); (case side1 => refine (Kd.N_reads' (e := 25) (base := w.heap.size) (ok := fun k_ => ((((some k_ ≠ (.slice Ao10 t445.length co10 : Value).ownBlock ∧ k_ ≠ gb448) ∧ k_ ≠ gb455) ∧ some k_ ≠ (.slice Ao22 t458.length co22 : Value).ownBlock) ∧ k_ ≠ gb462)) (n := t451.length) (c := co15) ?_).2.2; exact (by (with_reducible repeat (first | apply Kd.N_alloc | apply Kd.N_drewN | apply Kd.N_drew)); exact (Kd.N_mono (Kd.N_far (p := ⟨gb462, 2, none⟩) (Kd.N_far (p := ⟨gb462, 1, none⟩) (Kd.N_far (p := ⟨gb462, 0, none⟩) (Kd.N_mono HO453.out (fun k_ hk => (⟨hk, hk.2⟩ : _ ∧ k_ ≠ gb462))) (fun _ hk => hk.2) (.int .i64 t456)) (fun _ hk => hk.2) (.int .i64 t457)) (fun _ hk => hk.2) (.slice Ao22 t458.length co22)) (fun _ h_ => h_.1)))); (case side2 => exact (Kd.N_reads' HO453.out).2.1); (case side3 => refine (Kd.N_reads' (e := 25) (base := w.heap.size) (ok := fun k_ => ((some k_ ≠ (.slice Ao10 t445.length co10 : Value).ownBlock ∧ (some k_ ≠ (.slice Ao15 t451.length co15 : Value).ownBlock ∧ (k_ ≠ gb448 ∧ k_ ≠ gb455))) ∧ k_ ≠ gb462)) (n := t458.length) (c := co22) ?_).2.2; exact (by (with_reducible repeat (first | apply Kd.N_alloc | apply Kd.N_drewN | apply Kd.N_drew)); exact (Kd.N_mono (Kd.N_far (p := ⟨gb462, 2, none⟩) (Kd.N_far (p := ⟨gb462, 1, none⟩) (Kd.N_far (p := ⟨gb462, 0, none⟩) (Kd.N_mono HO460.out (fun k_ hk => (⟨hk, hk.2⟩ : _ ∧ k_ ≠ gb462))) (fun _ hk => hk.2) (.int .i64 t456)) (fun _ hk => hk.2) (.int .i64 t457)) (fun _ hk => hk.2) (.slice Ao22 t458.length co22)) (fun _ h_ => h_.1)))); (case side4 => exact (Kd.N_reads' HO460.out).2.1); rintro e w31 ⟨rfl, hb⟩; have n0_ := Aside0.mk (Kd.N_below (by (with_reducible repeat (first | apply Kd.N_alloc | apply Kd.N_drewN | apply Kd.N_drew)); exact (Kd.N_mono (Kd.N_far (p := ⟨gb462, 2, none⟩) (Kd.N_far (p := ⟨gb462, 1, none⟩) (Kd.N_far (p := ⟨gb462, 0, none⟩) (Kd.N_mono HO447.out (fun k_ hk => (⟨hk, hk.2⟩ : _ ∧ k_ ≠ gb462))) (fun _ hk => hk.2) (.int .i64 t456)) (fun _ hk => hk.2) (.int .i64 t457)) (fun _ hk => hk.2) (.slice Ao22 t458.length co22)) (fun _ h_ => h_.1))) hb); have n1_ := Aside0.mk (Kd.N_below (by (with_reducible repeat (first | apply Kd.N_alloc | apply Kd.N_drewN | apply Kd.N_drew)); exact (Kd.N_mono (Kd.N_far (p := ⟨gb462, 2, none⟩) (Kd.N_far (p := ⟨gb462, 1, none⟩) (Kd.N_far (p := ⟨gb462, 0, none⟩) (Kd.N_mono HO453.out (fun k_ hk => (⟨hk, hk.2⟩ : _ ∧ k_ ≠ gb462))) (fun _ hk => hk.2) (.int .i64 t456)) (fun _ hk => hk.2) (.int .i64 t457)) (fun _ hk => hk.2) (.slice Ao22 t458.length co22)) (fun _ h_ => h_.1))) hb); have n2_ := Aside0.mk (Kd.N_below (by (with_reducible repeat (first | apply Kd.N_alloc | apply Kd.N_drewN | apply Kd.N_drew)); exact (Kd.N_mono (Kd.N_far (p := ⟨gb462, 2, none⟩) (Kd.N_far (p := ⟨gb462, 1, none⟩) (Kd.N_far (p := ⟨gb462, 0, none⟩) (Kd.N_mono HO460.out (fun k_ hk => (⟨hk, hk.2⟩ : _ ∧ k_ ≠ gb462))) (fun _ hk => hk.2) (.int .i64 t456)) (fun _ hk => hk.2) (.int .i64 t457)) (fun _ hk => hk.2) (.slice Ao22 t458.length co22)) (fun _ h_ => h_.1))) hb); have n3_ := Aside0.mk (blk_below (g := gb448) (o := .cells #[.int .i64 t443, .int .i64 t444, .slice Ao10 t445.length co10] 25 (0, 0)) (by (with_reducible repeat (first | refine blk_drewN ?_ _ | refine blk_drew ?_ | refine blk_alloc ?_ _)); refine blk_far ?_ NB448_462.out _; (with_reducible repeat (first | refine blk_drewN ?_ _ | refine blk_drew ?_ | refine blk_alloc ?_ _)); refine blk_far ?_ NB448_462.out _; (with_reducible repeat (first | refine blk_drewN ?_ _ | refine blk_drew ?_ | refine blk_alloc ?_ _)); refine blk_far ?_ NB448_462.out _; (with_reducible repeat (first | refine blk_drewN ?_ _ | refine blk_drew ?_ | refine blk_alloc ?_ _)); exact BK448.out) hb); have n4_ := Aside0.mk (blk_below (g := gb455) (o := .cells #[.int .i64 t449, .int .i64 t450, .slice Ao15 t451.length co15] 25 (0, 0)) (by (with_reducible repeat (first | refine blk_drewN ?_ _ | refine blk_drew ?_ | refine blk_alloc ?_ _)); refine blk_far ?_ NB455_462.out _; (with_reducible repeat (first | refine blk_drewN ?_ _ | refine blk_drew ?_ | refine blk_alloc ?_ _)); refine blk_far ?_ NB455_462.out _; (with_reducible repeat (first | refine blk_drewN ?_ _ | refine blk_drew ?_ | refine blk_alloc ?_ _)); refine blk_far ?_ NB455_462.out _; (with_reducible repeat (first | refine blk_drewN ?_ _ | refine blk_drew ?_ | refine blk_alloc ?_ _)); exact BK455.out) hb); have n5_ := Aside0.mk (blk_below (g := gb462) (o := .cells #[.int .i64 t456, .int .i64 t457, .slice Ao22 t458.length co22] 25 (0, 0)) (by (with_reducible repeat (first | refine blk_drewN ?_ _ | refine blk_drew ?_ | refine blk_alloc ?_ _)); refine blk_put (cs := #[.int .i64 t456, .int .i64 t457, .slice none 0 0]) ?_ 2 _ rfl; (with_reducible repeat (first | refine blk_drewN ?_ _ | refine blk_drew ?_ | refine blk_alloc ?_ _)); refine blk_put (cs := #[.int .i64 t456, .int .i64 0, .slice none 0 0]) ?_ 1 _ rfl; (with_reducible repeat (first | refine blk_drewN ?_ _ | refine blk_drew ?_ | refine blk_alloc ?_ _)); refine blk_put (cs := #[.int .i64 0, .int .i64 0, .slice none 0 0]) ?_ 0 _ rfl; (with_reducible repeat (first | refine blk_drewN ?_ _ | refine blk_drew ?_ | refine blk_alloc ?_ _)); exact BK462.out) hb); have n6_ := Aside0.mk (below_step ab7_ hb); clear HO447; clear HO453; clear HO460; clear BK448; clear BK455; clear BK462; clear HB; have HO447 := n0_; have HO453 := n1_; have HO460 := n2_; have BK448 := n3_; have BK455 := n4_; have BK462 := n5_; have HB := n6_; clear n0_ n1_ n2_ n3_ n4_ n5_ n6_; (try clear hb); (try clear hb2); (try clear hk); (try clear hi)))
          go_meet
          case rel => exact ⟨_, (!t454), (by first | rfl | (simp; done) | (simp [*]; done)), H', ⟨by first | omega | exact Nat.le_refl _⟩, ⟨by (with_reducible repeat (first | apply Kd.N_alloc | apply Kd.N_drewN | apply Kd.N_drew)); exact Kd.N_mono HO447.out (fun _ hk => ⟨hk.1.1.1.2, ⟨hk.1.2, ⟨hk.1.1.1.1.2, ⟨hk.1.1.2, hk.2⟩⟩⟩⟩)⟩, ⟨by (with_reducible repeat (first | apply Kd.N_alloc | apply Kd.N_drewN | apply Kd.N_drew)); exact Kd.N_mono HO453.out (fun _ hk => ⟨hk.1.1.1.1, ⟨hk.1.2, ⟨hk.1.1.1.2, ⟨hk.1.1.2, hk.2⟩⟩⟩⟩)⟩, ⟨by (with_reducible repeat (first | apply Kd.N_alloc | apply Kd.N_drewN | apply Kd.N_drew)); exact Kd.N_mono HO460.out (fun _ hk => ⟨hk.1.1, ⟨hk.1.2.1, ⟨hk.1.2.2.1, ⟨hk.1.2.2.2, hk.2⟩⟩⟩⟩)⟩, ⟨by (with_reducible repeat (first | refine blk_drewN ?_ _ | refine blk_drew ?_ | refine blk_alloc ?_ _)); exact BK448.out⟩, ⟨by (with_reducible repeat (first | refine blk_drewN ?_ _ | refine blk_drew ?_ | refine blk_alloc ?_ _)); exact BK455.out⟩, ⟨by (with_reducible repeat (first | refine blk_drewN ?_ _ | refine blk_drew ?_ | refine blk_alloc ?_ _)); exact BK462.out⟩, ⟨ab7_⟩⟩
        · replace c25 := Bool.eq_false_iff.mpr c25
          subst c25
          have H1 : (laws_FnFoldSmaller.j0 k t454 t461 true t443 t444 t445 t449 t450 t451 t456 t457 t458) = some r := by rw [if_neg (show ¬ (false = true) by decide)] at H; exact H
          clear H
          have H := H1
          clear H1
          have H' := Aside0.mk H
          clear H
          have hnb32 := NB455_448.out
          have hnc32 := NB448_455.out
          have hnb33 := NB455_462.out
          have hnc33 := NB462_455.out
          have hcz34_0 : w18.cell? ⟨gb455, 0, none⟩ = some (.int .i64 t449) := (blk_cell BK455.out 0).trans rfl
          have hcz34_1 : w18.cell? ⟨gb455, 1, none⟩ = some (.int .i64 t450) := (blk_cell BK455.out 1).trans rfl
          have hcz34_2 : w18.cell? ⟨gb455, 2, none⟩ = some (.slice Ao15 t451.length co15) := (blk_cell BK455.out 2).trans rfl
          have hfz34_0 := blk_frozen BK455.out 0
          have hfz34_1 := blk_frozen BK455.out 1
          have hfz34_2 := blk_frozen BK455.out 2
          have hnb35 := NB462_448.out
          have hnc35 := NB448_462.out
          have hcz36_0 : w18.cell? ⟨gb462, 0, none⟩ = some (.int .i64 0) := (blk_cell BK462.out 0).trans rfl
          have hcz36_1 : w18.cell? ⟨gb462, 1, none⟩ = some (.int .i64 0) := (blk_cell BK462.out 1).trans rfl
          have hcz36_2 : w18.cell? ⟨gb462, 2, none⟩ = some (.slice none 0 0) := (blk_cell BK462.out 2).trans rfl
          have hfz36_0 := blk_frozen BK462.out 0
          have hfz36_1 := blk_frozen BK462.out 1
          have hfz36_2 := blk_frozen BK462.out 2
          go_wp2_with (first | (go_at_call 36; (with_reducible refine (laws_sameExpr.calls k t449 t450 _ _ t451 t456 t457 _ _ t458 false _ ?side1 ?side2 ?side3 ?side4 A24.out).mono ?_); (case side1 => refine (Kd.N_reads' (e := 25) (base := w.heap.size) (ok := fun k_ => ((((some k_ ≠ (.slice Ao10 t445.length co10 : Value).ownBlock ∧ k_ ≠ gb448) ∧ k_ ≠ gb455) ∧ some k_ ≠ (.slice Ao22 t458.length co22 : Value).ownBlock) ∧ k_ ≠ gb462)) (n := t451.length) (c := co15) ?_).2.2; exact (by (with_reducible repeat (first | apply Kd.N_alloc | apply Kd.N_drewN | apply Kd.N_drew)); exact (Kd.N_mono (Kd.N_far (p := ⟨gb462, 2, none⟩) (Kd.N_far (p := ⟨gb462, 1, none⟩) (Kd.N_far (p := ⟨gb462, 0, none⟩) (Kd.N_mono HO453.out (fun k_ hk => (⟨hk, hk.2⟩ : _ ∧ k_ ≠ gb462))) (fun _ hk => hk.2) (.int .i64 t456)) (fun _ hk => hk.2) (.int .i64 t457)) (fun _ hk => hk.2) (.slice Ao22 t458.length co22)) (fun _ h_ => h_.1)))); (case side2 => exact (Kd.N_reads' HO453.out).2.1); (case side3 => refine (Kd.N_reads' (e := 25) (base := w.heap.size) (ok := fun k_ => ((some k_ ≠ (.slice Ao10 t445.length co10 : Value).ownBlock ∧ (some k_ ≠ (.slice Ao15 t451.length co15 : Value).ownBlock ∧ (k_ ≠ gb448 ∧ k_ ≠ gb455))) ∧ k_ ≠ gb462)) (n := t458.length) (c := co22) ?_).2.2; exact (by (with_reducible repeat (first | apply Kd.N_alloc | apply Kd.N_drewN | apply Kd.N_drew)); exact (Kd.N_mono (Kd.N_far (p := ⟨gb462, 2, none⟩) (Kd.N_far (p := ⟨gb462, 1, none⟩) (Kd.N_far (p := ⟨gb462, 0, none⟩) (Kd.N_mono HO460.out (fun k_ hk => (⟨hk, hk.2⟩ : _ ∧ k_ ≠ gb462))) (fun _ hk => hk.2) (.int .i64 t456)) (fun _ hk => hk.2) (.int .i64 t457)) (fun _ hk => hk.2) (.slice Ao22 t458.length co22)) (fun _ h_ => h_.1)))); (case side4 => exact (Kd.N_reads' HO460.out).2.1); rintro e w37 ⟨rfl, hb⟩; have n0_ := Aside0.mk (Kd.N_below (by (with_reducible repeat (first | apply Kd.N_alloc | apply Kd.N_drewN | apply Kd.N_drew)); exact (Kd.N_mono (Kd.N_far (p := ⟨gb462, 2, none⟩) (Kd.N_far (p := ⟨gb462, 1, none⟩) (Kd.N_far (p := ⟨gb462, 0, none⟩) (Kd.N_mono HO447.out (fun k_ hk => (⟨hk, hk.2⟩ : _ ∧ k_ ≠ gb462))) (fun _ hk => hk.2) (.int .i64 t456)) (fun _ hk => hk.2) (.int .i64 t457)) (fun _ hk => hk.2) (.slice Ao22 t458.length co22)) (fun _ h_ => h_.1))) hb); have n1_ := Aside0.mk (Kd.N_below (by (with_reducible repeat (first | apply Kd.N_alloc | apply Kd.N_drewN | apply Kd.N_drew)); exact (Kd.N_mono (Kd.N_far (p := ⟨gb462, 2, none⟩) (Kd.N_far (p := ⟨gb462, 1, none⟩) (Kd.N_far (p := ⟨gb462, 0, none⟩) (Kd.N_mono HO453.out (fun k_ hk => (⟨hk, hk.2⟩ : _ ∧ k_ ≠ gb462))) (fun _ hk => hk.2) (.int .i64 t456)) (fun _ hk => hk.2) (.int .i64 t457)) (fun _ hk => hk.2) (.slice Ao22 t458.length co22)) (fun _ h_ => h_.1))) hb); have n2_ := Aside0.mk (Kd.N_below (by (with_reducible repeat (first | apply Kd.N_alloc | apply Kd.N_drewN | apply Kd.N_drew)); exact (Kd.N_mono (Kd.N_far (p := ⟨gb462, 2, none⟩) (Kd.N_far (p := ⟨gb462, 1, none⟩) (Kd.N_far (p := ⟨gb462, 0, none⟩) (Kd.N_mono HO460.out (fun k_ hk => (⟨hk, hk.2⟩ : _ ∧ k_ ≠ gb462))) (fun _ hk => hk.2) (.int .i64 t456)) (fun _ hk => hk.2) (.int .i64 t457)) (fun _ hk => hk.2) (.slice Ao22 t458.length co22)) (fun _ h_ => h_.1))) hb); have n3_ := Aside0.mk (blk_below (g := gb448) (o := .cells #[.int .i64 t443, .int .i64 t444, .slice Ao10 t445.length co10] 25 (0, 0)) (by (with_reducible repeat (first | refine blk_drewN ?_ _ | refine blk_drew ?_ | refine blk_alloc ?_ _)); refine blk_far ?_ NB448_462.out _; (with_reducible repeat (first | refine blk_drewN ?_ _ | refine blk_drew ?_ | refine blk_alloc ?_ _)); refine blk_far ?_ NB448_462.out _; (with_reducible repeat (first | refine blk_drewN ?_ _ | refine blk_drew ?_ | refine blk_alloc ?_ _)); refine blk_far ?_ NB448_462.out _; (with_reducible repeat (first | refine blk_drewN ?_ _ | refine blk_drew ?_ | refine blk_alloc ?_ _)); exact BK448.out) hb); have n4_ := Aside0.mk (blk_below (g := gb455) (o := .cells #[.int .i64 t449, .int .i64 t450, .slice Ao15 t451.length co15] 25 (0, 0)) (by (with_reducible repeat (first | refine blk_drewN ?_ _ | refine blk_drew ?_ | refine blk_alloc ?_ _)); refine blk_far ?_ NB455_462.out _; (with_reducible repeat (first | refine blk_drewN ?_ _ | refine blk_drew ?_ | refine blk_alloc ?_ _)); refine blk_far ?_ NB455_462.out _; (with_reducible repeat (first | refine blk_drewN ?_ _ | refine blk_drew ?_ | refine blk_alloc ?_ _)); refine blk_far ?_ NB455_462.out _; (with_reducible repeat (first | refine blk_drewN ?_ _ | refine blk_drew ?_ | refine blk_alloc ?_ _)); exact BK455.out) hb); have n5_ := Aside0.mk (blk_below (g := gb462) (o := .cells #[.int .i64 t456, .int .i64 t457, .slice Ao22 t458.length co22] 25 (0, 0)) (by (with_reducible repeat (first | refine blk_drewN ?_ _ | refine blk_drew ?_ | refine blk_alloc ?_ _)); refine blk_put (cs := #[.int .i64 t456, .int .i64 t457, .slice none 0 0]) ?_ 2 _ rfl; (with_reducible repeat (first | refine blk_drewN ?_ _ | refine blk_drew ?_ | refine blk_alloc ?_ _)); refine blk_put (cs := #[.int .i64 t456, .int .i64 0, .slice none 0 0]) ?_ 1 _ rfl; (with_reducible repeat (first | refine blk_drewN ?_ _ | refine blk_drew ?_ | refine blk_alloc ?_ _)); refine blk_put (cs := #[.int .i64 0, .int .i64 0, .slice none 0 0]) ?_ 0 _ rfl; (with_reducible repeat (first | refine blk_drewN ?_ _ | refine blk_drew ?_ | refine blk_alloc ?_ _)); exact BK462.out) hb); have n6_ := Aside0.mk (below_step ab7_ hb); clear HO447; clear HO453; clear HO460; clear BK448; clear BK455; clear BK462; clear HB; have HO447 := n0_; have HO453 := n1_; have HO460 := n2_; have BK448 := n3_; have BK455 := n4_; have BK462 := n5_; have HB := n6_; clear n0_ n1_ n2_ n3_ n4_ n5_ n6_; (try clear hb); (try clear hb2); (try clear hk); (try clear hi)))
          go_meet
          case rel => exact ⟨_, (true), (by first | rfl | (simp; done) | (simp [*]; done)), H', ⟨by first | omega | exact Nat.le_refl _⟩, ⟨by (with_reducible repeat (first | apply Kd.N_alloc | apply Kd.N_drewN | apply Kd.N_drew)); exact Kd.N_mono HO447.out (fun _ hk => ⟨hk.1.1.1.2, ⟨hk.1.2, ⟨hk.1.1.1.1.2, ⟨hk.1.1.2, hk.2⟩⟩⟩⟩)⟩, ⟨by (with_reducible repeat (first | apply Kd.N_alloc | apply Kd.N_drewN | apply Kd.N_drew)); exact Kd.N_mono HO453.out (fun _ hk => ⟨hk.1.1.1.1, ⟨hk.1.2, ⟨hk.1.1.1.2, ⟨hk.1.1.2, hk.2⟩⟩⟩⟩)⟩, ⟨by (with_reducible repeat (first | apply Kd.N_alloc | apply Kd.N_drewN | apply Kd.N_drew)); exact Kd.N_mono HO460.out (fun _ hk => ⟨hk.1.1, ⟨hk.1.2.1, ⟨hk.1.2.2.1, ⟨hk.1.2.2.2, hk.2⟩⟩⟩⟩)⟩, ⟨by (with_reducible repeat (first | refine blk_drewN ?_ _ | refine blk_drew ?_ | refine blk_alloc ?_ _)); exact BK448.out⟩, ⟨by (with_reducible repeat (first | refine blk_drewN ?_ _ | refine blk_drew ?_ | refine blk_alloc ?_ _)); exact BK455.out⟩, ⟨by (with_reducible repeat (first | refine blk_drewN ?_ _ | refine blk_drew ?_ | refine blk_alloc ?_ _)); exact BK462.out⟩, ⟨ab7_⟩⟩
    case rest =>
      clear HC6
      try clear c1
      try clear c2
      try clear c2b0
      try clear c2b1
      try clear p2
      try clear c3
      try clear c10
      try clear c13
      try clear c19
      try clear c20
      try clear c23
      try clear c23b0
      try clear c23b1
      try clear c23b2
      try clear c25
      try clear c26
      try clear c27
      try clear c28
      try clear c29
      try clear c32
      try clear c33
      try clear c35
      try clear hcz14_0
      try clear hcz14_1
      try clear hcz14_2
      try clear hcz16_0
      try clear hcz16_1
      try clear hcz16_2
      try clear hcz21_0
      try clear hcz21_1
      try clear hcz21_2
      try clear hcz28_0
      try clear hcz28_1
      try clear hcz28_2
      try clear hcz30_0
      try clear hcz30_1
      try clear hcz30_2
      try clear hcz34_0
      try clear hcz34_1
      try clear hcz34_2
      try clear hcz36_0
      try clear hcz36_1
      try clear hcz36_2
      try clear hcz9_0
      try clear hcz9_1
      try clear hcz9_2
      try clear hfz14_0
      try clear hfz14_1
      try clear hfz14_2
      try clear hfz16_0
      try clear hfz16_1
      try clear hfz16_2
      try clear hfz21_0
      try clear hfz21_1
      try clear hfz21_2
      try clear hfz28_0
      try clear hfz28_1
      try clear hfz28_2
      try clear hfz30_0
      try clear hfz30_1
      try clear hfz30_2
      try clear hfz34_0
      try clear hfz34_1
      try clear hfz34_2
      try clear hfz36_0
      try clear hfz36_1
      try clear hfz36_2
      try clear hfz9_0
      try clear hfz9_1
      try clear hfz9_2
      obtain ⟨kq, x36_5, rfl, HA, HJ5, HO_449002, HO_456002, HO_463002, BK448, BK455, BK462, HB⟩ := hcut
      cases kq with
      | zero => exact absurd HA.out (by simp [laws_FnFoldSmaller.j0])
      | succ kj5 =>
        have H := HA.out
        clear HA
        simp only [laws_FnFoldSmaller.j0] at H
        by_cases c38 : x36_5 = true
        · subst c38
          have H1 : (if (t454 == t461) = true then ((laws_sameExpr.f kj5 t449 t450 t451 t456 t457 t458).bind fun t464 => (some t464)) else (some false)) = some r := by rw [if_pos rfl] at H; exact H
          clear H
          have H := H1
          clear H1
          by_cases c39 : (t454 == t461) = true
          · rw [if_pos c39] at H
            have c39b0 : (t454 == t461) = true := c39
            (try (have c39b1 : decide (t454 = t461) = true := by simpa using c39))
            (try (have c39b2 : (t454 == t461) = true := by simpa using c39))
            clear c39
            replace H := Option.bind_eq_some_iff.mp H
            obtain ⟨t464, A400, H⟩ := H
            replace H : (some t464) = some r := H
            have A40 := Aside0.mk A400
            clear A400
            obtain rfl := Option.some.inj H
            have hnb41 := NB455_448.out
            have hnc41 := NB448_455.out
            have hnb42 := NB455_462.out
            have hnc42 := NB462_455.out
            have hcz43_0 : wc.cell? ⟨gb455, 0, none⟩ = some (.int .i64 t449) := (blk_cell BK455.out 0).trans rfl
            have hcz43_1 : wc.cell? ⟨gb455, 1, none⟩ = some (.int .i64 t450) := (blk_cell BK455.out 1).trans rfl
            have hcz43_2 : wc.cell? ⟨gb455, 2, none⟩ = some (.slice Ao15 t451.length co15) := (blk_cell BK455.out 2).trans rfl
            have hfz43_0 := blk_frozen BK455.out 0
            have hfz43_1 := blk_frozen BK455.out 1
            have hfz43_2 := blk_frozen BK455.out 2
            have hnb44 := NB462_448.out
            have hnc44 := NB448_462.out
            have hcz45_0 : wc.cell? ⟨gb462, 0, none⟩ = some (.int .i64 t456) := (blk_cell BK462.out 0).trans rfl
            have hcz45_1 : wc.cell? ⟨gb462, 1, none⟩ = some (.int .i64 t457) := (blk_cell BK462.out 1).trans rfl
            have hcz45_2 : wc.cell? ⟨gb462, 2, none⟩ = some (.slice Ao22 t458.length co22) := (blk_cell BK462.out 2).trans rfl
            have hfz45_0 := blk_frozen BK462.out 0
            have hfz45_1 := blk_frozen BK462.out 1
            have hfz45_2 := blk_frozen BK462.out 2
            go_wp2_with (first | (go_at_call 36; (with_reducible refine (laws_sameExpr.calls kj5 t449 t450 _ _ t451 t456 t457 _ _ t458 t464 _ ?side1 ?side2 ?side3 ?side4 A40.out).mono ?_); (case side1 => repeat (first | exact (Kd.N_reads' HO_456002.out).2.2 | (with_reducible refine Kd.C_alloc ?_ _) | (with_reducible refine Kd.C_drewN ?_ _) | (with_reducible refine Kd.C_drew ?_))); (case side2 => exact (Kd.N_reads' HO_456002.out).2.1); (case side3 => repeat (first | exact (Kd.N_reads' HO_463002.out).2.2 | (with_reducible refine Kd.C_alloc ?_ _) | (with_reducible refine Kd.C_drewN ?_ _) | (with_reducible refine Kd.C_drew ?_))); (case side4 => exact (Kd.N_reads' HO_463002.out).2.1); rintro e w46 ⟨rfl, hb⟩; have n0_ := Aside0.mk (Kd.N_below (aN_ HO_449002.out) hb); have n1_ := Aside0.mk (Kd.N_below (aN_ HO_456002.out) hb); have n2_ := Aside0.mk (Kd.N_below (aN_ HO_463002.out) hb); have n3_ := Aside0.mk (blk_below (g := gb448) (o := .cells #[.int .i64 t443, .int .i64 t444, .slice Ao10 t445.length co10] 25 (0, 0)) (aG_ BK448.out) hb); have n4_ := Aside0.mk (blk_below (g := gb455) (o := .cells #[.int .i64 t449, .int .i64 t450, .slice Ao15 t451.length co15] 25 (0, 0)) (aG_ BK455.out) hb); have n5_ := Aside0.mk (blk_below (g := gb462) (o := .cells #[.int .i64 t456, .int .i64 t457, .slice Ao22 t458.length co22] 25 (0, 0)) (aG_ BK462.out) hb); have n6_ := Aside0.mk (below_step ab7_ hb); clear HO_449002; clear HO_456002; clear HO_463002; clear BK448; clear BK455; clear BK462; clear HB; have HO_449002 := n0_; have HO_456002 := n1_; have HO_463002 := n2_; have BK448 := n3_; have BK455 := n4_; have BK462 := n5_; have HB := n6_; clear n0_ n1_ n2_ n3_ n4_ n5_ n6_; (try clear hb); (try clear hb2); (try clear hk); (try clear hi)))
            go_ret
            exact ⟨by first | rfl | (simp [errW_none, errW_some] <;> rfl) | (simp [*, errW_none, errW_some] <;> rfl), ab7_⟩
          · rw [if_neg c39] at H
            have c39b0 : (t454 == t461) = false := by simpa using c39
            (try (have c39b1 : decide (t454 = t461) = false := by simpa using c39))
            (try (have c39b2 : (t454 == t461) = false := by simpa using c39))
            (try (have c39b3 : ¬ (t454 = t461) := by simpa using c39))
            clear c39
            obtain rfl := Option.some.inj H
            go_wp2
            go_ret
            exact ⟨by first | rfl | (simp [errW_none, errW_some] <;> rfl) | (simp [*, errW_none, errW_some] <;> rfl), ab7_⟩
        · replace c38 := Bool.eq_false_iff.mpr c38
          subst c38
          have H1 : (laws_FnFoldSmaller.l0 kj5 0 t443 t444 t445 t449 t450 t451) = some r := by rw [if_neg (show ¬ (false = true) by decide)] at H; exact H
          clear H
          have H := H1
          clear H1
          have H' := Aside0.mk H
          clear H
          go_wp2
          go_loopg [8] kj5 (fun kq v8 w' => ∃ (x8_2 : Int), v8 = .int .i64 x8_2 ∧ Aside0 (laws_FnFoldSmaller.l0 kq x8_2 t443 t444 t445 t449 t450 t451 = some r) ∧ Aside0 (kq ≤ kj5) ∧ Aside0 (Kd.N k25 25 w' w.heap.size (fun k_ => some k_ ≠ ((.slice Ao15 t451.length co15) : Value).ownBlock ∧ some k_ ≠ ((.slice Ao22 t458.length co22) : Value).ownBlock ∧ k_ ≠ gb448 ∧ k_ ≠ gb455 ∧ k_ ≠ gb462) (.slice Ao10 t445.length co10) t445) ∧ Aside0 (Kd.N k25 25 w' w.heap.size (fun k_ => some k_ ≠ ((.slice Ao10 t445.length co10) : Value).ownBlock ∧ some k_ ≠ ((.slice Ao22 t458.length co22) : Value).ownBlock ∧ k_ ≠ gb448 ∧ k_ ≠ gb455 ∧ k_ ≠ gb462) (.slice Ao15 t451.length co15) t451) ∧ Aside0 (Kd.N k25 25 w' w.heap.size (fun k_ => some k_ ≠ ((.slice Ao10 t445.length co10) : Value).ownBlock ∧ some k_ ≠ ((.slice Ao15 t451.length co15) : Value).ownBlock ∧ k_ ≠ gb448 ∧ k_ ≠ gb455 ∧ k_ ≠ gb462) (.slice Ao22 t458.length co22) t458) ∧ Aside0 (w'.heap[gb448]? = some (.cells #[.int .i64 t443, .int .i64 t444, (.slice Ao10 t445.length co10)] 25 (0, 0))) ∧ Aside0 (w'.heap[gb455]? = some (.cells #[.int .i64 t449, .int .i64 t450, (.slice Ao15 t451.length co15)] 25 (0, 0))) ∧ Aside0 (w'.heap[gb462]? = some (.cells #[.int .i64 t456, .int .i64 t457, (.slice Ao22 t458.length co22)] 25 (0, 0))) ∧ Aside0 (Below w.heap.size w w'))
          case atStart => exact ⟨(0), (by first | rfl | (simp; done) | (simp [*]; done)), H', ⟨Nat.le_refl _⟩, ⟨by (with_reducible repeat (first | apply Kd.N_alloc | apply Kd.N_drewN | apply Kd.N_drew)); exact HO_449002.out⟩, ⟨by (with_reducible repeat (first | apply Kd.N_alloc | apply Kd.N_drewN | apply Kd.N_drew)); exact HO_456002.out⟩, ⟨by (with_reducible repeat (first | apply Kd.N_alloc | apply Kd.N_drewN | apply Kd.N_drew)); exact HO_463002.out⟩, ⟨by (with_reducible repeat (first | refine blk_drewN ?_ _ | refine blk_drew ?_ | refine blk_alloc ?_ _)); exact BK448.out⟩, ⟨by (with_reducible repeat (first | refine blk_drewN ?_ _ | refine blk_drew ?_ | refine blk_alloc ?_ _)); exact BK455.out⟩, ⟨by (with_reducible repeat (first | refine blk_drewN ?_ _ | refine blk_drew ?_ | refine blk_alloc ?_ _)); exact BK462.out⟩, ⟨ab7_⟩⟩
          case round =>
            clear H'
            try clear c1
            try clear c2
            try clear c2b0
            try clear c2b1
            try clear p2
            try clear c3
            try clear c4
            try clear c10
            try clear c13
            try clear c19
            try clear c20
            try clear c23
            try clear c23b0
            try clear c23b1
            try clear c23b2
            try clear c25
            try clear c26
            try clear c27
            try clear c28
            try clear c29
            try clear c32
            try clear c33
            try clear c35
            try clear c38
            try clear c39
            try clear c39b0
            try clear c39b1
            try clear c39b2
            try clear c41
            try clear c42
            try clear c44
            try clear hcz14_0
            try clear hcz14_1
            try clear hcz14_2
            try clear hcz16_0
            try clear hcz16_1
            try clear hcz16_2
            try clear hcz21_0
            try clear hcz21_1
            try clear hcz21_2
            try clear hcz28_0
            try clear hcz28_1
            try clear hcz28_2
            try clear hcz30_0
            try clear hcz30_1
            try clear hcz30_2
            try clear hcz34_0
            try clear hcz34_1
            try clear hcz34_2
            try clear hcz36_0
            try clear hcz36_1
            try clear hcz36_2
            try clear hcz43_0
            try clear hcz43_1
            try clear hcz43_2
            try clear hcz45_0
            try clear hcz45_1
            try clear hcz45_2
            try clear hcz9_0
            try clear hcz9_1
            try clear hcz9_2
            try clear hfz14_0
            try clear hfz14_1
            try clear hfz14_2
            try clear hfz16_0
            try clear hfz16_1
            try clear hfz16_2
            try clear hfz21_0
            try clear hfz21_1
            try clear hfz21_2
            try clear hfz28_0
            try clear hfz28_1
            try clear hfz28_2
            try clear hfz30_0
            try clear hfz30_1
            try clear hfz30_2
            try clear hfz34_0
            try clear hfz34_1
            try clear hfz34_2
            try clear hfz36_0
            try clear hfz36_1
            try clear hfz36_2
            try clear hfz43_0
            try clear hfz43_1
            try clear hfz43_2
            try clear hfz45_0
            try clear hfz45_1
            try clear hfz45_2
            try clear hfz9_0
            try clear hfz9_1
            try clear hfz9_2
            try clear p2
            obtain ⟨x8_2, rfl, HA, HK2, HO_449002, HO_456002, HO_463002, BK448, BK455, BK462, HB⟩ := hrel
            cases gk with
            | zero => exact absurd HA.out (by simp [laws_FnFoldSmaller.l0])
            | succ k2 =>
              have H := HA.out
              clear HA
              simp only [laws_FnFoldSmaller.l0] at H
              by_cases c47 : x8_2 < 4
              · rw [if_pos c47] at H
                have c47b0 : decide (x8_2 < 4) = true := decide_eq_true c47
                clear c47
                replace H := Option.bind_eq_some_iff.mp H
                obtain ⟨t465, A480, H⟩ := H
                replace H : (if t465 = true then ((impl_ExprUses.f k2 t443 t444 t445 x8_2).bind fun t466 => (if t466 = true then (laws_FnFoldSmaller.l0 k2 (wrap64 (x8_2 + 1)) t443 t444 t445 t449 t450 t451) else (some false))) else (laws_FnFoldSmaller.l0 k2 (wrap64 (x8_2 + 1)) t443 t444 t445 t449 t450 t451)) = some r := H
                have A48 := Aside0.mk A480
                clear A480
                by_cases c49 : t465 = true
                · subst c49
                  have H1 : ((impl_ExprUses.f k2 t443 t444 t445 x8_2).bind fun t466 => (if t466 = true then (laws_FnFoldSmaller.l0 k2 (wrap64 (x8_2 + 1)) t443 t444 t445 t449 t450 t451) else (some false))) = some r := by rw [if_pos rfl] at H; exact H
                  clear H
                  have H := H1
                  clear H1
                  replace H := Option.bind_eq_some_iff.mp H
                  obtain ⟨t466, A500, H⟩ := H
                  replace H : (if t466 = true then (laws_FnFoldSmaller.l0 k2 (wrap64 (x8_2 + 1)) t443 t444 t445 t449 t450 t451) else (some false)) = some r := H
                  have A50 := Aside0.mk A500
                  clear A500
                  by_cases c51 : t466 = true
                  · subst c51
                    have H1 : (laws_FnFoldSmaller.l0 k2 (wrap64 (x8_2 + 1)) t443 t444 t445 t449 t450 t451) = some r := by rw [if_pos rfl] at H; exact H
                    clear H
                    have H := H1
                    clear H1
                    have H' := Aside0.mk H
                    clear H
                    have hnb52 := NB455_448.out
                    have hnc52 := NB448_455.out
                    have hnb53 := NB455_462.out
                    have hnc53 := NB462_455.out
                    have hcz54_0 : wr.cell? ⟨gb455, 0, none⟩ = some (.int .i64 t449) := (blk_cell BK455.out 0).trans rfl
                    have hcz54_1 : wr.cell? ⟨gb455, 1, none⟩ = some (.int .i64 t450) := (blk_cell BK455.out 1).trans rfl
                    have hcz54_2 : wr.cell? ⟨gb455, 2, none⟩ = some (.slice Ao15 t451.length co15) := (blk_cell BK455.out 2).trans rfl
                    have hfz54_0 := blk_frozen BK455.out 0
                    have hfz54_1 := blk_frozen BK455.out 1
                    have hfz54_2 := blk_frozen BK455.out 2
                    go_wp2_with (first | ((with_reducible refine gate_callee (f := 34) rfl ?_); refine goesL_ (some 51) rfl rfl Try.func34 (by kernel_rfl) rfl #[.agg #[.int .i64 t449, .int .i64 t450, .slice Ao15 t451.length co15], .int .i64 x8_2] rfl ab1_ ?_; (with_reducible refine (impl_ExprUses.calls k2 t449 t450 _ _ t451 x8_2 true _ ?side1 ?side2 A48.out).mono ?_); (case side1 => repeat (first | exact (Kd.N_reads' HO_456002.out).2.2 | (with_reducible refine Kd.C_alloc ?_ _) | (with_reducible refine Kd.C_drewN ?_ _) | (with_reducible refine Kd.C_drew ?_))); (case side2 => exact (Kd.N_reads' HO_456002.out).2.1); rintro e w55 ⟨rfl, hb⟩; refine ⟨_, rfl, ?_⟩; have n0_ := Aside0.mk (Kd.N_below (aN_ HO_449002.out) hb); have n1_ := Aside0.mk (Kd.N_below (aN_ HO_456002.out) hb); have n2_ := Aside0.mk (Kd.N_below (aN_ HO_463002.out) hb); have n3_ := Aside0.mk (blk_below (g := gb448) (o := .cells #[.int .i64 t443, .int .i64 t444, .slice Ao10 t445.length co10] 25 (0, 0)) (aG_ BK448.out) hb); have n4_ := Aside0.mk (blk_below (g := gb455) (o := .cells #[.int .i64 t449, .int .i64 t450, .slice Ao15 t451.length co15] 25 (0, 0)) (aG_ BK455.out) hb); have n5_ := Aside0.mk (blk_below (g := gb462) (o := .cells #[.int .i64 t456, .int .i64 t457, .slice Ao22 t458.length co22] 25 (0, 0)) (aG_ BK462.out) hb); have n6_ := Aside0.mk (below_step ab7_ hb); clear HO_449002; clear HO_456002; clear HO_463002; clear BK448; clear BK455; clear BK462; clear HB; have HO_449002 := n0_; have HO_456002 := n1_; have HO_463002 := n2_; have BK448 := n3_; have BK455 := n4_; have BK462 := n5_; have HB := n6_; clear n0_ n1_ n2_ n3_ n4_ n5_ n6_; (try clear hb); (try clear hb2); (try clear hk); (try clear hi); have hnb56 := NB448_462.out; have hnc56 := NB462_448.out; have hcz57_0 : w55.cell? ⟨gb448, 0, none⟩ = some (.int .i64 t443) := (blk_cell BK448.out 0).trans rfl; have hcz57_1 : w55.cell? ⟨gb448, 1, none⟩ = some (.int .i64 t444) := (blk_cell BK448.out 1).trans rfl; have hcz57_2 : w55.cell? ⟨gb448, 2, none⟩ = some (.slice Ao10 t445.length co10) := (blk_cell BK448.out 2).trans rfl; have hfz57_0 := blk_frozen BK448.out 0; have hfz57_1 := blk_frozen BK448.out 1; have hfz57_2 := blk_frozen BK448.out 2) | (go_at_call 34; (with_reducible refine (impl_ExprUses.calls k2 t443 t444 _ _ t445 x8_2 true _ ?side1 ?side2 A50.out).mono ?_); (case side1 => repeat (first | exact (Kd.N_reads' HO_449002.out).2.2 | (with_reducible refine Kd.C_alloc ?_ _) | (with_reducible refine Kd.C_drewN ?_ _) | (with_reducible refine Kd.C_drew ?_))); (case side2 => exact (Kd.N_reads' HO_449002.out).2.1); rintro e w58 ⟨rfl, hb⟩; have n0_ := Aside0.mk (Kd.N_below (aN_ HO_449002.out) hb); have n1_ := Aside0.mk (Kd.N_below (aN_ HO_456002.out) hb); have n2_ := Aside0.mk (Kd.N_below (aN_ HO_463002.out) hb); have n3_ := Aside0.mk (blk_below (g := gb448) (o := .cells #[.int .i64 t443, .int .i64 t444, .slice Ao10 t445.length co10] 25 (0, 0)) (aG_ BK448.out) hb); have n4_ := Aside0.mk (blk_below (g := gb455) (o := .cells #[.int .i64 t449, .int .i64 t450, .slice Ao15 t451.length co15] 25 (0, 0)) (aG_ BK455.out) hb); have n5_ := Aside0.mk (blk_below (g := gb462) (o := .cells #[.int .i64 t456, .int .i64 t457, .slice Ao22 t458.length co22] 25 (0, 0)) (aG_ BK462.out) hb); have n6_ := Aside0.mk (below_step ab7_ hb); clear HO_449002; clear HO_456002; clear HO_463002; clear BK448; clear BK455; clear BK462; clear HB; have HO_449002 := n0_; have HO_456002 := n1_; have HO_463002 := n2_; have BK448 := n3_; have BK455 := n4_; have BK462 := n5_; have HB := n6_; clear n0_ n1_ n2_ n3_ n4_ n5_ n6_; (try clear hb); (try clear hb2); (try clear hk); (try clear hi)))
                    go_roundg k2
                    case measure => have := HJ5.out; have := HK2.out; omega
                    case rel => exact ⟨(wrap64 (x8_2 + 1)), (by first | rfl | (simp; done) | (simp [*]; done)), H', ⟨by have := HJ5.out; have := HK2.out; omega⟩, ⟨by (with_reducible repeat (first | apply Kd.N_alloc | apply Kd.N_drewN | apply Kd.N_drew)); exact HO_449002.out⟩, ⟨by (with_reducible repeat (first | apply Kd.N_alloc | apply Kd.N_drewN | apply Kd.N_drew)); exact HO_456002.out⟩, ⟨by (with_reducible repeat (first | apply Kd.N_alloc | apply Kd.N_drewN | apply Kd.N_drew)); exact HO_463002.out⟩, ⟨by (with_reducible repeat (first | refine blk_drewN ?_ _ | refine blk_drew ?_ | refine blk_alloc ?_ _)); exact BK448.out⟩, ⟨by (with_reducible repeat (first | refine blk_drewN ?_ _ | refine blk_drew ?_ | refine blk_alloc ?_ _)); exact BK455.out⟩, ⟨by (with_reducible repeat (first | refine blk_drewN ?_ _ | refine blk_drew ?_ | refine blk_alloc ?_ _)); exact BK462.out⟩, ⟨ab7_⟩⟩
                  · replace c51 := Bool.eq_false_iff.mpr c51
                    subst c51
                    have H1 : (some false) = some r := by rw [if_neg (show ¬ (false = true) by decide)] at H; exact H
                    clear H
                    have H := H1
                    clear H1
                    obtain rfl := Option.some.inj H
                    have hnb59 := NB455_448.out
                    have hnc59 := NB448_455.out
                    have hnb60 := NB455_462.out
                    have hnc60 := NB462_455.out
                    have hcz61_0 : wr.cell? ⟨gb455, 0, none⟩ = some (.int .i64 t449) := (blk_cell BK455.out 0).trans rfl
                    have hcz61_1 : wr.cell? ⟨gb455, 1, none⟩ = some (.int .i64 t450) := (blk_cell BK455.out 1).trans rfl
                    have hcz61_2 : wr.cell? ⟨gb455, 2, none⟩ = some (.slice Ao15 t451.length co15) := (blk_cell BK455.out 2).trans rfl
                    have hfz61_0 := blk_frozen BK455.out 0
                    have hfz61_1 := blk_frozen BK455.out 1
                    have hfz61_2 := blk_frozen BK455.out 2
                    go_wp2_with (first | ((with_reducible refine gate_callee (f := 34) rfl ?_); refine goesL_ (some 51) rfl rfl Try.func34 (by kernel_rfl) rfl #[.agg #[.int .i64 t449, .int .i64 t450, .slice Ao15 t451.length co15], .int .i64 x8_2] rfl ab1_ ?_; (with_reducible refine (impl_ExprUses.calls k2 t449 t450 _ _ t451 x8_2 true _ ?side1 ?side2 A48.out).mono ?_); (case side1 => repeat (first | exact (Kd.N_reads' HO_456002.out).2.2 | (with_reducible refine Kd.C_alloc ?_ _) | (with_reducible refine Kd.C_drewN ?_ _) | (with_reducible refine Kd.C_drew ?_))); (case side2 => exact (Kd.N_reads' HO_456002.out).2.1); rintro e w62 ⟨rfl, hb⟩; refine ⟨_, rfl, ?_⟩; have n0_ := Aside0.mk (Kd.N_below (aN_ HO_449002.out) hb); have n1_ := Aside0.mk (Kd.N_below (aN_ HO_456002.out) hb); have n2_ := Aside0.mk (Kd.N_below (aN_ HO_463002.out) hb); have n3_ := Aside0.mk (blk_below (g := gb448) (o := .cells #[.int .i64 t443, .int .i64 t444, .slice Ao10 t445.length co10] 25 (0, 0)) (aG_ BK448.out) hb); have n4_ := Aside0.mk (blk_below (g := gb455) (o := .cells #[.int .i64 t449, .int .i64 t450, .slice Ao15 t451.length co15] 25 (0, 0)) (aG_ BK455.out) hb); have n5_ := Aside0.mk (blk_below (g := gb462) (o := .cells #[.int .i64 t456, .int .i64 t457, .slice Ao22 t458.length co22] 25 (0, 0)) (aG_ BK462.out) hb); have n6_ := Aside0.mk (below_step ab7_ hb); clear HO_449002; clear HO_456002; clear HO_463002; clear BK448; clear BK455; clear BK462; clear HB; have HO_449002 := n0_; have HO_456002 := n1_; have HO_463002 := n2_; have BK448 := n3_; have BK455 := n4_; have BK462 := n5_; have HB := n6_; clear n0_ n1_ n2_ n3_ n4_ n5_ n6_; (try clear hb); (try clear hb2); (try clear hk); (try clear hi); have hnb63 := NB448_462.out; have hnc63 := NB462_448.out; have hcz64_0 : w62.cell? ⟨gb448, 0, none⟩ = some (.int .i64 t443) := (blk_cell BK448.out 0).trans rfl; have hcz64_1 : w62.cell? ⟨gb448, 1, none⟩ = some (.int .i64 t444) := (blk_cell BK448.out 1).trans rfl; have hcz64_2 : w62.cell? ⟨gb448, 2, none⟩ = some (.slice Ao10 t445.length co10) := (blk_cell BK448.out 2).trans rfl; have hfz64_0 := blk_frozen BK448.out 0; have hfz64_1 := blk_frozen BK448.out 1; have hfz64_2 := blk_frozen BK448.out 2) | (go_at_call 34; (with_reducible refine (impl_ExprUses.calls k2 t443 t444 _ _ t445 x8_2 false _ ?side1 ?side2 A50.out).mono ?_); (case side1 => repeat (first | exact (Kd.N_reads' HO_449002.out).2.2 | (with_reducible refine Kd.C_alloc ?_ _) | (with_reducible refine Kd.C_drewN ?_ _) | (with_reducible refine Kd.C_drew ?_))); (case side2 => exact (Kd.N_reads' HO_449002.out).2.1); rintro e w65 ⟨rfl, hb⟩; have n0_ := Aside0.mk (Kd.N_below (aN_ HO_449002.out) hb); have n1_ := Aside0.mk (Kd.N_below (aN_ HO_456002.out) hb); have n2_ := Aside0.mk (Kd.N_below (aN_ HO_463002.out) hb); have n3_ := Aside0.mk (blk_below (g := gb448) (o := .cells #[.int .i64 t443, .int .i64 t444, .slice Ao10 t445.length co10] 25 (0, 0)) (aG_ BK448.out) hb); have n4_ := Aside0.mk (blk_below (g := gb455) (o := .cells #[.int .i64 t449, .int .i64 t450, .slice Ao15 t451.length co15] 25 (0, 0)) (aG_ BK455.out) hb); have n5_ := Aside0.mk (blk_below (g := gb462) (o := .cells #[.int .i64 t456, .int .i64 t457, .slice Ao22 t458.length co22] 25 (0, 0)) (aG_ BK462.out) hb); have n6_ := Aside0.mk (below_step ab7_ hb); clear HO_449002; clear HO_456002; clear HO_463002; clear BK448; clear BK455; clear BK462; clear HB; have HO_449002 := n0_; have HO_456002 := n1_; have HO_463002 := n2_; have BK448 := n3_; have BK455 := n4_; have BK462 := n5_; have HB := n6_; clear n0_ n1_ n2_ n3_ n4_ n5_ n6_; (try clear hb); (try clear hb2); (try clear hk); (try clear hi)))
                    go_ret
                    exact ⟨by first | rfl | (simp [errW_none, errW_some] <;> rfl) | (simp [*, errW_none, errW_some] <;> rfl), ab7_⟩
                · replace c49 := Bool.eq_false_iff.mpr c49
                  subst c49
                  have H1 : (laws_FnFoldSmaller.l0 k2 (wrap64 (x8_2 + 1)) t443 t444 t445 t449 t450 t451) = some r := by rw [if_neg (show ¬ (false = true) by decide)] at H; exact H
                  clear H
                  have H := H1
                  clear H1
                  have H' := Aside0.mk H
                  clear H
                  have hnb66 := NB455_448.out
                  have hnc66 := NB448_455.out
                  have hnb67 := NB455_462.out
                  have hnc67 := NB462_455.out
                  have hcz68_0 : wr.cell? ⟨gb455, 0, none⟩ = some (.int .i64 t449) := (blk_cell BK455.out 0).trans rfl
                  have hcz68_1 : wr.cell? ⟨gb455, 1, none⟩ = some (.int .i64 t450) := (blk_cell BK455.out 1).trans rfl
                  have hcz68_2 : wr.cell? ⟨gb455, 2, none⟩ = some (.slice Ao15 t451.length co15) := (blk_cell BK455.out 2).trans rfl
                  have hfz68_0 := blk_frozen BK455.out 0
                  have hfz68_1 := blk_frozen BK455.out 1
                  have hfz68_2 := blk_frozen BK455.out 2
                  go_wp2_with (first | ((with_reducible refine gate_callee (f := 34) rfl ?_); refine goesL_ (some 51) rfl rfl Try.func34 (by kernel_rfl) rfl #[.agg #[.int .i64 t449, .int .i64 t450, .slice Ao15 t451.length co15], .int .i64 x8_2] rfl ab1_ ?_; (with_reducible refine (impl_ExprUses.calls k2 t449 t450 _ _ t451 x8_2 false _ ?side1 ?side2 A48.out).mono ?_); (case side1 => repeat (first | exact (Kd.N_reads' HO_456002.out).2.2 | (with_reducible refine Kd.C_alloc ?_ _) | (with_reducible refine Kd.C_drewN ?_ _) | (with_reducible refine Kd.C_drew ?_))); (case side2 => exact (Kd.N_reads' HO_456002.out).2.1); rintro e w69 ⟨rfl, hb⟩; refine ⟨_, rfl, ?_⟩; have n0_ := Aside0.mk (Kd.N_below (aN_ HO_449002.out) hb); have n1_ := Aside0.mk (Kd.N_below (aN_ HO_456002.out) hb); have n2_ := Aside0.mk (Kd.N_below (aN_ HO_463002.out) hb); have n3_ := Aside0.mk (blk_below (g := gb448) (o := .cells #[.int .i64 t443, .int .i64 t444, .slice Ao10 t445.length co10] 25 (0, 0)) (aG_ BK448.out) hb); have n4_ := Aside0.mk (blk_below (g := gb455) (o := .cells #[.int .i64 t449, .int .i64 t450, .slice Ao15 t451.length co15] 25 (0, 0)) (aG_ BK455.out) hb); have n5_ := Aside0.mk (blk_below (g := gb462) (o := .cells #[.int .i64 t456, .int .i64 t457, .slice Ao22 t458.length co22] 25 (0, 0)) (aG_ BK462.out) hb); have n6_ := Aside0.mk (below_step ab7_ hb); clear HO_449002; clear HO_456002; clear HO_463002; clear BK448; clear BK455; clear BK462; clear HB; have HO_449002 := n0_; have HO_456002 := n1_; have HO_463002 := n2_; have BK448 := n3_; have BK455 := n4_; have BK462 := n5_; have HB := n6_; clear n0_ n1_ n2_ n3_ n4_ n5_ n6_; (try clear hb); (try clear hb2); (try clear hk); (try clear hi)))
                  go_roundg k2
                  case measure => have := HJ5.out; have := HK2.out; omega
                  case rel => exact ⟨(wrap64 (x8_2 + 1)), (by first | rfl | (simp; done) | (simp [*]; done)), H', ⟨by have := HJ5.out; have := HK2.out; omega⟩, ⟨by (with_reducible repeat (first | apply Kd.N_alloc | apply Kd.N_drewN | apply Kd.N_drew)); exact HO_449002.out⟩, ⟨by (with_reducible repeat (first | apply Kd.N_alloc | apply Kd.N_drewN | apply Kd.N_drew)); exact HO_456002.out⟩, ⟨by (with_reducible repeat (first | apply Kd.N_alloc | apply Kd.N_drewN | apply Kd.N_drew)); exact HO_463002.out⟩, ⟨by (with_reducible repeat (first | refine blk_drewN ?_ _ | refine blk_drew ?_ | refine blk_alloc ?_ _)); exact BK448.out⟩, ⟨by (with_reducible repeat (first | refine blk_drewN ?_ _ | refine blk_drew ?_ | refine blk_alloc ?_ _)); exact BK455.out⟩, ⟨by (with_reducible repeat (first | refine blk_drewN ?_ _ | refine blk_drew ?_ | refine blk_alloc ?_ _)); exact BK462.out⟩, ⟨ab7_⟩⟩
              · rw [if_neg c47] at H
                have c47b0 : decide (x8_2 < 4) = false := decide_eq_false c47
                clear c47
                replace H := Option.bind_eq_some_iff.mp H
                obtain ⟨t467, A700, H⟩ := H
                replace H : (if t467 ≥ 1 then ((impl_ExprSize.f k2 t449 t450 t451).bind fun t468 => ((impl_ExprSize.f k2 t443 t444 t445).bind fun t469 => (if t468 ≤ t469 then ((impl_ExprDepth.f k2 t449 t450 t451).bind fun t470 => ((impl_ExprDepth.f k2 t443 t444 t445).bind fun t471 => (some (decide (t470 ≤ t471))))) else (some false)))) else (some false)) = some r := H
                have A70 := Aside0.mk A700
                clear A700
                by_cases c71 : t467 ≥ 1
                · rw [if_pos c71] at H
                  have c71b0 : decide (1 ≤ t467) = true := decide_eq_true c71
                  clear c71
                  replace H := Option.bind_eq_some_iff.mp H
                  obtain ⟨t468, A720, H⟩ := H
                  replace H : ((impl_ExprSize.f k2 t443 t444 t445).bind fun t469 => (if t468 ≤ t469 then ((impl_ExprDepth.f k2 t449 t450 t451).bind fun t470 => ((impl_ExprDepth.f k2 t443 t444 t445).bind fun t471 => (some (decide (t470 ≤ t471))))) else (some false))) = some r := H
                  have A72 := Aside0.mk A720
                  clear A720
                  replace H := Option.bind_eq_some_iff.mp H
                  obtain ⟨t469, A730, H⟩ := H
                  replace H : (if t468 ≤ t469 then ((impl_ExprDepth.f k2 t449 t450 t451).bind fun t470 => ((impl_ExprDepth.f k2 t443 t444 t445).bind fun t471 => (some (decide (t470 ≤ t471))))) else (some false)) = some r := H
                  have A73 := Aside0.mk A730
                  clear A730
                  by_cases c74 : t468 ≤ t469
                  · rw [if_pos c74] at H
                    have c74b0 : decide (t468 ≤ t469) = true := decide_eq_true c74
                    clear c74
                    replace H := Option.bind_eq_some_iff.mp H
                    obtain ⟨t470, A750, H⟩ := H
                    replace H : ((impl_ExprDepth.f k2 t443 t444 t445).bind fun t471 => (some (decide (t470 ≤ t471)))) = some r := H
                    have A75 := Aside0.mk A750
                    clear A750
                    replace H := Option.bind_eq_some_iff.mp H
                    obtain ⟨t471, A760, H⟩ := H
                    replace H : (some (decide (t470 ≤ t471))) = some r := H
                    have A76 := Aside0.mk A760
                    clear A760
                    obtain rfl := Option.some.inj H
                    try go_wp2
                    have n0_ := Aside0.mk (Kd.N_drew HO_449002.out)
                    have n1_ := Aside0.mk (Kd.N_drew HO_456002.out)
                    have n2_ := Aside0.mk (Kd.N_drew HO_463002.out)
                    have n3_ := Aside0.mk (blk_drew BK448.out)
                    have n4_ := Aside0.mk (blk_drew BK455.out)
                    have n5_ := Aside0.mk (blk_drew BK462.out)
                    have n6_ := Aside0.mk (below_drew1 HB.out)
                    clear HO_449002
                    clear HO_456002
                    clear HO_463002
                    clear BK448
                    clear BK455
                    clear BK462
                    clear HB
                    have HO_449002 := n0_
                    have HO_456002 := n1_
                    have HO_463002 := n2_
                    have BK448 := n3_
                    have BK455 := n4_
                    have BK462 := n5_
                    have HB := n6_
                    clear n0_ n1_ n2_ n3_ n4_ n5_ n6_
                    refine start_ (n := 18) (S := fun w' => w'.cell? ⟨gb455, 0, none⟩ = some (.int .i64 t449) ∧ w'.cell? ⟨gb455, 1, none⟩ = some (.int .i64 t450) ∧ w'.cell? ⟨gb455, 2, none⟩ = some (.slice Ao15 t451.length co15) ∧ w'.cell? ⟨gb448, 0, none⟩ = some (.int .i64 t443) ∧ w'.cell? ⟨gb448, 1, none⟩ = some (.int .i64 t444) ∧ w'.cell? ⟨gb448, 2, none⟩ = some (.slice Ao10 t445.length co10)) (ds := []) #[false, false, false, false, false, false, false, false, false, false, false, false, false, false, false, false, false, false] (by kernel_rfl) rfl rfl ⟨(blk_cell BK455.out 0).trans rfl, (blk_cell BK455.out 1).trans rfl, (blk_cell BK455.out 2).trans rfl, (blk_cell BK448.out 0).trans rfl, (blk_cell BK448.out 1).trans rfl, (blk_cell BK448.out 2).trans rfl⟩ (fun hHeld => ?_); refine with_tabW laws_FnFoldSmaller.tab13 laws_FnFoldSmaller.bits13 (fun HT_ HW_ => ?_)
                    generalize wr.drew = w77 at HO_449002 HO_456002 HO_463002 BK448 BK455 BK462 HB hHeld ⊢
                    refine take_ (i := 0) (N := some 58) (v := ?_) (a' := ?_) #[true, false, false, false, false, false, false, false, false, false, false, false, false, false, false, false, false, false] rfl rfl (take_ofW HT_.out HW_.out (by kernel_rfl)) (fun _ _ _ h => h) (Or.inl ⟨by rfl, ?_⟩) hHeld ?_ ?_
                    rotate_left
                    · rintro w' ⟨s0, s1, s2, s3, s4, s5⟩
                      go_simp
                      with_reducible rfl
                    rotate_left
                    · simp only [Act.put, List.setIfInBounds_toArray, List.set_cons_zero, List.set_cons_succ, i64_w, i32_w]
                      rfl
                    refine one_ (i := 1) (N := some 59) #[true, true, false, false, false, false, false, false, false, false, false, false, false, false, false, false, false, false] rfl rfl (one_of HT_.out (by kernel_rfl)) (by decide) (fun K hK => ?_)
                    refine goes_ Try.func37 (by kernel_rfl) rfl #[.agg #[.int .i64 t449, .int .i64 t450, .slice Ao15 t451.length co15]] (by rfl) rfl rfl ab1_ ?_
                    with_reducible refine (impl_ExprSize.calls k2 t449 t450 _ _ t451 t467 _ ?side1 ?side2 A70.out).mono ?_
                    (case side1 => repeat (first | exact (Kd.N_reads' HO_456002.out).2.2 | (with_reducible refine Kd.C_alloc ?_ _) | (with_reducible refine Kd.C_drewN ?_ _) | (with_reducible refine Kd.C_drew ?_)))
                    (case side2 => exact (Kd.N_reads' HO_456002.out).2.1)
                    rintro e w78 ⟨rfl, hb⟩
                    refine ⟨_, rfl, ?_⟩
                    have n0_ := Aside0.mk (Kd.N_below (aN_ HO_449002.out) hb)
                    have n1_ := Aside0.mk (Kd.N_below (aN_ HO_456002.out) hb)
                    have n2_ := Aside0.mk (Kd.N_below (aN_ HO_463002.out) hb)
                    have n3_ := Aside0.mk (blk_below (g := gb448) (o := .cells #[.int .i64 t443, .int .i64 t444, .slice Ao10 t445.length co10] 25 (0, 0)) (aG_ BK448.out) hb)
                    have n4_ := Aside0.mk (blk_below (g := gb455) (o := .cells #[.int .i64 t449, .int .i64 t450, .slice Ao15 t451.length co15] 25 (0, 0)) (aG_ BK455.out) hb)
                    have n5_ := Aside0.mk (blk_below (g := gb462) (o := .cells #[.int .i64 t456, .int .i64 t457, .slice Ao22 t458.length co22] 25 (0, 0)) (aG_ BK462.out) hb)
                    have n6_ := Aside0.mk (below_step ab7_ hb)
                    clear HO_449002
                    clear HO_456002
                    clear HO_463002
                    clear BK448
                    clear BK455
                    clear BK462
                    clear HB
                    have HO_449002 := n0_
                    have HO_456002 := n1_
                    have HO_463002 := n2_
                    have BK448 := n3_
                    have BK455 := n4_
                    have BK462 := n5_
                    have HB := n6_
                    clear n0_ n1_ n2_ n3_ n4_ n5_ n6_
                    (try clear hb)
                    (try clear hb2)
                    (try clear hk)
                    (try clear hi)
                    refine hK.out _ _ ⟨(blk_cell BK455.out 0).trans rfl, (blk_cell BK455.out 1).trans rfl, (blk_cell BK455.out 2).trans rfl, (blk_cell BK448.out 0).trans rfl, (blk_cell BK448.out 1).trans rfl, (blk_cell BK448.out 2).trans rfl⟩ (fun hHeld => ?_)
                    clear hK K
                    refine norm_ (a' := ?_) ?_ ?_
                    rotate_left
                    · show Act.put _ (some 59) _ = _
                      simp only [Act.put, List.setIfInBounds_toArray, List.set_cons_zero, List.set_cons_succ, i64_w, i32_w]
                      rfl
                    refine pure_ (i := 2) (N := some 60) (v := ?_) (a' := ?_) #[true, true, true, false, false, false, false, false, false, false, false, false, false, false, false, false, false, false] rfl rfl (any_of HT_.out (by kernel_rfl)) (fun _ _ _ h => h) (Or.inl ⟨by rfl, ?_⟩) ?_ ?_
                    rotate_left
                    · intro w'
                      go_simp
                      with_reducible rfl
                    rotate_left
                    · simp only [Act.put, List.setIfInBounds_toArray, List.set_cons_zero, List.set_cons_succ, i64_w, i32_w]
                      rfl
                    refine pure_ (i := 3) (N := some 61) (v := ?_) (a' := ?_) #[true, true, true, true, false, false, false, false, false, false, false, false, false, false, false, false, false, false] rfl rfl (any_of HT_.out (by kernel_rfl)) (fun _ _ _ h => h) (Or.inl ⟨by rfl, ?_⟩) ?_ ?_
                    rotate_left
                    · intro w'
                      go_simp
                      with_reducible rfl
                    rotate_left
                    · simp only [Act.put, List.setIfInBounds_toArray, List.set_cons_zero, List.set_cons_succ, i64_w, i32_w]
                      rfl
                    refine take_ (i := 4) (N := some 62) (v := ?_) (a' := ?_) #[true, true, true, true, true, false, false, false, false, false, false, false, false, false, false, false, false, false] rfl rfl (take_ofW HT_.out HW_.out (by kernel_rfl)) (fun _ _ _ h => h) (Or.inl ⟨by rfl, ?_⟩) hHeld ?_ ?_
                    rotate_left
                    · rintro w' ⟨s0, s1, s2, s3, s4, s5⟩
                      go_simp
                      with_reducible rfl
                    rotate_left
                    · simp only [Act.put, List.setIfInBounds_toArray, List.set_cons_zero, List.set_cons_succ, i64_w, i32_w]
                      rfl
                    refine take_ (i := 6) (N := some 64) (v := ?_) (a' := ?_) #[true, true, true, true, true, false, true, false, false, false, false, false, false, false, false, false, false, false] rfl rfl (take_ofW HT_.out HW_.out (by kernel_rfl)) (fun _ _ _ h => h) (Or.inl ⟨by rfl, ?_⟩) hHeld ?_ ?_
                    rotate_left
                    · rintro w' ⟨s0, s1, s2, s3, s4, s5⟩
                      go_simp
                      with_reducible rfl
                    rotate_left
                    · simp only [Act.put, List.setIfInBounds_toArray, List.set_cons_zero, List.set_cons_succ, i64_w, i32_w]
                      rfl
                    refine one_ (i := 5) (N := some 63) #[true, true, true, true, true, true, true, false, false, false, false, false, false, false, false, false, false, false] rfl rfl (one_of HT_.out (by kernel_rfl)) (by decide) (fun K hK => ?_)
                    refine goes_ Try.func37 (by kernel_rfl) rfl #[.agg #[.int .i64 t449, .int .i64 t450, .slice Ao15 t451.length co15]] (by rfl) rfl rfl ab1_ ?_
                    with_reducible refine (impl_ExprSize.calls k2 t449 t450 _ _ t451 t468 _ ?side1 ?side2 A72.out).mono ?_
                    (case side1 => repeat (first | exact (Kd.N_reads' HO_456002.out).2.2 | (with_reducible refine Kd.C_alloc ?_ _) | (with_reducible refine Kd.C_drewN ?_ _) | (with_reducible refine Kd.C_drew ?_)))
                    (case side2 => exact (Kd.N_reads' HO_456002.out).2.1)
                    rintro e w79 ⟨rfl, hb⟩
                    refine ⟨_, rfl, ?_⟩
                    have n0_ := Aside0.mk (Kd.N_below (aN_ HO_449002.out) hb)
                    have n1_ := Aside0.mk (Kd.N_below (aN_ HO_456002.out) hb)
                    have n2_ := Aside0.mk (Kd.N_below (aN_ HO_463002.out) hb)
                    have n3_ := Aside0.mk (blk_below (g := gb448) (o := .cells #[.int .i64 t443, .int .i64 t444, .slice Ao10 t445.length co10] 25 (0, 0)) (aG_ BK448.out) hb)
                    have n4_ := Aside0.mk (blk_below (g := gb455) (o := .cells #[.int .i64 t449, .int .i64 t450, .slice Ao15 t451.length co15] 25 (0, 0)) (aG_ BK455.out) hb)
                    have n5_ := Aside0.mk (blk_below (g := gb462) (o := .cells #[.int .i64 t456, .int .i64 t457, .slice Ao22 t458.length co22] 25 (0, 0)) (aG_ BK462.out) hb)
                    have n6_ := Aside0.mk (below_step ab7_ hb)
                    clear HO_449002
                    clear HO_456002
                    clear HO_463002
                    clear BK448
                    clear BK455
                    clear BK462
                    clear HB
                    have HO_449002 := n0_
                    have HO_456002 := n1_
                    have HO_463002 := n2_
                    have BK448 := n3_
                    have BK455 := n4_
                    have BK462 := n5_
                    have HB := n6_
                    clear n0_ n1_ n2_ n3_ n4_ n5_ n6_
                    (try clear hb)
                    (try clear hb2)
                    (try clear hk)
                    (try clear hi)
                    refine hK.out _ _ ⟨(blk_cell BK455.out 0).trans rfl, (blk_cell BK455.out 1).trans rfl, (blk_cell BK455.out 2).trans rfl, (blk_cell BK448.out 0).trans rfl, (blk_cell BK448.out 1).trans rfl, (blk_cell BK448.out 2).trans rfl⟩ (fun hHeld => ?_)
                    clear hK K
                    refine norm_ (a' := ?_) ?_ ?_
                    rotate_left
                    · show Act.put _ (some 63) _ = _
                      simp only [Act.put, List.setIfInBounds_toArray, List.set_cons_zero, List.set_cons_succ, i64_w, i32_w]
                      rfl
                    refine one_ (i := 7) (N := some 65) #[true, true, true, true, true, true, true, true, false, false, false, false, false, false, false, false, false, false] rfl rfl (one_of HT_.out (by kernel_rfl)) (by decide) (fun K hK => ?_)
                    refine goes_ Try.func37 (by kernel_rfl) rfl #[.agg #[.int .i64 t443, .int .i64 t444, .slice Ao10 t445.length co10]] (by rfl) rfl rfl ab1_ ?_
                    with_reducible refine (impl_ExprSize.calls k2 t443 t444 _ _ t445 t469 _ ?side1 ?side2 A73.out).mono ?_
                    (case side1 => repeat (first | exact (Kd.N_reads' HO_449002.out).2.2 | (with_reducible refine Kd.C_alloc ?_ _) | (with_reducible refine Kd.C_drewN ?_ _) | (with_reducible refine Kd.C_drew ?_)))
                    (case side2 => exact (Kd.N_reads' HO_449002.out).2.1)
                    rintro e w80 ⟨rfl, hb⟩
                    refine ⟨_, rfl, ?_⟩
                    have n0_ := Aside0.mk (Kd.N_below (aN_ HO_449002.out) hb)
                    have n1_ := Aside0.mk (Kd.N_below (aN_ HO_456002.out) hb)
                    have n2_ := Aside0.mk (Kd.N_below (aN_ HO_463002.out) hb)
                    have n3_ := Aside0.mk (blk_below (g := gb448) (o := .cells #[.int .i64 t443, .int .i64 t444, .slice Ao10 t445.length co10] 25 (0, 0)) (aG_ BK448.out) hb)
                    have n4_ := Aside0.mk (blk_below (g := gb455) (o := .cells #[.int .i64 t449, .int .i64 t450, .slice Ao15 t451.length co15] 25 (0, 0)) (aG_ BK455.out) hb)
                    have n5_ := Aside0.mk (blk_below (g := gb462) (o := .cells #[.int .i64 t456, .int .i64 t457, .slice Ao22 t458.length co22] 25 (0, 0)) (aG_ BK462.out) hb)
                    have n6_ := Aside0.mk (below_step ab7_ hb)
                    clear HO_449002
                    clear HO_456002
                    clear HO_463002
                    clear BK448
                    clear BK455
                    clear BK462
                    clear HB
                    have HO_449002 := n0_
                    have HO_456002 := n1_
                    have HO_463002 := n2_
                    have BK448 := n3_
                    have BK455 := n4_
                    have BK462 := n5_
                    have HB := n6_
                    clear n0_ n1_ n2_ n3_ n4_ n5_ n6_
                    (try clear hb)
                    (try clear hb2)
                    (try clear hk)
                    (try clear hi)
                    refine hK.out _ _ ⟨(blk_cell BK455.out 0).trans rfl, (blk_cell BK455.out 1).trans rfl, (blk_cell BK455.out 2).trans rfl, (blk_cell BK448.out 0).trans rfl, (blk_cell BK448.out 1).trans rfl, (blk_cell BK448.out 2).trans rfl⟩ (fun hHeld => ?_)
                    clear hK K
                    refine norm_ (a' := ?_) ?_ ?_
                    rotate_left
                    · show Act.put _ (some 65) _ = _
                      simp only [Act.put, List.setIfInBounds_toArray, List.set_cons_zero, List.set_cons_succ, i64_w, i32_w]
                      rfl
                    refine pure_ (i := 8) (N := some 66) (v := ?_) (a' := ?_) #[true, true, true, true, true, true, true, true, true, false, false, false, false, false, false, false, false, false] rfl rfl (any_of HT_.out (by kernel_rfl)) (fun _ _ _ h => h) (Or.inl ⟨by rfl, ?_⟩) ?_ ?_
                    rotate_left
                    · intro w'
                      go_simp
                      with_reducible rfl
                    rotate_left
                    · simp only [Act.put, List.setIfInBounds_toArray, List.set_cons_zero, List.set_cons_succ, i64_w, i32_w]
                      rfl
                    refine pure_ (i := 9) (N := some 67) (v := ?_) (a' := ?_) #[true, true, true, true, true, true, true, true, true, true, false, false, false, false, false, false, false, false] rfl rfl (any_of HT_.out (by kernel_rfl)) (fun _ _ _ h => h) (Or.inl ⟨by rfl, ?_⟩) ?_ ?_
                    rotate_left
                    · intro w'
                      go_simp
                      with_reducible rfl
                    rotate_left
                    · simp only [Act.put, List.setIfInBounds_toArray, List.set_cons_zero, List.set_cons_succ, i64_w, i32_w]
                      rfl
                    refine pure_ (i := 10) (N := some 68) (v := ?_) (a' := ?_) #[true, true, true, true, true, true, true, true, true, true, true, false, false, false, false, false, false, false] rfl rfl (any_of HT_.out (by kernel_rfl)) (fun _ _ _ h => h) (Or.inl ⟨by rfl, ?_⟩) ?_ ?_
                    rotate_left
                    · intro w'
                      go_simp
                      with_reducible rfl
                    rotate_left
                    · simp only [Act.put, List.setIfInBounds_toArray, List.set_cons_zero, List.set_cons_succ, i64_w, i32_w]
                      rfl
                    refine take_ (i := 11) (N := some 69) (v := ?_) (a' := ?_) #[true, true, true, true, true, true, true, true, true, true, true, true, false, false, false, false, false, false] rfl rfl (take_ofW HT_.out HW_.out (by kernel_rfl)) (fun _ _ _ h => h) (Or.inl ⟨by rfl, ?_⟩) hHeld ?_ ?_
                    rotate_left
                    · rintro w' ⟨s0, s1, s2, s3, s4, s5⟩
                      go_simp
                      with_reducible rfl
                    rotate_left
                    · simp only [Act.put, List.setIfInBounds_toArray, List.set_cons_zero, List.set_cons_succ, i64_w, i32_w]
                      rfl
                    refine take_ (i := 13) (N := some 71) (v := ?_) (a' := ?_) #[true, true, true, true, true, true, true, true, true, true, true, true, false, true, false, false, false, false] rfl rfl (take_ofW HT_.out HW_.out (by kernel_rfl)) (fun _ _ _ h => h) (Or.inl ⟨by rfl, ?_⟩) hHeld ?_ ?_
                    rotate_left
                    · rintro w' ⟨s0, s1, s2, s3, s4, s5⟩
                      go_simp
                      with_reducible rfl
                    rotate_left
                    · simp only [Act.put, List.setIfInBounds_toArray, List.set_cons_zero, List.set_cons_succ, i64_w, i32_w]
                      rfl
                    refine one_ (i := 12) (N := some 70) #[true, true, true, true, true, true, true, true, true, true, true, true, true, true, false, false, false, false] rfl rfl (one_of HT_.out (by kernel_rfl)) (by decide) (fun K hK => ?_)
                    refine goes_ Try.func18 (by kernel_rfl) rfl #[.agg #[.int .i64 t449, .int .i64 t450, .slice Ao15 t451.length co15]] (by rfl) rfl rfl ab1_ ?_
                    with_reducible refine (impl_ExprDepth.calls k2 t449 t450 _ _ t451 t470 _ ?side1 ?side2 A75.out).mono ?_
                    (case side1 => repeat (first | exact (Kd.N_reads' HO_456002.out).2.2 | (with_reducible refine Kd.C_alloc ?_ _) | (with_reducible refine Kd.C_drewN ?_ _) | (with_reducible refine Kd.C_drew ?_)))
                    (case side2 => exact (Kd.N_reads' HO_456002.out).2.1)
                    rintro e w81 ⟨rfl, hb⟩
                    refine ⟨_, rfl, ?_⟩
                    have n0_ := Aside0.mk (Kd.N_below (aN_ HO_449002.out) hb)
                    have n1_ := Aside0.mk (Kd.N_below (aN_ HO_456002.out) hb)
                    have n2_ := Aside0.mk (Kd.N_below (aN_ HO_463002.out) hb)
                    have n3_ := Aside0.mk (blk_below (g := gb448) (o := .cells #[.int .i64 t443, .int .i64 t444, .slice Ao10 t445.length co10] 25 (0, 0)) (aG_ BK448.out) hb)
                    have n4_ := Aside0.mk (blk_below (g := gb455) (o := .cells #[.int .i64 t449, .int .i64 t450, .slice Ao15 t451.length co15] 25 (0, 0)) (aG_ BK455.out) hb)
                    have n5_ := Aside0.mk (blk_below (g := gb462) (o := .cells #[.int .i64 t456, .int .i64 t457, .slice Ao22 t458.length co22] 25 (0, 0)) (aG_ BK462.out) hb)
                    have n6_ := Aside0.mk (below_step ab7_ hb)
                    clear HO_449002
                    clear HO_456002
                    clear HO_463002
                    clear BK448
                    clear BK455
                    clear BK462
                    clear HB
                    have HO_449002 := n0_
                    have HO_456002 := n1_
                    have HO_463002 := n2_
                    have BK448 := n3_
                    have BK455 := n4_
                    have BK462 := n5_
                    have HB := n6_
                    clear n0_ n1_ n2_ n3_ n4_ n5_ n6_
                    (try clear hb)
                    (try clear hb2)
                    (try clear hk)
                    (try clear hi)
                    refine hK.out _ _ ⟨(blk_cell BK455.out 0).trans rfl, (blk_cell BK455.out 1).trans rfl, (blk_cell BK455.out 2).trans rfl, (blk_cell BK448.out 0).trans rfl, (blk_cell BK448.out 1).trans rfl, (blk_cell BK448.out 2).trans rfl⟩ (fun hHeld => ?_)
                    clear hK K
                    refine norm_ (a' := ?_) ?_ ?_
                    rotate_left
                    · show Act.put _ (some 70) _ = _
                      simp only [Act.put, List.setIfInBounds_toArray, List.set_cons_zero, List.set_cons_succ, i64_w, i32_w]
                      rfl
                    refine one_ (i := 14) (N := some 72) #[true, true, true, true, true, true, true, true, true, true, true, true, true, true, true, false, false, false] rfl rfl (one_of HT_.out (by kernel_rfl)) (by decide) (fun K hK => ?_)
                    refine goes_ Try.func18 (by kernel_rfl) rfl #[.agg #[.int .i64 t443, .int .i64 t444, .slice Ao10 t445.length co10]] (by rfl) rfl rfl ab1_ ?_
                    with_reducible refine (impl_ExprDepth.calls k2 t443 t444 _ _ t445 t471 _ ?side1 ?side2 A76.out).mono ?_
                    (case side1 => repeat (first | exact (Kd.N_reads' HO_449002.out).2.2 | (with_reducible refine Kd.C_alloc ?_ _) | (with_reducible refine Kd.C_drewN ?_ _) | (with_reducible refine Kd.C_drew ?_)))
                    (case side2 => exact (Kd.N_reads' HO_449002.out).2.1)
                    rintro e w82 ⟨rfl, hb⟩
                    refine ⟨_, rfl, ?_⟩
                    have n0_ := Aside0.mk (Kd.N_below (aN_ HO_449002.out) hb)
                    have n1_ := Aside0.mk (Kd.N_below (aN_ HO_456002.out) hb)
                    have n2_ := Aside0.mk (Kd.N_below (aN_ HO_463002.out) hb)
                    have n3_ := Aside0.mk (blk_below (g := gb448) (o := .cells #[.int .i64 t443, .int .i64 t444, .slice Ao10 t445.length co10] 25 (0, 0)) (aG_ BK448.out) hb)
                    have n4_ := Aside0.mk (blk_below (g := gb455) (o := .cells #[.int .i64 t449, .int .i64 t450, .slice Ao15 t451.length co15] 25 (0, 0)) (aG_ BK455.out) hb)
                    have n5_ := Aside0.mk (blk_below (g := gb462) (o := .cells #[.int .i64 t456, .int .i64 t457, .slice Ao22 t458.length co22] 25 (0, 0)) (aG_ BK462.out) hb)
                    have n6_ := Aside0.mk (below_step ab7_ hb)
                    clear HO_449002
                    clear HO_456002
                    clear HO_463002
                    clear BK448
                    clear BK455
                    clear BK462
                    clear HB
                    have HO_449002 := n0_
                    have HO_456002 := n1_
                    have HO_463002 := n2_
                    have BK448 := n3_
                    have BK455 := n4_
                    have BK462 := n5_
                    have HB := n6_
                    clear n0_ n1_ n2_ n3_ n4_ n5_ n6_
                    (try clear hb)
                    (try clear hb2)
                    (try clear hk)
                    (try clear hi)
                    refine hK.out _ _ ⟨(blk_cell BK455.out 0).trans rfl, (blk_cell BK455.out 1).trans rfl, (blk_cell BK455.out 2).trans rfl, (blk_cell BK448.out 0).trans rfl, (blk_cell BK448.out 1).trans rfl, (blk_cell BK448.out 2).trans rfl⟩ (fun hHeld => ?_)
                    clear hK K
                    refine norm_ (a' := ?_) ?_ ?_
                    rotate_left
                    · show Act.put _ (some 72) _ = _
                      simp only [Act.put, List.setIfInBounds_toArray, List.set_cons_zero, List.set_cons_succ, i64_w, i32_w]
                      rfl
                    refine pure_ (i := 15) (N := some 73) (v := ?_) (a' := ?_) #[true, true, true, true, true, true, true, true, true, true, true, true, true, true, true, true, false, false] rfl rfl (any_of HT_.out (by kernel_rfl)) (fun _ _ _ h => h) (Or.inl ⟨by rfl, ?_⟩) ?_ ?_
                    rotate_left
                    · intro w'
                      go_simp
                      with_reducible rfl
                    rotate_left
                    · simp only [Act.put, List.setIfInBounds_toArray, List.set_cons_zero, List.set_cons_succ, i64_w, i32_w]
                      rfl
                    refine pure_ (i := 16) (N := some 74) (v := ?_) (a' := ?_) #[true, true, true, true, true, true, true, true, true, true, true, true, true, true, true, true, true, false] rfl rfl (any_of HT_.out (by kernel_rfl)) (fun _ _ _ h => h) (Or.inl ⟨by rfl, ?_⟩) ?_ ?_
                    rotate_left
                    · intro w'
                      go_simp
                      with_reducible rfl
                    rotate_left
                    · simp only [Act.put, List.setIfInBounds_toArray, List.set_cons_zero, List.set_cons_succ, i64_w, i32_w]
                      rfl
                    refine pure_ (i := 17) (N := some 2) (v := ?_) (a' := ?_) #[true, true, true, true, true, true, true, true, true, true, true, true, true, true, true, true, true, true] rfl rfl (any_of HT_.out (by kernel_rfl)) (fun _ _ _ h => h) (Or.inl ⟨by rfl, ?_⟩) ?_ ?_
                    rotate_left
                    · intro w'
                      go_simp
                      with_reducible rfl
                    rotate_left
                    · simp only [Act.put, List.setIfInBounds_toArray, List.set_cons_zero, List.set_cons_succ, i64_w, i32_w]
                      rfl
                    refine done_ (done_of HT_.out (by kernel_rfl)) ?_
                    try go_wp2
                    go_ret
                    exact ⟨by first | rfl | (simp [errW_none, errW_some] <;> rfl) | (simp [*, errW_none, errW_some] <;> rfl), ab7_⟩
                  · rw [if_neg c74] at H
                    have c74b0 : decide (t468 ≤ t469) = false := decide_eq_false c74
                    clear c74
                    obtain rfl := Option.some.inj H
                    try go_wp2
                    have n0_ := Aside0.mk (Kd.N_drew HO_449002.out)
                    have n1_ := Aside0.mk (Kd.N_drew HO_456002.out)
                    have n2_ := Aside0.mk (Kd.N_drew HO_463002.out)
                    have n3_ := Aside0.mk (blk_drew BK448.out)
                    have n4_ := Aside0.mk (blk_drew BK455.out)
                    have n5_ := Aside0.mk (blk_drew BK462.out)
                    have n6_ := Aside0.mk (below_drew1 HB.out)
                    clear HO_449002
                    clear HO_456002
                    clear HO_463002
                    clear BK448
                    clear BK455
                    clear BK462
                    clear HB
                    have HO_449002 := n0_
                    have HO_456002 := n1_
                    have HO_463002 := n2_
                    have BK448 := n3_
                    have BK455 := n4_
                    have BK462 := n5_
                    have HB := n6_
                    clear n0_ n1_ n2_ n3_ n4_ n5_ n6_
                    refine start_ (n := 18) (S := fun w' => w'.cell? ⟨gb455, 0, none⟩ = some (.int .i64 t449) ∧ w'.cell? ⟨gb455, 1, none⟩ = some (.int .i64 t450) ∧ w'.cell? ⟨gb455, 2, none⟩ = some (.slice Ao15 t451.length co15) ∧ w'.cell? ⟨gb448, 0, none⟩ = some (.int .i64 t443) ∧ w'.cell? ⟨gb448, 1, none⟩ = some (.int .i64 t444) ∧ w'.cell? ⟨gb448, 2, none⟩ = some (.slice Ao10 t445.length co10)) (ds := []) #[false, false, false, false, false, false, false, false, false, false, false, false, false, false, false, false, false, false] (by kernel_rfl) rfl rfl ⟨(blk_cell BK455.out 0).trans rfl, (blk_cell BK455.out 1).trans rfl, (blk_cell BK455.out 2).trans rfl, (blk_cell BK448.out 0).trans rfl, (blk_cell BK448.out 1).trans rfl, (blk_cell BK448.out 2).trans rfl⟩ (fun hHeld => ?_); refine with_tabW laws_FnFoldSmaller.tab13 laws_FnFoldSmaller.bits13 (fun HT_ HW_ => ?_)
                    generalize wr.drew = w83 at HO_449002 HO_456002 HO_463002 BK448 BK455 BK462 HB hHeld ⊢
                    refine take_ (i := 0) (N := some 58) (v := ?_) (a' := ?_) #[true, false, false, false, false, false, false, false, false, false, false, false, false, false, false, false, false, false] rfl rfl (take_ofW HT_.out HW_.out (by kernel_rfl)) (fun _ _ _ h => h) (Or.inl ⟨by rfl, ?_⟩) hHeld ?_ ?_
                    rotate_left
                    · rintro w' ⟨s0, s1, s2, s3, s4, s5⟩
                      go_simp
                      with_reducible rfl
                    rotate_left
                    · simp only [Act.put, List.setIfInBounds_toArray, List.set_cons_zero, List.set_cons_succ, i64_w, i32_w]
                      rfl
                    refine one_ (i := 1) (N := some 59) #[true, true, false, false, false, false, false, false, false, false, false, false, false, false, false, false, false, false] rfl rfl (one_of HT_.out (by kernel_rfl)) (by decide) (fun K hK => ?_)
                    refine goes_ Try.func37 (by kernel_rfl) rfl #[.agg #[.int .i64 t449, .int .i64 t450, .slice Ao15 t451.length co15]] (by rfl) rfl rfl ab1_ ?_
                    with_reducible refine (impl_ExprSize.calls k2 t449 t450 _ _ t451 t467 _ ?side1 ?side2 A70.out).mono ?_
                    (case side1 => repeat (first | exact (Kd.N_reads' HO_456002.out).2.2 | (with_reducible refine Kd.C_alloc ?_ _) | (with_reducible refine Kd.C_drewN ?_ _) | (with_reducible refine Kd.C_drew ?_)))
                    (case side2 => exact (Kd.N_reads' HO_456002.out).2.1)
                    rintro e w84 ⟨rfl, hb⟩
                    refine ⟨_, rfl, ?_⟩
                    have n0_ := Aside0.mk (Kd.N_below (aN_ HO_449002.out) hb)
                    have n1_ := Aside0.mk (Kd.N_below (aN_ HO_456002.out) hb)
                    have n2_ := Aside0.mk (Kd.N_below (aN_ HO_463002.out) hb)
                    have n3_ := Aside0.mk (blk_below (g := gb448) (o := .cells #[.int .i64 t443, .int .i64 t444, .slice Ao10 t445.length co10] 25 (0, 0)) (aG_ BK448.out) hb)
                    have n4_ := Aside0.mk (blk_below (g := gb455) (o := .cells #[.int .i64 t449, .int .i64 t450, .slice Ao15 t451.length co15] 25 (0, 0)) (aG_ BK455.out) hb)
                    have n5_ := Aside0.mk (blk_below (g := gb462) (o := .cells #[.int .i64 t456, .int .i64 t457, .slice Ao22 t458.length co22] 25 (0, 0)) (aG_ BK462.out) hb)
                    have n6_ := Aside0.mk (below_step ab7_ hb)
                    clear HO_449002
                    clear HO_456002
                    clear HO_463002
                    clear BK448
                    clear BK455
                    clear BK462
                    clear HB
                    have HO_449002 := n0_
                    have HO_456002 := n1_
                    have HO_463002 := n2_
                    have BK448 := n3_
                    have BK455 := n4_
                    have BK462 := n5_
                    have HB := n6_
                    clear n0_ n1_ n2_ n3_ n4_ n5_ n6_
                    (try clear hb)
                    (try clear hb2)
                    (try clear hk)
                    (try clear hi)
                    refine hK.out _ _ ⟨(blk_cell BK455.out 0).trans rfl, (blk_cell BK455.out 1).trans rfl, (blk_cell BK455.out 2).trans rfl, (blk_cell BK448.out 0).trans rfl, (blk_cell BK448.out 1).trans rfl, (blk_cell BK448.out 2).trans rfl⟩ (fun hHeld => ?_)
                    clear hK K
                    refine norm_ (a' := ?_) ?_ ?_
                    rotate_left
                    · show Act.put _ (some 59) _ = _
                      simp only [Act.put, List.setIfInBounds_toArray, List.set_cons_zero, List.set_cons_succ, i64_w, i32_w]
                      rfl
                    refine pure_ (i := 2) (N := some 60) (v := ?_) (a' := ?_) #[true, true, true, false, false, false, false, false, false, false, false, false, false, false, false, false, false, false] rfl rfl (any_of HT_.out (by kernel_rfl)) (fun _ _ _ h => h) (Or.inl ⟨by rfl, ?_⟩) ?_ ?_
                    rotate_left
                    · intro w'
                      go_simp
                      with_reducible rfl
                    rotate_left
                    · simp only [Act.put, List.setIfInBounds_toArray, List.set_cons_zero, List.set_cons_succ, i64_w, i32_w]
                      rfl
                    refine pure_ (i := 3) (N := some 61) (v := ?_) (a' := ?_) #[true, true, true, true, false, false, false, false, false, false, false, false, false, false, false, false, false, false] rfl rfl (any_of HT_.out (by kernel_rfl)) (fun _ _ _ h => h) (Or.inl ⟨by rfl, ?_⟩) ?_ ?_
                    rotate_left
                    · intro w'
                      go_simp
                      with_reducible rfl
                    rotate_left
                    · simp only [Act.put, List.setIfInBounds_toArray, List.set_cons_zero, List.set_cons_succ, i64_w, i32_w]
                      rfl
                    refine take_ (i := 4) (N := some 62) (v := ?_) (a' := ?_) #[true, true, true, true, true, false, false, false, false, false, false, false, false, false, false, false, false, false] rfl rfl (take_ofW HT_.out HW_.out (by kernel_rfl)) (fun _ _ _ h => h) (Or.inl ⟨by rfl, ?_⟩) hHeld ?_ ?_
                    rotate_left
                    · rintro w' ⟨s0, s1, s2, s3, s4, s5⟩
                      go_simp
                      with_reducible rfl
                    rotate_left
                    · simp only [Act.put, List.setIfInBounds_toArray, List.set_cons_zero, List.set_cons_succ, i64_w, i32_w]
                      rfl
                    refine take_ (i := 6) (N := some 64) (v := ?_) (a' := ?_) #[true, true, true, true, true, false, true, false, false, false, false, false, false, false, false, false, false, false] rfl rfl (take_ofW HT_.out HW_.out (by kernel_rfl)) (fun _ _ _ h => h) (Or.inl ⟨by rfl, ?_⟩) hHeld ?_ ?_
                    rotate_left
                    · rintro w' ⟨s0, s1, s2, s3, s4, s5⟩
                      go_simp
                      with_reducible rfl
                    rotate_left
                    · simp only [Act.put, List.setIfInBounds_toArray, List.set_cons_zero, List.set_cons_succ, i64_w, i32_w]
                      rfl
                    refine one_ (i := 5) (N := some 63) #[true, true, true, true, true, true, true, false, false, false, false, false, false, false, false, false, false, false] rfl rfl (one_of HT_.out (by kernel_rfl)) (by decide) (fun K hK => ?_)
                    refine goes_ Try.func37 (by kernel_rfl) rfl #[.agg #[.int .i64 t449, .int .i64 t450, .slice Ao15 t451.length co15]] (by rfl) rfl rfl ab1_ ?_
                    with_reducible refine (impl_ExprSize.calls k2 t449 t450 _ _ t451 t468 _ ?side1 ?side2 A72.out).mono ?_
                    (case side1 => repeat (first | exact (Kd.N_reads' HO_456002.out).2.2 | (with_reducible refine Kd.C_alloc ?_ _) | (with_reducible refine Kd.C_drewN ?_ _) | (with_reducible refine Kd.C_drew ?_)))
                    (case side2 => exact (Kd.N_reads' HO_456002.out).2.1)
                    rintro e w85 ⟨rfl, hb⟩
                    refine ⟨_, rfl, ?_⟩
                    have n0_ := Aside0.mk (Kd.N_below (aN_ HO_449002.out) hb)
                    have n1_ := Aside0.mk (Kd.N_below (aN_ HO_456002.out) hb)
                    have n2_ := Aside0.mk (Kd.N_below (aN_ HO_463002.out) hb)
                    have n3_ := Aside0.mk (blk_below (g := gb448) (o := .cells #[.int .i64 t443, .int .i64 t444, .slice Ao10 t445.length co10] 25 (0, 0)) (aG_ BK448.out) hb)
                    have n4_ := Aside0.mk (blk_below (g := gb455) (o := .cells #[.int .i64 t449, .int .i64 t450, .slice Ao15 t451.length co15] 25 (0, 0)) (aG_ BK455.out) hb)
                    have n5_ := Aside0.mk (blk_below (g := gb462) (o := .cells #[.int .i64 t456, .int .i64 t457, .slice Ao22 t458.length co22] 25 (0, 0)) (aG_ BK462.out) hb)
                    have n6_ := Aside0.mk (below_step ab7_ hb)
                    clear HO_449002
                    clear HO_456002
                    clear HO_463002
                    clear BK448
                    clear BK455
                    clear BK462
                    clear HB
                    have HO_449002 := n0_
                    have HO_456002 := n1_
                    have HO_463002 := n2_
                    have BK448 := n3_
                    have BK455 := n4_
                    have BK462 := n5_
                    have HB := n6_
                    clear n0_ n1_ n2_ n3_ n4_ n5_ n6_
                    (try clear hb)
                    (try clear hb2)
                    (try clear hk)
                    (try clear hi)
                    refine hK.out _ _ ⟨(blk_cell BK455.out 0).trans rfl, (blk_cell BK455.out 1).trans rfl, (blk_cell BK455.out 2).trans rfl, (blk_cell BK448.out 0).trans rfl, (blk_cell BK448.out 1).trans rfl, (blk_cell BK448.out 2).trans rfl⟩ (fun hHeld => ?_)
                    clear hK K
                    refine norm_ (a' := ?_) ?_ ?_
                    rotate_left
                    · show Act.put _ (some 63) _ = _
                      simp only [Act.put, List.setIfInBounds_toArray, List.set_cons_zero, List.set_cons_succ, i64_w, i32_w]
                      rfl
                    refine one_ (i := 7) (N := some 65) #[true, true, true, true, true, true, true, true, false, false, false, false, false, false, false, false, false, false] rfl rfl (one_of HT_.out (by kernel_rfl)) (by decide) (fun K hK => ?_)
                    refine goes_ Try.func37 (by kernel_rfl) rfl #[.agg #[.int .i64 t443, .int .i64 t444, .slice Ao10 t445.length co10]] (by rfl) rfl rfl ab1_ ?_
                    with_reducible refine (impl_ExprSize.calls k2 t443 t444 _ _ t445 t469 _ ?side1 ?side2 A73.out).mono ?_
                    (case side1 => repeat (first | exact (Kd.N_reads' HO_449002.out).2.2 | (with_reducible refine Kd.C_alloc ?_ _) | (with_reducible refine Kd.C_drewN ?_ _) | (with_reducible refine Kd.C_drew ?_)))
                    (case side2 => exact (Kd.N_reads' HO_449002.out).2.1)
                    rintro e w86 ⟨rfl, hb⟩
                    refine ⟨_, rfl, ?_⟩
                    have n0_ := Aside0.mk (Kd.N_below (aN_ HO_449002.out) hb)
                    have n1_ := Aside0.mk (Kd.N_below (aN_ HO_456002.out) hb)
                    have n2_ := Aside0.mk (Kd.N_below (aN_ HO_463002.out) hb)
                    have n3_ := Aside0.mk (blk_below (g := gb448) (o := .cells #[.int .i64 t443, .int .i64 t444, .slice Ao10 t445.length co10] 25 (0, 0)) (aG_ BK448.out) hb)
                    have n4_ := Aside0.mk (blk_below (g := gb455) (o := .cells #[.int .i64 t449, .int .i64 t450, .slice Ao15 t451.length co15] 25 (0, 0)) (aG_ BK455.out) hb)
                    have n5_ := Aside0.mk (blk_below (g := gb462) (o := .cells #[.int .i64 t456, .int .i64 t457, .slice Ao22 t458.length co22] 25 (0, 0)) (aG_ BK462.out) hb)
                    have n6_ := Aside0.mk (below_step ab7_ hb)
                    clear HO_449002
                    clear HO_456002
                    clear HO_463002
                    clear BK448
                    clear BK455
                    clear BK462
                    clear HB
                    have HO_449002 := n0_
                    have HO_456002 := n1_
                    have HO_463002 := n2_
                    have BK448 := n3_
                    have BK455 := n4_
                    have BK462 := n5_
                    have HB := n6_
                    clear n0_ n1_ n2_ n3_ n4_ n5_ n6_
                    (try clear hb)
                    (try clear hb2)
                    (try clear hk)
                    (try clear hi)
                    refine hK.out _ _ ⟨(blk_cell BK455.out 0).trans rfl, (blk_cell BK455.out 1).trans rfl, (blk_cell BK455.out 2).trans rfl, (blk_cell BK448.out 0).trans rfl, (blk_cell BK448.out 1).trans rfl, (blk_cell BK448.out 2).trans rfl⟩ (fun hHeld => ?_)
                    clear hK K
                    refine norm_ (a' := ?_) ?_ ?_
                    rotate_left
                    · show Act.put _ (some 65) _ = _
                      simp only [Act.put, List.setIfInBounds_toArray, List.set_cons_zero, List.set_cons_succ, i64_w, i32_w]
                      rfl
                    refine pure_ (i := 8) (N := some 66) (v := ?_) (a' := ?_) #[true, true, true, true, true, true, true, true, true, false, false, false, false, false, false, false, false, false] rfl rfl (any_of HT_.out (by kernel_rfl)) (fun _ _ _ h => h) (Or.inl ⟨by rfl, ?_⟩) ?_ ?_
                    rotate_left
                    · intro w'
                      go_simp
                      with_reducible rfl
                    rotate_left
                    · simp only [Act.put, List.setIfInBounds_toArray, List.set_cons_zero, List.set_cons_succ, i64_w, i32_w]
                      rfl
                    refine pure_ (i := 9) (N := some 67) (v := ?_) (a' := ?_) #[true, true, true, true, true, true, true, true, true, true, false, false, false, false, false, false, false, false] rfl rfl (any_of HT_.out (by kernel_rfl)) (fun _ _ _ h => h) (Or.inl ⟨by rfl, ?_⟩) ?_ ?_
                    rotate_left
                    · intro w'
                      go_simp
                      with_reducible rfl
                    rotate_left
                    · simp only [Act.put, List.setIfInBounds_toArray, List.set_cons_zero, List.set_cons_succ, i64_w, i32_w]
                      rfl
                    refine pure_ (i := 10) (N := some 68) (v := ?_) (a' := ?_) #[true, true, true, true, true, true, true, true, true, true, true, false, false, false, false, false, false, false] rfl rfl (any_of HT_.out (by kernel_rfl)) (fun _ _ _ h => h) (Or.inl ⟨by rfl, ?_⟩) ?_ ?_
                    rotate_left
                    · intro w'
                      go_simp
                      with_reducible rfl
                    rotate_left
                    · simp only [Act.put, List.setIfInBounds_toArray, List.set_cons_zero, List.set_cons_succ, i64_w, i32_w]
                      rfl
                    refine pure_ (i := 11) (N := some 69) (v := undef) (a' := ?_) #[true, true, true, true, true, true, true, true, true, true, true, true, false, false, false, false, false, false] rfl rfl (any_of HT_.out (by kernel_rfl)) (fun _ _ _ h => h) (Or.inr ⟨by rfl, rfl⟩) ?_ ?_
                    rotate_left
                    · simp only [Act.put, List.setIfInBounds_toArray, List.set_cons_zero, List.set_cons_succ, i64_w, i32_w]
                      rfl
                    refine pure_ (i := 12) (N := some 70) (v := undef) (a' := ?_) #[true, true, true, true, true, true, true, true, true, true, true, true, true, false, false, false, false, false] rfl rfl (any_of HT_.out (by kernel_rfl)) (fun _ _ _ h => h) (Or.inr ⟨by rfl, rfl⟩) ?_ ?_
                    rotate_left
                    · simp only [Act.put, List.setIfInBounds_toArray, List.set_cons_zero, List.set_cons_succ, i64_w, i32_w]
                      rfl
                    refine pure_ (i := 13) (N := some 71) (v := undef) (a' := ?_) #[true, true, true, true, true, true, true, true, true, true, true, true, true, true, false, false, false, false] rfl rfl (any_of HT_.out (by kernel_rfl)) (fun _ _ _ h => h) (Or.inr ⟨by rfl, rfl⟩) ?_ ?_
                    rotate_left
                    · simp only [Act.put, List.setIfInBounds_toArray, List.set_cons_zero, List.set_cons_succ, i64_w, i32_w]
                      rfl
                    refine pure_ (i := 14) (N := some 72) (v := undef) (a' := ?_) #[true, true, true, true, true, true, true, true, true, true, true, true, true, true, true, false, false, false] rfl rfl (any_of HT_.out (by kernel_rfl)) (fun _ _ _ h => h) (Or.inr ⟨by rfl, rfl⟩) ?_ ?_
                    rotate_left
                    · simp only [Act.put, List.setIfInBounds_toArray, List.set_cons_zero, List.set_cons_succ, i64_w, i32_w]
                      rfl
                    refine pure_ (i := 15) (N := some 73) (v := undef) (a' := ?_) #[true, true, true, true, true, true, true, true, true, true, true, true, true, true, true, true, false, false] rfl rfl (any_of HT_.out (by kernel_rfl)) (fun _ _ _ h => h) (Or.inr ⟨by rfl, rfl⟩) ?_ ?_
                    rotate_left
                    · simp only [Act.put, List.setIfInBounds_toArray, List.set_cons_zero, List.set_cons_succ, i64_w, i32_w]
                      rfl
                    refine pure_ (i := 16) (N := some 74) (v := ?_) (a' := ?_) #[true, true, true, true, true, true, true, true, true, true, true, true, true, true, true, true, true, false] rfl rfl (any_of HT_.out (by kernel_rfl)) (fun _ _ _ h => h) (Or.inl ⟨by rfl, ?_⟩) ?_ ?_
                    rotate_left
                    · intro w'
                      go_simp
                      with_reducible rfl
                    rotate_left
                    · simp only [Act.put, List.setIfInBounds_toArray, List.set_cons_zero, List.set_cons_succ, i64_w, i32_w]
                      rfl
                    refine pure_ (i := 17) (N := some 2) (v := ?_) (a' := ?_) #[true, true, true, true, true, true, true, true, true, true, true, true, true, true, true, true, true, true] rfl rfl (any_of HT_.out (by kernel_rfl)) (fun _ _ _ h => h) (Or.inl ⟨by rfl, ?_⟩) ?_ ?_
                    rotate_left
                    · intro w'
                      go_simp
                      with_reducible rfl
                    rotate_left
                    · simp only [Act.put, List.setIfInBounds_toArray, List.set_cons_zero, List.set_cons_succ, i64_w, i32_w]
                      rfl
                    refine done_ (done_of HT_.out (by kernel_rfl)) ?_
                    try go_wp2
                    go_ret
                    exact ⟨by first | rfl | (simp [errW_none, errW_some] <;> rfl) | (simp [*, errW_none, errW_some] <;> rfl), ab7_⟩
                · rw [if_neg c71] at H
                  have c71b0 : decide (1 ≤ t467) = false := decide_eq_false c71
                  clear c71
                  obtain rfl := Option.some.inj H
                  try go_wp2
                  have n0_ := Aside0.mk (Kd.N_drew HO_449002.out)
                  have n1_ := Aside0.mk (Kd.N_drew HO_456002.out)
                  have n2_ := Aside0.mk (Kd.N_drew HO_463002.out)
                  have n3_ := Aside0.mk (blk_drew BK448.out)
                  have n4_ := Aside0.mk (blk_drew BK455.out)
                  have n5_ := Aside0.mk (blk_drew BK462.out)
                  have n6_ := Aside0.mk (below_drew1 HB.out)
                  clear HO_449002
                  clear HO_456002
                  clear HO_463002
                  clear BK448
                  clear BK455
                  clear BK462
                  clear HB
                  have HO_449002 := n0_
                  have HO_456002 := n1_
                  have HO_463002 := n2_
                  have BK448 := n3_
                  have BK455 := n4_
                  have BK462 := n5_
                  have HB := n6_
                  clear n0_ n1_ n2_ n3_ n4_ n5_ n6_
                  refine start_ (n := 18) (S := fun w' => w'.cell? ⟨gb455, 0, none⟩ = some (.int .i64 t449) ∧ w'.cell? ⟨gb455, 1, none⟩ = some (.int .i64 t450) ∧ w'.cell? ⟨gb455, 2, none⟩ = some (.slice Ao15 t451.length co15)) (ds := []) #[false, false, false, false, false, false, false, false, false, false, false, false, false, false, false, false, false, false] (by kernel_rfl) rfl rfl ⟨(blk_cell BK455.out 0).trans rfl, (blk_cell BK455.out 1).trans rfl, (blk_cell BK455.out 2).trans rfl⟩ (fun hHeld => ?_); refine with_tabW laws_FnFoldSmaller.tab13 laws_FnFoldSmaller.bits13 (fun HT_ HW_ => ?_)
                  generalize wr.drew = w87 at HO_449002 HO_456002 HO_463002 BK448 BK455 BK462 HB hHeld ⊢
                  refine take_ (i := 0) (N := some 58) (v := ?_) (a' := ?_) #[true, false, false, false, false, false, false, false, false, false, false, false, false, false, false, false, false, false] rfl rfl (take_ofW HT_.out HW_.out (by kernel_rfl)) (fun _ _ _ h => h) (Or.inl ⟨by rfl, ?_⟩) hHeld ?_ ?_
                  rotate_left
                  · rintro w' ⟨s0, s1, s2⟩
                    go_simp
                    with_reducible rfl
                  rotate_left
                  · simp only [Act.put, List.setIfInBounds_toArray, List.set_cons_zero, List.set_cons_succ, i64_w, i32_w]
                    rfl
                  refine one_ (i := 1) (N := some 59) #[true, true, false, false, false, false, false, false, false, false, false, false, false, false, false, false, false, false] rfl rfl (one_of HT_.out (by kernel_rfl)) (by decide) (fun K hK => ?_)
                  refine goes_ Try.func37 (by kernel_rfl) rfl #[.agg #[.int .i64 t449, .int .i64 t450, .slice Ao15 t451.length co15]] (by rfl) rfl rfl ab1_ ?_
                  with_reducible refine (impl_ExprSize.calls k2 t449 t450 _ _ t451 t467 _ ?side1 ?side2 A70.out).mono ?_
                  (case side1 => repeat (first | exact (Kd.N_reads' HO_456002.out).2.2 | (with_reducible refine Kd.C_alloc ?_ _) | (with_reducible refine Kd.C_drewN ?_ _) | (with_reducible refine Kd.C_drew ?_)))
                  (case side2 => exact (Kd.N_reads' HO_456002.out).2.1)
                  rintro e w88 ⟨rfl, hb⟩
                  refine ⟨_, rfl, ?_⟩
                  have n0_ := Aside0.mk (Kd.N_below (aN_ HO_449002.out) hb)
                  have n1_ := Aside0.mk (Kd.N_below (aN_ HO_456002.out) hb)
                  have n2_ := Aside0.mk (Kd.N_below (aN_ HO_463002.out) hb)
                  have n3_ := Aside0.mk (blk_below (g := gb448) (o := .cells #[.int .i64 t443, .int .i64 t444, .slice Ao10 t445.length co10] 25 (0, 0)) (aG_ BK448.out) hb)
                  have n4_ := Aside0.mk (blk_below (g := gb455) (o := .cells #[.int .i64 t449, .int .i64 t450, .slice Ao15 t451.length co15] 25 (0, 0)) (aG_ BK455.out) hb)
                  have n5_ := Aside0.mk (blk_below (g := gb462) (o := .cells #[.int .i64 t456, .int .i64 t457, .slice Ao22 t458.length co22] 25 (0, 0)) (aG_ BK462.out) hb)
                  have n6_ := Aside0.mk (below_step ab7_ hb)
                  clear HO_449002
                  clear HO_456002
                  clear HO_463002
                  clear BK448
                  clear BK455
                  clear BK462
                  clear HB
                  have HO_449002 := n0_
                  have HO_456002 := n1_
                  have HO_463002 := n2_
                  have BK448 := n3_
                  have BK455 := n4_
                  have BK462 := n5_
                  have HB := n6_
                  clear n0_ n1_ n2_ n3_ n4_ n5_ n6_
                  (try clear hb)
                  (try clear hb2)
                  (try clear hk)
                  (try clear hi)
                  refine hK.out _ _ ⟨(blk_cell BK455.out 0).trans rfl, (blk_cell BK455.out 1).trans rfl, (blk_cell BK455.out 2).trans rfl⟩ (fun hHeld => ?_)
                  clear hK K
                  refine norm_ (a' := ?_) ?_ ?_
                  rotate_left
                  · show Act.put _ (some 59) _ = _
                    simp only [Act.put, List.setIfInBounds_toArray, List.set_cons_zero, List.set_cons_succ, i64_w, i32_w]
                    rfl
                  refine pure_ (i := 2) (N := some 60) (v := ?_) (a' := ?_) #[true, true, true, false, false, false, false, false, false, false, false, false, false, false, false, false, false, false] rfl rfl (any_of HT_.out (by kernel_rfl)) (fun _ _ _ h => h) (Or.inl ⟨by rfl, ?_⟩) ?_ ?_
                  rotate_left
                  · intro w'
                    go_simp
                    with_reducible rfl
                  rotate_left
                  · simp only [Act.put, List.setIfInBounds_toArray, List.set_cons_zero, List.set_cons_succ, i64_w, i32_w]
                    rfl
                  refine pure_ (i := 3) (N := some 61) (v := ?_) (a' := ?_) #[true, true, true, true, false, false, false, false, false, false, false, false, false, false, false, false, false, false] rfl rfl (any_of HT_.out (by kernel_rfl)) (fun _ _ _ h => h) (Or.inl ⟨by rfl, ?_⟩) ?_ ?_
                  rotate_left
                  · intro w'
                    go_simp
                    with_reducible rfl
                  rotate_left
                  · simp only [Act.put, List.setIfInBounds_toArray, List.set_cons_zero, List.set_cons_succ, i64_w, i32_w]
                    rfl
                  refine pure_ (i := 4) (N := some 62) (v := undef) (a' := ?_) #[true, true, true, true, true, false, false, false, false, false, false, false, false, false, false, false, false, false] rfl rfl (any_of HT_.out (by kernel_rfl)) (fun _ _ _ h => h) (Or.inr ⟨by rfl, rfl⟩) ?_ ?_
                  rotate_left
                  · simp only [Act.put, List.setIfInBounds_toArray, List.set_cons_zero, List.set_cons_succ, i64_w, i32_w]
                    rfl
                  refine pure_ (i := 5) (N := some 63) (v := undef) (a' := ?_) #[true, true, true, true, true, true, false, false, false, false, false, false, false, false, false, false, false, false] rfl rfl (any_of HT_.out (by kernel_rfl)) (fun _ _ _ h => h) (Or.inr ⟨by rfl, rfl⟩) ?_ ?_
                  rotate_left
                  · simp only [Act.put, List.setIfInBounds_toArray, List.set_cons_zero, List.set_cons_succ, i64_w, i32_w]
                    rfl
                  refine pure_ (i := 6) (N := some 64) (v := undef) (a' := ?_) #[true, true, true, true, true, true, true, false, false, false, false, false, false, false, false, false, false, false] rfl rfl (any_of HT_.out (by kernel_rfl)) (fun _ _ _ h => h) (Or.inr ⟨by rfl, rfl⟩) ?_ ?_
                  rotate_left
                  · simp only [Act.put, List.setIfInBounds_toArray, List.set_cons_zero, List.set_cons_succ, i64_w, i32_w]
                    rfl
                  refine pure_ (i := 7) (N := some 65) (v := undef) (a' := ?_) #[true, true, true, true, true, true, true, true, false, false, false, false, false, false, false, false, false, false] rfl rfl (any_of HT_.out (by kernel_rfl)) (fun _ _ _ h => h) (Or.inr ⟨by rfl, rfl⟩) ?_ ?_
                  rotate_left
                  · simp only [Act.put, List.setIfInBounds_toArray, List.set_cons_zero, List.set_cons_succ, i64_w, i32_w]
                    rfl
                  refine pure_ (i := 8) (N := some 66) (v := undef) (a' := ?_) #[true, true, true, true, true, true, true, true, true, false, false, false, false, false, false, false, false, false] rfl rfl (any_of HT_.out (by kernel_rfl)) (fun _ _ _ h => h) (Or.inr ⟨by rfl, rfl⟩) ?_ ?_
                  rotate_left
                  · simp only [Act.put, List.setIfInBounds_toArray, List.set_cons_zero, List.set_cons_succ, i64_w, i32_w]
                    rfl
                  refine pure_ (i := 9) (N := some 67) (v := ?_) (a' := ?_) #[true, true, true, true, true, true, true, true, true, true, false, false, false, false, false, false, false, false] rfl rfl (any_of HT_.out (by kernel_rfl)) (fun _ _ _ h => h) (Or.inl ⟨by rfl, ?_⟩) ?_ ?_
                  rotate_left
                  · intro w'
                    go_simp
                    with_reducible rfl
                  rotate_left
                  · simp only [Act.put, List.setIfInBounds_toArray, List.set_cons_zero, List.set_cons_succ, i64_w, i32_w]
                    rfl
                  refine pure_ (i := 10) (N := some 68) (v := ?_) (a' := ?_) #[true, true, true, true, true, true, true, true, true, true, true, false, false, false, false, false, false, false] rfl rfl (any_of HT_.out (by kernel_rfl)) (fun _ _ _ h => h) (Or.inl ⟨by rfl, ?_⟩) ?_ ?_
                  rotate_left
                  · intro w'
                    go_simp
                    with_reducible rfl
                  rotate_left
                  · simp only [Act.put, List.setIfInBounds_toArray, List.set_cons_zero, List.set_cons_succ, i64_w, i32_w]
                    rfl
                  refine pure_ (i := 11) (N := some 69) (v := undef) (a' := ?_) #[true, true, true, true, true, true, true, true, true, true, true, true, false, false, false, false, false, false] rfl rfl (any_of HT_.out (by kernel_rfl)) (fun _ _ _ h => h) (Or.inr ⟨by rfl, rfl⟩) ?_ ?_
                  rotate_left
                  · simp only [Act.put, List.setIfInBounds_toArray, List.set_cons_zero, List.set_cons_succ, i64_w, i32_w]
                    rfl
                  refine pure_ (i := 12) (N := some 70) (v := undef) (a' := ?_) #[true, true, true, true, true, true, true, true, true, true, true, true, true, false, false, false, false, false] rfl rfl (any_of HT_.out (by kernel_rfl)) (fun _ _ _ h => h) (Or.inr ⟨by rfl, rfl⟩) ?_ ?_
                  rotate_left
                  · simp only [Act.put, List.setIfInBounds_toArray, List.set_cons_zero, List.set_cons_succ, i64_w, i32_w]
                    rfl
                  refine pure_ (i := 13) (N := some 71) (v := undef) (a' := ?_) #[true, true, true, true, true, true, true, true, true, true, true, true, true, true, false, false, false, false] rfl rfl (any_of HT_.out (by kernel_rfl)) (fun _ _ _ h => h) (Or.inr ⟨by rfl, rfl⟩) ?_ ?_
                  rotate_left
                  · simp only [Act.put, List.setIfInBounds_toArray, List.set_cons_zero, List.set_cons_succ, i64_w, i32_w]
                    rfl
                  refine pure_ (i := 14) (N := some 72) (v := undef) (a' := ?_) #[true, true, true, true, true, true, true, true, true, true, true, true, true, true, true, false, false, false] rfl rfl (any_of HT_.out (by kernel_rfl)) (fun _ _ _ h => h) (Or.inr ⟨by rfl, rfl⟩) ?_ ?_
                  rotate_left
                  · simp only [Act.put, List.setIfInBounds_toArray, List.set_cons_zero, List.set_cons_succ, i64_w, i32_w]
                    rfl
                  refine pure_ (i := 15) (N := some 73) (v := undef) (a' := ?_) #[true, true, true, true, true, true, true, true, true, true, true, true, true, true, true, true, false, false] rfl rfl (any_of HT_.out (by kernel_rfl)) (fun _ _ _ h => h) (Or.inr ⟨by rfl, rfl⟩) ?_ ?_
                  rotate_left
                  · simp only [Act.put, List.setIfInBounds_toArray, List.set_cons_zero, List.set_cons_succ, i64_w, i32_w]
                    rfl
                  refine pure_ (i := 16) (N := some 74) (v := ?_) (a' := ?_) #[true, true, true, true, true, true, true, true, true, true, true, true, true, true, true, true, true, false] rfl rfl (any_of HT_.out (by kernel_rfl)) (fun _ _ _ h => h) (Or.inl ⟨by rfl, ?_⟩) ?_ ?_
                  rotate_left
                  · intro w'
                    go_simp
                    with_reducible rfl
                  rotate_left
                  · simp only [Act.put, List.setIfInBounds_toArray, List.set_cons_zero, List.set_cons_succ, i64_w, i32_w]
                    rfl
                  refine pure_ (i := 17) (N := some 2) (v := ?_) (a' := ?_) #[true, true, true, true, true, true, true, true, true, true, true, true, true, true, true, true, true, true] rfl rfl (any_of HT_.out (by kernel_rfl)) (fun _ _ _ h => h) (Or.inl ⟨by rfl, ?_⟩) ?_ ?_
                  rotate_left
                  · intro w'
                    go_simp
                    with_reducible rfl
                  rotate_left
                  · simp only [Act.put, List.setIfInBounds_toArray, List.set_cons_zero, List.set_cons_succ, i64_w, i32_w]
                    rfl
                  refine done_ (done_of HT_.out (by kernel_rfl)) ?_
                  try go_wp2
                  go_ret
                  exact ⟨by first | rfl | (simp [errW_none, errW_some] <;> rfl) | (simp [*, errW_none, errW_some] <;> rfl), ab7_⟩

/-- THE ONE PURE STATEMENT of laws_FnFoldSmaller: yours. -/
def laws_FnFoldSmaller.Pure : Prop := ∀ (l0 : List Int), l0.length ≤ maxLen → l0.length * 1 ≤ 140737488351232 → (∀ x ∈ l0, (Lit.int .u8 x).wf = true) → ∃ k, laws_FnFoldSmaller.f k l0 = some true
theorem laws_FnFoldSmaller.walk (P : laws_FnFoldSmaller.Pure) (a0 : Option Addr) (len0 cap0 : Nat) (z0 : List Int) (w : World) (w0 : (a0 = none ∧ len0 = 0 ∧ cap0 = 0 ∧ z0 = []) ∨ ∃ x, a0 = some x ∧ len0 ≤ cap0 ∧ cap0 ≤ maxLen ∧ z0.length = cap0 ∧ (∀ i, i < z0.length → w.cell? (x.add i) = some (.int .u8 (z0.getD i 0))) ∧ ∀ n ∈ z0, (Lit.int .u8 n).wf = true) (y0 : len0 * 1 ≤ 140737488351232) :
    Calls Try.prog 10 #[.slice a0 len0 cap0] w fun e w' => e = .returned (.bool true) ∧ Below w.heap.size w w' := by
  obtain ⟨l0, rfl, hr0, hm0, hw0, hc0⟩ := ReadsInt.ofRowC w0
  obtain ⟨k, h⟩ := P l0 hm0 y0 hw0
  refine (laws_FnFoldSmaller.calls k _ _ l0 true w (Kd.C_of_reads (d := (0 : Int)) (h1 := fun _ => rfl) hr0) hc0 h).mono ?_
  rintro e w' ⟨rfl, hd⟩
  exact ⟨rfl, hd⟩

end Go.Proofs.Ytajifknepdikbaa.PA

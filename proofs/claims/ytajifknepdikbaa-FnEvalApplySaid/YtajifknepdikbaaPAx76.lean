-- made by a program of this session (wip/myprint.py over the kit's print)
import Derived.Test.YtajifknepdikbaaV
import Derived.Test.YtajifknepdikbaaPAx0
import Derived.Test.YtajifknepdikbaaPAx1
import Derived.Test.YtajifknepdikbaaPAx21
import Derived.Test.YtajifknepdikbaaPAx37
import Derived.Test.YtajifknepdikbaaPAx46
import Derived.Test.YtajifknepdikbaaPAx64
import Derived.Test.YtajifknepdikbaaPAx75
namespace Go.Proofs.Ytajifknepdikbaa.PA
open Go.RowKit Go.Proofs.YtajifknepdikbaaW.PrintWords Go.Proofs.YtajifknepdikbaaW.PrintLast Go.Proofs.YtajifknepdikbaaW.PrintMore
attribute [local go_sem] max2_int min2_int max_two min_two max_three min_three max_four min_four   -- for this text's walks alone
set_option linter.unusedVariables false
set_option linter.unusedSimpArgs false

/-! ### laws_FnEvalApply: function 11 -/
theorem laws_FnEvalApply.mono_l : ∀ k, (∀ y0 y1 y2 y3 y4 y5 y6 y7 y8, LeO (laws_FnEvalApply.j0 k y0 y1 y2 y3 y4 y5 y6 y7 y8) (laws_FnEvalApply.j0 (k + 1) y0 y1 y2 y3 y4 y5 y6 y7 y8))
  | 0 => fun _ _ _ _ _ _ _ _ _ r h => by simp [laws_FnEvalApply.j0] at h
  | k + 1 => by
    have ih0 := laws_FnEvalApply.mono_l k
    · intro y0 y1 y2 y3 y4 y5 y6 y7 y8
      unfold laws_FnEvalApply.j0
      repeat' first
      | (with_reducible exact ih0 _ _ _ _ _ _ _ _ _)
      | (with_reducible exact impl_ExprDepth.mono _ _ _ _)
      | (with_reducible exact impl_ExprEval.mono _ _ _ _ _)
      | (with_reducible exact spec_DrawExprEval.mono _ _)
      | (with_reducible exact spec_ExprEval.mono _ _ _ _ _)
      | (with_reducible exact LeO.refl _)
      | (with_reducible exact LeO.none _)
      | (with_reducible refine LeO.ite ?_ ?_)
      | (with_reducible refine LeO.bind ?_ (fun _ => ?_))
      | exact ih0 _ _ _ _ _ _ _ _ _
      | exact impl_ExprDepth.mono _ _ _ _
      | exact impl_ExprEval.mono _ _ _ _ _
      | exact spec_DrawExprEval.mono _ _
      | exact spec_ExprEval.mono _ _ _ _ _
      | exact LeO.none _
      | refine LeO.ite ?_ ?_
      | refine LeO.bind ?_ (fun _ => ?_)
theorem laws_FnEvalApply.mono : ∀ a0 k, LeO (laws_FnEvalApply.f k a0) (laws_FnEvalApply.f (k + 1) a0) := by
  intro a0 k
  have ih0 := laws_FnEvalApply.mono_l k
  unfold laws_FnEvalApply.f
  repeat' first
      | (with_reducible exact ih0 _ _ _ _ _ _ _ _ _)
      | (with_reducible exact impl_ExprDepth.mono _ _ _ _)
      | (with_reducible exact impl_ExprEval.mono _ _ _ _ _)
      | (with_reducible exact spec_DrawExprEval.mono _ _)
      | (with_reducible exact spec_ExprEval.mono _ _ _ _ _)
      | (with_reducible exact LeO.refl _)
      | (with_reducible exact LeO.none _)
      | (with_reducible refine LeO.ite ?_ ?_)
      | (with_reducible refine LeO.bind ?_ (fun _ => ?_))
      | exact ih0 _ _ _ _ _ _ _ _ _
      | exact impl_ExprDepth.mono _ _ _ _
      | exact impl_ExprEval.mono _ _ _ _ _
      | exact spec_DrawExprEval.mono _ _
      | exact spec_ExprEval.mono _ _ _ _ _
      | exact LeO.none _
      | refine LeO.ite ?_ ?_
      | refine LeO.bind ?_ (fun _ => ?_)
set_option maxHeartbeats 8000000 in
set_option maxRecDepth 100000 in
theorem laws_FnEvalApply.calls (k : Nat) (A0 : Option Addr) (c0 : Nat) (l0 : List Int) (r : Bool) (w : World) (hr0 : Kd.C (Kd.int .u8) w A0 l0.length l0) (hc0 : l0.length ≤ c0) (h : laws_FnEvalApply.f k l0 = some r) :
    Calls Try.prog 11 #[.slice A0 l0.length c0] w fun e w' => e = .returned (.bool r) ∧ Below w.heap.size w w' := by
  have hu25 := Try.underlying25
  have HR0 := Aside0.mk hr0
  have HC0 := Aside0.mk hc0
  clear hr0 hc0
  have HB := Aside0.mk (Below.refl w.heap.size w)
  have H : (if (l0.length : Int) > 1048576 then (some true) else ((spec_DrawExprEval.f k l0).bind fun bt762 => ((impl_ExprEval.f k bt762.1 bt762.2.1 bt762.2.2.1 bt762.2.2.2).bind fun bt771 => ((spec_ExprEval.f k bt762.1 bt762.2.1 bt762.2.2.1 bt762.2.2.2).bind fun bt773 => (if (bt771.2 != bt773.2) = true then (laws_FnEvalApply.j0 k bt762.2.2.2 bt771.1 bt771.2 bt773.1 bt773.2 true bt762.1 bt762.2.1 bt762.2.2.1) else (if bt771.1 = bt773.1 then (laws_FnEvalApply.j0 k bt762.2.2.2 bt771.1 bt771.2 bt773.1 bt773.2 (!bt771.2) bt762.1 bt762.2.1 bt762.2.2.1) else (laws_FnEvalApply.j0 k bt762.2.2.2 bt771.1 bt771.2 bt773.1 bt773.2 true bt762.1 bt762.2.1 bt762.2.2.1))))))) = some r := h
  clear h
  by_cases c2 : (l0.length : Int) > 1048576
  · rw [if_pos c2] at H
    have c2b0 : decide (1048576 < (l0.length : Int)) = true := decide_eq_true c2
    have c2b1 : decide (1048576 < l0.length) = true := decide_eq_true (by omega)
    clear c2
    obtain rfl := Option.some.inj H
    go_enter Try.func11, Try.ntmps11
    go_wp2
    go_ret
    exact ⟨by first | rfl | (simp [errW_none, errW_some] <;> rfl) | (simp [*, errW_none, errW_some] <;> rfl), by repeat (first | (with_reducible first | exact HB.out | apply below_alloc | apply pw_below_drewN | apply below_drew1) | exact HB.out)⟩
  · rw [if_neg c2] at H
    have c2b0 : decide (1048576 < (l0.length : Int)) = false := decide_eq_false c2
    have c2b1 : decide (1048576 < l0.length) = false := decide_eq_false (by omega)
    clear c2
    replace H := Option.bind_eq_some_iff.mp H
    obtain ⟨⟨t762, t763, t764, t767⟩, A30, H⟩ := H
    replace H : ((impl_ExprEval.f k t762 t763 t764 t767).bind fun bt771 => ((spec_ExprEval.f k t762 t763 t764 t767).bind fun bt773 => (if (bt771.2 != bt773.2) = true then (laws_FnEvalApply.j0 k t767 bt771.1 bt771.2 bt773.1 bt773.2 true t762 t763 t764) else (if bt771.1 = bt773.1 then (laws_FnEvalApply.j0 k t767 bt771.1 bt771.2 bt773.1 bt773.2 (!bt771.2) t762 t763 t764) else (laws_FnEvalApply.j0 k t767 bt771.1 bt771.2 bt773.1 bt773.2 true t762 t763 t764))))) = some r := H
    have A3 := Aside0.mk A30
    clear A30
    replace H := Option.bind_eq_some_iff.mp H
    obtain ⟨⟨t771, t772⟩, A40, H⟩ := H
    replace H : ((spec_ExprEval.f k t762 t763 t764 t767).bind fun bt773 => (if (t772 != bt773.2) = true then (laws_FnEvalApply.j0 k t767 t771 t772 bt773.1 bt773.2 true t762 t763 t764) else (if t771 = bt773.1 then (laws_FnEvalApply.j0 k t767 t771 t772 bt773.1 bt773.2 (!t772) t762 t763 t764) else (laws_FnEvalApply.j0 k t767 t771 t772 bt773.1 bt773.2 true t762 t763 t764)))) = some r := H
    have A4 := Aside0.mk A40
    clear A40
    replace H := Option.bind_eq_some_iff.mp H
    obtain ⟨⟨t773, t774⟩, A50, H⟩ := H
    replace H : (if (t772 != t774) = true then (laws_FnEvalApply.j0 k t767 t771 t772 t773 t774 true t762 t763 t764) else (if t771 = t773 then (laws_FnEvalApply.j0 k t767 t771 t772 t773 t774 (!t772) t762 t763 t764) else (laws_FnEvalApply.j0 k t767 t771 t772 t773 t774 true t762 t763 t764))) = some r := H
    have A5 := Aside0.mk A50
    clear A50
    have HC6 := Aside0.mk H
    clear H
    go_enter Try.func11, Try.ntmps11
    go_upto_region 6 with (first | ((with_reducible refine gate_callee (f := 31) rfl ?_); refine goesL_ (some 20) rfl rfl Try.func31 (by kernel_rfl) rfl #[.slice A0 l0.length c0] rfl (by (try simp only [List.map_toArray, List.map_cons, List.map_nil]); first | done | rfl | (simp only [List.length_drop, List.length_take]; rfl)) ?_; (with_reducible refine (spec_DrawExprEval.calls k _ _ l0 t762 t763 t764 t767 _ ?side1 ?side2 A3.out).mono ?_); (case side1 => repeat (first | exact HR0.out | (with_reducible refine Kd.C_alloc ?_ _) | (with_reducible refine Kd.C_drewN ?_ _) | (with_reducible refine Kd.C_drew ?_))); (case side2 => exact HC0.out); rintro e w7 ⟨v765, v768, rfl, ho0, ho1, hb⟩; refine ⟨_, rfl, ?_⟩; have n0_ := Aside0.mk (Kd.N_lower (Kd.N_mono (ok' := fun k_ => some k_ ≠ (v768 : Value).ownBlock) ho0 (fun k_ hk_ => hk_.2)) (below_size (by repeat (first | (with_reducible first | exact HB.out | apply below_alloc | apply pw_below_drewN | apply below_drew1) | exact HB.out)))); have n1_ := Aside0.mk (Kd.R_lower (Kd.R_mono (ok' := fun k_ => True) ho1 (fun _ hk_ => trivial)) (below_size (by repeat (first | (with_reducible first | exact HB.out | apply below_alloc | apply pw_below_drewN | apply below_drew1) | exact HB.out)))); have n2_ := Aside0.mk (below_step (by repeat (first | (with_reducible first | exact HB.out | apply below_alloc | apply pw_below_drewN | apply below_drew1) | exact HB.out)) hb); clear HB; have HO766 := n0_; have HO769 := n1_; have HB := n2_; clear n0_ n1_ n2_; (try clear hb); (try clear hb2); (try clear hk); (try clear hi); (try clear ho0); (try clear ho1)) | ((with_reducible refine gate_dst (N := 3) rfl ?_); refine box_event ?hg (N := 3) ?hd (cs := #[.int .i64 0, .int .i64 0, .slice none 0 0]) (t := 25) ?hr ?_; (case hd => rfl); (case hg => rfl); (case hr => first | (go_simp; done) | (go_simp; rfl)); intro gb770 hg w8 hbox hb; have n0_ := Aside0.mk (Kd.N_below (Kd.N_elderB (by (with_reducible repeat (first | apply Kd.N_alloc | apply Kd.N_drewN | apply Kd.N_drew)); exact HO766.out) gb770 (Nat.le_of_eq hg.symm)) hb); have n1_ := Aside0.mk (Kd.R_below (by (with_reducible repeat (first | apply Kd.R_alloc | apply Kd.R_drewN | apply Kd.R_drew)); exact HO769.out) hb); have n2_ := Aside0.mk (below_step (by repeat (first | (with_reducible first | exact HB.out | apply below_alloc | apply pw_below_drewN | apply below_drew1) | exact HB.out)) hb); have n3_ := Aside0.mk (hbox); have n4_ := Aside0.mk ((by rw [hg]; exact (below_size (by repeat (first | (with_reducible first | exact HB.out | apply below_alloc | apply pw_below_drewN | apply below_drew1) | exact HB.out))) : w.heap.size ≤ gb770)); have n5_ := Aside0.mk ((by rw [hg]; exact (below_size (by repeat (first | (with_reducible first | exact HB.out | apply below_alloc | apply pw_below_drewN | apply below_drew1) | exact HB.out))) : w.heap.size ≤ gb770)); clear HO766; clear HO769; clear HB; have HO766 := n0_; have HO769 := n1_; have HB := n2_; have BK770 := n3_; have GW770 := n4_; have GE770 := n5_; clear n0_ n1_ n2_ n3_ n4_ n5_; clear hb hbox hg; have hcz9_0 : w8.cell? ⟨gb770, 0, none⟩ = some (.int .i64 0) := (blk_cell BK770.out 0).trans rfl; have hcz9_1 : w8.cell? ⟨gb770, 1, none⟩ = some (.int .i64 0) := (blk_cell BK770.out 1).trans rfl; have hcz9_2 : w8.cell? ⟨gb770, 2, none⟩ = some (.slice none 0 0) := (blk_cell BK770.out 2).trans rfl; have hfz9_0 := blk_frozen BK770.out 0; have hfz9_1 := blk_frozen BK770.out 1; have hfz9_2 := blk_frozen BK770.out 2; obtain ⟨Ao10, co10, eo10⟩ := Kd.N_slice HO766.out; subst eo10; obtain ⟨Ao11, co11, eo11⟩ := Kd.R_slice HO769.out; subst eo11) | ((with_reducible refine gate_callee (f := 24) rfl ?_); refine goesL_ (some 26) rfl rfl Try.func24 (by kernel_rfl) rfl #[.agg #[.int .i64 t762, .int .i64 t763, .slice Ao10 t764.length co10], .slice Ao11 t767.length co11] rfl (by (try simp only [List.map_toArray, List.map_cons, List.map_nil]); first | done | rfl | (simp only [List.length_drop, List.length_take]; rfl)) ?_; (with_reducible refine (impl_ExprEval.calls k t762 t763 _ _ t764 _ _ t767 t771 t772 _ ?side1 ?side2 ?side3 ?side4 A4.out).mono ?_); (case side1 => refine (Kd.N_reads' (e := 25) (base := w.heap.size) (ok := fun k_ => (some k_ ≠ (.slice Ao11 t767.length co11 : Value).ownBlock ∧ k_ ≠ gb770)) (n := t764.length) (c := co10) ?_).2.2; exact (by (with_reducible repeat (first | apply Kd.N_alloc | apply Kd.N_drewN | apply Kd.N_drew)); exact (Kd.N_mono (Kd.N_far (p := ⟨gb770, 2, none⟩) (Kd.N_far (p := ⟨gb770, 1, none⟩) (Kd.N_far (p := ⟨gb770, 0, none⟩) (Kd.N_mono HO766.out (fun k_ hk => (⟨hk, hk.2⟩ : _ ∧ k_ ≠ gb770))) (fun _ hk => hk.2) (.int .i64 t762)) (fun _ hk => hk.2) (.int .i64 t763)) (fun _ hk => hk.2) (.slice Ao10 t764.length co10)) (fun _ h_ => h_.1)))); (case side2 => exact (Kd.N_reads' HO766.out).2.1); (case side3 => refine (Kd.R_reads' (e := 3) (base := w.heap.size) (ok := fun k_ => True) (n := t767.length) (c := co11) ?_).2.2; exact (by (with_reducible repeat (first | apply Kd.R_alloc | apply Kd.R_drewN | apply Kd.R_drew)); exact (Kd.R_mono (Kd.R_far (p := ⟨gb770, 2, none⟩) (Kd.R_far (p := ⟨gb770, 1, none⟩) (Kd.R_far (p := ⟨gb770, 0, none⟩) (Kd.R_types HO769.out BK770.out (by decide)) (fun _ hk => hk.2) (.int .i64 t762)) (fun _ hk => hk.2) (.int .i64 t763)) (fun _ hk => hk.2) (.slice Ao10 t764.length co10)) (fun _ h_ => h_.1)))); (case side4 => exact (Kd.R_reads' HO769.out).2.1); rintro e w12 ⟨rfl, hb⟩; refine ⟨_, rfl, ?_⟩; have n0_ := Aside0.mk (Kd.N_below (by (with_reducible repeat (first | apply Kd.N_alloc | apply Kd.N_drewN | apply Kd.N_drew)); exact (Kd.N_mono (Kd.N_far (p := ⟨gb770, 2, none⟩) (Kd.N_far (p := ⟨gb770, 1, none⟩) (Kd.N_far (p := ⟨gb770, 0, none⟩) (Kd.N_mono HO766.out (fun k_ hk => (⟨hk, hk.2⟩ : _ ∧ k_ ≠ gb770))) (fun _ hk => hk.2) (.int .i64 t762)) (fun _ hk => hk.2) (.int .i64 t763)) (fun _ hk => hk.2) (.slice Ao10 t764.length co10)) (fun _ h_ => h_.1))) hb); have n1_ := Aside0.mk (Kd.R_below (by (with_reducible repeat (first | apply Kd.R_alloc | apply Kd.R_drewN | apply Kd.R_drew)); exact (Kd.R_mono (Kd.R_far (p := ⟨gb770, 2, none⟩) (Kd.R_far (p := ⟨gb770, 1, none⟩) (Kd.R_far (p := ⟨gb770, 0, none⟩) (Kd.R_types HO769.out BK770.out (by decide)) (fun _ hk => hk.2) (.int .i64 t762)) (fun _ hk => hk.2) (.int .i64 t763)) (fun _ hk => hk.2) (.slice Ao10 t764.length co10)) (fun _ h_ => h_.1))) hb); have n2_ := Aside0.mk (blk_below (g := gb770) (o := .cells #[.int .i64 t762, .int .i64 t763, .slice Ao10 t764.length co10] 25 (0, 0)) (by (with_reducible repeat (first | refine blk_drewN ?_ _ | refine blk_drew ?_ | refine blk_alloc ?_ _)); refine blk_put (cs := #[.int .i64 t762, .int .i64 t763, .slice none 0 0]) ?_ 2 _ rfl; (with_reducible repeat (first | refine blk_drewN ?_ _ | refine blk_drew ?_ | refine blk_alloc ?_ _)); refine blk_put (cs := #[.int .i64 t762, .int .i64 0, .slice none 0 0]) ?_ 1 _ rfl; (with_reducible repeat (first | refine blk_drewN ?_ _ | refine blk_drew ?_ | refine blk_alloc ?_ _)); refine blk_put (cs := #[.int .i64 0, .int .i64 0, .slice none 0 0]) ?_ 0 _ rfl; (with_reducible repeat (first | refine blk_drewN ?_ _ | refine blk_drew ?_ | refine blk_alloc ?_ _)); exact BK770.out) hb); have n3_ := Aside0.mk (below_step (by repeat (first | (with_reducible first | exact HB.out | apply below_alloc | apply pw_below_drewN | apply below_drew1 | refine below_set ?_ GE770.out) | exact HB.out)) hb); clear HO766; clear HO769; clear BK770; clear HB; have HO766 := n0_; have HO769 := n1_; have BK770 := n2_; have HB := n3_; clear n0_ n1_ n2_ n3_; (try clear hb); (try clear hb2); (try clear hk); (try clear hi); have hcz13_0 : w12.cell? ⟨gb770, 0, none⟩ = some (.int .i64 t762) := (blk_cell BK770.out 0).trans rfl; have hcz13_1 : w12.cell? ⟨gb770, 1, none⟩ = some (.int .i64 t763) := (blk_cell BK770.out 1).trans rfl; have hcz13_2 : w12.cell? ⟨gb770, 2, none⟩ = some (.slice Ao10 t764.length co10) := (blk_cell BK770.out 2).trans rfl; have hfz13_0 := blk_frozen BK770.out 0; have hfz13_1 := blk_frozen BK770.out 1; have hfz13_2 := blk_frozen BK770.out 2) | ((with_reducible refine gate_callee (f := 21) rfl ?_); refine goesL_ (some 32) rfl rfl Try.func21 (by kernel_rfl) rfl #[.agg #[.int .i64 t762, .int .i64 t763, .slice Ao10 t764.length co10], .slice Ao11 t767.length co11] rfl (by (try simp only [List.map_toArray, List.map_cons, List.map_nil]); first | done | rfl | (simp only [List.length_drop, List.length_take]; rfl)) ?_; (with_reducible refine (spec_ExprEval.calls k t762 t763 _ _ t764 _ _ t767 t773 t774 _ ?side1 ?side2 ?side3 ?side4 A5.out).mono ?_); (case side1 => repeat (first | exact (Kd.N_reads' HO766.out).2.2 | (with_reducible refine Kd.C_alloc ?_ _) | (with_reducible refine Kd.C_drewN ?_ _) | (with_reducible refine Kd.C_drew ?_))); (case side2 => exact (Kd.N_reads' HO766.out).2.1); (case side3 => repeat (first | exact (Kd.R_reads' HO769.out).2.2 | (with_reducible refine Kd.C_alloc ?_ _) | (with_reducible refine Kd.C_drewN ?_ _) | (with_reducible refine Kd.C_drew ?_))); (case side4 => exact (Kd.R_reads' HO769.out).2.1); rintro e w14 ⟨rfl, hb⟩; refine ⟨_, rfl, ?_⟩; have n0_ := Aside0.mk (Kd.N_below (by (with_reducible repeat (first | apply Kd.N_alloc | apply Kd.N_drewN | apply Kd.N_drew)); exact HO766.out) hb); have n1_ := Aside0.mk (Kd.R_below (by (with_reducible repeat (first | apply Kd.R_alloc | apply Kd.R_drewN | apply Kd.R_drew)); exact HO769.out) hb); have n2_ := Aside0.mk (blk_below (g := gb770) (o := .cells #[.int .i64 t762, .int .i64 t763, .slice Ao10 t764.length co10] 25 (0, 0)) (by (with_reducible repeat (first | refine blk_drewN ?_ _ | refine blk_drew ?_ | refine blk_alloc ?_ _)); exact BK770.out) hb); have n3_ := Aside0.mk (below_step (by repeat (first | (with_reducible first | exact HB.out | apply below_alloc | apply pw_below_drewN | apply below_drew1 | refine below_set ?_ GE770.out) | exact HB.out)) hb); clear HO766; clear HO769; clear BK770; clear HB; have HO766 := n0_; have HO769 := n1_; have BK770 := n2_; have HB := n3_; clear n0_ n1_ n2_ n3_; (try clear hb); (try clear hb2); (try clear hk); (try clear hi)))
    (try simp only [Act.put, List.setIfInBounds_toArray, List.set_cons_zero, List.set_cons_succ])
    go_cut [46] (fun v46 wc => ∃ (kq : Nat) (x46_5 : Bool), v46 = .bool x46_5 ∧ Aside0 (laws_FnEvalApply.j0 kq t767 t771 t772 t773 t774 x46_5 t762 t763 t764 = some r) ∧ Aside0 (kq ≤ k) ∧ Aside0 (Kd.R (Kd.int .i64) 3 wc w.heap.size (fun _ => True) (.slice Ao11 t767.length co11) t767) ∧ Aside0 (Kd.N k25 25 wc w.heap.size (fun k_ => some k_ ≠ ((.slice Ao11 t767.length co11) : Value).ownBlock ∧ k_ ≠ gb770) (.slice Ao10 t764.length co10) t764) ∧ Aside0 (wc.heap[gb770]? = some (.cells #[.int .i64 t762, .int .i64 t763, (.slice Ao10 t764.length co10)] 25 (0, 0))) ∧ Aside0 (Below w.heap.size w wc))
    case first =>
      have H := HC6.out
      clear HC6
      by_cases c15 : (t772 != t774) = true
      · rw [if_pos c15] at H
        have c15b0 : (t772 != t774) = true := c15
        (try (have c15b1 : decide (t772 = t774) = false := by simpa using c15))
        (try (have c15b2 : (t772 == t774) = false := by simpa using c15))
        (try (have c15b3 : ¬ (t772 = t774) := by simpa using c15))
        clear c15
        (first | rw [c15b0] | (simp only [i64_w, i32_w]; rw [c15b0]) | skip)
        have H' := Aside0.mk H
        clear H
        go_wp2
        go_meet
        case rel => exact ⟨_, (true), (by first | rfl | (simp; done) | (simp [*]; done)), H', ⟨by first | omega | exact Nat.le_refl _⟩, ⟨by (with_reducible repeat (first | apply Kd.R_alloc | apply Kd.R_drewN | apply Kd.R_drew)); exact HO769.out⟩, ⟨by (with_reducible repeat (first | apply Kd.N_alloc | apply Kd.N_drewN | apply Kd.N_drew)); exact HO766.out⟩, ⟨by (with_reducible repeat (first | refine blk_drewN ?_ _ | refine blk_drew ?_ | refine blk_alloc ?_ _)); exact BK770.out⟩, ⟨by repeat (first | (with_reducible first | exact HB.out | apply below_alloc | apply pw_below_drewN | apply below_drew1 | refine below_set ?_ GE770.out) | exact HB.out)⟩⟩
      · rw [if_neg c15] at H
        have c15b0 : (t772 != t774) = false := by simpa using c15
        (try (have c15b1 : decide (t772 = t774) = true := by simpa using c15))
        (try (have c15b2 : (t772 == t774) = true := by simpa using c15))
        clear c15
        (first | rw [c15b0] | (simp only [i64_w, i32_w]; rw [c15b0]) | skip)
        by_cases c16 : t771 = t773
        · rw [if_pos c16] at H
          have c16b0 : (t771 == t773) = true := beq_iff_eq.mpr c16
          have c16b1 : (t771 != t773) = false := bne_eq_false_iff_eq.mpr c16
          clear c16
          have H' := Aside0.mk H
          clear H
          go_wp2
          go_meet
          case rel => exact ⟨_, (!t772), (by first | rfl | (simp; done) | (simp [*]; done)), H', ⟨by first | omega | exact Nat.le_refl _⟩, ⟨by (with_reducible repeat (first | apply Kd.R_alloc | apply Kd.R_drewN | apply Kd.R_drew)); exact HO769.out⟩, ⟨by (with_reducible repeat (first | apply Kd.N_alloc | apply Kd.N_drewN | apply Kd.N_drew)); exact HO766.out⟩, ⟨by (with_reducible repeat (first | refine blk_drewN ?_ _ | refine blk_drew ?_ | refine blk_alloc ?_ _)); exact BK770.out⟩, ⟨by repeat (first | (with_reducible first | exact HB.out | apply below_alloc | apply pw_below_drewN | apply below_drew1 | refine below_set ?_ GE770.out) | exact HB.out)⟩⟩
        · rw [if_neg c16] at H
          have c16b0 : (t771 == t773) = false := beq_eq_false_iff_ne.mpr c16
          have c16b1 : (t771 != t773) = true := bne_iff_ne.mpr c16
          have H' := Aside0.mk H
          clear H
          go_wp2
          go_meet
          case rel => exact ⟨_, (true), (by first | rfl | (simp; done) | (simp [*]; done)), H', ⟨by first | omega | exact Nat.le_refl _⟩, ⟨by (with_reducible repeat (first | apply Kd.R_alloc | apply Kd.R_drewN | apply Kd.R_drew)); exact HO769.out⟩, ⟨by (with_reducible repeat (first | apply Kd.N_alloc | apply Kd.N_drewN | apply Kd.N_drew)); exact HO766.out⟩, ⟨by (with_reducible repeat (first | refine blk_drewN ?_ _ | refine blk_drew ?_ | refine blk_alloc ?_ _)); exact BK770.out⟩, ⟨by repeat (first | (with_reducible first | exact HB.out | apply below_alloc | apply pw_below_drewN | apply below_drew1 | refine below_set ?_ GE770.out) | exact HB.out)⟩⟩
    case rest =>
      clear HC6
      try clear c1
      try clear c2
      try clear c2b0
      try clear c2b1
      try clear p2
      try clear c3
      try clear c11
      try clear c15
      try clear c15b0
      try clear c15b1
      try clear c15b2
      try clear c16
      try clear c16b0
      try clear c16b1
      try clear hcz13_0
      try clear hcz13_1
      try clear hcz13_2
      try clear hcz9_0
      try clear hcz9_1
      try clear hcz9_2
      try clear hfz13_0
      try clear hfz13_1
      try clear hfz13_2
      try clear hfz9_0
      try clear hfz9_1
      try clear hfz9_2
      obtain ⟨kq, x46_5, rfl, HA, HJ5, HO_4, HO_771002, BK770, HB⟩ := hcut
      cases kq with
      | zero => exact absurd HA.out (by simp [laws_FnEvalApply.j0])
      | succ kj5 =>
        have H := HA.out
        clear HA
        simp only [laws_FnEvalApply.j0] at H
        by_cases c17 : x46_5 = true
        · subst c17
          have H1 : (if (t772 == t774) = true then (some (t771 == t773)) else (some false)) = some r := by rw [if_pos rfl] at H; exact H
          clear H
          have H := H1
          clear H1
          by_cases c18 : (t772 == t774) = true
          · rw [if_pos c18] at H
            have c18b0 : (t772 == t774) = true := c18
            (try (have c18b1 : decide (t772 = t774) = true := by simpa using c18))
            (try (have c18b2 : (t772 == t774) = true := by simpa using c18))
            clear c18
            obtain rfl := Option.some.inj H
            go_wp2
            go_ret
            exact ⟨by first | rfl | (simp [errW_none, errW_some] <;> rfl) | (simp [*, errW_none, errW_some] <;> rfl), by repeat (first | (with_reducible first | exact HB.out | apply below_alloc | apply pw_below_drewN | apply below_drew1 | refine below_set ?_ GE770.out) | exact HB.out)⟩
          · rw [if_neg c18] at H
            have c18b0 : (t772 == t774) = false := by simpa using c18
            (try (have c18b1 : decide (t772 = t774) = false := by simpa using c18))
            (try (have c18b2 : (t772 == t774) = false := by simpa using c18))
            (try (have c18b3 : ¬ (t772 = t774) := by simpa using c18))
            clear c18
            obtain rfl := Option.some.inj H
            go_wp2
            go_ret
            exact ⟨by first | rfl | (simp [errW_none, errW_some] <;> rfl) | (simp [*, errW_none, errW_some] <;> rfl), by repeat (first | (with_reducible first | exact HB.out | apply below_alloc | apply pw_below_drewN | apply below_drew1 | refine below_set ?_ GE770.out) | exact HB.out)⟩
        · replace c17 := Bool.eq_false_iff.mpr c17
          subst c17
          have H1 : (if (t764.length : Int) = 0 then ((impl_ExprDepth.f kj5 t762 t763 t764).bind fun t775 => (some (t775 == 1))) else (if 0 < (t764.length : Int) then ((impl_ExprEval.f kj5 ((rd_T25 t764 0).f0) ((rd_T25 t764 0).f1) ((rd_T25 t764 0).f2) t767).bind fun bt777 => (if 1 < (t764.length : Int) then ((impl_ExprEval.f kj5 ((rd_T25 t764 1).f0) ((rd_T25 t764 1).f1) ((rd_T25 t764 1).f2) t767).bind fun bt780 => ((impl_Apply.f t762 bt777.1 bt780.1).bind fun bt782 => (if bt777.2 = true then (if bt780.2 = true then (if bt782.2 = true then (some (bt782.1 == t771)) else (some false)) else (some false)) else (some false)))) else (none))) else (none))) = some r := by rw [if_neg (show ¬ (false = true) by decide)] at H; exact H
          clear H
          have H := H1
          clear H1
          by_cases c19 : (t764.length : Int) = 0
          · rw [if_pos c19] at H
            have c19b0 : ((t764.length : Int) == 0) = true := beq_iff_eq.mpr c19
            have c19b1 : ((t764.length : Int) != 0) = false := bne_eq_false_iff_eq.mpr c19
            clear c19
            replace H := Option.bind_eq_some_iff.mp H
            obtain ⟨t775, A200, H⟩ := H
            replace H : (some (t775 == 1)) = some r := H
            have A20 := Aside0.mk A200
            clear A200
            obtain rfl := Option.some.inj H
            have hcz21_0 : wc.cell? ⟨gb770, 0, none⟩ = some (.int .i64 t762) := (blk_cell BK770.out 0).trans rfl
            have hcz21_1 : wc.cell? ⟨gb770, 1, none⟩ = some (.int .i64 t763) := (blk_cell BK770.out 1).trans rfl
            have hcz21_2 : wc.cell? ⟨gb770, 2, none⟩ = some (.slice Ao10 t764.length co10) := (blk_cell BK770.out 2).trans rfl
            have hfz21_0 := blk_frozen BK770.out 0
            have hfz21_1 := blk_frozen BK770.out 1
            have hfz21_2 := blk_frozen BK770.out 2
            go_wp2_with (first | ((with_reducible refine gate_callee (f := 18) rfl ?_); refine goesL_ (some 60) rfl rfl Try.func18 (by kernel_rfl) rfl #[.agg #[.int .i64 t762, .int .i64 t763, .slice Ao10 t764.length co10]] rfl (by (try simp only [List.map_toArray, List.map_cons, List.map_nil]); first | done | rfl | (simp only [List.length_drop, List.length_take]; rfl)) ?_; (with_reducible refine (impl_ExprDepth.calls kj5 t762 t763 _ _ t764 t775 _ ?side1 ?side2 A20.out).mono ?_); (case side1 => repeat (first | exact (Kd.N_reads' HO_771002.out).2.2 | (with_reducible refine Kd.C_alloc ?_ _) | (with_reducible refine Kd.C_drewN ?_ _) | (with_reducible refine Kd.C_drew ?_))); (case side2 => exact (Kd.N_reads' HO_771002.out).2.1); rintro e w22 ⟨rfl, hb⟩; refine ⟨_, rfl, ?_⟩; have n0_ := Aside0.mk (Kd.R_below (by (with_reducible repeat (first | apply Kd.R_alloc | apply Kd.R_drewN | apply Kd.R_drew)); exact HO_4.out) hb); have n1_ := Aside0.mk (Kd.N_below (by (with_reducible repeat (first | apply Kd.N_alloc | apply Kd.N_drewN | apply Kd.N_drew)); exact HO_771002.out) hb); have n2_ := Aside0.mk (blk_below (g := gb770) (o := .cells #[.int .i64 t762, .int .i64 t763, .slice Ao10 t764.length co10] 25 (0, 0)) (by (with_reducible repeat (first | refine blk_drewN ?_ _ | refine blk_drew ?_ | refine blk_alloc ?_ _)); exact BK770.out) hb); have n3_ := Aside0.mk (below_step (by repeat (first | (with_reducible first | exact HB.out | apply below_alloc | apply pw_below_drewN | apply below_drew1 | refine below_set ?_ GE770.out) | exact HB.out)) hb); clear HO_4; clear HO_771002; clear BK770; clear HB; have HO_4 := n0_; have HO_771002 := n1_; have BK770 := n2_; have HB := n3_; clear n0_ n1_ n2_ n3_; (try clear hb); (try clear hb2); (try clear hk); (try clear hi)))
            go_ret
            exact ⟨by first | rfl | (simp [errW_none, errW_some] <;> rfl) | (simp [*, errW_none, errW_some] <;> rfl), by repeat (first | (with_reducible first | exact HB.out | apply below_alloc | apply pw_below_drewN | apply below_drew1 | refine below_set ?_ GE770.out) | exact HB.out)⟩
          · rw [if_neg c19] at H
            have c19b0 : ((t764.length : Int) == 0) = false := beq_eq_false_iff_ne.mpr c19
            have c19b1 : ((t764.length : Int) != 0) = true := bne_iff_ne.mpr c19
            have c19b2 : ¬ (t764 = []) := fun h_ => c19 (by rw [h_]; rfl)
            by_cases c23 : 0 < (t764.length : Int)
            · rw [if_pos c23] at H
              have c23b0 : decide (0 < (t764.length : Int)) = true := decide_eq_true c23
              have c23b1 : decide (0 < t764.length) = true := decide_eq_true (by omega)
              clear c23
              replace H := Option.bind_eq_some_iff.mp H
              obtain ⟨⟨t777, t778⟩, A240, H⟩ := H
              replace H : (if 1 < (t764.length : Int) then ((impl_ExprEval.f kj5 ((rd_T25 t764 1).f0) ((rd_T25 t764 1).f1) ((rd_T25 t764 1).f2) t767).bind fun bt780 => ((impl_Apply.f t762 t777 bt780.1).bind fun bt782 => (if t778 = true then (if bt780.2 = true then (if bt782.2 = true then (some (bt782.1 == t771)) else (some false)) else (some false)) else (some false)))) else (none)) = some r := H
              have A24 := Aside0.mk A240
              clear A240
              by_cases c25 : 1 < (t764.length : Int)
              · rw [if_pos c25] at H
                have c25b0 : decide (1 < (t764.length : Int)) = true := decide_eq_true c25
                have c25b1 : decide (1 < t764.length) = true := decide_eq_true (by omega)
                clear c25
                replace H := Option.bind_eq_some_iff.mp H
                obtain ⟨⟨t780, t781⟩, A260, H⟩ := H
                replace H : ((impl_Apply.f t762 t777 t780).bind fun bt782 => (if t778 = true then (if t781 = true then (if bt782.2 = true then (some (bt782.1 == t771)) else (some false)) else (some false)) else (some false))) = some r := H
                have A26 := Aside0.mk A260
                clear A260
                replace H := Option.bind_eq_some_iff.mp H
                obtain ⟨⟨t782, t783⟩, A270, H⟩ := H
                replace H : (if t778 = true then (if t781 = true then (if t783 = true then (some (t782 == t771)) else (some false)) else (some false)) else (some false)) = some r := H
                have A27 := Aside0.mk A270
                clear A270
                by_cases c28 : t778 = true
                · subst c28
                  have H1 : (if t781 = true then (if t783 = true then (some (t782 == t771)) else (some false)) else (some false)) = some r := by rw [if_pos rfl] at H; exact H
                  clear H
                  have H := H1
                  clear H1
                  by_cases c29 : t781 = true
                  · subst c29
                    have H1 : (if t783 = true then (some (t782 == t771)) else (some false)) = some r := by rw [if_pos rfl] at H; exact H
                    clear H
                    have H := H1
                    clear H1
                    by_cases c30 : t783 = true
                    · subst c30
                      have H1 : (some (t782 == t771)) = some r := by rw [if_pos rfl] at H; exact H
                      clear H
                      have H := H1
                      clear H1
                      obtain rfl := Option.some.inj H
                      have hcz31_0 : wc.cell? ⟨gb770, 0, none⟩ = some (.int .i64 t762) := (blk_cell BK770.out 0).trans rfl
                      have hcz31_1 : wc.cell? ⟨gb770, 1, none⟩ = some (.int .i64 t763) := (blk_cell BK770.out 1).trans rfl
                      have hcz31_2 : wc.cell? ⟨gb770, 2, none⟩ = some (.slice Ao10 t764.length co10) := (blk_cell BK770.out 2).trans rfl
                      have hfz31_0 := blk_frozen BK770.out 0
                      have hfz31_1 := blk_frozen BK770.out 1
                      have hfz31_2 := blk_frozen BK770.out 2
                      have p776 : 0 ≤ (0 : Int) := (by omega)
                      have q776 : 0 < (t764.length : Int) := of_decide_eq_true (by first | (with_reducible assumption) | assumption)
                      obtain ⟨ad776, A776_2, c776_2, e776, hx776_0, hx776_1, hx776_2, hl776_2, hi776_2⟩ := at_T25 (Kd.N_reads' HO_771002.out).2.2 0 p776 q776
                      cases e776
                      obtain ⟨ce776, hce776, hMe776, hcc776⟩ := Kd.N_get HO_771002.out z25 0 p776 (by first | exact q776 | exact of_decide_eq_true (by first | (with_reducible assumption) | assumption) | (have e_ := (Kd.N_reads' HO_771002.out).1; omega))
                      obtain ⟨ua776_2, uc776_2, rfl, ul776_2, ge776_2⟩ := k25_openF hMe776
                      have hv776_2 := hcc776 2 _ rfl
                      rw [add_field _ _ 2 (by omega)] at hv776_2
                      replace hv776_2 := Option.some.inj (hv776_2.symm.trans hx776_2)
                      injection hv776_2 with hva_ hvn_ hvc_
                      rw [hva_] at ge776_2
                      rw [hvc_] at ul776_2
                      have HL776_2 := Aside0.mk (show Kd.V k25 25 _ w.heap.size _ _ ((rd_T25 t764 0).f2) from Kd.V_mk ul776_2 ge776_2)
                      clear hva_ hvn_ hvc_ ge776_2 ul776_2
                      clear hcc776 hce776
                      have qi776 : (0 < t764.length) = True := eq_true (by omega)
                      (try rw [show ((0 : Int)).toNat = 0 from rfl] at hx776_0)
                      (try rw [show 0 * 3 = 0 from rfl] at hx776_0)
                      (try rw [Addr.add_zero'] at hx776_0)
                      (try rw [show ((0 : Int)).toNat = 0 from rfl] at hx776_1)
                      (try rw [show 0 * 3 = 0 from rfl] at hx776_1)
                      (try rw [Addr.add_zero'] at hx776_1)
                      (try rw [show ((0 : Int)).toNat = 0 from rfl] at hx776_2)
                      (try rw [show 0 * 3 = 0 from rfl] at hx776_2)
                      (try rw [Addr.add_zero'] at hx776_2)
                      have HR776_2 := Aside0.mk hi776_2
                      have HC776_2 := Aside0.mk hl776_2
                      clear hi776_2 hl776_2
                      replace p776 := eq_true p776
                      replace q776 := eq_true q776
                      go_wp2_with (first | ((with_reducible refine gate_callee (f := 24) rfl ?_); refine goesL_ (some 68) rfl rfl Try.func24 (by kernel_rfl) rfl #[.agg #[.int .i64 ((rd_T25 t764 0).f0), .int .i64 ((rd_T25 t764 0).f1), .slice A776_2 ((rd_T25 t764 0).f2).length c776_2], .slice Ao11 t767.length co11] rfl (by (try simp only [List.map_toArray, List.map_cons, List.map_nil]); first | done | rfl | (simp only [List.length_drop, List.length_take]; rfl)) ?_; (with_reducible refine (impl_ExprEval.calls kj5 ((rd_T25 t764 0).f0) ((rd_T25 t764 0).f1) _ _ ((rd_T25 t764 0).f2) _ _ t767 t777 true _ ?side1 ?side2 ?side3 ?side4 A24.out).mono ?_); (case side1 => repeat (first | exact (by repeat (first | (with_reducible exact HR776_2.out) | (with_reducible refine Kd.C_alloc ?_ _) | (with_reducible refine Kd.C_drewN ?_ _) | (with_reducible refine Kd.C_drew ?_) | exact HR776_2.out)) | (with_reducible refine Kd.C_alloc ?_ _) | (with_reducible refine Kd.C_drewN ?_ _) | (with_reducible refine Kd.C_drew ?_))); (case side2 => exact HC776_2.out); (case side3 => repeat (first | exact (Kd.R_reads' HO_4.out).2.2 | (with_reducible refine Kd.C_alloc ?_ _) | (with_reducible refine Kd.C_drewN ?_ _) | (with_reducible refine Kd.C_drew ?_))); (case side4 => exact (Kd.R_reads' HO_4.out).2.1); rintro e w32 ⟨rfl, hb⟩; refine ⟨_, rfl, ?_⟩; have n0_ := Aside0.mk (Kd.R_below (by (with_reducible repeat (first | apply Kd.R_alloc | apply Kd.R_drewN | apply Kd.R_drew)); exact HO_4.out) hb); have n1_ := Aside0.mk (Kd.N_below (by (with_reducible repeat (first | apply Kd.N_alloc | apply Kd.N_drewN | apply Kd.N_drew)); exact HO_771002.out) hb); have n2_ := Aside0.mk (Kd.V_below (by (with_reducible repeat (first | apply Kd.V_alloc | apply Kd.V_drewN | apply Kd.V_drew)); exact HL776_2.out) hb); have n3_ := Aside0.mk (blk_below (g := gb770) (o := .cells #[.int .i64 t762, .int .i64 t763, .slice (some ad776) t764.length co10] 25 (0, 0)) (by (with_reducible repeat (first | refine blk_drewN ?_ _ | refine blk_drew ?_ | refine blk_alloc ?_ _)); exact BK770.out) hb); have n4_ := Aside0.mk (Kd.C_below (by repeat (first | (with_reducible exact HR776_2.out) | (with_reducible refine Kd.C_alloc ?_ _) | (with_reducible refine Kd.C_drewN ?_ _) | (with_reducible refine Kd.C_drew ?_) | exact HR776_2.out)) hb); have n5_ := Aside0.mk (below_step (by repeat (first | (with_reducible first | exact HB.out | apply below_alloc | apply pw_below_drewN | apply below_drew1 | refine below_set ?_ GE770.out) | exact HB.out)) hb); clear HO_4; clear HO_771002; clear HL776_2; clear BK770; clear HR776_2; clear HB; have HO_4 := n0_; have HO_771002 := n1_; have HL776_2 := n2_; have BK770 := n3_; have HR776_2 := n4_; have HB := n5_; clear n0_ n1_ n2_ n3_ n4_ n5_; (try clear hb); (try clear hb2); (try clear hk); (try clear hi); have hcz33_0 : w32.cell? ⟨gb770, 0, none⟩ = some (.int .i64 t762) := (blk_cell BK770.out 0).trans rfl; have hcz33_1 : w32.cell? ⟨gb770, 1, none⟩ = some (.int .i64 t763) := (blk_cell BK770.out 1).trans rfl; have hcz33_2 : w32.cell? ⟨gb770, 2, none⟩ = some (.slice (some ad776) t764.length co10) := (blk_cell BK770.out 2).trans rfl; have hfz33_0 := blk_frozen BK770.out 0; have hfz33_1 := blk_frozen BK770.out 1; have hfz33_2 := blk_frozen BK770.out 2; have p779 : 0 ≤ (1 : Int) := (by omega); have q779 : 1 < (t764.length : Int) := of_decide_eq_true (by first | (with_reducible assumption) | assumption); obtain ⟨ad779, A779_2, c779_2, e779, hx779_0, hx779_1, hx779_2, hl779_2, hi779_2⟩ := at_T25 (Kd.N_reads' HO_771002.out).2.2 1 p779 q779; obtain rfl : ad776 = ad779 := (by injection e779); obtain ⟨ce779, hce779, hMe779, hcc779⟩ := Kd.N_get HO_771002.out z25 1 p779 (by first | exact q779 | exact of_decide_eq_true (by first | (with_reducible assumption) | assumption) | (have e_ := (Kd.N_reads' HO_771002.out).1; omega)); obtain ⟨ua779_2, uc779_2, rfl, ul779_2, ge779_2⟩ := k25_openF hMe779; have hv779_2 := hcc779 2 _ rfl; rw [add_field _ _ 2 (by omega)] at hv779_2; replace hv779_2 := Option.some.inj (hv779_2.symm.trans hx779_2); injection hv779_2 with hva_ hvn_ hvc_; rw [hva_] at ge779_2; rw [hvc_] at ul779_2; have HL779_2 := Aside0.mk (show Kd.V k25 25 _ w.heap.size _ _ ((rd_T25 t764 1).f2) from Kd.V_mk ul779_2 ge779_2); clear hva_ hvn_ hvc_ ge779_2 ul779_2; clear hcc779 hce779; (try simp only [show (1 : Int).toNat = 1 from rfl, Nat.reduceMul, Nat.reduceEqDiff, Go.Addr.add, ↓reduceIte] at hx779_0); (try simp only [show (1 : Int).toNat = 1 from rfl, Nat.reduceMul, Nat.reduceEqDiff, Go.Addr.add, ↓reduceIte] at hx779_1); (try simp only [show (1 : Int).toNat = 1 from rfl, Nat.reduceMul, Nat.reduceEqDiff, Go.Addr.add, ↓reduceIte] at hx779_2); have qi779 : (1 < t764.length) = True := eq_true (by omega); (try rw [show ((1 : Int)).toNat = 1 from rfl] at hx779_0); (try rw [show 1 * 3 = 3 from rfl] at hx779_0); (try rw [show ((1 : Int)).toNat = 1 from rfl] at hx779_1); (try rw [show 1 * 3 = 3 from rfl] at hx779_1); (try rw [show ((1 : Int)).toNat = 1 from rfl] at hx779_2); (try rw [show 1 * 3 = 3 from rfl] at hx779_2); have HR779_2 := Aside0.mk hi779_2; have HC779_2 := Aside0.mk hl779_2; clear hi779_2 hl779_2; replace p779 := eq_true p779; replace q779 := eq_true q779) | ((with_reducible refine gate_callee (f := 24) rfl ?_); refine goesL_ (some 77) rfl rfl Try.func24 (by kernel_rfl) rfl #[.agg #[.int .i64 ((rd_T25 t764 1).f0), .int .i64 ((rd_T25 t764 1).f1), .slice A779_2 ((rd_T25 t764 1).f2).length c779_2], .slice Ao11 t767.length co11] rfl (by (try simp only [List.map_toArray, List.map_cons, List.map_nil]); first | done | rfl | (simp only [List.length_drop, List.length_take]; rfl)) ?_; (with_reducible refine (impl_ExprEval.calls kj5 ((rd_T25 t764 1).f0) ((rd_T25 t764 1).f1) _ _ ((rd_T25 t764 1).f2) _ _ t767 t780 true _ ?side1 ?side2 ?side3 ?side4 A26.out).mono ?_); (case side1 => repeat (first | exact (by repeat (first | (with_reducible exact HR779_2.out) | (with_reducible refine Kd.C_alloc ?_ _) | (with_reducible refine Kd.C_drewN ?_ _) | (with_reducible refine Kd.C_drew ?_) | exact HR779_2.out)) | (with_reducible refine Kd.C_alloc ?_ _) | (with_reducible refine Kd.C_drewN ?_ _) | (with_reducible refine Kd.C_drew ?_))); (case side2 => exact HC779_2.out); (case side3 => repeat (first | exact (Kd.R_reads' HO_4.out).2.2 | (with_reducible refine Kd.C_alloc ?_ _) | (with_reducible refine Kd.C_drewN ?_ _) | (with_reducible refine Kd.C_drew ?_))); (case side4 => exact (Kd.R_reads' HO_4.out).2.1); rintro e w34 ⟨rfl, hb⟩; refine ⟨_, rfl, ?_⟩; have n0_ := Aside0.mk (Kd.R_below (by (with_reducible repeat (first | apply Kd.R_alloc | apply Kd.R_drewN | apply Kd.R_drew)); exact HO_4.out) hb); have n1_ := Aside0.mk (Kd.N_below (by (with_reducible repeat (first | apply Kd.N_alloc | apply Kd.N_drewN | apply Kd.N_drew)); exact HO_771002.out) hb); have n2_ := Aside0.mk (Kd.V_below (by (with_reducible repeat (first | apply Kd.V_alloc | apply Kd.V_drewN | apply Kd.V_drew)); exact HL776_2.out) hb); have n3_ := Aside0.mk (Kd.V_below (by (with_reducible repeat (first | apply Kd.V_alloc | apply Kd.V_drewN | apply Kd.V_drew)); exact HL779_2.out) hb); have n4_ := Aside0.mk (blk_below (g := gb770) (o := .cells #[.int .i64 t762, .int .i64 t763, .slice (some ad776) t764.length co10] 25 (0, 0)) (by (with_reducible repeat (first | refine blk_drewN ?_ _ | refine blk_drew ?_ | refine blk_alloc ?_ _)); exact BK770.out) hb); have n5_ := Aside0.mk (Kd.C_below (by repeat (first | (with_reducible exact HR776_2.out) | (with_reducible refine Kd.C_alloc ?_ _) | (with_reducible refine Kd.C_drewN ?_ _) | (with_reducible refine Kd.C_drew ?_) | exact HR776_2.out)) hb); have n6_ := Aside0.mk (Kd.C_below (by repeat (first | (with_reducible exact HR779_2.out) | (with_reducible refine Kd.C_alloc ?_ _) | (with_reducible refine Kd.C_drewN ?_ _) | (with_reducible refine Kd.C_drew ?_) | exact HR779_2.out)) hb); have n7_ := Aside0.mk (below_step (by repeat (first | (with_reducible first | exact HB.out | apply below_alloc | apply pw_below_drewN | apply below_drew1 | refine below_set ?_ GE770.out) | exact HB.out)) hb); clear HO_4; clear HO_771002; clear HL776_2; clear HL779_2; clear BK770; clear HR776_2; clear HR779_2; clear HB; have HO_4 := n0_; have HO_771002 := n1_; have HL776_2 := n2_; have HL779_2 := n3_; have BK770 := n4_; have HR776_2 := n5_; have HR779_2 := n6_; have HB := n7_; clear n0_ n1_ n2_ n3_ n4_ n5_ n6_ n7_; (try clear hb); (try clear hb2); (try clear hk); (try clear hi); have hcz35_0 : w34.cell? ⟨gb770, 0, none⟩ = some (.int .i64 t762) := (blk_cell BK770.out 0).trans rfl; have hcz35_1 : w34.cell? ⟨gb770, 1, none⟩ = some (.int .i64 t763) := (blk_cell BK770.out 1).trans rfl; have hcz35_2 : w34.cell? ⟨gb770, 2, none⟩ = some (.slice (some ad776) t764.length co10) := (blk_cell BK770.out 2).trans rfl; have hfz35_0 := blk_frozen BK770.out 0; have hfz35_1 := blk_frozen BK770.out 1; have hfz35_2 := blk_frozen BK770.out 2) | ((with_reducible refine gate_callee (f := 38) rfl ?_); refine goesL_ (some 85) rfl rfl Try.func38 (by kernel_rfl) rfl #[.int .i64 t762, .int .i64 t777, .int .i64 t780] rfl (by (try simp only [List.map_toArray, List.map_cons, List.map_nil]); first | done | rfl | (simp only [List.length_drop, List.length_take]; rfl)) ?_; (with_reducible refine (impl_Apply.calls t762 t777 t780 t782 true _ A27.out).mono ?_); rintro e w' ⟨rfl, ⟨nd, rfl⟩⟩; refine ⟨_, rfl, ?_⟩))
                      go_ret
                      exact ⟨by first | rfl | (simp [errW_none, errW_some] <;> rfl) | (simp [*, errW_none, errW_some] <;> rfl), by repeat (first | (with_reducible first | exact HB.out | apply below_alloc | apply pw_below_drewN | apply below_drew1 | refine below_set ?_ GE770.out) | exact HB.out)⟩
                    · replace c30 := Bool.eq_false_iff.mpr c30
                      subst c30
                      have H1 : (some false) = some r := by rw [if_neg (show ¬ (false = true) by decide)] at H; exact H
                      clear H
                      have H := H1
                      clear H1
                      obtain rfl := Option.some.inj H
                      have hcz36_0 : wc.cell? ⟨gb770, 0, none⟩ = some (.int .i64 t762) := (blk_cell BK770.out 0).trans rfl
                      have hcz36_1 : wc.cell? ⟨gb770, 1, none⟩ = some (.int .i64 t763) := (blk_cell BK770.out 1).trans rfl
                      have hcz36_2 : wc.cell? ⟨gb770, 2, none⟩ = some (.slice Ao10 t764.length co10) := (blk_cell BK770.out 2).trans rfl
                      have hfz36_0 := blk_frozen BK770.out 0
                      have hfz36_1 := blk_frozen BK770.out 1
                      have hfz36_2 := blk_frozen BK770.out 2
                      have p776 : 0 ≤ (0 : Int) := (by omega)
                      have q776 : 0 < (t764.length : Int) := of_decide_eq_true (by first | (with_reducible assumption) | assumption)
                      obtain ⟨ad776, A776_2, c776_2, e776, hx776_0, hx776_1, hx776_2, hl776_2, hi776_2⟩ := at_T25 (Kd.N_reads' HO_771002.out).2.2 0 p776 q776
                      cases e776
                      obtain ⟨ce776, hce776, hMe776, hcc776⟩ := Kd.N_get HO_771002.out z25 0 p776 (by first | exact q776 | exact of_decide_eq_true (by first | (with_reducible assumption) | assumption) | (have e_ := (Kd.N_reads' HO_771002.out).1; omega))
                      obtain ⟨ua776_2, uc776_2, rfl, ul776_2, ge776_2⟩ := k25_openF hMe776
                      have hv776_2 := hcc776 2 _ rfl
                      rw [add_field _ _ 2 (by omega)] at hv776_2
                      replace hv776_2 := Option.some.inj (hv776_2.symm.trans hx776_2)
                      injection hv776_2 with hva_ hvn_ hvc_
                      rw [hva_] at ge776_2
                      rw [hvc_] at ul776_2
                      have HL776_2 := Aside0.mk (show Kd.V k25 25 _ w.heap.size _ _ ((rd_T25 t764 0).f2) from Kd.V_mk ul776_2 ge776_2)
                      clear hva_ hvn_ hvc_ ge776_2 ul776_2
                      clear hcc776 hce776
                      have qi776 : (0 < t764.length) = True := eq_true (by omega)
                      (try rw [show ((0 : Int)).toNat = 0 from rfl] at hx776_0)
                      (try rw [show 0 * 3 = 0 from rfl] at hx776_0)
                      (try rw [Addr.add_zero'] at hx776_0)
                      (try rw [show ((0 : Int)).toNat = 0 from rfl] at hx776_1)
                      (try rw [show 0 * 3 = 0 from rfl] at hx776_1)
                      (try rw [Addr.add_zero'] at hx776_1)
                      (try rw [show ((0 : Int)).toNat = 0 from rfl] at hx776_2)
                      (try rw [show 0 * 3 = 0 from rfl] at hx776_2)
                      (try rw [Addr.add_zero'] at hx776_2)
                      have HR776_2 := Aside0.mk hi776_2
                      have HC776_2 := Aside0.mk hl776_2
                      clear hi776_2 hl776_2
                      replace p776 := eq_true p776
                      replace q776 := eq_true q776
                      go_wp2_with (first | ((with_reducible refine gate_callee (f := 24) rfl ?_); refine goesL_ (some 68) rfl rfl Try.func24 (by kernel_rfl) rfl #[.agg #[.int .i64 ((rd_T25 t764 0).f0), .int .i64 ((rd_T25 t764 0).f1), .slice A776_2 ((rd_T25 t764 0).f2).length c776_2], .slice Ao11 t767.length co11] rfl (by (try simp only [List.map_toArray, List.map_cons, List.map_nil]); first | done | rfl | (simp only [List.length_drop, List.length_take]; rfl)) ?_; (with_reducible refine (impl_ExprEval.calls kj5 ((rd_T25 t764 0).f0) ((rd_T25 t764 0).f1) _ _ ((rd_T25 t764 0).f2) _ _ t767 t777 true _ ?side1 ?side2 ?side3 ?side4 A24.out).mono ?_); (case side1 => repeat (first | exact (by repeat (first | (with_reducible exact HR776_2.out) | (with_reducible refine Kd.C_alloc ?_ _) | (with_reducible refine Kd.C_drewN ?_ _) | (with_reducible refine Kd.C_drew ?_) | exact HR776_2.out)) | (with_reducible refine Kd.C_alloc ?_ _) | (with_reducible refine Kd.C_drewN ?_ _) | (with_reducible refine Kd.C_drew ?_))); (case side2 => exact HC776_2.out); (case side3 => repeat (first | exact (Kd.R_reads' HO_4.out).2.2 | (with_reducible refine Kd.C_alloc ?_ _) | (with_reducible refine Kd.C_drewN ?_ _) | (with_reducible refine Kd.C_drew ?_))); (case side4 => exact (Kd.R_reads' HO_4.out).2.1); rintro e w37 ⟨rfl, hb⟩; refine ⟨_, rfl, ?_⟩; have n0_ := Aside0.mk (Kd.R_below (by (with_reducible repeat (first | apply Kd.R_alloc | apply Kd.R_drewN | apply Kd.R_drew)); exact HO_4.out) hb); have n1_ := Aside0.mk (Kd.N_below (by (with_reducible repeat (first | apply Kd.N_alloc | apply Kd.N_drewN | apply Kd.N_drew)); exact HO_771002.out) hb); have n2_ := Aside0.mk (Kd.V_below (by (with_reducible repeat (first | apply Kd.V_alloc | apply Kd.V_drewN | apply Kd.V_drew)); exact HL776_2.out) hb); have n3_ := Aside0.mk (blk_below (g := gb770) (o := .cells #[.int .i64 t762, .int .i64 t763, .slice (some ad776) t764.length co10] 25 (0, 0)) (by (with_reducible repeat (first | refine blk_drewN ?_ _ | refine blk_drew ?_ | refine blk_alloc ?_ _)); exact BK770.out) hb); have n4_ := Aside0.mk (Kd.C_below (by repeat (first | (with_reducible exact HR776_2.out) | (with_reducible refine Kd.C_alloc ?_ _) | (with_reducible refine Kd.C_drewN ?_ _) | (with_reducible refine Kd.C_drew ?_) | exact HR776_2.out)) hb); have n5_ := Aside0.mk (below_step (by repeat (first | (with_reducible first | exact HB.out | apply below_alloc | apply pw_below_drewN | apply below_drew1 | refine below_set ?_ GE770.out) | exact HB.out)) hb); clear HO_4; clear HO_771002; clear HL776_2; clear BK770; clear HR776_2; clear HB; have HO_4 := n0_; have HO_771002 := n1_; have HL776_2 := n2_; have BK770 := n3_; have HR776_2 := n4_; have HB := n5_; clear n0_ n1_ n2_ n3_ n4_ n5_; (try clear hb); (try clear hb2); (try clear hk); (try clear hi); have hcz38_0 : w37.cell? ⟨gb770, 0, none⟩ = some (.int .i64 t762) := (blk_cell BK770.out 0).trans rfl; have hcz38_1 : w37.cell? ⟨gb770, 1, none⟩ = some (.int .i64 t763) := (blk_cell BK770.out 1).trans rfl; have hcz38_2 : w37.cell? ⟨gb770, 2, none⟩ = some (.slice (some ad776) t764.length co10) := (blk_cell BK770.out 2).trans rfl; have hfz38_0 := blk_frozen BK770.out 0; have hfz38_1 := blk_frozen BK770.out 1; have hfz38_2 := blk_frozen BK770.out 2; have p779 : 0 ≤ (1 : Int) := (by omega); have q779 : 1 < (t764.length : Int) := of_decide_eq_true (by first | (with_reducible assumption) | assumption); obtain ⟨ad779, A779_2, c779_2, e779, hx779_0, hx779_1, hx779_2, hl779_2, hi779_2⟩ := at_T25 (Kd.N_reads' HO_771002.out).2.2 1 p779 q779; obtain rfl : ad776 = ad779 := (by injection e779); obtain ⟨ce779, hce779, hMe779, hcc779⟩ := Kd.N_get HO_771002.out z25 1 p779 (by first | exact q779 | exact of_decide_eq_true (by first | (with_reducible assumption) | assumption) | (have e_ := (Kd.N_reads' HO_771002.out).1; omega)); obtain ⟨ua779_2, uc779_2, rfl, ul779_2, ge779_2⟩ := k25_openF hMe779; have hv779_2 := hcc779 2 _ rfl; rw [add_field _ _ 2 (by omega)] at hv779_2; replace hv779_2 := Option.some.inj (hv779_2.symm.trans hx779_2); injection hv779_2 with hva_ hvn_ hvc_; rw [hva_] at ge779_2; rw [hvc_] at ul779_2; have HL779_2 := Aside0.mk (show Kd.V k25 25 _ w.heap.size _ _ ((rd_T25 t764 1).f2) from Kd.V_mk ul779_2 ge779_2); clear hva_ hvn_ hvc_ ge779_2 ul779_2; clear hcc779 hce779; (try simp only [show (1 : Int).toNat = 1 from rfl, Nat.reduceMul, Nat.reduceEqDiff, Go.Addr.add, ↓reduceIte] at hx779_0); (try simp only [show (1 : Int).toNat = 1 from rfl, Nat.reduceMul, Nat.reduceEqDiff, Go.Addr.add, ↓reduceIte] at hx779_1); (try simp only [show (1 : Int).toNat = 1 from rfl, Nat.reduceMul, Nat.reduceEqDiff, Go.Addr.add, ↓reduceIte] at hx779_2); have qi779 : (1 < t764.length) = True := eq_true (by omega); (try rw [show ((1 : Int)).toNat = 1 from rfl] at hx779_0); (try rw [show 1 * 3 = 3 from rfl] at hx779_0); (try rw [show ((1 : Int)).toNat = 1 from rfl] at hx779_1); (try rw [show 1 * 3 = 3 from rfl] at hx779_1); (try rw [show ((1 : Int)).toNat = 1 from rfl] at hx779_2); (try rw [show 1 * 3 = 3 from rfl] at hx779_2); have HR779_2 := Aside0.mk hi779_2; have HC779_2 := Aside0.mk hl779_2; clear hi779_2 hl779_2; replace p779 := eq_true p779; replace q779 := eq_true q779) | ((with_reducible refine gate_callee (f := 24) rfl ?_); refine goesL_ (some 77) rfl rfl Try.func24 (by kernel_rfl) rfl #[.agg #[.int .i64 ((rd_T25 t764 1).f0), .int .i64 ((rd_T25 t764 1).f1), .slice A779_2 ((rd_T25 t764 1).f2).length c779_2], .slice Ao11 t767.length co11] rfl (by (try simp only [List.map_toArray, List.map_cons, List.map_nil]); first | done | rfl | (simp only [List.length_drop, List.length_take]; rfl)) ?_; (with_reducible refine (impl_ExprEval.calls kj5 ((rd_T25 t764 1).f0) ((rd_T25 t764 1).f1) _ _ ((rd_T25 t764 1).f2) _ _ t767 t780 true _ ?side1 ?side2 ?side3 ?side4 A26.out).mono ?_); (case side1 => repeat (first | exact (by repeat (first | (with_reducible exact HR779_2.out) | (with_reducible refine Kd.C_alloc ?_ _) | (with_reducible refine Kd.C_drewN ?_ _) | (with_reducible refine Kd.C_drew ?_) | exact HR779_2.out)) | (with_reducible refine Kd.C_alloc ?_ _) | (with_reducible refine Kd.C_drewN ?_ _) | (with_reducible refine Kd.C_drew ?_))); (case side2 => exact HC779_2.out); (case side3 => repeat (first | exact (Kd.R_reads' HO_4.out).2.2 | (with_reducible refine Kd.C_alloc ?_ _) | (with_reducible refine Kd.C_drewN ?_ _) | (with_reducible refine Kd.C_drew ?_))); (case side4 => exact (Kd.R_reads' HO_4.out).2.1); rintro e w39 ⟨rfl, hb⟩; refine ⟨_, rfl, ?_⟩; have n0_ := Aside0.mk (Kd.R_below (by (with_reducible repeat (first | apply Kd.R_alloc | apply Kd.R_drewN | apply Kd.R_drew)); exact HO_4.out) hb); have n1_ := Aside0.mk (Kd.N_below (by (with_reducible repeat (first | apply Kd.N_alloc | apply Kd.N_drewN | apply Kd.N_drew)); exact HO_771002.out) hb); have n2_ := Aside0.mk (Kd.V_below (by (with_reducible repeat (first | apply Kd.V_alloc | apply Kd.V_drewN | apply Kd.V_drew)); exact HL776_2.out) hb); have n3_ := Aside0.mk (Kd.V_below (by (with_reducible repeat (first | apply Kd.V_alloc | apply Kd.V_drewN | apply Kd.V_drew)); exact HL779_2.out) hb); have n4_ := Aside0.mk (blk_below (g := gb770) (o := .cells #[.int .i64 t762, .int .i64 t763, .slice (some ad776) t764.length co10] 25 (0, 0)) (by (with_reducible repeat (first | refine blk_drewN ?_ _ | refine blk_drew ?_ | refine blk_alloc ?_ _)); exact BK770.out) hb); have n5_ := Aside0.mk (Kd.C_below (by repeat (first | (with_reducible exact HR776_2.out) | (with_reducible refine Kd.C_alloc ?_ _) | (with_reducible refine Kd.C_drewN ?_ _) | (with_reducible refine Kd.C_drew ?_) | exact HR776_2.out)) hb); have n6_ := Aside0.mk (Kd.C_below (by repeat (first | (with_reducible exact HR779_2.out) | (with_reducible refine Kd.C_alloc ?_ _) | (with_reducible refine Kd.C_drewN ?_ _) | (with_reducible refine Kd.C_drew ?_) | exact HR779_2.out)) hb); have n7_ := Aside0.mk (below_step (by repeat (first | (with_reducible first | exact HB.out | apply below_alloc | apply pw_below_drewN | apply below_drew1 | refine below_set ?_ GE770.out) | exact HB.out)) hb); clear HO_4; clear HO_771002; clear HL776_2; clear HL779_2; clear BK770; clear HR776_2; clear HR779_2; clear HB; have HO_4 := n0_; have HO_771002 := n1_; have HL776_2 := n2_; have HL779_2 := n3_; have BK770 := n4_; have HR776_2 := n5_; have HR779_2 := n6_; have HB := n7_; clear n0_ n1_ n2_ n3_ n4_ n5_ n6_ n7_; (try clear hb); (try clear hb2); (try clear hk); (try clear hi); have hcz40_0 : w39.cell? ⟨gb770, 0, none⟩ = some (.int .i64 t762) := (blk_cell BK770.out 0).trans rfl; have hcz40_1 : w39.cell? ⟨gb770, 1, none⟩ = some (.int .i64 t763) := (blk_cell BK770.out 1).trans rfl; have hcz40_2 : w39.cell? ⟨gb770, 2, none⟩ = some (.slice (some ad776) t764.length co10) := (blk_cell BK770.out 2).trans rfl; have hfz40_0 := blk_frozen BK770.out 0; have hfz40_1 := blk_frozen BK770.out 1; have hfz40_2 := blk_frozen BK770.out 2) | ((with_reducible refine gate_callee (f := 38) rfl ?_); refine goesL_ (some 85) rfl rfl Try.func38 (by kernel_rfl) rfl #[.int .i64 t762, .int .i64 t777, .int .i64 t780] rfl (by (try simp only [List.map_toArray, List.map_cons, List.map_nil]); first | done | rfl | (simp only [List.length_drop, List.length_take]; rfl)) ?_; (with_reducible refine (impl_Apply.calls t762 t777 t780 t782 false _ A27.out).mono ?_); rintro e w' ⟨rfl, ⟨nd, rfl⟩⟩; refine ⟨_, rfl, ?_⟩))
                      go_ret
                      exact ⟨by first | rfl | (simp [errW_none, errW_some] <;> rfl) | (simp [*, errW_none, errW_some] <;> rfl), by repeat (first | (with_reducible first | exact HB.out | apply below_alloc | apply pw_below_drewN | apply below_drew1 | refine below_set ?_ GE770.out) | exact HB.out)⟩
                  · replace c29 := Bool.eq_false_iff.mpr c29
                    subst c29
                    have H1 : (some false) = some r := by rw [if_neg (show ¬ (false = true) by decide)] at H; exact H
                    clear H
                    have H := H1
                    clear H1
                    obtain rfl := Option.some.inj H
                    have hcz41_0 : wc.cell? ⟨gb770, 0, none⟩ = some (.int .i64 t762) := (blk_cell BK770.out 0).trans rfl
                    have hcz41_1 : wc.cell? ⟨gb770, 1, none⟩ = some (.int .i64 t763) := (blk_cell BK770.out 1).trans rfl
                    have hcz41_2 : wc.cell? ⟨gb770, 2, none⟩ = some (.slice Ao10 t764.length co10) := (blk_cell BK770.out 2).trans rfl
                    have hfz41_0 := blk_frozen BK770.out 0
                    have hfz41_1 := blk_frozen BK770.out 1
                    have hfz41_2 := blk_frozen BK770.out 2
                    have p776 : 0 ≤ (0 : Int) := (by omega)
                    have q776 : 0 < (t764.length : Int) := of_decide_eq_true (by first | (with_reducible assumption) | assumption)
                    obtain ⟨ad776, A776_2, c776_2, e776, hx776_0, hx776_1, hx776_2, hl776_2, hi776_2⟩ := at_T25 (Kd.N_reads' HO_771002.out).2.2 0 p776 q776
                    cases e776
                    obtain ⟨ce776, hce776, hMe776, hcc776⟩ := Kd.N_get HO_771002.out z25 0 p776 (by first | exact q776 | exact of_decide_eq_true (by first | (with_reducible assumption) | assumption) | (have e_ := (Kd.N_reads' HO_771002.out).1; omega))
                    obtain ⟨ua776_2, uc776_2, rfl, ul776_2, ge776_2⟩ := k25_openF hMe776
                    have hv776_2 := hcc776 2 _ rfl
                    rw [add_field _ _ 2 (by omega)] at hv776_2
                    replace hv776_2 := Option.some.inj (hv776_2.symm.trans hx776_2)
                    injection hv776_2 with hva_ hvn_ hvc_
                    rw [hva_] at ge776_2
                    rw [hvc_] at ul776_2
                    have HL776_2 := Aside0.mk (show Kd.V k25 25 _ w.heap.size _ _ ((rd_T25 t764 0).f2) from Kd.V_mk ul776_2 ge776_2)
                    clear hva_ hvn_ hvc_ ge776_2 ul776_2
                    clear hcc776 hce776
                    have qi776 : (0 < t764.length) = True := eq_true (by omega)
                    (try rw [show ((0 : Int)).toNat = 0 from rfl] at hx776_0)
                    (try rw [show 0 * 3 = 0 from rfl] at hx776_0)
                    (try rw [Addr.add_zero'] at hx776_0)
                    (try rw [show ((0 : Int)).toNat = 0 from rfl] at hx776_1)
                    (try rw [show 0 * 3 = 0 from rfl] at hx776_1)
                    (try rw [Addr.add_zero'] at hx776_1)
                    (try rw [show ((0 : Int)).toNat = 0 from rfl] at hx776_2)
                    (try rw [show 0 * 3 = 0 from rfl] at hx776_2)
                    (try rw [Addr.add_zero'] at hx776_2)
                    have HR776_2 := Aside0.mk hi776_2
                    have HC776_2 := Aside0.mk hl776_2
                    clear hi776_2 hl776_2
                    replace p776 := eq_true p776
                    replace q776 := eq_true q776
                    go_wp2_with (first | ((with_reducible refine gate_callee (f := 24) rfl ?_); refine goesL_ (some 68) rfl rfl Try.func24 (by kernel_rfl) rfl #[.agg #[.int .i64 ((rd_T25 t764 0).f0), .int .i64 ((rd_T25 t764 0).f1), .slice A776_2 ((rd_T25 t764 0).f2).length c776_2], .slice Ao11 t767.length co11] rfl (by (try simp only [List.map_toArray, List.map_cons, List.map_nil]); first | done | rfl | (simp only [List.length_drop, List.length_take]; rfl)) ?_; (with_reducible refine (impl_ExprEval.calls kj5 ((rd_T25 t764 0).f0) ((rd_T25 t764 0).f1) _ _ ((rd_T25 t764 0).f2) _ _ t767 t777 true _ ?side1 ?side2 ?side3 ?side4 A24.out).mono ?_); (case side1 => repeat (first | exact (by repeat (first | (with_reducible exact HR776_2.out) | (with_reducible refine Kd.C_alloc ?_ _) | (with_reducible refine Kd.C_drewN ?_ _) | (with_reducible refine Kd.C_drew ?_) | exact HR776_2.out)) | (with_reducible refine Kd.C_alloc ?_ _) | (with_reducible refine Kd.C_drewN ?_ _) | (with_reducible refine Kd.C_drew ?_))); (case side2 => exact HC776_2.out); (case side3 => repeat (first | exact (Kd.R_reads' HO_4.out).2.2 | (with_reducible refine Kd.C_alloc ?_ _) | (with_reducible refine Kd.C_drewN ?_ _) | (with_reducible refine Kd.C_drew ?_))); (case side4 => exact (Kd.R_reads' HO_4.out).2.1); rintro e w42 ⟨rfl, hb⟩; refine ⟨_, rfl, ?_⟩; have n0_ := Aside0.mk (Kd.R_below (by (with_reducible repeat (first | apply Kd.R_alloc | apply Kd.R_drewN | apply Kd.R_drew)); exact HO_4.out) hb); have n1_ := Aside0.mk (Kd.N_below (by (with_reducible repeat (first | apply Kd.N_alloc | apply Kd.N_drewN | apply Kd.N_drew)); exact HO_771002.out) hb); have n2_ := Aside0.mk (Kd.V_below (by (with_reducible repeat (first | apply Kd.V_alloc | apply Kd.V_drewN | apply Kd.V_drew)); exact HL776_2.out) hb); have n3_ := Aside0.mk (blk_below (g := gb770) (o := .cells #[.int .i64 t762, .int .i64 t763, .slice (some ad776) t764.length co10] 25 (0, 0)) (by (with_reducible repeat (first | refine blk_drewN ?_ _ | refine blk_drew ?_ | refine blk_alloc ?_ _)); exact BK770.out) hb); have n4_ := Aside0.mk (Kd.C_below (by repeat (first | (with_reducible exact HR776_2.out) | (with_reducible refine Kd.C_alloc ?_ _) | (with_reducible refine Kd.C_drewN ?_ _) | (with_reducible refine Kd.C_drew ?_) | exact HR776_2.out)) hb); have n5_ := Aside0.mk (below_step (by repeat (first | (with_reducible first | exact HB.out | apply below_alloc | apply pw_below_drewN | apply below_drew1 | refine below_set ?_ GE770.out) | exact HB.out)) hb); clear HO_4; clear HO_771002; clear HL776_2; clear BK770; clear HR776_2; clear HB; have HO_4 := n0_; have HO_771002 := n1_; have HL776_2 := n2_; have BK770 := n3_; have HR776_2 := n4_; have HB := n5_; clear n0_ n1_ n2_ n3_ n4_ n5_; (try clear hb); (try clear hb2); (try clear hk); (try clear hi); have hcz43_0 : w42.cell? ⟨gb770, 0, none⟩ = some (.int .i64 t762) := (blk_cell BK770.out 0).trans rfl; have hcz43_1 : w42.cell? ⟨gb770, 1, none⟩ = some (.int .i64 t763) := (blk_cell BK770.out 1).trans rfl; have hcz43_2 : w42.cell? ⟨gb770, 2, none⟩ = some (.slice (some ad776) t764.length co10) := (blk_cell BK770.out 2).trans rfl; have hfz43_0 := blk_frozen BK770.out 0; have hfz43_1 := blk_frozen BK770.out 1; have hfz43_2 := blk_frozen BK770.out 2; have p779 : 0 ≤ (1 : Int) := (by omega); have q779 : 1 < (t764.length : Int) := of_decide_eq_true (by first | (with_reducible assumption) | assumption); obtain ⟨ad779, A779_2, c779_2, e779, hx779_0, hx779_1, hx779_2, hl779_2, hi779_2⟩ := at_T25 (Kd.N_reads' HO_771002.out).2.2 1 p779 q779; obtain rfl : ad776 = ad779 := (by injection e779); obtain ⟨ce779, hce779, hMe779, hcc779⟩ := Kd.N_get HO_771002.out z25 1 p779 (by first | exact q779 | exact of_decide_eq_true (by first | (with_reducible assumption) | assumption) | (have e_ := (Kd.N_reads' HO_771002.out).1; omega)); obtain ⟨ua779_2, uc779_2, rfl, ul779_2, ge779_2⟩ := k25_openF hMe779; have hv779_2 := hcc779 2 _ rfl; rw [add_field _ _ 2 (by omega)] at hv779_2; replace hv779_2 := Option.some.inj (hv779_2.symm.trans hx779_2); injection hv779_2 with hva_ hvn_ hvc_; rw [hva_] at ge779_2; rw [hvc_] at ul779_2; have HL779_2 := Aside0.mk (show Kd.V k25 25 _ w.heap.size _ _ ((rd_T25 t764 1).f2) from Kd.V_mk ul779_2 ge779_2); clear hva_ hvn_ hvc_ ge779_2 ul779_2; clear hcc779 hce779; (try simp only [show (1 : Int).toNat = 1 from rfl, Nat.reduceMul, Nat.reduceEqDiff, Go.Addr.add, ↓reduceIte] at hx779_0); (try simp only [show (1 : Int).toNat = 1 from rfl, Nat.reduceMul, Nat.reduceEqDiff, Go.Addr.add, ↓reduceIte] at hx779_1); (try simp only [show (1 : Int).toNat = 1 from rfl, Nat.reduceMul, Nat.reduceEqDiff, Go.Addr.add, ↓reduceIte] at hx779_2); have qi779 : (1 < t764.length) = True := eq_true (by omega); (try rw [show ((1 : Int)).toNat = 1 from rfl] at hx779_0); (try rw [show 1 * 3 = 3 from rfl] at hx779_0); (try rw [show ((1 : Int)).toNat = 1 from rfl] at hx779_1); (try rw [show 1 * 3 = 3 from rfl] at hx779_1); (try rw [show ((1 : Int)).toNat = 1 from rfl] at hx779_2); (try rw [show 1 * 3 = 3 from rfl] at hx779_2); have HR779_2 := Aside0.mk hi779_2; have HC779_2 := Aside0.mk hl779_2; clear hi779_2 hl779_2; replace p779 := eq_true p779; replace q779 := eq_true q779) | ((with_reducible refine gate_callee (f := 24) rfl ?_); refine goesL_ (some 77) rfl rfl Try.func24 (by kernel_rfl) rfl #[.agg #[.int .i64 ((rd_T25 t764 1).f0), .int .i64 ((rd_T25 t764 1).f1), .slice A779_2 ((rd_T25 t764 1).f2).length c779_2], .slice Ao11 t767.length co11] rfl (by (try simp only [List.map_toArray, List.map_cons, List.map_nil]); first | done | rfl | (simp only [List.length_drop, List.length_take]; rfl)) ?_; (with_reducible refine (impl_ExprEval.calls kj5 ((rd_T25 t764 1).f0) ((rd_T25 t764 1).f1) _ _ ((rd_T25 t764 1).f2) _ _ t767 t780 false _ ?side1 ?side2 ?side3 ?side4 A26.out).mono ?_); (case side1 => repeat (first | exact (by repeat (first | (with_reducible exact HR779_2.out) | (with_reducible refine Kd.C_alloc ?_ _) | (with_reducible refine Kd.C_drewN ?_ _) | (with_reducible refine Kd.C_drew ?_) | exact HR779_2.out)) | (with_reducible refine Kd.C_alloc ?_ _) | (with_reducible refine Kd.C_drewN ?_ _) | (with_reducible refine Kd.C_drew ?_))); (case side2 => exact HC779_2.out); (case side3 => repeat (first | exact (Kd.R_reads' HO_4.out).2.2 | (with_reducible refine Kd.C_alloc ?_ _) | (with_reducible refine Kd.C_drewN ?_ _) | (with_reducible refine Kd.C_drew ?_))); (case side4 => exact (Kd.R_reads' HO_4.out).2.1); rintro e w44 ⟨rfl, hb⟩; refine ⟨_, rfl, ?_⟩; have n0_ := Aside0.mk (Kd.R_below (by (with_reducible repeat (first | apply Kd.R_alloc | apply Kd.R_drewN | apply Kd.R_drew)); exact HO_4.out) hb); have n1_ := Aside0.mk (Kd.N_below (by (with_reducible repeat (first | apply Kd.N_alloc | apply Kd.N_drewN | apply Kd.N_drew)); exact HO_771002.out) hb); have n2_ := Aside0.mk (Kd.V_below (by (with_reducible repeat (first | apply Kd.V_alloc | apply Kd.V_drewN | apply Kd.V_drew)); exact HL776_2.out) hb); have n3_ := Aside0.mk (Kd.V_below (by (with_reducible repeat (first | apply Kd.V_alloc | apply Kd.V_drewN | apply Kd.V_drew)); exact HL779_2.out) hb); have n4_ := Aside0.mk (blk_below (g := gb770) (o := .cells #[.int .i64 t762, .int .i64 t763, .slice (some ad776) t764.length co10] 25 (0, 0)) (by (with_reducible repeat (first | refine blk_drewN ?_ _ | refine blk_drew ?_ | refine blk_alloc ?_ _)); exact BK770.out) hb); have n5_ := Aside0.mk (Kd.C_below (by repeat (first | (with_reducible exact HR776_2.out) | (with_reducible refine Kd.C_alloc ?_ _) | (with_reducible refine Kd.C_drewN ?_ _) | (with_reducible refine Kd.C_drew ?_) | exact HR776_2.out)) hb); have n6_ := Aside0.mk (Kd.C_below (by repeat (first | (with_reducible exact HR779_2.out) | (with_reducible refine Kd.C_alloc ?_ _) | (with_reducible refine Kd.C_drewN ?_ _) | (with_reducible refine Kd.C_drew ?_) | exact HR779_2.out)) hb); have n7_ := Aside0.mk (below_step (by repeat (first | (with_reducible first | exact HB.out | apply below_alloc | apply pw_below_drewN | apply below_drew1 | refine below_set ?_ GE770.out) | exact HB.out)) hb); clear HO_4; clear HO_771002; clear HL776_2; clear HL779_2; clear BK770; clear HR776_2; clear HR779_2; clear HB; have HO_4 := n0_; have HO_771002 := n1_; have HL776_2 := n2_; have HL779_2 := n3_; have BK770 := n4_; have HR776_2 := n5_; have HR779_2 := n6_; have HB := n7_; clear n0_ n1_ n2_ n3_ n4_ n5_ n6_ n7_; (try clear hb); (try clear hb2); (try clear hk); (try clear hi); have hcz45_0 : w44.cell? ⟨gb770, 0, none⟩ = some (.int .i64 t762) := (blk_cell BK770.out 0).trans rfl; have hcz45_1 : w44.cell? ⟨gb770, 1, none⟩ = some (.int .i64 t763) := (blk_cell BK770.out 1).trans rfl; have hcz45_2 : w44.cell? ⟨gb770, 2, none⟩ = some (.slice (some ad776) t764.length co10) := (blk_cell BK770.out 2).trans rfl; have hfz45_0 := blk_frozen BK770.out 0; have hfz45_1 := blk_frozen BK770.out 1; have hfz45_2 := blk_frozen BK770.out 2) | ((with_reducible refine gate_callee (f := 38) rfl ?_); refine goesL_ (some 85) rfl rfl Try.func38 (by kernel_rfl) rfl #[.int .i64 t762, .int .i64 t777, .int .i64 t780] rfl (by (try simp only [List.map_toArray, List.map_cons, List.map_nil]); first | done | rfl | (simp only [List.length_drop, List.length_take]; rfl)) ?_; (with_reducible refine (impl_Apply.calls t762 t777 t780 t782 t783 _ A27.out).mono ?_); rintro e w' ⟨rfl, ⟨nd, rfl⟩⟩; refine ⟨_, rfl, ?_⟩))
                    go_ret
                    exact ⟨by first | rfl | (simp [errW_none, errW_some] <;> rfl) | (simp [*, errW_none, errW_some] <;> rfl), by repeat (first | (with_reducible first | exact HB.out | apply below_alloc | apply pw_below_drewN | apply below_drew1 | refine below_set ?_ GE770.out) | exact HB.out)⟩
                · replace c28 := Bool.eq_false_iff.mpr c28
                  subst c28
                  have H1 : (some false) = some r := by rw [if_neg (show ¬ (false = true) by decide)] at H; exact H
                  clear H
                  have H := H1
                  clear H1
                  obtain rfl := Option.some.inj H
                  have hcz46_0 : wc.cell? ⟨gb770, 0, none⟩ = some (.int .i64 t762) := (blk_cell BK770.out 0).trans rfl
                  have hcz46_1 : wc.cell? ⟨gb770, 1, none⟩ = some (.int .i64 t763) := (blk_cell BK770.out 1).trans rfl
                  have hcz46_2 : wc.cell? ⟨gb770, 2, none⟩ = some (.slice Ao10 t764.length co10) := (blk_cell BK770.out 2).trans rfl
                  have hfz46_0 := blk_frozen BK770.out 0
                  have hfz46_1 := blk_frozen BK770.out 1
                  have hfz46_2 := blk_frozen BK770.out 2
                  have p776 : 0 ≤ (0 : Int) := (by omega)
                  have q776 : 0 < (t764.length : Int) := of_decide_eq_true (by first | (with_reducible assumption) | assumption)
                  obtain ⟨ad776, A776_2, c776_2, e776, hx776_0, hx776_1, hx776_2, hl776_2, hi776_2⟩ := at_T25 (Kd.N_reads' HO_771002.out).2.2 0 p776 q776
                  cases e776
                  obtain ⟨ce776, hce776, hMe776, hcc776⟩ := Kd.N_get HO_771002.out z25 0 p776 (by first | exact q776 | exact of_decide_eq_true (by first | (with_reducible assumption) | assumption) | (have e_ := (Kd.N_reads' HO_771002.out).1; omega))
                  obtain ⟨ua776_2, uc776_2, rfl, ul776_2, ge776_2⟩ := k25_openF hMe776
                  have hv776_2 := hcc776 2 _ rfl
                  rw [add_field _ _ 2 (by omega)] at hv776_2
                  replace hv776_2 := Option.some.inj (hv776_2.symm.trans hx776_2)
                  injection hv776_2 with hva_ hvn_ hvc_
                  rw [hva_] at ge776_2
                  rw [hvc_] at ul776_2
                  have HL776_2 := Aside0.mk (show Kd.V k25 25 _ w.heap.size _ _ ((rd_T25 t764 0).f2) from Kd.V_mk ul776_2 ge776_2)
                  clear hva_ hvn_ hvc_ ge776_2 ul776_2
                  clear hcc776 hce776
                  have qi776 : (0 < t764.length) = True := eq_true (by omega)
                  (try rw [show ((0 : Int)).toNat = 0 from rfl] at hx776_0)
                  (try rw [show 0 * 3 = 0 from rfl] at hx776_0)
                  (try rw [Addr.add_zero'] at hx776_0)
                  (try rw [show ((0 : Int)).toNat = 0 from rfl] at hx776_1)
                  (try rw [show 0 * 3 = 0 from rfl] at hx776_1)
                  (try rw [Addr.add_zero'] at hx776_1)
                  (try rw [show ((0 : Int)).toNat = 0 from rfl] at hx776_2)
                  (try rw [show 0 * 3 = 0 from rfl] at hx776_2)
                  (try rw [Addr.add_zero'] at hx776_2)
                  have HR776_2 := Aside0.mk hi776_2
                  have HC776_2 := Aside0.mk hl776_2
                  clear hi776_2 hl776_2
                  replace p776 := eq_true p776
                  replace q776 := eq_true q776
                  go_wp2_with (first | ((with_reducible refine gate_callee (f := 24) rfl ?_); refine goesL_ (some 68) rfl rfl Try.func24 (by kernel_rfl) rfl #[.agg #[.int .i64 ((rd_T25 t764 0).f0), .int .i64 ((rd_T25 t764 0).f1), .slice A776_2 ((rd_T25 t764 0).f2).length c776_2], .slice Ao11 t767.length co11] rfl (by (try simp only [List.map_toArray, List.map_cons, List.map_nil]); first | done | rfl | (simp only [List.length_drop, List.length_take]; rfl)) ?_; (with_reducible refine (impl_ExprEval.calls kj5 ((rd_T25 t764 0).f0) ((rd_T25 t764 0).f1) _ _ ((rd_T25 t764 0).f2) _ _ t767 t777 false _ ?side1 ?side2 ?side3 ?side4 A24.out).mono ?_); (case side1 => repeat (first | exact (by repeat (first | (with_reducible exact HR776_2.out) | (with_reducible refine Kd.C_alloc ?_ _) | (with_reducible refine Kd.C_drewN ?_ _) | (with_reducible refine Kd.C_drew ?_) | exact HR776_2.out)) | (with_reducible refine Kd.C_alloc ?_ _) | (with_reducible refine Kd.C_drewN ?_ _) | (with_reducible refine Kd.C_drew ?_))); (case side2 => exact HC776_2.out); (case side3 => repeat (first | exact (Kd.R_reads' HO_4.out).2.2 | (with_reducible refine Kd.C_alloc ?_ _) | (with_reducible refine Kd.C_drewN ?_ _) | (with_reducible refine Kd.C_drew ?_))); (case side4 => exact (Kd.R_reads' HO_4.out).2.1); rintro e w47 ⟨rfl, hb⟩; refine ⟨_, rfl, ?_⟩; have n0_ := Aside0.mk (Kd.R_below (by (with_reducible repeat (first | apply Kd.R_alloc | apply Kd.R_drewN | apply Kd.R_drew)); exact HO_4.out) hb); have n1_ := Aside0.mk (Kd.N_below (by (with_reducible repeat (first | apply Kd.N_alloc | apply Kd.N_drewN | apply Kd.N_drew)); exact HO_771002.out) hb); have n2_ := Aside0.mk (Kd.V_below (by (with_reducible repeat (first | apply Kd.V_alloc | apply Kd.V_drewN | apply Kd.V_drew)); exact HL776_2.out) hb); have n3_ := Aside0.mk (blk_below (g := gb770) (o := .cells #[.int .i64 t762, .int .i64 t763, .slice (some ad776) t764.length co10] 25 (0, 0)) (by (with_reducible repeat (first | refine blk_drewN ?_ _ | refine blk_drew ?_ | refine blk_alloc ?_ _)); exact BK770.out) hb); have n4_ := Aside0.mk (Kd.C_below (by repeat (first | (with_reducible exact HR776_2.out) | (with_reducible refine Kd.C_alloc ?_ _) | (with_reducible refine Kd.C_drewN ?_ _) | (with_reducible refine Kd.C_drew ?_) | exact HR776_2.out)) hb); have n5_ := Aside0.mk (below_step (by repeat (first | (with_reducible first | exact HB.out | apply below_alloc | apply pw_below_drewN | apply below_drew1 | refine below_set ?_ GE770.out) | exact HB.out)) hb); clear HO_4; clear HO_771002; clear HL776_2; clear BK770; clear HR776_2; clear HB; have HO_4 := n0_; have HO_771002 := n1_; have HL776_2 := n2_; have BK770 := n3_; have HR776_2 := n4_; have HB := n5_; clear n0_ n1_ n2_ n3_ n4_ n5_; (try clear hb); (try clear hb2); (try clear hk); (try clear hi); have hcz48_0 : w47.cell? ⟨gb770, 0, none⟩ = some (.int .i64 t762) := (blk_cell BK770.out 0).trans rfl; have hcz48_1 : w47.cell? ⟨gb770, 1, none⟩ = some (.int .i64 t763) := (blk_cell BK770.out 1).trans rfl; have hcz48_2 : w47.cell? ⟨gb770, 2, none⟩ = some (.slice (some ad776) t764.length co10) := (blk_cell BK770.out 2).trans rfl; have hfz48_0 := blk_frozen BK770.out 0; have hfz48_1 := blk_frozen BK770.out 1; have hfz48_2 := blk_frozen BK770.out 2; have p779 : 0 ≤ (1 : Int) := (by omega); have q779 : 1 < (t764.length : Int) := of_decide_eq_true (by first | (with_reducible assumption) | assumption); obtain ⟨ad779, A779_2, c779_2, e779, hx779_0, hx779_1, hx779_2, hl779_2, hi779_2⟩ := at_T25 (Kd.N_reads' HO_771002.out).2.2 1 p779 q779; obtain rfl : ad776 = ad779 := (by injection e779); obtain ⟨ce779, hce779, hMe779, hcc779⟩ := Kd.N_get HO_771002.out z25 1 p779 (by first | exact q779 | exact of_decide_eq_true (by first | (with_reducible assumption) | assumption) | (have e_ := (Kd.N_reads' HO_771002.out).1; omega)); obtain ⟨ua779_2, uc779_2, rfl, ul779_2, ge779_2⟩ := k25_openF hMe779; have hv779_2 := hcc779 2 _ rfl; rw [add_field _ _ 2 (by omega)] at hv779_2; replace hv779_2 := Option.some.inj (hv779_2.symm.trans hx779_2); injection hv779_2 with hva_ hvn_ hvc_; rw [hva_] at ge779_2; rw [hvc_] at ul779_2; have HL779_2 := Aside0.mk (show Kd.V k25 25 _ w.heap.size _ _ ((rd_T25 t764 1).f2) from Kd.V_mk ul779_2 ge779_2); clear hva_ hvn_ hvc_ ge779_2 ul779_2; clear hcc779 hce779; (try simp only [show (1 : Int).toNat = 1 from rfl, Nat.reduceMul, Nat.reduceEqDiff, Go.Addr.add, ↓reduceIte] at hx779_0); (try simp only [show (1 : Int).toNat = 1 from rfl, Nat.reduceMul, Nat.reduceEqDiff, Go.Addr.add, ↓reduceIte] at hx779_1); (try simp only [show (1 : Int).toNat = 1 from rfl, Nat.reduceMul, Nat.reduceEqDiff, Go.Addr.add, ↓reduceIte] at hx779_2); have qi779 : (1 < t764.length) = True := eq_true (by omega); (try rw [show ((1 : Int)).toNat = 1 from rfl] at hx779_0); (try rw [show 1 * 3 = 3 from rfl] at hx779_0); (try rw [show ((1 : Int)).toNat = 1 from rfl] at hx779_1); (try rw [show 1 * 3 = 3 from rfl] at hx779_1); (try rw [show ((1 : Int)).toNat = 1 from rfl] at hx779_2); (try rw [show 1 * 3 = 3 from rfl] at hx779_2); have HR779_2 := Aside0.mk hi779_2; have HC779_2 := Aside0.mk hl779_2; clear hi779_2 hl779_2; replace p779 := eq_true p779; replace q779 := eq_true q779) | ((with_reducible refine gate_callee (f := 24) rfl ?_); refine goesL_ (some 77) rfl rfl Try.func24 (by kernel_rfl) rfl #[.agg #[.int .i64 ((rd_T25 t764 1).f0), .int .i64 ((rd_T25 t764 1).f1), .slice A779_2 ((rd_T25 t764 1).f2).length c779_2], .slice Ao11 t767.length co11] rfl (by (try simp only [List.map_toArray, List.map_cons, List.map_nil]); first | done | rfl | (simp only [List.length_drop, List.length_take]; rfl)) ?_; (with_reducible refine (impl_ExprEval.calls kj5 ((rd_T25 t764 1).f0) ((rd_T25 t764 1).f1) _ _ ((rd_T25 t764 1).f2) _ _ t767 t780 t781 _ ?side1 ?side2 ?side3 ?side4 A26.out).mono ?_); (case side1 => repeat (first | exact (by repeat (first | (with_reducible exact HR779_2.out) | (with_reducible refine Kd.C_alloc ?_ _) | (with_reducible refine Kd.C_drewN ?_ _) | (with_reducible refine Kd.C_drew ?_) | exact HR779_2.out)) | (with_reducible refine Kd.C_alloc ?_ _) | (with_reducible refine Kd.C_drewN ?_ _) | (with_reducible refine Kd.C_drew ?_))); (case side2 => exact HC779_2.out); (case side3 => repeat (first | exact (Kd.R_reads' HO_4.out).2.2 | (with_reducible refine Kd.C_alloc ?_ _) | (with_reducible refine Kd.C_drewN ?_ _) | (with_reducible refine Kd.C_drew ?_))); (case side4 => exact (Kd.R_reads' HO_4.out).2.1); rintro e w49 ⟨rfl, hb⟩; refine ⟨_, rfl, ?_⟩; have n0_ := Aside0.mk (Kd.R_below (by (with_reducible repeat (first | apply Kd.R_alloc | apply Kd.R_drewN | apply Kd.R_drew)); exact HO_4.out) hb); have n1_ := Aside0.mk (Kd.N_below (by (with_reducible repeat (first | apply Kd.N_alloc | apply Kd.N_drewN | apply Kd.N_drew)); exact HO_771002.out) hb); have n2_ := Aside0.mk (Kd.V_below (by (with_reducible repeat (first | apply Kd.V_alloc | apply Kd.V_drewN | apply Kd.V_drew)); exact HL776_2.out) hb); have n3_ := Aside0.mk (Kd.V_below (by (with_reducible repeat (first | apply Kd.V_alloc | apply Kd.V_drewN | apply Kd.V_drew)); exact HL779_2.out) hb); have n4_ := Aside0.mk (blk_below (g := gb770) (o := .cells #[.int .i64 t762, .int .i64 t763, .slice (some ad776) t764.length co10] 25 (0, 0)) (by (with_reducible repeat (first | refine blk_drewN ?_ _ | refine blk_drew ?_ | refine blk_alloc ?_ _)); exact BK770.out) hb); have n5_ := Aside0.mk (Kd.C_below (by repeat (first | (with_reducible exact HR776_2.out) | (with_reducible refine Kd.C_alloc ?_ _) | (with_reducible refine Kd.C_drewN ?_ _) | (with_reducible refine Kd.C_drew ?_) | exact HR776_2.out)) hb); have n6_ := Aside0.mk (Kd.C_below (by repeat (first | (with_reducible exact HR779_2.out) | (with_reducible refine Kd.C_alloc ?_ _) | (with_reducible refine Kd.C_drewN ?_ _) | (with_reducible refine Kd.C_drew ?_) | exact HR779_2.out)) hb); have n7_ := Aside0.mk (below_step (by repeat (first | (with_reducible first | exact HB.out | apply below_alloc | apply pw_below_drewN | apply below_drew1 | refine below_set ?_ GE770.out) | exact HB.out)) hb); clear HO_4; clear HO_771002; clear HL776_2; clear HL779_2; clear BK770; clear HR776_2; clear HR779_2; clear HB; have HO_4 := n0_; have HO_771002 := n1_; have HL776_2 := n2_; have HL779_2 := n3_; have BK770 := n4_; have HR776_2 := n5_; have HR779_2 := n6_; have HB := n7_; clear n0_ n1_ n2_ n3_ n4_ n5_ n6_ n7_; (try clear hb); (try clear hb2); (try clear hk); (try clear hi); have hcz50_0 : w49.cell? ⟨gb770, 0, none⟩ = some (.int .i64 t762) := (blk_cell BK770.out 0).trans rfl; have hcz50_1 : w49.cell? ⟨gb770, 1, none⟩ = some (.int .i64 t763) := (blk_cell BK770.out 1).trans rfl; have hcz50_2 : w49.cell? ⟨gb770, 2, none⟩ = some (.slice (some ad776) t764.length co10) := (blk_cell BK770.out 2).trans rfl; have hfz50_0 := blk_frozen BK770.out 0; have hfz50_1 := blk_frozen BK770.out 1; have hfz50_2 := blk_frozen BK770.out 2) | ((with_reducible refine gate_callee (f := 38) rfl ?_); refine goesL_ (some 85) rfl rfl Try.func38 (by kernel_rfl) rfl #[.int .i64 t762, .int .i64 t777, .int .i64 t780] rfl (by (try simp only [List.map_toArray, List.map_cons, List.map_nil]); first | done | rfl | (simp only [List.length_drop, List.length_take]; rfl)) ?_; (with_reducible refine (impl_Apply.calls t762 t777 t780 t782 t783 _ A27.out).mono ?_); rintro e w' ⟨rfl, ⟨nd, rfl⟩⟩; refine ⟨_, rfl, ?_⟩))
                  go_ret
                  exact ⟨by first | rfl | (simp [errW_none, errW_some] <;> rfl) | (simp [*, errW_none, errW_some] <;> rfl), by repeat (first | (with_reducible first | exact HB.out | apply below_alloc | apply pw_below_drewN | apply below_drew1 | refine below_set ?_ GE770.out) | exact HB.out)⟩
              · rw [if_neg c25] at H
                exact absurd H (by simp)
            · rw [if_neg c23] at H
              exact absurd H (by simp)

/-- THE ONE PURE STATEMENT of laws_FnEvalApply: yours. -/
def laws_FnEvalApply.Pure : Prop := ∀ (l0 : List Int), l0.length ≤ maxLen → l0.length * 1 ≤ 140737488351232 → (∀ x ∈ l0, (Lit.int .u8 x).wf = true) → ∃ k, laws_FnEvalApply.f k l0 = some true
theorem laws_FnEvalApply.walk (P : laws_FnEvalApply.Pure) (a0 : Option Addr) (len0 cap0 : Nat) (z0 : List Int) (w : World) (w0 : (a0 = none ∧ len0 = 0 ∧ cap0 = 0 ∧ z0 = []) ∨ ∃ x, a0 = some x ∧ len0 ≤ cap0 ∧ cap0 ≤ maxLen ∧ z0.length = cap0 ∧ (∀ i, i < z0.length → w.cell? (x.add i) = some (.int .u8 (z0.getD i 0))) ∧ ∀ n ∈ z0, (Lit.int .u8 n).wf = true) (y0 : len0 * 1 ≤ 140737488351232) :
    Calls Try.prog 11 #[.slice a0 len0 cap0] w fun e w' => e = .returned (.bool true) ∧ Below w.heap.size w w' := by
  obtain ⟨l0, rfl, hr0, hm0, hw0, hc0⟩ := ReadsInt.ofRowC w0
  obtain ⟨k, h⟩ := P l0 hm0 y0 hw0
  refine (laws_FnEvalApply.calls k _ _ l0 true w (Kd.C_of_reads (d := (0 : Int)) (h1 := fun _ => rfl) hr0) hc0 h).mono ?_
  rintro e w' ⟨rfl, hd⟩
  exact ⟨rfl, hd⟩

end Go.Proofs.Ytajifknepdikbaa.PA

-- made by a program of this session (wip/myprint.py over the kit's print)
import Derived.Test.YtiakpoamjiodoaaV
import Derived.Test.YtiakpoamjiodoaaPAx0
import Derived.Test.YtiakpoamjiodoaaPAx1
import Derived.Test.YtiakpoamjiodoaaPAx24
import Derived.Test.YtiakpoamjiodoaaPAx29
import Derived.Test.YtiakpoamjiodoaaPAx31
import Derived.Test.YtiakpoamjiodoaaPAx50
import Derived.Test.YtiakpoamjiodoaaPAx51
import Derived.Test.YtiakpoamjiodoaaPAx52
import Derived.Test.YtiakpoamjiodoaaPAx53
namespace Go.Proofs.Ytiakpoamjiodoaa.PA
open Go.RowKit Go.Proofs.YtiakpoamjiodoaaW.PrintWords Go.Proofs.YtiakpoamjiodoaaW.PrintLast Go.Proofs.YtiakpoamjiodoaaW.PrintMore
attribute [local go_sem] max2_int min2_int max_two min_two max_three min_three max_four min_four   -- for this text's walks alone
set_option linter.unusedVariables false
set_option linter.unusedSimpArgs false

/-! ### laws_FnExactBoxPut: function 10 -/
theorem laws_FnExactBoxPut.mono_l : ∀ k, (∀ y0 y1 y2 y3 y4 y5 y6 y7 y8 y9 y10 y11, LeO (laws_FnExactBoxPut.j0 k y0 y1 y2 y3 y4 y5 y6 y7 y8 y9 y10 y11) (laws_FnExactBoxPut.j0 (k + 1) y0 y1 y2 y3 y4 y5 y6 y7 y8 y9 y10 y11)) ∧ (∀ y0 y1 y2 y3 y4 y5 y6 y7 y8, LeO (laws_FnExactBoxPut.j1 k y0 y1 y2 y3 y4 y5 y6 y7 y8) (laws_FnExactBoxPut.j1 (k + 1) y0 y1 y2 y3 y4 y5 y6 y7 y8)) ∧ (∀ y0 y1 y2 y3, LeO (laws_FnExactBoxPut.j2 k y0 y1 y2 y3) (laws_FnExactBoxPut.j2 (k + 1) y0 y1 y2 y3))
  | 0 => ⟨fun _ _ _ _ _ _ _ _ _ _ _ _ r h => by simp [laws_FnExactBoxPut.j0] at h, fun _ _ _ _ _ _ _ _ _ r h => by simp [laws_FnExactBoxPut.j1] at h, fun _ _ _ _ r h => by simp [laws_FnExactBoxPut.j2] at h⟩
  | k + 1 => by
    obtain ⟨ih0, ih1, ih2⟩ := laws_FnExactBoxPut.mono_l k
    refine ⟨?_, ?_, ?_⟩
    · intro y0 y1 y2 y3 y4 y5 y6 y7 y8 y9 y10 y11
      unfold laws_FnExactBoxPut.j0
      repeat' first
      | (with_reducible exact ih0 _ _ _ _ _ _ _ _ _ _ _ _)
      | (with_reducible exact ih1 _ _ _ _ _ _ _ _ _)
      | (with_reducible exact ih2 _ _ _ _)
      | (with_reducible exact impl_BoxPut.mono _ _ _ _)
      | (with_reducible exact laws_eqBox.mono _ _ _ _ _)
      | (with_reducible exact laws_heldBox.mono _ _ _ _)
      | (with_reducible exact laws_markBox.mono _ _ _ _)
      | (with_reducible exact laws_toBox.mono _ _ _)
      | (with_reducible exact spec_BoxPut.mono _ _ _ _)
      | (with_reducible exact LeO.refl _)
      | (with_reducible exact LeO.none _)
      | (with_reducible refine LeO.ite ?_ ?_)
      | (with_reducible refine LeO.bind ?_ (fun _ => ?_))
      | exact ih0 _ _ _ _ _ _ _ _ _ _ _ _
      | exact ih1 _ _ _ _ _ _ _ _ _
      | exact ih2 _ _ _ _
      | exact impl_BoxPut.mono _ _ _ _
      | exact laws_eqBox.mono _ _ _ _ _
      | exact laws_heldBox.mono _ _ _ _
      | exact laws_markBox.mono _ _ _ _
      | exact laws_toBox.mono _ _ _
      | exact spec_BoxPut.mono _ _ _ _
      | exact LeO.none _
      | refine LeO.ite ?_ ?_
      | refine LeO.bind ?_ (fun _ => ?_)
    · intro y0 y1 y2 y3 y4 y5 y6 y7 y8
      unfold laws_FnExactBoxPut.j1
      repeat' first
      | (with_reducible exact ih0 _ _ _ _ _ _ _ _ _ _ _ _)
      | (with_reducible exact ih1 _ _ _ _ _ _ _ _ _)
      | (with_reducible exact ih2 _ _ _ _)
      | (with_reducible exact impl_BoxPut.mono _ _ _ _)
      | (with_reducible exact laws_eqBox.mono _ _ _ _ _)
      | (with_reducible exact laws_heldBox.mono _ _ _ _)
      | (with_reducible exact laws_markBox.mono _ _ _ _)
      | (with_reducible exact laws_toBox.mono _ _ _)
      | (with_reducible exact spec_BoxPut.mono _ _ _ _)
      | (with_reducible exact LeO.refl _)
      | (with_reducible exact LeO.none _)
      | (with_reducible refine LeO.ite ?_ ?_)
      | (with_reducible refine LeO.bind ?_ (fun _ => ?_))
      | exact ih0 _ _ _ _ _ _ _ _ _ _ _ _
      | exact ih1 _ _ _ _ _ _ _ _ _
      | exact ih2 _ _ _ _
      | exact impl_BoxPut.mono _ _ _ _
      | exact laws_eqBox.mono _ _ _ _ _
      | exact laws_heldBox.mono _ _ _ _
      | exact laws_markBox.mono _ _ _ _
      | exact laws_toBox.mono _ _ _
      | exact spec_BoxPut.mono _ _ _ _
      | exact LeO.none _
      | refine LeO.ite ?_ ?_
      | refine LeO.bind ?_ (fun _ => ?_)
    · intro y0 y1 y2 y3
      unfold laws_FnExactBoxPut.j2
      repeat' first
      | (with_reducible exact ih0 _ _ _ _ _ _ _ _ _ _ _ _)
      | (with_reducible exact ih1 _ _ _ _ _ _ _ _ _)
      | (with_reducible exact ih2 _ _ _ _)
      | (with_reducible exact impl_BoxPut.mono _ _ _ _)
      | (with_reducible exact laws_eqBox.mono _ _ _ _ _)
      | (with_reducible exact laws_heldBox.mono _ _ _ _)
      | (with_reducible exact laws_markBox.mono _ _ _ _)
      | (with_reducible exact laws_toBox.mono _ _ _)
      | (with_reducible exact spec_BoxPut.mono _ _ _ _)
      | (with_reducible exact LeO.refl _)
      | (with_reducible exact LeO.none _)
      | (with_reducible refine LeO.ite ?_ ?_)
      | (with_reducible refine LeO.bind ?_ (fun _ => ?_))
      | exact ih0 _ _ _ _ _ _ _ _ _ _ _ _
      | exact ih1 _ _ _ _ _ _ _ _ _
      | exact ih2 _ _ _ _
      | exact impl_BoxPut.mono _ _ _ _
      | exact laws_eqBox.mono _ _ _ _ _
      | exact laws_heldBox.mono _ _ _ _
      | exact laws_markBox.mono _ _ _ _
      | exact laws_toBox.mono _ _ _
      | exact spec_BoxPut.mono _ _ _ _
      | exact LeO.none _
      | refine LeO.ite ?_ ?_
      | refine LeO.bind ?_ (fun _ => ?_)
theorem laws_FnExactBoxPut.mono : ∀ a0 a1 a2 k, LeO (laws_FnExactBoxPut.f k a0 a1 a2) (laws_FnExactBoxPut.f (k + 1) a0 a1 a2) := by
  intro a0 a1 a2 k
  obtain ⟨ih0, ih1, ih2⟩ := laws_FnExactBoxPut.mono_l k
  unfold laws_FnExactBoxPut.f
  repeat' first
      | (with_reducible exact ih0 _ _ _ _ _ _ _ _ _ _ _ _)
      | (with_reducible exact ih1 _ _ _ _ _ _ _ _ _)
      | (with_reducible exact ih2 _ _ _ _)
      | (with_reducible exact impl_BoxPut.mono _ _ _ _)
      | (with_reducible exact laws_eqBox.mono _ _ _ _ _)
      | (with_reducible exact laws_heldBox.mono _ _ _ _)
      | (with_reducible exact laws_markBox.mono _ _ _ _)
      | (with_reducible exact laws_toBox.mono _ _ _)
      | (with_reducible exact spec_BoxPut.mono _ _ _ _)
      | (with_reducible exact LeO.refl _)
      | (with_reducible exact LeO.none _)
      | (with_reducible refine LeO.ite ?_ ?_)
      | (with_reducible refine LeO.bind ?_ (fun _ => ?_))
      | exact ih0 _ _ _ _ _ _ _ _ _ _ _ _
      | exact ih1 _ _ _ _ _ _ _ _ _
      | exact ih2 _ _ _ _
      | exact impl_BoxPut.mono _ _ _ _
      | exact laws_eqBox.mono _ _ _ _ _
      | exact laws_heldBox.mono _ _ _ _
      | exact laws_markBox.mono _ _ _ _
      | exact laws_toBox.mono _ _ _
      | exact spec_BoxPut.mono _ _ _ _
      | exact LeO.none _
      | refine LeO.ite ?_ ?_
      | refine LeO.bind ?_ (fun _ => ?_)
set_option maxHeartbeats 8000000 in
set_option maxRecDepth 100000 in
theorem laws_FnExactBoxPut.calls (k : Nat) (a0_0 : Int) (A0_1 : Option Addr) (c0_1 : Nat) (l0_1 : List Int) (a1 : Int) (r : Bool) (w : World) (hr0_1 : Kd.C (Kd.int .i64) w A0_1 l0_1.length l0_1) (hc0_1 : l0_1.length ≤ c0_1) (h : laws_FnExactBoxPut.f k a0_0 l0_1 a1 = some r) :
    Calls Try.prog 10 #[.agg #[.int .i64 a0_0, .slice A0_1 l0_1.length c0_1], .int .i64 a1] w fun e w' => e = .returned (.bool r) ∧ Below w.heap.size w w' := by
  have hu39 := Try.underlying39
  have hu33 := Try.underlying33
  have HR0_1 := Aside0.mk hr0_1
  have HC0_1 := Aside0.mk hc0_1
  clear hr0_1 hc0_1
  have HB := Aside0.mk (Below.refl w.heap.size w)
  have H : ((laws_szBox.f a0_0 l0_1 1048576).bind fun t549 => (if t549 < 0 then (some true) else ((laws_toBox.f k a0_0 l0_1).bind fun bt550 => ((spec_BoxPut.f k bt550.1 bt550.2 a1).bind fun bt554 => ((laws_toBox.f k a0_0 l0_1).bind fun bt560 => ((impl_BoxPut.f k bt560.1 bt560.2 a1).bind fun bt565 => ((laws_eqBox.f k bt565.1 bt565.2.1 bt554.1 bt554.2.1).bind fun t571 => (if t571 = true then (laws_FnExactBoxPut.j0 k a1 bt554.2.2 bt565.2.2 (bt565.2.2 != bt554.2.2) a0_0 l0_1 bt554.1 bt554.2.1 bt560.1 bt560.2 bt565.1 bt565.2.1) else (laws_FnExactBoxPut.j0 k a1 bt554.2.2 bt565.2.2 true a0_0 l0_1 bt554.1 bt554.2.1 bt560.1 bt560.2 bt565.1 bt565.2.1))))))))) = some r := h
  clear h
  replace H := Option.bind_eq_some_iff.mp H
  obtain ⟨t549, A30, H⟩ := H
  replace H : (if t549 < 0 then (some true) else ((laws_toBox.f k a0_0 l0_1).bind fun bt550 => ((spec_BoxPut.f k bt550.1 bt550.2 a1).bind fun bt554 => ((laws_toBox.f k a0_0 l0_1).bind fun bt560 => ((impl_BoxPut.f k bt560.1 bt560.2 a1).bind fun bt565 => ((laws_eqBox.f k bt565.1 bt565.2.1 bt554.1 bt554.2.1).bind fun t571 => (if t571 = true then (laws_FnExactBoxPut.j0 k a1 bt554.2.2 bt565.2.2 (bt565.2.2 != bt554.2.2) a0_0 l0_1 bt554.1 bt554.2.1 bt560.1 bt560.2 bt565.1 bt565.2.1) else (laws_FnExactBoxPut.j0 k a1 bt554.2.2 bt565.2.2 true a0_0 l0_1 bt554.1 bt554.2.1 bt560.1 bt560.2 bt565.1 bt565.2.1)))))))) = some r := H
  have A3 := Aside0.mk A30
  clear A30
  by_cases c4 : t549 < 0
  · rw [if_pos c4] at H
    have c4b0 : decide (t549 < 0) = true := decide_eq_true c4
    clear c4
    obtain rfl := Option.some.inj H
    go_enter Try.func10, Try.ntmps10
    go_wp2_with (first | ((with_reducible refine gate_dst (N := 2) rfl ?_); refine box_event ?hg (N := 2) ?hd (cs := #[.int .i64 a0_0, .slice A0_1 l0_1.length c0_1]) (t := 39) ?hr ?_; (case hd => rfl); (case hg => rfl); (case hr => first | (go_simp; done) | (go_simp; rfl)); intro gb548 hg w5 hbox hb; have n0_ := Aside0.mk (below_step (by repeat (first | (with_reducible first | exact HB.out | apply below_alloc | apply pw_below_drewN | apply below_drew1) | exact HB.out)) hb); have n1_ := Aside0.mk (hbox); have n2_ := Aside0.mk ((by rw [hg]; exact (below_size (by repeat (first | (with_reducible first | exact HB.out | apply below_alloc | apply pw_below_drewN | apply below_drew1) | exact HB.out))) : w.heap.size ≤ gb548)); have n3_ := Aside0.mk ((by rw [hg]; exact (below_size (by repeat (first | (with_reducible first | exact HB.out | apply below_alloc | apply pw_below_drewN | apply below_drew1) | exact HB.out))) : w.heap.size ≤ gb548)); clear HB; have HB := n0_; have BK548 := n1_; have GW548 := n2_; have GE548 := n3_; clear n0_ n1_ n2_ n3_; clear hb hbox hg; have hcz6_0 : w5.cell? ⟨gb548, 0, none⟩ = some (.int .i64 a0_0) := (blk_cell BK548.out 0).trans rfl; have hcz6_1 : w5.cell? ⟨gb548, 1, none⟩ = some (.slice A0_1 l0_1.length c0_1) := (blk_cell BK548.out 1).trans rfl; have hfz6_0 := blk_frozen BK548.out 0; have hfz6_1 := blk_frozen BK548.out 1) | ((with_reducible refine gate_callee (f := 25) rfl ?_); refine goesL_ (some 18) rfl rfl Try.func25 (by kernel_rfl) rfl #[.agg #[.int .i64 a0_0, .slice A0_1 l0_1.length c0_1], .int .i64 1048576] rfl (by (try simp only [List.map_toArray, List.map_cons, List.map_nil]); first | done | rfl | (simp only [List.length_drop, List.length_take]; rfl)) ?_; (with_reducible refine (laws_szBox.calls a0_0 _ _ l0_1 1048576 t549 _ ?side1 ?side2 A3.out).mono ?_); (case side1 => repeat (first | exact (Kd.C_below HR0_1.out HB.out) | (with_reducible refine Kd.C_alloc ?_ _) | (with_reducible refine Kd.C_drewN ?_ _) | (with_reducible refine Kd.C_drew ?_))); (case side2 => exact HC0_1.out); rintro e w7 ⟨rfl, hb⟩; refine ⟨_, rfl, ?_⟩; have n0_ := Aside0.mk (blk_below (g := gb548) (o := .cells #[.int .i64 a0_0, .slice A0_1 l0_1.length c0_1] 39 (0, 0)) (by (with_reducible repeat (first | refine blk_drewN ?_ _ | refine blk_drew ?_ | refine blk_alloc ?_ _)); exact BK548.out) hb); have n1_ := Aside0.mk (below_step (by repeat (first | (with_reducible first | exact HB.out | apply below_alloc | apply pw_below_drewN | apply below_drew1 | refine below_set ?_ GE548.out) | exact HB.out)) hb); clear BK548; clear HB; have BK548 := n0_; have HB := n1_; clear n0_ n1_; (try clear hb); (try clear hb2); (try clear hk); (try clear hi)))
    go_ret
    exact ⟨by first | rfl | (simp [errW_none, errW_some] <;> rfl) | (simp [*, errW_none, errW_some] <;> rfl), by repeat (first | (with_reducible first | exact HB.out | apply below_alloc | apply pw_below_drewN | apply below_drew1 | refine below_set ?_ GE548.out) | exact HB.out)⟩
  · rw [if_neg c4] at H
    have c4b0 : decide (t549 < 0) = false := decide_eq_false c4
    clear c4
    replace H := Option.bind_eq_some_iff.mp H
    obtain ⟨⟨t550, t551⟩, A80, H⟩ := H
    replace H : ((spec_BoxPut.f k t550 t551 a1).bind fun bt554 => ((laws_toBox.f k a0_0 l0_1).bind fun bt560 => ((impl_BoxPut.f k bt560.1 bt560.2 a1).bind fun bt565 => ((laws_eqBox.f k bt565.1 bt565.2.1 bt554.1 bt554.2.1).bind fun t571 => (if t571 = true then (laws_FnExactBoxPut.j0 k a1 bt554.2.2 bt565.2.2 (bt565.2.2 != bt554.2.2) a0_0 l0_1 bt554.1 bt554.2.1 bt560.1 bt560.2 bt565.1 bt565.2.1) else (laws_FnExactBoxPut.j0 k a1 bt554.2.2 bt565.2.2 true a0_0 l0_1 bt554.1 bt554.2.1 bt560.1 bt560.2 bt565.1 bt565.2.1)))))) = some r := H
    have A8 := Aside0.mk A80
    clear A80
    replace H := Option.bind_eq_some_iff.mp H
    obtain ⟨⟨t554, t555, t558⟩, A90, H⟩ := H
    replace H : ((laws_toBox.f k a0_0 l0_1).bind fun bt560 => ((impl_BoxPut.f k bt560.1 bt560.2 a1).bind fun bt565 => ((laws_eqBox.f k bt565.1 bt565.2.1 t554 t555).bind fun t571 => (if t571 = true then (laws_FnExactBoxPut.j0 k a1 t558 bt565.2.2 (bt565.2.2 != t558) a0_0 l0_1 t554 t555 bt560.1 bt560.2 bt565.1 bt565.2.1) else (laws_FnExactBoxPut.j0 k a1 t558 bt565.2.2 true a0_0 l0_1 t554 t555 bt560.1 bt560.2 bt565.1 bt565.2.1))))) = some r := H
    have A9 := Aside0.mk A90
    clear A90
    replace H := Option.bind_eq_some_iff.mp H
    obtain ⟨⟨t560, t561⟩, A100, H⟩ := H
    replace H : ((impl_BoxPut.f k t560 t561 a1).bind fun bt565 => ((laws_eqBox.f k bt565.1 bt565.2.1 t554 t555).bind fun t571 => (if t571 = true then (laws_FnExactBoxPut.j0 k a1 t558 bt565.2.2 (bt565.2.2 != t558) a0_0 l0_1 t554 t555 t560 t561 bt565.1 bt565.2.1) else (laws_FnExactBoxPut.j0 k a1 t558 bt565.2.2 true a0_0 l0_1 t554 t555 t560 t561 bt565.1 bt565.2.1)))) = some r := H
    have A10 := Aside0.mk A100
    clear A100
    replace H := Option.bind_eq_some_iff.mp H
    obtain ⟨⟨t565, t566, t569⟩, A110, H⟩ := H
    replace H : ((laws_eqBox.f k t565 t566 t554 t555).bind fun t571 => (if t571 = true then (laws_FnExactBoxPut.j0 k a1 t558 t569 (t569 != t558) a0_0 l0_1 t554 t555 t560 t561 t565 t566) else (laws_FnExactBoxPut.j0 k a1 t558 t569 true a0_0 l0_1 t554 t555 t560 t561 t565 t566))) = some r := H
    have A11 := Aside0.mk A110
    clear A110
    have HC12 := Aside0.mk H
    clear H
    go_enter Try.func10, Try.ntmps10
    go_upto_region 8 with (first | ((with_reducible refine gate_dst (N := 2) rfl ?_); refine box_event ?hg (N := 2) ?hd (cs := #[.int .i64 a0_0, .slice A0_1 l0_1.length c0_1]) (t := 39) ?hr ?_; (case hd => rfl); (case hg => rfl); (case hr => first | (go_simp; done) | (go_simp; rfl)); intro gb548 hg w13 hbox hb; have n0_ := Aside0.mk (below_step (by repeat (first | (with_reducible first | exact HB.out | apply below_alloc | apply pw_below_drewN | apply below_drew1) | exact HB.out)) hb); have n1_ := Aside0.mk (hbox); have n2_ := Aside0.mk ((by rw [hg]; exact (below_size (by repeat (first | (with_reducible first | exact HB.out | apply below_alloc | apply pw_below_drewN | apply below_drew1) | exact HB.out))) : w.heap.size ≤ gb548)); have n3_ := Aside0.mk ((by rw [hg]; exact (below_size (by repeat (first | (with_reducible first | exact HB.out | apply below_alloc | apply pw_below_drewN | apply below_drew1) | exact HB.out))) : w.heap.size ≤ gb548)); clear HB; have HB := n0_; have BK548 := n1_; have GW548 := n2_; have GE548 := n3_; clear n0_ n1_ n2_ n3_; clear hb hbox hg; have hcz14_0 : w13.cell? ⟨gb548, 0, none⟩ = some (.int .i64 a0_0) := (blk_cell BK548.out 0).trans rfl; have hcz14_1 : w13.cell? ⟨gb548, 1, none⟩ = some (.slice A0_1 l0_1.length c0_1) := (blk_cell BK548.out 1).trans rfl; have hfz14_0 := blk_frozen BK548.out 0; have hfz14_1 := blk_frozen BK548.out 1) | ((with_reducible refine gate_callee (f := 25) rfl ?_); refine goesL_ (some 18) rfl rfl Try.func25 (by kernel_rfl) rfl #[.agg #[.int .i64 a0_0, .slice A0_1 l0_1.length c0_1], .int .i64 1048576] rfl (by (try simp only [List.map_toArray, List.map_cons, List.map_nil]); first | done | rfl | (simp only [List.length_drop, List.length_take]; rfl)) ?_; (with_reducible refine (laws_szBox.calls a0_0 _ _ l0_1 1048576 t549 _ ?side1 ?side2 A3.out).mono ?_); (case side1 => repeat (first | exact (Kd.C_below HR0_1.out HB.out) | (with_reducible refine Kd.C_alloc ?_ _) | (with_reducible refine Kd.C_drewN ?_ _) | (with_reducible refine Kd.C_drew ?_))); (case side2 => exact HC0_1.out); rintro e w15 ⟨rfl, hb⟩; refine ⟨_, rfl, ?_⟩; have n0_ := Aside0.mk (blk_below (g := gb548) (o := .cells #[.int .i64 a0_0, .slice A0_1 l0_1.length c0_1] 39 (0, 0)) (by (with_reducible repeat (first | refine blk_drewN ?_ _ | refine blk_drew ?_ | refine blk_alloc ?_ _)); exact BK548.out) hb); have n1_ := Aside0.mk (below_step (by repeat (first | (with_reducible first | exact HB.out | apply below_alloc | apply pw_below_drewN | apply below_drew1 | refine below_set ?_ GE548.out) | exact HB.out)) hb); clear BK548; clear HB; have BK548 := n0_; have HB := n1_; clear n0_ n1_; (try clear hb); (try clear hb2); (try clear hk); (try clear hi); have hcz16_0 : w15.cell? ⟨gb548, 0, none⟩ = some (.int .i64 a0_0) := (blk_cell BK548.out 0).trans rfl; have hcz16_1 : w15.cell? ⟨gb548, 1, none⟩ = some (.slice A0_1 l0_1.length c0_1) := (blk_cell BK548.out 1).trans rfl; have hfz16_0 := blk_frozen BK548.out 0; have hfz16_1 := blk_frozen BK548.out 1) | ((with_reducible refine gate_callee (f := 27) rfl ?_); refine goesL_ (some 23) rfl rfl Try.func27 (by kernel_rfl) rfl #[.agg #[.int .i64 a0_0, .slice A0_1 l0_1.length c0_1]] rfl (by (try simp only [List.map_toArray, List.map_cons, List.map_nil]); first | done | rfl | (simp only [List.length_drop, List.length_take]; rfl)) ?_; (with_reducible refine (laws_toBox.calls k a0_0 _ _ l0_1 t550 t551 _ ?side1 ?side2 A8.out).mono ?_); (case side1 => repeat (first | exact (Kd.C_below HR0_1.out HB.out) | (with_reducible refine Kd.C_alloc ?_ _) | (with_reducible refine Kd.C_drewN ?_ _) | (with_reducible refine Kd.C_drew ?_))); (case side2 => exact HC0_1.out); rintro e w17 ⟨v552, rfl, ho0, hb⟩; refine ⟨_, rfl, ?_⟩; have n0_ := Aside0.mk (Kd.R_lower ho0 (below_size (by repeat (first | (with_reducible first | exact HB.out | apply below_alloc | apply pw_below_drewN | apply below_drew1 | refine below_set ?_ GE548.out) | exact HB.out)))); have n1_ := Aside0.mk (blk_below (g := gb548) (o := .cells #[.int .i64 a0_0, .slice A0_1 l0_1.length c0_1] 39 (0, 0)) (by (with_reducible repeat (first | refine blk_drewN ?_ _ | refine blk_drew ?_ | refine blk_alloc ?_ _)); exact BK548.out) hb); have n2_ := Aside0.mk (below_step (by repeat (first | (with_reducible first | exact HB.out | apply below_alloc | apply pw_below_drewN | apply below_drew1 | refine below_set ?_ GE548.out) | exact HB.out)) hb); clear BK548; clear HB; have HO553 := n0_; have BK548 := n1_; have HB := n2_; clear n0_ n1_ n2_; (try clear hb); (try clear hb2); (try clear hk); (try clear hi); (try clear ho0); obtain ⟨Ao18, co18, eo18⟩ := Kd.R_slice HO553.out; subst eo18) | ((with_reducible refine gate_callee (f := 37) rfl ?_); refine goesL_ (some 25) rfl rfl Try.func37 (by kernel_rfl) rfl #[.agg #[.int .i64 t550, .slice Ao18 t551.length co18], .int .i64 a1] rfl (by (try simp only [List.map_toArray, List.map_cons, List.map_nil]); first | done | rfl | (simp only [List.length_drop, List.length_take]; rfl)) ?_; (with_reducible refine (spec_BoxPut.calls k t550 _ _ t551 a1 t554 t555 t558 _ ?side1 ?side2 A9.out).mono ?_); (case side1 => repeat (first | exact (Kd.R_reads' HO553.out).2.2 | (with_reducible refine Kd.C_alloc ?_ _) | (with_reducible refine Kd.C_drewN ?_ _) | (with_reducible refine Kd.C_drew ?_))); (case side2 => exact (Kd.R_reads' HO553.out).2.1); rintro e w19 ⟨v556, rfl, ho0, hb⟩; refine ⟨_, rfl, ?_⟩; have n0_ := Aside0.mk (Kd.R_elder' (by (with_reducible repeat (first | apply Kd.R_alloc | apply Kd.R_drewN | apply Kd.R_drew)); exact HO553.out) (Kd.R_base ho0) hb); have n1_ := Aside0.mk (Kd.R_lower (Kd.R_new' ho0 (Kd.R_lt (by (with_reducible repeat (first | apply Kd.R_alloc | apply Kd.R_drewN | apply Kd.R_drew)); exact HO553.out))) (below_size (by repeat (first | (with_reducible first | exact HB.out | apply below_alloc | apply pw_below_drewN | apply below_drew1 | refine below_set ?_ GE548.out) | exact HB.out)))); have n2_ := Aside0.mk (blk_below (g := gb548) (o := .cells #[.int .i64 a0_0, .slice A0_1 l0_1.length c0_1] 39 (0, 0)) (by (with_reducible repeat (first | refine blk_drewN ?_ _ | refine blk_drew ?_ | refine blk_alloc ?_ _)); exact BK548.out) hb); have n3_ := Aside0.mk (below_step (by repeat (first | (with_reducible first | exact HB.out | apply below_alloc | apply pw_below_drewN | apply below_drew1 | refine below_set ?_ GE548.out) | exact HB.out)) hb); clear HO553; clear BK548; clear HB; have HO553 := n0_; have HO557 := n1_; have BK548 := n2_; have HB := n3_; clear n0_ n1_ n2_ n3_; (try clear hb); (try clear hb2); (try clear hk); (try clear hi); (try clear ho0)) | ((with_reducible refine gate_dst (N := 6) rfl ?_); refine box_event ?hg (N := 6) ?hd (cs := #[.int .i64 0, .slice none 0 0]) (t := 33) ?hr ?_; (case hd => rfl); (case hg => rfl); (case hr => first | (go_simp; done) | (go_simp; rfl)); intro gb559 hg w20 hbox hb; have n0_ := Aside0.mk (Kd.R_below (by (with_reducible repeat (first | apply Kd.R_alloc | apply Kd.R_drewN | apply Kd.R_drew)); exact HO553.out) hb); have n1_ := Aside0.mk (Kd.R_below (by (with_reducible repeat (first | apply Kd.R_alloc | apply Kd.R_drewN | apply Kd.R_drew)); exact HO557.out) hb); have n2_ := Aside0.mk (blk_below (g := gb548) (o := .cells #[.int .i64 a0_0, .slice A0_1 l0_1.length c0_1] 39 (0, 0)) (by (with_reducible repeat (first | refine blk_drewN ?_ _ | refine blk_drew ?_ | refine blk_alloc ?_ _)); exact BK548.out) hb); have n3_ := Aside0.mk (below_step (by repeat (first | (with_reducible first | exact HB.out | apply below_alloc | apply pw_below_drewN | apply below_drew1 | refine below_set ?_ GE548.out) | exact HB.out)) hb); have n4_ := Aside0.mk (hbox); have n5_ := Aside0.mk ((by rw [hg]; exact (below_size (by repeat (first | (with_reducible first | exact HB.out | apply below_alloc | apply pw_below_drewN | apply below_drew1 | refine below_set ?_ GE548.out) | exact HB.out))) : w.heap.size ≤ gb559)); have n6_ := Aside0.mk ((by rw [hg]; exact (below_size (by repeat (first | (with_reducible first | exact HB.out | apply below_alloc | apply pw_below_drewN | apply below_drew1 | refine below_set ?_ GE548.out) | exact HB.out))) : w.heap.size ≤ gb559)); have n7_ := Aside0.mk ((by rw [hg]; exact Nat.ne_of_lt (blk_lt (g := gb548) (o := .cells #[.int .i64 a0_0, .slice A0_1 l0_1.length c0_1] 39 (0, 0)) (by (with_reducible repeat (first | refine blk_drewN ?_ _ | refine blk_drew ?_ | refine blk_alloc ?_ _)); exact BK548.out)) : gb548 ≠ gb559)); have n8_ := Aside0.mk ((by rw [hg]; exact Nat.ne_of_gt (blk_lt (g := gb548) (o := .cells #[.int .i64 a0_0, .slice A0_1 l0_1.length c0_1] 39 (0, 0)) (by (with_reducible repeat (first | refine blk_drewN ?_ _ | refine blk_drew ?_ | refine blk_alloc ?_ _)); exact BK548.out)) : gb559 ≠ gb548)); clear HO553; clear HO557; clear BK548; clear HB; have HO553 := n0_; have HO557 := n1_; have BK548 := n2_; have HB := n3_; have BK559 := n4_; have GW559 := n5_; have GE559 := n6_; have NB548_559 := n7_; have NB559_548 := n8_; clear n0_ n1_ n2_ n3_ n4_ n5_ n6_ n7_ n8_; clear hb hbox hg; have hnb21 := NB559_548.out; have hnc21 := NB548_559.out; have hcz22_0 : w20.cell? ⟨gb559, 0, none⟩ = some (.int .i64 0) := (blk_cell BK559.out 0).trans rfl; have hcz22_1 : w20.cell? ⟨gb559, 1, none⟩ = some (.slice none 0 0) := (blk_cell BK559.out 1).trans rfl; have hfz22_0 := blk_frozen BK559.out 0; have hfz22_1 := blk_frozen BK559.out 1; obtain ⟨Ao23, co23, eo23⟩ := Kd.R_slice HO557.out; subst eo23; have hcz24_0 : w20.cell? ⟨gb548, 0, none⟩ = some (.int .i64 a0_0) := (blk_cell BK548.out 0).trans rfl; have hcz24_1 : w20.cell? ⟨gb548, 1, none⟩ = some (.slice A0_1 l0_1.length c0_1) := (blk_cell BK548.out 1).trans rfl; have hfz24_0 := blk_frozen BK548.out 0; have hfz24_1 := blk_frozen BK548.out 1) | ((with_reducible refine gate_callee (f := 27) rfl ?_); refine goesL_ (some 29) rfl rfl Try.func27 (by kernel_rfl) rfl #[.agg #[.int .i64 a0_0, .slice A0_1 l0_1.length c0_1]] rfl (by (try simp only [List.map_toArray, List.map_cons, List.map_nil]); first | done | rfl | (simp only [List.length_drop, List.length_take]; rfl)) ?_; (with_reducible refine (laws_toBox.calls k a0_0 _ _ l0_1 t560 t561 _ ?side1 ?side2 A10.out).mono ?_); (case side1 => exact Kd.C_below HR0_1.out (by repeat (first | (with_reducible first | exact HB.out | apply below_alloc | apply pw_below_drewN | apply below_drew1 | refine below_set ?_ GE548.out | refine below_set ?_ GE559.out) | exact HB.out))); (case side2 => exact HC0_1.out); rintro e w25 ⟨v562, rfl, ho0, hb⟩; refine ⟨_, rfl, ?_⟩; have n0_ := Aside0.mk (Kd.R_elder' (by (with_reducible repeat (first | apply Kd.R_alloc | apply Kd.R_drewN | apply Kd.R_drew)); exact (Kd.R_mono (Kd.R_far (p := ⟨gb559, 1, none⟩) (Kd.R_far (p := ⟨gb559, 0, none⟩) (Kd.R_types HO553.out BK559.out (by decide)) (fun _ hk => hk.2) (.int .i64 t554)) (fun _ hk => hk.2) (.slice Ao23 t555.length co23)) (fun _ h_ => h_.1))) (Kd.R_base ho0) hb); have n1_ := Aside0.mk (Kd.R_elder' (by (with_reducible repeat (first | apply Kd.R_alloc | apply Kd.R_drewN | apply Kd.R_drew)); exact (Kd.R_mono (Kd.R_far (p := ⟨gb559, 1, none⟩) (Kd.R_far (p := ⟨gb559, 0, none⟩) (Kd.R_types HO557.out BK559.out (by decide)) (fun _ hk => hk.2) (.int .i64 t554)) (fun _ hk => hk.2) (.slice Ao23 t555.length co23)) (fun _ h_ => h_.1))) (Kd.R_base ho0) hb); have n2_ := Aside0.mk (Kd.R_lower (Kd.R_new' (Kd.R_new' ho0 (Kd.R_lt (by (with_reducible repeat (first | apply Kd.R_alloc | apply Kd.R_drewN | apply Kd.R_drew)); exact (Kd.R_mono (Kd.R_far (p := ⟨gb559, 1, none⟩) (Kd.R_far (p := ⟨gb559, 0, none⟩) (Kd.R_types HO553.out BK559.out (by decide)) (fun _ hk => hk.2) (.int .i64 t554)) (fun _ hk => hk.2) (.slice Ao23 t555.length co23)) (fun _ h_ => h_.1))))) (Kd.R_lt (by (with_reducible repeat (first | apply Kd.R_alloc | apply Kd.R_drewN | apply Kd.R_drew)); exact (Kd.R_mono (Kd.R_far (p := ⟨gb559, 1, none⟩) (Kd.R_far (p := ⟨gb559, 0, none⟩) (Kd.R_types HO557.out BK559.out (by decide)) (fun _ hk => hk.2) (.int .i64 t554)) (fun _ hk => hk.2) (.slice Ao23 t555.length co23)) (fun _ h_ => h_.1))))) (below_size (by repeat (first | (with_reducible first | exact HB.out | apply below_alloc | apply pw_below_drewN | apply below_drew1 | refine below_set ?_ GE548.out | refine below_set ?_ GE559.out) | exact HB.out)))); have n3_ := Aside0.mk (blk_below (g := gb548) (o := .cells #[.int .i64 a0_0, .slice A0_1 l0_1.length c0_1] 39 (0, 0)) (by (with_reducible repeat (first | refine blk_drewN ?_ _ | refine blk_drew ?_ | refine blk_alloc ?_ _)); refine blk_far ?_ NB548_559.out _; (with_reducible repeat (first | refine blk_drewN ?_ _ | refine blk_drew ?_ | refine blk_alloc ?_ _)); refine blk_far ?_ NB548_559.out _; (with_reducible repeat (first | refine blk_drewN ?_ _ | refine blk_drew ?_ | refine blk_alloc ?_ _)); exact BK548.out) hb); have n4_ := Aside0.mk (blk_below (g := gb559) (o := .cells #[.int .i64 t554, .slice Ao23 t555.length co23] 33 (0, 0)) (by (with_reducible repeat (first | refine blk_drewN ?_ _ | refine blk_drew ?_ | refine blk_alloc ?_ _)); refine blk_put (cs := #[.int .i64 t554, .slice none 0 0]) ?_ 1 _ rfl; (with_reducible repeat (first | refine blk_drewN ?_ _ | refine blk_drew ?_ | refine blk_alloc ?_ _)); refine blk_put (cs := #[.int .i64 0, .slice none 0 0]) ?_ 0 _ rfl; (with_reducible repeat (first | refine blk_drewN ?_ _ | refine blk_drew ?_ | refine blk_alloc ?_ _)); exact BK559.out) hb); have n5_ := Aside0.mk (below_step (by repeat (first | (with_reducible first | exact HB.out | apply below_alloc | apply pw_below_drewN | apply below_drew1 | refine below_set ?_ GE548.out | refine below_set ?_ GE559.out) | exact HB.out)) hb); clear HO553; clear HO557; clear BK548; clear BK559; clear HB; have HO553 := n0_; have HO557 := n1_; have HO563 := n2_; have BK548 := n3_; have BK559 := n4_; have HB := n5_; clear n0_ n1_ n2_ n3_ n4_ n5_; (try clear hb); (try clear hb2); (try clear hk); (try clear hi); (try clear ho0)) | ((with_reducible refine gate_dst (N := 8) rfl ?_); refine box_event ?hg (N := 8) ?hd (cs := #[.int .i64 0, .slice none 0 0]) (t := 33) ?hr ?_; (case hd => rfl); (case hg => rfl); (case hr => first | (go_simp; done) | (go_simp; rfl)); intro gb564 hg w26 hbox hb; have n0_ := Aside0.mk (Kd.R_below (by (with_reducible repeat (first | apply Kd.R_alloc | apply Kd.R_drewN | apply Kd.R_drew)); exact HO553.out) hb); have n1_ := Aside0.mk (Kd.R_below (by (with_reducible repeat (first | apply Kd.R_alloc | apply Kd.R_drewN | apply Kd.R_drew)); exact HO557.out) hb); have n2_ := Aside0.mk (Kd.R_below (by (with_reducible repeat (first | apply Kd.R_alloc | apply Kd.R_drewN | apply Kd.R_drew)); exact HO563.out) hb); have n3_ := Aside0.mk (blk_below (g := gb548) (o := .cells #[.int .i64 a0_0, .slice A0_1 l0_1.length c0_1] 39 (0, 0)) (by (with_reducible repeat (first | refine blk_drewN ?_ _ | refine blk_drew ?_ | refine blk_alloc ?_ _)); exact BK548.out) hb); have n4_ := Aside0.mk (blk_below (g := gb559) (o := .cells #[.int .i64 t554, .slice Ao23 t555.length co23] 33 (0, 0)) (by (with_reducible repeat (first | refine blk_drewN ?_ _ | refine blk_drew ?_ | refine blk_alloc ?_ _)); exact BK559.out) hb); have n5_ := Aside0.mk (below_step (by repeat (first | (with_reducible first | exact HB.out | apply below_alloc | apply pw_below_drewN | apply below_drew1 | refine below_set ?_ GE548.out | refine below_set ?_ GE559.out) | exact HB.out)) hb); have n6_ := Aside0.mk (hbox); have n7_ := Aside0.mk ((by rw [hg]; exact (below_size (by repeat (first | (with_reducible first | exact HB.out | apply below_alloc | apply pw_below_drewN | apply below_drew1 | refine below_set ?_ GE548.out | refine below_set ?_ GE559.out) | exact HB.out))) : w.heap.size ≤ gb564)); have n8_ := Aside0.mk ((by rw [hg]; exact (below_size (by repeat (first | (with_reducible first | exact HB.out | apply below_alloc | apply pw_below_drewN | apply below_drew1 | refine below_set ?_ GE548.out | refine below_set ?_ GE559.out) | exact HB.out))) : w.heap.size ≤ gb564)); have n9_ := Aside0.mk ((by rw [hg]; exact Nat.ne_of_lt (blk_lt (g := gb548) (o := .cells #[.int .i64 a0_0, .slice A0_1 l0_1.length c0_1] 39 (0, 0)) (by (with_reducible repeat (first | refine blk_drewN ?_ _ | refine blk_drew ?_ | refine blk_alloc ?_ _)); exact BK548.out)) : gb548 ≠ gb564)); have n10_ := Aside0.mk ((by rw [hg]; exact Nat.ne_of_gt (blk_lt (g := gb548) (o := .cells #[.int .i64 a0_0, .slice A0_1 l0_1.length c0_1] 39 (0, 0)) (by (with_reducible repeat (first | refine blk_drewN ?_ _ | refine blk_drew ?_ | refine blk_alloc ?_ _)); exact BK548.out)) : gb564 ≠ gb548)); have n11_ := Aside0.mk ((by rw [hg]; exact Nat.ne_of_lt (blk_lt (g := gb559) (o := .cells #[.int .i64 t554, .slice Ao23 t555.length co23] 33 (0, 0)) (by (with_reducible repeat (first | refine blk_drewN ?_ _ | refine blk_drew ?_ | refine blk_alloc ?_ _)); exact BK559.out)) : gb559 ≠ gb564)); have n12_ := Aside0.mk ((by rw [hg]; exact Nat.ne_of_gt (blk_lt (g := gb559) (o := .cells #[.int .i64 t554, .slice Ao23 t555.length co23] 33 (0, 0)) (by (with_reducible repeat (first | refine blk_drewN ?_ _ | refine blk_drew ?_ | refine blk_alloc ?_ _)); exact BK559.out)) : gb564 ≠ gb559)); clear HO553; clear HO557; clear HO563; clear BK548; clear BK559; clear HB; have HO553 := n0_; have HO557 := n1_; have HO563 := n2_; have BK548 := n3_; have BK559 := n4_; have HB := n5_; have BK564 := n6_; have GW564 := n7_; have GE564 := n8_; have NB548_564 := n9_; have NB564_548 := n10_; have NB559_564 := n11_; have NB564_559 := n12_; clear n0_ n1_ n2_ n3_ n4_ n5_ n6_ n7_ n8_ n9_ n10_ n11_ n12_; clear hb hbox hg; have hnb27 := NB564_548.out; have hnc27 := NB548_564.out; have hnb28 := NB564_559.out; have hnc28 := NB559_564.out; have hcz29_0 : w26.cell? ⟨gb564, 0, none⟩ = some (.int .i64 0) := (blk_cell BK564.out 0).trans rfl; have hcz29_1 : w26.cell? ⟨gb564, 1, none⟩ = some (.slice none 0 0) := (blk_cell BK564.out 1).trans rfl; have hfz29_0 := blk_frozen BK564.out 0; have hfz29_1 := blk_frozen BK564.out 1; obtain ⟨Ao30, co30, eo30⟩ := Kd.R_slice HO563.out; subst eo30) | ((with_reducible refine gate_callee (f := 38) rfl ?_); refine goesL_ (some 33) rfl rfl Try.func38 (by kernel_rfl) rfl #[.agg #[.int .i64 t560, .slice Ao30 t561.length co30], .int .i64 a1] rfl (by (try simp only [List.map_toArray, List.map_cons, List.map_nil]); first | done | rfl | (simp only [List.length_drop, List.length_take]; rfl)) ?_; (with_reducible refine (impl_BoxPut.calls k t560 _ _ t561 a1 t565 t566 t569 _ ?side1 ?side2 A11.out).mono ?_); (case side1 => refine (Kd.R_reads' (e := 3) (base := w.heap.size) (ok := fun k_ => ((True ∧ some k_ ≠ (.slice Ao18 t551.length co18 : Value).ownBlock) ∧ some k_ ≠ (.slice Ao23 t555.length co23 : Value).ownBlock)) (n := t561.length) (c := co30) ?_).2.2; exact (by (with_reducible repeat (first | apply Kd.R_alloc | apply Kd.R_drewN | apply Kd.R_drew)); exact (Kd.R_mono (Kd.R_far (p := ⟨gb564, 1, none⟩) (Kd.R_far (p := ⟨gb564, 0, none⟩) (Kd.R_types HO563.out BK564.out (by decide)) (fun _ hk => hk.2) (.int .i64 t560)) (fun _ hk => hk.2) (.slice Ao30 t561.length co30)) (fun _ h_ => h_.1)))); (case side2 => exact (Kd.R_reads' HO563.out).2.1); rintro e w31 ⟨v567, rfl, ho0, hb⟩; refine ⟨_, rfl, ?_⟩; have n0_ := Aside0.mk (Kd.R_elder' (by (with_reducible repeat (first | apply Kd.R_alloc | apply Kd.R_drewN | apply Kd.R_drew)); exact (Kd.R_mono (Kd.R_far (p := ⟨gb564, 1, none⟩) (Kd.R_far (p := ⟨gb564, 0, none⟩) (Kd.R_types HO553.out BK564.out (by decide)) (fun _ hk => hk.2) (.int .i64 t560)) (fun _ hk => hk.2) (.slice Ao30 t561.length co30)) (fun _ h_ => h_.1))) (Kd.R_base ho0) hb); have n1_ := Aside0.mk (Kd.R_elder' (by (with_reducible repeat (first | apply Kd.R_alloc | apply Kd.R_drewN | apply Kd.R_drew)); exact (Kd.R_mono (Kd.R_far (p := ⟨gb564, 1, none⟩) (Kd.R_far (p := ⟨gb564, 0, none⟩) (Kd.R_types HO557.out BK564.out (by decide)) (fun _ hk => hk.2) (.int .i64 t560)) (fun _ hk => hk.2) (.slice Ao30 t561.length co30)) (fun _ h_ => h_.1))) (Kd.R_base ho0) hb); have n2_ := Aside0.mk (Kd.R_elder' (by (with_reducible repeat (first | apply Kd.R_alloc | apply Kd.R_drewN | apply Kd.R_drew)); exact (Kd.R_mono (Kd.R_far (p := ⟨gb564, 1, none⟩) (Kd.R_far (p := ⟨gb564, 0, none⟩) (Kd.R_types HO563.out BK564.out (by decide)) (fun _ hk => hk.2) (.int .i64 t560)) (fun _ hk => hk.2) (.slice Ao30 t561.length co30)) (fun _ h_ => h_.1))) (Kd.R_base ho0) hb); have n3_ := Aside0.mk (Kd.R_lower (Kd.R_new' (Kd.R_new' (Kd.R_new' ho0 (Kd.R_lt (by (with_reducible repeat (first | apply Kd.R_alloc | apply Kd.R_drewN | apply Kd.R_drew)); exact (Kd.R_mono (Kd.R_far (p := ⟨gb564, 1, none⟩) (Kd.R_far (p := ⟨gb564, 0, none⟩) (Kd.R_types HO553.out BK564.out (by decide)) (fun _ hk => hk.2) (.int .i64 t560)) (fun _ hk => hk.2) (.slice Ao30 t561.length co30)) (fun _ h_ => h_.1))))) (Kd.R_lt (by (with_reducible repeat (first | apply Kd.R_alloc | apply Kd.R_drewN | apply Kd.R_drew)); exact (Kd.R_mono (Kd.R_far (p := ⟨gb564, 1, none⟩) (Kd.R_far (p := ⟨gb564, 0, none⟩) (Kd.R_types HO557.out BK564.out (by decide)) (fun _ hk => hk.2) (.int .i64 t560)) (fun _ hk => hk.2) (.slice Ao30 t561.length co30)) (fun _ h_ => h_.1))))) (Kd.R_lt (by (with_reducible repeat (first | apply Kd.R_alloc | apply Kd.R_drewN | apply Kd.R_drew)); exact (Kd.R_mono (Kd.R_far (p := ⟨gb564, 1, none⟩) (Kd.R_far (p := ⟨gb564, 0, none⟩) (Kd.R_types HO563.out BK564.out (by decide)) (fun _ hk => hk.2) (.int .i64 t560)) (fun _ hk => hk.2) (.slice Ao30 t561.length co30)) (fun _ h_ => h_.1))))) (below_size (by repeat (first | (with_reducible first | exact HB.out | apply below_alloc | apply pw_below_drewN | apply below_drew1 | refine below_set ?_ GE548.out | refine below_set ?_ GE559.out | refine below_set ?_ GE564.out) | exact HB.out)))); have n4_ := Aside0.mk (blk_below (g := gb548) (o := .cells #[.int .i64 a0_0, .slice A0_1 l0_1.length c0_1] 39 (0, 0)) (by (with_reducible repeat (first | refine blk_drewN ?_ _ | refine blk_drew ?_ | refine blk_alloc ?_ _)); refine blk_far ?_ NB548_564.out _; (with_reducible repeat (first | refine blk_drewN ?_ _ | refine blk_drew ?_ | refine blk_alloc ?_ _)); refine blk_far ?_ NB548_564.out _; (with_reducible repeat (first | refine blk_drewN ?_ _ | refine blk_drew ?_ | refine blk_alloc ?_ _)); exact BK548.out) hb); have n5_ := Aside0.mk (blk_below (g := gb559) (o := .cells #[.int .i64 t554, .slice Ao23 t555.length co23] 33 (0, 0)) (by (with_reducible repeat (first | refine blk_drewN ?_ _ | refine blk_drew ?_ | refine blk_alloc ?_ _)); refine blk_far ?_ NB559_564.out _; (with_reducible repeat (first | refine blk_drewN ?_ _ | refine blk_drew ?_ | refine blk_alloc ?_ _)); refine blk_far ?_ NB559_564.out _; (with_reducible repeat (first | refine blk_drewN ?_ _ | refine blk_drew ?_ | refine blk_alloc ?_ _)); exact BK559.out) hb); have n6_ := Aside0.mk (blk_below (g := gb564) (o := .cells #[.int .i64 t560, .slice Ao30 t561.length co30] 33 (0, 0)) (by (with_reducible repeat (first | refine blk_drewN ?_ _ | refine blk_drew ?_ | refine blk_alloc ?_ _)); refine blk_put (cs := #[.int .i64 t560, .slice none 0 0]) ?_ 1 _ rfl; (with_reducible repeat (first | refine blk_drewN ?_ _ | refine blk_drew ?_ | refine blk_alloc ?_ _)); refine blk_put (cs := #[.int .i64 0, .slice none 0 0]) ?_ 0 _ rfl; (with_reducible repeat (first | refine blk_drewN ?_ _ | refine blk_drew ?_ | refine blk_alloc ?_ _)); exact BK564.out) hb); have n7_ := Aside0.mk (below_step (by repeat (first | (with_reducible first | exact HB.out | apply below_alloc | apply pw_below_drewN | apply below_drew1 | refine below_set ?_ GE548.out | refine below_set ?_ GE559.out | refine below_set ?_ GE564.out) | exact HB.out)) hb); clear HO553; clear HO557; clear HO563; clear BK548; clear BK559; clear BK564; clear HB; have HO553 := n0_; have HO557 := n1_; have HO563 := n2_; have HO568 := n3_; have BK548 := n4_; have BK559 := n5_; have BK564 := n6_; have HB := n7_; clear n0_ n1_ n2_ n3_ n4_ n5_ n6_ n7_; (try clear hb); (try clear hb2); (try clear hk); (try clear hi); (try clear ho0)) | ((with_reducible refine gate_dst (N := 9) rfl ?_); refine box_event ?hg (N := 9) ?hd (cs := #[.int .i64 0, .slice none 0 0]) (t := 33) ?hr ?_; (case hd => rfl); (case hg => rfl); (case hr => first | (go_simp; done) | (go_simp; rfl)); intro gb570 hg w32 hbox hb; have n0_ := Aside0.mk (Kd.R_below (by (with_reducible repeat (first | apply Kd.R_alloc | apply Kd.R_drewN | apply Kd.R_drew)); exact HO553.out) hb); have n1_ := Aside0.mk (Kd.R_below (by (with_reducible repeat (first | apply Kd.R_alloc | apply Kd.R_drewN | apply Kd.R_drew)); exact HO557.out) hb); have n2_ := Aside0.mk (Kd.R_below (by (with_reducible repeat (first | apply Kd.R_alloc | apply Kd.R_drewN | apply Kd.R_drew)); exact HO563.out) hb); have n3_ := Aside0.mk (Kd.R_below (by (with_reducible repeat (first | apply Kd.R_alloc | apply Kd.R_drewN | apply Kd.R_drew)); exact HO568.out) hb); have n4_ := Aside0.mk (blk_below (g := gb548) (o := .cells #[.int .i64 a0_0, .slice A0_1 l0_1.length c0_1] 39 (0, 0)) (by (with_reducible repeat (first | refine blk_drewN ?_ _ | refine blk_drew ?_ | refine blk_alloc ?_ _)); exact BK548.out) hb); have n5_ := Aside0.mk (blk_below (g := gb559) (o := .cells #[.int .i64 t554, .slice Ao23 t555.length co23] 33 (0, 0)) (by (with_reducible repeat (first | refine blk_drewN ?_ _ | refine blk_drew ?_ | refine blk_alloc ?_ _)); exact BK559.out) hb); have n6_ := Aside0.mk (blk_below (g := gb564) (o := .cells #[.int .i64 t560, .slice Ao30 t561.length co30] 33 (0, 0)) (by (with_reducible repeat (first | refine blk_drewN ?_ _ | refine blk_drew ?_ | refine blk_alloc ?_ _)); exact BK564.out) hb); have n7_ := Aside0.mk (below_step (by repeat (first | (with_reducible first | exact HB.out | apply below_alloc | apply pw_below_drewN | apply below_drew1 | refine below_set ?_ GE548.out | refine below_set ?_ GE559.out | refine below_set ?_ GE564.out) | exact HB.out)) hb); have n8_ := Aside0.mk (hbox); have n9_ := Aside0.mk ((by rw [hg]; exact (below_size (by repeat (first | (with_reducible first | exact HB.out | apply below_alloc | apply pw_below_drewN | apply below_drew1 | refine below_set ?_ GE548.out | refine below_set ?_ GE559.out | refine below_set ?_ GE564.out) | exact HB.out))) : w.heap.size ≤ gb570)); have n10_ := Aside0.mk ((by rw [hg]; exact (below_size (by repeat (first | (with_reducible first | exact HB.out | apply below_alloc | apply pw_below_drewN | apply below_drew1 | refine below_set ?_ GE548.out | refine below_set ?_ GE559.out | refine below_set ?_ GE564.out) | exact HB.out))) : w.heap.size ≤ gb570)); have n11_ := Aside0.mk ((by rw [hg]; exact Nat.ne_of_lt (blk_lt (g := gb548) (o := .cells #[.int .i64 a0_0, .slice A0_1 l0_1.length c0_1] 39 (0, 0)) (by (with_reducible repeat (first | refine blk_drewN ?_ _ | refine blk_drew ?_ | refine blk_alloc ?_ _)); exact BK548.out)) : gb548 ≠ gb570)); have n12_ := Aside0.mk ((by rw [hg]; exact Nat.ne_of_gt (blk_lt (g := gb548) (o := .cells #[.int .i64 a0_0, .slice A0_1 l0_1.length c0_1] 39 (0, 0)) (by (with_reducible repeat (first | refine blk_drewN ?_ _ | refine blk_drew ?_ | refine blk_alloc ?_ _)); exact BK548.out)) : gb570 ≠ gb548)); have n13_ := Aside0.mk ((by rw [hg]; exact Nat.ne_of_lt (blk_lt (g := gb559) (o := .cells #[.int .i64 t554, .slice Ao23 t555.length co23] 33 (0, 0)) (by (with_reducible repeat (first | refine blk_drewN ?_ _ | refine blk_drew ?_ | refine blk_alloc ?_ _)); exact BK559.out)) : gb559 ≠ gb570)); have n14_ := Aside0.mk ((by rw [hg]; exact Nat.ne_of_gt (blk_lt (g := gb559) (o := .cells #[.int .i64 t554, .slice Ao23 t555.length co23] 33 (0, 0)) (by (with_reducible repeat (first | refine blk_drewN ?_ _ | refine blk_drew ?_ | refine blk_alloc ?_ _)); exact BK559.out)) : gb570 ≠ gb559)); have n15_ := Aside0.mk ((by rw [hg]; exact Nat.ne_of_lt (blk_lt (g := gb564) (o := .cells #[.int .i64 t560, .slice Ao30 t561.length co30] 33 (0, 0)) (by (with_reducible repeat (first | refine blk_drewN ?_ _ | refine blk_drew ?_ | refine blk_alloc ?_ _)); exact BK564.out)) : gb564 ≠ gb570)); have n16_ := Aside0.mk ((by rw [hg]; exact Nat.ne_of_gt (blk_lt (g := gb564) (o := .cells #[.int .i64 t560, .slice Ao30 t561.length co30] 33 (0, 0)) (by (with_reducible repeat (first | refine blk_drewN ?_ _ | refine blk_drew ?_ | refine blk_alloc ?_ _)); exact BK564.out)) : gb570 ≠ gb564)); clear HO553; clear HO557; clear HO563; clear HO568; clear BK548; clear BK559; clear BK564; clear HB; have HO553 := n0_; have HO557 := n1_; have HO563 := n2_; have HO568 := n3_; have BK548 := n4_; have BK559 := n5_; have BK564 := n6_; have HB := n7_; have BK570 := n8_; have GW570 := n9_; have GE570 := n10_; have NB548_570 := n11_; have NB570_548 := n12_; have NB559_570 := n13_; have NB570_559 := n14_; have NB564_570 := n15_; have NB570_564 := n16_; clear n0_ n1_ n2_ n3_ n4_ n5_ n6_ n7_ n8_ n9_ n10_ n11_ n12_ n13_ n14_ n15_ n16_; clear hb hbox hg; have hnb33 := NB570_548.out; have hnc33 := NB548_570.out; have hnb34 := NB570_559.out; have hnc34 := NB559_570.out; have hnb35 := NB570_564.out; have hnc35 := NB564_570.out; have hcz36_0 : w32.cell? ⟨gb570, 0, none⟩ = some (.int .i64 0) := (blk_cell BK570.out 0).trans rfl; have hcz36_1 : w32.cell? ⟨gb570, 1, none⟩ = some (.slice none 0 0) := (blk_cell BK570.out 1).trans rfl; have hfz36_0 := blk_frozen BK570.out 0; have hfz36_1 := blk_frozen BK570.out 1; obtain ⟨Ao37, co37, eo37⟩ := Kd.R_slice HO568.out; subst eo37))
    (try simp only [Act.put, List.setIfInBounds_toArray, List.set_cons_zero, List.set_cons_succ])
    go_cut [44] (fun v44 wc => ∃ (kq : Nat) (x44_11 : Bool), v44 = .bool x44_11 ∧ Aside0 (laws_FnExactBoxPut.j0 kq a1 t558 t569 x44_11 a0_0 l0_1 t554 t555 t560 t561 t565 t566 = some r) ∧ Aside0 (kq ≤ k) ∧ Aside0 (Kd.R (Kd.int .i64) 3 wc w.heap.size (fun k_ => some k_ ≠ ((.slice Ao30 t561.length co30) : Value).ownBlock ∧ some k_ ≠ ((.slice Ao37 t566.length co37) : Value).ownBlock) (.slice Ao23 t555.length co23) t555) ∧ Aside0 (Kd.R (Kd.int .i64) 3 wc w.heap.size (fun k_ => some k_ ≠ ((.slice Ao23 t555.length co23) : Value).ownBlock ∧ some k_ ≠ ((.slice Ao37 t566.length co37) : Value).ownBlock) (.slice Ao30 t561.length co30) t561) ∧ Aside0 (Kd.R (Kd.int .i64) 3 wc w.heap.size (fun k_ => some k_ ≠ ((.slice Ao23 t555.length co23) : Value).ownBlock ∧ some k_ ≠ ((.slice Ao30 t561.length co30) : Value).ownBlock) (.slice Ao37 t566.length co37) t566) ∧ Aside0 (wc.heap[gb548]? = some (.cells #[.int .i64 a0_0, (.slice A0_1 l0_1.length c0_1)] 39 (0, 0))) ∧ Aside0 (wc.heap[gb559]? = some (.cells #[.int .i64 t554, (.slice Ao23 t555.length co23)] 33 (0, 0))) ∧ Aside0 (wc.heap[gb564]? = some (.cells #[.int .i64 t560, (.slice Ao30 t561.length co30)] 33 (0, 0))) ∧ Aside0 (wc.heap[gb570]? = some (.cells #[.int .i64 t565, (.slice Ao37 t566.length co37)] 33 (0, 0))) ∧ Aside0 (Below w.heap.size w wc))
    case first =>
      have H := HC12.out
      clear HC12
      replace H := Option.bind_eq_some_iff.mp H
      obtain ⟨t571, A380, H⟩ := H
      replace H : (if t571 = true then (laws_FnExactBoxPut.j0 k a1 t558 t569 (t569 != t558) a0_0 l0_1 t554 t555 t560 t561 t565 t566) else (laws_FnExactBoxPut.j0 k a1 t558 t569 true a0_0 l0_1 t554 t555 t560 t561 t565 t566)) = some r := H
      have A38 := Aside0.mk A380
      clear A380
      by_cases c39 : t571 = true
      · subst c39
        have H1 : (laws_FnExactBoxPut.j0 k a1 t558 t569 (t569 != t558) a0_0 l0_1 t554 t555 t560 t561 t565 t566) = some r := by rw [if_pos rfl] at H; exact H
        clear H
        have H := H1
        clear H1
        have H' := Aside0.mk H
        clear H
        have hnb40 := NB570_548.out
        have hnc40 := NB548_570.out
        have hnb41 := NB570_559.out
        have hnc41 := NB559_570.out
        have hnb42 := NB570_564.out
        have hnc42 := NB564_570.out
        have hcz43_0 : w32.cell? ⟨gb570, 0, none⟩ = some (.int .i64 0) := (blk_cell BK570.out 0).trans rfl
        have hcz43_1 : w32.cell? ⟨gb570, 1, none⟩ = some (.slice none 0 0) := (blk_cell BK570.out 1).trans rfl
        have hfz43_0 := blk_frozen BK570.out 0
        have hfz43_1 := blk_frozen BK570.out 1
        have hnb44 := NB559_548.out
        have hnc44 := NB548_559.out
        have hnb45 := NB559_564.out
        have hnc45 := NB564_559.out
        have hcz46_0 : w32.cell? ⟨gb559, 0, none⟩ = some (.int .i64 t554) := (blk_cell BK559.out 0).trans rfl
        have hcz46_1 : w32.cell? ⟨gb559, 1, none⟩ = some (.slice Ao23 t555.length co23) := (blk_cell BK559.out 1).trans rfl
        have hfz46_0 := blk_frozen BK559.out 0
        have hfz46_1 := blk_frozen BK559.out 1
        go_wp2_with (first | ((with_reducible refine gate_callee (f := 29) rfl ?_); refine goesL_ (some 38) rfl rfl Try.func29 (by kernel_rfl) rfl #[.agg #[.int .i64 t565, .slice Ao37 t566.length co37], .agg #[.int .i64 t554, .slice Ao23 t555.length co23]] rfl (by (try simp only [List.map_toArray, List.map_cons, List.map_nil]); first | done | rfl | (simp only [List.length_drop, List.length_take]; rfl)) ?_; (with_reducible refine (laws_eqBox.calls k t565 _ _ t566 t554 _ _ t555 true _ ?side1 ?side2 ?side3 ?side4 A38.out).mono ?_); (case side1 => refine (Kd.R_reads' (e := 3) (base := w.heap.size) (ok := fun k_ => (((True ∧ some k_ ≠ (.slice Ao18 t551.length co18 : Value).ownBlock) ∧ some k_ ≠ (.slice Ao23 t555.length co23 : Value).ownBlock) ∧ some k_ ≠ (.slice Ao30 t561.length co30 : Value).ownBlock)) (n := t566.length) (c := co37) ?_).2.2; exact (by (with_reducible repeat (first | apply Kd.R_alloc | apply Kd.R_drewN | apply Kd.R_drew)); exact (Kd.R_mono (Kd.R_far (p := ⟨gb570, 1, none⟩) (Kd.R_far (p := ⟨gb570, 0, none⟩) (Kd.R_types HO568.out BK570.out (by decide)) (fun _ hk => hk.2) (.int .i64 t565)) (fun _ hk => hk.2) (.slice Ao37 t566.length co37)) (fun _ h_ => h_.1)))); (case side2 => exact (Kd.R_reads' HO568.out).2.1); (case side3 => refine (Kd.R_reads' (e := 3) (base := w.heap.size) (ok := fun k_ => (((True ∧ some k_ ≠ (.slice Ao18 t551.length co18 : Value).ownBlock) ∧ some k_ ≠ (.slice Ao30 t561.length co30 : Value).ownBlock) ∧ some k_ ≠ (.slice Ao37 t566.length co37 : Value).ownBlock)) (n := t555.length) (c := co23) ?_).2.2; exact (by (with_reducible repeat (first | apply Kd.R_alloc | apply Kd.R_drewN | apply Kd.R_drew)); exact (Kd.R_mono (Kd.R_far (p := ⟨gb570, 1, none⟩) (Kd.R_far (p := ⟨gb570, 0, none⟩) (Kd.R_types HO557.out BK570.out (by decide)) (fun _ hk => hk.2) (.int .i64 t565)) (fun _ hk => hk.2) (.slice Ao37 t566.length co37)) (fun _ h_ => h_.1)))); (case side4 => exact (Kd.R_reads' HO557.out).2.1); rintro e w47 ⟨rfl, hb⟩; refine ⟨_, rfl, ?_⟩; have n0_ := Aside0.mk (Kd.R_below (by (with_reducible repeat (first | apply Kd.R_alloc | apply Kd.R_drewN | apply Kd.R_drew)); exact (Kd.R_mono (Kd.R_far (p := ⟨gb570, 1, none⟩) (Kd.R_far (p := ⟨gb570, 0, none⟩) (Kd.R_types HO553.out BK570.out (by decide)) (fun _ hk => hk.2) (.int .i64 t565)) (fun _ hk => hk.2) (.slice Ao37 t566.length co37)) (fun _ h_ => h_.1))) hb); have n1_ := Aside0.mk (Kd.R_below (by (with_reducible repeat (first | apply Kd.R_alloc | apply Kd.R_drewN | apply Kd.R_drew)); exact (Kd.R_mono (Kd.R_far (p := ⟨gb570, 1, none⟩) (Kd.R_far (p := ⟨gb570, 0, none⟩) (Kd.R_types HO557.out BK570.out (by decide)) (fun _ hk => hk.2) (.int .i64 t565)) (fun _ hk => hk.2) (.slice Ao37 t566.length co37)) (fun _ h_ => h_.1))) hb); have n2_ := Aside0.mk (Kd.R_below (by (with_reducible repeat (first | apply Kd.R_alloc | apply Kd.R_drewN | apply Kd.R_drew)); exact (Kd.R_mono (Kd.R_far (p := ⟨gb570, 1, none⟩) (Kd.R_far (p := ⟨gb570, 0, none⟩) (Kd.R_types HO563.out BK570.out (by decide)) (fun _ hk => hk.2) (.int .i64 t565)) (fun _ hk => hk.2) (.slice Ao37 t566.length co37)) (fun _ h_ => h_.1))) hb); have n3_ := Aside0.mk (Kd.R_below (by (with_reducible repeat (first | apply Kd.R_alloc | apply Kd.R_drewN | apply Kd.R_drew)); exact (Kd.R_mono (Kd.R_far (p := ⟨gb570, 1, none⟩) (Kd.R_far (p := ⟨gb570, 0, none⟩) (Kd.R_types HO568.out BK570.out (by decide)) (fun _ hk => hk.2) (.int .i64 t565)) (fun _ hk => hk.2) (.slice Ao37 t566.length co37)) (fun _ h_ => h_.1))) hb); have n4_ := Aside0.mk (blk_below (g := gb548) (o := .cells #[.int .i64 a0_0, .slice A0_1 l0_1.length c0_1] 39 (0, 0)) (by (with_reducible repeat (first | refine blk_drewN ?_ _ | refine blk_drew ?_ | refine blk_alloc ?_ _)); refine blk_far ?_ NB548_570.out _; (with_reducible repeat (first | refine blk_drewN ?_ _ | refine blk_drew ?_ | refine blk_alloc ?_ _)); refine blk_far ?_ NB548_570.out _; (with_reducible repeat (first | refine blk_drewN ?_ _ | refine blk_drew ?_ | refine blk_alloc ?_ _)); exact BK548.out) hb); have n5_ := Aside0.mk (blk_below (g := gb559) (o := .cells #[.int .i64 t554, .slice Ao23 t555.length co23] 33 (0, 0)) (by (with_reducible repeat (first | refine blk_drewN ?_ _ | refine blk_drew ?_ | refine blk_alloc ?_ _)); refine blk_far ?_ NB559_570.out _; (with_reducible repeat (first | refine blk_drewN ?_ _ | refine blk_drew ?_ | refine blk_alloc ?_ _)); refine blk_far ?_ NB559_570.out _; (with_reducible repeat (first | refine blk_drewN ?_ _ | refine blk_drew ?_ | refine blk_alloc ?_ _)); exact BK559.out) hb); have n6_ := Aside0.mk (blk_below (g := gb564) (o := .cells #[.int .i64 t560, .slice Ao30 t561.length co30] 33 (0, 0)) (by (with_reducible repeat (first | refine blk_drewN ?_ _ | refine blk_drew ?_ | refine blk_alloc ?_ _)); refine blk_far ?_ NB564_570.out _; (with_reducible repeat (first | refine blk_drewN ?_ _ | refine blk_drew ?_ | refine blk_alloc ?_ _)); refine blk_far ?_ NB564_570.out _; (with_reducible repeat (first | refine blk_drewN ?_ _ | refine blk_drew ?_ | refine blk_alloc ?_ _)); exact BK564.out) hb); have n7_ := Aside0.mk (blk_below (g := gb570) (o := .cells #[.int .i64 t565, .slice Ao37 t566.length co37] 33 (0, 0)) (by (with_reducible repeat (first | refine blk_drewN ?_ _ | refine blk_drew ?_ | refine blk_alloc ?_ _)); refine blk_put (cs := #[.int .i64 t565, .slice none 0 0]) ?_ 1 _ rfl; (with_reducible repeat (first | refine blk_drewN ?_ _ | refine blk_drew ?_ | refine blk_alloc ?_ _)); refine blk_put (cs := #[.int .i64 0, .slice none 0 0]) ?_ 0 _ rfl; (with_reducible repeat (first | refine blk_drewN ?_ _ | refine blk_drew ?_ | refine blk_alloc ?_ _)); exact BK570.out) hb); have n8_ := Aside0.mk (below_step (by repeat (first | (with_reducible first | exact HB.out | apply below_alloc | apply pw_below_drewN | apply below_drew1 | refine below_set ?_ GE548.out | refine below_set ?_ GE559.out | refine below_set ?_ GE564.out | refine below_set ?_ GE570.out) | exact HB.out)) hb); clear HO553; clear HO557; clear HO563; clear HO568; clear BK548; clear BK559; clear BK564; clear BK570; clear HB; have HO553 := n0_; have HO557 := n1_; have HO563 := n2_; have HO568 := n3_; have BK548 := n4_; have BK559 := n5_; have BK564 := n6_; have BK570 := n7_; have HB := n8_; clear n0_ n1_ n2_ n3_ n4_ n5_ n6_ n7_ n8_; (try clear hb); (try clear hb2); (try clear hk); (try clear hi)))
        go_meet
        case rel => exact ⟨_, ((t569 != t558)), (by first | rfl | (simp; done) | (simp [*]; done)), H', ⟨by first | omega | exact Nat.le_refl _⟩, ⟨by (with_reducible repeat (first | apply Kd.R_alloc | apply Kd.R_drewN | apply Kd.R_drew)); exact Kd.R_mono HO557.out (fun _ hk => ⟨hk.1.2, hk.2⟩)⟩, ⟨by (with_reducible repeat (first | apply Kd.R_alloc | apply Kd.R_drewN | apply Kd.R_drew)); exact Kd.R_mono HO563.out (fun _ hk => ⟨hk.1.2, hk.2⟩)⟩, ⟨by (with_reducible repeat (first | apply Kd.R_alloc | apply Kd.R_drewN | apply Kd.R_drew)); exact Kd.R_mono HO568.out (fun _ hk => ⟨hk.1.2, hk.2⟩)⟩, ⟨by (with_reducible repeat (first | refine blk_drewN ?_ _ | refine blk_drew ?_ | refine blk_alloc ?_ _)); exact BK548.out⟩, ⟨by (with_reducible repeat (first | refine blk_drewN ?_ _ | refine blk_drew ?_ | refine blk_alloc ?_ _)); exact BK559.out⟩, ⟨by (with_reducible repeat (first | refine blk_drewN ?_ _ | refine blk_drew ?_ | refine blk_alloc ?_ _)); exact BK564.out⟩, ⟨by (with_reducible repeat (first | refine blk_drewN ?_ _ | refine blk_drew ?_ | refine blk_alloc ?_ _)); exact BK570.out⟩, ⟨by repeat (first | (with_reducible first | exact HB.out | apply below_alloc | apply pw_below_drewN | apply below_drew1 | refine below_set ?_ GE548.out | refine below_set ?_ GE559.out | refine below_set ?_ GE564.out | refine below_set ?_ GE570.out) | exact HB.out)⟩⟩
      · replace c39 := Bool.eq_false_iff.mpr c39
        subst c39
        have H1 : (laws_FnExactBoxPut.j0 k a1 t558 t569 true a0_0 l0_1 t554 t555 t560 t561 t565 t566) = some r := by rw [if_neg (show ¬ (false = true) by decide)] at H; exact H
        clear H
        have H := H1
        clear H1
        have H' := Aside0.mk H
        clear H
        have hnb48 := NB570_548.out
        have hnc48 := NB548_570.out
        have hnb49 := NB570_559.out
        have hnc49 := NB559_570.out
        have hnb50 := NB570_564.out
        have hnc50 := NB564_570.out
        have hcz51_0 : w32.cell? ⟨gb570, 0, none⟩ = some (.int .i64 0) := (blk_cell BK570.out 0).trans rfl
        have hcz51_1 : w32.cell? ⟨gb570, 1, none⟩ = some (.slice none 0 0) := (blk_cell BK570.out 1).trans rfl
        have hfz51_0 := blk_frozen BK570.out 0
        have hfz51_1 := blk_frozen BK570.out 1
        have hnb52 := NB559_548.out
        have hnc52 := NB548_559.out
        have hnb53 := NB559_564.out
        have hnc53 := NB564_559.out
        have hcz54_0 : w32.cell? ⟨gb559, 0, none⟩ = some (.int .i64 t554) := (blk_cell BK559.out 0).trans rfl
        have hcz54_1 : w32.cell? ⟨gb559, 1, none⟩ = some (.slice Ao23 t555.length co23) := (blk_cell BK559.out 1).trans rfl
        have hfz54_0 := blk_frozen BK559.out 0
        have hfz54_1 := blk_frozen BK559.out 1
        go_wp2_with (first | ((with_reducible refine gate_callee (f := 29) rfl ?_); refine goesL_ (some 38) rfl rfl Try.func29 (by kernel_rfl) rfl #[.agg #[.int .i64 t565, .slice Ao37 t566.length co37], .agg #[.int .i64 t554, .slice Ao23 t555.length co23]] rfl (by (try simp only [List.map_toArray, List.map_cons, List.map_nil]); first | done | rfl | (simp only [List.length_drop, List.length_take]; rfl)) ?_; (with_reducible refine (laws_eqBox.calls k t565 _ _ t566 t554 _ _ t555 false _ ?side1 ?side2 ?side3 ?side4 A38.out).mono ?_); (case side1 => refine (Kd.R_reads' (e := 3) (base := w.heap.size) (ok := fun k_ => (((True ∧ some k_ ≠ (.slice Ao18 t551.length co18 : Value).ownBlock) ∧ some k_ ≠ (.slice Ao23 t555.length co23 : Value).ownBlock) ∧ some k_ ≠ (.slice Ao30 t561.length co30 : Value).ownBlock)) (n := t566.length) (c := co37) ?_).2.2; exact (by (with_reducible repeat (first | apply Kd.R_alloc | apply Kd.R_drewN | apply Kd.R_drew)); exact (Kd.R_mono (Kd.R_far (p := ⟨gb570, 1, none⟩) (Kd.R_far (p := ⟨gb570, 0, none⟩) (Kd.R_types HO568.out BK570.out (by decide)) (fun _ hk => hk.2) (.int .i64 t565)) (fun _ hk => hk.2) (.slice Ao37 t566.length co37)) (fun _ h_ => h_.1)))); (case side2 => exact (Kd.R_reads' HO568.out).2.1); (case side3 => refine (Kd.R_reads' (e := 3) (base := w.heap.size) (ok := fun k_ => (((True ∧ some k_ ≠ (.slice Ao18 t551.length co18 : Value).ownBlock) ∧ some k_ ≠ (.slice Ao30 t561.length co30 : Value).ownBlock) ∧ some k_ ≠ (.slice Ao37 t566.length co37 : Value).ownBlock)) (n := t555.length) (c := co23) ?_).2.2; exact (by (with_reducible repeat (first | apply Kd.R_alloc | apply Kd.R_drewN | apply Kd.R_drew)); exact (Kd.R_mono (Kd.R_far (p := ⟨gb570, 1, none⟩) (Kd.R_far (p := ⟨gb570, 0, none⟩) (Kd.R_types HO557.out BK570.out (by decide)) (fun _ hk => hk.2) (.int .i64 t565)) (fun _ hk => hk.2) (.slice Ao37 t566.length co37)) (fun _ h_ => h_.1)))); (case side4 => exact (Kd.R_reads' HO557.out).2.1); rintro e w55 ⟨rfl, hb⟩; refine ⟨_, rfl, ?_⟩; have n0_ := Aside0.mk (Kd.R_below (by (with_reducible repeat (first | apply Kd.R_alloc | apply Kd.R_drewN | apply Kd.R_drew)); exact (Kd.R_mono (Kd.R_far (p := ⟨gb570, 1, none⟩) (Kd.R_far (p := ⟨gb570, 0, none⟩) (Kd.R_types HO553.out BK570.out (by decide)) (fun _ hk => hk.2) (.int .i64 t565)) (fun _ hk => hk.2) (.slice Ao37 t566.length co37)) (fun _ h_ => h_.1))) hb); have n1_ := Aside0.mk (Kd.R_below (by (with_reducible repeat (first | apply Kd.R_alloc | apply Kd.R_drewN | apply Kd.R_drew)); exact (Kd.R_mono (Kd.R_far (p := ⟨gb570, 1, none⟩) (Kd.R_far (p := ⟨gb570, 0, none⟩) (Kd.R_types HO557.out BK570.out (by decide)) (fun _ hk => hk.2) (.int .i64 t565)) (fun _ hk => hk.2) (.slice Ao37 t566.length co37)) (fun _ h_ => h_.1))) hb); have n2_ := Aside0.mk (Kd.R_below (by (with_reducible repeat (first | apply Kd.R_alloc | apply Kd.R_drewN | apply Kd.R_drew)); exact (Kd.R_mono (Kd.R_far (p := ⟨gb570, 1, none⟩) (Kd.R_far (p := ⟨gb570, 0, none⟩) (Kd.R_types HO563.out BK570.out (by decide)) (fun _ hk => hk.2) (.int .i64 t565)) (fun _ hk => hk.2) (.slice Ao37 t566.length co37)) (fun _ h_ => h_.1))) hb); have n3_ := Aside0.mk (Kd.R_below (by (with_reducible repeat (first | apply Kd.R_alloc | apply Kd.R_drewN | apply Kd.R_drew)); exact (Kd.R_mono (Kd.R_far (p := ⟨gb570, 1, none⟩) (Kd.R_far (p := ⟨gb570, 0, none⟩) (Kd.R_types HO568.out BK570.out (by decide)) (fun _ hk => hk.2) (.int .i64 t565)) (fun _ hk => hk.2) (.slice Ao37 t566.length co37)) (fun _ h_ => h_.1))) hb); have n4_ := Aside0.mk (blk_below (g := gb548) (o := .cells #[.int .i64 a0_0, .slice A0_1 l0_1.length c0_1] 39 (0, 0)) (by (with_reducible repeat (first | refine blk_drewN ?_ _ | refine blk_drew ?_ | refine blk_alloc ?_ _)); refine blk_far ?_ NB548_570.out _; (with_reducible repeat (first | refine blk_drewN ?_ _ | refine blk_drew ?_ | refine blk_alloc ?_ _)); refine blk_far ?_ NB548_570.out _; (with_reducible repeat (first | refine blk_drewN ?_ _ | refine blk_drew ?_ | refine blk_alloc ?_ _)); exact BK548.out) hb); have n5_ := Aside0.mk (blk_below (g := gb559) (o := .cells #[.int .i64 t554, .slice Ao23 t555.length co23] 33 (0, 0)) (by (with_reducible repeat (first | refine blk_drewN ?_ _ | refine blk_drew ?_ | refine blk_alloc ?_ _)); refine blk_far ?_ NB559_570.out _; (with_reducible repeat (first | refine blk_drewN ?_ _ | refine blk_drew ?_ | refine blk_alloc ?_ _)); refine blk_far ?_ NB559_570.out _; (with_reducible repeat (first | refine blk_drewN ?_ _ | refine blk_drew ?_ | refine blk_alloc ?_ _)); exact BK559.out) hb); have n6_ := Aside0.mk (blk_below (g := gb564) (o := .cells #[.int .i64 t560, .slice Ao30 t561.length co30] 33 (0, 0)) (by (with_reducible repeat (first | refine blk_drewN ?_ _ | refine blk_drew ?_ | refine blk_alloc ?_ _)); refine blk_far ?_ NB564_570.out _; (with_reducible repeat (first | refine blk_drewN ?_ _ | refine blk_drew ?_ | refine blk_alloc ?_ _)); refine blk_far ?_ NB564_570.out _; (with_reducible repeat (first | refine blk_drewN ?_ _ | refine blk_drew ?_ | refine blk_alloc ?_ _)); exact BK564.out) hb); have n7_ := Aside0.mk (blk_below (g := gb570) (o := .cells #[.int .i64 t565, .slice Ao37 t566.length co37] 33 (0, 0)) (by (with_reducible repeat (first | refine blk_drewN ?_ _ | refine blk_drew ?_ | refine blk_alloc ?_ _)); refine blk_put (cs := #[.int .i64 t565, .slice none 0 0]) ?_ 1 _ rfl; (with_reducible repeat (first | refine blk_drewN ?_ _ | refine blk_drew ?_ | refine blk_alloc ?_ _)); refine blk_put (cs := #[.int .i64 0, .slice none 0 0]) ?_ 0 _ rfl; (with_reducible repeat (first | refine blk_drewN ?_ _ | refine blk_drew ?_ | refine blk_alloc ?_ _)); exact BK570.out) hb); have n8_ := Aside0.mk (below_step (by repeat (first | (with_reducible first | exact HB.out | apply below_alloc | apply pw_below_drewN | apply below_drew1 | refine below_set ?_ GE548.out | refine below_set ?_ GE559.out | refine below_set ?_ GE564.out | refine below_set ?_ GE570.out) | exact HB.out)) hb); clear HO553; clear HO557; clear HO563; clear HO568; clear BK548; clear BK559; clear BK564; clear BK570; clear HB; have HO553 := n0_; have HO557 := n1_; have HO563 := n2_; have HO568 := n3_; have BK548 := n4_; have BK559 := n5_; have BK564 := n6_; have BK570 := n7_; have HB := n8_; clear n0_ n1_ n2_ n3_ n4_ n5_ n6_ n7_ n8_; (try clear hb); (try clear hb2); (try clear hk); (try clear hi)))
        go_meet
        case rel => exact ⟨_, (true), (by first | rfl | (simp; done) | (simp [*]; done)), H', ⟨by first | omega | exact Nat.le_refl _⟩, ⟨by (with_reducible repeat (first | apply Kd.R_alloc | apply Kd.R_drewN | apply Kd.R_drew)); exact Kd.R_mono HO557.out (fun _ hk => ⟨hk.1.2, hk.2⟩)⟩, ⟨by (with_reducible repeat (first | apply Kd.R_alloc | apply Kd.R_drewN | apply Kd.R_drew)); exact Kd.R_mono HO563.out (fun _ hk => ⟨hk.1.2, hk.2⟩)⟩, ⟨by (with_reducible repeat (first | apply Kd.R_alloc | apply Kd.R_drewN | apply Kd.R_drew)); exact Kd.R_mono HO568.out (fun _ hk => ⟨hk.1.2, hk.2⟩)⟩, ⟨by (with_reducible repeat (first | refine blk_drewN ?_ _ | refine blk_drew ?_ | refine blk_alloc ?_ _)); exact BK548.out⟩, ⟨by (with_reducible repeat (first | refine blk_drewN ?_ _ | refine blk_drew ?_ | refine blk_alloc ?_ _)); exact BK559.out⟩, ⟨by (with_reducible repeat (first | refine blk_drewN ?_ _ | refine blk_drew ?_ | refine blk_alloc ?_ _)); exact BK564.out⟩, ⟨by (with_reducible repeat (first | refine blk_drewN ?_ _ | refine blk_drew ?_ | refine blk_alloc ?_ _)); exact BK570.out⟩, ⟨by repeat (first | (with_reducible first | exact HB.out | apply below_alloc | apply pw_below_drewN | apply below_drew1 | refine below_set ?_ GE548.out | refine below_set ?_ GE559.out | refine below_set ?_ GE564.out | refine below_set ?_ GE570.out) | exact HB.out)⟩⟩
    case rest =>
      clear HC12
      try clear c1
      try clear c2
      try clear p2
      try clear c3
      try clear c4
      try clear c4b0
      try clear c5
      try clear c10
      try clear c21
      try clear c25
      try clear c27
      try clear c28
      try clear c29
      try clear c33
      try clear c34
      try clear c35
      try clear c37
      try clear c38
      try clear c39
      try clear c40
      try clear c41
      try clear c42
      try clear c44
      try clear c45
      try clear c48
      try clear c49
      try clear c50
      try clear c52
      try clear c53
      try clear hcz14_0
      try clear hcz14_1
      try clear hcz16_0
      try clear hcz16_1
      try clear hcz22_0
      try clear hcz22_1
      try clear hcz24_0
      try clear hcz24_1
      try clear hcz29_0
      try clear hcz29_1
      try clear hcz36_0
      try clear hcz36_1
      try clear hcz43_0
      try clear hcz43_1
      try clear hcz46_0
      try clear hcz46_1
      try clear hcz51_0
      try clear hcz51_1
      try clear hcz54_0
      try clear hcz54_1
      try clear hcz6_0
      try clear hcz6_1
      try clear hfz14_0
      try clear hfz14_1
      try clear hfz16_0
      try clear hfz16_1
      try clear hfz22_0
      try clear hfz22_1
      try clear hfz24_0
      try clear hfz24_1
      try clear hfz29_0
      try clear hfz29_1
      try clear hfz36_0
      try clear hfz36_1
      try clear hfz43_0
      try clear hfz43_1
      try clear hfz46_0
      try clear hfz46_1
      try clear hfz51_0
      try clear hfz51_1
      try clear hfz54_0
      try clear hfz54_1
      try clear hfz6_0
      try clear hfz6_1
      obtain ⟨kq, x44_11, rfl, HA, HJ11, HO_560001, HO_565001, HO_571001, BK548, BK559, BK564, BK570, HB⟩ := hcut
      cases kq with
      | zero => exact absurd HA.out (by simp [laws_FnExactBoxPut.j0])
      | succ kj11 =>
        have H := HA.out
        clear HA
        simp only [laws_FnExactBoxPut.j0] at H
        by_cases c56 : x44_11 = true
        · subst c56
          have H1 : (some false) = some r := by rw [if_pos rfl] at H; exact H
          clear H
          have H := H1
          clear H1
          obtain rfl := Option.some.inj H
          go_wp2
          go_ret
          exact ⟨by first | rfl | (simp [errW_none, errW_some] <;> rfl) | (simp [*, errW_none, errW_some] <;> rfl), by repeat (first | (with_reducible first | exact HB.out | apply below_alloc | apply pw_below_drewN | apply below_drew1 | refine below_set ?_ GE548.out | refine below_set ?_ GE559.out | refine below_set ?_ GE564.out | refine below_set ?_ GE570.out) | exact HB.out)⟩
        · replace c56 := Bool.eq_false_iff.mpr c56
          subst c56
          have H1 : ((laws_toBox.f kj11 a0_0 l0_1).bind fun bt572 => ((laws_eqBox.f kj11 t560 t561 bt572.1 bt572.2).bind fun t576 => (if t576 = true then ((laws_markBox.f kj11 t560 t561 1).bind fun bt577 => (if bt577.1 < 0 then (laws_FnExactBoxPut.j1 kj11 a1 t558 true a0_0 l0_1 t554 t555 t565 t566) else ((laws_eqBox.f kj11 t565 t566 t554 t555).bind fun t579 => (if t579 = true then (laws_FnExactBoxPut.j1 kj11 a1 t558 (t569 != t558) a0_0 l0_1 t554 t555 t565 t566) else (laws_FnExactBoxPut.j1 kj11 a1 t558 true a0_0 l0_1 t554 t555 t565 t566))))) else (some false)))) = some r := by rw [if_neg (show ¬ (false = true) by decide)] at H; exact H
          clear H
          have H := H1
          clear H1
          replace H := Option.bind_eq_some_iff.mp H
          obtain ⟨⟨t572, t573⟩, A570, H⟩ := H
          replace H : ((laws_eqBox.f kj11 t560 t561 t572 t573).bind fun t576 => (if t576 = true then ((laws_markBox.f kj11 t560 t561 1).bind fun bt577 => (if bt577.1 < 0 then (laws_FnExactBoxPut.j1 kj11 a1 t558 true a0_0 l0_1 t554 t555 t565 t566) else ((laws_eqBox.f kj11 t565 t566 t554 t555).bind fun t579 => (if t579 = true then (laws_FnExactBoxPut.j1 kj11 a1 t558 (t569 != t558) a0_0 l0_1 t554 t555 t565 t566) else (laws_FnExactBoxPut.j1 kj11 a1 t558 true a0_0 l0_1 t554 t555 t565 t566))))) else (some false))) = some r := H
          have A57 := Aside0.mk A570
          clear A570
          replace H := Option.bind_eq_some_iff.mp H
          obtain ⟨t576, A580, H⟩ := H
          replace H : (if t576 = true then ((laws_markBox.f kj11 t560 t561 1).bind fun bt577 => (if bt577.1 < 0 then (laws_FnExactBoxPut.j1 kj11 a1 t558 true a0_0 l0_1 t554 t555 t565 t566) else ((laws_eqBox.f kj11 t565 t566 t554 t555).bind fun t579 => (if t579 = true then (laws_FnExactBoxPut.j1 kj11 a1 t558 (t569 != t558) a0_0 l0_1 t554 t555 t565 t566) else (laws_FnExactBoxPut.j1 kj11 a1 t558 true a0_0 l0_1 t554 t555 t565 t566))))) else (some false)) = some r := H
          have A58 := Aside0.mk A580
          clear A580
          by_cases c59 : t576 = true
          · subst c59
            have H1 : ((laws_markBox.f kj11 t560 t561 1).bind fun bt577 => (if bt577.1 < 0 then (laws_FnExactBoxPut.j1 kj11 a1 t558 true a0_0 l0_1 t554 t555 t565 t566) else ((laws_eqBox.f kj11 t565 t566 t554 t555).bind fun t579 => (if t579 = true then (laws_FnExactBoxPut.j1 kj11 a1 t558 (t569 != t558) a0_0 l0_1 t554 t555 t565 t566) else (laws_FnExactBoxPut.j1 kj11 a1 t558 true a0_0 l0_1 t554 t555 t565 t566))))) = some r := by rw [if_pos rfl] at H; exact H
            clear H
            have H := H1
            clear H1
            replace H := Option.bind_eq_some_iff.mp H
            obtain ⟨⟨t577, t578⟩, A600, H⟩ := H
            replace H : (if t577 < 0 then (laws_FnExactBoxPut.j1 kj11 a1 t558 true a0_0 l0_1 t554 t555 t565 t566) else ((laws_eqBox.f kj11 t565 t566 t554 t555).bind fun t579 => (if t579 = true then (laws_FnExactBoxPut.j1 kj11 a1 t558 (t569 != t558) a0_0 l0_1 t554 t555 t565 t566) else (laws_FnExactBoxPut.j1 kj11 a1 t558 true a0_0 l0_1 t554 t555 t565 t566)))) = some r := H
            have A60 := Aside0.mk A600
            clear A600
            have HC61 := Aside0.mk H
            clear H
            try go_wp2
            have n0_ := Aside0.mk (Kd.R_drew HO_560001.out)
            have n1_ := Aside0.mk (Kd.R_drew HO_565001.out)
            have n2_ := Aside0.mk (Kd.R_drew HO_571001.out)
            have n3_ := Aside0.mk (blk_drew BK548.out)
            have n4_ := Aside0.mk (blk_drew BK559.out)
            have n5_ := Aside0.mk (blk_drew BK564.out)
            have n6_ := Aside0.mk (blk_drew BK570.out)
            have n7_ := Aside0.mk (below_drew1 HB.out)
            clear HO_560001
            clear HO_565001
            clear HO_571001
            clear BK548
            clear BK559
            clear BK564
            clear BK570
            clear HB
            have HO_560001 := n0_
            have HO_565001 := n1_
            have HO_571001 := n2_
            have BK548 := n3_
            have BK559 := n4_
            have BK564 := n5_
            have BK570 := n6_
            have HB := n7_
            clear n0_ n1_ n2_ n3_ n4_ n5_ n6_ n7_
            refine start_ (n := 5) (S := fun w' => w'.cell? ⟨gb564, 0, none⟩ = some (.int .i64 t560) ∧ w'.cell? ⟨gb564, 1, none⟩ = some (.slice Ao30 t561.length co30) ∧ w'.cell? ⟨gb548, 0, none⟩ = some (.int .i64 a0_0) ∧ w'.cell? ⟨gb548, 1, none⟩ = some (.slice A0_1 l0_1.length c0_1)) (ds := []) #[false, false, false, false, false] (by kernel_rfl) rfl rfl ⟨(blk_cell BK564.out 0).trans rfl, (blk_cell BK564.out 1).trans rfl, (blk_cell BK548.out 0).trans rfl, (blk_cell BK548.out 1).trans rfl⟩ (fun hHeld => ?_)
            generalize wc.drew = w62 at HO_560001 HO_565001 HO_571001 BK548 BK559 BK564 BK570 HB hHeld ⊢
            refine take_ (i := 0) (N := some 45) (v := ?_) (a' := ?_) #[true, false, false, false, false] rfl rfl (by kernel_rfl) (fun _ _ _ h => h) (Or.inl ⟨by rfl, ?_⟩) hHeld ?_ ?_
            rotate_left
            · rintro w' ⟨s0, s1, s2, s3⟩
              go_simp
              with_reducible rfl
            rotate_left
            · simp only [Act.put, List.setIfInBounds_toArray, List.set_cons_zero, List.set_cons_succ, i64_w, i32_w]
              rfl
            refine take_ (i := 1) (N := some 46) (v := ?_) (a' := ?_) #[true, true, false, false, false] rfl rfl (by kernel_rfl) (fun _ _ _ h => h) (Or.inl ⟨by rfl, ?_⟩) hHeld ?_ ?_
            rotate_left
            · rintro w' ⟨s0, s1, s2, s3⟩
              go_simp
              with_reducible rfl
            rotate_left
            · simp only [Act.put, List.setIfInBounds_toArray, List.set_cons_zero, List.set_cons_succ, i64_w, i32_w]
              rfl
            refine one_ (i := 2) (N := some 47) #[true, true, true, false, false] rfl rfl (by kernel_rfl) (by decide) (fun K hK => ?_)
            refine goes_ Try.func27 (by kernel_rfl) rfl #[.agg #[.int .i64 a0_0, .slice A0_1 l0_1.length c0_1]] (by rfl) rfl rfl (by (try simp only [List.map_toArray, List.map_cons, List.map_nil]); first | done | rfl | (simp only [List.length_drop, List.length_take]; rfl)) ?_
            with_reducible refine (laws_toBox.calls kj11 a0_0 _ _ l0_1 t572 t573 _ ?side1 ?side2 A57.out).mono ?_
            (case side1 => repeat (first | exact (Kd.C_below HR0_1.out HB.out) | (with_reducible refine Kd.C_alloc ?_ _) | (with_reducible refine Kd.C_drewN ?_ _) | (with_reducible refine Kd.C_drew ?_)))
            (case side2 => exact HC0_1.out)
            rintro e w63 ⟨v574, rfl, ho0, hb⟩
            refine ⟨_, rfl, ?_⟩
            have n0_ := Aside0.mk (Kd.R_elder' (by (with_reducible repeat (first | apply Kd.R_alloc | apply Kd.R_drewN | apply Kd.R_drew)); exact HO_560001.out) (Kd.R_base ho0) hb)
            have n1_ := Aside0.mk (Kd.R_elder' (by (with_reducible repeat (first | apply Kd.R_alloc | apply Kd.R_drewN | apply Kd.R_drew)); exact HO_565001.out) (Kd.R_base ho0) hb)
            have n2_ := Aside0.mk (Kd.R_elder' (by (with_reducible repeat (first | apply Kd.R_alloc | apply Kd.R_drewN | apply Kd.R_drew)); exact HO_571001.out) (Kd.R_base ho0) hb)
            have n3_ := Aside0.mk (Kd.R_lower (Kd.R_new' (Kd.R_new' (Kd.R_new' ho0 (Kd.R_lt (by (with_reducible repeat (first | apply Kd.R_alloc | apply Kd.R_drewN | apply Kd.R_drew)); exact HO_560001.out))) (Kd.R_lt (by (with_reducible repeat (first | apply Kd.R_alloc | apply Kd.R_drewN | apply Kd.R_drew)); exact HO_565001.out))) (Kd.R_lt (by (with_reducible repeat (first | apply Kd.R_alloc | apply Kd.R_drewN | apply Kd.R_drew)); exact HO_571001.out))) (below_size (by repeat (first | (with_reducible first | exact HB.out | apply below_alloc | apply pw_below_drewN | apply below_drew1 | refine below_set ?_ GE548.out | refine below_set ?_ GE559.out | refine below_set ?_ GE564.out | refine below_set ?_ GE570.out) | exact HB.out))))
            have n4_ := Aside0.mk (blk_below (g := gb548) (o := .cells #[.int .i64 a0_0, .slice A0_1 l0_1.length c0_1] 39 (0, 0)) (by (with_reducible repeat (first | refine blk_drewN ?_ _ | refine blk_drew ?_ | refine blk_alloc ?_ _)); exact BK548.out) hb)
            have n5_ := Aside0.mk (blk_below (g := gb559) (o := .cells #[.int .i64 t554, .slice Ao23 t555.length co23] 33 (0, 0)) (by (with_reducible repeat (first | refine blk_drewN ?_ _ | refine blk_drew ?_ | refine blk_alloc ?_ _)); exact BK559.out) hb)
            have n6_ := Aside0.mk (blk_below (g := gb564) (o := .cells #[.int .i64 t560, .slice Ao30 t561.length co30] 33 (0, 0)) (by (with_reducible repeat (first | refine blk_drewN ?_ _ | refine blk_drew ?_ | refine blk_alloc ?_ _)); exact BK564.out) hb)
            have n7_ := Aside0.mk (blk_below (g := gb570) (o := .cells #[.int .i64 t565, .slice Ao37 t566.length co37] 33 (0, 0)) (by (with_reducible repeat (first | refine blk_drewN ?_ _ | refine blk_drew ?_ | refine blk_alloc ?_ _)); exact BK570.out) hb)
            have n8_ := Aside0.mk (below_step (by repeat (first | (with_reducible first | exact HB.out | apply below_alloc | apply pw_below_drewN | apply below_drew1 | refine below_set ?_ GE548.out | refine below_set ?_ GE559.out | refine below_set ?_ GE564.out | refine below_set ?_ GE570.out) | exact HB.out)) hb)
            clear HO_560001
            clear HO_565001
            clear HO_571001
            clear BK548
            clear BK559
            clear BK564
            clear BK570
            clear HB
            have HO_560001 := n0_
            have HO_565001 := n1_
            have HO_571001 := n2_
            have HO575 := n3_
            have BK548 := n4_
            have BK559 := n5_
            have BK564 := n6_
            have BK570 := n7_
            have HB := n8_
            clear n0_ n1_ n2_ n3_ n4_ n5_ n6_ n7_ n8_
            (try clear hb)
            (try clear hb2)
            (try clear hk)
            (try clear hi)
            (try clear ho0)
            obtain ⟨Ao64, co64, eo64⟩ := Kd.R_slice HO575.out
            (first | subst eo64 | (injection eo64 with f1_ f2_ f3_; have f4_ := f1_.symm; have f5_ := f3_.symm; clear f1_ f2_ f3_; subst f4_; subst f5_))
            refine hK.out _ _ ⟨(blk_cell BK564.out 0).trans rfl, (blk_cell BK564.out 1).trans rfl, (blk_cell BK548.out 0).trans rfl, (blk_cell BK548.out 1).trans rfl⟩ (fun hHeld => ?_)
            clear hK K
            refine norm_ (a' := ?_) ?_ ?_
            rotate_left
            · show Act.put _ (some 47) _ = _
              simp only [Act.put, List.setIfInBounds_toArray, List.set_cons_zero, List.set_cons_succ, i64_w, i32_w]
              rfl
            refine one_ (i := 3) (N := some 48) #[true, true, true, true, false] rfl rfl (by kernel_rfl) (by decide) (fun K hK => ?_)
            refine goes_ Try.func29 (by kernel_rfl) rfl #[.agg #[.int .i64 t560, .slice Ao30 t561.length co30], .agg #[.int .i64 t572, .slice Ao64 t573.length co64]] (by rfl) rfl rfl (by (try simp only [List.map_toArray, List.map_cons, List.map_nil]); first | done | rfl | (simp only [List.length_drop, List.length_take]; rfl)) ?_
            with_reducible refine (laws_eqBox.calls kj11 t560 _ _ t561 t572 _ _ t573 true _ ?side1 ?side2 ?side3 ?side4 A58.out).mono ?_
            (case side1 => repeat (first | exact (Kd.R_reads' HO_565001.out).2.2 | (with_reducible refine Kd.C_alloc ?_ _) | (with_reducible refine Kd.C_drewN ?_ _) | (with_reducible refine Kd.C_drew ?_)))
            (case side2 => exact (Kd.R_reads' HO_565001.out).2.1)
            (case side3 => repeat (first | exact (Kd.R_reads' HO575.out).2.2 | (with_reducible refine Kd.C_alloc ?_ _) | (with_reducible refine Kd.C_drewN ?_ _) | (with_reducible refine Kd.C_drew ?_)))
            (case side4 => exact (Kd.R_reads' HO575.out).2.1)
            rintro e w65 ⟨rfl, hb⟩
            refine ⟨_, rfl, ?_⟩
            have n0_ := Aside0.mk (Kd.R_below (by (with_reducible repeat (first | apply Kd.R_alloc | apply Kd.R_drewN | apply Kd.R_drew)); exact HO_560001.out) hb)
            have n1_ := Aside0.mk (Kd.R_below (by (with_reducible repeat (first | apply Kd.R_alloc | apply Kd.R_drewN | apply Kd.R_drew)); exact HO_565001.out) hb)
            have n2_ := Aside0.mk (Kd.R_below (by (with_reducible repeat (first | apply Kd.R_alloc | apply Kd.R_drewN | apply Kd.R_drew)); exact HO_571001.out) hb)
            have n3_ := Aside0.mk (Kd.R_below (by (with_reducible repeat (first | apply Kd.R_alloc | apply Kd.R_drewN | apply Kd.R_drew)); exact HO575.out) hb)
            have n4_ := Aside0.mk (blk_below (g := gb548) (o := .cells #[.int .i64 a0_0, .slice A0_1 l0_1.length c0_1] 39 (0, 0)) (by (with_reducible repeat (first | refine blk_drewN ?_ _ | refine blk_drew ?_ | refine blk_alloc ?_ _)); exact BK548.out) hb)
            have n5_ := Aside0.mk (blk_below (g := gb559) (o := .cells #[.int .i64 t554, .slice Ao23 t555.length co23] 33 (0, 0)) (by (with_reducible repeat (first | refine blk_drewN ?_ _ | refine blk_drew ?_ | refine blk_alloc ?_ _)); exact BK559.out) hb)
            have n6_ := Aside0.mk (blk_below (g := gb564) (o := .cells #[.int .i64 t560, .slice Ao30 t561.length co30] 33 (0, 0)) (by (with_reducible repeat (first | refine blk_drewN ?_ _ | refine blk_drew ?_ | refine blk_alloc ?_ _)); exact BK564.out) hb)
            have n7_ := Aside0.mk (blk_below (g := gb570) (o := .cells #[.int .i64 t565, .slice Ao37 t566.length co37] 33 (0, 0)) (by (with_reducible repeat (first | refine blk_drewN ?_ _ | refine blk_drew ?_ | refine blk_alloc ?_ _)); exact BK570.out) hb)
            have n8_ := Aside0.mk (below_step (by repeat (first | (with_reducible first | exact HB.out | apply below_alloc | apply pw_below_drewN | apply below_drew1 | refine below_set ?_ GE548.out | refine below_set ?_ GE559.out | refine below_set ?_ GE564.out | refine below_set ?_ GE570.out) | exact HB.out)) hb)
            clear HO_560001
            clear HO_565001
            clear HO_571001
            clear HO575
            clear BK548
            clear BK559
            clear BK564
            clear BK570
            clear HB
            have HO_560001 := n0_
            have HO_565001 := n1_
            have HO_571001 := n2_
            have HO575 := n3_
            have BK548 := n4_
            have BK559 := n5_
            have BK564 := n6_
            have BK570 := n7_
            have HB := n8_
            clear n0_ n1_ n2_ n3_ n4_ n5_ n6_ n7_ n8_
            (try clear hb)
            (try clear hb2)
            (try clear hk)
            (try clear hi)
            refine hK.out _ _ ⟨(blk_cell BK564.out 0).trans rfl, (blk_cell BK564.out 1).trans rfl, (blk_cell BK548.out 0).trans rfl, (blk_cell BK548.out 1).trans rfl⟩ (fun hHeld => ?_)
            clear hK K
            refine norm_ (a' := ?_) ?_ ?_
            rotate_left
            · show Act.put _ (some 48) _ = _
              simp only [Act.put, List.setIfInBounds_toArray, List.set_cons_zero, List.set_cons_succ, i64_w, i32_w]
              rfl
            refine pure_ (i := 4) (N := some 49) (v := ?_) (a' := ?_) #[true, true, true, true, true] rfl rfl (by kernel_rfl) (fun _ _ _ h => h) (Or.inl ⟨by rfl, ?_⟩) ?_ ?_
            rotate_left
            · intro w'
              go_simp
              with_reducible rfl
            rotate_left
            · simp only [Act.put, List.setIfInBounds_toArray, List.set_cons_zero, List.set_cons_succ, i64_w, i32_w]
              rfl
            refine done_ (by kernel_rfl) ?_
            have hnb66 := NB564_548.out
            have hnc66 := NB548_564.out
            have hnb67 := NB564_559.out
            have hnc67 := NB559_564.out
            have hnb68 := NB564_570.out
            have hnc68 := NB570_564.out
            have hcz69_0 : w65.cell? ⟨gb564, 0, none⟩ = some (.int .i64 t560) := (blk_cell BK564.out 0).trans rfl
            have hcz69_1 : w65.cell? ⟨gb564, 1, none⟩ = some (.slice Ao30 t561.length co30) := (blk_cell BK564.out 1).trans rfl
            have hfz69_0 := blk_frozen BK564.out 0
            have hfz69_1 := blk_frozen BK564.out 1
            go_upto_region 14 with (first | ((with_reducible refine gate_callee (f := 39) rfl ?_); refine goesL_ (some 52) rfl rfl Try.func39 (by kernel_rfl) rfl #[.agg #[.int .i64 t560, .slice Ao30 t561.length co30], .int .i64 1] rfl (by (try simp only [List.map_toArray, List.map_cons, List.map_nil]); first | done | rfl | (simp only [List.length_drop, List.length_take]; rfl)) ?_; (with_reducible refine (laws_markBox.calls kj11 t560 (fun k_ => some k_ = (.slice Ao30 t561.length co30 : Value).ownBlock) (.slice Ao30 t561.length co30) t561 1 t577 t578 w _ ?side1 ?side2 A60.out).mono ?_); (case side1 => repeat (first | (with_reducible first | exact HB.out | apply below_alloc | apply pw_below_drewN | apply below_drew1 | refine below_set ?_ GE548.out | refine below_set ?_ GE559.out | refine below_set ?_ GE564.out | refine below_set ?_ GE570.out) | exact HB.out)); (case side2 => exact Kd.R_tight rfl HO_565001.out); rintro e w70 ⟨rfl, hy0, hb, hkp⟩; refine ⟨_, rfl, ?_⟩; have n0_ := Aside0.mk (Kd.R_mono (ok' := fun k_ => some k_ ≠ (.slice Ao30 t561.length co30 : Value).ownBlock ∧ some k_ ≠ (.slice Ao37 t566.length co37 : Value).ownBlock ∧ some k_ ≠ (.slice Ao64 t573.length co64 : Value).ownBlock) (Kd.R_keptB (HO_560001.out) hkp (fun k_ hk_ hs_ => (hk_.1.1) hs_)) (fun k_ hk_ => ⟨hk_.1.1.1, hk_.1.1.2, hk_.1.2⟩)); have n1_ := Aside0.mk (Kd.R_reok rfl hy0 (fun k_ e_ => HO_565001.out.1 k_ e_)); have n2_ := Aside0.mk (Kd.R_mono (ok' := fun k_ => some k_ ≠ (.slice Ao23 t555.length co23 : Value).ownBlock ∧ some k_ ≠ (.slice Ao30 t561.length co30 : Value).ownBlock ∧ some k_ ≠ (.slice Ao64 t573.length co64 : Value).ownBlock) (Kd.R_keptB (HO_571001.out) hkp (fun k_ hk_ hs_ => (hk_.1.2) hs_)) (fun k_ hk_ => ⟨hk_.1.1.1, hk_.1.1.2, hk_.1.2⟩)); have n3_ := Aside0.mk (blk_kept (by (with_reducible repeat (first | refine blk_drewN ?_ _ | refine blk_drew ?_ | refine blk_alloc ?_ _)); exact BK548.out) hkp (fun hs_ => (fun e_ => (Kd.R_ne HO_565001.out BK548.out (by decide)) e_) hs_)); have n4_ := Aside0.mk (blk_kept (by (with_reducible repeat (first | refine blk_drewN ?_ _ | refine blk_drew ?_ | refine blk_alloc ?_ _)); exact BK559.out) hkp (fun hs_ => (fun e_ => (Kd.R_ne HO_565001.out BK559.out (by decide)) e_) hs_)); have n5_ := Aside0.mk (blk_kept (by (with_reducible repeat (first | refine blk_drewN ?_ _ | refine blk_drew ?_ | refine blk_alloc ?_ _)); exact BK564.out) hkp (fun hs_ => (fun e_ => (Kd.R_ne HO_565001.out BK564.out (by decide)) e_) hs_)); have n6_ := Aside0.mk (blk_kept (by (with_reducible repeat (first | refine blk_drewN ?_ _ | refine blk_drew ?_ | refine blk_alloc ?_ _)); exact BK570.out) hkp (fun hs_ => (fun e_ => (Kd.R_ne HO_565001.out BK570.out (by decide)) e_) hs_)); have n7_ := Aside0.mk (Kd.R_mono (ok' := fun k_ => some k_ ≠ (.slice Ao23 t555.length co23 : Value).ownBlock ∧ some k_ ≠ (.slice Ao30 t561.length co30 : Value).ownBlock ∧ some k_ ≠ (.slice Ao37 t566.length co37 : Value).ownBlock) (Kd.R_keptB (HO575.out) hkp (fun k_ hk_ hs_ => (hk_.1.2) hs_)) (fun k_ hk_ => ⟨hk_.1.1.1.2, hk_.1.1.2, hk_.1.2⟩)); have n8_ := Aside0.mk (hb); clear HO_560001; clear HO_565001; clear HO_571001; clear BK548; clear BK559; clear BK564; clear BK570; clear HO575; clear HB; have HO_560001 := n0_; have HO_565001 := n1_; have HO_571001 := n2_; have BK548 := n3_; have BK559 := n4_; have BK564 := n5_; have BK570 := n6_; have HO575 := n7_; have HB := n8_; clear n0_ n1_ n2_ n3_ n4_ n5_ n6_ n7_ n8_; (try clear hb); (try clear hkp); (try clear hy0)))
            (try simp only [Act.put, List.setIfInBounds_toArray, List.set_cons_zero, List.set_cons_succ])
            go_cut [65] (fun v65 wc => ∃ (kq : Nat) (x65_60 : Bool), v65 = .bool x65_60 ∧ Aside0 (laws_FnExactBoxPut.j1 kq a1 t558 x65_60 a0_0 l0_1 t554 t555 t565 t566 = some r) ∧ Aside0 (kq ≤ kj11) ∧ Aside0 (Kd.R (Kd.int .i64) 3 wc w.heap.size (fun k_ => some k_ ≠ ((.slice Ao30 t561.length co30) : Value).ownBlock ∧ some k_ ≠ ((.slice Ao37 t566.length co37) : Value).ownBlock) (.slice Ao23 t555.length co23) t555) ∧ Aside0 (Kd.R (Kd.int .i64) 3 wc w.heap.size (fun k_ => some k_ ≠ ((.slice Ao23 t555.length co23) : Value).ownBlock ∧ some k_ ≠ ((.slice Ao37 t566.length co37) : Value).ownBlock) (.slice Ao30 t561.length co30) t578) ∧ Aside0 (Kd.R (Kd.int .i64) 3 wc w.heap.size (fun k_ => some k_ ≠ ((.slice Ao23 t555.length co23) : Value).ownBlock ∧ some k_ ≠ ((.slice Ao30 t561.length co30) : Value).ownBlock) (.slice Ao37 t566.length co37) t566) ∧ Aside0 (wc.heap[gb548]? = some (.cells #[.int .i64 a0_0, (.slice A0_1 l0_1.length c0_1)] 39 (0, 0))) ∧ Aside0 (wc.heap[gb559]? = some (.cells #[.int .i64 t554, (.slice Ao23 t555.length co23)] 33 (0, 0))) ∧ Aside0 (wc.heap[gb564]? = some (.cells #[.int .i64 t560, (.slice Ao30 t561.length co30)] 33 (0, 0))) ∧ Aside0 (wc.heap[gb570]? = some (.cells #[.int .i64 t565, (.slice Ao37 t566.length co37)] 33 (0, 0))) ∧ Aside0 (Below w.heap.size w wc))
            case first =>
              have H := HC61.out
              clear HC61
              by_cases c71 : t577 < 0
              · rw [if_pos c71] at H
                have c71b0 : decide (t577 < 0) = true := decide_eq_true c71
                clear c71
                (first | rw [c71b0] | (simp only [i64_w, i32_w]; rw [c71b0]) | skip)
                have H' := Aside0.mk H
                clear H
                go_wp2
                go_meet
                case rel => exact ⟨_, (true), (by first | rfl | (simp; done) | (simp [*]; done)), H', ⟨by have := HJ11.out; first | omega | exact Nat.le_refl _⟩, ⟨by (with_reducible repeat (first | apply Kd.R_alloc | apply Kd.R_drewN | apply Kd.R_drew)); exact Kd.R_mono HO_560001.out (fun _ hk => ⟨hk.1, hk.2.1⟩)⟩, ⟨by (with_reducible repeat (first | apply Kd.R_alloc | apply Kd.R_drewN | apply Kd.R_drew)); exact Kd.R_mono HO_565001.out (fun _ hk => ⟨hk.1.1, hk.1.2⟩)⟩, ⟨by (with_reducible repeat (first | apply Kd.R_alloc | apply Kd.R_drewN | apply Kd.R_drew)); exact Kd.R_mono HO_571001.out (fun _ hk => ⟨hk.1, hk.2.1⟩)⟩, ⟨by (with_reducible repeat (first | refine blk_drewN ?_ _ | refine blk_drew ?_ | refine blk_alloc ?_ _)); exact BK548.out⟩, ⟨by (with_reducible repeat (first | refine blk_drewN ?_ _ | refine blk_drew ?_ | refine blk_alloc ?_ _)); exact BK559.out⟩, ⟨by (with_reducible repeat (first | refine blk_drewN ?_ _ | refine blk_drew ?_ | refine blk_alloc ?_ _)); exact BK564.out⟩, ⟨by (with_reducible repeat (first | refine blk_drewN ?_ _ | refine blk_drew ?_ | refine blk_alloc ?_ _)); exact BK570.out⟩, ⟨by repeat (first | (with_reducible first | exact HB.out | apply below_alloc | apply pw_below_drewN | apply below_drew1 | refine below_set ?_ GE548.out | refine below_set ?_ GE559.out | refine below_set ?_ GE564.out | refine below_set ?_ GE570.out) | exact HB.out)⟩⟩
              · rw [if_neg c71] at H
                have c71b0 : decide (t577 < 0) = false := decide_eq_false c71
                clear c71
                (first | rw [c71b0] | (simp only [i64_w, i32_w]; rw [c71b0]) | skip)
                replace H := Option.bind_eq_some_iff.mp H
                obtain ⟨t579, A720, H⟩ := H
                replace H : (if t579 = true then (laws_FnExactBoxPut.j1 kj11 a1 t558 (t569 != t558) a0_0 l0_1 t554 t555 t565 t566) else (laws_FnExactBoxPut.j1 kj11 a1 t558 true a0_0 l0_1 t554 t555 t565 t566)) = some r := H
                have A72 := Aside0.mk A720
                clear A720
                by_cases c73 : t579 = true
                · subst c73
                  have H1 : (laws_FnExactBoxPut.j1 kj11 a1 t558 (t569 != t558) a0_0 l0_1 t554 t555 t565 t566) = some r := by rw [if_pos rfl] at H; exact H
                  clear H
                  have H := H1
                  clear H1
                  have H' := Aside0.mk H
                  clear H
                  have hnb74 := NB570_548.out
                  have hnc74 := NB548_570.out
                  have hnb75 := NB570_559.out
                  have hnc75 := NB559_570.out
                  have hnb76 := NB570_564.out
                  have hnc76 := NB564_570.out
                  have hcz77_0 : w70.cell? ⟨gb570, 0, none⟩ = some (.int .i64 t565) := (blk_cell BK570.out 0).trans rfl
                  have hcz77_1 : w70.cell? ⟨gb570, 1, none⟩ = some (.slice Ao37 t566.length co37) := (blk_cell BK570.out 1).trans rfl
                  have hfz77_0 := blk_frozen BK570.out 0
                  have hfz77_1 := blk_frozen BK570.out 1
                  have hnb78 := NB559_548.out
                  have hnc78 := NB548_559.out
                  have hnb79 := NB559_564.out
                  have hnc79 := NB564_559.out
                  have hcz80_0 : w70.cell? ⟨gb559, 0, none⟩ = some (.int .i64 t554) := (blk_cell BK559.out 0).trans rfl
                  have hcz80_1 : w70.cell? ⟨gb559, 1, none⟩ = some (.slice Ao23 t555.length co23) := (blk_cell BK559.out 1).trans rfl
                  have hfz80_0 := blk_frozen BK559.out 0
                  have hfz80_1 := blk_frozen BK559.out 1
                  go_wp2_with (first | (go_at_call 29; (with_reducible refine (laws_eqBox.calls kj11 t565 _ _ t566 t554 _ _ t555 true _ ?side1 ?side2 ?side3 ?side4 A72.out).mono ?_); (case side1 => repeat (first | exact (Kd.R_reads' HO_571001.out).2.2 | (with_reducible refine Kd.C_alloc ?_ _) | (with_reducible refine Kd.C_drewN ?_ _) | (with_reducible refine Kd.C_drew ?_))); (case side2 => exact (Kd.R_reads' HO_571001.out).2.1); (case side3 => repeat (first | exact (Kd.R_reads' HO_560001.out).2.2 | (with_reducible refine Kd.C_alloc ?_ _) | (with_reducible refine Kd.C_drewN ?_ _) | (with_reducible refine Kd.C_drew ?_))); (case side4 => exact (Kd.R_reads' HO_560001.out).2.1); rintro e w81 ⟨rfl, hb⟩; have n0_ := Aside0.mk (Kd.R_below (by (with_reducible repeat (first | apply Kd.R_alloc | apply Kd.R_drewN | apply Kd.R_drew)); exact HO_560001.out) hb); have n1_ := Aside0.mk (Kd.R_below (by (with_reducible repeat (first | apply Kd.R_alloc | apply Kd.R_drewN | apply Kd.R_drew)); exact HO_565001.out) hb); have n2_ := Aside0.mk (Kd.R_below (by (with_reducible repeat (first | apply Kd.R_alloc | apply Kd.R_drewN | apply Kd.R_drew)); exact HO_571001.out) hb); have n3_ := Aside0.mk (Kd.R_below (by (with_reducible repeat (first | apply Kd.R_alloc | apply Kd.R_drewN | apply Kd.R_drew)); exact HO575.out) hb); have n4_ := Aside0.mk (blk_below (g := gb548) (o := .cells #[.int .i64 a0_0, .slice A0_1 l0_1.length c0_1] 39 (0, 0)) (by (with_reducible repeat (first | refine blk_drewN ?_ _ | refine blk_drew ?_ | refine blk_alloc ?_ _)); exact BK548.out) hb); have n5_ := Aside0.mk (blk_below (g := gb559) (o := .cells #[.int .i64 t554, .slice Ao23 t555.length co23] 33 (0, 0)) (by (with_reducible repeat (first | refine blk_drewN ?_ _ | refine blk_drew ?_ | refine blk_alloc ?_ _)); exact BK559.out) hb); have n6_ := Aside0.mk (blk_below (g := gb564) (o := .cells #[.int .i64 t560, .slice Ao30 t561.length co30] 33 (0, 0)) (by (with_reducible repeat (first | refine blk_drewN ?_ _ | refine blk_drew ?_ | refine blk_alloc ?_ _)); exact BK564.out) hb); have n7_ := Aside0.mk (blk_below (g := gb570) (o := .cells #[.int .i64 t565, .slice Ao37 t566.length co37] 33 (0, 0)) (by (with_reducible repeat (first | refine blk_drewN ?_ _ | refine blk_drew ?_ | refine blk_alloc ?_ _)); exact BK570.out) hb); have n8_ := Aside0.mk (below_step (by repeat (first | (with_reducible first | exact HB.out | apply below_alloc | apply pw_below_drewN | apply below_drew1 | refine below_set ?_ GE548.out | refine below_set ?_ GE559.out | refine below_set ?_ GE564.out | refine below_set ?_ GE570.out) | exact HB.out)) hb); clear HO_560001; clear HO_565001; clear HO_571001; clear HO575; clear BK548; clear BK559; clear BK564; clear BK570; clear HB; have HO_560001 := n0_; have HO_565001 := n1_; have HO_571001 := n2_; have HO575 := n3_; have BK548 := n4_; have BK559 := n5_; have BK564 := n6_; have BK570 := n7_; have HB := n8_; clear n0_ n1_ n2_ n3_ n4_ n5_ n6_ n7_ n8_; (try clear hb); (try clear hb2); (try clear hk); (try clear hi)))
                  go_meet
                  case rel => exact ⟨_, ((t569 != t558)), (by first | rfl | (simp; done) | (simp [*]; done)), H', ⟨by have := HJ11.out; first | omega | exact Nat.le_refl _⟩, ⟨by (with_reducible repeat (first | apply Kd.R_alloc | apply Kd.R_drewN | apply Kd.R_drew)); exact Kd.R_mono HO_560001.out (fun _ hk => ⟨hk.1, hk.2.1⟩)⟩, ⟨by (with_reducible repeat (first | apply Kd.R_alloc | apply Kd.R_drewN | apply Kd.R_drew)); exact Kd.R_mono HO_565001.out (fun _ hk => ⟨hk.1.1, hk.1.2⟩)⟩, ⟨by (with_reducible repeat (first | apply Kd.R_alloc | apply Kd.R_drewN | apply Kd.R_drew)); exact Kd.R_mono HO_571001.out (fun _ hk => ⟨hk.1, hk.2.1⟩)⟩, ⟨by (with_reducible repeat (first | refine blk_drewN ?_ _ | refine blk_drew ?_ | refine blk_alloc ?_ _)); exact BK548.out⟩, ⟨by (with_reducible repeat (first | refine blk_drewN ?_ _ | refine blk_drew ?_ | refine blk_alloc ?_ _)); exact BK559.out⟩, ⟨by (with_reducible repeat (first | refine blk_drewN ?_ _ | refine blk_drew ?_ | refine blk_alloc ?_ _)); exact BK564.out⟩, ⟨by (with_reducible repeat (first | refine blk_drewN ?_ _ | refine blk_drew ?_ | refine blk_alloc ?_ _)); exact BK570.out⟩, ⟨by repeat (first | (with_reducible first | exact HB.out | apply below_alloc | apply pw_below_drewN | apply below_drew1 | refine below_set ?_ GE548.out | refine below_set ?_ GE559.out | refine below_set ?_ GE564.out | refine below_set ?_ GE570.out) | exact HB.out)⟩⟩
                · replace c73 := Bool.eq_false_iff.mpr c73
                  subst c73
                  have H1 : (laws_FnExactBoxPut.j1 kj11 a1 t558 true a0_0 l0_1 t554 t555 t565 t566) = some r := by rw [if_neg (show ¬ (false = true) by decide)] at H; exact H
                  clear H
                  have H := H1
                  clear H1
                  have H' := Aside0.mk H
                  clear H
                  have hnb82 := NB570_548.out
                  have hnc82 := NB548_570.out
                  have hnb83 := NB570_559.out
                  have hnc83 := NB559_570.out
                  have hnb84 := NB570_564.out
                  have hnc84 := NB564_570.out
                  have hcz85_0 : w70.cell? ⟨gb570, 0, none⟩ = some (.int .i64 t565) := (blk_cell BK570.out 0).trans rfl
                  have hcz85_1 : w70.cell? ⟨gb570, 1, none⟩ = some (.slice Ao37 t566.length co37) := (blk_cell BK570.out 1).trans rfl
                  have hfz85_0 := blk_frozen BK570.out 0
                  have hfz85_1 := blk_frozen BK570.out 1
                  have hnb86 := NB559_548.out
                  have hnc86 := NB548_559.out
                  have hnb87 := NB559_564.out
                  have hnc87 := NB564_559.out
                  have hcz88_0 : w70.cell? ⟨gb559, 0, none⟩ = some (.int .i64 t554) := (blk_cell BK559.out 0).trans rfl
                  have hcz88_1 : w70.cell? ⟨gb559, 1, none⟩ = some (.slice Ao23 t555.length co23) := (blk_cell BK559.out 1).trans rfl
                  have hfz88_0 := blk_frozen BK559.out 0
                  have hfz88_1 := blk_frozen BK559.out 1
                  go_wp2_with (first | (go_at_call 29; (with_reducible refine (laws_eqBox.calls kj11 t565 _ _ t566 t554 _ _ t555 false _ ?side1 ?side2 ?side3 ?side4 A72.out).mono ?_); (case side1 => repeat (first | exact (Kd.R_reads' HO_571001.out).2.2 | (with_reducible refine Kd.C_alloc ?_ _) | (with_reducible refine Kd.C_drewN ?_ _) | (with_reducible refine Kd.C_drew ?_))); (case side2 => exact (Kd.R_reads' HO_571001.out).2.1); (case side3 => repeat (first | exact (Kd.R_reads' HO_560001.out).2.2 | (with_reducible refine Kd.C_alloc ?_ _) | (with_reducible refine Kd.C_drewN ?_ _) | (with_reducible refine Kd.C_drew ?_))); (case side4 => exact (Kd.R_reads' HO_560001.out).2.1); rintro e w89 ⟨rfl, hb⟩; have n0_ := Aside0.mk (Kd.R_below (by (with_reducible repeat (first | apply Kd.R_alloc | apply Kd.R_drewN | apply Kd.R_drew)); exact HO_560001.out) hb); have n1_ := Aside0.mk (Kd.R_below (by (with_reducible repeat (first | apply Kd.R_alloc | apply Kd.R_drewN | apply Kd.R_drew)); exact HO_565001.out) hb); have n2_ := Aside0.mk (Kd.R_below (by (with_reducible repeat (first | apply Kd.R_alloc | apply Kd.R_drewN | apply Kd.R_drew)); exact HO_571001.out) hb); have n3_ := Aside0.mk (Kd.R_below (by (with_reducible repeat (first | apply Kd.R_alloc | apply Kd.R_drewN | apply Kd.R_drew)); exact HO575.out) hb); have n4_ := Aside0.mk (blk_below (g := gb548) (o := .cells #[.int .i64 a0_0, .slice A0_1 l0_1.length c0_1] 39 (0, 0)) (by (with_reducible repeat (first | refine blk_drewN ?_ _ | refine blk_drew ?_ | refine blk_alloc ?_ _)); exact BK548.out) hb); have n5_ := Aside0.mk (blk_below (g := gb559) (o := .cells #[.int .i64 t554, .slice Ao23 t555.length co23] 33 (0, 0)) (by (with_reducible repeat (first | refine blk_drewN ?_ _ | refine blk_drew ?_ | refine blk_alloc ?_ _)); exact BK559.out) hb); have n6_ := Aside0.mk (blk_below (g := gb564) (o := .cells #[.int .i64 t560, .slice Ao30 t561.length co30] 33 (0, 0)) (by (with_reducible repeat (first | refine blk_drewN ?_ _ | refine blk_drew ?_ | refine blk_alloc ?_ _)); exact BK564.out) hb); have n7_ := Aside0.mk (blk_below (g := gb570) (o := .cells #[.int .i64 t565, .slice Ao37 t566.length co37] 33 (0, 0)) (by (with_reducible repeat (first | refine blk_drewN ?_ _ | refine blk_drew ?_ | refine blk_alloc ?_ _)); exact BK570.out) hb); have n8_ := Aside0.mk (below_step (by repeat (first | (with_reducible first | exact HB.out | apply below_alloc | apply pw_below_drewN | apply below_drew1 | refine below_set ?_ GE548.out | refine below_set ?_ GE559.out | refine below_set ?_ GE564.out | refine below_set ?_ GE570.out) | exact HB.out)) hb); clear HO_560001; clear HO_565001; clear HO_571001; clear HO575; clear BK548; clear BK559; clear BK564; clear BK570; clear HB; have HO_560001 := n0_; have HO_565001 := n1_; have HO_571001 := n2_; have HO575 := n3_; have BK548 := n4_; have BK559 := n5_; have BK564 := n6_; have BK570 := n7_; have HB := n8_; clear n0_ n1_ n2_ n3_ n4_ n5_ n6_ n7_ n8_; (try clear hb); (try clear hb2); (try clear hk); (try clear hi)))
                  go_meet
                  case rel => exact ⟨_, (true), (by first | rfl | (simp; done) | (simp [*]; done)), H', ⟨by have := HJ11.out; first | omega | exact Nat.le_refl _⟩, ⟨by (with_reducible repeat (first | apply Kd.R_alloc | apply Kd.R_drewN | apply Kd.R_drew)); exact Kd.R_mono HO_560001.out (fun _ hk => ⟨hk.1, hk.2.1⟩)⟩, ⟨by (with_reducible repeat (first | apply Kd.R_alloc | apply Kd.R_drewN | apply Kd.R_drew)); exact Kd.R_mono HO_565001.out (fun _ hk => ⟨hk.1.1, hk.1.2⟩)⟩, ⟨by (with_reducible repeat (first | apply Kd.R_alloc | apply Kd.R_drewN | apply Kd.R_drew)); exact Kd.R_mono HO_571001.out (fun _ hk => ⟨hk.1, hk.2.1⟩)⟩, ⟨by (with_reducible repeat (first | refine blk_drewN ?_ _ | refine blk_drew ?_ | refine blk_alloc ?_ _)); exact BK548.out⟩, ⟨by (with_reducible repeat (first | refine blk_drewN ?_ _ | refine blk_drew ?_ | refine blk_alloc ?_ _)); exact BK559.out⟩, ⟨by (with_reducible repeat (first | refine blk_drewN ?_ _ | refine blk_drew ?_ | refine blk_alloc ?_ _)); exact BK564.out⟩, ⟨by (with_reducible repeat (first | refine blk_drewN ?_ _ | refine blk_drew ?_ | refine blk_alloc ?_ _)); exact BK570.out⟩, ⟨by repeat (first | (with_reducible first | exact HB.out | apply below_alloc | apply pw_below_drewN | apply below_drew1 | refine below_set ?_ GE548.out | refine below_set ?_ GE559.out | refine below_set ?_ GE564.out | refine below_set ?_ GE570.out) | exact HB.out)⟩⟩
            case rest =>
              clear HC61
              try clear c1
              try clear c2
              try clear p2
              try clear c3
              try clear c4
              try clear c4b0
              try clear c5
              try clear c6
              try clear c7
              try clear c8
              try clear c10
              try clear c21
              try clear c25
              try clear c27
              try clear c28
              try clear c29
              try clear c33
              try clear c34
              try clear c35
              try clear c37
              try clear c38
              try clear c39
              try clear c40
              try clear c41
              try clear c42
              try clear c44
              try clear c45
              try clear c48
              try clear c49
              try clear c50
              try clear c52
              try clear c53
              try clear c56
              try clear c59
              try clear c66
              try clear c67
              try clear c68
              try clear c71
              try clear c71b0
              try clear c73
              try clear c74
              try clear c75
              try clear c76
              try clear c78
              try clear c79
              try clear c82
              try clear c83
              try clear c84
              try clear c86
              try clear c87
              try clear hcz14_0
              try clear hcz14_1
              try clear hcz16_0
              try clear hcz16_1
              try clear hcz22_0
              try clear hcz22_1
              try clear hcz24_0
              try clear hcz24_1
              try clear hcz29_0
              try clear hcz29_1
              try clear hcz36_0
              try clear hcz36_1
              try clear hcz43_0
              try clear hcz43_1
              try clear hcz46_0
              try clear hcz46_1
              try clear hcz51_0
              try clear hcz51_1
              try clear hcz54_0
              try clear hcz54_1
              try clear hcz69_0
              try clear hcz69_1
              try clear hcz6_0
              try clear hcz6_1
              try clear hcz77_0
              try clear hcz77_1
              try clear hcz80_0
              try clear hcz80_1
              try clear hcz85_0
              try clear hcz85_1
              try clear hcz88_0
              try clear hcz88_1
              try clear hfz14_0
              try clear hfz14_1
              try clear hfz16_0
              try clear hfz16_1
              try clear hfz22_0
              try clear hfz22_1
              try clear hfz24_0
              try clear hfz24_1
              try clear hfz29_0
              try clear hfz29_1
              try clear hfz36_0
              try clear hfz36_1
              try clear hfz43_0
              try clear hfz43_1
              try clear hfz46_0
              try clear hfz46_1
              try clear hfz51_0
              try clear hfz51_1
              try clear hfz54_0
              try clear hfz54_1
              try clear hfz69_0
              try clear hfz69_1
              try clear hfz6_0
              try clear hfz6_1
              try clear hfz77_0
              try clear hfz77_1
              try clear hfz80_0
              try clear hfz80_1
              try clear hfz85_0
              try clear hfz85_1
              try clear hfz88_0
              try clear hfz88_1
              try clear p2
              obtain ⟨kq, x65_60, rfl, HA, HJ60, HO_560001, HO_565001, HO_571001, BK548, BK559, BK564, BK570, HB⟩ := hcut
              have hl565001_60 := (Kd.R_reads' HO_565001.out).1
              rw [hl565001_60] at HO_565001
              (try simp only [hl565001_60])
              (try simp only [hl565001_60] at BK548)
              (try simp only [hl565001_60] at BK559)
              (try simp only [hl565001_60] at BK564)
              (try simp only [hl565001_60] at BK570)
              (try simp only [hl565001_60] at HO_560001)
              (try simp only [hl565001_60] at HO_571001)
              cases kq with
              | zero => exact absurd HA.out (by simp [laws_FnExactBoxPut.j1])
              | succ kj60 =>
                have H := HA.out
                clear HA
                simp only [laws_FnExactBoxPut.j1] at H
                by_cases c90 : x65_60 = true
                · subst c90
                  have H1 : (some false) = some r := by rw [if_pos rfl] at H; exact H
                  clear H
                  have H := H1
                  clear H1
                  obtain rfl := Option.some.inj H
                  go_wp2
                  go_ret
                  exact ⟨by first | rfl | (simp [errW_none, errW_some] <;> rfl) | (simp [*, errW_none, errW_some] <;> rfl), by repeat (first | (with_reducible first | exact HB.out | apply below_alloc | apply pw_below_drewN | apply below_drew1 | refine below_set ?_ GE548.out | refine below_set ?_ GE559.out | refine below_set ?_ GE564.out | refine below_set ?_ GE570.out) | exact HB.out)⟩
                · replace c90 := Bool.eq_false_iff.mpr c90
                  subst c90
                  have H1 : ((laws_markBox.f kj60 t565 t566 1).bind fun bt580 => ((laws_heldBox.f kj60 t565 bt580.2 1).bind fun t582 => (if t582 < 0 then (some false) else (if t582 = bt580.1 then ((laws_toBox.f kj60 a0_0 l0_1).bind fun bt583 => ((impl_BoxPut.f kj60 bt583.1 bt583.2 a1).bind fun bt587 => ((laws_eqBox.f kj60 bt587.1 bt587.2.1 t554 t555).bind fun t593 => (if t593 = true then (laws_FnExactBoxPut.j2 kj60 bt580.1 (bt587.2.2 != t558) t565 bt580.2) else (laws_FnExactBoxPut.j2 kj60 bt580.1 true t565 bt580.2))))) else (some false))))) = some r := by rw [if_neg (show ¬ (false = true) by decide)] at H; exact H
                  clear H
                  have H := H1
                  clear H1
                  replace H := Option.bind_eq_some_iff.mp H
                  obtain ⟨⟨t580, t581⟩, A910, H⟩ := H
                  replace H : ((laws_heldBox.f kj60 t565 t581 1).bind fun t582 => (if t582 < 0 then (some false) else (if t582 = t580 then ((laws_toBox.f kj60 a0_0 l0_1).bind fun bt583 => ((impl_BoxPut.f kj60 bt583.1 bt583.2 a1).bind fun bt587 => ((laws_eqBox.f kj60 bt587.1 bt587.2.1 t554 t555).bind fun t593 => (if t593 = true then (laws_FnExactBoxPut.j2 kj60 t580 (bt587.2.2 != t558) t565 t581) else (laws_FnExactBoxPut.j2 kj60 t580 true t565 t581))))) else (some false)))) = some r := H
                  have A91 := Aside0.mk A910
                  clear A910
                  replace H := Option.bind_eq_some_iff.mp H
                  obtain ⟨t582, A920, H⟩ := H
                  replace H : (if t582 < 0 then (some false) else (if t582 = t580 then ((laws_toBox.f kj60 a0_0 l0_1).bind fun bt583 => ((impl_BoxPut.f kj60 bt583.1 bt583.2 a1).bind fun bt587 => ((laws_eqBox.f kj60 bt587.1 bt587.2.1 t554 t555).bind fun t593 => (if t593 = true then (laws_FnExactBoxPut.j2 kj60 t580 (bt587.2.2 != t558) t565 t581) else (laws_FnExactBoxPut.j2 kj60 t580 true t565 t581))))) else (some false))) = some r := H
                  have A92 := Aside0.mk A920
                  clear A920
                  by_cases c93 : t582 < 0
                  · rw [if_pos c93] at H
                    have c93b0 : decide (t582 < 0) = true := decide_eq_true c93
                    clear c93
                    obtain rfl := Option.some.inj H
                    have hnb94 := NB570_548.out
                    have hnc94 := NB548_570.out
                    have hnb95 := NB570_559.out
                    have hnc95 := NB559_570.out
                    have hnb96 := NB570_564.out
                    have hnc96 := NB564_570.out
                    have hcz97_0 : wc.cell? ⟨gb570, 0, none⟩ = some (.int .i64 t565) := (blk_cell BK570.out 0).trans rfl
                    have hcz97_1 : wc.cell? ⟨gb570, 1, none⟩ = some (.slice Ao37 t566.length co37) := (blk_cell BK570.out 1).trans rfl
                    have hfz97_0 := blk_frozen BK570.out 0
                    have hfz97_1 := blk_frozen BK570.out 1
                    go_wp2_with (first | ((with_reducible refine gate_callee (f := 39) rfl ?_); refine goesL_ (some 68) rfl rfl Try.func39 (by kernel_rfl) rfl #[.agg #[.int .i64 t565, .slice Ao37 t566.length co37], .int .i64 1] rfl (by (try simp only [List.map_toArray, List.map_cons, List.map_nil]); first | done | rfl | (simp only [List.length_drop, List.length_take]; rfl)) ?_; (with_reducible refine (laws_markBox.calls kj60 t565 (fun k_ => some k_ = (.slice Ao37 t566.length co37 : Value).ownBlock) (.slice Ao37 t566.length co37) t566 1 t580 t581 w _ ?side1 ?side2 A91.out).mono ?_); (case side1 => repeat (first | (with_reducible first | exact HB.out | apply below_alloc | apply pw_below_drewN | apply below_drew1 | refine below_set ?_ GE548.out | refine below_set ?_ GE559.out | refine below_set ?_ GE564.out | refine below_set ?_ GE570.out) | exact HB.out)); (case side2 => exact Kd.R_tight rfl HO_571001.out); rintro e w98 ⟨rfl, hy0, hb, hkp⟩; refine ⟨_, rfl, ?_⟩; have n0_ := Aside0.mk (Kd.R_mono (ok' := fun k_ => some k_ ≠ (.slice Ao30 t578.length co30 : Value).ownBlock ∧ some k_ ≠ (.slice Ao37 t566.length co37 : Value).ownBlock) (Kd.R_keptB (HO_560001.out) hkp (fun k_ hk_ hs_ => (hk_.2) hs_)) (fun k_ hk_ => ⟨hk_.1.1, hk_.1.2⟩)); have n1_ := Aside0.mk (Kd.R_mono (ok' := fun k_ => some k_ ≠ (.slice Ao23 t555.length co23 : Value).ownBlock ∧ some k_ ≠ (.slice Ao37 t566.length co37 : Value).ownBlock) (Kd.R_keptB (HO_565001.out) hkp (fun k_ hk_ hs_ => (hk_.2) hs_)) (fun k_ hk_ => ⟨hk_.1.1, hk_.1.2⟩)); have n2_ := Aside0.mk (Kd.R_reok rfl hy0 (fun k_ e_ => HO_571001.out.1 k_ e_)); have n3_ := Aside0.mk (blk_kept (by (with_reducible repeat (first | refine blk_drewN ?_ _ | refine blk_drew ?_ | refine blk_alloc ?_ _)); exact BK548.out) hkp (fun hs_ => (fun e_ => (Kd.R_ne HO_571001.out BK548.out (by decide)) e_) hs_)); have n4_ := Aside0.mk (blk_kept (by (with_reducible repeat (first | refine blk_drewN ?_ _ | refine blk_drew ?_ | refine blk_alloc ?_ _)); exact BK559.out) hkp (fun hs_ => (fun e_ => (Kd.R_ne HO_571001.out BK559.out (by decide)) e_) hs_)); have n5_ := Aside0.mk (blk_kept (by (with_reducible repeat (first | refine blk_drewN ?_ _ | refine blk_drew ?_ | refine blk_alloc ?_ _)); exact BK564.out) hkp (fun hs_ => (fun e_ => (Kd.R_ne HO_571001.out BK564.out (by decide)) e_) hs_)); have n6_ := Aside0.mk (blk_kept (by (with_reducible repeat (first | refine blk_drewN ?_ _ | refine blk_drew ?_ | refine blk_alloc ?_ _)); exact BK570.out) hkp (fun hs_ => (fun e_ => (Kd.R_ne HO_571001.out BK570.out (by decide)) e_) hs_)); have n7_ := Aside0.mk (hb); clear HO_560001; clear HO_565001; clear HO_571001; clear BK548; clear BK559; clear BK564; clear BK570; clear HB; have HO_560001 := n0_; have HO_565001 := n1_; have HO_571001 := n2_; have BK548 := n3_; have BK559 := n4_; have BK564 := n5_; have BK570 := n6_; have HB := n7_; clear n0_ n1_ n2_ n3_ n4_ n5_ n6_ n7_; (try clear hb); (try clear hkp); (try clear hy0); have hcz99_0 : w98.cell? ⟨gb570, 0, none⟩ = some (.int .i64 t565) := (blk_cell BK570.out 0).trans rfl; have hcz99_1 : w98.cell? ⟨gb570, 1, none⟩ = some (.slice Ao37 t566.length co37) := (blk_cell BK570.out 1).trans rfl; have hfz99_0 := blk_frozen BK570.out 0; have hfz99_1 := blk_frozen BK570.out 1) | ((with_reducible refine gate_callee (f := 40) rfl ?_); refine goesL_ (some 71) rfl rfl Try.func40 (by kernel_rfl) rfl #[.agg #[.int .i64 t565, .slice Ao37 t581.length co37], .int .i64 1] rfl (by (try simp only [List.map_toArray, List.map_cons, List.map_nil]); first | done | (rw [show t581.length = t566.length from (Kd.R_reads' HO_571001.out).1.symm] <;> rfl) | rfl | (simp only [List.length_drop, List.length_take]; rfl)) ?_; (with_reducible refine (laws_heldBox.calls kj60 t565 _ _ t581 1 t582 _ ?side1 ?side2 A92.out).mono ?_); (case side1 => repeat (first | exact (Kd.R_reads' HO_571001.out).2.2 | (with_reducible refine Kd.C_alloc ?_ _) | (with_reducible refine Kd.C_drewN ?_ _) | (with_reducible refine Kd.C_drew ?_))); (case side2 => rw [show t581.length = t566.length from (Kd.R_reads' HO_571001.out).1.symm]; exact (Kd.R_reads' HO_571001.out).2.1); rintro e w100 ⟨rfl, hb⟩; refine ⟨_, rfl, ?_⟩; have n0_ := Aside0.mk (Kd.R_below (by (with_reducible repeat (first | apply Kd.R_alloc | apply Kd.R_drewN | apply Kd.R_drew)); exact HO_560001.out) hb); have n1_ := Aside0.mk (Kd.R_below (by (with_reducible repeat (first | apply Kd.R_alloc | apply Kd.R_drewN | apply Kd.R_drew)); exact HO_565001.out) hb); have n2_ := Aside0.mk (Kd.R_below (by (with_reducible repeat (first | apply Kd.R_alloc | apply Kd.R_drewN | apply Kd.R_drew)); exact HO_571001.out) hb); have n3_ := Aside0.mk (blk_below (g := gb548) (o := .cells #[.int .i64 a0_0, .slice A0_1 l0_1.length c0_1] 39 (0, 0)) (by (with_reducible repeat (first | refine blk_drewN ?_ _ | refine blk_drew ?_ | refine blk_alloc ?_ _)); exact BK548.out) hb); have n4_ := Aside0.mk (blk_below (g := gb559) (o := .cells #[.int .i64 t554, .slice Ao23 t555.length co23] 33 (0, 0)) (by (with_reducible repeat (first | refine blk_drewN ?_ _ | refine blk_drew ?_ | refine blk_alloc ?_ _)); exact BK559.out) hb); have n5_ := Aside0.mk (blk_below (g := gb564) (o := .cells #[.int .i64 t560, .slice Ao30 t578.length co30] 33 (0, 0)) (by (with_reducible repeat (first | refine blk_drewN ?_ _ | refine blk_drew ?_ | refine blk_alloc ?_ _)); exact BK564.out) hb); have n6_ := Aside0.mk (blk_below (g := gb570) (o := .cells #[.int .i64 t565, .slice Ao37 t566.length co37] 33 (0, 0)) (by (with_reducible repeat (first | refine blk_drewN ?_ _ | refine blk_drew ?_ | refine blk_alloc ?_ _)); exact BK570.out) hb); have n7_ := Aside0.mk (below_step (by repeat (first | (with_reducible first | exact HB.out | apply below_alloc | apply pw_below_drewN | apply below_drew1 | refine below_set ?_ GE548.out | refine below_set ?_ GE559.out | refine below_set ?_ GE564.out | refine below_set ?_ GE570.out) | exact HB.out)) hb); clear HO_560001; clear HO_565001; clear HO_571001; clear BK548; clear BK559; clear BK564; clear BK570; clear HB; have HO_560001 := n0_; have HO_565001 := n1_; have HO_571001 := n2_; have BK548 := n3_; have BK559 := n4_; have BK564 := n5_; have BK570 := n6_; have HB := n7_; clear n0_ n1_ n2_ n3_ n4_ n5_ n6_ n7_; (try clear hb); (try clear hb2); (try clear hk); (try clear hi)))
                    go_ret
                    exact ⟨by first | rfl | (simp [errW_none, errW_some] <;> rfl) | (simp [*, errW_none, errW_some] <;> rfl), by repeat (first | (with_reducible first | exact HB.out | apply below_alloc | apply pw_below_drewN | apply below_drew1 | refine below_set ?_ GE548.out | refine below_set ?_ GE559.out | refine below_set ?_ GE564.out | refine below_set ?_ GE570.out) | exact HB.out)⟩
                  · rw [if_neg c93] at H
                    have c93b0 : decide (t582 < 0) = false := decide_eq_false c93
                    clear c93
                    by_cases c101 : t582 = t580
                    · rw [if_pos c101] at H
                      have c101b0 : (t582 == t580) = true := beq_iff_eq.mpr c101
                      have c101b1 : (t582 != t580) = false := bne_eq_false_iff_eq.mpr c101
                      clear c101
                      replace H := Option.bind_eq_some_iff.mp H
                      obtain ⟨⟨t583, t584⟩, A1020, H⟩ := H
                      replace H : ((impl_BoxPut.f kj60 t583 t584 a1).bind fun bt587 => ((laws_eqBox.f kj60 bt587.1 bt587.2.1 t554 t555).bind fun t593 => (if t593 = true then (laws_FnExactBoxPut.j2 kj60 t580 (bt587.2.2 != t558) t565 t581) else (laws_FnExactBoxPut.j2 kj60 t580 true t565 t581)))) = some r := H
                      have A102 := Aside0.mk A1020
                      clear A1020
                      replace H := Option.bind_eq_some_iff.mp H
                      obtain ⟨⟨t587, t588, t591⟩, A1030, H⟩ := H
                      replace H : ((laws_eqBox.f kj60 t587 t588 t554 t555).bind fun t593 => (if t593 = true then (laws_FnExactBoxPut.j2 kj60 t580 (t591 != t558) t565 t581) else (laws_FnExactBoxPut.j2 kj60 t580 true t565 t581))) = some r := H
                      have A103 := Aside0.mk A1030
                      clear A1030
                      have HC104 := Aside0.mk H
                      clear H
                      have hnb105 := NB570_548.out
                      have hnc105 := NB548_570.out
                      have hnb106 := NB570_559.out
                      have hnc106 := NB559_570.out
                      have hnb107 := NB570_564.out
                      have hnc107 := NB564_570.out
                      have hcz108_0 : wc.cell? ⟨gb570, 0, none⟩ = some (.int .i64 t565) := (blk_cell BK570.out 0).trans rfl
                      have hcz108_1 : wc.cell? ⟨gb570, 1, none⟩ = some (.slice Ao37 t566.length co37) := (blk_cell BK570.out 1).trans rfl
                      have hfz108_0 := blk_frozen BK570.out 0
                      have hfz108_1 := blk_frozen BK570.out 1
                      go_upto_region 25 with (first | ((with_reducible refine gate_callee (f := 39) rfl ?_); refine goesL_ (some 68) rfl rfl Try.func39 (by kernel_rfl) rfl #[.agg #[.int .i64 t565, .slice Ao37 t566.length co37], .int .i64 1] rfl (by (try simp only [List.map_toArray, List.map_cons, List.map_nil]); first | done | rfl | (simp only [List.length_drop, List.length_take]; rfl)) ?_; (with_reducible refine (laws_markBox.calls kj60 t565 (fun k_ => some k_ = (.slice Ao37 t566.length co37 : Value).ownBlock) (.slice Ao37 t566.length co37) t566 1 t580 t581 w _ ?side1 ?side2 A91.out).mono ?_); (case side1 => repeat (first | (with_reducible first | exact HB.out | apply below_alloc | apply pw_below_drewN | apply below_drew1 | refine below_set ?_ GE548.out | refine below_set ?_ GE559.out | refine below_set ?_ GE564.out | refine below_set ?_ GE570.out) | exact HB.out)); (case side2 => exact Kd.R_tight rfl HO_571001.out); rintro e w109 ⟨rfl, hy0, hb, hkp⟩; refine ⟨_, rfl, ?_⟩; have n0_ := Aside0.mk (Kd.R_mono (ok' := fun k_ => some k_ ≠ (.slice Ao30 t578.length co30 : Value).ownBlock ∧ some k_ ≠ (.slice Ao37 t566.length co37 : Value).ownBlock) (Kd.R_keptB (HO_560001.out) hkp (fun k_ hk_ hs_ => (hk_.2) hs_)) (fun k_ hk_ => ⟨hk_.1.1, hk_.1.2⟩)); have n1_ := Aside0.mk (Kd.R_mono (ok' := fun k_ => some k_ ≠ (.slice Ao23 t555.length co23 : Value).ownBlock ∧ some k_ ≠ (.slice Ao37 t566.length co37 : Value).ownBlock) (Kd.R_keptB (HO_565001.out) hkp (fun k_ hk_ hs_ => (hk_.2) hs_)) (fun k_ hk_ => ⟨hk_.1.1, hk_.1.2⟩)); have n2_ := Aside0.mk (Kd.R_reok rfl hy0 (fun k_ e_ => HO_571001.out.1 k_ e_)); have n3_ := Aside0.mk (blk_kept (by (with_reducible repeat (first | refine blk_drewN ?_ _ | refine blk_drew ?_ | refine blk_alloc ?_ _)); exact BK548.out) hkp (fun hs_ => (fun e_ => (Kd.R_ne HO_571001.out BK548.out (by decide)) e_) hs_)); have n4_ := Aside0.mk (blk_kept (by (with_reducible repeat (first | refine blk_drewN ?_ _ | refine blk_drew ?_ | refine blk_alloc ?_ _)); exact BK559.out) hkp (fun hs_ => (fun e_ => (Kd.R_ne HO_571001.out BK559.out (by decide)) e_) hs_)); have n5_ := Aside0.mk (blk_kept (by (with_reducible repeat (first | refine blk_drewN ?_ _ | refine blk_drew ?_ | refine blk_alloc ?_ _)); exact BK564.out) hkp (fun hs_ => (fun e_ => (Kd.R_ne HO_571001.out BK564.out (by decide)) e_) hs_)); have n6_ := Aside0.mk (blk_kept (by (with_reducible repeat (first | refine blk_drewN ?_ _ | refine blk_drew ?_ | refine blk_alloc ?_ _)); exact BK570.out) hkp (fun hs_ => (fun e_ => (Kd.R_ne HO_571001.out BK570.out (by decide)) e_) hs_)); have n7_ := Aside0.mk (hb); clear HO_560001; clear HO_565001; clear HO_571001; clear BK548; clear BK559; clear BK564; clear BK570; clear HB; have HO_560001 := n0_; have HO_565001 := n1_; have HO_571001 := n2_; have BK548 := n3_; have BK559 := n4_; have BK564 := n5_; have BK570 := n6_; have HB := n7_; clear n0_ n1_ n2_ n3_ n4_ n5_ n6_ n7_; (try clear hb); (try clear hkp); (try clear hy0); have hcz110_0 : w109.cell? ⟨gb570, 0, none⟩ = some (.int .i64 t565) := (blk_cell BK570.out 0).trans rfl; have hcz110_1 : w109.cell? ⟨gb570, 1, none⟩ = some (.slice Ao37 t566.length co37) := (blk_cell BK570.out 1).trans rfl; have hfz110_0 := blk_frozen BK570.out 0; have hfz110_1 := blk_frozen BK570.out 1) | ((with_reducible refine gate_callee (f := 40) rfl ?_); refine goesL_ (some 71) rfl rfl Try.func40 (by kernel_rfl) rfl #[.agg #[.int .i64 t565, .slice Ao37 t581.length co37], .int .i64 1] rfl (by (try simp only [List.map_toArray, List.map_cons, List.map_nil]); first | done | (rw [show t581.length = t566.length from (Kd.R_reads' HO_571001.out).1.symm] <;> rfl) | rfl | (simp only [List.length_drop, List.length_take]; rfl)) ?_; (with_reducible refine (laws_heldBox.calls kj60 t565 _ _ t581 1 t582 _ ?side1 ?side2 A92.out).mono ?_); (case side1 => repeat (first | exact (Kd.R_reads' HO_571001.out).2.2 | (with_reducible refine Kd.C_alloc ?_ _) | (with_reducible refine Kd.C_drewN ?_ _) | (with_reducible refine Kd.C_drew ?_))); (case side2 => rw [show t581.length = t566.length from (Kd.R_reads' HO_571001.out).1.symm]; exact (Kd.R_reads' HO_571001.out).2.1); rintro e w111 ⟨rfl, hb⟩; refine ⟨_, rfl, ?_⟩; have n0_ := Aside0.mk (Kd.R_below (by (with_reducible repeat (first | apply Kd.R_alloc | apply Kd.R_drewN | apply Kd.R_drew)); exact HO_560001.out) hb); have n1_ := Aside0.mk (Kd.R_below (by (with_reducible repeat (first | apply Kd.R_alloc | apply Kd.R_drewN | apply Kd.R_drew)); exact HO_565001.out) hb); have n2_ := Aside0.mk (Kd.R_below (by (with_reducible repeat (first | apply Kd.R_alloc | apply Kd.R_drewN | apply Kd.R_drew)); exact HO_571001.out) hb); have n3_ := Aside0.mk (blk_below (g := gb548) (o := .cells #[.int .i64 a0_0, .slice A0_1 l0_1.length c0_1] 39 (0, 0)) (by (with_reducible repeat (first | refine blk_drewN ?_ _ | refine blk_drew ?_ | refine blk_alloc ?_ _)); exact BK548.out) hb); have n4_ := Aside0.mk (blk_below (g := gb559) (o := .cells #[.int .i64 t554, .slice Ao23 t555.length co23] 33 (0, 0)) (by (with_reducible repeat (first | refine blk_drewN ?_ _ | refine blk_drew ?_ | refine blk_alloc ?_ _)); exact BK559.out) hb); have n5_ := Aside0.mk (blk_below (g := gb564) (o := .cells #[.int .i64 t560, .slice Ao30 t578.length co30] 33 (0, 0)) (by (with_reducible repeat (first | refine blk_drewN ?_ _ | refine blk_drew ?_ | refine blk_alloc ?_ _)); exact BK564.out) hb); have n6_ := Aside0.mk (blk_below (g := gb570) (o := .cells #[.int .i64 t565, .slice Ao37 t566.length co37] 33 (0, 0)) (by (with_reducible repeat (first | refine blk_drewN ?_ _ | refine blk_drew ?_ | refine blk_alloc ?_ _)); exact BK570.out) hb); have n7_ := Aside0.mk (below_step (by repeat (first | (with_reducible first | exact HB.out | apply below_alloc | apply pw_below_drewN | apply below_drew1 | refine below_set ?_ GE548.out | refine below_set ?_ GE559.out | refine below_set ?_ GE564.out | refine below_set ?_ GE570.out) | exact HB.out)) hb); clear HO_560001; clear HO_565001; clear HO_571001; clear BK548; clear BK559; clear BK564; clear BK570; clear HB; have HO_560001 := n0_; have HO_565001 := n1_; have HO_571001 := n2_; have BK548 := n3_; have BK559 := n4_; have BK564 := n5_; have BK570 := n6_; have HB := n7_; clear n0_ n1_ n2_ n3_ n4_ n5_ n6_ n7_; (try clear hb); (try clear hb2); (try clear hk); (try clear hi); have hnb112 := NB548_559.out; have hnc112 := NB559_548.out; have hnb113 := NB548_564.out; have hnc113 := NB564_548.out; have hcz114_0 : w111.cell? ⟨gb548, 0, none⟩ = some (.int .i64 a0_0) := (blk_cell BK548.out 0).trans rfl; have hcz114_1 : w111.cell? ⟨gb548, 1, none⟩ = some (.slice A0_1 l0_1.length c0_1) := (blk_cell BK548.out 1).trans rfl; have hfz114_0 := blk_frozen BK548.out 0; have hfz114_1 := blk_frozen BK548.out 1) | ((with_reducible refine gate_callee (f := 27) rfl ?_); refine goesL_ (some 79) rfl rfl Try.func27 (by kernel_rfl) rfl #[.agg #[.int .i64 a0_0, .slice A0_1 l0_1.length c0_1]] rfl (by (try simp only [List.map_toArray, List.map_cons, List.map_nil]); first | done | rfl | (simp only [List.length_drop, List.length_take]; rfl)) ?_; (with_reducible refine (laws_toBox.calls kj60 a0_0 _ _ l0_1 t583 t584 _ ?side1 ?side2 A102.out).mono ?_); (case side1 => repeat (first | exact (Kd.C_below HR0_1.out HB.out) | (with_reducible refine Kd.C_alloc ?_ _) | (with_reducible refine Kd.C_drewN ?_ _) | (with_reducible refine Kd.C_drew ?_))); (case side2 => exact HC0_1.out); rintro e w115 ⟨v585, rfl, ho0, hb⟩; refine ⟨_, rfl, ?_⟩; have n0_ := Aside0.mk (Kd.R_elder' (by (with_reducible repeat (first | apply Kd.R_alloc | apply Kd.R_drewN | apply Kd.R_drew)); exact HO_560001.out) (Kd.R_base ho0) hb); have n1_ := Aside0.mk (Kd.R_elder' (by (with_reducible repeat (first | apply Kd.R_alloc | apply Kd.R_drewN | apply Kd.R_drew)); exact HO_565001.out) (Kd.R_base ho0) hb); have n2_ := Aside0.mk (Kd.R_elder' (by (with_reducible repeat (first | apply Kd.R_alloc | apply Kd.R_drewN | apply Kd.R_drew)); exact HO_571001.out) (Kd.R_base ho0) hb); have n3_ := Aside0.mk (Kd.R_lower (Kd.R_new' (Kd.R_new' (Kd.R_new' ho0 (Kd.R_lt (by (with_reducible repeat (first | apply Kd.R_alloc | apply Kd.R_drewN | apply Kd.R_drew)); exact HO_560001.out))) (Kd.R_lt (by (with_reducible repeat (first | apply Kd.R_alloc | apply Kd.R_drewN | apply Kd.R_drew)); exact HO_565001.out))) (Kd.R_lt (by (with_reducible repeat (first | apply Kd.R_alloc | apply Kd.R_drewN | apply Kd.R_drew)); exact HO_571001.out))) (below_size (by repeat (first | (with_reducible first | exact HB.out | apply below_alloc | apply pw_below_drewN | apply below_drew1 | refine below_set ?_ GE548.out | refine below_set ?_ GE559.out | refine below_set ?_ GE564.out | refine below_set ?_ GE570.out) | exact HB.out)))); have n4_ := Aside0.mk (blk_below (g := gb548) (o := .cells #[.int .i64 a0_0, .slice A0_1 l0_1.length c0_1] 39 (0, 0)) (by (with_reducible repeat (first | refine blk_drewN ?_ _ | refine blk_drew ?_ | refine blk_alloc ?_ _)); exact BK548.out) hb); have n5_ := Aside0.mk (blk_below (g := gb559) (o := .cells #[.int .i64 t554, .slice Ao23 t555.length co23] 33 (0, 0)) (by (with_reducible repeat (first | refine blk_drewN ?_ _ | refine blk_drew ?_ | refine blk_alloc ?_ _)); exact BK559.out) hb); have n6_ := Aside0.mk (blk_below (g := gb564) (o := .cells #[.int .i64 t560, .slice Ao30 t578.length co30] 33 (0, 0)) (by (with_reducible repeat (first | refine blk_drewN ?_ _ | refine blk_drew ?_ | refine blk_alloc ?_ _)); exact BK564.out) hb); have n7_ := Aside0.mk (blk_below (g := gb570) (o := .cells #[.int .i64 t565, .slice Ao37 t566.length co37] 33 (0, 0)) (by (with_reducible repeat (first | refine blk_drewN ?_ _ | refine blk_drew ?_ | refine blk_alloc ?_ _)); exact BK570.out) hb); have n8_ := Aside0.mk (below_step (by repeat (first | (with_reducible first | exact HB.out | apply below_alloc | apply pw_below_drewN | apply below_drew1 | refine below_set ?_ GE548.out | refine below_set ?_ GE559.out | refine below_set ?_ GE564.out | refine below_set ?_ GE570.out) | exact HB.out)) hb); clear HO_560001; clear HO_565001; clear HO_571001; clear BK548; clear BK559; clear BK564; clear BK570; clear HB; have HO_560001 := n0_; have HO_565001 := n1_; have HO_571001 := n2_; have HO586 := n3_; have BK548 := n4_; have BK559 := n5_; have BK564 := n6_; have BK570 := n7_; have HB := n8_; clear n0_ n1_ n2_ n3_ n4_ n5_ n6_ n7_ n8_; (try clear hb); (try clear hb2); (try clear hk); (try clear hi); (try clear ho0); obtain ⟨Ao116, co116, eo116⟩ := Kd.R_slice HO586.out; subst eo116) | ((with_reducible refine gate_callee (f := 38) rfl ?_); refine goesL_ (some 81) rfl rfl Try.func38 (by kernel_rfl) rfl #[.agg #[.int .i64 t583, .slice Ao116 t584.length co116], .int .i64 a1] rfl (by (try simp only [List.map_toArray, List.map_cons, List.map_nil]); first | done | rfl | (simp only [List.length_drop, List.length_take]; rfl)) ?_; (with_reducible refine (impl_BoxPut.calls kj60 t583 _ _ t584 a1 t587 t588 t591 _ ?side1 ?side2 A103.out).mono ?_); (case side1 => repeat (first | exact (Kd.R_reads' HO586.out).2.2 | (with_reducible refine Kd.C_alloc ?_ _) | (with_reducible refine Kd.C_drewN ?_ _) | (with_reducible refine Kd.C_drew ?_))); (case side2 => exact (Kd.R_reads' HO586.out).2.1); rintro e w117 ⟨v589, rfl, ho0, hb⟩; refine ⟨_, rfl, ?_⟩; have n0_ := Aside0.mk (Kd.R_elder' (by (with_reducible repeat (first | apply Kd.R_alloc | apply Kd.R_drewN | apply Kd.R_drew)); exact HO_560001.out) (Kd.R_base ho0) hb); have n1_ := Aside0.mk (Kd.R_elder' (by (with_reducible repeat (first | apply Kd.R_alloc | apply Kd.R_drewN | apply Kd.R_drew)); exact HO_565001.out) (Kd.R_base ho0) hb); have n2_ := Aside0.mk (Kd.R_elder' (by (with_reducible repeat (first | apply Kd.R_alloc | apply Kd.R_drewN | apply Kd.R_drew)); exact HO_571001.out) (Kd.R_base ho0) hb); have n3_ := Aside0.mk (Kd.R_elder' (by (with_reducible repeat (first | apply Kd.R_alloc | apply Kd.R_drewN | apply Kd.R_drew)); exact HO586.out) (Kd.R_base ho0) hb); have n4_ := Aside0.mk (Kd.R_lower (Kd.R_new' (Kd.R_new' (Kd.R_new' (Kd.R_new' ho0 (Kd.R_lt (by (with_reducible repeat (first | apply Kd.R_alloc | apply Kd.R_drewN | apply Kd.R_drew)); exact HO_560001.out))) (Kd.R_lt (by (with_reducible repeat (first | apply Kd.R_alloc | apply Kd.R_drewN | apply Kd.R_drew)); exact HO_565001.out))) (Kd.R_lt (by (with_reducible repeat (first | apply Kd.R_alloc | apply Kd.R_drewN | apply Kd.R_drew)); exact HO_571001.out))) (Kd.R_lt (by (with_reducible repeat (first | apply Kd.R_alloc | apply Kd.R_drewN | apply Kd.R_drew)); exact HO586.out))) (below_size (by repeat (first | (with_reducible first | exact HB.out | apply below_alloc | apply pw_below_drewN | apply below_drew1 | refine below_set ?_ GE548.out | refine below_set ?_ GE559.out | refine below_set ?_ GE564.out | refine below_set ?_ GE570.out) | exact HB.out)))); have n5_ := Aside0.mk (blk_below (g := gb548) (o := .cells #[.int .i64 a0_0, .slice A0_1 l0_1.length c0_1] 39 (0, 0)) (by (with_reducible repeat (first | refine blk_drewN ?_ _ | refine blk_drew ?_ | refine blk_alloc ?_ _)); exact BK548.out) hb); have n6_ := Aside0.mk (blk_below (g := gb559) (o := .cells #[.int .i64 t554, .slice Ao23 t555.length co23] 33 (0, 0)) (by (with_reducible repeat (first | refine blk_drewN ?_ _ | refine blk_drew ?_ | refine blk_alloc ?_ _)); exact BK559.out) hb); have n7_ := Aside0.mk (blk_below (g := gb564) (o := .cells #[.int .i64 t560, .slice Ao30 t578.length co30] 33 (0, 0)) (by (with_reducible repeat (first | refine blk_drewN ?_ _ | refine blk_drew ?_ | refine blk_alloc ?_ _)); exact BK564.out) hb); have n8_ := Aside0.mk (blk_below (g := gb570) (o := .cells #[.int .i64 t565, .slice Ao37 t566.length co37] 33 (0, 0)) (by (with_reducible repeat (first | refine blk_drewN ?_ _ | refine blk_drew ?_ | refine blk_alloc ?_ _)); exact BK570.out) hb); have n9_ := Aside0.mk (below_step (by repeat (first | (with_reducible first | exact HB.out | apply below_alloc | apply pw_below_drewN | apply below_drew1 | refine below_set ?_ GE548.out | refine below_set ?_ GE559.out | refine below_set ?_ GE564.out | refine below_set ?_ GE570.out) | exact HB.out)) hb); clear HO_560001; clear HO_565001; clear HO_571001; clear HO586; clear BK548; clear BK559; clear BK564; clear BK570; clear HB; have HO_560001 := n0_; have HO_565001 := n1_; have HO_571001 := n2_; have HO586 := n3_; have HO590 := n4_; have BK548 := n5_; have BK559 := n6_; have BK564 := n7_; have BK570 := n8_; have HB := n9_; clear n0_ n1_ n2_ n3_ n4_ n5_ n6_ n7_ n8_ n9_; (try clear hb); (try clear hb2); (try clear hk); (try clear hi); (try clear ho0)) | ((with_reducible refine gate_dst (N := 14) rfl ?_); refine box_event ?hg (N := 14) ?hd (cs := #[.int .i64 0, .slice none 0 0]) (t := 33) ?hr ?_; (case hd => rfl); (case hg => rfl); (case hr => first | (go_simp; done) | (go_simp; rfl)); intro gb592 hg w118 hbox hb; have n0_ := Aside0.mk (Kd.R_below (by (with_reducible repeat (first | apply Kd.R_alloc | apply Kd.R_drewN | apply Kd.R_drew)); exact HO_560001.out) hb); have n1_ := Aside0.mk (Kd.R_below (by (with_reducible repeat (first | apply Kd.R_alloc | apply Kd.R_drewN | apply Kd.R_drew)); exact HO_565001.out) hb); have n2_ := Aside0.mk (Kd.R_below (by (with_reducible repeat (first | apply Kd.R_alloc | apply Kd.R_drewN | apply Kd.R_drew)); exact HO_571001.out) hb); have n3_ := Aside0.mk (Kd.R_below (by (with_reducible repeat (first | apply Kd.R_alloc | apply Kd.R_drewN | apply Kd.R_drew)); exact HO586.out) hb); have n4_ := Aside0.mk (Kd.R_below (by (with_reducible repeat (first | apply Kd.R_alloc | apply Kd.R_drewN | apply Kd.R_drew)); exact HO590.out) hb); have n5_ := Aside0.mk (blk_below (g := gb548) (o := .cells #[.int .i64 a0_0, .slice A0_1 l0_1.length c0_1] 39 (0, 0)) (by (with_reducible repeat (first | refine blk_drewN ?_ _ | refine blk_drew ?_ | refine blk_alloc ?_ _)); exact BK548.out) hb); have n6_ := Aside0.mk (blk_below (g := gb559) (o := .cells #[.int .i64 t554, .slice Ao23 t555.length co23] 33 (0, 0)) (by (with_reducible repeat (first | refine blk_drewN ?_ _ | refine blk_drew ?_ | refine blk_alloc ?_ _)); exact BK559.out) hb); have n7_ := Aside0.mk (blk_below (g := gb564) (o := .cells #[.int .i64 t560, .slice Ao30 t578.length co30] 33 (0, 0)) (by (with_reducible repeat (first | refine blk_drewN ?_ _ | refine blk_drew ?_ | refine blk_alloc ?_ _)); exact BK564.out) hb); have n8_ := Aside0.mk (blk_below (g := gb570) (o := .cells #[.int .i64 t565, .slice Ao37 t566.length co37] 33 (0, 0)) (by (with_reducible repeat (first | refine blk_drewN ?_ _ | refine blk_drew ?_ | refine blk_alloc ?_ _)); exact BK570.out) hb); have n9_ := Aside0.mk (below_step (by repeat (first | (with_reducible first | exact HB.out | apply below_alloc | apply pw_below_drewN | apply below_drew1 | refine below_set ?_ GE548.out | refine below_set ?_ GE559.out | refine below_set ?_ GE564.out | refine below_set ?_ GE570.out) | exact HB.out)) hb); have n10_ := Aside0.mk (hbox); have n11_ := Aside0.mk ((by rw [hg]; exact (below_size (by repeat (first | (with_reducible first | exact HB.out | apply below_alloc | apply pw_below_drewN | apply below_drew1 | refine below_set ?_ GE548.out | refine below_set ?_ GE559.out | refine below_set ?_ GE564.out | refine below_set ?_ GE570.out) | exact HB.out))) : w.heap.size ≤ gb592)); have n12_ := Aside0.mk ((by rw [hg]; exact (below_size (by repeat (first | (with_reducible first | exact HB.out | apply below_alloc | apply pw_below_drewN | apply below_drew1 | refine below_set ?_ GE548.out | refine below_set ?_ GE559.out | refine below_set ?_ GE564.out | refine below_set ?_ GE570.out) | exact HB.out))) : w.heap.size ≤ gb592)); have n13_ := Aside0.mk ((by rw [hg]; exact Nat.ne_of_lt (blk_lt (g := gb548) (o := .cells #[.int .i64 a0_0, .slice A0_1 l0_1.length c0_1] 39 (0, 0)) (by (with_reducible repeat (first | refine blk_drewN ?_ _ | refine blk_drew ?_ | refine blk_alloc ?_ _)); exact BK548.out)) : gb548 ≠ gb592)); have n14_ := Aside0.mk ((by rw [hg]; exact Nat.ne_of_gt (blk_lt (g := gb548) (o := .cells #[.int .i64 a0_0, .slice A0_1 l0_1.length c0_1] 39 (0, 0)) (by (with_reducible repeat (first | refine blk_drewN ?_ _ | refine blk_drew ?_ | refine blk_alloc ?_ _)); exact BK548.out)) : gb592 ≠ gb548)); have n15_ := Aside0.mk ((by rw [hg]; exact Nat.ne_of_lt (blk_lt (g := gb559) (o := .cells #[.int .i64 t554, .slice Ao23 t555.length co23] 33 (0, 0)) (by (with_reducible repeat (first | refine blk_drewN ?_ _ | refine blk_drew ?_ | refine blk_alloc ?_ _)); exact BK559.out)) : gb559 ≠ gb592)); have n16_ := Aside0.mk ((by rw [hg]; exact Nat.ne_of_gt (blk_lt (g := gb559) (o := .cells #[.int .i64 t554, .slice Ao23 t555.length co23] 33 (0, 0)) (by (with_reducible repeat (first | refine blk_drewN ?_ _ | refine blk_drew ?_ | refine blk_alloc ?_ _)); exact BK559.out)) : gb592 ≠ gb559)); have n17_ := Aside0.mk ((by rw [hg]; exact Nat.ne_of_lt (blk_lt (g := gb564) (o := .cells #[.int .i64 t560, .slice Ao30 t578.length co30] 33 (0, 0)) (by (with_reducible repeat (first | refine blk_drewN ?_ _ | refine blk_drew ?_ | refine blk_alloc ?_ _)); exact BK564.out)) : gb564 ≠ gb592)); have n18_ := Aside0.mk ((by rw [hg]; exact Nat.ne_of_gt (blk_lt (g := gb564) (o := .cells #[.int .i64 t560, .slice Ao30 t578.length co30] 33 (0, 0)) (by (with_reducible repeat (first | refine blk_drewN ?_ _ | refine blk_drew ?_ | refine blk_alloc ?_ _)); exact BK564.out)) : gb592 ≠ gb564)); have n19_ := Aside0.mk ((by rw [hg]; exact Nat.ne_of_lt (blk_lt (g := gb570) (o := .cells #[.int .i64 t565, .slice Ao37 t566.length co37] 33 (0, 0)) (by (with_reducible repeat (first | refine blk_drewN ?_ _ | refine blk_drew ?_ | refine blk_alloc ?_ _)); exact BK570.out)) : gb570 ≠ gb592)); have n20_ := Aside0.mk ((by rw [hg]; exact Nat.ne_of_gt (blk_lt (g := gb570) (o := .cells #[.int .i64 t565, .slice Ao37 t566.length co37] 33 (0, 0)) (by (with_reducible repeat (first | refine blk_drewN ?_ _ | refine blk_drew ?_ | refine blk_alloc ?_ _)); exact BK570.out)) : gb592 ≠ gb570)); clear HO_560001; clear HO_565001; clear HO_571001; clear HO586; clear HO590; clear BK548; clear BK559; clear BK564; clear BK570; clear HB; have HO_560001 := n0_; have HO_565001 := n1_; have HO_571001 := n2_; have HO586 := n3_; have HO590 := n4_; have BK548 := n5_; have BK559 := n6_; have BK564 := n7_; have BK570 := n8_; have HB := n9_; have BK592 := n10_; have GW592 := n11_; have GE592 := n12_; have NB548_592 := n13_; have NB592_548 := n14_; have NB559_592 := n15_; have NB592_559 := n16_; have NB564_592 := n17_; have NB592_564 := n18_; have NB570_592 := n19_; have NB592_570 := n20_; clear n0_ n1_ n2_ n3_ n4_ n5_ n6_ n7_ n8_ n9_ n10_ n11_ n12_ n13_ n14_ n15_ n16_ n17_ n18_ n19_ n20_; clear hb hbox hg; have hnb119 := NB592_548.out; have hnc119 := NB548_592.out; have hnb120 := NB592_559.out; have hnc120 := NB559_592.out; have hnb121 := NB592_564.out; have hnc121 := NB564_592.out; have hnb122 := NB592_570.out; have hnc122 := NB570_592.out; have hcz123_0 : w118.cell? ⟨gb592, 0, none⟩ = some (.int .i64 0) := (blk_cell BK592.out 0).trans rfl; have hcz123_1 : w118.cell? ⟨gb592, 1, none⟩ = some (.slice none 0 0) := (blk_cell BK592.out 1).trans rfl; have hfz123_0 := blk_frozen BK592.out 0; have hfz123_1 := blk_frozen BK592.out 1; obtain ⟨Ao124, co124, eo124⟩ := Kd.R_slice HO590.out; subst eo124))
                      (try simp only [Act.put, List.setIfInBounds_toArray, List.set_cons_zero, List.set_cons_succ])
                      go_cut [92] (fun v92 wc => ∃ (kq : Nat) (x92_103 : Bool), v92 = .bool x92_103 ∧ Aside0 (laws_FnExactBoxPut.j2 kq t580 x92_103 t565 t581 = some r) ∧ Aside0 (kq ≤ kj60) ∧ Aside0 (Kd.R (Kd.int .i64) 3 wc w.heap.size (fun k_ => some k_ ≠ ((.slice Ao30 t578.length co30) : Value).ownBlock ∧ some k_ ≠ ((.slice Ao37 t566.length co37) : Value).ownBlock ∧ some k_ ≠ ((.slice Ao124 t588.length co124) : Value).ownBlock) (.slice Ao23 t555.length co23) t555) ∧ Aside0 (Kd.R (Kd.int .i64) 3 wc w.heap.size (fun k_ => some k_ ≠ ((.slice Ao23 t555.length co23) : Value).ownBlock ∧ some k_ ≠ ((.slice Ao37 t566.length co37) : Value).ownBlock ∧ some k_ ≠ ((.slice Ao124 t588.length co124) : Value).ownBlock) (.slice Ao30 t578.length co30) t578) ∧ Aside0 (Kd.R (Kd.int .i64) 3 wc w.heap.size (fun k_ => some k_ ≠ ((.slice Ao23 t555.length co23) : Value).ownBlock ∧ some k_ ≠ ((.slice Ao30 t578.length co30) : Value).ownBlock ∧ some k_ ≠ ((.slice Ao124 t588.length co124) : Value).ownBlock) (.slice Ao37 t566.length co37) t581) ∧ Aside0 (Kd.R (Kd.int .i64) 3 wc w.heap.size (fun k_ => some k_ ≠ ((.slice Ao23 t555.length co23) : Value).ownBlock ∧ some k_ ≠ ((.slice Ao30 t578.length co30) : Value).ownBlock ∧ some k_ ≠ ((.slice Ao37 t566.length co37) : Value).ownBlock) (.slice Ao124 t588.length co124) t588) ∧ Aside0 (wc.heap[gb548]? = some (.cells #[.int .i64 a0_0, (.slice A0_1 l0_1.length c0_1)] 39 (0, 0))) ∧ Aside0 (wc.heap[gb559]? = some (.cells #[.int .i64 t554, (.slice Ao23 t555.length co23)] 33 (0, 0))) ∧ Aside0 (wc.heap[gb564]? = some (.cells #[.int .i64 t560, (.slice Ao30 t578.length co30)] 33 (0, 0))) ∧ Aside0 (wc.heap[gb570]? = some (.cells #[.int .i64 t565, (.slice Ao37 t566.length co37)] 33 (0, 0))) ∧ Aside0 (wc.heap[gb592]? = some (.cells #[.int .i64 t587, (.slice Ao124 t588.length co124)] 33 (0, 0))) ∧ Aside0 (Below w.heap.size w wc))
                      case first =>
                        have H := HC104.out
                        clear HC104
                        replace H := Option.bind_eq_some_iff.mp H
                        obtain ⟨t593, A1250, H⟩ := H
                        replace H : (if t593 = true then (laws_FnExactBoxPut.j2 kj60 t580 (t591 != t558) t565 t581) else (laws_FnExactBoxPut.j2 kj60 t580 true t565 t581)) = some r := H
                        have A125 := Aside0.mk A1250
                        clear A1250
                        by_cases c126 : t593 = true
                        · subst c126
                          have H1 : (laws_FnExactBoxPut.j2 kj60 t580 (t591 != t558) t565 t581) = some r := by rw [if_pos rfl] at H; exact H
                          clear H
                          have H := H1
                          clear H1
                          have H' := Aside0.mk H
                          clear H
                          have hnb127 := NB592_548.out
                          have hnc127 := NB548_592.out
                          have hnb128 := NB592_559.out
                          have hnc128 := NB559_592.out
                          have hnb129 := NB592_564.out
                          have hnc129 := NB564_592.out
                          have hnb130 := NB592_570.out
                          have hnc130 := NB570_592.out
                          have hcz131_0 : w118.cell? ⟨gb592, 0, none⟩ = some (.int .i64 0) := (blk_cell BK592.out 0).trans rfl
                          have hcz131_1 : w118.cell? ⟨gb592, 1, none⟩ = some (.slice none 0 0) := (blk_cell BK592.out 1).trans rfl
                          have hfz131_0 := blk_frozen BK592.out 0
                          have hfz131_1 := blk_frozen BK592.out 1
                          have hnb132 := NB559_548.out
                          have hnc132 := NB548_559.out
                          have hnb133 := NB559_564.out
                          have hnc133 := NB564_559.out
                          have hnb134 := NB559_570.out
                          have hnc134 := NB570_559.out
                          have hcz135_0 : w118.cell? ⟨gb559, 0, none⟩ = some (.int .i64 t554) := (blk_cell BK559.out 0).trans rfl
                          have hcz135_1 : w118.cell? ⟨gb559, 1, none⟩ = some (.slice Ao23 t555.length co23) := (blk_cell BK559.out 1).trans rfl
                          have hfz135_0 := blk_frozen BK559.out 0
                          have hfz135_1 := blk_frozen BK559.out 1
                          go_wp2_with (first | ((with_reducible refine gate_callee (f := 29) rfl ?_); refine goesL_ (some 86) rfl rfl Try.func29 (by kernel_rfl) rfl #[.agg #[.int .i64 t587, .slice Ao124 t588.length co124], .agg #[.int .i64 t554, .slice Ao23 t555.length co23]] rfl (by (try simp only [List.map_toArray, List.map_cons, List.map_nil]); first | done | rfl | (simp only [List.length_drop, List.length_take]; rfl)) ?_; (with_reducible refine (laws_eqBox.calls kj60 t587 _ _ t588 t554 _ _ t555 true _ ?side1 ?side2 ?side3 ?side4 A125.out).mono ?_); (case side1 => refine (Kd.R_reads' (e := 3) (base := w.heap.size) (ok := fun k_ => ((((True ∧ some k_ ≠ (.slice Ao23 t555.length co23 : Value).ownBlock) ∧ some k_ ≠ (.slice Ao30 t578.length co30 : Value).ownBlock) ∧ some k_ ≠ (.slice Ao37 t566.length co37 : Value).ownBlock) ∧ some k_ ≠ (.slice Ao116 t584.length co116 : Value).ownBlock)) (n := t588.length) (c := co124) ?_).2.2; exact (by (with_reducible repeat (first | apply Kd.R_alloc | apply Kd.R_drewN | apply Kd.R_drew)); exact (Kd.R_mono (Kd.R_far (p := ⟨gb592, 1, none⟩) (Kd.R_far (p := ⟨gb592, 0, none⟩) (Kd.R_types HO590.out BK592.out (by decide)) (fun _ hk => hk.2) (.int .i64 t587)) (fun _ hk => hk.2) (.slice Ao124 t588.length co124)) (fun _ h_ => h_.1)))); (case side2 => exact (Kd.R_reads' HO590.out).2.1); (case side3 => refine (Kd.R_reads' (e := 3) (base := w.heap.size) (ok := fun k_ => (((some k_ ≠ (.slice Ao30 t578.length co30 : Value).ownBlock ∧ some k_ ≠ (.slice Ao37 t566.length co37 : Value).ownBlock) ∧ some k_ ≠ (.slice Ao116 t584.length co116 : Value).ownBlock) ∧ some k_ ≠ (.slice Ao124 t588.length co124 : Value).ownBlock)) (n := t555.length) (c := co23) ?_).2.2; exact (by (with_reducible repeat (first | apply Kd.R_alloc | apply Kd.R_drewN | apply Kd.R_drew)); exact (Kd.R_mono (Kd.R_far (p := ⟨gb592, 1, none⟩) (Kd.R_far (p := ⟨gb592, 0, none⟩) (Kd.R_types HO_560001.out BK592.out (by decide)) (fun _ hk => hk.2) (.int .i64 t587)) (fun _ hk => hk.2) (.slice Ao124 t588.length co124)) (fun _ h_ => h_.1)))); (case side4 => exact (Kd.R_reads' HO_560001.out).2.1); rintro e w136 ⟨rfl, hb⟩; refine ⟨_, rfl, ?_⟩; have n0_ := Aside0.mk (Kd.R_below (by (with_reducible repeat (first | apply Kd.R_alloc | apply Kd.R_drewN | apply Kd.R_drew)); exact (Kd.R_mono (Kd.R_far (p := ⟨gb592, 1, none⟩) (Kd.R_far (p := ⟨gb592, 0, none⟩) (Kd.R_types HO_560001.out BK592.out (by decide)) (fun _ hk => hk.2) (.int .i64 t587)) (fun _ hk => hk.2) (.slice Ao124 t588.length co124)) (fun _ h_ => h_.1))) hb); have n1_ := Aside0.mk (Kd.R_below (by (with_reducible repeat (first | apply Kd.R_alloc | apply Kd.R_drewN | apply Kd.R_drew)); exact (Kd.R_mono (Kd.R_far (p := ⟨gb592, 1, none⟩) (Kd.R_far (p := ⟨gb592, 0, none⟩) (Kd.R_types HO_565001.out BK592.out (by decide)) (fun _ hk => hk.2) (.int .i64 t587)) (fun _ hk => hk.2) (.slice Ao124 t588.length co124)) (fun _ h_ => h_.1))) hb); have n2_ := Aside0.mk (Kd.R_below (by (with_reducible repeat (first | apply Kd.R_alloc | apply Kd.R_drewN | apply Kd.R_drew)); exact (Kd.R_mono (Kd.R_far (p := ⟨gb592, 1, none⟩) (Kd.R_far (p := ⟨gb592, 0, none⟩) (Kd.R_types HO_571001.out BK592.out (by decide)) (fun _ hk => hk.2) (.int .i64 t587)) (fun _ hk => hk.2) (.slice Ao124 t588.length co124)) (fun _ h_ => h_.1))) hb); have n3_ := Aside0.mk (Kd.R_below (by (with_reducible repeat (first | apply Kd.R_alloc | apply Kd.R_drewN | apply Kd.R_drew)); exact (Kd.R_mono (Kd.R_far (p := ⟨gb592, 1, none⟩) (Kd.R_far (p := ⟨gb592, 0, none⟩) (Kd.R_types HO586.out BK592.out (by decide)) (fun _ hk => hk.2) (.int .i64 t587)) (fun _ hk => hk.2) (.slice Ao124 t588.length co124)) (fun _ h_ => h_.1))) hb); have n4_ := Aside0.mk (Kd.R_below (by (with_reducible repeat (first | apply Kd.R_alloc | apply Kd.R_drewN | apply Kd.R_drew)); exact (Kd.R_mono (Kd.R_far (p := ⟨gb592, 1, none⟩) (Kd.R_far (p := ⟨gb592, 0, none⟩) (Kd.R_types HO590.out BK592.out (by decide)) (fun _ hk => hk.2) (.int .i64 t587)) (fun _ hk => hk.2) (.slice Ao124 t588.length co124)) (fun _ h_ => h_.1))) hb); have n5_ := Aside0.mk (blk_below (g := gb548) (o := .cells #[.int .i64 a0_0, .slice A0_1 l0_1.length c0_1] 39 (0, 0)) (by (with_reducible repeat (first | refine blk_drewN ?_ _ | refine blk_drew ?_ | refine blk_alloc ?_ _)); refine blk_far ?_ NB548_592.out _; (with_reducible repeat (first | refine blk_drewN ?_ _ | refine blk_drew ?_ | refine blk_alloc ?_ _)); refine blk_far ?_ NB548_592.out _; (with_reducible repeat (first | refine blk_drewN ?_ _ | refine blk_drew ?_ | refine blk_alloc ?_ _)); exact BK548.out) hb); have n6_ := Aside0.mk (blk_below (g := gb559) (o := .cells #[.int .i64 t554, .slice Ao23 t555.length co23] 33 (0, 0)) (by (with_reducible repeat (first | refine blk_drewN ?_ _ | refine blk_drew ?_ | refine blk_alloc ?_ _)); refine blk_far ?_ NB559_592.out _; (with_reducible repeat (first | refine blk_drewN ?_ _ | refine blk_drew ?_ | refine blk_alloc ?_ _)); refine blk_far ?_ NB559_592.out _; (with_reducible repeat (first | refine blk_drewN ?_ _ | refine blk_drew ?_ | refine blk_alloc ?_ _)); exact BK559.out) hb); have n7_ := Aside0.mk (blk_below (g := gb564) (o := .cells #[.int .i64 t560, .slice Ao30 t578.length co30] 33 (0, 0)) (by (with_reducible repeat (first | refine blk_drewN ?_ _ | refine blk_drew ?_ | refine blk_alloc ?_ _)); refine blk_far ?_ NB564_592.out _; (with_reducible repeat (first | refine blk_drewN ?_ _ | refine blk_drew ?_ | refine blk_alloc ?_ _)); refine blk_far ?_ NB564_592.out _; (with_reducible repeat (first | refine blk_drewN ?_ _ | refine blk_drew ?_ | refine blk_alloc ?_ _)); exact BK564.out) hb); have n8_ := Aside0.mk (blk_below (g := gb570) (o := .cells #[.int .i64 t565, .slice Ao37 t566.length co37] 33 (0, 0)) (by (with_reducible repeat (first | refine blk_drewN ?_ _ | refine blk_drew ?_ | refine blk_alloc ?_ _)); refine blk_far ?_ NB570_592.out _; (with_reducible repeat (first | refine blk_drewN ?_ _ | refine blk_drew ?_ | refine blk_alloc ?_ _)); refine blk_far ?_ NB570_592.out _; (with_reducible repeat (first | refine blk_drewN ?_ _ | refine blk_drew ?_ | refine blk_alloc ?_ _)); exact BK570.out) hb); have n9_ := Aside0.mk (blk_below (g := gb592) (o := .cells #[.int .i64 t587, .slice Ao124 t588.length co124] 33 (0, 0)) (by (with_reducible repeat (first | refine blk_drewN ?_ _ | refine blk_drew ?_ | refine blk_alloc ?_ _)); refine blk_put (cs := #[.int .i64 t587, .slice none 0 0]) ?_ 1 _ rfl; (with_reducible repeat (first | refine blk_drewN ?_ _ | refine blk_drew ?_ | refine blk_alloc ?_ _)); refine blk_put (cs := #[.int .i64 0, .slice none 0 0]) ?_ 0 _ rfl; (with_reducible repeat (first | refine blk_drewN ?_ _ | refine blk_drew ?_ | refine blk_alloc ?_ _)); exact BK592.out) hb); have n10_ := Aside0.mk (below_step (by repeat (first | (with_reducible first | exact HB.out | apply below_alloc | apply pw_below_drewN | apply below_drew1 | refine below_set ?_ GE548.out | refine below_set ?_ GE559.out | refine below_set ?_ GE564.out | refine below_set ?_ GE570.out | refine below_set ?_ GE592.out) | exact HB.out)) hb); clear HO_560001; clear HO_565001; clear HO_571001; clear HO586; clear HO590; clear BK548; clear BK559; clear BK564; clear BK570; clear BK592; clear HB; have HO_560001 := n0_; have HO_565001 := n1_; have HO_571001 := n2_; have HO586 := n3_; have HO590 := n4_; have BK548 := n5_; have BK559 := n6_; have BK564 := n7_; have BK570 := n8_; have BK592 := n9_; have HB := n10_; clear n0_ n1_ n2_ n3_ n4_ n5_ n6_ n7_ n8_ n9_ n10_; (try clear hb); (try clear hb2); (try clear hk); (try clear hi)))
                          go_meet
                          case rel => exact ⟨_, ((t591 != t558)), (by first | rfl | (simp; done) | (simp [*]; done)), H', ⟨by have := HJ11.out; have := HJ60.out; first | omega | exact Nat.le_refl _⟩, ⟨by (try simp only [hl565001_60]); (with_reducible repeat (first | apply Kd.R_alloc | apply Kd.R_drewN | apply Kd.R_drew)); exact Kd.R_mono HO_560001.out (fun _ hk => ⟨hk.1.1.1, ⟨hk.1.1.2, hk.2⟩⟩)⟩, ⟨by (try simp only [hl565001_60]); (with_reducible repeat (first | apply Kd.R_alloc | apply Kd.R_drewN | apply Kd.R_drew)); exact Kd.R_mono HO_565001.out (fun _ hk => ⟨hk.1.1.1, ⟨hk.1.1.2, hk.2⟩⟩)⟩, ⟨by (try simp only [hl565001_60]); (with_reducible repeat (first | apply Kd.R_alloc | apply Kd.R_drewN | apply Kd.R_drew)); exact Kd.R_mono HO_571001.out (fun _ hk => ⟨hk.1.1.1, ⟨hk.1.1.2, hk.2⟩⟩)⟩, ⟨by (try simp only [hl565001_60]); (with_reducible repeat (first | apply Kd.R_alloc | apply Kd.R_drewN | apply Kd.R_drew)); exact Kd.R_mono HO590.out (fun _ hk => ⟨hk.1.1.1.2, ⟨hk.1.1.2, hk.1.2⟩⟩)⟩, ⟨by (try simp only [hl565001_60]); (with_reducible repeat (first | refine blk_drewN ?_ _ | refine blk_drew ?_ | refine blk_alloc ?_ _)); exact BK548.out⟩, ⟨by (try simp only [hl565001_60]); (with_reducible repeat (first | refine blk_drewN ?_ _ | refine blk_drew ?_ | refine blk_alloc ?_ _)); exact BK559.out⟩, ⟨by (try simp only [hl565001_60]); (with_reducible repeat (first | refine blk_drewN ?_ _ | refine blk_drew ?_ | refine blk_alloc ?_ _)); exact BK564.out⟩, ⟨by (try simp only [hl565001_60]); (with_reducible repeat (first | refine blk_drewN ?_ _ | refine blk_drew ?_ | refine blk_alloc ?_ _)); exact BK570.out⟩, ⟨by (try simp only [hl565001_60]); (with_reducible repeat (first | refine blk_drewN ?_ _ | refine blk_drew ?_ | refine blk_alloc ?_ _)); exact BK592.out⟩, ⟨by repeat (first | (with_reducible first | exact HB.out | apply below_alloc | apply pw_below_drewN | apply below_drew1 | refine below_set ?_ GE548.out | refine below_set ?_ GE559.out | refine below_set ?_ GE564.out | refine below_set ?_ GE570.out | refine below_set ?_ GE592.out) | exact HB.out)⟩⟩
                        · replace c126 := Bool.eq_false_iff.mpr c126
                          subst c126
                          have H1 : (laws_FnExactBoxPut.j2 kj60 t580 true t565 t581) = some r := by rw [if_neg (show ¬ (false = true) by decide)] at H; exact H
                          clear H
                          have H := H1
                          clear H1
                          have H' := Aside0.mk H
                          clear H
                          have hnb137 := NB592_548.out
                          have hnc137 := NB548_592.out
                          have hnb138 := NB592_559.out
                          have hnc138 := NB559_592.out
                          have hnb139 := NB592_564.out
                          have hnc139 := NB564_592.out
                          have hnb140 := NB592_570.out
                          have hnc140 := NB570_592.out
                          have hcz141_0 : w118.cell? ⟨gb592, 0, none⟩ = some (.int .i64 0) := (blk_cell BK592.out 0).trans rfl
                          have hcz141_1 : w118.cell? ⟨gb592, 1, none⟩ = some (.slice none 0 0) := (blk_cell BK592.out 1).trans rfl
                          have hfz141_0 := blk_frozen BK592.out 0
                          have hfz141_1 := blk_frozen BK592.out 1
                          have hnb142 := NB559_548.out
                          have hnc142 := NB548_559.out
                          have hnb143 := NB559_564.out
                          have hnc143 := NB564_559.out
                          have hnb144 := NB559_570.out
                          have hnc144 := NB570_559.out
                          have hcz145_0 : w118.cell? ⟨gb559, 0, none⟩ = some (.int .i64 t554) := (blk_cell BK559.out 0).trans rfl
                          have hcz145_1 : w118.cell? ⟨gb559, 1, none⟩ = some (.slice Ao23 t555.length co23) := (blk_cell BK559.out 1).trans rfl
                          have hfz145_0 := blk_frozen BK559.out 0
                          have hfz145_1 := blk_frozen BK559.out 1
                          go_wp2_with (first | ((with_reducible refine gate_callee (f := 29) rfl ?_); refine goesL_ (some 86) rfl rfl Try.func29 (by kernel_rfl) rfl #[.agg #[.int .i64 t587, .slice Ao124 t588.length co124], .agg #[.int .i64 t554, .slice Ao23 t555.length co23]] rfl (by (try simp only [List.map_toArray, List.map_cons, List.map_nil]); first | done | rfl | (simp only [List.length_drop, List.length_take]; rfl)) ?_; (with_reducible refine (laws_eqBox.calls kj60 t587 _ _ t588 t554 _ _ t555 false _ ?side1 ?side2 ?side3 ?side4 A125.out).mono ?_); (case side1 => refine (Kd.R_reads' (e := 3) (base := w.heap.size) (ok := fun k_ => ((((True ∧ some k_ ≠ (.slice Ao23 t555.length co23 : Value).ownBlock) ∧ some k_ ≠ (.slice Ao30 t578.length co30 : Value).ownBlock) ∧ some k_ ≠ (.slice Ao37 t566.length co37 : Value).ownBlock) ∧ some k_ ≠ (.slice Ao116 t584.length co116 : Value).ownBlock)) (n := t588.length) (c := co124) ?_).2.2; exact (by (with_reducible repeat (first | apply Kd.R_alloc | apply Kd.R_drewN | apply Kd.R_drew)); exact (Kd.R_mono (Kd.R_far (p := ⟨gb592, 1, none⟩) (Kd.R_far (p := ⟨gb592, 0, none⟩) (Kd.R_types HO590.out BK592.out (by decide)) (fun _ hk => hk.2) (.int .i64 t587)) (fun _ hk => hk.2) (.slice Ao124 t588.length co124)) (fun _ h_ => h_.1)))); (case side2 => exact (Kd.R_reads' HO590.out).2.1); (case side3 => refine (Kd.R_reads' (e := 3) (base := w.heap.size) (ok := fun k_ => (((some k_ ≠ (.slice Ao30 t578.length co30 : Value).ownBlock ∧ some k_ ≠ (.slice Ao37 t566.length co37 : Value).ownBlock) ∧ some k_ ≠ (.slice Ao116 t584.length co116 : Value).ownBlock) ∧ some k_ ≠ (.slice Ao124 t588.length co124 : Value).ownBlock)) (n := t555.length) (c := co23) ?_).2.2; exact (by (with_reducible repeat (first | apply Kd.R_alloc | apply Kd.R_drewN | apply Kd.R_drew)); exact (Kd.R_mono (Kd.R_far (p := ⟨gb592, 1, none⟩) (Kd.R_far (p := ⟨gb592, 0, none⟩) (Kd.R_types HO_560001.out BK592.out (by decide)) (fun _ hk => hk.2) (.int .i64 t587)) (fun _ hk => hk.2) (.slice Ao124 t588.length co124)) (fun _ h_ => h_.1)))); (case side4 => exact (Kd.R_reads' HO_560001.out).2.1); rintro e w146 ⟨rfl, hb⟩; refine ⟨_, rfl, ?_⟩; have n0_ := Aside0.mk (Kd.R_below (by (with_reducible repeat (first | apply Kd.R_alloc | apply Kd.R_drewN | apply Kd.R_drew)); exact (Kd.R_mono (Kd.R_far (p := ⟨gb592, 1, none⟩) (Kd.R_far (p := ⟨gb592, 0, none⟩) (Kd.R_types HO_560001.out BK592.out (by decide)) (fun _ hk => hk.2) (.int .i64 t587)) (fun _ hk => hk.2) (.slice Ao124 t588.length co124)) (fun _ h_ => h_.1))) hb); have n1_ := Aside0.mk (Kd.R_below (by (with_reducible repeat (first | apply Kd.R_alloc | apply Kd.R_drewN | apply Kd.R_drew)); exact (Kd.R_mono (Kd.R_far (p := ⟨gb592, 1, none⟩) (Kd.R_far (p := ⟨gb592, 0, none⟩) (Kd.R_types HO_565001.out BK592.out (by decide)) (fun _ hk => hk.2) (.int .i64 t587)) (fun _ hk => hk.2) (.slice Ao124 t588.length co124)) (fun _ h_ => h_.1))) hb); have n2_ := Aside0.mk (Kd.R_below (by (with_reducible repeat (first | apply Kd.R_alloc | apply Kd.R_drewN | apply Kd.R_drew)); exact (Kd.R_mono (Kd.R_far (p := ⟨gb592, 1, none⟩) (Kd.R_far (p := ⟨gb592, 0, none⟩) (Kd.R_types HO_571001.out BK592.out (by decide)) (fun _ hk => hk.2) (.int .i64 t587)) (fun _ hk => hk.2) (.slice Ao124 t588.length co124)) (fun _ h_ => h_.1))) hb); have n3_ := Aside0.mk (Kd.R_below (by (with_reducible repeat (first | apply Kd.R_alloc | apply Kd.R_drewN | apply Kd.R_drew)); exact (Kd.R_mono (Kd.R_far (p := ⟨gb592, 1, none⟩) (Kd.R_far (p := ⟨gb592, 0, none⟩) (Kd.R_types HO586.out BK592.out (by decide)) (fun _ hk => hk.2) (.int .i64 t587)) (fun _ hk => hk.2) (.slice Ao124 t588.length co124)) (fun _ h_ => h_.1))) hb); have n4_ := Aside0.mk (Kd.R_below (by (with_reducible repeat (first | apply Kd.R_alloc | apply Kd.R_drewN | apply Kd.R_drew)); exact (Kd.R_mono (Kd.R_far (p := ⟨gb592, 1, none⟩) (Kd.R_far (p := ⟨gb592, 0, none⟩) (Kd.R_types HO590.out BK592.out (by decide)) (fun _ hk => hk.2) (.int .i64 t587)) (fun _ hk => hk.2) (.slice Ao124 t588.length co124)) (fun _ h_ => h_.1))) hb); have n5_ := Aside0.mk (blk_below (g := gb548) (o := .cells #[.int .i64 a0_0, .slice A0_1 l0_1.length c0_1] 39 (0, 0)) (by (with_reducible repeat (first | refine blk_drewN ?_ _ | refine blk_drew ?_ | refine blk_alloc ?_ _)); refine blk_far ?_ NB548_592.out _; (with_reducible repeat (first | refine blk_drewN ?_ _ | refine blk_drew ?_ | refine blk_alloc ?_ _)); refine blk_far ?_ NB548_592.out _; (with_reducible repeat (first | refine blk_drewN ?_ _ | refine blk_drew ?_ | refine blk_alloc ?_ _)); exact BK548.out) hb); have n6_ := Aside0.mk (blk_below (g := gb559) (o := .cells #[.int .i64 t554, .slice Ao23 t555.length co23] 33 (0, 0)) (by (with_reducible repeat (first | refine blk_drewN ?_ _ | refine blk_drew ?_ | refine blk_alloc ?_ _)); refine blk_far ?_ NB559_592.out _; (with_reducible repeat (first | refine blk_drewN ?_ _ | refine blk_drew ?_ | refine blk_alloc ?_ _)); refine blk_far ?_ NB559_592.out _; (with_reducible repeat (first | refine blk_drewN ?_ _ | refine blk_drew ?_ | refine blk_alloc ?_ _)); exact BK559.out) hb); have n7_ := Aside0.mk (blk_below (g := gb564) (o := .cells #[.int .i64 t560, .slice Ao30 t578.length co30] 33 (0, 0)) (by (with_reducible repeat (first | refine blk_drewN ?_ _ | refine blk_drew ?_ | refine blk_alloc ?_ _)); refine blk_far ?_ NB564_592.out _; (with_reducible repeat (first | refine blk_drewN ?_ _ | refine blk_drew ?_ | refine blk_alloc ?_ _)); refine blk_far ?_ NB564_592.out _; (with_reducible repeat (first | refine blk_drewN ?_ _ | refine blk_drew ?_ | refine blk_alloc ?_ _)); exact BK564.out) hb); have n8_ := Aside0.mk (blk_below (g := gb570) (o := .cells #[.int .i64 t565, .slice Ao37 t566.length co37] 33 (0, 0)) (by (with_reducible repeat (first | refine blk_drewN ?_ _ | refine blk_drew ?_ | refine blk_alloc ?_ _)); refine blk_far ?_ NB570_592.out _; (with_reducible repeat (first | refine blk_drewN ?_ _ | refine blk_drew ?_ | refine blk_alloc ?_ _)); refine blk_far ?_ NB570_592.out _; (with_reducible repeat (first | refine blk_drewN ?_ _ | refine blk_drew ?_ | refine blk_alloc ?_ _)); exact BK570.out) hb); have n9_ := Aside0.mk (blk_below (g := gb592) (o := .cells #[.int .i64 t587, .slice Ao124 t588.length co124] 33 (0, 0)) (by (with_reducible repeat (first | refine blk_drewN ?_ _ | refine blk_drew ?_ | refine blk_alloc ?_ _)); refine blk_put (cs := #[.int .i64 t587, .slice none 0 0]) ?_ 1 _ rfl; (with_reducible repeat (first | refine blk_drewN ?_ _ | refine blk_drew ?_ | refine blk_alloc ?_ _)); refine blk_put (cs := #[.int .i64 0, .slice none 0 0]) ?_ 0 _ rfl; (with_reducible repeat (first | refine blk_drewN ?_ _ | refine blk_drew ?_ | refine blk_alloc ?_ _)); exact BK592.out) hb); have n10_ := Aside0.mk (below_step (by repeat (first | (with_reducible first | exact HB.out | apply below_alloc | apply pw_below_drewN | apply below_drew1 | refine below_set ?_ GE548.out | refine below_set ?_ GE559.out | refine below_set ?_ GE564.out | refine below_set ?_ GE570.out | refine below_set ?_ GE592.out) | exact HB.out)) hb); clear HO_560001; clear HO_565001; clear HO_571001; clear HO586; clear HO590; clear BK548; clear BK559; clear BK564; clear BK570; clear BK592; clear HB; have HO_560001 := n0_; have HO_565001 := n1_; have HO_571001 := n2_; have HO586 := n3_; have HO590 := n4_; have BK548 := n5_; have BK559 := n6_; have BK564 := n7_; have BK570 := n8_; have BK592 := n9_; have HB := n10_; clear n0_ n1_ n2_ n3_ n4_ n5_ n6_ n7_ n8_ n9_ n10_; (try clear hb); (try clear hb2); (try clear hk); (try clear hi)))
                          go_meet
                          case rel => exact ⟨_, (true), (by first | rfl | (simp; done) | (simp [*]; done)), H', ⟨by have := HJ11.out; have := HJ60.out; first | omega | exact Nat.le_refl _⟩, ⟨by (try simp only [hl565001_60]); (with_reducible repeat (first | apply Kd.R_alloc | apply Kd.R_drewN | apply Kd.R_drew)); exact Kd.R_mono HO_560001.out (fun _ hk => ⟨hk.1.1.1, ⟨hk.1.1.2, hk.2⟩⟩)⟩, ⟨by (try simp only [hl565001_60]); (with_reducible repeat (first | apply Kd.R_alloc | apply Kd.R_drewN | apply Kd.R_drew)); exact Kd.R_mono HO_565001.out (fun _ hk => ⟨hk.1.1.1, ⟨hk.1.1.2, hk.2⟩⟩)⟩, ⟨by (try simp only [hl565001_60]); (with_reducible repeat (first | apply Kd.R_alloc | apply Kd.R_drewN | apply Kd.R_drew)); exact Kd.R_mono HO_571001.out (fun _ hk => ⟨hk.1.1.1, ⟨hk.1.1.2, hk.2⟩⟩)⟩, ⟨by (try simp only [hl565001_60]); (with_reducible repeat (first | apply Kd.R_alloc | apply Kd.R_drewN | apply Kd.R_drew)); exact Kd.R_mono HO590.out (fun _ hk => ⟨hk.1.1.1.2, ⟨hk.1.1.2, hk.1.2⟩⟩)⟩, ⟨by (try simp only [hl565001_60]); (with_reducible repeat (first | refine blk_drewN ?_ _ | refine blk_drew ?_ | refine blk_alloc ?_ _)); exact BK548.out⟩, ⟨by (try simp only [hl565001_60]); (with_reducible repeat (first | refine blk_drewN ?_ _ | refine blk_drew ?_ | refine blk_alloc ?_ _)); exact BK559.out⟩, ⟨by (try simp only [hl565001_60]); (with_reducible repeat (first | refine blk_drewN ?_ _ | refine blk_drew ?_ | refine blk_alloc ?_ _)); exact BK564.out⟩, ⟨by (try simp only [hl565001_60]); (with_reducible repeat (first | refine blk_drewN ?_ _ | refine blk_drew ?_ | refine blk_alloc ?_ _)); exact BK570.out⟩, ⟨by (try simp only [hl565001_60]); (with_reducible repeat (first | refine blk_drewN ?_ _ | refine blk_drew ?_ | refine blk_alloc ?_ _)); exact BK592.out⟩, ⟨by repeat (first | (with_reducible first | exact HB.out | apply below_alloc | apply pw_below_drewN | apply below_drew1 | refine below_set ?_ GE548.out | refine below_set ?_ GE559.out | refine below_set ?_ GE564.out | refine below_set ?_ GE570.out | refine below_set ?_ GE592.out) | exact HB.out)⟩⟩
                      case rest =>
                        clear HC104
                        try clear c1
                        try clear c2
                        try clear p2
                        try clear c3
                        try clear c4
                        try clear c4b0
                        try clear c5
                        try clear c6
                        try clear c7
                        try clear c8
                        try clear c9
                        try clear c10
                        try clear c11
                        try clear c12
                        try clear c13
                        try clear c14
                        try clear c21
                        try clear c25
                        try clear c27
                        try clear c28
                        try clear c29
                        try clear c33
                        try clear c34
                        try clear c35
                        try clear c37
                        try clear c38
                        try clear c39
                        try clear c40
                        try clear c41
                        try clear c42
                        try clear c44
                        try clear c45
                        try clear c48
                        try clear c49
                        try clear c50
                        try clear c52
                        try clear c53
                        try clear c56
                        try clear c59
                        try clear c66
                        try clear c67
                        try clear c68
                        try clear c71
                        try clear c71b0
                        try clear c73
                        try clear c74
                        try clear c75
                        try clear c76
                        try clear c78
                        try clear c79
                        try clear c82
                        try clear c83
                        try clear c84
                        try clear c86
                        try clear c87
                        try clear c90
                        try clear c93
                        try clear c93b0
                        try clear c94
                        try clear c95
                        try clear c96
                        try clear c101
                        try clear c101b0
                        try clear c101b1
                        try clear c105
                        try clear c106
                        try clear c107
                        try clear c112
                        try clear c113
                        try clear c119
                        try clear c120
                        try clear c121
                        try clear c122
                        try clear c126
                        try clear c127
                        try clear c128
                        try clear c129
                        try clear c130
                        try clear c132
                        try clear c133
                        try clear c134
                        try clear c137
                        try clear c138
                        try clear c139
                        try clear c140
                        try clear c142
                        try clear c143
                        try clear c144
                        try clear hcz108_0
                        try clear hcz108_1
                        try clear hcz110_0
                        try clear hcz110_1
                        try clear hcz114_0
                        try clear hcz114_1
                        try clear hcz123_0
                        try clear hcz123_1
                        try clear hcz131_0
                        try clear hcz131_1
                        try clear hcz135_0
                        try clear hcz135_1
                        try clear hcz141_0
                        try clear hcz141_1
                        try clear hcz145_0
                        try clear hcz145_1
                        try clear hcz14_0
                        try clear hcz14_1
                        try clear hcz16_0
                        try clear hcz16_1
                        try clear hcz22_0
                        try clear hcz22_1
                        try clear hcz24_0
                        try clear hcz24_1
                        try clear hcz29_0
                        try clear hcz29_1
                        try clear hcz36_0
                        try clear hcz36_1
                        try clear hcz43_0
                        try clear hcz43_1
                        try clear hcz46_0
                        try clear hcz46_1
                        try clear hcz51_0
                        try clear hcz51_1
                        try clear hcz54_0
                        try clear hcz54_1
                        try clear hcz69_0
                        try clear hcz69_1
                        try clear hcz6_0
                        try clear hcz6_1
                        try clear hcz77_0
                        try clear hcz77_1
                        try clear hcz80_0
                        try clear hcz80_1
                        try clear hcz85_0
                        try clear hcz85_1
                        try clear hcz88_0
                        try clear hcz88_1
                        try clear hcz97_0
                        try clear hcz97_1
                        try clear hcz99_0
                        try clear hcz99_1
                        try clear hfz108_0
                        try clear hfz108_1
                        try clear hfz110_0
                        try clear hfz110_1
                        try clear hfz114_0
                        try clear hfz114_1
                        try clear hfz123_0
                        try clear hfz123_1
                        try clear hfz131_0
                        try clear hfz131_1
                        try clear hfz135_0
                        try clear hfz135_1
                        try clear hfz141_0
                        try clear hfz141_1
                        try clear hfz145_0
                        try clear hfz145_1
                        try clear hfz14_0
                        try clear hfz14_1
                        try clear hfz16_0
                        try clear hfz16_1
                        try clear hfz22_0
                        try clear hfz22_1
                        try clear hfz24_0
                        try clear hfz24_1
                        try clear hfz29_0
                        try clear hfz29_1
                        try clear hfz36_0
                        try clear hfz36_1
                        try clear hfz43_0
                        try clear hfz43_1
                        try clear hfz46_0
                        try clear hfz46_1
                        try clear hfz51_0
                        try clear hfz51_1
                        try clear hfz54_0
                        try clear hfz54_1
                        try clear hfz69_0
                        try clear hfz69_1
                        try clear hfz6_0
                        try clear hfz6_1
                        try clear hfz77_0
                        try clear hfz77_1
                        try clear hfz80_0
                        try clear hfz80_1
                        try clear hfz85_0
                        try clear hfz85_1
                        try clear hfz88_0
                        try clear hfz88_1
                        try clear hfz97_0
                        try clear hfz97_1
                        try clear hfz99_0
                        try clear hfz99_1
                        try clear p2
                        obtain ⟨kq, x92_103, rfl, HA, HJ103, HO_560001, HO_565001, HO_571001, HO_593001, BK548, BK559, BK564, BK570, BK592, HB⟩ := hcut
                        have hl571001_103 := (Kd.R_reads' HO_571001.out).1
                        rw [hl571001_103] at HO_571001
                        (try simp only [hl571001_103])
                        (try simp only [hl571001_103] at BK548)
                        (try simp only [hl571001_103] at BK559)
                        (try simp only [hl571001_103] at BK564)
                        (try simp only [hl571001_103] at BK570)
                        (try simp only [hl571001_103] at BK592)
                        (try simp only [hl571001_103] at HO_560001)
                        (try simp only [hl571001_103] at HO_565001)
                        (try simp only [hl571001_103] at HO_593001)
                        cases kq with
                        | zero => exact absurd HA.out (by simp [laws_FnExactBoxPut.j2])
                        | succ kj103 =>
                          have H := HA.out
                          clear HA
                          simp only [laws_FnExactBoxPut.j2] at H
                          by_cases c147 : x92_103 = true
                          · subst c147
                            have H1 : (some false) = some r := by rw [if_pos rfl] at H; exact H
                            clear H
                            have H := H1
                            clear H1
                            obtain rfl := Option.some.inj H
                            go_wp2
                            go_ret
                            exact ⟨by first | rfl | (simp [errW_none, errW_some] <;> rfl) | (simp [*, errW_none, errW_some] <;> rfl), by repeat (first | (with_reducible first | exact HB.out | apply below_alloc | apply pw_below_drewN | apply below_drew1 | refine below_set ?_ GE548.out | refine below_set ?_ GE559.out | refine below_set ?_ GE564.out | refine below_set ?_ GE570.out | refine below_set ?_ GE592.out) | exact HB.out)⟩
                          · replace c147 := Bool.eq_false_iff.mpr c147
                            subst c147
                            have H1 : ((laws_heldBox.f kj103 t565 t581 1).bind fun t594 => (if t594 < 0 then (some false) else (if t594 = t580 then (some true) else (some false)))) = some r := by rw [if_neg (show ¬ (false = true) by decide)] at H; exact H
                            clear H
                            have H := H1
                            clear H1
                            replace H := Option.bind_eq_some_iff.mp H
                            obtain ⟨t594, A1480, H⟩ := H
                            replace H : (if t594 < 0 then (some false) else (if t594 = t580 then (some true) else (some false))) = some r := H
                            have A148 := Aside0.mk A1480
                            clear A1480
                            by_cases c149 : t594 < 0
                            · rw [if_pos c149] at H
                              have c149b0 : decide (t594 < 0) = true := decide_eq_true c149
                              clear c149
                              obtain rfl := Option.some.inj H
                              have hnb150 := NB570_548.out
                              have hnc150 := NB548_570.out
                              have hnb151 := NB570_559.out
                              have hnc151 := NB559_570.out
                              have hnb152 := NB570_564.out
                              have hnc152 := NB564_570.out
                              have hnb153 := NB570_592.out
                              have hnc153 := NB592_570.out
                              have hcz154_0 : wc.cell? ⟨gb570, 0, none⟩ = some (.int .i64 t565) := (blk_cell BK570.out 0).trans rfl
                              have hcz154_1 : wc.cell? ⟨gb570, 1, none⟩ = some (.slice Ao37 t581.length co37) := (blk_cell BK570.out 1).trans rfl
                              have hfz154_0 := blk_frozen BK570.out 0
                              have hfz154_1 := blk_frozen BK570.out 1
                              go_wp2_with (first | ((with_reducible refine gate_callee (f := 40) rfl ?_); refine goesL_ (some 95) rfl rfl Try.func40 (by kernel_rfl) rfl #[.agg #[.int .i64 t565, .slice Ao37 t581.length co37], .int .i64 1] rfl (by (try simp only [List.map_toArray, List.map_cons, List.map_nil]); first | done | rfl | (simp only [List.length_drop, List.length_take]; rfl)) ?_; (with_reducible refine (laws_heldBox.calls kj103 t565 _ _ t581 1 t594 _ ?side1 ?side2 A148.out).mono ?_); (case side1 => repeat (first | exact (Kd.R_reads' HO_571001.out).2.2 | (with_reducible refine Kd.C_alloc ?_ _) | (with_reducible refine Kd.C_drewN ?_ _) | (with_reducible refine Kd.C_drew ?_))); (case side2 => exact (Kd.R_reads' HO_571001.out).2.1); rintro e w155 ⟨rfl, hb⟩; refine ⟨_, rfl, ?_⟩; have n0_ := Aside0.mk (Kd.R_below (by (with_reducible repeat (first | apply Kd.R_alloc | apply Kd.R_drewN | apply Kd.R_drew)); exact HO_560001.out) hb); have n1_ := Aside0.mk (Kd.R_below (by (with_reducible repeat (first | apply Kd.R_alloc | apply Kd.R_drewN | apply Kd.R_drew)); exact HO_565001.out) hb); have n2_ := Aside0.mk (Kd.R_below (by (with_reducible repeat (first | apply Kd.R_alloc | apply Kd.R_drewN | apply Kd.R_drew)); exact HO_571001.out) hb); have n3_ := Aside0.mk (Kd.R_below (by (with_reducible repeat (first | apply Kd.R_alloc | apply Kd.R_drewN | apply Kd.R_drew)); exact HO_593001.out) hb); have n4_ := Aside0.mk (blk_below (g := gb548) (o := .cells #[.int .i64 a0_0, .slice A0_1 l0_1.length c0_1] 39 (0, 0)) (by (with_reducible repeat (first | refine blk_drewN ?_ _ | refine blk_drew ?_ | refine blk_alloc ?_ _)); exact BK548.out) hb); have n5_ := Aside0.mk (blk_below (g := gb559) (o := .cells #[.int .i64 t554, .slice Ao23 t555.length co23] 33 (0, 0)) (by (with_reducible repeat (first | refine blk_drewN ?_ _ | refine blk_drew ?_ | refine blk_alloc ?_ _)); exact BK559.out) hb); have n6_ := Aside0.mk (blk_below (g := gb564) (o := .cells #[.int .i64 t560, .slice Ao30 t578.length co30] 33 (0, 0)) (by (with_reducible repeat (first | refine blk_drewN ?_ _ | refine blk_drew ?_ | refine blk_alloc ?_ _)); exact BK564.out) hb); have n7_ := Aside0.mk (blk_below (g := gb570) (o := .cells #[.int .i64 t565, .slice Ao37 t581.length co37] 33 (0, 0)) (by (with_reducible repeat (first | refine blk_drewN ?_ _ | refine blk_drew ?_ | refine blk_alloc ?_ _)); exact BK570.out) hb); have n8_ := Aside0.mk (blk_below (g := gb592) (o := .cells #[.int .i64 t587, .slice Ao124 t588.length co124] 33 (0, 0)) (by (with_reducible repeat (first | refine blk_drewN ?_ _ | refine blk_drew ?_ | refine blk_alloc ?_ _)); exact BK592.out) hb); have n9_ := Aside0.mk (below_step (by repeat (first | (with_reducible first | exact HB.out | apply below_alloc | apply pw_below_drewN | apply below_drew1 | refine below_set ?_ GE548.out | refine below_set ?_ GE559.out | refine below_set ?_ GE564.out | refine below_set ?_ GE570.out | refine below_set ?_ GE592.out) | exact HB.out)) hb); clear HO_560001; clear HO_565001; clear HO_571001; clear HO_593001; clear BK548; clear BK559; clear BK564; clear BK570; clear BK592; clear HB; have HO_560001 := n0_; have HO_565001 := n1_; have HO_571001 := n2_; have HO_593001 := n3_; have BK548 := n4_; have BK559 := n5_; have BK564 := n6_; have BK570 := n7_; have BK592 := n8_; have HB := n9_; clear n0_ n1_ n2_ n3_ n4_ n5_ n6_ n7_ n8_ n9_; (try clear hb); (try clear hb2); (try clear hk); (try clear hi)))
                              go_ret
                              exact ⟨by first | rfl | (simp [errW_none, errW_some] <;> rfl) | (simp [*, errW_none, errW_some] <;> rfl), by repeat (first | (with_reducible first | exact HB.out | apply below_alloc | apply pw_below_drewN | apply below_drew1 | refine below_set ?_ GE548.out | refine below_set ?_ GE559.out | refine below_set ?_ GE564.out | refine below_set ?_ GE570.out | refine below_set ?_ GE592.out) | exact HB.out)⟩
                            · rw [if_neg c149] at H
                              have c149b0 : decide (t594 < 0) = false := decide_eq_false c149
                              clear c149
                              by_cases c156 : t594 = t580
                              · rw [if_pos c156] at H
                                have c156b0 : (t594 == t580) = true := beq_iff_eq.mpr c156
                                have c156b1 : (t594 != t580) = false := bne_eq_false_iff_eq.mpr c156
                                clear c156
                                obtain rfl := Option.some.inj H
                                have hnb157 := NB570_548.out
                                have hnc157 := NB548_570.out
                                have hnb158 := NB570_559.out
                                have hnc158 := NB559_570.out
                                have hnb159 := NB570_564.out
                                have hnc159 := NB564_570.out
                                have hnb160 := NB570_592.out
                                have hnc160 := NB592_570.out
                                have hcz161_0 : wc.cell? ⟨gb570, 0, none⟩ = some (.int .i64 t565) := (blk_cell BK570.out 0).trans rfl
                                have hcz161_1 : wc.cell? ⟨gb570, 1, none⟩ = some (.slice Ao37 t581.length co37) := (blk_cell BK570.out 1).trans rfl
                                have hfz161_0 := blk_frozen BK570.out 0
                                have hfz161_1 := blk_frozen BK570.out 1
                                go_wp2_with (first | ((with_reducible refine gate_callee (f := 40) rfl ?_); refine goesL_ (some 95) rfl rfl Try.func40 (by kernel_rfl) rfl #[.agg #[.int .i64 t565, .slice Ao37 t581.length co37], .int .i64 1] rfl (by (try simp only [List.map_toArray, List.map_cons, List.map_nil]); first | done | rfl | (simp only [List.length_drop, List.length_take]; rfl)) ?_; (with_reducible refine (laws_heldBox.calls kj103 t565 _ _ t581 1 t594 _ ?side1 ?side2 A148.out).mono ?_); (case side1 => repeat (first | exact (Kd.R_reads' HO_571001.out).2.2 | (with_reducible refine Kd.C_alloc ?_ _) | (with_reducible refine Kd.C_drewN ?_ _) | (with_reducible refine Kd.C_drew ?_))); (case side2 => exact (Kd.R_reads' HO_571001.out).2.1); rintro e w162 ⟨rfl, hb⟩; refine ⟨_, rfl, ?_⟩; have n0_ := Aside0.mk (Kd.R_below (by (with_reducible repeat (first | apply Kd.R_alloc | apply Kd.R_drewN | apply Kd.R_drew)); exact HO_560001.out) hb); have n1_ := Aside0.mk (Kd.R_below (by (with_reducible repeat (first | apply Kd.R_alloc | apply Kd.R_drewN | apply Kd.R_drew)); exact HO_565001.out) hb); have n2_ := Aside0.mk (Kd.R_below (by (with_reducible repeat (first | apply Kd.R_alloc | apply Kd.R_drewN | apply Kd.R_drew)); exact HO_571001.out) hb); have n3_ := Aside0.mk (Kd.R_below (by (with_reducible repeat (first | apply Kd.R_alloc | apply Kd.R_drewN | apply Kd.R_drew)); exact HO_593001.out) hb); have n4_ := Aside0.mk (blk_below (g := gb548) (o := .cells #[.int .i64 a0_0, .slice A0_1 l0_1.length c0_1] 39 (0, 0)) (by (with_reducible repeat (first | refine blk_drewN ?_ _ | refine blk_drew ?_ | refine blk_alloc ?_ _)); exact BK548.out) hb); have n5_ := Aside0.mk (blk_below (g := gb559) (o := .cells #[.int .i64 t554, .slice Ao23 t555.length co23] 33 (0, 0)) (by (with_reducible repeat (first | refine blk_drewN ?_ _ | refine blk_drew ?_ | refine blk_alloc ?_ _)); exact BK559.out) hb); have n6_ := Aside0.mk (blk_below (g := gb564) (o := .cells #[.int .i64 t560, .slice Ao30 t578.length co30] 33 (0, 0)) (by (with_reducible repeat (first | refine blk_drewN ?_ _ | refine blk_drew ?_ | refine blk_alloc ?_ _)); exact BK564.out) hb); have n7_ := Aside0.mk (blk_below (g := gb570) (o := .cells #[.int .i64 t565, .slice Ao37 t581.length co37] 33 (0, 0)) (by (with_reducible repeat (first | refine blk_drewN ?_ _ | refine blk_drew ?_ | refine blk_alloc ?_ _)); exact BK570.out) hb); have n8_ := Aside0.mk (blk_below (g := gb592) (o := .cells #[.int .i64 t587, .slice Ao124 t588.length co124] 33 (0, 0)) (by (with_reducible repeat (first | refine blk_drewN ?_ _ | refine blk_drew ?_ | refine blk_alloc ?_ _)); exact BK592.out) hb); have n9_ := Aside0.mk (below_step (by repeat (first | (with_reducible first | exact HB.out | apply below_alloc | apply pw_below_drewN | apply below_drew1 | refine below_set ?_ GE548.out | refine below_set ?_ GE559.out | refine below_set ?_ GE564.out | refine below_set ?_ GE570.out | refine below_set ?_ GE592.out) | exact HB.out)) hb); clear HO_560001; clear HO_565001; clear HO_571001; clear HO_593001; clear BK548; clear BK559; clear BK564; clear BK570; clear BK592; clear HB; have HO_560001 := n0_; have HO_565001 := n1_; have HO_571001 := n2_; have HO_593001 := n3_; have BK548 := n4_; have BK559 := n5_; have BK564 := n6_; have BK570 := n7_; have BK592 := n8_; have HB := n9_; clear n0_ n1_ n2_ n3_ n4_ n5_ n6_ n7_ n8_ n9_; (try clear hb); (try clear hb2); (try clear hk); (try clear hi)))
                                go_ret
                                exact ⟨by first | rfl | (simp [errW_none, errW_some] <;> rfl) | (simp [*, errW_none, errW_some] <;> rfl), by repeat (first | (with_reducible first | exact HB.out | apply below_alloc | apply pw_below_drewN | apply below_drew1 | refine below_set ?_ GE548.out | refine below_set ?_ GE559.out | refine below_set ?_ GE564.out | refine below_set ?_ GE570.out | refine below_set ?_ GE592.out) | exact HB.out)⟩
                              · rw [if_neg c156] at H
                                have c156b0 : (t594 == t580) = false := beq_eq_false_iff_ne.mpr c156
                                have c156b1 : (t594 != t580) = true := bne_iff_ne.mpr c156
                                obtain rfl := Option.some.inj H
                                have hnb163 := NB570_548.out
                                have hnc163 := NB548_570.out
                                have hnb164 := NB570_559.out
                                have hnc164 := NB559_570.out
                                have hnb165 := NB570_564.out
                                have hnc165 := NB564_570.out
                                have hnb166 := NB570_592.out
                                have hnc166 := NB592_570.out
                                have hcz167_0 : wc.cell? ⟨gb570, 0, none⟩ = some (.int .i64 t565) := (blk_cell BK570.out 0).trans rfl
                                have hcz167_1 : wc.cell? ⟨gb570, 1, none⟩ = some (.slice Ao37 t581.length co37) := (blk_cell BK570.out 1).trans rfl
                                have hfz167_0 := blk_frozen BK570.out 0
                                have hfz167_1 := blk_frozen BK570.out 1
                                go_wp2_with (first | ((with_reducible refine gate_callee (f := 40) rfl ?_); refine goesL_ (some 95) rfl rfl Try.func40 (by kernel_rfl) rfl #[.agg #[.int .i64 t565, .slice Ao37 t581.length co37], .int .i64 1] rfl (by (try simp only [List.map_toArray, List.map_cons, List.map_nil]); first | done | rfl | (simp only [List.length_drop, List.length_take]; rfl)) ?_; (with_reducible refine (laws_heldBox.calls kj103 t565 _ _ t581 1 t594 _ ?side1 ?side2 A148.out).mono ?_); (case side1 => repeat (first | exact (Kd.R_reads' HO_571001.out).2.2 | (with_reducible refine Kd.C_alloc ?_ _) | (with_reducible refine Kd.C_drewN ?_ _) | (with_reducible refine Kd.C_drew ?_))); (case side2 => exact (Kd.R_reads' HO_571001.out).2.1); rintro e w168 ⟨rfl, hb⟩; refine ⟨_, rfl, ?_⟩; have n0_ := Aside0.mk (Kd.R_below (by (with_reducible repeat (first | apply Kd.R_alloc | apply Kd.R_drewN | apply Kd.R_drew)); exact HO_560001.out) hb); have n1_ := Aside0.mk (Kd.R_below (by (with_reducible repeat (first | apply Kd.R_alloc | apply Kd.R_drewN | apply Kd.R_drew)); exact HO_565001.out) hb); have n2_ := Aside0.mk (Kd.R_below (by (with_reducible repeat (first | apply Kd.R_alloc | apply Kd.R_drewN | apply Kd.R_drew)); exact HO_571001.out) hb); have n3_ := Aside0.mk (Kd.R_below (by (with_reducible repeat (first | apply Kd.R_alloc | apply Kd.R_drewN | apply Kd.R_drew)); exact HO_593001.out) hb); have n4_ := Aside0.mk (blk_below (g := gb548) (o := .cells #[.int .i64 a0_0, .slice A0_1 l0_1.length c0_1] 39 (0, 0)) (by (with_reducible repeat (first | refine blk_drewN ?_ _ | refine blk_drew ?_ | refine blk_alloc ?_ _)); exact BK548.out) hb); have n5_ := Aside0.mk (blk_below (g := gb559) (o := .cells #[.int .i64 t554, .slice Ao23 t555.length co23] 33 (0, 0)) (by (with_reducible repeat (first | refine blk_drewN ?_ _ | refine blk_drew ?_ | refine blk_alloc ?_ _)); exact BK559.out) hb); have n6_ := Aside0.mk (blk_below (g := gb564) (o := .cells #[.int .i64 t560, .slice Ao30 t578.length co30] 33 (0, 0)) (by (with_reducible repeat (first | refine blk_drewN ?_ _ | refine blk_drew ?_ | refine blk_alloc ?_ _)); exact BK564.out) hb); have n7_ := Aside0.mk (blk_below (g := gb570) (o := .cells #[.int .i64 t565, .slice Ao37 t581.length co37] 33 (0, 0)) (by (with_reducible repeat (first | refine blk_drewN ?_ _ | refine blk_drew ?_ | refine blk_alloc ?_ _)); exact BK570.out) hb); have n8_ := Aside0.mk (blk_below (g := gb592) (o := .cells #[.int .i64 t587, .slice Ao124 t588.length co124] 33 (0, 0)) (by (with_reducible repeat (first | refine blk_drewN ?_ _ | refine blk_drew ?_ | refine blk_alloc ?_ _)); exact BK592.out) hb); have n9_ := Aside0.mk (below_step (by repeat (first | (with_reducible first | exact HB.out | apply below_alloc | apply pw_below_drewN | apply below_drew1 | refine below_set ?_ GE548.out | refine below_set ?_ GE559.out | refine below_set ?_ GE564.out | refine below_set ?_ GE570.out | refine below_set ?_ GE592.out) | exact HB.out)) hb); clear HO_560001; clear HO_565001; clear HO_571001; clear HO_593001; clear BK548; clear BK559; clear BK564; clear BK570; clear BK592; clear HB; have HO_560001 := n0_; have HO_565001 := n1_; have HO_571001 := n2_; have HO_593001 := n3_; have BK548 := n4_; have BK559 := n5_; have BK564 := n6_; have BK570 := n7_; have BK592 := n8_; have HB := n9_; clear n0_ n1_ n2_ n3_ n4_ n5_ n6_ n7_ n8_ n9_; (try clear hb); (try clear hb2); (try clear hk); (try clear hi)))
                                go_ret
                                exact ⟨by first | rfl | (simp [errW_none, errW_some] <;> rfl) | (simp [*, errW_none, errW_some] <;> rfl), by repeat (first | (with_reducible first | exact HB.out | apply below_alloc | apply pw_below_drewN | apply below_drew1 | refine below_set ?_ GE548.out | refine below_set ?_ GE559.out | refine below_set ?_ GE564.out | refine below_set ?_ GE570.out | refine below_set ?_ GE592.out) | exact HB.out)⟩
                    · rw [if_neg c101] at H
                      have c101b0 : (t582 == t580) = false := beq_eq_false_iff_ne.mpr c101
                      have c101b1 : (t582 != t580) = true := bne_iff_ne.mpr c101
                      obtain rfl := Option.some.inj H
                      have hnb169 := NB570_548.out
                      have hnc169 := NB548_570.out
                      have hnb170 := NB570_559.out
                      have hnc170 := NB559_570.out
                      have hnb171 := NB570_564.out
                      have hnc171 := NB564_570.out
                      have hcz172_0 : wc.cell? ⟨gb570, 0, none⟩ = some (.int .i64 t565) := (blk_cell BK570.out 0).trans rfl
                      have hcz172_1 : wc.cell? ⟨gb570, 1, none⟩ = some (.slice Ao37 t566.length co37) := (blk_cell BK570.out 1).trans rfl
                      have hfz172_0 := blk_frozen BK570.out 0
                      have hfz172_1 := blk_frozen BK570.out 1
                      go_wp2_with (first | ((with_reducible refine gate_callee (f := 39) rfl ?_); refine goesL_ (some 68) rfl rfl Try.func39 (by kernel_rfl) rfl #[.agg #[.int .i64 t565, .slice Ao37 t566.length co37], .int .i64 1] rfl (by (try simp only [List.map_toArray, List.map_cons, List.map_nil]); first | done | rfl | (simp only [List.length_drop, List.length_take]; rfl)) ?_; (with_reducible refine (laws_markBox.calls kj60 t565 (fun k_ => some k_ = (.slice Ao37 t566.length co37 : Value).ownBlock) (.slice Ao37 t566.length co37) t566 1 t580 t581 w _ ?side1 ?side2 A91.out).mono ?_); (case side1 => repeat (first | (with_reducible first | exact HB.out | apply below_alloc | apply pw_below_drewN | apply below_drew1 | refine below_set ?_ GE548.out | refine below_set ?_ GE559.out | refine below_set ?_ GE564.out | refine below_set ?_ GE570.out) | exact HB.out)); (case side2 => exact Kd.R_tight rfl HO_571001.out); rintro e w173 ⟨rfl, hy0, hb, hkp⟩; refine ⟨_, rfl, ?_⟩; have n0_ := Aside0.mk (Kd.R_mono (ok' := fun k_ => some k_ ≠ (.slice Ao30 t578.length co30 : Value).ownBlock ∧ some k_ ≠ (.slice Ao37 t566.length co37 : Value).ownBlock) (Kd.R_keptB (HO_560001.out) hkp (fun k_ hk_ hs_ => (hk_.2) hs_)) (fun k_ hk_ => ⟨hk_.1.1, hk_.1.2⟩)); have n1_ := Aside0.mk (Kd.R_mono (ok' := fun k_ => some k_ ≠ (.slice Ao23 t555.length co23 : Value).ownBlock ∧ some k_ ≠ (.slice Ao37 t566.length co37 : Value).ownBlock) (Kd.R_keptB (HO_565001.out) hkp (fun k_ hk_ hs_ => (hk_.2) hs_)) (fun k_ hk_ => ⟨hk_.1.1, hk_.1.2⟩)); have n2_ := Aside0.mk (Kd.R_reok rfl hy0 (fun k_ e_ => HO_571001.out.1 k_ e_)); have n3_ := Aside0.mk (blk_kept (by (with_reducible repeat (first | refine blk_drewN ?_ _ | refine blk_drew ?_ | refine blk_alloc ?_ _)); exact BK548.out) hkp (fun hs_ => (fun e_ => (Kd.R_ne HO_571001.out BK548.out (by decide)) e_) hs_)); have n4_ := Aside0.mk (blk_kept (by (with_reducible repeat (first | refine blk_drewN ?_ _ | refine blk_drew ?_ | refine blk_alloc ?_ _)); exact BK559.out) hkp (fun hs_ => (fun e_ => (Kd.R_ne HO_571001.out BK559.out (by decide)) e_) hs_)); have n5_ := Aside0.mk (blk_kept (by (with_reducible repeat (first | refine blk_drewN ?_ _ | refine blk_drew ?_ | refine blk_alloc ?_ _)); exact BK564.out) hkp (fun hs_ => (fun e_ => (Kd.R_ne HO_571001.out BK564.out (by decide)) e_) hs_)); have n6_ := Aside0.mk (blk_kept (by (with_reducible repeat (first | refine blk_drewN ?_ _ | refine blk_drew ?_ | refine blk_alloc ?_ _)); exact BK570.out) hkp (fun hs_ => (fun e_ => (Kd.R_ne HO_571001.out BK570.out (by decide)) e_) hs_)); have n7_ := Aside0.mk (hb); clear HO_560001; clear HO_565001; clear HO_571001; clear BK548; clear BK559; clear BK564; clear BK570; clear HB; have HO_560001 := n0_; have HO_565001 := n1_; have HO_571001 := n2_; have BK548 := n3_; have BK559 := n4_; have BK564 := n5_; have BK570 := n6_; have HB := n7_; clear n0_ n1_ n2_ n3_ n4_ n5_ n6_ n7_; (try clear hb); (try clear hkp); (try clear hy0); have hcz174_0 : w173.cell? ⟨gb570, 0, none⟩ = some (.int .i64 t565) := (blk_cell BK570.out 0).trans rfl; have hcz174_1 : w173.cell? ⟨gb570, 1, none⟩ = some (.slice Ao37 t566.length co37) := (blk_cell BK570.out 1).trans rfl; have hfz174_0 := blk_frozen BK570.out 0; have hfz174_1 := blk_frozen BK570.out 1) | ((with_reducible refine gate_callee (f := 40) rfl ?_); refine goesL_ (some 71) rfl rfl Try.func40 (by kernel_rfl) rfl #[.agg #[.int .i64 t565, .slice Ao37 t581.length co37], .int .i64 1] rfl (by (try simp only [List.map_toArray, List.map_cons, List.map_nil]); first | done | (rw [show t581.length = t566.length from (Kd.R_reads' HO_571001.out).1.symm] <;> rfl) | rfl | (simp only [List.length_drop, List.length_take]; rfl)) ?_; (with_reducible refine (laws_heldBox.calls kj60 t565 _ _ t581 1 t582 _ ?side1 ?side2 A92.out).mono ?_); (case side1 => repeat (first | exact (Kd.R_reads' HO_571001.out).2.2 | (with_reducible refine Kd.C_alloc ?_ _) | (with_reducible refine Kd.C_drewN ?_ _) | (with_reducible refine Kd.C_drew ?_))); (case side2 => rw [show t581.length = t566.length from (Kd.R_reads' HO_571001.out).1.symm]; exact (Kd.R_reads' HO_571001.out).2.1); rintro e w175 ⟨rfl, hb⟩; refine ⟨_, rfl, ?_⟩; have n0_ := Aside0.mk (Kd.R_below (by (with_reducible repeat (first | apply Kd.R_alloc | apply Kd.R_drewN | apply Kd.R_drew)); exact HO_560001.out) hb); have n1_ := Aside0.mk (Kd.R_below (by (with_reducible repeat (first | apply Kd.R_alloc | apply Kd.R_drewN | apply Kd.R_drew)); exact HO_565001.out) hb); have n2_ := Aside0.mk (Kd.R_below (by (with_reducible repeat (first | apply Kd.R_alloc | apply Kd.R_drewN | apply Kd.R_drew)); exact HO_571001.out) hb); have n3_ := Aside0.mk (blk_below (g := gb548) (o := .cells #[.int .i64 a0_0, .slice A0_1 l0_1.length c0_1] 39 (0, 0)) (by (with_reducible repeat (first | refine blk_drewN ?_ _ | refine blk_drew ?_ | refine blk_alloc ?_ _)); exact BK548.out) hb); have n4_ := Aside0.mk (blk_below (g := gb559) (o := .cells #[.int .i64 t554, .slice Ao23 t555.length co23] 33 (0, 0)) (by (with_reducible repeat (first | refine blk_drewN ?_ _ | refine blk_drew ?_ | refine blk_alloc ?_ _)); exact BK559.out) hb); have n5_ := Aside0.mk (blk_below (g := gb564) (o := .cells #[.int .i64 t560, .slice Ao30 t578.length co30] 33 (0, 0)) (by (with_reducible repeat (first | refine blk_drewN ?_ _ | refine blk_drew ?_ | refine blk_alloc ?_ _)); exact BK564.out) hb); have n6_ := Aside0.mk (blk_below (g := gb570) (o := .cells #[.int .i64 t565, .slice Ao37 t566.length co37] 33 (0, 0)) (by (with_reducible repeat (first | refine blk_drewN ?_ _ | refine blk_drew ?_ | refine blk_alloc ?_ _)); exact BK570.out) hb); have n7_ := Aside0.mk (below_step (by repeat (first | (with_reducible first | exact HB.out | apply below_alloc | apply pw_below_drewN | apply below_drew1 | refine below_set ?_ GE548.out | refine below_set ?_ GE559.out | refine below_set ?_ GE564.out | refine below_set ?_ GE570.out) | exact HB.out)) hb); clear HO_560001; clear HO_565001; clear HO_571001; clear BK548; clear BK559; clear BK564; clear BK570; clear HB; have HO_560001 := n0_; have HO_565001 := n1_; have HO_571001 := n2_; have BK548 := n3_; have BK559 := n4_; have BK564 := n5_; have BK570 := n6_; have HB := n7_; clear n0_ n1_ n2_ n3_ n4_ n5_ n6_ n7_; (try clear hb); (try clear hb2); (try clear hk); (try clear hi)))
                      go_ret
                      exact ⟨by first | rfl | (simp [errW_none, errW_some] <;> rfl) | (simp [*, errW_none, errW_some] <;> rfl), by repeat (first | (with_reducible first | exact HB.out | apply below_alloc | apply pw_below_drewN | apply below_drew1 | refine below_set ?_ GE548.out | refine below_set ?_ GE559.out | refine below_set ?_ GE564.out | refine below_set ?_ GE570.out) | exact HB.out)⟩
          · replace c59 := Bool.eq_false_iff.mpr c59
            subst c59
            have H1 : (some false) = some r := by rw [if_neg (show ¬ (false = true) by decide)] at H; exact H
            clear H
            have H := H1
            clear H1
            obtain rfl := Option.some.inj H
            try go_wp2
            have n0_ := Aside0.mk (Kd.R_drew HO_560001.out)
            have n1_ := Aside0.mk (Kd.R_drew HO_565001.out)
            have n2_ := Aside0.mk (Kd.R_drew HO_571001.out)
            have n3_ := Aside0.mk (blk_drew BK548.out)
            have n4_ := Aside0.mk (blk_drew BK559.out)
            have n5_ := Aside0.mk (blk_drew BK564.out)
            have n6_ := Aside0.mk (blk_drew BK570.out)
            have n7_ := Aside0.mk (below_drew1 HB.out)
            clear HO_560001
            clear HO_565001
            clear HO_571001
            clear BK548
            clear BK559
            clear BK564
            clear BK570
            clear HB
            have HO_560001 := n0_
            have HO_565001 := n1_
            have HO_571001 := n2_
            have BK548 := n3_
            have BK559 := n4_
            have BK564 := n5_
            have BK570 := n6_
            have HB := n7_
            clear n0_ n1_ n2_ n3_ n4_ n5_ n6_ n7_
            refine start_ (n := 5) (S := fun w' => w'.cell? ⟨gb564, 0, none⟩ = some (.int .i64 t560) ∧ w'.cell? ⟨gb564, 1, none⟩ = some (.slice Ao30 t561.length co30) ∧ w'.cell? ⟨gb548, 0, none⟩ = some (.int .i64 a0_0) ∧ w'.cell? ⟨gb548, 1, none⟩ = some (.slice A0_1 l0_1.length c0_1)) (ds := []) #[false, false, false, false, false] (by kernel_rfl) rfl rfl ⟨(blk_cell BK564.out 0).trans rfl, (blk_cell BK564.out 1).trans rfl, (blk_cell BK548.out 0).trans rfl, (blk_cell BK548.out 1).trans rfl⟩ (fun hHeld => ?_)
            generalize wc.drew = w176 at HO_560001 HO_565001 HO_571001 BK548 BK559 BK564 BK570 HB hHeld ⊢
            refine take_ (i := 0) (N := some 45) (v := ?_) (a' := ?_) #[true, false, false, false, false] rfl rfl (by kernel_rfl) (fun _ _ _ h => h) (Or.inl ⟨by rfl, ?_⟩) hHeld ?_ ?_
            rotate_left
            · rintro w' ⟨s0, s1, s2, s3⟩
              go_simp
              with_reducible rfl
            rotate_left
            · simp only [Act.put, List.setIfInBounds_toArray, List.set_cons_zero, List.set_cons_succ, i64_w, i32_w]
              rfl
            refine take_ (i := 1) (N := some 46) (v := ?_) (a' := ?_) #[true, true, false, false, false] rfl rfl (by kernel_rfl) (fun _ _ _ h => h) (Or.inl ⟨by rfl, ?_⟩) hHeld ?_ ?_
            rotate_left
            · rintro w' ⟨s0, s1, s2, s3⟩
              go_simp
              with_reducible rfl
            rotate_left
            · simp only [Act.put, List.setIfInBounds_toArray, List.set_cons_zero, List.set_cons_succ, i64_w, i32_w]
              rfl
            refine one_ (i := 2) (N := some 47) #[true, true, true, false, false] rfl rfl (by kernel_rfl) (by decide) (fun K hK => ?_)
            refine goes_ Try.func27 (by kernel_rfl) rfl #[.agg #[.int .i64 a0_0, .slice A0_1 l0_1.length c0_1]] (by rfl) rfl rfl (by (try simp only [List.map_toArray, List.map_cons, List.map_nil]); first | done | rfl | (simp only [List.length_drop, List.length_take]; rfl)) ?_
            with_reducible refine (laws_toBox.calls kj11 a0_0 _ _ l0_1 t572 t573 _ ?side1 ?side2 A57.out).mono ?_
            (case side1 => repeat (first | exact (Kd.C_below HR0_1.out HB.out) | (with_reducible refine Kd.C_alloc ?_ _) | (with_reducible refine Kd.C_drewN ?_ _) | (with_reducible refine Kd.C_drew ?_)))
            (case side2 => exact HC0_1.out)
            rintro e w177 ⟨v574, rfl, ho0, hb⟩
            refine ⟨_, rfl, ?_⟩
            have n0_ := Aside0.mk (Kd.R_elder' (by (with_reducible repeat (first | apply Kd.R_alloc | apply Kd.R_drewN | apply Kd.R_drew)); exact HO_560001.out) (Kd.R_base ho0) hb)
            have n1_ := Aside0.mk (Kd.R_elder' (by (with_reducible repeat (first | apply Kd.R_alloc | apply Kd.R_drewN | apply Kd.R_drew)); exact HO_565001.out) (Kd.R_base ho0) hb)
            have n2_ := Aside0.mk (Kd.R_elder' (by (with_reducible repeat (first | apply Kd.R_alloc | apply Kd.R_drewN | apply Kd.R_drew)); exact HO_571001.out) (Kd.R_base ho0) hb)
            have n3_ := Aside0.mk (Kd.R_lower (Kd.R_new' (Kd.R_new' (Kd.R_new' ho0 (Kd.R_lt (by (with_reducible repeat (first | apply Kd.R_alloc | apply Kd.R_drewN | apply Kd.R_drew)); exact HO_560001.out))) (Kd.R_lt (by (with_reducible repeat (first | apply Kd.R_alloc | apply Kd.R_drewN | apply Kd.R_drew)); exact HO_565001.out))) (Kd.R_lt (by (with_reducible repeat (first | apply Kd.R_alloc | apply Kd.R_drewN | apply Kd.R_drew)); exact HO_571001.out))) (below_size (by repeat (first | (with_reducible first | exact HB.out | apply below_alloc | apply pw_below_drewN | apply below_drew1 | refine below_set ?_ GE548.out | refine below_set ?_ GE559.out | refine below_set ?_ GE564.out | refine below_set ?_ GE570.out) | exact HB.out))))
            have n4_ := Aside0.mk (blk_below (g := gb548) (o := .cells #[.int .i64 a0_0, .slice A0_1 l0_1.length c0_1] 39 (0, 0)) (by (with_reducible repeat (first | refine blk_drewN ?_ _ | refine blk_drew ?_ | refine blk_alloc ?_ _)); exact BK548.out) hb)
            have n5_ := Aside0.mk (blk_below (g := gb559) (o := .cells #[.int .i64 t554, .slice Ao23 t555.length co23] 33 (0, 0)) (by (with_reducible repeat (first | refine blk_drewN ?_ _ | refine blk_drew ?_ | refine blk_alloc ?_ _)); exact BK559.out) hb)
            have n6_ := Aside0.mk (blk_below (g := gb564) (o := .cells #[.int .i64 t560, .slice Ao30 t561.length co30] 33 (0, 0)) (by (with_reducible repeat (first | refine blk_drewN ?_ _ | refine blk_drew ?_ | refine blk_alloc ?_ _)); exact BK564.out) hb)
            have n7_ := Aside0.mk (blk_below (g := gb570) (o := .cells #[.int .i64 t565, .slice Ao37 t566.length co37] 33 (0, 0)) (by (with_reducible repeat (first | refine blk_drewN ?_ _ | refine blk_drew ?_ | refine blk_alloc ?_ _)); exact BK570.out) hb)
            have n8_ := Aside0.mk (below_step (by repeat (first | (with_reducible first | exact HB.out | apply below_alloc | apply pw_below_drewN | apply below_drew1 | refine below_set ?_ GE548.out | refine below_set ?_ GE559.out | refine below_set ?_ GE564.out | refine below_set ?_ GE570.out) | exact HB.out)) hb)
            clear HO_560001
            clear HO_565001
            clear HO_571001
            clear BK548
            clear BK559
            clear BK564
            clear BK570
            clear HB
            have HO_560001 := n0_
            have HO_565001 := n1_
            have HO_571001 := n2_
            have HO575 := n3_
            have BK548 := n4_
            have BK559 := n5_
            have BK564 := n6_
            have BK570 := n7_
            have HB := n8_
            clear n0_ n1_ n2_ n3_ n4_ n5_ n6_ n7_ n8_
            (try clear hb)
            (try clear hb2)
            (try clear hk)
            (try clear hi)
            (try clear ho0)
            obtain ⟨Ao178, co178, eo178⟩ := Kd.R_slice HO575.out
            (first | subst eo178 | (injection eo178 with f1_ f2_ f3_; have f4_ := f1_.symm; have f5_ := f3_.symm; clear f1_ f2_ f3_; subst f4_; subst f5_))
            refine hK.out _ _ ⟨(blk_cell BK564.out 0).trans rfl, (blk_cell BK564.out 1).trans rfl, (blk_cell BK548.out 0).trans rfl, (blk_cell BK548.out 1).trans rfl⟩ (fun hHeld => ?_)
            clear hK K
            refine norm_ (a' := ?_) ?_ ?_
            rotate_left
            · show Act.put _ (some 47) _ = _
              simp only [Act.put, List.setIfInBounds_toArray, List.set_cons_zero, List.set_cons_succ, i64_w, i32_w]
              rfl
            refine one_ (i := 3) (N := some 48) #[true, true, true, true, false] rfl rfl (by kernel_rfl) (by decide) (fun K hK => ?_)
            refine goes_ Try.func29 (by kernel_rfl) rfl #[.agg #[.int .i64 t560, .slice Ao30 t561.length co30], .agg #[.int .i64 t572, .slice Ao178 t573.length co178]] (by rfl) rfl rfl (by (try simp only [List.map_toArray, List.map_cons, List.map_nil]); first | done | rfl | (simp only [List.length_drop, List.length_take]; rfl)) ?_
            with_reducible refine (laws_eqBox.calls kj11 t560 _ _ t561 t572 _ _ t573 false _ ?side1 ?side2 ?side3 ?side4 A58.out).mono ?_
            (case side1 => repeat (first | exact (Kd.R_reads' HO_565001.out).2.2 | (with_reducible refine Kd.C_alloc ?_ _) | (with_reducible refine Kd.C_drewN ?_ _) | (with_reducible refine Kd.C_drew ?_)))
            (case side2 => exact (Kd.R_reads' HO_565001.out).2.1)
            (case side3 => repeat (first | exact (Kd.R_reads' HO575.out).2.2 | (with_reducible refine Kd.C_alloc ?_ _) | (with_reducible refine Kd.C_drewN ?_ _) | (with_reducible refine Kd.C_drew ?_)))
            (case side4 => exact (Kd.R_reads' HO575.out).2.1)
            rintro e w179 ⟨rfl, hb⟩
            refine ⟨_, rfl, ?_⟩
            have n0_ := Aside0.mk (Kd.R_below (by (with_reducible repeat (first | apply Kd.R_alloc | apply Kd.R_drewN | apply Kd.R_drew)); exact HO_560001.out) hb)
            have n1_ := Aside0.mk (Kd.R_below (by (with_reducible repeat (first | apply Kd.R_alloc | apply Kd.R_drewN | apply Kd.R_drew)); exact HO_565001.out) hb)
            have n2_ := Aside0.mk (Kd.R_below (by (with_reducible repeat (first | apply Kd.R_alloc | apply Kd.R_drewN | apply Kd.R_drew)); exact HO_571001.out) hb)
            have n3_ := Aside0.mk (Kd.R_below (by (with_reducible repeat (first | apply Kd.R_alloc | apply Kd.R_drewN | apply Kd.R_drew)); exact HO575.out) hb)
            have n4_ := Aside0.mk (blk_below (g := gb548) (o := .cells #[.int .i64 a0_0, .slice A0_1 l0_1.length c0_1] 39 (0, 0)) (by (with_reducible repeat (first | refine blk_drewN ?_ _ | refine blk_drew ?_ | refine blk_alloc ?_ _)); exact BK548.out) hb)
            have n5_ := Aside0.mk (blk_below (g := gb559) (o := .cells #[.int .i64 t554, .slice Ao23 t555.length co23] 33 (0, 0)) (by (with_reducible repeat (first | refine blk_drewN ?_ _ | refine blk_drew ?_ | refine blk_alloc ?_ _)); exact BK559.out) hb)
            have n6_ := Aside0.mk (blk_below (g := gb564) (o := .cells #[.int .i64 t560, .slice Ao30 t561.length co30] 33 (0, 0)) (by (with_reducible repeat (first | refine blk_drewN ?_ _ | refine blk_drew ?_ | refine blk_alloc ?_ _)); exact BK564.out) hb)
            have n7_ := Aside0.mk (blk_below (g := gb570) (o := .cells #[.int .i64 t565, .slice Ao37 t566.length co37] 33 (0, 0)) (by (with_reducible repeat (first | refine blk_drewN ?_ _ | refine blk_drew ?_ | refine blk_alloc ?_ _)); exact BK570.out) hb)
            have n8_ := Aside0.mk (below_step (by repeat (first | (with_reducible first | exact HB.out | apply below_alloc | apply pw_below_drewN | apply below_drew1 | refine below_set ?_ GE548.out | refine below_set ?_ GE559.out | refine below_set ?_ GE564.out | refine below_set ?_ GE570.out) | exact HB.out)) hb)
            clear HO_560001
            clear HO_565001
            clear HO_571001
            clear HO575
            clear BK548
            clear BK559
            clear BK564
            clear BK570
            clear HB
            have HO_560001 := n0_
            have HO_565001 := n1_
            have HO_571001 := n2_
            have HO575 := n3_
            have BK548 := n4_
            have BK559 := n5_
            have BK564 := n6_
            have BK570 := n7_
            have HB := n8_
            clear n0_ n1_ n2_ n3_ n4_ n5_ n6_ n7_ n8_
            (try clear hb)
            (try clear hb2)
            (try clear hk)
            (try clear hi)
            refine hK.out _ _ ⟨(blk_cell BK564.out 0).trans rfl, (blk_cell BK564.out 1).trans rfl, (blk_cell BK548.out 0).trans rfl, (blk_cell BK548.out 1).trans rfl⟩ (fun hHeld => ?_)
            clear hK K
            refine norm_ (a' := ?_) ?_ ?_
            rotate_left
            · show Act.put _ (some 48) _ = _
              simp only [Act.put, List.setIfInBounds_toArray, List.set_cons_zero, List.set_cons_succ, i64_w, i32_w]
              rfl
            refine pure_ (i := 4) (N := some 49) (v := ?_) (a' := ?_) #[true, true, true, true, true] rfl rfl (by kernel_rfl) (fun _ _ _ h => h) (Or.inl ⟨by rfl, ?_⟩) ?_ ?_
            rotate_left
            · intro w'
              go_simp
              with_reducible rfl
            rotate_left
            · simp only [Act.put, List.setIfInBounds_toArray, List.set_cons_zero, List.set_cons_succ, i64_w, i32_w]
              rfl
            refine done_ (by kernel_rfl) ?_
            try go_wp2
            go_ret
            exact ⟨by first | rfl | (simp [errW_none, errW_some] <;> rfl) | (simp [*, errW_none, errW_some] <;> rfl), by repeat (first | (with_reducible first | exact HB.out | apply below_alloc | apply pw_below_drewN | apply below_drew1 | refine below_set ?_ GE548.out | refine below_set ?_ GE559.out | refine below_set ?_ GE564.out | refine below_set ?_ GE570.out) | exact HB.out)⟩

end Go.Proofs.Ytiakpoamjiodoaa.PA

-- made by a program of this session (wip/myprint.py over the kit's print)
import Derived.Test.YtiakpoamjiodoaaV
import Derived.Test.YtiakpoamjiodoaaPAx0
import Derived.Test.YtiakpoamjiodoaaPAx1
import Derived.Test.YtiakpoamjiodoaaPAx24
import Derived.Test.YtiakpoamjiodoaaPAx29
import Derived.Test.YtiakpoamjiodoaaPAx31
import Derived.Test.YtiakpoamjiodoaaPAx52
import Derived.Test.YtiakpoamjiodoaaPAx53
import Derived.Test.YtiakpoamjiodoaaPAx55
import Derived.Test.YtiakpoamjiodoaaPAx56
namespace Go.Proofs.Ytiakpoamjiodoaa.PA
open Go.RowKit Go.Proofs.YtiakpoamjiodoaaW.PrintWords Go.Proofs.YtiakpoamjiodoaaW.PrintLast Go.Proofs.YtiakpoamjiodoaaW.PrintMore
attribute [local go_sem] max2_int min2_int max_two min_two max_three min_three max_four min_four   -- for this text's walks alone
set_option linter.unusedVariables false
set_option linter.unusedSimpArgs false

/-! ### laws_FnExactBoxTake: function 11 -/
theorem laws_FnExactBoxTake.mono_l : ∀ k, (∀ y0 y1 y2 y3 y4 y5 y6 y7 y8 y9 y10 y11 y12, LeO (laws_FnExactBoxTake.j0 k y0 y1 y2 y3 y4 y5 y6 y7 y8 y9 y10 y11 y12) (laws_FnExactBoxTake.j0 (k + 1) y0 y1 y2 y3 y4 y5 y6 y7 y8 y9 y10 y11 y12)) ∧ (∀ y0 y1 y2 y3 y4 y5 y6 y7 y8, LeO (laws_FnExactBoxTake.j1 k y0 y1 y2 y3 y4 y5 y6 y7 y8) (laws_FnExactBoxTake.j1 (k + 1) y0 y1 y2 y3 y4 y5 y6 y7 y8)) ∧ (∀ y0 y1 y2 y3, LeO (laws_FnExactBoxTake.j2 k y0 y1 y2 y3) (laws_FnExactBoxTake.j2 (k + 1) y0 y1 y2 y3))
  | 0 => ⟨fun _ _ _ _ _ _ _ _ _ _ _ _ _ r h => by simp [laws_FnExactBoxTake.j0] at h, fun _ _ _ _ _ _ _ _ _ r h => by simp [laws_FnExactBoxTake.j1] at h, fun _ _ _ _ r h => by simp [laws_FnExactBoxTake.j2] at h⟩
  | k + 1 => by
    obtain ⟨ih0, ih1, ih2⟩ := laws_FnExactBoxTake.mono_l k
    refine ⟨?_, ?_, ?_⟩
    · intro y0 y1 y2 y3 y4 y5 y6 y7 y8 y9 y10 y11 y12
      unfold laws_FnExactBoxTake.j0
      repeat' first
      | (with_reducible exact ih0 _ _ _ _ _ _ _ _ _ _ _ _ _)
      | (with_reducible exact ih1 _ _ _ _ _ _ _ _ _)
      | (with_reducible exact ih2 _ _ _ _)
      | (with_reducible exact impl_BoxTake.mono _ _ _)
      | (with_reducible exact laws_eqBox.mono _ _ _ _ _)
      | (with_reducible exact laws_heldBox.mono _ _ _ _)
      | (with_reducible exact laws_markBox.mono _ _ _ _)
      | (with_reducible exact laws_toBox.mono _ _ _)
      | (with_reducible exact spec_BoxTake.mono _ _ _)
      | (with_reducible exact LeO.refl _)
      | (with_reducible exact LeO.none _)
      | (with_reducible refine LeO.ite ?_ ?_)
      | (with_reducible refine LeO.bind ?_ (fun _ => ?_))
      | exact ih0 _ _ _ _ _ _ _ _ _ _ _ _ _
      | exact ih1 _ _ _ _ _ _ _ _ _
      | exact ih2 _ _ _ _
      | exact impl_BoxTake.mono _ _ _
      | exact laws_eqBox.mono _ _ _ _ _
      | exact laws_heldBox.mono _ _ _ _
      | exact laws_markBox.mono _ _ _ _
      | exact laws_toBox.mono _ _ _
      | exact spec_BoxTake.mono _ _ _
      | exact LeO.none _
      | refine LeO.ite ?_ ?_
      | refine LeO.bind ?_ (fun _ => ?_)
    · intro y0 y1 y2 y3 y4 y5 y6 y7 y8
      unfold laws_FnExactBoxTake.j1
      repeat' first
      | (with_reducible exact ih0 _ _ _ _ _ _ _ _ _ _ _ _ _)
      | (with_reducible exact ih1 _ _ _ _ _ _ _ _ _)
      | (with_reducible exact ih2 _ _ _ _)
      | (with_reducible exact impl_BoxTake.mono _ _ _)
      | (with_reducible exact laws_eqBox.mono _ _ _ _ _)
      | (with_reducible exact laws_heldBox.mono _ _ _ _)
      | (with_reducible exact laws_markBox.mono _ _ _ _)
      | (with_reducible exact laws_toBox.mono _ _ _)
      | (with_reducible exact spec_BoxTake.mono _ _ _)
      | (with_reducible exact LeO.refl _)
      | (with_reducible exact LeO.none _)
      | (with_reducible refine LeO.ite ?_ ?_)
      | (with_reducible refine LeO.bind ?_ (fun _ => ?_))
      | exact ih0 _ _ _ _ _ _ _ _ _ _ _ _ _
      | exact ih1 _ _ _ _ _ _ _ _ _
      | exact ih2 _ _ _ _
      | exact impl_BoxTake.mono _ _ _
      | exact laws_eqBox.mono _ _ _ _ _
      | exact laws_heldBox.mono _ _ _ _
      | exact laws_markBox.mono _ _ _ _
      | exact laws_toBox.mono _ _ _
      | exact spec_BoxTake.mono _ _ _
      | exact LeO.none _
      | refine LeO.ite ?_ ?_
      | refine LeO.bind ?_ (fun _ => ?_)
    · intro y0 y1 y2 y3
      unfold laws_FnExactBoxTake.j2
      repeat' first
      | (with_reducible exact ih0 _ _ _ _ _ _ _ _ _ _ _ _ _)
      | (with_reducible exact ih1 _ _ _ _ _ _ _ _ _)
      | (with_reducible exact ih2 _ _ _ _)
      | (with_reducible exact impl_BoxTake.mono _ _ _)
      | (with_reducible exact laws_eqBox.mono _ _ _ _ _)
      | (with_reducible exact laws_heldBox.mono _ _ _ _)
      | (with_reducible exact laws_markBox.mono _ _ _ _)
      | (with_reducible exact laws_toBox.mono _ _ _)
      | (with_reducible exact spec_BoxTake.mono _ _ _)
      | (with_reducible exact LeO.refl _)
      | (with_reducible exact LeO.none _)
      | (with_reducible refine LeO.ite ?_ ?_)
      | (with_reducible refine LeO.bind ?_ (fun _ => ?_))
      | exact ih0 _ _ _ _ _ _ _ _ _ _ _ _ _
      | exact ih1 _ _ _ _ _ _ _ _ _
      | exact ih2 _ _ _ _
      | exact impl_BoxTake.mono _ _ _
      | exact laws_eqBox.mono _ _ _ _ _
      | exact laws_heldBox.mono _ _ _ _
      | exact laws_markBox.mono _ _ _ _
      | exact laws_toBox.mono _ _ _
      | exact spec_BoxTake.mono _ _ _
      | exact LeO.none _
      | refine LeO.ite ?_ ?_
      | refine LeO.bind ?_ (fun _ => ?_)
theorem laws_FnExactBoxTake.mono : ∀ a0 a1 k, LeO (laws_FnExactBoxTake.f k a0 a1) (laws_FnExactBoxTake.f (k + 1) a0 a1) := by
  intro a0 a1 k
  obtain ⟨ih0, ih1, ih2⟩ := laws_FnExactBoxTake.mono_l k
  unfold laws_FnExactBoxTake.f
  repeat' first
      | (with_reducible exact ih0 _ _ _ _ _ _ _ _ _ _ _ _ _)
      | (with_reducible exact ih1 _ _ _ _ _ _ _ _ _)
      | (with_reducible exact ih2 _ _ _ _)
      | (with_reducible exact impl_BoxTake.mono _ _ _)
      | (with_reducible exact laws_eqBox.mono _ _ _ _ _)
      | (with_reducible exact laws_heldBox.mono _ _ _ _)
      | (with_reducible exact laws_markBox.mono _ _ _ _)
      | (with_reducible exact laws_toBox.mono _ _ _)
      | (with_reducible exact spec_BoxTake.mono _ _ _)
      | (with_reducible exact LeO.refl _)
      | (with_reducible exact LeO.none _)
      | (with_reducible refine LeO.ite ?_ ?_)
      | (with_reducible refine LeO.bind ?_ (fun _ => ?_))
      | exact ih0 _ _ _ _ _ _ _ _ _ _ _ _ _
      | exact ih1 _ _ _ _ _ _ _ _ _
      | exact ih2 _ _ _ _
      | exact impl_BoxTake.mono _ _ _
      | exact laws_eqBox.mono _ _ _ _ _
      | exact laws_heldBox.mono _ _ _ _
      | exact laws_markBox.mono _ _ _ _
      | exact laws_toBox.mono _ _ _
      | exact spec_BoxTake.mono _ _ _
      | exact LeO.none _
      | refine LeO.ite ?_ ?_
      | refine LeO.bind ?_ (fun _ => ?_)
set_option maxHeartbeats 8000000 in
set_option maxRecDepth 100000 in
theorem laws_FnExactBoxTake.calls (k : Nat) (a0_0 : Int) (A0_1 : Option Addr) (c0_1 : Nat) (l0_1 : List Int) (r : Bool) (w : World) (hr0_1 : Kd.C (Kd.int .i64) w A0_1 l0_1.length l0_1) (hc0_1 : l0_1.length ≤ c0_1) (h : laws_FnExactBoxTake.f k a0_0 l0_1 = some r) :
    Calls Try.prog 11 #[.agg #[.int .i64 a0_0, .slice A0_1 l0_1.length c0_1]] w fun e w' => e = .returned (.bool r) ∧ Below w.heap.size w w' := by
  have hu39 := Try.underlying39
  have hu33 := Try.underlying33
  have HR0_1 := Aside0.mk hr0_1
  have HC0_1 := Aside0.mk hc0_1
  clear hr0_1 hc0_1
  have HB := Aside0.mk (Below.refl w.heap.size w)
  have H : ((laws_szBox.f a0_0 l0_1 1048576).bind fun t615 => (if t615 < 0 then (some true) else ((laws_toBox.f k a0_0 l0_1).bind fun bt616 => ((spec_BoxTake.f k bt616.1 bt616.2).bind fun bt620 => ((laws_toBox.f k a0_0 l0_1).bind fun bt627 => ((impl_BoxTake.f k bt627.1 bt627.2).bind fun bt632 => ((laws_eqBox.f k bt632.1 bt632.2.1 bt620.1 bt620.2.1).bind fun t639 => (if t639 = true then (if bt632.2.2.1 = bt620.2.2.1 then (laws_FnExactBoxTake.j0 k bt620.2.2.1 bt620.2.2.2 bt632.2.2.1 bt632.2.2.2 (bt632.2.2.2 != bt620.2.2.2) a0_0 l0_1 bt620.1 bt620.2.1 bt627.1 bt627.2 bt632.1 bt632.2.1) else (laws_FnExactBoxTake.j0 k bt620.2.2.1 bt620.2.2.2 bt632.2.2.1 bt632.2.2.2 true a0_0 l0_1 bt620.1 bt620.2.1 bt627.1 bt627.2 bt632.1 bt632.2.1)) else (laws_FnExactBoxTake.j0 k bt620.2.2.1 bt620.2.2.2 bt632.2.2.1 bt632.2.2.2 true a0_0 l0_1 bt620.1 bt620.2.1 bt627.1 bt627.2 bt632.1 bt632.2.1))))))))) = some r := h
  clear h
  replace H := Option.bind_eq_some_iff.mp H
  obtain ⟨t615, A20, H⟩ := H
  replace H : (if t615 < 0 then (some true) else ((laws_toBox.f k a0_0 l0_1).bind fun bt616 => ((spec_BoxTake.f k bt616.1 bt616.2).bind fun bt620 => ((laws_toBox.f k a0_0 l0_1).bind fun bt627 => ((impl_BoxTake.f k bt627.1 bt627.2).bind fun bt632 => ((laws_eqBox.f k bt632.1 bt632.2.1 bt620.1 bt620.2.1).bind fun t639 => (if t639 = true then (if bt632.2.2.1 = bt620.2.2.1 then (laws_FnExactBoxTake.j0 k bt620.2.2.1 bt620.2.2.2 bt632.2.2.1 bt632.2.2.2 (bt632.2.2.2 != bt620.2.2.2) a0_0 l0_1 bt620.1 bt620.2.1 bt627.1 bt627.2 bt632.1 bt632.2.1) else (laws_FnExactBoxTake.j0 k bt620.2.2.1 bt620.2.2.2 bt632.2.2.1 bt632.2.2.2 true a0_0 l0_1 bt620.1 bt620.2.1 bt627.1 bt627.2 bt632.1 bt632.2.1)) else (laws_FnExactBoxTake.j0 k bt620.2.2.1 bt620.2.2.2 bt632.2.2.1 bt632.2.2.2 true a0_0 l0_1 bt620.1 bt620.2.1 bt627.1 bt627.2 bt632.1 bt632.2.1)))))))) = some r := H
  have A2 := Aside0.mk A20
  clear A20
  by_cases c3 : t615 < 0
  · rw [if_pos c3] at H
    have c3b0 : decide (t615 < 0) = true := decide_eq_true c3
    clear c3
    obtain rfl := Option.some.inj H
    go_enter Try.func11, Try.ntmps11
    go_wp2_with (first | ((with_reducible refine gate_dst (N := 1) rfl ?_); refine box_event ?hg (N := 1) ?hd (cs := #[.int .i64 a0_0, .slice A0_1 l0_1.length c0_1]) (t := 39) ?hr ?_; (case hd => rfl); (case hg => rfl); (case hr => first | (go_simp; done) | (go_simp; rfl)); intro gb614 hg w4 hbox hb; have n0_ := Aside0.mk (below_step (by repeat (first | (with_reducible first | exact HB.out | apply below_alloc | apply pw_below_drewN | apply below_drew1) | exact HB.out)) hb); have n1_ := Aside0.mk (hbox); have n2_ := Aside0.mk ((by rw [hg]; exact (below_size (by repeat (first | (with_reducible first | exact HB.out | apply below_alloc | apply pw_below_drewN | apply below_drew1) | exact HB.out))) : w.heap.size ≤ gb614)); have n3_ := Aside0.mk ((by rw [hg]; exact (below_size (by repeat (first | (with_reducible first | exact HB.out | apply below_alloc | apply pw_below_drewN | apply below_drew1) | exact HB.out))) : w.heap.size ≤ gb614)); clear HB; have HB := n0_; have BK614 := n1_; have GW614 := n2_; have GE614 := n3_; clear n0_ n1_ n2_ n3_; clear hb hbox hg; have hcz5_0 : w4.cell? ⟨gb614, 0, none⟩ = some (.int .i64 a0_0) := (blk_cell BK614.out 0).trans rfl; have hcz5_1 : w4.cell? ⟨gb614, 1, none⟩ = some (.slice A0_1 l0_1.length c0_1) := (blk_cell BK614.out 1).trans rfl; have hfz5_0 := blk_frozen BK614.out 0; have hfz5_1 := blk_frozen BK614.out 1) | ((with_reducible refine gate_callee (f := 25) rfl ?_); refine goesL_ (some 19) rfl rfl Try.func25 (by kernel_rfl) rfl #[.agg #[.int .i64 a0_0, .slice A0_1 l0_1.length c0_1], .int .i64 1048576] rfl (by (try simp only [List.map_toArray, List.map_cons, List.map_nil]); first | done | rfl | (simp only [List.length_drop, List.length_take]; rfl)) ?_; (with_reducible refine (laws_szBox.calls a0_0 _ _ l0_1 1048576 t615 _ ?side1 ?side2 A2.out).mono ?_); (case side1 => repeat (first | exact (Kd.C_below HR0_1.out HB.out) | (with_reducible refine Kd.C_alloc ?_ _) | (with_reducible refine Kd.C_drewN ?_ _) | (with_reducible refine Kd.C_drew ?_))); (case side2 => exact HC0_1.out); rintro e w6 ⟨rfl, hb⟩; refine ⟨_, rfl, ?_⟩; have n0_ := Aside0.mk (blk_below (g := gb614) (o := .cells #[.int .i64 a0_0, .slice A0_1 l0_1.length c0_1] 39 (0, 0)) (by (with_reducible repeat (first | refine blk_drewN ?_ _ | refine blk_drew ?_ | refine blk_alloc ?_ _)); exact BK614.out) hb); have n1_ := Aside0.mk (below_step (by repeat (first | (with_reducible first | exact HB.out | apply below_alloc | apply pw_below_drewN | apply below_drew1 | refine below_set ?_ GE614.out) | exact HB.out)) hb); clear BK614; clear HB; have BK614 := n0_; have HB := n1_; clear n0_ n1_; (try clear hb); (try clear hb2); (try clear hk); (try clear hi)))
    go_ret
    exact ⟨by first | rfl | (simp [errW_none, errW_some] <;> rfl) | (simp [*, errW_none, errW_some] <;> rfl), by repeat (first | (with_reducible first | exact HB.out | apply below_alloc | apply pw_below_drewN | apply below_drew1 | refine below_set ?_ GE614.out) | exact HB.out)⟩
  · rw [if_neg c3] at H
    have c3b0 : decide (t615 < 0) = false := decide_eq_false c3
    clear c3
    replace H := Option.bind_eq_some_iff.mp H
    obtain ⟨⟨t616, t617⟩, A70, H⟩ := H
    replace H : ((spec_BoxTake.f k t616 t617).bind fun bt620 => ((laws_toBox.f k a0_0 l0_1).bind fun bt627 => ((impl_BoxTake.f k bt627.1 bt627.2).bind fun bt632 => ((laws_eqBox.f k bt632.1 bt632.2.1 bt620.1 bt620.2.1).bind fun t639 => (if t639 = true then (if bt632.2.2.1 = bt620.2.2.1 then (laws_FnExactBoxTake.j0 k bt620.2.2.1 bt620.2.2.2 bt632.2.2.1 bt632.2.2.2 (bt632.2.2.2 != bt620.2.2.2) a0_0 l0_1 bt620.1 bt620.2.1 bt627.1 bt627.2 bt632.1 bt632.2.1) else (laws_FnExactBoxTake.j0 k bt620.2.2.1 bt620.2.2.2 bt632.2.2.1 bt632.2.2.2 true a0_0 l0_1 bt620.1 bt620.2.1 bt627.1 bt627.2 bt632.1 bt632.2.1)) else (laws_FnExactBoxTake.j0 k bt620.2.2.1 bt620.2.2.2 bt632.2.2.1 bt632.2.2.2 true a0_0 l0_1 bt620.1 bt620.2.1 bt627.1 bt627.2 bt632.1 bt632.2.1)))))) = some r := H
    have A7 := Aside0.mk A70
    clear A70
    replace H := Option.bind_eq_some_iff.mp H
    obtain ⟨⟨t620, t621, t624, t625⟩, A80, H⟩ := H
    replace H : ((laws_toBox.f k a0_0 l0_1).bind fun bt627 => ((impl_BoxTake.f k bt627.1 bt627.2).bind fun bt632 => ((laws_eqBox.f k bt632.1 bt632.2.1 t620 t621).bind fun t639 => (if t639 = true then (if bt632.2.2.1 = t624 then (laws_FnExactBoxTake.j0 k t624 t625 bt632.2.2.1 bt632.2.2.2 (bt632.2.2.2 != t625) a0_0 l0_1 t620 t621 bt627.1 bt627.2 bt632.1 bt632.2.1) else (laws_FnExactBoxTake.j0 k t624 t625 bt632.2.2.1 bt632.2.2.2 true a0_0 l0_1 t620 t621 bt627.1 bt627.2 bt632.1 bt632.2.1)) else (laws_FnExactBoxTake.j0 k t624 t625 bt632.2.2.1 bt632.2.2.2 true a0_0 l0_1 t620 t621 bt627.1 bt627.2 bt632.1 bt632.2.1))))) = some r := H
    have A8 := Aside0.mk A80
    clear A80
    replace H := Option.bind_eq_some_iff.mp H
    obtain ⟨⟨t627, t628⟩, A90, H⟩ := H
    replace H : ((impl_BoxTake.f k t627 t628).bind fun bt632 => ((laws_eqBox.f k bt632.1 bt632.2.1 t620 t621).bind fun t639 => (if t639 = true then (if bt632.2.2.1 = t624 then (laws_FnExactBoxTake.j0 k t624 t625 bt632.2.2.1 bt632.2.2.2 (bt632.2.2.2 != t625) a0_0 l0_1 t620 t621 t627 t628 bt632.1 bt632.2.1) else (laws_FnExactBoxTake.j0 k t624 t625 bt632.2.2.1 bt632.2.2.2 true a0_0 l0_1 t620 t621 t627 t628 bt632.1 bt632.2.1)) else (laws_FnExactBoxTake.j0 k t624 t625 bt632.2.2.1 bt632.2.2.2 true a0_0 l0_1 t620 t621 t627 t628 bt632.1 bt632.2.1)))) = some r := H
    have A9 := Aside0.mk A90
    clear A90
    replace H := Option.bind_eq_some_iff.mp H
    obtain ⟨⟨t632, t633, t636, t637⟩, A100, H⟩ := H
    replace H : ((laws_eqBox.f k t632 t633 t620 t621).bind fun t639 => (if t639 = true then (if t636 = t624 then (laws_FnExactBoxTake.j0 k t624 t625 t636 t637 (t637 != t625) a0_0 l0_1 t620 t621 t627 t628 t632 t633) else (laws_FnExactBoxTake.j0 k t624 t625 t636 t637 true a0_0 l0_1 t620 t621 t627 t628 t632 t633)) else (laws_FnExactBoxTake.j0 k t624 t625 t636 t637 true a0_0 l0_1 t620 t621 t627 t628 t632 t633))) = some r := H
    have A10 := Aside0.mk A100
    clear A100
    have HC11 := Aside0.mk H
    clear H
    go_enter Try.func11, Try.ntmps11
    go_upto_region 8 with (first | ((with_reducible refine gate_dst (N := 1) rfl ?_); refine box_event ?hg (N := 1) ?hd (cs := #[.int .i64 a0_0, .slice A0_1 l0_1.length c0_1]) (t := 39) ?hr ?_; (case hd => rfl); (case hg => rfl); (case hr => first | (go_simp; done) | (go_simp; rfl)); intro gb614 hg w12 hbox hb; have n0_ := Aside0.mk (below_step (by repeat (first | (with_reducible first | exact HB.out | apply below_alloc | apply pw_below_drewN | apply below_drew1) | exact HB.out)) hb); have n1_ := Aside0.mk (hbox); have n2_ := Aside0.mk ((by rw [hg]; exact (below_size (by repeat (first | (with_reducible first | exact HB.out | apply below_alloc | apply pw_below_drewN | apply below_drew1) | exact HB.out))) : w.heap.size ≤ gb614)); have n3_ := Aside0.mk ((by rw [hg]; exact (below_size (by repeat (first | (with_reducible first | exact HB.out | apply below_alloc | apply pw_below_drewN | apply below_drew1) | exact HB.out))) : w.heap.size ≤ gb614)); clear HB; have HB := n0_; have BK614 := n1_; have GW614 := n2_; have GE614 := n3_; clear n0_ n1_ n2_ n3_; clear hb hbox hg; have hcz13_0 : w12.cell? ⟨gb614, 0, none⟩ = some (.int .i64 a0_0) := (blk_cell BK614.out 0).trans rfl; have hcz13_1 : w12.cell? ⟨gb614, 1, none⟩ = some (.slice A0_1 l0_1.length c0_1) := (blk_cell BK614.out 1).trans rfl; have hfz13_0 := blk_frozen BK614.out 0; have hfz13_1 := blk_frozen BK614.out 1) | ((with_reducible refine gate_callee (f := 25) rfl ?_); refine goesL_ (some 19) rfl rfl Try.func25 (by kernel_rfl) rfl #[.agg #[.int .i64 a0_0, .slice A0_1 l0_1.length c0_1], .int .i64 1048576] rfl (by (try simp only [List.map_toArray, List.map_cons, List.map_nil]); first | done | rfl | (simp only [List.length_drop, List.length_take]; rfl)) ?_; (with_reducible refine (laws_szBox.calls a0_0 _ _ l0_1 1048576 t615 _ ?side1 ?side2 A2.out).mono ?_); (case side1 => repeat (first | exact (Kd.C_below HR0_1.out HB.out) | (with_reducible refine Kd.C_alloc ?_ _) | (with_reducible refine Kd.C_drewN ?_ _) | (with_reducible refine Kd.C_drew ?_))); (case side2 => exact HC0_1.out); rintro e w14 ⟨rfl, hb⟩; refine ⟨_, rfl, ?_⟩; have n0_ := Aside0.mk (blk_below (g := gb614) (o := .cells #[.int .i64 a0_0, .slice A0_1 l0_1.length c0_1] 39 (0, 0)) (by (with_reducible repeat (first | refine blk_drewN ?_ _ | refine blk_drew ?_ | refine blk_alloc ?_ _)); exact BK614.out) hb); have n1_ := Aside0.mk (below_step (by repeat (first | (with_reducible first | exact HB.out | apply below_alloc | apply pw_below_drewN | apply below_drew1 | refine below_set ?_ GE614.out) | exact HB.out)) hb); clear BK614; clear HB; have BK614 := n0_; have HB := n1_; clear n0_ n1_; (try clear hb); (try clear hb2); (try clear hk); (try clear hi); have hcz15_0 : w14.cell? ⟨gb614, 0, none⟩ = some (.int .i64 a0_0) := (blk_cell BK614.out 0).trans rfl; have hcz15_1 : w14.cell? ⟨gb614, 1, none⟩ = some (.slice A0_1 l0_1.length c0_1) := (blk_cell BK614.out 1).trans rfl; have hfz15_0 := blk_frozen BK614.out 0; have hfz15_1 := blk_frozen BK614.out 1) | ((with_reducible refine gate_callee (f := 27) rfl ?_); refine goesL_ (some 24) rfl rfl Try.func27 (by kernel_rfl) rfl #[.agg #[.int .i64 a0_0, .slice A0_1 l0_1.length c0_1]] rfl (by (try simp only [List.map_toArray, List.map_cons, List.map_nil]); first | done | rfl | (simp only [List.length_drop, List.length_take]; rfl)) ?_; (with_reducible refine (laws_toBox.calls k a0_0 _ _ l0_1 t616 t617 _ ?side1 ?side2 A7.out).mono ?_); (case side1 => repeat (first | exact (Kd.C_below HR0_1.out HB.out) | (with_reducible refine Kd.C_alloc ?_ _) | (with_reducible refine Kd.C_drewN ?_ _) | (with_reducible refine Kd.C_drew ?_))); (case side2 => exact HC0_1.out); rintro e w16 ⟨v618, rfl, ho0, hb⟩; refine ⟨_, rfl, ?_⟩; have n0_ := Aside0.mk (Kd.R_lower ho0 (below_size (by repeat (first | (with_reducible first | exact HB.out | apply below_alloc | apply pw_below_drewN | apply below_drew1 | refine below_set ?_ GE614.out) | exact HB.out)))); have n1_ := Aside0.mk (blk_below (g := gb614) (o := .cells #[.int .i64 a0_0, .slice A0_1 l0_1.length c0_1] 39 (0, 0)) (by (with_reducible repeat (first | refine blk_drewN ?_ _ | refine blk_drew ?_ | refine blk_alloc ?_ _)); exact BK614.out) hb); have n2_ := Aside0.mk (below_step (by repeat (first | (with_reducible first | exact HB.out | apply below_alloc | apply pw_below_drewN | apply below_drew1 | refine below_set ?_ GE614.out) | exact HB.out)) hb); clear BK614; clear HB; have HO619 := n0_; have BK614 := n1_; have HB := n2_; clear n0_ n1_ n2_; (try clear hb); (try clear hb2); (try clear hk); (try clear hi); (try clear ho0); obtain ⟨Ao17, co17, eo17⟩ := Kd.R_slice HO619.out; subst eo17) | ((with_reducible refine gate_callee (f := 41) rfl ?_); refine goesL_ (some 25) rfl rfl Try.func41 (by kernel_rfl) rfl #[.agg #[.int .i64 t616, .slice Ao17 t617.length co17]] rfl (by (try simp only [List.map_toArray, List.map_cons, List.map_nil]); first | done | rfl | (simp only [List.length_drop, List.length_take]; rfl)) ?_; (with_reducible refine (spec_BoxTake.calls k t616 _ _ t617 t620 t621 t624 t625 _ ?side1 ?side2 A8.out).mono ?_); (case side1 => repeat (first | exact (Kd.R_reads' HO619.out).2.2 | (with_reducible refine Kd.C_alloc ?_ _) | (with_reducible refine Kd.C_drewN ?_ _) | (with_reducible refine Kd.C_drew ?_))); (case side2 => exact (Kd.R_reads' HO619.out).2.1); rintro e w18 ⟨v622, rfl, ho0, hb⟩; refine ⟨_, rfl, ?_⟩; have n0_ := Aside0.mk (Kd.R_elder' (by (with_reducible repeat (first | apply Kd.R_alloc | apply Kd.R_drewN | apply Kd.R_drew)); exact HO619.out) (Kd.R_base ho0) hb); have n1_ := Aside0.mk (Kd.R_lower (Kd.R_new' ho0 (Kd.R_lt (by (with_reducible repeat (first | apply Kd.R_alloc | apply Kd.R_drewN | apply Kd.R_drew)); exact HO619.out))) (below_size (by repeat (first | (with_reducible first | exact HB.out | apply below_alloc | apply pw_below_drewN | apply below_drew1 | refine below_set ?_ GE614.out) | exact HB.out)))); have n2_ := Aside0.mk (blk_below (g := gb614) (o := .cells #[.int .i64 a0_0, .slice A0_1 l0_1.length c0_1] 39 (0, 0)) (by (with_reducible repeat (first | refine blk_drewN ?_ _ | refine blk_drew ?_ | refine blk_alloc ?_ _)); exact BK614.out) hb); have n3_ := Aside0.mk (below_step (by repeat (first | (with_reducible first | exact HB.out | apply below_alloc | apply pw_below_drewN | apply below_drew1 | refine below_set ?_ GE614.out) | exact HB.out)) hb); clear HO619; clear BK614; clear HB; have HO619 := n0_; have HO623 := n1_; have BK614 := n2_; have HB := n3_; clear n0_ n1_ n2_ n3_; (try clear hb); (try clear hb2); (try clear hk); (try clear hi); (try clear ho0)) | ((with_reducible refine gate_dst (N := 4) rfl ?_); refine box_event ?hg (N := 4) ?hd (cs := #[.int .i64 0, .slice none 0 0]) (t := 33) ?hr ?_; (case hd => rfl); (case hg => rfl); (case hr => first | (go_simp; done) | (go_simp; rfl)); intro gb626 hg w19 hbox hb; have n0_ := Aside0.mk (Kd.R_below (by (with_reducible repeat (first | apply Kd.R_alloc | apply Kd.R_drewN | apply Kd.R_drew)); exact HO619.out) hb); have n1_ := Aside0.mk (Kd.R_below (by (with_reducible repeat (first | apply Kd.R_alloc | apply Kd.R_drewN | apply Kd.R_drew)); exact HO623.out) hb); have n2_ := Aside0.mk (blk_below (g := gb614) (o := .cells #[.int .i64 a0_0, .slice A0_1 l0_1.length c0_1] 39 (0, 0)) (by (with_reducible repeat (first | refine blk_drewN ?_ _ | refine blk_drew ?_ | refine blk_alloc ?_ _)); exact BK614.out) hb); have n3_ := Aside0.mk (below_step (by repeat (first | (with_reducible first | exact HB.out | apply below_alloc | apply pw_below_drewN | apply below_drew1 | refine below_set ?_ GE614.out) | exact HB.out)) hb); have n4_ := Aside0.mk (hbox); have n5_ := Aside0.mk ((by rw [hg]; exact (below_size (by repeat (first | (with_reducible first | exact HB.out | apply below_alloc | apply pw_below_drewN | apply below_drew1 | refine below_set ?_ GE614.out) | exact HB.out))) : w.heap.size ≤ gb626)); have n6_ := Aside0.mk ((by rw [hg]; exact (below_size (by repeat (first | (with_reducible first | exact HB.out | apply below_alloc | apply pw_below_drewN | apply below_drew1 | refine below_set ?_ GE614.out) | exact HB.out))) : w.heap.size ≤ gb626)); have n7_ := Aside0.mk ((by rw [hg]; exact Nat.ne_of_lt (blk_lt (g := gb614) (o := .cells #[.int .i64 a0_0, .slice A0_1 l0_1.length c0_1] 39 (0, 0)) (by (with_reducible repeat (first | refine blk_drewN ?_ _ | refine blk_drew ?_ | refine blk_alloc ?_ _)); exact BK614.out)) : gb614 ≠ gb626)); have n8_ := Aside0.mk ((by rw [hg]; exact Nat.ne_of_gt (blk_lt (g := gb614) (o := .cells #[.int .i64 a0_0, .slice A0_1 l0_1.length c0_1] 39 (0, 0)) (by (with_reducible repeat (first | refine blk_drewN ?_ _ | refine blk_drew ?_ | refine blk_alloc ?_ _)); exact BK614.out)) : gb626 ≠ gb614)); clear HO619; clear HO623; clear BK614; clear HB; have HO619 := n0_; have HO623 := n1_; have BK614 := n2_; have HB := n3_; have BK626 := n4_; have GW626 := n5_; have GE626 := n6_; have NB614_626 := n7_; have NB626_614 := n8_; clear n0_ n1_ n2_ n3_ n4_ n5_ n6_ n7_ n8_; clear hb hbox hg; have hnb20 := NB626_614.out; have hnc20 := NB614_626.out; have hcz21_0 : w19.cell? ⟨gb626, 0, none⟩ = some (.int .i64 0) := (blk_cell BK626.out 0).trans rfl; have hcz21_1 : w19.cell? ⟨gb626, 1, none⟩ = some (.slice none 0 0) := (blk_cell BK626.out 1).trans rfl; have hfz21_0 := blk_frozen BK626.out 0; have hfz21_1 := blk_frozen BK626.out 1; obtain ⟨Ao22, co22, eo22⟩ := Kd.R_slice HO623.out; subst eo22; have hcz23_0 : w19.cell? ⟨gb614, 0, none⟩ = some (.int .i64 a0_0) := (blk_cell BK614.out 0).trans rfl; have hcz23_1 : w19.cell? ⟨gb614, 1, none⟩ = some (.slice A0_1 l0_1.length c0_1) := (blk_cell BK614.out 1).trans rfl; have hfz23_0 := blk_frozen BK614.out 0; have hfz23_1 := blk_frozen BK614.out 1) | ((with_reducible refine gate_callee (f := 27) rfl ?_); refine goesL_ (some 30) rfl rfl Try.func27 (by kernel_rfl) rfl #[.agg #[.int .i64 a0_0, .slice A0_1 l0_1.length c0_1]] rfl (by (try simp only [List.map_toArray, List.map_cons, List.map_nil]); first | done | rfl | (simp only [List.length_drop, List.length_take]; rfl)) ?_; (with_reducible refine (laws_toBox.calls k a0_0 _ _ l0_1 t627 t628 _ ?side1 ?side2 A9.out).mono ?_); (case side1 => exact Kd.C_below HR0_1.out (by repeat (first | (with_reducible first | exact HB.out | apply below_alloc | apply pw_below_drewN | apply below_drew1 | refine below_set ?_ GE614.out | refine below_set ?_ GE626.out) | exact HB.out))); (case side2 => exact HC0_1.out); rintro e w24 ⟨v629, rfl, ho0, hb⟩; refine ⟨_, rfl, ?_⟩; have n0_ := Aside0.mk (Kd.R_elder' (by (with_reducible repeat (first | apply Kd.R_alloc | apply Kd.R_drewN | apply Kd.R_drew)); exact (Kd.R_mono (Kd.R_far (p := ⟨gb626, 1, none⟩) (Kd.R_far (p := ⟨gb626, 0, none⟩) (Kd.R_types HO619.out BK626.out (by decide)) (fun _ hk => hk.2) (.int .i64 t620)) (fun _ hk => hk.2) (.slice Ao22 t621.length co22)) (fun _ h_ => h_.1))) (Kd.R_base ho0) hb); have n1_ := Aside0.mk (Kd.R_elder' (by (with_reducible repeat (first | apply Kd.R_alloc | apply Kd.R_drewN | apply Kd.R_drew)); exact (Kd.R_mono (Kd.R_far (p := ⟨gb626, 1, none⟩) (Kd.R_far (p := ⟨gb626, 0, none⟩) (Kd.R_types HO623.out BK626.out (by decide)) (fun _ hk => hk.2) (.int .i64 t620)) (fun _ hk => hk.2) (.slice Ao22 t621.length co22)) (fun _ h_ => h_.1))) (Kd.R_base ho0) hb); have n2_ := Aside0.mk (Kd.R_lower (Kd.R_new' (Kd.R_new' ho0 (Kd.R_lt (by (with_reducible repeat (first | apply Kd.R_alloc | apply Kd.R_drewN | apply Kd.R_drew)); exact (Kd.R_mono (Kd.R_far (p := ⟨gb626, 1, none⟩) (Kd.R_far (p := ⟨gb626, 0, none⟩) (Kd.R_types HO619.out BK626.out (by decide)) (fun _ hk => hk.2) (.int .i64 t620)) (fun _ hk => hk.2) (.slice Ao22 t621.length co22)) (fun _ h_ => h_.1))))) (Kd.R_lt (by (with_reducible repeat (first | apply Kd.R_alloc | apply Kd.R_drewN | apply Kd.R_drew)); exact (Kd.R_mono (Kd.R_far (p := ⟨gb626, 1, none⟩) (Kd.R_far (p := ⟨gb626, 0, none⟩) (Kd.R_types HO623.out BK626.out (by decide)) (fun _ hk => hk.2) (.int .i64 t620)) (fun _ hk => hk.2) (.slice Ao22 t621.length co22)) (fun _ h_ => h_.1))))) (below_size (by repeat (first | (with_reducible first | exact HB.out | apply below_alloc | apply pw_below_drewN | apply below_drew1 | refine below_set ?_ GE614.out | refine below_set ?_ GE626.out) | exact HB.out)))); have n3_ := Aside0.mk (blk_below (g := gb614) (o := .cells #[.int .i64 a0_0, .slice A0_1 l0_1.length c0_1] 39 (0, 0)) (by (with_reducible repeat (first | refine blk_drewN ?_ _ | refine blk_drew ?_ | refine blk_alloc ?_ _)); refine blk_far ?_ NB614_626.out _; (with_reducible repeat (first | refine blk_drewN ?_ _ | refine blk_drew ?_ | refine blk_alloc ?_ _)); refine blk_far ?_ NB614_626.out _; (with_reducible repeat (first | refine blk_drewN ?_ _ | refine blk_drew ?_ | refine blk_alloc ?_ _)); exact BK614.out) hb); have n4_ := Aside0.mk (blk_below (g := gb626) (o := .cells #[.int .i64 t620, .slice Ao22 t621.length co22] 33 (0, 0)) (by (with_reducible repeat (first | refine blk_drewN ?_ _ | refine blk_drew ?_ | refine blk_alloc ?_ _)); refine blk_put (cs := #[.int .i64 t620, .slice none 0 0]) ?_ 1 _ rfl; (with_reducible repeat (first | refine blk_drewN ?_ _ | refine blk_drew ?_ | refine blk_alloc ?_ _)); refine blk_put (cs := #[.int .i64 0, .slice none 0 0]) ?_ 0 _ rfl; (with_reducible repeat (first | refine blk_drewN ?_ _ | refine blk_drew ?_ | refine blk_alloc ?_ _)); exact BK626.out) hb); have n5_ := Aside0.mk (below_step (by repeat (first | (with_reducible first | exact HB.out | apply below_alloc | apply pw_below_drewN | apply below_drew1 | refine below_set ?_ GE614.out | refine below_set ?_ GE626.out) | exact HB.out)) hb); clear HO619; clear HO623; clear BK614; clear BK626; clear HB; have HO619 := n0_; have HO623 := n1_; have HO630 := n2_; have BK614 := n3_; have BK626 := n4_; have HB := n5_; clear n0_ n1_ n2_ n3_ n4_ n5_; (try clear hb); (try clear hb2); (try clear hk); (try clear hi); (try clear ho0)) | ((with_reducible refine gate_dst (N := 7) rfl ?_); refine box_event ?hg (N := 7) ?hd (cs := #[.int .i64 0, .slice none 0 0]) (t := 33) ?hr ?_; (case hd => rfl); (case hg => rfl); (case hr => first | (go_simp; done) | (go_simp; rfl)); intro gb631 hg w25 hbox hb; have n0_ := Aside0.mk (Kd.R_below (by (with_reducible repeat (first | apply Kd.R_alloc | apply Kd.R_drewN | apply Kd.R_drew)); exact HO619.out) hb); have n1_ := Aside0.mk (Kd.R_below (by (with_reducible repeat (first | apply Kd.R_alloc | apply Kd.R_drewN | apply Kd.R_drew)); exact HO623.out) hb); have n2_ := Aside0.mk (Kd.R_below (by (with_reducible repeat (first | apply Kd.R_alloc | apply Kd.R_drewN | apply Kd.R_drew)); exact HO630.out) hb); have n3_ := Aside0.mk (blk_below (g := gb614) (o := .cells #[.int .i64 a0_0, .slice A0_1 l0_1.length c0_1] 39 (0, 0)) (by (with_reducible repeat (first | refine blk_drewN ?_ _ | refine blk_drew ?_ | refine blk_alloc ?_ _)); exact BK614.out) hb); have n4_ := Aside0.mk (blk_below (g := gb626) (o := .cells #[.int .i64 t620, .slice Ao22 t621.length co22] 33 (0, 0)) (by (with_reducible repeat (first | refine blk_drewN ?_ _ | refine blk_drew ?_ | refine blk_alloc ?_ _)); exact BK626.out) hb); have n5_ := Aside0.mk (below_step (by repeat (first | (with_reducible first | exact HB.out | apply below_alloc | apply pw_below_drewN | apply below_drew1 | refine below_set ?_ GE614.out | refine below_set ?_ GE626.out) | exact HB.out)) hb); have n6_ := Aside0.mk (hbox); have n7_ := Aside0.mk ((by rw [hg]; exact (below_size (by repeat (first | (with_reducible first | exact HB.out | apply below_alloc | apply pw_below_drewN | apply below_drew1 | refine below_set ?_ GE614.out | refine below_set ?_ GE626.out) | exact HB.out))) : w.heap.size ≤ gb631)); have n8_ := Aside0.mk ((by rw [hg]; exact (below_size (by repeat (first | (with_reducible first | exact HB.out | apply below_alloc | apply pw_below_drewN | apply below_drew1 | refine below_set ?_ GE614.out | refine below_set ?_ GE626.out) | exact HB.out))) : w.heap.size ≤ gb631)); have n9_ := Aside0.mk ((by rw [hg]; exact Nat.ne_of_lt (blk_lt (g := gb614) (o := .cells #[.int .i64 a0_0, .slice A0_1 l0_1.length c0_1] 39 (0, 0)) (by (with_reducible repeat (first | refine blk_drewN ?_ _ | refine blk_drew ?_ | refine blk_alloc ?_ _)); exact BK614.out)) : gb614 ≠ gb631)); have n10_ := Aside0.mk ((by rw [hg]; exact Nat.ne_of_gt (blk_lt (g := gb614) (o := .cells #[.int .i64 a0_0, .slice A0_1 l0_1.length c0_1] 39 (0, 0)) (by (with_reducible repeat (first | refine blk_drewN ?_ _ | refine blk_drew ?_ | refine blk_alloc ?_ _)); exact BK614.out)) : gb631 ≠ gb614)); have n11_ := Aside0.mk ((by rw [hg]; exact Nat.ne_of_lt (blk_lt (g := gb626) (o := .cells #[.int .i64 t620, .slice Ao22 t621.length co22] 33 (0, 0)) (by (with_reducible repeat (first | refine blk_drewN ?_ _ | refine blk_drew ?_ | refine blk_alloc ?_ _)); exact BK626.out)) : gb626 ≠ gb631)); have n12_ := Aside0.mk ((by rw [hg]; exact Nat.ne_of_gt (blk_lt (g := gb626) (o := .cells #[.int .i64 t620, .slice Ao22 t621.length co22] 33 (0, 0)) (by (with_reducible repeat (first | refine blk_drewN ?_ _ | refine blk_drew ?_ | refine blk_alloc ?_ _)); exact BK626.out)) : gb631 ≠ gb626)); clear HO619; clear HO623; clear HO630; clear BK614; clear BK626; clear HB; have HO619 := n0_; have HO623 := n1_; have HO630 := n2_; have BK614 := n3_; have BK626 := n4_; have HB := n5_; have BK631 := n6_; have GW631 := n7_; have GE631 := n8_; have NB614_631 := n9_; have NB631_614 := n10_; have NB626_631 := n11_; have NB631_626 := n12_; clear n0_ n1_ n2_ n3_ n4_ n5_ n6_ n7_ n8_ n9_ n10_ n11_ n12_; clear hb hbox hg; have hnb26 := NB631_614.out; have hnc26 := NB614_631.out; have hnb27 := NB631_626.out; have hnc27 := NB626_631.out; have hcz28_0 : w25.cell? ⟨gb631, 0, none⟩ = some (.int .i64 0) := (blk_cell BK631.out 0).trans rfl; have hcz28_1 : w25.cell? ⟨gb631, 1, none⟩ = some (.slice none 0 0) := (blk_cell BK631.out 1).trans rfl; have hfz28_0 := blk_frozen BK631.out 0; have hfz28_1 := blk_frozen BK631.out 1; obtain ⟨Ao29, co29, eo29⟩ := Kd.R_slice HO630.out; subst eo29) | ((with_reducible refine gate_callee (f := 42) rfl ?_); refine goesL_ (some 33) rfl rfl Try.func42 (by kernel_rfl) rfl #[.agg #[.int .i64 t627, .slice Ao29 t628.length co29]] rfl (by (try simp only [List.map_toArray, List.map_cons, List.map_nil]); first | done | rfl | (simp only [List.length_drop, List.length_take]; rfl)) ?_; (with_reducible refine (impl_BoxTake.calls k t627 _ _ t628 t632 t633 t636 t637 _ ?side1 ?side2 A10.out).mono ?_); (case side1 => refine (Kd.R_reads' (e := 3) (base := w.heap.size) (ok := fun k_ => ((True ∧ some k_ ≠ (.slice Ao17 t617.length co17 : Value).ownBlock) ∧ some k_ ≠ (.slice Ao22 t621.length co22 : Value).ownBlock)) (n := t628.length) (c := co29) ?_).2.2; exact (by (with_reducible repeat (first | apply Kd.R_alloc | apply Kd.R_drewN | apply Kd.R_drew)); exact (Kd.R_mono (Kd.R_far (p := ⟨gb631, 1, none⟩) (Kd.R_far (p := ⟨gb631, 0, none⟩) (Kd.R_types HO630.out BK631.out (by decide)) (fun _ hk => hk.2) (.int .i64 t627)) (fun _ hk => hk.2) (.slice Ao29 t628.length co29)) (fun _ h_ => h_.1)))); (case side2 => exact (Kd.R_reads' HO630.out).2.1); rintro e w30 ⟨v634, rfl, ho0, hb⟩; refine ⟨_, rfl, ?_⟩; have n0_ := Aside0.mk (Kd.R_elder' (by (with_reducible repeat (first | apply Kd.R_alloc | apply Kd.R_drewN | apply Kd.R_drew)); exact (Kd.R_mono (Kd.R_far (p := ⟨gb631, 1, none⟩) (Kd.R_far (p := ⟨gb631, 0, none⟩) (Kd.R_types HO619.out BK631.out (by decide)) (fun _ hk => hk.2) (.int .i64 t627)) (fun _ hk => hk.2) (.slice Ao29 t628.length co29)) (fun _ h_ => h_.1))) (Kd.R_base ho0) hb); have n1_ := Aside0.mk (Kd.R_elder' (by (with_reducible repeat (first | apply Kd.R_alloc | apply Kd.R_drewN | apply Kd.R_drew)); exact (Kd.R_mono (Kd.R_far (p := ⟨gb631, 1, none⟩) (Kd.R_far (p := ⟨gb631, 0, none⟩) (Kd.R_types HO623.out BK631.out (by decide)) (fun _ hk => hk.2) (.int .i64 t627)) (fun _ hk => hk.2) (.slice Ao29 t628.length co29)) (fun _ h_ => h_.1))) (Kd.R_base ho0) hb); have n2_ := Aside0.mk (Kd.R_elder' (by (with_reducible repeat (first | apply Kd.R_alloc | apply Kd.R_drewN | apply Kd.R_drew)); exact (Kd.R_mono (Kd.R_far (p := ⟨gb631, 1, none⟩) (Kd.R_far (p := ⟨gb631, 0, none⟩) (Kd.R_types HO630.out BK631.out (by decide)) (fun _ hk => hk.2) (.int .i64 t627)) (fun _ hk => hk.2) (.slice Ao29 t628.length co29)) (fun _ h_ => h_.1))) (Kd.R_base ho0) hb); have n3_ := Aside0.mk (Kd.R_lower (Kd.R_new' (Kd.R_new' (Kd.R_new' ho0 (Kd.R_lt (by (with_reducible repeat (first | apply Kd.R_alloc | apply Kd.R_drewN | apply Kd.R_drew)); exact (Kd.R_mono (Kd.R_far (p := ⟨gb631, 1, none⟩) (Kd.R_far (p := ⟨gb631, 0, none⟩) (Kd.R_types HO619.out BK631.out (by decide)) (fun _ hk => hk.2) (.int .i64 t627)) (fun _ hk => hk.2) (.slice Ao29 t628.length co29)) (fun _ h_ => h_.1))))) (Kd.R_lt (by (with_reducible repeat (first | apply Kd.R_alloc | apply Kd.R_drewN | apply Kd.R_drew)); exact (Kd.R_mono (Kd.R_far (p := ⟨gb631, 1, none⟩) (Kd.R_far (p := ⟨gb631, 0, none⟩) (Kd.R_types HO623.out BK631.out (by decide)) (fun _ hk => hk.2) (.int .i64 t627)) (fun _ hk => hk.2) (.slice Ao29 t628.length co29)) (fun _ h_ => h_.1))))) (Kd.R_lt (by (with_reducible repeat (first | apply Kd.R_alloc | apply Kd.R_drewN | apply Kd.R_drew)); exact (Kd.R_mono (Kd.R_far (p := ⟨gb631, 1, none⟩) (Kd.R_far (p := ⟨gb631, 0, none⟩) (Kd.R_types HO630.out BK631.out (by decide)) (fun _ hk => hk.2) (.int .i64 t627)) (fun _ hk => hk.2) (.slice Ao29 t628.length co29)) (fun _ h_ => h_.1))))) (below_size (by repeat (first | (with_reducible first | exact HB.out | apply below_alloc | apply pw_below_drewN | apply below_drew1 | refine below_set ?_ GE614.out | refine below_set ?_ GE626.out | refine below_set ?_ GE631.out) | exact HB.out)))); have n4_ := Aside0.mk (blk_below (g := gb614) (o := .cells #[.int .i64 a0_0, .slice A0_1 l0_1.length c0_1] 39 (0, 0)) (by (with_reducible repeat (first | refine blk_drewN ?_ _ | refine blk_drew ?_ | refine blk_alloc ?_ _)); refine blk_far ?_ NB614_631.out _; (with_reducible repeat (first | refine blk_drewN ?_ _ | refine blk_drew ?_ | refine blk_alloc ?_ _)); refine blk_far ?_ NB614_631.out _; (with_reducible repeat (first | refine blk_drewN ?_ _ | refine blk_drew ?_ | refine blk_alloc ?_ _)); exact BK614.out) hb); have n5_ := Aside0.mk (blk_below (g := gb626) (o := .cells #[.int .i64 t620, .slice Ao22 t621.length co22] 33 (0, 0)) (by (with_reducible repeat (first | refine blk_drewN ?_ _ | refine blk_drew ?_ | refine blk_alloc ?_ _)); refine blk_far ?_ NB626_631.out _; (with_reducible repeat (first | refine blk_drewN ?_ _ | refine blk_drew ?_ | refine blk_alloc ?_ _)); refine blk_far ?_ NB626_631.out _; (with_reducible repeat (first | refine blk_drewN ?_ _ | refine blk_drew ?_ | refine blk_alloc ?_ _)); exact BK626.out) hb); have n6_ := Aside0.mk (blk_below (g := gb631) (o := .cells #[.int .i64 t627, .slice Ao29 t628.length co29] 33 (0, 0)) (by (with_reducible repeat (first | refine blk_drewN ?_ _ | refine blk_drew ?_ | refine blk_alloc ?_ _)); refine blk_put (cs := #[.int .i64 t627, .slice none 0 0]) ?_ 1 _ rfl; (with_reducible repeat (first | refine blk_drewN ?_ _ | refine blk_drew ?_ | refine blk_alloc ?_ _)); refine blk_put (cs := #[.int .i64 0, .slice none 0 0]) ?_ 0 _ rfl; (with_reducible repeat (first | refine blk_drewN ?_ _ | refine blk_drew ?_ | refine blk_alloc ?_ _)); exact BK631.out) hb); have n7_ := Aside0.mk (below_step (by repeat (first | (with_reducible first | exact HB.out | apply below_alloc | apply pw_below_drewN | apply below_drew1 | refine below_set ?_ GE614.out | refine below_set ?_ GE626.out | refine below_set ?_ GE631.out) | exact HB.out)) hb); clear HO619; clear HO623; clear HO630; clear BK614; clear BK626; clear BK631; clear HB; have HO619 := n0_; have HO623 := n1_; have HO630 := n2_; have HO635 := n3_; have BK614 := n4_; have BK626 := n5_; have BK631 := n6_; have HB := n7_; clear n0_ n1_ n2_ n3_ n4_ n5_ n6_ n7_; (try clear hb); (try clear hb2); (try clear hk); (try clear hi); (try clear ho0)) | ((with_reducible refine gate_dst (N := 8) rfl ?_); refine box_event ?hg (N := 8) ?hd (cs := #[.int .i64 0, .slice none 0 0]) (t := 33) ?hr ?_; (case hd => rfl); (case hg => rfl); (case hr => first | (go_simp; done) | (go_simp; rfl)); intro gb638 hg w31 hbox hb; have n0_ := Aside0.mk (Kd.R_below (by (with_reducible repeat (first | apply Kd.R_alloc | apply Kd.R_drewN | apply Kd.R_drew)); exact HO619.out) hb); have n1_ := Aside0.mk (Kd.R_below (by (with_reducible repeat (first | apply Kd.R_alloc | apply Kd.R_drewN | apply Kd.R_drew)); exact HO623.out) hb); have n2_ := Aside0.mk (Kd.R_below (by (with_reducible repeat (first | apply Kd.R_alloc | apply Kd.R_drewN | apply Kd.R_drew)); exact HO630.out) hb); have n3_ := Aside0.mk (Kd.R_below (by (with_reducible repeat (first | apply Kd.R_alloc | apply Kd.R_drewN | apply Kd.R_drew)); exact HO635.out) hb); have n4_ := Aside0.mk (blk_below (g := gb614) (o := .cells #[.int .i64 a0_0, .slice A0_1 l0_1.length c0_1] 39 (0, 0)) (by (with_reducible repeat (first | refine blk_drewN ?_ _ | refine blk_drew ?_ | refine blk_alloc ?_ _)); exact BK614.out) hb); have n5_ := Aside0.mk (blk_below (g := gb626) (o := .cells #[.int .i64 t620, .slice Ao22 t621.length co22] 33 (0, 0)) (by (with_reducible repeat (first | refine blk_drewN ?_ _ | refine blk_drew ?_ | refine blk_alloc ?_ _)); exact BK626.out) hb); have n6_ := Aside0.mk (blk_below (g := gb631) (o := .cells #[.int .i64 t627, .slice Ao29 t628.length co29] 33 (0, 0)) (by (with_reducible repeat (first | refine blk_drewN ?_ _ | refine blk_drew ?_ | refine blk_alloc ?_ _)); exact BK631.out) hb); have n7_ := Aside0.mk (below_step (by repeat (first | (with_reducible first | exact HB.out | apply below_alloc | apply pw_below_drewN | apply below_drew1 | refine below_set ?_ GE614.out | refine below_set ?_ GE626.out | refine below_set ?_ GE631.out) | exact HB.out)) hb); have n8_ := Aside0.mk (hbox); have n9_ := Aside0.mk ((by rw [hg]; exact (below_size (by repeat (first | (with_reducible first | exact HB.out | apply below_alloc | apply pw_below_drewN | apply below_drew1 | refine below_set ?_ GE614.out | refine below_set ?_ GE626.out | refine below_set ?_ GE631.out) | exact HB.out))) : w.heap.size ≤ gb638)); have n10_ := Aside0.mk ((by rw [hg]; exact (below_size (by repeat (first | (with_reducible first | exact HB.out | apply below_alloc | apply pw_below_drewN | apply below_drew1 | refine below_set ?_ GE614.out | refine below_set ?_ GE626.out | refine below_set ?_ GE631.out) | exact HB.out))) : w.heap.size ≤ gb638)); have n11_ := Aside0.mk ((by rw [hg]; exact Nat.ne_of_lt (blk_lt (g := gb614) (o := .cells #[.int .i64 a0_0, .slice A0_1 l0_1.length c0_1] 39 (0, 0)) (by (with_reducible repeat (first | refine blk_drewN ?_ _ | refine blk_drew ?_ | refine blk_alloc ?_ _)); exact BK614.out)) : gb614 ≠ gb638)); have n12_ := Aside0.mk ((by rw [hg]; exact Nat.ne_of_gt (blk_lt (g := gb614) (o := .cells #[.int .i64 a0_0, .slice A0_1 l0_1.length c0_1] 39 (0, 0)) (by (with_reducible repeat (first | refine blk_drewN ?_ _ | refine blk_drew ?_ | refine blk_alloc ?_ _)); exact BK614.out)) : gb638 ≠ gb614)); have n13_ := Aside0.mk ((by rw [hg]; exact Nat.ne_of_lt (blk_lt (g := gb626) (o := .cells #[.int .i64 t620, .slice Ao22 t621.length co22] 33 (0, 0)) (by (with_reducible repeat (first | refine blk_drewN ?_ _ | refine blk_drew ?_ | refine blk_alloc ?_ _)); exact BK626.out)) : gb626 ≠ gb638)); have n14_ := Aside0.mk ((by rw [hg]; exact Nat.ne_of_gt (blk_lt (g := gb626) (o := .cells #[.int .i64 t620, .slice Ao22 t621.length co22] 33 (0, 0)) (by (with_reducible repeat (first | refine blk_drewN ?_ _ | refine blk_drew ?_ | refine blk_alloc ?_ _)); exact BK626.out)) : gb638 ≠ gb626)); have n15_ := Aside0.mk ((by rw [hg]; exact Nat.ne_of_lt (blk_lt (g := gb631) (o := .cells #[.int .i64 t627, .slice Ao29 t628.length co29] 33 (0, 0)) (by (with_reducible repeat (first | refine blk_drewN ?_ _ | refine blk_drew ?_ | refine blk_alloc ?_ _)); exact BK631.out)) : gb631 ≠ gb638)); have n16_ := Aside0.mk ((by rw [hg]; exact Nat.ne_of_gt (blk_lt (g := gb631) (o := .cells #[.int .i64 t627, .slice Ao29 t628.length co29] 33 (0, 0)) (by (with_reducible repeat (first | refine blk_drewN ?_ _ | refine blk_drew ?_ | refine blk_alloc ?_ _)); exact BK631.out)) : gb638 ≠ gb631)); clear HO619; clear HO623; clear HO630; clear HO635; clear BK614; clear BK626; clear BK631; clear HB; have HO619 := n0_; have HO623 := n1_; have HO630 := n2_; have HO635 := n3_; have BK614 := n4_; have BK626 := n5_; have BK631 := n6_; have HB := n7_; have BK638 := n8_; have GW638 := n9_; have GE638 := n10_; have NB614_638 := n11_; have NB638_614 := n12_; have NB626_638 := n13_; have NB638_626 := n14_; have NB631_638 := n15_; have NB638_631 := n16_; clear n0_ n1_ n2_ n3_ n4_ n5_ n6_ n7_ n8_ n9_ n10_ n11_ n12_ n13_ n14_ n15_ n16_; clear hb hbox hg; have hnb32 := NB638_614.out; have hnc32 := NB614_638.out; have hnb33 := NB638_626.out; have hnc33 := NB626_638.out; have hnb34 := NB638_631.out; have hnc34 := NB631_638.out; have hcz35_0 : w31.cell? ⟨gb638, 0, none⟩ = some (.int .i64 0) := (blk_cell BK638.out 0).trans rfl; have hcz35_1 : w31.cell? ⟨gb638, 1, none⟩ = some (.slice none 0 0) := (blk_cell BK638.out 1).trans rfl; have hfz35_0 := blk_frozen BK638.out 0; have hfz35_1 := blk_frozen BK638.out 1; obtain ⟨Ao36, co36, eo36⟩ := Kd.R_slice HO635.out; subst eo36))
    (try simp only [Act.put, List.setIfInBounds_toArray, List.set_cons_zero, List.set_cons_succ])
    go_cut [50] (fun v50 wc => ∃ (kq : Nat) (x50_10 : Bool), v50 = .bool x50_10 ∧ Aside0 (laws_FnExactBoxTake.j0 kq t624 t625 t636 t637 x50_10 a0_0 l0_1 t620 t621 t627 t628 t632 t633 = some r) ∧ Aside0 (kq ≤ k) ∧ Aside0 (Kd.R (Kd.int .i64) 3 wc w.heap.size (fun k_ => some k_ ≠ ((.slice Ao29 t628.length co29) : Value).ownBlock ∧ some k_ ≠ ((.slice Ao36 t633.length co36) : Value).ownBlock) (.slice Ao22 t621.length co22) t621) ∧ Aside0 (Kd.R (Kd.int .i64) 3 wc w.heap.size (fun k_ => some k_ ≠ ((.slice Ao22 t621.length co22) : Value).ownBlock ∧ some k_ ≠ ((.slice Ao36 t633.length co36) : Value).ownBlock) (.slice Ao29 t628.length co29) t628) ∧ Aside0 (Kd.R (Kd.int .i64) 3 wc w.heap.size (fun k_ => some k_ ≠ ((.slice Ao22 t621.length co22) : Value).ownBlock ∧ some k_ ≠ ((.slice Ao29 t628.length co29) : Value).ownBlock) (.slice Ao36 t633.length co36) t633) ∧ Aside0 (wc.heap[gb614]? = some (.cells #[.int .i64 a0_0, (.slice A0_1 l0_1.length c0_1)] 39 (0, 0))) ∧ Aside0 (wc.heap[gb626]? = some (.cells #[.int .i64 t620, (.slice Ao22 t621.length co22)] 33 (0, 0))) ∧ Aside0 (wc.heap[gb631]? = some (.cells #[.int .i64 t627, (.slice Ao29 t628.length co29)] 33 (0, 0))) ∧ Aside0 (wc.heap[gb638]? = some (.cells #[.int .i64 t632, (.slice Ao36 t633.length co36)] 33 (0, 0))) ∧ Aside0 (Below w.heap.size w wc))
    case first =>
      have H := HC11.out
      clear HC11
      replace H := Option.bind_eq_some_iff.mp H
      obtain ⟨t639, A370, H⟩ := H
      replace H : (if t639 = true then (if t636 = t624 then (laws_FnExactBoxTake.j0 k t624 t625 t636 t637 (t637 != t625) a0_0 l0_1 t620 t621 t627 t628 t632 t633) else (laws_FnExactBoxTake.j0 k t624 t625 t636 t637 true a0_0 l0_1 t620 t621 t627 t628 t632 t633)) else (laws_FnExactBoxTake.j0 k t624 t625 t636 t637 true a0_0 l0_1 t620 t621 t627 t628 t632 t633)) = some r := H
      have A37 := Aside0.mk A370
      clear A370
      by_cases c38 : t639 = true
      · subst c38
        have H1 : (if t636 = t624 then (laws_FnExactBoxTake.j0 k t624 t625 t636 t637 (t637 != t625) a0_0 l0_1 t620 t621 t627 t628 t632 t633) else (laws_FnExactBoxTake.j0 k t624 t625 t636 t637 true a0_0 l0_1 t620 t621 t627 t628 t632 t633)) = some r := by rw [if_pos rfl] at H; exact H
        clear H
        have H := H1
        clear H1
        by_cases c39 : t636 = t624
        · rw [if_pos c39] at H
          have c39b0 : (t636 == t624) = true := beq_iff_eq.mpr c39
          have c39b1 : (t636 != t624) = false := bne_eq_false_iff_eq.mpr c39
          clear c39
          (first | rw [c39b0] | (simp only [i64_w, i32_w]; rw [c39b0]) | skip)
          have H' := Aside0.mk H
          clear H
          have hnb40 := NB638_614.out
          have hnc40 := NB614_638.out
          have hnb41 := NB638_626.out
          have hnc41 := NB626_638.out
          have hnb42 := NB638_631.out
          have hnc42 := NB631_638.out
          have hcz43_0 : w31.cell? ⟨gb638, 0, none⟩ = some (.int .i64 0) := (blk_cell BK638.out 0).trans rfl
          have hcz43_1 : w31.cell? ⟨gb638, 1, none⟩ = some (.slice none 0 0) := (blk_cell BK638.out 1).trans rfl
          have hfz43_0 := blk_frozen BK638.out 0
          have hfz43_1 := blk_frozen BK638.out 1
          have hnb44 := NB626_614.out
          have hnc44 := NB614_626.out
          have hnb45 := NB626_631.out
          have hnc45 := NB631_626.out
          have hcz46_0 : w31.cell? ⟨gb626, 0, none⟩ = some (.int .i64 t620) := (blk_cell BK626.out 0).trans rfl
          have hcz46_1 : w31.cell? ⟨gb626, 1, none⟩ = some (.slice Ao22 t621.length co22) := (blk_cell BK626.out 1).trans rfl
          have hfz46_0 := blk_frozen BK626.out 0
          have hfz46_1 := blk_frozen BK626.out 1
          go_wp2_with (first | ((with_reducible refine gate_callee (f := 29) rfl ?_); refine goesL_ (some 39) rfl rfl Try.func29 (by kernel_rfl) rfl #[.agg #[.int .i64 t632, .slice Ao36 t633.length co36], .agg #[.int .i64 t620, .slice Ao22 t621.length co22]] rfl (by (try simp only [List.map_toArray, List.map_cons, List.map_nil]); first | done | rfl | (simp only [List.length_drop, List.length_take]; rfl)) ?_; (with_reducible refine (laws_eqBox.calls k t632 _ _ t633 t620 _ _ t621 true _ ?side1 ?side2 ?side3 ?side4 A37.out).mono ?_); (case side1 => refine (Kd.R_reads' (e := 3) (base := w.heap.size) (ok := fun k_ => (((True ∧ some k_ ≠ (.slice Ao17 t617.length co17 : Value).ownBlock) ∧ some k_ ≠ (.slice Ao22 t621.length co22 : Value).ownBlock) ∧ some k_ ≠ (.slice Ao29 t628.length co29 : Value).ownBlock)) (n := t633.length) (c := co36) ?_).2.2; exact (by (with_reducible repeat (first | apply Kd.R_alloc | apply Kd.R_drewN | apply Kd.R_drew)); exact (Kd.R_mono (Kd.R_far (p := ⟨gb638, 1, none⟩) (Kd.R_far (p := ⟨gb638, 0, none⟩) (Kd.R_types HO635.out BK638.out (by decide)) (fun _ hk => hk.2) (.int .i64 t632)) (fun _ hk => hk.2) (.slice Ao36 t633.length co36)) (fun _ h_ => h_.1)))); (case side2 => exact (Kd.R_reads' HO635.out).2.1); (case side3 => refine (Kd.R_reads' (e := 3) (base := w.heap.size) (ok := fun k_ => (((True ∧ some k_ ≠ (.slice Ao17 t617.length co17 : Value).ownBlock) ∧ some k_ ≠ (.slice Ao29 t628.length co29 : Value).ownBlock) ∧ some k_ ≠ (.slice Ao36 t633.length co36 : Value).ownBlock)) (n := t621.length) (c := co22) ?_).2.2; exact (by (with_reducible repeat (first | apply Kd.R_alloc | apply Kd.R_drewN | apply Kd.R_drew)); exact (Kd.R_mono (Kd.R_far (p := ⟨gb638, 1, none⟩) (Kd.R_far (p := ⟨gb638, 0, none⟩) (Kd.R_types HO623.out BK638.out (by decide)) (fun _ hk => hk.2) (.int .i64 t632)) (fun _ hk => hk.2) (.slice Ao36 t633.length co36)) (fun _ h_ => h_.1)))); (case side4 => exact (Kd.R_reads' HO623.out).2.1); rintro e w47 ⟨rfl, hb⟩; refine ⟨_, rfl, ?_⟩; have n0_ := Aside0.mk (Kd.R_below (by (with_reducible repeat (first | apply Kd.R_alloc | apply Kd.R_drewN | apply Kd.R_drew)); exact (Kd.R_mono (Kd.R_far (p := ⟨gb638, 1, none⟩) (Kd.R_far (p := ⟨gb638, 0, none⟩) (Kd.R_types HO619.out BK638.out (by decide)) (fun _ hk => hk.2) (.int .i64 t632)) (fun _ hk => hk.2) (.slice Ao36 t633.length co36)) (fun _ h_ => h_.1))) hb); have n1_ := Aside0.mk (Kd.R_below (by (with_reducible repeat (first | apply Kd.R_alloc | apply Kd.R_drewN | apply Kd.R_drew)); exact (Kd.R_mono (Kd.R_far (p := ⟨gb638, 1, none⟩) (Kd.R_far (p := ⟨gb638, 0, none⟩) (Kd.R_types HO623.out BK638.out (by decide)) (fun _ hk => hk.2) (.int .i64 t632)) (fun _ hk => hk.2) (.slice Ao36 t633.length co36)) (fun _ h_ => h_.1))) hb); have n2_ := Aside0.mk (Kd.R_below (by (with_reducible repeat (first | apply Kd.R_alloc | apply Kd.R_drewN | apply Kd.R_drew)); exact (Kd.R_mono (Kd.R_far (p := ⟨gb638, 1, none⟩) (Kd.R_far (p := ⟨gb638, 0, none⟩) (Kd.R_types HO630.out BK638.out (by decide)) (fun _ hk => hk.2) (.int .i64 t632)) (fun _ hk => hk.2) (.slice Ao36 t633.length co36)) (fun _ h_ => h_.1))) hb); have n3_ := Aside0.mk (Kd.R_below (by (with_reducible repeat (first | apply Kd.R_alloc | apply Kd.R_drewN | apply Kd.R_drew)); exact (Kd.R_mono (Kd.R_far (p := ⟨gb638, 1, none⟩) (Kd.R_far (p := ⟨gb638, 0, none⟩) (Kd.R_types HO635.out BK638.out (by decide)) (fun _ hk => hk.2) (.int .i64 t632)) (fun _ hk => hk.2) (.slice Ao36 t633.length co36)) (fun _ h_ => h_.1))) hb); have n4_ := Aside0.mk (blk_below (g := gb614) (o := .cells #[.int .i64 a0_0, .slice A0_1 l0_1.length c0_1] 39 (0, 0)) (by (with_reducible repeat (first | refine blk_drewN ?_ _ | refine blk_drew ?_ | refine blk_alloc ?_ _)); refine blk_far ?_ NB614_638.out _; (with_reducible repeat (first | refine blk_drewN ?_ _ | refine blk_drew ?_ | refine blk_alloc ?_ _)); refine blk_far ?_ NB614_638.out _; (with_reducible repeat (first | refine blk_drewN ?_ _ | refine blk_drew ?_ | refine blk_alloc ?_ _)); exact BK614.out) hb); have n5_ := Aside0.mk (blk_below (g := gb626) (o := .cells #[.int .i64 t620, .slice Ao22 t621.length co22] 33 (0, 0)) (by (with_reducible repeat (first | refine blk_drewN ?_ _ | refine blk_drew ?_ | refine blk_alloc ?_ _)); refine blk_far ?_ NB626_638.out _; (with_reducible repeat (first | refine blk_drewN ?_ _ | refine blk_drew ?_ | refine blk_alloc ?_ _)); refine blk_far ?_ NB626_638.out _; (with_reducible repeat (first | refine blk_drewN ?_ _ | refine blk_drew ?_ | refine blk_alloc ?_ _)); exact BK626.out) hb); have n6_ := Aside0.mk (blk_below (g := gb631) (o := .cells #[.int .i64 t627, .slice Ao29 t628.length co29] 33 (0, 0)) (by (with_reducible repeat (first | refine blk_drewN ?_ _ | refine blk_drew ?_ | refine blk_alloc ?_ _)); refine blk_far ?_ NB631_638.out _; (with_reducible repeat (first | refine blk_drewN ?_ _ | refine blk_drew ?_ | refine blk_alloc ?_ _)); refine blk_far ?_ NB631_638.out _; (with_reducible repeat (first | refine blk_drewN ?_ _ | refine blk_drew ?_ | refine blk_alloc ?_ _)); exact BK631.out) hb); have n7_ := Aside0.mk (blk_below (g := gb638) (o := .cells #[.int .i64 t632, .slice Ao36 t633.length co36] 33 (0, 0)) (by (with_reducible repeat (first | refine blk_drewN ?_ _ | refine blk_drew ?_ | refine blk_alloc ?_ _)); refine blk_put (cs := #[.int .i64 t632, .slice none 0 0]) ?_ 1 _ rfl; (with_reducible repeat (first | refine blk_drewN ?_ _ | refine blk_drew ?_ | refine blk_alloc ?_ _)); refine blk_put (cs := #[.int .i64 0, .slice none 0 0]) ?_ 0 _ rfl; (with_reducible repeat (first | refine blk_drewN ?_ _ | refine blk_drew ?_ | refine blk_alloc ?_ _)); exact BK638.out) hb); have n8_ := Aside0.mk (below_step (by repeat (first | (with_reducible first | exact HB.out | apply below_alloc | apply pw_below_drewN | apply below_drew1 | refine below_set ?_ GE614.out | refine below_set ?_ GE626.out | refine below_set ?_ GE631.out | refine below_set ?_ GE638.out) | exact HB.out)) hb); clear HO619; clear HO623; clear HO630; clear HO635; clear BK614; clear BK626; clear BK631; clear BK638; clear HB; have HO619 := n0_; have HO623 := n1_; have HO630 := n2_; have HO635 := n3_; have BK614 := n4_; have BK626 := n5_; have BK631 := n6_; have BK638 := n7_; have HB := n8_; clear n0_ n1_ n2_ n3_ n4_ n5_ n6_ n7_ n8_; (try clear hb); (try clear hb2); (try clear hk); (try clear hi)))
          go_meet
          case rel => exact ⟨_, ((t637 != t625)), (by first | rfl | (simp; done) | (simp [*]; done)), H', ⟨by first | omega | exact Nat.le_refl _⟩, ⟨by (with_reducible repeat (first | apply Kd.R_alloc | apply Kd.R_drewN | apply Kd.R_drew)); exact Kd.R_mono HO623.out (fun _ hk => ⟨hk.1.2, hk.2⟩)⟩, ⟨by (with_reducible repeat (first | apply Kd.R_alloc | apply Kd.R_drewN | apply Kd.R_drew)); exact Kd.R_mono HO630.out (fun _ hk => ⟨hk.1.2, hk.2⟩)⟩, ⟨by (with_reducible repeat (first | apply Kd.R_alloc | apply Kd.R_drewN | apply Kd.R_drew)); exact Kd.R_mono HO635.out (fun _ hk => ⟨hk.1.2, hk.2⟩)⟩, ⟨by (with_reducible repeat (first | refine blk_drewN ?_ _ | refine blk_drew ?_ | refine blk_alloc ?_ _)); exact BK614.out⟩, ⟨by (with_reducible repeat (first | refine blk_drewN ?_ _ | refine blk_drew ?_ | refine blk_alloc ?_ _)); exact BK626.out⟩, ⟨by (with_reducible repeat (first | refine blk_drewN ?_ _ | refine blk_drew ?_ | refine blk_alloc ?_ _)); exact BK631.out⟩, ⟨by (with_reducible repeat (first | refine blk_drewN ?_ _ | refine blk_drew ?_ | refine blk_alloc ?_ _)); exact BK638.out⟩, ⟨by repeat (first | (with_reducible first | exact HB.out | apply below_alloc | apply pw_below_drewN | apply below_drew1 | refine below_set ?_ GE614.out | refine below_set ?_ GE626.out | refine below_set ?_ GE631.out | refine below_set ?_ GE638.out) | exact HB.out)⟩⟩
        · rw [if_neg c39] at H
          have c39b0 : (t636 == t624) = false := beq_eq_false_iff_ne.mpr c39
          have c39b1 : (t636 != t624) = true := bne_iff_ne.mpr c39
          (first | rw [c39b0] | (simp only [i64_w, i32_w]; rw [c39b0]) | skip)
          have H' := Aside0.mk H
          clear H
          have hnb48 := NB638_614.out
          have hnc48 := NB614_638.out
          have hnb49 := NB638_626.out
          have hnc49 := NB626_638.out
          have hnb50 := NB638_631.out
          have hnc50 := NB631_638.out
          have hcz51_0 : w31.cell? ⟨gb638, 0, none⟩ = some (.int .i64 0) := (blk_cell BK638.out 0).trans rfl
          have hcz51_1 : w31.cell? ⟨gb638, 1, none⟩ = some (.slice none 0 0) := (blk_cell BK638.out 1).trans rfl
          have hfz51_0 := blk_frozen BK638.out 0
          have hfz51_1 := blk_frozen BK638.out 1
          have hnb52 := NB626_614.out
          have hnc52 := NB614_626.out
          have hnb53 := NB626_631.out
          have hnc53 := NB631_626.out
          have hcz54_0 : w31.cell? ⟨gb626, 0, none⟩ = some (.int .i64 t620) := (blk_cell BK626.out 0).trans rfl
          have hcz54_1 : w31.cell? ⟨gb626, 1, none⟩ = some (.slice Ao22 t621.length co22) := (blk_cell BK626.out 1).trans rfl
          have hfz54_0 := blk_frozen BK626.out 0
          have hfz54_1 := blk_frozen BK626.out 1
          go_wp2_with (first | ((with_reducible refine gate_callee (f := 29) rfl ?_); refine goesL_ (some 39) rfl rfl Try.func29 (by kernel_rfl) rfl #[.agg #[.int .i64 t632, .slice Ao36 t633.length co36], .agg #[.int .i64 t620, .slice Ao22 t621.length co22]] rfl (by (try simp only [List.map_toArray, List.map_cons, List.map_nil]); first | done | rfl | (simp only [List.length_drop, List.length_take]; rfl)) ?_; (with_reducible refine (laws_eqBox.calls k t632 _ _ t633 t620 _ _ t621 true _ ?side1 ?side2 ?side3 ?side4 A37.out).mono ?_); (case side1 => refine (Kd.R_reads' (e := 3) (base := w.heap.size) (ok := fun k_ => (((True ∧ some k_ ≠ (.slice Ao17 t617.length co17 : Value).ownBlock) ∧ some k_ ≠ (.slice Ao22 t621.length co22 : Value).ownBlock) ∧ some k_ ≠ (.slice Ao29 t628.length co29 : Value).ownBlock)) (n := t633.length) (c := co36) ?_).2.2; exact (by (with_reducible repeat (first | apply Kd.R_alloc | apply Kd.R_drewN | apply Kd.R_drew)); exact (Kd.R_mono (Kd.R_far (p := ⟨gb638, 1, none⟩) (Kd.R_far (p := ⟨gb638, 0, none⟩) (Kd.R_types HO635.out BK638.out (by decide)) (fun _ hk => hk.2) (.int .i64 t632)) (fun _ hk => hk.2) (.slice Ao36 t633.length co36)) (fun _ h_ => h_.1)))); (case side2 => exact (Kd.R_reads' HO635.out).2.1); (case side3 => refine (Kd.R_reads' (e := 3) (base := w.heap.size) (ok := fun k_ => (((True ∧ some k_ ≠ (.slice Ao17 t617.length co17 : Value).ownBlock) ∧ some k_ ≠ (.slice Ao29 t628.length co29 : Value).ownBlock) ∧ some k_ ≠ (.slice Ao36 t633.length co36 : Value).ownBlock)) (n := t621.length) (c := co22) ?_).2.2; exact (by (with_reducible repeat (first | apply Kd.R_alloc | apply Kd.R_drewN | apply Kd.R_drew)); exact (Kd.R_mono (Kd.R_far (p := ⟨gb638, 1, none⟩) (Kd.R_far (p := ⟨gb638, 0, none⟩) (Kd.R_types HO623.out BK638.out (by decide)) (fun _ hk => hk.2) (.int .i64 t632)) (fun _ hk => hk.2) (.slice Ao36 t633.length co36)) (fun _ h_ => h_.1)))); (case side4 => exact (Kd.R_reads' HO623.out).2.1); rintro e w55 ⟨rfl, hb⟩; refine ⟨_, rfl, ?_⟩; have n0_ := Aside0.mk (Kd.R_below (by (with_reducible repeat (first | apply Kd.R_alloc | apply Kd.R_drewN | apply Kd.R_drew)); exact (Kd.R_mono (Kd.R_far (p := ⟨gb638, 1, none⟩) (Kd.R_far (p := ⟨gb638, 0, none⟩) (Kd.R_types HO619.out BK638.out (by decide)) (fun _ hk => hk.2) (.int .i64 t632)) (fun _ hk => hk.2) (.slice Ao36 t633.length co36)) (fun _ h_ => h_.1))) hb); have n1_ := Aside0.mk (Kd.R_below (by (with_reducible repeat (first | apply Kd.R_alloc | apply Kd.R_drewN | apply Kd.R_drew)); exact (Kd.R_mono (Kd.R_far (p := ⟨gb638, 1, none⟩) (Kd.R_far (p := ⟨gb638, 0, none⟩) (Kd.R_types HO623.out BK638.out (by decide)) (fun _ hk => hk.2) (.int .i64 t632)) (fun _ hk => hk.2) (.slice Ao36 t633.length co36)) (fun _ h_ => h_.1))) hb); have n2_ := Aside0.mk (Kd.R_below (by (with_reducible repeat (first | apply Kd.R_alloc | apply Kd.R_drewN | apply Kd.R_drew)); exact (Kd.R_mono (Kd.R_far (p := ⟨gb638, 1, none⟩) (Kd.R_far (p := ⟨gb638, 0, none⟩) (Kd.R_types HO630.out BK638.out (by decide)) (fun _ hk => hk.2) (.int .i64 t632)) (fun _ hk => hk.2) (.slice Ao36 t633.length co36)) (fun _ h_ => h_.1))) hb); have n3_ := Aside0.mk (Kd.R_below (by (with_reducible repeat (first | apply Kd.R_alloc | apply Kd.R_drewN | apply Kd.R_drew)); exact (Kd.R_mono (Kd.R_far (p := ⟨gb638, 1, none⟩) (Kd.R_far (p := ⟨gb638, 0, none⟩) (Kd.R_types HO635.out BK638.out (by decide)) (fun _ hk => hk.2) (.int .i64 t632)) (fun _ hk => hk.2) (.slice Ao36 t633.length co36)) (fun _ h_ => h_.1))) hb); have n4_ := Aside0.mk (blk_below (g := gb614) (o := .cells #[.int .i64 a0_0, .slice A0_1 l0_1.length c0_1] 39 (0, 0)) (by (with_reducible repeat (first | refine blk_drewN ?_ _ | refine blk_drew ?_ | refine blk_alloc ?_ _)); refine blk_far ?_ NB614_638.out _; (with_reducible repeat (first | refine blk_drewN ?_ _ | refine blk_drew ?_ | refine blk_alloc ?_ _)); refine blk_far ?_ NB614_638.out _; (with_reducible repeat (first | refine blk_drewN ?_ _ | refine blk_drew ?_ | refine blk_alloc ?_ _)); exact BK614.out) hb); have n5_ := Aside0.mk (blk_below (g := gb626) (o := .cells #[.int .i64 t620, .slice Ao22 t621.length co22] 33 (0, 0)) (by (with_reducible repeat (first | refine blk_drewN ?_ _ | refine blk_drew ?_ | refine blk_alloc ?_ _)); refine blk_far ?_ NB626_638.out _; (with_reducible repeat (first | refine blk_drewN ?_ _ | refine blk_drew ?_ | refine blk_alloc ?_ _)); refine blk_far ?_ NB626_638.out _; (with_reducible repeat (first | refine blk_drewN ?_ _ | refine blk_drew ?_ | refine blk_alloc ?_ _)); exact BK626.out) hb); have n6_ := Aside0.mk (blk_below (g := gb631) (o := .cells #[.int .i64 t627, .slice Ao29 t628.length co29] 33 (0, 0)) (by (with_reducible repeat (first | refine blk_drewN ?_ _ | refine blk_drew ?_ | refine blk_alloc ?_ _)); refine blk_far ?_ NB631_638.out _; (with_reducible repeat (first | refine blk_drewN ?_ _ | refine blk_drew ?_ | refine blk_alloc ?_ _)); refine blk_far ?_ NB631_638.out _; (with_reducible repeat (first | refine blk_drewN ?_ _ | refine blk_drew ?_ | refine blk_alloc ?_ _)); exact BK631.out) hb); have n7_ := Aside0.mk (blk_below (g := gb638) (o := .cells #[.int .i64 t632, .slice Ao36 t633.length co36] 33 (0, 0)) (by (with_reducible repeat (first | refine blk_drewN ?_ _ | refine blk_drew ?_ | refine blk_alloc ?_ _)); refine blk_put (cs := #[.int .i64 t632, .slice none 0 0]) ?_ 1 _ rfl; (with_reducible repeat (first | refine blk_drewN ?_ _ | refine blk_drew ?_ | refine blk_alloc ?_ _)); refine blk_put (cs := #[.int .i64 0, .slice none 0 0]) ?_ 0 _ rfl; (with_reducible repeat (first | refine blk_drewN ?_ _ | refine blk_drew ?_ | refine blk_alloc ?_ _)); exact BK638.out) hb); have n8_ := Aside0.mk (below_step (by repeat (first | (with_reducible first | exact HB.out | apply below_alloc | apply pw_below_drewN | apply below_drew1 | refine below_set ?_ GE614.out | refine below_set ?_ GE626.out | refine below_set ?_ GE631.out | refine below_set ?_ GE638.out) | exact HB.out)) hb); clear HO619; clear HO623; clear HO630; clear HO635; clear BK614; clear BK626; clear BK631; clear BK638; clear HB; have HO619 := n0_; have HO623 := n1_; have HO630 := n2_; have HO635 := n3_; have BK614 := n4_; have BK626 := n5_; have BK631 := n6_; have BK638 := n7_; have HB := n8_; clear n0_ n1_ n2_ n3_ n4_ n5_ n6_ n7_ n8_; (try clear hb); (try clear hb2); (try clear hk); (try clear hi)))
          go_meet
          case rel => exact ⟨_, (true), (by first | rfl | (simp; done) | (simp [*]; done)), H', ⟨by first | omega | exact Nat.le_refl _⟩, ⟨by (with_reducible repeat (first | apply Kd.R_alloc | apply Kd.R_drewN | apply Kd.R_drew)); exact Kd.R_mono HO623.out (fun _ hk => ⟨hk.1.2, hk.2⟩)⟩, ⟨by (with_reducible repeat (first | apply Kd.R_alloc | apply Kd.R_drewN | apply Kd.R_drew)); exact Kd.R_mono HO630.out (fun _ hk => ⟨hk.1.2, hk.2⟩)⟩, ⟨by (with_reducible repeat (first | apply Kd.R_alloc | apply Kd.R_drewN | apply Kd.R_drew)); exact Kd.R_mono HO635.out (fun _ hk => ⟨hk.1.2, hk.2⟩)⟩, ⟨by (with_reducible repeat (first | refine blk_drewN ?_ _ | refine blk_drew ?_ | refine blk_alloc ?_ _)); exact BK614.out⟩, ⟨by (with_reducible repeat (first | refine blk_drewN ?_ _ | refine blk_drew ?_ | refine blk_alloc ?_ _)); exact BK626.out⟩, ⟨by (with_reducible repeat (first | refine blk_drewN ?_ _ | refine blk_drew ?_ | refine blk_alloc ?_ _)); exact BK631.out⟩, ⟨by (with_reducible repeat (first | refine blk_drewN ?_ _ | refine blk_drew ?_ | refine blk_alloc ?_ _)); exact BK638.out⟩, ⟨by repeat (first | (with_reducible first | exact HB.out | apply below_alloc | apply pw_below_drewN | apply below_drew1 | refine below_set ?_ GE614.out | refine below_set ?_ GE626.out | refine below_set ?_ GE631.out | refine below_set ?_ GE638.out) | exact HB.out)⟩⟩
      · replace c38 := Bool.eq_false_iff.mpr c38
        subst c38
        have H1 : (laws_FnExactBoxTake.j0 k t624 t625 t636 t637 true a0_0 l0_1 t620 t621 t627 t628 t632 t633) = some r := by rw [if_neg (show ¬ (false = true) by decide)] at H; exact H
        clear H
        have H := H1
        clear H1
        have H' := Aside0.mk H
        clear H
        have hnb56 := NB638_614.out
        have hnc56 := NB614_638.out
        have hnb57 := NB638_626.out
        have hnc57 := NB626_638.out
        have hnb58 := NB638_631.out
        have hnc58 := NB631_638.out
        have hcz59_0 : w31.cell? ⟨gb638, 0, none⟩ = some (.int .i64 0) := (blk_cell BK638.out 0).trans rfl
        have hcz59_1 : w31.cell? ⟨gb638, 1, none⟩ = some (.slice none 0 0) := (blk_cell BK638.out 1).trans rfl
        have hfz59_0 := blk_frozen BK638.out 0
        have hfz59_1 := blk_frozen BK638.out 1
        have hnb60 := NB626_614.out
        have hnc60 := NB614_626.out
        have hnb61 := NB626_631.out
        have hnc61 := NB631_626.out
        have hcz62_0 : w31.cell? ⟨gb626, 0, none⟩ = some (.int .i64 t620) := (blk_cell BK626.out 0).trans rfl
        have hcz62_1 : w31.cell? ⟨gb626, 1, none⟩ = some (.slice Ao22 t621.length co22) := (blk_cell BK626.out 1).trans rfl
        have hfz62_0 := blk_frozen BK626.out 0
        have hfz62_1 := blk_frozen BK626.out 1
        go_wp2_with (first | ((with_reducible refine gate_callee (f := 29) rfl ?_); refine goesL_ (some 39) rfl rfl Try.func29 (by kernel_rfl) rfl #[.agg #[.int .i64 t632, .slice Ao36 t633.length co36], .agg #[.int .i64 t620, .slice Ao22 t621.length co22]] rfl (by (try simp only [List.map_toArray, List.map_cons, List.map_nil]); first | done | rfl | (simp only [List.length_drop, List.length_take]; rfl)) ?_; (with_reducible refine (laws_eqBox.calls k t632 _ _ t633 t620 _ _ t621 false _ ?side1 ?side2 ?side3 ?side4 A37.out).mono ?_); (case side1 => refine (Kd.R_reads' (e := 3) (base := w.heap.size) (ok := fun k_ => (((True ∧ some k_ ≠ (.slice Ao17 t617.length co17 : Value).ownBlock) ∧ some k_ ≠ (.slice Ao22 t621.length co22 : Value).ownBlock) ∧ some k_ ≠ (.slice Ao29 t628.length co29 : Value).ownBlock)) (n := t633.length) (c := co36) ?_).2.2; exact (by (with_reducible repeat (first | apply Kd.R_alloc | apply Kd.R_drewN | apply Kd.R_drew)); exact (Kd.R_mono (Kd.R_far (p := ⟨gb638, 1, none⟩) (Kd.R_far (p := ⟨gb638, 0, none⟩) (Kd.R_types HO635.out BK638.out (by decide)) (fun _ hk => hk.2) (.int .i64 t632)) (fun _ hk => hk.2) (.slice Ao36 t633.length co36)) (fun _ h_ => h_.1)))); (case side2 => exact (Kd.R_reads' HO635.out).2.1); (case side3 => refine (Kd.R_reads' (e := 3) (base := w.heap.size) (ok := fun k_ => (((True ∧ some k_ ≠ (.slice Ao17 t617.length co17 : Value).ownBlock) ∧ some k_ ≠ (.slice Ao29 t628.length co29 : Value).ownBlock) ∧ some k_ ≠ (.slice Ao36 t633.length co36 : Value).ownBlock)) (n := t621.length) (c := co22) ?_).2.2; exact (by (with_reducible repeat (first | apply Kd.R_alloc | apply Kd.R_drewN | apply Kd.R_drew)); exact (Kd.R_mono (Kd.R_far (p := ⟨gb638, 1, none⟩) (Kd.R_far (p := ⟨gb638, 0, none⟩) (Kd.R_types HO623.out BK638.out (by decide)) (fun _ hk => hk.2) (.int .i64 t632)) (fun _ hk => hk.2) (.slice Ao36 t633.length co36)) (fun _ h_ => h_.1)))); (case side4 => exact (Kd.R_reads' HO623.out).2.1); rintro e w63 ⟨rfl, hb⟩; refine ⟨_, rfl, ?_⟩; have n0_ := Aside0.mk (Kd.R_below (by (with_reducible repeat (first | apply Kd.R_alloc | apply Kd.R_drewN | apply Kd.R_drew)); exact (Kd.R_mono (Kd.R_far (p := ⟨gb638, 1, none⟩) (Kd.R_far (p := ⟨gb638, 0, none⟩) (Kd.R_types HO619.out BK638.out (by decide)) (fun _ hk => hk.2) (.int .i64 t632)) (fun _ hk => hk.2) (.slice Ao36 t633.length co36)) (fun _ h_ => h_.1))) hb); have n1_ := Aside0.mk (Kd.R_below (by (with_reducible repeat (first | apply Kd.R_alloc | apply Kd.R_drewN | apply Kd.R_drew)); exact (Kd.R_mono (Kd.R_far (p := ⟨gb638, 1, none⟩) (Kd.R_far (p := ⟨gb638, 0, none⟩) (Kd.R_types HO623.out BK638.out (by decide)) (fun _ hk => hk.2) (.int .i64 t632)) (fun _ hk => hk.2) (.slice Ao36 t633.length co36)) (fun _ h_ => h_.1))) hb); have n2_ := Aside0.mk (Kd.R_below (by (with_reducible repeat (first | apply Kd.R_alloc | apply Kd.R_drewN | apply Kd.R_drew)); exact (Kd.R_mono (Kd.R_far (p := ⟨gb638, 1, none⟩) (Kd.R_far (p := ⟨gb638, 0, none⟩) (Kd.R_types HO630.out BK638.out (by decide)) (fun _ hk => hk.2) (.int .i64 t632)) (fun _ hk => hk.2) (.slice Ao36 t633.length co36)) (fun _ h_ => h_.1))) hb); have n3_ := Aside0.mk (Kd.R_below (by (with_reducible repeat (first | apply Kd.R_alloc | apply Kd.R_drewN | apply Kd.R_drew)); exact (Kd.R_mono (Kd.R_far (p := ⟨gb638, 1, none⟩) (Kd.R_far (p := ⟨gb638, 0, none⟩) (Kd.R_types HO635.out BK638.out (by decide)) (fun _ hk => hk.2) (.int .i64 t632)) (fun _ hk => hk.2) (.slice Ao36 t633.length co36)) (fun _ h_ => h_.1))) hb); have n4_ := Aside0.mk (blk_below (g := gb614) (o := .cells #[.int .i64 a0_0, .slice A0_1 l0_1.length c0_1] 39 (0, 0)) (by (with_reducible repeat (first | refine blk_drewN ?_ _ | refine blk_drew ?_ | refine blk_alloc ?_ _)); refine blk_far ?_ NB614_638.out _; (with_reducible repeat (first | refine blk_drewN ?_ _ | refine blk_drew ?_ | refine blk_alloc ?_ _)); refine blk_far ?_ NB614_638.out _; (with_reducible repeat (first | refine blk_drewN ?_ _ | refine blk_drew ?_ | refine blk_alloc ?_ _)); exact BK614.out) hb); have n5_ := Aside0.mk (blk_below (g := gb626) (o := .cells #[.int .i64 t620, .slice Ao22 t621.length co22] 33 (0, 0)) (by (with_reducible repeat (first | refine blk_drewN ?_ _ | refine blk_drew ?_ | refine blk_alloc ?_ _)); refine blk_far ?_ NB626_638.out _; (with_reducible repeat (first | refine blk_drewN ?_ _ | refine blk_drew ?_ | refine blk_alloc ?_ _)); refine blk_far ?_ NB626_638.out _; (with_reducible repeat (first | refine blk_drewN ?_ _ | refine blk_drew ?_ | refine blk_alloc ?_ _)); exact BK626.out) hb); have n6_ := Aside0.mk (blk_below (g := gb631) (o := .cells #[.int .i64 t627, .slice Ao29 t628.length co29] 33 (0, 0)) (by (with_reducible repeat (first | refine blk_drewN ?_ _ | refine blk_drew ?_ | refine blk_alloc ?_ _)); refine blk_far ?_ NB631_638.out _; (with_reducible repeat (first | refine blk_drewN ?_ _ | refine blk_drew ?_ | refine blk_alloc ?_ _)); refine blk_far ?_ NB631_638.out _; (with_reducible repeat (first | refine blk_drewN ?_ _ | refine blk_drew ?_ | refine blk_alloc ?_ _)); exact BK631.out) hb); have n7_ := Aside0.mk (blk_below (g := gb638) (o := .cells #[.int .i64 t632, .slice Ao36 t633.length co36] 33 (0, 0)) (by (with_reducible repeat (first | refine blk_drewN ?_ _ | refine blk_drew ?_ | refine blk_alloc ?_ _)); refine blk_put (cs := #[.int .i64 t632, .slice none 0 0]) ?_ 1 _ rfl; (with_reducible repeat (first | refine blk_drewN ?_ _ | refine blk_drew ?_ | refine blk_alloc ?_ _)); refine blk_put (cs := #[.int .i64 0, .slice none 0 0]) ?_ 0 _ rfl; (with_reducible repeat (first | refine blk_drewN ?_ _ | refine blk_drew ?_ | refine blk_alloc ?_ _)); exact BK638.out) hb); have n8_ := Aside0.mk (below_step (by repeat (first | (with_reducible first | exact HB.out | apply below_alloc | apply pw_below_drewN | apply below_drew1 | refine below_set ?_ GE614.out | refine below_set ?_ GE626.out | refine below_set ?_ GE631.out | refine below_set ?_ GE638.out) | exact HB.out)) hb); clear HO619; clear HO623; clear HO630; clear HO635; clear BK614; clear BK626; clear BK631; clear BK638; clear HB; have HO619 := n0_; have HO623 := n1_; have HO630 := n2_; have HO635 := n3_; have BK614 := n4_; have BK626 := n5_; have BK631 := n6_; have BK638 := n7_; have HB := n8_; clear n0_ n1_ n2_ n3_ n4_ n5_ n6_ n7_ n8_; (try clear hb); (try clear hb2); (try clear hk); (try clear hi)))
        go_meet
        case rel => exact ⟨_, (true), (by first | rfl | (simp; done) | (simp [*]; done)), H', ⟨by first | omega | exact Nat.le_refl _⟩, ⟨by (with_reducible repeat (first | apply Kd.R_alloc | apply Kd.R_drewN | apply Kd.R_drew)); exact Kd.R_mono HO623.out (fun _ hk => ⟨hk.1.2, hk.2⟩)⟩, ⟨by (with_reducible repeat (first | apply Kd.R_alloc | apply Kd.R_drewN | apply Kd.R_drew)); exact Kd.R_mono HO630.out (fun _ hk => ⟨hk.1.2, hk.2⟩)⟩, ⟨by (with_reducible repeat (first | apply Kd.R_alloc | apply Kd.R_drewN | apply Kd.R_drew)); exact Kd.R_mono HO635.out (fun _ hk => ⟨hk.1.2, hk.2⟩)⟩, ⟨by (with_reducible repeat (first | refine blk_drewN ?_ _ | refine blk_drew ?_ | refine blk_alloc ?_ _)); exact BK614.out⟩, ⟨by (with_reducible repeat (first | refine blk_drewN ?_ _ | refine blk_drew ?_ | refine blk_alloc ?_ _)); exact BK626.out⟩, ⟨by (with_reducible repeat (first | refine blk_drewN ?_ _ | refine blk_drew ?_ | refine blk_alloc ?_ _)); exact BK631.out⟩, ⟨by (with_reducible repeat (first | refine blk_drewN ?_ _ | refine blk_drew ?_ | refine blk_alloc ?_ _)); exact BK638.out⟩, ⟨by repeat (first | (with_reducible first | exact HB.out | apply below_alloc | apply pw_below_drewN | apply below_drew1 | refine below_set ?_ GE614.out | refine below_set ?_ GE626.out | refine below_set ?_ GE631.out | refine below_set ?_ GE638.out) | exact HB.out)⟩⟩
    case rest =>
      clear HC11
      try clear c1
      try clear c2
      try clear p2
      try clear c3
      try clear c3b0
      try clear c4
      try clear c5
      try clear c6
      try clear c11
      try clear c20
      try clear c25
      try clear c26
      try clear c27
      try clear c29
      try clear c32
      try clear c33
      try clear c34
      try clear c38
      try clear c39
      try clear c39b0
      try clear c39b1
      try clear c40
      try clear c41
      try clear c42
      try clear c44
      try clear c45
      try clear c48
      try clear c49
      try clear c50
      try clear c52
      try clear c53
      try clear c56
      try clear c57
      try clear c58
      try clear c60
      try clear c61
      try clear hcz13_0
      try clear hcz13_1
      try clear hcz15_0
      try clear hcz15_1
      try clear hcz21_0
      try clear hcz21_1
      try clear hcz23_0
      try clear hcz23_1
      try clear hcz28_0
      try clear hcz28_1
      try clear hcz35_0
      try clear hcz35_1
      try clear hcz43_0
      try clear hcz43_1
      try clear hcz46_0
      try clear hcz46_1
      try clear hcz51_0
      try clear hcz51_1
      try clear hcz54_0
      try clear hcz54_1
      try clear hcz59_0
      try clear hcz59_1
      try clear hcz5_0
      try clear hcz5_1
      try clear hcz62_0
      try clear hcz62_1
      try clear hfz13_0
      try clear hfz13_1
      try clear hfz15_0
      try clear hfz15_1
      try clear hfz21_0
      try clear hfz21_1
      try clear hfz23_0
      try clear hfz23_1
      try clear hfz28_0
      try clear hfz28_1
      try clear hfz35_0
      try clear hfz35_1
      try clear hfz43_0
      try clear hfz43_1
      try clear hfz46_0
      try clear hfz46_1
      try clear hfz51_0
      try clear hfz51_1
      try clear hfz54_0
      try clear hfz54_1
      try clear hfz59_0
      try clear hfz59_1
      try clear hfz5_0
      try clear hfz5_1
      try clear hfz62_0
      try clear hfz62_1
      obtain ⟨kq, x50_10, rfl, HA, HJ10, HO_627001, HO_632001, HO_639001, BK614, BK626, BK631, BK638, HB⟩ := hcut
      cases kq with
      | zero => exact absurd HA.out (by simp [laws_FnExactBoxTake.j0])
      | succ kj10 =>
        have H := HA.out
        clear HA
        simp only [laws_FnExactBoxTake.j0] at H
        by_cases c64 : x50_10 = true
        · subst c64
          have H1 : (some false) = some r := by rw [if_pos rfl] at H; exact H
          clear H
          have H := H1
          clear H1
          obtain rfl := Option.some.inj H
          go_wp2
          go_ret
          exact ⟨by first | rfl | (simp [errW_none, errW_some] <;> rfl) | (simp [*, errW_none, errW_some] <;> rfl), by repeat (first | (with_reducible first | exact HB.out | apply below_alloc | apply pw_below_drewN | apply below_drew1 | refine below_set ?_ GE614.out | refine below_set ?_ GE626.out | refine below_set ?_ GE631.out | refine below_set ?_ GE638.out) | exact HB.out)⟩
        · replace c64 := Bool.eq_false_iff.mpr c64
          subst c64
          have H1 : ((laws_toBox.f kj10 a0_0 l0_1).bind fun bt640 => ((laws_eqBox.f kj10 t627 t628 bt640.1 bt640.2).bind fun t644 => (if t644 = true then ((laws_markBox.f kj10 t627 t628 1).bind fun bt645 => (if bt645.1 < 0 then (laws_FnExactBoxTake.j1 kj10 t624 t625 true a0_0 l0_1 t620 t621 t632 t633) else ((laws_eqBox.f kj10 t632 t633 t620 t621).bind fun t647 => (if t647 = true then (if t636 = t624 then (laws_FnExactBoxTake.j1 kj10 t624 t625 (t637 != t625) a0_0 l0_1 t620 t621 t632 t633) else (laws_FnExactBoxTake.j1 kj10 t624 t625 true a0_0 l0_1 t620 t621 t632 t633)) else (laws_FnExactBoxTake.j1 kj10 t624 t625 true a0_0 l0_1 t620 t621 t632 t633))))) else (some false)))) = some r := by rw [if_neg (show ¬ (false = true) by decide)] at H; exact H
          clear H
          have H := H1
          clear H1
          replace H := Option.bind_eq_some_iff.mp H
          obtain ⟨⟨t640, t641⟩, A650, H⟩ := H
          replace H : ((laws_eqBox.f kj10 t627 t628 t640 t641).bind fun t644 => (if t644 = true then ((laws_markBox.f kj10 t627 t628 1).bind fun bt645 => (if bt645.1 < 0 then (laws_FnExactBoxTake.j1 kj10 t624 t625 true a0_0 l0_1 t620 t621 t632 t633) else ((laws_eqBox.f kj10 t632 t633 t620 t621).bind fun t647 => (if t647 = true then (if t636 = t624 then (laws_FnExactBoxTake.j1 kj10 t624 t625 (t637 != t625) a0_0 l0_1 t620 t621 t632 t633) else (laws_FnExactBoxTake.j1 kj10 t624 t625 true a0_0 l0_1 t620 t621 t632 t633)) else (laws_FnExactBoxTake.j1 kj10 t624 t625 true a0_0 l0_1 t620 t621 t632 t633))))) else (some false))) = some r := H
          have A65 := Aside0.mk A650
          clear A650
          replace H := Option.bind_eq_some_iff.mp H
          obtain ⟨t644, A660, H⟩ := H
          replace H : (if t644 = true then ((laws_markBox.f kj10 t627 t628 1).bind fun bt645 => (if bt645.1 < 0 then (laws_FnExactBoxTake.j1 kj10 t624 t625 true a0_0 l0_1 t620 t621 t632 t633) else ((laws_eqBox.f kj10 t632 t633 t620 t621).bind fun t647 => (if t647 = true then (if t636 = t624 then (laws_FnExactBoxTake.j1 kj10 t624 t625 (t637 != t625) a0_0 l0_1 t620 t621 t632 t633) else (laws_FnExactBoxTake.j1 kj10 t624 t625 true a0_0 l0_1 t620 t621 t632 t633)) else (laws_FnExactBoxTake.j1 kj10 t624 t625 true a0_0 l0_1 t620 t621 t632 t633))))) else (some false)) = some r := H
          have A66 := Aside0.mk A660
          clear A660
          by_cases c67 : t644 = true
          · subst c67
            have H1 : ((laws_markBox.f kj10 t627 t628 1).bind fun bt645 => (if bt645.1 < 0 then (laws_FnExactBoxTake.j1 kj10 t624 t625 true a0_0 l0_1 t620 t621 t632 t633) else ((laws_eqBox.f kj10 t632 t633 t620 t621).bind fun t647 => (if t647 = true then (if t636 = t624 then (laws_FnExactBoxTake.j1 kj10 t624 t625 (t637 != t625) a0_0 l0_1 t620 t621 t632 t633) else (laws_FnExactBoxTake.j1 kj10 t624 t625 true a0_0 l0_1 t620 t621 t632 t633)) else (laws_FnExactBoxTake.j1 kj10 t624 t625 true a0_0 l0_1 t620 t621 t632 t633))))) = some r := by rw [if_pos rfl] at H; exact H
            clear H
            have H := H1
            clear H1
            replace H := Option.bind_eq_some_iff.mp H
            obtain ⟨⟨t645, t646⟩, A680, H⟩ := H
            replace H : (if t645 < 0 then (laws_FnExactBoxTake.j1 kj10 t624 t625 true a0_0 l0_1 t620 t621 t632 t633) else ((laws_eqBox.f kj10 t632 t633 t620 t621).bind fun t647 => (if t647 = true then (if t636 = t624 then (laws_FnExactBoxTake.j1 kj10 t624 t625 (t637 != t625) a0_0 l0_1 t620 t621 t632 t633) else (laws_FnExactBoxTake.j1 kj10 t624 t625 true a0_0 l0_1 t620 t621 t632 t633)) else (laws_FnExactBoxTake.j1 kj10 t624 t625 true a0_0 l0_1 t620 t621 t632 t633)))) = some r := H
            have A68 := Aside0.mk A680
            clear A680
            have HC69 := Aside0.mk H
            clear H
            try go_wp2
            have n0_ := Aside0.mk (Kd.R_drew HO_627001.out)
            have n1_ := Aside0.mk (Kd.R_drew HO_632001.out)
            have n2_ := Aside0.mk (Kd.R_drew HO_639001.out)
            have n3_ := Aside0.mk (blk_drew BK614.out)
            have n4_ := Aside0.mk (blk_drew BK626.out)
            have n5_ := Aside0.mk (blk_drew BK631.out)
            have n6_ := Aside0.mk (blk_drew BK638.out)
            have n7_ := Aside0.mk (below_drew1 HB.out)
            clear HO_627001
            clear HO_632001
            clear HO_639001
            clear BK614
            clear BK626
            clear BK631
            clear BK638
            clear HB
            have HO_627001 := n0_
            have HO_632001 := n1_
            have HO_639001 := n2_
            have BK614 := n3_
            have BK626 := n4_
            have BK631 := n5_
            have BK638 := n6_
            have HB := n7_
            clear n0_ n1_ n2_ n3_ n4_ n5_ n6_ n7_
            refine start_ (n := 5) (S := fun w' => w'.cell? ⟨gb631, 0, none⟩ = some (.int .i64 t627) ∧ w'.cell? ⟨gb631, 1, none⟩ = some (.slice Ao29 t628.length co29) ∧ w'.cell? ⟨gb614, 0, none⟩ = some (.int .i64 a0_0) ∧ w'.cell? ⟨gb614, 1, none⟩ = some (.slice A0_1 l0_1.length c0_1)) (ds := []) #[false, false, false, false, false] (by kernel_rfl) rfl rfl ⟨(blk_cell BK631.out 0).trans rfl, (blk_cell BK631.out 1).trans rfl, (blk_cell BK614.out 0).trans rfl, (blk_cell BK614.out 1).trans rfl⟩ (fun hHeld => ?_)
            generalize wc.drew = w70 at HO_627001 HO_632001 HO_639001 BK614 BK626 BK631 BK638 HB hHeld ⊢
            refine take_ (i := 0) (N := some 51) (v := ?_) (a' := ?_) #[true, false, false, false, false] rfl rfl (by kernel_rfl) (fun _ _ _ h => h) (Or.inl ⟨by rfl, ?_⟩) hHeld ?_ ?_
            rotate_left
            · rintro w' ⟨s0, s1, s2, s3⟩
              go_simp
              with_reducible rfl
            rotate_left
            · simp only [Act.put, List.setIfInBounds_toArray, List.set_cons_zero, List.set_cons_succ, i64_w, i32_w]
              rfl
            refine take_ (i := 1) (N := some 52) (v := ?_) (a' := ?_) #[true, true, false, false, false] rfl rfl (by kernel_rfl) (fun _ _ _ h => h) (Or.inl ⟨by rfl, ?_⟩) hHeld ?_ ?_
            rotate_left
            · rintro w' ⟨s0, s1, s2, s3⟩
              go_simp
              with_reducible rfl
            rotate_left
            · simp only [Act.put, List.setIfInBounds_toArray, List.set_cons_zero, List.set_cons_succ, i64_w, i32_w]
              rfl
            refine one_ (i := 2) (N := some 53) #[true, true, true, false, false] rfl rfl (by kernel_rfl) (by decide) (fun K hK => ?_)
            refine goes_ Try.func27 (by kernel_rfl) rfl #[.agg #[.int .i64 a0_0, .slice A0_1 l0_1.length c0_1]] (by rfl) rfl rfl (by (try simp only [List.map_toArray, List.map_cons, List.map_nil]); first | done | rfl | (simp only [List.length_drop, List.length_take]; rfl)) ?_
            with_reducible refine (laws_toBox.calls kj10 a0_0 _ _ l0_1 t640 t641 _ ?side1 ?side2 A65.out).mono ?_
            (case side1 => repeat (first | exact (Kd.C_below HR0_1.out HB.out) | (with_reducible refine Kd.C_alloc ?_ _) | (with_reducible refine Kd.C_drewN ?_ _) | (with_reducible refine Kd.C_drew ?_)))
            (case side2 => exact HC0_1.out)
            rintro e w71 ⟨v642, rfl, ho0, hb⟩
            refine ⟨_, rfl, ?_⟩
            have n0_ := Aside0.mk (Kd.R_elder' (by (with_reducible repeat (first | apply Kd.R_alloc | apply Kd.R_drewN | apply Kd.R_drew)); exact HO_627001.out) (Kd.R_base ho0) hb)
            have n1_ := Aside0.mk (Kd.R_elder' (by (with_reducible repeat (first | apply Kd.R_alloc | apply Kd.R_drewN | apply Kd.R_drew)); exact HO_632001.out) (Kd.R_base ho0) hb)
            have n2_ := Aside0.mk (Kd.R_elder' (by (with_reducible repeat (first | apply Kd.R_alloc | apply Kd.R_drewN | apply Kd.R_drew)); exact HO_639001.out) (Kd.R_base ho0) hb)
            have n3_ := Aside0.mk (Kd.R_lower (Kd.R_new' (Kd.R_new' (Kd.R_new' ho0 (Kd.R_lt (by (with_reducible repeat (first | apply Kd.R_alloc | apply Kd.R_drewN | apply Kd.R_drew)); exact HO_627001.out))) (Kd.R_lt (by (with_reducible repeat (first | apply Kd.R_alloc | apply Kd.R_drewN | apply Kd.R_drew)); exact HO_632001.out))) (Kd.R_lt (by (with_reducible repeat (first | apply Kd.R_alloc | apply Kd.R_drewN | apply Kd.R_drew)); exact HO_639001.out))) (below_size (by repeat (first | (with_reducible first | exact HB.out | apply below_alloc | apply pw_below_drewN | apply below_drew1 | refine below_set ?_ GE614.out | refine below_set ?_ GE626.out | refine below_set ?_ GE631.out | refine below_set ?_ GE638.out) | exact HB.out))))
            have n4_ := Aside0.mk (blk_below (g := gb614) (o := .cells #[.int .i64 a0_0, .slice A0_1 l0_1.length c0_1] 39 (0, 0)) (by (with_reducible repeat (first | refine blk_drewN ?_ _ | refine blk_drew ?_ | refine blk_alloc ?_ _)); exact BK614.out) hb)
            have n5_ := Aside0.mk (blk_below (g := gb626) (o := .cells #[.int .i64 t620, .slice Ao22 t621.length co22] 33 (0, 0)) (by (with_reducible repeat (first | refine blk_drewN ?_ _ | refine blk_drew ?_ | refine blk_alloc ?_ _)); exact BK626.out) hb)
            have n6_ := Aside0.mk (blk_below (g := gb631) (o := .cells #[.int .i64 t627, .slice Ao29 t628.length co29] 33 (0, 0)) (by (with_reducible repeat (first | refine blk_drewN ?_ _ | refine blk_drew ?_ | refine blk_alloc ?_ _)); exact BK631.out) hb)
            have n7_ := Aside0.mk (blk_below (g := gb638) (o := .cells #[.int .i64 t632, .slice Ao36 t633.length co36] 33 (0, 0)) (by (with_reducible repeat (first | refine blk_drewN ?_ _ | refine blk_drew ?_ | refine blk_alloc ?_ _)); exact BK638.out) hb)
            have n8_ := Aside0.mk (below_step (by repeat (first | (with_reducible first | exact HB.out | apply below_alloc | apply pw_below_drewN | apply below_drew1 | refine below_set ?_ GE614.out | refine below_set ?_ GE626.out | refine below_set ?_ GE631.out | refine below_set ?_ GE638.out) | exact HB.out)) hb)
            clear HO_627001
            clear HO_632001
            clear HO_639001
            clear BK614
            clear BK626
            clear BK631
            clear BK638
            clear HB
            have HO_627001 := n0_
            have HO_632001 := n1_
            have HO_639001 := n2_
            have HO643 := n3_
            have BK614 := n4_
            have BK626 := n5_
            have BK631 := n6_
            have BK638 := n7_
            have HB := n8_
            clear n0_ n1_ n2_ n3_ n4_ n5_ n6_ n7_ n8_
            (try clear hb)
            (try clear hb2)
            (try clear hk)
            (try clear hi)
            (try clear ho0)
            obtain ⟨Ao72, co72, eo72⟩ := Kd.R_slice HO643.out
            (first | subst eo72 | (injection eo72 with f1_ f2_ f3_; have f4_ := f1_.symm; have f5_ := f3_.symm; clear f1_ f2_ f3_; subst f4_; subst f5_))
            refine hK.out _ _ ⟨(blk_cell BK631.out 0).trans rfl, (blk_cell BK631.out 1).trans rfl, (blk_cell BK614.out 0).trans rfl, (blk_cell BK614.out 1).trans rfl⟩ (fun hHeld => ?_)
            clear hK K
            refine norm_ (a' := ?_) ?_ ?_
            rotate_left
            · show Act.put _ (some 53) _ = _
              simp only [Act.put, List.setIfInBounds_toArray, List.set_cons_zero, List.set_cons_succ, i64_w, i32_w]
              rfl
            refine one_ (i := 3) (N := some 54) #[true, true, true, true, false] rfl rfl (by kernel_rfl) (by decide) (fun K hK => ?_)
            refine goes_ Try.func29 (by kernel_rfl) rfl #[.agg #[.int .i64 t627, .slice Ao29 t628.length co29], .agg #[.int .i64 t640, .slice Ao72 t641.length co72]] (by rfl) rfl rfl (by (try simp only [List.map_toArray, List.map_cons, List.map_nil]); first | done | rfl | (simp only [List.length_drop, List.length_take]; rfl)) ?_
            with_reducible refine (laws_eqBox.calls kj10 t627 _ _ t628 t640 _ _ t641 true _ ?side1 ?side2 ?side3 ?side4 A66.out).mono ?_
            (case side1 => repeat (first | exact (Kd.R_reads' HO_632001.out).2.2 | (with_reducible refine Kd.C_alloc ?_ _) | (with_reducible refine Kd.C_drewN ?_ _) | (with_reducible refine Kd.C_drew ?_)))
            (case side2 => exact (Kd.R_reads' HO_632001.out).2.1)
            (case side3 => repeat (first | exact (Kd.R_reads' HO643.out).2.2 | (with_reducible refine Kd.C_alloc ?_ _) | (with_reducible refine Kd.C_drewN ?_ _) | (with_reducible refine Kd.C_drew ?_)))
            (case side4 => exact (Kd.R_reads' HO643.out).2.1)
            rintro e w73 ⟨rfl, hb⟩
            refine ⟨_, rfl, ?_⟩
            have n0_ := Aside0.mk (Kd.R_below (by (with_reducible repeat (first | apply Kd.R_alloc | apply Kd.R_drewN | apply Kd.R_drew)); exact HO_627001.out) hb)
            have n1_ := Aside0.mk (Kd.R_below (by (with_reducible repeat (first | apply Kd.R_alloc | apply Kd.R_drewN | apply Kd.R_drew)); exact HO_632001.out) hb)
            have n2_ := Aside0.mk (Kd.R_below (by (with_reducible repeat (first | apply Kd.R_alloc | apply Kd.R_drewN | apply Kd.R_drew)); exact HO_639001.out) hb)
            have n3_ := Aside0.mk (Kd.R_below (by (with_reducible repeat (first | apply Kd.R_alloc | apply Kd.R_drewN | apply Kd.R_drew)); exact HO643.out) hb)
            have n4_ := Aside0.mk (blk_below (g := gb614) (o := .cells #[.int .i64 a0_0, .slice A0_1 l0_1.length c0_1] 39 (0, 0)) (by (with_reducible repeat (first | refine blk_drewN ?_ _ | refine blk_drew ?_ | refine blk_alloc ?_ _)); exact BK614.out) hb)
            have n5_ := Aside0.mk (blk_below (g := gb626) (o := .cells #[.int .i64 t620, .slice Ao22 t621.length co22] 33 (0, 0)) (by (with_reducible repeat (first | refine blk_drewN ?_ _ | refine blk_drew ?_ | refine blk_alloc ?_ _)); exact BK626.out) hb)
            have n6_ := Aside0.mk (blk_below (g := gb631) (o := .cells #[.int .i64 t627, .slice Ao29 t628.length co29] 33 (0, 0)) (by (with_reducible repeat (first | refine blk_drewN ?_ _ | refine blk_drew ?_ | refine blk_alloc ?_ _)); exact BK631.out) hb)
            have n7_ := Aside0.mk (blk_below (g := gb638) (o := .cells #[.int .i64 t632, .slice Ao36 t633.length co36] 33 (0, 0)) (by (with_reducible repeat (first | refine blk_drewN ?_ _ | refine blk_drew ?_ | refine blk_alloc ?_ _)); exact BK638.out) hb)
            have n8_ := Aside0.mk (below_step (by repeat (first | (with_reducible first | exact HB.out | apply below_alloc | apply pw_below_drewN | apply below_drew1 | refine below_set ?_ GE614.out | refine below_set ?_ GE626.out | refine below_set ?_ GE631.out | refine below_set ?_ GE638.out) | exact HB.out)) hb)
            clear HO_627001
            clear HO_632001
            clear HO_639001
            clear HO643
            clear BK614
            clear BK626
            clear BK631
            clear BK638
            clear HB
            have HO_627001 := n0_
            have HO_632001 := n1_
            have HO_639001 := n2_
            have HO643 := n3_
            have BK614 := n4_
            have BK626 := n5_
            have BK631 := n6_
            have BK638 := n7_
            have HB := n8_
            clear n0_ n1_ n2_ n3_ n4_ n5_ n6_ n7_ n8_
            (try clear hb)
            (try clear hb2)
            (try clear hk)
            (try clear hi)
            refine hK.out _ _ ⟨(blk_cell BK631.out 0).trans rfl, (blk_cell BK631.out 1).trans rfl, (blk_cell BK614.out 0).trans rfl, (blk_cell BK614.out 1).trans rfl⟩ (fun hHeld => ?_)
            clear hK K
            refine norm_ (a' := ?_) ?_ ?_
            rotate_left
            · show Act.put _ (some 54) _ = _
              simp only [Act.put, List.setIfInBounds_toArray, List.set_cons_zero, List.set_cons_succ, i64_w, i32_w]
              rfl
            refine pure_ (i := 4) (N := some 55) (v := ?_) (a' := ?_) #[true, true, true, true, true] rfl rfl (by kernel_rfl) (fun _ _ _ h => h) (Or.inl ⟨by rfl, ?_⟩) ?_ ?_
            rotate_left
            · intro w'
              go_simp
              with_reducible rfl
            rotate_left
            · simp only [Act.put, List.setIfInBounds_toArray, List.set_cons_zero, List.set_cons_succ, i64_w, i32_w]
              rfl
            refine done_ (by kernel_rfl) ?_
            have hnb74 := NB631_614.out
            have hnc74 := NB614_631.out
            have hnb75 := NB631_626.out
            have hnc75 := NB626_631.out
            have hnb76 := NB631_638.out
            have hnc76 := NB638_631.out
            have hcz77_0 : w73.cell? ⟨gb631, 0, none⟩ = some (.int .i64 t627) := (blk_cell BK631.out 0).trans rfl
            have hcz77_1 : w73.cell? ⟨gb631, 1, none⟩ = some (.slice Ao29 t628.length co29) := (blk_cell BK631.out 1).trans rfl
            have hfz77_0 := blk_frozen BK631.out 0
            have hfz77_1 := blk_frozen BK631.out 1
            go_upto_region 14 with (first | ((with_reducible refine gate_callee (f := 39) rfl ?_); refine goesL_ (some 58) rfl rfl Try.func39 (by kernel_rfl) rfl #[.agg #[.int .i64 t627, .slice Ao29 t628.length co29], .int .i64 1] rfl (by (try simp only [List.map_toArray, List.map_cons, List.map_nil]); first | done | rfl | (simp only [List.length_drop, List.length_take]; rfl)) ?_; (with_reducible refine (laws_markBox.calls kj10 t627 (fun k_ => some k_ = (.slice Ao29 t628.length co29 : Value).ownBlock) (.slice Ao29 t628.length co29) t628 1 t645 t646 w _ ?side1 ?side2 A68.out).mono ?_); (case side1 => repeat (first | (with_reducible first | exact HB.out | apply below_alloc | apply pw_below_drewN | apply below_drew1 | refine below_set ?_ GE614.out | refine below_set ?_ GE626.out | refine below_set ?_ GE631.out | refine below_set ?_ GE638.out) | exact HB.out)); (case side2 => exact Kd.R_tight rfl HO_632001.out); rintro e w78 ⟨rfl, hy0, hb, hkp⟩; refine ⟨_, rfl, ?_⟩; have n0_ := Aside0.mk (Kd.R_mono (ok' := fun k_ => some k_ ≠ (.slice Ao29 t628.length co29 : Value).ownBlock ∧ some k_ ≠ (.slice Ao36 t633.length co36 : Value).ownBlock ∧ some k_ ≠ (.slice Ao72 t641.length co72 : Value).ownBlock) (Kd.R_keptB (HO_627001.out) hkp (fun k_ hk_ hs_ => (hk_.1.1) hs_)) (fun k_ hk_ => ⟨hk_.1.1.1, hk_.1.1.2, hk_.1.2⟩)); have n1_ := Aside0.mk (Kd.R_reok rfl hy0 (fun k_ e_ => HO_632001.out.1 k_ e_)); have n2_ := Aside0.mk (Kd.R_mono (ok' := fun k_ => some k_ ≠ (.slice Ao22 t621.length co22 : Value).ownBlock ∧ some k_ ≠ (.slice Ao29 t628.length co29 : Value).ownBlock ∧ some k_ ≠ (.slice Ao72 t641.length co72 : Value).ownBlock) (Kd.R_keptB (HO_639001.out) hkp (fun k_ hk_ hs_ => (hk_.1.2) hs_)) (fun k_ hk_ => ⟨hk_.1.1.1, hk_.1.1.2, hk_.1.2⟩)); have n3_ := Aside0.mk (blk_kept (by (with_reducible repeat (first | refine blk_drewN ?_ _ | refine blk_drew ?_ | refine blk_alloc ?_ _)); exact BK614.out) hkp (fun hs_ => (fun e_ => (Kd.R_ne HO_632001.out BK614.out (by decide)) e_) hs_)); have n4_ := Aside0.mk (blk_kept (by (with_reducible repeat (first | refine blk_drewN ?_ _ | refine blk_drew ?_ | refine blk_alloc ?_ _)); exact BK626.out) hkp (fun hs_ => (fun e_ => (Kd.R_ne HO_632001.out BK626.out (by decide)) e_) hs_)); have n5_ := Aside0.mk (blk_kept (by (with_reducible repeat (first | refine blk_drewN ?_ _ | refine blk_drew ?_ | refine blk_alloc ?_ _)); exact BK631.out) hkp (fun hs_ => (fun e_ => (Kd.R_ne HO_632001.out BK631.out (by decide)) e_) hs_)); have n6_ := Aside0.mk (blk_kept (by (with_reducible repeat (first | refine blk_drewN ?_ _ | refine blk_drew ?_ | refine blk_alloc ?_ _)); exact BK638.out) hkp (fun hs_ => (fun e_ => (Kd.R_ne HO_632001.out BK638.out (by decide)) e_) hs_)); have n7_ := Aside0.mk (Kd.R_mono (ok' := fun k_ => some k_ ≠ (.slice Ao22 t621.length co22 : Value).ownBlock ∧ some k_ ≠ (.slice Ao29 t628.length co29 : Value).ownBlock ∧ some k_ ≠ (.slice Ao36 t633.length co36 : Value).ownBlock) (Kd.R_keptB (HO643.out) hkp (fun k_ hk_ hs_ => (hk_.1.2) hs_)) (fun k_ hk_ => ⟨hk_.1.1.1.2, hk_.1.1.2, hk_.1.2⟩)); have n8_ := Aside0.mk (hb); clear HO_627001; clear HO_632001; clear HO_639001; clear BK614; clear BK626; clear BK631; clear BK638; clear HO643; clear HB; have HO_627001 := n0_; have HO_632001 := n1_; have HO_639001 := n2_; have BK614 := n3_; have BK626 := n4_; have BK631 := n5_; have BK638 := n6_; have HO643 := n7_; have HB := n8_; clear n0_ n1_ n2_ n3_ n4_ n5_ n6_ n7_ n8_; (try clear hb); (try clear hkp); (try clear hy0)))
            (try simp only [Act.put, List.setIfInBounds_toArray, List.set_cons_zero, List.set_cons_succ])
            go_cut [76] (fun v76 wc => ∃ (kq : Nat) (x76_68 : Bool), v76 = .bool x76_68 ∧ Aside0 (laws_FnExactBoxTake.j1 kq t624 t625 x76_68 a0_0 l0_1 t620 t621 t632 t633 = some r) ∧ Aside0 (kq ≤ kj10) ∧ Aside0 (Kd.R (Kd.int .i64) 3 wc w.heap.size (fun k_ => some k_ ≠ ((.slice Ao29 t628.length co29) : Value).ownBlock ∧ some k_ ≠ ((.slice Ao36 t633.length co36) : Value).ownBlock) (.slice Ao22 t621.length co22) t621) ∧ Aside0 (Kd.R (Kd.int .i64) 3 wc w.heap.size (fun k_ => some k_ ≠ ((.slice Ao22 t621.length co22) : Value).ownBlock ∧ some k_ ≠ ((.slice Ao36 t633.length co36) : Value).ownBlock) (.slice Ao29 t628.length co29) t646) ∧ Aside0 (Kd.R (Kd.int .i64) 3 wc w.heap.size (fun k_ => some k_ ≠ ((.slice Ao22 t621.length co22) : Value).ownBlock ∧ some k_ ≠ ((.slice Ao29 t628.length co29) : Value).ownBlock) (.slice Ao36 t633.length co36) t633) ∧ Aside0 (wc.heap[gb614]? = some (.cells #[.int .i64 a0_0, (.slice A0_1 l0_1.length c0_1)] 39 (0, 0))) ∧ Aside0 (wc.heap[gb626]? = some (.cells #[.int .i64 t620, (.slice Ao22 t621.length co22)] 33 (0, 0))) ∧ Aside0 (wc.heap[gb631]? = some (.cells #[.int .i64 t627, (.slice Ao29 t628.length co29)] 33 (0, 0))) ∧ Aside0 (wc.heap[gb638]? = some (.cells #[.int .i64 t632, (.slice Ao36 t633.length co36)] 33 (0, 0))) ∧ Aside0 (Below w.heap.size w wc))
            case first =>
              have H := HC69.out
              clear HC69
              by_cases c79 : t645 < 0
              · rw [if_pos c79] at H
                have c79b0 : decide (t645 < 0) = true := decide_eq_true c79
                clear c79
                (first | rw [c79b0] | (simp only [i64_w, i32_w]; rw [c79b0]) | skip)
                have H' := Aside0.mk H
                clear H
                go_wp2
                go_meet
                case rel => exact ⟨_, (true), (by first | rfl | (simp; done) | (simp [*]; done)), H', ⟨by have := HJ10.out; first | omega | exact Nat.le_refl _⟩, ⟨by (with_reducible repeat (first | apply Kd.R_alloc | apply Kd.R_drewN | apply Kd.R_drew)); exact Kd.R_mono HO_627001.out (fun _ hk => ⟨hk.1, hk.2.1⟩)⟩, ⟨by (with_reducible repeat (first | apply Kd.R_alloc | apply Kd.R_drewN | apply Kd.R_drew)); exact Kd.R_mono HO_632001.out (fun _ hk => ⟨hk.1.1, hk.1.2⟩)⟩, ⟨by (with_reducible repeat (first | apply Kd.R_alloc | apply Kd.R_drewN | apply Kd.R_drew)); exact Kd.R_mono HO_639001.out (fun _ hk => ⟨hk.1, hk.2.1⟩)⟩, ⟨by (with_reducible repeat (first | refine blk_drewN ?_ _ | refine blk_drew ?_ | refine blk_alloc ?_ _)); exact BK614.out⟩, ⟨by (with_reducible repeat (first | refine blk_drewN ?_ _ | refine blk_drew ?_ | refine blk_alloc ?_ _)); exact BK626.out⟩, ⟨by (with_reducible repeat (first | refine blk_drewN ?_ _ | refine blk_drew ?_ | refine blk_alloc ?_ _)); exact BK631.out⟩, ⟨by (with_reducible repeat (first | refine blk_drewN ?_ _ | refine blk_drew ?_ | refine blk_alloc ?_ _)); exact BK638.out⟩, ⟨by repeat (first | (with_reducible first | exact HB.out | apply below_alloc | apply pw_below_drewN | apply below_drew1 | refine below_set ?_ GE614.out | refine below_set ?_ GE626.out | refine below_set ?_ GE631.out | refine below_set ?_ GE638.out) | exact HB.out)⟩⟩
              · rw [if_neg c79] at H
                have c79b0 : decide (t645 < 0) = false := decide_eq_false c79
                clear c79
                (first | rw [c79b0] | (simp only [i64_w, i32_w]; rw [c79b0]) | skip)
                replace H := Option.bind_eq_some_iff.mp H
                obtain ⟨t647, A800, H⟩ := H
                replace H : (if t647 = true then (if t636 = t624 then (laws_FnExactBoxTake.j1 kj10 t624 t625 (t637 != t625) a0_0 l0_1 t620 t621 t632 t633) else (laws_FnExactBoxTake.j1 kj10 t624 t625 true a0_0 l0_1 t620 t621 t632 t633)) else (laws_FnExactBoxTake.j1 kj10 t624 t625 true a0_0 l0_1 t620 t621 t632 t633)) = some r := H
                have A80 := Aside0.mk A800
                clear A800
                by_cases c81 : t647 = true
                · subst c81
                  have H1 : (if t636 = t624 then (laws_FnExactBoxTake.j1 kj10 t624 t625 (t637 != t625) a0_0 l0_1 t620 t621 t632 t633) else (laws_FnExactBoxTake.j1 kj10 t624 t625 true a0_0 l0_1 t620 t621 t632 t633)) = some r := by rw [if_pos rfl] at H; exact H
                  clear H
                  have H := H1
                  clear H1
                  by_cases c82 : t636 = t624
                  · rw [if_pos c82] at H
                    have c82b0 : (t636 == t624) = true := beq_iff_eq.mpr c82
                    have c82b1 : (t636 != t624) = false := bne_eq_false_iff_eq.mpr c82
                    clear c82
                    have H' := Aside0.mk H
                    clear H
                    have hnb83 := NB638_614.out
                    have hnc83 := NB614_638.out
                    have hnb84 := NB638_626.out
                    have hnc84 := NB626_638.out
                    have hnb85 := NB638_631.out
                    have hnc85 := NB631_638.out
                    have hcz86_0 : w78.cell? ⟨gb638, 0, none⟩ = some (.int .i64 t632) := (blk_cell BK638.out 0).trans rfl
                    have hcz86_1 : w78.cell? ⟨gb638, 1, none⟩ = some (.slice Ao36 t633.length co36) := (blk_cell BK638.out 1).trans rfl
                    have hfz86_0 := blk_frozen BK638.out 0
                    have hfz86_1 := blk_frozen BK638.out 1
                    have hnb87 := NB626_614.out
                    have hnc87 := NB614_626.out
                    have hnb88 := NB626_631.out
                    have hnc88 := NB631_626.out
                    have hcz89_0 : w78.cell? ⟨gb626, 0, none⟩ = some (.int .i64 t620) := (blk_cell BK626.out 0).trans rfl
                    have hcz89_1 : w78.cell? ⟨gb626, 1, none⟩ = some (.slice Ao22 t621.length co22) := (blk_cell BK626.out 1).trans rfl
                    have hfz89_0 := blk_frozen BK626.out 0
                    have hfz89_1 := blk_frozen BK626.out 1
                    go_wp2_with (first | (go_at_call 29; (with_reducible refine (laws_eqBox.calls kj10 t632 _ _ t633 t620 _ _ t621 true _ ?side1 ?side2 ?side3 ?side4 A80.out).mono ?_); (case side1 => repeat (first | exact (Kd.R_reads' HO_639001.out).2.2 | (with_reducible refine Kd.C_alloc ?_ _) | (with_reducible refine Kd.C_drewN ?_ _) | (with_reducible refine Kd.C_drew ?_))); (case side2 => exact (Kd.R_reads' HO_639001.out).2.1); (case side3 => repeat (first | exact (Kd.R_reads' HO_627001.out).2.2 | (with_reducible refine Kd.C_alloc ?_ _) | (with_reducible refine Kd.C_drewN ?_ _) | (with_reducible refine Kd.C_drew ?_))); (case side4 => exact (Kd.R_reads' HO_627001.out).2.1); rintro e w90 ⟨rfl, hb⟩; have n0_ := Aside0.mk (Kd.R_below (by (with_reducible repeat (first | apply Kd.R_alloc | apply Kd.R_drewN | apply Kd.R_drew)); exact HO_627001.out) hb); have n1_ := Aside0.mk (Kd.R_below (by (with_reducible repeat (first | apply Kd.R_alloc | apply Kd.R_drewN | apply Kd.R_drew)); exact HO_632001.out) hb); have n2_ := Aside0.mk (Kd.R_below (by (with_reducible repeat (first | apply Kd.R_alloc | apply Kd.R_drewN | apply Kd.R_drew)); exact HO_639001.out) hb); have n3_ := Aside0.mk (Kd.R_below (by (with_reducible repeat (first | apply Kd.R_alloc | apply Kd.R_drewN | apply Kd.R_drew)); exact HO643.out) hb); have n4_ := Aside0.mk (blk_below (g := gb614) (o := .cells #[.int .i64 a0_0, .slice A0_1 l0_1.length c0_1] 39 (0, 0)) (by (with_reducible repeat (first | refine blk_drewN ?_ _ | refine blk_drew ?_ | refine blk_alloc ?_ _)); exact BK614.out) hb); have n5_ := Aside0.mk (blk_below (g := gb626) (o := .cells #[.int .i64 t620, .slice Ao22 t621.length co22] 33 (0, 0)) (by (with_reducible repeat (first | refine blk_drewN ?_ _ | refine blk_drew ?_ | refine blk_alloc ?_ _)); exact BK626.out) hb); have n6_ := Aside0.mk (blk_below (g := gb631) (o := .cells #[.int .i64 t627, .slice Ao29 t628.length co29] 33 (0, 0)) (by (with_reducible repeat (first | refine blk_drewN ?_ _ | refine blk_drew ?_ | refine blk_alloc ?_ _)); exact BK631.out) hb); have n7_ := Aside0.mk (blk_below (g := gb638) (o := .cells #[.int .i64 t632, .slice Ao36 t633.length co36] 33 (0, 0)) (by (with_reducible repeat (first | refine blk_drewN ?_ _ | refine blk_drew ?_ | refine blk_alloc ?_ _)); exact BK638.out) hb); have n8_ := Aside0.mk (below_step (by repeat (first | (with_reducible first | exact HB.out | apply below_alloc | apply pw_below_drewN | apply below_drew1 | refine below_set ?_ GE614.out | refine below_set ?_ GE626.out | refine below_set ?_ GE631.out | refine below_set ?_ GE638.out) | exact HB.out)) hb); clear HO_627001; clear HO_632001; clear HO_639001; clear HO643; clear BK614; clear BK626; clear BK631; clear BK638; clear HB; have HO_627001 := n0_; have HO_632001 := n1_; have HO_639001 := n2_; have HO643 := n3_; have BK614 := n4_; have BK626 := n5_; have BK631 := n6_; have BK638 := n7_; have HB := n8_; clear n0_ n1_ n2_ n3_ n4_ n5_ n6_ n7_ n8_; (try clear hb); (try clear hb2); (try clear hk); (try clear hi)))
                    go_meet
                    case rel => exact ⟨_, ((t637 != t625)), (by first | rfl | (simp; done) | (simp [*]; done)), H', ⟨by have := HJ10.out; first | omega | exact Nat.le_refl _⟩, ⟨by (with_reducible repeat (first | apply Kd.R_alloc | apply Kd.R_drewN | apply Kd.R_drew)); exact Kd.R_mono HO_627001.out (fun _ hk => ⟨hk.1, hk.2.1⟩)⟩, ⟨by (with_reducible repeat (first | apply Kd.R_alloc | apply Kd.R_drewN | apply Kd.R_drew)); exact Kd.R_mono HO_632001.out (fun _ hk => ⟨hk.1.1, hk.1.2⟩)⟩, ⟨by (with_reducible repeat (first | apply Kd.R_alloc | apply Kd.R_drewN | apply Kd.R_drew)); exact Kd.R_mono HO_639001.out (fun _ hk => ⟨hk.1, hk.2.1⟩)⟩, ⟨by (with_reducible repeat (first | refine blk_drewN ?_ _ | refine blk_drew ?_ | refine blk_alloc ?_ _)); exact BK614.out⟩, ⟨by (with_reducible repeat (first | refine blk_drewN ?_ _ | refine blk_drew ?_ | refine blk_alloc ?_ _)); exact BK626.out⟩, ⟨by (with_reducible repeat (first | refine blk_drewN ?_ _ | refine blk_drew ?_ | refine blk_alloc ?_ _)); exact BK631.out⟩, ⟨by (with_reducible repeat (first | refine blk_drewN ?_ _ | refine blk_drew ?_ | refine blk_alloc ?_ _)); exact BK638.out⟩, ⟨by repeat (first | (with_reducible first | exact HB.out | apply below_alloc | apply pw_below_drewN | apply below_drew1 | refine below_set ?_ GE614.out | refine below_set ?_ GE626.out | refine below_set ?_ GE631.out | refine below_set ?_ GE638.out) | exact HB.out)⟩⟩
                  · rw [if_neg c82] at H
                    have c82b0 : (t636 == t624) = false := beq_eq_false_iff_ne.mpr c82
                    have c82b1 : (t636 != t624) = true := bne_iff_ne.mpr c82
                    have H' := Aside0.mk H
                    clear H
                    have hnb91 := NB638_614.out
                    have hnc91 := NB614_638.out
                    have hnb92 := NB638_626.out
                    have hnc92 := NB626_638.out
                    have hnb93 := NB638_631.out
                    have hnc93 := NB631_638.out
                    have hcz94_0 : w78.cell? ⟨gb638, 0, none⟩ = some (.int .i64 t632) := (blk_cell BK638.out 0).trans rfl
                    have hcz94_1 : w78.cell? ⟨gb638, 1, none⟩ = some (.slice Ao36 t633.length co36) := (blk_cell BK638.out 1).trans rfl
                    have hfz94_0 := blk_frozen BK638.out 0
                    have hfz94_1 := blk_frozen BK638.out 1
                    have hnb95 := NB626_614.out
                    have hnc95 := NB614_626.out
                    have hnb96 := NB626_631.out
                    have hnc96 := NB631_626.out
                    have hcz97_0 : w78.cell? ⟨gb626, 0, none⟩ = some (.int .i64 t620) := (blk_cell BK626.out 0).trans rfl
                    have hcz97_1 : w78.cell? ⟨gb626, 1, none⟩ = some (.slice Ao22 t621.length co22) := (blk_cell BK626.out 1).trans rfl
                    have hfz97_0 := blk_frozen BK626.out 0
                    have hfz97_1 := blk_frozen BK626.out 1
                    go_wp2_with (first | (go_at_call 29; (with_reducible refine (laws_eqBox.calls kj10 t632 _ _ t633 t620 _ _ t621 true _ ?side1 ?side2 ?side3 ?side4 A80.out).mono ?_); (case side1 => repeat (first | exact (Kd.R_reads' HO_639001.out).2.2 | (with_reducible refine Kd.C_alloc ?_ _) | (with_reducible refine Kd.C_drewN ?_ _) | (with_reducible refine Kd.C_drew ?_))); (case side2 => exact (Kd.R_reads' HO_639001.out).2.1); (case side3 => repeat (first | exact (Kd.R_reads' HO_627001.out).2.2 | (with_reducible refine Kd.C_alloc ?_ _) | (with_reducible refine Kd.C_drewN ?_ _) | (with_reducible refine Kd.C_drew ?_))); (case side4 => exact (Kd.R_reads' HO_627001.out).2.1); rintro e w98 ⟨rfl, hb⟩; have n0_ := Aside0.mk (Kd.R_below (by (with_reducible repeat (first | apply Kd.R_alloc | apply Kd.R_drewN | apply Kd.R_drew)); exact HO_627001.out) hb); have n1_ := Aside0.mk (Kd.R_below (by (with_reducible repeat (first | apply Kd.R_alloc | apply Kd.R_drewN | apply Kd.R_drew)); exact HO_632001.out) hb); have n2_ := Aside0.mk (Kd.R_below (by (with_reducible repeat (first | apply Kd.R_alloc | apply Kd.R_drewN | apply Kd.R_drew)); exact HO_639001.out) hb); have n3_ := Aside0.mk (Kd.R_below (by (with_reducible repeat (first | apply Kd.R_alloc | apply Kd.R_drewN | apply Kd.R_drew)); exact HO643.out) hb); have n4_ := Aside0.mk (blk_below (g := gb614) (o := .cells #[.int .i64 a0_0, .slice A0_1 l0_1.length c0_1] 39 (0, 0)) (by (with_reducible repeat (first | refine blk_drewN ?_ _ | refine blk_drew ?_ | refine blk_alloc ?_ _)); exact BK614.out) hb); have n5_ := Aside0.mk (blk_below (g := gb626) (o := .cells #[.int .i64 t620, .slice Ao22 t621.length co22] 33 (0, 0)) (by (with_reducible repeat (first | refine blk_drewN ?_ _ | refine blk_drew ?_ | refine blk_alloc ?_ _)); exact BK626.out) hb); have n6_ := Aside0.mk (blk_below (g := gb631) (o := .cells #[.int .i64 t627, .slice Ao29 t628.length co29] 33 (0, 0)) (by (with_reducible repeat (first | refine blk_drewN ?_ _ | refine blk_drew ?_ | refine blk_alloc ?_ _)); exact BK631.out) hb); have n7_ := Aside0.mk (blk_below (g := gb638) (o := .cells #[.int .i64 t632, .slice Ao36 t633.length co36] 33 (0, 0)) (by (with_reducible repeat (first | refine blk_drewN ?_ _ | refine blk_drew ?_ | refine blk_alloc ?_ _)); exact BK638.out) hb); have n8_ := Aside0.mk (below_step (by repeat (first | (with_reducible first | exact HB.out | apply below_alloc | apply pw_below_drewN | apply below_drew1 | refine below_set ?_ GE614.out | refine below_set ?_ GE626.out | refine below_set ?_ GE631.out | refine below_set ?_ GE638.out) | exact HB.out)) hb); clear HO_627001; clear HO_632001; clear HO_639001; clear HO643; clear BK614; clear BK626; clear BK631; clear BK638; clear HB; have HO_627001 := n0_; have HO_632001 := n1_; have HO_639001 := n2_; have HO643 := n3_; have BK614 := n4_; have BK626 := n5_; have BK631 := n6_; have BK638 := n7_; have HB := n8_; clear n0_ n1_ n2_ n3_ n4_ n5_ n6_ n7_ n8_; (try clear hb); (try clear hb2); (try clear hk); (try clear hi)))
                    go_meet
                    case rel => exact ⟨_, (true), (by first | rfl | (simp; done) | (simp [*]; done)), H', ⟨by have := HJ10.out; first | omega | exact Nat.le_refl _⟩, ⟨by (with_reducible repeat (first | apply Kd.R_alloc | apply Kd.R_drewN | apply Kd.R_drew)); exact Kd.R_mono HO_627001.out (fun _ hk => ⟨hk.1, hk.2.1⟩)⟩, ⟨by (with_reducible repeat (first | apply Kd.R_alloc | apply Kd.R_drewN | apply Kd.R_drew)); exact Kd.R_mono HO_632001.out (fun _ hk => ⟨hk.1.1, hk.1.2⟩)⟩, ⟨by (with_reducible repeat (first | apply Kd.R_alloc | apply Kd.R_drewN | apply Kd.R_drew)); exact Kd.R_mono HO_639001.out (fun _ hk => ⟨hk.1, hk.2.1⟩)⟩, ⟨by (with_reducible repeat (first | refine blk_drewN ?_ _ | refine blk_drew ?_ | refine blk_alloc ?_ _)); exact BK614.out⟩, ⟨by (with_reducible repeat (first | refine blk_drewN ?_ _ | refine blk_drew ?_ | refine blk_alloc ?_ _)); exact BK626.out⟩, ⟨by (with_reducible repeat (first | refine blk_drewN ?_ _ | refine blk_drew ?_ | refine blk_alloc ?_ _)); exact BK631.out⟩, ⟨by (with_reducible repeat (first | refine blk_drewN ?_ _ | refine blk_drew ?_ | refine blk_alloc ?_ _)); exact BK638.out⟩, ⟨by repeat (first | (with_reducible first | exact HB.out | apply below_alloc | apply pw_below_drewN | apply below_drew1 | refine below_set ?_ GE614.out | refine below_set ?_ GE626.out | refine below_set ?_ GE631.out | refine below_set ?_ GE638.out) | exact HB.out)⟩⟩
                · replace c81 := Bool.eq_false_iff.mpr c81
                  subst c81
                  have H1 : (laws_FnExactBoxTake.j1 kj10 t624 t625 true a0_0 l0_1 t620 t621 t632 t633) = some r := by rw [if_neg (show ¬ (false = true) by decide)] at H; exact H
                  clear H
                  have H := H1
                  clear H1
                  have H' := Aside0.mk H
                  clear H
                  have hnb99 := NB638_614.out
                  have hnc99 := NB614_638.out
                  have hnb100 := NB638_626.out
                  have hnc100 := NB626_638.out
                  have hnb101 := NB638_631.out
                  have hnc101 := NB631_638.out
                  have hcz102_0 : w78.cell? ⟨gb638, 0, none⟩ = some (.int .i64 t632) := (blk_cell BK638.out 0).trans rfl
                  have hcz102_1 : w78.cell? ⟨gb638, 1, none⟩ = some (.slice Ao36 t633.length co36) := (blk_cell BK638.out 1).trans rfl
                  have hfz102_0 := blk_frozen BK638.out 0
                  have hfz102_1 := blk_frozen BK638.out 1
                  have hnb103 := NB626_614.out
                  have hnc103 := NB614_626.out
                  have hnb104 := NB626_631.out
                  have hnc104 := NB631_626.out
                  have hcz105_0 : w78.cell? ⟨gb626, 0, none⟩ = some (.int .i64 t620) := (blk_cell BK626.out 0).trans rfl
                  have hcz105_1 : w78.cell? ⟨gb626, 1, none⟩ = some (.slice Ao22 t621.length co22) := (blk_cell BK626.out 1).trans rfl
                  have hfz105_0 := blk_frozen BK626.out 0
                  have hfz105_1 := blk_frozen BK626.out 1
                  go_wp2_with (first | (go_at_call 29; (with_reducible refine (laws_eqBox.calls kj10 t632 _ _ t633 t620 _ _ t621 false _ ?side1 ?side2 ?side3 ?side4 A80.out).mono ?_); (case side1 => repeat (first | exact (Kd.R_reads' HO_639001.out).2.2 | (with_reducible refine Kd.C_alloc ?_ _) | (with_reducible refine Kd.C_drewN ?_ _) | (with_reducible refine Kd.C_drew ?_))); (case side2 => exact (Kd.R_reads' HO_639001.out).2.1); (case side3 => repeat (first | exact (Kd.R_reads' HO_627001.out).2.2 | (with_reducible refine Kd.C_alloc ?_ _) | (with_reducible refine Kd.C_drewN ?_ _) | (with_reducible refine Kd.C_drew ?_))); (case side4 => exact (Kd.R_reads' HO_627001.out).2.1); rintro e w106 ⟨rfl, hb⟩; have n0_ := Aside0.mk (Kd.R_below (by (with_reducible repeat (first | apply Kd.R_alloc | apply Kd.R_drewN | apply Kd.R_drew)); exact HO_627001.out) hb); have n1_ := Aside0.mk (Kd.R_below (by (with_reducible repeat (first | apply Kd.R_alloc | apply Kd.R_drewN | apply Kd.R_drew)); exact HO_632001.out) hb); have n2_ := Aside0.mk (Kd.R_below (by (with_reducible repeat (first | apply Kd.R_alloc | apply Kd.R_drewN | apply Kd.R_drew)); exact HO_639001.out) hb); have n3_ := Aside0.mk (Kd.R_below (by (with_reducible repeat (first | apply Kd.R_alloc | apply Kd.R_drewN | apply Kd.R_drew)); exact HO643.out) hb); have n4_ := Aside0.mk (blk_below (g := gb614) (o := .cells #[.int .i64 a0_0, .slice A0_1 l0_1.length c0_1] 39 (0, 0)) (by (with_reducible repeat (first | refine blk_drewN ?_ _ | refine blk_drew ?_ | refine blk_alloc ?_ _)); exact BK614.out) hb); have n5_ := Aside0.mk (blk_below (g := gb626) (o := .cells #[.int .i64 t620, .slice Ao22 t621.length co22] 33 (0, 0)) (by (with_reducible repeat (first | refine blk_drewN ?_ _ | refine blk_drew ?_ | refine blk_alloc ?_ _)); exact BK626.out) hb); have n6_ := Aside0.mk (blk_below (g := gb631) (o := .cells #[.int .i64 t627, .slice Ao29 t628.length co29] 33 (0, 0)) (by (with_reducible repeat (first | refine blk_drewN ?_ _ | refine blk_drew ?_ | refine blk_alloc ?_ _)); exact BK631.out) hb); have n7_ := Aside0.mk (blk_below (g := gb638) (o := .cells #[.int .i64 t632, .slice Ao36 t633.length co36] 33 (0, 0)) (by (with_reducible repeat (first | refine blk_drewN ?_ _ | refine blk_drew ?_ | refine blk_alloc ?_ _)); exact BK638.out) hb); have n8_ := Aside0.mk (below_step (by repeat (first | (with_reducible first | exact HB.out | apply below_alloc | apply pw_below_drewN | apply below_drew1 | refine below_set ?_ GE614.out | refine below_set ?_ GE626.out | refine below_set ?_ GE631.out | refine below_set ?_ GE638.out) | exact HB.out)) hb); clear HO_627001; clear HO_632001; clear HO_639001; clear HO643; clear BK614; clear BK626; clear BK631; clear BK638; clear HB; have HO_627001 := n0_; have HO_632001 := n1_; have HO_639001 := n2_; have HO643 := n3_; have BK614 := n4_; have BK626 := n5_; have BK631 := n6_; have BK638 := n7_; have HB := n8_; clear n0_ n1_ n2_ n3_ n4_ n5_ n6_ n7_ n8_; (try clear hb); (try clear hb2); (try clear hk); (try clear hi)))
                  go_meet
                  case rel => exact ⟨_, (true), (by first | rfl | (simp; done) | (simp [*]; done)), H', ⟨by have := HJ10.out; first | omega | exact Nat.le_refl _⟩, ⟨by (with_reducible repeat (first | apply Kd.R_alloc | apply Kd.R_drewN | apply Kd.R_drew)); exact Kd.R_mono HO_627001.out (fun _ hk => ⟨hk.1, hk.2.1⟩)⟩, ⟨by (with_reducible repeat (first | apply Kd.R_alloc | apply Kd.R_drewN | apply Kd.R_drew)); exact Kd.R_mono HO_632001.out (fun _ hk => ⟨hk.1.1, hk.1.2⟩)⟩, ⟨by (with_reducible repeat (first | apply Kd.R_alloc | apply Kd.R_drewN | apply Kd.R_drew)); exact Kd.R_mono HO_639001.out (fun _ hk => ⟨hk.1, hk.2.1⟩)⟩, ⟨by (with_reducible repeat (first | refine blk_drewN ?_ _ | refine blk_drew ?_ | refine blk_alloc ?_ _)); exact BK614.out⟩, ⟨by (with_reducible repeat (first | refine blk_drewN ?_ _ | refine blk_drew ?_ | refine blk_alloc ?_ _)); exact BK626.out⟩, ⟨by (with_reducible repeat (first | refine blk_drewN ?_ _ | refine blk_drew ?_ | refine blk_alloc ?_ _)); exact BK631.out⟩, ⟨by (with_reducible repeat (first | refine blk_drewN ?_ _ | refine blk_drew ?_ | refine blk_alloc ?_ _)); exact BK638.out⟩, ⟨by repeat (first | (with_reducible first | exact HB.out | apply below_alloc | apply pw_below_drewN | apply below_drew1 | refine below_set ?_ GE614.out | refine below_set ?_ GE626.out | refine below_set ?_ GE631.out | refine below_set ?_ GE638.out) | exact HB.out)⟩⟩
            case rest =>
              clear HC69
              try clear c1
              try clear c2
              try clear p2
              try clear c3
              try clear c3b0
              try clear c4
              try clear c5
              try clear c6
              try clear c7
              try clear c8
              try clear c9
              try clear c10
              try clear c11
              try clear c20
              try clear c25
              try clear c26
              try clear c27
              try clear c29
              try clear c32
              try clear c33
              try clear c34
              try clear c38
              try clear c39
              try clear c39b0
              try clear c39b1
              try clear c40
              try clear c41
              try clear c42
              try clear c44
              try clear c45
              try clear c48
              try clear c49
              try clear c50
              try clear c52
              try clear c53
              try clear c56
              try clear c57
              try clear c58
              try clear c60
              try clear c61
              try clear c64
              try clear c67
              try clear c74
              try clear c75
              try clear c76
              try clear c79
              try clear c79b0
              try clear c81
              try clear c82
              try clear c82b0
              try clear c82b1
              try clear c83
              try clear c84
              try clear c85
              try clear c87
              try clear c88
              try clear c91
              try clear c92
              try clear c93
              try clear c95
              try clear c96
              try clear c99
              try clear c100
              try clear c101
              try clear c103
              try clear c104
              try clear hcz102_0
              try clear hcz102_1
              try clear hcz105_0
              try clear hcz105_1
              try clear hcz13_0
              try clear hcz13_1
              try clear hcz15_0
              try clear hcz15_1
              try clear hcz21_0
              try clear hcz21_1
              try clear hcz23_0
              try clear hcz23_1
              try clear hcz28_0
              try clear hcz28_1
              try clear hcz35_0
              try clear hcz35_1
              try clear hcz43_0
              try clear hcz43_1
              try clear hcz46_0
              try clear hcz46_1
              try clear hcz51_0
              try clear hcz51_1
              try clear hcz54_0
              try clear hcz54_1
              try clear hcz59_0
              try clear hcz59_1
              try clear hcz5_0
              try clear hcz5_1
              try clear hcz62_0
              try clear hcz62_1
              try clear hcz77_0
              try clear hcz77_1
              try clear hcz86_0
              try clear hcz86_1
              try clear hcz89_0
              try clear hcz89_1
              try clear hcz94_0
              try clear hcz94_1
              try clear hcz97_0
              try clear hcz97_1
              try clear hfz102_0
              try clear hfz102_1
              try clear hfz105_0
              try clear hfz105_1
              try clear hfz13_0
              try clear hfz13_1
              try clear hfz15_0
              try clear hfz15_1
              try clear hfz21_0
              try clear hfz21_1
              try clear hfz23_0
              try clear hfz23_1
              try clear hfz28_0
              try clear hfz28_1
              try clear hfz35_0
              try clear hfz35_1
              try clear hfz43_0
              try clear hfz43_1
              try clear hfz46_0
              try clear hfz46_1
              try clear hfz51_0
              try clear hfz51_1
              try clear hfz54_0
              try clear hfz54_1
              try clear hfz59_0
              try clear hfz59_1
              try clear hfz5_0
              try clear hfz5_1
              try clear hfz62_0
              try clear hfz62_1
              try clear hfz77_0
              try clear hfz77_1
              try clear hfz86_0
              try clear hfz86_1
              try clear hfz89_0
              try clear hfz89_1
              try clear hfz94_0
              try clear hfz94_1
              try clear hfz97_0
              try clear hfz97_1
              try clear p2
              obtain ⟨kq, x76_68, rfl, HA, HJ68, HO_627001, HO_632001, HO_639001, BK614, BK626, BK631, BK638, HB⟩ := hcut
              have hl632001_68 := (Kd.R_reads' HO_632001.out).1
              rw [hl632001_68] at HO_632001
              (try simp only [hl632001_68])
              (try simp only [hl632001_68] at BK614)
              (try simp only [hl632001_68] at BK626)
              (try simp only [hl632001_68] at BK631)
              (try simp only [hl632001_68] at BK638)
              (try simp only [hl632001_68] at HO_627001)
              (try simp only [hl632001_68] at HO_639001)
              cases kq with
              | zero => exact absurd HA.out (by simp [laws_FnExactBoxTake.j1])
              | succ kj68 =>
                have H := HA.out
                clear HA
                simp only [laws_FnExactBoxTake.j1] at H
                by_cases c107 : x76_68 = true
                · subst c107
                  have H1 : (some false) = some r := by rw [if_pos rfl] at H; exact H
                  clear H
                  have H := H1
                  clear H1
                  obtain rfl := Option.some.inj H
                  go_wp2
                  go_ret
                  exact ⟨by first | rfl | (simp [errW_none, errW_some] <;> rfl) | (simp [*, errW_none, errW_some] <;> rfl), by repeat (first | (with_reducible first | exact HB.out | apply below_alloc | apply pw_below_drewN | apply below_drew1 | refine below_set ?_ GE614.out | refine below_set ?_ GE626.out | refine below_set ?_ GE631.out | refine below_set ?_ GE638.out) | exact HB.out)⟩
                · replace c107 := Bool.eq_false_iff.mpr c107
                  subst c107
                  have H1 : ((laws_markBox.f kj68 t632 t633 1).bind fun bt648 => ((laws_heldBox.f kj68 t632 bt648.2 1).bind fun t650 => (if t650 < 0 then (some false) else (if t650 = bt648.1 then ((laws_toBox.f kj68 a0_0 l0_1).bind fun bt651 => ((impl_BoxTake.f kj68 bt651.1 bt651.2).bind fun bt655 => ((laws_eqBox.f kj68 bt655.1 bt655.2.1 t620 t621).bind fun t662 => (if t662 = true then (if bt655.2.2.1 = t624 then (laws_FnExactBoxTake.j2 kj68 bt648.1 (bt655.2.2.2 != t625) t632 bt648.2) else (laws_FnExactBoxTake.j2 kj68 bt648.1 true t632 bt648.2)) else (laws_FnExactBoxTake.j2 kj68 bt648.1 true t632 bt648.2))))) else (some false))))) = some r := by rw [if_neg (show ¬ (false = true) by decide)] at H; exact H
                  clear H
                  have H := H1
                  clear H1
                  replace H := Option.bind_eq_some_iff.mp H
                  obtain ⟨⟨t648, t649⟩, A1080, H⟩ := H
                  replace H : ((laws_heldBox.f kj68 t632 t649 1).bind fun t650 => (if t650 < 0 then (some false) else (if t650 = t648 then ((laws_toBox.f kj68 a0_0 l0_1).bind fun bt651 => ((impl_BoxTake.f kj68 bt651.1 bt651.2).bind fun bt655 => ((laws_eqBox.f kj68 bt655.1 bt655.2.1 t620 t621).bind fun t662 => (if t662 = true then (if bt655.2.2.1 = t624 then (laws_FnExactBoxTake.j2 kj68 t648 (bt655.2.2.2 != t625) t632 t649) else (laws_FnExactBoxTake.j2 kj68 t648 true t632 t649)) else (laws_FnExactBoxTake.j2 kj68 t648 true t632 t649))))) else (some false)))) = some r := H
                  have A108 := Aside0.mk A1080
                  clear A1080
                  replace H := Option.bind_eq_some_iff.mp H
                  obtain ⟨t650, A1090, H⟩ := H
                  replace H : (if t650 < 0 then (some false) else (if t650 = t648 then ((laws_toBox.f kj68 a0_0 l0_1).bind fun bt651 => ((impl_BoxTake.f kj68 bt651.1 bt651.2).bind fun bt655 => ((laws_eqBox.f kj68 bt655.1 bt655.2.1 t620 t621).bind fun t662 => (if t662 = true then (if bt655.2.2.1 = t624 then (laws_FnExactBoxTake.j2 kj68 t648 (bt655.2.2.2 != t625) t632 t649) else (laws_FnExactBoxTake.j2 kj68 t648 true t632 t649)) else (laws_FnExactBoxTake.j2 kj68 t648 true t632 t649))))) else (some false))) = some r := H
                  have A109 := Aside0.mk A1090
                  clear A1090
                  by_cases c110 : t650 < 0
                  · rw [if_pos c110] at H
                    have c110b0 : decide (t650 < 0) = true := decide_eq_true c110
                    clear c110
                    obtain rfl := Option.some.inj H
                    have hnb111 := NB638_614.out
                    have hnc111 := NB614_638.out
                    have hnb112 := NB638_626.out
                    have hnc112 := NB626_638.out
                    have hnb113 := NB638_631.out
                    have hnc113 := NB631_638.out
                    have hcz114_0 : wc.cell? ⟨gb638, 0, none⟩ = some (.int .i64 t632) := (blk_cell BK638.out 0).trans rfl
                    have hcz114_1 : wc.cell? ⟨gb638, 1, none⟩ = some (.slice Ao36 t633.length co36) := (blk_cell BK638.out 1).trans rfl
                    have hfz114_0 := blk_frozen BK638.out 0
                    have hfz114_1 := blk_frozen BK638.out 1
                    go_wp2_with (first | ((with_reducible refine gate_callee (f := 39) rfl ?_); refine goesL_ (some 79) rfl rfl Try.func39 (by kernel_rfl) rfl #[.agg #[.int .i64 t632, .slice Ao36 t633.length co36], .int .i64 1] rfl (by (try simp only [List.map_toArray, List.map_cons, List.map_nil]); first | done | rfl | (simp only [List.length_drop, List.length_take]; rfl)) ?_; (with_reducible refine (laws_markBox.calls kj68 t632 (fun k_ => some k_ = (.slice Ao36 t633.length co36 : Value).ownBlock) (.slice Ao36 t633.length co36) t633 1 t648 t649 w _ ?side1 ?side2 A108.out).mono ?_); (case side1 => repeat (first | (with_reducible first | exact HB.out | apply below_alloc | apply pw_below_drewN | apply below_drew1 | refine below_set ?_ GE614.out | refine below_set ?_ GE626.out | refine below_set ?_ GE631.out | refine below_set ?_ GE638.out) | exact HB.out)); (case side2 => exact Kd.R_tight rfl HO_639001.out); rintro e w115 ⟨rfl, hy0, hb, hkp⟩; refine ⟨_, rfl, ?_⟩; have n0_ := Aside0.mk (Kd.R_mono (ok' := fun k_ => some k_ ≠ (.slice Ao29 t646.length co29 : Value).ownBlock ∧ some k_ ≠ (.slice Ao36 t633.length co36 : Value).ownBlock) (Kd.R_keptB (HO_627001.out) hkp (fun k_ hk_ hs_ => (hk_.2) hs_)) (fun k_ hk_ => ⟨hk_.1.1, hk_.1.2⟩)); have n1_ := Aside0.mk (Kd.R_mono (ok' := fun k_ => some k_ ≠ (.slice Ao22 t621.length co22 : Value).ownBlock ∧ some k_ ≠ (.slice Ao36 t633.length co36 : Value).ownBlock) (Kd.R_keptB (HO_632001.out) hkp (fun k_ hk_ hs_ => (hk_.2) hs_)) (fun k_ hk_ => ⟨hk_.1.1, hk_.1.2⟩)); have n2_ := Aside0.mk (Kd.R_reok rfl hy0 (fun k_ e_ => HO_639001.out.1 k_ e_)); have n3_ := Aside0.mk (blk_kept (by (with_reducible repeat (first | refine blk_drewN ?_ _ | refine blk_drew ?_ | refine blk_alloc ?_ _)); exact BK614.out) hkp (fun hs_ => (fun e_ => (Kd.R_ne HO_639001.out BK614.out (by decide)) e_) hs_)); have n4_ := Aside0.mk (blk_kept (by (with_reducible repeat (first | refine blk_drewN ?_ _ | refine blk_drew ?_ | refine blk_alloc ?_ _)); exact BK626.out) hkp (fun hs_ => (fun e_ => (Kd.R_ne HO_639001.out BK626.out (by decide)) e_) hs_)); have n5_ := Aside0.mk (blk_kept (by (with_reducible repeat (first | refine blk_drewN ?_ _ | refine blk_drew ?_ | refine blk_alloc ?_ _)); exact BK631.out) hkp (fun hs_ => (fun e_ => (Kd.R_ne HO_639001.out BK631.out (by decide)) e_) hs_)); have n6_ := Aside0.mk (blk_kept (by (with_reducible repeat (first | refine blk_drewN ?_ _ | refine blk_drew ?_ | refine blk_alloc ?_ _)); exact BK638.out) hkp (fun hs_ => (fun e_ => (Kd.R_ne HO_639001.out BK638.out (by decide)) e_) hs_)); have n7_ := Aside0.mk (hb); clear HO_627001; clear HO_632001; clear HO_639001; clear BK614; clear BK626; clear BK631; clear BK638; clear HB; have HO_627001 := n0_; have HO_632001 := n1_; have HO_639001 := n2_; have BK614 := n3_; have BK626 := n4_; have BK631 := n5_; have BK638 := n6_; have HB := n7_; clear n0_ n1_ n2_ n3_ n4_ n5_ n6_ n7_; (try clear hb); (try clear hkp); (try clear hy0); have hcz116_0 : w115.cell? ⟨gb638, 0, none⟩ = some (.int .i64 t632) := (blk_cell BK638.out 0).trans rfl; have hcz116_1 : w115.cell? ⟨gb638, 1, none⟩ = some (.slice Ao36 t633.length co36) := (blk_cell BK638.out 1).trans rfl; have hfz116_0 := blk_frozen BK638.out 0; have hfz116_1 := blk_frozen BK638.out 1) | ((with_reducible refine gate_callee (f := 40) rfl ?_); refine goesL_ (some 82) rfl rfl Try.func40 (by kernel_rfl) rfl #[.agg #[.int .i64 t632, .slice Ao36 t649.length co36], .int .i64 1] rfl (by (try simp only [List.map_toArray, List.map_cons, List.map_nil]); first | done | (rw [show t649.length = t633.length from (Kd.R_reads' HO_639001.out).1.symm] <;> rfl) | rfl | (simp only [List.length_drop, List.length_take]; rfl)) ?_; (with_reducible refine (laws_heldBox.calls kj68 t632 _ _ t649 1 t650 _ ?side1 ?side2 A109.out).mono ?_); (case side1 => repeat (first | exact (Kd.R_reads' HO_639001.out).2.2 | (with_reducible refine Kd.C_alloc ?_ _) | (with_reducible refine Kd.C_drewN ?_ _) | (with_reducible refine Kd.C_drew ?_))); (case side2 => rw [show t649.length = t633.length from (Kd.R_reads' HO_639001.out).1.symm]; exact (Kd.R_reads' HO_639001.out).2.1); rintro e w117 ⟨rfl, hb⟩; refine ⟨_, rfl, ?_⟩; have n0_ := Aside0.mk (Kd.R_below (by (with_reducible repeat (first | apply Kd.R_alloc | apply Kd.R_drewN | apply Kd.R_drew)); exact HO_627001.out) hb); have n1_ := Aside0.mk (Kd.R_below (by (with_reducible repeat (first | apply Kd.R_alloc | apply Kd.R_drewN | apply Kd.R_drew)); exact HO_632001.out) hb); have n2_ := Aside0.mk (Kd.R_below (by (with_reducible repeat (first | apply Kd.R_alloc | apply Kd.R_drewN | apply Kd.R_drew)); exact HO_639001.out) hb); have n3_ := Aside0.mk (blk_below (g := gb614) (o := .cells #[.int .i64 a0_0, .slice A0_1 l0_1.length c0_1] 39 (0, 0)) (by (with_reducible repeat (first | refine blk_drewN ?_ _ | refine blk_drew ?_ | refine blk_alloc ?_ _)); exact BK614.out) hb); have n4_ := Aside0.mk (blk_below (g := gb626) (o := .cells #[.int .i64 t620, .slice Ao22 t621.length co22] 33 (0, 0)) (by (with_reducible repeat (first | refine blk_drewN ?_ _ | refine blk_drew ?_ | refine blk_alloc ?_ _)); exact BK626.out) hb); have n5_ := Aside0.mk (blk_below (g := gb631) (o := .cells #[.int .i64 t627, .slice Ao29 t646.length co29] 33 (0, 0)) (by (with_reducible repeat (first | refine blk_drewN ?_ _ | refine blk_drew ?_ | refine blk_alloc ?_ _)); exact BK631.out) hb); have n6_ := Aside0.mk (blk_below (g := gb638) (o := .cells #[.int .i64 t632, .slice Ao36 t633.length co36] 33 (0, 0)) (by (with_reducible repeat (first | refine blk_drewN ?_ _ | refine blk_drew ?_ | refine blk_alloc ?_ _)); exact BK638.out) hb); have n7_ := Aside0.mk (below_step (by repeat (first | (with_reducible first | exact HB.out | apply below_alloc | apply pw_below_drewN | apply below_drew1 | refine below_set ?_ GE614.out | refine below_set ?_ GE626.out | refine below_set ?_ GE631.out | refine below_set ?_ GE638.out) | exact HB.out)) hb); clear HO_627001; clear HO_632001; clear HO_639001; clear BK614; clear BK626; clear BK631; clear BK638; clear HB; have HO_627001 := n0_; have HO_632001 := n1_; have HO_639001 := n2_; have BK614 := n3_; have BK626 := n4_; have BK631 := n5_; have BK638 := n6_; have HB := n7_; clear n0_ n1_ n2_ n3_ n4_ n5_ n6_ n7_; (try clear hb); (try clear hb2); (try clear hk); (try clear hi)))
                    go_ret
                    exact ⟨by first | rfl | (simp [errW_none, errW_some] <;> rfl) | (simp [*, errW_none, errW_some] <;> rfl), by repeat (first | (with_reducible first | exact HB.out | apply below_alloc | apply pw_below_drewN | apply below_drew1 | refine below_set ?_ GE614.out | refine below_set ?_ GE626.out | refine below_set ?_ GE631.out | refine below_set ?_ GE638.out) | exact HB.out)⟩
                  · rw [if_neg c110] at H
                    have c110b0 : decide (t650 < 0) = false := decide_eq_false c110
                    clear c110
                    by_cases c118 : t650 = t648
                    · rw [if_pos c118] at H
                      have c118b0 : (t650 == t648) = true := beq_iff_eq.mpr c118
                      have c118b1 : (t650 != t648) = false := bne_eq_false_iff_eq.mpr c118
                      clear c118
                      replace H := Option.bind_eq_some_iff.mp H
                      obtain ⟨⟨t651, t652⟩, A1190, H⟩ := H
                      replace H : ((impl_BoxTake.f kj68 t651 t652).bind fun bt655 => ((laws_eqBox.f kj68 bt655.1 bt655.2.1 t620 t621).bind fun t662 => (if t662 = true then (if bt655.2.2.1 = t624 then (laws_FnExactBoxTake.j2 kj68 t648 (bt655.2.2.2 != t625) t632 t649) else (laws_FnExactBoxTake.j2 kj68 t648 true t632 t649)) else (laws_FnExactBoxTake.j2 kj68 t648 true t632 t649)))) = some r := H
                      have A119 := Aside0.mk A1190
                      clear A1190
                      replace H := Option.bind_eq_some_iff.mp H
                      obtain ⟨⟨t655, t656, t659, t660⟩, A1200, H⟩ := H
                      replace H : ((laws_eqBox.f kj68 t655 t656 t620 t621).bind fun t662 => (if t662 = true then (if t659 = t624 then (laws_FnExactBoxTake.j2 kj68 t648 (t660 != t625) t632 t649) else (laws_FnExactBoxTake.j2 kj68 t648 true t632 t649)) else (laws_FnExactBoxTake.j2 kj68 t648 true t632 t649))) = some r := H
                      have A120 := Aside0.mk A1200
                      clear A1200
                      have HC121 := Aside0.mk H
                      clear H
                      have hnb122 := NB638_614.out
                      have hnc122 := NB614_638.out
                      have hnb123 := NB638_626.out
                      have hnc123 := NB626_638.out
                      have hnb124 := NB638_631.out
                      have hnc124 := NB631_638.out
                      have hcz125_0 : wc.cell? ⟨gb638, 0, none⟩ = some (.int .i64 t632) := (blk_cell BK638.out 0).trans rfl
                      have hcz125_1 : wc.cell? ⟨gb638, 1, none⟩ = some (.slice Ao36 t633.length co36) := (blk_cell BK638.out 1).trans rfl
                      have hfz125_0 := blk_frozen BK638.out 0
                      have hfz125_1 := blk_frozen BK638.out 1
                      go_upto_region 25 with (first | ((with_reducible refine gate_callee (f := 39) rfl ?_); refine goesL_ (some 79) rfl rfl Try.func39 (by kernel_rfl) rfl #[.agg #[.int .i64 t632, .slice Ao36 t633.length co36], .int .i64 1] rfl (by (try simp only [List.map_toArray, List.map_cons, List.map_nil]); first | done | rfl | (simp only [List.length_drop, List.length_take]; rfl)) ?_; (with_reducible refine (laws_markBox.calls kj68 t632 (fun k_ => some k_ = (.slice Ao36 t633.length co36 : Value).ownBlock) (.slice Ao36 t633.length co36) t633 1 t648 t649 w _ ?side1 ?side2 A108.out).mono ?_); (case side1 => repeat (first | (with_reducible first | exact HB.out | apply below_alloc | apply pw_below_drewN | apply below_drew1 | refine below_set ?_ GE614.out | refine below_set ?_ GE626.out | refine below_set ?_ GE631.out | refine below_set ?_ GE638.out) | exact HB.out)); (case side2 => exact Kd.R_tight rfl HO_639001.out); rintro e w126 ⟨rfl, hy0, hb, hkp⟩; refine ⟨_, rfl, ?_⟩; have n0_ := Aside0.mk (Kd.R_mono (ok' := fun k_ => some k_ ≠ (.slice Ao29 t646.length co29 : Value).ownBlock ∧ some k_ ≠ (.slice Ao36 t633.length co36 : Value).ownBlock) (Kd.R_keptB (HO_627001.out) hkp (fun k_ hk_ hs_ => (hk_.2) hs_)) (fun k_ hk_ => ⟨hk_.1.1, hk_.1.2⟩)); have n1_ := Aside0.mk (Kd.R_mono (ok' := fun k_ => some k_ ≠ (.slice Ao22 t621.length co22 : Value).ownBlock ∧ some k_ ≠ (.slice Ao36 t633.length co36 : Value).ownBlock) (Kd.R_keptB (HO_632001.out) hkp (fun k_ hk_ hs_ => (hk_.2) hs_)) (fun k_ hk_ => ⟨hk_.1.1, hk_.1.2⟩)); have n2_ := Aside0.mk (Kd.R_reok rfl hy0 (fun k_ e_ => HO_639001.out.1 k_ e_)); have n3_ := Aside0.mk (blk_kept (by (with_reducible repeat (first | refine blk_drewN ?_ _ | refine blk_drew ?_ | refine blk_alloc ?_ _)); exact BK614.out) hkp (fun hs_ => (fun e_ => (Kd.R_ne HO_639001.out BK614.out (by decide)) e_) hs_)); have n4_ := Aside0.mk (blk_kept (by (with_reducible repeat (first | refine blk_drewN ?_ _ | refine blk_drew ?_ | refine blk_alloc ?_ _)); exact BK626.out) hkp (fun hs_ => (fun e_ => (Kd.R_ne HO_639001.out BK626.out (by decide)) e_) hs_)); have n5_ := Aside0.mk (blk_kept (by (with_reducible repeat (first | refine blk_drewN ?_ _ | refine blk_drew ?_ | refine blk_alloc ?_ _)); exact BK631.out) hkp (fun hs_ => (fun e_ => (Kd.R_ne HO_639001.out BK631.out (by decide)) e_) hs_)); have n6_ := Aside0.mk (blk_kept (by (with_reducible repeat (first | refine blk_drewN ?_ _ | refine blk_drew ?_ | refine blk_alloc ?_ _)); exact BK638.out) hkp (fun hs_ => (fun e_ => (Kd.R_ne HO_639001.out BK638.out (by decide)) e_) hs_)); have n7_ := Aside0.mk (hb); clear HO_627001; clear HO_632001; clear HO_639001; clear BK614; clear BK626; clear BK631; clear BK638; clear HB; have HO_627001 := n0_; have HO_632001 := n1_; have HO_639001 := n2_; have BK614 := n3_; have BK626 := n4_; have BK631 := n5_; have BK638 := n6_; have HB := n7_; clear n0_ n1_ n2_ n3_ n4_ n5_ n6_ n7_; (try clear hb); (try clear hkp); (try clear hy0); have hcz127_0 : w126.cell? ⟨gb638, 0, none⟩ = some (.int .i64 t632) := (blk_cell BK638.out 0).trans rfl; have hcz127_1 : w126.cell? ⟨gb638, 1, none⟩ = some (.slice Ao36 t633.length co36) := (blk_cell BK638.out 1).trans rfl; have hfz127_0 := blk_frozen BK638.out 0; have hfz127_1 := blk_frozen BK638.out 1) | ((with_reducible refine gate_callee (f := 40) rfl ?_); refine goesL_ (some 82) rfl rfl Try.func40 (by kernel_rfl) rfl #[.agg #[.int .i64 t632, .slice Ao36 t649.length co36], .int .i64 1] rfl (by (try simp only [List.map_toArray, List.map_cons, List.map_nil]); first | done | (rw [show t649.length = t633.length from (Kd.R_reads' HO_639001.out).1.symm] <;> rfl) | rfl | (simp only [List.length_drop, List.length_take]; rfl)) ?_; (with_reducible refine (laws_heldBox.calls kj68 t632 _ _ t649 1 t650 _ ?side1 ?side2 A109.out).mono ?_); (case side1 => repeat (first | exact (Kd.R_reads' HO_639001.out).2.2 | (with_reducible refine Kd.C_alloc ?_ _) | (with_reducible refine Kd.C_drewN ?_ _) | (with_reducible refine Kd.C_drew ?_))); (case side2 => rw [show t649.length = t633.length from (Kd.R_reads' HO_639001.out).1.symm]; exact (Kd.R_reads' HO_639001.out).2.1); rintro e w128 ⟨rfl, hb⟩; refine ⟨_, rfl, ?_⟩; have n0_ := Aside0.mk (Kd.R_below (by (with_reducible repeat (first | apply Kd.R_alloc | apply Kd.R_drewN | apply Kd.R_drew)); exact HO_627001.out) hb); have n1_ := Aside0.mk (Kd.R_below (by (with_reducible repeat (first | apply Kd.R_alloc | apply Kd.R_drewN | apply Kd.R_drew)); exact HO_632001.out) hb); have n2_ := Aside0.mk (Kd.R_below (by (with_reducible repeat (first | apply Kd.R_alloc | apply Kd.R_drewN | apply Kd.R_drew)); exact HO_639001.out) hb); have n3_ := Aside0.mk (blk_below (g := gb614) (o := .cells #[.int .i64 a0_0, .slice A0_1 l0_1.length c0_1] 39 (0, 0)) (by (with_reducible repeat (first | refine blk_drewN ?_ _ | refine blk_drew ?_ | refine blk_alloc ?_ _)); exact BK614.out) hb); have n4_ := Aside0.mk (blk_below (g := gb626) (o := .cells #[.int .i64 t620, .slice Ao22 t621.length co22] 33 (0, 0)) (by (with_reducible repeat (first | refine blk_drewN ?_ _ | refine blk_drew ?_ | refine blk_alloc ?_ _)); exact BK626.out) hb); have n5_ := Aside0.mk (blk_below (g := gb631) (o := .cells #[.int .i64 t627, .slice Ao29 t646.length co29] 33 (0, 0)) (by (with_reducible repeat (first | refine blk_drewN ?_ _ | refine blk_drew ?_ | refine blk_alloc ?_ _)); exact BK631.out) hb); have n6_ := Aside0.mk (blk_below (g := gb638) (o := .cells #[.int .i64 t632, .slice Ao36 t633.length co36] 33 (0, 0)) (by (with_reducible repeat (first | refine blk_drewN ?_ _ | refine blk_drew ?_ | refine blk_alloc ?_ _)); exact BK638.out) hb); have n7_ := Aside0.mk (below_step (by repeat (first | (with_reducible first | exact HB.out | apply below_alloc | apply pw_below_drewN | apply below_drew1 | refine below_set ?_ GE614.out | refine below_set ?_ GE626.out | refine below_set ?_ GE631.out | refine below_set ?_ GE638.out) | exact HB.out)) hb); clear HO_627001; clear HO_632001; clear HO_639001; clear BK614; clear BK626; clear BK631; clear BK638; clear HB; have HO_627001 := n0_; have HO_632001 := n1_; have HO_639001 := n2_; have BK614 := n3_; have BK626 := n4_; have BK631 := n5_; have BK638 := n6_; have HB := n7_; clear n0_ n1_ n2_ n3_ n4_ n5_ n6_ n7_; (try clear hb); (try clear hb2); (try clear hk); (try clear hi); have hnb129 := NB614_626.out; have hnc129 := NB626_614.out; have hnb130 := NB614_631.out; have hnc130 := NB631_614.out; have hcz131_0 : w128.cell? ⟨gb614, 0, none⟩ = some (.int .i64 a0_0) := (blk_cell BK614.out 0).trans rfl; have hcz131_1 : w128.cell? ⟨gb614, 1, none⟩ = some (.slice A0_1 l0_1.length c0_1) := (blk_cell BK614.out 1).trans rfl; have hfz131_0 := blk_frozen BK614.out 0; have hfz131_1 := blk_frozen BK614.out 1) | ((with_reducible refine gate_callee (f := 27) rfl ?_); refine goesL_ (some 90) rfl rfl Try.func27 (by kernel_rfl) rfl #[.agg #[.int .i64 a0_0, .slice A0_1 l0_1.length c0_1]] rfl (by (try simp only [List.map_toArray, List.map_cons, List.map_nil]); first | done | rfl | (simp only [List.length_drop, List.length_take]; rfl)) ?_; (with_reducible refine (laws_toBox.calls kj68 a0_0 _ _ l0_1 t651 t652 _ ?side1 ?side2 A119.out).mono ?_); (case side1 => repeat (first | exact (Kd.C_below HR0_1.out HB.out) | (with_reducible refine Kd.C_alloc ?_ _) | (with_reducible refine Kd.C_drewN ?_ _) | (with_reducible refine Kd.C_drew ?_))); (case side2 => exact HC0_1.out); rintro e w132 ⟨v653, rfl, ho0, hb⟩; refine ⟨_, rfl, ?_⟩; have n0_ := Aside0.mk (Kd.R_elder' (by (with_reducible repeat (first | apply Kd.R_alloc | apply Kd.R_drewN | apply Kd.R_drew)); exact HO_627001.out) (Kd.R_base ho0) hb); have n1_ := Aside0.mk (Kd.R_elder' (by (with_reducible repeat (first | apply Kd.R_alloc | apply Kd.R_drewN | apply Kd.R_drew)); exact HO_632001.out) (Kd.R_base ho0) hb); have n2_ := Aside0.mk (Kd.R_elder' (by (with_reducible repeat (first | apply Kd.R_alloc | apply Kd.R_drewN | apply Kd.R_drew)); exact HO_639001.out) (Kd.R_base ho0) hb); have n3_ := Aside0.mk (Kd.R_lower (Kd.R_new' (Kd.R_new' (Kd.R_new' ho0 (Kd.R_lt (by (with_reducible repeat (first | apply Kd.R_alloc | apply Kd.R_drewN | apply Kd.R_drew)); exact HO_627001.out))) (Kd.R_lt (by (with_reducible repeat (first | apply Kd.R_alloc | apply Kd.R_drewN | apply Kd.R_drew)); exact HO_632001.out))) (Kd.R_lt (by (with_reducible repeat (first | apply Kd.R_alloc | apply Kd.R_drewN | apply Kd.R_drew)); exact HO_639001.out))) (below_size (by repeat (first | (with_reducible first | exact HB.out | apply below_alloc | apply pw_below_drewN | apply below_drew1 | refine below_set ?_ GE614.out | refine below_set ?_ GE626.out | refine below_set ?_ GE631.out | refine below_set ?_ GE638.out) | exact HB.out)))); have n4_ := Aside0.mk (blk_below (g := gb614) (o := .cells #[.int .i64 a0_0, .slice A0_1 l0_1.length c0_1] 39 (0, 0)) (by (with_reducible repeat (first | refine blk_drewN ?_ _ | refine blk_drew ?_ | refine blk_alloc ?_ _)); exact BK614.out) hb); have n5_ := Aside0.mk (blk_below (g := gb626) (o := .cells #[.int .i64 t620, .slice Ao22 t621.length co22] 33 (0, 0)) (by (with_reducible repeat (first | refine blk_drewN ?_ _ | refine blk_drew ?_ | refine blk_alloc ?_ _)); exact BK626.out) hb); have n6_ := Aside0.mk (blk_below (g := gb631) (o := .cells #[.int .i64 t627, .slice Ao29 t646.length co29] 33 (0, 0)) (by (with_reducible repeat (first | refine blk_drewN ?_ _ | refine blk_drew ?_ | refine blk_alloc ?_ _)); exact BK631.out) hb); have n7_ := Aside0.mk (blk_below (g := gb638) (o := .cells #[.int .i64 t632, .slice Ao36 t633.length co36] 33 (0, 0)) (by (with_reducible repeat (first | refine blk_drewN ?_ _ | refine blk_drew ?_ | refine blk_alloc ?_ _)); exact BK638.out) hb); have n8_ := Aside0.mk (below_step (by repeat (first | (with_reducible first | exact HB.out | apply below_alloc | apply pw_below_drewN | apply below_drew1 | refine below_set ?_ GE614.out | refine below_set ?_ GE626.out | refine below_set ?_ GE631.out | refine below_set ?_ GE638.out) | exact HB.out)) hb); clear HO_627001; clear HO_632001; clear HO_639001; clear BK614; clear BK626; clear BK631; clear BK638; clear HB; have HO_627001 := n0_; have HO_632001 := n1_; have HO_639001 := n2_; have HO654 := n3_; have BK614 := n4_; have BK626 := n5_; have BK631 := n6_; have BK638 := n7_; have HB := n8_; clear n0_ n1_ n2_ n3_ n4_ n5_ n6_ n7_ n8_; (try clear hb); (try clear hb2); (try clear hk); (try clear hi); (try clear ho0); obtain ⟨Ao133, co133, eo133⟩ := Kd.R_slice HO654.out; subst eo133) | ((with_reducible refine gate_callee (f := 42) rfl ?_); refine goesL_ (some 91) rfl rfl Try.func42 (by kernel_rfl) rfl #[.agg #[.int .i64 t651, .slice Ao133 t652.length co133]] rfl (by (try simp only [List.map_toArray, List.map_cons, List.map_nil]); first | done | rfl | (simp only [List.length_drop, List.length_take]; rfl)) ?_; (with_reducible refine (impl_BoxTake.calls kj68 t651 _ _ t652 t655 t656 t659 t660 _ ?side1 ?side2 A120.out).mono ?_); (case side1 => repeat (first | exact (Kd.R_reads' HO654.out).2.2 | (with_reducible refine Kd.C_alloc ?_ _) | (with_reducible refine Kd.C_drewN ?_ _) | (with_reducible refine Kd.C_drew ?_))); (case side2 => exact (Kd.R_reads' HO654.out).2.1); rintro e w134 ⟨v657, rfl, ho0, hb⟩; refine ⟨_, rfl, ?_⟩; have n0_ := Aside0.mk (Kd.R_elder' (by (with_reducible repeat (first | apply Kd.R_alloc | apply Kd.R_drewN | apply Kd.R_drew)); exact HO_627001.out) (Kd.R_base ho0) hb); have n1_ := Aside0.mk (Kd.R_elder' (by (with_reducible repeat (first | apply Kd.R_alloc | apply Kd.R_drewN | apply Kd.R_drew)); exact HO_632001.out) (Kd.R_base ho0) hb); have n2_ := Aside0.mk (Kd.R_elder' (by (with_reducible repeat (first | apply Kd.R_alloc | apply Kd.R_drewN | apply Kd.R_drew)); exact HO_639001.out) (Kd.R_base ho0) hb); have n3_ := Aside0.mk (Kd.R_elder' (by (with_reducible repeat (first | apply Kd.R_alloc | apply Kd.R_drewN | apply Kd.R_drew)); exact HO654.out) (Kd.R_base ho0) hb); have n4_ := Aside0.mk (Kd.R_lower (Kd.R_new' (Kd.R_new' (Kd.R_new' (Kd.R_new' ho0 (Kd.R_lt (by (with_reducible repeat (first | apply Kd.R_alloc | apply Kd.R_drewN | apply Kd.R_drew)); exact HO_627001.out))) (Kd.R_lt (by (with_reducible repeat (first | apply Kd.R_alloc | apply Kd.R_drewN | apply Kd.R_drew)); exact HO_632001.out))) (Kd.R_lt (by (with_reducible repeat (first | apply Kd.R_alloc | apply Kd.R_drewN | apply Kd.R_drew)); exact HO_639001.out))) (Kd.R_lt (by (with_reducible repeat (first | apply Kd.R_alloc | apply Kd.R_drewN | apply Kd.R_drew)); exact HO654.out))) (below_size (by repeat (first | (with_reducible first | exact HB.out | apply below_alloc | apply pw_below_drewN | apply below_drew1 | refine below_set ?_ GE614.out | refine below_set ?_ GE626.out | refine below_set ?_ GE631.out | refine below_set ?_ GE638.out) | exact HB.out)))); have n5_ := Aside0.mk (blk_below (g := gb614) (o := .cells #[.int .i64 a0_0, .slice A0_1 l0_1.length c0_1] 39 (0, 0)) (by (with_reducible repeat (first | refine blk_drewN ?_ _ | refine blk_drew ?_ | refine blk_alloc ?_ _)); exact BK614.out) hb); have n6_ := Aside0.mk (blk_below (g := gb626) (o := .cells #[.int .i64 t620, .slice Ao22 t621.length co22] 33 (0, 0)) (by (with_reducible repeat (first | refine blk_drewN ?_ _ | refine blk_drew ?_ | refine blk_alloc ?_ _)); exact BK626.out) hb); have n7_ := Aside0.mk (blk_below (g := gb631) (o := .cells #[.int .i64 t627, .slice Ao29 t646.length co29] 33 (0, 0)) (by (with_reducible repeat (first | refine blk_drewN ?_ _ | refine blk_drew ?_ | refine blk_alloc ?_ _)); exact BK631.out) hb); have n8_ := Aside0.mk (blk_below (g := gb638) (o := .cells #[.int .i64 t632, .slice Ao36 t633.length co36] 33 (0, 0)) (by (with_reducible repeat (first | refine blk_drewN ?_ _ | refine blk_drew ?_ | refine blk_alloc ?_ _)); exact BK638.out) hb); have n9_ := Aside0.mk (below_step (by repeat (first | (with_reducible first | exact HB.out | apply below_alloc | apply pw_below_drewN | apply below_drew1 | refine below_set ?_ GE614.out | refine below_set ?_ GE626.out | refine below_set ?_ GE631.out | refine below_set ?_ GE638.out) | exact HB.out)) hb); clear HO_627001; clear HO_632001; clear HO_639001; clear HO654; clear BK614; clear BK626; clear BK631; clear BK638; clear HB; have HO_627001 := n0_; have HO_632001 := n1_; have HO_639001 := n2_; have HO654 := n3_; have HO658 := n4_; have BK614 := n5_; have BK626 := n6_; have BK631 := n7_; have BK638 := n8_; have HB := n9_; clear n0_ n1_ n2_ n3_ n4_ n5_ n6_ n7_ n8_ n9_; (try clear hb); (try clear hb2); (try clear hk); (try clear hi); (try clear ho0)) | ((with_reducible refine gate_dst (N := 14) rfl ?_); refine box_event ?hg (N := 14) ?hd (cs := #[.int .i64 0, .slice none 0 0]) (t := 33) ?hr ?_; (case hd => rfl); (case hg => rfl); (case hr => first | (go_simp; done) | (go_simp; rfl)); intro gb661 hg w135 hbox hb; have n0_ := Aside0.mk (Kd.R_below (by (with_reducible repeat (first | apply Kd.R_alloc | apply Kd.R_drewN | apply Kd.R_drew)); exact HO_627001.out) hb); have n1_ := Aside0.mk (Kd.R_below (by (with_reducible repeat (first | apply Kd.R_alloc | apply Kd.R_drewN | apply Kd.R_drew)); exact HO_632001.out) hb); have n2_ := Aside0.mk (Kd.R_below (by (with_reducible repeat (first | apply Kd.R_alloc | apply Kd.R_drewN | apply Kd.R_drew)); exact HO_639001.out) hb); have n3_ := Aside0.mk (Kd.R_below (by (with_reducible repeat (first | apply Kd.R_alloc | apply Kd.R_drewN | apply Kd.R_drew)); exact HO654.out) hb); have n4_ := Aside0.mk (Kd.R_below (by (with_reducible repeat (first | apply Kd.R_alloc | apply Kd.R_drewN | apply Kd.R_drew)); exact HO658.out) hb); have n5_ := Aside0.mk (blk_below (g := gb614) (o := .cells #[.int .i64 a0_0, .slice A0_1 l0_1.length c0_1] 39 (0, 0)) (by (with_reducible repeat (first | refine blk_drewN ?_ _ | refine blk_drew ?_ | refine blk_alloc ?_ _)); exact BK614.out) hb); have n6_ := Aside0.mk (blk_below (g := gb626) (o := .cells #[.int .i64 t620, .slice Ao22 t621.length co22] 33 (0, 0)) (by (with_reducible repeat (first | refine blk_drewN ?_ _ | refine blk_drew ?_ | refine blk_alloc ?_ _)); exact BK626.out) hb); have n7_ := Aside0.mk (blk_below (g := gb631) (o := .cells #[.int .i64 t627, .slice Ao29 t646.length co29] 33 (0, 0)) (by (with_reducible repeat (first | refine blk_drewN ?_ _ | refine blk_drew ?_ | refine blk_alloc ?_ _)); exact BK631.out) hb); have n8_ := Aside0.mk (blk_below (g := gb638) (o := .cells #[.int .i64 t632, .slice Ao36 t633.length co36] 33 (0, 0)) (by (with_reducible repeat (first | refine blk_drewN ?_ _ | refine blk_drew ?_ | refine blk_alloc ?_ _)); exact BK638.out) hb); have n9_ := Aside0.mk (below_step (by repeat (first | (with_reducible first | exact HB.out | apply below_alloc | apply pw_below_drewN | apply below_drew1 | refine below_set ?_ GE614.out | refine below_set ?_ GE626.out | refine below_set ?_ GE631.out | refine below_set ?_ GE638.out) | exact HB.out)) hb); have n10_ := Aside0.mk (hbox); have n11_ := Aside0.mk ((by rw [hg]; exact (below_size (by repeat (first | (with_reducible first | exact HB.out | apply below_alloc | apply pw_below_drewN | apply below_drew1 | refine below_set ?_ GE614.out | refine below_set ?_ GE626.out | refine below_set ?_ GE631.out | refine below_set ?_ GE638.out) | exact HB.out))) : w.heap.size ≤ gb661)); have n12_ := Aside0.mk ((by rw [hg]; exact (below_size (by repeat (first | (with_reducible first | exact HB.out | apply below_alloc | apply pw_below_drewN | apply below_drew1 | refine below_set ?_ GE614.out | refine below_set ?_ GE626.out | refine below_set ?_ GE631.out | refine below_set ?_ GE638.out) | exact HB.out))) : w.heap.size ≤ gb661)); have n13_ := Aside0.mk ((by rw [hg]; exact Nat.ne_of_lt (blk_lt (g := gb614) (o := .cells #[.int .i64 a0_0, .slice A0_1 l0_1.length c0_1] 39 (0, 0)) (by (with_reducible repeat (first | refine blk_drewN ?_ _ | refine blk_drew ?_ | refine blk_alloc ?_ _)); exact BK614.out)) : gb614 ≠ gb661)); have n14_ := Aside0.mk ((by rw [hg]; exact Nat.ne_of_gt (blk_lt (g := gb614) (o := .cells #[.int .i64 a0_0, .slice A0_1 l0_1.length c0_1] 39 (0, 0)) (by (with_reducible repeat (first | refine blk_drewN ?_ _ | refine blk_drew ?_ | refine blk_alloc ?_ _)); exact BK614.out)) : gb661 ≠ gb614)); have n15_ := Aside0.mk ((by rw [hg]; exact Nat.ne_of_lt (blk_lt (g := gb626) (o := .cells #[.int .i64 t620, .slice Ao22 t621.length co22] 33 (0, 0)) (by (with_reducible repeat (first | refine blk_drewN ?_ _ | refine blk_drew ?_ | refine blk_alloc ?_ _)); exact BK626.out)) : gb626 ≠ gb661)); have n16_ := Aside0.mk ((by rw [hg]; exact Nat.ne_of_gt (blk_lt (g := gb626) (o := .cells #[.int .i64 t620, .slice Ao22 t621.length co22] 33 (0, 0)) (by (with_reducible repeat (first | refine blk_drewN ?_ _ | refine blk_drew ?_ | refine blk_alloc ?_ _)); exact BK626.out)) : gb661 ≠ gb626)); have n17_ := Aside0.mk ((by rw [hg]; exact Nat.ne_of_lt (blk_lt (g := gb631) (o := .cells #[.int .i64 t627, .slice Ao29 t646.length co29] 33 (0, 0)) (by (with_reducible repeat (first | refine blk_drewN ?_ _ | refine blk_drew ?_ | refine blk_alloc ?_ _)); exact BK631.out)) : gb631 ≠ gb661)); have n18_ := Aside0.mk ((by rw [hg]; exact Nat.ne_of_gt (blk_lt (g := gb631) (o := .cells #[.int .i64 t627, .slice Ao29 t646.length co29] 33 (0, 0)) (by (with_reducible repeat (first | refine blk_drewN ?_ _ | refine blk_drew ?_ | refine blk_alloc ?_ _)); exact BK631.out)) : gb661 ≠ gb631)); have n19_ := Aside0.mk ((by rw [hg]; exact Nat.ne_of_lt (blk_lt (g := gb638) (o := .cells #[.int .i64 t632, .slice Ao36 t633.length co36] 33 (0, 0)) (by (with_reducible repeat (first | refine blk_drewN ?_ _ | refine blk_drew ?_ | refine blk_alloc ?_ _)); exact BK638.out)) : gb638 ≠ gb661)); have n20_ := Aside0.mk ((by rw [hg]; exact Nat.ne_of_gt (blk_lt (g := gb638) (o := .cells #[.int .i64 t632, .slice Ao36 t633.length co36] 33 (0, 0)) (by (with_reducible repeat (first | refine blk_drewN ?_ _ | refine blk_drew ?_ | refine blk_alloc ?_ _)); exact BK638.out)) : gb661 ≠ gb638)); clear HO_627001; clear HO_632001; clear HO_639001; clear HO654; clear HO658; clear BK614; clear BK626; clear BK631; clear BK638; clear HB; have HO_627001 := n0_; have HO_632001 := n1_; have HO_639001 := n2_; have HO654 := n3_; have HO658 := n4_; have BK614 := n5_; have BK626 := n6_; have BK631 := n7_; have BK638 := n8_; have HB := n9_; have BK661 := n10_; have GW661 := n11_; have GE661 := n12_; have NB614_661 := n13_; have NB661_614 := n14_; have NB626_661 := n15_; have NB661_626 := n16_; have NB631_661 := n17_; have NB661_631 := n18_; have NB638_661 := n19_; have NB661_638 := n20_; clear n0_ n1_ n2_ n3_ n4_ n5_ n6_ n7_ n8_ n9_ n10_ n11_ n12_ n13_ n14_ n15_ n16_ n17_ n18_ n19_ n20_; clear hb hbox hg; have hnb136 := NB661_614.out; have hnc136 := NB614_661.out; have hnb137 := NB661_626.out; have hnc137 := NB626_661.out; have hnb138 := NB661_631.out; have hnc138 := NB631_661.out; have hnb139 := NB661_638.out; have hnc139 := NB638_661.out; have hcz140_0 : w135.cell? ⟨gb661, 0, none⟩ = some (.int .i64 0) := (blk_cell BK661.out 0).trans rfl; have hcz140_1 : w135.cell? ⟨gb661, 1, none⟩ = some (.slice none 0 0) := (blk_cell BK661.out 1).trans rfl; have hfz140_0 := blk_frozen BK661.out 0; have hfz140_1 := blk_frozen BK661.out 1; obtain ⟨Ao141, co141, eo141⟩ := Kd.R_slice HO658.out; subst eo141))
                      (try simp only [Act.put, List.setIfInBounds_toArray, List.set_cons_zero, List.set_cons_succ])
                      go_cut [108] (fun v108 wc => ∃ (kq : Nat) (x108_120 : Bool), v108 = .bool x108_120 ∧ Aside0 (laws_FnExactBoxTake.j2 kq t648 x108_120 t632 t649 = some r) ∧ Aside0 (kq ≤ kj68) ∧ Aside0 (Kd.R (Kd.int .i64) 3 wc w.heap.size (fun k_ => some k_ ≠ ((.slice Ao29 t646.length co29) : Value).ownBlock ∧ some k_ ≠ ((.slice Ao36 t633.length co36) : Value).ownBlock ∧ some k_ ≠ ((.slice Ao141 t656.length co141) : Value).ownBlock) (.slice Ao22 t621.length co22) t621) ∧ Aside0 (Kd.R (Kd.int .i64) 3 wc w.heap.size (fun k_ => some k_ ≠ ((.slice Ao22 t621.length co22) : Value).ownBlock ∧ some k_ ≠ ((.slice Ao36 t633.length co36) : Value).ownBlock ∧ some k_ ≠ ((.slice Ao141 t656.length co141) : Value).ownBlock) (.slice Ao29 t646.length co29) t646) ∧ Aside0 (Kd.R (Kd.int .i64) 3 wc w.heap.size (fun k_ => some k_ ≠ ((.slice Ao22 t621.length co22) : Value).ownBlock ∧ some k_ ≠ ((.slice Ao29 t646.length co29) : Value).ownBlock ∧ some k_ ≠ ((.slice Ao141 t656.length co141) : Value).ownBlock) (.slice Ao36 t633.length co36) t649) ∧ Aside0 (Kd.R (Kd.int .i64) 3 wc w.heap.size (fun k_ => some k_ ≠ ((.slice Ao22 t621.length co22) : Value).ownBlock ∧ some k_ ≠ ((.slice Ao29 t646.length co29) : Value).ownBlock ∧ some k_ ≠ ((.slice Ao36 t633.length co36) : Value).ownBlock) (.slice Ao141 t656.length co141) t656) ∧ Aside0 (wc.heap[gb614]? = some (.cells #[.int .i64 a0_0, (.slice A0_1 l0_1.length c0_1)] 39 (0, 0))) ∧ Aside0 (wc.heap[gb626]? = some (.cells #[.int .i64 t620, (.slice Ao22 t621.length co22)] 33 (0, 0))) ∧ Aside0 (wc.heap[gb631]? = some (.cells #[.int .i64 t627, (.slice Ao29 t646.length co29)] 33 (0, 0))) ∧ Aside0 (wc.heap[gb638]? = some (.cells #[.int .i64 t632, (.slice Ao36 t633.length co36)] 33 (0, 0))) ∧ Aside0 (wc.heap[gb661]? = some (.cells #[.int .i64 t655, (.slice Ao141 t656.length co141)] 33 (0, 0))) ∧ Aside0 (Below w.heap.size w wc))
                      case first =>
                        have H := HC121.out
                        clear HC121
                        replace H := Option.bind_eq_some_iff.mp H
                        obtain ⟨t662, A1420, H⟩ := H
                        replace H : (if t662 = true then (if t659 = t624 then (laws_FnExactBoxTake.j2 kj68 t648 (t660 != t625) t632 t649) else (laws_FnExactBoxTake.j2 kj68 t648 true t632 t649)) else (laws_FnExactBoxTake.j2 kj68 t648 true t632 t649)) = some r := H
                        have A142 := Aside0.mk A1420
                        clear A1420
                        by_cases c143 : t662 = true
                        · subst c143
                          have H1 : (if t659 = t624 then (laws_FnExactBoxTake.j2 kj68 t648 (t660 != t625) t632 t649) else (laws_FnExactBoxTake.j2 kj68 t648 true t632 t649)) = some r := by rw [if_pos rfl] at H; exact H
                          clear H
                          have H := H1
                          clear H1
                          by_cases c144 : t659 = t624
                          · rw [if_pos c144] at H
                            have c144b0 : (t659 == t624) = true := beq_iff_eq.mpr c144
                            have c144b1 : (t659 != t624) = false := bne_eq_false_iff_eq.mpr c144
                            clear c144
                            (first | rw [c144b0] | (simp only [i64_w, i32_w]; rw [c144b0]) | skip)
                            have H' := Aside0.mk H
                            clear H
                            have hnb145 := NB661_614.out
                            have hnc145 := NB614_661.out
                            have hnb146 := NB661_626.out
                            have hnc146 := NB626_661.out
                            have hnb147 := NB661_631.out
                            have hnc147 := NB631_661.out
                            have hnb148 := NB661_638.out
                            have hnc148 := NB638_661.out
                            have hcz149_0 : w135.cell? ⟨gb661, 0, none⟩ = some (.int .i64 0) := (blk_cell BK661.out 0).trans rfl
                            have hcz149_1 : w135.cell? ⟨gb661, 1, none⟩ = some (.slice none 0 0) := (blk_cell BK661.out 1).trans rfl
                            have hfz149_0 := blk_frozen BK661.out 0
                            have hfz149_1 := blk_frozen BK661.out 1
                            have hnb150 := NB626_614.out
                            have hnc150 := NB614_626.out
                            have hnb151 := NB626_631.out
                            have hnc151 := NB631_626.out
                            have hnb152 := NB626_638.out
                            have hnc152 := NB638_626.out
                            have hcz153_0 : w135.cell? ⟨gb626, 0, none⟩ = some (.int .i64 t620) := (blk_cell BK626.out 0).trans rfl
                            have hcz153_1 : w135.cell? ⟨gb626, 1, none⟩ = some (.slice Ao22 t621.length co22) := (blk_cell BK626.out 1).trans rfl
                            have hfz153_0 := blk_frozen BK626.out 0
                            have hfz153_1 := blk_frozen BK626.out 1
                            go_wp2_with (first | ((with_reducible refine gate_callee (f := 29) rfl ?_); refine goesL_ (some 97) rfl rfl Try.func29 (by kernel_rfl) rfl #[.agg #[.int .i64 t655, .slice Ao141 t656.length co141], .agg #[.int .i64 t620, .slice Ao22 t621.length co22]] rfl (by (try simp only [List.map_toArray, List.map_cons, List.map_nil]); first | done | rfl | (simp only [List.length_drop, List.length_take]; rfl)) ?_; (with_reducible refine (laws_eqBox.calls kj68 t655 _ _ t656 t620 _ _ t621 true _ ?side1 ?side2 ?side3 ?side4 A142.out).mono ?_); (case side1 => refine (Kd.R_reads' (e := 3) (base := w.heap.size) (ok := fun k_ => ((((True ∧ some k_ ≠ (.slice Ao22 t621.length co22 : Value).ownBlock) ∧ some k_ ≠ (.slice Ao29 t646.length co29 : Value).ownBlock) ∧ some k_ ≠ (.slice Ao36 t633.length co36 : Value).ownBlock) ∧ some k_ ≠ (.slice Ao133 t652.length co133 : Value).ownBlock)) (n := t656.length) (c := co141) ?_).2.2; exact (by (with_reducible repeat (first | apply Kd.R_alloc | apply Kd.R_drewN | apply Kd.R_drew)); exact (Kd.R_mono (Kd.R_far (p := ⟨gb661, 1, none⟩) (Kd.R_far (p := ⟨gb661, 0, none⟩) (Kd.R_types HO658.out BK661.out (by decide)) (fun _ hk => hk.2) (.int .i64 t655)) (fun _ hk => hk.2) (.slice Ao141 t656.length co141)) (fun _ h_ => h_.1)))); (case side2 => exact (Kd.R_reads' HO658.out).2.1); (case side3 => refine (Kd.R_reads' (e := 3) (base := w.heap.size) (ok := fun k_ => (((some k_ ≠ (.slice Ao29 t646.length co29 : Value).ownBlock ∧ some k_ ≠ (.slice Ao36 t633.length co36 : Value).ownBlock) ∧ some k_ ≠ (.slice Ao133 t652.length co133 : Value).ownBlock) ∧ some k_ ≠ (.slice Ao141 t656.length co141 : Value).ownBlock)) (n := t621.length) (c := co22) ?_).2.2; exact (by (with_reducible repeat (first | apply Kd.R_alloc | apply Kd.R_drewN | apply Kd.R_drew)); exact (Kd.R_mono (Kd.R_far (p := ⟨gb661, 1, none⟩) (Kd.R_far (p := ⟨gb661, 0, none⟩) (Kd.R_types HO_627001.out BK661.out (by decide)) (fun _ hk => hk.2) (.int .i64 t655)) (fun _ hk => hk.2) (.slice Ao141 t656.length co141)) (fun _ h_ => h_.1)))); (case side4 => exact (Kd.R_reads' HO_627001.out).2.1); rintro e w154 ⟨rfl, hb⟩; refine ⟨_, rfl, ?_⟩; have n0_ := Aside0.mk (Kd.R_below (by (with_reducible repeat (first | apply Kd.R_alloc | apply Kd.R_drewN | apply Kd.R_drew)); exact (Kd.R_mono (Kd.R_far (p := ⟨gb661, 1, none⟩) (Kd.R_far (p := ⟨gb661, 0, none⟩) (Kd.R_types HO_627001.out BK661.out (by decide)) (fun _ hk => hk.2) (.int .i64 t655)) (fun _ hk => hk.2) (.slice Ao141 t656.length co141)) (fun _ h_ => h_.1))) hb); have n1_ := Aside0.mk (Kd.R_below (by (with_reducible repeat (first | apply Kd.R_alloc | apply Kd.R_drewN | apply Kd.R_drew)); exact (Kd.R_mono (Kd.R_far (p := ⟨gb661, 1, none⟩) (Kd.R_far (p := ⟨gb661, 0, none⟩) (Kd.R_types HO_632001.out BK661.out (by decide)) (fun _ hk => hk.2) (.int .i64 t655)) (fun _ hk => hk.2) (.slice Ao141 t656.length co141)) (fun _ h_ => h_.1))) hb); have n2_ := Aside0.mk (Kd.R_below (by (with_reducible repeat (first | apply Kd.R_alloc | apply Kd.R_drewN | apply Kd.R_drew)); exact (Kd.R_mono (Kd.R_far (p := ⟨gb661, 1, none⟩) (Kd.R_far (p := ⟨gb661, 0, none⟩) (Kd.R_types HO_639001.out BK661.out (by decide)) (fun _ hk => hk.2) (.int .i64 t655)) (fun _ hk => hk.2) (.slice Ao141 t656.length co141)) (fun _ h_ => h_.1))) hb); have n3_ := Aside0.mk (Kd.R_below (by (with_reducible repeat (first | apply Kd.R_alloc | apply Kd.R_drewN | apply Kd.R_drew)); exact (Kd.R_mono (Kd.R_far (p := ⟨gb661, 1, none⟩) (Kd.R_far (p := ⟨gb661, 0, none⟩) (Kd.R_types HO654.out BK661.out (by decide)) (fun _ hk => hk.2) (.int .i64 t655)) (fun _ hk => hk.2) (.slice Ao141 t656.length co141)) (fun _ h_ => h_.1))) hb); have n4_ := Aside0.mk (Kd.R_below (by (with_reducible repeat (first | apply Kd.R_alloc | apply Kd.R_drewN | apply Kd.R_drew)); exact (Kd.R_mono (Kd.R_far (p := ⟨gb661, 1, none⟩) (Kd.R_far (p := ⟨gb661, 0, none⟩) (Kd.R_types HO658.out BK661.out (by decide)) (fun _ hk => hk.2) (.int .i64 t655)) (fun _ hk => hk.2) (.slice Ao141 t656.length co141)) (fun _ h_ => h_.1))) hb); have n5_ := Aside0.mk (blk_below (g := gb614) (o := .cells #[.int .i64 a0_0, .slice A0_1 l0_1.length c0_1] 39 (0, 0)) (by (with_reducible repeat (first | refine blk_drewN ?_ _ | refine blk_drew ?_ | refine blk_alloc ?_ _)); refine blk_far ?_ NB614_661.out _; (with_reducible repeat (first | refine blk_drewN ?_ _ | refine blk_drew ?_ | refine blk_alloc ?_ _)); refine blk_far ?_ NB614_661.out _; (with_reducible repeat (first | refine blk_drewN ?_ _ | refine blk_drew ?_ | refine blk_alloc ?_ _)); exact BK614.out) hb); have n6_ := Aside0.mk (blk_below (g := gb626) (o := .cells #[.int .i64 t620, .slice Ao22 t621.length co22] 33 (0, 0)) (by (with_reducible repeat (first | refine blk_drewN ?_ _ | refine blk_drew ?_ | refine blk_alloc ?_ _)); refine blk_far ?_ NB626_661.out _; (with_reducible repeat (first | refine blk_drewN ?_ _ | refine blk_drew ?_ | refine blk_alloc ?_ _)); refine blk_far ?_ NB626_661.out _; (with_reducible repeat (first | refine blk_drewN ?_ _ | refine blk_drew ?_ | refine blk_alloc ?_ _)); exact BK626.out) hb); have n7_ := Aside0.mk (blk_below (g := gb631) (o := .cells #[.int .i64 t627, .slice Ao29 t646.length co29] 33 (0, 0)) (by (with_reducible repeat (first | refine blk_drewN ?_ _ | refine blk_drew ?_ | refine blk_alloc ?_ _)); refine blk_far ?_ NB631_661.out _; (with_reducible repeat (first | refine blk_drewN ?_ _ | refine blk_drew ?_ | refine blk_alloc ?_ _)); refine blk_far ?_ NB631_661.out _; (with_reducible repeat (first | refine blk_drewN ?_ _ | refine blk_drew ?_ | refine blk_alloc ?_ _)); exact BK631.out) hb); have n8_ := Aside0.mk (blk_below (g := gb638) (o := .cells #[.int .i64 t632, .slice Ao36 t633.length co36] 33 (0, 0)) (by (with_reducible repeat (first | refine blk_drewN ?_ _ | refine blk_drew ?_ | refine blk_alloc ?_ _)); refine blk_far ?_ NB638_661.out _; (with_reducible repeat (first | refine blk_drewN ?_ _ | refine blk_drew ?_ | refine blk_alloc ?_ _)); refine blk_far ?_ NB638_661.out _; (with_reducible repeat (first | refine blk_drewN ?_ _ | refine blk_drew ?_ | refine blk_alloc ?_ _)); exact BK638.out) hb); have n9_ := Aside0.mk (blk_below (g := gb661) (o := .cells #[.int .i64 t655, .slice Ao141 t656.length co141] 33 (0, 0)) (by (with_reducible repeat (first | refine blk_drewN ?_ _ | refine blk_drew ?_ | refine blk_alloc ?_ _)); refine blk_put (cs := #[.int .i64 t655, .slice none 0 0]) ?_ 1 _ rfl; (with_reducible repeat (first | refine blk_drewN ?_ _ | refine blk_drew ?_ | refine blk_alloc ?_ _)); refine blk_put (cs := #[.int .i64 0, .slice none 0 0]) ?_ 0 _ rfl; (with_reducible repeat (first | refine blk_drewN ?_ _ | refine blk_drew ?_ | refine blk_alloc ?_ _)); exact BK661.out) hb); have n10_ := Aside0.mk (below_step (by repeat (first | (with_reducible first | exact HB.out | apply below_alloc | apply pw_below_drewN | apply below_drew1 | refine below_set ?_ GE614.out | refine below_set ?_ GE626.out | refine below_set ?_ GE631.out | refine below_set ?_ GE638.out | refine below_set ?_ GE661.out) | exact HB.out)) hb); clear HO_627001; clear HO_632001; clear HO_639001; clear HO654; clear HO658; clear BK614; clear BK626; clear BK631; clear BK638; clear BK661; clear HB; have HO_627001 := n0_; have HO_632001 := n1_; have HO_639001 := n2_; have HO654 := n3_; have HO658 := n4_; have BK614 := n5_; have BK626 := n6_; have BK631 := n7_; have BK638 := n8_; have BK661 := n9_; have HB := n10_; clear n0_ n1_ n2_ n3_ n4_ n5_ n6_ n7_ n8_ n9_ n10_; (try clear hb); (try clear hb2); (try clear hk); (try clear hi)))
                            go_meet
                            case rel => exact ⟨_, ((t660 != t625)), (by first | rfl | (simp; done) | (simp [*]; done)), H', ⟨by have := HJ10.out; have := HJ68.out; first | omega | exact Nat.le_refl _⟩, ⟨by (try simp only [hl632001_68]); (with_reducible repeat (first | apply Kd.R_alloc | apply Kd.R_drewN | apply Kd.R_drew)); exact Kd.R_mono HO_627001.out (fun _ hk => ⟨hk.1.1.1, ⟨hk.1.1.2, hk.2⟩⟩)⟩, ⟨by (try simp only [hl632001_68]); (with_reducible repeat (first | apply Kd.R_alloc | apply Kd.R_drewN | apply Kd.R_drew)); exact Kd.R_mono HO_632001.out (fun _ hk => ⟨hk.1.1.1, ⟨hk.1.1.2, hk.2⟩⟩)⟩, ⟨by (try simp only [hl632001_68]); (with_reducible repeat (first | apply Kd.R_alloc | apply Kd.R_drewN | apply Kd.R_drew)); exact Kd.R_mono HO_639001.out (fun _ hk => ⟨hk.1.1.1, ⟨hk.1.1.2, hk.2⟩⟩)⟩, ⟨by (try simp only [hl632001_68]); (with_reducible repeat (first | apply Kd.R_alloc | apply Kd.R_drewN | apply Kd.R_drew)); exact Kd.R_mono HO658.out (fun _ hk => ⟨hk.1.1.1.2, ⟨hk.1.1.2, hk.1.2⟩⟩)⟩, ⟨by (try simp only [hl632001_68]); (with_reducible repeat (first | refine blk_drewN ?_ _ | refine blk_drew ?_ | refine blk_alloc ?_ _)); exact BK614.out⟩, ⟨by (try simp only [hl632001_68]); (with_reducible repeat (first | refine blk_drewN ?_ _ | refine blk_drew ?_ | refine blk_alloc ?_ _)); exact BK626.out⟩, ⟨by (try simp only [hl632001_68]); (with_reducible repeat (first | refine blk_drewN ?_ _ | refine blk_drew ?_ | refine blk_alloc ?_ _)); exact BK631.out⟩, ⟨by (try simp only [hl632001_68]); (with_reducible repeat (first | refine blk_drewN ?_ _ | refine blk_drew ?_ | refine blk_alloc ?_ _)); exact BK638.out⟩, ⟨by (try simp only [hl632001_68]); (with_reducible repeat (first | refine blk_drewN ?_ _ | refine blk_drew ?_ | refine blk_alloc ?_ _)); exact BK661.out⟩, ⟨by repeat (first | (with_reducible first | exact HB.out | apply below_alloc | apply pw_below_drewN | apply below_drew1 | refine below_set ?_ GE614.out | refine below_set ?_ GE626.out | refine below_set ?_ GE631.out | refine below_set ?_ GE638.out | refine below_set ?_ GE661.out) | exact HB.out)⟩⟩
                          · rw [if_neg c144] at H
                            have c144b0 : (t659 == t624) = false := beq_eq_false_iff_ne.mpr c144
                            have c144b1 : (t659 != t624) = true := bne_iff_ne.mpr c144
                            (first | rw [c144b0] | (simp only [i64_w, i32_w]; rw [c144b0]) | skip)
                            have H' := Aside0.mk H
                            clear H
                            have hnb155 := NB661_614.out
                            have hnc155 := NB614_661.out
                            have hnb156 := NB661_626.out
                            have hnc156 := NB626_661.out
                            have hnb157 := NB661_631.out
                            have hnc157 := NB631_661.out
                            have hnb158 := NB661_638.out
                            have hnc158 := NB638_661.out
                            have hcz159_0 : w135.cell? ⟨gb661, 0, none⟩ = some (.int .i64 0) := (blk_cell BK661.out 0).trans rfl
                            have hcz159_1 : w135.cell? ⟨gb661, 1, none⟩ = some (.slice none 0 0) := (blk_cell BK661.out 1).trans rfl
                            have hfz159_0 := blk_frozen BK661.out 0
                            have hfz159_1 := blk_frozen BK661.out 1
                            have hnb160 := NB626_614.out
                            have hnc160 := NB614_626.out
                            have hnb161 := NB626_631.out
                            have hnc161 := NB631_626.out
                            have hnb162 := NB626_638.out
                            have hnc162 := NB638_626.out
                            have hcz163_0 : w135.cell? ⟨gb626, 0, none⟩ = some (.int .i64 t620) := (blk_cell BK626.out 0).trans rfl
                            have hcz163_1 : w135.cell? ⟨gb626, 1, none⟩ = some (.slice Ao22 t621.length co22) := (blk_cell BK626.out 1).trans rfl
                            have hfz163_0 := blk_frozen BK626.out 0
                            have hfz163_1 := blk_frozen BK626.out 1
                            go_wp2_with (first | ((with_reducible refine gate_callee (f := 29) rfl ?_); refine goesL_ (some 97) rfl rfl Try.func29 (by kernel_rfl) rfl #[.agg #[.int .i64 t655, .slice Ao141 t656.length co141], .agg #[.int .i64 t620, .slice Ao22 t621.length co22]] rfl (by (try simp only [List.map_toArray, List.map_cons, List.map_nil]); first | done | rfl | (simp only [List.length_drop, List.length_take]; rfl)) ?_; (with_reducible refine (laws_eqBox.calls kj68 t655 _ _ t656 t620 _ _ t621 true _ ?side1 ?side2 ?side3 ?side4 A142.out).mono ?_); (case side1 => refine (Kd.R_reads' (e := 3) (base := w.heap.size) (ok := fun k_ => ((((True ∧ some k_ ≠ (.slice Ao22 t621.length co22 : Value).ownBlock) ∧ some k_ ≠ (.slice Ao29 t646.length co29 : Value).ownBlock) ∧ some k_ ≠ (.slice Ao36 t633.length co36 : Value).ownBlock) ∧ some k_ ≠ (.slice Ao133 t652.length co133 : Value).ownBlock)) (n := t656.length) (c := co141) ?_).2.2; exact (by (with_reducible repeat (first | apply Kd.R_alloc | apply Kd.R_drewN | apply Kd.R_drew)); exact (Kd.R_mono (Kd.R_far (p := ⟨gb661, 1, none⟩) (Kd.R_far (p := ⟨gb661, 0, none⟩) (Kd.R_types HO658.out BK661.out (by decide)) (fun _ hk => hk.2) (.int .i64 t655)) (fun _ hk => hk.2) (.slice Ao141 t656.length co141)) (fun _ h_ => h_.1)))); (case side2 => exact (Kd.R_reads' HO658.out).2.1); (case side3 => refine (Kd.R_reads' (e := 3) (base := w.heap.size) (ok := fun k_ => (((some k_ ≠ (.slice Ao29 t646.length co29 : Value).ownBlock ∧ some k_ ≠ (.slice Ao36 t633.length co36 : Value).ownBlock) ∧ some k_ ≠ (.slice Ao133 t652.length co133 : Value).ownBlock) ∧ some k_ ≠ (.slice Ao141 t656.length co141 : Value).ownBlock)) (n := t621.length) (c := co22) ?_).2.2; exact (by (with_reducible repeat (first | apply Kd.R_alloc | apply Kd.R_drewN | apply Kd.R_drew)); exact (Kd.R_mono (Kd.R_far (p := ⟨gb661, 1, none⟩) (Kd.R_far (p := ⟨gb661, 0, none⟩) (Kd.R_types HO_627001.out BK661.out (by decide)) (fun _ hk => hk.2) (.int .i64 t655)) (fun _ hk => hk.2) (.slice Ao141 t656.length co141)) (fun _ h_ => h_.1)))); (case side4 => exact (Kd.R_reads' HO_627001.out).2.1); rintro e w164 ⟨rfl, hb⟩; refine ⟨_, rfl, ?_⟩; have n0_ := Aside0.mk (Kd.R_below (by (with_reducible repeat (first | apply Kd.R_alloc | apply Kd.R_drewN | apply Kd.R_drew)); exact (Kd.R_mono (Kd.R_far (p := ⟨gb661, 1, none⟩) (Kd.R_far (p := ⟨gb661, 0, none⟩) (Kd.R_types HO_627001.out BK661.out (by decide)) (fun _ hk => hk.2) (.int .i64 t655)) (fun _ hk => hk.2) (.slice Ao141 t656.length co141)) (fun _ h_ => h_.1))) hb); have n1_ := Aside0.mk (Kd.R_below (by (with_reducible repeat (first | apply Kd.R_alloc | apply Kd.R_drewN | apply Kd.R_drew)); exact (Kd.R_mono (Kd.R_far (p := ⟨gb661, 1, none⟩) (Kd.R_far (p := ⟨gb661, 0, none⟩) (Kd.R_types HO_632001.out BK661.out (by decide)) (fun _ hk => hk.2) (.int .i64 t655)) (fun _ hk => hk.2) (.slice Ao141 t656.length co141)) (fun _ h_ => h_.1))) hb); have n2_ := Aside0.mk (Kd.R_below (by (with_reducible repeat (first | apply Kd.R_alloc | apply Kd.R_drewN | apply Kd.R_drew)); exact (Kd.R_mono (Kd.R_far (p := ⟨gb661, 1, none⟩) (Kd.R_far (p := ⟨gb661, 0, none⟩) (Kd.R_types HO_639001.out BK661.out (by decide)) (fun _ hk => hk.2) (.int .i64 t655)) (fun _ hk => hk.2) (.slice Ao141 t656.length co141)) (fun _ h_ => h_.1))) hb); have n3_ := Aside0.mk (Kd.R_below (by (with_reducible repeat (first | apply Kd.R_alloc | apply Kd.R_drewN | apply Kd.R_drew)); exact (Kd.R_mono (Kd.R_far (p := ⟨gb661, 1, none⟩) (Kd.R_far (p := ⟨gb661, 0, none⟩) (Kd.R_types HO654.out BK661.out (by decide)) (fun _ hk => hk.2) (.int .i64 t655)) (fun _ hk => hk.2) (.slice Ao141 t656.length co141)) (fun _ h_ => h_.1))) hb); have n4_ := Aside0.mk (Kd.R_below (by (with_reducible repeat (first | apply Kd.R_alloc | apply Kd.R_drewN | apply Kd.R_drew)); exact (Kd.R_mono (Kd.R_far (p := ⟨gb661, 1, none⟩) (Kd.R_far (p := ⟨gb661, 0, none⟩) (Kd.R_types HO658.out BK661.out (by decide)) (fun _ hk => hk.2) (.int .i64 t655)) (fun _ hk => hk.2) (.slice Ao141 t656.length co141)) (fun _ h_ => h_.1))) hb); have n5_ := Aside0.mk (blk_below (g := gb614) (o := .cells #[.int .i64 a0_0, .slice A0_1 l0_1.length c0_1] 39 (0, 0)) (by (with_reducible repeat (first | refine blk_drewN ?_ _ | refine blk_drew ?_ | refine blk_alloc ?_ _)); refine blk_far ?_ NB614_661.out _; (with_reducible repeat (first | refine blk_drewN ?_ _ | refine blk_drew ?_ | refine blk_alloc ?_ _)); refine blk_far ?_ NB614_661.out _; (with_reducible repeat (first | refine blk_drewN ?_ _ | refine blk_drew ?_ | refine blk_alloc ?_ _)); exact BK614.out) hb); have n6_ := Aside0.mk (blk_below (g := gb626) (o := .cells #[.int .i64 t620, .slice Ao22 t621.length co22] 33 (0, 0)) (by (with_reducible repeat (first | refine blk_drewN ?_ _ | refine blk_drew ?_ | refine blk_alloc ?_ _)); refine blk_far ?_ NB626_661.out _; (with_reducible repeat (first | refine blk_drewN ?_ _ | refine blk_drew ?_ | refine blk_alloc ?_ _)); refine blk_far ?_ NB626_661.out _; (with_reducible repeat (first | refine blk_drewN ?_ _ | refine blk_drew ?_ | refine blk_alloc ?_ _)); exact BK626.out) hb); have n7_ := Aside0.mk (blk_below (g := gb631) (o := .cells #[.int .i64 t627, .slice Ao29 t646.length co29] 33 (0, 0)) (by (with_reducible repeat (first | refine blk_drewN ?_ _ | refine blk_drew ?_ | refine blk_alloc ?_ _)); refine blk_far ?_ NB631_661.out _; (with_reducible repeat (first | refine blk_drewN ?_ _ | refine blk_drew ?_ | refine blk_alloc ?_ _)); refine blk_far ?_ NB631_661.out _; (with_reducible repeat (first | refine blk_drewN ?_ _ | refine blk_drew ?_ | refine blk_alloc ?_ _)); exact BK631.out) hb); have n8_ := Aside0.mk (blk_below (g := gb638) (o := .cells #[.int .i64 t632, .slice Ao36 t633.length co36] 33 (0, 0)) (by (with_reducible repeat (first | refine blk_drewN ?_ _ | refine blk_drew ?_ | refine blk_alloc ?_ _)); refine blk_far ?_ NB638_661.out _; (with_reducible repeat (first | refine blk_drewN ?_ _ | refine blk_drew ?_ | refine blk_alloc ?_ _)); refine blk_far ?_ NB638_661.out _; (with_reducible repeat (first | refine blk_drewN ?_ _ | refine blk_drew ?_ | refine blk_alloc ?_ _)); exact BK638.out) hb); have n9_ := Aside0.mk (blk_below (g := gb661) (o := .cells #[.int .i64 t655, .slice Ao141 t656.length co141] 33 (0, 0)) (by (with_reducible repeat (first | refine blk_drewN ?_ _ | refine blk_drew ?_ | refine blk_alloc ?_ _)); refine blk_put (cs := #[.int .i64 t655, .slice none 0 0]) ?_ 1 _ rfl; (with_reducible repeat (first | refine blk_drewN ?_ _ | refine blk_drew ?_ | refine blk_alloc ?_ _)); refine blk_put (cs := #[.int .i64 0, .slice none 0 0]) ?_ 0 _ rfl; (with_reducible repeat (first | refine blk_drewN ?_ _ | refine blk_drew ?_ | refine blk_alloc ?_ _)); exact BK661.out) hb); have n10_ := Aside0.mk (below_step (by repeat (first | (with_reducible first | exact HB.out | apply below_alloc | apply pw_below_drewN | apply below_drew1 | refine below_set ?_ GE614.out | refine below_set ?_ GE626.out | refine below_set ?_ GE631.out | refine below_set ?_ GE638.out | refine below_set ?_ GE661.out) | exact HB.out)) hb); clear HO_627001; clear HO_632001; clear HO_639001; clear HO654; clear HO658; clear BK614; clear BK626; clear BK631; clear BK638; clear BK661; clear HB; have HO_627001 := n0_; have HO_632001 := n1_; have HO_639001 := n2_; have HO654 := n3_; have HO658 := n4_; have BK614 := n5_; have BK626 := n6_; have BK631 := n7_; have BK638 := n8_; have BK661 := n9_; have HB := n10_; clear n0_ n1_ n2_ n3_ n4_ n5_ n6_ n7_ n8_ n9_ n10_; (try clear hb); (try clear hb2); (try clear hk); (try clear hi)))
                            go_meet
                            case rel => exact ⟨_, (true), (by first | rfl | (simp; done) | (simp [*]; done)), H', ⟨by have := HJ10.out; have := HJ68.out; first | omega | exact Nat.le_refl _⟩, ⟨by (try simp only [hl632001_68]); (with_reducible repeat (first | apply Kd.R_alloc | apply Kd.R_drewN | apply Kd.R_drew)); exact Kd.R_mono HO_627001.out (fun _ hk => ⟨hk.1.1.1, ⟨hk.1.1.2, hk.2⟩⟩)⟩, ⟨by (try simp only [hl632001_68]); (with_reducible repeat (first | apply Kd.R_alloc | apply Kd.R_drewN | apply Kd.R_drew)); exact Kd.R_mono HO_632001.out (fun _ hk => ⟨hk.1.1.1, ⟨hk.1.1.2, hk.2⟩⟩)⟩, ⟨by (try simp only [hl632001_68]); (with_reducible repeat (first | apply Kd.R_alloc | apply Kd.R_drewN | apply Kd.R_drew)); exact Kd.R_mono HO_639001.out (fun _ hk => ⟨hk.1.1.1, ⟨hk.1.1.2, hk.2⟩⟩)⟩, ⟨by (try simp only [hl632001_68]); (with_reducible repeat (first | apply Kd.R_alloc | apply Kd.R_drewN | apply Kd.R_drew)); exact Kd.R_mono HO658.out (fun _ hk => ⟨hk.1.1.1.2, ⟨hk.1.1.2, hk.1.2⟩⟩)⟩, ⟨by (try simp only [hl632001_68]); (with_reducible repeat (first | refine blk_drewN ?_ _ | refine blk_drew ?_ | refine blk_alloc ?_ _)); exact BK614.out⟩, ⟨by (try simp only [hl632001_68]); (with_reducible repeat (first | refine blk_drewN ?_ _ | refine blk_drew ?_ | refine blk_alloc ?_ _)); exact BK626.out⟩, ⟨by (try simp only [hl632001_68]); (with_reducible repeat (first | refine blk_drewN ?_ _ | refine blk_drew ?_ | refine blk_alloc ?_ _)); exact BK631.out⟩, ⟨by (try simp only [hl632001_68]); (with_reducible repeat (first | refine blk_drewN ?_ _ | refine blk_drew ?_ | refine blk_alloc ?_ _)); exact BK638.out⟩, ⟨by (try simp only [hl632001_68]); (with_reducible repeat (first | refine blk_drewN ?_ _ | refine blk_drew ?_ | refine blk_alloc ?_ _)); exact BK661.out⟩, ⟨by repeat (first | (with_reducible first | exact HB.out | apply below_alloc | apply pw_below_drewN | apply below_drew1 | refine below_set ?_ GE614.out | refine below_set ?_ GE626.out | refine below_set ?_ GE631.out | refine below_set ?_ GE638.out | refine below_set ?_ GE661.out) | exact HB.out)⟩⟩
                        · replace c143 := Bool.eq_false_iff.mpr c143
                          subst c143
                          have H1 : (laws_FnExactBoxTake.j2 kj68 t648 true t632 t649) = some r := by rw [if_neg (show ¬ (false = true) by decide)] at H; exact H
                          clear H
                          have H := H1
                          clear H1
                          have H' := Aside0.mk H
                          clear H
                          have hnb165 := NB661_614.out
                          have hnc165 := NB614_661.out
                          have hnb166 := NB661_626.out
                          have hnc166 := NB626_661.out
                          have hnb167 := NB661_631.out
                          have hnc167 := NB631_661.out
                          have hnb168 := NB661_638.out
                          have hnc168 := NB638_661.out
                          have hcz169_0 : w135.cell? ⟨gb661, 0, none⟩ = some (.int .i64 0) := (blk_cell BK661.out 0).trans rfl
                          have hcz169_1 : w135.cell? ⟨gb661, 1, none⟩ = some (.slice none 0 0) := (blk_cell BK661.out 1).trans rfl
                          have hfz169_0 := blk_frozen BK661.out 0
                          have hfz169_1 := blk_frozen BK661.out 1
                          have hnb170 := NB626_614.out
                          have hnc170 := NB614_626.out
                          have hnb171 := NB626_631.out
                          have hnc171 := NB631_626.out
                          have hnb172 := NB626_638.out
                          have hnc172 := NB638_626.out
                          have hcz173_0 : w135.cell? ⟨gb626, 0, none⟩ = some (.int .i64 t620) := (blk_cell BK626.out 0).trans rfl
                          have hcz173_1 : w135.cell? ⟨gb626, 1, none⟩ = some (.slice Ao22 t621.length co22) := (blk_cell BK626.out 1).trans rfl
                          have hfz173_0 := blk_frozen BK626.out 0
                          have hfz173_1 := blk_frozen BK626.out 1
                          go_wp2_with (first | ((with_reducible refine gate_callee (f := 29) rfl ?_); refine goesL_ (some 97) rfl rfl Try.func29 (by kernel_rfl) rfl #[.agg #[.int .i64 t655, .slice Ao141 t656.length co141], .agg #[.int .i64 t620, .slice Ao22 t621.length co22]] rfl (by (try simp only [List.map_toArray, List.map_cons, List.map_nil]); first | done | rfl | (simp only [List.length_drop, List.length_take]; rfl)) ?_; (with_reducible refine (laws_eqBox.calls kj68 t655 _ _ t656 t620 _ _ t621 false _ ?side1 ?side2 ?side3 ?side4 A142.out).mono ?_); (case side1 => refine (Kd.R_reads' (e := 3) (base := w.heap.size) (ok := fun k_ => ((((True ∧ some k_ ≠ (.slice Ao22 t621.length co22 : Value).ownBlock) ∧ some k_ ≠ (.slice Ao29 t646.length co29 : Value).ownBlock) ∧ some k_ ≠ (.slice Ao36 t633.length co36 : Value).ownBlock) ∧ some k_ ≠ (.slice Ao133 t652.length co133 : Value).ownBlock)) (n := t656.length) (c := co141) ?_).2.2; exact (by (with_reducible repeat (first | apply Kd.R_alloc | apply Kd.R_drewN | apply Kd.R_drew)); exact (Kd.R_mono (Kd.R_far (p := ⟨gb661, 1, none⟩) (Kd.R_far (p := ⟨gb661, 0, none⟩) (Kd.R_types HO658.out BK661.out (by decide)) (fun _ hk => hk.2) (.int .i64 t655)) (fun _ hk => hk.2) (.slice Ao141 t656.length co141)) (fun _ h_ => h_.1)))); (case side2 => exact (Kd.R_reads' HO658.out).2.1); (case side3 => refine (Kd.R_reads' (e := 3) (base := w.heap.size) (ok := fun k_ => (((some k_ ≠ (.slice Ao29 t646.length co29 : Value).ownBlock ∧ some k_ ≠ (.slice Ao36 t633.length co36 : Value).ownBlock) ∧ some k_ ≠ (.slice Ao133 t652.length co133 : Value).ownBlock) ∧ some k_ ≠ (.slice Ao141 t656.length co141 : Value).ownBlock)) (n := t621.length) (c := co22) ?_).2.2; exact (by (with_reducible repeat (first | apply Kd.R_alloc | apply Kd.R_drewN | apply Kd.R_drew)); exact (Kd.R_mono (Kd.R_far (p := ⟨gb661, 1, none⟩) (Kd.R_far (p := ⟨gb661, 0, none⟩) (Kd.R_types HO_627001.out BK661.out (by decide)) (fun _ hk => hk.2) (.int .i64 t655)) (fun _ hk => hk.2) (.slice Ao141 t656.length co141)) (fun _ h_ => h_.1)))); (case side4 => exact (Kd.R_reads' HO_627001.out).2.1); rintro e w174 ⟨rfl, hb⟩; refine ⟨_, rfl, ?_⟩; have n0_ := Aside0.mk (Kd.R_below (by (with_reducible repeat (first | apply Kd.R_alloc | apply Kd.R_drewN | apply Kd.R_drew)); exact (Kd.R_mono (Kd.R_far (p := ⟨gb661, 1, none⟩) (Kd.R_far (p := ⟨gb661, 0, none⟩) (Kd.R_types HO_627001.out BK661.out (by decide)) (fun _ hk => hk.2) (.int .i64 t655)) (fun _ hk => hk.2) (.slice Ao141 t656.length co141)) (fun _ h_ => h_.1))) hb); have n1_ := Aside0.mk (Kd.R_below (by (with_reducible repeat (first | apply Kd.R_alloc | apply Kd.R_drewN | apply Kd.R_drew)); exact (Kd.R_mono (Kd.R_far (p := ⟨gb661, 1, none⟩) (Kd.R_far (p := ⟨gb661, 0, none⟩) (Kd.R_types HO_632001.out BK661.out (by decide)) (fun _ hk => hk.2) (.int .i64 t655)) (fun _ hk => hk.2) (.slice Ao141 t656.length co141)) (fun _ h_ => h_.1))) hb); have n2_ := Aside0.mk (Kd.R_below (by (with_reducible repeat (first | apply Kd.R_alloc | apply Kd.R_drewN | apply Kd.R_drew)); exact (Kd.R_mono (Kd.R_far (p := ⟨gb661, 1, none⟩) (Kd.R_far (p := ⟨gb661, 0, none⟩) (Kd.R_types HO_639001.out BK661.out (by decide)) (fun _ hk => hk.2) (.int .i64 t655)) (fun _ hk => hk.2) (.slice Ao141 t656.length co141)) (fun _ h_ => h_.1))) hb); have n3_ := Aside0.mk (Kd.R_below (by (with_reducible repeat (first | apply Kd.R_alloc | apply Kd.R_drewN | apply Kd.R_drew)); exact (Kd.R_mono (Kd.R_far (p := ⟨gb661, 1, none⟩) (Kd.R_far (p := ⟨gb661, 0, none⟩) (Kd.R_types HO654.out BK661.out (by decide)) (fun _ hk => hk.2) (.int .i64 t655)) (fun _ hk => hk.2) (.slice Ao141 t656.length co141)) (fun _ h_ => h_.1))) hb); have n4_ := Aside0.mk (Kd.R_below (by (with_reducible repeat (first | apply Kd.R_alloc | apply Kd.R_drewN | apply Kd.R_drew)); exact (Kd.R_mono (Kd.R_far (p := ⟨gb661, 1, none⟩) (Kd.R_far (p := ⟨gb661, 0, none⟩) (Kd.R_types HO658.out BK661.out (by decide)) (fun _ hk => hk.2) (.int .i64 t655)) (fun _ hk => hk.2) (.slice Ao141 t656.length co141)) (fun _ h_ => h_.1))) hb); have n5_ := Aside0.mk (blk_below (g := gb614) (o := .cells #[.int .i64 a0_0, .slice A0_1 l0_1.length c0_1] 39 (0, 0)) (by (with_reducible repeat (first | refine blk_drewN ?_ _ | refine blk_drew ?_ | refine blk_alloc ?_ _)); refine blk_far ?_ NB614_661.out _; (with_reducible repeat (first | refine blk_drewN ?_ _ | refine blk_drew ?_ | refine blk_alloc ?_ _)); refine blk_far ?_ NB614_661.out _; (with_reducible repeat (first | refine blk_drewN ?_ _ | refine blk_drew ?_ | refine blk_alloc ?_ _)); exact BK614.out) hb); have n6_ := Aside0.mk (blk_below (g := gb626) (o := .cells #[.int .i64 t620, .slice Ao22 t621.length co22] 33 (0, 0)) (by (with_reducible repeat (first | refine blk_drewN ?_ _ | refine blk_drew ?_ | refine blk_alloc ?_ _)); refine blk_far ?_ NB626_661.out _; (with_reducible repeat (first | refine blk_drewN ?_ _ | refine blk_drew ?_ | refine blk_alloc ?_ _)); refine blk_far ?_ NB626_661.out _; (with_reducible repeat (first | refine blk_drewN ?_ _ | refine blk_drew ?_ | refine blk_alloc ?_ _)); exact BK626.out) hb); have n7_ := Aside0.mk (blk_below (g := gb631) (o := .cells #[.int .i64 t627, .slice Ao29 t646.length co29] 33 (0, 0)) (by (with_reducible repeat (first | refine blk_drewN ?_ _ | refine blk_drew ?_ | refine blk_alloc ?_ _)); refine blk_far ?_ NB631_661.out _; (with_reducible repeat (first | refine blk_drewN ?_ _ | refine blk_drew ?_ | refine blk_alloc ?_ _)); refine blk_far ?_ NB631_661.out _; (with_reducible repeat (first | refine blk_drewN ?_ _ | refine blk_drew ?_ | refine blk_alloc ?_ _)); exact BK631.out) hb); have n8_ := Aside0.mk (blk_below (g := gb638) (o := .cells #[.int .i64 t632, .slice Ao36 t633.length co36] 33 (0, 0)) (by (with_reducible repeat (first | refine blk_drewN ?_ _ | refine blk_drew ?_ | refine blk_alloc ?_ _)); refine blk_far ?_ NB638_661.out _; (with_reducible repeat (first | refine blk_drewN ?_ _ | refine blk_drew ?_ | refine blk_alloc ?_ _)); refine blk_far ?_ NB638_661.out _; (with_reducible repeat (first | refine blk_drewN ?_ _ | refine blk_drew ?_ | refine blk_alloc ?_ _)); exact BK638.out) hb); have n9_ := Aside0.mk (blk_below (g := gb661) (o := .cells #[.int .i64 t655, .slice Ao141 t656.length co141] 33 (0, 0)) (by (with_reducible repeat (first | refine blk_drewN ?_ _ | refine blk_drew ?_ | refine blk_alloc ?_ _)); refine blk_put (cs := #[.int .i64 t655, .slice none 0 0]) ?_ 1 _ rfl; (with_reducible repeat (first | refine blk_drewN ?_ _ | refine blk_drew ?_ | refine blk_alloc ?_ _)); refine blk_put (cs := #[.int .i64 0, .slice none 0 0]) ?_ 0 _ rfl; (with_reducible repeat (first | refine blk_drewN ?_ _ | refine blk_drew ?_ | refine blk_alloc ?_ _)); exact BK661.out) hb); have n10_ := Aside0.mk (below_step (by repeat (first | (with_reducible first | exact HB.out | apply below_alloc | apply pw_below_drewN | apply below_drew1 | refine below_set ?_ GE614.out | refine below_set ?_ GE626.out | refine below_set ?_ GE631.out | refine below_set ?_ GE638.out | refine below_set ?_ GE661.out) | exact HB.out)) hb); clear HO_627001; clear HO_632001; clear HO_639001; clear HO654; clear HO658; clear BK614; clear BK626; clear BK631; clear BK638; clear BK661; clear HB; have HO_627001 := n0_; have HO_632001 := n1_; have HO_639001 := n2_; have HO654 := n3_; have HO658 := n4_; have BK614 := n5_; have BK626 := n6_; have BK631 := n7_; have BK638 := n8_; have BK661 := n9_; have HB := n10_; clear n0_ n1_ n2_ n3_ n4_ n5_ n6_ n7_ n8_ n9_ n10_; (try clear hb); (try clear hb2); (try clear hk); (try clear hi)))
                          go_meet
                          case rel => exact ⟨_, (true), (by first | rfl | (simp; done) | (simp [*]; done)), H', ⟨by have := HJ10.out; have := HJ68.out; first | omega | exact Nat.le_refl _⟩, ⟨by (try simp only [hl632001_68]); (with_reducible repeat (first | apply Kd.R_alloc | apply Kd.R_drewN | apply Kd.R_drew)); exact Kd.R_mono HO_627001.out (fun _ hk => ⟨hk.1.1.1, ⟨hk.1.1.2, hk.2⟩⟩)⟩, ⟨by (try simp only [hl632001_68]); (with_reducible repeat (first | apply Kd.R_alloc | apply Kd.R_drewN | apply Kd.R_drew)); exact Kd.R_mono HO_632001.out (fun _ hk => ⟨hk.1.1.1, ⟨hk.1.1.2, hk.2⟩⟩)⟩, ⟨by (try simp only [hl632001_68]); (with_reducible repeat (first | apply Kd.R_alloc | apply Kd.R_drewN | apply Kd.R_drew)); exact Kd.R_mono HO_639001.out (fun _ hk => ⟨hk.1.1.1, ⟨hk.1.1.2, hk.2⟩⟩)⟩, ⟨by (try simp only [hl632001_68]); (with_reducible repeat (first | apply Kd.R_alloc | apply Kd.R_drewN | apply Kd.R_drew)); exact Kd.R_mono HO658.out (fun _ hk => ⟨hk.1.1.1.2, ⟨hk.1.1.2, hk.1.2⟩⟩)⟩, ⟨by (try simp only [hl632001_68]); (with_reducible repeat (first | refine blk_drewN ?_ _ | refine blk_drew ?_ | refine blk_alloc ?_ _)); exact BK614.out⟩, ⟨by (try simp only [hl632001_68]); (with_reducible repeat (first | refine blk_drewN ?_ _ | refine blk_drew ?_ | refine blk_alloc ?_ _)); exact BK626.out⟩, ⟨by (try simp only [hl632001_68]); (with_reducible repeat (first | refine blk_drewN ?_ _ | refine blk_drew ?_ | refine blk_alloc ?_ _)); exact BK631.out⟩, ⟨by (try simp only [hl632001_68]); (with_reducible repeat (first | refine blk_drewN ?_ _ | refine blk_drew ?_ | refine blk_alloc ?_ _)); exact BK638.out⟩, ⟨by (try simp only [hl632001_68]); (with_reducible repeat (first | refine blk_drewN ?_ _ | refine blk_drew ?_ | refine blk_alloc ?_ _)); exact BK661.out⟩, ⟨by repeat (first | (with_reducible first | exact HB.out | apply below_alloc | apply pw_below_drewN | apply below_drew1 | refine below_set ?_ GE614.out | refine below_set ?_ GE626.out | refine below_set ?_ GE631.out | refine below_set ?_ GE638.out | refine below_set ?_ GE661.out) | exact HB.out)⟩⟩
                      case rest =>
                        clear HC121
                        try clear c1
                        try clear c2
                        try clear p2
                        try clear c3
                        try clear c3b0
                        try clear c4
                        try clear c5
                        try clear c6
                        try clear c7
                        try clear c8
                        try clear c9
                        try clear c10
                        try clear c11
                        try clear c12
                        try clear c13
                        try clear c14
                        try clear c15
                        try clear c16
                        try clear c17
                        try clear c20
                        try clear c25
                        try clear c26
                        try clear c27
                        try clear c29
                        try clear c32
                        try clear c33
                        try clear c34
                        try clear c38
                        try clear c39
                        try clear c39b0
                        try clear c39b1
                        try clear c40
                        try clear c41
                        try clear c42
                        try clear c44
                        try clear c45
                        try clear c48
                        try clear c49
                        try clear c50
                        try clear c52
                        try clear c53
                        try clear c56
                        try clear c57
                        try clear c58
                        try clear c60
                        try clear c61
                        try clear c64
                        try clear c67
                        try clear c74
                        try clear c75
                        try clear c76
                        try clear c79
                        try clear c79b0
                        try clear c81
                        try clear c82
                        try clear c82b0
                        try clear c82b1
                        try clear c83
                        try clear c84
                        try clear c85
                        try clear c87
                        try clear c88
                        try clear c91
                        try clear c92
                        try clear c93
                        try clear c95
                        try clear c96
                        try clear c99
                        try clear c100
                        try clear c101
                        try clear c103
                        try clear c104
                        try clear c107
                        try clear c110
                        try clear c110b0
                        try clear c111
                        try clear c112
                        try clear c113
                        try clear c118
                        try clear c118b0
                        try clear c118b1
                        try clear c122
                        try clear c123
                        try clear c124
                        try clear c129
                        try clear c130
                        try clear c136
                        try clear c137
                        try clear c138
                        try clear c139
                        try clear c143
                        try clear c144
                        try clear c144b0
                        try clear c144b1
                        try clear c145
                        try clear c146
                        try clear c147
                        try clear c148
                        try clear c150
                        try clear c151
                        try clear c152
                        try clear c155
                        try clear c156
                        try clear c157
                        try clear c158
                        try clear c160
                        try clear c161
                        try clear c162
                        try clear c165
                        try clear c166
                        try clear c167
                        try clear c168
                        try clear c170
                        try clear c171
                        try clear c172
                        try clear hcz102_0
                        try clear hcz102_1
                        try clear hcz105_0
                        try clear hcz105_1
                        try clear hcz114_0
                        try clear hcz114_1
                        try clear hcz116_0
                        try clear hcz116_1
                        try clear hcz125_0
                        try clear hcz125_1
                        try clear hcz127_0
                        try clear hcz127_1
                        try clear hcz131_0
                        try clear hcz131_1
                        try clear hcz13_0
                        try clear hcz13_1
                        try clear hcz140_0
                        try clear hcz140_1
                        try clear hcz149_0
                        try clear hcz149_1
                        try clear hcz153_0
                        try clear hcz153_1
                        try clear hcz159_0
                        try clear hcz159_1
                        try clear hcz15_0
                        try clear hcz15_1
                        try clear hcz163_0
                        try clear hcz163_1
                        try clear hcz169_0
                        try clear hcz169_1
                        try clear hcz173_0
                        try clear hcz173_1
                        try clear hcz21_0
                        try clear hcz21_1
                        try clear hcz23_0
                        try clear hcz23_1
                        try clear hcz28_0
                        try clear hcz28_1
                        try clear hcz35_0
                        try clear hcz35_1
                        try clear hcz43_0
                        try clear hcz43_1
                        try clear hcz46_0
                        try clear hcz46_1
                        try clear hcz51_0
                        try clear hcz51_1
                        try clear hcz54_0
                        try clear hcz54_1
                        try clear hcz59_0
                        try clear hcz59_1
                        try clear hcz5_0
                        try clear hcz5_1
                        try clear hcz62_0
                        try clear hcz62_1
                        try clear hcz77_0
                        try clear hcz77_1
                        try clear hcz86_0
                        try clear hcz86_1
                        try clear hcz89_0
                        try clear hcz89_1
                        try clear hcz94_0
                        try clear hcz94_1
                        try clear hcz97_0
                        try clear hcz97_1
                        try clear hfz102_0
                        try clear hfz102_1
                        try clear hfz105_0
                        try clear hfz105_1
                        try clear hfz114_0
                        try clear hfz114_1
                        try clear hfz116_0
                        try clear hfz116_1
                        try clear hfz125_0
                        try clear hfz125_1
                        try clear hfz127_0
                        try clear hfz127_1
                        try clear hfz131_0
                        try clear hfz131_1
                        try clear hfz13_0
                        try clear hfz13_1
                        try clear hfz140_0
                        try clear hfz140_1
                        try clear hfz149_0
                        try clear hfz149_1
                        try clear hfz153_0
                        try clear hfz153_1
                        try clear hfz159_0
                        try clear hfz159_1
                        try clear hfz15_0
                        try clear hfz15_1
                        try clear hfz163_0
                        try clear hfz163_1
                        try clear hfz169_0
                        try clear hfz169_1
                        try clear hfz173_0
                        try clear hfz173_1
                        try clear hfz21_0
                        try clear hfz21_1
                        try clear hfz23_0
                        try clear hfz23_1
                        try clear hfz28_0
                        try clear hfz28_1
                        try clear hfz35_0
                        try clear hfz35_1
                        try clear hfz43_0
                        try clear hfz43_1
                        try clear hfz46_0
                        try clear hfz46_1
                        try clear hfz51_0
                        try clear hfz51_1
                        try clear hfz54_0
                        try clear hfz54_1
                        try clear hfz59_0
                        try clear hfz59_1
                        try clear hfz5_0
                        try clear hfz5_1
                        try clear hfz62_0
                        try clear hfz62_1
                        try clear hfz77_0
                        try clear hfz77_1
                        try clear hfz86_0
                        try clear hfz86_1
                        try clear hfz89_0
                        try clear hfz89_1
                        try clear hfz94_0
                        try clear hfz94_1
                        try clear hfz97_0
                        try clear hfz97_1
                        try clear p2
                        obtain ⟨kq, x108_120, rfl, HA, HJ120, HO_627001, HO_632001, HO_639001, HO_662001, BK614, BK626, BK631, BK638, BK661, HB⟩ := hcut
                        have hl639001_120 := (Kd.R_reads' HO_639001.out).1
                        rw [hl639001_120] at HO_639001
                        (try simp only [hl639001_120])
                        (try simp only [hl639001_120] at BK614)
                        (try simp only [hl639001_120] at BK626)
                        (try simp only [hl639001_120] at BK631)
                        (try simp only [hl639001_120] at BK638)
                        (try simp only [hl639001_120] at BK661)
                        (try simp only [hl639001_120] at HO_627001)
                        (try simp only [hl639001_120] at HO_632001)
                        (try simp only [hl639001_120] at HO_662001)
                        cases kq with
                        | zero => exact absurd HA.out (by simp [laws_FnExactBoxTake.j2])
                        | succ kj120 =>
                          have H := HA.out
                          clear HA
                          simp only [laws_FnExactBoxTake.j2] at H
                          by_cases c175 : x108_120 = true
                          · subst c175
                            have H1 : (some false) = some r := by rw [if_pos rfl] at H; exact H
                            clear H
                            have H := H1
                            clear H1
                            obtain rfl := Option.some.inj H
                            go_wp2
                            go_ret
                            exact ⟨by first | rfl | (simp [errW_none, errW_some] <;> rfl) | (simp [*, errW_none, errW_some] <;> rfl), by repeat (first | (with_reducible first | exact HB.out | apply below_alloc | apply pw_below_drewN | apply below_drew1 | refine below_set ?_ GE614.out | refine below_set ?_ GE626.out | refine below_set ?_ GE631.out | refine below_set ?_ GE638.out | refine below_set ?_ GE661.out) | exact HB.out)⟩
                          · replace c175 := Bool.eq_false_iff.mpr c175
                            subst c175
                            have H1 : ((laws_heldBox.f kj120 t632 t649 1).bind fun t663 => (if t663 < 0 then (some false) else (if t663 = t648 then (some true) else (some false)))) = some r := by rw [if_neg (show ¬ (false = true) by decide)] at H; exact H
                            clear H
                            have H := H1
                            clear H1
                            replace H := Option.bind_eq_some_iff.mp H
                            obtain ⟨t663, A1760, H⟩ := H
                            replace H : (if t663 < 0 then (some false) else (if t663 = t648 then (some true) else (some false))) = some r := H
                            have A176 := Aside0.mk A1760
                            clear A1760
                            by_cases c177 : t663 < 0
                            · rw [if_pos c177] at H
                              have c177b0 : decide (t663 < 0) = true := decide_eq_true c177
                              clear c177
                              obtain rfl := Option.some.inj H
                              have hnb178 := NB638_614.out
                              have hnc178 := NB614_638.out
                              have hnb179 := NB638_626.out
                              have hnc179 := NB626_638.out
                              have hnb180 := NB638_631.out
                              have hnc180 := NB631_638.out
                              have hnb181 := NB638_661.out
                              have hnc181 := NB661_638.out
                              have hcz182_0 : wc.cell? ⟨gb638, 0, none⟩ = some (.int .i64 t632) := (blk_cell BK638.out 0).trans rfl
                              have hcz182_1 : wc.cell? ⟨gb638, 1, none⟩ = some (.slice Ao36 t649.length co36) := (blk_cell BK638.out 1).trans rfl
                              have hfz182_0 := blk_frozen BK638.out 0
                              have hfz182_1 := blk_frozen BK638.out 1
                              go_wp2_with (first | ((with_reducible refine gate_callee (f := 40) rfl ?_); refine goesL_ (some 111) rfl rfl Try.func40 (by kernel_rfl) rfl #[.agg #[.int .i64 t632, .slice Ao36 t649.length co36], .int .i64 1] rfl (by (try simp only [List.map_toArray, List.map_cons, List.map_nil]); first | done | rfl | (simp only [List.length_drop, List.length_take]; rfl)) ?_; (with_reducible refine (laws_heldBox.calls kj120 t632 _ _ t649 1 t663 _ ?side1 ?side2 A176.out).mono ?_); (case side1 => repeat (first | exact (Kd.R_reads' HO_639001.out).2.2 | (with_reducible refine Kd.C_alloc ?_ _) | (with_reducible refine Kd.C_drewN ?_ _) | (with_reducible refine Kd.C_drew ?_))); (case side2 => exact (Kd.R_reads' HO_639001.out).2.1); rintro e w183 ⟨rfl, hb⟩; refine ⟨_, rfl, ?_⟩; have n0_ := Aside0.mk (Kd.R_below (by (with_reducible repeat (first | apply Kd.R_alloc | apply Kd.R_drewN | apply Kd.R_drew)); exact HO_627001.out) hb); have n1_ := Aside0.mk (Kd.R_below (by (with_reducible repeat (first | apply Kd.R_alloc | apply Kd.R_drewN | apply Kd.R_drew)); exact HO_632001.out) hb); have n2_ := Aside0.mk (Kd.R_below (by (with_reducible repeat (first | apply Kd.R_alloc | apply Kd.R_drewN | apply Kd.R_drew)); exact HO_639001.out) hb); have n3_ := Aside0.mk (Kd.R_below (by (with_reducible repeat (first | apply Kd.R_alloc | apply Kd.R_drewN | apply Kd.R_drew)); exact HO_662001.out) hb); have n4_ := Aside0.mk (blk_below (g := gb614) (o := .cells #[.int .i64 a0_0, .slice A0_1 l0_1.length c0_1] 39 (0, 0)) (by (with_reducible repeat (first | refine blk_drewN ?_ _ | refine blk_drew ?_ | refine blk_alloc ?_ _)); exact BK614.out) hb); have n5_ := Aside0.mk (blk_below (g := gb626) (o := .cells #[.int .i64 t620, .slice Ao22 t621.length co22] 33 (0, 0)) (by (with_reducible repeat (first | refine blk_drewN ?_ _ | refine blk_drew ?_ | refine blk_alloc ?_ _)); exact BK626.out) hb); have n6_ := Aside0.mk (blk_below (g := gb631) (o := .cells #[.int .i64 t627, .slice Ao29 t646.length co29] 33 (0, 0)) (by (with_reducible repeat (first | refine blk_drewN ?_ _ | refine blk_drew ?_ | refine blk_alloc ?_ _)); exact BK631.out) hb); have n7_ := Aside0.mk (blk_below (g := gb638) (o := .cells #[.int .i64 t632, .slice Ao36 t649.length co36] 33 (0, 0)) (by (with_reducible repeat (first | refine blk_drewN ?_ _ | refine blk_drew ?_ | refine blk_alloc ?_ _)); exact BK638.out) hb); have n8_ := Aside0.mk (blk_below (g := gb661) (o := .cells #[.int .i64 t655, .slice Ao141 t656.length co141] 33 (0, 0)) (by (with_reducible repeat (first | refine blk_drewN ?_ _ | refine blk_drew ?_ | refine blk_alloc ?_ _)); exact BK661.out) hb); have n9_ := Aside0.mk (below_step (by repeat (first | (with_reducible first | exact HB.out | apply below_alloc | apply pw_below_drewN | apply below_drew1 | refine below_set ?_ GE614.out | refine below_set ?_ GE626.out | refine below_set ?_ GE631.out | refine below_set ?_ GE638.out | refine below_set ?_ GE661.out) | exact HB.out)) hb); clear HO_627001; clear HO_632001; clear HO_639001; clear HO_662001; clear BK614; clear BK626; clear BK631; clear BK638; clear BK661; clear HB; have HO_627001 := n0_; have HO_632001 := n1_; have HO_639001 := n2_; have HO_662001 := n3_; have BK614 := n4_; have BK626 := n5_; have BK631 := n6_; have BK638 := n7_; have BK661 := n8_; have HB := n9_; clear n0_ n1_ n2_ n3_ n4_ n5_ n6_ n7_ n8_ n9_; (try clear hb); (try clear hb2); (try clear hk); (try clear hi)))
                              go_ret
                              exact ⟨by first | rfl | (simp [errW_none, errW_some] <;> rfl) | (simp [*, errW_none, errW_some] <;> rfl), by repeat (first | (with_reducible first | exact HB.out | apply below_alloc | apply pw_below_drewN | apply below_drew1 | refine below_set ?_ GE614.out | refine below_set ?_ GE626.out | refine below_set ?_ GE631.out | refine below_set ?_ GE638.out | refine below_set ?_ GE661.out) | exact HB.out)⟩
                            · rw [if_neg c177] at H
                              have c177b0 : decide (t663 < 0) = false := decide_eq_false c177
                              clear c177
                              by_cases c184 : t663 = t648
                              · rw [if_pos c184] at H
                                have c184b0 : (t663 == t648) = true := beq_iff_eq.mpr c184
                                have c184b1 : (t663 != t648) = false := bne_eq_false_iff_eq.mpr c184
                                clear c184
                                obtain rfl := Option.some.inj H
                                have hnb185 := NB638_614.out
                                have hnc185 := NB614_638.out
                                have hnb186 := NB638_626.out
                                have hnc186 := NB626_638.out
                                have hnb187 := NB638_631.out
                                have hnc187 := NB631_638.out
                                have hnb188 := NB638_661.out
                                have hnc188 := NB661_638.out
                                have hcz189_0 : wc.cell? ⟨gb638, 0, none⟩ = some (.int .i64 t632) := (blk_cell BK638.out 0).trans rfl
                                have hcz189_1 : wc.cell? ⟨gb638, 1, none⟩ = some (.slice Ao36 t649.length co36) := (blk_cell BK638.out 1).trans rfl
                                have hfz189_0 := blk_frozen BK638.out 0
                                have hfz189_1 := blk_frozen BK638.out 1
                                go_wp2_with (first | ((with_reducible refine gate_callee (f := 40) rfl ?_); refine goesL_ (some 111) rfl rfl Try.func40 (by kernel_rfl) rfl #[.agg #[.int .i64 t632, .slice Ao36 t649.length co36], .int .i64 1] rfl (by (try simp only [List.map_toArray, List.map_cons, List.map_nil]); first | done | rfl | (simp only [List.length_drop, List.length_take]; rfl)) ?_; (with_reducible refine (laws_heldBox.calls kj120 t632 _ _ t649 1 t663 _ ?side1 ?side2 A176.out).mono ?_); (case side1 => repeat (first | exact (Kd.R_reads' HO_639001.out).2.2 | (with_reducible refine Kd.C_alloc ?_ _) | (with_reducible refine Kd.C_drewN ?_ _) | (with_reducible refine Kd.C_drew ?_))); (case side2 => exact (Kd.R_reads' HO_639001.out).2.1); rintro e w190 ⟨rfl, hb⟩; refine ⟨_, rfl, ?_⟩; have n0_ := Aside0.mk (Kd.R_below (by (with_reducible repeat (first | apply Kd.R_alloc | apply Kd.R_drewN | apply Kd.R_drew)); exact HO_627001.out) hb); have n1_ := Aside0.mk (Kd.R_below (by (with_reducible repeat (first | apply Kd.R_alloc | apply Kd.R_drewN | apply Kd.R_drew)); exact HO_632001.out) hb); have n2_ := Aside0.mk (Kd.R_below (by (with_reducible repeat (first | apply Kd.R_alloc | apply Kd.R_drewN | apply Kd.R_drew)); exact HO_639001.out) hb); have n3_ := Aside0.mk (Kd.R_below (by (with_reducible repeat (first | apply Kd.R_alloc | apply Kd.R_drewN | apply Kd.R_drew)); exact HO_662001.out) hb); have n4_ := Aside0.mk (blk_below (g := gb614) (o := .cells #[.int .i64 a0_0, .slice A0_1 l0_1.length c0_1] 39 (0, 0)) (by (with_reducible repeat (first | refine blk_drewN ?_ _ | refine blk_drew ?_ | refine blk_alloc ?_ _)); exact BK614.out) hb); have n5_ := Aside0.mk (blk_below (g := gb626) (o := .cells #[.int .i64 t620, .slice Ao22 t621.length co22] 33 (0, 0)) (by (with_reducible repeat (first | refine blk_drewN ?_ _ | refine blk_drew ?_ | refine blk_alloc ?_ _)); exact BK626.out) hb); have n6_ := Aside0.mk (blk_below (g := gb631) (o := .cells #[.int .i64 t627, .slice Ao29 t646.length co29] 33 (0, 0)) (by (with_reducible repeat (first | refine blk_drewN ?_ _ | refine blk_drew ?_ | refine blk_alloc ?_ _)); exact BK631.out) hb); have n7_ := Aside0.mk (blk_below (g := gb638) (o := .cells #[.int .i64 t632, .slice Ao36 t649.length co36] 33 (0, 0)) (by (with_reducible repeat (first | refine blk_drewN ?_ _ | refine blk_drew ?_ | refine blk_alloc ?_ _)); exact BK638.out) hb); have n8_ := Aside0.mk (blk_below (g := gb661) (o := .cells #[.int .i64 t655, .slice Ao141 t656.length co141] 33 (0, 0)) (by (with_reducible repeat (first | refine blk_drewN ?_ _ | refine blk_drew ?_ | refine blk_alloc ?_ _)); exact BK661.out) hb); have n9_ := Aside0.mk (below_step (by repeat (first | (with_reducible first | exact HB.out | apply below_alloc | apply pw_below_drewN | apply below_drew1 | refine below_set ?_ GE614.out | refine below_set ?_ GE626.out | refine below_set ?_ GE631.out | refine below_set ?_ GE638.out | refine below_set ?_ GE661.out) | exact HB.out)) hb); clear HO_627001; clear HO_632001; clear HO_639001; clear HO_662001; clear BK614; clear BK626; clear BK631; clear BK638; clear BK661; clear HB; have HO_627001 := n0_; have HO_632001 := n1_; have HO_639001 := n2_; have HO_662001 := n3_; have BK614 := n4_; have BK626 := n5_; have BK631 := n6_; have BK638 := n7_; have BK661 := n8_; have HB := n9_; clear n0_ n1_ n2_ n3_ n4_ n5_ n6_ n7_ n8_ n9_; (try clear hb); (try clear hb2); (try clear hk); (try clear hi)))
                                go_ret
                                exact ⟨by first | rfl | (simp [errW_none, errW_some] <;> rfl) | (simp [*, errW_none, errW_some] <;> rfl), by repeat (first | (with_reducible first | exact HB.out | apply below_alloc | apply pw_below_drewN | apply below_drew1 | refine below_set ?_ GE614.out | refine below_set ?_ GE626.out | refine below_set ?_ GE631.out | refine below_set ?_ GE638.out | refine below_set ?_ GE661.out) | exact HB.out)⟩
                              · rw [if_neg c184] at H
                                have c184b0 : (t663 == t648) = false := beq_eq_false_iff_ne.mpr c184
                                have c184b1 : (t663 != t648) = true := bne_iff_ne.mpr c184
                                obtain rfl := Option.some.inj H
                                have hnb191 := NB638_614.out
                                have hnc191 := NB614_638.out
                                have hnb192 := NB638_626.out
                                have hnc192 := NB626_638.out
                                have hnb193 := NB638_631.out
                                have hnc193 := NB631_638.out
                                have hnb194 := NB638_661.out
                                have hnc194 := NB661_638.out
                                have hcz195_0 : wc.cell? ⟨gb638, 0, none⟩ = some (.int .i64 t632) := (blk_cell BK638.out 0).trans rfl
                                have hcz195_1 : wc.cell? ⟨gb638, 1, none⟩ = some (.slice Ao36 t649.length co36) := (blk_cell BK638.out 1).trans rfl
                                have hfz195_0 := blk_frozen BK638.out 0
                                have hfz195_1 := blk_frozen BK638.out 1
                                go_wp2_with (first | ((with_reducible refine gate_callee (f := 40) rfl ?_); refine goesL_ (some 111) rfl rfl Try.func40 (by kernel_rfl) rfl #[.agg #[.int .i64 t632, .slice Ao36 t649.length co36], .int .i64 1] rfl (by (try simp only [List.map_toArray, List.map_cons, List.map_nil]); first | done | rfl | (simp only [List.length_drop, List.length_take]; rfl)) ?_; (with_reducible refine (laws_heldBox.calls kj120 t632 _ _ t649 1 t663 _ ?side1 ?side2 A176.out).mono ?_); (case side1 => repeat (first | exact (Kd.R_reads' HO_639001.out).2.2 | (with_reducible refine Kd.C_alloc ?_ _) | (with_reducible refine Kd.C_drewN ?_ _) | (with_reducible refine Kd.C_drew ?_))); (case side2 => exact (Kd.R_reads' HO_639001.out).2.1); rintro e w196 ⟨rfl, hb⟩; refine ⟨_, rfl, ?_⟩; have n0_ := Aside0.mk (Kd.R_below (by (with_reducible repeat (first | apply Kd.R_alloc | apply Kd.R_drewN | apply Kd.R_drew)); exact HO_627001.out) hb); have n1_ := Aside0.mk (Kd.R_below (by (with_reducible repeat (first | apply Kd.R_alloc | apply Kd.R_drewN | apply Kd.R_drew)); exact HO_632001.out) hb); have n2_ := Aside0.mk (Kd.R_below (by (with_reducible repeat (first | apply Kd.R_alloc | apply Kd.R_drewN | apply Kd.R_drew)); exact HO_639001.out) hb); have n3_ := Aside0.mk (Kd.R_below (by (with_reducible repeat (first | apply Kd.R_alloc | apply Kd.R_drewN | apply Kd.R_drew)); exact HO_662001.out) hb); have n4_ := Aside0.mk (blk_below (g := gb614) (o := .cells #[.int .i64 a0_0, .slice A0_1 l0_1.length c0_1] 39 (0, 0)) (by (with_reducible repeat (first | refine blk_drewN ?_ _ | refine blk_drew ?_ | refine blk_alloc ?_ _)); exact BK614.out) hb); have n5_ := Aside0.mk (blk_below (g := gb626) (o := .cells #[.int .i64 t620, .slice Ao22 t621.length co22] 33 (0, 0)) (by (with_reducible repeat (first | refine blk_drewN ?_ _ | refine blk_drew ?_ | refine blk_alloc ?_ _)); exact BK626.out) hb); have n6_ := Aside0.mk (blk_below (g := gb631) (o := .cells #[.int .i64 t627, .slice Ao29 t646.length co29] 33 (0, 0)) (by (with_reducible repeat (first | refine blk_drewN ?_ _ | refine blk_drew ?_ | refine blk_alloc ?_ _)); exact BK631.out) hb); have n7_ := Aside0.mk (blk_below (g := gb638) (o := .cells #[.int .i64 t632, .slice Ao36 t649.length co36] 33 (0, 0)) (by (with_reducible repeat (first | refine blk_drewN ?_ _ | refine blk_drew ?_ | refine blk_alloc ?_ _)); exact BK638.out) hb); have n8_ := Aside0.mk (blk_below (g := gb661) (o := .cells #[.int .i64 t655, .slice Ao141 t656.length co141] 33 (0, 0)) (by (with_reducible repeat (first | refine blk_drewN ?_ _ | refine blk_drew ?_ | refine blk_alloc ?_ _)); exact BK661.out) hb); have n9_ := Aside0.mk (below_step (by repeat (first | (with_reducible first | exact HB.out | apply below_alloc | apply pw_below_drewN | apply below_drew1 | refine below_set ?_ GE614.out | refine below_set ?_ GE626.out | refine below_set ?_ GE631.out | refine below_set ?_ GE638.out | refine below_set ?_ GE661.out) | exact HB.out)) hb); clear HO_627001; clear HO_632001; clear HO_639001; clear HO_662001; clear BK614; clear BK626; clear BK631; clear BK638; clear BK661; clear HB; have HO_627001 := n0_; have HO_632001 := n1_; have HO_639001 := n2_; have HO_662001 := n3_; have BK614 := n4_; have BK626 := n5_; have BK631 := n6_; have BK638 := n7_; have BK661 := n8_; have HB := n9_; clear n0_ n1_ n2_ n3_ n4_ n5_ n6_ n7_ n8_ n9_; (try clear hb); (try clear hb2); (try clear hk); (try clear hi)))
                                go_ret
                                exact ⟨by first | rfl | (simp [errW_none, errW_some] <;> rfl) | (simp [*, errW_none, errW_some] <;> rfl), by repeat (first | (with_reducible first | exact HB.out | apply below_alloc | apply pw_below_drewN | apply below_drew1 | refine below_set ?_ GE614.out | refine below_set ?_ GE626.out | refine below_set ?_ GE631.out | refine below_set ?_ GE638.out | refine below_set ?_ GE661.out) | exact HB.out)⟩
                    · rw [if_neg c118] at H
                      have c118b0 : (t650 == t648) = false := beq_eq_false_iff_ne.mpr c118
                      have c118b1 : (t650 != t648) = true := bne_iff_ne.mpr c118
                      obtain rfl := Option.some.inj H
                      have hnb197 := NB638_614.out
                      have hnc197 := NB614_638.out
                      have hnb198 := NB638_626.out
                      have hnc198 := NB626_638.out
                      have hnb199 := NB638_631.out
                      have hnc199 := NB631_638.out
                      have hcz200_0 : wc.cell? ⟨gb638, 0, none⟩ = some (.int .i64 t632) := (blk_cell BK638.out 0).trans rfl
                      have hcz200_1 : wc.cell? ⟨gb638, 1, none⟩ = some (.slice Ao36 t633.length co36) := (blk_cell BK638.out 1).trans rfl
                      have hfz200_0 := blk_frozen BK638.out 0
                      have hfz200_1 := blk_frozen BK638.out 1
                      go_wp2_with (first | ((with_reducible refine gate_callee (f := 39) rfl ?_); refine goesL_ (some 79) rfl rfl Try.func39 (by kernel_rfl) rfl #[.agg #[.int .i64 t632, .slice Ao36 t633.length co36], .int .i64 1] rfl (by (try simp only [List.map_toArray, List.map_cons, List.map_nil]); first | done | rfl | (simp only [List.length_drop, List.length_take]; rfl)) ?_; (with_reducible refine (laws_markBox.calls kj68 t632 (fun k_ => some k_ = (.slice Ao36 t633.length co36 : Value).ownBlock) (.slice Ao36 t633.length co36) t633 1 t648 t649 w _ ?side1 ?side2 A108.out).mono ?_); (case side1 => repeat (first | (with_reducible first | exact HB.out | apply below_alloc | apply pw_below_drewN | apply below_drew1 | refine below_set ?_ GE614.out | refine below_set ?_ GE626.out | refine below_set ?_ GE631.out | refine below_set ?_ GE638.out) | exact HB.out)); (case side2 => exact Kd.R_tight rfl HO_639001.out); rintro e w201 ⟨rfl, hy0, hb, hkp⟩; refine ⟨_, rfl, ?_⟩; have n0_ := Aside0.mk (Kd.R_mono (ok' := fun k_ => some k_ ≠ (.slice Ao29 t646.length co29 : Value).ownBlock ∧ some k_ ≠ (.slice Ao36 t633.length co36 : Value).ownBlock) (Kd.R_keptB (HO_627001.out) hkp (fun k_ hk_ hs_ => (hk_.2) hs_)) (fun k_ hk_ => ⟨hk_.1.1, hk_.1.2⟩)); have n1_ := Aside0.mk (Kd.R_mono (ok' := fun k_ => some k_ ≠ (.slice Ao22 t621.length co22 : Value).ownBlock ∧ some k_ ≠ (.slice Ao36 t633.length co36 : Value).ownBlock) (Kd.R_keptB (HO_632001.out) hkp (fun k_ hk_ hs_ => (hk_.2) hs_)) (fun k_ hk_ => ⟨hk_.1.1, hk_.1.2⟩)); have n2_ := Aside0.mk (Kd.R_reok rfl hy0 (fun k_ e_ => HO_639001.out.1 k_ e_)); have n3_ := Aside0.mk (blk_kept (by (with_reducible repeat (first | refine blk_drewN ?_ _ | refine blk_drew ?_ | refine blk_alloc ?_ _)); exact BK614.out) hkp (fun hs_ => (fun e_ => (Kd.R_ne HO_639001.out BK614.out (by decide)) e_) hs_)); have n4_ := Aside0.mk (blk_kept (by (with_reducible repeat (first | refine blk_drewN ?_ _ | refine blk_drew ?_ | refine blk_alloc ?_ _)); exact BK626.out) hkp (fun hs_ => (fun e_ => (Kd.R_ne HO_639001.out BK626.out (by decide)) e_) hs_)); have n5_ := Aside0.mk (blk_kept (by (with_reducible repeat (first | refine blk_drewN ?_ _ | refine blk_drew ?_ | refine blk_alloc ?_ _)); exact BK631.out) hkp (fun hs_ => (fun e_ => (Kd.R_ne HO_639001.out BK631.out (by decide)) e_) hs_)); have n6_ := Aside0.mk (blk_kept (by (with_reducible repeat (first | refine blk_drewN ?_ _ | refine blk_drew ?_ | refine blk_alloc ?_ _)); exact BK638.out) hkp (fun hs_ => (fun e_ => (Kd.R_ne HO_639001.out BK638.out (by decide)) e_) hs_)); have n7_ := Aside0.mk (hb); clear HO_627001; clear HO_632001; clear HO_639001; clear BK614; clear BK626; clear BK631; clear BK638; clear HB; have HO_627001 := n0_; have HO_632001 := n1_; have HO_639001 := n2_; have BK614 := n3_; have BK626 := n4_; have BK631 := n5_; have BK638 := n6_; have HB := n7_; clear n0_ n1_ n2_ n3_ n4_ n5_ n6_ n7_; (try clear hb); (try clear hkp); (try clear hy0); have hcz202_0 : w201.cell? ⟨gb638, 0, none⟩ = some (.int .i64 t632) := (blk_cell BK638.out 0).trans rfl; have hcz202_1 : w201.cell? ⟨gb638, 1, none⟩ = some (.slice Ao36 t633.length co36) := (blk_cell BK638.out 1).trans rfl; have hfz202_0 := blk_frozen BK638.out 0; have hfz202_1 := blk_frozen BK638.out 1) | ((with_reducible refine gate_callee (f := 40) rfl ?_); refine goesL_ (some 82) rfl rfl Try.func40 (by kernel_rfl) rfl #[.agg #[.int .i64 t632, .slice Ao36 t649.length co36], .int .i64 1] rfl (by (try simp only [List.map_toArray, List.map_cons, List.map_nil]); first | done | (rw [show t649.length = t633.length from (Kd.R_reads' HO_639001.out).1.symm] <;> rfl) | rfl | (simp only [List.length_drop, List.length_take]; rfl)) ?_; (with_reducible refine (laws_heldBox.calls kj68 t632 _ _ t649 1 t650 _ ?side1 ?side2 A109.out).mono ?_); (case side1 => repeat (first | exact (Kd.R_reads' HO_639001.out).2.2 | (with_reducible refine Kd.C_alloc ?_ _) | (with_reducible refine Kd.C_drewN ?_ _) | (with_reducible refine Kd.C_drew ?_))); (case side2 => rw [show t649.length = t633.length from (Kd.R_reads' HO_639001.out).1.symm]; exact (Kd.R_reads' HO_639001.out).2.1); rintro e w203 ⟨rfl, hb⟩; refine ⟨_, rfl, ?_⟩; have n0_ := Aside0.mk (Kd.R_below (by (with_reducible repeat (first | apply Kd.R_alloc | apply Kd.R_drewN | apply Kd.R_drew)); exact HO_627001.out) hb); have n1_ := Aside0.mk (Kd.R_below (by (with_reducible repeat (first | apply Kd.R_alloc | apply Kd.R_drewN | apply Kd.R_drew)); exact HO_632001.out) hb); have n2_ := Aside0.mk (Kd.R_below (by (with_reducible repeat (first | apply Kd.R_alloc | apply Kd.R_drewN | apply Kd.R_drew)); exact HO_639001.out) hb); have n3_ := Aside0.mk (blk_below (g := gb614) (o := .cells #[.int .i64 a0_0, .slice A0_1 l0_1.length c0_1] 39 (0, 0)) (by (with_reducible repeat (first | refine blk_drewN ?_ _ | refine blk_drew ?_ | refine blk_alloc ?_ _)); exact BK614.out) hb); have n4_ := Aside0.mk (blk_below (g := gb626) (o := .cells #[.int .i64 t620, .slice Ao22 t621.length co22] 33 (0, 0)) (by (with_reducible repeat (first | refine blk_drewN ?_ _ | refine blk_drew ?_ | refine blk_alloc ?_ _)); exact BK626.out) hb); have n5_ := Aside0.mk (blk_below (g := gb631) (o := .cells #[.int .i64 t627, .slice Ao29 t646.length co29] 33 (0, 0)) (by (with_reducible repeat (first | refine blk_drewN ?_ _ | refine blk_drew ?_ | refine blk_alloc ?_ _)); exact BK631.out) hb); have n6_ := Aside0.mk (blk_below (g := gb638) (o := .cells #[.int .i64 t632, .slice Ao36 t633.length co36] 33 (0, 0)) (by (with_reducible repeat (first | refine blk_drewN ?_ _ | refine blk_drew ?_ | refine blk_alloc ?_ _)); exact BK638.out) hb); have n7_ := Aside0.mk (below_step (by repeat (first | (with_reducible first | exact HB.out | apply below_alloc | apply pw_below_drewN | apply below_drew1 | refine below_set ?_ GE614.out | refine below_set ?_ GE626.out | refine below_set ?_ GE631.out | refine below_set ?_ GE638.out) | exact HB.out)) hb); clear HO_627001; clear HO_632001; clear HO_639001; clear BK614; clear BK626; clear BK631; clear BK638; clear HB; have HO_627001 := n0_; have HO_632001 := n1_; have HO_639001 := n2_; have BK614 := n3_; have BK626 := n4_; have BK631 := n5_; have BK638 := n6_; have HB := n7_; clear n0_ n1_ n2_ n3_ n4_ n5_ n6_ n7_; (try clear hb); (try clear hb2); (try clear hk); (try clear hi)))
                      go_ret
                      exact ⟨by first | rfl | (simp [errW_none, errW_some] <;> rfl) | (simp [*, errW_none, errW_some] <;> rfl), by repeat (first | (with_reducible first | exact HB.out | apply below_alloc | apply pw_below_drewN | apply below_drew1 | refine below_set ?_ GE614.out | refine below_set ?_ GE626.out | refine below_set ?_ GE631.out | refine below_set ?_ GE638.out) | exact HB.out)⟩
          · replace c67 := Bool.eq_false_iff.mpr c67
            subst c67
            have H1 : (some false) = some r := by rw [if_neg (show ¬ (false = true) by decide)] at H; exact H
            clear H
            have H := H1
            clear H1
            obtain rfl := Option.some.inj H
            try go_wp2
            have n0_ := Aside0.mk (Kd.R_drew HO_627001.out)
            have n1_ := Aside0.mk (Kd.R_drew HO_632001.out)
            have n2_ := Aside0.mk (Kd.R_drew HO_639001.out)
            have n3_ := Aside0.mk (blk_drew BK614.out)
            have n4_ := Aside0.mk (blk_drew BK626.out)
            have n5_ := Aside0.mk (blk_drew BK631.out)
            have n6_ := Aside0.mk (blk_drew BK638.out)
            have n7_ := Aside0.mk (below_drew1 HB.out)
            clear HO_627001
            clear HO_632001
            clear HO_639001
            clear BK614
            clear BK626
            clear BK631
            clear BK638
            clear HB
            have HO_627001 := n0_
            have HO_632001 := n1_
            have HO_639001 := n2_
            have BK614 := n3_
            have BK626 := n4_
            have BK631 := n5_
            have BK638 := n6_
            have HB := n7_
            clear n0_ n1_ n2_ n3_ n4_ n5_ n6_ n7_
            refine start_ (n := 5) (S := fun w' => w'.cell? ⟨gb631, 0, none⟩ = some (.int .i64 t627) ∧ w'.cell? ⟨gb631, 1, none⟩ = some (.slice Ao29 t628.length co29) ∧ w'.cell? ⟨gb614, 0, none⟩ = some (.int .i64 a0_0) ∧ w'.cell? ⟨gb614, 1, none⟩ = some (.slice A0_1 l0_1.length c0_1)) (ds := []) #[false, false, false, false, false] (by kernel_rfl) rfl rfl ⟨(blk_cell BK631.out 0).trans rfl, (blk_cell BK631.out 1).trans rfl, (blk_cell BK614.out 0).trans rfl, (blk_cell BK614.out 1).trans rfl⟩ (fun hHeld => ?_)
            generalize wc.drew = w204 at HO_627001 HO_632001 HO_639001 BK614 BK626 BK631 BK638 HB hHeld ⊢
            refine take_ (i := 0) (N := some 51) (v := ?_) (a' := ?_) #[true, false, false, false, false] rfl rfl (by kernel_rfl) (fun _ _ _ h => h) (Or.inl ⟨by rfl, ?_⟩) hHeld ?_ ?_
            rotate_left
            · rintro w' ⟨s0, s1, s2, s3⟩
              go_simp
              with_reducible rfl
            rotate_left
            · simp only [Act.put, List.setIfInBounds_toArray, List.set_cons_zero, List.set_cons_succ, i64_w, i32_w]
              rfl
            refine take_ (i := 1) (N := some 52) (v := ?_) (a' := ?_) #[true, true, false, false, false] rfl rfl (by kernel_rfl) (fun _ _ _ h => h) (Or.inl ⟨by rfl, ?_⟩) hHeld ?_ ?_
            rotate_left
            · rintro w' ⟨s0, s1, s2, s3⟩
              go_simp
              with_reducible rfl
            rotate_left
            · simp only [Act.put, List.setIfInBounds_toArray, List.set_cons_zero, List.set_cons_succ, i64_w, i32_w]
              rfl
            refine one_ (i := 2) (N := some 53) #[true, true, true, false, false] rfl rfl (by kernel_rfl) (by decide) (fun K hK => ?_)
            refine goes_ Try.func27 (by kernel_rfl) rfl #[.agg #[.int .i64 a0_0, .slice A0_1 l0_1.length c0_1]] (by rfl) rfl rfl (by (try simp only [List.map_toArray, List.map_cons, List.map_nil]); first | done | rfl | (simp only [List.length_drop, List.length_take]; rfl)) ?_
            with_reducible refine (laws_toBox.calls kj10 a0_0 _ _ l0_1 t640 t641 _ ?side1 ?side2 A65.out).mono ?_
            (case side1 => repeat (first | exact (Kd.C_below HR0_1.out HB.out) | (with_reducible refine Kd.C_alloc ?_ _) | (with_reducible refine Kd.C_drewN ?_ _) | (with_reducible refine Kd.C_drew ?_)))
            (case side2 => exact HC0_1.out)
            rintro e w205 ⟨v642, rfl, ho0, hb⟩
            refine ⟨_, rfl, ?_⟩
            have n0_ := Aside0.mk (Kd.R_elder' (by (with_reducible repeat (first | apply Kd.R_alloc | apply Kd.R_drewN | apply Kd.R_drew)); exact HO_627001.out) (Kd.R_base ho0) hb)
            have n1_ := Aside0.mk (Kd.R_elder' (by (with_reducible repeat (first | apply Kd.R_alloc | apply Kd.R_drewN | apply Kd.R_drew)); exact HO_632001.out) (Kd.R_base ho0) hb)
            have n2_ := Aside0.mk (Kd.R_elder' (by (with_reducible repeat (first | apply Kd.R_alloc | apply Kd.R_drewN | apply Kd.R_drew)); exact HO_639001.out) (Kd.R_base ho0) hb)
            have n3_ := Aside0.mk (Kd.R_lower (Kd.R_new' (Kd.R_new' (Kd.R_new' ho0 (Kd.R_lt (by (with_reducible repeat (first | apply Kd.R_alloc | apply Kd.R_drewN | apply Kd.R_drew)); exact HO_627001.out))) (Kd.R_lt (by (with_reducible repeat (first | apply Kd.R_alloc | apply Kd.R_drewN | apply Kd.R_drew)); exact HO_632001.out))) (Kd.R_lt (by (with_reducible repeat (first | apply Kd.R_alloc | apply Kd.R_drewN | apply Kd.R_drew)); exact HO_639001.out))) (below_size (by repeat (first | (with_reducible first | exact HB.out | apply below_alloc | apply pw_below_drewN | apply below_drew1 | refine below_set ?_ GE614.out | refine below_set ?_ GE626.out | refine below_set ?_ GE631.out | refine below_set ?_ GE638.out) | exact HB.out))))
            have n4_ := Aside0.mk (blk_below (g := gb614) (o := .cells #[.int .i64 a0_0, .slice A0_1 l0_1.length c0_1] 39 (0, 0)) (by (with_reducible repeat (first | refine blk_drewN ?_ _ | refine blk_drew ?_ | refine blk_alloc ?_ _)); exact BK614.out) hb)
            have n5_ := Aside0.mk (blk_below (g := gb626) (o := .cells #[.int .i64 t620, .slice Ao22 t621.length co22] 33 (0, 0)) (by (with_reducible repeat (first | refine blk_drewN ?_ _ | refine blk_drew ?_ | refine blk_alloc ?_ _)); exact BK626.out) hb)
            have n6_ := Aside0.mk (blk_below (g := gb631) (o := .cells #[.int .i64 t627, .slice Ao29 t628.length co29] 33 (0, 0)) (by (with_reducible repeat (first | refine blk_drewN ?_ _ | refine blk_drew ?_ | refine blk_alloc ?_ _)); exact BK631.out) hb)
            have n7_ := Aside0.mk (blk_below (g := gb638) (o := .cells #[.int .i64 t632, .slice Ao36 t633.length co36] 33 (0, 0)) (by (with_reducible repeat (first | refine blk_drewN ?_ _ | refine blk_drew ?_ | refine blk_alloc ?_ _)); exact BK638.out) hb)
            have n8_ := Aside0.mk (below_step (by repeat (first | (with_reducible first | exact HB.out | apply below_alloc | apply pw_below_drewN | apply below_drew1 | refine below_set ?_ GE614.out | refine below_set ?_ GE626.out | refine below_set ?_ GE631.out | refine below_set ?_ GE638.out) | exact HB.out)) hb)
            clear HO_627001
            clear HO_632001
            clear HO_639001
            clear BK614
            clear BK626
            clear BK631
            clear BK638
            clear HB
            have HO_627001 := n0_
            have HO_632001 := n1_
            have HO_639001 := n2_
            have HO643 := n3_
            have BK614 := n4_
            have BK626 := n5_
            have BK631 := n6_
            have BK638 := n7_
            have HB := n8_
            clear n0_ n1_ n2_ n3_ n4_ n5_ n6_ n7_ n8_
            (try clear hb)
            (try clear hb2)
            (try clear hk)
            (try clear hi)
            (try clear ho0)
            obtain ⟨Ao206, co206, eo206⟩ := Kd.R_slice HO643.out
            (first | subst eo206 | (injection eo206 with f1_ f2_ f3_; have f4_ := f1_.symm; have f5_ := f3_.symm; clear f1_ f2_ f3_; subst f4_; subst f5_))
            refine hK.out _ _ ⟨(blk_cell BK631.out 0).trans rfl, (blk_cell BK631.out 1).trans rfl, (blk_cell BK614.out 0).trans rfl, (blk_cell BK614.out 1).trans rfl⟩ (fun hHeld => ?_)
            clear hK K
            refine norm_ (a' := ?_) ?_ ?_
            rotate_left
            · show Act.put _ (some 53) _ = _
              simp only [Act.put, List.setIfInBounds_toArray, List.set_cons_zero, List.set_cons_succ, i64_w, i32_w]
              rfl
            refine one_ (i := 3) (N := some 54) #[true, true, true, true, false] rfl rfl (by kernel_rfl) (by decide) (fun K hK => ?_)
            refine goes_ Try.func29 (by kernel_rfl) rfl #[.agg #[.int .i64 t627, .slice Ao29 t628.length co29], .agg #[.int .i64 t640, .slice Ao206 t641.length co206]] (by rfl) rfl rfl (by (try simp only [List.map_toArray, List.map_cons, List.map_nil]); first | done | rfl | (simp only [List.length_drop, List.length_take]; rfl)) ?_
            with_reducible refine (laws_eqBox.calls kj10 t627 _ _ t628 t640 _ _ t641 false _ ?side1 ?side2 ?side3 ?side4 A66.out).mono ?_
            (case side1 => repeat (first | exact (Kd.R_reads' HO_632001.out).2.2 | (with_reducible refine Kd.C_alloc ?_ _) | (with_reducible refine Kd.C_drewN ?_ _) | (with_reducible refine Kd.C_drew ?_)))
            (case side2 => exact (Kd.R_reads' HO_632001.out).2.1)
            (case side3 => repeat (first | exact (Kd.R_reads' HO643.out).2.2 | (with_reducible refine Kd.C_alloc ?_ _) | (with_reducible refine Kd.C_drewN ?_ _) | (with_reducible refine Kd.C_drew ?_)))
            (case side4 => exact (Kd.R_reads' HO643.out).2.1)
            rintro e w207 ⟨rfl, hb⟩
            refine ⟨_, rfl, ?_⟩
            have n0_ := Aside0.mk (Kd.R_below (by (with_reducible repeat (first | apply Kd.R_alloc | apply Kd.R_drewN | apply Kd.R_drew)); exact HO_627001.out) hb)
            have n1_ := Aside0.mk (Kd.R_below (by (with_reducible repeat (first | apply Kd.R_alloc | apply Kd.R_drewN | apply Kd.R_drew)); exact HO_632001.out) hb)
            have n2_ := Aside0.mk (Kd.R_below (by (with_reducible repeat (first | apply Kd.R_alloc | apply Kd.R_drewN | apply Kd.R_drew)); exact HO_639001.out) hb)
            have n3_ := Aside0.mk (Kd.R_below (by (with_reducible repeat (first | apply Kd.R_alloc | apply Kd.R_drewN | apply Kd.R_drew)); exact HO643.out) hb)
            have n4_ := Aside0.mk (blk_below (g := gb614) (o := .cells #[.int .i64 a0_0, .slice A0_1 l0_1.length c0_1] 39 (0, 0)) (by (with_reducible repeat (first | refine blk_drewN ?_ _ | refine blk_drew ?_ | refine blk_alloc ?_ _)); exact BK614.out) hb)
            have n5_ := Aside0.mk (blk_below (g := gb626) (o := .cells #[.int .i64 t620, .slice Ao22 t621.length co22] 33 (0, 0)) (by (with_reducible repeat (first | refine blk_drewN ?_ _ | refine blk_drew ?_ | refine blk_alloc ?_ _)); exact BK626.out) hb)
            have n6_ := Aside0.mk (blk_below (g := gb631) (o := .cells #[.int .i64 t627, .slice Ao29 t628.length co29] 33 (0, 0)) (by (with_reducible repeat (first | refine blk_drewN ?_ _ | refine blk_drew ?_ | refine blk_alloc ?_ _)); exact BK631.out) hb)
            have n7_ := Aside0.mk (blk_below (g := gb638) (o := .cells #[.int .i64 t632, .slice Ao36 t633.length co36] 33 (0, 0)) (by (with_reducible repeat (first | refine blk_drewN ?_ _ | refine blk_drew ?_ | refine blk_alloc ?_ _)); exact BK638.out) hb)
            have n8_ := Aside0.mk (below_step (by repeat (first | (with_reducible first | exact HB.out | apply below_alloc | apply pw_below_drewN | apply below_drew1 | refine below_set ?_ GE614.out | refine below_set ?_ GE626.out | refine below_set ?_ GE631.out | refine below_set ?_ GE638.out) | exact HB.out)) hb)
            clear HO_627001
            clear HO_632001
            clear HO_639001
            clear HO643
            clear BK614
            clear BK626
            clear BK631
            clear BK638
            clear HB
            have HO_627001 := n0_
            have HO_632001 := n1_
            have HO_639001 := n2_
            have HO643 := n3_
            have BK614 := n4_
            have BK626 := n5_
            have BK631 := n6_
            have BK638 := n7_
            have HB := n8_
            clear n0_ n1_ n2_ n3_ n4_ n5_ n6_ n7_ n8_
            (try clear hb)
            (try clear hb2)
            (try clear hk)
            (try clear hi)
            refine hK.out _ _ ⟨(blk_cell BK631.out 0).trans rfl, (blk_cell BK631.out 1).trans rfl, (blk_cell BK614.out 0).trans rfl, (blk_cell BK614.out 1).trans rfl⟩ (fun hHeld => ?_)
            clear hK K
            refine norm_ (a' := ?_) ?_ ?_
            rotate_left
            · show Act.put _ (some 54) _ = _
              simp only [Act.put, List.setIfInBounds_toArray, List.set_cons_zero, List.set_cons_succ, i64_w, i32_w]
              rfl
            refine pure_ (i := 4) (N := some 55) (v := ?_) (a' := ?_) #[true, true, true, true, true] rfl rfl (by kernel_rfl) (fun _ _ _ h => h) (Or.inl ⟨by rfl, ?_⟩) ?_ ?_
            rotate_left
            · intro w'
              go_simp
              with_reducible rfl
            rotate_left
            · simp only [Act.put, List.setIfInBounds_toArray, List.set_cons_zero, List.set_cons_succ, i64_w, i32_w]
              rfl
            refine done_ (by kernel_rfl) ?_
            try go_wp2
            go_ret
            exact ⟨by first | rfl | (simp [errW_none, errW_some] <;> rfl) | (simp [*, errW_none, errW_some] <;> rfl), by repeat (first | (with_reducible first | exact HB.out | apply below_alloc | apply pw_below_drewN | apply below_drew1 | refine below_set ?_ GE614.out | refine below_set ?_ GE626.out | refine below_set ?_ GE631.out | refine below_set ?_ GE638.out) | exact HB.out)⟩

end Go.Proofs.Ytiakpoamjiodoaa.PA

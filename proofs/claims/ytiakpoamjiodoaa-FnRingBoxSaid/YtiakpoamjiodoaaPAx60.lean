-- made by a program of this session (wip/myprint.py over the kit's print)
import Derived.Test.YtiakpoamjiodoaaV
import Derived.Test.YtiakpoamjiodoaaPAx0
import Derived.Test.YtiakpoamjiodoaaPAx1
import Derived.Test.YtiakpoamjiodoaaPAx20
import Derived.Test.YtiakpoamjiodoaaPAx21
import Derived.Test.YtiakpoamjiodoaaPAx30
import Derived.Test.YtiakpoamjiodoaaPAx58
import Derived.Test.YtiakpoamjiodoaaPAx59
namespace Go.Proofs.Ytiakpoamjiodoaa.PA
open Go.RowKit Go.Proofs.YtiakpoamjiodoaaW.PrintWords Go.Proofs.YtiakpoamjiodoaaW.PrintLast Go.Proofs.YtiakpoamjiodoaaW.PrintMore
attribute [local go_sem] max2_int min2_int max_two min_two max_three min_three max_four min_four   -- for this text's walks alone
set_option linter.unusedVariables false
set_option linter.unusedSimpArgs false

/-! ### laws_FnRingBox: function 12 -/
theorem laws_FnRingBox.mono_l : ∀ k, (∀ y0 y1 y2 y3 y4 y5 y6 y7 y8 y9 y10, LeO (laws_FnRingBox.j0 k y0 y1 y2 y3 y4 y5 y6 y7 y8 y9 y10) (laws_FnRingBox.j0 (k + 1) y0 y1 y2 y3 y4 y5 y6 y7 y8 y9 y10))
  | 0 => fun _ _ _ _ _ _ _ _ _ _ _ r h => by simp [laws_FnRingBox.j0] at h
  | k + 1 => by
    have ih0 := laws_FnRingBox.mono_l k
    · intro y0 y1 y2 y3 y4 y5 y6 y7 y8 y9 y10
      unfold laws_FnRingBox.j0
      repeat' first
      | (with_reducible exact ih0 _ _ _ _ _ _ _ _ _ _ _)
      | (with_reducible exact impl_BoxValid.mono _ _ _)
      | (with_reducible exact impl_RingBox.mono _ _ _ _ _)
      | (with_reducible exact laws_sameBox.mono _ _ _ _ _)
      | (with_reducible exact spec_DrawRingBox.mono _ _)
      | (with_reducible exact spec_RingBox.mono _ _ _ _ _)
      | (with_reducible exact LeO.refl _)
      | (with_reducible exact LeO.none _)
      | (with_reducible refine LeO.ite ?_ ?_)
      | (with_reducible refine LeO.bind ?_ (fun _ => ?_))
      | exact ih0 _ _ _ _ _ _ _ _ _ _ _
      | exact impl_BoxValid.mono _ _ _
      | exact impl_RingBox.mono _ _ _ _ _
      | exact laws_sameBox.mono _ _ _ _ _
      | exact spec_DrawRingBox.mono _ _
      | exact spec_RingBox.mono _ _ _ _ _
      | exact LeO.none _
      | refine LeO.ite ?_ ?_
      | refine LeO.bind ?_ (fun _ => ?_)
theorem laws_FnRingBox.mono : ∀ a0 k, LeO (laws_FnRingBox.f k a0) (laws_FnRingBox.f (k + 1) a0) := by
  intro a0 k
  have ih0 := laws_FnRingBox.mono_l k
  unfold laws_FnRingBox.f
  repeat' first
      | (with_reducible exact ih0 _ _ _ _ _ _ _ _ _ _ _)
      | (with_reducible exact impl_BoxValid.mono _ _ _)
      | (with_reducible exact impl_RingBox.mono _ _ _ _ _)
      | (with_reducible exact laws_sameBox.mono _ _ _ _ _)
      | (with_reducible exact spec_DrawRingBox.mono _ _)
      | (with_reducible exact spec_RingBox.mono _ _ _ _ _)
      | (with_reducible exact LeO.refl _)
      | (with_reducible exact LeO.none _)
      | (with_reducible refine LeO.ite ?_ ?_)
      | (with_reducible refine LeO.bind ?_ (fun _ => ?_))
      | exact ih0 _ _ _ _ _ _ _ _ _ _ _
      | exact impl_BoxValid.mono _ _ _
      | exact impl_RingBox.mono _ _ _ _ _
      | exact laws_sameBox.mono _ _ _ _ _
      | exact spec_DrawRingBox.mono _ _
      | exact spec_RingBox.mono _ _ _ _ _
      | exact LeO.none _
      | refine LeO.ite ?_ ?_
      | refine LeO.bind ?_ (fun _ => ?_)
set_option maxHeartbeats 8000000 in
set_option maxRecDepth 100000 in
theorem laws_FnRingBox.calls (k : Nat) (A0 : Option Addr) (c0 : Nat) (l0 : List Int) (r : Bool) (w : World) (hr0 : Kd.C (Kd.int .u8) w A0 l0.length l0) (hc0 : l0.length ≤ c0) (h : laws_FnRingBox.f k l0 = some r) :
    Calls Try.prog 12 #[.slice A0 l0.length c0] w fun e w' => e = .returned (.bool r) ∧ Below w.heap.size w w' := by
  have hu24 := Try.underlying24
  have hu33 := Try.underlying33
  have HR0 := Aside0.mk hr0
  have HC0 := Aside0.mk hc0
  clear hr0 hc0
  have HB := Aside0.mk (Below.refl w.heap.size w)
  have H : (if (l0.length : Int) > 1048576 then (some true) else ((spec_DrawRingBox.f k l0).bind fun bt686 => ((impl_RingBox.f k bt686.1 bt686.2.1 bt686.2.2.1 bt686.2.2.2).bind fun bt693 => ((spec_RingBox.f k bt686.1 bt686.2.1 bt686.2.2.1 bt686.2.2.2).bind fun bt699 => (if (bt693.2.2 != bt699.2.2) = true then (laws_FnRingBox.j0 k bt693.2.2 bt699.2.2 true bt686.1 bt686.2.1 bt686.2.2.1 bt686.2.2.2 bt693.1 bt693.2.1 bt699.1 bt699.2.1) else ((laws_sameBox.f k bt693.1 bt693.2.1 bt699.1 bt699.2.1).bind fun t705 => (if t705 = true then (laws_FnRingBox.j0 k bt693.2.2 bt699.2.2 (!bt693.2.2) bt686.1 bt686.2.1 bt686.2.2.1 bt686.2.2.2 bt693.1 bt693.2.1 bt699.1 bt699.2.1) else (laws_FnRingBox.j0 k bt693.2.2 bt699.2.2 true bt686.1 bt686.2.1 bt686.2.2.1 bt686.2.2.2 bt693.1 bt693.2.1 bt699.1 bt699.2.1)))))))) = some r := h
  clear h
  by_cases c2 : (l0.length : Int) > 1048576
  · rw [if_pos c2] at H
    have c2b0 : decide (1048576 < (l0.length : Int)) = true := decide_eq_true c2
    have c2b1 : decide (1048576 < l0.length) = true := decide_eq_true (by omega)
    clear c2
    obtain rfl := Option.some.inj H
    go_enter Try.func12, Try.ntmps12
    go_wp2
    go_ret
    exact ⟨by first | rfl | (simp [errW_none, errW_some] <;> rfl) | (simp [*, errW_none, errW_some] <;> rfl), by repeat (first | (with_reducible first | exact HB.out | apply below_alloc | apply pw_below_drewN | apply below_drew1) | exact HB.out)⟩
  · rw [if_neg c2] at H
    have c2b0 : decide (1048576 < (l0.length : Int)) = false := decide_eq_false c2
    have c2b1 : decide (1048576 < l0.length) = false := decide_eq_false (by omega)
    clear c2
    replace H := Option.bind_eq_some_iff.mp H
    obtain ⟨⟨t686, t687, t688, t689⟩, A30, H⟩ := H
    replace H : ((impl_RingBox.f k t686 t687 t688 t689).bind fun bt693 => ((spec_RingBox.f k t686 t687 t688 t689).bind fun bt699 => (if (bt693.2.2 != bt699.2.2) = true then (laws_FnRingBox.j0 k bt693.2.2 bt699.2.2 true t686 t687 t688 t689 bt693.1 bt693.2.1 bt699.1 bt699.2.1) else ((laws_sameBox.f k bt693.1 bt693.2.1 bt699.1 bt699.2.1).bind fun t705 => (if t705 = true then (laws_FnRingBox.j0 k bt693.2.2 bt699.2.2 (!bt693.2.2) t686 t687 t688 t689 bt693.1 bt693.2.1 bt699.1 bt699.2.1) else (laws_FnRingBox.j0 k bt693.2.2 bt699.2.2 true t686 t687 t688 t689 bt693.1 bt693.2.1 bt699.1 bt699.2.1)))))) = some r := H
    have A3 := Aside0.mk A30
    clear A30
    replace H := Option.bind_eq_some_iff.mp H
    obtain ⟨⟨t693, t694, t697⟩, A40, H⟩ := H
    replace H : ((spec_RingBox.f k t686 t687 t688 t689).bind fun bt699 => (if (t697 != bt699.2.2) = true then (laws_FnRingBox.j0 k t697 bt699.2.2 true t686 t687 t688 t689 t693 t694 bt699.1 bt699.2.1) else ((laws_sameBox.f k t693 t694 bt699.1 bt699.2.1).bind fun t705 => (if t705 = true then (laws_FnRingBox.j0 k t697 bt699.2.2 (!t697) t686 t687 t688 t689 t693 t694 bt699.1 bt699.2.1) else (laws_FnRingBox.j0 k t697 bt699.2.2 true t686 t687 t688 t689 t693 t694 bt699.1 bt699.2.1))))) = some r := H
    have A4 := Aside0.mk A40
    clear A40
    replace H := Option.bind_eq_some_iff.mp H
    obtain ⟨⟨t699, t700, t703⟩, A50, H⟩ := H
    replace H : (if (t697 != t703) = true then (laws_FnRingBox.j0 k t697 t703 true t686 t687 t688 t689 t693 t694 t699 t700) else ((laws_sameBox.f k t693 t694 t699 t700).bind fun t705 => (if t705 = true then (laws_FnRingBox.j0 k t697 t703 (!t697) t686 t687 t688 t689 t693 t694 t699 t700) else (laws_FnRingBox.j0 k t697 t703 true t686 t687 t688 t689 t693 t694 t699 t700)))) = some r := H
    have A5 := Aside0.mk A50
    clear A50
    have HC6 := Aside0.mk H
    clear H
    go_enter Try.func12, Try.ntmps12
    go_upto_region 6 with (first | ((with_reducible refine gate_callee (f := 43) rfl ?_); refine goesL_ (some 12) rfl rfl Try.func43 (by kernel_rfl) rfl #[.slice A0 l0.length c0] rfl (by (try simp only [List.map_toArray, List.map_cons, List.map_nil]); first | done | rfl | (simp only [List.length_drop, List.length_take]; rfl)) ?_; (with_reducible refine (spec_DrawRingBox.calls k _ _ l0 t686 t687 t688 t689 _ ?side1 ?side2 A3.out).mono ?_); (case side1 => repeat (first | exact HR0.out | (with_reducible refine Kd.C_alloc ?_ _) | (with_reducible refine Kd.C_drewN ?_ _) | (with_reducible refine Kd.C_drew ?_))); (case side2 => exact HC0.out); rintro e w7 ⟨v690, rfl, ho0, hb⟩; refine ⟨_, rfl, ?_⟩; have n0_ := Aside0.mk (Kd.R_lower ho0 (below_size (by repeat (first | (with_reducible first | exact HB.out | apply below_alloc | apply pw_below_drewN | apply below_drew1) | exact HB.out)))); have n1_ := Aside0.mk (below_step (by repeat (first | (with_reducible first | exact HB.out | apply below_alloc | apply pw_below_drewN | apply below_drew1) | exact HB.out)) hb); clear HB; have HO691 := n0_; have HB := n1_; clear n0_ n1_; (try clear hb); (try clear hb2); (try clear hk); (try clear hi); (try clear ho0)) | ((with_reducible refine gate_dst (N := 3) rfl ?_); (try (refine gate_guard (by rfl) ?_; dsimp only)); refine box_event ?hg (N := 3) ?hd (cs := #[.int .i64 0, .int .i64 0, .int .i64 0, .slice none 0 0]) (t := 24) ?hr ?_; (case hd => rfl); (case hg => rfl); (case hr => first | (go_simp; done) | (go_simp; rfl)); intro gb692 hg w8 hbox hb; have n0_ := Aside0.mk (Kd.R_below (by (with_reducible repeat (first | apply Kd.R_alloc | apply Kd.R_drewN | apply Kd.R_drew)); exact HO691.out) hb); have n1_ := Aside0.mk (below_step (by repeat (first | (with_reducible first | exact HB.out | apply below_alloc | apply pw_below_drewN | apply below_drew1) | exact HB.out)) hb); have n2_ := Aside0.mk (hbox); have n3_ := Aside0.mk ((by rw [hg]; exact (below_size (by repeat (first | (with_reducible first | exact HB.out | apply below_alloc | apply pw_below_drewN | apply below_drew1) | exact HB.out))) : w.heap.size ≤ gb692)); have n4_ := Aside0.mk ((by rw [hg]; exact (below_size (by repeat (first | (with_reducible first | exact HB.out | apply below_alloc | apply pw_below_drewN | apply below_drew1) | exact HB.out))) : w.heap.size ≤ gb692)); clear HO691; clear HB; have HO691 := n0_; have HB := n1_; have BK692 := n2_; have GW692 := n3_; have GE692 := n4_; clear n0_ n1_ n2_ n3_ n4_; clear hb hbox hg; have hcz9_0 : w8.cell? ⟨gb692, 0, none⟩ = some (.int .i64 0) := (blk_cell BK692.out 0).trans rfl; have hcz9_1 : w8.cell? ⟨gb692, 1, none⟩ = some (.int .i64 0) := (blk_cell BK692.out 1).trans rfl; have hcz9_2 : w8.cell? ⟨gb692, 2, none⟩ = some (.int .i64 0) := (blk_cell BK692.out 2).trans rfl; have hcz9_3 : w8.cell? ⟨gb692, 3, none⟩ = some (.slice none 0 0) := (blk_cell BK692.out 3).trans rfl; have hfz9_0 := blk_frozen BK692.out 0; have hfz9_1 := blk_frozen BK692.out 1; have hfz9_2 := blk_frozen BK692.out 2; have hfz9_3 := blk_frozen BK692.out 3; obtain ⟨Ao10, co10, eo10⟩ := Kd.R_slice HO691.out; subst eo10) | ((with_reducible refine gate_callee (f := 22) rfl ?_); refine goesL_ (some 15) rfl rfl Try.func22 (by kernel_rfl) rfl #[.agg #[.int .i64 t686, .int .i64 t687, .int .i64 t688, .slice Ao10 t689.length co10]] rfl (by (try simp only [List.map_toArray, List.map_cons, List.map_nil]); first | done | rfl | (simp only [List.length_drop, List.length_take]; rfl)) ?_; (with_reducible refine (impl_RingBox.calls k t686 t687 t688 _ _ t689 t693 t694 t697 _ ?side1 ?side2 A4.out).mono ?_); (case side1 => refine (Kd.R_reads' (e := 3) (base := w.heap.size) (ok := fun k_ => True) (n := t689.length) (c := co10) ?_).2.2; exact (by (with_reducible repeat (first | apply Kd.R_alloc | apply Kd.R_drewN | apply Kd.R_drew)); exact (Kd.R_mono (Kd.R_far (p := ⟨gb692, 3, none⟩) (Kd.R_far (p := ⟨gb692, 2, none⟩) (Kd.R_far (p := ⟨gb692, 1, none⟩) (Kd.R_far (p := ⟨gb692, 0, none⟩) (Kd.R_types HO691.out BK692.out (by decide)) (fun _ hk => hk.2) (.int .i64 t686)) (fun _ hk => hk.2) (.int .i64 t687)) (fun _ hk => hk.2) (.int .i64 t688)) (fun _ hk => hk.2) (.slice Ao10 t689.length co10)) (fun _ h_ => h_.1)))); (case side2 => exact (Kd.R_reads' HO691.out).2.1); rintro e w11 ⟨v695, rfl, ho0, hb⟩; refine ⟨_, rfl, ?_⟩; have n0_ := Aside0.mk (Kd.R_elder' (by (with_reducible repeat (first | apply Kd.R_alloc | apply Kd.R_drewN | apply Kd.R_drew)); exact (Kd.R_mono (Kd.R_far (p := ⟨gb692, 3, none⟩) (Kd.R_far (p := ⟨gb692, 2, none⟩) (Kd.R_far (p := ⟨gb692, 1, none⟩) (Kd.R_far (p := ⟨gb692, 0, none⟩) (Kd.R_types HO691.out BK692.out (by decide)) (fun _ hk => hk.2) (.int .i64 t686)) (fun _ hk => hk.2) (.int .i64 t687)) (fun _ hk => hk.2) (.int .i64 t688)) (fun _ hk => hk.2) (.slice Ao10 t689.length co10)) (fun _ h_ => h_.1))) (Kd.R_base ho0) hb); have n1_ := Aside0.mk (Kd.R_lower (Kd.R_new' ho0 (Kd.R_lt (by (with_reducible repeat (first | apply Kd.R_alloc | apply Kd.R_drewN | apply Kd.R_drew)); exact (Kd.R_mono (Kd.R_far (p := ⟨gb692, 3, none⟩) (Kd.R_far (p := ⟨gb692, 2, none⟩) (Kd.R_far (p := ⟨gb692, 1, none⟩) (Kd.R_far (p := ⟨gb692, 0, none⟩) (Kd.R_types HO691.out BK692.out (by decide)) (fun _ hk => hk.2) (.int .i64 t686)) (fun _ hk => hk.2) (.int .i64 t687)) (fun _ hk => hk.2) (.int .i64 t688)) (fun _ hk => hk.2) (.slice Ao10 t689.length co10)) (fun _ h_ => h_.1))))) (below_size (by repeat (first | (with_reducible first | exact HB.out | apply below_alloc | apply pw_below_drewN | apply below_drew1 | refine below_set ?_ GE692.out) | exact HB.out)))); have n2_ := Aside0.mk (blk_below (g := gb692) (o := .cells #[.int .i64 t686, .int .i64 t687, .int .i64 t688, .slice Ao10 t689.length co10] 24 (0, 0)) (by (with_reducible repeat (first | refine blk_drewN ?_ _ | refine blk_drew ?_ | refine blk_alloc ?_ _)); refine blk_put (cs := #[.int .i64 t686, .int .i64 t687, .int .i64 t688, .slice none 0 0]) ?_ 3 _ rfl; (with_reducible repeat (first | refine blk_drewN ?_ _ | refine blk_drew ?_ | refine blk_alloc ?_ _)); refine blk_put (cs := #[.int .i64 t686, .int .i64 t687, .int .i64 0, .slice none 0 0]) ?_ 2 _ rfl; (with_reducible repeat (first | refine blk_drewN ?_ _ | refine blk_drew ?_ | refine blk_alloc ?_ _)); refine blk_put (cs := #[.int .i64 t686, .int .i64 0, .int .i64 0, .slice none 0 0]) ?_ 1 _ rfl; (with_reducible repeat (first | refine blk_drewN ?_ _ | refine blk_drew ?_ | refine blk_alloc ?_ _)); refine blk_put (cs := #[.int .i64 0, .int .i64 0, .int .i64 0, .slice none 0 0]) ?_ 0 _ rfl; (with_reducible repeat (first | refine blk_drewN ?_ _ | refine blk_drew ?_ | refine blk_alloc ?_ _)); exact BK692.out) hb); have n3_ := Aside0.mk (below_step (by repeat (first | (with_reducible first | exact HB.out | apply below_alloc | apply pw_below_drewN | apply below_drew1 | refine below_set ?_ GE692.out) | exact HB.out)) hb); clear HO691; clear BK692; clear HB; have HO691 := n0_; have HO696 := n1_; have BK692 := n2_; have HB := n3_; clear n0_ n1_ n2_ n3_; (try clear hb); (try clear hb2); (try clear hk); (try clear hi); (try clear ho0)) | ((with_reducible refine gate_dst (N := 4) rfl ?_); (try (refine gate_guard (by rfl) ?_; dsimp only)); refine box_event ?hg (N := 4) ?hd (cs := #[.int .i64 0, .slice none 0 0]) (t := 33) ?hr ?_; (case hd => rfl); (case hg => rfl); (case hr => first | (go_simp; done) | (go_simp; rfl)); intro gb698 hg w12 hbox hb; have n0_ := Aside0.mk (Kd.R_below (by (with_reducible repeat (first | apply Kd.R_alloc | apply Kd.R_drewN | apply Kd.R_drew)); exact HO691.out) hb); have n1_ := Aside0.mk (Kd.R_below (by (with_reducible repeat (first | apply Kd.R_alloc | apply Kd.R_drewN | apply Kd.R_drew)); exact HO696.out) hb); have n2_ := Aside0.mk (blk_below (g := gb692) (o := .cells #[.int .i64 t686, .int .i64 t687, .int .i64 t688, .slice Ao10 t689.length co10] 24 (0, 0)) (by (with_reducible repeat (first | refine blk_drewN ?_ _ | refine blk_drew ?_ | refine blk_alloc ?_ _)); exact BK692.out) hb); have n3_ := Aside0.mk (below_step (by repeat (first | (with_reducible first | exact HB.out | apply below_alloc | apply pw_below_drewN | apply below_drew1 | refine below_set ?_ GE692.out) | exact HB.out)) hb); have n4_ := Aside0.mk (hbox); have n5_ := Aside0.mk ((by rw [hg]; exact (below_size (by repeat (first | (with_reducible first | exact HB.out | apply below_alloc | apply pw_below_drewN | apply below_drew1 | refine below_set ?_ GE692.out) | exact HB.out))) : w.heap.size ≤ gb698)); have n6_ := Aside0.mk ((by rw [hg]; exact (below_size (by repeat (first | (with_reducible first | exact HB.out | apply below_alloc | apply pw_below_drewN | apply below_drew1 | refine below_set ?_ GE692.out) | exact HB.out))) : w.heap.size ≤ gb698)); have n7_ := Aside0.mk ((by rw [hg]; exact Nat.ne_of_lt (blk_lt (g := gb692) (o := .cells #[.int .i64 t686, .int .i64 t687, .int .i64 t688, .slice Ao10 t689.length co10] 24 (0, 0)) (by (with_reducible repeat (first | refine blk_drewN ?_ _ | refine blk_drew ?_ | refine blk_alloc ?_ _)); exact BK692.out)) : gb692 ≠ gb698)); have n8_ := Aside0.mk ((by rw [hg]; exact Nat.ne_of_gt (blk_lt (g := gb692) (o := .cells #[.int .i64 t686, .int .i64 t687, .int .i64 t688, .slice Ao10 t689.length co10] 24 (0, 0)) (by (with_reducible repeat (first | refine blk_drewN ?_ _ | refine blk_drew ?_ | refine blk_alloc ?_ _)); exact BK692.out)) : gb698 ≠ gb692)); clear HO691; clear HO696; clear BK692; clear HB; have HO691 := n0_; have HO696 := n1_; have BK692 := n2_; have HB := n3_; have BK698 := n4_; have GW698 := n5_; have GE698 := n6_; have NB692_698 := n7_; have NB698_692 := n8_; clear n0_ n1_ n2_ n3_ n4_ n5_ n6_ n7_ n8_; clear hb hbox hg; have hnb13 := NB698_692.out; have hnc13 := NB692_698.out; have hcz14_0 : w12.cell? ⟨gb698, 0, none⟩ = some (.int .i64 0) := (blk_cell BK698.out 0).trans rfl; have hcz14_1 : w12.cell? ⟨gb698, 1, none⟩ = some (.slice none 0 0) := (blk_cell BK698.out 1).trans rfl; have hfz14_0 := blk_frozen BK698.out 0; have hfz14_1 := blk_frozen BK698.out 1; obtain ⟨Ao15, co15, eo15⟩ := Kd.R_slice HO696.out; subst eo15; have hcz16_0 : w12.cell? ⟨gb692, 0, none⟩ = some (.int .i64 t686) := (blk_cell BK692.out 0).trans rfl; have hcz16_1 : w12.cell? ⟨gb692, 1, none⟩ = some (.int .i64 t687) := (blk_cell BK692.out 1).trans rfl; have hcz16_2 : w12.cell? ⟨gb692, 2, none⟩ = some (.int .i64 t688) := (blk_cell BK692.out 2).trans rfl; have hcz16_3 : w12.cell? ⟨gb692, 3, none⟩ = some (.slice Ao10 t689.length co10) := (blk_cell BK692.out 3).trans rfl; have hfz16_0 := blk_frozen BK692.out 0; have hfz16_1 := blk_frozen BK692.out 1; have hfz16_2 := blk_frozen BK692.out 2; have hfz16_3 := blk_frozen BK692.out 3) | ((with_reducible refine gate_callee (f := 44) rfl ?_); refine goesL_ (some 20) rfl rfl Try.func44 (by kernel_rfl) rfl #[.agg #[.int .i64 t686, .int .i64 t687, .int .i64 t688, .slice Ao10 t689.length co10]] rfl (by (try simp only [List.map_toArray, List.map_cons, List.map_nil]); first | done | rfl | (simp only [List.length_drop, List.length_take]; rfl)) ?_; (with_reducible refine (spec_RingBox.calls k t686 t687 t688 _ _ t689 t699 t700 t703 _ ?side1 ?side2 A5.out).mono ?_); (case side1 => refine (Kd.R_reads' (e := 3) (base := w.heap.size) (ok := fun k_ => (True ∧ some k_ ≠ (.slice Ao15 t694.length co15 : Value).ownBlock)) (n := t689.length) (c := co10) ?_).2.2; exact (by (with_reducible repeat (first | apply Kd.R_alloc | apply Kd.R_drewN | apply Kd.R_drew)); exact (Kd.R_mono (Kd.R_far (p := ⟨gb698, 1, none⟩) (Kd.R_far (p := ⟨gb698, 0, none⟩) (Kd.R_types HO691.out BK698.out (by decide)) (fun _ hk => hk.2) (.int .i64 t693)) (fun _ hk => hk.2) (.slice Ao15 t694.length co15)) (fun _ h_ => h_.1)))); (case side2 => exact (Kd.R_reads' HO691.out).2.1); rintro e w17 ⟨v701, rfl, ho0, hb⟩; refine ⟨_, rfl, ?_⟩; have n0_ := Aside0.mk (Kd.R_elder' (by (with_reducible repeat (first | apply Kd.R_alloc | apply Kd.R_drewN | apply Kd.R_drew)); exact (Kd.R_mono (Kd.R_far (p := ⟨gb698, 1, none⟩) (Kd.R_far (p := ⟨gb698, 0, none⟩) (Kd.R_types HO691.out BK698.out (by decide)) (fun _ hk => hk.2) (.int .i64 t693)) (fun _ hk => hk.2) (.slice Ao15 t694.length co15)) (fun _ h_ => h_.1))) (Kd.R_base ho0) hb); have n1_ := Aside0.mk (Kd.R_elder' (by (with_reducible repeat (first | apply Kd.R_alloc | apply Kd.R_drewN | apply Kd.R_drew)); exact (Kd.R_mono (Kd.R_far (p := ⟨gb698, 1, none⟩) (Kd.R_far (p := ⟨gb698, 0, none⟩) (Kd.R_types HO696.out BK698.out (by decide)) (fun _ hk => hk.2) (.int .i64 t693)) (fun _ hk => hk.2) (.slice Ao15 t694.length co15)) (fun _ h_ => h_.1))) (Kd.R_base ho0) hb); have n2_ := Aside0.mk (Kd.R_lower (Kd.R_new' (Kd.R_new' ho0 (Kd.R_lt (by (with_reducible repeat (first | apply Kd.R_alloc | apply Kd.R_drewN | apply Kd.R_drew)); exact (Kd.R_mono (Kd.R_far (p := ⟨gb698, 1, none⟩) (Kd.R_far (p := ⟨gb698, 0, none⟩) (Kd.R_types HO691.out BK698.out (by decide)) (fun _ hk => hk.2) (.int .i64 t693)) (fun _ hk => hk.2) (.slice Ao15 t694.length co15)) (fun _ h_ => h_.1))))) (Kd.R_lt (by (with_reducible repeat (first | apply Kd.R_alloc | apply Kd.R_drewN | apply Kd.R_drew)); exact (Kd.R_mono (Kd.R_far (p := ⟨gb698, 1, none⟩) (Kd.R_far (p := ⟨gb698, 0, none⟩) (Kd.R_types HO696.out BK698.out (by decide)) (fun _ hk => hk.2) (.int .i64 t693)) (fun _ hk => hk.2) (.slice Ao15 t694.length co15)) (fun _ h_ => h_.1))))) (below_size (by repeat (first | (with_reducible first | exact HB.out | apply below_alloc | apply pw_below_drewN | apply below_drew1 | refine below_set ?_ GE692.out | refine below_set ?_ GE698.out) | exact HB.out)))); have n3_ := Aside0.mk (blk_below (g := gb692) (o := .cells #[.int .i64 t686, .int .i64 t687, .int .i64 t688, .slice Ao10 t689.length co10] 24 (0, 0)) (by (with_reducible repeat (first | refine blk_drewN ?_ _ | refine blk_drew ?_ | refine blk_alloc ?_ _)); refine blk_far ?_ NB692_698.out _; (with_reducible repeat (first | refine blk_drewN ?_ _ | refine blk_drew ?_ | refine blk_alloc ?_ _)); refine blk_far ?_ NB692_698.out _; (with_reducible repeat (first | refine blk_drewN ?_ _ | refine blk_drew ?_ | refine blk_alloc ?_ _)); exact BK692.out) hb); have n4_ := Aside0.mk (blk_below (g := gb698) (o := .cells #[.int .i64 t693, .slice Ao15 t694.length co15] 33 (0, 0)) (by (with_reducible repeat (first | refine blk_drewN ?_ _ | refine blk_drew ?_ | refine blk_alloc ?_ _)); refine blk_put (cs := #[.int .i64 t693, .slice none 0 0]) ?_ 1 _ rfl; (with_reducible repeat (first | refine blk_drewN ?_ _ | refine blk_drew ?_ | refine blk_alloc ?_ _)); refine blk_put (cs := #[.int .i64 0, .slice none 0 0]) ?_ 0 _ rfl; (with_reducible repeat (first | refine blk_drewN ?_ _ | refine blk_drew ?_ | refine blk_alloc ?_ _)); exact BK698.out) hb); have n5_ := Aside0.mk (below_step (by repeat (first | (with_reducible first | exact HB.out | apply below_alloc | apply pw_below_drewN | apply below_drew1 | refine below_set ?_ GE692.out | refine below_set ?_ GE698.out) | exact HB.out)) hb); clear HO691; clear HO696; clear BK692; clear BK698; clear HB; have HO691 := n0_; have HO696 := n1_; have HO702 := n2_; have BK692 := n3_; have BK698 := n4_; have HB := n5_; clear n0_ n1_ n2_ n3_ n4_ n5_; (try clear hb); (try clear hb2); (try clear hk); (try clear hi); (try clear ho0)) | ((with_reducible refine gate_dst (N := 6) rfl ?_); (try (refine gate_guard (by rfl) ?_; dsimp only)); refine box_event ?hg (N := 6) ?hd (cs := #[.int .i64 0, .slice none 0 0]) (t := 33) ?hr ?_; (case hd => rfl); (case hg => rfl); (case hr => first | (go_simp; done) | (go_simp; rfl)); intro gb704 hg w18 hbox hb; have n0_ := Aside0.mk (Kd.R_below (by (with_reducible repeat (first | apply Kd.R_alloc | apply Kd.R_drewN | apply Kd.R_drew)); exact HO691.out) hb); have n1_ := Aside0.mk (Kd.R_below (by (with_reducible repeat (first | apply Kd.R_alloc | apply Kd.R_drewN | apply Kd.R_drew)); exact HO696.out) hb); have n2_ := Aside0.mk (Kd.R_below (by (with_reducible repeat (first | apply Kd.R_alloc | apply Kd.R_drewN | apply Kd.R_drew)); exact HO702.out) hb); have n3_ := Aside0.mk (blk_below (g := gb692) (o := .cells #[.int .i64 t686, .int .i64 t687, .int .i64 t688, .slice Ao10 t689.length co10] 24 (0, 0)) (by (with_reducible repeat (first | refine blk_drewN ?_ _ | refine blk_drew ?_ | refine blk_alloc ?_ _)); exact BK692.out) hb); have n4_ := Aside0.mk (blk_below (g := gb698) (o := .cells #[.int .i64 t693, .slice Ao15 t694.length co15] 33 (0, 0)) (by (with_reducible repeat (first | refine blk_drewN ?_ _ | refine blk_drew ?_ | refine blk_alloc ?_ _)); exact BK698.out) hb); have n5_ := Aside0.mk (below_step (by repeat (first | (with_reducible first | exact HB.out | apply below_alloc | apply pw_below_drewN | apply below_drew1 | refine below_set ?_ GE692.out | refine below_set ?_ GE698.out) | exact HB.out)) hb); have n6_ := Aside0.mk (hbox); have n7_ := Aside0.mk ((by rw [hg]; exact (below_size (by repeat (first | (with_reducible first | exact HB.out | apply below_alloc | apply pw_below_drewN | apply below_drew1 | refine below_set ?_ GE692.out | refine below_set ?_ GE698.out) | exact HB.out))) : w.heap.size ≤ gb704)); have n8_ := Aside0.mk ((by rw [hg]; exact (below_size (by repeat (first | (with_reducible first | exact HB.out | apply below_alloc | apply pw_below_drewN | apply below_drew1 | refine below_set ?_ GE692.out | refine below_set ?_ GE698.out) | exact HB.out))) : w.heap.size ≤ gb704)); have n9_ := Aside0.mk ((by rw [hg]; exact Nat.ne_of_lt (blk_lt (g := gb692) (o := .cells #[.int .i64 t686, .int .i64 t687, .int .i64 t688, .slice Ao10 t689.length co10] 24 (0, 0)) (by (with_reducible repeat (first | refine blk_drewN ?_ _ | refine blk_drew ?_ | refine blk_alloc ?_ _)); exact BK692.out)) : gb692 ≠ gb704)); have n10_ := Aside0.mk ((by rw [hg]; exact Nat.ne_of_gt (blk_lt (g := gb692) (o := .cells #[.int .i64 t686, .int .i64 t687, .int .i64 t688, .slice Ao10 t689.length co10] 24 (0, 0)) (by (with_reducible repeat (first | refine blk_drewN ?_ _ | refine blk_drew ?_ | refine blk_alloc ?_ _)); exact BK692.out)) : gb704 ≠ gb692)); have n11_ := Aside0.mk ((by rw [hg]; exact Nat.ne_of_lt (blk_lt (g := gb698) (o := .cells #[.int .i64 t693, .slice Ao15 t694.length co15] 33 (0, 0)) (by (with_reducible repeat (first | refine blk_drewN ?_ _ | refine blk_drew ?_ | refine blk_alloc ?_ _)); exact BK698.out)) : gb698 ≠ gb704)); have n12_ := Aside0.mk ((by rw [hg]; exact Nat.ne_of_gt (blk_lt (g := gb698) (o := .cells #[.int .i64 t693, .slice Ao15 t694.length co15] 33 (0, 0)) (by (with_reducible repeat (first | refine blk_drewN ?_ _ | refine blk_drew ?_ | refine blk_alloc ?_ _)); exact BK698.out)) : gb704 ≠ gb698)); clear HO691; clear HO696; clear HO702; clear BK692; clear BK698; clear HB; have HO691 := n0_; have HO696 := n1_; have HO702 := n2_; have BK692 := n3_; have BK698 := n4_; have HB := n5_; have BK704 := n6_; have GW704 := n7_; have GE704 := n8_; have NB692_704 := n9_; have NB704_692 := n10_; have NB698_704 := n11_; have NB704_698 := n12_; clear n0_ n1_ n2_ n3_ n4_ n5_ n6_ n7_ n8_ n9_ n10_ n11_ n12_; clear hb hbox hg; have hnb19 := NB704_692.out; have hnc19 := NB692_704.out; have hnb20 := NB704_698.out; have hnc20 := NB698_704.out; have hcz21_0 : w18.cell? ⟨gb704, 0, none⟩ = some (.int .i64 0) := (blk_cell BK704.out 0).trans rfl; have hcz21_1 : w18.cell? ⟨gb704, 1, none⟩ = some (.slice none 0 0) := (blk_cell BK704.out 1).trans rfl; have hfz21_0 := blk_frozen BK704.out 0; have hfz21_1 := blk_frozen BK704.out 1; obtain ⟨Ao22, co22, eo22⟩ := Kd.R_slice HO702.out; subst eo22))
    (try simp only [Act.put, List.setIfInBounds_toArray, List.set_cons_zero, List.set_cons_succ])
    go_cut [35] (fun v35 wc => ∃ (kq : Nat) (x35_5 : Bool), v35 = .bool x35_5 ∧ Aside0 (laws_FnRingBox.j0 kq t697 t703 x35_5 t686 t687 t688 t689 t693 t694 t699 t700 = some r) ∧ Aside0 (kq ≤ k) ∧ Aside0 (Kd.R (Kd.int .i64) 3 wc w.heap.size (fun k_ => some k_ ≠ ((.slice Ao15 t694.length co15) : Value).ownBlock ∧ some k_ ≠ ((.slice Ao22 t700.length co22) : Value).ownBlock) (.slice Ao10 t689.length co10) t689) ∧ Aside0 (Kd.R (Kd.int .i64) 3 wc w.heap.size (fun k_ => some k_ ≠ ((.slice Ao10 t689.length co10) : Value).ownBlock ∧ some k_ ≠ ((.slice Ao22 t700.length co22) : Value).ownBlock) (.slice Ao15 t694.length co15) t694) ∧ Aside0 (Kd.R (Kd.int .i64) 3 wc w.heap.size (fun k_ => some k_ ≠ ((.slice Ao10 t689.length co10) : Value).ownBlock ∧ some k_ ≠ ((.slice Ao15 t694.length co15) : Value).ownBlock) (.slice Ao22 t700.length co22) t700) ∧ Aside0 (wc.heap[gb692]? = some (.cells #[.int .i64 t686, .int .i64 t687, .int .i64 t688, (.slice Ao10 t689.length co10)] 24 (0, 0))) ∧ Aside0 (wc.heap[gb698]? = some (.cells #[.int .i64 t693, (.slice Ao15 t694.length co15)] 33 (0, 0))) ∧ Aside0 (wc.heap[gb704]? = some (.cells #[.int .i64 t699, (.slice Ao22 t700.length co22)] 33 (0, 0))) ∧ Aside0 (Below w.heap.size w wc))
    case first =>
      have H := HC6.out
      clear HC6
      by_cases c23 : (t697 != t703) = true
      · rw [if_pos c23] at H
        have c23b0 : (t697 != t703) = true := c23
        (try (have c23b1 : decide (t697 = t703) = false := by simpa using c23))
        (try (have c23b2 : (t697 == t703) = false := by simpa using c23))
        (try (have c23b3 : ¬ (t697 = t703) := by simpa using c23))
        clear c23
        (first | rw [c23b0] | (simp only [i64_w, i32_w]; rw [c23b0]) | skip)
        have H' := Aside0.mk H
        clear H
        go_wp2
        go_meet
        case rel => exact ⟨_, (true), (by first | rfl | (simp; done) | (simp [*]; done)), H', ⟨by first | omega | exact Nat.le_refl _⟩, ⟨by (with_reducible repeat (first | apply Kd.R_alloc | apply Kd.R_drewN | apply Kd.R_drew)); exact Kd.R_mono (Kd.R_far (p := ⟨gb704, 1, none⟩) (Kd.R_far (p := ⟨gb704, 0, none⟩) (Kd.R_types HO691.out BK704.out (by decide)) (fun _ hk => hk.2) (.int .i64 t699)) (fun _ hk => hk.2) (.slice Ao22 t700.length co22)) (fun _ hk => ⟨hk.1.1.2, hk.1.2⟩)⟩, ⟨by (with_reducible repeat (first | apply Kd.R_alloc | apply Kd.R_drewN | apply Kd.R_drew)); exact Kd.R_mono (Kd.R_far (p := ⟨gb704, 1, none⟩) (Kd.R_far (p := ⟨gb704, 0, none⟩) (Kd.R_types HO696.out BK704.out (by decide)) (fun _ hk => hk.2) (.int .i64 t699)) (fun _ hk => hk.2) (.slice Ao22 t700.length co22)) (fun _ hk => ⟨hk.1.1.2, hk.1.2⟩)⟩, ⟨by (with_reducible repeat (first | apply Kd.R_alloc | apply Kd.R_drewN | apply Kd.R_drew)); exact Kd.R_mono (Kd.R_far (p := ⟨gb704, 1, none⟩) (Kd.R_far (p := ⟨gb704, 0, none⟩) (Kd.R_types HO702.out BK704.out (by decide)) (fun _ hk => hk.2) (.int .i64 t699)) (fun _ hk => hk.2) (.slice Ao22 t700.length co22)) (fun _ hk => ⟨hk.1.1.2, hk.1.2⟩)⟩, ⟨by (with_reducible repeat (first | refine blk_drewN ?_ _ | refine blk_drew ?_ | refine blk_alloc ?_ _)); refine blk_far ?_ NB692_704.out _; (with_reducible repeat (first | refine blk_drewN ?_ _ | refine blk_drew ?_ | refine blk_alloc ?_ _)); refine blk_far ?_ NB692_704.out _; (with_reducible repeat (first | refine blk_drewN ?_ _ | refine blk_drew ?_ | refine blk_alloc ?_ _)); exact BK692.out⟩, ⟨by (with_reducible repeat (first | refine blk_drewN ?_ _ | refine blk_drew ?_ | refine blk_alloc ?_ _)); refine blk_far ?_ NB698_704.out _; (with_reducible repeat (first | refine blk_drewN ?_ _ | refine blk_drew ?_ | refine blk_alloc ?_ _)); refine blk_far ?_ NB698_704.out _; (with_reducible repeat (first | refine blk_drewN ?_ _ | refine blk_drew ?_ | refine blk_alloc ?_ _)); exact BK698.out⟩, ⟨by (with_reducible repeat (first | refine blk_drewN ?_ _ | refine blk_drew ?_ | refine blk_alloc ?_ _)); refine blk_put (cs := #[.int .i64 t699, .slice none 0 0]) ?_ 1 _ rfl; (with_reducible repeat (first | refine blk_drewN ?_ _ | refine blk_drew ?_ | refine blk_alloc ?_ _)); refine blk_put (cs := #[.int .i64 0, .slice none 0 0]) ?_ 0 _ rfl; (with_reducible repeat (first | refine blk_drewN ?_ _ | refine blk_drew ?_ | refine blk_alloc ?_ _)); exact BK704.out⟩, ⟨by repeat (first | (with_reducible first | exact HB.out | apply below_alloc | apply pw_below_drewN | apply below_drew1 | refine below_set ?_ GE692.out | refine below_set ?_ GE698.out | refine below_set ?_ GE704.out) | exact HB.out)⟩⟩
      · rw [if_neg c23] at H
        have c23b0 : (t697 != t703) = false := by simpa using c23
        (try (have c23b1 : decide (t697 = t703) = true := by simpa using c23))
        (try (have c23b2 : (t697 == t703) = true := by simpa using c23))
        clear c23
        (first | rw [c23b0] | (simp only [i64_w, i32_w]; rw [c23b0]) | skip)
        replace H := Option.bind_eq_some_iff.mp H
        obtain ⟨t705, A240, H⟩ := H
        replace H : (if t705 = true then (laws_FnRingBox.j0 k t697 t703 (!t697) t686 t687 t688 t689 t693 t694 t699 t700) else (laws_FnRingBox.j0 k t697 t703 true t686 t687 t688 t689 t693 t694 t699 t700)) = some r := H
        have A24 := Aside0.mk A240
        clear A240
        by_cases c25 : t705 = true
        · subst c25
          have H1 : (laws_FnRingBox.j0 k t697 t703 (!t697) t686 t687 t688 t689 t693 t694 t699 t700) = some r := by rw [if_pos rfl] at H; exact H
          clear H
          have H := H1
          clear H1
          have H' := Aside0.mk H
          clear H
          have hnb26 := NB698_692.out
          have hnc26 := NB692_698.out
          have hnb27 := NB698_704.out
          have hnc27 := NB704_698.out
          have hcz28_0 : w18.cell? ⟨gb698, 0, none⟩ = some (.int .i64 t693) := (blk_cell BK698.out 0).trans rfl
          have hcz28_1 : w18.cell? ⟨gb698, 1, none⟩ = some (.slice Ao15 t694.length co15) := (blk_cell BK698.out 1).trans rfl
          have hfz28_0 := blk_frozen BK698.out 0
          have hfz28_1 := blk_frozen BK698.out 1
          have hnb29 := NB704_692.out
          have hnc29 := NB692_704.out
          have hcz30_0 : w18.cell? ⟨gb704, 0, none⟩ = some (.int .i64 0) := (blk_cell BK704.out 0).trans rfl
          have hcz30_1 : w18.cell? ⟨gb704, 1, none⟩ = some (.slice none 0 0) := (blk_cell BK704.out 1).trans rfl
          have hfz30_0 := blk_frozen BK704.out 0
          have hfz30_1 := blk_frozen BK704.out 1
          go_wp2_with (first | (go_at_call 24; (with_reducible refine (laws_sameBox.calls k t693 _ _ t694 t699 _ _ t700 true _ ?side1 ?side2 ?side3 ?side4 A24.out).mono ?_); (case side1 => refine (Kd.R_reads' (e := 3) (base := w.heap.size) (ok := fun k_ => ((True ∧ some k_ ≠ (.slice Ao10 t689.length co10 : Value).ownBlock) ∧ some k_ ≠ (.slice Ao22 t700.length co22 : Value).ownBlock)) (n := t694.length) (c := co15) ?_).2.2; exact (by (with_reducible repeat (first | apply Kd.R_alloc | apply Kd.R_drewN | apply Kd.R_drew)); exact (Kd.R_mono (Kd.R_far (p := ⟨gb704, 1, none⟩) (Kd.R_far (p := ⟨gb704, 0, none⟩) (Kd.R_types HO696.out BK704.out (by decide)) (fun _ hk => hk.2) (.int .i64 t699)) (fun _ hk => hk.2) (.slice Ao22 t700.length co22)) (fun _ h_ => h_.1)))); (case side2 => exact (Kd.R_reads' HO696.out).2.1); (case side3 => refine (Kd.R_reads' (e := 3) (base := w.heap.size) (ok := fun k_ => ((True ∧ some k_ ≠ (.slice Ao10 t689.length co10 : Value).ownBlock) ∧ some k_ ≠ (.slice Ao15 t694.length co15 : Value).ownBlock)) (n := t700.length) (c := co22) ?_).2.2; exact (by (with_reducible repeat (first | apply Kd.R_alloc | apply Kd.R_drewN | apply Kd.R_drew)); exact (Kd.R_mono (Kd.R_far (p := ⟨gb704, 1, none⟩) (Kd.R_far (p := ⟨gb704, 0, none⟩) (Kd.R_types HO702.out BK704.out (by decide)) (fun _ hk => hk.2) (.int .i64 t699)) (fun _ hk => hk.2) (.slice Ao22 t700.length co22)) (fun _ h_ => h_.1)))); (case side4 => exact (Kd.R_reads' HO702.out).2.1); rintro e w31 ⟨rfl, hb⟩; have n0_ := Aside0.mk (Kd.R_below (by (with_reducible repeat (first | apply Kd.R_alloc | apply Kd.R_drewN | apply Kd.R_drew)); exact (Kd.R_mono (Kd.R_far (p := ⟨gb704, 1, none⟩) (Kd.R_far (p := ⟨gb704, 0, none⟩) (Kd.R_types HO691.out BK704.out (by decide)) (fun _ hk => hk.2) (.int .i64 t699)) (fun _ hk => hk.2) (.slice Ao22 t700.length co22)) (fun _ h_ => h_.1))) hb); have n1_ := Aside0.mk (Kd.R_below (by (with_reducible repeat (first | apply Kd.R_alloc | apply Kd.R_drewN | apply Kd.R_drew)); exact (Kd.R_mono (Kd.R_far (p := ⟨gb704, 1, none⟩) (Kd.R_far (p := ⟨gb704, 0, none⟩) (Kd.R_types HO696.out BK704.out (by decide)) (fun _ hk => hk.2) (.int .i64 t699)) (fun _ hk => hk.2) (.slice Ao22 t700.length co22)) (fun _ h_ => h_.1))) hb); have n2_ := Aside0.mk (Kd.R_below (by (with_reducible repeat (first | apply Kd.R_alloc | apply Kd.R_drewN | apply Kd.R_drew)); exact (Kd.R_mono (Kd.R_far (p := ⟨gb704, 1, none⟩) (Kd.R_far (p := ⟨gb704, 0, none⟩) (Kd.R_types HO702.out BK704.out (by decide)) (fun _ hk => hk.2) (.int .i64 t699)) (fun _ hk => hk.2) (.slice Ao22 t700.length co22)) (fun _ h_ => h_.1))) hb); have n3_ := Aside0.mk (blk_below (g := gb692) (o := .cells #[.int .i64 t686, .int .i64 t687, .int .i64 t688, .slice Ao10 t689.length co10] 24 (0, 0)) (by (with_reducible repeat (first | refine blk_drewN ?_ _ | refine blk_drew ?_ | refine blk_alloc ?_ _)); refine blk_far ?_ NB692_704.out _; (with_reducible repeat (first | refine blk_drewN ?_ _ | refine blk_drew ?_ | refine blk_alloc ?_ _)); refine blk_far ?_ NB692_704.out _; (with_reducible repeat (first | refine blk_drewN ?_ _ | refine blk_drew ?_ | refine blk_alloc ?_ _)); exact BK692.out) hb); have n4_ := Aside0.mk (blk_below (g := gb698) (o := .cells #[.int .i64 t693, .slice Ao15 t694.length co15] 33 (0, 0)) (by (with_reducible repeat (first | refine blk_drewN ?_ _ | refine blk_drew ?_ | refine blk_alloc ?_ _)); refine blk_far ?_ NB698_704.out _; (with_reducible repeat (first | refine blk_drewN ?_ _ | refine blk_drew ?_ | refine blk_alloc ?_ _)); refine blk_far ?_ NB698_704.out _; (with_reducible repeat (first | refine blk_drewN ?_ _ | refine blk_drew ?_ | refine blk_alloc ?_ _)); exact BK698.out) hb); have n5_ := Aside0.mk (blk_below (g := gb704) (o := .cells #[.int .i64 t699, .slice Ao22 t700.length co22] 33 (0, 0)) (by (with_reducible repeat (first | refine blk_drewN ?_ _ | refine blk_drew ?_ | refine blk_alloc ?_ _)); refine blk_put (cs := #[.int .i64 t699, .slice none 0 0]) ?_ 1 _ rfl; (with_reducible repeat (first | refine blk_drewN ?_ _ | refine blk_drew ?_ | refine blk_alloc ?_ _)); refine blk_put (cs := #[.int .i64 0, .slice none 0 0]) ?_ 0 _ rfl; (with_reducible repeat (first | refine blk_drewN ?_ _ | refine blk_drew ?_ | refine blk_alloc ?_ _)); exact BK704.out) hb); have n6_ := Aside0.mk (below_step (by repeat (first | (with_reducible first | exact HB.out | apply below_alloc | apply pw_below_drewN | apply below_drew1 | refine below_set ?_ GE692.out | refine below_set ?_ GE698.out | refine below_set ?_ GE704.out) | exact HB.out)) hb); clear HO691; clear HO696; clear HO702; clear BK692; clear BK698; clear BK704; clear HB; have HO691 := n0_; have HO696 := n1_; have HO702 := n2_; have BK692 := n3_; have BK698 := n4_; have BK704 := n5_; have HB := n6_; clear n0_ n1_ n2_ n3_ n4_ n5_ n6_; (try clear hb); (try clear hb2); (try clear hk); (try clear hi)))
          go_meet
          case rel => exact ⟨_, (!t697), (by first | rfl | (simp; done) | (simp [*]; done)), H', ⟨by first | omega | exact Nat.le_refl _⟩, ⟨by (with_reducible repeat (first | apply Kd.R_alloc | apply Kd.R_drewN | apply Kd.R_drew)); exact Kd.R_mono HO691.out (fun _ hk => ⟨hk.1.2, hk.2⟩)⟩, ⟨by (with_reducible repeat (first | apply Kd.R_alloc | apply Kd.R_drewN | apply Kd.R_drew)); exact Kd.R_mono HO696.out (fun _ hk => ⟨hk.1.2, hk.2⟩)⟩, ⟨by (with_reducible repeat (first | apply Kd.R_alloc | apply Kd.R_drewN | apply Kd.R_drew)); exact Kd.R_mono HO702.out (fun _ hk => ⟨hk.1.2, hk.2⟩)⟩, ⟨by (with_reducible repeat (first | refine blk_drewN ?_ _ | refine blk_drew ?_ | refine blk_alloc ?_ _)); exact BK692.out⟩, ⟨by (with_reducible repeat (first | refine blk_drewN ?_ _ | refine blk_drew ?_ | refine blk_alloc ?_ _)); exact BK698.out⟩, ⟨by (with_reducible repeat (first | refine blk_drewN ?_ _ | refine blk_drew ?_ | refine blk_alloc ?_ _)); exact BK704.out⟩, ⟨by repeat (first | (with_reducible first | exact HB.out | apply below_alloc | apply pw_below_drewN | apply below_drew1 | refine below_set ?_ GE692.out | refine below_set ?_ GE698.out | refine below_set ?_ GE704.out) | exact HB.out)⟩⟩
        · replace c25 := Bool.eq_false_iff.mpr c25
          subst c25
          have H1 : (laws_FnRingBox.j0 k t697 t703 true t686 t687 t688 t689 t693 t694 t699 t700) = some r := by rw [if_neg (show ¬ (false = true) by decide)] at H; exact H
          clear H
          have H := H1
          clear H1
          have H' := Aside0.mk H
          clear H
          have hnb32 := NB698_692.out
          have hnc32 := NB692_698.out
          have hnb33 := NB698_704.out
          have hnc33 := NB704_698.out
          have hcz34_0 : w18.cell? ⟨gb698, 0, none⟩ = some (.int .i64 t693) := (blk_cell BK698.out 0).trans rfl
          have hcz34_1 : w18.cell? ⟨gb698, 1, none⟩ = some (.slice Ao15 t694.length co15) := (blk_cell BK698.out 1).trans rfl
          have hfz34_0 := blk_frozen BK698.out 0
          have hfz34_1 := blk_frozen BK698.out 1
          have hnb35 := NB704_692.out
          have hnc35 := NB692_704.out
          have hcz36_0 : w18.cell? ⟨gb704, 0, none⟩ = some (.int .i64 0) := (blk_cell BK704.out 0).trans rfl
          have hcz36_1 : w18.cell? ⟨gb704, 1, none⟩ = some (.slice none 0 0) := (blk_cell BK704.out 1).trans rfl
          have hfz36_0 := blk_frozen BK704.out 0
          have hfz36_1 := blk_frozen BK704.out 1
          go_wp2_with (first | (go_at_call 24; (with_reducible refine (laws_sameBox.calls k t693 _ _ t694 t699 _ _ t700 false _ ?side1 ?side2 ?side3 ?side4 A24.out).mono ?_); (case side1 => refine (Kd.R_reads' (e := 3) (base := w.heap.size) (ok := fun k_ => ((True ∧ some k_ ≠ (.slice Ao10 t689.length co10 : Value).ownBlock) ∧ some k_ ≠ (.slice Ao22 t700.length co22 : Value).ownBlock)) (n := t694.length) (c := co15) ?_).2.2; exact (by (with_reducible repeat (first | apply Kd.R_alloc | apply Kd.R_drewN | apply Kd.R_drew)); exact (Kd.R_mono (Kd.R_far (p := ⟨gb704, 1, none⟩) (Kd.R_far (p := ⟨gb704, 0, none⟩) (Kd.R_types HO696.out BK704.out (by decide)) (fun _ hk => hk.2) (.int .i64 t699)) (fun _ hk => hk.2) (.slice Ao22 t700.length co22)) (fun _ h_ => h_.1)))); (case side2 => exact (Kd.R_reads' HO696.out).2.1); (case side3 => refine (Kd.R_reads' (e := 3) (base := w.heap.size) (ok := fun k_ => ((True ∧ some k_ ≠ (.slice Ao10 t689.length co10 : Value).ownBlock) ∧ some k_ ≠ (.slice Ao15 t694.length co15 : Value).ownBlock)) (n := t700.length) (c := co22) ?_).2.2; exact (by (with_reducible repeat (first | apply Kd.R_alloc | apply Kd.R_drewN | apply Kd.R_drew)); exact (Kd.R_mono (Kd.R_far (p := ⟨gb704, 1, none⟩) (Kd.R_far (p := ⟨gb704, 0, none⟩) (Kd.R_types HO702.out BK704.out (by decide)) (fun _ hk => hk.2) (.int .i64 t699)) (fun _ hk => hk.2) (.slice Ao22 t700.length co22)) (fun _ h_ => h_.1)))); (case side4 => exact (Kd.R_reads' HO702.out).2.1); rintro e w37 ⟨rfl, hb⟩; have n0_ := Aside0.mk (Kd.R_below (by (with_reducible repeat (first | apply Kd.R_alloc | apply Kd.R_drewN | apply Kd.R_drew)); exact (Kd.R_mono (Kd.R_far (p := ⟨gb704, 1, none⟩) (Kd.R_far (p := ⟨gb704, 0, none⟩) (Kd.R_types HO691.out BK704.out (by decide)) (fun _ hk => hk.2) (.int .i64 t699)) (fun _ hk => hk.2) (.slice Ao22 t700.length co22)) (fun _ h_ => h_.1))) hb); have n1_ := Aside0.mk (Kd.R_below (by (with_reducible repeat (first | apply Kd.R_alloc | apply Kd.R_drewN | apply Kd.R_drew)); exact (Kd.R_mono (Kd.R_far (p := ⟨gb704, 1, none⟩) (Kd.R_far (p := ⟨gb704, 0, none⟩) (Kd.R_types HO696.out BK704.out (by decide)) (fun _ hk => hk.2) (.int .i64 t699)) (fun _ hk => hk.2) (.slice Ao22 t700.length co22)) (fun _ h_ => h_.1))) hb); have n2_ := Aside0.mk (Kd.R_below (by (with_reducible repeat (first | apply Kd.R_alloc | apply Kd.R_drewN | apply Kd.R_drew)); exact (Kd.R_mono (Kd.R_far (p := ⟨gb704, 1, none⟩) (Kd.R_far (p := ⟨gb704, 0, none⟩) (Kd.R_types HO702.out BK704.out (by decide)) (fun _ hk => hk.2) (.int .i64 t699)) (fun _ hk => hk.2) (.slice Ao22 t700.length co22)) (fun _ h_ => h_.1))) hb); have n3_ := Aside0.mk (blk_below (g := gb692) (o := .cells #[.int .i64 t686, .int .i64 t687, .int .i64 t688, .slice Ao10 t689.length co10] 24 (0, 0)) (by (with_reducible repeat (first | refine blk_drewN ?_ _ | refine blk_drew ?_ | refine blk_alloc ?_ _)); refine blk_far ?_ NB692_704.out _; (with_reducible repeat (first | refine blk_drewN ?_ _ | refine blk_drew ?_ | refine blk_alloc ?_ _)); refine blk_far ?_ NB692_704.out _; (with_reducible repeat (first | refine blk_drewN ?_ _ | refine blk_drew ?_ | refine blk_alloc ?_ _)); exact BK692.out) hb); have n4_ := Aside0.mk (blk_below (g := gb698) (o := .cells #[.int .i64 t693, .slice Ao15 t694.length co15] 33 (0, 0)) (by (with_reducible repeat (first | refine blk_drewN ?_ _ | refine blk_drew ?_ | refine blk_alloc ?_ _)); refine blk_far ?_ NB698_704.out _; (with_reducible repeat (first | refine blk_drewN ?_ _ | refine blk_drew ?_ | refine blk_alloc ?_ _)); refine blk_far ?_ NB698_704.out _; (with_reducible repeat (first | refine blk_drewN ?_ _ | refine blk_drew ?_ | refine blk_alloc ?_ _)); exact BK698.out) hb); have n5_ := Aside0.mk (blk_below (g := gb704) (o := .cells #[.int .i64 t699, .slice Ao22 t700.length co22] 33 (0, 0)) (by (with_reducible repeat (first | refine blk_drewN ?_ _ | refine blk_drew ?_ | refine blk_alloc ?_ _)); refine blk_put (cs := #[.int .i64 t699, .slice none 0 0]) ?_ 1 _ rfl; (with_reducible repeat (first | refine blk_drewN ?_ _ | refine blk_drew ?_ | refine blk_alloc ?_ _)); refine blk_put (cs := #[.int .i64 0, .slice none 0 0]) ?_ 0 _ rfl; (with_reducible repeat (first | refine blk_drewN ?_ _ | refine blk_drew ?_ | refine blk_alloc ?_ _)); exact BK704.out) hb); have n6_ := Aside0.mk (below_step (by repeat (first | (with_reducible first | exact HB.out | apply below_alloc | apply pw_below_drewN | apply below_drew1 | refine below_set ?_ GE692.out | refine below_set ?_ GE698.out | refine below_set ?_ GE704.out) | exact HB.out)) hb); clear HO691; clear HO696; clear HO702; clear BK692; clear BK698; clear BK704; clear HB; have HO691 := n0_; have HO696 := n1_; have HO702 := n2_; have BK692 := n3_; have BK698 := n4_; have BK704 := n5_; have HB := n6_; clear n0_ n1_ n2_ n3_ n4_ n5_ n6_; (try clear hb); (try clear hb2); (try clear hk); (try clear hi)))
          go_meet
          case rel => exact ⟨_, (true), (by first | rfl | (simp; done) | (simp [*]; done)), H', ⟨by first | omega | exact Nat.le_refl _⟩, ⟨by (with_reducible repeat (first | apply Kd.R_alloc | apply Kd.R_drewN | apply Kd.R_drew)); exact Kd.R_mono HO691.out (fun _ hk => ⟨hk.1.2, hk.2⟩)⟩, ⟨by (with_reducible repeat (first | apply Kd.R_alloc | apply Kd.R_drewN | apply Kd.R_drew)); exact Kd.R_mono HO696.out (fun _ hk => ⟨hk.1.2, hk.2⟩)⟩, ⟨by (with_reducible repeat (first | apply Kd.R_alloc | apply Kd.R_drewN | apply Kd.R_drew)); exact Kd.R_mono HO702.out (fun _ hk => ⟨hk.1.2, hk.2⟩)⟩, ⟨by (with_reducible repeat (first | refine blk_drewN ?_ _ | refine blk_drew ?_ | refine blk_alloc ?_ _)); exact BK692.out⟩, ⟨by (with_reducible repeat (first | refine blk_drewN ?_ _ | refine blk_drew ?_ | refine blk_alloc ?_ _)); exact BK698.out⟩, ⟨by (with_reducible repeat (first | refine blk_drewN ?_ _ | refine blk_drew ?_ | refine blk_alloc ?_ _)); exact BK704.out⟩, ⟨by repeat (first | (with_reducible first | exact HB.out | apply below_alloc | apply pw_below_drewN | apply below_drew1 | refine below_set ?_ GE692.out | refine below_set ?_ GE698.out | refine below_set ?_ GE704.out) | exact HB.out)⟩⟩
    case rest =>
      clear HC6
      try clear c1
      try clear c2
      try clear c2b0
      try clear c2b1
      try clear p2
      try clear c3
      try clear c4
      try clear c12
      try clear c13
      try clear c19
      try clear c20
      try clear c22
      try clear c23
      try clear c23b0
      try clear c23b1
      try clear c23b2
      try clear c25
      try clear c26
      try clear c27
      try clear c29
      try clear c32
      try clear c33
      try clear c35
      try clear hcz14_0
      try clear hcz14_1
      try clear hcz16_0
      try clear hcz16_1
      try clear hcz16_2
      try clear hcz16_3
      try clear hcz21_0
      try clear hcz21_1
      try clear hcz28_0
      try clear hcz28_1
      try clear hcz30_0
      try clear hcz30_1
      try clear hcz34_0
      try clear hcz34_1
      try clear hcz36_0
      try clear hcz36_1
      try clear hcz9_0
      try clear hcz9_1
      try clear hcz9_2
      try clear hcz9_3
      try clear hfz14_0
      try clear hfz14_1
      try clear hfz16_0
      try clear hfz16_1
      try clear hfz16_2
      try clear hfz16_3
      try clear hfz21_0
      try clear hfz21_1
      try clear hfz28_0
      try clear hfz28_1
      try clear hfz30_0
      try clear hfz30_1
      try clear hfz34_0
      try clear hfz34_1
      try clear hfz36_0
      try clear hfz36_1
      try clear hfz9_0
      try clear hfz9_1
      try clear hfz9_2
      try clear hfz9_3
      obtain ⟨kq, x35_5, rfl, HA, HJ5, HO_693003, HO_699001, HO_705001, BK692, BK698, BK704, HB⟩ := hcut
      cases kq with
      | zero => exact absurd HA.out (by simp [laws_FnRingBox.j0])
      | succ kj5 =>
        have H := HA.out
        clear HA
        simp only [laws_FnRingBox.j0] at H
        by_cases c38 : x35_5 = true
        · subst c38
          have H1 : (if (t697 == t703) = true then ((laws_sameBox.f kj5 t693 t694 t699 t700).bind fun t706 => (some t706)) else (some false)) = some r := by rw [if_pos rfl] at H; exact H
          clear H
          have H := H1
          clear H1
          by_cases c39 : (t697 == t703) = true
          · rw [if_pos c39] at H
            have c39b0 : (t697 == t703) = true := c39
            (try (have c39b1 : decide (t697 = t703) = true := by simpa using c39))
            (try (have c39b2 : (t697 == t703) = true := by simpa using c39))
            clear c39
            replace H := Option.bind_eq_some_iff.mp H
            obtain ⟨t706, A400, H⟩ := H
            replace H : (some t706) = some r := H
            have A40 := Aside0.mk A400
            clear A400
            obtain rfl := Option.some.inj H
            have hnb41 := NB698_692.out
            have hnc41 := NB692_698.out
            have hnb42 := NB698_704.out
            have hnc42 := NB704_698.out
            have hcz43_0 : wc.cell? ⟨gb698, 0, none⟩ = some (.int .i64 t693) := (blk_cell BK698.out 0).trans rfl
            have hcz43_1 : wc.cell? ⟨gb698, 1, none⟩ = some (.slice Ao15 t694.length co15) := (blk_cell BK698.out 1).trans rfl
            have hfz43_0 := blk_frozen BK698.out 0
            have hfz43_1 := blk_frozen BK698.out 1
            have hnb44 := NB704_692.out
            have hnc44 := NB692_704.out
            have hcz45_0 : wc.cell? ⟨gb704, 0, none⟩ = some (.int .i64 t699) := (blk_cell BK704.out 0).trans rfl
            have hcz45_1 : wc.cell? ⟨gb704, 1, none⟩ = some (.slice Ao22 t700.length co22) := (blk_cell BK704.out 1).trans rfl
            have hfz45_0 := blk_frozen BK704.out 0
            have hfz45_1 := blk_frozen BK704.out 1
            go_wp2_with (first | (go_at_call 24; (with_reducible refine (laws_sameBox.calls kj5 t693 _ _ t694 t699 _ _ t700 t706 _ ?side1 ?side2 ?side3 ?side4 A40.out).mono ?_); (case side1 => repeat (first | exact (Kd.R_reads' HO_699001.out).2.2 | (with_reducible refine Kd.C_alloc ?_ _) | (with_reducible refine Kd.C_drewN ?_ _) | (with_reducible refine Kd.C_drew ?_))); (case side2 => exact (Kd.R_reads' HO_699001.out).2.1); (case side3 => repeat (first | exact (Kd.R_reads' HO_705001.out).2.2 | (with_reducible refine Kd.C_alloc ?_ _) | (with_reducible refine Kd.C_drewN ?_ _) | (with_reducible refine Kd.C_drew ?_))); (case side4 => exact (Kd.R_reads' HO_705001.out).2.1); rintro e w46 ⟨rfl, hb⟩; have n0_ := Aside0.mk (Kd.R_below (by (with_reducible repeat (first | apply Kd.R_alloc | apply Kd.R_drewN | apply Kd.R_drew)); exact HO_693003.out) hb); have n1_ := Aside0.mk (Kd.R_below (by (with_reducible repeat (first | apply Kd.R_alloc | apply Kd.R_drewN | apply Kd.R_drew)); exact HO_699001.out) hb); have n2_ := Aside0.mk (Kd.R_below (by (with_reducible repeat (first | apply Kd.R_alloc | apply Kd.R_drewN | apply Kd.R_drew)); exact HO_705001.out) hb); have n3_ := Aside0.mk (blk_below (g := gb692) (o := .cells #[.int .i64 t686, .int .i64 t687, .int .i64 t688, .slice Ao10 t689.length co10] 24 (0, 0)) (by (with_reducible repeat (first | refine blk_drewN ?_ _ | refine blk_drew ?_ | refine blk_alloc ?_ _)); exact BK692.out) hb); have n4_ := Aside0.mk (blk_below (g := gb698) (o := .cells #[.int .i64 t693, .slice Ao15 t694.length co15] 33 (0, 0)) (by (with_reducible repeat (first | refine blk_drewN ?_ _ | refine blk_drew ?_ | refine blk_alloc ?_ _)); exact BK698.out) hb); have n5_ := Aside0.mk (blk_below (g := gb704) (o := .cells #[.int .i64 t699, .slice Ao22 t700.length co22] 33 (0, 0)) (by (with_reducible repeat (first | refine blk_drewN ?_ _ | refine blk_drew ?_ | refine blk_alloc ?_ _)); exact BK704.out) hb); have n6_ := Aside0.mk (below_step (by repeat (first | (with_reducible first | exact HB.out | apply below_alloc | apply pw_below_drewN | apply below_drew1 | refine below_set ?_ GE692.out | refine below_set ?_ GE698.out | refine below_set ?_ GE704.out) | exact HB.out)) hb); clear HO_693003; clear HO_699001; clear HO_705001; clear BK692; clear BK698; clear BK704; clear HB; have HO_693003 := n0_; have HO_699001 := n1_; have HO_705001 := n2_; have BK692 := n3_; have BK698 := n4_; have BK704 := n5_; have HB := n6_; clear n0_ n1_ n2_ n3_ n4_ n5_ n6_; (try clear hb); (try clear hb2); (try clear hk); (try clear hi)))
            go_ret
            exact ⟨by first | rfl | (simp [errW_none, errW_some] <;> rfl) | (simp [*, errW_none, errW_some] <;> rfl), by repeat (first | (with_reducible first | exact HB.out | apply below_alloc | apply pw_below_drewN | apply below_drew1 | refine below_set ?_ GE692.out | refine below_set ?_ GE698.out | refine below_set ?_ GE704.out) | exact HB.out)⟩
          · rw [if_neg c39] at H
            have c39b0 : (t697 == t703) = false := by simpa using c39
            (try (have c39b1 : decide (t697 = t703) = false := by simpa using c39))
            (try (have c39b2 : (t697 == t703) = false := by simpa using c39))
            (try (have c39b3 : ¬ (t697 = t703) := by simpa using c39))
            clear c39
            obtain rfl := Option.some.inj H
            go_wp2
            go_ret
            exact ⟨by first | rfl | (simp [errW_none, errW_some] <;> rfl) | (simp [*, errW_none, errW_some] <;> rfl), by repeat (first | (with_reducible first | exact HB.out | apply below_alloc | apply pw_below_drewN | apply below_drew1 | refine below_set ?_ GE692.out | refine below_set ?_ GE698.out | refine below_set ?_ GE704.out) | exact HB.out)⟩
        · replace c38 := Bool.eq_false_iff.mpr c38
          subst c38
          have H1 : ((impl_BoxValid.f kj5 t693 t694).bind fun t707 => (if t707 = true then (if t693 = t686 then (some ((t694.length : Int) == t688)) else (some false)) else (some false))) = some r := by rw [if_neg (show ¬ (false = true) by decide)] at H; exact H
          clear H
          have H := H1
          clear H1
          replace H := Option.bind_eq_some_iff.mp H
          obtain ⟨t707, A470, H⟩ := H
          replace H : (if t707 = true then (if t693 = t686 then (some ((t694.length : Int) == t688)) else (some false)) else (some false)) = some r := H
          have A47 := Aside0.mk A470
          clear A470
          by_cases c48 : t707 = true
          · subst c48
            have H1 : (if t693 = t686 then (some ((t694.length : Int) == t688)) else (some false)) = some r := by rw [if_pos rfl] at H; exact H
            clear H
            have H := H1
            clear H1
            by_cases c49 : t693 = t686
            · rw [if_pos c49] at H
              have c49b0 : (t693 == t686) = true := beq_iff_eq.mpr c49
              have c49b1 : (t693 != t686) = false := bne_eq_false_iff_eq.mpr c49
              clear c49
              obtain rfl := Option.some.inj H
              have hnb50 := NB698_692.out
              have hnc50 := NB692_698.out
              have hnb51 := NB698_704.out
              have hnc51 := NB704_698.out
              have hcz52_0 : wc.cell? ⟨gb698, 0, none⟩ = some (.int .i64 t693) := (blk_cell BK698.out 0).trans rfl
              have hcz52_1 : wc.cell? ⟨gb698, 1, none⟩ = some (.slice Ao15 t694.length co15) := (blk_cell BK698.out 1).trans rfl
              have hfz52_0 := blk_frozen BK698.out 0
              have hfz52_1 := blk_frozen BK698.out 1
              go_wp2_with (first | ((with_reducible refine gate_callee (f := 28) rfl ?_); refine goesL_ (some 45) rfl rfl Try.func28 (by kernel_rfl) rfl #[.agg #[.int .i64 t693, .slice Ao15 t694.length co15]] rfl (by (try simp only [List.map_toArray, List.map_cons, List.map_nil]); first | done | rfl | (simp only [List.length_drop, List.length_take]; rfl)) ?_; (with_reducible refine (impl_BoxValid.calls kj5 t693 _ _ t694 true _ ?side1 ?side2 A47.out).mono ?_); (case side1 => repeat (first | exact (Kd.R_reads' HO_699001.out).2.2 | (with_reducible refine Kd.C_alloc ?_ _) | (with_reducible refine Kd.C_drewN ?_ _) | (with_reducible refine Kd.C_drew ?_))); (case side2 => exact (Kd.R_reads' HO_699001.out).2.1); rintro e w53 ⟨rfl, hb⟩; refine ⟨_, rfl, ?_⟩; have n0_ := Aside0.mk (Kd.R_below (by (with_reducible repeat (first | apply Kd.R_alloc | apply Kd.R_drewN | apply Kd.R_drew)); exact HO_693003.out) hb); have n1_ := Aside0.mk (Kd.R_below (by (with_reducible repeat (first | apply Kd.R_alloc | apply Kd.R_drewN | apply Kd.R_drew)); exact HO_699001.out) hb); have n2_ := Aside0.mk (Kd.R_below (by (with_reducible repeat (first | apply Kd.R_alloc | apply Kd.R_drewN | apply Kd.R_drew)); exact HO_705001.out) hb); have n3_ := Aside0.mk (blk_below (g := gb692) (o := .cells #[.int .i64 t686, .int .i64 t687, .int .i64 t688, .slice Ao10 t689.length co10] 24 (0, 0)) (by (with_reducible repeat (first | refine blk_drewN ?_ _ | refine blk_drew ?_ | refine blk_alloc ?_ _)); exact BK692.out) hb); have n4_ := Aside0.mk (blk_below (g := gb698) (o := .cells #[.int .i64 t693, .slice Ao15 t694.length co15] 33 (0, 0)) (by (with_reducible repeat (first | refine blk_drewN ?_ _ | refine blk_drew ?_ | refine blk_alloc ?_ _)); exact BK698.out) hb); have n5_ := Aside0.mk (blk_below (g := gb704) (o := .cells #[.int .i64 t699, .slice Ao22 t700.length co22] 33 (0, 0)) (by (with_reducible repeat (first | refine blk_drewN ?_ _ | refine blk_drew ?_ | refine blk_alloc ?_ _)); exact BK704.out) hb); have n6_ := Aside0.mk (below_step (by repeat (first | (with_reducible first | exact HB.out | apply below_alloc | apply pw_below_drewN | apply below_drew1 | refine below_set ?_ GE692.out | refine below_set ?_ GE698.out | refine below_set ?_ GE704.out) | exact HB.out)) hb); clear HO_693003; clear HO_699001; clear HO_705001; clear BK692; clear BK698; clear BK704; clear HB; have HO_693003 := n0_; have HO_699001 := n1_; have HO_705001 := n2_; have BK692 := n3_; have BK698 := n4_; have BK704 := n5_; have HB := n6_; clear n0_ n1_ n2_ n3_ n4_ n5_ n6_; (try clear hb); (try clear hb2); (try clear hk); (try clear hi); have hcz54_0 : w53.cell? ⟨gb698, 0, none⟩ = some (.int .i64 t693) := (blk_cell BK698.out 0).trans rfl; have hcz54_1 : w53.cell? ⟨gb698, 1, none⟩ = some (.slice Ao15 t694.length co15) := (blk_cell BK698.out 1).trans rfl; have hfz54_0 := blk_frozen BK698.out 0; have hfz54_1 := blk_frozen BK698.out 1; have hnb55 := NB692_704.out; have hnc55 := NB704_692.out; have hcz56_0 : w53.cell? ⟨gb692, 0, none⟩ = some (.int .i64 t686) := (blk_cell BK692.out 0).trans rfl; have hcz56_1 : w53.cell? ⟨gb692, 1, none⟩ = some (.int .i64 t687) := (blk_cell BK692.out 1).trans rfl; have hcz56_2 : w53.cell? ⟨gb692, 2, none⟩ = some (.int .i64 t688) := (blk_cell BK692.out 2).trans rfl; have hcz56_3 : w53.cell? ⟨gb692, 3, none⟩ = some (.slice Ao10 t689.length co10) := (blk_cell BK692.out 3).trans rfl; have hfz56_0 := blk_frozen BK692.out 0; have hfz56_1 := blk_frozen BK692.out 1; have hfz56_2 := blk_frozen BK692.out 2; have hfz56_3 := blk_frozen BK692.out 3))
              go_ret
              exact ⟨by first | rfl | (simp [errW_none, errW_some] <;> rfl) | (simp [*, errW_none, errW_some] <;> rfl), by repeat (first | (with_reducible first | exact HB.out | apply below_alloc | apply pw_below_drewN | apply below_drew1 | refine below_set ?_ GE692.out | refine below_set ?_ GE698.out | refine below_set ?_ GE704.out) | exact HB.out)⟩
            · rw [if_neg c49] at H
              have c49b0 : (t693 == t686) = false := beq_eq_false_iff_ne.mpr c49
              have c49b1 : (t693 != t686) = true := bne_iff_ne.mpr c49
              obtain rfl := Option.some.inj H
              have hnb57 := NB698_692.out
              have hnc57 := NB692_698.out
              have hnb58 := NB698_704.out
              have hnc58 := NB704_698.out
              have hcz59_0 : wc.cell? ⟨gb698, 0, none⟩ = some (.int .i64 t693) := (blk_cell BK698.out 0).trans rfl
              have hcz59_1 : wc.cell? ⟨gb698, 1, none⟩ = some (.slice Ao15 t694.length co15) := (blk_cell BK698.out 1).trans rfl
              have hfz59_0 := blk_frozen BK698.out 0
              have hfz59_1 := blk_frozen BK698.out 1
              go_wp2_with (first | ((with_reducible refine gate_callee (f := 28) rfl ?_); refine goesL_ (some 45) rfl rfl Try.func28 (by kernel_rfl) rfl #[.agg #[.int .i64 t693, .slice Ao15 t694.length co15]] rfl (by (try simp only [List.map_toArray, List.map_cons, List.map_nil]); first | done | rfl | (simp only [List.length_drop, List.length_take]; rfl)) ?_; (with_reducible refine (impl_BoxValid.calls kj5 t693 _ _ t694 true _ ?side1 ?side2 A47.out).mono ?_); (case side1 => repeat (first | exact (Kd.R_reads' HO_699001.out).2.2 | (with_reducible refine Kd.C_alloc ?_ _) | (with_reducible refine Kd.C_drewN ?_ _) | (with_reducible refine Kd.C_drew ?_))); (case side2 => exact (Kd.R_reads' HO_699001.out).2.1); rintro e w60 ⟨rfl, hb⟩; refine ⟨_, rfl, ?_⟩; have n0_ := Aside0.mk (Kd.R_below (by (with_reducible repeat (first | apply Kd.R_alloc | apply Kd.R_drewN | apply Kd.R_drew)); exact HO_693003.out) hb); have n1_ := Aside0.mk (Kd.R_below (by (with_reducible repeat (first | apply Kd.R_alloc | apply Kd.R_drewN | apply Kd.R_drew)); exact HO_699001.out) hb); have n2_ := Aside0.mk (Kd.R_below (by (with_reducible repeat (first | apply Kd.R_alloc | apply Kd.R_drewN | apply Kd.R_drew)); exact HO_705001.out) hb); have n3_ := Aside0.mk (blk_below (g := gb692) (o := .cells #[.int .i64 t686, .int .i64 t687, .int .i64 t688, .slice Ao10 t689.length co10] 24 (0, 0)) (by (with_reducible repeat (first | refine blk_drewN ?_ _ | refine blk_drew ?_ | refine blk_alloc ?_ _)); exact BK692.out) hb); have n4_ := Aside0.mk (blk_below (g := gb698) (o := .cells #[.int .i64 t693, .slice Ao15 t694.length co15] 33 (0, 0)) (by (with_reducible repeat (first | refine blk_drewN ?_ _ | refine blk_drew ?_ | refine blk_alloc ?_ _)); exact BK698.out) hb); have n5_ := Aside0.mk (blk_below (g := gb704) (o := .cells #[.int .i64 t699, .slice Ao22 t700.length co22] 33 (0, 0)) (by (with_reducible repeat (first | refine blk_drewN ?_ _ | refine blk_drew ?_ | refine blk_alloc ?_ _)); exact BK704.out) hb); have n6_ := Aside0.mk (below_step (by repeat (first | (with_reducible first | exact HB.out | apply below_alloc | apply pw_below_drewN | apply below_drew1 | refine below_set ?_ GE692.out | refine below_set ?_ GE698.out | refine below_set ?_ GE704.out) | exact HB.out)) hb); clear HO_693003; clear HO_699001; clear HO_705001; clear BK692; clear BK698; clear BK704; clear HB; have HO_693003 := n0_; have HO_699001 := n1_; have HO_705001 := n2_; have BK692 := n3_; have BK698 := n4_; have BK704 := n5_; have HB := n6_; clear n0_ n1_ n2_ n3_ n4_ n5_ n6_; (try clear hb); (try clear hb2); (try clear hk); (try clear hi); have hcz61_0 : w60.cell? ⟨gb698, 0, none⟩ = some (.int .i64 t693) := (blk_cell BK698.out 0).trans rfl; have hcz61_1 : w60.cell? ⟨gb698, 1, none⟩ = some (.slice Ao15 t694.length co15) := (blk_cell BK698.out 1).trans rfl; have hfz61_0 := blk_frozen BK698.out 0; have hfz61_1 := blk_frozen BK698.out 1; have hnb62 := NB692_704.out; have hnc62 := NB704_692.out; have hcz63_0 : w60.cell? ⟨gb692, 0, none⟩ = some (.int .i64 t686) := (blk_cell BK692.out 0).trans rfl; have hcz63_1 : w60.cell? ⟨gb692, 1, none⟩ = some (.int .i64 t687) := (blk_cell BK692.out 1).trans rfl; have hcz63_2 : w60.cell? ⟨gb692, 2, none⟩ = some (.int .i64 t688) := (blk_cell BK692.out 2).trans rfl; have hcz63_3 : w60.cell? ⟨gb692, 3, none⟩ = some (.slice Ao10 t689.length co10) := (blk_cell BK692.out 3).trans rfl; have hfz63_0 := blk_frozen BK692.out 0; have hfz63_1 := blk_frozen BK692.out 1; have hfz63_2 := blk_frozen BK692.out 2; have hfz63_3 := blk_frozen BK692.out 3))
              go_ret
              exact ⟨by first | rfl | (simp [errW_none, errW_some] <;> rfl) | (simp [*, errW_none, errW_some] <;> rfl), by repeat (first | (with_reducible first | exact HB.out | apply below_alloc | apply pw_below_drewN | apply below_drew1 | refine below_set ?_ GE692.out | refine below_set ?_ GE698.out | refine below_set ?_ GE704.out) | exact HB.out)⟩
          · replace c48 := Bool.eq_false_iff.mpr c48
            subst c48
            have H1 : (some false) = some r := by rw [if_neg (show ¬ (false = true) by decide)] at H; exact H
            clear H
            have H := H1
            clear H1
            obtain rfl := Option.some.inj H
            have hnb64 := NB698_692.out
            have hnc64 := NB692_698.out
            have hnb65 := NB698_704.out
            have hnc65 := NB704_698.out
            have hcz66_0 : wc.cell? ⟨gb698, 0, none⟩ = some (.int .i64 t693) := (blk_cell BK698.out 0).trans rfl
            have hcz66_1 : wc.cell? ⟨gb698, 1, none⟩ = some (.slice Ao15 t694.length co15) := (blk_cell BK698.out 1).trans rfl
            have hfz66_0 := blk_frozen BK698.out 0
            have hfz66_1 := blk_frozen BK698.out 1
            go_wp2_with (first | ((with_reducible refine gate_callee (f := 28) rfl ?_); refine goesL_ (some 45) rfl rfl Try.func28 (by kernel_rfl) rfl #[.agg #[.int .i64 t693, .slice Ao15 t694.length co15]] rfl (by (try simp only [List.map_toArray, List.map_cons, List.map_nil]); first | done | rfl | (simp only [List.length_drop, List.length_take]; rfl)) ?_; (with_reducible refine (impl_BoxValid.calls kj5 t693 _ _ t694 false _ ?side1 ?side2 A47.out).mono ?_); (case side1 => repeat (first | exact (Kd.R_reads' HO_699001.out).2.2 | (with_reducible refine Kd.C_alloc ?_ _) | (with_reducible refine Kd.C_drewN ?_ _) | (with_reducible refine Kd.C_drew ?_))); (case side2 => exact (Kd.R_reads' HO_699001.out).2.1); rintro e w67 ⟨rfl, hb⟩; refine ⟨_, rfl, ?_⟩; have n0_ := Aside0.mk (Kd.R_below (by (with_reducible repeat (first | apply Kd.R_alloc | apply Kd.R_drewN | apply Kd.R_drew)); exact HO_693003.out) hb); have n1_ := Aside0.mk (Kd.R_below (by (with_reducible repeat (first | apply Kd.R_alloc | apply Kd.R_drewN | apply Kd.R_drew)); exact HO_699001.out) hb); have n2_ := Aside0.mk (Kd.R_below (by (with_reducible repeat (first | apply Kd.R_alloc | apply Kd.R_drewN | apply Kd.R_drew)); exact HO_705001.out) hb); have n3_ := Aside0.mk (blk_below (g := gb692) (o := .cells #[.int .i64 t686, .int .i64 t687, .int .i64 t688, .slice Ao10 t689.length co10] 24 (0, 0)) (by (with_reducible repeat (first | refine blk_drewN ?_ _ | refine blk_drew ?_ | refine blk_alloc ?_ _)); exact BK692.out) hb); have n4_ := Aside0.mk (blk_below (g := gb698) (o := .cells #[.int .i64 t693, .slice Ao15 t694.length co15] 33 (0, 0)) (by (with_reducible repeat (first | refine blk_drewN ?_ _ | refine blk_drew ?_ | refine blk_alloc ?_ _)); exact BK698.out) hb); have n5_ := Aside0.mk (blk_below (g := gb704) (o := .cells #[.int .i64 t699, .slice Ao22 t700.length co22] 33 (0, 0)) (by (with_reducible repeat (first | refine blk_drewN ?_ _ | refine blk_drew ?_ | refine blk_alloc ?_ _)); exact BK704.out) hb); have n6_ := Aside0.mk (below_step (by repeat (first | (with_reducible first | exact HB.out | apply below_alloc | apply pw_below_drewN | apply below_drew1 | refine below_set ?_ GE692.out | refine below_set ?_ GE698.out | refine below_set ?_ GE704.out) | exact HB.out)) hb); clear HO_693003; clear HO_699001; clear HO_705001; clear BK692; clear BK698; clear BK704; clear HB; have HO_693003 := n0_; have HO_699001 := n1_; have HO_705001 := n2_; have BK692 := n3_; have BK698 := n4_; have BK704 := n5_; have HB := n6_; clear n0_ n1_ n2_ n3_ n4_ n5_ n6_; (try clear hb); (try clear hb2); (try clear hk); (try clear hi)))
            go_ret
            exact ⟨by first | rfl | (simp [errW_none, errW_some] <;> rfl) | (simp [*, errW_none, errW_some] <;> rfl), by repeat (first | (with_reducible first | exact HB.out | apply below_alloc | apply pw_below_drewN | apply below_drew1 | refine below_set ?_ GE692.out | refine below_set ?_ GE698.out | refine below_set ?_ GE704.out) | exact HB.out)⟩

/-- THE ONE PURE STATEMENT of laws_FnRingBox: yours. -/
def laws_FnRingBox.Pure : Prop := ∀ (l0 : List Int), l0.length ≤ maxLen → l0.length * 1 ≤ 140737488351232 → (∀ x ∈ l0, (Lit.int .u8 x).wf = true) → ∃ k, laws_FnRingBox.f k l0 = some true
theorem laws_FnRingBox.walk (P : laws_FnRingBox.Pure) (a0 : Option Addr) (len0 cap0 : Nat) (z0 : List Int) (w : World) (w0 : (a0 = none ∧ len0 = 0 ∧ cap0 = 0 ∧ z0 = []) ∨ ∃ x, a0 = some x ∧ len0 ≤ cap0 ∧ cap0 ≤ maxLen ∧ z0.length = cap0 ∧ (∀ i, i < z0.length → w.cell? (x.add i) = some (.int .u8 (z0.getD i 0))) ∧ ∀ n ∈ z0, (Lit.int .u8 n).wf = true) (y0 : len0 * 1 ≤ 140737488351232) :
    Calls Try.prog 12 #[.slice a0 len0 cap0] w fun e w' => e = .returned (.bool true) ∧ Below w.heap.size w w' := by
  obtain ⟨l0, rfl, hr0, hm0, hw0, hc0⟩ := ReadsInt.ofRowC w0
  obtain ⟨k, h⟩ := P l0 hm0 y0 hw0
  refine (laws_FnRingBox.calls k _ _ l0 true w (Kd.C_of_reads (d := (0 : Int)) (h1 := fun _ => rfl) hr0) hc0 h).mono ?_
  rintro e w' ⟨rfl, hd⟩
  exact ⟨rfl, hd⟩

end Go.Proofs.Ytiakpoamjiodoaa.PA

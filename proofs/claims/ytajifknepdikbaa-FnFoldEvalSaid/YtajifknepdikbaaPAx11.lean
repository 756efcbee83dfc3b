-- made by a program of this session (wip/myprint.py over the kit's print)
import Derived.Test.YtajifknepdikbaaV
import Derived.Test.YtajifknepdikbaaPAx0
import Derived.Test.YtajifknepdikbaaPAx1
import Derived.Test.YtajifknepdikbaaPAx6
import Derived.Test.YtajifknepdikbaaPAx8
import Derived.Test.YtajifknepdikbaaPAx10
namespace Go.Proofs.Ytajifknepdikbaa.PA
open Go.RowKit Go.Proofs.YtajifknepdikbaaW.PrintWords Go.Proofs.YtajifknepdikbaaW.PrintLast Go.Proofs.YtajifknepdikbaaW.PrintMore
attribute [local go_sem] max2_int min2_int max_two min_two max_three min_three max_four min_four   -- for this text's walks alone
set_option linter.unusedVariables false
set_option linter.unusedSimpArgs false

/-! ### spec_l4Fold: function 55 -/
theorem spec_l4Fold.mono_l : ∀ k, (∀ y0 y1 y2, LeO (spec_l4Fold.f k y0 y1 y2) (spec_l4Fold.f (k + 1) y0 y1 y2)) ∧ (∀ y0 y1 y2 y3 y4 y5 y6 y7 y8 y9, LeO (spec_l4Fold.j0 k y0 y1 y2 y3 y4 y5 y6 y7 y8 y9) (spec_l4Fold.j0 (k + 1) y0 y1 y2 y3 y4 y5 y6 y7 y8 y9))
  | 0 => ⟨fun _ _ _ r h => by simp [spec_l4Fold.f] at h, fun _ _ _ _ _ _ _ _ _ _ r h => by simp [spec_l4Fold.j0] at h⟩
  | k + 1 => by
    obtain ⟨ih0, ih1⟩ := spec_l4Fold.mono_l k
    refine ⟨?_, ?_⟩
    · intro y0 y1 y2
      unfold spec_l4Fold.f
      repeat' first
      | (with_reducible exact ih0 _ _ _)
      | (with_reducible exact ih1 _ _ _ _ _ _ _ _ _ _)
      | (with_reducible exact spec_Apply.mono _ _ _ _)
      | (with_reducible exact LeO.refl _)
      | (with_reducible exact LeO.none _)
      | (with_reducible refine LeO.ite ?_ ?_)
      | (with_reducible refine LeO.bind ?_ (fun _ => ?_))
      | exact ih0 _ _ _
      | exact ih1 _ _ _ _ _ _ _ _ _ _
      | exact spec_Apply.mono _ _ _ _
      | exact LeO.none _
      | refine LeO.ite ?_ ?_
      | refine LeO.bind ?_ (fun _ => ?_)
    · intro y0 y1 y2 y3 y4 y5 y6 y7 y8 y9
      unfold spec_l4Fold.j0
      repeat' first
      | (with_reducible exact ih0 _ _ _)
      | (with_reducible exact ih1 _ _ _ _ _ _ _ _ _ _)
      | (with_reducible exact spec_Apply.mono _ _ _ _)
      | (with_reducible exact LeO.refl _)
      | (with_reducible exact LeO.none _)
      | (with_reducible refine LeO.ite ?_ ?_)
      | (with_reducible refine LeO.bind ?_ (fun _ => ?_))
      | exact ih0 _ _ _
      | exact ih1 _ _ _ _ _ _ _ _ _ _
      | exact spec_Apply.mono _ _ _ _
      | exact LeO.none _
      | refine LeO.ite ?_ ?_
      | refine LeO.bind ?_ (fun _ => ?_)
theorem spec_l4Fold.mono : ∀ a0 a1 a2 k, LeO (spec_l4Fold.f k a0 a1 a2) (spec_l4Fold.f (k + 1) a0 a1 a2) := by
  intro a0 a1 a2 k
  obtain ⟨ih0, ih1⟩ := spec_l4Fold.mono_l k
  exact ih0 a0 a1 a2
set_option maxHeartbeats 8000000 in
set_option maxRecDepth 100000 in
theorem spec_l4Fold.calls (k : Nat) : ∀ (a0_0 : Int) (a0_1 : Int) (A0_2 : Option Addr) (c0_2 : Nat) (l0_2 : List (S25)) (r1 : Int) (r2 : Int) (r3 : List (S25)) (w : World) (hr0_2 : Kd.C k25 w A0_2 l0_2.length l0_2) (hc0_2 : l0_2.length ≤ c0_2) (h : spec_l4Fold.f k a0_0 a0_1 l0_2 = some (r1, r2, r3)),
    Calls Try.prog 55 #[.agg #[.int .i64 a0_0, .int .i64 a0_1, .slice A0_2 l0_2.length c0_2]] w fun e w' => ∃ v2_ : Value, e = .returned (.agg #[.int .i64 r1, .int .i64 r2, v2_]) ∧ Kd.N k25 25 w' w.heap.size (fun k_ => (w.heap.size ≤ k_)) v2_ r3 ∧ Below w.heap.size w w' := by
  induction k using Nat.strongRecOn with
  | _ k ih =>
  intro a0_0 a0_1 A0_2 c0_2 l0_2 r1 r2 r3 w hr0_2 hc0_2 h
  cases k with
  | zero => exact absurd h (by simp [spec_l4Fold.f])
  | succ k =>
  simp only [spec_l4Fold.f] at h
  have hu25 := Try.underlying25
  have HR0_2 := Aside0.mk hr0_2
  have HC0_2 := Aside0.mk hc0_2
  clear hr0_2 hc0_2
  have HB := Aside0.mk (Below.refl w.heap.size w)
  have H : (if (l0_2.length : Int) = 0 then ((spec_l4Leaf.f a0_0 a0_1).bind fun bt154 => (some (bt154.1, bt154.2.1, bt154.2.2))) else (if 0 < (l0_2.length : Int) then ((spec_l4Fold.f k ((rd_T25 l0_2 0).f0) ((rd_T25 l0_2 0).f1) ((rd_T25 l0_2 0).f2)).bind fun bt160 => (if 1 < (l0_2.length : Int) then ((spec_l4Fold.f k ((rd_T25 l0_2 1).f0) ((rd_T25 l0_2 1).f1) ((rd_T25 l0_2 1).f2)).bind fun bt167 => (if bt160.1 = 0 then (spec_l4Fold.j0 k (bt167.1 == 0) a0_0 a0_1 l0_2 bt160.1 bt160.2.1 bt160.2.2 bt167.1 bt167.2.1 bt167.2.2) else (spec_l4Fold.j0 k false a0_0 a0_1 l0_2 bt160.1 bt160.2.1 bt160.2.2 bt167.1 bt167.2.1 bt167.2.2))) else (none))) else (none))) = some (r1, r2, r3) := h
  clear h
  by_cases c2 : (l0_2.length : Int) = 0
  · rw [if_pos c2] at H
    have c2b0 : ((l0_2.length : Int) == 0) = true := beq_iff_eq.mpr c2
    have c2b1 : ((l0_2.length : Int) != 0) = false := bne_eq_false_iff_eq.mpr c2
    clear c2
    replace H := Option.bind_eq_some_iff.mp H
    obtain ⟨⟨t154, t155, t156⟩, A30, H⟩ := H
    replace H : (some (t154, t155, t156)) = some (r1, r2, r3) := H
    have A3 := Aside0.mk A30
    clear A30
    simp only [Option.some.injEq, Prod.mk.injEq] at H
    obtain ⟨rfl, rfl, rfl⟩ := H
    go_enter Try.func55, Try.ntmps55
    go_wp2_with (first | ((with_reducible refine gate_dst (N := 1) rfl ?_); refine box_event ?hg (N := 1) ?hd (cs := #[.int .i64 a0_0, .int .i64 a0_1, .slice A0_2 l0_2.length c0_2]) (t := 25) ?hr ?_; (case hd => rfl); (case hg => rfl); (case hr => first | (go_simp; done) | (go_simp; rfl)); intro gb152 hg w4 hbox hb; have n0_ := Aside0.mk (below_step ab2_ hb); have n1_ := Aside0.mk (hbox); have n2_ := Aside0.mk ((by rw [hg]; exact (below_size ab2_) : w.heap.size ≤ gb152)); have n3_ := Aside0.mk ((by rw [hg]; exact (below_size ab2_) : w.heap.size ≤ gb152)); clear HB; have HB := n0_; have BK152 := n1_; have GW152 := n2_; have GE152 := n3_; clear n0_ n1_ n2_ n3_; clear hb hbox hg) | ((with_reducible refine gate_dst (N := 2) rfl ?_); refine box_event ?hg (N := 2) ?hd (cs := #[.int .i64 0, .int .i64 0, .slice none 0 0]) (t := 25) ?hr ?_; (case hd => rfl); (case hg => rfl); (case hr => first | (go_simp; done) | (go_simp; rfl)); intro gb153 hg w5 hbox hb; have n0_ := Aside0.mk (blk_below (g := gb152) (o := .cells #[.int .i64 a0_0, .int .i64 a0_1, .slice A0_2 l0_2.length c0_2] 25 (0, 0)) (aG_ BK152.out) hb); have n1_ := Aside0.mk (below_step ab42_ hb); have n2_ := Aside0.mk (hbox); have n3_ := Aside0.mk ((by rw [hg]; exact (below_size ab42_) : w.heap.size ≤ gb153)); have n4_ := Aside0.mk ((by rw [hg]; exact (below_size ab42_) : w.heap.size ≤ gb153)); have n5_ := Aside0.mk ((by rw [hg]; exact Nat.ne_of_lt (blk_lt (g := gb152) (o := .cells #[.int .i64 a0_0, .int .i64 a0_1, .slice A0_2 l0_2.length c0_2] 25 (0, 0)) (aG_ BK152.out)) : gb152 ≠ gb153)); have n6_ := Aside0.mk ((by rw [hg]; exact Nat.ne_of_gt (blk_lt (g := gb152) (o := .cells #[.int .i64 a0_0, .int .i64 a0_1, .slice A0_2 l0_2.length c0_2] 25 (0, 0)) (aG_ BK152.out)) : gb153 ≠ gb152)); clear BK152; clear HB; have BK152 := n0_; have HB := n1_; have BK153 := n2_; have GW153 := n3_; have GE153 := n4_; have NB152_153 := n5_; have NB153_152 := n6_; clear n0_ n1_ n2_ n3_ n4_ n5_ n6_; clear hb hbox hg; have hnb6 := NB152_153.out; have hnc6 := NB153_152.out; have hcz7_0 : w5.cell? ⟨gb152, 0, none⟩ = some (.int .i64 a0_0) := (blk_cell BK152.out 0).trans rfl; have hcz7_1 : w5.cell? ⟨gb152, 1, none⟩ = some (.int .i64 a0_1) := (blk_cell BK152.out 1).trans rfl; have hcz7_2 : w5.cell? ⟨gb152, 2, none⟩ = some (.slice A0_2 l0_2.length c0_2) := (blk_cell BK152.out 2).trans rfl; have hfz7_0 := blk_frozen BK152.out 0; have hfz7_1 := blk_frozen BK152.out 1; have hfz7_2 := blk_frozen BK152.out 2) | ((with_reducible refine gate_callee (f := 62) rfl ?_); refine goesL_ (some 15) rfl rfl Try.func62 (by kernel_rfl) rfl #[.int .i64 a0_0, .int .i64 a0_1] rfl ab1_ ?_; (with_reducible refine (spec_l4Leaf.calls a0_0 a0_1 t154 t155 t156 _ A3.out).mono ?_); rintro e w8 ⟨v157, rfl, ho0, hb⟩; refine ⟨_, rfl, ?_⟩; have n0_ := Aside0.mk (Kd.N_lower (Kd.N_mono (ok' := fun k_ => (w.heap.size ≤ k_) ∧ k_ ≠ gb152 ∧ k_ ≠ gb153) (Kd.R_N (Kd.R_bound ho0)) (fun k_ hk_ => ⟨(Nat.le_trans (below_size ab25_) hk_.2.1), (Kd.freshB (g := gb152) (o := .cells #[.int .i64 a0_0, .int .i64 a0_1, .slice A0_2 l0_2.length c0_2] 25 (0, 0)) (aG_ BK152.out) k_ hk_.2.1), (Kd.freshB (g := gb153) (o := .cells #[.int .i64 0, .int .i64 0, .slice none 0 0] 25 (0, 0)) (aG_ BK153.out) k_ hk_.2.1)⟩)) (below_size ab25_)); have n1_ := Aside0.mk (blk_below (g := gb152) (o := .cells #[.int .i64 a0_0, .int .i64 a0_1, .slice A0_2 l0_2.length c0_2] 25 (0, 0)) (aG_ BK152.out) hb); have n2_ := Aside0.mk (blk_below (g := gb153) (o := .cells #[.int .i64 0, .int .i64 0, .slice none 0 0] 25 (0, 0)) (aG_ BK153.out) hb); have n3_ := Aside0.mk (below_step ab25_ hb); clear BK152; clear BK153; clear HB; have HO158 := n0_; have BK152 := n1_; have BK153 := n2_; have HB := n3_; clear n0_ n1_ n2_ n3_; (try clear hb); (try clear hb2); (try clear hk); (try clear hi); (try clear ho0); have hcz9_0 : w8.cell? ⟨gb153, 0, none⟩ = some (.int .i64 0) := (blk_cell BK153.out 0).trans rfl; have hcz9_1 : w8.cell? ⟨gb153, 1, none⟩ = some (.int .i64 0) := (blk_cell BK153.out 1).trans rfl; have hcz9_2 : w8.cell? ⟨gb153, 2, none⟩ = some (.slice none 0 0) := (blk_cell BK153.out 2).trans rfl; have hfz9_0 := blk_frozen BK153.out 0; have hfz9_1 := blk_frozen BK153.out 1; have hfz9_2 := blk_frozen BK153.out 2; obtain ⟨Ao10, co10, eo10⟩ := Kd.N_slice HO158.out; subst eo10))
    refine bodyPost_ret (results_cell_row rfl _ _ gb153 25 #[.int .i64 t154, .int .i64 t155, .slice Ao10 t156.length co10] (0, 0) _ rfl (by (with_reducible repeat (first | refine blk_drewN ?_ _ | refine blk_drew ?_ | refine blk_alloc ?_ _)); refine blk_put (cs := #[.int .i64 t154, .int .i64 t155, .slice none 0 0]) ?_ 2 _ rfl; (with_reducible repeat (first | refine blk_drewN ?_ _ | refine blk_drew ?_ | refine blk_alloc ?_ _)); refine blk_put (cs := #[.int .i64 t154, .int .i64 0, .slice none 0 0]) ?_ 1 _ rfl; (with_reducible repeat (first | refine blk_drewN ?_ _ | refine blk_drew ?_ | refine blk_alloc ?_ _)); refine blk_put (cs := #[.int .i64 0, .int .i64 0, .slice none 0 0]) ?_ 0 _ rfl; (with_reducible repeat (first | refine blk_drewN ?_ _ | refine blk_drew ?_ | refine blk_alloc ?_ _)); exact BK153.out) Try.underlying25 rfl (by kernel_rfl)) rfl ?_
    exact ⟨_, ab20_, by (with_reducible repeat (first | apply Kd.N_alloc | apply Kd.N_drewN | apply Kd.N_drew)); exact Kd.N_mono (Kd.N_far (p := ⟨gb153, 2, none⟩) (Kd.N_far (p := ⟨gb153, 1, none⟩) (Kd.N_far (p := ⟨gb153, 0, none⟩) (Kd.N_mono HO158.out (fun k_ hk => (⟨hk, hk.2.2⟩ : _ ∧ k_ ≠ gb153))) (fun _ hk => hk.2) (.int .i64 t154)) (fun _ hk => hk.2) (.int .i64 t155)) (fun _ hk => hk.2) (.slice Ao10 t156.length co10)) (fun _ hk => hk.1.1), ab25_⟩
  · rw [if_neg c2] at H
    have c2b0 : ((l0_2.length : Int) == 0) = false := beq_eq_false_iff_ne.mpr c2
    have c2b1 : ((l0_2.length : Int) != 0) = true := bne_iff_ne.mpr c2
    have c2b2 : ¬ (l0_2 = []) := fun h_ => c2 (by rw [h_]; rfl)
    by_cases c11 : 0 < (l0_2.length : Int)
    · rw [if_pos c11] at H
      have c11b0 : decide (0 < (l0_2.length : Int)) = true := decide_eq_true c11
      have c11b1 : decide (0 < l0_2.length) = true := decide_eq_true (by omega)
      clear c11
      replace H := Option.bind_eq_some_iff.mp H
      obtain ⟨⟨t160, t161, t162⟩, A120, H⟩ := H
      replace H : (if 1 < (l0_2.length : Int) then ((spec_l4Fold.f k ((rd_T25 l0_2 1).f0) ((rd_T25 l0_2 1).f1) ((rd_T25 l0_2 1).f2)).bind fun bt167 => (if t160 = 0 then (spec_l4Fold.j0 k (bt167.1 == 0) a0_0 a0_1 l0_2 t160 t161 t162 bt167.1 bt167.2.1 bt167.2.2) else (spec_l4Fold.j0 k false a0_0 a0_1 l0_2 t160 t161 t162 bt167.1 bt167.2.1 bt167.2.2))) else (none)) = some (r1, r2, r3) := H
      have A12 := Aside0.mk A120
      clear A120
      by_cases c13 : 1 < (l0_2.length : Int)
      · rw [if_pos c13] at H
        have c13b0 : decide (1 < (l0_2.length : Int)) = true := decide_eq_true c13
        have c13b1 : decide (1 < l0_2.length) = true := decide_eq_true (by omega)
        clear c13
        replace H := Option.bind_eq_some_iff.mp H
        obtain ⟨⟨t167, t168, t169⟩, A140, H⟩ := H
        replace H : (if t160 = 0 then (spec_l4Fold.j0 k (t167 == 0) a0_0 a0_1 l0_2 t160 t161 t162 t167 t168 t169) else (spec_l4Fold.j0 k false a0_0 a0_1 l0_2 t160 t161 t162 t167 t168 t169)) = some (r1, r2, r3) := H
        have A14 := Aside0.mk A140
        clear A140
        have HC15 := Aside0.mk H
        clear H
        go_enter Try.func55, Try.ntmps55
        go_upto_region 5 with (first | ((with_reducible refine gate_dst (N := 1) rfl ?_); refine box_event ?hg (N := 1) ?hd (cs := #[.int .i64 a0_0, .int .i64 a0_1, .slice A0_2 l0_2.length c0_2]) (t := 25) ?hr ?_; (case hd => rfl); (case hg => rfl); (case hr => first | (go_simp; done) | (go_simp; rfl)); intro gb152 hg w16 hbox hb; have n0_ := Aside0.mk (below_step ab2_ hb); have n1_ := Aside0.mk (hbox); have n2_ := Aside0.mk ((by rw [hg]; exact (below_size ab2_) : w.heap.size ≤ gb152)); have n3_ := Aside0.mk ((by rw [hg]; exact (below_size ab2_) : w.heap.size ≤ gb152)); clear HB; have HB := n0_; have BK152 := n1_; have GW152 := n2_; have GE152 := n3_; clear n0_ n1_ n2_ n3_; clear hb hbox hg) | ((with_reducible refine gate_dst (N := 2) rfl ?_); refine box_event ?hg (N := 2) ?hd (cs := #[.int .i64 0, .int .i64 0, .slice none 0 0]) (t := 25) ?hr ?_; (case hd => rfl); (case hg => rfl); (case hr => first | (go_simp; done) | (go_simp; rfl)); intro gb153 hg w17 hbox hb; have n0_ := Aside0.mk (blk_below (g := gb152) (o := .cells #[.int .i64 a0_0, .int .i64 a0_1, .slice A0_2 l0_2.length c0_2] 25 (0, 0)) (aG_ BK152.out) hb); have n1_ := Aside0.mk (below_step ab42_ hb); have n2_ := Aside0.mk (hbox); have n3_ := Aside0.mk ((by rw [hg]; exact (below_size ab42_) : w.heap.size ≤ gb153)); have n4_ := Aside0.mk ((by rw [hg]; exact (below_size ab42_) : w.heap.size ≤ gb153)); have n5_ := Aside0.mk ((by rw [hg]; exact Nat.ne_of_lt (blk_lt (g := gb152) (o := .cells #[.int .i64 a0_0, .int .i64 a0_1, .slice A0_2 l0_2.length c0_2] 25 (0, 0)) (aG_ BK152.out)) : gb152 ≠ gb153)); have n6_ := Aside0.mk ((by rw [hg]; exact Nat.ne_of_gt (blk_lt (g := gb152) (o := .cells #[.int .i64 a0_0, .int .i64 a0_1, .slice A0_2 l0_2.length c0_2] 25 (0, 0)) (aG_ BK152.out)) : gb153 ≠ gb152)); clear BK152; clear HB; have BK152 := n0_; have HB := n1_; have BK153 := n2_; have GW153 := n3_; have GE153 := n4_; have NB152_153 := n5_; have NB153_152 := n6_; clear n0_ n1_ n2_ n3_ n4_ n5_ n6_; clear hb hbox hg; have hnb18 := NB152_153.out; have hnc18 := NB153_152.out; have hcz19_0 : w17.cell? ⟨gb152, 0, none⟩ = some (.int .i64 a0_0) := (blk_cell BK152.out 0).trans rfl; have hcz19_1 : w17.cell? ⟨gb152, 1, none⟩ = some (.int .i64 a0_1) := (blk_cell BK152.out 1).trans rfl; have hcz19_2 : w17.cell? ⟨gb152, 2, none⟩ = some (.slice A0_2 l0_2.length c0_2) := (blk_cell BK152.out 2).trans rfl; have hfz19_0 := blk_frozen BK152.out 0; have hfz19_1 := blk_frozen BK152.out 1; have hfz19_2 := blk_frozen BK152.out 2; have p159 : 0 ≤ (0 : Int) := (by omega); have q159 : 0 < (l0_2.length : Int) := of_decide_eq_true (by first | (with_reducible assumption) | assumption); obtain ⟨ad159, A159_2, c159_2, e159, hx159_0, hx159_1, hx159_2, hl159_2, hi159_2⟩ := at_T25 HR0_2.out 0 p159 q159; cases e159; have qi159 : (0 < l0_2.length) = True := eq_true (by omega); (try rw [show ((0 : Int)).toNat = 0 from rfl] at hx159_0); (try rw [show 0 * 3 = 0 from rfl] at hx159_0); (try rw [Addr.add_zero'] at hx159_0); (try rw [show ((0 : Int)).toNat = 0 from rfl] at hx159_1); (try rw [show 0 * 3 = 0 from rfl] at hx159_1); (try rw [Addr.add_zero'] at hx159_1); (try rw [show ((0 : Int)).toNat = 0 from rfl] at hx159_2); (try rw [show 0 * 3 = 0 from rfl] at hx159_2); (try rw [Addr.add_zero'] at hx159_2); replace hx159_0 := (HB.out.cell (World.block_lt_of_cell? w _ hx159_0)).trans hx159_0; replace hx159_1 := (HB.out.cell (World.block_lt_of_cell? w _ hx159_1)).trans hx159_1; replace hx159_2 := (HB.out.cell (World.block_lt_of_cell? w _ hx159_2)).trans hx159_2; have HR159_2 := Aside0.mk hi159_2; have HC159_2 := Aside0.mk hl159_2; clear hi159_2 hl159_2; replace p159 := eq_true p159; replace q159 := eq_true q159) | ((with_reducible refine gate_callee (f := 55) rfl ?_); refine goesL_ (some 20) rfl rfl Try.func55 (by kernel_rfl) rfl #[.agg #[.int .i64 ((rd_T25 l0_2 0).f0), .int .i64 ((rd_T25 l0_2 0).f1), .slice A159_2 ((rd_T25 l0_2 0).f2).length c159_2]] rfl ab1_ ?_; (with_reducible refine (ih k (by omega) ((rd_T25 l0_2 0).f0) ((rd_T25 l0_2 0).f1) _ _ ((rd_T25 l0_2 0).f2) t160 t161 t162 _ ?side1 ?side2 A12.out).mono ?_); (case side1 => repeat (first | exact (Kd.C_below HR159_2.out HB.out) | (with_reducible refine Kd.C_alloc ?_ _) | (with_reducible refine Kd.C_drewN ?_ _) | (with_reducible refine Kd.C_drew ?_))); (case side2 => exact HC159_2.out); rintro e w20 ⟨v163, rfl, ho0, hb⟩; refine ⟨_, rfl, ?_⟩; have n0_ := Aside0.mk (Kd.N_lower (Kd.N_mono (ok' := fun k_ => (w.heap.size ≤ k_) ∧ k_ ≠ gb152 ∧ k_ ≠ gb153) ho0 (fun k_ hk_ => ⟨(Nat.le_trans (below_size ab25_) hk_), (Kd.freshB (g := gb152) (o := .cells #[.int .i64 a0_0, .int .i64 a0_1, .slice (some ad159) l0_2.length c0_2] 25 (0, 0)) (aG_ BK152.out) k_ hk_), (Kd.freshB (g := gb153) (o := .cells #[.int .i64 0, .int .i64 0, .slice none 0 0] 25 (0, 0)) (aG_ BK153.out) k_ hk_)⟩)) (below_size ab25_)); have n1_ := Aside0.mk (blk_below (g := gb152) (o := .cells #[.int .i64 a0_0, .int .i64 a0_1, .slice (some ad159) l0_2.length c0_2] 25 (0, 0)) (aG_ BK152.out) hb); have n2_ := Aside0.mk (blk_below (g := gb153) (o := .cells #[.int .i64 0, .int .i64 0, .slice none 0 0] 25 (0, 0)) (aG_ BK153.out) hb); have n3_ := Aside0.mk (below_step ab25_ hb); clear BK152; clear BK153; clear HB; have HO164 := n0_; have BK152 := n1_; have BK153 := n2_; have HB := n3_; clear n0_ n1_ n2_ n3_; (try clear hb); (try clear hb2); (try clear hk); (try clear hi); (try clear ho0)) | ((with_reducible refine gate_dst (N := 3) rfl ?_); refine box_event ?hg (N := 3) ?hd (cs := #[.int .i64 0, .int .i64 0, .slice none 0 0]) (t := 25) ?hr ?_; (case hd => rfl); (case hg => rfl); (case hr => first | (go_simp; done) | (go_simp; rfl)); intro gb165 hg w21 hbox hb; have n0_ := Aside0.mk (Kd.N_below (Kd.N_elderB (aN_ HO164.out) gb165 (Nat.le_of_eq hg.symm)) hb); have n1_ := Aside0.mk (blk_below (g := gb152) (o := .cells #[.int .i64 a0_0, .int .i64 a0_1, .slice (some ad159) l0_2.length c0_2] 25 (0, 0)) (aG_ BK152.out) hb); have n2_ := Aside0.mk (blk_below (g := gb153) (o := .cells #[.int .i64 0, .int .i64 0, .slice none 0 0] 25 (0, 0)) (aG_ BK153.out) hb); have n3_ := Aside0.mk (below_step ab25_ hb); have n4_ := Aside0.mk (hbox); have n5_ := Aside0.mk ((by rw [hg]; exact (below_size ab25_) : w.heap.size ≤ gb165)); have n6_ := Aside0.mk ((by rw [hg]; exact (below_size ab25_) : w.heap.size ≤ gb165)); have n7_ := Aside0.mk ((by rw [hg]; exact Nat.ne_of_lt (blk_lt (g := gb152) (o := .cells #[.int .i64 a0_0, .int .i64 a0_1, .slice (some ad159) l0_2.length c0_2] 25 (0, 0)) (aG_ BK152.out)) : gb152 ≠ gb165)); have n8_ := Aside0.mk ((by rw [hg]; exact Nat.ne_of_gt (blk_lt (g := gb152) (o := .cells #[.int .i64 a0_0, .int .i64 a0_1, .slice (some ad159) l0_2.length c0_2] 25 (0, 0)) (aG_ BK152.out)) : gb165 ≠ gb152)); have n9_ := Aside0.mk ((by rw [hg]; exact Nat.ne_of_lt (blk_lt (g := gb153) (o := .cells #[.int .i64 0, .int .i64 0, .slice none 0 0] 25 (0, 0)) (aG_ BK153.out)) : gb153 ≠ gb165)); have n10_ := Aside0.mk ((by rw [hg]; exact Nat.ne_of_gt (blk_lt (g := gb153) (o := .cells #[.int .i64 0, .int .i64 0, .slice none 0 0] 25 (0, 0)) (aG_ BK153.out)) : gb165 ≠ gb153)); clear HO164; clear BK152; clear BK153; clear HB; have HO164 := n0_; have BK152 := n1_; have BK153 := n2_; have HB := n3_; have BK165 := n4_; have GW165 := n5_; have GE165 := n6_; have NB152_165 := n7_; have NB165_152 := n8_; have NB153_165 := n9_; have NB165_153 := n10_; clear n0_ n1_ n2_ n3_ n4_ n5_ n6_ n7_ n8_ n9_ n10_; clear hb hbox hg; have hnb22 := NB165_152.out; have hnc22 := NB152_165.out; have hnb23 := NB165_153.out; have hnc23 := NB153_165.out; have hcz24_0 : w21.cell? ⟨gb165, 0, none⟩ = some (.int .i64 0) := (blk_cell BK165.out 0).trans rfl; have hcz24_1 : w21.cell? ⟨gb165, 1, none⟩ = some (.int .i64 0) := (blk_cell BK165.out 1).trans rfl; have hcz24_2 : w21.cell? ⟨gb165, 2, none⟩ = some (.slice none 0 0) := (blk_cell BK165.out 2).trans rfl; have hfz24_0 := blk_frozen BK165.out 0; have hfz24_1 := blk_frozen BK165.out 1; have hfz24_2 := blk_frozen BK165.out 2; obtain ⟨Ao25, co25, eo25⟩ := Kd.N_slice HO164.out; subst eo25; have hcz26_0 : w21.cell? ⟨gb152, 0, none⟩ = some (.int .i64 a0_0) := (blk_cell BK152.out 0).trans rfl; have hcz26_1 : w21.cell? ⟨gb152, 1, none⟩ = some (.int .i64 a0_1) := (blk_cell BK152.out 1).trans rfl; have hcz26_2 : w21.cell? ⟨gb152, 2, none⟩ = some (.slice (some ad159) l0_2.length c0_2) := (blk_cell BK152.out 2).trans rfl; have hfz26_0 := blk_frozen BK152.out 0; have hfz26_1 := blk_frozen BK152.out 1; have hfz26_2 := blk_frozen BK152.out 2; have p166 : 0 ≤ (1 : Int) := (by omega); have q166 : 1 < (l0_2.length : Int) := of_decide_eq_true (by first | (with_reducible assumption) | assumption); obtain ⟨ad166, A166_2, c166_2, e166, hx166_0, hx166_1, hx166_2, hl166_2, hi166_2⟩ := at_T25 HR0_2.out 1 p166 q166; obtain rfl : ad159 = ad166 := (by injection e166); (try simp only [show (1 : Int).toNat = 1 from rfl, Nat.reduceMul, Nat.reduceEqDiff, Go.Addr.add, ↓reduceIte] at hx166_0); (try simp only [show (1 : Int).toNat = 1 from rfl, Nat.reduceMul, Nat.reduceEqDiff, Go.Addr.add, ↓reduceIte] at hx166_1); (try simp only [show (1 : Int).toNat = 1 from rfl, Nat.reduceMul, Nat.reduceEqDiff, Go.Addr.add, ↓reduceIte] at hx166_2); have qi166 : (1 < l0_2.length) = True := eq_true (by omega); (try rw [show ((1 : Int)).toNat = 1 from rfl] at hx166_0); (try rw [show 1 * 3 = 3 from rfl] at hx166_0); (try rw [show ((1 : Int)).toNat = 1 from rfl] at hx166_1); (try rw [show 1 * 3 = 3 from rfl] at hx166_1); (try rw [show ((1 : Int)).toNat = 1 from rfl] at hx166_2); (try rw [show 1 * 3 = 3 from rfl] at hx166_2); have hn166_0 : ad159.block ≠ gb165 := Nat.ne_of_lt (Nat.lt_of_lt_of_le (by have := World.block_lt_of_cell? _ _ hx166_0; first | rwa [add_block] at this | exact this) GW165.out); have hn166_1 : ad159.block ≠ gb165 := Nat.ne_of_lt (Nat.lt_of_lt_of_le (by have := World.block_lt_of_cell? _ _ hx166_0; first | rwa [add_block] at this | exact this) GW165.out); have hn166_2 : ad159.block ≠ gb165 := Nat.ne_of_lt (Nat.lt_of_lt_of_le (by have := World.block_lt_of_cell? _ _ hx166_0; first | rwa [add_block] at this | exact this) GW165.out); replace hx166_0 := (HB.out.cell (World.block_lt_of_cell? w _ hx166_0)).trans hx166_0; replace hx166_1 := (HB.out.cell (World.block_lt_of_cell? w _ hx166_1)).trans hx166_1; replace hx166_2 := (HB.out.cell (World.block_lt_of_cell? w _ hx166_2)).trans hx166_2; have HR166_2 := Aside0.mk hi166_2; have HC166_2 := Aside0.mk hl166_2; clear hi166_2 hl166_2; replace hx166_0 := (cell_far (p := ⟨gb165, 0, none⟩) (by first | (rw [add_block]; exact hn166_0) | (show (Addr.add _ _).block ≠ _; rw [add_block]; exact hn166_0) | exact hn166_0) (.int .i64 t160)).trans hx166_0; replace hx166_1 := (cell_far (p := ⟨gb165, 0, none⟩) (by first | (rw [add_block]; exact hn166_0) | (show (Addr.add _ _).block ≠ _; rw [add_block]; exact hn166_0) | exact hn166_0) (.int .i64 t160)).trans hx166_1; replace hx166_2 := (cell_far (p := ⟨gb165, 0, none⟩) (by first | (rw [add_block]; exact hn166_0) | (show (Addr.add _ _).block ≠ _; rw [add_block]; exact hn166_0) | exact hn166_0) (.int .i64 t160)).trans hx166_2; replace hx166_0 := (cell_far (p := ⟨gb165, 1, none⟩) (by first | (rw [add_block]; exact hn166_1) | (show (Addr.add _ _).block ≠ _; rw [add_block]; exact hn166_1) | exact hn166_1) (.int .i64 t161)).trans hx166_0; replace hx166_1 := (cell_far (p := ⟨gb165, 1, none⟩) (by first | (rw [add_block]; exact hn166_1) | (show (Addr.add _ _).block ≠ _; rw [add_block]; exact hn166_1) | exact hn166_1) (.int .i64 t161)).trans hx166_1; replace hx166_2 := (cell_far (p := ⟨gb165, 1, none⟩) (by first | (rw [add_block]; exact hn166_1) | (show (Addr.add _ _).block ≠ _; rw [add_block]; exact hn166_1) | exact hn166_1) (.int .i64 t161)).trans hx166_2; replace hx166_0 := (cell_far (p := ⟨gb165, 2, none⟩) (by first | (rw [add_block]; exact hn166_2) | (show (Addr.add _ _).block ≠ _; rw [add_block]; exact hn166_2) | exact hn166_2) (.slice Ao25 t162.length co25)).trans hx166_0; replace hx166_1 := (cell_far (p := ⟨gb165, 2, none⟩) (by first | (rw [add_block]; exact hn166_2) | (show (Addr.add _ _).block ≠ _; rw [add_block]; exact hn166_2) | exact hn166_2) (.slice Ao25 t162.length co25)).trans hx166_1; replace hx166_2 := (cell_far (p := ⟨gb165, 2, none⟩) (by first | (rw [add_block]; exact hn166_2) | (show (Addr.add _ _).block ≠ _; rw [add_block]; exact hn166_2) | exact hn166_2) (.slice Ao25 t162.length co25)).trans hx166_2; clear hn166_0; clear hn166_1; clear hn166_2; replace p166 := eq_true p166; replace q166 := eq_true q166) | ((with_reducible refine gate_callee (f := 55) rfl ?_); refine goesL_ (some 25) rfl rfl Try.func55 (by kernel_rfl) rfl #[.agg #[.int .i64 ((rd_T25 l0_2 1).f0), .int .i64 ((rd_T25 l0_2 1).f1), .slice A166_2 ((rd_T25 l0_2 1).f2).length c166_2]] rfl ab1_ ?_; (with_reducible refine (ih k (by omega) ((rd_T25 l0_2 1).f0) ((rd_T25 l0_2 1).f1) _ _ ((rd_T25 l0_2 1).f2) t167 t168 t169 _ ?side1 ?side2 A14.out).mono ?_); (case side1 => exact Kd.C_below HR166_2.out ab30_); (case side2 => exact HC166_2.out); rintro e w27 ⟨v170, rfl, ho0, hb⟩; refine ⟨_, rfl, ?_⟩; have n0_ := Aside0.mk (Kd.N_elder' (by (with_reducible repeat (first | apply Kd.N_alloc | apply Kd.N_drewN | apply Kd.N_drew)); exact (Kd.N_mono (Kd.N_far (p := ⟨gb165, 2, none⟩) (Kd.N_far (p := ⟨gb165, 1, none⟩) (Kd.N_far (p := ⟨gb165, 0, none⟩) (Kd.N_mono HO164.out (fun k_ hk => (⟨hk, hk.2⟩ : _ ∧ k_ ≠ gb165))) (fun _ hk => hk.2) (.int .i64 t160)) (fun _ hk => hk.2) (.int .i64 t161)) (fun _ hk => hk.2) (.slice Ao25 t162.length co25)) (fun _ h_ => h_.1))) (by first | exact Kd.N_base ho0 | exact Kd.N_base (Kd.R_N ho0)) hb); have n1_ := Aside0.mk (Kd.N_lower (Kd.N_mono (ok' := fun k_ => (w.heap.size ≤ k_) ∧ some k_ ≠ (.slice Ao25 t162.length co25 : Value).ownBlock ∧ k_ ≠ gb152 ∧ k_ ≠ gb153 ∧ k_ ≠ gb165) ho0 (fun k_ hk_ => ⟨(Nat.le_trans (below_size ab30_) hk_), (Kd.fresh' (Kd.N_lt (by (with_reducible repeat (first | apply Kd.N_alloc | apply Kd.N_drewN | apply Kd.N_drew)); exact (Kd.N_mono (Kd.N_far (p := ⟨gb165, 2, none⟩) (Kd.N_far (p := ⟨gb165, 1, none⟩) (Kd.N_far (p := ⟨gb165, 0, none⟩) (Kd.N_mono HO164.out (fun k_ hk => (⟨hk, hk.2⟩ : _ ∧ k_ ≠ gb165))) (fun _ hk => hk.2) (.int .i64 t160)) (fun _ hk => hk.2) (.int .i64 t161)) (fun _ hk => hk.2) (.slice Ao25 t162.length co25)) (fun _ h_ => h_.1)))) k_ hk_), (Kd.freshB (g := gb152) (o := .cells #[.int .i64 a0_0, .int .i64 a0_1, .slice (some ad159) l0_2.length c0_2] 25 (0, 0)) (by (with_reducible repeat (first | refine blk_drewN ?_ _ | refine blk_drew ?_ | refine blk_alloc ?_ _)); refine blk_far ?_ NB152_165.out _; (with_reducible repeat (first | refine blk_drewN ?_ _ | refine blk_drew ?_ | refine blk_alloc ?_ _)); refine blk_far ?_ NB152_165.out _; (with_reducible repeat (first | refine blk_drewN ?_ _ | refine blk_drew ?_ | refine blk_alloc ?_ _)); refine blk_far ?_ NB152_165.out _; (with_reducible repeat (first | refine blk_drewN ?_ _ | refine blk_drew ?_ | refine blk_alloc ?_ _)); exact BK152.out) k_ hk_), (Kd.freshB (g := gb153) (o := .cells #[.int .i64 0, .int .i64 0, .slice none 0 0] 25 (0, 0)) (by (with_reducible repeat (first | refine blk_drewN ?_ _ | refine blk_drew ?_ | refine blk_alloc ?_ _)); refine blk_far ?_ NB153_165.out _; (with_reducible repeat (first | refine blk_drewN ?_ _ | refine blk_drew ?_ | refine blk_alloc ?_ _)); refine blk_far ?_ NB153_165.out _; (with_reducible repeat (first | refine blk_drewN ?_ _ | refine blk_drew ?_ | refine blk_alloc ?_ _)); refine blk_far ?_ NB153_165.out _; (with_reducible repeat (first | refine blk_drewN ?_ _ | refine blk_drew ?_ | refine blk_alloc ?_ _)); exact BK153.out) k_ hk_), (Kd.freshB (g := gb165) (o := .cells #[.int .i64 t160, .int .i64 t161, .slice Ao25 t162.length co25] 25 (0, 0)) (by (with_reducible repeat (first | refine blk_drewN ?_ _ | refine blk_drew ?_ | refine blk_alloc ?_ _)); refine blk_put (cs := #[.int .i64 t160, .int .i64 t161, .slice none 0 0]) ?_ 2 _ rfl; (with_reducible repeat (first | refine blk_drewN ?_ _ | refine blk_drew ?_ | refine blk_alloc ?_ _)); refine blk_put (cs := #[.int .i64 t160, .int .i64 0, .slice none 0 0]) ?_ 1 _ rfl; (with_reducible repeat (first | refine blk_drewN ?_ _ | refine blk_drew ?_ | refine blk_alloc ?_ _)); refine blk_put (cs := #[.int .i64 0, .int .i64 0, .slice none 0 0]) ?_ 0 _ rfl; (with_reducible repeat (first | refine blk_drewN ?_ _ | refine blk_drew ?_ | refine blk_alloc ?_ _)); exact BK165.out) k_ hk_)⟩)) (below_size ab30_)); have n2_ := Aside0.mk (blk_below (g := gb152) (o := .cells #[.int .i64 a0_0, .int .i64 a0_1, .slice (some ad159) l0_2.length c0_2] 25 (0, 0)) (by (with_reducible repeat (first | refine blk_drewN ?_ _ | refine blk_drew ?_ | refine blk_alloc ?_ _)); refine blk_far ?_ NB152_165.out _; (with_reducible repeat (first | refine blk_drewN ?_ _ | refine blk_drew ?_ | refine blk_alloc ?_ _)); refine blk_far ?_ NB152_165.out _; (with_reducible repeat (first | refine blk_drewN ?_ _ | refine blk_drew ?_ | refine blk_alloc ?_ _)); refine blk_far ?_ NB152_165.out _; (with_reducible repeat (first | refine blk_drewN ?_ _ | refine blk_drew ?_ | refine blk_alloc ?_ _)); exact BK152.out) hb); have n3_ := Aside0.mk (blk_below (g := gb153) (o := .cells #[.int .i64 0, .int .i64 0, .slice none 0 0] 25 (0, 0)) (by (with_reducible repeat (first | refine blk_drewN ?_ _ | refine blk_drew ?_ | refine blk_alloc ?_ _)); refine blk_far ?_ NB153_165.out _; (with_reducible repeat (first | refine blk_drewN ?_ _ | refine blk_drew ?_ | refine blk_alloc ?_ _)); refine blk_far ?_ NB153_165.out _; (with_reducible repeat (first | refine blk_drewN ?_ _ | refine blk_drew ?_ | refine blk_alloc ?_ _)); refine blk_far ?_ NB153_165.out _; (with_reducible repeat (first | refine blk_drewN ?_ _ | refine blk_drew ?_ | refine blk_alloc ?_ _)); exact BK153.out) hb); have n4_ := Aside0.mk (blk_below (g := gb165) (o := .cells #[.int .i64 t160, .int .i64 t161, .slice Ao25 t162.length co25] 25 (0, 0)) (by (with_reducible repeat (first | refine blk_drewN ?_ _ | refine blk_drew ?_ | refine blk_alloc ?_ _)); refine blk_put (cs := #[.int .i64 t160, .int .i64 t161, .slice none 0 0]) ?_ 2 _ rfl; (with_reducible repeat (first | refine blk_drewN ?_ _ | refine blk_drew ?_ | refine blk_alloc ?_ _)); refine blk_put (cs := #[.int .i64 t160, .int .i64 0, .slice none 0 0]) ?_ 1 _ rfl; (with_reducible repeat (first | refine blk_drewN ?_ _ | refine blk_drew ?_ | refine blk_alloc ?_ _)); refine blk_put (cs := #[.int .i64 0, .int .i64 0, .slice none 0 0]) ?_ 0 _ rfl; (with_reducible repeat (first | refine blk_drewN ?_ _ | refine blk_drew ?_ | refine blk_alloc ?_ _)); exact BK165.out) hb); have n5_ := Aside0.mk (below_step ab30_ hb); clear HO164; clear BK152; clear BK153; clear BK165; clear HB; have HO164 := n0_; have HO171 := n1_; have BK152 := n2_; have BK153 := n3_; have BK165 := n4_; have HB := n5_; clear n0_ n1_ n2_ n3_ n4_ n5_; (try clear hb); (try clear hb2); (try clear hk); (try clear hi); (try clear ho0)) | ((with_reducible refine gate_dst (N := 4) rfl ?_); refine box_event ?hg (N := 4) ?hd (cs := #[.int .i64 0, .int .i64 0, .slice none 0 0]) (t := 25) ?hr ?_; (case hd => rfl); (case hg => rfl); (case hr => first | (go_simp; done) | (go_simp; rfl)); intro gb172 hg w28 hbox hb; have n0_ := Aside0.mk (Kd.N_below (Kd.N_elderB (aN_ HO164.out) gb172 (Nat.le_of_eq hg.symm)) hb); have n1_ := Aside0.mk (Kd.N_below (Kd.N_elderB (aN_ HO171.out) gb172 (Nat.le_of_eq hg.symm)) hb); have n2_ := Aside0.mk (blk_below (g := gb152) (o := .cells #[.int .i64 a0_0, .int .i64 a0_1, .slice (some ad159) l0_2.length c0_2] 25 (0, 0)) (aG_ BK152.out) hb); have n3_ := Aside0.mk (blk_below (g := gb153) (o := .cells #[.int .i64 0, .int .i64 0, .slice none 0 0] 25 (0, 0)) (aG_ BK153.out) hb); have n4_ := Aside0.mk (blk_below (g := gb165) (o := .cells #[.int .i64 t160, .int .i64 t161, .slice Ao25 t162.length co25] 25 (0, 0)) (aG_ BK165.out) hb); have n5_ := Aside0.mk (below_step ab30_ hb); have n6_ := Aside0.mk (hbox); have n7_ := Aside0.mk ((by rw [hg]; exact (below_size ab30_) : w.heap.size ≤ gb172)); have n8_ := Aside0.mk ((by rw [hg]; exact (below_size ab30_) : w.heap.size ≤ gb172)); have n9_ := Aside0.mk ((by rw [hg]; exact Nat.ne_of_lt (blk_lt (g := gb152) (o := .cells #[.int .i64 a0_0, .int .i64 a0_1, .slice (some ad159) l0_2.length c0_2] 25 (0, 0)) (aG_ BK152.out)) : gb152 ≠ gb172)); have n10_ := Aside0.mk ((by rw [hg]; exact Nat.ne_of_gt (blk_lt (g := gb152) (o := .cells #[.int .i64 a0_0, .int .i64 a0_1, .slice (some ad159) l0_2.length c0_2] 25 (0, 0)) (aG_ BK152.out)) : gb172 ≠ gb152)); have n11_ := Aside0.mk ((by rw [hg]; exact Nat.ne_of_lt (blk_lt (g := gb153) (o := .cells #[.int .i64 0, .int .i64 0, .slice none 0 0] 25 (0, 0)) (aG_ BK153.out)) : gb153 ≠ gb172)); have n12_ := Aside0.mk ((by rw [hg]; exact Nat.ne_of_gt (blk_lt (g := gb153) (o := .cells #[.int .i64 0, .int .i64 0, .slice none 0 0] 25 (0, 0)) (aG_ BK153.out)) : gb172 ≠ gb153)); have n13_ := Aside0.mk ((by rw [hg]; exact Nat.ne_of_lt (blk_lt (g := gb165) (o := .cells #[.int .i64 t160, .int .i64 t161, .slice Ao25 t162.length co25] 25 (0, 0)) (aG_ BK165.out)) : gb165 ≠ gb172)); have n14_ := Aside0.mk ((by rw [hg]; exact Nat.ne_of_gt (blk_lt (g := gb165) (o := .cells #[.int .i64 t160, .int .i64 t161, .slice Ao25 t162.length co25] 25 (0, 0)) (aG_ BK165.out)) : gb172 ≠ gb165)); clear HO164; clear HO171; clear BK152; clear BK153; clear BK165; clear HB; have HO164 := n0_; have HO171 := n1_; have BK152 := n2_; have BK153 := n3_; have BK165 := n4_; have HB := n5_; have BK172 := n6_; have GW172 := n7_; have GE172 := n8_; have NB152_172 := n9_; have NB172_152 := n10_; have NB153_172 := n11_; have NB172_153 := n12_; have NB165_172 := n13_; have NB172_165 := n14_; clear n0_ n1_ n2_ n3_ n4_ n5_ n6_ n7_ n8_ n9_ n10_ n11_ n12_ n13_ n14_; clear hb hbox hg; have hnb29 := NB172_152.out; have hnc29 := NB152_172.out; have hnb30 := NB172_153.out; have hnc30 := NB153_172.out; have hnb31 := NB172_165.out; have hnc31 := NB165_172.out; have hcz32_0 : w28.cell? ⟨gb172, 0, none⟩ = some (.int .i64 0) := (blk_cell BK172.out 0).trans rfl; have hcz32_1 : w28.cell? ⟨gb172, 1, none⟩ = some (.int .i64 0) := (blk_cell BK172.out 1).trans rfl; have hcz32_2 : w28.cell? ⟨gb172, 2, none⟩ = some (.slice none 0 0) := (blk_cell BK172.out 2).trans rfl; have hfz32_0 := blk_frozen BK172.out 0; have hfz32_1 := blk_frozen BK172.out 1; have hfz32_2 := blk_frozen BK172.out 2; obtain ⟨Ao33, co33, eo33⟩ := Kd.N_slice HO171.out; subst eo33))
        (try simp only [Act.put, List.setIfInBounds_toArray, List.set_cons_zero, List.set_cons_succ])
        go_cut [33] (fun v33 wc => ∃ (kq : Nat) (x33_14 : Bool), v33 = .bool x33_14 ∧ Aside0 (spec_l4Fold.j0 kq x33_14 a0_0 a0_1 l0_2 t160 t161 t162 t167 t168 t169 = some (r1, r2, r3)) ∧ Aside0 (kq ≤ k) ∧ Aside0 (Kd.N k25 25 wc w.heap.size (fun k_ => (w.heap.size ≤ k_) ∧ some k_ ≠ ((.slice Ao33 t169.length co33) : Value).ownBlock ∧ k_ ≠ gb152 ∧ k_ ≠ gb153 ∧ k_ ≠ gb165 ∧ k_ ≠ gb172) (.slice Ao25 t162.length co25) t162) ∧ Aside0 (Kd.N k25 25 wc w.heap.size (fun k_ => (w.heap.size ≤ k_) ∧ some k_ ≠ ((.slice Ao25 t162.length co25) : Value).ownBlock ∧ k_ ≠ gb152 ∧ k_ ≠ gb153 ∧ k_ ≠ gb165 ∧ k_ ≠ gb172) (.slice Ao33 t169.length co33) t169) ∧ Aside0 (wc.heap[gb152]? = some (.cells #[.int .i64 a0_0, .int .i64 a0_1, (.slice (some ad159) l0_2.length c0_2)] 25 (0, 0))) ∧ Aside0 (wc.heap[gb153]? = some (.cells #[.int .i64 0, .int .i64 0, (.slice none 0 0)] 25 (0, 0))) ∧ Aside0 (wc.heap[gb165]? = some (.cells #[.int .i64 t160, .int .i64 t161, (.slice Ao25 t162.length co25)] 25 (0, 0))) ∧ Aside0 (wc.heap[gb172]? = some (.cells #[.int .i64 t167, .int .i64 t168, (.slice Ao33 t169.length co33)] 25 (0, 0))) ∧ Aside0 (Below w.heap.size w wc))
        case first =>
          have H := HC15.out
          clear HC15
          by_cases c34 : t160 = 0
          · rw [if_pos c34] at H
            have c34b0 : (t160 == 0) = true := beq_iff_eq.mpr c34
            have c34b1 : (t160 != 0) = false := bne_eq_false_iff_eq.mpr c34
            clear c34
            (first | rw [c34b0] | (simp only [i64_w, i32_w]; rw [c34b0]) | skip)
            have H' := Aside0.mk H
            clear H
            have hnb35 := NB165_152.out
            have hnc35 := NB152_165.out
            have hnb36 := NB165_153.out
            have hnc36 := NB153_165.out
            have hnb37 := NB165_172.out
            have hnc37 := NB172_165.out
            have hcz38_0 : w28.cell? ⟨gb165, 0, none⟩ = some (.int .i64 t160) := (blk_cell BK165.out 0).trans rfl
            have hcz38_1 : w28.cell? ⟨gb165, 1, none⟩ = some (.int .i64 t161) := (blk_cell BK165.out 1).trans rfl
            have hcz38_2 : w28.cell? ⟨gb165, 2, none⟩ = some (.slice Ao25 t162.length co25) := (blk_cell BK165.out 2).trans rfl
            have hfz38_0 := blk_frozen BK165.out 0
            have hfz38_1 := blk_frozen BK165.out 1
            have hfz38_2 := blk_frozen BK165.out 2
            have hnb39 := NB172_152.out
            have hnc39 := NB152_172.out
            have hnb40 := NB172_153.out
            have hnc40 := NB153_172.out
            have hcz41_0 : w28.cell? ⟨gb172, 0, none⟩ = some (.int .i64 0) := (blk_cell BK172.out 0).trans rfl
            have hcz41_1 : w28.cell? ⟨gb172, 1, none⟩ = some (.int .i64 0) := (blk_cell BK172.out 1).trans rfl
            have hcz41_2 : w28.cell? ⟨gb172, 2, none⟩ = some (.slice none 0 0) := (blk_cell BK172.out 2).trans rfl
            have hfz41_0 := blk_frozen BK172.out 0
            have hfz41_1 := blk_frozen BK172.out 1
            have hfz41_2 := blk_frozen BK172.out 2
            go_wp2
            go_meet
            case rel => exact ⟨_, ((t167 == 0)), (by first | rfl | (simp; done) | (simp [*]; done)), H', ⟨by first | omega | exact Nat.le_refl _⟩, ⟨by (with_reducible repeat (first | apply Kd.N_alloc | apply Kd.N_drewN | apply Kd.N_drew)); exact Kd.N_mono (Kd.N_far (p := ⟨gb172, 2, none⟩) (Kd.N_far (p := ⟨gb172, 1, none⟩) (Kd.N_far (p := ⟨gb172, 0, none⟩) (Kd.N_mono HO164.out (fun k_ hk => (⟨hk, hk.2⟩ : _ ∧ k_ ≠ gb172))) (fun _ hk => hk.2) (.int .i64 t167)) (fun _ hk => hk.2) (.int .i64 t168)) (fun _ hk => hk.2) (.slice Ao33 t169.length co33)) (fun _ hk => ⟨hk.1.1.1.1.1, ⟨hk.1.1.2, ⟨hk.1.1.1.1.2.1, ⟨hk.1.1.1.1.2.2, ⟨hk.1.1.1.2, hk.1.2⟩⟩⟩⟩⟩)⟩, ⟨by (with_reducible repeat (first | apply Kd.N_alloc | apply Kd.N_drewN | apply Kd.N_drew)); exact Kd.N_mono (Kd.N_far (p := ⟨gb172, 2, none⟩) (Kd.N_far (p := ⟨gb172, 1, none⟩) (Kd.N_far (p := ⟨gb172, 0, none⟩) (Kd.N_mono HO171.out (fun k_ hk => (⟨hk, hk.2⟩ : _ ∧ k_ ≠ gb172))) (fun _ hk => hk.2) (.int .i64 t167)) (fun _ hk => hk.2) (.int .i64 t168)) (fun _ hk => hk.2) (.slice Ao33 t169.length co33)) (fun _ hk => ⟨hk.1.1.1, ⟨hk.1.1.2.1, ⟨hk.1.1.2.2.1, ⟨hk.1.1.2.2.2.1, ⟨hk.1.1.2.2.2.2, hk.1.2⟩⟩⟩⟩⟩)⟩, ⟨by (with_reducible repeat (first | refine blk_drewN ?_ _ | refine blk_drew ?_ | refine blk_alloc ?_ _)); refine blk_far ?_ NB152_172.out _; (with_reducible repeat (first | refine blk_drewN ?_ _ | refine blk_drew ?_ | refine blk_alloc ?_ _)); refine blk_far ?_ NB152_172.out _; (with_reducible repeat (first | refine blk_drewN ?_ _ | refine blk_drew ?_ | refine blk_alloc ?_ _)); refine blk_far ?_ NB152_172.out _; (with_reducible repeat (first | refine blk_drewN ?_ _ | refine blk_drew ?_ | refine blk_alloc ?_ _)); exact BK152.out⟩, ⟨by (with_reducible repeat (first | refine blk_drewN ?_ _ | refine blk_drew ?_ | refine blk_alloc ?_ _)); refine blk_far ?_ NB153_172.out _; (with_reducible repeat (first | refine blk_drewN ?_ _ | refine blk_drew ?_ | refine blk_alloc ?_ _)); refine blk_far ?_ NB153_172.out _; (with_reducible repeat (first | refine blk_drewN ?_ _ | refine blk_drew ?_ | refine blk_alloc ?_ _)); refine blk_far ?_ NB153_172.out _; (with_reducible repeat (first | refine blk_drewN ?_ _ | refine blk_drew ?_ | refine blk_alloc ?_ _)); exact BK153.out⟩, ⟨by (with_reducible repeat (first | refine blk_drewN ?_ _ | refine blk_drew ?_ | refine blk_alloc ?_ _)); refine blk_far ?_ NB165_172.out _; (with_reducible repeat (first | refine blk_drewN ?_ _ | refine blk_drew ?_ | refine blk_alloc ?_ _)); refine blk_far ?_ NB165_172.out _; (with_reducible repeat (first | refine blk_drewN ?_ _ | refine blk_drew ?_ | refine blk_alloc ?_ _)); refine blk_far ?_ NB165_172.out _; (with_reducible repeat (first | refine blk_drewN ?_ _ | refine blk_drew ?_ | refine blk_alloc ?_ _)); exact BK165.out⟩, ⟨by (with_reducible repeat (first | refine blk_drewN ?_ _ | refine blk_drew ?_ | refine blk_alloc ?_ _)); refine blk_put (cs := #[.int .i64 t167, .int .i64 t168, .slice none 0 0]) ?_ 2 _ rfl; (with_reducible repeat (first | refine blk_drewN ?_ _ | refine blk_drew ?_ | refine blk_alloc ?_ _)); refine blk_put (cs := #[.int .i64 t167, .int .i64 0, .slice none 0 0]) ?_ 1 _ rfl; (with_reducible repeat (first | refine blk_drewN ?_ _ | refine blk_drew ?_ | refine blk_alloc ?_ _)); refine blk_put (cs := #[.int .i64 0, .int .i64 0, .slice none 0 0]) ?_ 0 _ rfl; (with_reducible repeat (first | refine blk_drewN ?_ _ | refine blk_drew ?_ | refine blk_alloc ?_ _)); exact BK172.out⟩, ⟨ab11_⟩⟩
          · rw [if_neg c34] at H
            have c34b0 : (t160 == 0) = false := beq_eq_false_iff_ne.mpr c34
            have c34b1 : (t160 != 0) = true := bne_iff_ne.mpr c34
            (first | rw [c34b0] | (simp only [i64_w, i32_w]; rw [c34b0]) | skip)
            have H' := Aside0.mk H
            clear H
            have hnb42 := NB165_152.out
            have hnc42 := NB152_165.out
            have hnb43 := NB165_153.out
            have hnc43 := NB153_165.out
            have hnb44 := NB165_172.out
            have hnc44 := NB172_165.out
            have hcz45_0 : w28.cell? ⟨gb165, 0, none⟩ = some (.int .i64 t160) := (blk_cell BK165.out 0).trans rfl
            have hcz45_1 : w28.cell? ⟨gb165, 1, none⟩ = some (.int .i64 t161) := (blk_cell BK165.out 1).trans rfl
            have hcz45_2 : w28.cell? ⟨gb165, 2, none⟩ = some (.slice Ao25 t162.length co25) := (blk_cell BK165.out 2).trans rfl
            have hfz45_0 := blk_frozen BK165.out 0
            have hfz45_1 := blk_frozen BK165.out 1
            have hfz45_2 := blk_frozen BK165.out 2
            go_wp2
            go_meet
            case rel => exact ⟨_, (false), (by first | rfl | (simp; done) | (simp [*]; done)), H', ⟨by first | omega | exact Nat.le_refl _⟩, ⟨by (with_reducible repeat (first | apply Kd.N_alloc | apply Kd.N_drewN | apply Kd.N_drew)); exact Kd.N_mono (Kd.N_far (p := ⟨gb172, 2, none⟩) (Kd.N_far (p := ⟨gb172, 1, none⟩) (Kd.N_far (p := ⟨gb172, 0, none⟩) (Kd.N_mono HO164.out (fun k_ hk => (⟨hk, hk.2⟩ : _ ∧ k_ ≠ gb172))) (fun _ hk => hk.2) (.int .i64 t167)) (fun _ hk => hk.2) (.int .i64 t168)) (fun _ hk => hk.2) (.slice Ao33 t169.length co33)) (fun _ hk => ⟨hk.1.1.1.1.1, ⟨hk.1.1.2, ⟨hk.1.1.1.1.2.1, ⟨hk.1.1.1.1.2.2, ⟨hk.1.1.1.2, hk.1.2⟩⟩⟩⟩⟩)⟩, ⟨by (with_reducible repeat (first | apply Kd.N_alloc | apply Kd.N_drewN | apply Kd.N_drew)); exact Kd.N_mono (Kd.N_far (p := ⟨gb172, 2, none⟩) (Kd.N_far (p := ⟨gb172, 1, none⟩) (Kd.N_far (p := ⟨gb172, 0, none⟩) (Kd.N_mono HO171.out (fun k_ hk => (⟨hk, hk.2⟩ : _ ∧ k_ ≠ gb172))) (fun _ hk => hk.2) (.int .i64 t167)) (fun _ hk => hk.2) (.int .i64 t168)) (fun _ hk => hk.2) (.slice Ao33 t169.length co33)) (fun _ hk => ⟨hk.1.1.1, ⟨hk.1.1.2.1, ⟨hk.1.1.2.2.1, ⟨hk.1.1.2.2.2.1, ⟨hk.1.1.2.2.2.2, hk.1.2⟩⟩⟩⟩⟩)⟩, ⟨by (with_reducible repeat (first | refine blk_drewN ?_ _ | refine blk_drew ?_ | refine blk_alloc ?_ _)); refine blk_far ?_ NB152_172.out _; (with_reducible repeat (first | refine blk_drewN ?_ _ | refine blk_drew ?_ | refine blk_alloc ?_ _)); refine blk_far ?_ NB152_172.out _; (with_reducible repeat (first | refine blk_drewN ?_ _ | refine blk_drew ?_ | refine blk_alloc ?_ _)); refine blk_far ?_ NB152_172.out _; (with_reducible repeat (first | refine blk_drewN ?_ _ | refine blk_drew ?_ | refine blk_alloc ?_ _)); exact BK152.out⟩, ⟨by (with_reducible repeat (first | refine blk_drewN ?_ _ | refine blk_drew ?_ | refine blk_alloc ?_ _)); refine blk_far ?_ NB153_172.out _; (with_reducible repeat (first | refine blk_drewN ?_ _ | refine blk_drew ?_ | refine blk_alloc ?_ _)); refine blk_far ?_ NB153_172.out _; (with_reducible repeat (first | refine blk_drewN ?_ _ | refine blk_drew ?_ | refine blk_alloc ?_ _)); refine blk_far ?_ NB153_172.out _; (with_reducible repeat (first | refine blk_drewN ?_ _ | refine blk_drew ?_ | refine blk_alloc ?_ _)); exact BK153.out⟩, ⟨by (with_reducible repeat (first | refine blk_drewN ?_ _ | refine blk_drew ?_ | refine blk_alloc ?_ _)); refine blk_far ?_ NB165_172.out _; (with_reducible repeat (first | refine blk_drewN ?_ _ | refine blk_drew ?_ | refine blk_alloc ?_ _)); refine blk_far ?_ NB165_172.out _; (with_reducible repeat (first | refine blk_drewN ?_ _ | refine blk_drew ?_ | refine blk_alloc ?_ _)); refine blk_far ?_ NB165_172.out _; (with_reducible repeat (first | refine blk_drewN ?_ _ | refine blk_drew ?_ | refine blk_alloc ?_ _)); exact BK165.out⟩, ⟨by (with_reducible repeat (first | refine blk_drewN ?_ _ | refine blk_drew ?_ | refine blk_alloc ?_ _)); refine blk_put (cs := #[.int .i64 t167, .int .i64 t168, .slice none 0 0]) ?_ 2 _ rfl; (with_reducible repeat (first | refine blk_drewN ?_ _ | refine blk_drew ?_ | refine blk_alloc ?_ _)); refine blk_put (cs := #[.int .i64 t167, .int .i64 0, .slice none 0 0]) ?_ 1 _ rfl; (with_reducible repeat (first | refine blk_drewN ?_ _ | refine blk_drew ?_ | refine blk_alloc ?_ _)); refine blk_put (cs := #[.int .i64 0, .int .i64 0, .slice none 0 0]) ?_ 0 _ rfl; (with_reducible repeat (first | refine blk_drewN ?_ _ | refine blk_drew ?_ | refine blk_alloc ?_ _)); exact BK172.out⟩, ⟨ab11_⟩⟩
        case rest =>
          clear HC15
          try clear c1
          try clear p1
          try clear q1
          try clear hx1
          try clear qi1
          try clear c2
          try clear c2b0
          try clear c2b1
          try clear c2b2
          try clear p2
          try clear c3
          try clear c4
          try clear c5
          try clear c6
          try clear c11
          try clear c11b0
          try clear c11b1
          try clear c13
          try clear c13b0
          try clear c13b1
          try clear c15
          try clear p15
          try clear q15
          try clear hx15
          try clear qi15
          try clear c16
          try clear p16
          try clear q16
          try clear hx16
          try clear qi16
          try clear c18
          try clear c22
          try clear c23
          try clear c29
          try clear c30
          try clear c31
          try clear c34
          try clear c34b0
          try clear c34b1
          try clear c35
          try clear c36
          try clear c37
          try clear c39
          try clear c40
          try clear c42
          try clear c43
          try clear c44
          try clear hcz19_0
          try clear hcz19_1
          try clear hcz19_2
          try clear hcz24_0
          try clear hcz24_1
          try clear hcz24_2
          try clear hcz26_0
          try clear hcz26_1
          try clear hcz26_2
          try clear hcz32_0
          try clear hcz32_1
          try clear hcz32_2
          try clear hcz38_0
          try clear hcz38_1
          try clear hcz38_2
          try clear hcz41_0
          try clear hcz41_1
          try clear hcz41_2
          try clear hcz45_0
          try clear hcz45_1
          try clear hcz45_2
          try clear hcz7_0
          try clear hcz7_1
          try clear hcz7_2
          try clear hcz9_0
          try clear hcz9_1
          try clear hcz9_2
          try clear hfz19_0
          try clear hfz19_1
          try clear hfz19_2
          try clear hfz24_0
          try clear hfz24_1
          try clear hfz24_2
          try clear hfz26_0
          try clear hfz26_1
          try clear hfz26_2
          try clear hfz32_0
          try clear hfz32_1
          try clear hfz32_2
          try clear hfz38_0
          try clear hfz38_1
          try clear hfz38_2
          try clear hfz41_0
          try clear hfz41_1
          try clear hfz41_2
          try clear hfz45_0
          try clear hfz45_1
          try clear hfz45_2
          try clear hfz7_0
          try clear hfz7_1
          try clear hfz7_2
          try clear hfz9_0
          try clear hfz9_1
          try clear hfz9_2
          try clear hx159_0
          try clear hx159_1
          try clear hx159_2
          try clear hx166_0
          try clear hx166_1
          try clear hx166_2
          try clear p159
          try clear p166
          try clear q159
          try clear q166
          obtain ⟨kq, x33_14, rfl, HA, HJ14, HO_166002, HO_173002, BK152, BK153, BK165, BK172, HB⟩ := hcut
          cases kq with
          | zero => exact absurd HA.out (by simp [spec_l4Fold.j0])
          | succ kj14 =>
            have H := HA.out
            clear HA
            simp only [spec_l4Fold.j0] at H
            by_cases c46 : x33_14 = true
            · subst c46
              have H1 : ((spec_Apply.f kj14 a0_0 t161 t168).bind fun bt173 => ((spec_l6In.f bt173.1 0 99999).bind fun t175 => (if t175 = true then ((spec_l4Leaf.f 0 bt173.1).bind fun bt176 => (some (bt176.1, bt176.2.1, bt176.2.2))) else ((spec_l4Both.f a0_0 t160 t161 t162 t167 t168 t169).bind fun bt181 => (some (bt181.1, bt181.2.1, bt181.2.2)))))) = some (r1, r2, r3) := by rw [if_pos rfl] at H; exact H
              clear H
              have H := H1
              clear H1
              replace H := Option.bind_eq_some_iff.mp H
              obtain ⟨⟨t173, t174⟩, A470, H⟩ := H
              replace H : ((spec_l6In.f t173 0 99999).bind fun t175 => (if t175 = true then ((spec_l4Leaf.f 0 t173).bind fun bt176 => (some (bt176.1, bt176.2.1, bt176.2.2))) else ((spec_l4Both.f a0_0 t160 t161 t162 t167 t168 t169).bind fun bt181 => (some (bt181.1, bt181.2.1, bt181.2.2))))) = some (r1, r2, r3) := H
              have A47 := Aside0.mk A470
              clear A470
              replace H := Option.bind_eq_some_iff.mp H
              obtain ⟨t175, A480, H⟩ := H
              replace H : (if t175 = true then ((spec_l4Leaf.f 0 t173).bind fun bt176 => (some (bt176.1, bt176.2.1, bt176.2.2))) else ((spec_l4Both.f a0_0 t160 t161 t162 t167 t168 t169).bind fun bt181 => (some (bt181.1, bt181.2.1, bt181.2.2)))) = some (r1, r2, r3) := H
              have A48 := Aside0.mk A480
              clear A480
              by_cases c49 : t175 = true
              · subst c49
                have H1 : ((spec_l4Leaf.f 0 t173).bind fun bt176 => (some (bt176.1, bt176.2.1, bt176.2.2))) = some (r1, r2, r3) := by rw [if_pos rfl] at H; exact H
                clear H
                have H := H1
                clear H1
                replace H := Option.bind_eq_some_iff.mp H
                obtain ⟨⟨t176, t177, t178⟩, A500, H⟩ := H
                replace H : (some (t176, t177, t178)) = some (r1, r2, r3) := H
                have A50 := Aside0.mk A500
                clear A500
                simp only [Option.some.injEq, Prod.mk.injEq] at H
                obtain ⟨rfl, rfl, rfl⟩ := H
                have hnb51 := NB152_153.out
                have hnc51 := NB153_152.out
                have hnb52 := NB152_165.out
                have hnc52 := NB165_152.out
                have hnb53 := NB152_172.out
                have hnc53 := NB172_152.out
                have hcz54_0 : wc.cell? ⟨gb152, 0, none⟩ = some (.int .i64 a0_0) := (blk_cell BK152.out 0).trans rfl
                have hcz54_1 : wc.cell? ⟨gb152, 1, none⟩ = some (.int .i64 a0_1) := (blk_cell BK152.out 1).trans rfl
                have hcz54_2 : wc.cell? ⟨gb152, 2, none⟩ = some (.slice (some ad159) l0_2.length c0_2) := (blk_cell BK152.out 2).trans rfl
                have hfz54_0 := blk_frozen BK152.out 0
                have hfz54_1 := blk_frozen BK152.out 1
                have hfz54_2 := blk_frozen BK152.out 2
                have hnb55 := NB165_153.out
                have hnc55 := NB153_165.out
                have hnb56 := NB165_172.out
                have hnc56 := NB172_165.out
                have hcz57_0 : wc.cell? ⟨gb165, 0, none⟩ = some (.int .i64 t160) := (blk_cell BK165.out 0).trans rfl
                have hcz57_1 : wc.cell? ⟨gb165, 1, none⟩ = some (.int .i64 t161) := (blk_cell BK165.out 1).trans rfl
                have hcz57_2 : wc.cell? ⟨gb165, 2, none⟩ = some (.slice Ao25 t162.length co25) := (blk_cell BK165.out 2).trans rfl
                have hfz57_0 := blk_frozen BK165.out 0
                have hfz57_1 := blk_frozen BK165.out 1
                have hfz57_2 := blk_frozen BK165.out 2
                have hnb58 := NB172_153.out
                have hnc58 := NB153_172.out
                have hcz59_0 : wc.cell? ⟨gb172, 0, none⟩ = some (.int .i64 t167) := (blk_cell BK172.out 0).trans rfl
                have hcz59_1 : wc.cell? ⟨gb172, 1, none⟩ = some (.int .i64 t168) := (blk_cell BK172.out 1).trans rfl
                have hcz59_2 : wc.cell? ⟨gb172, 2, none⟩ = some (.slice Ao33 t169.length co33) := (blk_cell BK172.out 2).trans rfl
                have hfz59_0 := blk_frozen BK172.out 0
                have hfz59_1 := blk_frozen BK172.out 1
                have hfz59_2 := blk_frozen BK172.out 2
                go_wp2_with (first | ((with_reducible refine gate_callee (f := 69) rfl ?_); refine goesL_ (some 41) rfl rfl Try.func69 (by kernel_rfl) rfl #[.int .i64 a0_0, .int .i64 t161, .int .i64 t168] rfl ab1_ ?_; (with_reducible refine (spec_Apply.calls kj14 a0_0 t161 t168 t173 t174 _ A47.out).mono ?_); rintro e w' ⟨rfl, ⟨nd, rfl⟩⟩; refine ⟨_, rfl, ?_⟩; (try (rw [drewN_self wc]; generalize hq_ : World.drewN wc _ = wc; have n0_ : Aside0 (Kd.N k25 25 wc w.heap.size (fun k_ => (w.heap.size ≤ k_) ∧ some k_ ≠ (.slice Ao33 t169.length co33 : Value).ownBlock ∧ k_ ≠ gb152 ∧ k_ ≠ gb153 ∧ k_ ≠ gb165 ∧ k_ ≠ gb172) (.slice Ao25 t162.length co25) t162) := ⟨by rw [← hq_]; exact (aN_ HO_166002.out)⟩; have n1_ : Aside0 (Kd.N k25 25 wc w.heap.size (fun k_ => (w.heap.size ≤ k_) ∧ some k_ ≠ (.slice Ao25 t162.length co25 : Value).ownBlock ∧ k_ ≠ gb152 ∧ k_ ≠ gb153 ∧ k_ ≠ gb165 ∧ k_ ≠ gb172) (.slice Ao33 t169.length co33) t169) := ⟨by rw [← hq_]; exact (aN_ HO_173002.out)⟩; have n2_ : Aside0 (wc.heap[gb152]? = some (.cells #[.int .i64 a0_0, .int .i64 a0_1, .slice (some ad159) l0_2.length c0_2] 25 (0, 0))) := ⟨by rw [← hq_]; exact (aG_ BK152.out)⟩; have n3_ : Aside0 (wc.heap[gb153]? = some (.cells #[.int .i64 0, .int .i64 0, .slice none 0 0] 25 (0, 0))) := ⟨by rw [← hq_]; exact (aG_ BK153.out)⟩; have n4_ : Aside0 (wc.heap[gb165]? = some (.cells #[.int .i64 t160, .int .i64 t161, .slice Ao25 t162.length co25] 25 (0, 0))) := ⟨by rw [← hq_]; exact (aG_ BK165.out)⟩; have n5_ : Aside0 (wc.heap[gb172]? = some (.cells #[.int .i64 t167, .int .i64 t168, .slice Ao33 t169.length co33] 25 (0, 0))) := ⟨by rw [← hq_]; exact (aG_ BK172.out)⟩; have n6_ : Aside0 (Below w.heap.size w wc) := ⟨by rw [← hq_]; exact ab11_⟩; clear HO_166002 HO_173002 BK152 BK153 BK165 BK172 HB hq_; have HO_166002 := n0_; have HO_173002 := n1_; have BK152 := n2_; have BK153 := n3_; have BK165 := n4_; have BK172 := n5_; have HB := n6_; clear n0_ n1_ n2_ n3_ n4_ n5_ n6_; have hczG1_0 : wc.cell? ⟨gb152, 0, none⟩ = some (.int .i64 a0_0) := (blk_cell BK152.out 0).trans rfl; have hfzG1_0 := blk_frozen BK152.out 0; have hczG1_1 : wc.cell? ⟨gb152, 1, none⟩ = some (.int .i64 a0_1) := (blk_cell BK152.out 1).trans rfl; have hfzG1_1 := blk_frozen BK152.out 1; have hczG1_2 : wc.cell? ⟨gb152, 2, none⟩ = some (.slice (some ad159) l0_2.length c0_2) := (blk_cell BK152.out 2).trans rfl; have hfzG1_2 := blk_frozen BK152.out 2; have hczG2_0 : wc.cell? ⟨gb153, 0, none⟩ = some (.int .i64 0) := (blk_cell BK153.out 0).trans rfl; have hfzG2_0 := blk_frozen BK153.out 0; have hczG2_1 : wc.cell? ⟨gb153, 1, none⟩ = some (.int .i64 0) := (blk_cell BK153.out 1).trans rfl; have hfzG2_1 := blk_frozen BK153.out 1; have hczG2_2 : wc.cell? ⟨gb153, 2, none⟩ = some (.slice none 0 0) := (blk_cell BK153.out 2).trans rfl; have hfzG2_2 := blk_frozen BK153.out 2; have hczG3_0 : wc.cell? ⟨gb165, 0, none⟩ = some (.int .i64 t160) := (blk_cell BK165.out 0).trans rfl; have hfzG3_0 := blk_frozen BK165.out 0; have hczG3_1 : wc.cell? ⟨gb165, 1, none⟩ = some (.int .i64 t161) := (blk_cell BK165.out 1).trans rfl; have hfzG3_1 := blk_frozen BK165.out 1; have hczG3_2 : wc.cell? ⟨gb165, 2, none⟩ = some (.slice Ao25 t162.length co25) := (blk_cell BK165.out 2).trans rfl; have hfzG3_2 := blk_frozen BK165.out 2; have hczG4_0 : wc.cell? ⟨gb172, 0, none⟩ = some (.int .i64 t167) := (blk_cell BK172.out 0).trans rfl; have hfzG4_0 := blk_frozen BK172.out 0; have hczG4_1 : wc.cell? ⟨gb172, 1, none⟩ = some (.int .i64 t168) := (blk_cell BK172.out 1).trans rfl; have hfzG4_1 := blk_frozen BK172.out 1; have hczG4_2 : wc.cell? ⟨gb172, 2, none⟩ = some (.slice Ao33 t169.length co33) := (blk_cell BK172.out 2).trans rfl; have hfzG4_2 := blk_frozen BK172.out 2))) | ((with_reducible refine gate_callee (f := 66) rfl ?_); refine goesL_ (some 45) rfl rfl Try.func66 (by kernel_rfl) rfl #[.int .i64 t173, .int .i64 0, .int .i64 99999] rfl ab1_ ?_; (with_reducible refine (spec_l6In.calls t173 0 99999 true _ A48.out).mono ?_); rintro e w' ⟨rfl, ⟨nd, rfl⟩⟩; refine ⟨_, rfl, ?_⟩; (try (rw [drewN_self wc]; generalize hq_ : World.drewN wc _ = wc; have n0_ : Aside0 (Kd.N k25 25 wc w.heap.size (fun k_ => (w.heap.size ≤ k_) ∧ some k_ ≠ (.slice Ao33 t169.length co33 : Value).ownBlock ∧ k_ ≠ gb152 ∧ k_ ≠ gb153 ∧ k_ ≠ gb165 ∧ k_ ≠ gb172) (.slice Ao25 t162.length co25) t162) := ⟨by rw [← hq_]; exact (aN_ HO_166002.out)⟩; have n1_ : Aside0 (Kd.N k25 25 wc w.heap.size (fun k_ => (w.heap.size ≤ k_) ∧ some k_ ≠ (.slice Ao25 t162.length co25 : Value).ownBlock ∧ k_ ≠ gb152 ∧ k_ ≠ gb153 ∧ k_ ≠ gb165 ∧ k_ ≠ gb172) (.slice Ao33 t169.length co33) t169) := ⟨by rw [← hq_]; exact (aN_ HO_173002.out)⟩; have n2_ : Aside0 (wc.heap[gb152]? = some (.cells #[.int .i64 a0_0, .int .i64 a0_1, .slice (some ad159) l0_2.length c0_2] 25 (0, 0))) := ⟨by rw [← hq_]; exact (aG_ BK152.out)⟩; have n3_ : Aside0 (wc.heap[gb153]? = some (.cells #[.int .i64 0, .int .i64 0, .slice none 0 0] 25 (0, 0))) := ⟨by rw [← hq_]; exact (aG_ BK153.out)⟩; have n4_ : Aside0 (wc.heap[gb165]? = some (.cells #[.int .i64 t160, .int .i64 t161, .slice Ao25 t162.length co25] 25 (0, 0))) := ⟨by rw [← hq_]; exact (aG_ BK165.out)⟩; have n5_ : Aside0 (wc.heap[gb172]? = some (.cells #[.int .i64 t167, .int .i64 t168, .slice Ao33 t169.length co33] 25 (0, 0))) := ⟨by rw [← hq_]; exact (aG_ BK172.out)⟩; have n6_ : Aside0 (Below w.heap.size w wc) := ⟨by rw [← hq_]; exact ab11_⟩; clear HO_166002 HO_173002 BK152 BK153 BK165 BK172 HB hq_; have HO_166002 := n0_; have HO_173002 := n1_; have BK152 := n2_; have BK153 := n3_; have BK165 := n4_; have BK172 := n5_; have HB := n6_; clear n0_ n1_ n2_ n3_ n4_ n5_ n6_; have hczG5_0 : wc.cell? ⟨gb152, 0, none⟩ = some (.int .i64 a0_0) := (blk_cell BK152.out 0).trans rfl; have hfzG5_0 := blk_frozen BK152.out 0; have hczG5_1 : wc.cell? ⟨gb152, 1, none⟩ = some (.int .i64 a0_1) := (blk_cell BK152.out 1).trans rfl; have hfzG5_1 := blk_frozen BK152.out 1; have hczG5_2 : wc.cell? ⟨gb152, 2, none⟩ = some (.slice (some ad159) l0_2.length c0_2) := (blk_cell BK152.out 2).trans rfl; have hfzG5_2 := blk_frozen BK152.out 2; have hczG6_0 : wc.cell? ⟨gb153, 0, none⟩ = some (.int .i64 0) := (blk_cell BK153.out 0).trans rfl; have hfzG6_0 := blk_frozen BK153.out 0; have hczG6_1 : wc.cell? ⟨gb153, 1, none⟩ = some (.int .i64 0) := (blk_cell BK153.out 1).trans rfl; have hfzG6_1 := blk_frozen BK153.out 1; have hczG6_2 : wc.cell? ⟨gb153, 2, none⟩ = some (.slice none 0 0) := (blk_cell BK153.out 2).trans rfl; have hfzG6_2 := blk_frozen BK153.out 2; have hczG7_0 : wc.cell? ⟨gb165, 0, none⟩ = some (.int .i64 t160) := (blk_cell BK165.out 0).trans rfl; have hfzG7_0 := blk_frozen BK165.out 0; have hczG7_1 : wc.cell? ⟨gb165, 1, none⟩ = some (.int .i64 t161) := (blk_cell BK165.out 1).trans rfl; have hfzG7_1 := blk_frozen BK165.out 1; have hczG7_2 : wc.cell? ⟨gb165, 2, none⟩ = some (.slice Ao25 t162.length co25) := (blk_cell BK165.out 2).trans rfl; have hfzG7_2 := blk_frozen BK165.out 2; have hczG8_0 : wc.cell? ⟨gb172, 0, none⟩ = some (.int .i64 t167) := (blk_cell BK172.out 0).trans rfl; have hfzG8_0 := blk_frozen BK172.out 0; have hczG8_1 : wc.cell? ⟨gb172, 1, none⟩ = some (.int .i64 t168) := (blk_cell BK172.out 1).trans rfl; have hfzG8_1 := blk_frozen BK172.out 1; have hczG8_2 : wc.cell? ⟨gb172, 2, none⟩ = some (.slice Ao33 t169.length co33) := (blk_cell BK172.out 2).trans rfl; have hfzG8_2 := blk_frozen BK172.out 2))) | ((with_reducible refine gate_callee (f := 62) rfl ?_); refine goesL_ (some 47) rfl rfl Try.func62 (by kernel_rfl) rfl #[.int .i64 0, .int .i64 t173] rfl ab1_ ?_; (with_reducible refine (spec_l4Leaf.calls 0 t173 t176 t177 t178 _ A50.out).mono ?_); rintro e w60 ⟨v179, rfl, ho0, hb⟩; refine ⟨_, rfl, ?_⟩; have n0_ := Aside0.mk (Kd.N_elder' (aN_ HO_166002.out) (by first | exact Kd.N_base ho0 | exact Kd.N_base (Kd.R_N ho0)) hb); have n1_ := Aside0.mk (Kd.N_elder' (aN_ HO_173002.out) (by first | exact Kd.N_base ho0 | exact Kd.N_base (Kd.R_N ho0)) hb); have n2_ := Aside0.mk (Kd.N_lower (Kd.N_mono (ok' := fun k_ => (w.heap.size ≤ k_) ∧ some k_ ≠ (.slice Ao25 t162.length co25 : Value).ownBlock ∧ some k_ ≠ (.slice Ao33 t169.length co33 : Value).ownBlock ∧ k_ ≠ gb152 ∧ k_ ≠ gb153 ∧ k_ ≠ gb165 ∧ k_ ≠ gb172) (Kd.R_N (Kd.R_bound ho0)) (fun k_ hk_ => ⟨(Nat.le_trans (below_size ab11_) hk_.2.1), (Kd.fresh' (Kd.N_lt (aN_ HO_166002.out)) k_ hk_.2.1), (Kd.fresh' (Kd.N_lt (aN_ HO_173002.out)) k_ hk_.2.1), (Kd.freshB (g := gb152) (o := .cells #[.int .i64 a0_0, .int .i64 a0_1, .slice (some ad159) l0_2.length c0_2] 25 (0, 0)) (aG_ BK152.out) k_ hk_.2.1), (Kd.freshB (g := gb153) (o := .cells #[.int .i64 0, .int .i64 0, .slice none 0 0] 25 (0, 0)) (aG_ BK153.out) k_ hk_.2.1), (Kd.freshB (g := gb165) (o := .cells #[.int .i64 t160, .int .i64 t161, .slice Ao25 t162.length co25] 25 (0, 0)) (aG_ BK165.out) k_ hk_.2.1), (Kd.freshB (g := gb172) (o := .cells #[.int .i64 t167, .int .i64 t168, .slice Ao33 t169.length co33] 25 (0, 0)) (aG_ BK172.out) k_ hk_.2.1)⟩)) (below_size ab11_)); have n3_ := Aside0.mk (blk_below (g := gb152) (o := .cells #[.int .i64 a0_0, .int .i64 a0_1, .slice (some ad159) l0_2.length c0_2] 25 (0, 0)) (aG_ BK152.out) hb); have n4_ := Aside0.mk (blk_below (g := gb153) (o := .cells #[.int .i64 0, .int .i64 0, .slice none 0 0] 25 (0, 0)) (aG_ BK153.out) hb); have n5_ := Aside0.mk (blk_below (g := gb165) (o := .cells #[.int .i64 t160, .int .i64 t161, .slice Ao25 t162.length co25] 25 (0, 0)) (aG_ BK165.out) hb); have n6_ := Aside0.mk (blk_below (g := gb172) (o := .cells #[.int .i64 t167, .int .i64 t168, .slice Ao33 t169.length co33] 25 (0, 0)) (aG_ BK172.out) hb); have n7_ := Aside0.mk (below_step ab11_ hb); clear HO_166002; clear HO_173002; clear BK152; clear BK153; clear BK165; clear BK172; clear HB; have HO_166002 := n0_; have HO_173002 := n1_; have HO180 := n2_; have BK152 := n3_; have BK153 := n4_; have BK165 := n5_; have BK172 := n6_; have HB := n7_; clear n0_ n1_ n2_ n3_ n4_ n5_ n6_ n7_; (try clear hb); (try clear hb2); (try clear hk); (try clear hi); (try clear ho0); have hcz61_0 : w60.cell? ⟨gb153, 0, none⟩ = some (.int .i64 0) := (blk_cell BK153.out 0).trans rfl; have hcz61_1 : w60.cell? ⟨gb153, 1, none⟩ = some (.int .i64 0) := (blk_cell BK153.out 1).trans rfl; have hcz61_2 : w60.cell? ⟨gb153, 2, none⟩ = some (.slice none 0 0) := (blk_cell BK153.out 2).trans rfl; have hfz61_0 := blk_frozen BK153.out 0; have hfz61_1 := blk_frozen BK153.out 1; have hfz61_2 := blk_frozen BK153.out 2; obtain ⟨Ao62, co62, eo62⟩ := Kd.N_slice HO180.out; subst eo62))
                refine bodyPost_ret (results_cell_row rfl _ _ gb153 25 #[.int .i64 t176, .int .i64 t177, .slice Ao62 t178.length co62] (0, 0) _ rfl (by (with_reducible repeat (first | refine blk_drewN ?_ _ | refine blk_drew ?_ | refine blk_alloc ?_ _)); refine blk_put (cs := #[.int .i64 t176, .int .i64 t177, .slice none 0 0]) ?_ 2 _ rfl; (with_reducible repeat (first | refine blk_drewN ?_ _ | refine blk_drew ?_ | refine blk_alloc ?_ _)); refine blk_put (cs := #[.int .i64 t176, .int .i64 0, .slice none 0 0]) ?_ 1 _ rfl; (with_reducible repeat (first | refine blk_drewN ?_ _ | refine blk_drew ?_ | refine blk_alloc ?_ _)); refine blk_put (cs := #[.int .i64 0, .int .i64 0, .slice none 0 0]) ?_ 0 _ rfl; (with_reducible repeat (first | refine blk_drewN ?_ _ | refine blk_drew ?_ | refine blk_alloc ?_ _)); exact BK153.out) Try.underlying25 rfl (by kernel_rfl)) rfl ?_
                exact ⟨_, ab20_, by (with_reducible repeat (first | apply Kd.N_alloc | apply Kd.N_drewN | apply Kd.N_drew)); exact Kd.N_mono (Kd.N_far (p := ⟨gb153, 2, none⟩) (Kd.N_far (p := ⟨gb153, 1, none⟩) (Kd.N_far (p := ⟨gb153, 0, none⟩) (Kd.N_mono HO180.out (fun k_ hk => (⟨hk, hk.2.2.2.2.1⟩ : _ ∧ k_ ≠ gb153))) (fun _ hk => hk.2) (.int .i64 t176)) (fun _ hk => hk.2) (.int .i64 t177)) (fun _ hk => hk.2) (.slice Ao62 t178.length co62)) (fun _ hk => hk.1.1), ab11_⟩
              · replace c49 := Bool.eq_false_iff.mpr c49
                subst c49
                have H1 : ((spec_l4Both.f a0_0 t160 t161 t162 t167 t168 t169).bind fun bt181 => (some (bt181.1, bt181.2.1, bt181.2.2))) = some (r1, r2, r3) := by rw [if_neg (show ¬ (false = true) by decide)] at H; exact H
                clear H
                have H := H1
                clear H1
                replace H := Option.bind_eq_some_iff.mp H
                obtain ⟨⟨t181, t182, t183⟩, A630, H⟩ := H
                replace H : (some (t181, t182, t183)) = some (r1, r2, r3) := H
                have A63 := Aside0.mk A630
                clear A630
                simp only [Option.some.injEq, Prod.mk.injEq] at H
                obtain ⟨rfl, rfl, rfl⟩ := H
                have hnb64 := NB152_153.out
                have hnc64 := NB153_152.out
                have hnb65 := NB152_165.out
                have hnc65 := NB165_152.out
                have hnb66 := NB152_172.out
                have hnc66 := NB172_152.out
                have hcz67_0 : wc.cell? ⟨gb152, 0, none⟩ = some (.int .i64 a0_0) := (blk_cell BK152.out 0).trans rfl
                have hcz67_1 : wc.cell? ⟨gb152, 1, none⟩ = some (.int .i64 a0_1) := (blk_cell BK152.out 1).trans rfl
                have hcz67_2 : wc.cell? ⟨gb152, 2, none⟩ = some (.slice (some ad159) l0_2.length c0_2) := (blk_cell BK152.out 2).trans rfl
                have hfz67_0 := blk_frozen BK152.out 0
                have hfz67_1 := blk_frozen BK152.out 1
                have hfz67_2 := blk_frozen BK152.out 2
                have hnb68 := NB165_153.out
                have hnc68 := NB153_165.out
                have hnb69 := NB165_172.out
                have hnc69 := NB172_165.out
                have hcz70_0 : wc.cell? ⟨gb165, 0, none⟩ = some (.int .i64 t160) := (blk_cell BK165.out 0).trans rfl
                have hcz70_1 : wc.cell? ⟨gb165, 1, none⟩ = some (.int .i64 t161) := (blk_cell BK165.out 1).trans rfl
                have hcz70_2 : wc.cell? ⟨gb165, 2, none⟩ = some (.slice Ao25 t162.length co25) := (blk_cell BK165.out 2).trans rfl
                have hfz70_0 := blk_frozen BK165.out 0
                have hfz70_1 := blk_frozen BK165.out 1
                have hfz70_2 := blk_frozen BK165.out 2
                have hnb71 := NB172_153.out
                have hnc71 := NB153_172.out
                have hcz72_0 : wc.cell? ⟨gb172, 0, none⟩ = some (.int .i64 t167) := (blk_cell BK172.out 0).trans rfl
                have hcz72_1 : wc.cell? ⟨gb172, 1, none⟩ = some (.int .i64 t168) := (blk_cell BK172.out 1).trans rfl
                have hcz72_2 : wc.cell? ⟨gb172, 2, none⟩ = some (.slice Ao33 t169.length co33) := (blk_cell BK172.out 2).trans rfl
                have hfz72_0 := blk_frozen BK172.out 0
                have hfz72_1 := blk_frozen BK172.out 1
                have hfz72_2 := blk_frozen BK172.out 2
                go_wp2_with (first | ((with_reducible refine gate_callee (f := 69) rfl ?_); refine goesL_ (some 41) rfl rfl Try.func69 (by kernel_rfl) rfl #[.int .i64 a0_0, .int .i64 t161, .int .i64 t168] rfl ab1_ ?_; (with_reducible refine (spec_Apply.calls kj14 a0_0 t161 t168 t173 t174 _ A47.out).mono ?_); rintro e w' ⟨rfl, ⟨nd, rfl⟩⟩; refine ⟨_, rfl, ?_⟩; (try (rw [drewN_self wc]; generalize hq_ : World.drewN wc _ = wc; have n0_ : Aside0 (Kd.N k25 25 wc w.heap.size (fun k_ => (w.heap.size ≤ k_) ∧ some k_ ≠ (.slice Ao33 t169.length co33 : Value).ownBlock ∧ k_ ≠ gb152 ∧ k_ ≠ gb153 ∧ k_ ≠ gb165 ∧ k_ ≠ gb172) (.slice Ao25 t162.length co25) t162) := ⟨by rw [← hq_]; exact (aN_ HO_166002.out)⟩; have n1_ : Aside0 (Kd.N k25 25 wc w.heap.size (fun k_ => (w.heap.size ≤ k_) ∧ some k_ ≠ (.slice Ao25 t162.length co25 : Value).ownBlock ∧ k_ ≠ gb152 ∧ k_ ≠ gb153 ∧ k_ ≠ gb165 ∧ k_ ≠ gb172) (.slice Ao33 t169.length co33) t169) := ⟨by rw [← hq_]; exact (aN_ HO_173002.out)⟩; have n2_ : Aside0 (wc.heap[gb152]? = some (.cells #[.int .i64 a0_0, .int .i64 a0_1, .slice (some ad159) l0_2.length c0_2] 25 (0, 0))) := ⟨by rw [← hq_]; exact (aG_ BK152.out)⟩; have n3_ : Aside0 (wc.heap[gb153]? = some (.cells #[.int .i64 0, .int .i64 0, .slice none 0 0] 25 (0, 0))) := ⟨by rw [← hq_]; exact (aG_ BK153.out)⟩; have n4_ : Aside0 (wc.heap[gb165]? = some (.cells #[.int .i64 t160, .int .i64 t161, .slice Ao25 t162.length co25] 25 (0, 0))) := ⟨by rw [← hq_]; exact (aG_ BK165.out)⟩; have n5_ : Aside0 (wc.heap[gb172]? = some (.cells #[.int .i64 t167, .int .i64 t168, .slice Ao33 t169.length co33] 25 (0, 0))) := ⟨by rw [← hq_]; exact (aG_ BK172.out)⟩; have n6_ : Aside0 (Below w.heap.size w wc) := ⟨by rw [← hq_]; exact ab11_⟩; clear HO_166002 HO_173002 BK152 BK153 BK165 BK172 HB hq_; have HO_166002 := n0_; have HO_173002 := n1_; have BK152 := n2_; have BK153 := n3_; have BK165 := n4_; have BK172 := n5_; have HB := n6_; clear n0_ n1_ n2_ n3_ n4_ n5_ n6_; have hczG9_0 : wc.cell? ⟨gb152, 0, none⟩ = some (.int .i64 a0_0) := (blk_cell BK152.out 0).trans rfl; have hfzG9_0 := blk_frozen BK152.out 0; have hczG9_1 : wc.cell? ⟨gb152, 1, none⟩ = some (.int .i64 a0_1) := (blk_cell BK152.out 1).trans rfl; have hfzG9_1 := blk_frozen BK152.out 1; have hczG9_2 : wc.cell? ⟨gb152, 2, none⟩ = some (.slice (some ad159) l0_2.length c0_2) := (blk_cell BK152.out 2).trans rfl; have hfzG9_2 := blk_frozen BK152.out 2; have hczG10_0 : wc.cell? ⟨gb153, 0, none⟩ = some (.int .i64 0) := (blk_cell BK153.out 0).trans rfl; have hfzG10_0 := blk_frozen BK153.out 0; have hczG10_1 : wc.cell? ⟨gb153, 1, none⟩ = some (.int .i64 0) := (blk_cell BK153.out 1).trans rfl; have hfzG10_1 := blk_frozen BK153.out 1; have hczG10_2 : wc.cell? ⟨gb153, 2, none⟩ = some (.slice none 0 0) := (blk_cell BK153.out 2).trans rfl; have hfzG10_2 := blk_frozen BK153.out 2; have hczG11_0 : wc.cell? ⟨gb165, 0, none⟩ = some (.int .i64 t160) := (blk_cell BK165.out 0).trans rfl; have hfzG11_0 := blk_frozen BK165.out 0; have hczG11_1 : wc.cell? ⟨gb165, 1, none⟩ = some (.int .i64 t161) := (blk_cell BK165.out 1).trans rfl; have hfzG11_1 := blk_frozen BK165.out 1; have hczG11_2 : wc.cell? ⟨gb165, 2, none⟩ = some (.slice Ao25 t162.length co25) := (blk_cell BK165.out 2).trans rfl; have hfzG11_2 := blk_frozen BK165.out 2; have hczG12_0 : wc.cell? ⟨gb172, 0, none⟩ = some (.int .i64 t167) := (blk_cell BK172.out 0).trans rfl; have hfzG12_0 := blk_frozen BK172.out 0; have hczG12_1 : wc.cell? ⟨gb172, 1, none⟩ = some (.int .i64 t168) := (blk_cell BK172.out 1).trans rfl; have hfzG12_1 := blk_frozen BK172.out 1; have hczG12_2 : wc.cell? ⟨gb172, 2, none⟩ = some (.slice Ao33 t169.length co33) := (blk_cell BK172.out 2).trans rfl; have hfzG12_2 := blk_frozen BK172.out 2))) | ((with_reducible refine gate_callee (f := 66) rfl ?_); refine goesL_ (some 45) rfl rfl Try.func66 (by kernel_rfl) rfl #[.int .i64 t173, .int .i64 0, .int .i64 99999] rfl ab1_ ?_; (with_reducible refine (spec_l6In.calls t173 0 99999 false _ A48.out).mono ?_); rintro e w' ⟨rfl, ⟨nd, rfl⟩⟩; refine ⟨_, rfl, ?_⟩; (try (rw [drewN_self wc]; generalize hq_ : World.drewN wc _ = wc; have n0_ : Aside0 (Kd.N k25 25 wc w.heap.size (fun k_ => (w.heap.size ≤ k_) ∧ some k_ ≠ (.slice Ao33 t169.length co33 : Value).ownBlock ∧ k_ ≠ gb152 ∧ k_ ≠ gb153 ∧ k_ ≠ gb165 ∧ k_ ≠ gb172) (.slice Ao25 t162.length co25) t162) := ⟨by rw [← hq_]; exact (aN_ HO_166002.out)⟩; have n1_ : Aside0 (Kd.N k25 25 wc w.heap.size (fun k_ => (w.heap.size ≤ k_) ∧ some k_ ≠ (.slice Ao25 t162.length co25 : Value).ownBlock ∧ k_ ≠ gb152 ∧ k_ ≠ gb153 ∧ k_ ≠ gb165 ∧ k_ ≠ gb172) (.slice Ao33 t169.length co33) t169) := ⟨by rw [← hq_]; exact (aN_ HO_173002.out)⟩; have n2_ : Aside0 (wc.heap[gb152]? = some (.cells #[.int .i64 a0_0, .int .i64 a0_1, .slice (some ad159) l0_2.length c0_2] 25 (0, 0))) := ⟨by rw [← hq_]; exact (aG_ BK152.out)⟩; have n3_ : Aside0 (wc.heap[gb153]? = some (.cells #[.int .i64 0, .int .i64 0, .slice none 0 0] 25 (0, 0))) := ⟨by rw [← hq_]; exact (aG_ BK153.out)⟩; have n4_ : Aside0 (wc.heap[gb165]? = some (.cells #[.int .i64 t160, .int .i64 t161, .slice Ao25 t162.length co25] 25 (0, 0))) := ⟨by rw [← hq_]; exact (aG_ BK165.out)⟩; have n5_ : Aside0 (wc.heap[gb172]? = some (.cells #[.int .i64 t167, .int .i64 t168, .slice Ao33 t169.length co33] 25 (0, 0))) := ⟨by rw [← hq_]; exact (aG_ BK172.out)⟩; have n6_ : Aside0 (Below w.heap.size w wc) := ⟨by rw [← hq_]; exact ab11_⟩; clear HO_166002 HO_173002 BK152 BK153 BK165 BK172 HB hq_; have HO_166002 := n0_; have HO_173002 := n1_; have BK152 := n2_; have BK153 := n3_; have BK165 := n4_; have BK172 := n5_; have HB := n6_; clear n0_ n1_ n2_ n3_ n4_ n5_ n6_; have hczG13_0 : wc.cell? ⟨gb152, 0, none⟩ = some (.int .i64 a0_0) := (blk_cell BK152.out 0).trans rfl; have hfzG13_0 := blk_frozen BK152.out 0; have hczG13_1 : wc.cell? ⟨gb152, 1, none⟩ = some (.int .i64 a0_1) := (blk_cell BK152.out 1).trans rfl; have hfzG13_1 := blk_frozen BK152.out 1; have hczG13_2 : wc.cell? ⟨gb152, 2, none⟩ = some (.slice (some ad159) l0_2.length c0_2) := (blk_cell BK152.out 2).trans rfl; have hfzG13_2 := blk_frozen BK152.out 2; have hczG14_0 : wc.cell? ⟨gb153, 0, none⟩ = some (.int .i64 0) := (blk_cell BK153.out 0).trans rfl; have hfzG14_0 := blk_frozen BK153.out 0; have hczG14_1 : wc.cell? ⟨gb153, 1, none⟩ = some (.int .i64 0) := (blk_cell BK153.out 1).trans rfl; have hfzG14_1 := blk_frozen BK153.out 1; have hczG14_2 : wc.cell? ⟨gb153, 2, none⟩ = some (.slice none 0 0) := (blk_cell BK153.out 2).trans rfl; have hfzG14_2 := blk_frozen BK153.out 2; have hczG15_0 : wc.cell? ⟨gb165, 0, none⟩ = some (.int .i64 t160) := (blk_cell BK165.out 0).trans rfl; have hfzG15_0 := blk_frozen BK165.out 0; have hczG15_1 : wc.cell? ⟨gb165, 1, none⟩ = some (.int .i64 t161) := (blk_cell BK165.out 1).trans rfl; have hfzG15_1 := blk_frozen BK165.out 1; have hczG15_2 : wc.cell? ⟨gb165, 2, none⟩ = some (.slice Ao25 t162.length co25) := (blk_cell BK165.out 2).trans rfl; have hfzG15_2 := blk_frozen BK165.out 2; have hczG16_0 : wc.cell? ⟨gb172, 0, none⟩ = some (.int .i64 t167) := (blk_cell BK172.out 0).trans rfl; have hfzG16_0 := blk_frozen BK172.out 0; have hczG16_1 : wc.cell? ⟨gb172, 1, none⟩ = some (.int .i64 t168) := (blk_cell BK172.out 1).trans rfl; have hfzG16_1 := blk_frozen BK172.out 1; have hczG16_2 : wc.cell? ⟨gb172, 2, none⟩ = some (.slice Ao33 t169.length co33) := (blk_cell BK172.out 2).trans rfl; have hfzG16_2 := blk_frozen BK172.out 2))) | ((with_reducible refine gate_callee (f := 41) rfl ?_); refine goesL_ (some 52) rfl rfl Try.func41 (by kernel_rfl) rfl #[.int .i64 a0_0, .agg #[.int .i64 t160, .int .i64 t161, .slice Ao25 t162.length co25], .agg #[.int .i64 t167, .int .i64 t168, .slice Ao33 t169.length co33]] rfl ab1_ ?_; (with_reducible refine (spec_l4Both.calls a0_0 t160 t161 (fun k_ => ((w.heap.size ≤ k_) ∧ (some k_ ≠ (.slice Ao33 t169.length co33 : Value).ownBlock ∧ (k_ ≠ gb152 ∧ (k_ ≠ gb153 ∧ (k_ ≠ gb165 ∧ k_ ≠ gb172)))))) _ _ t162 t167 t168 (fun k_ => ((w.heap.size ≤ k_) ∧ (some k_ ≠ (.slice Ao25 t162.length co25 : Value).ownBlock ∧ (k_ ≠ gb152 ∧ (k_ ≠ gb153 ∧ (k_ ≠ gb165 ∧ k_ ≠ gb172)))))) _ _ t169 t181 t182 t183 _ ?side1 ?side2 A63.out).mono ?_); (case side1 => exact Kd.N_V (HO_166002.out)); (case side2 => exact Kd.N_V (HO_173002.out)); rintro e w73 ⟨v184, rfl, ho0, hb⟩; refine ⟨_, rfl, ?_⟩; have n0_ := Aside0.mk (Kd.N_elder' (aN_ HO_166002.out) (by first | exact Kd.N_base ho0 | exact Kd.N_base (Kd.R_N ho0)) hb); have n1_ := Aside0.mk (Kd.N_elder' (aN_ HO_173002.out) (by first | exact Kd.N_base ho0 | exact Kd.N_base (Kd.R_N ho0)) hb); have n2_ := Aside0.mk (Kd.N_lower (Kd.N_mono (ok' := fun k_ => (w.heap.size ≤ k_) ∧ k_ ≠ gb152 ∧ k_ ≠ gb153 ∧ k_ ≠ gb165 ∧ k_ ≠ gb172) ho0 (fun k_ hk_ => ⟨Or.elim hk_ (fun hs_ => Or.elim hs_ (fun hs_ => hs_.1) (fun hs_ => hs_.1)) (fun hn_ => (Nat.le_trans (below_size ab11_) hn_)), Or.elim hk_ (fun hs_ => Or.elim hs_ (fun hs_ => hs_.2.2.1) (fun hs_ => hs_.2.2.1)) (fun hn_ => (Kd.freshB (g := gb152) (o := .cells #[.int .i64 a0_0, .int .i64 a0_1, .slice (some ad159) l0_2.length c0_2] 25 (0, 0)) (aG_ BK152.out) k_ hn_)), Or.elim hk_ (fun hs_ => Or.elim hs_ (fun hs_ => hs_.2.2.2.1) (fun hs_ => hs_.2.2.2.1)) (fun hn_ => (Kd.freshB (g := gb153) (o := .cells #[.int .i64 0, .int .i64 0, .slice none 0 0] 25 (0, 0)) (aG_ BK153.out) k_ hn_)), Or.elim hk_ (fun hs_ => Or.elim hs_ (fun hs_ => hs_.2.2.2.2.1) (fun hs_ => hs_.2.2.2.2.1)) (fun hn_ => (Kd.freshB (g := gb165) (o := .cells #[.int .i64 t160, .int .i64 t161, .slice Ao25 t162.length co25] 25 (0, 0)) (aG_ BK165.out) k_ hn_)), Or.elim hk_ (fun hs_ => Or.elim hs_ (fun hs_ => hs_.2.2.2.2.2) (fun hs_ => hs_.2.2.2.2.2)) (fun hn_ => (Kd.freshB (g := gb172) (o := .cells #[.int .i64 t167, .int .i64 t168, .slice Ao33 t169.length co33] 25 (0, 0)) (aG_ BK172.out) k_ hn_))⟩)) (below_size ab11_)); have n3_ := Aside0.mk (blk_below (g := gb152) (o := .cells #[.int .i64 a0_0, .int .i64 a0_1, .slice (some ad159) l0_2.length c0_2] 25 (0, 0)) (aG_ BK152.out) hb); have n4_ := Aside0.mk (blk_below (g := gb153) (o := .cells #[.int .i64 0, .int .i64 0, .slice none 0 0] 25 (0, 0)) (aG_ BK153.out) hb); have n5_ := Aside0.mk (blk_below (g := gb165) (o := .cells #[.int .i64 t160, .int .i64 t161, .slice Ao25 t162.length co25] 25 (0, 0)) (aG_ BK165.out) hb); have n6_ := Aside0.mk (blk_below (g := gb172) (o := .cells #[.int .i64 t167, .int .i64 t168, .slice Ao33 t169.length co33] 25 (0, 0)) (aG_ BK172.out) hb); have n7_ := Aside0.mk (below_step ab11_ hb); clear HO_166002; clear HO_173002; clear BK152; clear BK153; clear BK165; clear BK172; clear HB; have HO_166002 := n0_; have HO_173002 := n1_; have HO185 := n2_; have BK152 := n3_; have BK153 := n4_; have BK165 := n5_; have BK172 := n6_; have HB := n7_; clear n0_ n1_ n2_ n3_ n4_ n5_ n6_ n7_; (try clear hb); (try clear hb2); (try clear hk); (try clear hi); (try clear ho0); have hcz74_0 : w73.cell? ⟨gb153, 0, none⟩ = some (.int .i64 0) := (blk_cell BK153.out 0).trans rfl; have hcz74_1 : w73.cell? ⟨gb153, 1, none⟩ = some (.int .i64 0) := (blk_cell BK153.out 1).trans rfl; have hcz74_2 : w73.cell? ⟨gb153, 2, none⟩ = some (.slice none 0 0) := (blk_cell BK153.out 2).trans rfl; have hfz74_0 := blk_frozen BK153.out 0; have hfz74_1 := blk_frozen BK153.out 1; have hfz74_2 := blk_frozen BK153.out 2; obtain ⟨Ao75, co75, eo75⟩ := Kd.N_slice HO185.out; subst eo75))
                refine bodyPost_ret (results_cell_row rfl _ _ gb153 25 #[.int .i64 t181, .int .i64 t182, .slice Ao75 t183.length co75] (0, 0) _ rfl (by (with_reducible repeat (first | refine blk_drewN ?_ _ | refine blk_drew ?_ | refine blk_alloc ?_ _)); refine blk_put (cs := #[.int .i64 t181, .int .i64 t182, .slice none 0 0]) ?_ 2 _ rfl; (with_reducible repeat (first | refine blk_drewN ?_ _ | refine blk_drew ?_ | refine blk_alloc ?_ _)); refine blk_put (cs := #[.int .i64 t181, .int .i64 0, .slice none 0 0]) ?_ 1 _ rfl; (with_reducible repeat (first | refine blk_drewN ?_ _ | refine blk_drew ?_ | refine blk_alloc ?_ _)); refine blk_put (cs := #[.int .i64 0, .int .i64 0, .slice none 0 0]) ?_ 0 _ rfl; (with_reducible repeat (first | refine blk_drewN ?_ _ | refine blk_drew ?_ | refine blk_alloc ?_ _)); exact BK153.out) Try.underlying25 rfl (by kernel_rfl)) rfl ?_
                exact ⟨_, ab20_, by (with_reducible repeat (first | apply Kd.N_alloc | apply Kd.N_drewN | apply Kd.N_drew)); exact Kd.N_mono (Kd.N_far (p := ⟨gb153, 2, none⟩) (Kd.N_far (p := ⟨gb153, 1, none⟩) (Kd.N_far (p := ⟨gb153, 0, none⟩) (Kd.N_mono HO185.out (fun k_ hk => (⟨hk, hk.2.2.1⟩ : _ ∧ k_ ≠ gb153))) (fun _ hk => hk.2) (.int .i64 t181)) (fun _ hk => hk.2) (.int .i64 t182)) (fun _ hk => hk.2) (.slice Ao75 t183.length co75)) (fun _ hk => hk.1.1), ab11_⟩
            · replace c46 := Bool.eq_false_iff.mpr c46
              subst c46
              have H1 : ((spec_l4Both.f a0_0 t160 t161 t162 t167 t168 t169).bind fun bt186 => (some (bt186.1, bt186.2.1, bt186.2.2))) = some (r1, r2, r3) := by rw [if_neg (show ¬ (false = true) by decide)] at H; exact H
              clear H
              have H := H1
              clear H1
              replace H := Option.bind_eq_some_iff.mp H
              obtain ⟨⟨t186, t187, t188⟩, A760, H⟩ := H
              replace H : (some (t186, t187, t188)) = some (r1, r2, r3) := H
              have A76 := Aside0.mk A760
              clear A760
              simp only [Option.some.injEq, Prod.mk.injEq] at H
              obtain ⟨rfl, rfl, rfl⟩ := H
              have hnb77 := NB152_153.out
              have hnc77 := NB153_152.out
              have hnb78 := NB152_165.out
              have hnc78 := NB165_152.out
              have hnb79 := NB152_172.out
              have hnc79 := NB172_152.out
              have hcz80_0 : wc.cell? ⟨gb152, 0, none⟩ = some (.int .i64 a0_0) := (blk_cell BK152.out 0).trans rfl
              have hcz80_1 : wc.cell? ⟨gb152, 1, none⟩ = some (.int .i64 a0_1) := (blk_cell BK152.out 1).trans rfl
              have hcz80_2 : wc.cell? ⟨gb152, 2, none⟩ = some (.slice (some ad159) l0_2.length c0_2) := (blk_cell BK152.out 2).trans rfl
              have hfz80_0 := blk_frozen BK152.out 0
              have hfz80_1 := blk_frozen BK152.out 1
              have hfz80_2 := blk_frozen BK152.out 2
              have hnb81 := NB165_153.out
              have hnc81 := NB153_165.out
              have hnb82 := NB165_172.out
              have hnc82 := NB172_165.out
              have hcz83_0 : wc.cell? ⟨gb165, 0, none⟩ = some (.int .i64 t160) := (blk_cell BK165.out 0).trans rfl
              have hcz83_1 : wc.cell? ⟨gb165, 1, none⟩ = some (.int .i64 t161) := (blk_cell BK165.out 1).trans rfl
              have hcz83_2 : wc.cell? ⟨gb165, 2, none⟩ = some (.slice Ao25 t162.length co25) := (blk_cell BK165.out 2).trans rfl
              have hfz83_0 := blk_frozen BK165.out 0
              have hfz83_1 := blk_frozen BK165.out 1
              have hfz83_2 := blk_frozen BK165.out 2
              have hnb84 := NB172_153.out
              have hnc84 := NB153_172.out
              have hcz85_0 : wc.cell? ⟨gb172, 0, none⟩ = some (.int .i64 t167) := (blk_cell BK172.out 0).trans rfl
              have hcz85_1 : wc.cell? ⟨gb172, 1, none⟩ = some (.int .i64 t168) := (blk_cell BK172.out 1).trans rfl
              have hcz85_2 : wc.cell? ⟨gb172, 2, none⟩ = some (.slice Ao33 t169.length co33) := (blk_cell BK172.out 2).trans rfl
              have hfz85_0 := blk_frozen BK172.out 0
              have hfz85_1 := blk_frozen BK172.out 1
              have hfz85_2 := blk_frozen BK172.out 2
              go_wp2_with (first | ((with_reducible refine gate_callee (f := 41) rfl ?_); refine goesL_ (some 52) rfl rfl Try.func41 (by kernel_rfl) rfl #[.int .i64 a0_0, .agg #[.int .i64 t160, .int .i64 t161, .slice Ao25 t162.length co25], .agg #[.int .i64 t167, .int .i64 t168, .slice Ao33 t169.length co33]] rfl ab1_ ?_; (with_reducible refine (spec_l4Both.calls a0_0 t160 t161 (fun k_ => ((w.heap.size ≤ k_) ∧ (some k_ ≠ (.slice Ao33 t169.length co33 : Value).ownBlock ∧ (k_ ≠ gb152 ∧ (k_ ≠ gb153 ∧ (k_ ≠ gb165 ∧ k_ ≠ gb172)))))) _ _ t162 t167 t168 (fun k_ => ((w.heap.size ≤ k_) ∧ (some k_ ≠ (.slice Ao25 t162.length co25 : Value).ownBlock ∧ (k_ ≠ gb152 ∧ (k_ ≠ gb153 ∧ (k_ ≠ gb165 ∧ k_ ≠ gb172)))))) _ _ t169 t186 t187 t188 _ ?side1 ?side2 A76.out).mono ?_); (case side1 => exact Kd.N_V (HO_166002.out)); (case side2 => exact Kd.N_V (HO_173002.out)); rintro e w86 ⟨v189, rfl, ho0, hb⟩; refine ⟨_, rfl, ?_⟩; have n0_ := Aside0.mk (Kd.N_elder' (aN_ HO_166002.out) (by first | exact Kd.N_base ho0 | exact Kd.N_base (Kd.R_N ho0)) hb); have n1_ := Aside0.mk (Kd.N_elder' (aN_ HO_173002.out) (by first | exact Kd.N_base ho0 | exact Kd.N_base (Kd.R_N ho0)) hb); have n2_ := Aside0.mk (Kd.N_lower (Kd.N_mono (ok' := fun k_ => (w.heap.size ≤ k_) ∧ k_ ≠ gb152 ∧ k_ ≠ gb153 ∧ k_ ≠ gb165 ∧ k_ ≠ gb172) ho0 (fun k_ hk_ => ⟨Or.elim hk_ (fun hs_ => Or.elim hs_ (fun hs_ => hs_.1) (fun hs_ => hs_.1)) (fun hn_ => (Nat.le_trans (below_size ab11_) hn_)), Or.elim hk_ (fun hs_ => Or.elim hs_ (fun hs_ => hs_.2.2.1) (fun hs_ => hs_.2.2.1)) (fun hn_ => (Kd.freshB (g := gb152) (o := .cells #[.int .i64 a0_0, .int .i64 a0_1, .slice (some ad159) l0_2.length c0_2] 25 (0, 0)) (aG_ BK152.out) k_ hn_)), Or.elim hk_ (fun hs_ => Or.elim hs_ (fun hs_ => hs_.2.2.2.1) (fun hs_ => hs_.2.2.2.1)) (fun hn_ => (Kd.freshB (g := gb153) (o := .cells #[.int .i64 0, .int .i64 0, .slice none 0 0] 25 (0, 0)) (aG_ BK153.out) k_ hn_)), Or.elim hk_ (fun hs_ => Or.elim hs_ (fun hs_ => hs_.2.2.2.2.1) (fun hs_ => hs_.2.2.2.2.1)) (fun hn_ => (Kd.freshB (g := gb165) (o := .cells #[.int .i64 t160, .int .i64 t161, .slice Ao25 t162.length co25] 25 (0, 0)) (aG_ BK165.out) k_ hn_)), Or.elim hk_ (fun hs_ => Or.elim hs_ (fun hs_ => hs_.2.2.2.2.2) (fun hs_ => hs_.2.2.2.2.2)) (fun hn_ => (Kd.freshB (g := gb172) (o := .cells #[.int .i64 t167, .int .i64 t168, .slice Ao33 t169.length co33] 25 (0, 0)) (aG_ BK172.out) k_ hn_))⟩)) (below_size ab11_)); have n3_ := Aside0.mk (blk_below (g := gb152) (o := .cells #[.int .i64 a0_0, .int .i64 a0_1, .slice (some ad159) l0_2.length c0_2] 25 (0, 0)) (aG_ BK152.out) hb); have n4_ := Aside0.mk (blk_below (g := gb153) (o := .cells #[.int .i64 0, .int .i64 0, .slice none 0 0] 25 (0, 0)) (aG_ BK153.out) hb); have n5_ := Aside0.mk (blk_below (g := gb165) (o := .cells #[.int .i64 t160, .int .i64 t161, .slice Ao25 t162.length co25] 25 (0, 0)) (aG_ BK165.out) hb); have n6_ := Aside0.mk (blk_below (g := gb172) (o := .cells #[.int .i64 t167, .int .i64 t168, .slice Ao33 t169.length co33] 25 (0, 0)) (aG_ BK172.out) hb); have n7_ := Aside0.mk (below_step ab11_ hb); clear HO_166002; clear HO_173002; clear BK152; clear BK153; clear BK165; clear BK172; clear HB; have HO_166002 := n0_; have HO_173002 := n1_; have HO190 := n2_; have BK152 := n3_; have BK153 := n4_; have BK165 := n5_; have BK172 := n6_; have HB := n7_; clear n0_ n1_ n2_ n3_ n4_ n5_ n6_ n7_; (try clear hb); (try clear hb2); (try clear hk); (try clear hi); (try clear ho0); have hcz87_0 : w86.cell? ⟨gb153, 0, none⟩ = some (.int .i64 0) := (blk_cell BK153.out 0).trans rfl; have hcz87_1 : w86.cell? ⟨gb153, 1, none⟩ = some (.int .i64 0) := (blk_cell BK153.out 1).trans rfl; have hcz87_2 : w86.cell? ⟨gb153, 2, none⟩ = some (.slice none 0 0) := (blk_cell BK153.out 2).trans rfl; have hfz87_0 := blk_frozen BK153.out 0; have hfz87_1 := blk_frozen BK153.out 1; have hfz87_2 := blk_frozen BK153.out 2; obtain ⟨Ao88, co88, eo88⟩ := Kd.N_slice HO190.out; subst eo88))
              refine bodyPost_ret (results_cell_row rfl _ _ gb153 25 #[.int .i64 t186, .int .i64 t187, .slice Ao88 t188.length co88] (0, 0) _ rfl (by (with_reducible repeat (first | refine blk_drewN ?_ _ | refine blk_drew ?_ | refine blk_alloc ?_ _)); refine blk_put (cs := #[.int .i64 t186, .int .i64 t187, .slice none 0 0]) ?_ 2 _ rfl; (with_reducible repeat (first | refine blk_drewN ?_ _ | refine blk_drew ?_ | refine blk_alloc ?_ _)); refine blk_put (cs := #[.int .i64 t186, .int .i64 0, .slice none 0 0]) ?_ 1 _ rfl; (with_reducible repeat (first | refine blk_drewN ?_ _ | refine blk_drew ?_ | refine blk_alloc ?_ _)); refine blk_put (cs := #[.int .i64 0, .int .i64 0, .slice none 0 0]) ?_ 0 _ rfl; (with_reducible repeat (first | refine blk_drewN ?_ _ | refine blk_drew ?_ | refine blk_alloc ?_ _)); exact BK153.out) Try.underlying25 rfl (by kernel_rfl)) rfl ?_
              exact ⟨_, ab20_, by (with_reducible repeat (first | apply Kd.N_alloc | apply Kd.N_drewN | apply Kd.N_drew)); exact Kd.N_mono (Kd.N_far (p := ⟨gb153, 2, none⟩) (Kd.N_far (p := ⟨gb153, 1, none⟩) (Kd.N_far (p := ⟨gb153, 0, none⟩) (Kd.N_mono HO190.out (fun k_ hk => (⟨hk, hk.2.2.1⟩ : _ ∧ k_ ≠ gb153))) (fun _ hk => hk.2) (.int .i64 t186)) (fun _ hk => hk.2) (.int .i64 t187)) (fun _ hk => hk.2) (.slice Ao88 t188.length co88)) (fun _ hk => hk.1.1), ab11_⟩
      · rw [if_neg c13] at H
        exact absurd H (by simp)
    · rw [if_neg c11] at H
      exact absurd H (by simp)

end Go.Proofs.Ytajifknepdikbaa.PA
